/- Functions of the program as plain Lean functions, each with a proof that the machine's call comes to it; written for this seat's claims by a program of mine. -/
import Derived.Test.YthdeemkhbajfgaaPAlux0
import Derived.Test.YthdeemkhbajfgaaPAlux2
import Derived.Test.YthdeemkhbajfgaaPAlux4
import Derived.Test.YthdeemkhbajfgaaPAlux6
import Derived.Test.YthdeemkhbajfgaaMyAluSbc
namespace Go.Proofs.Ythdeemkhbajfgaa.PAlu
open Go.RowKit Go.Proofs.YthdeemkhbajfgaaW.PrintWords Go.Proofs.YthdeemkhbajfgaaW.PrintLast Go.Proofs.YthdeemkhbajfgaaW.PrintMore
attribute [local go_sem] max2_int min2_int max_two min_two max_three min_three max_four min_four   -- for this text's walks alone
attribute [local go_sem] Go.Proofs.Ythdeemkhbajfgaa.Cell2.cell_set_off Go.Proofs.Ythdeemkhbajfgaa.Cell2.set_drewN Go.Proofs.Ythdeemkhbajfgaa.Cell2.not_beq_bool
set_option linter.unusedVariables false
set_option linter.unusedSimpArgs false

/-! ### laws_FnCompare: function 13 -/
def laws_FnCompare.f (k : Nat) (l0 : List Int) : Option (Bool) := (laws_big.f l0).bind fun t254 => (if t254 = true then (some true) else ((spec_DrawCmp.f k l0).bind fun bt255 => ((impl_Cmp.f bt255.1 bt255.2.1 bt255.2.2.1 bt255.2.2.2.1 bt255.2.2.2.2.1 bt255.2.2.2.2.2.1 bt255.2.2.2.2.2.2.1 bt255.2.2.2.2.2.2.2).bind fun bt264 => ((impl_Sbc.f bt255.1 bt255.2.1 false false false false false true).bind fun bt271 => ((impl_BitTest.f bt255.1 bt255.2.1 bt255.2.2.1 bt255.2.2.2.1 bt255.2.2.2.2.1 bt255.2.2.2.2.2.1 bt255.2.2.2.2.2.2.1 bt255.2.2.2.2.2.2.2).bind fun bt279 => ((impl_NZ.f bt271.1 bt255.2.2.1 bt255.2.2.2.1 bt255.2.2.2.2.1 bt255.2.2.2.2.2.1 bt255.2.2.2.2.2.2.1 bt255.2.2.2.2.2.2.2).bind fun bt285 => (if (bt264.1 == bt271.2.1) = true then (if (bt264.2.2.2.2.1 == bt271.2.2.2.2.2.1) = true then (if (bt264.2.2.2.2.2 == bt271.2.2.2.2.2.2) = true then (if (bt285.1 == bt264.1) = true then (if (bt285.2.2.2.2.1 == bt264.2.2.2.2.1) = true then (if (bt279.2.2.2.2.1 == ((Go.bits .and .u8 bt255.1 bt255.2.1) == 0)) = true then (if (bt279.2.2.2.2.2 == bt255.2.2.2.2.2.2.2) = true then (some (bt264.2.2.2.1 == bt255.2.2.2.2.2.1)) else (some false)) else (some false)) else (some false)) else (some false)) else (some false)) else (some false)) else (some false))))))))
theorem laws_FnCompare.mono : ∀ a0 k, LeO (laws_FnCompare.f k a0) (laws_FnCompare.f (k + 1) a0) := by
  intro a0 k
  unfold laws_FnCompare.f
  repeat' first
      | (with_reducible exact spec_DrawCmp.mono _ _)
      | (with_reducible exact LeO.refl _)
      | (with_reducible exact LeO.none _)
      | (with_reducible refine LeO.ite ?_ ?_)
      | (with_reducible refine LeO.bind ?_ (fun _ => ?_))
      | exact spec_DrawCmp.mono _ _
      | exact LeO.none _
      | refine LeO.ite ?_ ?_
      | refine LeO.bind ?_ (fun _ => ?_)
def laws_FnCompare.T6 : Bool × List (List Nat × List Nat) := (true, [([], []), ([], []), ([], []), ([0, 1, 2], [0, 1, 2]), ([], []), ([], []), ([4, 5, 3], [4, 5]), ([], []), ([], []), ([7, 3, 6, 0, 1, 2, 3, 7, 8], [3, 7]), ([8, 6, 9, 0, 1, 2, 3, 4, 5, 6, 7, 8, 9], [6, 8])])
def laws_FnCompare.B6 : List Nat := [0, 0, 0, 7, 0, 0, 63, 0, 0, 511, 1023]
theorem laws_FnCompare.tab6 : rtab .any (opsOf Try.f13 6) = laws_FnCompare.T6 := by kernel_rfl
theorem laws_FnCompare.bits6 : waitsOk laws_FnCompare.T6.2 laws_FnCompare.B6 = true := by kernel_rfl
set_option maxHeartbeats 8000000 in
set_option maxRecDepth 100000 in
theorem laws_FnCompare.calls (k : Nat) (A0 : Option Addr) (c0 : Nat) (l0 : List Int) (r : Bool) (hrt_ : Aside0 (r = true)) (w : World) (hr0 : Kd.C (Kd.int .u8) w A0 l0.length l0) (hc0 : l0.length ≤ c0) (h : laws_FnCompare.f k l0 = some r) :
    Calls Try.prog 13 #[.slice A0 l0.length c0] w fun e w' => e = .returned (.bool r) ∧ Below w.heap.size w w' := by
  have hu40 := Try.underlying40
  have HR0 := Aside0.mk hr0
  have HC0 := Aside0.mk hc0
  clear hr0 hc0
  have HB := Aside0.mk (Below.refl w.heap.size w)
  have H : ((laws_big.f l0).bind fun t254 => (if t254 = true then (some true) else ((spec_DrawCmp.f k l0).bind fun bt255 => ((impl_Cmp.f bt255.1 bt255.2.1 bt255.2.2.1 bt255.2.2.2.1 bt255.2.2.2.2.1 bt255.2.2.2.2.2.1 bt255.2.2.2.2.2.2.1 bt255.2.2.2.2.2.2.2).bind fun bt264 => ((impl_Sbc.f bt255.1 bt255.2.1 false false false false false true).bind fun bt271 => ((impl_BitTest.f bt255.1 bt255.2.1 bt255.2.2.1 bt255.2.2.2.1 bt255.2.2.2.2.1 bt255.2.2.2.2.2.1 bt255.2.2.2.2.2.2.1 bt255.2.2.2.2.2.2.2).bind fun bt279 => ((impl_NZ.f bt271.1 bt255.2.2.1 bt255.2.2.2.1 bt255.2.2.2.2.1 bt255.2.2.2.2.2.1 bt255.2.2.2.2.2.2.1 bt255.2.2.2.2.2.2.2).bind fun bt285 => (if (bt264.1 == bt271.2.1) = true then (if (bt264.2.2.2.2.1 == bt271.2.2.2.2.2.1) = true then (if (bt264.2.2.2.2.2 == bt271.2.2.2.2.2.2) = true then (if (bt285.1 == bt264.1) = true then (if (bt285.2.2.2.2.1 == bt264.2.2.2.2.1) = true then (if (bt279.2.2.2.2.1 == ((Go.bits .and .u8 bt255.1 bt255.2.1) == 0)) = true then (if (bt279.2.2.2.2.2 == bt255.2.2.2.2.2.2.2) = true then (some (bt264.2.2.2.1 == bt255.2.2.2.2.2.1)) else (some false)) else (some false)) else (some false)) else (some false)) else (some false)) else (some false)) else (some false))))))))) = some r := h
  clear h
  replace H := Option.bind_eq_some_iff.mp H
  obtain ⟨t254, A20, H⟩ := H
  replace H : (if t254 = true then (some true) else ((spec_DrawCmp.f k l0).bind fun bt255 => ((impl_Cmp.f bt255.1 bt255.2.1 bt255.2.2.1 bt255.2.2.2.1 bt255.2.2.2.2.1 bt255.2.2.2.2.2.1 bt255.2.2.2.2.2.2.1 bt255.2.2.2.2.2.2.2).bind fun bt264 => ((impl_Sbc.f bt255.1 bt255.2.1 false false false false false true).bind fun bt271 => ((impl_BitTest.f bt255.1 bt255.2.1 bt255.2.2.1 bt255.2.2.2.1 bt255.2.2.2.2.1 bt255.2.2.2.2.2.1 bt255.2.2.2.2.2.2.1 bt255.2.2.2.2.2.2.2).bind fun bt279 => ((impl_NZ.f bt271.1 bt255.2.2.1 bt255.2.2.2.1 bt255.2.2.2.2.1 bt255.2.2.2.2.2.1 bt255.2.2.2.2.2.2.1 bt255.2.2.2.2.2.2.2).bind fun bt285 => (if (bt264.1 == bt271.2.1) = true then (if (bt264.2.2.2.2.1 == bt271.2.2.2.2.2.1) = true then (if (bt264.2.2.2.2.2 == bt271.2.2.2.2.2.2) = true then (if (bt285.1 == bt264.1) = true then (if (bt285.2.2.2.2.1 == bt264.2.2.2.2.1) = true then (if (bt279.2.2.2.2.1 == ((Go.bits .and .u8 bt255.1 bt255.2.1) == 0)) = true then (if (bt279.2.2.2.2.2 == bt255.2.2.2.2.2.2.2) = true then (some (bt264.2.2.2.1 == bt255.2.2.2.2.2.1)) else (some false)) else (some false)) else (some false)) else (some false)) else (some false)) else (some false)) else (some false)))))))) = some r := H
  have A2 := Aside0.mk A20
  clear A20
  by_cases c3 : t254 = true
  · subst c3
    have H1 : (some true) = some r := by rw [if_pos rfl] at H; exact H
    clear H
    have H := H1
    clear H1
    obtain rfl := Option.some.inj H
    go_enter Try.func13, Try.ntmps13
    go_wp2_with (first | ((with_reducible refine gate_callee (f := 46) rfl ?_); refine goesL_ (some 12) rfl rfl Try.func46 (by kernel_rfl) rfl #[.slice A0 l0.length c0] rfl (by (try simp only [List.map_toArray, List.map_cons, List.map_nil]); first | done | rfl | (simp only [List.length_drop, List.length_take]; rfl)) ?_; (with_reducible refine (laws_big.calls _ _ l0 true _ ?side1 ?side2 A2.out).mono ?_); (case side1 => repeat (first | exact HR0.out | (with_reducible refine Kd.C_alloc ?_ _) | (with_reducible refine Kd.C_drewN ?_ _) | (with_reducible refine Kd.C_drew ?_))); (case side2 => exact HC0.out); rintro e w' ⟨rfl, ⟨nd, rfl⟩⟩; refine ⟨_, rfl, ?_⟩))
    go_ret
    exact ⟨by first | rfl | (simp [errW_none, errW_some] <;> rfl) | (simp [*, errW_none, errW_some] <;> rfl), by repeat (first | (with_reducible first | exact HB.out | apply below_alloc | apply pw_below_drewN | apply below_drew1) | exact HB.out)⟩
  · replace c3 := Bool.eq_false_iff.mpr c3
    subst c3
    have H1 : ((spec_DrawCmp.f k l0).bind fun bt255 => ((impl_Cmp.f bt255.1 bt255.2.1 bt255.2.2.1 bt255.2.2.2.1 bt255.2.2.2.2.1 bt255.2.2.2.2.2.1 bt255.2.2.2.2.2.2.1 bt255.2.2.2.2.2.2.2).bind fun bt264 => ((impl_Sbc.f bt255.1 bt255.2.1 false false false false false true).bind fun bt271 => ((impl_BitTest.f bt255.1 bt255.2.1 bt255.2.2.1 bt255.2.2.2.1 bt255.2.2.2.2.1 bt255.2.2.2.2.2.1 bt255.2.2.2.2.2.2.1 bt255.2.2.2.2.2.2.2).bind fun bt279 => ((impl_NZ.f bt271.1 bt255.2.2.1 bt255.2.2.2.1 bt255.2.2.2.2.1 bt255.2.2.2.2.2.1 bt255.2.2.2.2.2.2.1 bt255.2.2.2.2.2.2.2).bind fun bt285 => (if (bt264.1 == bt271.2.1) = true then (if (bt264.2.2.2.2.1 == bt271.2.2.2.2.2.1) = true then (if (bt264.2.2.2.2.2 == bt271.2.2.2.2.2.2) = true then (if (bt285.1 == bt264.1) = true then (if (bt285.2.2.2.2.1 == bt264.2.2.2.2.1) = true then (if (bt279.2.2.2.2.1 == ((Go.bits .and .u8 bt255.1 bt255.2.1) == 0)) = true then (if (bt279.2.2.2.2.2 == bt255.2.2.2.2.2.2.2) = true then (some (bt264.2.2.2.1 == bt255.2.2.2.2.2.1)) else (some false)) else (some false)) else (some false)) else (some false)) else (some false)) else (some false)) else (some false))))))) = some r := by rw [if_neg (show ¬ (false = true) by decide)] at H; exact H
    clear H
    have H := H1
    clear H1
    replace H := Option.bind_eq_some_iff.mp H
    obtain ⟨⟨t255, t256, t257, t258, t259, t260, t261, t262⟩, A40, H⟩ := H
    replace H : ((impl_Cmp.f t255 t256 t257 t258 t259 t260 t261 t262).bind fun bt264 => ((impl_Sbc.f t255 t256 false false false false false true).bind fun bt271 => ((impl_BitTest.f t255 t256 t257 t258 t259 t260 t261 t262).bind fun bt279 => ((impl_NZ.f bt271.1 t257 t258 t259 t260 t261 t262).bind fun bt285 => (if (bt264.1 == bt271.2.1) = true then (if (bt264.2.2.2.2.1 == bt271.2.2.2.2.2.1) = true then (if (bt264.2.2.2.2.2 == bt271.2.2.2.2.2.2) = true then (if (bt285.1 == bt264.1) = true then (if (bt285.2.2.2.2.1 == bt264.2.2.2.2.1) = true then (if (bt279.2.2.2.2.1 == ((Go.bits .and .u8 t255 t256) == 0)) = true then (if (bt279.2.2.2.2.2 == t262) = true then (some (bt264.2.2.2.1 == t260)) else (some false)) else (some false)) else (some false)) else (some false)) else (some false)) else (some false)) else (some false)))))) = some r := H
    have A4 := Aside0.mk A40
    clear A40
    replace H := Option.bind_eq_some_iff.mp H
    obtain ⟨⟨t264, t265, t266, t267, t268, t269⟩, A50, H⟩ := H
    replace H : ((impl_Sbc.f t255 t256 false false false false false true).bind fun bt271 => ((impl_BitTest.f t255 t256 t257 t258 t259 t260 t261 t262).bind fun bt279 => ((impl_NZ.f bt271.1 t257 t258 t259 t260 t261 t262).bind fun bt285 => (if (t264 == bt271.2.1) = true then (if (t268 == bt271.2.2.2.2.2.1) = true then (if (t269 == bt271.2.2.2.2.2.2) = true then (if (bt285.1 == t264) = true then (if (bt285.2.2.2.2.1 == t268) = true then (if (bt279.2.2.2.2.1 == ((Go.bits .and .u8 t255 t256) == 0)) = true then (if (bt279.2.2.2.2.2 == t262) = true then (some (t267 == t260)) else (some false)) else (some false)) else (some false)) else (some false)) else (some false)) else (some false)) else (some false))))) = some r := H
    have A5 := Aside0.mk A50
    clear A50
    replace H := Option.bind_eq_some_iff.mp H
    obtain ⟨⟨t271, t272, t273, t274, t275, t276, t277⟩, A60, H⟩ := H
    replace H : ((impl_BitTest.f t255 t256 t257 t258 t259 t260 t261 t262).bind fun bt279 => ((impl_NZ.f t271 t257 t258 t259 t260 t261 t262).bind fun bt285 => (if (t264 == t272) = true then (if (t268 == t276) = true then (if (t269 == t277) = true then (if (bt285.1 == t264) = true then (if (bt285.2.2.2.2.1 == t268) = true then (if (bt279.2.2.2.2.1 == ((Go.bits .and .u8 t255 t256) == 0)) = true then (if (bt279.2.2.2.2.2 == t262) = true then (some (t267 == t260)) else (some false)) else (some false)) else (some false)) else (some false)) else (some false)) else (some false)) else (some false)))) = some r := H
    have A6 := Aside0.mk A60
    clear A60
    replace H := Option.bind_eq_some_iff.mp H
    obtain ⟨⟨t279, t280, t281, t282, t283, t284⟩, A70, H⟩ := H
    replace H : ((impl_NZ.f t271 t257 t258 t259 t260 t261 t262).bind fun bt285 => (if (t264 == t272) = true then (if (t268 == t276) = true then (if (t269 == t277) = true then (if (bt285.1 == t264) = true then (if (bt285.2.2.2.2.1 == t268) = true then (if (t283 == ((Go.bits .and .u8 t255 t256) == 0)) = true then (if (t284 == t262) = true then (some (t267 == t260)) else (some false)) else (some false)) else (some false)) else (some false)) else (some false)) else (some false)) else (some false))) = some r := H
    have A7 := Aside0.mk A70
    clear A70
    replace H := Option.bind_eq_some_iff.mp H
    obtain ⟨⟨t285, t286, t287, t288, t289, t290⟩, A80, H⟩ := H
    replace H : (if (t264 == t272) = true then (if (t268 == t276) = true then (if (t269 == t277) = true then (if (t285 == t264) = true then (if (t289 == t268) = true then (if (t283 == ((Go.bits .and .u8 t255 t256) == 0)) = true then (if (t284 == t262) = true then (some (t267 == t260)) else (some false)) else (some false)) else (some false)) else (some false)) else (some false)) else (some false)) else (some false)) = some r := H
    have A8 := Aside0.mk A80
    clear A80
    by_cases c9 : (t264 == t272) = true
    · rw [if_pos c9] at H
      have c9b0 : (t264 == t272) = true := c9
      (try (have c9b1 : decide (t264 = t272) = true := by simpa using c9))
      (try (have c9b2 : (t264 == t272) = true := by simpa using c9))
      clear c9
      by_cases c10 : (t268 == t276) = true
      · rw [if_pos c10] at H
        have c10b0 : (t268 == t276) = true := c10
        (try (have c10b1 : decide (t268 = t276) = true := by simpa using c10))
        (try (have c10b2 : (t268 == t276) = true := by simpa using c10))
        clear c10
        by_cases c11 : (t269 == t277) = true
        · rw [if_pos c11] at H
          have c11b0 : (t269 == t277) = true := c11
          (try (have c11b1 : decide (t269 = t277) = true := by simpa using c11))
          (try (have c11b2 : (t269 == t277) = true := by simpa using c11))
          clear c11
          by_cases c12 : (t285 == t264) = true
          · rw [if_pos c12] at H
            have c12b0 : (t285 == t264) = true := c12
            (try (have c12b1 : decide (t285 = t264) = true := by simpa using c12))
            (try (have c12b2 : (t285 == t264) = true := by simpa using c12))
            clear c12
            by_cases c13 : (t289 == t268) = true
            · rw [if_pos c13] at H
              have c13b0 : (t289 == t268) = true := c13
              (try (have c13b1 : decide (t289 = t268) = true := by simpa using c13))
              (try (have c13b2 : (t289 == t268) = true := by simpa using c13))
              clear c13
              by_cases c14 : (t283 == ((Go.bits .and .u8 t255 t256) == 0)) = true
              · rw [if_pos c14] at H
                have c14b0 : (t283 == ((Go.bits .and .u8 t255 t256) == 0)) = true := c14
                (try (have c14b1 : decide (t283 = ((Go.bits .and .u8 t255 t256) == 0)) = true := by simpa using c14))
                (try (have c14b2 : (t283 == ((Go.bits .and .u8 t255 t256) == 0)) = true := by simpa using c14))
                clear c14
                by_cases c15 : (t284 == t262) = true
                · rw [if_pos c15] at H
                  have c15b0 : (t284 == t262) = true := c15
                  (try (have c15b1 : decide (t284 = t262) = true := by simpa using c15))
                  (try (have c15b2 : (t284 == t262) = true := by simpa using c15))
                  clear c15
                  obtain rfl := Option.some.inj H
                  go_enter Try.func13, Try.ntmps13
                  try go_wp2_with (first | ((with_reducible refine gate_callee (f := 46) rfl ?_); refine goesL_ (some 12) rfl rfl Try.func46 (by kernel_rfl) rfl #[.slice A0 l0.length c0] rfl (by (try simp only [List.map_toArray, List.map_cons, List.map_nil]); first | done | rfl | (simp only [List.length_drop, List.length_take]; rfl)) ?_; (with_reducible refine (laws_big.calls _ _ l0 false _ ?side1 ?side2 A2.out).mono ?_); (case side1 => repeat (first | exact HR0.out | (with_reducible refine Kd.C_alloc ?_ _) | (with_reducible refine Kd.C_drewN ?_ _) | (with_reducible refine Kd.C_drew ?_))); (case side2 => exact HC0.out); rintro e w' ⟨rfl, ⟨nd, rfl⟩⟩; refine ⟨_, rfl, ?_⟩) | ((with_reducible refine gate_callee (f := 54) rfl ?_); refine goesL_ (some 15) rfl rfl Try.func54 (by kernel_rfl) rfl #[.slice A0 l0.length c0] rfl (by (try simp only [List.map_toArray, List.map_cons, List.map_nil]); first | done | rfl | (simp only [List.length_drop, List.length_take]; rfl)) ?_; (with_reducible refine (spec_DrawCmp.calls k _ _ l0 t255 t256 t257 t258 t259 t260 t261 t262 _ ?side1 ?side2 A4.out).mono ?_); (case side1 => repeat (first | exact HR0.out | (with_reducible refine Kd.C_alloc ?_ _) | (with_reducible refine Kd.C_drewN ?_ _) | (with_reducible refine Kd.C_drew ?_))); (case side2 => exact HC0.out); rintro e w16 ⟨rfl, hb⟩; refine ⟨_, rfl, ?_⟩; have n0_ := Aside0.mk (below_step (by repeat (first | (with_reducible first | exact HB.out | apply below_alloc | apply pw_below_drewN | apply below_drew1) | exact HB.out)) hb); clear HB; have HB := n0_; clear n0_; (try clear hb); (try clear hb2); (try clear hk); (try clear hi)) | ((with_reducible refine gate_dst (N := 5) rfl ?_); refine box_event ?hg (N := 5) ?hd (cs := #[.bool false, .bool false, .bool false, .bool false, .bool false, .bool false]) (t := 40) ?hr ?_; (case hd => rfl); (case hg => rfl); (case hr => first | (go_simp; done) | (go_simp; rfl)); intro gb263 hg w17 hbox hb; have n0_ := Aside0.mk (below_step (by repeat (first | (with_reducible first | exact HB.out | apply below_alloc | apply pw_below_drewN | apply below_drew1) | exact HB.out)) hb); have n1_ := Aside0.mk (hbox); have n2_ := Aside0.mk ((by rw [hg]; exact (below_size (by repeat (first | (with_reducible first | exact HB.out | apply below_alloc | apply pw_below_drewN | apply below_drew1) | exact HB.out))) : w.heap.size ≤ gb263)); have n3_ := Aside0.mk ((by rw [hg]; exact (below_size (by repeat (first | (with_reducible first | exact HB.out | apply below_alloc | apply pw_below_drewN | apply below_drew1) | exact HB.out))) : w.heap.size ≤ gb263)); clear HB; have HB := n0_; have BK263 := n1_; have GW263 := n2_; have GE263 := n3_; clear n0_ n1_ n2_ n3_; clear hb hbox hg; have hcz18_0 : w17.cell? ⟨gb263, 0, none⟩ = some (.bool false) := (blk_cell BK263.out 0).trans rfl; have hcz18_1 : w17.cell? ⟨gb263, 1, none⟩ = some (.bool false) := (blk_cell BK263.out 1).trans rfl; have hcz18_2 : w17.cell? ⟨gb263, 2, none⟩ = some (.bool false) := (blk_cell BK263.out 2).trans rfl; have hcz18_3 : w17.cell? ⟨gb263, 3, none⟩ = some (.bool false) := (blk_cell BK263.out 3).trans rfl; have hcz18_4 : w17.cell? ⟨gb263, 4, none⟩ = some (.bool false) := (blk_cell BK263.out 4).trans rfl; have hcz18_5 : w17.cell? ⟨gb263, 5, none⟩ = some (.bool false) := (blk_cell BK263.out 5).trans rfl; have hfz18_0 := blk_frozen BK263.out 0; have hfz18_1 := blk_frozen BK263.out 1; have hfz18_2 := blk_frozen BK263.out 2; have hfz18_3 := blk_frozen BK263.out 3; have hfz18_4 := blk_frozen BK263.out 4; have hfz18_5 := blk_frozen BK263.out 5) | ((with_reducible refine gate_callee (f := 55) rfl ?_); refine goesL_ (some 22) rfl rfl Try.func55 (by kernel_rfl) rfl #[.int .u8 t255, .int .u8 t256, .agg #[.bool t257, .bool t258, .bool t259, .bool t260, .bool t261, .bool t262]] rfl (by (try simp only [List.map_toArray, List.map_cons, List.map_nil]); first | done | rfl | (simp only [List.length_drop, List.length_take]; rfl)) ?_; (with_reducible refine (impl_Cmp.calls t255 t256 t257 t258 t259 t260 t261 t262 t264 t265 t266 t267 t268 t269 _ A5.out).mono ?_); rintro e w19 ⟨rfl, hb⟩; refine ⟨_, rfl, ?_⟩; have n0_ := Aside0.mk (blk_below (g := gb263) (o := .cells #[.bool t257, .bool t258, .bool t259, .bool t260, .bool t261, .bool t262] 40 (0, 0)) (by (with_reducible repeat (first | refine blk_drewN ?_ _ | refine blk_drew ?_ | refine blk_alloc ?_ _)); refine blk_put (cs := #[.bool t257, .bool t258, .bool t259, .bool t260, .bool t261, .bool false]) ?_ 5 _ rfl; (with_reducible repeat (first | refine blk_drewN ?_ _ | refine blk_drew ?_ | refine blk_alloc ?_ _)); refine blk_put (cs := #[.bool t257, .bool t258, .bool t259, .bool t260, .bool false, .bool false]) ?_ 4 _ rfl; (with_reducible repeat (first | refine blk_drewN ?_ _ | refine blk_drew ?_ | refine blk_alloc ?_ _)); refine blk_put (cs := #[.bool t257, .bool t258, .bool t259, .bool false, .bool false, .bool false]) ?_ 3 _ rfl; (with_reducible repeat (first | refine blk_drewN ?_ _ | refine blk_drew ?_ | refine blk_alloc ?_ _)); refine blk_put (cs := #[.bool t257, .bool t258, .bool false, .bool false, .bool false, .bool false]) ?_ 2 _ rfl; (with_reducible repeat (first | refine blk_drewN ?_ _ | refine blk_drew ?_ | refine blk_alloc ?_ _)); refine blk_put (cs := #[.bool t257, .bool false, .bool false, .bool false, .bool false, .bool false]) ?_ 1 _ rfl; (with_reducible repeat (first | refine blk_drewN ?_ _ | refine blk_drew ?_ | refine blk_alloc ?_ _)); refine blk_put (cs := #[.bool false, .bool false, .bool false, .bool false, .bool false, .bool false]) ?_ 0 _ rfl; (with_reducible repeat (first | refine blk_drewN ?_ _ | refine blk_drew ?_ | refine blk_alloc ?_ _)); exact BK263.out) hb); have n1_ := Aside0.mk (below_step (by repeat (first | (with_reducible first | exact HB.out | apply below_alloc | apply pw_below_drewN | apply below_drew1 | refine below_set ?_ GE263.out) | exact HB.out)) hb); clear BK263; clear HB; have BK263 := n0_; have HB := n1_; clear n0_ n1_; (try clear hb); (try clear hb2); (try clear hk); (try clear hi)) | ((with_reducible refine gate_dst (N := 6) rfl ?_); refine box_event ?hg (N := 6) ?hd (cs := #[.bool false, .bool false, .bool false, .bool false, .bool false, .bool false]) (t := 40) ?hr ?_; (case hd => rfl); (case hg => rfl); (case hr => first | (go_simp; done) | (go_simp; rfl)); intro gb270 hg w20 hbox hb; have n0_ := Aside0.mk (blk_below (g := gb263) (o := .cells #[.bool t257, .bool t258, .bool t259, .bool t260, .bool t261, .bool t262] 40 (0, 0)) (by (with_reducible repeat (first | refine blk_drewN ?_ _ | refine blk_drew ?_ | refine blk_alloc ?_ _)); exact BK263.out) hb); have n1_ := Aside0.mk (below_step (by repeat (first | (with_reducible first | exact HB.out | apply below_alloc | apply pw_below_drewN | apply below_drew1 | refine below_set ?_ GE263.out) | exact HB.out)) hb); have n2_ := Aside0.mk (hbox); have n3_ := Aside0.mk ((by rw [hg]; exact (below_size (by repeat (first | (with_reducible first | exact HB.out | apply below_alloc | apply pw_below_drewN | apply below_drew1 | refine below_set ?_ GE263.out) | exact HB.out))) : w.heap.size ≤ gb270)); have n4_ := Aside0.mk ((by rw [hg]; exact (below_size (by repeat (first | (with_reducible first | exact HB.out | apply below_alloc | apply pw_below_drewN | apply below_drew1 | refine below_set ?_ GE263.out) | exact HB.out))) : w.heap.size ≤ gb270)); have n5_ := Aside0.mk ((by rw [hg]; exact Nat.ne_of_lt (blk_lt (g := gb263) (o := .cells #[.bool t257, .bool t258, .bool t259, .bool t260, .bool t261, .bool t262] 40 (0, 0)) (by (with_reducible repeat (first | refine blk_drewN ?_ _ | refine blk_drew ?_ | refine blk_alloc ?_ _)); exact BK263.out)) : gb263 ≠ gb270)); have n6_ := Aside0.mk ((by rw [hg]; exact Nat.ne_of_gt (blk_lt (g := gb263) (o := .cells #[.bool t257, .bool t258, .bool t259, .bool t260, .bool t261, .bool t262] 40 (0, 0)) (by (with_reducible repeat (first | refine blk_drewN ?_ _ | refine blk_drew ?_ | refine blk_alloc ?_ _)); exact BK263.out)) : gb270 ≠ gb263)); clear BK263; clear HB; have BK263 := n0_; have HB := n1_; have BK270 := n2_; have GW270 := n3_; have GE270 := n4_; have NB263_270 := n5_; have NB270_263 := n6_; clear n0_ n1_ n2_ n3_ n4_ n5_ n6_; clear hb hbox hg; have hnb21 := NB270_263.out; have hnc21 := NB263_270.out; have hcz22_0 : w20.cell? ⟨gb270, 0, none⟩ = some (.bool false) := (blk_cell BK270.out 0).trans rfl; have hcz22_1 : w20.cell? ⟨gb270, 1, none⟩ = some (.bool false) := (blk_cell BK270.out 1).trans rfl; have hcz22_2 : w20.cell? ⟨gb270, 2, none⟩ = some (.bool false) := (blk_cell BK270.out 2).trans rfl; have hcz22_3 : w20.cell? ⟨gb270, 3, none⟩ = some (.bool false) := (blk_cell BK270.out 3).trans rfl; have hcz22_4 : w20.cell? ⟨gb270, 4, none⟩ = some (.bool false) := (blk_cell BK270.out 4).trans rfl; have hcz22_5 : w20.cell? ⟨gb270, 5, none⟩ = some (.bool false) := (blk_cell BK270.out 5).trans rfl; have hfz22_0 := blk_frozen BK270.out 0; have hfz22_1 := blk_frozen BK270.out 1; have hfz22_2 := blk_frozen BK270.out 2; have hfz22_3 := blk_frozen BK270.out 3; have hfz22_4 := blk_frozen BK270.out 4; have hfz22_5 := blk_frozen BK270.out 5) | ((with_reducible refine gate_callee (f := 60) rfl ?_); refine goesL_ (some 27) rfl rfl Try.func60 (by kernel_rfl) rfl #[.int .u8 t255, .int .u8 t256, .agg #[.bool false, .bool false, .bool false, .bool false, .bool false, .bool true]] rfl (by (try simp only [List.map_toArray, List.map_cons, List.map_nil]); first | done | rfl | (simp only [List.length_drop, List.length_take]; rfl)) ?_; (with_reducible refine (impl_Sbc.calls t255 t256 false false false false false true t271 t272 t273 t274 t275 t276 t277 _ A6.out).mono ?_); rintro e w23 ⟨rfl, hb⟩; refine ⟨_, rfl, ?_⟩; have n0_ := Aside0.mk (blk_below (g := gb263) (o := .cells #[.bool t257, .bool t258, .bool t259, .bool t260, .bool t261, .bool t262] 40 (0, 0)) (by (with_reducible repeat (first | refine blk_drewN ?_ _ | refine blk_drew ?_ | refine blk_alloc ?_ _)); refine blk_far ?_ NB263_270.out _; (with_reducible repeat (first | refine blk_drewN ?_ _ | refine blk_drew ?_ | refine blk_alloc ?_ _)); refine blk_far ?_ NB263_270.out _; (with_reducible repeat (first | refine blk_drewN ?_ _ | refine blk_drew ?_ | refine blk_alloc ?_ _)); refine blk_far ?_ NB263_270.out _; (with_reducible repeat (first | refine blk_drewN ?_ _ | refine blk_drew ?_ | refine blk_alloc ?_ _)); refine blk_far ?_ NB263_270.out _; (with_reducible repeat (first | refine blk_drewN ?_ _ | refine blk_drew ?_ | refine blk_alloc ?_ _)); refine blk_far ?_ NB263_270.out _; (with_reducible repeat (first | refine blk_drewN ?_ _ | refine blk_drew ?_ | refine blk_alloc ?_ _)); refine blk_far ?_ NB263_270.out _; (with_reducible repeat (first | refine blk_drewN ?_ _ | refine blk_drew ?_ | refine blk_alloc ?_ _)); exact BK263.out) hb); have n1_ := Aside0.mk (blk_below (g := gb270) (o := .cells #[.bool t264, .bool t265, .bool t266, .bool t267, .bool t268, .bool t269] 40 (0, 0)) (by (with_reducible repeat (first | refine blk_drewN ?_ _ | refine blk_drew ?_ | refine blk_alloc ?_ _)); refine blk_put (cs := #[.bool t264, .bool t265, .bool t266, .bool t267, .bool t268, .bool false]) ?_ 5 _ rfl; (with_reducible repeat (first | refine blk_drewN ?_ _ | refine blk_drew ?_ | refine blk_alloc ?_ _)); refine blk_put (cs := #[.bool t264, .bool t265, .bool t266, .bool t267, .bool false, .bool false]) ?_ 4 _ rfl; (with_reducible repeat (first | refine blk_drewN ?_ _ | refine blk_drew ?_ | refine blk_alloc ?_ _)); refine blk_put (cs := #[.bool t264, .bool t265, .bool t266, .bool false, .bool false, .bool false]) ?_ 3 _ rfl; (with_reducible repeat (first | refine blk_drewN ?_ _ | refine blk_drew ?_ | refine blk_alloc ?_ _)); refine blk_put (cs := #[.bool t264, .bool t265, .bool false, .bool false, .bool false, .bool false]) ?_ 2 _ rfl; (with_reducible repeat (first | refine blk_drewN ?_ _ | refine blk_drew ?_ | refine blk_alloc ?_ _)); refine blk_put (cs := #[.bool t264, .bool false, .bool false, .bool false, .bool false, .bool false]) ?_ 1 _ rfl; (with_reducible repeat (first | refine blk_drewN ?_ _ | refine blk_drew ?_ | refine blk_alloc ?_ _)); refine blk_put (cs := #[.bool false, .bool false, .bool false, .bool false, .bool false, .bool false]) ?_ 0 _ rfl; (with_reducible repeat (first | refine blk_drewN ?_ _ | refine blk_drew ?_ | refine blk_alloc ?_ _)); exact BK270.out) hb); have n2_ := Aside0.mk (below_step (by repeat (first | (with_reducible first | exact HB.out | apply below_alloc | apply pw_below_drewN | apply below_drew1 | refine below_set ?_ GE263.out | refine below_set ?_ GE270.out) | exact HB.out)) hb); clear BK263; clear BK270; clear HB; have BK263 := n0_; have BK270 := n1_; have HB := n2_; clear n0_ n1_ n2_; (try clear hb); (try clear hb2); (try clear hk); (try clear hi)) | ((with_reducible refine gate_dst (N := 8) rfl ?_); refine box_event ?hg (N := 8) ?hd (cs := #[.bool false, .bool false, .bool false, .bool false, .bool false, .bool false]) (t := 40) ?hr ?_; (case hd => rfl); (case hg => rfl); (case hr => first | (go_simp; done) | (go_simp; rfl)); intro gb278 hg w24 hbox hb; have n0_ := Aside0.mk (blk_below (g := gb263) (o := .cells #[.bool t257, .bool t258, .bool t259, .bool t260, .bool t261, .bool t262] 40 (0, 0)) (by (with_reducible repeat (first | refine blk_drewN ?_ _ | refine blk_drew ?_ | refine blk_alloc ?_ _)); exact BK263.out) hb); have n1_ := Aside0.mk (blk_below (g := gb270) (o := .cells #[.bool t264, .bool t265, .bool t266, .bool t267, .bool t268, .bool t269] 40 (0, 0)) (by (with_reducible repeat (first | refine blk_drewN ?_ _ | refine blk_drew ?_ | refine blk_alloc ?_ _)); exact BK270.out) hb); have n2_ := Aside0.mk (below_step (by repeat (first | (with_reducible first | exact HB.out | apply below_alloc | apply pw_below_drewN | apply below_drew1 | refine below_set ?_ GE263.out | refine below_set ?_ GE270.out) | exact HB.out)) hb); have n3_ := Aside0.mk (hbox); have n4_ := Aside0.mk ((by rw [hg]; exact (below_size (by repeat (first | (with_reducible first | exact HB.out | apply below_alloc | apply pw_below_drewN | apply below_drew1 | refine below_set ?_ GE263.out | refine below_set ?_ GE270.out) | exact HB.out))) : w.heap.size ≤ gb278)); have n5_ := Aside0.mk ((by rw [hg]; exact (below_size (by repeat (first | (with_reducible first | exact HB.out | apply below_alloc | apply pw_below_drewN | apply below_drew1 | refine below_set ?_ GE263.out | refine below_set ?_ GE270.out) | exact HB.out))) : w.heap.size ≤ gb278)); have n6_ := Aside0.mk ((by rw [hg]; exact Nat.ne_of_lt (blk_lt (g := gb263) (o := .cells #[.bool t257, .bool t258, .bool t259, .bool t260, .bool t261, .bool t262] 40 (0, 0)) (by (with_reducible repeat (first | refine blk_drewN ?_ _ | refine blk_drew ?_ | refine blk_alloc ?_ _)); exact BK263.out)) : gb263 ≠ gb278)); have n7_ := Aside0.mk ((by rw [hg]; exact Nat.ne_of_gt (blk_lt (g := gb263) (o := .cells #[.bool t257, .bool t258, .bool t259, .bool t260, .bool t261, .bool t262] 40 (0, 0)) (by (with_reducible repeat (first | refine blk_drewN ?_ _ | refine blk_drew ?_ | refine blk_alloc ?_ _)); exact BK263.out)) : gb278 ≠ gb263)); have n8_ := Aside0.mk ((by rw [hg]; exact Nat.ne_of_lt (blk_lt (g := gb270) (o := .cells #[.bool t264, .bool t265, .bool t266, .bool t267, .bool t268, .bool t269] 40 (0, 0)) (by (with_reducible repeat (first | refine blk_drewN ?_ _ | refine blk_drew ?_ | refine blk_alloc ?_ _)); exact BK270.out)) : gb270 ≠ gb278)); have n9_ := Aside0.mk ((by rw [hg]; exact Nat.ne_of_gt (blk_lt (g := gb270) (o := .cells #[.bool t264, .bool t265, .bool t266, .bool t267, .bool t268, .bool t269] 40 (0, 0)) (by (with_reducible repeat (first | refine blk_drewN ?_ _ | refine blk_drew ?_ | refine blk_alloc ?_ _)); exact BK270.out)) : gb278 ≠ gb270)); clear BK263; clear BK270; clear HB; have BK263 := n0_; have BK270 := n1_; have HB := n2_; have BK278 := n3_; have GW278 := n4_; have GE278 := n5_; have NB263_278 := n6_; have NB278_263 := n7_; have NB270_278 := n8_; have NB278_270 := n9_; clear n0_ n1_ n2_ n3_ n4_ n5_ n6_ n7_ n8_ n9_; clear hb hbox hg; have hnb25 := NB278_263.out; have hnc25 := NB263_278.out; have hnb26 := NB278_270.out; have hnc26 := NB270_278.out; have hcz27_0 : w24.cell? ⟨gb278, 0, none⟩ = some (.bool false) := (blk_cell BK278.out 0).trans rfl; have hcz27_1 : w24.cell? ⟨gb278, 1, none⟩ = some (.bool false) := (blk_cell BK278.out 1).trans rfl; have hcz27_2 : w24.cell? ⟨gb278, 2, none⟩ = some (.bool false) := (blk_cell BK278.out 2).trans rfl; have hcz27_3 : w24.cell? ⟨gb278, 3, none⟩ = some (.bool false) := (blk_cell BK278.out 3).trans rfl; have hcz27_4 : w24.cell? ⟨gb278, 4, none⟩ = some (.bool false) := (blk_cell BK278.out 4).trans rfl; have hcz27_5 : w24.cell? ⟨gb278, 5, none⟩ = some (.bool false) := (blk_cell BK278.out 5).trans rfl; have hfz27_0 := blk_frozen BK278.out 0; have hfz27_1 := blk_frozen BK278.out 1; have hfz27_2 := blk_frozen BK278.out 2; have hfz27_3 := blk_frozen BK278.out 3; have hfz27_4 := blk_frozen BK278.out 4; have hfz27_5 := blk_frozen BK278.out 5))
                  have n0_ : Aside0 (((((((w24.setCell ⟨gb278, 0, none⟩ (.bool t272)).setCell ⟨gb278, 1, none⟩ (.bool t273)).setCell ⟨gb278, 2, none⟩ (.bool t274)).setCell ⟨gb278, 3, none⟩ (.bool t275)).setCell ⟨gb278, 4, none⟩ (.bool t276)).setCell ⟨gb278, 5, none⟩ (.bool t277)).heap[gb263]? = some (.cells #[.bool t257, .bool t258, .bool t259, .bool t260, .bool t261, .bool t262] 40 (0, 0))) := ⟨by (with_reducible repeat (first | refine blk_drewN ?_ _ | refine blk_drew ?_ | refine blk_alloc ?_ _)); refine blk_far ?_ NB263_278.out _; (with_reducible repeat (first | refine blk_drewN ?_ _ | refine blk_drew ?_ | refine blk_alloc ?_ _)); refine blk_far ?_ NB263_278.out _; (with_reducible repeat (first | refine blk_drewN ?_ _ | refine blk_drew ?_ | refine blk_alloc ?_ _)); refine blk_far ?_ NB263_278.out _; (with_reducible repeat (first | refine blk_drewN ?_ _ | refine blk_drew ?_ | refine blk_alloc ?_ _)); refine blk_far ?_ NB263_278.out _; (with_reducible repeat (first | refine blk_drewN ?_ _ | refine blk_drew ?_ | refine blk_alloc ?_ _)); refine blk_far ?_ NB263_278.out _; (with_reducible repeat (first | refine blk_drewN ?_ _ | refine blk_drew ?_ | refine blk_alloc ?_ _)); refine blk_far ?_ NB263_278.out _; (with_reducible repeat (first | refine blk_drewN ?_ _ | refine blk_drew ?_ | refine blk_alloc ?_ _)); exact BK263.out⟩
                  have n1_ : Aside0 (((((((w24.setCell ⟨gb278, 0, none⟩ (.bool t272)).setCell ⟨gb278, 1, none⟩ (.bool t273)).setCell ⟨gb278, 2, none⟩ (.bool t274)).setCell ⟨gb278, 3, none⟩ (.bool t275)).setCell ⟨gb278, 4, none⟩ (.bool t276)).setCell ⟨gb278, 5, none⟩ (.bool t277)).heap[gb270]? = some (.cells #[.bool t264, .bool t265, .bool t266, .bool t267, .bool t268, .bool t269] 40 (0, 0))) := ⟨by (with_reducible repeat (first | refine blk_drewN ?_ _ | refine blk_drew ?_ | refine blk_alloc ?_ _)); refine blk_far ?_ NB270_278.out _; (with_reducible repeat (first | refine blk_drewN ?_ _ | refine blk_drew ?_ | refine blk_alloc ?_ _)); refine blk_far ?_ NB270_278.out _; (with_reducible repeat (first | refine blk_drewN ?_ _ | refine blk_drew ?_ | refine blk_alloc ?_ _)); refine blk_far ?_ NB270_278.out _; (with_reducible repeat (first | refine blk_drewN ?_ _ | refine blk_drew ?_ | refine blk_alloc ?_ _)); refine blk_far ?_ NB270_278.out _; (with_reducible repeat (first | refine blk_drewN ?_ _ | refine blk_drew ?_ | refine blk_alloc ?_ _)); refine blk_far ?_ NB270_278.out _; (with_reducible repeat (first | refine blk_drewN ?_ _ | refine blk_drew ?_ | refine blk_alloc ?_ _)); refine blk_far ?_ NB270_278.out _; (with_reducible repeat (first | refine blk_drewN ?_ _ | refine blk_drew ?_ | refine blk_alloc ?_ _)); exact BK270.out⟩
                  have n2_ : Aside0 (((((((w24.setCell ⟨gb278, 0, none⟩ (.bool t272)).setCell ⟨gb278, 1, none⟩ (.bool t273)).setCell ⟨gb278, 2, none⟩ (.bool t274)).setCell ⟨gb278, 3, none⟩ (.bool t275)).setCell ⟨gb278, 4, none⟩ (.bool t276)).setCell ⟨gb278, 5, none⟩ (.bool t277)).heap[gb278]? = some (.cells #[.bool t272, .bool t273, .bool t274, .bool t275, .bool t276, .bool t277] 40 (0, 0))) := ⟨by (with_reducible repeat (first | refine blk_drewN ?_ _ | refine blk_drew ?_ | refine blk_alloc ?_ _)); refine blk_put (cs := #[.bool t272, .bool t273, .bool t274, .bool t275, .bool t276, .bool false]) ?_ 5 _ rfl; (with_reducible repeat (first | refine blk_drewN ?_ _ | refine blk_drew ?_ | refine blk_alloc ?_ _)); refine blk_put (cs := #[.bool t272, .bool t273, .bool t274, .bool t275, .bool false, .bool false]) ?_ 4 _ rfl; (with_reducible repeat (first | refine blk_drewN ?_ _ | refine blk_drew ?_ | refine blk_alloc ?_ _)); refine blk_put (cs := #[.bool t272, .bool t273, .bool t274, .bool false, .bool false, .bool false]) ?_ 3 _ rfl; (with_reducible repeat (first | refine blk_drewN ?_ _ | refine blk_drew ?_ | refine blk_alloc ?_ _)); refine blk_put (cs := #[.bool t272, .bool t273, .bool false, .bool false, .bool false, .bool false]) ?_ 2 _ rfl; (with_reducible repeat (first | refine blk_drewN ?_ _ | refine blk_drew ?_ | refine blk_alloc ?_ _)); refine blk_put (cs := #[.bool t272, .bool false, .bool false, .bool false, .bool false, .bool false]) ?_ 1 _ rfl; (with_reducible repeat (first | refine blk_drewN ?_ _ | refine blk_drew ?_ | refine blk_alloc ?_ _)); refine blk_put (cs := #[.bool false, .bool false, .bool false, .bool false, .bool false, .bool false]) ?_ 0 _ rfl; (with_reducible repeat (first | refine blk_drewN ?_ _ | refine blk_drew ?_ | refine blk_alloc ?_ _)); exact BK278.out⟩
                  have n3_ : Aside0 (Below w.heap.size w ((((((w24.setCell ⟨gb278, 0, none⟩ (.bool t272)).setCell ⟨gb278, 1, none⟩ (.bool t273)).setCell ⟨gb278, 2, none⟩ (.bool t274)).setCell ⟨gb278, 3, none⟩ (.bool t275)).setCell ⟨gb278, 4, none⟩ (.bool t276)).setCell ⟨gb278, 5, none⟩ (.bool t277))) := ⟨by repeat (first | (with_reducible first | exact HB.out | apply below_alloc | apply pw_below_drewN | apply below_drew1 | refine below_set ?_ GE263.out | refine below_set ?_ GE270.out | refine below_set ?_ GE278.out) | exact HB.out)⟩
                  (try clear BK263)
                  (try clear BK270)
                  (try clear BK278)
                  (try clear HB)
                  generalize ((((((w24.setCell ⟨gb278, 0, none⟩ (.bool t272)).setCell ⟨gb278, 1, none⟩ (.bool t273)).setCell ⟨gb278, 2, none⟩ (.bool t274)).setCell ⟨gb278, 3, none⟩ (.bool t275)).setCell ⟨gb278, 4, none⟩ (.bool t276)).setCell ⟨gb278, 5, none⟩ (.bool t277)) = w28 at n0_ n1_ n2_ n3_ ⊢
                  have BK263 := n0_
                  have BK270 := n1_
                  have BK278 := n2_
                  have HB := n3_
                  clear n0_ n1_ n2_ n3_
                  have n0_ := Aside0.mk (blk_drew BK263.out)
                  have n1_ := Aside0.mk (blk_drew BK270.out)
                  have n2_ := Aside0.mk (blk_drew BK278.out)
                  have n3_ := Aside0.mk (below_drew1 HB.out)
                  clear BK263
                  clear BK270
                  clear BK278
                  clear HB
                  have BK263 := n0_
                  have BK270 := n1_
                  have BK278 := n2_
                  have HB := n3_
                  clear n0_ n1_ n2_ n3_
                  refine start_ (n := 11) (S := fun w' => w'.cell? ⟨gb263, 0, none⟩ = some (.bool t257) ∧ w'.cell? ⟨gb263, 1, none⟩ = some (.bool t258) ∧ w'.cell? ⟨gb263, 2, none⟩ = some (.bool t259) ∧ w'.cell? ⟨gb263, 3, none⟩ = some (.bool t260) ∧ w'.cell? ⟨gb263, 4, none⟩ = some (.bool t261) ∧ w'.cell? ⟨gb263, 5, none⟩ = some (.bool t262)) (ds := []) #[false, false, false, false, false, false, false, false, false, false, false] (by kernel_rfl) rfl rfl ⟨(blk_cell BK263.out 0).trans rfl, (blk_cell BK263.out 1).trans rfl, (blk_cell BK263.out 2).trans rfl, (blk_cell BK263.out 3).trans rfl, (blk_cell BK263.out 4).trans rfl, (blk_cell BK263.out 5).trans rfl⟩ (fun hHeld => ?_); refine with_tabW laws_FnCompare.tab6 laws_FnCompare.bits6 (fun HT_ HW_ => ?_)
                  generalize w28.drew = w29 at BK263 BK270 BK278 HB hHeld ⊢
                  refine pure_ (i := 0) (N := some 30) (v := ?_) (a' := ?_) #[true, false, false, false, false, false, false, false, false, false, false] rfl rfl (any_of HT_.out (by kernel_rfl)) (fun _ _ _ h => h) (Or.inl ⟨by rfl, ?_⟩) ?_ ?_
                  rotate_left
                  · intro w'
                    go_simp
                    with_reducible rfl
                  rotate_left
                  · simp only [Act.put, List.setIfInBounds_toArray, List.set_cons_zero, List.set_cons_succ, i64_w, i32_w]
                    rfl
                  refine pure_ (i := 1) (N := some 31) (v := ?_) (a' := ?_) #[true, true, false, false, false, false, false, false, false, false, false] rfl rfl (any_of HT_.out (by kernel_rfl)) (fun _ _ _ h => h) (Or.inl ⟨by rfl, ?_⟩) ?_ ?_
                  rotate_left
                  · intro w'
                    go_simp
                    with_reducible rfl
                  rotate_left
                  · simp only [Act.put, List.setIfInBounds_toArray, List.set_cons_zero, List.set_cons_succ, i64_w, i32_w]
                    rfl
                  refine pure_ (i := 4) (N := some 34) (v := ?_) (a' := ?_) #[true, true, false, false, true, false, false, false, false, false, false] rfl rfl (any_of HT_.out (by kernel_rfl)) (fun _ _ _ h => h) (Or.inl ⟨by rfl, ?_⟩) ?_ ?_
                  rotate_left
                  · intro w'
                    go_simp
                    with_reducible rfl
                  rotate_left
                  · simp only [Act.put, List.setIfInBounds_toArray, List.set_cons_zero, List.set_cons_succ, i64_w, i32_w]
                    rfl
                  refine take_ (i := 2) (N := some 32) (v := ?_) (a' := ?_) #[true, true, true, false, true, false, false, false, false, false, false] rfl rfl (take_ofW HT_.out HW_.out (by kernel_rfl)) (fun _ _ _ h => h) (Or.inl ⟨by rfl, ?_⟩) hHeld ?_ ?_
                  rotate_left
                  · rintro w' ⟨s0, s1, s2, s3, s4, s5⟩
                    go_simp
                    with_reducible rfl
                  rotate_left
                  · simp only [Act.put, List.setIfInBounds_toArray, List.set_cons_zero, List.set_cons_succ, i64_w, i32_w]
                    rfl
                  refine take_ (i := 5) (N := some 35) (v := ?_) (a' := ?_) #[true, true, true, false, true, true, false, false, false, false, false] rfl rfl (take_ofW HT_.out HW_.out (by kernel_rfl)) (fun _ _ _ h => h) (Or.inl ⟨by rfl, ?_⟩) hHeld ?_ ?_
                  rotate_left
                  · rintro w' ⟨s0, s1, s2, s3, s4, s5⟩
                    go_simp
                    with_reducible rfl
                  rotate_left
                  · simp only [Act.put, List.setIfInBounds_toArray, List.set_cons_zero, List.set_cons_succ, i64_w, i32_w]
                    rfl
                  refine join_ (σ := Nat × Nat) 2 #[true, true, true, true, true, true, true, true, true, false, false] (fun s_ => [(33, .agg #[.bool t279, .bool t280, .bool t281, .bool t282, .bool t283, .bool t284]), (36, .agg #[.bool t285, .bool t286, .bool t287, .bool t288, .bool t289, .bool t290]), (9, .pointer (some ⟨s_.1, 0, none⟩)), (10, .pointer (some ⟨s_.2, 0, none⟩))]) (fun s_ w' => (w'.cell? ⟨gb263, 0, none⟩ = some (.bool t257) ∧ w'.cell? ⟨gb263, 1, none⟩ = some (.bool t258) ∧ w'.cell? ⟨gb263, 2, none⟩ = some (.bool t259) ∧ w'.cell? ⟨gb263, 3, none⟩ = some (.bool t260) ∧ w'.cell? ⟨gb263, 4, none⟩ = some (.bool t261) ∧ w'.cell? ⟨gb263, 5, none⟩ = some (.bool t262)) ∧ (w'.heap[gb263]? = some (.cells #[.bool t257, .bool t258, .bool t259, .bool t260, .bool t261, .bool t262] 40 (0, 0))) ∧ (w'.heap[gb270]? = some (.cells #[.bool t264, .bool t265, .bool t266, .bool t267, .bool t268, .bool t269] 40 (0, 0))) ∧ (w'.heap[gb278]? = some (.cells #[.bool t272, .bool t273, .bool t274, .bool t275, .bool t276, .bool t277] 40 (0, 0))) ∧ (w'.heap[s_.1]? = some (.cells #[.bool false, .bool false, .bool false, .bool false, .bool false, .bool false] 40 (0, 0))) ∧ (w'.heap[s_.2]? = some (.cells #[.bool false, .bool false, .bool false, .bool false, .bool false, .bool false] 40 (0, 0))) ∧ (w.heap.size ≤ s_.1) ∧ (w.heap.size ≤ s_.1) ∧ (gb263 ≠ s_.1) ∧ (s_.1 ≠ gb263) ∧ (gb270 ≠ s_.1) ∧ (s_.1 ≠ gb270) ∧ (gb278 ≠ s_.1) ∧ (s_.1 ≠ gb278) ∧ (s_.2 ≠ s_.1) ∧ (s_.1 ≠ s_.2) ∧ (w.heap.size ≤ s_.2) ∧ (w.heap.size ≤ s_.2) ∧ (gb263 ≠ s_.2) ∧ (s_.2 ≠ gb263) ∧ (gb270 ≠ s_.2) ∧ (s_.2 ≠ gb270) ∧ (gb278 ≠ s_.2) ∧ (s_.2 ≠ gb278) ∧ (Below w.heap.size w w')) ?_ ?_
                  rotate_left
                  · intro hJ3_6_7_8
                    refine join_ (σ := Nat) 3 #[true, true, true, true, true, true, true, true, false, false, false] (fun s_ => [(33, .agg #[.bool t279, .bool t280, .bool t281, .bool t282, .bool t283, .bool t284]), (36, .agg #[.bool t285, .bool t286, .bool t287, .bool t288, .bool t289, .bool t290]), (9, .pointer (some ⟨s_, 0, none⟩))]) (fun s_ w' => (w'.cell? ⟨gb263, 0, none⟩ = some (.bool t257) ∧ w'.cell? ⟨gb263, 1, none⟩ = some (.bool t258) ∧ w'.cell? ⟨gb263, 2, none⟩ = some (.bool t259) ∧ w'.cell? ⟨gb263, 3, none⟩ = some (.bool t260) ∧ w'.cell? ⟨gb263, 4, none⟩ = some (.bool t261) ∧ w'.cell? ⟨gb263, 5, none⟩ = some (.bool t262)) ∧ (w'.heap[gb263]? = some (.cells #[.bool t257, .bool t258, .bool t259, .bool t260, .bool t261, .bool t262] 40 (0, 0))) ∧ (w'.heap[gb270]? = some (.cells #[.bool t264, .bool t265, .bool t266, .bool t267, .bool t268, .bool t269] 40 (0, 0))) ∧ (w'.heap[gb278]? = some (.cells #[.bool t272, .bool t273, .bool t274, .bool t275, .bool t276, .bool t277] 40 (0, 0))) ∧ (w'.heap[s_]? = some (.cells #[.bool false, .bool false, .bool false, .bool false, .bool false, .bool false] 40 (0, 0))) ∧ (w.heap.size ≤ s_) ∧ (w.heap.size ≤ s_) ∧ (gb263 ≠ s_) ∧ (s_ ≠ gb263) ∧ (gb270 ≠ s_) ∧ (s_ ≠ gb270) ∧ (gb278 ≠ s_) ∧ (s_ ≠ gb278) ∧ (Below w.heap.size w w')) ?_ ?_
                    rotate_left
                    · intro hJ3_6_7
                      refine join_ (σ := Nat) 3 #[true, true, true, true, true, true, true, false, true, false, false] (fun s_ => [(33, .agg #[.bool t279, .bool t280, .bool t281, .bool t282, .bool t283, .bool t284]), (36, .agg #[.bool t285, .bool t286, .bool t287, .bool t288, .bool t289, .bool t290]), (10, .pointer (some ⟨s_, 0, none⟩))]) (fun s_ w' => (w'.cell? ⟨gb263, 0, none⟩ = some (.bool t257) ∧ w'.cell? ⟨gb263, 1, none⟩ = some (.bool t258) ∧ w'.cell? ⟨gb263, 2, none⟩ = some (.bool t259) ∧ w'.cell? ⟨gb263, 3, none⟩ = some (.bool t260) ∧ w'.cell? ⟨gb263, 4, none⟩ = some (.bool t261) ∧ w'.cell? ⟨gb263, 5, none⟩ = some (.bool t262)) ∧ (w'.heap[gb263]? = some (.cells #[.bool t257, .bool t258, .bool t259, .bool t260, .bool t261, .bool t262] 40 (0, 0))) ∧ (w'.heap[gb270]? = some (.cells #[.bool t264, .bool t265, .bool t266, .bool t267, .bool t268, .bool t269] 40 (0, 0))) ∧ (w'.heap[gb278]? = some (.cells #[.bool t272, .bool t273, .bool t274, .bool t275, .bool t276, .bool t277] 40 (0, 0))) ∧ (w'.heap[s_]? = some (.cells #[.bool false, .bool false, .bool false, .bool false, .bool false, .bool false] 40 (0, 0))) ∧ (w.heap.size ≤ s_) ∧ (w.heap.size ≤ s_) ∧ (gb263 ≠ s_) ∧ (s_ ≠ gb263) ∧ (gb270 ≠ s_) ∧ (s_ ≠ gb270) ∧ (gb278 ≠ s_) ∧ (s_ ≠ gb278) ∧ (Below w.heap.size w w')) ?_ ?_
                      rotate_left
                      · intro hJ3_6_8
                        refine join_ (σ := Nat × Nat) 3 #[true, true, true, true, true, true, false, true, true, false, false] (fun s_ => [(33, .agg #[.bool t279, .bool t280, .bool t281, .bool t282, .bool t283, .bool t284]), (9, .pointer (some ⟨s_.1, 0, none⟩)), (10, .pointer (some ⟨s_.2, 0, none⟩))]) (fun s_ w' => (w'.cell? ⟨gb263, 0, none⟩ = some (.bool t257) ∧ w'.cell? ⟨gb263, 1, none⟩ = some (.bool t258) ∧ w'.cell? ⟨gb263, 2, none⟩ = some (.bool t259) ∧ w'.cell? ⟨gb263, 3, none⟩ = some (.bool t260) ∧ w'.cell? ⟨gb263, 4, none⟩ = some (.bool t261) ∧ w'.cell? ⟨gb263, 5, none⟩ = some (.bool t262)) ∧ (w'.heap[gb263]? = some (.cells #[.bool t257, .bool t258, .bool t259, .bool t260, .bool t261, .bool t262] 40 (0, 0))) ∧ (w'.heap[gb270]? = some (.cells #[.bool t264, .bool t265, .bool t266, .bool t267, .bool t268, .bool t269] 40 (0, 0))) ∧ (w'.heap[gb278]? = some (.cells #[.bool t272, .bool t273, .bool t274, .bool t275, .bool t276, .bool t277] 40 (0, 0))) ∧ (w'.heap[s_.1]? = some (.cells #[.bool false, .bool false, .bool false, .bool false, .bool false, .bool false] 40 (0, 0))) ∧ (w'.heap[s_.2]? = some (.cells #[.bool false, .bool false, .bool false, .bool false, .bool false, .bool false] 40 (0, 0))) ∧ (w.heap.size ≤ s_.1) ∧ (w.heap.size ≤ s_.1) ∧ (gb263 ≠ s_.1) ∧ (s_.1 ≠ gb263) ∧ (gb270 ≠ s_.1) ∧ (s_.1 ≠ gb270) ∧ (gb278 ≠ s_.1) ∧ (s_.1 ≠ gb278) ∧ (s_.2 ≠ s_.1) ∧ (s_.1 ≠ s_.2) ∧ (w.heap.size ≤ s_.2) ∧ (w.heap.size ≤ s_.2) ∧ (gb263 ≠ s_.2) ∧ (s_.2 ≠ gb263) ∧ (gb270 ≠ s_.2) ∧ (s_.2 ≠ gb270) ∧ (gb278 ≠ s_.2) ∧ (s_.2 ≠ gb278) ∧ (Below w.heap.size w w')) ?_ ?_
                        rotate_left
                        · intro hJ3_7_8
                          refine join_ (σ := Unit) 4 #[true, true, true, true, true, true, true, false, false, false, false] (fun s_ => [(33, .agg #[.bool t279, .bool t280, .bool t281, .bool t282, .bool t283, .bool t284]), (36, .agg #[.bool t285, .bool t286, .bool t287, .bool t288, .bool t289, .bool t290])]) (fun s_ w' => (w'.cell? ⟨gb263, 0, none⟩ = some (.bool t257) ∧ w'.cell? ⟨gb263, 1, none⟩ = some (.bool t258) ∧ w'.cell? ⟨gb263, 2, none⟩ = some (.bool t259) ∧ w'.cell? ⟨gb263, 3, none⟩ = some (.bool t260) ∧ w'.cell? ⟨gb263, 4, none⟩ = some (.bool t261) ∧ w'.cell? ⟨gb263, 5, none⟩ = some (.bool t262)) ∧ (w'.heap[gb263]? = some (.cells #[.bool t257, .bool t258, .bool t259, .bool t260, .bool t261, .bool t262] 40 (0, 0))) ∧ (w'.heap[gb270]? = some (.cells #[.bool t264, .bool t265, .bool t266, .bool t267, .bool t268, .bool t269] 40 (0, 0))) ∧ (w'.heap[gb278]? = some (.cells #[.bool t272, .bool t273, .bool t274, .bool t275, .bool t276, .bool t277] 40 (0, 0))) ∧ (Below w.heap.size w w')) ?_ ?_
                          rotate_left
                          · intro hJ3_6
                            refine join_ (σ := Nat) 4 #[true, true, true, true, true, true, false, true, false, false, false] (fun s_ => [(33, .agg #[.bool t279, .bool t280, .bool t281, .bool t282, .bool t283, .bool t284]), (9, .pointer (some ⟨s_, 0, none⟩))]) (fun s_ w' => (w'.cell? ⟨gb263, 0, none⟩ = some (.bool t257) ∧ w'.cell? ⟨gb263, 1, none⟩ = some (.bool t258) ∧ w'.cell? ⟨gb263, 2, none⟩ = some (.bool t259) ∧ w'.cell? ⟨gb263, 3, none⟩ = some (.bool t260) ∧ w'.cell? ⟨gb263, 4, none⟩ = some (.bool t261) ∧ w'.cell? ⟨gb263, 5, none⟩ = some (.bool t262)) ∧ (w'.heap[gb263]? = some (.cells #[.bool t257, .bool t258, .bool t259, .bool t260, .bool t261, .bool t262] 40 (0, 0))) ∧ (w'.heap[gb270]? = some (.cells #[.bool t264, .bool t265, .bool t266, .bool t267, .bool t268, .bool t269] 40 (0, 0))) ∧ (w'.heap[gb278]? = some (.cells #[.bool t272, .bool t273, .bool t274, .bool t275, .bool t276, .bool t277] 40 (0, 0))) ∧ (w'.heap[s_]? = some (.cells #[.bool false, .bool false, .bool false, .bool false, .bool false, .bool false] 40 (0, 0))) ∧ (w.heap.size ≤ s_) ∧ (w.heap.size ≤ s_) ∧ (gb263 ≠ s_) ∧ (s_ ≠ gb263) ∧ (gb270 ≠ s_) ∧ (s_ ≠ gb270) ∧ (gb278 ≠ s_) ∧ (s_ ≠ gb278) ∧ (Below w.heap.size w w')) ?_ ?_
                            rotate_left
                            · intro hJ3_7
                              refine join_ (σ := Nat) 4 #[true, true, true, true, true, true, false, false, true, false, false] (fun s_ => [(33, .agg #[.bool t279, .bool t280, .bool t281, .bool t282, .bool t283, .bool t284]), (10, .pointer (some ⟨s_, 0, none⟩))]) (fun s_ w' => (w'.cell? ⟨gb263, 0, none⟩ = some (.bool t257) ∧ w'.cell? ⟨gb263, 1, none⟩ = some (.bool t258) ∧ w'.cell? ⟨gb263, 2, none⟩ = some (.bool t259) ∧ w'.cell? ⟨gb263, 3, none⟩ = some (.bool t260) ∧ w'.cell? ⟨gb263, 4, none⟩ = some (.bool t261) ∧ w'.cell? ⟨gb263, 5, none⟩ = some (.bool t262)) ∧ (w'.heap[gb263]? = some (.cells #[.bool t257, .bool t258, .bool t259, .bool t260, .bool t261, .bool t262] 40 (0, 0))) ∧ (w'.heap[gb270]? = some (.cells #[.bool t264, .bool t265, .bool t266, .bool t267, .bool t268, .bool t269] 40 (0, 0))) ∧ (w'.heap[gb278]? = some (.cells #[.bool t272, .bool t273, .bool t274, .bool t275, .bool t276, .bool t277] 40 (0, 0))) ∧ (w'.heap[s_]? = some (.cells #[.bool false, .bool false, .bool false, .bool false, .bool false, .bool false] 40 (0, 0))) ∧ (w.heap.size ≤ s_) ∧ (w.heap.size ≤ s_) ∧ (gb263 ≠ s_) ∧ (s_ ≠ gb263) ∧ (gb270 ≠ s_) ∧ (s_ ≠ gb270) ∧ (gb278 ≠ s_) ∧ (s_ ≠ gb278) ∧ (Below w.heap.size w w')) ?_ ?_
                              rotate_left
                              · intro hJ3_8
                                refine join_ (σ := Nat × Nat) 4 #[true, true, true, false, true, true, false, true, true, false, false] (fun s_ => [(9, .pointer (some ⟨s_.1, 0, none⟩)), (10, .pointer (some ⟨s_.2, 0, none⟩))]) (fun s_ w' => (w'.cell? ⟨gb263, 0, none⟩ = some (.bool t257) ∧ w'.cell? ⟨gb263, 1, none⟩ = some (.bool t258) ∧ w'.cell? ⟨gb263, 2, none⟩ = some (.bool t259) ∧ w'.cell? ⟨gb263, 3, none⟩ = some (.bool t260) ∧ w'.cell? ⟨gb263, 4, none⟩ = some (.bool t261) ∧ w'.cell? ⟨gb263, 5, none⟩ = some (.bool t262)) ∧ (w'.heap[gb263]? = some (.cells #[.bool t257, .bool t258, .bool t259, .bool t260, .bool t261, .bool t262] 40 (0, 0))) ∧ (w'.heap[gb270]? = some (.cells #[.bool t264, .bool t265, .bool t266, .bool t267, .bool t268, .bool t269] 40 (0, 0))) ∧ (w'.heap[gb278]? = some (.cells #[.bool t272, .bool t273, .bool t274, .bool t275, .bool t276, .bool t277] 40 (0, 0))) ∧ (w'.heap[s_.1]? = some (.cells #[.bool false, .bool false, .bool false, .bool false, .bool false, .bool false] 40 (0, 0))) ∧ (w'.heap[s_.2]? = some (.cells #[.bool false, .bool false, .bool false, .bool false, .bool false, .bool false] 40 (0, 0))) ∧ (w.heap.size ≤ s_.1) ∧ (w.heap.size ≤ s_.1) ∧ (gb263 ≠ s_.1) ∧ (s_.1 ≠ gb263) ∧ (gb270 ≠ s_.1) ∧ (s_.1 ≠ gb270) ∧ (gb278 ≠ s_.1) ∧ (s_.1 ≠ gb278) ∧ (s_.2 ≠ s_.1) ∧ (s_.1 ≠ s_.2) ∧ (w.heap.size ≤ s_.2) ∧ (w.heap.size ≤ s_.2) ∧ (gb263 ≠ s_.2) ∧ (s_.2 ≠ gb263) ∧ (gb270 ≠ s_.2) ∧ (s_.2 ≠ gb270) ∧ (gb278 ≠ s_.2) ∧ (s_.2 ≠ gb278) ∧ (Below w.heap.size w w')) ?_ ?_
                                rotate_left
                                · intro hJ7_8
                                  refine join_ (σ := Unit) 5 #[true, true, true, true, true, true, false, false, false, false, false] (fun s_ => [(33, .agg #[.bool t279, .bool t280, .bool t281, .bool t282, .bool t283, .bool t284])]) (fun s_ w' => (w'.cell? ⟨gb263, 0, none⟩ = some (.bool t257) ∧ w'.cell? ⟨gb263, 1, none⟩ = some (.bool t258) ∧ w'.cell? ⟨gb263, 2, none⟩ = some (.bool t259) ∧ w'.cell? ⟨gb263, 3, none⟩ = some (.bool t260) ∧ w'.cell? ⟨gb263, 4, none⟩ = some (.bool t261) ∧ w'.cell? ⟨gb263, 5, none⟩ = some (.bool t262)) ∧ (w'.heap[gb263]? = some (.cells #[.bool t257, .bool t258, .bool t259, .bool t260, .bool t261, .bool t262] 40 (0, 0))) ∧ (w'.heap[gb270]? = some (.cells #[.bool t264, .bool t265, .bool t266, .bool t267, .bool t268, .bool t269] 40 (0, 0))) ∧ (w'.heap[gb278]? = some (.cells #[.bool t272, .bool t273, .bool t274, .bool t275, .bool t276, .bool t277] 40 (0, 0))) ∧ (Below w.heap.size w w')) ?_ ?_
                                  rotate_left
                                  · intro hJ3
                                    refine join_ (σ := Nat) 5 #[true, true, true, false, true, true, false, true, false, false, false] (fun s_ => [(9, .pointer (some ⟨s_, 0, none⟩))]) (fun s_ w' => (w'.cell? ⟨gb263, 0, none⟩ = some (.bool t257) ∧ w'.cell? ⟨gb263, 1, none⟩ = some (.bool t258) ∧ w'.cell? ⟨gb263, 2, none⟩ = some (.bool t259) ∧ w'.cell? ⟨gb263, 3, none⟩ = some (.bool t260) ∧ w'.cell? ⟨gb263, 4, none⟩ = some (.bool t261) ∧ w'.cell? ⟨gb263, 5, none⟩ = some (.bool t262)) ∧ (w'.heap[gb263]? = some (.cells #[.bool t257, .bool t258, .bool t259, .bool t260, .bool t261, .bool t262] 40 (0, 0))) ∧ (w'.heap[gb270]? = some (.cells #[.bool t264, .bool t265, .bool t266, .bool t267, .bool t268, .bool t269] 40 (0, 0))) ∧ (w'.heap[gb278]? = some (.cells #[.bool t272, .bool t273, .bool t274, .bool t275, .bool t276, .bool t277] 40 (0, 0))) ∧ (w'.heap[s_]? = some (.cells #[.bool false, .bool false, .bool false, .bool false, .bool false, .bool false] 40 (0, 0))) ∧ (w.heap.size ≤ s_) ∧ (w.heap.size ≤ s_) ∧ (gb263 ≠ s_) ∧ (s_ ≠ gb263) ∧ (gb270 ≠ s_) ∧ (s_ ≠ gb270) ∧ (gb278 ≠ s_) ∧ (s_ ≠ gb278) ∧ (Below w.heap.size w w')) ?_ ?_
                                    rotate_left
                                    · intro hJ7
                                      refine join_ (σ := Nat) 5 #[true, true, true, false, true, true, false, false, true, false, false] (fun s_ => [(10, .pointer (some ⟨s_, 0, none⟩))]) (fun s_ w' => (w'.cell? ⟨gb263, 0, none⟩ = some (.bool t257) ∧ w'.cell? ⟨gb263, 1, none⟩ = some (.bool t258) ∧ w'.cell? ⟨gb263, 2, none⟩ = some (.bool t259) ∧ w'.cell? ⟨gb263, 3, none⟩ = some (.bool t260) ∧ w'.cell? ⟨gb263, 4, none⟩ = some (.bool t261) ∧ w'.cell? ⟨gb263, 5, none⟩ = some (.bool t262)) ∧ (w'.heap[gb263]? = some (.cells #[.bool t257, .bool t258, .bool t259, .bool t260, .bool t261, .bool t262] 40 (0, 0))) ∧ (w'.heap[gb270]? = some (.cells #[.bool t264, .bool t265, .bool t266, .bool t267, .bool t268, .bool t269] 40 (0, 0))) ∧ (w'.heap[gb278]? = some (.cells #[.bool t272, .bool t273, .bool t274, .bool t275, .bool t276, .bool t277] 40 (0, 0))) ∧ (w'.heap[s_]? = some (.cells #[.bool false, .bool false, .bool false, .bool false, .bool false, .bool false] 40 (0, 0))) ∧ (w.heap.size ≤ s_) ∧ (w.heap.size ≤ s_) ∧ (gb263 ≠ s_) ∧ (s_ ≠ gb263) ∧ (gb270 ≠ s_) ∧ (s_ ≠ gb270) ∧ (gb278 ≠ s_) ∧ (s_ ≠ gb278) ∧ (Below w.heap.size w w')) ?_ ?_
                                      rotate_left
                                      · intro hJ8
                                        refine three_ (i := 3) (j := 7) (k := 8) (Ni := some 33) (Nj := some 9) (Nk := some 10) #[true, true, true, true, true, true, false, false, false, false, false] #[true, true, true, false, true, true, false, true, false, false, false] #[true, true, true, false, true, true, false, false, true, false, false] rfl rfl rfl rfl rfl rfl (three_of HT_.out (by kernel_rfl)) (by decide) (by decide) (by decide) (fun K hK => ?_) (fun K hK => ?_) (fun K hK => ?_)
                                        · skip
                                          refine goes_ Try.func61 (by kernel_rfl) rfl #[.int .u8 t255, .int .u8 t256, .agg #[.bool t257, .bool t258, .bool t259, .bool t260, .bool t261, .bool t262]] (by rfl) rfl rfl (by (try simp only [List.map_toArray, List.map_cons, List.map_nil]); first | done | rfl | (simp only [List.length_drop, List.length_take]; rfl)) ?_
                                          with_reducible refine (impl_BitTest.calls t255 t256 t257 t258 t259 t260 t261 t262 t279 t280 t281 t282 t283 t284 _ A7.out).mono ?_
                                          rintro e w30 ⟨rfl, hb⟩
                                          refine ⟨_, rfl, ?_⟩
                                          have n0_ := Aside0.mk (blk_below (g := gb263) (o := .cells #[.bool t257, .bool t258, .bool t259, .bool t260, .bool t261, .bool t262] 40 (0, 0)) (by (with_reducible repeat (first | refine blk_drewN ?_ _ | refine blk_drew ?_ | refine blk_alloc ?_ _)); exact BK263.out) hb)
                                          have n1_ := Aside0.mk (blk_below (g := gb270) (o := .cells #[.bool t264, .bool t265, .bool t266, .bool t267, .bool t268, .bool t269] 40 (0, 0)) (by (with_reducible repeat (first | refine blk_drewN ?_ _ | refine blk_drew ?_ | refine blk_alloc ?_ _)); exact BK270.out) hb)
                                          have n2_ := Aside0.mk (blk_below (g := gb278) (o := .cells #[.bool t272, .bool t273, .bool t274, .bool t275, .bool t276, .bool t277] 40 (0, 0)) (by (with_reducible repeat (first | refine blk_drewN ?_ _ | refine blk_drew ?_ | refine blk_alloc ?_ _)); exact BK278.out) hb)
                                          have n3_ := Aside0.mk (below_step (by repeat (first | (with_reducible first | exact HB.out | apply below_alloc | apply pw_below_drewN | apply below_drew1 | refine below_set ?_ GE263.out | refine below_set ?_ GE270.out | refine below_set ?_ GE278.out) | exact HB.out)) hb)
                                          clear BK263
                                          clear BK270
                                          clear BK278
                                          clear HB
                                          have BK263 := n0_
                                          have BK270 := n1_
                                          have BK278 := n2_
                                          have HB := n3_
                                          clear n0_ n1_ n2_ n3_
                                          (try clear hb)
                                          (try clear hb2)
                                          (try clear hk)
                                          (try clear hi)
                                          refine hK.out _ _ ⟨(blk_cell BK263.out 0).trans rfl, (blk_cell BK263.out 1).trans rfl, (blk_cell BK263.out 2).trans rfl, (blk_cell BK263.out 3).trans rfl, (blk_cell BK263.out 4).trans rfl, (blk_cell BK263.out 5).trans rfl⟩ (fun hHeld => ?_)
                                          clear hK K
                                          refine norm_ (a' := ?_) ?_ ?_
                                          rotate_left
                                          · show Act.put _ (some 33) _ = _
                                            simp only [Act.put, List.setIfInBounds_toArray, List.set_cons_zero, List.set_cons_succ, i64_w, i32_w]
                                            rfl
                                          exact norm_ (by first | (simp only [putAll, Act.put, List.setIfInBounds_toArray, List.set_cons_zero, List.set_cons_succ]; done) | (simp only [putAll, Act.put, List.setIfInBounds_toArray, List.set_cons_zero, List.set_cons_succ]; rfl)) (hJ3 () _ ⟨hHeld, (by (with_reducible repeat (first | refine blk_drewN ?_ _ | refine blk_drew ?_ | refine blk_alloc ?_ _)); exact BK263.out), (by (with_reducible repeat (first | refine blk_drewN ?_ _ | refine blk_drew ?_ | refine blk_alloc ?_ _)); exact BK270.out), (by (with_reducible repeat (first | refine blk_drewN ?_ _ | refine blk_drew ?_ | refine blk_alloc ?_ _)); exact BK278.out), (by repeat (first | (with_reducible first | exact HB.out | apply below_alloc | apply pw_below_drewN | apply below_drew1 | refine below_set ?_ GE263.out | refine below_set ?_ GE270.out | refine below_set ?_ GE278.out) | exact HB.out))⟩)
                                        · skip
                                          refine box_step ?hg (N := 9) ?hd (cs := #[.bool false, .bool false, .bool false, .bool false, .bool false, .bool false]) (t := 40) ?hr ?_; (case hd => rfl); (case hg => rfl); (case hr => first | (go_simp; done) | (go_simp; rfl))
                                          intro gb291 hg w30 hbox hb
                                          have n0_ := Aside0.mk (blk_below (g := gb263) (o := .cells #[.bool t257, .bool t258, .bool t259, .bool t260, .bool t261, .bool t262] 40 (0, 0)) (by (with_reducible repeat (first | refine blk_drewN ?_ _ | refine blk_drew ?_ | refine blk_alloc ?_ _)); exact BK263.out) hb)
                                          have n1_ := Aside0.mk (blk_below (g := gb270) (o := .cells #[.bool t264, .bool t265, .bool t266, .bool t267, .bool t268, .bool t269] 40 (0, 0)) (by (with_reducible repeat (first | refine blk_drewN ?_ _ | refine blk_drew ?_ | refine blk_alloc ?_ _)); exact BK270.out) hb)
                                          have n2_ := Aside0.mk (blk_below (g := gb278) (o := .cells #[.bool t272, .bool t273, .bool t274, .bool t275, .bool t276, .bool t277] 40 (0, 0)) (by (with_reducible repeat (first | refine blk_drewN ?_ _ | refine blk_drew ?_ | refine blk_alloc ?_ _)); exact BK278.out) hb)
                                          have n3_ := Aside0.mk (below_step (by repeat (first | (with_reducible first | exact HB.out | apply below_alloc | apply pw_below_drewN | apply below_drew1 | refine below_set ?_ GE263.out | refine below_set ?_ GE270.out | refine below_set ?_ GE278.out) | exact HB.out)) hb)
                                          have n4_ := Aside0.mk (hbox)
                                          have n5_ := Aside0.mk ((by rw [hg]; exact (below_size (by repeat (first | (with_reducible first | exact HB.out | apply below_alloc | apply pw_below_drewN | apply below_drew1 | refine below_set ?_ GE263.out | refine below_set ?_ GE270.out | refine below_set ?_ GE278.out) | exact HB.out))) : w.heap.size ≤ gb291))
                                          have n6_ := Aside0.mk ((by rw [hg]; exact (below_size (by repeat (first | (with_reducible first | exact HB.out | apply below_alloc | apply pw_below_drewN | apply below_drew1 | refine below_set ?_ GE263.out | refine below_set ?_ GE270.out | refine below_set ?_ GE278.out) | exact HB.out))) : w.heap.size ≤ gb291))
                                          have n7_ := Aside0.mk ((by rw [hg]; exact Nat.ne_of_lt (blk_lt (g := gb263) (o := .cells #[.bool t257, .bool t258, .bool t259, .bool t260, .bool t261, .bool t262] 40 (0, 0)) (by (with_reducible repeat (first | refine blk_drewN ?_ _ | refine blk_drew ?_ | refine blk_alloc ?_ _)); exact BK263.out)) : gb263 ≠ gb291))
                                          have n8_ := Aside0.mk ((by rw [hg]; exact Nat.ne_of_gt (blk_lt (g := gb263) (o := .cells #[.bool t257, .bool t258, .bool t259, .bool t260, .bool t261, .bool t262] 40 (0, 0)) (by (with_reducible repeat (first | refine blk_drewN ?_ _ | refine blk_drew ?_ | refine blk_alloc ?_ _)); exact BK263.out)) : gb291 ≠ gb263))
                                          have n9_ := Aside0.mk ((by rw [hg]; exact Nat.ne_of_lt (blk_lt (g := gb270) (o := .cells #[.bool t264, .bool t265, .bool t266, .bool t267, .bool t268, .bool t269] 40 (0, 0)) (by (with_reducible repeat (first | refine blk_drewN ?_ _ | refine blk_drew ?_ | refine blk_alloc ?_ _)); exact BK270.out)) : gb270 ≠ gb291))
                                          have n10_ := Aside0.mk ((by rw [hg]; exact Nat.ne_of_gt (blk_lt (g := gb270) (o := .cells #[.bool t264, .bool t265, .bool t266, .bool t267, .bool t268, .bool t269] 40 (0, 0)) (by (with_reducible repeat (first | refine blk_drewN ?_ _ | refine blk_drew ?_ | refine blk_alloc ?_ _)); exact BK270.out)) : gb291 ≠ gb270))
                                          have n11_ := Aside0.mk ((by rw [hg]; exact Nat.ne_of_lt (blk_lt (g := gb278) (o := .cells #[.bool t272, .bool t273, .bool t274, .bool t275, .bool t276, .bool t277] 40 (0, 0)) (by (with_reducible repeat (first | refine blk_drewN ?_ _ | refine blk_drew ?_ | refine blk_alloc ?_ _)); exact BK278.out)) : gb278 ≠ gb291))
                                          have n12_ := Aside0.mk ((by rw [hg]; exact Nat.ne_of_gt (blk_lt (g := gb278) (o := .cells #[.bool t272, .bool t273, .bool t274, .bool t275, .bool t276, .bool t277] 40 (0, 0)) (by (with_reducible repeat (first | refine blk_drewN ?_ _ | refine blk_drew ?_ | refine blk_alloc ?_ _)); exact BK278.out)) : gb291 ≠ gb278))
                                          clear BK263
                                          clear BK270
                                          clear BK278
                                          clear HB
                                          have BK263 := n0_
                                          have BK270 := n1_
                                          have BK278 := n2_
                                          have HB := n3_
                                          have BK291 := n4_
                                          have GW291 := n5_
                                          have GE291 := n6_
                                          have NB263_291 := n7_
                                          have NB291_263 := n8_
                                          have NB270_291 := n9_
                                          have NB291_270 := n10_
                                          have NB278_291 := n11_
                                          have NB291_278 := n12_
                                          clear n0_ n1_ n2_ n3_ n4_ n5_ n6_ n7_ n8_ n9_ n10_ n11_ n12_
                                          clear hb hbox hg
                                          refine hK.out _ _ ⟨(blk_cell BK263.out 0).trans rfl, (blk_cell BK263.out 1).trans rfl, (blk_cell BK263.out 2).trans rfl, (blk_cell BK263.out 3).trans rfl, (blk_cell BK263.out 4).trans rfl, (blk_cell BK263.out 5).trans rfl⟩ (fun hHeld => ?_)
                                          clear hK K
                                          refine norm_ (a' := ?_) ?_ ?_
                                          rotate_left
                                          · show Act.put _ (some 9) _ = _
                                            simp only [Act.put, List.setIfInBounds_toArray, List.set_cons_zero, List.set_cons_succ, i64_w, i32_w]
                                            rfl
                                          exact norm_ (by first | (simp only [putAll, Act.put, List.setIfInBounds_toArray, List.set_cons_zero, List.set_cons_succ]; done) | (simp only [putAll, Act.put, List.setIfInBounds_toArray, List.set_cons_zero, List.set_cons_succ]; rfl)) (hJ7 (gb291) _ ⟨hHeld, (by (with_reducible repeat (first | refine blk_drewN ?_ _ | refine blk_drew ?_ | refine blk_alloc ?_ _)); exact BK263.out), (by (with_reducible repeat (first | refine blk_drewN ?_ _ | refine blk_drew ?_ | refine blk_alloc ?_ _)); exact BK270.out), (by (with_reducible repeat (first | refine blk_drewN ?_ _ | refine blk_drew ?_ | refine blk_alloc ?_ _)); exact BK278.out), (by (with_reducible repeat (first | refine blk_drewN ?_ _ | refine blk_drew ?_ | refine blk_alloc ?_ _)); exact BK291.out), GW291.out, GE291.out, NB263_291.out, NB291_263.out, NB270_291.out, NB291_270.out, NB278_291.out, NB291_278.out, (by repeat (first | (with_reducible first | exact HB.out | apply below_alloc | apply pw_below_drewN | apply below_drew1 | refine below_set ?_ GE263.out | refine below_set ?_ GE270.out | refine below_set ?_ GE278.out | refine below_set ?_ GE291.out) | exact HB.out))⟩)
                                        · skip
                                          refine box_step ?hg (N := 10) ?hd (cs := #[.bool false, .bool false, .bool false, .bool false, .bool false, .bool false]) (t := 40) ?hr ?_; (case hd => rfl); (case hg => rfl); (case hr => first | (go_simp; done) | (go_simp; rfl))
                                          intro gb292 hg w30 hbox hb
                                          have n0_ := Aside0.mk (blk_below (g := gb263) (o := .cells #[.bool t257, .bool t258, .bool t259, .bool t260, .bool t261, .bool t262] 40 (0, 0)) (by (with_reducible repeat (first | refine blk_drewN ?_ _ | refine blk_drew ?_ | refine blk_alloc ?_ _)); exact BK263.out) hb)
                                          have n1_ := Aside0.mk (blk_below (g := gb270) (o := .cells #[.bool t264, .bool t265, .bool t266, .bool t267, .bool t268, .bool t269] 40 (0, 0)) (by (with_reducible repeat (first | refine blk_drewN ?_ _ | refine blk_drew ?_ | refine blk_alloc ?_ _)); exact BK270.out) hb)
                                          have n2_ := Aside0.mk (blk_below (g := gb278) (o := .cells #[.bool t272, .bool t273, .bool t274, .bool t275, .bool t276, .bool t277] 40 (0, 0)) (by (with_reducible repeat (first | refine blk_drewN ?_ _ | refine blk_drew ?_ | refine blk_alloc ?_ _)); exact BK278.out) hb)
                                          have n3_ := Aside0.mk (below_step (by repeat (first | (with_reducible first | exact HB.out | apply below_alloc | apply pw_below_drewN | apply below_drew1 | refine below_set ?_ GE263.out | refine below_set ?_ GE270.out | refine below_set ?_ GE278.out) | exact HB.out)) hb)
                                          have n4_ := Aside0.mk (hbox)
                                          have n5_ := Aside0.mk ((by rw [hg]; exact (below_size (by repeat (first | (with_reducible first | exact HB.out | apply below_alloc | apply pw_below_drewN | apply below_drew1 | refine below_set ?_ GE263.out | refine below_set ?_ GE270.out | refine below_set ?_ GE278.out) | exact HB.out))) : w.heap.size ≤ gb292))
                                          have n6_ := Aside0.mk ((by rw [hg]; exact (below_size (by repeat (first | (with_reducible first | exact HB.out | apply below_alloc | apply pw_below_drewN | apply below_drew1 | refine below_set ?_ GE263.out | refine below_set ?_ GE270.out | refine below_set ?_ GE278.out) | exact HB.out))) : w.heap.size ≤ gb292))
                                          have n7_ := Aside0.mk ((by rw [hg]; exact Nat.ne_of_lt (blk_lt (g := gb263) (o := .cells #[.bool t257, .bool t258, .bool t259, .bool t260, .bool t261, .bool t262] 40 (0, 0)) (by (with_reducible repeat (first | refine blk_drewN ?_ _ | refine blk_drew ?_ | refine blk_alloc ?_ _)); exact BK263.out)) : gb263 ≠ gb292))
                                          have n8_ := Aside0.mk ((by rw [hg]; exact Nat.ne_of_gt (blk_lt (g := gb263) (o := .cells #[.bool t257, .bool t258, .bool t259, .bool t260, .bool t261, .bool t262] 40 (0, 0)) (by (with_reducible repeat (first | refine blk_drewN ?_ _ | refine blk_drew ?_ | refine blk_alloc ?_ _)); exact BK263.out)) : gb292 ≠ gb263))
                                          have n9_ := Aside0.mk ((by rw [hg]; exact Nat.ne_of_lt (blk_lt (g := gb270) (o := .cells #[.bool t264, .bool t265, .bool t266, .bool t267, .bool t268, .bool t269] 40 (0, 0)) (by (with_reducible repeat (first | refine blk_drewN ?_ _ | refine blk_drew ?_ | refine blk_alloc ?_ _)); exact BK270.out)) : gb270 ≠ gb292))
                                          have n10_ := Aside0.mk ((by rw [hg]; exact Nat.ne_of_gt (blk_lt (g := gb270) (o := .cells #[.bool t264, .bool t265, .bool t266, .bool t267, .bool t268, .bool t269] 40 (0, 0)) (by (with_reducible repeat (first | refine blk_drewN ?_ _ | refine blk_drew ?_ | refine blk_alloc ?_ _)); exact BK270.out)) : gb292 ≠ gb270))
                                          have n11_ := Aside0.mk ((by rw [hg]; exact Nat.ne_of_lt (blk_lt (g := gb278) (o := .cells #[.bool t272, .bool t273, .bool t274, .bool t275, .bool t276, .bool t277] 40 (0, 0)) (by (with_reducible repeat (first | refine blk_drewN ?_ _ | refine blk_drew ?_ | refine blk_alloc ?_ _)); exact BK278.out)) : gb278 ≠ gb292))
                                          have n12_ := Aside0.mk ((by rw [hg]; exact Nat.ne_of_gt (blk_lt (g := gb278) (o := .cells #[.bool t272, .bool t273, .bool t274, .bool t275, .bool t276, .bool t277] 40 (0, 0)) (by (with_reducible repeat (first | refine blk_drewN ?_ _ | refine blk_drew ?_ | refine blk_alloc ?_ _)); exact BK278.out)) : gb292 ≠ gb278))
                                          clear BK263
                                          clear BK270
                                          clear BK278
                                          clear HB
                                          have BK263 := n0_
                                          have BK270 := n1_
                                          have BK278 := n2_
                                          have HB := n3_
                                          have BK292 := n4_
                                          have GW292 := n5_
                                          have GE292 := n6_
                                          have NB263_292 := n7_
                                          have NB292_263 := n8_
                                          have NB270_292 := n9_
                                          have NB292_270 := n10_
                                          have NB278_292 := n11_
                                          have NB292_278 := n12_
                                          clear n0_ n1_ n2_ n3_ n4_ n5_ n6_ n7_ n8_ n9_ n10_ n11_ n12_
                                          clear hb hbox hg
                                          refine hK.out _ _ ⟨(blk_cell BK263.out 0).trans rfl, (blk_cell BK263.out 1).trans rfl, (blk_cell BK263.out 2).trans rfl, (blk_cell BK263.out 3).trans rfl, (blk_cell BK263.out 4).trans rfl, (blk_cell BK263.out 5).trans rfl⟩ (fun hHeld => ?_)
                                          clear hK K
                                          refine norm_ (a' := ?_) ?_ ?_
                                          rotate_left
                                          · show Act.put _ (some 10) _ = _
                                            simp only [Act.put, List.setIfInBounds_toArray, List.set_cons_zero, List.set_cons_succ, i64_w, i32_w]
                                            rfl
                                          exact norm_ (by first | (simp only [putAll, Act.put, List.setIfInBounds_toArray, List.set_cons_zero, List.set_cons_succ]; done) | (simp only [putAll, Act.put, List.setIfInBounds_toArray, List.set_cons_zero, List.set_cons_succ]; rfl)) (hJ8 (gb292) _ ⟨hHeld, (by (with_reducible repeat (first | refine blk_drewN ?_ _ | refine blk_drew ?_ | refine blk_alloc ?_ _)); exact BK263.out), (by (with_reducible repeat (first | refine blk_drewN ?_ _ | refine blk_drew ?_ | refine blk_alloc ?_ _)); exact BK270.out), (by (with_reducible repeat (first | refine blk_drewN ?_ _ | refine blk_drew ?_ | refine blk_alloc ?_ _)); exact BK278.out), (by (with_reducible repeat (first | refine blk_drewN ?_ _ | refine blk_drew ?_ | refine blk_alloc ?_ _)); exact BK292.out), GW292.out, GE292.out, NB263_292.out, NB292_263.out, NB270_292.out, NB292_270.out, NB278_292.out, NB292_278.out, (by repeat (first | (with_reducible first | exact HB.out | apply below_alloc | apply pw_below_drewN | apply below_drew1 | refine below_set ?_ GE263.out | refine below_set ?_ GE270.out | refine below_set ?_ GE278.out | refine below_set ?_ GE292.out) | exact HB.out))⟩)
                                      · skip
                                        rintro gb292 w31 ⟨hS_, h0_, h1_, h2_, h3_, h4_, h5_, h6_, h7_, h8_, h9_, h10_, h11_, h12_⟩
                                        have n0_ : Aside0 (w31.heap[gb263]? = some (.cells #[.bool t257, .bool t258, .bool t259, .bool t260, .bool t261, .bool t262] 40 (0, 0))) := ⟨h0_⟩
                                        have n1_ : Aside0 (w31.heap[gb270]? = some (.cells #[.bool t264, .bool t265, .bool t266, .bool t267, .bool t268, .bool t269] 40 (0, 0))) := ⟨h1_⟩
                                        have n2_ : Aside0 (w31.heap[gb278]? = some (.cells #[.bool t272, .bool t273, .bool t274, .bool t275, .bool t276, .bool t277] 40 (0, 0))) := ⟨h2_⟩
                                        have n3_ : Aside0 (w31.heap[gb292]? = some (.cells #[.bool false, .bool false, .bool false, .bool false, .bool false, .bool false] 40 (0, 0))) := ⟨h3_⟩
                                        have n4_ : Aside0 (w.heap.size ≤ gb292) := ⟨h4_⟩
                                        have n5_ : Aside0 (w.heap.size ≤ gb292) := ⟨h5_⟩
                                        have n6_ : Aside0 (gb263 ≠ gb292) := ⟨h6_⟩
                                        have n7_ : Aside0 (gb292 ≠ gb263) := ⟨h7_⟩
                                        have n8_ : Aside0 (gb270 ≠ gb292) := ⟨h8_⟩
                                        have n9_ : Aside0 (gb292 ≠ gb270) := ⟨h9_⟩
                                        have n10_ : Aside0 (gb278 ≠ gb292) := ⟨h10_⟩
                                        have n11_ : Aside0 (gb292 ≠ gb278) := ⟨h11_⟩
                                        have n12_ : Aside0 (Below w.heap.size w w31) := ⟨h12_⟩
                                        clear BK263
                                        clear BK270
                                        clear BK278
                                        clear HB
                                        clear h0_ h1_ h2_ h3_ h4_ h5_ h6_ h7_ h8_ h9_ h10_ h11_ h12_
                                        have BK263 := n0_
                                        have BK270 := n1_
                                        have BK278 := n2_
                                        have BK292 := n3_
                                        have GW292 := n4_
                                        have GE292 := n5_
                                        have NB263_292 := n6_
                                        have NB292_263 := n7_
                                        have NB270_292 := n8_
                                        have NB292_270 := n9_
                                        have NB278_292 := n10_
                                        have NB292_278 := n11_
                                        have HB := n12_
                                        clear n0_ n1_ n2_ n3_ n4_ n5_ n6_ n7_ n8_ n9_ n10_ n11_ n12_
                                        have hHeld : w31.cell? ⟨gb263, 0, none⟩ = some (.bool t257) ∧ w31.cell? ⟨gb263, 1, none⟩ = some (.bool t258) ∧ w31.cell? ⟨gb263, 2, none⟩ = some (.bool t259) ∧ w31.cell? ⟨gb263, 3, none⟩ = some (.bool t260) ∧ w31.cell? ⟨gb263, 4, none⟩ = some (.bool t261) ∧ w31.cell? ⟨gb263, 5, none⟩ = some (.bool t262) := hS_
                                        refine norm_ (a' := ?_) ?_ ?_
                                        rotate_left
                                        · simp only [putAll, Act.put, List.setIfInBounds_toArray, List.set_cons_zero, List.set_cons_succ]
                                          rfl
                                        refine two_ (i := 3) (j := 7) (Ni := some 33) (Nj := some 9) #[true, true, true, true, true, true, false, false, true, false, false] #[true, true, true, false, true, true, false, true, true, false, false] rfl rfl rfl rfl (two_of HT_.out (by kernel_rfl)) (by decide) (by decide) (fun K hK => ?_) (fun K hK => ?_)
                                        · skip
                                          refine goes_ Try.func61 (by kernel_rfl) rfl #[.int .u8 t255, .int .u8 t256, .agg #[.bool t257, .bool t258, .bool t259, .bool t260, .bool t261, .bool t262]] (by rfl) rfl rfl (by (try simp only [List.map_toArray, List.map_cons, List.map_nil]); first | done | rfl | (simp only [List.length_drop, List.length_take]; rfl)) ?_
                                          with_reducible refine (impl_BitTest.calls t255 t256 t257 t258 t259 t260 t261 t262 t279 t280 t281 t282 t283 t284 _ A7.out).mono ?_
                                          rintro e w32 ⟨rfl, hb⟩
                                          refine ⟨_, rfl, ?_⟩
                                          have n0_ := Aside0.mk (blk_below (g := gb263) (o := .cells #[.bool t257, .bool t258, .bool t259, .bool t260, .bool t261, .bool t262] 40 (0, 0)) (by (with_reducible repeat (first | refine blk_drewN ?_ _ | refine blk_drew ?_ | refine blk_alloc ?_ _)); exact BK263.out) hb)
                                          have n1_ := Aside0.mk (blk_below (g := gb270) (o := .cells #[.bool t264, .bool t265, .bool t266, .bool t267, .bool t268, .bool t269] 40 (0, 0)) (by (with_reducible repeat (first | refine blk_drewN ?_ _ | refine blk_drew ?_ | refine blk_alloc ?_ _)); exact BK270.out) hb)
                                          have n2_ := Aside0.mk (blk_below (g := gb278) (o := .cells #[.bool t272, .bool t273, .bool t274, .bool t275, .bool t276, .bool t277] 40 (0, 0)) (by (with_reducible repeat (first | refine blk_drewN ?_ _ | refine blk_drew ?_ | refine blk_alloc ?_ _)); exact BK278.out) hb)
                                          have n3_ := Aside0.mk (blk_below (g := gb292) (o := .cells #[.bool false, .bool false, .bool false, .bool false, .bool false, .bool false] 40 (0, 0)) (by (with_reducible repeat (first | refine blk_drewN ?_ _ | refine blk_drew ?_ | refine blk_alloc ?_ _)); exact BK292.out) hb)
                                          have n4_ := Aside0.mk (below_step (by repeat (first | (with_reducible first | exact HB.out | apply below_alloc | apply pw_below_drewN | apply below_drew1 | refine below_set ?_ GE263.out | refine below_set ?_ GE270.out | refine below_set ?_ GE278.out | refine below_set ?_ GE292.out) | exact HB.out)) hb)
                                          clear BK263
                                          clear BK270
                                          clear BK278
                                          clear BK292
                                          clear HB
                                          have BK263 := n0_
                                          have BK270 := n1_
                                          have BK278 := n2_
                                          have BK292 := n3_
                                          have HB := n4_
                                          clear n0_ n1_ n2_ n3_ n4_
                                          (try clear hb)
                                          (try clear hb2)
                                          (try clear hk)
                                          (try clear hi)
                                          refine hK.out _ _ ⟨(blk_cell BK263.out 0).trans rfl, (blk_cell BK263.out 1).trans rfl, (blk_cell BK263.out 2).trans rfl, (blk_cell BK263.out 3).trans rfl, (blk_cell BK263.out 4).trans rfl, (blk_cell BK263.out 5).trans rfl⟩ (fun hHeld => ?_)
                                          clear hK K
                                          refine norm_ (a' := ?_) ?_ ?_
                                          rotate_left
                                          · show Act.put _ (some 33) _ = _
                                            simp only [Act.put, List.setIfInBounds_toArray, List.set_cons_zero, List.set_cons_succ, i64_w, i32_w]
                                            rfl
                                          exact norm_ (by first | (simp only [putAll, Act.put, List.setIfInBounds_toArray, List.set_cons_zero, List.set_cons_succ]; done) | (simp only [putAll, Act.put, List.setIfInBounds_toArray, List.set_cons_zero, List.set_cons_succ]; rfl)) (hJ3_8 (gb292) _ ⟨hHeld, (by (with_reducible repeat (first | refine blk_drewN ?_ _ | refine blk_drew ?_ | refine blk_alloc ?_ _)); exact BK263.out), (by (with_reducible repeat (first | refine blk_drewN ?_ _ | refine blk_drew ?_ | refine blk_alloc ?_ _)); exact BK270.out), (by (with_reducible repeat (first | refine blk_drewN ?_ _ | refine blk_drew ?_ | refine blk_alloc ?_ _)); exact BK278.out), (by (with_reducible repeat (first | refine blk_drewN ?_ _ | refine blk_drew ?_ | refine blk_alloc ?_ _)); exact BK292.out), GW292.out, GE292.out, NB263_292.out, NB292_263.out, NB270_292.out, NB292_270.out, NB278_292.out, NB292_278.out, (by repeat (first | (with_reducible first | exact HB.out | apply below_alloc | apply pw_below_drewN | apply below_drew1 | refine below_set ?_ GE263.out | refine below_set ?_ GE270.out | refine below_set ?_ GE278.out | refine below_set ?_ GE292.out) | exact HB.out))⟩)
                                        · skip
                                          refine box_step ?hg (N := 9) ?hd (cs := #[.bool false, .bool false, .bool false, .bool false, .bool false, .bool false]) (t := 40) ?hr ?_; (case hd => rfl); (case hg => rfl); (case hr => first | (go_simp; done) | (go_simp; rfl))
                                          intro gb291 hg w32 hbox hb
                                          have n0_ := Aside0.mk (blk_below (g := gb263) (o := .cells #[.bool t257, .bool t258, .bool t259, .bool t260, .bool t261, .bool t262] 40 (0, 0)) (by (with_reducible repeat (first | refine blk_drewN ?_ _ | refine blk_drew ?_ | refine blk_alloc ?_ _)); exact BK263.out) hb)
                                          have n1_ := Aside0.mk (blk_below (g := gb270) (o := .cells #[.bool t264, .bool t265, .bool t266, .bool t267, .bool t268, .bool t269] 40 (0, 0)) (by (with_reducible repeat (first | refine blk_drewN ?_ _ | refine blk_drew ?_ | refine blk_alloc ?_ _)); exact BK270.out) hb)
                                          have n2_ := Aside0.mk (blk_below (g := gb278) (o := .cells #[.bool t272, .bool t273, .bool t274, .bool t275, .bool t276, .bool t277] 40 (0, 0)) (by (with_reducible repeat (first | refine blk_drewN ?_ _ | refine blk_drew ?_ | refine blk_alloc ?_ _)); exact BK278.out) hb)
                                          have n3_ := Aside0.mk (blk_below (g := gb292) (o := .cells #[.bool false, .bool false, .bool false, .bool false, .bool false, .bool false] 40 (0, 0)) (by (with_reducible repeat (first | refine blk_drewN ?_ _ | refine blk_drew ?_ | refine blk_alloc ?_ _)); exact BK292.out) hb)
                                          have n4_ := Aside0.mk (below_step (by repeat (first | (with_reducible first | exact HB.out | apply below_alloc | apply pw_below_drewN | apply below_drew1 | refine below_set ?_ GE263.out | refine below_set ?_ GE270.out | refine below_set ?_ GE278.out | refine below_set ?_ GE292.out) | exact HB.out)) hb)
                                          have n5_ := Aside0.mk (hbox)
                                          have n6_ := Aside0.mk ((by rw [hg]; exact (below_size (by repeat (first | (with_reducible first | exact HB.out | apply below_alloc | apply pw_below_drewN | apply below_drew1 | refine below_set ?_ GE263.out | refine below_set ?_ GE270.out | refine below_set ?_ GE278.out | refine below_set ?_ GE292.out) | exact HB.out))) : w.heap.size ≤ gb291))
                                          have n7_ := Aside0.mk ((by rw [hg]; exact (below_size (by repeat (first | (with_reducible first | exact HB.out | apply below_alloc | apply pw_below_drewN | apply below_drew1 | refine below_set ?_ GE263.out | refine below_set ?_ GE270.out | refine below_set ?_ GE278.out | refine below_set ?_ GE292.out) | exact HB.out))) : w.heap.size ≤ gb291))
                                          have n8_ := Aside0.mk ((by rw [hg]; exact Nat.ne_of_lt (blk_lt (g := gb263) (o := .cells #[.bool t257, .bool t258, .bool t259, .bool t260, .bool t261, .bool t262] 40 (0, 0)) (by (with_reducible repeat (first | refine blk_drewN ?_ _ | refine blk_drew ?_ | refine blk_alloc ?_ _)); exact BK263.out)) : gb263 ≠ gb291))
                                          have n9_ := Aside0.mk ((by rw [hg]; exact Nat.ne_of_gt (blk_lt (g := gb263) (o := .cells #[.bool t257, .bool t258, .bool t259, .bool t260, .bool t261, .bool t262] 40 (0, 0)) (by (with_reducible repeat (first | refine blk_drewN ?_ _ | refine blk_drew ?_ | refine blk_alloc ?_ _)); exact BK263.out)) : gb291 ≠ gb263))
                                          have n10_ := Aside0.mk ((by rw [hg]; exact Nat.ne_of_lt (blk_lt (g := gb270) (o := .cells #[.bool t264, .bool t265, .bool t266, .bool t267, .bool t268, .bool t269] 40 (0, 0)) (by (with_reducible repeat (first | refine blk_drewN ?_ _ | refine blk_drew ?_ | refine blk_alloc ?_ _)); exact BK270.out)) : gb270 ≠ gb291))
                                          have n11_ := Aside0.mk ((by rw [hg]; exact Nat.ne_of_gt (blk_lt (g := gb270) (o := .cells #[.bool t264, .bool t265, .bool t266, .bool t267, .bool t268, .bool t269] 40 (0, 0)) (by (with_reducible repeat (first | refine blk_drewN ?_ _ | refine blk_drew ?_ | refine blk_alloc ?_ _)); exact BK270.out)) : gb291 ≠ gb270))
                                          have n12_ := Aside0.mk ((by rw [hg]; exact Nat.ne_of_lt (blk_lt (g := gb278) (o := .cells #[.bool t272, .bool t273, .bool t274, .bool t275, .bool t276, .bool t277] 40 (0, 0)) (by (with_reducible repeat (first | refine blk_drewN ?_ _ | refine blk_drew ?_ | refine blk_alloc ?_ _)); exact BK278.out)) : gb278 ≠ gb291))
                                          have n13_ := Aside0.mk ((by rw [hg]; exact Nat.ne_of_gt (blk_lt (g := gb278) (o := .cells #[.bool t272, .bool t273, .bool t274, .bool t275, .bool t276, .bool t277] 40 (0, 0)) (by (with_reducible repeat (first | refine blk_drewN ?_ _ | refine blk_drew ?_ | refine blk_alloc ?_ _)); exact BK278.out)) : gb291 ≠ gb278))
                                          have n14_ := Aside0.mk ((by rw [hg]; exact Nat.ne_of_lt (blk_lt (g := gb292) (o := .cells #[.bool false, .bool false, .bool false, .bool false, .bool false, .bool false] 40 (0, 0)) (by (with_reducible repeat (first | refine blk_drewN ?_ _ | refine blk_drew ?_ | refine blk_alloc ?_ _)); exact BK292.out)) : gb292 ≠ gb291))
                                          have n15_ := Aside0.mk ((by rw [hg]; exact Nat.ne_of_gt (blk_lt (g := gb292) (o := .cells #[.bool false, .bool false, .bool false, .bool false, .bool false, .bool false] 40 (0, 0)) (by (with_reducible repeat (first | refine blk_drewN ?_ _ | refine blk_drew ?_ | refine blk_alloc ?_ _)); exact BK292.out)) : gb291 ≠ gb292))
                                          clear BK263
                                          clear BK270
                                          clear BK278
                                          clear BK292
                                          clear HB
                                          have BK263 := n0_
                                          have BK270 := n1_
                                          have BK278 := n2_
                                          have BK292 := n3_
                                          have HB := n4_
                                          have BK291 := n5_
                                          have GW291 := n6_
                                          have GE291 := n7_
                                          have NB263_291 := n8_
                                          have NB291_263 := n9_
                                          have NB270_291 := n10_
                                          have NB291_270 := n11_
                                          have NB278_291 := n12_
                                          have NB291_278 := n13_
                                          have NB292_291 := n14_
                                          have NB291_292 := n15_
                                          clear n0_ n1_ n2_ n3_ n4_ n5_ n6_ n7_ n8_ n9_ n10_ n11_ n12_ n13_ n14_ n15_
                                          clear hb hbox hg
                                          refine hK.out _ _ ⟨(blk_cell BK263.out 0).trans rfl, (blk_cell BK263.out 1).trans rfl, (blk_cell BK263.out 2).trans rfl, (blk_cell BK263.out 3).trans rfl, (blk_cell BK263.out 4).trans rfl, (blk_cell BK263.out 5).trans rfl⟩ (fun hHeld => ?_)
                                          clear hK K
                                          refine norm_ (a' := ?_) ?_ ?_
                                          rotate_left
                                          · show Act.put _ (some 9) _ = _
                                            simp only [Act.put, List.setIfInBounds_toArray, List.set_cons_zero, List.set_cons_succ, i64_w, i32_w]
                                            rfl
                                          exact norm_ (by first | (simp only [putAll, Act.put, List.setIfInBounds_toArray, List.set_cons_zero, List.set_cons_succ]; done) | (simp only [putAll, Act.put, List.setIfInBounds_toArray, List.set_cons_zero, List.set_cons_succ]; rfl)) (hJ7_8 (gb291, gb292) _ ⟨hHeld, (by (with_reducible repeat (first | refine blk_drewN ?_ _ | refine blk_drew ?_ | refine blk_alloc ?_ _)); exact BK263.out), (by (with_reducible repeat (first | refine blk_drewN ?_ _ | refine blk_drew ?_ | refine blk_alloc ?_ _)); exact BK270.out), (by (with_reducible repeat (first | refine blk_drewN ?_ _ | refine blk_drew ?_ | refine blk_alloc ?_ _)); exact BK278.out), (by (with_reducible repeat (first | refine blk_drewN ?_ _ | refine blk_drew ?_ | refine blk_alloc ?_ _)); exact BK291.out), (by (with_reducible repeat (first | refine blk_drewN ?_ _ | refine blk_drew ?_ | refine blk_alloc ?_ _)); exact BK292.out), GW291.out, GE291.out, NB263_291.out, NB291_263.out, NB270_291.out, NB291_270.out, NB278_291.out, NB291_278.out, NB292_291.out, NB291_292.out, GW292.out, GE292.out, NB263_292.out, NB292_263.out, NB270_292.out, NB292_270.out, NB278_292.out, NB292_278.out, (by repeat (first | (with_reducible first | exact HB.out | apply below_alloc | apply pw_below_drewN | apply below_drew1 | refine below_set ?_ GE263.out | refine below_set ?_ GE270.out | refine below_set ?_ GE278.out | refine below_set ?_ GE292.out | refine below_set ?_ GE291.out) | exact HB.out))⟩)
                                    · skip
                                      rintro gb291 w31 ⟨hS_, h0_, h1_, h2_, h3_, h4_, h5_, h6_, h7_, h8_, h9_, h10_, h11_, h12_⟩
                                      have n0_ : Aside0 (w31.heap[gb263]? = some (.cells #[.bool t257, .bool t258, .bool t259, .bool t260, .bool t261, .bool t262] 40 (0, 0))) := ⟨h0_⟩
                                      have n1_ : Aside0 (w31.heap[gb270]? = some (.cells #[.bool t264, .bool t265, .bool t266, .bool t267, .bool t268, .bool t269] 40 (0, 0))) := ⟨h1_⟩
                                      have n2_ : Aside0 (w31.heap[gb278]? = some (.cells #[.bool t272, .bool t273, .bool t274, .bool t275, .bool t276, .bool t277] 40 (0, 0))) := ⟨h2_⟩
                                      have n3_ : Aside0 (w31.heap[gb291]? = some (.cells #[.bool false, .bool false, .bool false, .bool false, .bool false, .bool false] 40 (0, 0))) := ⟨h3_⟩
                                      have n4_ : Aside0 (w.heap.size ≤ gb291) := ⟨h4_⟩
                                      have n5_ : Aside0 (w.heap.size ≤ gb291) := ⟨h5_⟩
                                      have n6_ : Aside0 (gb263 ≠ gb291) := ⟨h6_⟩
                                      have n7_ : Aside0 (gb291 ≠ gb263) := ⟨h7_⟩
                                      have n8_ : Aside0 (gb270 ≠ gb291) := ⟨h8_⟩
                                      have n9_ : Aside0 (gb291 ≠ gb270) := ⟨h9_⟩
                                      have n10_ : Aside0 (gb278 ≠ gb291) := ⟨h10_⟩
                                      have n11_ : Aside0 (gb291 ≠ gb278) := ⟨h11_⟩
                                      have n12_ : Aside0 (Below w.heap.size w w31) := ⟨h12_⟩
                                      clear BK263
                                      clear BK270
                                      clear BK278
                                      clear HB
                                      clear h0_ h1_ h2_ h3_ h4_ h5_ h6_ h7_ h8_ h9_ h10_ h11_ h12_
                                      have BK263 := n0_
                                      have BK270 := n1_
                                      have BK278 := n2_
                                      have BK291 := n3_
                                      have GW291 := n4_
                                      have GE291 := n5_
                                      have NB263_291 := n6_
                                      have NB291_263 := n7_
                                      have NB270_291 := n8_
                                      have NB291_270 := n9_
                                      have NB278_291 := n10_
                                      have NB291_278 := n11_
                                      have HB := n12_
                                      clear n0_ n1_ n2_ n3_ n4_ n5_ n6_ n7_ n8_ n9_ n10_ n11_ n12_
                                      have hHeld : w31.cell? ⟨gb263, 0, none⟩ = some (.bool t257) ∧ w31.cell? ⟨gb263, 1, none⟩ = some (.bool t258) ∧ w31.cell? ⟨gb263, 2, none⟩ = some (.bool t259) ∧ w31.cell? ⟨gb263, 3, none⟩ = some (.bool t260) ∧ w31.cell? ⟨gb263, 4, none⟩ = some (.bool t261) ∧ w31.cell? ⟨gb263, 5, none⟩ = some (.bool t262) := hS_
                                      refine norm_ (a' := ?_) ?_ ?_
                                      rotate_left
                                      · simp only [putAll, Act.put, List.setIfInBounds_toArray, List.set_cons_zero, List.set_cons_succ]
                                        rfl
                                      refine two_ (i := 3) (j := 8) (Ni := some 33) (Nj := some 10) #[true, true, true, true, true, true, false, true, false, false, false] #[true, true, true, false, true, true, false, true, true, false, false] rfl rfl rfl rfl (two_of HT_.out (by kernel_rfl)) (by decide) (by decide) (fun K hK => ?_) (fun K hK => ?_)
                                      · skip
                                        refine goes_ Try.func61 (by kernel_rfl) rfl #[.int .u8 t255, .int .u8 t256, .agg #[.bool t257, .bool t258, .bool t259, .bool t260, .bool t261, .bool t262]] (by rfl) rfl rfl (by (try simp only [List.map_toArray, List.map_cons, List.map_nil]); first | done | rfl | (simp only [List.length_drop, List.length_take]; rfl)) ?_
                                        with_reducible refine (impl_BitTest.calls t255 t256 t257 t258 t259 t260 t261 t262 t279 t280 t281 t282 t283 t284 _ A7.out).mono ?_
                                        rintro e w32 ⟨rfl, hb⟩
                                        refine ⟨_, rfl, ?_⟩
                                        have n0_ := Aside0.mk (blk_below (g := gb263) (o := .cells #[.bool t257, .bool t258, .bool t259, .bool t260, .bool t261, .bool t262] 40 (0, 0)) (by (with_reducible repeat (first | refine blk_drewN ?_ _ | refine blk_drew ?_ | refine blk_alloc ?_ _)); exact BK263.out) hb)
                                        have n1_ := Aside0.mk (blk_below (g := gb270) (o := .cells #[.bool t264, .bool t265, .bool t266, .bool t267, .bool t268, .bool t269] 40 (0, 0)) (by (with_reducible repeat (first | refine blk_drewN ?_ _ | refine blk_drew ?_ | refine blk_alloc ?_ _)); exact BK270.out) hb)
                                        have n2_ := Aside0.mk (blk_below (g := gb278) (o := .cells #[.bool t272, .bool t273, .bool t274, .bool t275, .bool t276, .bool t277] 40 (0, 0)) (by (with_reducible repeat (first | refine blk_drewN ?_ _ | refine blk_drew ?_ | refine blk_alloc ?_ _)); exact BK278.out) hb)
                                        have n3_ := Aside0.mk (blk_below (g := gb291) (o := .cells #[.bool false, .bool false, .bool false, .bool false, .bool false, .bool false] 40 (0, 0)) (by (with_reducible repeat (first | refine blk_drewN ?_ _ | refine blk_drew ?_ | refine blk_alloc ?_ _)); exact BK291.out) hb)
                                        have n4_ := Aside0.mk (below_step (by repeat (first | (with_reducible first | exact HB.out | apply below_alloc | apply pw_below_drewN | apply below_drew1 | refine below_set ?_ GE263.out | refine below_set ?_ GE270.out | refine below_set ?_ GE278.out | refine below_set ?_ GE291.out) | exact HB.out)) hb)
                                        clear BK263
                                        clear BK270
                                        clear BK278
                                        clear BK291
                                        clear HB
                                        have BK263 := n0_
                                        have BK270 := n1_
                                        have BK278 := n2_
                                        have BK291 := n3_
                                        have HB := n4_
                                        clear n0_ n1_ n2_ n3_ n4_
                                        (try clear hb)
                                        (try clear hb2)
                                        (try clear hk)
                                        (try clear hi)
                                        refine hK.out _ _ ⟨(blk_cell BK263.out 0).trans rfl, (blk_cell BK263.out 1).trans rfl, (blk_cell BK263.out 2).trans rfl, (blk_cell BK263.out 3).trans rfl, (blk_cell BK263.out 4).trans rfl, (blk_cell BK263.out 5).trans rfl⟩ (fun hHeld => ?_)
                                        clear hK K
                                        refine norm_ (a' := ?_) ?_ ?_
                                        rotate_left
                                        · show Act.put _ (some 33) _ = _
                                          simp only [Act.put, List.setIfInBounds_toArray, List.set_cons_zero, List.set_cons_succ, i64_w, i32_w]
                                          rfl
                                        exact norm_ (by first | (simp only [putAll, Act.put, List.setIfInBounds_toArray, List.set_cons_zero, List.set_cons_succ]; done) | (simp only [putAll, Act.put, List.setIfInBounds_toArray, List.set_cons_zero, List.set_cons_succ]; rfl)) (hJ3_7 (gb291) _ ⟨hHeld, (by (with_reducible repeat (first | refine blk_drewN ?_ _ | refine blk_drew ?_ | refine blk_alloc ?_ _)); exact BK263.out), (by (with_reducible repeat (first | refine blk_drewN ?_ _ | refine blk_drew ?_ | refine blk_alloc ?_ _)); exact BK270.out), (by (with_reducible repeat (first | refine blk_drewN ?_ _ | refine blk_drew ?_ | refine blk_alloc ?_ _)); exact BK278.out), (by (with_reducible repeat (first | refine blk_drewN ?_ _ | refine blk_drew ?_ | refine blk_alloc ?_ _)); exact BK291.out), GW291.out, GE291.out, NB263_291.out, NB291_263.out, NB270_291.out, NB291_270.out, NB278_291.out, NB291_278.out, (by repeat (first | (with_reducible first | exact HB.out | apply below_alloc | apply pw_below_drewN | apply below_drew1 | refine below_set ?_ GE263.out | refine below_set ?_ GE270.out | refine below_set ?_ GE278.out | refine below_set ?_ GE291.out) | exact HB.out))⟩)
                                      · skip
                                        refine box_step ?hg (N := 10) ?hd (cs := #[.bool false, .bool false, .bool false, .bool false, .bool false, .bool false]) (t := 40) ?hr ?_; (case hd => rfl); (case hg => rfl); (case hr => first | (go_simp; done) | (go_simp; rfl))
                                        intro gb292 hg w32 hbox hb
                                        have n0_ := Aside0.mk (blk_below (g := gb263) (o := .cells #[.bool t257, .bool t258, .bool t259, .bool t260, .bool t261, .bool t262] 40 (0, 0)) (by (with_reducible repeat (first | refine blk_drewN ?_ _ | refine blk_drew ?_ | refine blk_alloc ?_ _)); exact BK263.out) hb)
                                        have n1_ := Aside0.mk (blk_below (g := gb270) (o := .cells #[.bool t264, .bool t265, .bool t266, .bool t267, .bool t268, .bool t269] 40 (0, 0)) (by (with_reducible repeat (first | refine blk_drewN ?_ _ | refine blk_drew ?_ | refine blk_alloc ?_ _)); exact BK270.out) hb)
                                        have n2_ := Aside0.mk (blk_below (g := gb278) (o := .cells #[.bool t272, .bool t273, .bool t274, .bool t275, .bool t276, .bool t277] 40 (0, 0)) (by (with_reducible repeat (first | refine blk_drewN ?_ _ | refine blk_drew ?_ | refine blk_alloc ?_ _)); exact BK278.out) hb)
                                        have n3_ := Aside0.mk (blk_below (g := gb291) (o := .cells #[.bool false, .bool false, .bool false, .bool false, .bool false, .bool false] 40 (0, 0)) (by (with_reducible repeat (first | refine blk_drewN ?_ _ | refine blk_drew ?_ | refine blk_alloc ?_ _)); exact BK291.out) hb)
                                        have n4_ := Aside0.mk (below_step (by repeat (first | (with_reducible first | exact HB.out | apply below_alloc | apply pw_below_drewN | apply below_drew1 | refine below_set ?_ GE263.out | refine below_set ?_ GE270.out | refine below_set ?_ GE278.out | refine below_set ?_ GE291.out) | exact HB.out)) hb)
                                        have n5_ := Aside0.mk (hbox)
                                        have n6_ := Aside0.mk ((by rw [hg]; exact (below_size (by repeat (first | (with_reducible first | exact HB.out | apply below_alloc | apply pw_below_drewN | apply below_drew1 | refine below_set ?_ GE263.out | refine below_set ?_ GE270.out | refine below_set ?_ GE278.out | refine below_set ?_ GE291.out) | exact HB.out))) : w.heap.size ≤ gb292))
                                        have n7_ := Aside0.mk ((by rw [hg]; exact (below_size (by repeat (first | (with_reducible first | exact HB.out | apply below_alloc | apply pw_below_drewN | apply below_drew1 | refine below_set ?_ GE263.out | refine below_set ?_ GE270.out | refine below_set ?_ GE278.out | refine below_set ?_ GE291.out) | exact HB.out))) : w.heap.size ≤ gb292))
                                        have n8_ := Aside0.mk ((by rw [hg]; exact Nat.ne_of_lt (blk_lt (g := gb263) (o := .cells #[.bool t257, .bool t258, .bool t259, .bool t260, .bool t261, .bool t262] 40 (0, 0)) (by (with_reducible repeat (first | refine blk_drewN ?_ _ | refine blk_drew ?_ | refine blk_alloc ?_ _)); exact BK263.out)) : gb263 ≠ gb292))
                                        have n9_ := Aside0.mk ((by rw [hg]; exact Nat.ne_of_gt (blk_lt (g := gb263) (o := .cells #[.bool t257, .bool t258, .bool t259, .bool t260, .bool t261, .bool t262] 40 (0, 0)) (by (with_reducible repeat (first | refine blk_drewN ?_ _ | refine blk_drew ?_ | refine blk_alloc ?_ _)); exact BK263.out)) : gb292 ≠ gb263))
                                        have n10_ := Aside0.mk ((by rw [hg]; exact Nat.ne_of_lt (blk_lt (g := gb270) (o := .cells #[.bool t264, .bool t265, .bool t266, .bool t267, .bool t268, .bool t269] 40 (0, 0)) (by (with_reducible repeat (first | refine blk_drewN ?_ _ | refine blk_drew ?_ | refine blk_alloc ?_ _)); exact BK270.out)) : gb270 ≠ gb292))
                                        have n11_ := Aside0.mk ((by rw [hg]; exact Nat.ne_of_gt (blk_lt (g := gb270) (o := .cells #[.bool t264, .bool t265, .bool t266, .bool t267, .bool t268, .bool t269] 40 (0, 0)) (by (with_reducible repeat (first | refine blk_drewN ?_ _ | refine blk_drew ?_ | refine blk_alloc ?_ _)); exact BK270.out)) : gb292 ≠ gb270))
                                        have n12_ := Aside0.mk ((by rw [hg]; exact Nat.ne_of_lt (blk_lt (g := gb278) (o := .cells #[.bool t272, .bool t273, .bool t274, .bool t275, .bool t276, .bool t277] 40 (0, 0)) (by (with_reducible repeat (first | refine blk_drewN ?_ _ | refine blk_drew ?_ | refine blk_alloc ?_ _)); exact BK278.out)) : gb278 ≠ gb292))
                                        have n13_ := Aside0.mk ((by rw [hg]; exact Nat.ne_of_gt (blk_lt (g := gb278) (o := .cells #[.bool t272, .bool t273, .bool t274, .bool t275, .bool t276, .bool t277] 40 (0, 0)) (by (with_reducible repeat (first | refine blk_drewN ?_ _ | refine blk_drew ?_ | refine blk_alloc ?_ _)); exact BK278.out)) : gb292 ≠ gb278))
                                        have n14_ := Aside0.mk ((by rw [hg]; exact Nat.ne_of_lt (blk_lt (g := gb291) (o := .cells #[.bool false, .bool false, .bool false, .bool false, .bool false, .bool false] 40 (0, 0)) (by (with_reducible repeat (first | refine blk_drewN ?_ _ | refine blk_drew ?_ | refine blk_alloc ?_ _)); exact BK291.out)) : gb291 ≠ gb292))
                                        have n15_ := Aside0.mk ((by rw [hg]; exact Nat.ne_of_gt (blk_lt (g := gb291) (o := .cells #[.bool false, .bool false, .bool false, .bool false, .bool false, .bool false] 40 (0, 0)) (by (with_reducible repeat (first | refine blk_drewN ?_ _ | refine blk_drew ?_ | refine blk_alloc ?_ _)); exact BK291.out)) : gb292 ≠ gb291))
                                        clear BK263
                                        clear BK270
                                        clear BK278
                                        clear BK291
                                        clear HB
                                        have BK263 := n0_
                                        have BK270 := n1_
                                        have BK278 := n2_
                                        have BK291 := n3_
                                        have HB := n4_
                                        have BK292 := n5_
                                        have GW292 := n6_
                                        have GE292 := n7_
                                        have NB263_292 := n8_
                                        have NB292_263 := n9_
                                        have NB270_292 := n10_
                                        have NB292_270 := n11_
                                        have NB278_292 := n12_
                                        have NB292_278 := n13_
                                        have NB291_292 := n14_
                                        have NB292_291 := n15_
                                        clear n0_ n1_ n2_ n3_ n4_ n5_ n6_ n7_ n8_ n9_ n10_ n11_ n12_ n13_ n14_ n15_
                                        clear hb hbox hg
                                        refine hK.out _ _ ⟨(blk_cell BK263.out 0).trans rfl, (blk_cell BK263.out 1).trans rfl, (blk_cell BK263.out 2).trans rfl, (blk_cell BK263.out 3).trans rfl, (blk_cell BK263.out 4).trans rfl, (blk_cell BK263.out 5).trans rfl⟩ (fun hHeld => ?_)
                                        clear hK K
                                        refine norm_ (a' := ?_) ?_ ?_
                                        rotate_left
                                        · show Act.put _ (some 10) _ = _
                                          simp only [Act.put, List.setIfInBounds_toArray, List.set_cons_zero, List.set_cons_succ, i64_w, i32_w]
                                          rfl
                                        exact norm_ (by first | (simp only [putAll, Act.put, List.setIfInBounds_toArray, List.set_cons_zero, List.set_cons_succ]; done) | (simp only [putAll, Act.put, List.setIfInBounds_toArray, List.set_cons_zero, List.set_cons_succ]; rfl)) (hJ7_8 (gb291, gb292) _ ⟨hHeld, (by (with_reducible repeat (first | refine blk_drewN ?_ _ | refine blk_drew ?_ | refine blk_alloc ?_ _)); exact BK263.out), (by (with_reducible repeat (first | refine blk_drewN ?_ _ | refine blk_drew ?_ | refine blk_alloc ?_ _)); exact BK270.out), (by (with_reducible repeat (first | refine blk_drewN ?_ _ | refine blk_drew ?_ | refine blk_alloc ?_ _)); exact BK278.out), (by (with_reducible repeat (first | refine blk_drewN ?_ _ | refine blk_drew ?_ | refine blk_alloc ?_ _)); exact BK291.out), (by (with_reducible repeat (first | refine blk_drewN ?_ _ | refine blk_drew ?_ | refine blk_alloc ?_ _)); exact BK292.out), GW291.out, GE291.out, NB263_291.out, NB291_263.out, NB270_291.out, NB291_270.out, NB278_291.out, NB291_278.out, NB292_291.out, NB291_292.out, GW292.out, GE292.out, NB263_292.out, NB292_263.out, NB270_292.out, NB292_270.out, NB278_292.out, NB292_278.out, (by repeat (first | (with_reducible first | exact HB.out | apply below_alloc | apply pw_below_drewN | apply below_drew1 | refine below_set ?_ GE263.out | refine below_set ?_ GE270.out | refine below_set ?_ GE278.out | refine below_set ?_ GE291.out | refine below_set ?_ GE292.out) | exact HB.out))⟩)
                                  · skip
                                    rintro _ w31 ⟨hS_, h0_, h1_, h2_, h3_⟩
                                    have n0_ : Aside0 (w31.heap[gb263]? = some (.cells #[.bool t257, .bool t258, .bool t259, .bool t260, .bool t261, .bool t262] 40 (0, 0))) := ⟨h0_⟩
                                    have n1_ : Aside0 (w31.heap[gb270]? = some (.cells #[.bool t264, .bool t265, .bool t266, .bool t267, .bool t268, .bool t269] 40 (0, 0))) := ⟨h1_⟩
                                    have n2_ : Aside0 (w31.heap[gb278]? = some (.cells #[.bool t272, .bool t273, .bool t274, .bool t275, .bool t276, .bool t277] 40 (0, 0))) := ⟨h2_⟩
                                    have n3_ : Aside0 (Below w.heap.size w w31) := ⟨h3_⟩
                                    clear BK263
                                    clear BK270
                                    clear BK278
                                    clear HB
                                    clear h0_ h1_ h2_ h3_
                                    have BK263 := n0_
                                    have BK270 := n1_
                                    have BK278 := n2_
                                    have HB := n3_
                                    clear n0_ n1_ n2_ n3_
                                    have hHeld : w31.cell? ⟨gb263, 0, none⟩ = some (.bool t257) ∧ w31.cell? ⟨gb263, 1, none⟩ = some (.bool t258) ∧ w31.cell? ⟨gb263, 2, none⟩ = some (.bool t259) ∧ w31.cell? ⟨gb263, 3, none⟩ = some (.bool t260) ∧ w31.cell? ⟨gb263, 4, none⟩ = some (.bool t261) ∧ w31.cell? ⟨gb263, 5, none⟩ = some (.bool t262) := hS_
                                    refine norm_ (a' := ?_) ?_ ?_
                                    rotate_left
                                    · simp only [putAll, Act.put, List.setIfInBounds_toArray, List.set_cons_zero, List.set_cons_succ]
                                      rfl
                                    refine three_ (i := 6) (j := 7) (k := 8) (Ni := some 36) (Nj := some 9) (Nk := some 10) #[true, true, true, true, true, true, true, false, false, false, false] #[true, true, true, true, true, true, false, true, false, false, false] #[true, true, true, true, true, true, false, false, true, false, false] rfl rfl rfl rfl rfl rfl (three_of HT_.out (by kernel_rfl)) (by decide) (by decide) (by decide) (fun K hK => ?_) (fun K hK => ?_) (fun K hK => ?_)
                                    · skip
                                      refine goes_ Try.func62 (by kernel_rfl) rfl #[.int .u8 t271, .agg #[.bool t257, .bool t258, .bool t259, .bool t260, .bool t261, .bool t262]] (by rfl) rfl rfl (by (try simp only [List.map_toArray, List.map_cons, List.map_nil]); first | done | rfl | (simp only [List.length_drop, List.length_take]; rfl)) ?_
                                      with_reducible refine (impl_NZ.calls t271 t257 t258 t259 t260 t261 t262 t285 t286 t287 t288 t289 t290 _ A8.out).mono ?_
                                      rintro e w32 ⟨rfl, hb⟩
                                      refine ⟨_, rfl, ?_⟩
                                      have n0_ := Aside0.mk (blk_below (g := gb263) (o := .cells #[.bool t257, .bool t258, .bool t259, .bool t260, .bool t261, .bool t262] 40 (0, 0)) (by (with_reducible repeat (first | refine blk_drewN ?_ _ | refine blk_drew ?_ | refine blk_alloc ?_ _)); exact BK263.out) hb)
                                      have n1_ := Aside0.mk (blk_below (g := gb270) (o := .cells #[.bool t264, .bool t265, .bool t266, .bool t267, .bool t268, .bool t269] 40 (0, 0)) (by (with_reducible repeat (first | refine blk_drewN ?_ _ | refine blk_drew ?_ | refine blk_alloc ?_ _)); exact BK270.out) hb)
                                      have n2_ := Aside0.mk (blk_below (g := gb278) (o := .cells #[.bool t272, .bool t273, .bool t274, .bool t275, .bool t276, .bool t277] 40 (0, 0)) (by (with_reducible repeat (first | refine blk_drewN ?_ _ | refine blk_drew ?_ | refine blk_alloc ?_ _)); exact BK278.out) hb)
                                      have n3_ := Aside0.mk (below_step (by repeat (first | (with_reducible first | exact HB.out | apply below_alloc | apply pw_below_drewN | apply below_drew1 | refine below_set ?_ GE263.out | refine below_set ?_ GE270.out | refine below_set ?_ GE278.out) | exact HB.out)) hb)
                                      clear BK263
                                      clear BK270
                                      clear BK278
                                      clear HB
                                      have BK263 := n0_
                                      have BK270 := n1_
                                      have BK278 := n2_
                                      have HB := n3_
                                      clear n0_ n1_ n2_ n3_
                                      (try clear hb)
                                      (try clear hb2)
                                      (try clear hk)
                                      (try clear hi)
                                      refine hK.out _ _ ⟨(blk_cell BK263.out 0).trans rfl, (blk_cell BK263.out 1).trans rfl, (blk_cell BK263.out 2).trans rfl, (blk_cell BK263.out 3).trans rfl, (blk_cell BK263.out 4).trans rfl, (blk_cell BK263.out 5).trans rfl⟩ (fun hHeld => ?_)
                                      clear hK K
                                      refine norm_ (a' := ?_) ?_ ?_
                                      rotate_left
                                      · show Act.put _ (some 36) _ = _
                                        simp only [Act.put, List.setIfInBounds_toArray, List.set_cons_zero, List.set_cons_succ, i64_w, i32_w]
                                        rfl
                                      exact norm_ (by first | (simp only [putAll, Act.put, List.setIfInBounds_toArray, List.set_cons_zero, List.set_cons_succ]; done) | (simp only [putAll, Act.put, List.setIfInBounds_toArray, List.set_cons_zero, List.set_cons_succ]; rfl)) (hJ3_6 () _ ⟨hHeld, (by (with_reducible repeat (first | refine blk_drewN ?_ _ | refine blk_drew ?_ | refine blk_alloc ?_ _)); exact BK263.out), (by (with_reducible repeat (first | refine blk_drewN ?_ _ | refine blk_drew ?_ | refine blk_alloc ?_ _)); exact BK270.out), (by (with_reducible repeat (first | refine blk_drewN ?_ _ | refine blk_drew ?_ | refine blk_alloc ?_ _)); exact BK278.out), (by repeat (first | (with_reducible first | exact HB.out | apply below_alloc | apply pw_below_drewN | apply below_drew1 | refine below_set ?_ GE263.out | refine below_set ?_ GE270.out | refine below_set ?_ GE278.out) | exact HB.out))⟩)
                                    · skip
                                      refine box_step ?hg (N := 9) ?hd (cs := #[.bool false, .bool false, .bool false, .bool false, .bool false, .bool false]) (t := 40) ?hr ?_; (case hd => rfl); (case hg => rfl); (case hr => first | (go_simp; done) | (go_simp; rfl))
                                      intro gb291 hg w32 hbox hb
                                      have n0_ := Aside0.mk (blk_below (g := gb263) (o := .cells #[.bool t257, .bool t258, .bool t259, .bool t260, .bool t261, .bool t262] 40 (0, 0)) (by (with_reducible repeat (first | refine blk_drewN ?_ _ | refine blk_drew ?_ | refine blk_alloc ?_ _)); exact BK263.out) hb)
                                      have n1_ := Aside0.mk (blk_below (g := gb270) (o := .cells #[.bool t264, .bool t265, .bool t266, .bool t267, .bool t268, .bool t269] 40 (0, 0)) (by (with_reducible repeat (first | refine blk_drewN ?_ _ | refine blk_drew ?_ | refine blk_alloc ?_ _)); exact BK270.out) hb)
                                      have n2_ := Aside0.mk (blk_below (g := gb278) (o := .cells #[.bool t272, .bool t273, .bool t274, .bool t275, .bool t276, .bool t277] 40 (0, 0)) (by (with_reducible repeat (first | refine blk_drewN ?_ _ | refine blk_drew ?_ | refine blk_alloc ?_ _)); exact BK278.out) hb)
                                      have n3_ := Aside0.mk (below_step (by repeat (first | (with_reducible first | exact HB.out | apply below_alloc | apply pw_below_drewN | apply below_drew1 | refine below_set ?_ GE263.out | refine below_set ?_ GE270.out | refine below_set ?_ GE278.out) | exact HB.out)) hb)
                                      have n4_ := Aside0.mk (hbox)
                                      have n5_ := Aside0.mk ((by rw [hg]; exact (below_size (by repeat (first | (with_reducible first | exact HB.out | apply below_alloc | apply pw_below_drewN | apply below_drew1 | refine below_set ?_ GE263.out | refine below_set ?_ GE270.out | refine below_set ?_ GE278.out) | exact HB.out))) : w.heap.size ≤ gb291))
                                      have n6_ := Aside0.mk ((by rw [hg]; exact (below_size (by repeat (first | (with_reducible first | exact HB.out | apply below_alloc | apply pw_below_drewN | apply below_drew1 | refine below_set ?_ GE263.out | refine below_set ?_ GE270.out | refine below_set ?_ GE278.out) | exact HB.out))) : w.heap.size ≤ gb291))
                                      have n7_ := Aside0.mk ((by rw [hg]; exact Nat.ne_of_lt (blk_lt (g := gb263) (o := .cells #[.bool t257, .bool t258, .bool t259, .bool t260, .bool t261, .bool t262] 40 (0, 0)) (by (with_reducible repeat (first | refine blk_drewN ?_ _ | refine blk_drew ?_ | refine blk_alloc ?_ _)); exact BK263.out)) : gb263 ≠ gb291))
                                      have n8_ := Aside0.mk ((by rw [hg]; exact Nat.ne_of_gt (blk_lt (g := gb263) (o := .cells #[.bool t257, .bool t258, .bool t259, .bool t260, .bool t261, .bool t262] 40 (0, 0)) (by (with_reducible repeat (first | refine blk_drewN ?_ _ | refine blk_drew ?_ | refine blk_alloc ?_ _)); exact BK263.out)) : gb291 ≠ gb263))
                                      have n9_ := Aside0.mk ((by rw [hg]; exact Nat.ne_of_lt (blk_lt (g := gb270) (o := .cells #[.bool t264, .bool t265, .bool t266, .bool t267, .bool t268, .bool t269] 40 (0, 0)) (by (with_reducible repeat (first | refine blk_drewN ?_ _ | refine blk_drew ?_ | refine blk_alloc ?_ _)); exact BK270.out)) : gb270 ≠ gb291))
                                      have n10_ := Aside0.mk ((by rw [hg]; exact Nat.ne_of_gt (blk_lt (g := gb270) (o := .cells #[.bool t264, .bool t265, .bool t266, .bool t267, .bool t268, .bool t269] 40 (0, 0)) (by (with_reducible repeat (first | refine blk_drewN ?_ _ | refine blk_drew ?_ | refine blk_alloc ?_ _)); exact BK270.out)) : gb291 ≠ gb270))
                                      have n11_ := Aside0.mk ((by rw [hg]; exact Nat.ne_of_lt (blk_lt (g := gb278) (o := .cells #[.bool t272, .bool t273, .bool t274, .bool t275, .bool t276, .bool t277] 40 (0, 0)) (by (with_reducible repeat (first | refine blk_drewN ?_ _ | refine blk_drew ?_ | refine blk_alloc ?_ _)); exact BK278.out)) : gb278 ≠ gb291))
                                      have n12_ := Aside0.mk ((by rw [hg]; exact Nat.ne_of_gt (blk_lt (g := gb278) (o := .cells #[.bool t272, .bool t273, .bool t274, .bool t275, .bool t276, .bool t277] 40 (0, 0)) (by (with_reducible repeat (first | refine blk_drewN ?_ _ | refine blk_drew ?_ | refine blk_alloc ?_ _)); exact BK278.out)) : gb291 ≠ gb278))
                                      clear BK263
                                      clear BK270
                                      clear BK278
                                      clear HB
                                      have BK263 := n0_
                                      have BK270 := n1_
                                      have BK278 := n2_
                                      have HB := n3_
                                      have BK291 := n4_
                                      have GW291 := n5_
                                      have GE291 := n6_
                                      have NB263_291 := n7_
                                      have NB291_263 := n8_
                                      have NB270_291 := n9_
                                      have NB291_270 := n10_
                                      have NB278_291 := n11_
                                      have NB291_278 := n12_
                                      clear n0_ n1_ n2_ n3_ n4_ n5_ n6_ n7_ n8_ n9_ n10_ n11_ n12_
                                      clear hb hbox hg
                                      refine hK.out _ _ ⟨(blk_cell BK263.out 0).trans rfl, (blk_cell BK263.out 1).trans rfl, (blk_cell BK263.out 2).trans rfl, (blk_cell BK263.out 3).trans rfl, (blk_cell BK263.out 4).trans rfl, (blk_cell BK263.out 5).trans rfl⟩ (fun hHeld => ?_)
                                      clear hK K
                                      refine norm_ (a' := ?_) ?_ ?_
                                      rotate_left
                                      · show Act.put _ (some 9) _ = _
                                        simp only [Act.put, List.setIfInBounds_toArray, List.set_cons_zero, List.set_cons_succ, i64_w, i32_w]
                                        rfl
                                      exact norm_ (by first | (simp only [putAll, Act.put, List.setIfInBounds_toArray, List.set_cons_zero, List.set_cons_succ]; done) | (simp only [putAll, Act.put, List.setIfInBounds_toArray, List.set_cons_zero, List.set_cons_succ]; rfl)) (hJ3_7 (gb291) _ ⟨hHeld, (by (with_reducible repeat (first | refine blk_drewN ?_ _ | refine blk_drew ?_ | refine blk_alloc ?_ _)); exact BK263.out), (by (with_reducible repeat (first | refine blk_drewN ?_ _ | refine blk_drew ?_ | refine blk_alloc ?_ _)); exact BK270.out), (by (with_reducible repeat (first | refine blk_drewN ?_ _ | refine blk_drew ?_ | refine blk_alloc ?_ _)); exact BK278.out), (by (with_reducible repeat (first | refine blk_drewN ?_ _ | refine blk_drew ?_ | refine blk_alloc ?_ _)); exact BK291.out), GW291.out, GE291.out, NB263_291.out, NB291_263.out, NB270_291.out, NB291_270.out, NB278_291.out, NB291_278.out, (by repeat (first | (with_reducible first | exact HB.out | apply below_alloc | apply pw_below_drewN | apply below_drew1 | refine below_set ?_ GE263.out | refine below_set ?_ GE270.out | refine below_set ?_ GE278.out | refine below_set ?_ GE291.out) | exact HB.out))⟩)
                                    · skip
                                      refine box_step ?hg (N := 10) ?hd (cs := #[.bool false, .bool false, .bool false, .bool false, .bool false, .bool false]) (t := 40) ?hr ?_; (case hd => rfl); (case hg => rfl); (case hr => first | (go_simp; done) | (go_simp; rfl))
                                      intro gb292 hg w32 hbox hb
                                      have n0_ := Aside0.mk (blk_below (g := gb263) (o := .cells #[.bool t257, .bool t258, .bool t259, .bool t260, .bool t261, .bool t262] 40 (0, 0)) (by (with_reducible repeat (first | refine blk_drewN ?_ _ | refine blk_drew ?_ | refine blk_alloc ?_ _)); exact BK263.out) hb)
                                      have n1_ := Aside0.mk (blk_below (g := gb270) (o := .cells #[.bool t264, .bool t265, .bool t266, .bool t267, .bool t268, .bool t269] 40 (0, 0)) (by (with_reducible repeat (first | refine blk_drewN ?_ _ | refine blk_drew ?_ | refine blk_alloc ?_ _)); exact BK270.out) hb)
                                      have n2_ := Aside0.mk (blk_below (g := gb278) (o := .cells #[.bool t272, .bool t273, .bool t274, .bool t275, .bool t276, .bool t277] 40 (0, 0)) (by (with_reducible repeat (first | refine blk_drewN ?_ _ | refine blk_drew ?_ | refine blk_alloc ?_ _)); exact BK278.out) hb)
                                      have n3_ := Aside0.mk (below_step (by repeat (first | (with_reducible first | exact HB.out | apply below_alloc | apply pw_below_drewN | apply below_drew1 | refine below_set ?_ GE263.out | refine below_set ?_ GE270.out | refine below_set ?_ GE278.out) | exact HB.out)) hb)
                                      have n4_ := Aside0.mk (hbox)
                                      have n5_ := Aside0.mk ((by rw [hg]; exact (below_size (by repeat (first | (with_reducible first | exact HB.out | apply below_alloc | apply pw_below_drewN | apply below_drew1 | refine below_set ?_ GE263.out | refine below_set ?_ GE270.out | refine below_set ?_ GE278.out) | exact HB.out))) : w.heap.size ≤ gb292))
                                      have n6_ := Aside0.mk ((by rw [hg]; exact (below_size (by repeat (first | (with_reducible first | exact HB.out | apply below_alloc | apply pw_below_drewN | apply below_drew1 | refine below_set ?_ GE263.out | refine below_set ?_ GE270.out | refine below_set ?_ GE278.out) | exact HB.out))) : w.heap.size ≤ gb292))
                                      have n7_ := Aside0.mk ((by rw [hg]; exact Nat.ne_of_lt (blk_lt (g := gb263) (o := .cells #[.bool t257, .bool t258, .bool t259, .bool t260, .bool t261, .bool t262] 40 (0, 0)) (by (with_reducible repeat (first | refine blk_drewN ?_ _ | refine blk_drew ?_ | refine blk_alloc ?_ _)); exact BK263.out)) : gb263 ≠ gb292))
                                      have n8_ := Aside0.mk ((by rw [hg]; exact Nat.ne_of_gt (blk_lt (g := gb263) (o := .cells #[.bool t257, .bool t258, .bool t259, .bool t260, .bool t261, .bool t262] 40 (0, 0)) (by (with_reducible repeat (first | refine blk_drewN ?_ _ | refine blk_drew ?_ | refine blk_alloc ?_ _)); exact BK263.out)) : gb292 ≠ gb263))
                                      have n9_ := Aside0.mk ((by rw [hg]; exact Nat.ne_of_lt (blk_lt (g := gb270) (o := .cells #[.bool t264, .bool t265, .bool t266, .bool t267, .bool t268, .bool t269] 40 (0, 0)) (by (with_reducible repeat (first | refine blk_drewN ?_ _ | refine blk_drew ?_ | refine blk_alloc ?_ _)); exact BK270.out)) : gb270 ≠ gb292))
                                      have n10_ := Aside0.mk ((by rw [hg]; exact Nat.ne_of_gt (blk_lt (g := gb270) (o := .cells #[.bool t264, .bool t265, .bool t266, .bool t267, .bool t268, .bool t269] 40 (0, 0)) (by (with_reducible repeat (first | refine blk_drewN ?_ _ | refine blk_drew ?_ | refine blk_alloc ?_ _)); exact BK270.out)) : gb292 ≠ gb270))
                                      have n11_ := Aside0.mk ((by rw [hg]; exact Nat.ne_of_lt (blk_lt (g := gb278) (o := .cells #[.bool t272, .bool t273, .bool t274, .bool t275, .bool t276, .bool t277] 40 (0, 0)) (by (with_reducible repeat (first | refine blk_drewN ?_ _ | refine blk_drew ?_ | refine blk_alloc ?_ _)); exact BK278.out)) : gb278 ≠ gb292))
                                      have n12_ := Aside0.mk ((by rw [hg]; exact Nat.ne_of_gt (blk_lt (g := gb278) (o := .cells #[.bool t272, .bool t273, .bool t274, .bool t275, .bool t276, .bool t277] 40 (0, 0)) (by (with_reducible repeat (first | refine blk_drewN ?_ _ | refine blk_drew ?_ | refine blk_alloc ?_ _)); exact BK278.out)) : gb292 ≠ gb278))
                                      clear BK263
                                      clear BK270
                                      clear BK278
                                      clear HB
                                      have BK263 := n0_
                                      have BK270 := n1_
                                      have BK278 := n2_
                                      have HB := n3_
                                      have BK292 := n4_
                                      have GW292 := n5_
                                      have GE292 := n6_
                                      have NB263_292 := n7_
                                      have NB292_263 := n8_
                                      have NB270_292 := n9_
                                      have NB292_270 := n10_
                                      have NB278_292 := n11_
                                      have NB292_278 := n12_
                                      clear n0_ n1_ n2_ n3_ n4_ n5_ n6_ n7_ n8_ n9_ n10_ n11_ n12_
                                      clear hb hbox hg
                                      refine hK.out _ _ ⟨(blk_cell BK263.out 0).trans rfl, (blk_cell BK263.out 1).trans rfl, (blk_cell BK263.out 2).trans rfl, (blk_cell BK263.out 3).trans rfl, (blk_cell BK263.out 4).trans rfl, (blk_cell BK263.out 5).trans rfl⟩ (fun hHeld => ?_)
                                      clear hK K
                                      refine norm_ (a' := ?_) ?_ ?_
                                      rotate_left
                                      · show Act.put _ (some 10) _ = _
                                        simp only [Act.put, List.setIfInBounds_toArray, List.set_cons_zero, List.set_cons_succ, i64_w, i32_w]
                                        rfl
                                      exact norm_ (by first | (simp only [putAll, Act.put, List.setIfInBounds_toArray, List.set_cons_zero, List.set_cons_succ]; done) | (simp only [putAll, Act.put, List.setIfInBounds_toArray, List.set_cons_zero, List.set_cons_succ]; rfl)) (hJ3_8 (gb292) _ ⟨hHeld, (by (with_reducible repeat (first | refine blk_drewN ?_ _ | refine blk_drew ?_ | refine blk_alloc ?_ _)); exact BK263.out), (by (with_reducible repeat (first | refine blk_drewN ?_ _ | refine blk_drew ?_ | refine blk_alloc ?_ _)); exact BK270.out), (by (with_reducible repeat (first | refine blk_drewN ?_ _ | refine blk_drew ?_ | refine blk_alloc ?_ _)); exact BK278.out), (by (with_reducible repeat (first | refine blk_drewN ?_ _ | refine blk_drew ?_ | refine blk_alloc ?_ _)); exact BK292.out), GW292.out, GE292.out, NB263_292.out, NB292_263.out, NB270_292.out, NB292_270.out, NB278_292.out, NB292_278.out, (by repeat (first | (with_reducible first | exact HB.out | apply below_alloc | apply pw_below_drewN | apply below_drew1 | refine below_set ?_ GE263.out | refine below_set ?_ GE270.out | refine below_set ?_ GE278.out | refine below_set ?_ GE292.out) | exact HB.out))⟩)
                                · skip
                                  rintro ⟨gb291, gb292⟩ w32 ⟨hS_, h0_, h1_, h2_, h3_, h4_, h5_, h6_, h7_, h8_, h9_, h10_, h11_, h12_, h13_, h14_, h15_, h16_, h17_, h18_, h19_, h20_, h21_, h22_, h23_⟩
                                  have n0_ : Aside0 (w32.heap[gb263]? = some (.cells #[.bool t257, .bool t258, .bool t259, .bool t260, .bool t261, .bool t262] 40 (0, 0))) := ⟨h0_⟩
                                  have n1_ : Aside0 (w32.heap[gb270]? = some (.cells #[.bool t264, .bool t265, .bool t266, .bool t267, .bool t268, .bool t269] 40 (0, 0))) := ⟨h1_⟩
                                  have n2_ : Aside0 (w32.heap[gb278]? = some (.cells #[.bool t272, .bool t273, .bool t274, .bool t275, .bool t276, .bool t277] 40 (0, 0))) := ⟨h2_⟩
                                  have n3_ : Aside0 (w32.heap[gb291]? = some (.cells #[.bool false, .bool false, .bool false, .bool false, .bool false, .bool false] 40 (0, 0))) := ⟨h3_⟩
                                  have n4_ : Aside0 (w32.heap[gb292]? = some (.cells #[.bool false, .bool false, .bool false, .bool false, .bool false, .bool false] 40 (0, 0))) := ⟨h4_⟩
                                  have n5_ : Aside0 (w.heap.size ≤ gb291) := ⟨h5_⟩
                                  have n6_ : Aside0 (w.heap.size ≤ gb291) := ⟨h6_⟩
                                  have n7_ : Aside0 (gb263 ≠ gb291) := ⟨h7_⟩
                                  have n8_ : Aside0 (gb291 ≠ gb263) := ⟨h8_⟩
                                  have n9_ : Aside0 (gb270 ≠ gb291) := ⟨h9_⟩
                                  have n10_ : Aside0 (gb291 ≠ gb270) := ⟨h10_⟩
                                  have n11_ : Aside0 (gb278 ≠ gb291) := ⟨h11_⟩
                                  have n12_ : Aside0 (gb291 ≠ gb278) := ⟨h12_⟩
                                  have n13_ : Aside0 (gb292 ≠ gb291) := ⟨h13_⟩
                                  have n14_ : Aside0 (gb291 ≠ gb292) := ⟨h14_⟩
                                  have n15_ : Aside0 (w.heap.size ≤ gb292) := ⟨h15_⟩
                                  have n16_ : Aside0 (w.heap.size ≤ gb292) := ⟨h16_⟩
                                  have n17_ : Aside0 (gb263 ≠ gb292) := ⟨h17_⟩
                                  have n18_ : Aside0 (gb292 ≠ gb263) := ⟨h18_⟩
                                  have n19_ : Aside0 (gb270 ≠ gb292) := ⟨h19_⟩
                                  have n20_ : Aside0 (gb292 ≠ gb270) := ⟨h20_⟩
                                  have n21_ : Aside0 (gb278 ≠ gb292) := ⟨h21_⟩
                                  have n22_ : Aside0 (gb292 ≠ gb278) := ⟨h22_⟩
                                  have n23_ : Aside0 (Below w.heap.size w w32) := ⟨h23_⟩
                                  clear BK263
                                  clear BK270
                                  clear BK278
                                  clear HB
                                  clear h0_ h1_ h2_ h3_ h4_ h5_ h6_ h7_ h8_ h9_ h10_ h11_ h12_ h13_ h14_ h15_ h16_ h17_ h18_ h19_ h20_ h21_ h22_ h23_
                                  have BK263 := n0_
                                  have BK270 := n1_
                                  have BK278 := n2_
                                  have BK291 := n3_
                                  have BK292 := n4_
                                  have GW291 := n5_
                                  have GE291 := n6_
                                  have NB263_291 := n7_
                                  have NB291_263 := n8_
                                  have NB270_291 := n9_
                                  have NB291_270 := n10_
                                  have NB278_291 := n11_
                                  have NB291_278 := n12_
                                  have NB292_291 := n13_
                                  have NB291_292 := n14_
                                  have GW292 := n15_
                                  have GE292 := n16_
                                  have NB263_292 := n17_
                                  have NB292_263 := n18_
                                  have NB270_292 := n19_
                                  have NB292_270 := n20_
                                  have NB278_292 := n21_
                                  have NB292_278 := n22_
                                  have HB := n23_
                                  clear n0_ n1_ n2_ n3_ n4_ n5_ n6_ n7_ n8_ n9_ n10_ n11_ n12_ n13_ n14_ n15_ n16_ n17_ n18_ n19_ n20_ n21_ n22_ n23_
                                  have hHeld : w32.cell? ⟨gb263, 0, none⟩ = some (.bool t257) ∧ w32.cell? ⟨gb263, 1, none⟩ = some (.bool t258) ∧ w32.cell? ⟨gb263, 2, none⟩ = some (.bool t259) ∧ w32.cell? ⟨gb263, 3, none⟩ = some (.bool t260) ∧ w32.cell? ⟨gb263, 4, none⟩ = some (.bool t261) ∧ w32.cell? ⟨gb263, 5, none⟩ = some (.bool t262) := hS_
                                  refine norm_ (a' := ?_) ?_ ?_
                                  rotate_left
                                  · simp only [putAll, Act.put, List.setIfInBounds_toArray, List.set_cons_zero, List.set_cons_succ]
                                    rfl
                                  refine one_ (i := 3) (N := some 33) #[true, true, true, true, true, true, false, true, true, false, false] rfl rfl (one_of HT_.out (by kernel_rfl)) (by decide) (fun K hK => ?_)
                                  refine goes_ Try.func61 (by kernel_rfl) rfl #[.int .u8 t255, .int .u8 t256, .agg #[.bool t257, .bool t258, .bool t259, .bool t260, .bool t261, .bool t262]] (by rfl) rfl rfl (by (try simp only [List.map_toArray, List.map_cons, List.map_nil]); first | done | rfl | (simp only [List.length_drop, List.length_take]; rfl)) ?_
                                  with_reducible refine (impl_BitTest.calls t255 t256 t257 t258 t259 t260 t261 t262 t279 t280 t281 t282 t283 t284 _ A7.out).mono ?_
                                  rintro e w33 ⟨rfl, hb⟩
                                  refine ⟨_, rfl, ?_⟩
                                  have n0_ := Aside0.mk (blk_below (g := gb263) (o := .cells #[.bool t257, .bool t258, .bool t259, .bool t260, .bool t261, .bool t262] 40 (0, 0)) (by (with_reducible repeat (first | refine blk_drewN ?_ _ | refine blk_drew ?_ | refine blk_alloc ?_ _)); exact BK263.out) hb)
                                  have n1_ := Aside0.mk (blk_below (g := gb270) (o := .cells #[.bool t264, .bool t265, .bool t266, .bool t267, .bool t268, .bool t269] 40 (0, 0)) (by (with_reducible repeat (first | refine blk_drewN ?_ _ | refine blk_drew ?_ | refine blk_alloc ?_ _)); exact BK270.out) hb)
                                  have n2_ := Aside0.mk (blk_below (g := gb278) (o := .cells #[.bool t272, .bool t273, .bool t274, .bool t275, .bool t276, .bool t277] 40 (0, 0)) (by (with_reducible repeat (first | refine blk_drewN ?_ _ | refine blk_drew ?_ | refine blk_alloc ?_ _)); exact BK278.out) hb)
                                  have n3_ := Aside0.mk (blk_below (g := gb291) (o := .cells #[.bool false, .bool false, .bool false, .bool false, .bool false, .bool false] 40 (0, 0)) (by (with_reducible repeat (first | refine blk_drewN ?_ _ | refine blk_drew ?_ | refine blk_alloc ?_ _)); exact BK291.out) hb)
                                  have n4_ := Aside0.mk (blk_below (g := gb292) (o := .cells #[.bool false, .bool false, .bool false, .bool false, .bool false, .bool false] 40 (0, 0)) (by (with_reducible repeat (first | refine blk_drewN ?_ _ | refine blk_drew ?_ | refine blk_alloc ?_ _)); exact BK292.out) hb)
                                  have n5_ := Aside0.mk (below_step (by repeat (first | (with_reducible first | exact HB.out | apply below_alloc | apply pw_below_drewN | apply below_drew1 | refine below_set ?_ GE263.out | refine below_set ?_ GE270.out | refine below_set ?_ GE278.out | refine below_set ?_ GE291.out | refine below_set ?_ GE292.out) | exact HB.out)) hb)
                                  clear BK263
                                  clear BK270
                                  clear BK278
                                  clear BK291
                                  clear BK292
                                  clear HB
                                  have BK263 := n0_
                                  have BK270 := n1_
                                  have BK278 := n2_
                                  have BK291 := n3_
                                  have BK292 := n4_
                                  have HB := n5_
                                  clear n0_ n1_ n2_ n3_ n4_ n5_
                                  (try clear hb)
                                  (try clear hb2)
                                  (try clear hk)
                                  (try clear hi)
                                  refine hK.out _ _ ⟨(blk_cell BK263.out 0).trans rfl, (blk_cell BK263.out 1).trans rfl, (blk_cell BK263.out 2).trans rfl, (blk_cell BK263.out 3).trans rfl, (blk_cell BK263.out 4).trans rfl, (blk_cell BK263.out 5).trans rfl⟩ (fun hHeld => ?_)
                                  clear hK K
                                  refine norm_ (a' := ?_) ?_ ?_
                                  rotate_left
                                  · show Act.put _ (some 33) _ = _
                                    simp only [Act.put, List.setIfInBounds_toArray, List.set_cons_zero, List.set_cons_succ, i64_w, i32_w]
                                    rfl
                                  exact norm_ (by first | (simp only [putAll, Act.put, List.setIfInBounds_toArray, List.set_cons_zero, List.set_cons_succ]; done) | (simp only [putAll, Act.put, List.setIfInBounds_toArray, List.set_cons_zero, List.set_cons_succ]; rfl)) (hJ3_7_8 (gb291, gb292) _ ⟨hHeld, (by (with_reducible repeat (first | refine blk_drewN ?_ _ | refine blk_drew ?_ | refine blk_alloc ?_ _)); exact BK263.out), (by (with_reducible repeat (first | refine blk_drewN ?_ _ | refine blk_drew ?_ | refine blk_alloc ?_ _)); exact BK270.out), (by (with_reducible repeat (first | refine blk_drewN ?_ _ | refine blk_drew ?_ | refine blk_alloc ?_ _)); exact BK278.out), (by (with_reducible repeat (first | refine blk_drewN ?_ _ | refine blk_drew ?_ | refine blk_alloc ?_ _)); exact BK291.out), (by (with_reducible repeat (first | refine blk_drewN ?_ _ | refine blk_drew ?_ | refine blk_alloc ?_ _)); exact BK292.out), GW291.out, GE291.out, NB263_291.out, NB291_263.out, NB270_291.out, NB291_270.out, NB278_291.out, NB291_278.out, NB292_291.out, NB291_292.out, GW292.out, GE292.out, NB263_292.out, NB292_263.out, NB270_292.out, NB292_270.out, NB278_292.out, NB292_278.out, (by repeat (first | (with_reducible first | exact HB.out | apply below_alloc | apply pw_below_drewN | apply below_drew1 | refine below_set ?_ GE263.out | refine below_set ?_ GE270.out | refine below_set ?_ GE278.out | refine below_set ?_ GE291.out | refine below_set ?_ GE292.out) | exact HB.out))⟩)
                              · skip
                                rintro gb292 w32 ⟨hS_, h0_, h1_, h2_, h3_, h4_, h5_, h6_, h7_, h8_, h9_, h10_, h11_, h12_⟩
                                have n0_ : Aside0 (w32.heap[gb263]? = some (.cells #[.bool t257, .bool t258, .bool t259, .bool t260, .bool t261, .bool t262] 40 (0, 0))) := ⟨h0_⟩
                                have n1_ : Aside0 (w32.heap[gb270]? = some (.cells #[.bool t264, .bool t265, .bool t266, .bool t267, .bool t268, .bool t269] 40 (0, 0))) := ⟨h1_⟩
                                have n2_ : Aside0 (w32.heap[gb278]? = some (.cells #[.bool t272, .bool t273, .bool t274, .bool t275, .bool t276, .bool t277] 40 (0, 0))) := ⟨h2_⟩
                                have n3_ : Aside0 (w32.heap[gb292]? = some (.cells #[.bool false, .bool false, .bool false, .bool false, .bool false, .bool false] 40 (0, 0))) := ⟨h3_⟩
                                have n4_ : Aside0 (w.heap.size ≤ gb292) := ⟨h4_⟩
                                have n5_ : Aside0 (w.heap.size ≤ gb292) := ⟨h5_⟩
                                have n6_ : Aside0 (gb263 ≠ gb292) := ⟨h6_⟩
                                have n7_ : Aside0 (gb292 ≠ gb263) := ⟨h7_⟩
                                have n8_ : Aside0 (gb270 ≠ gb292) := ⟨h8_⟩
                                have n9_ : Aside0 (gb292 ≠ gb270) := ⟨h9_⟩
                                have n10_ : Aside0 (gb278 ≠ gb292) := ⟨h10_⟩
                                have n11_ : Aside0 (gb292 ≠ gb278) := ⟨h11_⟩
                                have n12_ : Aside0 (Below w.heap.size w w32) := ⟨h12_⟩
                                clear BK263
                                clear BK270
                                clear BK278
                                clear HB
                                clear h0_ h1_ h2_ h3_ h4_ h5_ h6_ h7_ h8_ h9_ h10_ h11_ h12_
                                have BK263 := n0_
                                have BK270 := n1_
                                have BK278 := n2_
                                have BK292 := n3_
                                have GW292 := n4_
                                have GE292 := n5_
                                have NB263_292 := n6_
                                have NB292_263 := n7_
                                have NB270_292 := n8_
                                have NB292_270 := n9_
                                have NB278_292 := n10_
                                have NB292_278 := n11_
                                have HB := n12_
                                clear n0_ n1_ n2_ n3_ n4_ n5_ n6_ n7_ n8_ n9_ n10_ n11_ n12_
                                have hHeld : w32.cell? ⟨gb263, 0, none⟩ = some (.bool t257) ∧ w32.cell? ⟨gb263, 1, none⟩ = some (.bool t258) ∧ w32.cell? ⟨gb263, 2, none⟩ = some (.bool t259) ∧ w32.cell? ⟨gb263, 3, none⟩ = some (.bool t260) ∧ w32.cell? ⟨gb263, 4, none⟩ = some (.bool t261) ∧ w32.cell? ⟨gb263, 5, none⟩ = some (.bool t262) := hS_
                                refine norm_ (a' := ?_) ?_ ?_
                                rotate_left
                                · simp only [putAll, Act.put, List.setIfInBounds_toArray, List.set_cons_zero, List.set_cons_succ]
                                  rfl
                                refine two_ (i := 6) (j := 7) (Ni := some 36) (Nj := some 9) #[true, true, true, true, true, true, true, false, true, false, false] #[true, true, true, true, true, true, false, true, true, false, false] rfl rfl rfl rfl (two_of HT_.out (by kernel_rfl)) (by decide) (by decide) (fun K hK => ?_) (fun K hK => ?_)
                                · skip
                                  refine goes_ Try.func62 (by kernel_rfl) rfl #[.int .u8 t271, .agg #[.bool t257, .bool t258, .bool t259, .bool t260, .bool t261, .bool t262]] (by rfl) rfl rfl (by (try simp only [List.map_toArray, List.map_cons, List.map_nil]); first | done | rfl | (simp only [List.length_drop, List.length_take]; rfl)) ?_
                                  with_reducible refine (impl_NZ.calls t271 t257 t258 t259 t260 t261 t262 t285 t286 t287 t288 t289 t290 _ A8.out).mono ?_
                                  rintro e w33 ⟨rfl, hb⟩
                                  refine ⟨_, rfl, ?_⟩
                                  have n0_ := Aside0.mk (blk_below (g := gb263) (o := .cells #[.bool t257, .bool t258, .bool t259, .bool t260, .bool t261, .bool t262] 40 (0, 0)) (by (with_reducible repeat (first | refine blk_drewN ?_ _ | refine blk_drew ?_ | refine blk_alloc ?_ _)); exact BK263.out) hb)
                                  have n1_ := Aside0.mk (blk_below (g := gb270) (o := .cells #[.bool t264, .bool t265, .bool t266, .bool t267, .bool t268, .bool t269] 40 (0, 0)) (by (with_reducible repeat (first | refine blk_drewN ?_ _ | refine blk_drew ?_ | refine blk_alloc ?_ _)); exact BK270.out) hb)
                                  have n2_ := Aside0.mk (blk_below (g := gb278) (o := .cells #[.bool t272, .bool t273, .bool t274, .bool t275, .bool t276, .bool t277] 40 (0, 0)) (by (with_reducible repeat (first | refine blk_drewN ?_ _ | refine blk_drew ?_ | refine blk_alloc ?_ _)); exact BK278.out) hb)
                                  have n3_ := Aside0.mk (blk_below (g := gb292) (o := .cells #[.bool false, .bool false, .bool false, .bool false, .bool false, .bool false] 40 (0, 0)) (by (with_reducible repeat (first | refine blk_drewN ?_ _ | refine blk_drew ?_ | refine blk_alloc ?_ _)); exact BK292.out) hb)
                                  have n4_ := Aside0.mk (below_step (by repeat (first | (with_reducible first | exact HB.out | apply below_alloc | apply pw_below_drewN | apply below_drew1 | refine below_set ?_ GE263.out | refine below_set ?_ GE270.out | refine below_set ?_ GE278.out | refine below_set ?_ GE292.out) | exact HB.out)) hb)
                                  clear BK263
                                  clear BK270
                                  clear BK278
                                  clear BK292
                                  clear HB
                                  have BK263 := n0_
                                  have BK270 := n1_
                                  have BK278 := n2_
                                  have BK292 := n3_
                                  have HB := n4_
                                  clear n0_ n1_ n2_ n3_ n4_
                                  (try clear hb)
                                  (try clear hb2)
                                  (try clear hk)
                                  (try clear hi)
                                  refine hK.out _ _ ⟨(blk_cell BK263.out 0).trans rfl, (blk_cell BK263.out 1).trans rfl, (blk_cell BK263.out 2).trans rfl, (blk_cell BK263.out 3).trans rfl, (blk_cell BK263.out 4).trans rfl, (blk_cell BK263.out 5).trans rfl⟩ (fun hHeld => ?_)
                                  clear hK K
                                  refine norm_ (a' := ?_) ?_ ?_
                                  rotate_left
                                  · show Act.put _ (some 36) _ = _
                                    simp only [Act.put, List.setIfInBounds_toArray, List.set_cons_zero, List.set_cons_succ, i64_w, i32_w]
                                    rfl
                                  exact norm_ (by first | (simp only [putAll, Act.put, List.setIfInBounds_toArray, List.set_cons_zero, List.set_cons_succ]; done) | (simp only [putAll, Act.put, List.setIfInBounds_toArray, List.set_cons_zero, List.set_cons_succ]; rfl)) (hJ3_6_8 (gb292) _ ⟨hHeld, (by (with_reducible repeat (first | refine blk_drewN ?_ _ | refine blk_drew ?_ | refine blk_alloc ?_ _)); exact BK263.out), (by (with_reducible repeat (first | refine blk_drewN ?_ _ | refine blk_drew ?_ | refine blk_alloc ?_ _)); exact BK270.out), (by (with_reducible repeat (first | refine blk_drewN ?_ _ | refine blk_drew ?_ | refine blk_alloc ?_ _)); exact BK278.out), (by (with_reducible repeat (first | refine blk_drewN ?_ _ | refine blk_drew ?_ | refine blk_alloc ?_ _)); exact BK292.out), GW292.out, GE292.out, NB263_292.out, NB292_263.out, NB270_292.out, NB292_270.out, NB278_292.out, NB292_278.out, (by repeat (first | (with_reducible first | exact HB.out | apply below_alloc | apply pw_below_drewN | apply below_drew1 | refine below_set ?_ GE263.out | refine below_set ?_ GE270.out | refine below_set ?_ GE278.out | refine below_set ?_ GE292.out) | exact HB.out))⟩)
                                · skip
                                  refine box_step ?hg (N := 9) ?hd (cs := #[.bool false, .bool false, .bool false, .bool false, .bool false, .bool false]) (t := 40) ?hr ?_; (case hd => rfl); (case hg => rfl); (case hr => first | (go_simp; done) | (go_simp; rfl))
                                  intro gb291 hg w33 hbox hb
                                  have n0_ := Aside0.mk (blk_below (g := gb263) (o := .cells #[.bool t257, .bool t258, .bool t259, .bool t260, .bool t261, .bool t262] 40 (0, 0)) (by (with_reducible repeat (first | refine blk_drewN ?_ _ | refine blk_drew ?_ | refine blk_alloc ?_ _)); exact BK263.out) hb)
                                  have n1_ := Aside0.mk (blk_below (g := gb270) (o := .cells #[.bool t264, .bool t265, .bool t266, .bool t267, .bool t268, .bool t269] 40 (0, 0)) (by (with_reducible repeat (first | refine blk_drewN ?_ _ | refine blk_drew ?_ | refine blk_alloc ?_ _)); exact BK270.out) hb)
                                  have n2_ := Aside0.mk (blk_below (g := gb278) (o := .cells #[.bool t272, .bool t273, .bool t274, .bool t275, .bool t276, .bool t277] 40 (0, 0)) (by (with_reducible repeat (first | refine blk_drewN ?_ _ | refine blk_drew ?_ | refine blk_alloc ?_ _)); exact BK278.out) hb)
                                  have n3_ := Aside0.mk (blk_below (g := gb292) (o := .cells #[.bool false, .bool false, .bool false, .bool false, .bool false, .bool false] 40 (0, 0)) (by (with_reducible repeat (first | refine blk_drewN ?_ _ | refine blk_drew ?_ | refine blk_alloc ?_ _)); exact BK292.out) hb)
                                  have n4_ := Aside0.mk (below_step (by repeat (first | (with_reducible first | exact HB.out | apply below_alloc | apply pw_below_drewN | apply below_drew1 | refine below_set ?_ GE263.out | refine below_set ?_ GE270.out | refine below_set ?_ GE278.out | refine below_set ?_ GE292.out) | exact HB.out)) hb)
                                  have n5_ := Aside0.mk (hbox)
                                  have n6_ := Aside0.mk ((by rw [hg]; exact (below_size (by repeat (first | (with_reducible first | exact HB.out | apply below_alloc | apply pw_below_drewN | apply below_drew1 | refine below_set ?_ GE263.out | refine below_set ?_ GE270.out | refine below_set ?_ GE278.out | refine below_set ?_ GE292.out) | exact HB.out))) : w.heap.size ≤ gb291))
                                  have n7_ := Aside0.mk ((by rw [hg]; exact (below_size (by repeat (first | (with_reducible first | exact HB.out | apply below_alloc | apply pw_below_drewN | apply below_drew1 | refine below_set ?_ GE263.out | refine below_set ?_ GE270.out | refine below_set ?_ GE278.out | refine below_set ?_ GE292.out) | exact HB.out))) : w.heap.size ≤ gb291))
                                  have n8_ := Aside0.mk ((by rw [hg]; exact Nat.ne_of_lt (blk_lt (g := gb263) (o := .cells #[.bool t257, .bool t258, .bool t259, .bool t260, .bool t261, .bool t262] 40 (0, 0)) (by (with_reducible repeat (first | refine blk_drewN ?_ _ | refine blk_drew ?_ | refine blk_alloc ?_ _)); exact BK263.out)) : gb263 ≠ gb291))
                                  have n9_ := Aside0.mk ((by rw [hg]; exact Nat.ne_of_gt (blk_lt (g := gb263) (o := .cells #[.bool t257, .bool t258, .bool t259, .bool t260, .bool t261, .bool t262] 40 (0, 0)) (by (with_reducible repeat (first | refine blk_drewN ?_ _ | refine blk_drew ?_ | refine blk_alloc ?_ _)); exact BK263.out)) : gb291 ≠ gb263))
                                  have n10_ := Aside0.mk ((by rw [hg]; exact Nat.ne_of_lt (blk_lt (g := gb270) (o := .cells #[.bool t264, .bool t265, .bool t266, .bool t267, .bool t268, .bool t269] 40 (0, 0)) (by (with_reducible repeat (first | refine blk_drewN ?_ _ | refine blk_drew ?_ | refine blk_alloc ?_ _)); exact BK270.out)) : gb270 ≠ gb291))
                                  have n11_ := Aside0.mk ((by rw [hg]; exact Nat.ne_of_gt (blk_lt (g := gb270) (o := .cells #[.bool t264, .bool t265, .bool t266, .bool t267, .bool t268, .bool t269] 40 (0, 0)) (by (with_reducible repeat (first | refine blk_drewN ?_ _ | refine blk_drew ?_ | refine blk_alloc ?_ _)); exact BK270.out)) : gb291 ≠ gb270))
                                  have n12_ := Aside0.mk ((by rw [hg]; exact Nat.ne_of_lt (blk_lt (g := gb278) (o := .cells #[.bool t272, .bool t273, .bool t274, .bool t275, .bool t276, .bool t277] 40 (0, 0)) (by (with_reducible repeat (first | refine blk_drewN ?_ _ | refine blk_drew ?_ | refine blk_alloc ?_ _)); exact BK278.out)) : gb278 ≠ gb291))
                                  have n13_ := Aside0.mk ((by rw [hg]; exact Nat.ne_of_gt (blk_lt (g := gb278) (o := .cells #[.bool t272, .bool t273, .bool t274, .bool t275, .bool t276, .bool t277] 40 (0, 0)) (by (with_reducible repeat (first | refine blk_drewN ?_ _ | refine blk_drew ?_ | refine blk_alloc ?_ _)); exact BK278.out)) : gb291 ≠ gb278))
                                  have n14_ := Aside0.mk ((by rw [hg]; exact Nat.ne_of_lt (blk_lt (g := gb292) (o := .cells #[.bool false, .bool false, .bool false, .bool false, .bool false, .bool false] 40 (0, 0)) (by (with_reducible repeat (first | refine blk_drewN ?_ _ | refine blk_drew ?_ | refine blk_alloc ?_ _)); exact BK292.out)) : gb292 ≠ gb291))
                                  have n15_ := Aside0.mk ((by rw [hg]; exact Nat.ne_of_gt (blk_lt (g := gb292) (o := .cells #[.bool false, .bool false, .bool false, .bool false, .bool false, .bool false] 40 (0, 0)) (by (with_reducible repeat (first | refine blk_drewN ?_ _ | refine blk_drew ?_ | refine blk_alloc ?_ _)); exact BK292.out)) : gb291 ≠ gb292))
                                  clear BK263
                                  clear BK270
                                  clear BK278
                                  clear BK292
                                  clear HB
                                  have BK263 := n0_
                                  have BK270 := n1_
                                  have BK278 := n2_
                                  have BK292 := n3_
                                  have HB := n4_
                                  have BK291 := n5_
                                  have GW291 := n6_
                                  have GE291 := n7_
                                  have NB263_291 := n8_
                                  have NB291_263 := n9_
                                  have NB270_291 := n10_
                                  have NB291_270 := n11_
                                  have NB278_291 := n12_
                                  have NB291_278 := n13_
                                  have NB292_291 := n14_
                                  have NB291_292 := n15_
                                  clear n0_ n1_ n2_ n3_ n4_ n5_ n6_ n7_ n8_ n9_ n10_ n11_ n12_ n13_ n14_ n15_
                                  clear hb hbox hg
                                  refine hK.out _ _ ⟨(blk_cell BK263.out 0).trans rfl, (blk_cell BK263.out 1).trans rfl, (blk_cell BK263.out 2).trans rfl, (blk_cell BK263.out 3).trans rfl, (blk_cell BK263.out 4).trans rfl, (blk_cell BK263.out 5).trans rfl⟩ (fun hHeld => ?_)
                                  clear hK K
                                  refine norm_ (a' := ?_) ?_ ?_
                                  rotate_left
                                  · show Act.put _ (some 9) _ = _
                                    simp only [Act.put, List.setIfInBounds_toArray, List.set_cons_zero, List.set_cons_succ, i64_w, i32_w]
                                    rfl
                                  exact norm_ (by first | (simp only [putAll, Act.put, List.setIfInBounds_toArray, List.set_cons_zero, List.set_cons_succ]; done) | (simp only [putAll, Act.put, List.setIfInBounds_toArray, List.set_cons_zero, List.set_cons_succ]; rfl)) (hJ3_7_8 (gb291, gb292) _ ⟨hHeld, (by (with_reducible repeat (first | refine blk_drewN ?_ _ | refine blk_drew ?_ | refine blk_alloc ?_ _)); exact BK263.out), (by (with_reducible repeat (first | refine blk_drewN ?_ _ | refine blk_drew ?_ | refine blk_alloc ?_ _)); exact BK270.out), (by (with_reducible repeat (first | refine blk_drewN ?_ _ | refine blk_drew ?_ | refine blk_alloc ?_ _)); exact BK278.out), (by (with_reducible repeat (first | refine blk_drewN ?_ _ | refine blk_drew ?_ | refine blk_alloc ?_ _)); exact BK291.out), (by (with_reducible repeat (first | refine blk_drewN ?_ _ | refine blk_drew ?_ | refine blk_alloc ?_ _)); exact BK292.out), GW291.out, GE291.out, NB263_291.out, NB291_263.out, NB270_291.out, NB291_270.out, NB278_291.out, NB291_278.out, NB292_291.out, NB291_292.out, GW292.out, GE292.out, NB263_292.out, NB292_263.out, NB270_292.out, NB292_270.out, NB278_292.out, NB292_278.out, (by repeat (first | (with_reducible first | exact HB.out | apply below_alloc | apply pw_below_drewN | apply below_drew1 | refine below_set ?_ GE263.out | refine below_set ?_ GE270.out | refine below_set ?_ GE278.out | refine below_set ?_ GE292.out | refine below_set ?_ GE291.out) | exact HB.out))⟩)
                            · skip
                              rintro gb291 w32 ⟨hS_, h0_, h1_, h2_, h3_, h4_, h5_, h6_, h7_, h8_, h9_, h10_, h11_, h12_⟩
                              have n0_ : Aside0 (w32.heap[gb263]? = some (.cells #[.bool t257, .bool t258, .bool t259, .bool t260, .bool t261, .bool t262] 40 (0, 0))) := ⟨h0_⟩
                              have n1_ : Aside0 (w32.heap[gb270]? = some (.cells #[.bool t264, .bool t265, .bool t266, .bool t267, .bool t268, .bool t269] 40 (0, 0))) := ⟨h1_⟩
                              have n2_ : Aside0 (w32.heap[gb278]? = some (.cells #[.bool t272, .bool t273, .bool t274, .bool t275, .bool t276, .bool t277] 40 (0, 0))) := ⟨h2_⟩
                              have n3_ : Aside0 (w32.heap[gb291]? = some (.cells #[.bool false, .bool false, .bool false, .bool false, .bool false, .bool false] 40 (0, 0))) := ⟨h3_⟩
                              have n4_ : Aside0 (w.heap.size ≤ gb291) := ⟨h4_⟩
                              have n5_ : Aside0 (w.heap.size ≤ gb291) := ⟨h5_⟩
                              have n6_ : Aside0 (gb263 ≠ gb291) := ⟨h6_⟩
                              have n7_ : Aside0 (gb291 ≠ gb263) := ⟨h7_⟩
                              have n8_ : Aside0 (gb270 ≠ gb291) := ⟨h8_⟩
                              have n9_ : Aside0 (gb291 ≠ gb270) := ⟨h9_⟩
                              have n10_ : Aside0 (gb278 ≠ gb291) := ⟨h10_⟩
                              have n11_ : Aside0 (gb291 ≠ gb278) := ⟨h11_⟩
                              have n12_ : Aside0 (Below w.heap.size w w32) := ⟨h12_⟩
                              clear BK263
                              clear BK270
                              clear BK278
                              clear HB
                              clear h0_ h1_ h2_ h3_ h4_ h5_ h6_ h7_ h8_ h9_ h10_ h11_ h12_
                              have BK263 := n0_
                              have BK270 := n1_
                              have BK278 := n2_
                              have BK291 := n3_
                              have GW291 := n4_
                              have GE291 := n5_
                              have NB263_291 := n6_
                              have NB291_263 := n7_
                              have NB270_291 := n8_
                              have NB291_270 := n9_
                              have NB278_291 := n10_
                              have NB291_278 := n11_
                              have HB := n12_
                              clear n0_ n1_ n2_ n3_ n4_ n5_ n6_ n7_ n8_ n9_ n10_ n11_ n12_
                              have hHeld : w32.cell? ⟨gb263, 0, none⟩ = some (.bool t257) ∧ w32.cell? ⟨gb263, 1, none⟩ = some (.bool t258) ∧ w32.cell? ⟨gb263, 2, none⟩ = some (.bool t259) ∧ w32.cell? ⟨gb263, 3, none⟩ = some (.bool t260) ∧ w32.cell? ⟨gb263, 4, none⟩ = some (.bool t261) ∧ w32.cell? ⟨gb263, 5, none⟩ = some (.bool t262) := hS_
                              refine norm_ (a' := ?_) ?_ ?_
                              rotate_left
                              · simp only [putAll, Act.put, List.setIfInBounds_toArray, List.set_cons_zero, List.set_cons_succ]
                                rfl
                              refine two_ (i := 6) (j := 8) (Ni := some 36) (Nj := some 10) #[true, true, true, true, true, true, true, true, false, false, false] #[true, true, true, true, true, true, false, true, true, false, false] rfl rfl rfl rfl (two_of HT_.out (by kernel_rfl)) (by decide) (by decide) (fun K hK => ?_) (fun K hK => ?_)
                              · skip
                                refine goes_ Try.func62 (by kernel_rfl) rfl #[.int .u8 t271, .agg #[.bool t257, .bool t258, .bool t259, .bool t260, .bool t261, .bool t262]] (by rfl) rfl rfl (by (try simp only [List.map_toArray, List.map_cons, List.map_nil]); first | done | rfl | (simp only [List.length_drop, List.length_take]; rfl)) ?_
                                with_reducible refine (impl_NZ.calls t271 t257 t258 t259 t260 t261 t262 t285 t286 t287 t288 t289 t290 _ A8.out).mono ?_
                                rintro e w33 ⟨rfl, hb⟩
                                refine ⟨_, rfl, ?_⟩
                                have n0_ := Aside0.mk (blk_below (g := gb263) (o := .cells #[.bool t257, .bool t258, .bool t259, .bool t260, .bool t261, .bool t262] 40 (0, 0)) (by (with_reducible repeat (first | refine blk_drewN ?_ _ | refine blk_drew ?_ | refine blk_alloc ?_ _)); exact BK263.out) hb)
                                have n1_ := Aside0.mk (blk_below (g := gb270) (o := .cells #[.bool t264, .bool t265, .bool t266, .bool t267, .bool t268, .bool t269] 40 (0, 0)) (by (with_reducible repeat (first | refine blk_drewN ?_ _ | refine blk_drew ?_ | refine blk_alloc ?_ _)); exact BK270.out) hb)
                                have n2_ := Aside0.mk (blk_below (g := gb278) (o := .cells #[.bool t272, .bool t273, .bool t274, .bool t275, .bool t276, .bool t277] 40 (0, 0)) (by (with_reducible repeat (first | refine blk_drewN ?_ _ | refine blk_drew ?_ | refine blk_alloc ?_ _)); exact BK278.out) hb)
                                have n3_ := Aside0.mk (blk_below (g := gb291) (o := .cells #[.bool false, .bool false, .bool false, .bool false, .bool false, .bool false] 40 (0, 0)) (by (with_reducible repeat (first | refine blk_drewN ?_ _ | refine blk_drew ?_ | refine blk_alloc ?_ _)); exact BK291.out) hb)
                                have n4_ := Aside0.mk (below_step (by repeat (first | (with_reducible first | exact HB.out | apply below_alloc | apply pw_below_drewN | apply below_drew1 | refine below_set ?_ GE263.out | refine below_set ?_ GE270.out | refine below_set ?_ GE278.out | refine below_set ?_ GE291.out) | exact HB.out)) hb)
                                clear BK263
                                clear BK270
                                clear BK278
                                clear BK291
                                clear HB
                                have BK263 := n0_
                                have BK270 := n1_
                                have BK278 := n2_
                                have BK291 := n3_
                                have HB := n4_
                                clear n0_ n1_ n2_ n3_ n4_
                                (try clear hb)
                                (try clear hb2)
                                (try clear hk)
                                (try clear hi)
                                refine hK.out _ _ ⟨(blk_cell BK263.out 0).trans rfl, (blk_cell BK263.out 1).trans rfl, (blk_cell BK263.out 2).trans rfl, (blk_cell BK263.out 3).trans rfl, (blk_cell BK263.out 4).trans rfl, (blk_cell BK263.out 5).trans rfl⟩ (fun hHeld => ?_)
                                clear hK K
                                refine norm_ (a' := ?_) ?_ ?_
                                rotate_left
                                · show Act.put _ (some 36) _ = _
                                  simp only [Act.put, List.setIfInBounds_toArray, List.set_cons_zero, List.set_cons_succ, i64_w, i32_w]
                                  rfl
                                exact norm_ (by first | (simp only [putAll, Act.put, List.setIfInBounds_toArray, List.set_cons_zero, List.set_cons_succ]; done) | (simp only [putAll, Act.put, List.setIfInBounds_toArray, List.set_cons_zero, List.set_cons_succ]; rfl)) (hJ3_6_7 (gb291) _ ⟨hHeld, (by (with_reducible repeat (first | refine blk_drewN ?_ _ | refine blk_drew ?_ | refine blk_alloc ?_ _)); exact BK263.out), (by (with_reducible repeat (first | refine blk_drewN ?_ _ | refine blk_drew ?_ | refine blk_alloc ?_ _)); exact BK270.out), (by (with_reducible repeat (first | refine blk_drewN ?_ _ | refine blk_drew ?_ | refine blk_alloc ?_ _)); exact BK278.out), (by (with_reducible repeat (first | refine blk_drewN ?_ _ | refine blk_drew ?_ | refine blk_alloc ?_ _)); exact BK291.out), GW291.out, GE291.out, NB263_291.out, NB291_263.out, NB270_291.out, NB291_270.out, NB278_291.out, NB291_278.out, (by repeat (first | (with_reducible first | exact HB.out | apply below_alloc | apply pw_below_drewN | apply below_drew1 | refine below_set ?_ GE263.out | refine below_set ?_ GE270.out | refine below_set ?_ GE278.out | refine below_set ?_ GE291.out) | exact HB.out))⟩)
                              · skip
                                refine box_step ?hg (N := 10) ?hd (cs := #[.bool false, .bool false, .bool false, .bool false, .bool false, .bool false]) (t := 40) ?hr ?_; (case hd => rfl); (case hg => rfl); (case hr => first | (go_simp; done) | (go_simp; rfl))
                                intro gb292 hg w33 hbox hb
                                have n0_ := Aside0.mk (blk_below (g := gb263) (o := .cells #[.bool t257, .bool t258, .bool t259, .bool t260, .bool t261, .bool t262] 40 (0, 0)) (by (with_reducible repeat (first | refine blk_drewN ?_ _ | refine blk_drew ?_ | refine blk_alloc ?_ _)); exact BK263.out) hb)
                                have n1_ := Aside0.mk (blk_below (g := gb270) (o := .cells #[.bool t264, .bool t265, .bool t266, .bool t267, .bool t268, .bool t269] 40 (0, 0)) (by (with_reducible repeat (first | refine blk_drewN ?_ _ | refine blk_drew ?_ | refine blk_alloc ?_ _)); exact BK270.out) hb)
                                have n2_ := Aside0.mk (blk_below (g := gb278) (o := .cells #[.bool t272, .bool t273, .bool t274, .bool t275, .bool t276, .bool t277] 40 (0, 0)) (by (with_reducible repeat (first | refine blk_drewN ?_ _ | refine blk_drew ?_ | refine blk_alloc ?_ _)); exact BK278.out) hb)
                                have n3_ := Aside0.mk (blk_below (g := gb291) (o := .cells #[.bool false, .bool false, .bool false, .bool false, .bool false, .bool false] 40 (0, 0)) (by (with_reducible repeat (first | refine blk_drewN ?_ _ | refine blk_drew ?_ | refine blk_alloc ?_ _)); exact BK291.out) hb)
                                have n4_ := Aside0.mk (below_step (by repeat (first | (with_reducible first | exact HB.out | apply below_alloc | apply pw_below_drewN | apply below_drew1 | refine below_set ?_ GE263.out | refine below_set ?_ GE270.out | refine below_set ?_ GE278.out | refine below_set ?_ GE291.out) | exact HB.out)) hb)
                                have n5_ := Aside0.mk (hbox)
                                have n6_ := Aside0.mk ((by rw [hg]; exact (below_size (by repeat (first | (with_reducible first | exact HB.out | apply below_alloc | apply pw_below_drewN | apply below_drew1 | refine below_set ?_ GE263.out | refine below_set ?_ GE270.out | refine below_set ?_ GE278.out | refine below_set ?_ GE291.out) | exact HB.out))) : w.heap.size ≤ gb292))
                                have n7_ := Aside0.mk ((by rw [hg]; exact (below_size (by repeat (first | (with_reducible first | exact HB.out | apply below_alloc | apply pw_below_drewN | apply below_drew1 | refine below_set ?_ GE263.out | refine below_set ?_ GE270.out | refine below_set ?_ GE278.out | refine below_set ?_ GE291.out) | exact HB.out))) : w.heap.size ≤ gb292))
                                have n8_ := Aside0.mk ((by rw [hg]; exact Nat.ne_of_lt (blk_lt (g := gb263) (o := .cells #[.bool t257, .bool t258, .bool t259, .bool t260, .bool t261, .bool t262] 40 (0, 0)) (by (with_reducible repeat (first | refine blk_drewN ?_ _ | refine blk_drew ?_ | refine blk_alloc ?_ _)); exact BK263.out)) : gb263 ≠ gb292))
                                have n9_ := Aside0.mk ((by rw [hg]; exact Nat.ne_of_gt (blk_lt (g := gb263) (o := .cells #[.bool t257, .bool t258, .bool t259, .bool t260, .bool t261, .bool t262] 40 (0, 0)) (by (with_reducible repeat (first | refine blk_drewN ?_ _ | refine blk_drew ?_ | refine blk_alloc ?_ _)); exact BK263.out)) : gb292 ≠ gb263))
                                have n10_ := Aside0.mk ((by rw [hg]; exact Nat.ne_of_lt (blk_lt (g := gb270) (o := .cells #[.bool t264, .bool t265, .bool t266, .bool t267, .bool t268, .bool t269] 40 (0, 0)) (by (with_reducible repeat (first | refine blk_drewN ?_ _ | refine blk_drew ?_ | refine blk_alloc ?_ _)); exact BK270.out)) : gb270 ≠ gb292))
                                have n11_ := Aside0.mk ((by rw [hg]; exact Nat.ne_of_gt (blk_lt (g := gb270) (o := .cells #[.bool t264, .bool t265, .bool t266, .bool t267, .bool t268, .bool t269] 40 (0, 0)) (by (with_reducible repeat (first | refine blk_drewN ?_ _ | refine blk_drew ?_ | refine blk_alloc ?_ _)); exact BK270.out)) : gb292 ≠ gb270))
                                have n12_ := Aside0.mk ((by rw [hg]; exact Nat.ne_of_lt (blk_lt (g := gb278) (o := .cells #[.bool t272, .bool t273, .bool t274, .bool t275, .bool t276, .bool t277] 40 (0, 0)) (by (with_reducible repeat (first | refine blk_drewN ?_ _ | refine blk_drew ?_ | refine blk_alloc ?_ _)); exact BK278.out)) : gb278 ≠ gb292))
                                have n13_ := Aside0.mk ((by rw [hg]; exact Nat.ne_of_gt (blk_lt (g := gb278) (o := .cells #[.bool t272, .bool t273, .bool t274, .bool t275, .bool t276, .bool t277] 40 (0, 0)) (by (with_reducible repeat (first | refine blk_drewN ?_ _ | refine blk_drew ?_ | refine blk_alloc ?_ _)); exact BK278.out)) : gb292 ≠ gb278))
                                have n14_ := Aside0.mk ((by rw [hg]; exact Nat.ne_of_lt (blk_lt (g := gb291) (o := .cells #[.bool false, .bool false, .bool false, .bool false, .bool false, .bool false] 40 (0, 0)) (by (with_reducible repeat (first | refine blk_drewN ?_ _ | refine blk_drew ?_ | refine blk_alloc ?_ _)); exact BK291.out)) : gb291 ≠ gb292))
                                have n15_ := Aside0.mk ((by rw [hg]; exact Nat.ne_of_gt (blk_lt (g := gb291) (o := .cells #[.bool false, .bool false, .bool false, .bool false, .bool false, .bool false] 40 (0, 0)) (by (with_reducible repeat (first | refine blk_drewN ?_ _ | refine blk_drew ?_ | refine blk_alloc ?_ _)); exact BK291.out)) : gb292 ≠ gb291))
                                clear BK263
                                clear BK270
                                clear BK278
                                clear BK291
                                clear HB
                                have BK263 := n0_
                                have BK270 := n1_
                                have BK278 := n2_
                                have BK291 := n3_
                                have HB := n4_
                                have BK292 := n5_
                                have GW292 := n6_
                                have GE292 := n7_
                                have NB263_292 := n8_
                                have NB292_263 := n9_
                                have NB270_292 := n10_
                                have NB292_270 := n11_
                                have NB278_292 := n12_
                                have NB292_278 := n13_
                                have NB291_292 := n14_
                                have NB292_291 := n15_
                                clear n0_ n1_ n2_ n3_ n4_ n5_ n6_ n7_ n8_ n9_ n10_ n11_ n12_ n13_ n14_ n15_
                                clear hb hbox hg
                                refine hK.out _ _ ⟨(blk_cell BK263.out 0).trans rfl, (blk_cell BK263.out 1).trans rfl, (blk_cell BK263.out 2).trans rfl, (blk_cell BK263.out 3).trans rfl, (blk_cell BK263.out 4).trans rfl, (blk_cell BK263.out 5).trans rfl⟩ (fun hHeld => ?_)
                                clear hK K
                                refine norm_ (a' := ?_) ?_ ?_
                                rotate_left
                                · show Act.put _ (some 10) _ = _
                                  simp only [Act.put, List.setIfInBounds_toArray, List.set_cons_zero, List.set_cons_succ, i64_w, i32_w]
                                  rfl
                                exact norm_ (by first | (simp only [putAll, Act.put, List.setIfInBounds_toArray, List.set_cons_zero, List.set_cons_succ]; done) | (simp only [putAll, Act.put, List.setIfInBounds_toArray, List.set_cons_zero, List.set_cons_succ]; rfl)) (hJ3_7_8 (gb291, gb292) _ ⟨hHeld, (by (with_reducible repeat (first | refine blk_drewN ?_ _ | refine blk_drew ?_ | refine blk_alloc ?_ _)); exact BK263.out), (by (with_reducible repeat (first | refine blk_drewN ?_ _ | refine blk_drew ?_ | refine blk_alloc ?_ _)); exact BK270.out), (by (with_reducible repeat (first | refine blk_drewN ?_ _ | refine blk_drew ?_ | refine blk_alloc ?_ _)); exact BK278.out), (by (with_reducible repeat (first | refine blk_drewN ?_ _ | refine blk_drew ?_ | refine blk_alloc ?_ _)); exact BK291.out), (by (with_reducible repeat (first | refine blk_drewN ?_ _ | refine blk_drew ?_ | refine blk_alloc ?_ _)); exact BK292.out), GW291.out, GE291.out, NB263_291.out, NB291_263.out, NB270_291.out, NB291_270.out, NB278_291.out, NB291_278.out, NB292_291.out, NB291_292.out, GW292.out, GE292.out, NB263_292.out, NB292_263.out, NB270_292.out, NB292_270.out, NB278_292.out, NB292_278.out, (by repeat (first | (with_reducible first | exact HB.out | apply below_alloc | apply pw_below_drewN | apply below_drew1 | refine below_set ?_ GE263.out | refine below_set ?_ GE270.out | refine below_set ?_ GE278.out | refine below_set ?_ GE291.out | refine below_set ?_ GE292.out) | exact HB.out))⟩)
                          · skip
                            rintro _ w32 ⟨hS_, h0_, h1_, h2_, h3_⟩
                            have n0_ : Aside0 (w32.heap[gb263]? = some (.cells #[.bool t257, .bool t258, .bool t259, .bool t260, .bool t261, .bool t262] 40 (0, 0))) := ⟨h0_⟩
                            have n1_ : Aside0 (w32.heap[gb270]? = some (.cells #[.bool t264, .bool t265, .bool t266, .bool t267, .bool t268, .bool t269] 40 (0, 0))) := ⟨h1_⟩
                            have n2_ : Aside0 (w32.heap[gb278]? = some (.cells #[.bool t272, .bool t273, .bool t274, .bool t275, .bool t276, .bool t277] 40 (0, 0))) := ⟨h2_⟩
                            have n3_ : Aside0 (Below w.heap.size w w32) := ⟨h3_⟩
                            clear BK263
                            clear BK270
                            clear BK278
                            clear HB
                            clear h0_ h1_ h2_ h3_
                            have BK263 := n0_
                            have BK270 := n1_
                            have BK278 := n2_
                            have HB := n3_
                            clear n0_ n1_ n2_ n3_
                            have hHeld : w32.cell? ⟨gb263, 0, none⟩ = some (.bool t257) ∧ w32.cell? ⟨gb263, 1, none⟩ = some (.bool t258) ∧ w32.cell? ⟨gb263, 2, none⟩ = some (.bool t259) ∧ w32.cell? ⟨gb263, 3, none⟩ = some (.bool t260) ∧ w32.cell? ⟨gb263, 4, none⟩ = some (.bool t261) ∧ w32.cell? ⟨gb263, 5, none⟩ = some (.bool t262) := hS_
                            refine norm_ (a' := ?_) ?_ ?_
                            rotate_left
                            · simp only [putAll, Act.put, List.setIfInBounds_toArray, List.set_cons_zero, List.set_cons_succ]
                              rfl
                            refine two_ (i := 7) (j := 8) (Ni := some 9) (Nj := some 10) #[true, true, true, true, true, true, true, true, false, false, false] #[true, true, true, true, true, true, true, false, true, false, false] rfl rfl rfl rfl (two_of HT_.out (by kernel_rfl)) (by decide) (by decide) (fun K hK => ?_) (fun K hK => ?_)
                            · skip
                              refine box_step ?hg (N := 9) ?hd (cs := #[.bool false, .bool false, .bool false, .bool false, .bool false, .bool false]) (t := 40) ?hr ?_; (case hd => rfl); (case hg => rfl); (case hr => first | (go_simp; done) | (go_simp; rfl))
                              intro gb291 hg w33 hbox hb
                              have n0_ := Aside0.mk (blk_below (g := gb263) (o := .cells #[.bool t257, .bool t258, .bool t259, .bool t260, .bool t261, .bool t262] 40 (0, 0)) (by (with_reducible repeat (first | refine blk_drewN ?_ _ | refine blk_drew ?_ | refine blk_alloc ?_ _)); exact BK263.out) hb)
                              have n1_ := Aside0.mk (blk_below (g := gb270) (o := .cells #[.bool t264, .bool t265, .bool t266, .bool t267, .bool t268, .bool t269] 40 (0, 0)) (by (with_reducible repeat (first | refine blk_drewN ?_ _ | refine blk_drew ?_ | refine blk_alloc ?_ _)); exact BK270.out) hb)
                              have n2_ := Aside0.mk (blk_below (g := gb278) (o := .cells #[.bool t272, .bool t273, .bool t274, .bool t275, .bool t276, .bool t277] 40 (0, 0)) (by (with_reducible repeat (first | refine blk_drewN ?_ _ | refine blk_drew ?_ | refine blk_alloc ?_ _)); exact BK278.out) hb)
                              have n3_ := Aside0.mk (below_step (by repeat (first | (with_reducible first | exact HB.out | apply below_alloc | apply pw_below_drewN | apply below_drew1 | refine below_set ?_ GE263.out | refine below_set ?_ GE270.out | refine below_set ?_ GE278.out) | exact HB.out)) hb)
                              have n4_ := Aside0.mk (hbox)
                              have n5_ := Aside0.mk ((by rw [hg]; exact (below_size (by repeat (first | (with_reducible first | exact HB.out | apply below_alloc | apply pw_below_drewN | apply below_drew1 | refine below_set ?_ GE263.out | refine below_set ?_ GE270.out | refine below_set ?_ GE278.out) | exact HB.out))) : w.heap.size ≤ gb291))
                              have n6_ := Aside0.mk ((by rw [hg]; exact (below_size (by repeat (first | (with_reducible first | exact HB.out | apply below_alloc | apply pw_below_drewN | apply below_drew1 | refine below_set ?_ GE263.out | refine below_set ?_ GE270.out | refine below_set ?_ GE278.out) | exact HB.out))) : w.heap.size ≤ gb291))
                              have n7_ := Aside0.mk ((by rw [hg]; exact Nat.ne_of_lt (blk_lt (g := gb263) (o := .cells #[.bool t257, .bool t258, .bool t259, .bool t260, .bool t261, .bool t262] 40 (0, 0)) (by (with_reducible repeat (first | refine blk_drewN ?_ _ | refine blk_drew ?_ | refine blk_alloc ?_ _)); exact BK263.out)) : gb263 ≠ gb291))
                              have n8_ := Aside0.mk ((by rw [hg]; exact Nat.ne_of_gt (blk_lt (g := gb263) (o := .cells #[.bool t257, .bool t258, .bool t259, .bool t260, .bool t261, .bool t262] 40 (0, 0)) (by (with_reducible repeat (first | refine blk_drewN ?_ _ | refine blk_drew ?_ | refine blk_alloc ?_ _)); exact BK263.out)) : gb291 ≠ gb263))
                              have n9_ := Aside0.mk ((by rw [hg]; exact Nat.ne_of_lt (blk_lt (g := gb270) (o := .cells #[.bool t264, .bool t265, .bool t266, .bool t267, .bool t268, .bool t269] 40 (0, 0)) (by (with_reducible repeat (first | refine blk_drewN ?_ _ | refine blk_drew ?_ | refine blk_alloc ?_ _)); exact BK270.out)) : gb270 ≠ gb291))
                              have n10_ := Aside0.mk ((by rw [hg]; exact Nat.ne_of_gt (blk_lt (g := gb270) (o := .cells #[.bool t264, .bool t265, .bool t266, .bool t267, .bool t268, .bool t269] 40 (0, 0)) (by (with_reducible repeat (first | refine blk_drewN ?_ _ | refine blk_drew ?_ | refine blk_alloc ?_ _)); exact BK270.out)) : gb291 ≠ gb270))
                              have n11_ := Aside0.mk ((by rw [hg]; exact Nat.ne_of_lt (blk_lt (g := gb278) (o := .cells #[.bool t272, .bool t273, .bool t274, .bool t275, .bool t276, .bool t277] 40 (0, 0)) (by (with_reducible repeat (first | refine blk_drewN ?_ _ | refine blk_drew ?_ | refine blk_alloc ?_ _)); exact BK278.out)) : gb278 ≠ gb291))
                              have n12_ := Aside0.mk ((by rw [hg]; exact Nat.ne_of_gt (blk_lt (g := gb278) (o := .cells #[.bool t272, .bool t273, .bool t274, .bool t275, .bool t276, .bool t277] 40 (0, 0)) (by (with_reducible repeat (first | refine blk_drewN ?_ _ | refine blk_drew ?_ | refine blk_alloc ?_ _)); exact BK278.out)) : gb291 ≠ gb278))
                              clear BK263
                              clear BK270
                              clear BK278
                              clear HB
                              have BK263 := n0_
                              have BK270 := n1_
                              have BK278 := n2_
                              have HB := n3_
                              have BK291 := n4_
                              have GW291 := n5_
                              have GE291 := n6_
                              have NB263_291 := n7_
                              have NB291_263 := n8_
                              have NB270_291 := n9_
                              have NB291_270 := n10_
                              have NB278_291 := n11_
                              have NB291_278 := n12_
                              clear n0_ n1_ n2_ n3_ n4_ n5_ n6_ n7_ n8_ n9_ n10_ n11_ n12_
                              clear hb hbox hg
                              refine hK.out _ _ ⟨(blk_cell BK263.out 0).trans rfl, (blk_cell BK263.out 1).trans rfl, (blk_cell BK263.out 2).trans rfl, (blk_cell BK263.out 3).trans rfl, (blk_cell BK263.out 4).trans rfl, (blk_cell BK263.out 5).trans rfl⟩ (fun hHeld => ?_)
                              clear hK K
                              refine norm_ (a' := ?_) ?_ ?_
                              rotate_left
                              · show Act.put _ (some 9) _ = _
                                simp only [Act.put, List.setIfInBounds_toArray, List.set_cons_zero, List.set_cons_succ, i64_w, i32_w]
                                rfl
                              exact norm_ (by first | (simp only [putAll, Act.put, List.setIfInBounds_toArray, List.set_cons_zero, List.set_cons_succ]; done) | (simp only [putAll, Act.put, List.setIfInBounds_toArray, List.set_cons_zero, List.set_cons_succ]; rfl)) (hJ3_6_7 (gb291) _ ⟨hHeld, (by (with_reducible repeat (first | refine blk_drewN ?_ _ | refine blk_drew ?_ | refine blk_alloc ?_ _)); exact BK263.out), (by (with_reducible repeat (first | refine blk_drewN ?_ _ | refine blk_drew ?_ | refine blk_alloc ?_ _)); exact BK270.out), (by (with_reducible repeat (first | refine blk_drewN ?_ _ | refine blk_drew ?_ | refine blk_alloc ?_ _)); exact BK278.out), (by (with_reducible repeat (first | refine blk_drewN ?_ _ | refine blk_drew ?_ | refine blk_alloc ?_ _)); exact BK291.out), GW291.out, GE291.out, NB263_291.out, NB291_263.out, NB270_291.out, NB291_270.out, NB278_291.out, NB291_278.out, (by repeat (first | (with_reducible first | exact HB.out | apply below_alloc | apply pw_below_drewN | apply below_drew1 | refine below_set ?_ GE263.out | refine below_set ?_ GE270.out | refine below_set ?_ GE278.out | refine below_set ?_ GE291.out) | exact HB.out))⟩)
                            · skip
                              refine box_step ?hg (N := 10) ?hd (cs := #[.bool false, .bool false, .bool false, .bool false, .bool false, .bool false]) (t := 40) ?hr ?_; (case hd => rfl); (case hg => rfl); (case hr => first | (go_simp; done) | (go_simp; rfl))
                              intro gb292 hg w33 hbox hb
                              have n0_ := Aside0.mk (blk_below (g := gb263) (o := .cells #[.bool t257, .bool t258, .bool t259, .bool t260, .bool t261, .bool t262] 40 (0, 0)) (by (with_reducible repeat (first | refine blk_drewN ?_ _ | refine blk_drew ?_ | refine blk_alloc ?_ _)); exact BK263.out) hb)
                              have n1_ := Aside0.mk (blk_below (g := gb270) (o := .cells #[.bool t264, .bool t265, .bool t266, .bool t267, .bool t268, .bool t269] 40 (0, 0)) (by (with_reducible repeat (first | refine blk_drewN ?_ _ | refine blk_drew ?_ | refine blk_alloc ?_ _)); exact BK270.out) hb)
                              have n2_ := Aside0.mk (blk_below (g := gb278) (o := .cells #[.bool t272, .bool t273, .bool t274, .bool t275, .bool t276, .bool t277] 40 (0, 0)) (by (with_reducible repeat (first | refine blk_drewN ?_ _ | refine blk_drew ?_ | refine blk_alloc ?_ _)); exact BK278.out) hb)
                              have n3_ := Aside0.mk (below_step (by repeat (first | (with_reducible first | exact HB.out | apply below_alloc | apply pw_below_drewN | apply below_drew1 | refine below_set ?_ GE263.out | refine below_set ?_ GE270.out | refine below_set ?_ GE278.out) | exact HB.out)) hb)
                              have n4_ := Aside0.mk (hbox)
                              have n5_ := Aside0.mk ((by rw [hg]; exact (below_size (by repeat (first | (with_reducible first | exact HB.out | apply below_alloc | apply pw_below_drewN | apply below_drew1 | refine below_set ?_ GE263.out | refine below_set ?_ GE270.out | refine below_set ?_ GE278.out) | exact HB.out))) : w.heap.size ≤ gb292))
                              have n6_ := Aside0.mk ((by rw [hg]; exact (below_size (by repeat (first | (with_reducible first | exact HB.out | apply below_alloc | apply pw_below_drewN | apply below_drew1 | refine below_set ?_ GE263.out | refine below_set ?_ GE270.out | refine below_set ?_ GE278.out) | exact HB.out))) : w.heap.size ≤ gb292))
                              have n7_ := Aside0.mk ((by rw [hg]; exact Nat.ne_of_lt (blk_lt (g := gb263) (o := .cells #[.bool t257, .bool t258, .bool t259, .bool t260, .bool t261, .bool t262] 40 (0, 0)) (by (with_reducible repeat (first | refine blk_drewN ?_ _ | refine blk_drew ?_ | refine blk_alloc ?_ _)); exact BK263.out)) : gb263 ≠ gb292))
                              have n8_ := Aside0.mk ((by rw [hg]; exact Nat.ne_of_gt (blk_lt (g := gb263) (o := .cells #[.bool t257, .bool t258, .bool t259, .bool t260, .bool t261, .bool t262] 40 (0, 0)) (by (with_reducible repeat (first | refine blk_drewN ?_ _ | refine blk_drew ?_ | refine blk_alloc ?_ _)); exact BK263.out)) : gb292 ≠ gb263))
                              have n9_ := Aside0.mk ((by rw [hg]; exact Nat.ne_of_lt (blk_lt (g := gb270) (o := .cells #[.bool t264, .bool t265, .bool t266, .bool t267, .bool t268, .bool t269] 40 (0, 0)) (by (with_reducible repeat (first | refine blk_drewN ?_ _ | refine blk_drew ?_ | refine blk_alloc ?_ _)); exact BK270.out)) : gb270 ≠ gb292))
                              have n10_ := Aside0.mk ((by rw [hg]; exact Nat.ne_of_gt (blk_lt (g := gb270) (o := .cells #[.bool t264, .bool t265, .bool t266, .bool t267, .bool t268, .bool t269] 40 (0, 0)) (by (with_reducible repeat (first | refine blk_drewN ?_ _ | refine blk_drew ?_ | refine blk_alloc ?_ _)); exact BK270.out)) : gb292 ≠ gb270))
                              have n11_ := Aside0.mk ((by rw [hg]; exact Nat.ne_of_lt (blk_lt (g := gb278) (o := .cells #[.bool t272, .bool t273, .bool t274, .bool t275, .bool t276, .bool t277] 40 (0, 0)) (by (with_reducible repeat (first | refine blk_drewN ?_ _ | refine blk_drew ?_ | refine blk_alloc ?_ _)); exact BK278.out)) : gb278 ≠ gb292))
                              have n12_ := Aside0.mk ((by rw [hg]; exact Nat.ne_of_gt (blk_lt (g := gb278) (o := .cells #[.bool t272, .bool t273, .bool t274, .bool t275, .bool t276, .bool t277] 40 (0, 0)) (by (with_reducible repeat (first | refine blk_drewN ?_ _ | refine blk_drew ?_ | refine blk_alloc ?_ _)); exact BK278.out)) : gb292 ≠ gb278))
                              clear BK263
                              clear BK270
                              clear BK278
                              clear HB
                              have BK263 := n0_
                              have BK270 := n1_
                              have BK278 := n2_
                              have HB := n3_
                              have BK292 := n4_
                              have GW292 := n5_
                              have GE292 := n6_
                              have NB263_292 := n7_
                              have NB292_263 := n8_
                              have NB270_292 := n9_
                              have NB292_270 := n10_
                              have NB278_292 := n11_
                              have NB292_278 := n12_
                              clear n0_ n1_ n2_ n3_ n4_ n5_ n6_ n7_ n8_ n9_ n10_ n11_ n12_
                              clear hb hbox hg
                              refine hK.out _ _ ⟨(blk_cell BK263.out 0).trans rfl, (blk_cell BK263.out 1).trans rfl, (blk_cell BK263.out 2).trans rfl, (blk_cell BK263.out 3).trans rfl, (blk_cell BK263.out 4).trans rfl, (blk_cell BK263.out 5).trans rfl⟩ (fun hHeld => ?_)
                              clear hK K
                              refine norm_ (a' := ?_) ?_ ?_
                              rotate_left
                              · show Act.put _ (some 10) _ = _
                                simp only [Act.put, List.setIfInBounds_toArray, List.set_cons_zero, List.set_cons_succ, i64_w, i32_w]
                                rfl
                              exact norm_ (by first | (simp only [putAll, Act.put, List.setIfInBounds_toArray, List.set_cons_zero, List.set_cons_succ]; done) | (simp only [putAll, Act.put, List.setIfInBounds_toArray, List.set_cons_zero, List.set_cons_succ]; rfl)) (hJ3_6_8 (gb292) _ ⟨hHeld, (by (with_reducible repeat (first | refine blk_drewN ?_ _ | refine blk_drew ?_ | refine blk_alloc ?_ _)); exact BK263.out), (by (with_reducible repeat (first | refine blk_drewN ?_ _ | refine blk_drew ?_ | refine blk_alloc ?_ _)); exact BK270.out), (by (with_reducible repeat (first | refine blk_drewN ?_ _ | refine blk_drew ?_ | refine blk_alloc ?_ _)); exact BK278.out), (by (with_reducible repeat (first | refine blk_drewN ?_ _ | refine blk_drew ?_ | refine blk_alloc ?_ _)); exact BK292.out), GW292.out, GE292.out, NB263_292.out, NB292_263.out, NB270_292.out, NB292_270.out, NB278_292.out, NB292_278.out, (by repeat (first | (with_reducible first | exact HB.out | apply below_alloc | apply pw_below_drewN | apply below_drew1 | refine below_set ?_ GE263.out | refine below_set ?_ GE270.out | refine below_set ?_ GE278.out | refine below_set ?_ GE292.out) | exact HB.out))⟩)
                        · skip
                          rintro ⟨gb291, gb292⟩ w33 ⟨hS_, h0_, h1_, h2_, h3_, h4_, h5_, h6_, h7_, h8_, h9_, h10_, h11_, h12_, h13_, h14_, h15_, h16_, h17_, h18_, h19_, h20_, h21_, h22_, h23_⟩
                          have n0_ : Aside0 (w33.heap[gb263]? = some (.cells #[.bool t257, .bool t258, .bool t259, .bool t260, .bool t261, .bool t262] 40 (0, 0))) := ⟨h0_⟩
                          have n1_ : Aside0 (w33.heap[gb270]? = some (.cells #[.bool t264, .bool t265, .bool t266, .bool t267, .bool t268, .bool t269] 40 (0, 0))) := ⟨h1_⟩
                          have n2_ : Aside0 (w33.heap[gb278]? = some (.cells #[.bool t272, .bool t273, .bool t274, .bool t275, .bool t276, .bool t277] 40 (0, 0))) := ⟨h2_⟩
                          have n3_ : Aside0 (w33.heap[gb291]? = some (.cells #[.bool false, .bool false, .bool false, .bool false, .bool false, .bool false] 40 (0, 0))) := ⟨h3_⟩
                          have n4_ : Aside0 (w33.heap[gb292]? = some (.cells #[.bool false, .bool false, .bool false, .bool false, .bool false, .bool false] 40 (0, 0))) := ⟨h4_⟩
                          have n5_ : Aside0 (w.heap.size ≤ gb291) := ⟨h5_⟩
                          have n6_ : Aside0 (w.heap.size ≤ gb291) := ⟨h6_⟩
                          have n7_ : Aside0 (gb263 ≠ gb291) := ⟨h7_⟩
                          have n8_ : Aside0 (gb291 ≠ gb263) := ⟨h8_⟩
                          have n9_ : Aside0 (gb270 ≠ gb291) := ⟨h9_⟩
                          have n10_ : Aside0 (gb291 ≠ gb270) := ⟨h10_⟩
                          have n11_ : Aside0 (gb278 ≠ gb291) := ⟨h11_⟩
                          have n12_ : Aside0 (gb291 ≠ gb278) := ⟨h12_⟩
                          have n13_ : Aside0 (gb292 ≠ gb291) := ⟨h13_⟩
                          have n14_ : Aside0 (gb291 ≠ gb292) := ⟨h14_⟩
                          have n15_ : Aside0 (w.heap.size ≤ gb292) := ⟨h15_⟩
                          have n16_ : Aside0 (w.heap.size ≤ gb292) := ⟨h16_⟩
                          have n17_ : Aside0 (gb263 ≠ gb292) := ⟨h17_⟩
                          have n18_ : Aside0 (gb292 ≠ gb263) := ⟨h18_⟩
                          have n19_ : Aside0 (gb270 ≠ gb292) := ⟨h19_⟩
                          have n20_ : Aside0 (gb292 ≠ gb270) := ⟨h20_⟩
                          have n21_ : Aside0 (gb278 ≠ gb292) := ⟨h21_⟩
                          have n22_ : Aside0 (gb292 ≠ gb278) := ⟨h22_⟩
                          have n23_ : Aside0 (Below w.heap.size w w33) := ⟨h23_⟩
                          clear BK263
                          clear BK270
                          clear BK278
                          clear HB
                          clear h0_ h1_ h2_ h3_ h4_ h5_ h6_ h7_ h8_ h9_ h10_ h11_ h12_ h13_ h14_ h15_ h16_ h17_ h18_ h19_ h20_ h21_ h22_ h23_
                          have BK263 := n0_
                          have BK270 := n1_
                          have BK278 := n2_
                          have BK291 := n3_
                          have BK292 := n4_
                          have GW291 := n5_
                          have GE291 := n6_
                          have NB263_291 := n7_
                          have NB291_263 := n8_
                          have NB270_291 := n9_
                          have NB291_270 := n10_
                          have NB278_291 := n11_
                          have NB291_278 := n12_
                          have NB292_291 := n13_
                          have NB291_292 := n14_
                          have GW292 := n15_
                          have GE292 := n16_
                          have NB263_292 := n17_
                          have NB292_263 := n18_
                          have NB270_292 := n19_
                          have NB292_270 := n20_
                          have NB278_292 := n21_
                          have NB292_278 := n22_
                          have HB := n23_
                          clear n0_ n1_ n2_ n3_ n4_ n5_ n6_ n7_ n8_ n9_ n10_ n11_ n12_ n13_ n14_ n15_ n16_ n17_ n18_ n19_ n20_ n21_ n22_ n23_
                          have hHeld : w33.cell? ⟨gb263, 0, none⟩ = some (.bool t257) ∧ w33.cell? ⟨gb263, 1, none⟩ = some (.bool t258) ∧ w33.cell? ⟨gb263, 2, none⟩ = some (.bool t259) ∧ w33.cell? ⟨gb263, 3, none⟩ = some (.bool t260) ∧ w33.cell? ⟨gb263, 4, none⟩ = some (.bool t261) ∧ w33.cell? ⟨gb263, 5, none⟩ = some (.bool t262) := hS_
                          refine norm_ (a' := ?_) ?_ ?_
                          rotate_left
                          · simp only [putAll, Act.put, List.setIfInBounds_toArray, List.set_cons_zero, List.set_cons_succ]
                            rfl
                          refine one_ (i := 6) (N := some 36) #[true, true, true, true, true, true, true, true, true, false, false] rfl rfl (one_of HT_.out (by kernel_rfl)) (by decide) (fun K hK => ?_)
                          refine goes_ Try.func62 (by kernel_rfl) rfl #[.int .u8 t271, .agg #[.bool t257, .bool t258, .bool t259, .bool t260, .bool t261, .bool t262]] (by rfl) rfl rfl (by (try simp only [List.map_toArray, List.map_cons, List.map_nil]); first | done | rfl | (simp only [List.length_drop, List.length_take]; rfl)) ?_
                          with_reducible refine (impl_NZ.calls t271 t257 t258 t259 t260 t261 t262 t285 t286 t287 t288 t289 t290 _ A8.out).mono ?_
                          rintro e w34 ⟨rfl, hb⟩
                          refine ⟨_, rfl, ?_⟩
                          have n0_ := Aside0.mk (blk_below (g := gb263) (o := .cells #[.bool t257, .bool t258, .bool t259, .bool t260, .bool t261, .bool t262] 40 (0, 0)) (by (with_reducible repeat (first | refine blk_drewN ?_ _ | refine blk_drew ?_ | refine blk_alloc ?_ _)); exact BK263.out) hb)
                          have n1_ := Aside0.mk (blk_below (g := gb270) (o := .cells #[.bool t264, .bool t265, .bool t266, .bool t267, .bool t268, .bool t269] 40 (0, 0)) (by (with_reducible repeat (first | refine blk_drewN ?_ _ | refine blk_drew ?_ | refine blk_alloc ?_ _)); exact BK270.out) hb)
                          have n2_ := Aside0.mk (blk_below (g := gb278) (o := .cells #[.bool t272, .bool t273, .bool t274, .bool t275, .bool t276, .bool t277] 40 (0, 0)) (by (with_reducible repeat (first | refine blk_drewN ?_ _ | refine blk_drew ?_ | refine blk_alloc ?_ _)); exact BK278.out) hb)
                          have n3_ := Aside0.mk (blk_below (g := gb291) (o := .cells #[.bool false, .bool false, .bool false, .bool false, .bool false, .bool false] 40 (0, 0)) (by (with_reducible repeat (first | refine blk_drewN ?_ _ | refine blk_drew ?_ | refine blk_alloc ?_ _)); exact BK291.out) hb)
                          have n4_ := Aside0.mk (blk_below (g := gb292) (o := .cells #[.bool false, .bool false, .bool false, .bool false, .bool false, .bool false] 40 (0, 0)) (by (with_reducible repeat (first | refine blk_drewN ?_ _ | refine blk_drew ?_ | refine blk_alloc ?_ _)); exact BK292.out) hb)
                          have n5_ := Aside0.mk (below_step (by repeat (first | (with_reducible first | exact HB.out | apply below_alloc | apply pw_below_drewN | apply below_drew1 | refine below_set ?_ GE263.out | refine below_set ?_ GE270.out | refine below_set ?_ GE278.out | refine below_set ?_ GE291.out | refine below_set ?_ GE292.out) | exact HB.out)) hb)
                          clear BK263
                          clear BK270
                          clear BK278
                          clear BK291
                          clear BK292
                          clear HB
                          have BK263 := n0_
                          have BK270 := n1_
                          have BK278 := n2_
                          have BK291 := n3_
                          have BK292 := n4_
                          have HB := n5_
                          clear n0_ n1_ n2_ n3_ n4_ n5_
                          (try clear hb)
                          (try clear hb2)
                          (try clear hk)
                          (try clear hi)
                          refine hK.out _ _ ⟨(blk_cell BK263.out 0).trans rfl, (blk_cell BK263.out 1).trans rfl, (blk_cell BK263.out 2).trans rfl, (blk_cell BK263.out 3).trans rfl, (blk_cell BK263.out 4).trans rfl, (blk_cell BK263.out 5).trans rfl⟩ (fun hHeld => ?_)
                          clear hK K
                          refine norm_ (a' := ?_) ?_ ?_
                          rotate_left
                          · show Act.put _ (some 36) _ = _
                            simp only [Act.put, List.setIfInBounds_toArray, List.set_cons_zero, List.set_cons_succ, i64_w, i32_w]
                            rfl
                          exact norm_ (by first | (simp only [putAll, Act.put, List.setIfInBounds_toArray, List.set_cons_zero, List.set_cons_succ]; done) | (simp only [putAll, Act.put, List.setIfInBounds_toArray, List.set_cons_zero, List.set_cons_succ]; rfl)) (hJ3_6_7_8 (gb291, gb292) _ ⟨hHeld, (by (with_reducible repeat (first | refine blk_drewN ?_ _ | refine blk_drew ?_ | refine blk_alloc ?_ _)); exact BK263.out), (by (with_reducible repeat (first | refine blk_drewN ?_ _ | refine blk_drew ?_ | refine blk_alloc ?_ _)); exact BK270.out), (by (with_reducible repeat (first | refine blk_drewN ?_ _ | refine blk_drew ?_ | refine blk_alloc ?_ _)); exact BK278.out), (by (with_reducible repeat (first | refine blk_drewN ?_ _ | refine blk_drew ?_ | refine blk_alloc ?_ _)); exact BK291.out), (by (with_reducible repeat (first | refine blk_drewN ?_ _ | refine blk_drew ?_ | refine blk_alloc ?_ _)); exact BK292.out), GW291.out, GE291.out, NB263_291.out, NB291_263.out, NB270_291.out, NB291_270.out, NB278_291.out, NB291_278.out, NB292_291.out, NB291_292.out, GW292.out, GE292.out, NB263_292.out, NB292_263.out, NB270_292.out, NB292_270.out, NB278_292.out, NB292_278.out, (by repeat (first | (with_reducible first | exact HB.out | apply below_alloc | apply pw_below_drewN | apply below_drew1 | refine below_set ?_ GE263.out | refine below_set ?_ GE270.out | refine below_set ?_ GE278.out | refine below_set ?_ GE291.out | refine below_set ?_ GE292.out) | exact HB.out))⟩)
                      · skip
                        rintro gb292 w33 ⟨hS_, h0_, h1_, h2_, h3_, h4_, h5_, h6_, h7_, h8_, h9_, h10_, h11_, h12_⟩
                        have n0_ : Aside0 (w33.heap[gb263]? = some (.cells #[.bool t257, .bool t258, .bool t259, .bool t260, .bool t261, .bool t262] 40 (0, 0))) := ⟨h0_⟩
                        have n1_ : Aside0 (w33.heap[gb270]? = some (.cells #[.bool t264, .bool t265, .bool t266, .bool t267, .bool t268, .bool t269] 40 (0, 0))) := ⟨h1_⟩
                        have n2_ : Aside0 (w33.heap[gb278]? = some (.cells #[.bool t272, .bool t273, .bool t274, .bool t275, .bool t276, .bool t277] 40 (0, 0))) := ⟨h2_⟩
                        have n3_ : Aside0 (w33.heap[gb292]? = some (.cells #[.bool false, .bool false, .bool false, .bool false, .bool false, .bool false] 40 (0, 0))) := ⟨h3_⟩
                        have n4_ : Aside0 (w.heap.size ≤ gb292) := ⟨h4_⟩
                        have n5_ : Aside0 (w.heap.size ≤ gb292) := ⟨h5_⟩
                        have n6_ : Aside0 (gb263 ≠ gb292) := ⟨h6_⟩
                        have n7_ : Aside0 (gb292 ≠ gb263) := ⟨h7_⟩
                        have n8_ : Aside0 (gb270 ≠ gb292) := ⟨h8_⟩
                        have n9_ : Aside0 (gb292 ≠ gb270) := ⟨h9_⟩
                        have n10_ : Aside0 (gb278 ≠ gb292) := ⟨h10_⟩
                        have n11_ : Aside0 (gb292 ≠ gb278) := ⟨h11_⟩
                        have n12_ : Aside0 (Below w.heap.size w w33) := ⟨h12_⟩
                        clear BK263
                        clear BK270
                        clear BK278
                        clear HB
                        clear h0_ h1_ h2_ h3_ h4_ h5_ h6_ h7_ h8_ h9_ h10_ h11_ h12_
                        have BK263 := n0_
                        have BK270 := n1_
                        have BK278 := n2_
                        have BK292 := n3_
                        have GW292 := n4_
                        have GE292 := n5_
                        have NB263_292 := n6_
                        have NB292_263 := n7_
                        have NB270_292 := n8_
                        have NB292_270 := n9_
                        have NB278_292 := n10_
                        have NB292_278 := n11_
                        have HB := n12_
                        clear n0_ n1_ n2_ n3_ n4_ n5_ n6_ n7_ n8_ n9_ n10_ n11_ n12_
                        have hHeld : w33.cell? ⟨gb263, 0, none⟩ = some (.bool t257) ∧ w33.cell? ⟨gb263, 1, none⟩ = some (.bool t258) ∧ w33.cell? ⟨gb263, 2, none⟩ = some (.bool t259) ∧ w33.cell? ⟨gb263, 3, none⟩ = some (.bool t260) ∧ w33.cell? ⟨gb263, 4, none⟩ = some (.bool t261) ∧ w33.cell? ⟨gb263, 5, none⟩ = some (.bool t262) := hS_
                        refine norm_ (a' := ?_) ?_ ?_
                        rotate_left
                        · simp only [putAll, Act.put, List.setIfInBounds_toArray, List.set_cons_zero, List.set_cons_succ]
                          rfl
                        refine one_ (i := 7) (N := some 9) #[true, true, true, true, true, true, true, true, true, false, false] rfl rfl (one_of HT_.out (by kernel_rfl)) (by decide) (fun K hK => ?_)
                        refine box_step ?hg (N := 9) ?hd (cs := #[.bool false, .bool false, .bool false, .bool false, .bool false, .bool false]) (t := 40) ?hr ?_; (case hd => rfl); (case hg => rfl); (case hr => first | (go_simp; done) | (go_simp; rfl))
                        intro gb291 hg w34 hbox hb
                        have n0_ := Aside0.mk (blk_below (g := gb263) (o := .cells #[.bool t257, .bool t258, .bool t259, .bool t260, .bool t261, .bool t262] 40 (0, 0)) (by (with_reducible repeat (first | refine blk_drewN ?_ _ | refine blk_drew ?_ | refine blk_alloc ?_ _)); exact BK263.out) hb)
                        have n1_ := Aside0.mk (blk_below (g := gb270) (o := .cells #[.bool t264, .bool t265, .bool t266, .bool t267, .bool t268, .bool t269] 40 (0, 0)) (by (with_reducible repeat (first | refine blk_drewN ?_ _ | refine blk_drew ?_ | refine blk_alloc ?_ _)); exact BK270.out) hb)
                        have n2_ := Aside0.mk (blk_below (g := gb278) (o := .cells #[.bool t272, .bool t273, .bool t274, .bool t275, .bool t276, .bool t277] 40 (0, 0)) (by (with_reducible repeat (first | refine blk_drewN ?_ _ | refine blk_drew ?_ | refine blk_alloc ?_ _)); exact BK278.out) hb)
                        have n3_ := Aside0.mk (blk_below (g := gb292) (o := .cells #[.bool false, .bool false, .bool false, .bool false, .bool false, .bool false] 40 (0, 0)) (by (with_reducible repeat (first | refine blk_drewN ?_ _ | refine blk_drew ?_ | refine blk_alloc ?_ _)); exact BK292.out) hb)
                        have n4_ := Aside0.mk (below_step (by repeat (first | (with_reducible first | exact HB.out | apply below_alloc | apply pw_below_drewN | apply below_drew1 | refine below_set ?_ GE263.out | refine below_set ?_ GE270.out | refine below_set ?_ GE278.out | refine below_set ?_ GE292.out) | exact HB.out)) hb)
                        have n5_ := Aside0.mk (hbox)
                        have n6_ := Aside0.mk ((by rw [hg]; exact (below_size (by repeat (first | (with_reducible first | exact HB.out | apply below_alloc | apply pw_below_drewN | apply below_drew1 | refine below_set ?_ GE263.out | refine below_set ?_ GE270.out | refine below_set ?_ GE278.out | refine below_set ?_ GE292.out) | exact HB.out))) : w.heap.size ≤ gb291))
                        have n7_ := Aside0.mk ((by rw [hg]; exact (below_size (by repeat (first | (with_reducible first | exact HB.out | apply below_alloc | apply pw_below_drewN | apply below_drew1 | refine below_set ?_ GE263.out | refine below_set ?_ GE270.out | refine below_set ?_ GE278.out | refine below_set ?_ GE292.out) | exact HB.out))) : w.heap.size ≤ gb291))
                        have n8_ := Aside0.mk ((by rw [hg]; exact Nat.ne_of_lt (blk_lt (g := gb263) (o := .cells #[.bool t257, .bool t258, .bool t259, .bool t260, .bool t261, .bool t262] 40 (0, 0)) (by (with_reducible repeat (first | refine blk_drewN ?_ _ | refine blk_drew ?_ | refine blk_alloc ?_ _)); exact BK263.out)) : gb263 ≠ gb291))
                        have n9_ := Aside0.mk ((by rw [hg]; exact Nat.ne_of_gt (blk_lt (g := gb263) (o := .cells #[.bool t257, .bool t258, .bool t259, .bool t260, .bool t261, .bool t262] 40 (0, 0)) (by (with_reducible repeat (first | refine blk_drewN ?_ _ | refine blk_drew ?_ | refine blk_alloc ?_ _)); exact BK263.out)) : gb291 ≠ gb263))
                        have n10_ := Aside0.mk ((by rw [hg]; exact Nat.ne_of_lt (blk_lt (g := gb270) (o := .cells #[.bool t264, .bool t265, .bool t266, .bool t267, .bool t268, .bool t269] 40 (0, 0)) (by (with_reducible repeat (first | refine blk_drewN ?_ _ | refine blk_drew ?_ | refine blk_alloc ?_ _)); exact BK270.out)) : gb270 ≠ gb291))
                        have n11_ := Aside0.mk ((by rw [hg]; exact Nat.ne_of_gt (blk_lt (g := gb270) (o := .cells #[.bool t264, .bool t265, .bool t266, .bool t267, .bool t268, .bool t269] 40 (0, 0)) (by (with_reducible repeat (first | refine blk_drewN ?_ _ | refine blk_drew ?_ | refine blk_alloc ?_ _)); exact BK270.out)) : gb291 ≠ gb270))
                        have n12_ := Aside0.mk ((by rw [hg]; exact Nat.ne_of_lt (blk_lt (g := gb278) (o := .cells #[.bool t272, .bool t273, .bool t274, .bool t275, .bool t276, .bool t277] 40 (0, 0)) (by (with_reducible repeat (first | refine blk_drewN ?_ _ | refine blk_drew ?_ | refine blk_alloc ?_ _)); exact BK278.out)) : gb278 ≠ gb291))
                        have n13_ := Aside0.mk ((by rw [hg]; exact Nat.ne_of_gt (blk_lt (g := gb278) (o := .cells #[.bool t272, .bool t273, .bool t274, .bool t275, .bool t276, .bool t277] 40 (0, 0)) (by (with_reducible repeat (first | refine blk_drewN ?_ _ | refine blk_drew ?_ | refine blk_alloc ?_ _)); exact BK278.out)) : gb291 ≠ gb278))
                        have n14_ := Aside0.mk ((by rw [hg]; exact Nat.ne_of_lt (blk_lt (g := gb292) (o := .cells #[.bool false, .bool false, .bool false, .bool false, .bool false, .bool false] 40 (0, 0)) (by (with_reducible repeat (first | refine blk_drewN ?_ _ | refine blk_drew ?_ | refine blk_alloc ?_ _)); exact BK292.out)) : gb292 ≠ gb291))
                        have n15_ := Aside0.mk ((by rw [hg]; exact Nat.ne_of_gt (blk_lt (g := gb292) (o := .cells #[.bool false, .bool false, .bool false, .bool false, .bool false, .bool false] 40 (0, 0)) (by (with_reducible repeat (first | refine blk_drewN ?_ _ | refine blk_drew ?_ | refine blk_alloc ?_ _)); exact BK292.out)) : gb291 ≠ gb292))
                        clear BK263
                        clear BK270
                        clear BK278
                        clear BK292
                        clear HB
                        have BK263 := n0_
                        have BK270 := n1_
                        have BK278 := n2_
                        have BK292 := n3_
                        have HB := n4_
                        have BK291 := n5_
                        have GW291 := n6_
                        have GE291 := n7_
                        have NB263_291 := n8_
                        have NB291_263 := n9_
                        have NB270_291 := n10_
                        have NB291_270 := n11_
                        have NB278_291 := n12_
                        have NB291_278 := n13_
                        have NB292_291 := n14_
                        have NB291_292 := n15_
                        clear n0_ n1_ n2_ n3_ n4_ n5_ n6_ n7_ n8_ n9_ n10_ n11_ n12_ n13_ n14_ n15_
                        clear hb hbox hg
                        refine hK.out _ _ ⟨(blk_cell BK263.out 0).trans rfl, (blk_cell BK263.out 1).trans rfl, (blk_cell BK263.out 2).trans rfl, (blk_cell BK263.out 3).trans rfl, (blk_cell BK263.out 4).trans rfl, (blk_cell BK263.out 5).trans rfl⟩ (fun hHeld => ?_)
                        clear hK K
                        refine norm_ (a' := ?_) ?_ ?_
                        rotate_left
                        · show Act.put _ (some 9) _ = _
                          simp only [Act.put, List.setIfInBounds_toArray, List.set_cons_zero, List.set_cons_succ, i64_w, i32_w]
                          rfl
                        exact norm_ (by first | (simp only [putAll, Act.put, List.setIfInBounds_toArray, List.set_cons_zero, List.set_cons_succ]; done) | (simp only [putAll, Act.put, List.setIfInBounds_toArray, List.set_cons_zero, List.set_cons_succ]; rfl)) (hJ3_6_7_8 (gb291, gb292) _ ⟨hHeld, (by (with_reducible repeat (first | refine blk_drewN ?_ _ | refine blk_drew ?_ | refine blk_alloc ?_ _)); exact BK263.out), (by (with_reducible repeat (first | refine blk_drewN ?_ _ | refine blk_drew ?_ | refine blk_alloc ?_ _)); exact BK270.out), (by (with_reducible repeat (first | refine blk_drewN ?_ _ | refine blk_drew ?_ | refine blk_alloc ?_ _)); exact BK278.out), (by (with_reducible repeat (first | refine blk_drewN ?_ _ | refine blk_drew ?_ | refine blk_alloc ?_ _)); exact BK291.out), (by (with_reducible repeat (first | refine blk_drewN ?_ _ | refine blk_drew ?_ | refine blk_alloc ?_ _)); exact BK292.out), GW291.out, GE291.out, NB263_291.out, NB291_263.out, NB270_291.out, NB291_270.out, NB278_291.out, NB291_278.out, NB292_291.out, NB291_292.out, GW292.out, GE292.out, NB263_292.out, NB292_263.out, NB270_292.out, NB292_270.out, NB278_292.out, NB292_278.out, (by repeat (first | (with_reducible first | exact HB.out | apply below_alloc | apply pw_below_drewN | apply below_drew1 | refine below_set ?_ GE263.out | refine below_set ?_ GE270.out | refine below_set ?_ GE278.out | refine below_set ?_ GE292.out | refine below_set ?_ GE291.out) | exact HB.out))⟩)
                    · skip
                      rintro gb291 w33 ⟨hS_, h0_, h1_, h2_, h3_, h4_, h5_, h6_, h7_, h8_, h9_, h10_, h11_, h12_⟩
                      have n0_ : Aside0 (w33.heap[gb263]? = some (.cells #[.bool t257, .bool t258, .bool t259, .bool t260, .bool t261, .bool t262] 40 (0, 0))) := ⟨h0_⟩
                      have n1_ : Aside0 (w33.heap[gb270]? = some (.cells #[.bool t264, .bool t265, .bool t266, .bool t267, .bool t268, .bool t269] 40 (0, 0))) := ⟨h1_⟩
                      have n2_ : Aside0 (w33.heap[gb278]? = some (.cells #[.bool t272, .bool t273, .bool t274, .bool t275, .bool t276, .bool t277] 40 (0, 0))) := ⟨h2_⟩
                      have n3_ : Aside0 (w33.heap[gb291]? = some (.cells #[.bool false, .bool false, .bool false, .bool false, .bool false, .bool false] 40 (0, 0))) := ⟨h3_⟩
                      have n4_ : Aside0 (w.heap.size ≤ gb291) := ⟨h4_⟩
                      have n5_ : Aside0 (w.heap.size ≤ gb291) := ⟨h5_⟩
                      have n6_ : Aside0 (gb263 ≠ gb291) := ⟨h6_⟩
                      have n7_ : Aside0 (gb291 ≠ gb263) := ⟨h7_⟩
                      have n8_ : Aside0 (gb270 ≠ gb291) := ⟨h8_⟩
                      have n9_ : Aside0 (gb291 ≠ gb270) := ⟨h9_⟩
                      have n10_ : Aside0 (gb278 ≠ gb291) := ⟨h10_⟩
                      have n11_ : Aside0 (gb291 ≠ gb278) := ⟨h11_⟩
                      have n12_ : Aside0 (Below w.heap.size w w33) := ⟨h12_⟩
                      clear BK263
                      clear BK270
                      clear BK278
                      clear HB
                      clear h0_ h1_ h2_ h3_ h4_ h5_ h6_ h7_ h8_ h9_ h10_ h11_ h12_
                      have BK263 := n0_
                      have BK270 := n1_
                      have BK278 := n2_
                      have BK291 := n3_
                      have GW291 := n4_
                      have GE291 := n5_
                      have NB263_291 := n6_
                      have NB291_263 := n7_
                      have NB270_291 := n8_
                      have NB291_270 := n9_
                      have NB278_291 := n10_
                      have NB291_278 := n11_
                      have HB := n12_
                      clear n0_ n1_ n2_ n3_ n4_ n5_ n6_ n7_ n8_ n9_ n10_ n11_ n12_
                      have hHeld : w33.cell? ⟨gb263, 0, none⟩ = some (.bool t257) ∧ w33.cell? ⟨gb263, 1, none⟩ = some (.bool t258) ∧ w33.cell? ⟨gb263, 2, none⟩ = some (.bool t259) ∧ w33.cell? ⟨gb263, 3, none⟩ = some (.bool t260) ∧ w33.cell? ⟨gb263, 4, none⟩ = some (.bool t261) ∧ w33.cell? ⟨gb263, 5, none⟩ = some (.bool t262) := hS_
                      refine norm_ (a' := ?_) ?_ ?_
                      rotate_left
                      · simp only [putAll, Act.put, List.setIfInBounds_toArray, List.set_cons_zero, List.set_cons_succ]
                        rfl
                      refine one_ (i := 8) (N := some 10) #[true, true, true, true, true, true, true, true, true, false, false] rfl rfl (one_of HT_.out (by kernel_rfl)) (by decide) (fun K hK => ?_)
                      refine box_step ?hg (N := 10) ?hd (cs := #[.bool false, .bool false, .bool false, .bool false, .bool false, .bool false]) (t := 40) ?hr ?_; (case hd => rfl); (case hg => rfl); (case hr => first | (go_simp; done) | (go_simp; rfl))
                      intro gb292 hg w34 hbox hb
                      have n0_ := Aside0.mk (blk_below (g := gb263) (o := .cells #[.bool t257, .bool t258, .bool t259, .bool t260, .bool t261, .bool t262] 40 (0, 0)) (by (with_reducible repeat (first | refine blk_drewN ?_ _ | refine blk_drew ?_ | refine blk_alloc ?_ _)); exact BK263.out) hb)
                      have n1_ := Aside0.mk (blk_below (g := gb270) (o := .cells #[.bool t264, .bool t265, .bool t266, .bool t267, .bool t268, .bool t269] 40 (0, 0)) (by (with_reducible repeat (first | refine blk_drewN ?_ _ | refine blk_drew ?_ | refine blk_alloc ?_ _)); exact BK270.out) hb)
                      have n2_ := Aside0.mk (blk_below (g := gb278) (o := .cells #[.bool t272, .bool t273, .bool t274, .bool t275, .bool t276, .bool t277] 40 (0, 0)) (by (with_reducible repeat (first | refine blk_drewN ?_ _ | refine blk_drew ?_ | refine blk_alloc ?_ _)); exact BK278.out) hb)
                      have n3_ := Aside0.mk (blk_below (g := gb291) (o := .cells #[.bool false, .bool false, .bool false, .bool false, .bool false, .bool false] 40 (0, 0)) (by (with_reducible repeat (first | refine blk_drewN ?_ _ | refine blk_drew ?_ | refine blk_alloc ?_ _)); exact BK291.out) hb)
                      have n4_ := Aside0.mk (below_step (by repeat (first | (with_reducible first | exact HB.out | apply below_alloc | apply pw_below_drewN | apply below_drew1 | refine below_set ?_ GE263.out | refine below_set ?_ GE270.out | refine below_set ?_ GE278.out | refine below_set ?_ GE291.out) | exact HB.out)) hb)
                      have n5_ := Aside0.mk (hbox)
                      have n6_ := Aside0.mk ((by rw [hg]; exact (below_size (by repeat (first | (with_reducible first | exact HB.out | apply below_alloc | apply pw_below_drewN | apply below_drew1 | refine below_set ?_ GE263.out | refine below_set ?_ GE270.out | refine below_set ?_ GE278.out | refine below_set ?_ GE291.out) | exact HB.out))) : w.heap.size ≤ gb292))
                      have n7_ := Aside0.mk ((by rw [hg]; exact (below_size (by repeat (first | (with_reducible first | exact HB.out | apply below_alloc | apply pw_below_drewN | apply below_drew1 | refine below_set ?_ GE263.out | refine below_set ?_ GE270.out | refine below_set ?_ GE278.out | refine below_set ?_ GE291.out) | exact HB.out))) : w.heap.size ≤ gb292))
                      have n8_ := Aside0.mk ((by rw [hg]; exact Nat.ne_of_lt (blk_lt (g := gb263) (o := .cells #[.bool t257, .bool t258, .bool t259, .bool t260, .bool t261, .bool t262] 40 (0, 0)) (by (with_reducible repeat (first | refine blk_drewN ?_ _ | refine blk_drew ?_ | refine blk_alloc ?_ _)); exact BK263.out)) : gb263 ≠ gb292))
                      have n9_ := Aside0.mk ((by rw [hg]; exact Nat.ne_of_gt (blk_lt (g := gb263) (o := .cells #[.bool t257, .bool t258, .bool t259, .bool t260, .bool t261, .bool t262] 40 (0, 0)) (by (with_reducible repeat (first | refine blk_drewN ?_ _ | refine blk_drew ?_ | refine blk_alloc ?_ _)); exact BK263.out)) : gb292 ≠ gb263))
                      have n10_ := Aside0.mk ((by rw [hg]; exact Nat.ne_of_lt (blk_lt (g := gb270) (o := .cells #[.bool t264, .bool t265, .bool t266, .bool t267, .bool t268, .bool t269] 40 (0, 0)) (by (with_reducible repeat (first | refine blk_drewN ?_ _ | refine blk_drew ?_ | refine blk_alloc ?_ _)); exact BK270.out)) : gb270 ≠ gb292))
                      have n11_ := Aside0.mk ((by rw [hg]; exact Nat.ne_of_gt (blk_lt (g := gb270) (o := .cells #[.bool t264, .bool t265, .bool t266, .bool t267, .bool t268, .bool t269] 40 (0, 0)) (by (with_reducible repeat (first | refine blk_drewN ?_ _ | refine blk_drew ?_ | refine blk_alloc ?_ _)); exact BK270.out)) : gb292 ≠ gb270))
                      have n12_ := Aside0.mk ((by rw [hg]; exact Nat.ne_of_lt (blk_lt (g := gb278) (o := .cells #[.bool t272, .bool t273, .bool t274, .bool t275, .bool t276, .bool t277] 40 (0, 0)) (by (with_reducible repeat (first | refine blk_drewN ?_ _ | refine blk_drew ?_ | refine blk_alloc ?_ _)); exact BK278.out)) : gb278 ≠ gb292))
                      have n13_ := Aside0.mk ((by rw [hg]; exact Nat.ne_of_gt (blk_lt (g := gb278) (o := .cells #[.bool t272, .bool t273, .bool t274, .bool t275, .bool t276, .bool t277] 40 (0, 0)) (by (with_reducible repeat (first | refine blk_drewN ?_ _ | refine blk_drew ?_ | refine blk_alloc ?_ _)); exact BK278.out)) : gb292 ≠ gb278))
                      have n14_ := Aside0.mk ((by rw [hg]; exact Nat.ne_of_lt (blk_lt (g := gb291) (o := .cells #[.bool false, .bool false, .bool false, .bool false, .bool false, .bool false] 40 (0, 0)) (by (with_reducible repeat (first | refine blk_drewN ?_ _ | refine blk_drew ?_ | refine blk_alloc ?_ _)); exact BK291.out)) : gb291 ≠ gb292))
                      have n15_ := Aside0.mk ((by rw [hg]; exact Nat.ne_of_gt (blk_lt (g := gb291) (o := .cells #[.bool false, .bool false, .bool false, .bool false, .bool false, .bool false] 40 (0, 0)) (by (with_reducible repeat (first | refine blk_drewN ?_ _ | refine blk_drew ?_ | refine blk_alloc ?_ _)); exact BK291.out)) : gb292 ≠ gb291))
                      clear BK263
                      clear BK270
                      clear BK278
                      clear BK291
                      clear HB
                      have BK263 := n0_
                      have BK270 := n1_
                      have BK278 := n2_
                      have BK291 := n3_
                      have HB := n4_
                      have BK292 := n5_
                      have GW292 := n6_
                      have GE292 := n7_
                      have NB263_292 := n8_
                      have NB292_263 := n9_
                      have NB270_292 := n10_
                      have NB292_270 := n11_
                      have NB278_292 := n12_
                      have NB292_278 := n13_
                      have NB291_292 := n14_
                      have NB292_291 := n15_
                      clear n0_ n1_ n2_ n3_ n4_ n5_ n6_ n7_ n8_ n9_ n10_ n11_ n12_ n13_ n14_ n15_
                      clear hb hbox hg
                      refine hK.out _ _ ⟨(blk_cell BK263.out 0).trans rfl, (blk_cell BK263.out 1).trans rfl, (blk_cell BK263.out 2).trans rfl, (blk_cell BK263.out 3).trans rfl, (blk_cell BK263.out 4).trans rfl, (blk_cell BK263.out 5).trans rfl⟩ (fun hHeld => ?_)
                      clear hK K
                      refine norm_ (a' := ?_) ?_ ?_
                      rotate_left
                      · show Act.put _ (some 10) _ = _
                        simp only [Act.put, List.setIfInBounds_toArray, List.set_cons_zero, List.set_cons_succ, i64_w, i32_w]
                        rfl
                      exact norm_ (by first | (simp only [putAll, Act.put, List.setIfInBounds_toArray, List.set_cons_zero, List.set_cons_succ]; done) | (simp only [putAll, Act.put, List.setIfInBounds_toArray, List.set_cons_zero, List.set_cons_succ]; rfl)) (hJ3_6_7_8 (gb291, gb292) _ ⟨hHeld, (by (with_reducible repeat (first | refine blk_drewN ?_ _ | refine blk_drew ?_ | refine blk_alloc ?_ _)); exact BK263.out), (by (with_reducible repeat (first | refine blk_drewN ?_ _ | refine blk_drew ?_ | refine blk_alloc ?_ _)); exact BK270.out), (by (with_reducible repeat (first | refine blk_drewN ?_ _ | refine blk_drew ?_ | refine blk_alloc ?_ _)); exact BK278.out), (by (with_reducible repeat (first | refine blk_drewN ?_ _ | refine blk_drew ?_ | refine blk_alloc ?_ _)); exact BK291.out), (by (with_reducible repeat (first | refine blk_drewN ?_ _ | refine blk_drew ?_ | refine blk_alloc ?_ _)); exact BK292.out), GW291.out, GE291.out, NB263_291.out, NB291_263.out, NB270_291.out, NB291_270.out, NB278_291.out, NB291_278.out, NB292_291.out, NB291_292.out, GW292.out, GE292.out, NB263_292.out, NB292_263.out, NB270_292.out, NB292_270.out, NB278_292.out, NB292_278.out, (by repeat (first | (with_reducible first | exact HB.out | apply below_alloc | apply pw_below_drewN | apply below_drew1 | refine below_set ?_ GE263.out | refine below_set ?_ GE270.out | refine below_set ?_ GE278.out | refine below_set ?_ GE291.out | refine below_set ?_ GE292.out) | exact HB.out))⟩)
                  rintro ⟨gb291, gb292⟩ w34 ⟨hS_, h0_, h1_, h2_, h3_, h4_, h5_, h6_, h7_, h8_, h9_, h10_, h11_, h12_, h13_, h14_, h15_, h16_, h17_, h18_, h19_, h20_, h21_, h22_, h23_⟩
                  have n0_ : Aside0 (w34.heap[gb263]? = some (.cells #[.bool t257, .bool t258, .bool t259, .bool t260, .bool t261, .bool t262] 40 (0, 0))) := ⟨h0_⟩
                  have n1_ : Aside0 (w34.heap[gb270]? = some (.cells #[.bool t264, .bool t265, .bool t266, .bool t267, .bool t268, .bool t269] 40 (0, 0))) := ⟨h1_⟩
                  have n2_ : Aside0 (w34.heap[gb278]? = some (.cells #[.bool t272, .bool t273, .bool t274, .bool t275, .bool t276, .bool t277] 40 (0, 0))) := ⟨h2_⟩
                  have n3_ : Aside0 (w34.heap[gb291]? = some (.cells #[.bool false, .bool false, .bool false, .bool false, .bool false, .bool false] 40 (0, 0))) := ⟨h3_⟩
                  have n4_ : Aside0 (w34.heap[gb292]? = some (.cells #[.bool false, .bool false, .bool false, .bool false, .bool false, .bool false] 40 (0, 0))) := ⟨h4_⟩
                  have n5_ : Aside0 (w.heap.size ≤ gb291) := ⟨h5_⟩
                  have n6_ : Aside0 (w.heap.size ≤ gb291) := ⟨h6_⟩
                  have n7_ : Aside0 (gb263 ≠ gb291) := ⟨h7_⟩
                  have n8_ : Aside0 (gb291 ≠ gb263) := ⟨h8_⟩
                  have n9_ : Aside0 (gb270 ≠ gb291) := ⟨h9_⟩
                  have n10_ : Aside0 (gb291 ≠ gb270) := ⟨h10_⟩
                  have n11_ : Aside0 (gb278 ≠ gb291) := ⟨h11_⟩
                  have n12_ : Aside0 (gb291 ≠ gb278) := ⟨h12_⟩
                  have n13_ : Aside0 (gb292 ≠ gb291) := ⟨h13_⟩
                  have n14_ : Aside0 (gb291 ≠ gb292) := ⟨h14_⟩
                  have n15_ : Aside0 (w.heap.size ≤ gb292) := ⟨h15_⟩
                  have n16_ : Aside0 (w.heap.size ≤ gb292) := ⟨h16_⟩
                  have n17_ : Aside0 (gb263 ≠ gb292) := ⟨h17_⟩
                  have n18_ : Aside0 (gb292 ≠ gb263) := ⟨h18_⟩
                  have n19_ : Aside0 (gb270 ≠ gb292) := ⟨h19_⟩
                  have n20_ : Aside0 (gb292 ≠ gb270) := ⟨h20_⟩
                  have n21_ : Aside0 (gb278 ≠ gb292) := ⟨h21_⟩
                  have n22_ : Aside0 (gb292 ≠ gb278) := ⟨h22_⟩
                  have n23_ : Aside0 (Below w.heap.size w w34) := ⟨h23_⟩
                  clear BK263
                  clear BK270
                  clear BK278
                  clear HB
                  clear h0_ h1_ h2_ h3_ h4_ h5_ h6_ h7_ h8_ h9_ h10_ h11_ h12_ h13_ h14_ h15_ h16_ h17_ h18_ h19_ h20_ h21_ h22_ h23_
                  have BK263 := n0_
                  have BK270 := n1_
                  have BK278 := n2_
                  have BK291 := n3_
                  have BK292 := n4_
                  have GW291 := n5_
                  have GE291 := n6_
                  have NB263_291 := n7_
                  have NB291_263 := n8_
                  have NB270_291 := n9_
                  have NB291_270 := n10_
                  have NB278_291 := n11_
                  have NB291_278 := n12_
                  have NB292_291 := n13_
                  have NB291_292 := n14_
                  have GW292 := n15_
                  have GE292 := n16_
                  have NB263_292 := n17_
                  have NB292_263 := n18_
                  have NB270_292 := n19_
                  have NB292_270 := n20_
                  have NB278_292 := n21_
                  have NB292_278 := n22_
                  have HB := n23_
                  clear n0_ n1_ n2_ n3_ n4_ n5_ n6_ n7_ n8_ n9_ n10_ n11_ n12_ n13_ n14_ n15_ n16_ n17_ n18_ n19_ n20_ n21_ n22_ n23_
                  have hHeld : w34.cell? ⟨gb263, 0, none⟩ = some (.bool t257) ∧ w34.cell? ⟨gb263, 1, none⟩ = some (.bool t258) ∧ w34.cell? ⟨gb263, 2, none⟩ = some (.bool t259) ∧ w34.cell? ⟨gb263, 3, none⟩ = some (.bool t260) ∧ w34.cell? ⟨gb263, 4, none⟩ = some (.bool t261) ∧ w34.cell? ⟨gb263, 5, none⟩ = some (.bool t262) := hS_
                  refine norm_ (a' := ?_) ?_ ?_
                  rotate_left
                  · simp only [putAll, Act.put, List.setIfInBounds_toArray, List.set_cons_zero, List.set_cons_succ]
                    rfl
                  refine one_ (i := 9) (N := none) #[true, true, true, true, true, true, true, true, true, true, false] rfl rfl (one_of HT_.out (by kernel_rfl)) (by decide) (fun K hK => ?_)
                  have hs35 : w34.cell? ⟨gb291, 0, none⟩ = some (.bool false) := (blk_cell BK291.out 0).trans rfl
                  have hfs35 := blk_frozen BK291.out 0
                  have hns35_0 := NB263_291.out
                  have hns35_1 := NB270_291.out
                  have hns35_2 := NB278_291.out
                  have hns35_4 := NB292_291.out
                  have hms35_0 := NB291_263.out
                  have hms35_1 := NB291_270.out
                  have hms35_2 := NB291_278.out
                  have hms35_4 := NB291_292.out
                  have hs36 : w34.cell? ⟨gb291, 1, none⟩ = some (.bool false) := (blk_cell BK291.out 1).trans rfl
                  have hfs36 := blk_frozen BK291.out 1
                  have hns36_0 := NB263_291.out
                  have hns36_1 := NB270_291.out
                  have hns36_2 := NB278_291.out
                  have hns36_4 := NB292_291.out
                  have hms36_0 := NB291_263.out
                  have hms36_1 := NB291_270.out
                  have hms36_2 := NB291_278.out
                  have hms36_4 := NB291_292.out
                  have hs37 : w34.cell? ⟨gb291, 2, none⟩ = some (.bool false) := (blk_cell BK291.out 2).trans rfl
                  have hfs37 := blk_frozen BK291.out 2
                  have hns37_0 := NB263_291.out
                  have hns37_1 := NB270_291.out
                  have hns37_2 := NB278_291.out
                  have hns37_4 := NB292_291.out
                  have hms37_0 := NB291_263.out
                  have hms37_1 := NB291_270.out
                  have hms37_2 := NB291_278.out
                  have hms37_4 := NB291_292.out
                  have hs38 : w34.cell? ⟨gb291, 3, none⟩ = some (.bool false) := (blk_cell BK291.out 3).trans rfl
                  have hfs38 := blk_frozen BK291.out 3
                  have hns38_0 := NB263_291.out
                  have hns38_1 := NB270_291.out
                  have hns38_2 := NB278_291.out
                  have hns38_4 := NB292_291.out
                  have hms38_0 := NB291_263.out
                  have hms38_1 := NB291_270.out
                  have hms38_2 := NB291_278.out
                  have hms38_4 := NB291_292.out
                  have hs39 : w34.cell? ⟨gb291, 4, none⟩ = some (.bool false) := (blk_cell BK291.out 4).trans rfl
                  have hfs39 := blk_frozen BK291.out 4
                  have hns39_0 := NB263_291.out
                  have hns39_1 := NB270_291.out
                  have hns39_2 := NB278_291.out
                  have hns39_4 := NB292_291.out
                  have hms39_0 := NB291_263.out
                  have hms39_1 := NB291_270.out
                  have hms39_2 := NB291_278.out
                  have hms39_4 := NB291_292.out
                  have hs40 : w34.cell? ⟨gb291, 5, none⟩ = some (.bool false) := (blk_cell BK291.out 5).trans rfl
                  have hfs40 := blk_frozen BK291.out 5
                  have hns40_0 := NB263_291.out
                  have hns40_1 := NB270_291.out
                  have hns40_2 := NB278_291.out
                  have hns40_4 := NB292_291.out
                  have hms40_0 := NB291_263.out
                  have hms40_1 := NB291_270.out
                  have hms40_2 := NB291_278.out
                  have hms40_4 := NB291_292.out
                  refine skip_ (w1 := ?_) (by rfl) rfl ?_ ?_
                  rotate_left
                  · go_simp
                    rfl
                  refine hK.out _ _ ⟨((cell_far (p := ⟨gb291, _, none⟩) NB263_291.out _).trans (((cell_far (p := ⟨gb291, _, none⟩) NB263_291.out _).trans (((cell_far (p := ⟨gb291, _, none⟩) NB263_291.out _).trans (((cell_far (p := ⟨gb291, _, none⟩) NB263_291.out _).trans (((cell_far (p := ⟨gb291, _, none⟩) NB263_291.out _).trans (((cell_far (p := ⟨gb291, _, none⟩) NB263_291.out _).trans (hHeld.1)))))))))))), ((cell_far (p := ⟨gb291, _, none⟩) NB263_291.out _).trans (((cell_far (p := ⟨gb291, _, none⟩) NB263_291.out _).trans (((cell_far (p := ⟨gb291, _, none⟩) NB263_291.out _).trans (((cell_far (p := ⟨gb291, _, none⟩) NB263_291.out _).trans (((cell_far (p := ⟨gb291, _, none⟩) NB263_291.out _).trans (((cell_far (p := ⟨gb291, _, none⟩) NB263_291.out _).trans (hHeld.2.1)))))))))))), ((cell_far (p := ⟨gb291, _, none⟩) NB263_291.out _).trans (((cell_far (p := ⟨gb291, _, none⟩) NB263_291.out _).trans (((cell_far (p := ⟨gb291, _, none⟩) NB263_291.out _).trans (((cell_far (p := ⟨gb291, _, none⟩) NB263_291.out _).trans (((cell_far (p := ⟨gb291, _, none⟩) NB263_291.out _).trans (((cell_far (p := ⟨gb291, _, none⟩) NB263_291.out _).trans (hHeld.2.2.1)))))))))))), ((cell_far (p := ⟨gb291, _, none⟩) NB263_291.out _).trans (((cell_far (p := ⟨gb291, _, none⟩) NB263_291.out _).trans (((cell_far (p := ⟨gb291, _, none⟩) NB263_291.out _).trans (((cell_far (p := ⟨gb291, _, none⟩) NB263_291.out _).trans (((cell_far (p := ⟨gb291, _, none⟩) NB263_291.out _).trans (((cell_far (p := ⟨gb291, _, none⟩) NB263_291.out _).trans (hHeld.2.2.2.1)))))))))))), ((cell_far (p := ⟨gb291, _, none⟩) NB263_291.out _).trans (((cell_far (p := ⟨gb291, _, none⟩) NB263_291.out _).trans (((cell_far (p := ⟨gb291, _, none⟩) NB263_291.out _).trans (((cell_far (p := ⟨gb291, _, none⟩) NB263_291.out _).trans (((cell_far (p := ⟨gb291, _, none⟩) NB263_291.out _).trans (((cell_far (p := ⟨gb291, _, none⟩) NB263_291.out _).trans (hHeld.2.2.2.2.1)))))))))))), ((cell_far (p := ⟨gb291, _, none⟩) NB263_291.out _).trans (((cell_far (p := ⟨gb291, _, none⟩) NB263_291.out _).trans (((cell_far (p := ⟨gb291, _, none⟩) NB263_291.out _).trans (((cell_far (p := ⟨gb291, _, none⟩) NB263_291.out _).trans (((cell_far (p := ⟨gb291, _, none⟩) NB263_291.out _).trans (((cell_far (p := ⟨gb291, _, none⟩) NB263_291.out _).trans (hHeld.2.2.2.2.2))))))))))))⟩ (fun hHeld => ?_)
                  clear hK K
                  refine one_ (i := 10) (N := none) #[true, true, true, true, true, true, true, true, true, true, true] rfl rfl (one_of HT_.out (by kernel_rfl)) (by decide) (fun K hK => ?_)
                  have hs41 : w34.cell? ⟨gb292, 0, none⟩ = some (.bool false) := (blk_cell BK292.out 0).trans rfl
                  have hfs41 := blk_frozen BK292.out 0
                  have hns41_0 := NB263_292.out
                  have hns41_1 := NB270_292.out
                  have hns41_2 := NB278_292.out
                  have hns41_3 := NB291_292.out
                  have hms41_0 := NB292_263.out
                  have hms41_1 := NB292_270.out
                  have hms41_2 := NB292_278.out
                  have hms41_3 := NB292_291.out
                  have hs42 : w34.cell? ⟨gb292, 1, none⟩ = some (.bool false) := (blk_cell BK292.out 1).trans rfl
                  have hfs42 := blk_frozen BK292.out 1
                  have hns42_0 := NB263_292.out
                  have hns42_1 := NB270_292.out
                  have hns42_2 := NB278_292.out
                  have hns42_3 := NB291_292.out
                  have hms42_0 := NB292_263.out
                  have hms42_1 := NB292_270.out
                  have hms42_2 := NB292_278.out
                  have hms42_3 := NB292_291.out
                  have hs43 : w34.cell? ⟨gb292, 2, none⟩ = some (.bool false) := (blk_cell BK292.out 2).trans rfl
                  have hfs43 := blk_frozen BK292.out 2
                  have hns43_0 := NB263_292.out
                  have hns43_1 := NB270_292.out
                  have hns43_2 := NB278_292.out
                  have hns43_3 := NB291_292.out
                  have hms43_0 := NB292_263.out
                  have hms43_1 := NB292_270.out
                  have hms43_2 := NB292_278.out
                  have hms43_3 := NB292_291.out
                  have hs44 : w34.cell? ⟨gb292, 3, none⟩ = some (.bool false) := (blk_cell BK292.out 3).trans rfl
                  have hfs44 := blk_frozen BK292.out 3
                  have hns44_0 := NB263_292.out
                  have hns44_1 := NB270_292.out
                  have hns44_2 := NB278_292.out
                  have hns44_3 := NB291_292.out
                  have hms44_0 := NB292_263.out
                  have hms44_1 := NB292_270.out
                  have hms44_2 := NB292_278.out
                  have hms44_3 := NB292_291.out
                  have hs45 : w34.cell? ⟨gb292, 4, none⟩ = some (.bool false) := (blk_cell BK292.out 4).trans rfl
                  have hfs45 := blk_frozen BK292.out 4
                  have hns45_0 := NB263_292.out
                  have hns45_1 := NB270_292.out
                  have hns45_2 := NB278_292.out
                  have hns45_3 := NB291_292.out
                  have hms45_0 := NB292_263.out
                  have hms45_1 := NB292_270.out
                  have hms45_2 := NB292_278.out
                  have hms45_3 := NB292_291.out
                  have hs46 : w34.cell? ⟨gb292, 5, none⟩ = some (.bool false) := (blk_cell BK292.out 5).trans rfl
                  have hfs46 := blk_frozen BK292.out 5
                  have hns46_0 := NB263_292.out
                  have hns46_1 := NB270_292.out
                  have hns46_2 := NB278_292.out
                  have hns46_3 := NB291_292.out
                  have hms46_0 := NB292_263.out
                  have hms46_1 := NB292_270.out
                  have hms46_2 := NB292_278.out
                  have hms46_3 := NB292_291.out
                  refine skip_ (w1 := ?_) (by rfl) rfl ?_ ?_
                  rotate_left
                  · go_simp
                    rfl
                  refine hK.out _ _ ⟨((cell_far (p := ⟨gb292, _, none⟩) NB263_292.out _).trans (((cell_far (p := ⟨gb292, _, none⟩) NB263_292.out _).trans (((cell_far (p := ⟨gb292, _, none⟩) NB263_292.out _).trans (((cell_far (p := ⟨gb292, _, none⟩) NB263_292.out _).trans (((cell_far (p := ⟨gb292, _, none⟩) NB263_292.out _).trans (((cell_far (p := ⟨gb292, _, none⟩) NB263_292.out _).trans (hHeld.1)))))))))))), ((cell_far (p := ⟨gb292, _, none⟩) NB263_292.out _).trans (((cell_far (p := ⟨gb292, _, none⟩) NB263_292.out _).trans (((cell_far (p := ⟨gb292, _, none⟩) NB263_292.out _).trans (((cell_far (p := ⟨gb292, _, none⟩) NB263_292.out _).trans (((cell_far (p := ⟨gb292, _, none⟩) NB263_292.out _).trans (((cell_far (p := ⟨gb292, _, none⟩) NB263_292.out _).trans (hHeld.2.1)))))))))))), ((cell_far (p := ⟨gb292, _, none⟩) NB263_292.out _).trans (((cell_far (p := ⟨gb292, _, none⟩) NB263_292.out _).trans (((cell_far (p := ⟨gb292, _, none⟩) NB263_292.out _).trans (((cell_far (p := ⟨gb292, _, none⟩) NB263_292.out _).trans (((cell_far (p := ⟨gb292, _, none⟩) NB263_292.out _).trans (((cell_far (p := ⟨gb292, _, none⟩) NB263_292.out _).trans (hHeld.2.2.1)))))))))))), ((cell_far (p := ⟨gb292, _, none⟩) NB263_292.out _).trans (((cell_far (p := ⟨gb292, _, none⟩) NB263_292.out _).trans (((cell_far (p := ⟨gb292, _, none⟩) NB263_292.out _).trans (((cell_far (p := ⟨gb292, _, none⟩) NB263_292.out _).trans (((cell_far (p := ⟨gb292, _, none⟩) NB263_292.out _).trans (((cell_far (p := ⟨gb292, _, none⟩) NB263_292.out _).trans (hHeld.2.2.2.1)))))))))))), ((cell_far (p := ⟨gb292, _, none⟩) NB263_292.out _).trans (((cell_far (p := ⟨gb292, _, none⟩) NB263_292.out _).trans (((cell_far (p := ⟨gb292, _, none⟩) NB263_292.out _).trans (((cell_far (p := ⟨gb292, _, none⟩) NB263_292.out _).trans (((cell_far (p := ⟨gb292, _, none⟩) NB263_292.out _).trans (((cell_far (p := ⟨gb292, _, none⟩) NB263_292.out _).trans (hHeld.2.2.2.2.1)))))))))))), ((cell_far (p := ⟨gb292, _, none⟩) NB263_292.out _).trans (((cell_far (p := ⟨gb292, _, none⟩) NB263_292.out _).trans (((cell_far (p := ⟨gb292, _, none⟩) NB263_292.out _).trans (((cell_far (p := ⟨gb292, _, none⟩) NB263_292.out _).trans (((cell_far (p := ⟨gb292, _, none⟩) NB263_292.out _).trans (((cell_far (p := ⟨gb292, _, none⟩) NB263_292.out _).trans (hHeld.2.2.2.2.2))))))))))))⟩ (fun hHeld => ?_)
                  clear hK K
                  refine done_ (done_of HT_.out (by kernel_rfl)) ?_
                  have hnb47 := NB270_291.out
                  have hnc47 := NB291_270.out
                  have hnb48 := NB270_292.out
                  have hnc48 := NB292_270.out
                  have hcz49_0 : w34.cell? ⟨gb270, 0, none⟩ = some (.bool t264) := (blk_cell BK270.out 0).trans rfl
                  have hcz49_1 : w34.cell? ⟨gb270, 1, none⟩ = some (.bool t265) := (blk_cell BK270.out 1).trans rfl
                  have hcz49_2 : w34.cell? ⟨gb270, 2, none⟩ = some (.bool t266) := (blk_cell BK270.out 2).trans rfl
                  have hcz49_3 : w34.cell? ⟨gb270, 3, none⟩ = some (.bool t267) := (blk_cell BK270.out 3).trans rfl
                  have hcz49_4 : w34.cell? ⟨gb270, 4, none⟩ = some (.bool t268) := (blk_cell BK270.out 4).trans rfl
                  have hcz49_5 : w34.cell? ⟨gb270, 5, none⟩ = some (.bool t269) := (blk_cell BK270.out 5).trans rfl
                  have hfz49_0 := blk_frozen BK270.out 0
                  have hfz49_1 := blk_frozen BK270.out 1
                  have hfz49_2 := blk_frozen BK270.out 2
                  have hfz49_3 := blk_frozen BK270.out 3
                  have hfz49_4 := blk_frozen BK270.out 4
                  have hfz49_5 := blk_frozen BK270.out 5
                  have hnb50 := NB278_291.out
                  have hnc50 := NB291_278.out
                  have hnb51 := NB278_292.out
                  have hnc51 := NB292_278.out
                  have hcz52_0 : w34.cell? ⟨gb278, 0, none⟩ = some (.bool t272) := (blk_cell BK278.out 0).trans rfl
                  have hcz52_1 : w34.cell? ⟨gb278, 1, none⟩ = some (.bool t273) := (blk_cell BK278.out 1).trans rfl
                  have hcz52_2 : w34.cell? ⟨gb278, 2, none⟩ = some (.bool t274) := (blk_cell BK278.out 2).trans rfl
                  have hcz52_3 : w34.cell? ⟨gb278, 3, none⟩ = some (.bool t275) := (blk_cell BK278.out 3).trans rfl
                  have hcz52_4 : w34.cell? ⟨gb278, 4, none⟩ = some (.bool t276) := (blk_cell BK278.out 4).trans rfl
                  have hcz52_5 : w34.cell? ⟨gb278, 5, none⟩ = some (.bool t277) := (blk_cell BK278.out 5).trans rfl
                  have hfz52_0 := blk_frozen BK278.out 0
                  have hfz52_1 := blk_frozen BK278.out 1
                  have hfz52_2 := blk_frozen BK278.out 2
                  have hfz52_3 := blk_frozen BK278.out 3
                  have hfz52_4 := blk_frozen BK278.out 4
                  have hfz52_5 := blk_frozen BK278.out 5
                  have hnb53 := NB292_263.out
                  have hnc53 := NB263_292.out
                  have hnb54 := NB292_291.out
                  have hnc54 := NB291_292.out
                  have hcz55_0 : w34.cell? ⟨gb292, 0, none⟩ = some (.bool false) := (blk_cell BK292.out 0).trans rfl
                  have hcz55_1 : w34.cell? ⟨gb292, 1, none⟩ = some (.bool false) := (blk_cell BK292.out 1).trans rfl
                  have hcz55_2 : w34.cell? ⟨gb292, 2, none⟩ = some (.bool false) := (blk_cell BK292.out 2).trans rfl
                  have hcz55_3 : w34.cell? ⟨gb292, 3, none⟩ = some (.bool false) := (blk_cell BK292.out 3).trans rfl
                  have hcz55_4 : w34.cell? ⟨gb292, 4, none⟩ = some (.bool false) := (blk_cell BK292.out 4).trans rfl
                  have hcz55_5 : w34.cell? ⟨gb292, 5, none⟩ = some (.bool false) := (blk_cell BK292.out 5).trans rfl
                  have hfz55_0 := blk_frozen BK292.out 0
                  have hfz55_1 := blk_frozen BK292.out 1
                  have hfz55_2 := blk_frozen BK292.out 2
                  have hfz55_3 := blk_frozen BK292.out 3
                  have hfz55_4 := blk_frozen BK292.out 4
                  have hfz55_5 := blk_frozen BK292.out 5
                  have hnb56 := NB291_263.out
                  have hnc56 := NB263_291.out
                  have hcz57_0 : w34.cell? ⟨gb291, 0, none⟩ = some (.bool false) := (blk_cell BK291.out 0).trans rfl
                  have hcz57_1 : w34.cell? ⟨gb291, 1, none⟩ = some (.bool false) := (blk_cell BK291.out 1).trans rfl
                  have hcz57_2 : w34.cell? ⟨gb291, 2, none⟩ = some (.bool false) := (blk_cell BK291.out 2).trans rfl
                  have hcz57_3 : w34.cell? ⟨gb291, 3, none⟩ = some (.bool false) := (blk_cell BK291.out 3).trans rfl
                  have hcz57_4 : w34.cell? ⟨gb291, 4, none⟩ = some (.bool false) := (blk_cell BK291.out 4).trans rfl
                  have hcz57_5 : w34.cell? ⟨gb291, 5, none⟩ = some (.bool false) := (blk_cell BK291.out 5).trans rfl
                  have hfz57_0 := blk_frozen BK291.out 0
                  have hfz57_1 := blk_frozen BK291.out 1
                  have hfz57_2 := blk_frozen BK291.out 2
                  have hfz57_3 := blk_frozen BK291.out 3
                  have hfz57_4 := blk_frozen BK291.out 4
                  have hfz57_5 := blk_frozen BK291.out 5
                  have hcz58_0 : w34.cell? ⟨gb263, 0, none⟩ = some (.bool t257) := (blk_cell BK263.out 0).trans rfl
                  have hcz58_1 : w34.cell? ⟨gb263, 1, none⟩ = some (.bool t258) := (blk_cell BK263.out 1).trans rfl
                  have hcz58_2 : w34.cell? ⟨gb263, 2, none⟩ = some (.bool t259) := (blk_cell BK263.out 2).trans rfl
                  have hcz58_3 : w34.cell? ⟨gb263, 3, none⟩ = some (.bool t260) := (blk_cell BK263.out 3).trans rfl
                  have hcz58_4 : w34.cell? ⟨gb263, 4, none⟩ = some (.bool t261) := (blk_cell BK263.out 4).trans rfl
                  have hcz58_5 : w34.cell? ⟨gb263, 5, none⟩ = some (.bool t262) := (blk_cell BK263.out 5).trans rfl
                  have hfz58_0 := blk_frozen BK263.out 0
                  have hfz58_1 := blk_frozen BK263.out 1
                  have hfz58_2 := blk_frozen BK263.out 2
                  have hfz58_3 := blk_frozen BK263.out 3
                  have hfz58_4 := blk_frozen BK263.out 4
                  have hfz58_5 := blk_frozen BK263.out 5
                  try go_wp2
                  go_ret
                  exact ⟨by first | rfl | (simp [errW_none, errW_some] <;> rfl) | (simp [*, errW_none, errW_some] <;> rfl), by repeat (first | (with_reducible first | exact HB.out | apply below_alloc | apply pw_below_drewN | apply below_drew1 | refine below_set ?_ GE263.out | refine below_set ?_ GE270.out | refine below_set ?_ GE278.out | refine below_set ?_ GE291.out | refine below_set ?_ GE292.out) | exact HB.out)⟩
                · rw [if_neg c15] at H
                  have c15b0 : (t284 == t262) = false := by simpa using c15
                  (try (have c15b1 : decide (t284 = t262) = false := by simpa using c15))
                  (try (have c15b2 : (t284 == t262) = false := by simpa using c15))
                  (try (have c15b3 : ¬ (t284 = t262) := by simpa using c15))
                  clear c15
                  exact absurd ((Option.some.inj H).trans hrt_.out) (by decide)
              · rw [if_neg c14] at H
                have c14b0 : (t283 == ((Go.bits .and .u8 t255 t256) == 0)) = false := by simpa using c14
                (try (have c14b1 : decide (t283 = ((Go.bits .and .u8 t255 t256) == 0)) = false := by simpa using c14))
                (try (have c14b2 : (t283 == ((Go.bits .and .u8 t255 t256) == 0)) = false := by simpa using c14))
                (try (have c14b3 : ¬ (t283 = ((Go.bits .and .u8 t255 t256) == 0)) := by simpa using c14))
                clear c14
                exact absurd ((Option.some.inj H).trans hrt_.out) (by decide)
            · rw [if_neg c13] at H
              have c13b0 : (t289 == t268) = false := by simpa using c13
              (try (have c13b1 : decide (t289 = t268) = false := by simpa using c13))
              (try (have c13b2 : (t289 == t268) = false := by simpa using c13))
              (try (have c13b3 : ¬ (t289 = t268) := by simpa using c13))
              clear c13
              exact absurd ((Option.some.inj H).trans hrt_.out) (by decide)
          · rw [if_neg c12] at H
            have c12b0 : (t285 == t264) = false := by simpa using c12
            (try (have c12b1 : decide (t285 = t264) = false := by simpa using c12))
            (try (have c12b2 : (t285 == t264) = false := by simpa using c12))
            (try (have c12b3 : ¬ (t285 = t264) := by simpa using c12))
            clear c12
            exact absurd ((Option.some.inj H).trans hrt_.out) (by decide)
        · rw [if_neg c11] at H
          have c11b0 : (t269 == t277) = false := by simpa using c11
          (try (have c11b1 : decide (t269 = t277) = false := by simpa using c11))
          (try (have c11b2 : (t269 == t277) = false := by simpa using c11))
          (try (have c11b3 : ¬ (t269 = t277) := by simpa using c11))
          clear c11
          exact absurd ((Option.some.inj H).trans hrt_.out) (by decide)
      · rw [if_neg c10] at H
        have c10b0 : (t268 == t276) = false := by simpa using c10
        (try (have c10b1 : decide (t268 = t276) = false := by simpa using c10))
        (try (have c10b2 : (t268 == t276) = false := by simpa using c10))
        (try (have c10b3 : ¬ (t268 = t276) := by simpa using c10))
        clear c10
        exact absurd ((Option.some.inj H).trans hrt_.out) (by decide)
    · rw [if_neg c9] at H
      have c9b0 : (t264 == t272) = false := by simpa using c9
      (try (have c9b1 : decide (t264 = t272) = false := by simpa using c9))
      (try (have c9b2 : (t264 == t272) = false := by simpa using c9))
      (try (have c9b3 : ¬ (t264 = t272) := by simpa using c9))
      clear c9
      exact absurd ((Option.some.inj H).trans hrt_.out) (by decide)

/-- THE ONE PURE STATEMENT of laws_FnCompare: yours. -/
def laws_FnCompare.Pure : Prop := ∀ (l0 : List Int), l0.length ≤ maxLen → l0.length * 1 ≤ 140737488351232 → (∀ x ∈ l0, (Lit.int .u8 x).wf = true) → ∃ k, laws_FnCompare.f k l0 = some true
theorem laws_FnCompare.walk (P : laws_FnCompare.Pure) (a0 : Option Addr) (len0 cap0 : Nat) (z0 : List Int) (w : World) (w0 : (a0 = none ∧ len0 = 0 ∧ cap0 = 0 ∧ z0 = []) ∨ ∃ x, a0 = some x ∧ len0 ≤ cap0 ∧ cap0 ≤ maxLen ∧ z0.length = cap0 ∧ (∀ i, i < z0.length → w.cell? (x.add i) = some (.int .u8 (z0.getD i 0))) ∧ ∀ n ∈ z0, (Lit.int .u8 n).wf = true) (y0 : len0 * 1 ≤ 140737488351232) :
    Calls Try.prog 13 #[.slice a0 len0 cap0] w fun e w' => e = .returned (.bool true) ∧ Below w.heap.size w w' := by
  obtain ⟨l0, rfl, hr0, hm0, hw0, hc0⟩ := ReadsInt.ofRowC w0
  obtain ⟨k, h⟩ := P l0 hm0 y0 hw0
  refine (laws_FnCompare.calls k _ _ l0 true ⟨rfl⟩ w (Kd.C_of_reads (d := (0 : Int)) (h1 := fun _ => rfl) hr0) hc0 h).mono ?_
  rintro e w' ⟨rfl, hd⟩
  exact ⟨rfl, hd⟩

end Go.Proofs.Ythdeemkhbajfgaa.PAlu
