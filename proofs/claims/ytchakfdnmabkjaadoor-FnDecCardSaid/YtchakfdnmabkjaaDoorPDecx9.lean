/- Functions of the program as plain Lean functions, each with a proof that the machine's call comes to it; written for this seat's claims by a program of mine. -/
import Derived.Test.YtchakfdnmabkjaaDoorPDecx0
import Derived.Test.YtchakfdnmabkjaaDoorPDecx1
import Derived.Test.YtchakfdnmabkjaaDoorPDecx5
import Derived.Test.YtchakfdnmabkjaaDoorPDecx6
import Derived.Test.YtchakfdnmabkjaaDoorPDecx7
import Derived.Test.YtchakfdnmabkjaaDoorPDecx8
import Derived.Test.YtchakfdnmabkjaaDoorMyDecXDecText
import Derived.Test.YtchakfdnmabkjaaDoorMyDecXReadDec
namespace Go.Proofs.YtchakfdnmabkjaaDoor.PDec
open Go.RowKit Go.Proofs.YtchakfdnmabkjaaDoorW.PrintWords Go.Proofs.YtchakfdnmabkjaaDoorW.PrintLast Go.Proofs.YtchakfdnmabkjaaDoorW.PrintMore Go.Proofs.YtchakfdnmabkjaaDoor.Tabs Go.Proofs.YtchakfdnmabkjaaDoor.Tabs Go.Proofs.YtchakfdnmabkjaaDoor.Tabs
attribute [local go_sem] max2_int min2_int max_two min_two max_three min_three max_four min_four   -- for this text's walks alone
attribute [local go_sem] Go.Proofs.YtchakfdnmabkjaaDoor.Cell2.cell_set_off Go.Proofs.YtchakfdnmabkjaaDoor.Cell2.set_drewN Go.Proofs.YtchakfdnmabkjaaDoor.Cell2.not_beq_bool
set_option linter.unusedVariables false
set_option linter.unusedSimpArgs false

/-! ### laws_FnDec: function 8 -/
mutual
def laws_FnDec.j0 : Nat → Int → ByteArray → Int → Int → ByteArray → Bool → Option (Bool)
  | 0, _, _, _, _, _, _ => none
  | k + 1, x3, x4, x5, x6, x7, x33 => if x33 = true then (some false) else (if x7.toList = ([] : List UInt8) then (laws_FnDec.j1 k x3 x4) else (if x6 < 8 then (if 0 ≤ (IntKind.u64.wrap (wrap64 (4 * x6))) then ((impl_ReadHex.f k x7 x6).bind fun t207 => (if t207 = (Go.bits .and .i64 x5 (wrap64 ((shl .i64 1 (IntKind.u64.wrap (wrap64 (4 * x6)))) - 1))) then (laws_FnDec.j1 k x3 x4) else (some false))) else (none)) else ((impl_ReadHex.f k x7 x6).bind fun t208 => (if t208 = (Go.bits .and .i64 x5 4294967295) then (laws_FnDec.j1 k x3 x4) else (some false)))))
def laws_FnDec.j1 : Nat → Int → ByteArray → Option (Bool)
  | 0, _, _ => none
  | k + 1, x3, x4 => if x3 ≥ 0 then (laws_FnDec.j2 k x3 x4 (decide (x3 ≤ 999999999))) else (laws_FnDec.j2 k x3 x4 false)
def laws_FnDec.j2 : Nat → Int → ByteArray → Bool → Option (Bool)
  | 0, _, _, _ => none
  | k + 1, x3, x4, x58 => if x58 = true then ((impl_ReadDec.f x4).bind fun t209 => (some (t209 == x3))) else ((impl_ReadDec.f x4).bind fun t210 => (some (t210 == (-1))))
end
def laws_FnDec.f (k : Nat) (l0 : List Int) : Option (Bool) := (laws_big.f l0).bind fun t199 => (if t199 = true then (some true) else ((spec_DrawDecText.f k l0).bind fun t200 => ((impl_DecText.f t200).bind fun t201 => ((spec_DrawHexText.f k l0).bind fun bt202 => ((impl_HexText.f k bt202.1 bt202.2).bind fun t204 => ((spec_DecText.f k t200).bind fun t205 => (if t201.toList = t205.toList then ((spec_HexText.f k bt202.1 bt202.2).bind fun t206 => (laws_FnDec.j0 k t200 t201 bt202.1 bt202.2 t204 (t204.toList != t206.toList))) else (laws_FnDec.j0 k t200 t201 bt202.1 bt202.2 t204 true))))))))
theorem laws_FnDec.mono_l : ∀ k, (∀ y0 y1 y2 y3 y4 y5, LeO (laws_FnDec.j0 k y0 y1 y2 y3 y4 y5) (laws_FnDec.j0 (k + 1) y0 y1 y2 y3 y4 y5)) ∧ (∀ y0 y1, LeO (laws_FnDec.j1 k y0 y1) (laws_FnDec.j1 (k + 1) y0 y1)) ∧ (∀ y0 y1 y2, LeO (laws_FnDec.j2 k y0 y1 y2) (laws_FnDec.j2 (k + 1) y0 y1 y2))
  | 0 => ⟨fun _ _ _ _ _ _ r h => by simp [laws_FnDec.j0] at h, fun _ _ r h => by simp [laws_FnDec.j1] at h, fun _ _ _ r h => by simp [laws_FnDec.j2] at h⟩
  | k + 1 => by
    obtain ⟨ih0, ih1, ih2⟩ := laws_FnDec.mono_l k
    refine ⟨?_, ?_, ?_⟩
    · intro y0 y1 y2 y3 y4 y5
      unfold laws_FnDec.j0
      repeat' first
      | (with_reducible exact ih0 _ _ _ _ _ _)
      | (with_reducible exact ih1 _ _)
      | (with_reducible exact ih2 _ _ _)
      | (with_reducible exact impl_HexText.mono _ _ _)
      | (with_reducible exact impl_ReadHex.mono _ _ _)
      | (with_reducible exact spec_DecText.mono _ _)
      | (with_reducible exact spec_DrawDecText.mono _ _)
      | (with_reducible exact spec_DrawHexText.mono _ _)
      | (with_reducible exact spec_HexText.mono _ _ _)
      | (with_reducible exact LeO.refl _)
      | (with_reducible exact LeO.none _)
      | (with_reducible refine LeO.ite ?_ ?_)
      | (with_reducible refine LeO.bind ?_ (fun _ => ?_))
      | exact ih0 _ _ _ _ _ _
      | exact ih1 _ _
      | exact ih2 _ _ _
      | exact impl_HexText.mono _ _ _
      | exact impl_ReadHex.mono _ _ _
      | exact spec_DecText.mono _ _
      | exact spec_DrawDecText.mono _ _
      | exact spec_DrawHexText.mono _ _
      | exact spec_HexText.mono _ _ _
      | exact LeO.none _
      | refine LeO.ite ?_ ?_
      | refine LeO.bind ?_ (fun _ => ?_)
    · intro y0 y1
      unfold laws_FnDec.j1
      repeat' first
      | (with_reducible exact ih0 _ _ _ _ _ _)
      | (with_reducible exact ih1 _ _)
      | (with_reducible exact ih2 _ _ _)
      | (with_reducible exact impl_HexText.mono _ _ _)
      | (with_reducible exact impl_ReadHex.mono _ _ _)
      | (with_reducible exact spec_DecText.mono _ _)
      | (with_reducible exact spec_DrawDecText.mono _ _)
      | (with_reducible exact spec_DrawHexText.mono _ _)
      | (with_reducible exact spec_HexText.mono _ _ _)
      | (with_reducible exact LeO.refl _)
      | (with_reducible exact LeO.none _)
      | (with_reducible refine LeO.ite ?_ ?_)
      | (with_reducible refine LeO.bind ?_ (fun _ => ?_))
      | exact ih0 _ _ _ _ _ _
      | exact ih1 _ _
      | exact ih2 _ _ _
      | exact impl_HexText.mono _ _ _
      | exact impl_ReadHex.mono _ _ _
      | exact spec_DecText.mono _ _
      | exact spec_DrawDecText.mono _ _
      | exact spec_DrawHexText.mono _ _
      | exact spec_HexText.mono _ _ _
      | exact LeO.none _
      | refine LeO.ite ?_ ?_
      | refine LeO.bind ?_ (fun _ => ?_)
    · intro y0 y1 y2
      unfold laws_FnDec.j2
      repeat' first
      | (with_reducible exact ih0 _ _ _ _ _ _)
      | (with_reducible exact ih1 _ _)
      | (with_reducible exact ih2 _ _ _)
      | (with_reducible exact impl_HexText.mono _ _ _)
      | (with_reducible exact impl_ReadHex.mono _ _ _)
      | (with_reducible exact spec_DecText.mono _ _)
      | (with_reducible exact spec_DrawDecText.mono _ _)
      | (with_reducible exact spec_DrawHexText.mono _ _)
      | (with_reducible exact spec_HexText.mono _ _ _)
      | (with_reducible exact LeO.refl _)
      | (with_reducible exact LeO.none _)
      | (with_reducible refine LeO.ite ?_ ?_)
      | (with_reducible refine LeO.bind ?_ (fun _ => ?_))
      | exact ih0 _ _ _ _ _ _
      | exact ih1 _ _
      | exact ih2 _ _ _
      | exact impl_HexText.mono _ _ _
      | exact impl_ReadHex.mono _ _ _
      | exact spec_DecText.mono _ _
      | exact spec_DrawDecText.mono _ _
      | exact spec_DrawHexText.mono _ _
      | exact spec_HexText.mono _ _ _
      | exact LeO.none _
      | refine LeO.ite ?_ ?_
      | refine LeO.bind ?_ (fun _ => ?_)
theorem laws_FnDec.mono : ∀ a0 k, LeO (laws_FnDec.f k a0) (laws_FnDec.f (k + 1) a0) := by
  intro a0 k
  obtain ⟨ih0, ih1, ih2⟩ := laws_FnDec.mono_l k
  unfold laws_FnDec.f
  repeat' first
      | (with_reducible exact ih0 _ _ _ _ _ _)
      | (with_reducible exact ih1 _ _)
      | (with_reducible exact ih2 _ _ _)
      | (with_reducible exact impl_HexText.mono _ _ _)
      | (with_reducible exact impl_ReadHex.mono _ _ _)
      | (with_reducible exact spec_DecText.mono _ _)
      | (with_reducible exact spec_DrawDecText.mono _ _)
      | (with_reducible exact spec_DrawHexText.mono _ _)
      | (with_reducible exact spec_HexText.mono _ _ _)
      | (with_reducible exact LeO.refl _)
      | (with_reducible exact LeO.none _)
      | (with_reducible refine LeO.ite ?_ ?_)
      | (with_reducible refine LeO.bind ?_ (fun _ => ?_))
      | exact ih0 _ _ _ _ _ _
      | exact ih1 _ _
      | exact ih2 _ _ _
      | exact impl_HexText.mono _ _ _
      | exact impl_ReadHex.mono _ _ _
      | exact spec_DecText.mono _ _
      | exact spec_DrawDecText.mono _ _
      | exact spec_DrawHexText.mono _ _
      | exact spec_HexText.mono _ _ _
      | exact LeO.none _
      | refine LeO.ite ?_ ?_
      | refine LeO.bind ?_ (fun _ => ?_)
set_option maxHeartbeats 8000000 in
set_option maxRecDepth 100000 in
theorem laws_FnDec.calls (k : Nat) (A0 : Option Addr) (c0 : Nat) (l0 : List Int) (r : Bool) (hrt_ : Aside0 (r = true)) (w : World) (HT : Aside0 (Pows w)) (HE : Aside0 (Errs w)) (hr0 : Kd.C (Kd.int .u8) w A0 l0.length l0) (hc0 : l0.length ≤ c0) (h : laws_FnDec.f k l0 = some r) :
    Calls Tryd.prog 8 #[.slice A0 l0.length c0] w fun e w' => e = .returned (.bool r) ∧ Below w.heap.size w w' := by
  have HR0 := Aside0.mk hr0
  have HC0 := Aside0.mk hc0
  clear hr0 hc0
  have HB := Aside0.mk (Below.refl w.heap.size w)
  have H : ((laws_big.f l0).bind fun t199 => (if t199 = true then (some true) else ((spec_DrawDecText.f k l0).bind fun t200 => ((impl_DecText.f t200).bind fun t201 => ((spec_DrawHexText.f k l0).bind fun bt202 => ((impl_HexText.f k bt202.1 bt202.2).bind fun t204 => ((spec_DecText.f k t200).bind fun t205 => (if t201.toList = t205.toList then ((spec_HexText.f k bt202.1 bt202.2).bind fun t206 => (laws_FnDec.j0 k t200 t201 bt202.1 bt202.2 t204 (t204.toList != t206.toList))) else (laws_FnDec.j0 k t200 t201 bt202.1 bt202.2 t204 true))))))))) = some r := h
  clear h
  replace H := Option.bind_eq_some_iff.mp H
  obtain ⟨t199, A20, H⟩ := H
  replace H : (if t199 = true then (some true) else ((spec_DrawDecText.f k l0).bind fun t200 => ((impl_DecText.f t200).bind fun t201 => ((spec_DrawHexText.f k l0).bind fun bt202 => ((impl_HexText.f k bt202.1 bt202.2).bind fun t204 => ((spec_DecText.f k t200).bind fun t205 => (if t201.toList = t205.toList then ((spec_HexText.f k bt202.1 bt202.2).bind fun t206 => (laws_FnDec.j0 k t200 t201 bt202.1 bt202.2 t204 (t204.toList != t206.toList))) else (laws_FnDec.j0 k t200 t201 bt202.1 bt202.2 t204 true)))))))) = some r := H
  have A2 := Aside0.mk A20
  clear A20
  by_cases c3 : t199 = true
  · subst c3
    have H1 : (some true) = some r := by rw [if_pos rfl] at H; exact H
    clear H
    have H := H1
    clear H1
    obtain rfl := Option.some.inj H
    go_enter Tryd.func8, Tryd.ntmps8
    go_wp2_with (first | ((with_reducible refine gate_callee (f := 23) rfl ?_); refine goesL_ (some 10) rfl rfl Tryd.func23 (by kernel_rfl) rfl #[.slice A0 l0.length c0] rfl (by (try simp only [List.map_toArray, List.map_cons, List.map_nil]); first | done | rfl | (simp only [List.length_drop, List.length_take]; rfl)) ?_; (with_reducible refine (laws_big.calls _ _ l0 true _ ?side1 ?side2 A2.out).mono ?_); (case side1 => repeat (first | exact HR0.out | (with_reducible refine Kd.C_alloc ?_ _) | (with_reducible refine Kd.C_drewN ?_ _) | (with_reducible refine Kd.C_drew ?_))); (case side2 => exact HC0.out); rintro e w' ⟨rfl, ⟨nd, rfl⟩⟩; refine ⟨_, rfl, ?_⟩))
    go_ret
    exact ⟨by first | rfl | (simp [errW_none, errW_some] <;> rfl) | (simp [*, errW_none, errW_some] <;> rfl), by repeat (first | (with_reducible first | exact HB.out | apply below_alloc | apply pw_below_drewN | apply below_drew1) | exact HB.out)⟩
  · replace c3 := Bool.eq_false_iff.mpr c3
    subst c3
    have H1 : ((spec_DrawDecText.f k l0).bind fun t200 => ((impl_DecText.f t200).bind fun t201 => ((spec_DrawHexText.f k l0).bind fun bt202 => ((impl_HexText.f k bt202.1 bt202.2).bind fun t204 => ((spec_DecText.f k t200).bind fun t205 => (if t201.toList = t205.toList then ((spec_HexText.f k bt202.1 bt202.2).bind fun t206 => (laws_FnDec.j0 k t200 t201 bt202.1 bt202.2 t204 (t204.toList != t206.toList))) else (laws_FnDec.j0 k t200 t201 bt202.1 bt202.2 t204 true))))))) = some r := by rw [if_neg (show ¬ (false = true) by decide)] at H; exact H
    clear H
    have H := H1
    clear H1
    replace H := Option.bind_eq_some_iff.mp H
    obtain ⟨t200, A40, H⟩ := H
    replace H : ((impl_DecText.f t200).bind fun t201 => ((spec_DrawHexText.f k l0).bind fun bt202 => ((impl_HexText.f k bt202.1 bt202.2).bind fun t204 => ((spec_DecText.f k t200).bind fun t205 => (if t201.toList = t205.toList then ((spec_HexText.f k bt202.1 bt202.2).bind fun t206 => (laws_FnDec.j0 k t200 t201 bt202.1 bt202.2 t204 (t204.toList != t206.toList))) else (laws_FnDec.j0 k t200 t201 bt202.1 bt202.2 t204 true)))))) = some r := H
    have A4 := Aside0.mk A40
    clear A40
    replace H := Option.bind_eq_some_iff.mp H
    obtain ⟨t201, A50, H⟩ := H
    replace H : ((spec_DrawHexText.f k l0).bind fun bt202 => ((impl_HexText.f k bt202.1 bt202.2).bind fun t204 => ((spec_DecText.f k t200).bind fun t205 => (if t201.toList = t205.toList then ((spec_HexText.f k bt202.1 bt202.2).bind fun t206 => (laws_FnDec.j0 k t200 t201 bt202.1 bt202.2 t204 (t204.toList != t206.toList))) else (laws_FnDec.j0 k t200 t201 bt202.1 bt202.2 t204 true))))) = some r := H
    have A5 := Aside0.mk A50
    clear A50
    replace H := Option.bind_eq_some_iff.mp H
    obtain ⟨⟨t202, t203⟩, A60, H⟩ := H
    replace H : ((impl_HexText.f k t202 t203).bind fun t204 => ((spec_DecText.f k t200).bind fun t205 => (if t201.toList = t205.toList then ((spec_HexText.f k t202 t203).bind fun t206 => (laws_FnDec.j0 k t200 t201 t202 t203 t204 (t204.toList != t206.toList))) else (laws_FnDec.j0 k t200 t201 t202 t203 t204 true)))) = some r := H
    have A6 := Aside0.mk A60
    clear A60
    replace H := Option.bind_eq_some_iff.mp H
    obtain ⟨t204, A70, H⟩ := H
    replace H : ((spec_DecText.f k t200).bind fun t205 => (if t201.toList = t205.toList then ((spec_HexText.f k t202 t203).bind fun t206 => (laws_FnDec.j0 k t200 t201 t202 t203 t204 (t204.toList != t206.toList))) else (laws_FnDec.j0 k t200 t201 t202 t203 t204 true))) = some r := H
    have A7 := Aside0.mk A70
    clear A70
    have HC8 := Aside0.mk H
    clear H
    go_enter Tryd.func8, Tryd.ntmps8
    go_upto_region 7 with (first | ((with_reducible refine gate_callee (f := 23) rfl ?_); refine goesL_ (some 10) rfl rfl Tryd.func23 (by kernel_rfl) rfl #[.slice A0 l0.length c0] rfl (by (try simp only [List.map_toArray, List.map_cons, List.map_nil]); first | done | rfl | (simp only [List.length_drop, List.length_take]; rfl)) ?_; (with_reducible refine (laws_big.calls _ _ l0 false _ ?side1 ?side2 A2.out).mono ?_); (case side1 => repeat (first | exact HR0.out | (with_reducible refine Kd.C_alloc ?_ _) | (with_reducible refine Kd.C_drewN ?_ _) | (with_reducible refine Kd.C_drew ?_))); (case side2 => exact HC0.out); rintro e w' ⟨rfl, ⟨nd, rfl⟩⟩; refine ⟨_, rfl, ?_⟩) | ((with_reducible refine gate_callee (f := 29) rfl ?_); refine goesL_ (some 12) rfl rfl Tryd.func29 (by kernel_rfl) rfl #[.slice A0 l0.length c0] rfl (by (try simp only [List.map_toArray, List.map_cons, List.map_nil]); first | done | rfl | (simp only [List.length_drop, List.length_take]; rfl)) ?_; (with_reducible refine (spec_DrawDecText.calls k _ _ l0 t200 _ ?side1 ?side2 A4.out).mono ?_); (case side1 => repeat (first | exact HR0.out | (with_reducible refine Kd.C_alloc ?_ _) | (with_reducible refine Kd.C_drewN ?_ _) | (with_reducible refine Kd.C_drew ?_))); (case side2 => exact HC0.out); rintro e w9 ⟨rfl, hb⟩; refine ⟨_, rfl, ?_⟩; have n0_ := Aside0.mk (below_step (by repeat (first | (with_reducible first | exact HB.out | apply below_alloc | apply pw_below_drewN | apply below_drew1) | exact HB.out)) hb); clear HB; have HB := n0_; clear n0_; (try clear hb); (try clear hb2); (try clear hk); (try clear hi)) | ((with_reducible refine gate_callee (f := 10) rfl ?_); refine goesL_ (some 14) rfl rfl Tryd.func10 (by kernel_rfl) rfl #[.int .i64 t200] rfl (by (try simp only [List.map_toArray, List.map_cons, List.map_nil]); first | done | rfl | (simp only [List.length_drop, List.length_take]; rfl)) ?_; (with_reducible refine (impl_DecText.calls t200 t201 _ ⟨HT.out.on (by repeat (first | (with_reducible first | exact HB.out | apply below_alloc | apply pw_below_drewN | apply below_drew1) | exact HB.out))⟩ A5.out).mono ?_); rintro e w10 ⟨rfl, hb⟩; refine ⟨_, rfl, ?_⟩; have n0_ := Aside0.mk (below_step (by repeat (first | (with_reducible first | exact HB.out | apply below_alloc | apply pw_below_drewN | apply below_drew1) | exact HB.out)) hb); clear HB; have HB := n0_; clear n0_; (try clear hb); (try clear hb2); (try clear hk); (try clear hi)) | ((with_reducible refine gate_callee (f := 30) rfl ?_); refine goesL_ (some 17) rfl rfl Tryd.func30 (by kernel_rfl) rfl #[.slice A0 l0.length c0] rfl (by (try simp only [List.map_toArray, List.map_cons, List.map_nil]); first | done | rfl | (simp only [List.length_drop, List.length_take]; rfl)) ?_; (with_reducible refine (spec_DrawHexText.calls k _ _ l0 t202 t203 _ ?side1 ?side2 A6.out).mono ?_); (case side1 => repeat (first | exact (Kd.C_below HR0.out HB.out) | (with_reducible refine Kd.C_alloc ?_ _) | (with_reducible refine Kd.C_drewN ?_ _) | (with_reducible refine Kd.C_drew ?_))); (case side2 => exact HC0.out); rintro e w11 ⟨rfl, hb⟩; refine ⟨_, rfl, ?_⟩; have n0_ := Aside0.mk (below_step (by repeat (first | (with_reducible first | exact HB.out | apply below_alloc | apply pw_below_drewN | apply below_drew1) | exact HB.out)) hb); clear HB; have HB := n0_; clear n0_; (try clear hb); (try clear hb2); (try clear hk); (try clear hi)) | ((with_reducible refine gate_callee (f := 31) rfl ?_); refine goesL_ (some 22) rfl rfl Tryd.func31 (by kernel_rfl) rfl #[.int .i64 t202, .int .i64 t203] rfl (by (try simp only [List.map_toArray, List.map_cons, List.map_nil]); first | done | rfl | (simp only [List.length_drop, List.length_take]; rfl)) ?_; (with_reducible refine (impl_HexText.calls k t202 t203 t204 _ A7.out).mono ?_); rintro e w12 ⟨rfl, hb⟩; refine ⟨_, rfl, ?_⟩; have n0_ := Aside0.mk (below_step (by repeat (first | (with_reducible first | exact HB.out | apply below_alloc | apply pw_below_drewN | apply below_drew1) | exact HB.out)) hb); clear HB; have HB := n0_; clear n0_; (try clear hb); (try clear hb2); (try clear hk); (try clear hi)))
    (try simp only [Act.put, List.setIfInBounds_toArray, List.set_cons_zero, List.set_cons_succ])
    go_cut [33] (fun v33 wc => ∃ (kq : Nat) (x33_7 : Bool), v33 = .bool x33_7 ∧ Aside0 (laws_FnDec.j0 kq t200 t201 t202 t203 t204 x33_7 = some r) ∧ Aside0 (kq ≤ k) ∧ Aside0 (Below w.heap.size w wc))
    case first =>
      have H := HC8.out
      clear HC8
      replace H := Option.bind_eq_some_iff.mp H
      obtain ⟨t205, A130, H⟩ := H
      replace H : (if t201.toList = t205.toList then ((spec_HexText.f k t202 t203).bind fun t206 => (laws_FnDec.j0 k t200 t201 t202 t203 t204 (t204.toList != t206.toList))) else (laws_FnDec.j0 k t200 t201 t202 t203 t204 true)) = some r := H
      have A13 := Aside0.mk A130
      clear A130
      by_cases c14 : t201.toList = t205.toList
      · rw [if_pos c14] at H
        have c14b0 : (t201.toList == t205.toList) = true := beq_iff_eq.mpr c14
        have c14b1 : (t201.toList != t205.toList) = false := bne_eq_false_iff_eq.mpr c14
        clear c14
        (first | rw [c14b0] | (simp only [i64_w, i32_w]; rw [c14b0]) | skip)
        replace H := Option.bind_eq_some_iff.mp H
        obtain ⟨t206, A150, H⟩ := H
        replace H : (laws_FnDec.j0 k t200 t201 t202 t203 t204 (t204.toList != t206.toList)) = some r := H
        have A15 := Aside0.mk A150
        clear A150
        have H' := Aside0.mk H
        clear H
        go_wp2_with (first | ((with_reducible refine gate_callee (f := 9) rfl ?_); refine goesL_ (some 25) rfl rfl Tryd.func9 (by kernel_rfl) rfl #[.int .i64 t200] rfl (by (try simp only [List.map_toArray, List.map_cons, List.map_nil]); first | done | rfl | (simp only [List.length_drop, List.length_take]; rfl)) ?_; (with_reducible refine (spec_DecText.calls k t200 t205 _ A13.out).mono ?_); rintro e w' ⟨rfl, ⟨nd, rfl⟩⟩; refine ⟨_, rfl, ?_⟩) | (go_at_call 32; (with_reducible refine (spec_HexText.calls k t202 t203 t206 _ A15.out).mono ?_); rintro e w' ⟨rfl, ⟨nd, rfl⟩⟩))
        go_meet
        case rel => exact ⟨_, ((t204.toList != t206.toList)), (by first | rfl | (simp; done) | (simp [*]; done)), H', ⟨by first | omega | exact Nat.le_refl _⟩, ⟨by repeat (first | (with_reducible first | exact HB.out | apply below_alloc | apply pw_below_drewN | apply below_drew1) | exact HB.out)⟩⟩
      · rw [if_neg c14] at H
        have c14b0 : (t201.toList == t205.toList) = false := beq_eq_false_iff_ne.mpr c14
        have c14b1 : (t201.toList != t205.toList) = true := bne_iff_ne.mpr c14
        (first | rw [c14b0] | (simp only [i64_w, i32_w]; rw [c14b0]) | skip)
        have H' := Aside0.mk H
        clear H
        go_wp2_with (first | ((with_reducible refine gate_callee (f := 9) rfl ?_); refine goesL_ (some 25) rfl rfl Tryd.func9 (by kernel_rfl) rfl #[.int .i64 t200] rfl (by (try simp only [List.map_toArray, List.map_cons, List.map_nil]); first | done | rfl | (simp only [List.length_drop, List.length_take]; rfl)) ?_; (with_reducible refine (spec_DecText.calls k t200 t205 _ A13.out).mono ?_); rintro e w' ⟨rfl, ⟨nd, rfl⟩⟩; refine ⟨_, rfl, ?_⟩))
        go_meet
        case rel => exact ⟨_, (true), (by first | rfl | (simp; done) | (simp [*]; done)), H', ⟨by first | omega | exact Nat.le_refl _⟩, ⟨by repeat (first | (with_reducible first | exact HB.out | apply below_alloc | apply pw_below_drewN | apply below_drew1) | exact HB.out)⟩⟩
    case rest =>
      clear HC8
      try clear c1
      try clear c2
      try clear p2
      try clear c3
      try clear c8
      try clear c9
      try clear c10
      try clear c14
      try clear c14b0
      try clear c14b1
      obtain ⟨kq, x33_7, rfl, HA, HJ7, HB⟩ := hcut
      cases kq with
      | zero => exact absurd HA.out (by simp [laws_FnDec.j0])
      | succ kj7 =>
        have H := HA.out
        clear HA
        simp only [laws_FnDec.j0] at H
        by_cases c16 : x33_7 = true
        · subst c16
          have H1 : (some false) = some r := by rw [if_pos rfl] at H; exact H
          clear H
          have H := H1
          clear H1
          exact absurd ((Option.some.inj H).trans hrt_.out) (by decide)
        · replace c16 := Bool.eq_false_iff.mpr c16
          subst c16
          have H1 : (if t204.toList = ([] : List UInt8) then (laws_FnDec.j1 kj7 t200 t201) else (if t203 < 8 then (if 0 ≤ (IntKind.u64.wrap (wrap64 (4 * t203))) then ((impl_ReadHex.f kj7 t204 t203).bind fun t207 => (if t207 = (Go.bits .and .i64 t202 (wrap64 ((shl .i64 1 (IntKind.u64.wrap (wrap64 (4 * t203)))) - 1))) then (laws_FnDec.j1 kj7 t200 t201) else (some false))) else (none)) else ((impl_ReadHex.f kj7 t204 t203).bind fun t208 => (if t208 = (Go.bits .and .i64 t202 4294967295) then (laws_FnDec.j1 kj7 t200 t201) else (some false))))) = some r := by rw [if_neg (show ¬ (false = true) by decide)] at H; exact H
          clear H
          have H := H1
          clear H1
          have HC17 := Aside0.mk H
          clear H
          go_upto_if 35 with (fail)
          go_cut [] (fun wc => ∃ (kq : Nat), Aside0 (laws_FnDec.j1 kq t200 t201 = some r) ∧ Aside0 (kq ≤ kj7) ∧ Aside0 (Below w.heap.size w wc))
          case first =>
            have H := HC17.out
            clear HC17
            by_cases c18 : t204.toList = ([] : List UInt8)
            · rw [if_pos c18] at H
              have c18b0 : (t204.toList == ([] : List UInt8)) = true := beq_iff_eq.mpr c18
              have c18b1 : (t204.toList != ([] : List UInt8)) = false := bne_eq_false_iff_eq.mpr c18
              have c18b9 : (t204.toList).isEmpty = true := List.isEmpty_iff.mpr c18
              clear c18
              (first | rw [c18b9] | rw [c18b0] | (simp only [i64_w, i32_w]; rw [c18b0]) | skip)
              have H' := Aside0.mk H
              clear H
              go_wp2
              go_meet
              case rel => exact ⟨_, H', ⟨by have := HJ7.out; first | omega | exact Nat.le_refl _⟩, ⟨by repeat (first | (with_reducible first | exact HB.out | apply below_alloc | apply pw_below_drewN | apply below_drew1) | exact HB.out)⟩⟩
            · rw [if_neg c18] at H
              have c18b0 : (t204.toList == ([] : List UInt8)) = false := beq_eq_false_iff_ne.mpr c18
              have c18b1 : (t204.toList != ([] : List UInt8)) = true := bne_iff_ne.mpr c18
              have c18b9 : (t204.toList).isEmpty = false := Bool.eq_false_iff.mpr (fun h_ => c18 (List.isEmpty_iff.mp h_))
              (first | rw [c18b9] | rw [c18b0] | (simp only [i64_w, i32_w]; rw [c18b0]) | skip)
              by_cases c19 : t203 < 8
              · rw [if_pos c19] at H
                have c19b0 : decide (t203 < 8) = true := decide_eq_true c19
                clear c19
                obtain ⟨ji20, hji20⟩ : ∃ j_ : Int, (IntKind.u64.wrap (wrap64 (4 * t203))) = j_ := ⟨_, rfl⟩
                replace H : (if 0 ≤ (ji20) then ((impl_ReadHex.f kj7 t204 t203).bind fun t207 => (if t207 = (Go.bits .and .i64 t202 (wrap64 ((shl .i64 1 (ji20)) - 1))) then (laws_FnDec.j1 kj7 t200 t201) else (some false))) else (none)) = some r := by first | (rw [hji20] at H; exact H) | (simp only [hji20] at H ⊢; exact H)
                by_cases c21 : 0 ≤ (ji20)
                · rw [if_pos c21] at H
                  have c21b0 := eq_true c21
                  have c21b1 : decide (0 ≤ (ji20)) = true := decide_eq_true c21
                  clear c21
                  obtain ⟨ji22, hji22⟩ : ∃ j_ : Int, (shl .i64 1 (ji20)) = j_ := ⟨_, rfl⟩
                  replace H : ((impl_ReadHex.f kj7 t204 t203).bind fun t207 => (if t207 = (Go.bits .and .i64 t202 (wrap64 ((ji22) - 1))) then (laws_FnDec.j1 kj7 t200 t201) else (some false))) = some r := by first | (rw [hji22] at H; exact H) | (simp only [hji22] at H ⊢; exact H)
                  have hji22_ : (IntKind.i64.wrap (1 * 2 ^ min (ji20).toNat 64)) = ji22 := hji22
                  have hji22z : (ji20) ≤ 64 → (IntKind.i64.wrap (1 * 2 ^ (ji20).toNat)) = ji22 := shl_small hji22
                  have hji22u : (IntKind.i64.wrap (2 ^ min (ji20).toNat 64)) = ji22 := by have h_ := hji22_; rw [Int.one_mul] at h_; exact h_
                  have hji22v : (ji20) ≤ 64 → (IntKind.i64.wrap (2 ^ (ji20).toNat)) = ji22 := fun hle_ => by have h_ := hji22z hle_; rw [Int.one_mul] at h_; exact h_
                  have hji22y : (wrap64 (1 * 2 ^ min (ji20).toNat 64)) = ji22 := (i64_w _).symm.trans hji22_
                  have hji22x : (ji20) ≤ 64 → (wrap64 (1 * 2 ^ (ji20).toNat)) = ji22 := fun h_ => (i64_w _).symm.trans (hji22z h_)
                  replace H := Option.bind_eq_some_iff.mp H
                  obtain ⟨t207, A230, H⟩ := H
                  replace H : (if t207 = (Go.bits .and .i64 t202 (wrap64 ((ji22) - 1))) then (laws_FnDec.j1 kj7 t200 t201) else (some false)) = some r := H
                  have A23 := Aside0.mk A230
                  clear A230
                  by_cases c24 : t207 = (Go.bits .and .i64 t202 (wrap64 ((ji22) - 1)))
                  · rw [if_pos c24] at H
                    have c24b0 : (t207 == (Go.bits .and .i64 t202 (wrap64 ((ji22) - 1)))) = true := beq_iff_eq.mpr c24
                    have c24b1 : (t207 != (Go.bits .and .i64 t202 (wrap64 ((ji22) - 1)))) = false := bne_eq_false_iff_eq.mpr c24
                    clear c24
                    have H' := Aside0.mk H
                    clear H
                    go_wp2_with (first | ((with_reducible refine gate_callee (f := 33) rfl ?_); refine goesL_ (some 50) rfl rfl Tryd.func33 (by kernel_rfl) rfl #[.string t204, .int .i64 t203] rfl (by (try simp only [List.map_toArray, List.map_cons, List.map_nil]); first | done | rfl | (simp only [List.length_drop, List.length_take]; rfl)) ?_; (with_reducible refine (impl_ReadHex.calls kj7 t204 t203 t207 _ A23.out).mono ?_); rintro e w' ⟨rfl, ⟨nd, rfl⟩⟩; refine ⟨_, rfl, ?_⟩))
                    go_meet
                    case rel => exact ⟨_, H', ⟨by have := HJ7.out; first | omega | exact Nat.le_refl _⟩, ⟨by repeat (first | (with_reducible first | exact HB.out | apply below_alloc | apply pw_below_drewN | apply below_drew1) | exact HB.out)⟩⟩
                  · rw [if_neg c24] at H
                    have c24b0 : (t207 == (Go.bits .and .i64 t202 (wrap64 ((ji22) - 1)))) = false := beq_eq_false_iff_ne.mpr c24
                    have c24b1 : (t207 != (Go.bits .and .i64 t202 (wrap64 ((ji22) - 1)))) = true := bne_iff_ne.mpr c24
                    exact absurd ((Option.some.inj H).trans hrt_.out) (by decide)
                · rw [if_neg c21] at H
                  exact absurd H (by simp)
              · rw [if_neg c19] at H
                have c19b0 : decide (t203 < 8) = false := decide_eq_false c19
                clear c19
                replace H := Option.bind_eq_some_iff.mp H
                obtain ⟨t208, A250, H⟩ := H
                replace H : (if t208 = (Go.bits .and .i64 t202 4294967295) then (laws_FnDec.j1 kj7 t200 t201) else (some false)) = some r := H
                have A25 := Aside0.mk A250
                clear A250
                by_cases c26 : t208 = (Go.bits .and .i64 t202 4294967295)
                · rw [if_pos c26] at H
                  have c26b0 : (t208 == (Go.bits .and .i64 t202 4294967295)) = true := beq_iff_eq.mpr c26
                  have c26b1 : (t208 != (Go.bits .and .i64 t202 4294967295)) = false := bne_eq_false_iff_eq.mpr c26
                  clear c26
                  have H' := Aside0.mk H
                  clear H
                  go_wp2_with (first | ((with_reducible refine gate_callee (f := 33) rfl ?_); refine goesL_ (some 50) rfl rfl Tryd.func33 (by kernel_rfl) rfl #[.string t204, .int .i64 t203] rfl (by (try simp only [List.map_toArray, List.map_cons, List.map_nil]); first | done | rfl | (simp only [List.length_drop, List.length_take]; rfl)) ?_; (with_reducible refine (impl_ReadHex.calls kj7 t204 t203 t208 _ A25.out).mono ?_); rintro e w' ⟨rfl, ⟨nd, rfl⟩⟩; refine ⟨_, rfl, ?_⟩))
                  go_meet
                  case rel => exact ⟨_, H', ⟨by have := HJ7.out; first | omega | exact Nat.le_refl _⟩, ⟨by repeat (first | (with_reducible first | exact HB.out | apply below_alloc | apply pw_below_drewN | apply below_drew1) | exact HB.out)⟩⟩
                · rw [if_neg c26] at H
                  have c26b0 : (t208 == (Go.bits .and .i64 t202 4294967295)) = false := beq_eq_false_iff_ne.mpr c26
                  have c26b1 : (t208 != (Go.bits .and .i64 t202 4294967295)) = true := bne_iff_ne.mpr c26
                  exact absurd ((Option.some.inj H).trans hrt_.out) (by decide)
          case rest =>
            clear HC17
            try clear c1
            try clear c2
            try clear p2
            try clear c3
            try clear p6
            try clear c8
            try clear c9
            try clear c10
            try clear c14
            try clear c14b0
            try clear c14b1
            try clear c16
            try clear c18
            try clear c18b0
            try clear c18b1
            try clear c19
            try clear c19b0
            try clear c21
            try clear c21b0
            try clear c21b1
            try clear c23
            try clear c24
            try clear c24b0
            try clear c24b1
            try clear c26
            try clear c26b0
            try clear c26b1
            try clear p2
            obtain ⟨kq, HA, HJ16, HB⟩ := hcut
            cases kq with
            | zero => exact absurd HA.out (by simp [laws_FnDec.j1])
            | succ kj16 =>
              have H := HA.out
              clear HA
              simp only [laws_FnDec.j1] at H
              have HC27 := Aside0.mk H
              clear H
              go_upto_region 16 with (fail)
              go_cut [58] (fun v58 wc => ∃ (kq : Nat) (x58_26 : Bool), v58 = .bool x58_26 ∧ Aside0 (laws_FnDec.j2 kq t200 t201 x58_26 = some r) ∧ Aside0 (kq ≤ kj16) ∧ Aside0 (Below w.heap.size w wc))
              case first =>
                have H := HC27.out
                clear HC27
                by_cases c28 : t200 ≥ 0
                · rw [if_pos c28] at H
                  have c28b0 : decide (0 ≤ t200) = true := decide_eq_true c28
                  clear c28
                  (first | rw [c28b0] | (simp only [i64_w, i32_w]; rw [c28b0]) | skip)
                  have H' := Aside0.mk H
                  clear H
                  go_wp2
                  go_meet
                  case rel => exact ⟨_, (decide (t200 ≤ 999999999)), (by first | rfl | (simp; done) | (simp [*]; done)), H', ⟨by have := HJ7.out; have := HJ16.out; first | omega | exact Nat.le_refl _⟩, ⟨by repeat (first | (with_reducible first | exact HB.out | apply below_alloc | apply pw_below_drewN | apply below_drew1) | exact HB.out)⟩⟩
                · rw [if_neg c28] at H
                  have c28b0 : decide (0 ≤ t200) = false := decide_eq_false c28
                  clear c28
                  (first | rw [c28b0] | (simp only [i64_w, i32_w]; rw [c28b0]) | skip)
                  have H' := Aside0.mk H
                  clear H
                  go_wp2
                  go_meet
                  case rel => exact ⟨_, (false), (by first | rfl | (simp; done) | (simp [*]; done)), H', ⟨by have := HJ7.out; have := HJ16.out; first | omega | exact Nat.le_refl _⟩, ⟨by repeat (first | (with_reducible first | exact HB.out | apply below_alloc | apply pw_below_drewN | apply below_drew1) | exact HB.out)⟩⟩
              case rest =>
                clear HC27
                try clear c1
                try clear c2
                try clear p2
                try clear c3
                try clear p6
                try clear c8
                try clear c9
                try clear c10
                try clear c14
                try clear c14b0
                try clear c14b1
                try clear c16
                try clear c18
                try clear c18b0
                try clear c18b1
                try clear c19
                try clear c19b0
                try clear c21
                try clear c21b0
                try clear c21b1
                try clear c23
                try clear c24
                try clear c24b0
                try clear c24b1
                try clear c26
                try clear c26b0
                try clear c26b1
                try clear c28
                try clear c28b0
                try clear p2
                try clear p6
                obtain ⟨kq, x58_26, rfl, HA, HJ26, HB⟩ := hcut
                cases kq with
                | zero => exact absurd HA.out (by simp [laws_FnDec.j2])
                | succ kj26 =>
                  have H := HA.out
                  clear HA
                  simp only [laws_FnDec.j2] at H
                  by_cases c29 : x58_26 = true
                  · subst c29
                    have H1 : ((impl_ReadDec.f t201).bind fun t209 => (some (t209 == t200))) = some r := by rw [if_pos rfl] at H; exact H
                    clear H
                    have H := H1
                    clear H1
                    replace H := Option.bind_eq_some_iff.mp H
                    obtain ⟨t209, A300, H⟩ := H
                    replace H : (some (t209 == t200)) = some r := H
                    have A30 := Aside0.mk A300
                    clear A300
                    obtain rfl := Option.some.inj H
                    go_wp2_with (first | ((with_reducible refine gate_callee (f := 12) rfl ?_); refine goesL_ (some 60) rfl rfl Tryd.func12 (by kernel_rfl) rfl #[.string t201] rfl (by (try simp only [List.map_toArray, List.map_cons, List.map_nil]); first | done | rfl | (simp only [List.length_drop, List.length_take]; rfl)) ?_; (with_reducible refine (impl_ReadDec.calls t201 t209 _ ⟨HT.out.on (by repeat (first | (with_reducible first | exact HB.out | apply below_alloc | apply pw_below_drewN | apply below_drew1) | exact HB.out))⟩ ⟨HE.out.on (by repeat (first | (with_reducible first | exact HB.out | apply below_alloc | apply pw_below_drewN | apply below_drew1) | exact HB.out))⟩ A30.out).mono ?_); rintro e w31 ⟨rfl, hb⟩; refine ⟨_, rfl, ?_⟩; have n0_ := Aside0.mk (below_step (by repeat (first | (with_reducible first | exact HB.out | apply below_alloc | apply pw_below_drewN | apply below_drew1) | exact HB.out)) hb); clear HB; have HB := n0_; clear n0_; (try clear hb); (try clear hb2); (try clear hk); (try clear hi)))
                    go_ret
                    exact ⟨by first | rfl | (simp [errW_none, errW_some] <;> rfl) | (simp [*, errW_none, errW_some] <;> rfl), by repeat (first | (with_reducible first | exact HB.out | apply below_alloc | apply pw_below_drewN | apply below_drew1) | exact HB.out)⟩
                  · replace c29 := Bool.eq_false_iff.mpr c29
                    subst c29
                    have H1 : ((impl_ReadDec.f t201).bind fun t210 => (some (t210 == (-1)))) = some r := by rw [if_neg (show ¬ (false = true) by decide)] at H; exact H
                    clear H
                    have H := H1
                    clear H1
                    replace H := Option.bind_eq_some_iff.mp H
                    obtain ⟨t210, A320, H⟩ := H
                    replace H : (some (t210 == (-1))) = some r := H
                    have A32 := Aside0.mk A320
                    clear A320
                    obtain rfl := Option.some.inj H
                    go_wp2_with (first | ((with_reducible refine gate_callee (f := 12) rfl ?_); refine goesL_ (some 64) rfl rfl Tryd.func12 (by kernel_rfl) rfl #[.string t201] rfl (by (try simp only [List.map_toArray, List.map_cons, List.map_nil]); first | done | rfl | (simp only [List.length_drop, List.length_take]; rfl)) ?_; (with_reducible refine (impl_ReadDec.calls t201 t210 _ ⟨HT.out.on (by repeat (first | (with_reducible first | exact HB.out | apply below_alloc | apply pw_below_drewN | apply below_drew1) | exact HB.out))⟩ ⟨HE.out.on (by repeat (first | (with_reducible first | exact HB.out | apply below_alloc | apply pw_below_drewN | apply below_drew1) | exact HB.out))⟩ A32.out).mono ?_); rintro e w33 ⟨rfl, hb⟩; refine ⟨_, rfl, ?_⟩; have n0_ := Aside0.mk (below_step (by repeat (first | (with_reducible first | exact HB.out | apply below_alloc | apply pw_below_drewN | apply below_drew1) | exact HB.out)) hb); clear HB; have HB := n0_; clear n0_; (try clear hb); (try clear hb2); (try clear hk); (try clear hi)))
                    go_ret
                    exact ⟨by first | rfl | (simp [errW_none, errW_some] <;> rfl) | (simp [*, errW_none, errW_some] <;> rfl), by repeat (first | (with_reducible first | exact HB.out | apply below_alloc | apply pw_below_drewN | apply below_drew1) | exact HB.out)⟩

/-- THE ONE PURE STATEMENT of laws_FnDec: yours. -/
def laws_FnDec.Pure : Prop := ∀ (l0 : List Int), l0.length ≤ maxLen → l0.length * 1 ≤ 140737488351232 → (∀ x ∈ l0, (Lit.int .u8 x).wf = true) → ∃ k, laws_FnDec.f k l0 = some true
end Go.Proofs.YtchakfdnmabkjaaDoor.PDec
