import Derived.Test.YtecccbecflbcfaaSLPDuox0
import Derived.Test.YtecccbecflbcfaaSLPDuox1
import Derived.Test.YtecccbecflbcfaaSLPDuox3
import Derived.Test.YtecccbecflbcfaaSLPDuox7
import Derived.Test.YtecccbecflbcfaaSLPDuox16
import Derived.Test.YtecccbecflbcfaaSLPDuox17
import Derived.Test.YtecccbecflbcfaaSLPDuox18
import Derived.Test.YtecccbecflbcfaaSLMyDuoKnown
import Derived.Test.YtecccbecflbcfaaSLMyDuoMeet
namespace Go.Proofs.Ytecccbecflbcfaa.PDuo
open Go.RowKit Go.Proofs.YtecccbecflbcfaaW.PrintWords Go.Proofs.YtecccbecflbcfaaW.PrintLast Go.Proofs.YtecccbecflbcfaaW.PrintMore
attribute [local go_sem] max2_int min2_int max_two min_two max_three min_three max_four min_four   -- for this text's walks alone
attribute [local go_sem] Go.Proofs.Ytecccbecflbcfaa.Cell2.cell_set_off Go.Proofs.Ytecccbecflbcfaa.Cell2.set_drewN Go.Proofs.Ytecccbecflbcfaa.Cell2.not_beq_bool
set_option linter.unusedVariables false
set_option linter.unusedSimpArgs false
attribute [local go_sem high] eqA23
def laws_FnLess.j0 : Nat → Bool → Bool → Int → Int → Int → Int → Int → Int → Int → Int → Int → Int → Int → Int → Int → Int → Int → Int → Int → Int → Int → Int → Int → Int → Option (Bool)
  | 0, _, _, _, _, _, _, _, _, _, _, _, _, _, _, _, _, _, _, _, _, _, _, _, _ => none
  | k + 1, x5, x34, x596000, x596001, x596002, x596003, x596004, x596005, x596006, x596007, x596008, x596009, x596010, x597000, x597001, x597002, x597003, x597004, x597005, x597006, x597007, x597008, x597009, x597010 => if x34 = true then (some false) else (if x5 = true then ((impl_Meet.f x596000 x596001 x596002 x596003 x596004 x596005 x596006 x596007 x596008 x596009 x596010 x597000 x597001 x597002 x597003 x597004 x597005 x597006 x597007 x597008 x597009 x597010).bind fun bt600 => ((impl_OnlyPC.f (-1)).bind fun bt613 => (if bt600.2.2.2.2.2.2.2.2.2.2.2 = true then (if (bt600.1 == x597000 && (bt600.2.1 == x597001 && (bt600.2.2.1 == x597002 && (bt600.2.2.2.1 == x597003 && (bt600.2.2.2.2.1 == x597004 && (bt600.2.2.2.2.2.1 == x597005 && (bt600.2.2.2.2.2.2.1 == x597006 && (bt600.2.2.2.2.2.2.2.1 == x597007 && (bt600.2.2.2.2.2.2.2.2.1 == x597008 && (bt600.2.2.2.2.2.2.2.2.2.1 == x597009 && (bt600.2.2.2.2.2.2.2.2.2.2.1 == x597010))))))))))) = true then ((impl_Less.f bt613.1 bt613.2.1 bt613.2.2.1 bt613.2.2.2.1 bt613.2.2.2.2.1 bt613.2.2.2.2.2.1 bt613.2.2.2.2.2.2.1 bt613.2.2.2.2.2.2.2.1 bt613.2.2.2.2.2.2.2.2.1 bt613.2.2.2.2.2.2.2.2.2.1 bt613.2.2.2.2.2.2.2.2.2.2 x596000 x596001 x596002 x596003 x596004 x596005 x596006 x596007 x596008 x596009 x596010).bind fun t625 => (if t625 = true then ((impl_Known.f bt613.1 bt613.2.1 bt613.2.2.1 bt613.2.2.2.1 bt613.2.2.2.2.1 bt613.2.2.2.2.2.1 bt613.2.2.2.2.2.2.1 bt613.2.2.2.2.2.2.2.1 bt613.2.2.2.2.2.2.2.2.1 bt613.2.2.2.2.2.2.2.2.2.1 bt613.2.2.2.2.2.2.2.2.2.2).bind fun t626 => (if t626 = 0 then ((impl_Known.f x596000 x596001 x596002 x596003 x596004 x596005 x596006 x596007 x596008 x596009 x596010).bind fun t627 => ((impl_Known.f x597000 x597001 x597002 x597003 x597004 x597005 x597006 x597007 x597008 x597009 x597010).bind fun t628 => (some (decide (t627 ≤ t628))))) else (some false))) else (some false))) else (some false)) else (some false)))) else (some true))
def laws_FnLess.f (k : Nat) (l0 : List Int) : Option (Bool) := (laws_big.f l0).bind fun t572 => (if t572 = true then (some true) else ((spec_DrawLess.f k l0).bind fun bt573 => ((impl_Less.f bt573.1 bt573.2.1 bt573.2.2.1 bt573.2.2.2.1 bt573.2.2.2.2.1 bt573.2.2.2.2.2.1 bt573.2.2.2.2.2.2.1 bt573.2.2.2.2.2.2.2.1 bt573.2.2.2.2.2.2.2.2.1 bt573.2.2.2.2.2.2.2.2.2.1 bt573.2.2.2.2.2.2.2.2.2.2.1 bt573.2.2.2.2.2.2.2.2.2.2.2.1 bt573.2.2.2.2.2.2.2.2.2.2.2.2.1 bt573.2.2.2.2.2.2.2.2.2.2.2.2.2.1 bt573.2.2.2.2.2.2.2.2.2.2.2.2.2.2.1 bt573.2.2.2.2.2.2.2.2.2.2.2.2.2.2.2.1 bt573.2.2.2.2.2.2.2.2.2.2.2.2.2.2.2.2.1 bt573.2.2.2.2.2.2.2.2.2.2.2.2.2.2.2.2.2.1 bt573.2.2.2.2.2.2.2.2.2.2.2.2.2.2.2.2.2.2.1 bt573.2.2.2.2.2.2.2.2.2.2.2.2.2.2.2.2.2.2.2.1 bt573.2.2.2.2.2.2.2.2.2.2.2.2.2.2.2.2.2.2.2.2.1 bt573.2.2.2.2.2.2.2.2.2.2.2.2.2.2.2.2.2.2.2.2.2).bind fun t597 => ((spec_Less.f k bt573.1 bt573.2.1 bt573.2.2.1 bt573.2.2.2.1 bt573.2.2.2.2.1 bt573.2.2.2.2.2.1 bt573.2.2.2.2.2.2.1 bt573.2.2.2.2.2.2.2.1 bt573.2.2.2.2.2.2.2.2.1 bt573.2.2.2.2.2.2.2.2.2.1 bt573.2.2.2.2.2.2.2.2.2.2.1 bt573.2.2.2.2.2.2.2.2.2.2.2.1 bt573.2.2.2.2.2.2.2.2.2.2.2.2.1 bt573.2.2.2.2.2.2.2.2.2.2.2.2.2.1 bt573.2.2.2.2.2.2.2.2.2.2.2.2.2.2.1 bt573.2.2.2.2.2.2.2.2.2.2.2.2.2.2.2.1 bt573.2.2.2.2.2.2.2.2.2.2.2.2.2.2.2.2.1 bt573.2.2.2.2.2.2.2.2.2.2.2.2.2.2.2.2.2.1 bt573.2.2.2.2.2.2.2.2.2.2.2.2.2.2.2.2.2.2.1 bt573.2.2.2.2.2.2.2.2.2.2.2.2.2.2.2.2.2.2.2.1 bt573.2.2.2.2.2.2.2.2.2.2.2.2.2.2.2.2.2.2.2.2.1 bt573.2.2.2.2.2.2.2.2.2.2.2.2.2.2.2.2.2.2.2.2.2).bind fun t598 => (if (t597 != t598) = true then (some false) else (if t597 = true then ((impl_Less.f bt573.2.2.2.2.2.2.2.2.2.2.2.1 bt573.2.2.2.2.2.2.2.2.2.2.2.2.1 bt573.2.2.2.2.2.2.2.2.2.2.2.2.2.1 bt573.2.2.2.2.2.2.2.2.2.2.2.2.2.2.1 bt573.2.2.2.2.2.2.2.2.2.2.2.2.2.2.2.1 bt573.2.2.2.2.2.2.2.2.2.2.2.2.2.2.2.2.1 bt573.2.2.2.2.2.2.2.2.2.2.2.2.2.2.2.2.2.1 bt573.2.2.2.2.2.2.2.2.2.2.2.2.2.2.2.2.2.2.1 bt573.2.2.2.2.2.2.2.2.2.2.2.2.2.2.2.2.2.2.2.1 bt573.2.2.2.2.2.2.2.2.2.2.2.2.2.2.2.2.2.2.2.2.1 bt573.2.2.2.2.2.2.2.2.2.2.2.2.2.2.2.2.2.2.2.2.2 bt573.1 bt573.2.1 bt573.2.2.1 bt573.2.2.2.1 bt573.2.2.2.2.1 bt573.2.2.2.2.2.1 bt573.2.2.2.2.2.2.1 bt573.2.2.2.2.2.2.2.1 bt573.2.2.2.2.2.2.2.2.1 bt573.2.2.2.2.2.2.2.2.2.1 bt573.2.2.2.2.2.2.2.2.2.2.1).bind fun t599 => (if t599 = true then (laws_FnLess.j0 k t597 (!(bt573.1 == bt573.2.2.2.2.2.2.2.2.2.2.2.1) || (!(bt573.2.1 == bt573.2.2.2.2.2.2.2.2.2.2.2.2.1) || (!(bt573.2.2.1 == bt573.2.2.2.2.2.2.2.2.2.2.2.2.2.1) || (!(bt573.2.2.2.1 == bt573.2.2.2.2.2.2.2.2.2.2.2.2.2.2.1) || (!(bt573.2.2.2.2.1 == bt573.2.2.2.2.2.2.2.2.2.2.2.2.2.2.2.1) || (!(bt573.2.2.2.2.2.1 == bt573.2.2.2.2.2.2.2.2.2.2.2.2.2.2.2.2.1) || (!(bt573.2.2.2.2.2.2.1 == bt573.2.2.2.2.2.2.2.2.2.2.2.2.2.2.2.2.2.1) || (!(bt573.2.2.2.2.2.2.2.1 == bt573.2.2.2.2.2.2.2.2.2.2.2.2.2.2.2.2.2.2.1) || (!(bt573.2.2.2.2.2.2.2.2.1 == bt573.2.2.2.2.2.2.2.2.2.2.2.2.2.2.2.2.2.2.2.1) || (!(bt573.2.2.2.2.2.2.2.2.2.1 == bt573.2.2.2.2.2.2.2.2.2.2.2.2.2.2.2.2.2.2.2.2.1) || (!(bt573.2.2.2.2.2.2.2.2.2.2.1 == bt573.2.2.2.2.2.2.2.2.2.2.2.2.2.2.2.2.2.2.2.2.2)))))))))))) bt573.1 bt573.2.1 bt573.2.2.1 bt573.2.2.2.1 bt573.2.2.2.2.1 bt573.2.2.2.2.2.1 bt573.2.2.2.2.2.2.1 bt573.2.2.2.2.2.2.2.1 bt573.2.2.2.2.2.2.2.2.1 bt573.2.2.2.2.2.2.2.2.2.1 bt573.2.2.2.2.2.2.2.2.2.2.1 bt573.2.2.2.2.2.2.2.2.2.2.2.1 bt573.2.2.2.2.2.2.2.2.2.2.2.2.1 bt573.2.2.2.2.2.2.2.2.2.2.2.2.2.1 bt573.2.2.2.2.2.2.2.2.2.2.2.2.2.2.1 bt573.2.2.2.2.2.2.2.2.2.2.2.2.2.2.2.1 bt573.2.2.2.2.2.2.2.2.2.2.2.2.2.2.2.2.1 bt573.2.2.2.2.2.2.2.2.2.2.2.2.2.2.2.2.2.1 bt573.2.2.2.2.2.2.2.2.2.2.2.2.2.2.2.2.2.2.1 bt573.2.2.2.2.2.2.2.2.2.2.2.2.2.2.2.2.2.2.2.1 bt573.2.2.2.2.2.2.2.2.2.2.2.2.2.2.2.2.2.2.2.2.1 bt573.2.2.2.2.2.2.2.2.2.2.2.2.2.2.2.2.2.2.2.2.2) else (laws_FnLess.j0 k t597 false bt573.1 bt573.2.1 bt573.2.2.1 bt573.2.2.2.1 bt573.2.2.2.2.1 bt573.2.2.2.2.2.1 bt573.2.2.2.2.2.2.1 bt573.2.2.2.2.2.2.2.1 bt573.2.2.2.2.2.2.2.2.1 bt573.2.2.2.2.2.2.2.2.2.1 bt573.2.2.2.2.2.2.2.2.2.2.1 bt573.2.2.2.2.2.2.2.2.2.2.2.1 bt573.2.2.2.2.2.2.2.2.2.2.2.2.1 bt573.2.2.2.2.2.2.2.2.2.2.2.2.2.1 bt573.2.2.2.2.2.2.2.2.2.2.2.2.2.2.1 bt573.2.2.2.2.2.2.2.2.2.2.2.2.2.2.2.1 bt573.2.2.2.2.2.2.2.2.2.2.2.2.2.2.2.2.1 bt573.2.2.2.2.2.2.2.2.2.2.2.2.2.2.2.2.2.1 bt573.2.2.2.2.2.2.2.2.2.2.2.2.2.2.2.2.2.2.1 bt573.2.2.2.2.2.2.2.2.2.2.2.2.2.2.2.2.2.2.2.1 bt573.2.2.2.2.2.2.2.2.2.2.2.2.2.2.2.2.2.2.2.2.1 bt573.2.2.2.2.2.2.2.2.2.2.2.2.2.2.2.2.2.2.2.2.2))) else (laws_FnLess.j0 k t597 false bt573.1 bt573.2.1 bt573.2.2.1 bt573.2.2.2.1 bt573.2.2.2.2.1 bt573.2.2.2.2.2.1 bt573.2.2.2.2.2.2.1 bt573.2.2.2.2.2.2.2.1 bt573.2.2.2.2.2.2.2.2.1 bt573.2.2.2.2.2.2.2.2.2.1 bt573.2.2.2.2.2.2.2.2.2.2.1 bt573.2.2.2.2.2.2.2.2.2.2.2.1 bt573.2.2.2.2.2.2.2.2.2.2.2.2.1 bt573.2.2.2.2.2.2.2.2.2.2.2.2.2.1 bt573.2.2.2.2.2.2.2.2.2.2.2.2.2.2.1 bt573.2.2.2.2.2.2.2.2.2.2.2.2.2.2.2.1 bt573.2.2.2.2.2.2.2.2.2.2.2.2.2.2.2.2.1 bt573.2.2.2.2.2.2.2.2.2.2.2.2.2.2.2.2.2.1 bt573.2.2.2.2.2.2.2.2.2.2.2.2.2.2.2.2.2.2.1 bt573.2.2.2.2.2.2.2.2.2.2.2.2.2.2.2.2.2.2.2.1 bt573.2.2.2.2.2.2.2.2.2.2.2.2.2.2.2.2.2.2.2.2.1 bt573.2.2.2.2.2.2.2.2.2.2.2.2.2.2.2.2.2.2.2.2.2)))))))
theorem laws_FnLess.mono_l : ∀ k, (∀ y0 y1 y2 y3 y4 y5 y6 y7 y8 y9 y10 y11 y12 y13 y14 y15 y16 y17 y18 y19 y20 y21 y22 y23, LeO (laws_FnLess.j0 k y0 y1 y2 y3 y4 y5 y6 y7 y8 y9 y10 y11 y12 y13 y14 y15 y16 y17 y18 y19 y20 y21 y22 y23) (laws_FnLess.j0 (k + 1) y0 y1 y2 y3 y4 y5 y6 y7 y8 y9 y10 y11 y12 y13 y14 y15 y16 y17 y18 y19 y20 y21 y22 y23))
  | 0 => fun _ _ _ _ _ _ _ _ _ _ _ _ _ _ _ _ _ _ _ _ _ _ _ _ r h => by simp [laws_FnLess.j0] at h
  | k + 1 => by
    have ih0 := laws_FnLess.mono_l k
    · intro y0 y1 y2 y3 y4 y5 y6 y7 y8 y9 y10 y11 y12 y13 y14 y15 y16 y17 y18 y19 y20 y21 y22 y23
      unfold laws_FnLess.j0
      repeat' first
      | (with_reducible exact ih0 _ _ _ _ _ _ _ _ _ _ _ _ _ _ _ _ _ _ _ _ _ _ _ _)
      | (with_reducible exact spec_DrawLess.mono _ _)
      | (with_reducible exact spec_Less.mono _ _ _ _ _ _ _ _ _ _ _ _ _ _ _ _ _ _ _ _ _ _ _)
      | (with_reducible exact LeO.refl _)
      | (with_reducible exact LeO.none _)
      | (with_reducible refine LeO.ite ?_ ?_)
      | (with_reducible refine LeO.bind ?_ (fun _ => ?_))
      | exact ih0 _ _ _ _ _ _ _ _ _ _ _ _ _ _ _ _ _ _ _ _ _ _ _ _
      | exact spec_DrawLess.mono _ _
      | exact spec_Less.mono _ _ _ _ _ _ _ _ _ _ _ _ _ _ _ _ _ _ _ _ _ _ _
      | exact LeO.none _
      | refine LeO.ite ?_ ?_
      | refine LeO.bind ?_ (fun _ => ?_)
theorem laws_FnLess.mono : ∀ a0 k, LeO (laws_FnLess.f k a0) (laws_FnLess.f (k + 1) a0) := by
  intro a0 k
  have ih0 := laws_FnLess.mono_l k
  unfold laws_FnLess.f
  repeat' first
      | (with_reducible exact ih0 _ _ _ _ _ _ _ _ _ _ _ _ _ _ _ _ _ _ _ _ _ _ _ _)
      | (with_reducible exact spec_DrawLess.mono _ _)
      | (with_reducible exact spec_Less.mono _ _ _ _ _ _ _ _ _ _ _ _ _ _ _ _ _ _ _ _ _ _ _)
      | (with_reducible exact LeO.refl _)
      | (with_reducible exact LeO.none _)
      | (with_reducible refine LeO.ite ?_ ?_)
      | (with_reducible refine LeO.bind ?_ (fun _ => ?_))
      | exact ih0 _ _ _ _ _ _ _ _ _ _ _ _ _ _ _ _ _ _ _ _ _ _ _ _
      | exact spec_DrawLess.mono _ _
      | exact spec_Less.mono _ _ _ _ _ _ _ _ _ _ _ _ _ _ _ _ _ _ _ _ _ _ _
      | exact LeO.none _
      | refine LeO.ite ?_ ?_
      | refine LeO.bind ?_ (fun _ => ?_)
def laws_FnLess.T13 : Bool × List (List Nat × List Nat) := (true, [([], []), ([0], [0]), ([1], [1]), ([1], [1]), ([2, 3, 1], [1, 2, 3]), ([1, 4], [1, 4]), ([5, 1], [5]), ([6], [6]), ([6], [6]), ([7, 8, 6, 6], [6, 7, 8]), ([6, 9], [6, 9]), ([10, 9], [10]), ([11], [11]), ([12, 11, 11], [11, 12]), ([13, 11], [11, 13]), ([11, 14], [11, 14]), ([15, 13], [15]), ([16], [16]), ([17, 16, 16], [16, 17]), ([16], [16]), ([19, 18, 16], [16, 19]), ([18, 20, 16], [16, 18, 20]), ([16, 21], [16, 21]), ([22, 20, 0, 1, 2, 3, 4, 5, 6, 7, 8, 9, 10, 11, 12, 13, 14, 15, 16, 17, 18, 19, 20, 21, 22], [22])])
def laws_FnLess.B13 : List Nat := [0, 1, 3, 3, 15, 31, 63, 127, 127, 511, 1023, 2047, 4095, 8191, 16383, 32767, 65535, 131071, 262143, 131071, 1048575, 2097151, 4194303, 8388607]
theorem laws_FnLess.tab13 : rtab .any (opsOf Try.f12 13) = laws_FnLess.T13 := by kernel_rfl
theorem laws_FnLess.bits13 : waitsOk laws_FnLess.T13.2 laws_FnLess.B13 = true := by kernel_rfl
set_option maxHeartbeats 8000000 in
set_option maxRecDepth 100000 in
theorem laws_FnLess.calls (k : Nat) (A0 : Option Addr) (c0 : Nat) (l0 : List Int) (r : Bool) (hrt_ : Aside0 (r = true)) (w : World) (hr0 : Kd.C (Kd.int .u8) w A0 l0.length l0) (hc0 : l0.length ≤ c0) (h : laws_FnLess.f k l0 = some r) :
    Calls Try.prog 12 #[.slice A0 l0.length c0] w fun e w' => e = .returned (.bool r) ∧ Below w.heap.size w w' := by
  have hu23 := Try.underlying23
  have HR0 := Aside0.mk hr0
  have HC0 := Aside0.mk hc0
  clear hr0 hc0
  have HB := Aside0.mk (Below.refl w.heap.size w)
  have H : ((laws_big.f l0).bind fun t572 => (if t572 = true then (some true) else ((spec_DrawLess.f k l0).bind fun bt573 => ((impl_Less.f bt573.1 bt573.2.1 bt573.2.2.1 bt573.2.2.2.1 bt573.2.2.2.2.1 bt573.2.2.2.2.2.1 bt573.2.2.2.2.2.2.1 bt573.2.2.2.2.2.2.2.1 bt573.2.2.2.2.2.2.2.2.1 bt573.2.2.2.2.2.2.2.2.2.1 bt573.2.2.2.2.2.2.2.2.2.2.1 bt573.2.2.2.2.2.2.2.2.2.2.2.1 bt573.2.2.2.2.2.2.2.2.2.2.2.2.1 bt573.2.2.2.2.2.2.2.2.2.2.2.2.2.1 bt573.2.2.2.2.2.2.2.2.2.2.2.2.2.2.1 bt573.2.2.2.2.2.2.2.2.2.2.2.2.2.2.2.1 bt573.2.2.2.2.2.2.2.2.2.2.2.2.2.2.2.2.1 bt573.2.2.2.2.2.2.2.2.2.2.2.2.2.2.2.2.2.1 bt573.2.2.2.2.2.2.2.2.2.2.2.2.2.2.2.2.2.2.1 bt573.2.2.2.2.2.2.2.2.2.2.2.2.2.2.2.2.2.2.2.1 bt573.2.2.2.2.2.2.2.2.2.2.2.2.2.2.2.2.2.2.2.2.1 bt573.2.2.2.2.2.2.2.2.2.2.2.2.2.2.2.2.2.2.2.2.2).bind fun t597 => ((spec_Less.f k bt573.1 bt573.2.1 bt573.2.2.1 bt573.2.2.2.1 bt573.2.2.2.2.1 bt573.2.2.2.2.2.1 bt573.2.2.2.2.2.2.1 bt573.2.2.2.2.2.2.2.1 bt573.2.2.2.2.2.2.2.2.1 bt573.2.2.2.2.2.2.2.2.2.1 bt573.2.2.2.2.2.2.2.2.2.2.1 bt573.2.2.2.2.2.2.2.2.2.2.2.1 bt573.2.2.2.2.2.2.2.2.2.2.2.2.1 bt573.2.2.2.2.2.2.2.2.2.2.2.2.2.1 bt573.2.2.2.2.2.2.2.2.2.2.2.2.2.2.1 bt573.2.2.2.2.2.2.2.2.2.2.2.2.2.2.2.1 bt573.2.2.2.2.2.2.2.2.2.2.2.2.2.2.2.2.1 bt573.2.2.2.2.2.2.2.2.2.2.2.2.2.2.2.2.2.1 bt573.2.2.2.2.2.2.2.2.2.2.2.2.2.2.2.2.2.2.1 bt573.2.2.2.2.2.2.2.2.2.2.2.2.2.2.2.2.2.2.2.1 bt573.2.2.2.2.2.2.2.2.2.2.2.2.2.2.2.2.2.2.2.2.1 bt573.2.2.2.2.2.2.2.2.2.2.2.2.2.2.2.2.2.2.2.2.2).bind fun t598 => (if (t597 != t598) = true then (some false) else (if t597 = true then ((impl_Less.f bt573.2.2.2.2.2.2.2.2.2.2.2.1 bt573.2.2.2.2.2.2.2.2.2.2.2.2.1 bt573.2.2.2.2.2.2.2.2.2.2.2.2.2.1 bt573.2.2.2.2.2.2.2.2.2.2.2.2.2.2.1 bt573.2.2.2.2.2.2.2.2.2.2.2.2.2.2.2.1 bt573.2.2.2.2.2.2.2.2.2.2.2.2.2.2.2.2.1 bt573.2.2.2.2.2.2.2.2.2.2.2.2.2.2.2.2.2.1 bt573.2.2.2.2.2.2.2.2.2.2.2.2.2.2.2.2.2.2.1 bt573.2.2.2.2.2.2.2.2.2.2.2.2.2.2.2.2.2.2.2.1 bt573.2.2.2.2.2.2.2.2.2.2.2.2.2.2.2.2.2.2.2.2.1 bt573.2.2.2.2.2.2.2.2.2.2.2.2.2.2.2.2.2.2.2.2.2 bt573.1 bt573.2.1 bt573.2.2.1 bt573.2.2.2.1 bt573.2.2.2.2.1 bt573.2.2.2.2.2.1 bt573.2.2.2.2.2.2.1 bt573.2.2.2.2.2.2.2.1 bt573.2.2.2.2.2.2.2.2.1 bt573.2.2.2.2.2.2.2.2.2.1 bt573.2.2.2.2.2.2.2.2.2.2.1).bind fun t599 => (if t599 = true then (laws_FnLess.j0 k t597 (!(bt573.1 == bt573.2.2.2.2.2.2.2.2.2.2.2.1) || (!(bt573.2.1 == bt573.2.2.2.2.2.2.2.2.2.2.2.2.1) || (!(bt573.2.2.1 == bt573.2.2.2.2.2.2.2.2.2.2.2.2.2.1) || (!(bt573.2.2.2.1 == bt573.2.2.2.2.2.2.2.2.2.2.2.2.2.2.1) || (!(bt573.2.2.2.2.1 == bt573.2.2.2.2.2.2.2.2.2.2.2.2.2.2.2.1) || (!(bt573.2.2.2.2.2.1 == bt573.2.2.2.2.2.2.2.2.2.2.2.2.2.2.2.2.1) || (!(bt573.2.2.2.2.2.2.1 == bt573.2.2.2.2.2.2.2.2.2.2.2.2.2.2.2.2.2.1) || (!(bt573.2.2.2.2.2.2.2.1 == bt573.2.2.2.2.2.2.2.2.2.2.2.2.2.2.2.2.2.2.1) || (!(bt573.2.2.2.2.2.2.2.2.1 == bt573.2.2.2.2.2.2.2.2.2.2.2.2.2.2.2.2.2.2.2.1) || (!(bt573.2.2.2.2.2.2.2.2.2.1 == bt573.2.2.2.2.2.2.2.2.2.2.2.2.2.2.2.2.2.2.2.2.1) || (!(bt573.2.2.2.2.2.2.2.2.2.2.1 == bt573.2.2.2.2.2.2.2.2.2.2.2.2.2.2.2.2.2.2.2.2.2)))))))))))) bt573.1 bt573.2.1 bt573.2.2.1 bt573.2.2.2.1 bt573.2.2.2.2.1 bt573.2.2.2.2.2.1 bt573.2.2.2.2.2.2.1 bt573.2.2.2.2.2.2.2.1 bt573.2.2.2.2.2.2.2.2.1 bt573.2.2.2.2.2.2.2.2.2.1 bt573.2.2.2.2.2.2.2.2.2.2.1 bt573.2.2.2.2.2.2.2.2.2.2.2.1 bt573.2.2.2.2.2.2.2.2.2.2.2.2.1 bt573.2.2.2.2.2.2.2.2.2.2.2.2.2.1 bt573.2.2.2.2.2.2.2.2.2.2.2.2.2.2.1 bt573.2.2.2.2.2.2.2.2.2.2.2.2.2.2.2.1 bt573.2.2.2.2.2.2.2.2.2.2.2.2.2.2.2.2.1 bt573.2.2.2.2.2.2.2.2.2.2.2.2.2.2.2.2.2.1 bt573.2.2.2.2.2.2.2.2.2.2.2.2.2.2.2.2.2.2.1 bt573.2.2.2.2.2.2.2.2.2.2.2.2.2.2.2.2.2.2.2.1 bt573.2.2.2.2.2.2.2.2.2.2.2.2.2.2.2.2.2.2.2.2.1 bt573.2.2.2.2.2.2.2.2.2.2.2.2.2.2.2.2.2.2.2.2.2) else (laws_FnLess.j0 k t597 false bt573.1 bt573.2.1 bt573.2.2.1 bt573.2.2.2.1 bt573.2.2.2.2.1 bt573.2.2.2.2.2.1 bt573.2.2.2.2.2.2.1 bt573.2.2.2.2.2.2.2.1 bt573.2.2.2.2.2.2.2.2.1 bt573.2.2.2.2.2.2.2.2.2.1 bt573.2.2.2.2.2.2.2.2.2.2.1 bt573.2.2.2.2.2.2.2.2.2.2.2.1 bt573.2.2.2.2.2.2.2.2.2.2.2.2.1 bt573.2.2.2.2.2.2.2.2.2.2.2.2.2.1 bt573.2.2.2.2.2.2.2.2.2.2.2.2.2.2.1 bt573.2.2.2.2.2.2.2.2.2.2.2.2.2.2.2.1 bt573.2.2.2.2.2.2.2.2.2.2.2.2.2.2.2.2.1 bt573.2.2.2.2.2.2.2.2.2.2.2.2.2.2.2.2.2.1 bt573.2.2.2.2.2.2.2.2.2.2.2.2.2.2.2.2.2.2.1 bt573.2.2.2.2.2.2.2.2.2.2.2.2.2.2.2.2.2.2.2.1 bt573.2.2.2.2.2.2.2.2.2.2.2.2.2.2.2.2.2.2.2.2.1 bt573.2.2.2.2.2.2.2.2.2.2.2.2.2.2.2.2.2.2.2.2.2))) else (laws_FnLess.j0 k t597 false bt573.1 bt573.2.1 bt573.2.2.1 bt573.2.2.2.1 bt573.2.2.2.2.1 bt573.2.2.2.2.2.1 bt573.2.2.2.2.2.2.1 bt573.2.2.2.2.2.2.2.1 bt573.2.2.2.2.2.2.2.2.1 bt573.2.2.2.2.2.2.2.2.2.1 bt573.2.2.2.2.2.2.2.2.2.2.1 bt573.2.2.2.2.2.2.2.2.2.2.2.1 bt573.2.2.2.2.2.2.2.2.2.2.2.2.1 bt573.2.2.2.2.2.2.2.2.2.2.2.2.2.1 bt573.2.2.2.2.2.2.2.2.2.2.2.2.2.2.1 bt573.2.2.2.2.2.2.2.2.2.2.2.2.2.2.2.1 bt573.2.2.2.2.2.2.2.2.2.2.2.2.2.2.2.2.1 bt573.2.2.2.2.2.2.2.2.2.2.2.2.2.2.2.2.2.1 bt573.2.2.2.2.2.2.2.2.2.2.2.2.2.2.2.2.2.2.1 bt573.2.2.2.2.2.2.2.2.2.2.2.2.2.2.2.2.2.2.2.1 bt573.2.2.2.2.2.2.2.2.2.2.2.2.2.2.2.2.2.2.2.2.1 bt573.2.2.2.2.2.2.2.2.2.2.2.2.2.2.2.2.2.2.2.2.2)))))))) = some r := h
  clear h
  replace H := Option.bind_eq_some_iff.mp H
  obtain ⟨t572, A20, H⟩ := H
  replace H : (if t572 = true then (some true) else ((spec_DrawLess.f k l0).bind fun bt573 => ((impl_Less.f bt573.1 bt573.2.1 bt573.2.2.1 bt573.2.2.2.1 bt573.2.2.2.2.1 bt573.2.2.2.2.2.1 bt573.2.2.2.2.2.2.1 bt573.2.2.2.2.2.2.2.1 bt573.2.2.2.2.2.2.2.2.1 bt573.2.2.2.2.2.2.2.2.2.1 bt573.2.2.2.2.2.2.2.2.2.2.1 bt573.2.2.2.2.2.2.2.2.2.2.2.1 bt573.2.2.2.2.2.2.2.2.2.2.2.2.1 bt573.2.2.2.2.2.2.2.2.2.2.2.2.2.1 bt573.2.2.2.2.2.2.2.2.2.2.2.2.2.2.1 bt573.2.2.2.2.2.2.2.2.2.2.2.2.2.2.2.1 bt573.2.2.2.2.2.2.2.2.2.2.2.2.2.2.2.2.1 bt573.2.2.2.2.2.2.2.2.2.2.2.2.2.2.2.2.2.1 bt573.2.2.2.2.2.2.2.2.2.2.2.2.2.2.2.2.2.2.1 bt573.2.2.2.2.2.2.2.2.2.2.2.2.2.2.2.2.2.2.2.1 bt573.2.2.2.2.2.2.2.2.2.2.2.2.2.2.2.2.2.2.2.2.1 bt573.2.2.2.2.2.2.2.2.2.2.2.2.2.2.2.2.2.2.2.2.2).bind fun t597 => ((spec_Less.f k bt573.1 bt573.2.1 bt573.2.2.1 bt573.2.2.2.1 bt573.2.2.2.2.1 bt573.2.2.2.2.2.1 bt573.2.2.2.2.2.2.1 bt573.2.2.2.2.2.2.2.1 bt573.2.2.2.2.2.2.2.2.1 bt573.2.2.2.2.2.2.2.2.2.1 bt573.2.2.2.2.2.2.2.2.2.2.1 bt573.2.2.2.2.2.2.2.2.2.2.2.1 bt573.2.2.2.2.2.2.2.2.2.2.2.2.1 bt573.2.2.2.2.2.2.2.2.2.2.2.2.2.1 bt573.2.2.2.2.2.2.2.2.2.2.2.2.2.2.1 bt573.2.2.2.2.2.2.2.2.2.2.2.2.2.2.2.1 bt573.2.2.2.2.2.2.2.2.2.2.2.2.2.2.2.2.1 bt573.2.2.2.2.2.2.2.2.2.2.2.2.2.2.2.2.2.1 bt573.2.2.2.2.2.2.2.2.2.2.2.2.2.2.2.2.2.2.1 bt573.2.2.2.2.2.2.2.2.2.2.2.2.2.2.2.2.2.2.2.1 bt573.2.2.2.2.2.2.2.2.2.2.2.2.2.2.2.2.2.2.2.2.1 bt573.2.2.2.2.2.2.2.2.2.2.2.2.2.2.2.2.2.2.2.2.2).bind fun t598 => (if (t597 != t598) = true then (some false) else (if t597 = true then ((impl_Less.f bt573.2.2.2.2.2.2.2.2.2.2.2.1 bt573.2.2.2.2.2.2.2.2.2.2.2.2.1 bt573.2.2.2.2.2.2.2.2.2.2.2.2.2.1 bt573.2.2.2.2.2.2.2.2.2.2.2.2.2.2.1 bt573.2.2.2.2.2.2.2.2.2.2.2.2.2.2.2.1 bt573.2.2.2.2.2.2.2.2.2.2.2.2.2.2.2.2.1 bt573.2.2.2.2.2.2.2.2.2.2.2.2.2.2.2.2.2.1 bt573.2.2.2.2.2.2.2.2.2.2.2.2.2.2.2.2.2.2.1 bt573.2.2.2.2.2.2.2.2.2.2.2.2.2.2.2.2.2.2.2.1 bt573.2.2.2.2.2.2.2.2.2.2.2.2.2.2.2.2.2.2.2.2.1 bt573.2.2.2.2.2.2.2.2.2.2.2.2.2.2.2.2.2.2.2.2.2 bt573.1 bt573.2.1 bt573.2.2.1 bt573.2.2.2.1 bt573.2.2.2.2.1 bt573.2.2.2.2.2.1 bt573.2.2.2.2.2.2.1 bt573.2.2.2.2.2.2.2.1 bt573.2.2.2.2.2.2.2.2.1 bt573.2.2.2.2.2.2.2.2.2.1 bt573.2.2.2.2.2.2.2.2.2.2.1).bind fun t599 => (if t599 = true then (laws_FnLess.j0 k t597 (!(bt573.1 == bt573.2.2.2.2.2.2.2.2.2.2.2.1) || (!(bt573.2.1 == bt573.2.2.2.2.2.2.2.2.2.2.2.2.1) || (!(bt573.2.2.1 == bt573.2.2.2.2.2.2.2.2.2.2.2.2.2.1) || (!(bt573.2.2.2.1 == bt573.2.2.2.2.2.2.2.2.2.2.2.2.2.2.1) || (!(bt573.2.2.2.2.1 == bt573.2.2.2.2.2.2.2.2.2.2.2.2.2.2.2.1) || (!(bt573.2.2.2.2.2.1 == bt573.2.2.2.2.2.2.2.2.2.2.2.2.2.2.2.2.1) || (!(bt573.2.2.2.2.2.2.1 == bt573.2.2.2.2.2.2.2.2.2.2.2.2.2.2.2.2.2.1) || (!(bt573.2.2.2.2.2.2.2.1 == bt573.2.2.2.2.2.2.2.2.2.2.2.2.2.2.2.2.2.2.1) || (!(bt573.2.2.2.2.2.2.2.2.1 == bt573.2.2.2.2.2.2.2.2.2.2.2.2.2.2.2.2.2.2.2.1) || (!(bt573.2.2.2.2.2.2.2.2.2.1 == bt573.2.2.2.2.2.2.2.2.2.2.2.2.2.2.2.2.2.2.2.2.1) || (!(bt573.2.2.2.2.2.2.2.2.2.2.1 == bt573.2.2.2.2.2.2.2.2.2.2.2.2.2.2.2.2.2.2.2.2.2)))))))))))) bt573.1 bt573.2.1 bt573.2.2.1 bt573.2.2.2.1 bt573.2.2.2.2.1 bt573.2.2.2.2.2.1 bt573.2.2.2.2.2.2.1 bt573.2.2.2.2.2.2.2.1 bt573.2.2.2.2.2.2.2.2.1 bt573.2.2.2.2.2.2.2.2.2.1 bt573.2.2.2.2.2.2.2.2.2.2.1 bt573.2.2.2.2.2.2.2.2.2.2.2.1 bt573.2.2.2.2.2.2.2.2.2.2.2.2.1 bt573.2.2.2.2.2.2.2.2.2.2.2.2.2.1 bt573.2.2.2.2.2.2.2.2.2.2.2.2.2.2.1 bt573.2.2.2.2.2.2.2.2.2.2.2.2.2.2.2.1 bt573.2.2.2.2.2.2.2.2.2.2.2.2.2.2.2.2.1 bt573.2.2.2.2.2.2.2.2.2.2.2.2.2.2.2.2.2.1 bt573.2.2.2.2.2.2.2.2.2.2.2.2.2.2.2.2.2.2.1 bt573.2.2.2.2.2.2.2.2.2.2.2.2.2.2.2.2.2.2.2.1 bt573.2.2.2.2.2.2.2.2.2.2.2.2.2.2.2.2.2.2.2.2.1 bt573.2.2.2.2.2.2.2.2.2.2.2.2.2.2.2.2.2.2.2.2.2) else (laws_FnLess.j0 k t597 false bt573.1 bt573.2.1 bt573.2.2.1 bt573.2.2.2.1 bt573.2.2.2.2.1 bt573.2.2.2.2.2.1 bt573.2.2.2.2.2.2.1 bt573.2.2.2.2.2.2.2.1 bt573.2.2.2.2.2.2.2.2.1 bt573.2.2.2.2.2.2.2.2.2.1 bt573.2.2.2.2.2.2.2.2.2.2.1 bt573.2.2.2.2.2.2.2.2.2.2.2.1 bt573.2.2.2.2.2.2.2.2.2.2.2.2.1 bt573.2.2.2.2.2.2.2.2.2.2.2.2.2.1 bt573.2.2.2.2.2.2.2.2.2.2.2.2.2.2.1 bt573.2.2.2.2.2.2.2.2.2.2.2.2.2.2.2.1 bt573.2.2.2.2.2.2.2.2.2.2.2.2.2.2.2.2.1 bt573.2.2.2.2.2.2.2.2.2.2.2.2.2.2.2.2.2.1 bt573.2.2.2.2.2.2.2.2.2.2.2.2.2.2.2.2.2.2.1 bt573.2.2.2.2.2.2.2.2.2.2.2.2.2.2.2.2.2.2.2.1 bt573.2.2.2.2.2.2.2.2.2.2.2.2.2.2.2.2.2.2.2.2.1 bt573.2.2.2.2.2.2.2.2.2.2.2.2.2.2.2.2.2.2.2.2.2))) else (laws_FnLess.j0 k t597 false bt573.1 bt573.2.1 bt573.2.2.1 bt573.2.2.2.1 bt573.2.2.2.2.1 bt573.2.2.2.2.2.1 bt573.2.2.2.2.2.2.1 bt573.2.2.2.2.2.2.2.1 bt573.2.2.2.2.2.2.2.2.1 bt573.2.2.2.2.2.2.2.2.2.1 bt573.2.2.2.2.2.2.2.2.2.2.1 bt573.2.2.2.2.2.2.2.2.2.2.2.1 bt573.2.2.2.2.2.2.2.2.2.2.2.2.1 bt573.2.2.2.2.2.2.2.2.2.2.2.2.2.1 bt573.2.2.2.2.2.2.2.2.2.2.2.2.2.2.1 bt573.2.2.2.2.2.2.2.2.2.2.2.2.2.2.2.1 bt573.2.2.2.2.2.2.2.2.2.2.2.2.2.2.2.2.1 bt573.2.2.2.2.2.2.2.2.2.2.2.2.2.2.2.2.2.1 bt573.2.2.2.2.2.2.2.2.2.2.2.2.2.2.2.2.2.2.1 bt573.2.2.2.2.2.2.2.2.2.2.2.2.2.2.2.2.2.2.2.1 bt573.2.2.2.2.2.2.2.2.2.2.2.2.2.2.2.2.2.2.2.2.1 bt573.2.2.2.2.2.2.2.2.2.2.2.2.2.2.2.2.2.2.2.2.2))))))) = some r := H
  have A2 := Aside0.mk A20
  clear A20
  by_cases c3 : t572 = true
  · subst c3
    have H1 : (some true) = some r := by rw [if_pos rfl] at H; exact H
    clear H
    have H := H1
    clear H1
    obtain rfl := Option.some.inj H
    go_enter Try.func12, Try.ntmps12
    go_wp2_with (first | ((with_reducible refine gate_callee (f := 34) rfl ?_); refine goesL_ (some 10) rfl rfl Try.func34 (by kernel_rfl) rfl #[.slice A0 l0.length c0] rfl (by (try simp only [List.map_toArray, List.map_cons, List.map_nil]); first | done | rfl | (simp only [List.length_drop, List.length_take]; rfl)) ?_; (with_reducible refine (laws_big.calls _ _ l0 true _ ?side1 ?side2 A2.out).mono ?_); (case side1 => repeat (first | exact HR0.out | (with_reducible refine Kd.C_alloc ?_ _) | (with_reducible refine Kd.C_drewN ?_ _) | (with_reducible refine Kd.C_drew ?_))); (case side2 => exact HC0.out); rintro e w' ⟨rfl, ⟨nd, rfl⟩⟩; refine ⟨_, rfl, ?_⟩))
    go_ret
    exact ⟨by first | rfl | (simp [errW_none, errW_some] <;> rfl) | (simp [*, errW_none, errW_some] <;> rfl), by repeat (first | (with_reducible first | exact HB.out | apply below_alloc | apply pw_below_drewN | apply below_drew1) | exact HB.out)⟩
  · replace c3 := Bool.eq_false_iff.mpr c3
    subst c3
    have H1 : ((spec_DrawLess.f k l0).bind fun bt573 => ((impl_Less.f bt573.1 bt573.2.1 bt573.2.2.1 bt573.2.2.2.1 bt573.2.2.2.2.1 bt573.2.2.2.2.2.1 bt573.2.2.2.2.2.2.1 bt573.2.2.2.2.2.2.2.1 bt573.2.2.2.2.2.2.2.2.1 bt573.2.2.2.2.2.2.2.2.2.1 bt573.2.2.2.2.2.2.2.2.2.2.1 bt573.2.2.2.2.2.2.2.2.2.2.2.1 bt573.2.2.2.2.2.2.2.2.2.2.2.2.1 bt573.2.2.2.2.2.2.2.2.2.2.2.2.2.1 bt573.2.2.2.2.2.2.2.2.2.2.2.2.2.2.1 bt573.2.2.2.2.2.2.2.2.2.2.2.2.2.2.2.1 bt573.2.2.2.2.2.2.2.2.2.2.2.2.2.2.2.2.1 bt573.2.2.2.2.2.2.2.2.2.2.2.2.2.2.2.2.2.1 bt573.2.2.2.2.2.2.2.2.2.2.2.2.2.2.2.2.2.2.1 bt573.2.2.2.2.2.2.2.2.2.2.2.2.2.2.2.2.2.2.2.1 bt573.2.2.2.2.2.2.2.2.2.2.2.2.2.2.2.2.2.2.2.2.1 bt573.2.2.2.2.2.2.2.2.2.2.2.2.2.2.2.2.2.2.2.2.2).bind fun t597 => ((spec_Less.f k bt573.1 bt573.2.1 bt573.2.2.1 bt573.2.2.2.1 bt573.2.2.2.2.1 bt573.2.2.2.2.2.1 bt573.2.2.2.2.2.2.1 bt573.2.2.2.2.2.2.2.1 bt573.2.2.2.2.2.2.2.2.1 bt573.2.2.2.2.2.2.2.2.2.1 bt573.2.2.2.2.2.2.2.2.2.2.1 bt573.2.2.2.2.2.2.2.2.2.2.2.1 bt573.2.2.2.2.2.2.2.2.2.2.2.2.1 bt573.2.2.2.2.2.2.2.2.2.2.2.2.2.1 bt573.2.2.2.2.2.2.2.2.2.2.2.2.2.2.1 bt573.2.2.2.2.2.2.2.2.2.2.2.2.2.2.2.1 bt573.2.2.2.2.2.2.2.2.2.2.2.2.2.2.2.2.1 bt573.2.2.2.2.2.2.2.2.2.2.2.2.2.2.2.2.2.1 bt573.2.2.2.2.2.2.2.2.2.2.2.2.2.2.2.2.2.2.1 bt573.2.2.2.2.2.2.2.2.2.2.2.2.2.2.2.2.2.2.2.1 bt573.2.2.2.2.2.2.2.2.2.2.2.2.2.2.2.2.2.2.2.2.1 bt573.2.2.2.2.2.2.2.2.2.2.2.2.2.2.2.2.2.2.2.2.2).bind fun t598 => (if (t597 != t598) = true then (some false) else (if t597 = true then ((impl_Less.f bt573.2.2.2.2.2.2.2.2.2.2.2.1 bt573.2.2.2.2.2.2.2.2.2.2.2.2.1 bt573.2.2.2.2.2.2.2.2.2.2.2.2.2.1 bt573.2.2.2.2.2.2.2.2.2.2.2.2.2.2.1 bt573.2.2.2.2.2.2.2.2.2.2.2.2.2.2.2.1 bt573.2.2.2.2.2.2.2.2.2.2.2.2.2.2.2.2.1 bt573.2.2.2.2.2.2.2.2.2.2.2.2.2.2.2.2.2.1 bt573.2.2.2.2.2.2.2.2.2.2.2.2.2.2.2.2.2.2.1 bt573.2.2.2.2.2.2.2.2.2.2.2.2.2.2.2.2.2.2.2.1 bt573.2.2.2.2.2.2.2.2.2.2.2.2.2.2.2.2.2.2.2.2.1 bt573.2.2.2.2.2.2.2.2.2.2.2.2.2.2.2.2.2.2.2.2.2 bt573.1 bt573.2.1 bt573.2.2.1 bt573.2.2.2.1 bt573.2.2.2.2.1 bt573.2.2.2.2.2.1 bt573.2.2.2.2.2.2.1 bt573.2.2.2.2.2.2.2.1 bt573.2.2.2.2.2.2.2.2.1 bt573.2.2.2.2.2.2.2.2.2.1 bt573.2.2.2.2.2.2.2.2.2.2.1).bind fun t599 => (if t599 = true then (laws_FnLess.j0 k t597 (!(bt573.1 == bt573.2.2.2.2.2.2.2.2.2.2.2.1) || (!(bt573.2.1 == bt573.2.2.2.2.2.2.2.2.2.2.2.2.1) || (!(bt573.2.2.1 == bt573.2.2.2.2.2.2.2.2.2.2.2.2.2.1) || (!(bt573.2.2.2.1 == bt573.2.2.2.2.2.2.2.2.2.2.2.2.2.2.1) || (!(bt573.2.2.2.2.1 == bt573.2.2.2.2.2.2.2.2.2.2.2.2.2.2.2.1) || (!(bt573.2.2.2.2.2.1 == bt573.2.2.2.2.2.2.2.2.2.2.2.2.2.2.2.2.1) || (!(bt573.2.2.2.2.2.2.1 == bt573.2.2.2.2.2.2.2.2.2.2.2.2.2.2.2.2.2.1) || (!(bt573.2.2.2.2.2.2.2.1 == bt573.2.2.2.2.2.2.2.2.2.2.2.2.2.2.2.2.2.2.1) || (!(bt573.2.2.2.2.2.2.2.2.1 == bt573.2.2.2.2.2.2.2.2.2.2.2.2.2.2.2.2.2.2.2.1) || (!(bt573.2.2.2.2.2.2.2.2.2.1 == bt573.2.2.2.2.2.2.2.2.2.2.2.2.2.2.2.2.2.2.2.2.1) || (!(bt573.2.2.2.2.2.2.2.2.2.2.1 == bt573.2.2.2.2.2.2.2.2.2.2.2.2.2.2.2.2.2.2.2.2.2)))))))))))) bt573.1 bt573.2.1 bt573.2.2.1 bt573.2.2.2.1 bt573.2.2.2.2.1 bt573.2.2.2.2.2.1 bt573.2.2.2.2.2.2.1 bt573.2.2.2.2.2.2.2.1 bt573.2.2.2.2.2.2.2.2.1 bt573.2.2.2.2.2.2.2.2.2.1 bt573.2.2.2.2.2.2.2.2.2.2.1 bt573.2.2.2.2.2.2.2.2.2.2.2.1 bt573.2.2.2.2.2.2.2.2.2.2.2.2.1 bt573.2.2.2.2.2.2.2.2.2.2.2.2.2.1 bt573.2.2.2.2.2.2.2.2.2.2.2.2.2.2.1 bt573.2.2.2.2.2.2.2.2.2.2.2.2.2.2.2.1 bt573.2.2.2.2.2.2.2.2.2.2.2.2.2.2.2.2.1 bt573.2.2.2.2.2.2.2.2.2.2.2.2.2.2.2.2.2.1 bt573.2.2.2.2.2.2.2.2.2.2.2.2.2.2.2.2.2.2.1 bt573.2.2.2.2.2.2.2.2.2.2.2.2.2.2.2.2.2.2.2.1 bt573.2.2.2.2.2.2.2.2.2.2.2.2.2.2.2.2.2.2.2.2.1 bt573.2.2.2.2.2.2.2.2.2.2.2.2.2.2.2.2.2.2.2.2.2) else (laws_FnLess.j0 k t597 false bt573.1 bt573.2.1 bt573.2.2.1 bt573.2.2.2.1 bt573.2.2.2.2.1 bt573.2.2.2.2.2.1 bt573.2.2.2.2.2.2.1 bt573.2.2.2.2.2.2.2.1 bt573.2.2.2.2.2.2.2.2.1 bt573.2.2.2.2.2.2.2.2.2.1 bt573.2.2.2.2.2.2.2.2.2.2.1 bt573.2.2.2.2.2.2.2.2.2.2.2.1 bt573.2.2.2.2.2.2.2.2.2.2.2.2.1 bt573.2.2.2.2.2.2.2.2.2.2.2.2.2.1 bt573.2.2.2.2.2.2.2.2.2.2.2.2.2.2.1 bt573.2.2.2.2.2.2.2.2.2.2.2.2.2.2.2.1 bt573.2.2.2.2.2.2.2.2.2.2.2.2.2.2.2.2.1 bt573.2.2.2.2.2.2.2.2.2.2.2.2.2.2.2.2.2.1 bt573.2.2.2.2.2.2.2.2.2.2.2.2.2.2.2.2.2.2.1 bt573.2.2.2.2.2.2.2.2.2.2.2.2.2.2.2.2.2.2.2.1 bt573.2.2.2.2.2.2.2.2.2.2.2.2.2.2.2.2.2.2.2.2.1 bt573.2.2.2.2.2.2.2.2.2.2.2.2.2.2.2.2.2.2.2.2.2))) else (laws_FnLess.j0 k t597 false bt573.1 bt573.2.1 bt573.2.2.1 bt573.2.2.2.1 bt573.2.2.2.2.1 bt573.2.2.2.2.2.1 bt573.2.2.2.2.2.2.1 bt573.2.2.2.2.2.2.2.1 bt573.2.2.2.2.2.2.2.2.1 bt573.2.2.2.2.2.2.2.2.2.1 bt573.2.2.2.2.2.2.2.2.2.2.1 bt573.2.2.2.2.2.2.2.2.2.2.2.1 bt573.2.2.2.2.2.2.2.2.2.2.2.2.1 bt573.2.2.2.2.2.2.2.2.2.2.2.2.2.1 bt573.2.2.2.2.2.2.2.2.2.2.2.2.2.2.1 bt573.2.2.2.2.2.2.2.2.2.2.2.2.2.2.2.1 bt573.2.2.2.2.2.2.2.2.2.2.2.2.2.2.2.2.1 bt573.2.2.2.2.2.2.2.2.2.2.2.2.2.2.2.2.2.1 bt573.2.2.2.2.2.2.2.2.2.2.2.2.2.2.2.2.2.2.1 bt573.2.2.2.2.2.2.2.2.2.2.2.2.2.2.2.2.2.2.2.1 bt573.2.2.2.2.2.2.2.2.2.2.2.2.2.2.2.2.2.2.2.2.1 bt573.2.2.2.2.2.2.2.2.2.2.2.2.2.2.2.2.2.2.2.2.2)))))) = some r := by rw [if_neg (show ¬ (false = true) by decide)] at H; exact H
    clear H
    have H := H1
    clear H1
    replace H := Option.bind_eq_some_iff.mp H
    obtain ⟨⟨t573, t574, t575, t576, t577, t578, t579, t580, t581, t582, t583, t584, t585, t586, t587, t588, t589, t590, t591, t592, t593, t594⟩, A40, H⟩ := H
    replace H : ((impl_Less.f t573 t574 t575 t576 t577 t578 t579 t580 t581 t582 t583 t584 t585 t586 t587 t588 t589 t590 t591 t592 t593 t594).bind fun t597 => ((spec_Less.f k t573 t574 t575 t576 t577 t578 t579 t580 t581 t582 t583 t584 t585 t586 t587 t588 t589 t590 t591 t592 t593 t594).bind fun t598 => (if (t597 != t598) = true then (some false) else (if t597 = true then ((impl_Less.f t584 t585 t586 t587 t588 t589 t590 t591 t592 t593 t594 t573 t574 t575 t576 t577 t578 t579 t580 t581 t582 t583).bind fun t599 => (if t599 = true then (laws_FnLess.j0 k t597 (!(t573 == t584) || (!(t574 == t585) || (!(t575 == t586) || (!(t576 == t587) || (!(t577 == t588) || (!(t578 == t589) || (!(t579 == t590) || (!(t580 == t591) || (!(t581 == t592) || (!(t582 == t593) || (!(t583 == t594)))))))))))) t573 t574 t575 t576 t577 t578 t579 t580 t581 t582 t583 t584 t585 t586 t587 t588 t589 t590 t591 t592 t593 t594) else (laws_FnLess.j0 k t597 false t573 t574 t575 t576 t577 t578 t579 t580 t581 t582 t583 t584 t585 t586 t587 t588 t589 t590 t591 t592 t593 t594))) else (laws_FnLess.j0 k t597 false t573 t574 t575 t576 t577 t578 t579 t580 t581 t582 t583 t584 t585 t586 t587 t588 t589 t590 t591 t592 t593 t594))))) = some r := H
    have A4 := Aside0.mk A40
    clear A40
    replace H := Option.bind_eq_some_iff.mp H
    obtain ⟨t597, A50, H⟩ := H
    replace H : ((spec_Less.f k t573 t574 t575 t576 t577 t578 t579 t580 t581 t582 t583 t584 t585 t586 t587 t588 t589 t590 t591 t592 t593 t594).bind fun t598 => (if (t597 != t598) = true then (some false) else (if t597 = true then ((impl_Less.f t584 t585 t586 t587 t588 t589 t590 t591 t592 t593 t594 t573 t574 t575 t576 t577 t578 t579 t580 t581 t582 t583).bind fun t599 => (if t599 = true then (laws_FnLess.j0 k t597 (!(t573 == t584) || (!(t574 == t585) || (!(t575 == t586) || (!(t576 == t587) || (!(t577 == t588) || (!(t578 == t589) || (!(t579 == t590) || (!(t580 == t591) || (!(t581 == t592) || (!(t582 == t593) || (!(t583 == t594)))))))))))) t573 t574 t575 t576 t577 t578 t579 t580 t581 t582 t583 t584 t585 t586 t587 t588 t589 t590 t591 t592 t593 t594) else (laws_FnLess.j0 k t597 false t573 t574 t575 t576 t577 t578 t579 t580 t581 t582 t583 t584 t585 t586 t587 t588 t589 t590 t591 t592 t593 t594))) else (laws_FnLess.j0 k t597 false t573 t574 t575 t576 t577 t578 t579 t580 t581 t582 t583 t584 t585 t586 t587 t588 t589 t590 t591 t592 t593 t594)))) = some r := H
    have A5 := Aside0.mk A50
    clear A50
    replace H := Option.bind_eq_some_iff.mp H
    obtain ⟨t598, A60, H⟩ := H
    replace H : (if (t597 != t598) = true then (some false) else (if t597 = true then ((impl_Less.f t584 t585 t586 t587 t588 t589 t590 t591 t592 t593 t594 t573 t574 t575 t576 t577 t578 t579 t580 t581 t582 t583).bind fun t599 => (if t599 = true then (laws_FnLess.j0 k t597 (!(t573 == t584) || (!(t574 == t585) || (!(t575 == t586) || (!(t576 == t587) || (!(t577 == t588) || (!(t578 == t589) || (!(t579 == t590) || (!(t580 == t591) || (!(t581 == t592) || (!(t582 == t593) || (!(t583 == t594)))))))))))) t573 t574 t575 t576 t577 t578 t579 t580 t581 t582 t583 t584 t585 t586 t587 t588 t589 t590 t591 t592 t593 t594) else (laws_FnLess.j0 k t597 false t573 t574 t575 t576 t577 t578 t579 t580 t581 t582 t583 t584 t585 t586 t587 t588 t589 t590 t591 t592 t593 t594))) else (laws_FnLess.j0 k t597 false t573 t574 t575 t576 t577 t578 t579 t580 t581 t582 t583 t584 t585 t586 t587 t588 t589 t590 t591 t592 t593 t594))) = some r := H
    have A6 := Aside0.mk A60
    clear A60
    by_cases c7 : (t597 != t598) = true
    · rw [if_pos c7] at H
      have c7b0 : (t597 != t598) = true := c7
      (try (have c7b1 : decide (t597 = t598) = false := by simpa using c7))
      (try (have c7b2 : (t597 == t598) = false := by simpa using c7))
      (try (have c7b3 : ¬ (t597 = t598) := by simpa using c7))
      clear c7
      exact absurd ((Option.some.inj H).trans hrt_.out) (by decide)
    · rw [if_neg c7] at H
      have c7b0 : (t597 != t598) = false := by simpa using c7
      (try (have c7b1 : decide (t597 = t598) = true := by simpa using c7))
      (try (have c7b2 : (t597 == t598) = true := by simpa using c7))
      clear c7
      have HC8 := Aside0.mk H
      clear H
      go_enter Try.func12, Try.ntmps12
      go_upto_region 7 with (first | ((with_reducible refine gate_callee (f := 34) rfl ?_); refine goesL_ (some 10) rfl rfl Try.func34 (by kernel_rfl) rfl #[.slice A0 l0.length c0] rfl (by (try simp only [List.map_toArray, List.map_cons, List.map_nil]); first | done | rfl | (simp only [List.length_drop, List.length_take]; rfl)) ?_; (with_reducible refine (laws_big.calls _ _ l0 false _ ?side1 ?side2 A2.out).mono ?_); (case side1 => repeat (first | exact HR0.out | (with_reducible refine Kd.C_alloc ?_ _) | (with_reducible refine Kd.C_drewN ?_ _) | (with_reducible refine Kd.C_drew ?_))); (case side2 => exact HC0.out); rintro e w' ⟨rfl, ⟨nd, rfl⟩⟩; refine ⟨_, rfl, ?_⟩) | ((with_reducible refine gate_callee (f := 36) rfl ?_); refine goesL_ (some 13) rfl rfl Try.func36 (by kernel_rfl) rfl #[.slice A0 l0.length c0] rfl (by (try simp only [List.map_toArray, List.map_cons, List.map_nil]); first | done | rfl | (simp only [List.length_drop, List.length_take]; rfl)) ?_; (with_reducible refine (spec_DrawLess.calls k _ _ l0 t573 t574 t575 t576 t577 t578 t579 t580 t581 t582 t583 t584 t585 t586 t587 t588 t589 t590 t591 t592 t593 t594 _ ?side1 ?side2 A4.out).mono ?_); (case side1 => repeat (first | exact HR0.out | (with_reducible refine Kd.C_alloc ?_ _) | (with_reducible refine Kd.C_drewN ?_ _) | (with_reducible refine Kd.C_drew ?_))); (case side2 => exact HC0.out); rintro e w9 ⟨rfl, hb⟩; refine ⟨_, rfl, ?_⟩; have n0_ := Aside0.mk (below_step (by repeat (first | (with_reducible first | exact HB.out | apply below_alloc | apply pw_below_drewN | apply below_drew1) | exact HB.out)) hb); clear HB; have HB := n0_; clear n0_; (try clear hb); (try clear hb2); (try clear hk); (try clear hi)) | ((with_reducible refine gate_dst (N := 3) rfl ?_); refine box_event ?hg (N := 3) ?hd (cs := #[.int .i64 0, .int .i64 0, .int .i64 0, .int .i64 0, .int .i64 0, .int .i64 0, .int .i64 0, .int .i64 0, .int .i64 0, .int .i64 0, .int .i64 0]) (t := 23) ?hr ?_; (case hd => rfl); (case hg => rfl); (case hr => first | (go_simp; done) | (go_simp; rfl)); intro gb595 hg w10 hbox hb; have n0_ := Aside0.mk (below_step (by repeat (first | (with_reducible first | exact HB.out | apply below_alloc | apply pw_below_drewN | apply below_drew1) | exact HB.out)) hb); have n1_ := Aside0.mk (hbox); have n2_ := Aside0.mk ((by rw [hg]; exact (below_size (by repeat (first | (with_reducible first | exact HB.out | apply below_alloc | apply pw_below_drewN | apply below_drew1) | exact HB.out))) : w.heap.size ≤ gb595)); have n3_ := Aside0.mk ((by rw [hg]; exact (below_size (by repeat (first | (with_reducible first | exact HB.out | apply below_alloc | apply pw_below_drewN | apply below_drew1) | exact HB.out))) : w.heap.size ≤ gb595)); clear HB; have HB := n0_; have BK595 := n1_; have GW595 := n2_; have GE595 := n3_; clear n0_ n1_ n2_ n3_; clear hb hbox hg) | ((with_reducible refine gate_dst (N := 4) rfl ?_); refine box_event ?hg (N := 4) ?hd (cs := #[.int .i64 0, .int .i64 0, .int .i64 0, .int .i64 0, .int .i64 0, .int .i64 0, .int .i64 0, .int .i64 0, .int .i64 0, .int .i64 0, .int .i64 0]) (t := 23) ?hr ?_; (case hd => rfl); (case hg => rfl); (case hr => first | (go_simp; done) | (go_simp; rfl)); intro gb596 hg w11 hbox hb; have n0_ := Aside0.mk (blk_below (g := gb595) (o := .cells #[.int .i64 0, .int .i64 0, .int .i64 0, .int .i64 0, .int .i64 0, .int .i64 0, .int .i64 0, .int .i64 0, .int .i64 0, .int .i64 0, .int .i64 0] 23 (0, 0)) (by (with_reducible repeat (first | refine blk_drewN ?_ _ | refine blk_drew ?_ | refine blk_alloc ?_ _)); exact BK595.out) hb); have n1_ := Aside0.mk (below_step (by repeat (first | (with_reducible first | exact HB.out | apply below_alloc | apply pw_below_drewN | apply below_drew1 | refine below_set ?_ GE595.out) | exact HB.out)) hb); have n2_ := Aside0.mk (hbox); have n3_ := Aside0.mk ((by rw [hg]; exact (below_size (by repeat (first | (with_reducible first | exact HB.out | apply below_alloc | apply pw_below_drewN | apply below_drew1 | refine below_set ?_ GE595.out) | exact HB.out))) : w.heap.size ≤ gb596)); have n4_ := Aside0.mk ((by rw [hg]; exact (below_size (by repeat (first | (with_reducible first | exact HB.out | apply below_alloc | apply pw_below_drewN | apply below_drew1 | refine below_set ?_ GE595.out) | exact HB.out))) : w.heap.size ≤ gb596)); have n5_ := Aside0.mk ((by rw [hg]; exact Nat.ne_of_lt (blk_lt (g := gb595) (o := .cells #[.int .i64 0, .int .i64 0, .int .i64 0, .int .i64 0, .int .i64 0, .int .i64 0, .int .i64 0, .int .i64 0, .int .i64 0, .int .i64 0, .int .i64 0] 23 (0, 0)) (by (with_reducible repeat (first | refine blk_drewN ?_ _ | refine blk_drew ?_ | refine blk_alloc ?_ _)); exact BK595.out)) : gb595 ≠ gb596)); have n6_ := Aside0.mk ((by rw [hg]; exact Nat.ne_of_gt (blk_lt (g := gb595) (o := .cells #[.int .i64 0, .int .i64 0, .int .i64 0, .int .i64 0, .int .i64 0, .int .i64 0, .int .i64 0, .int .i64 0, .int .i64 0, .int .i64 0, .int .i64 0] 23 (0, 0)) (by (with_reducible repeat (first | refine blk_drewN ?_ _ | refine blk_drew ?_ | refine blk_alloc ?_ _)); exact BK595.out)) : gb596 ≠ gb595)); clear BK595; clear HB; have BK595 := n0_; have HB := n1_; have BK596 := n2_; have GW596 := n3_; have GE596 := n4_; have NB595_596 := n5_; have NB596_595 := n6_; clear n0_ n1_ n2_ n3_ n4_ n5_ n6_; clear hb hbox hg; have hnb12 := NB595_596.out; have hnc12 := NB596_595.out; have hcz13_0 : w11.cell? ⟨gb595, 0, none⟩ = some (.int .i64 0) := (blk_cell BK595.out 0).trans rfl; have hcz13_1 : w11.cell? ⟨gb595, 1, none⟩ = some (.int .i64 0) := (blk_cell BK595.out 1).trans rfl; have hcz13_2 : w11.cell? ⟨gb595, 2, none⟩ = some (.int .i64 0) := (blk_cell BK595.out 2).trans rfl; have hcz13_3 : w11.cell? ⟨gb595, 3, none⟩ = some (.int .i64 0) := (blk_cell BK595.out 3).trans rfl; have hcz13_4 : w11.cell? ⟨gb595, 4, none⟩ = some (.int .i64 0) := (blk_cell BK595.out 4).trans rfl; have hcz13_5 : w11.cell? ⟨gb595, 5, none⟩ = some (.int .i64 0) := (blk_cell BK595.out 5).trans rfl; have hcz13_6 : w11.cell? ⟨gb595, 6, none⟩ = some (.int .i64 0) := (blk_cell BK595.out 6).trans rfl; have hcz13_7 : w11.cell? ⟨gb595, 7, none⟩ = some (.int .i64 0) := (blk_cell BK595.out 7).trans rfl; have hcz13_8 : w11.cell? ⟨gb595, 8, none⟩ = some (.int .i64 0) := (blk_cell BK595.out 8).trans rfl; have hcz13_9 : w11.cell? ⟨gb595, 9, none⟩ = some (.int .i64 0) := (blk_cell BK595.out 9).trans rfl; have hcz13_10 : w11.cell? ⟨gb595, 10, none⟩ = some (.int .i64 0) := (blk_cell BK595.out 10).trans rfl; have hfz13_0 := blk_frozen BK595.out 0; have hfz13_1 := blk_frozen BK595.out 1; have hfz13_2 := blk_frozen BK595.out 2; have hfz13_3 := blk_frozen BK595.out 3; have hfz13_4 := blk_frozen BK595.out 4; have hfz13_5 := blk_frozen BK595.out 5; have hfz13_6 := blk_frozen BK595.out 6; have hfz13_7 := blk_frozen BK595.out 7; have hfz13_8 := blk_frozen BK595.out 8; have hfz13_9 := blk_frozen BK595.out 9; have hfz13_10 := blk_frozen BK595.out 10; have hcz14_0 : w11.cell? ⟨gb596, 0, none⟩ = some (.int .i64 0) := (blk_cell BK596.out 0).trans rfl; have hcz14_1 : w11.cell? ⟨gb596, 1, none⟩ = some (.int .i64 0) := (blk_cell BK596.out 1).trans rfl; have hcz14_2 : w11.cell? ⟨gb596, 2, none⟩ = some (.int .i64 0) := (blk_cell BK596.out 2).trans rfl; have hcz14_3 : w11.cell? ⟨gb596, 3, none⟩ = some (.int .i64 0) := (blk_cell BK596.out 3).trans rfl; have hcz14_4 : w11.cell? ⟨gb596, 4, none⟩ = some (.int .i64 0) := (blk_cell BK596.out 4).trans rfl; have hcz14_5 : w11.cell? ⟨gb596, 5, none⟩ = some (.int .i64 0) := (blk_cell BK596.out 5).trans rfl; have hcz14_6 : w11.cell? ⟨gb596, 6, none⟩ = some (.int .i64 0) := (blk_cell BK596.out 6).trans rfl; have hcz14_7 : w11.cell? ⟨gb596, 7, none⟩ = some (.int .i64 0) := (blk_cell BK596.out 7).trans rfl; have hcz14_8 : w11.cell? ⟨gb596, 8, none⟩ = some (.int .i64 0) := (blk_cell BK596.out 8).trans rfl; have hcz14_9 : w11.cell? ⟨gb596, 9, none⟩ = some (.int .i64 0) := (blk_cell BK596.out 9).trans rfl; have hcz14_10 : w11.cell? ⟨gb596, 10, none⟩ = some (.int .i64 0) := (blk_cell BK596.out 10).trans rfl; have hfz14_0 := blk_frozen BK596.out 0; have hfz14_1 := blk_frozen BK596.out 1; have hfz14_2 := blk_frozen BK596.out 2; have hfz14_3 := blk_frozen BK596.out 3; have hfz14_4 := blk_frozen BK596.out 4; have hfz14_5 := blk_frozen BK596.out 5; have hfz14_6 := blk_frozen BK596.out 6; have hfz14_7 := blk_frozen BK596.out 7; have hfz14_8 := blk_frozen BK596.out 8; have hfz14_9 := blk_frozen BK596.out 9; have hfz14_10 := blk_frozen BK596.out 10) | ((with_reducible refine gate_callee (f := 22) rfl ?_); refine goesL_ (some 18) rfl rfl Try.func22 (by kernel_rfl) rfl #[.agg #[.int .i64 t573, .int .i64 t574, .int .i64 t575, .int .i64 t576, .int .i64 t577, .int .i64 t578, .int .i64 t579, .int .i64 t580, .int .i64 t581, .int .i64 t582, .int .i64 t583], .agg #[.int .i64 t584, .int .i64 t585, .int .i64 t586, .int .i64 t587, .int .i64 t588, .int .i64 t589, .int .i64 t590, .int .i64 t591, .int .i64 t592, .int .i64 t593, .int .i64 t594]] rfl (by (try simp only [List.map_toArray, List.map_cons, List.map_nil]); first | done | rfl | (simp only [List.length_drop, List.length_take]; rfl)) ?_; (with_reducible refine (impl_Less.calls t573 t574 t575 t576 t577 t578 t579 t580 t581 t582 t583 t584 t585 t586 t587 t588 t589 t590 t591 t592 t593 t594 t597 _ A5.out).mono ?_); rintro e w15 ⟨rfl, hb⟩; refine ⟨_, rfl, ?_⟩; have n0_ := Aside0.mk (blk_below (g := gb595) (o := .cells #[.int .i64 t573, .int .i64 t574, .int .i64 t575, .int .i64 t576, .int .i64 t577, .int .i64 t578, .int .i64 t579, .int .i64 t580, .int .i64 t581, .int .i64 t582, .int .i64 t583] 23 (0, 0)) (by (with_reducible repeat (first | refine blk_drewN ?_ _ | refine blk_drew ?_ | refine blk_alloc ?_ _)); refine blk_far ?_ NB595_596.out _; (with_reducible repeat (first | refine blk_drewN ?_ _ | refine blk_drew ?_ | refine blk_alloc ?_ _)); refine blk_far ?_ NB595_596.out _; (with_reducible repeat (first | refine blk_drewN ?_ _ | refine blk_drew ?_ | refine blk_alloc ?_ _)); refine blk_far ?_ NB595_596.out _; (with_reducible repeat (first | refine blk_drewN ?_ _ | refine blk_drew ?_ | refine blk_alloc ?_ _)); refine blk_far ?_ NB595_596.out _; (with_reducible repeat (first | refine blk_drewN ?_ _ | refine blk_drew ?_ | refine blk_alloc ?_ _)); refine blk_far ?_ NB595_596.out _; (with_reducible repeat (first | refine blk_drewN ?_ _ | refine blk_drew ?_ | refine blk_alloc ?_ _)); refine blk_far ?_ NB595_596.out _; (with_reducible repeat (first | refine blk_drewN ?_ _ | refine blk_drew ?_ | refine blk_alloc ?_ _)); refine blk_far ?_ NB595_596.out _; (with_reducible repeat (first | refine blk_drewN ?_ _ | refine blk_drew ?_ | refine blk_alloc ?_ _)); refine blk_far ?_ NB595_596.out _; (with_reducible repeat (first | refine blk_drewN ?_ _ | refine blk_drew ?_ | refine blk_alloc ?_ _)); refine blk_far ?_ NB595_596.out _; (with_reducible repeat (first | refine blk_drewN ?_ _ | refine blk_drew ?_ | refine blk_alloc ?_ _)); refine blk_far ?_ NB595_596.out _; (with_reducible repeat (first | refine blk_drewN ?_ _ | refine blk_drew ?_ | refine blk_alloc ?_ _)); refine blk_far ?_ NB595_596.out _; (with_reducible repeat (first | refine blk_drewN ?_ _ | refine blk_drew ?_ | refine blk_alloc ?_ _)); refine blk_put (cs := #[.int .i64 t573, .int .i64 t574, .int .i64 t575, .int .i64 t576, .int .i64 t577, .int .i64 t578, .int .i64 t579, .int .i64 t580, .int .i64 t581, .int .i64 t582, .int .i64 0]) ?_ 10 _ rfl; (with_reducible repeat (first | refine blk_drewN ?_ _ | refine blk_drew ?_ | refine blk_alloc ?_ _)); refine blk_put (cs := #[.int .i64 t573, .int .i64 t574, .int .i64 t575, .int .i64 t576, .int .i64 t577, .int .i64 t578, .int .i64 t579, .int .i64 t580, .int .i64 t581, .int .i64 0, .int .i64 0]) ?_ 9 _ rfl; (with_reducible repeat (first | refine blk_drewN ?_ _ | refine blk_drew ?_ | refine blk_alloc ?_ _)); refine blk_put (cs := #[.int .i64 t573, .int .i64 t574, .int .i64 t575, .int .i64 t576, .int .i64 t577, .int .i64 t578, .int .i64 t579, .int .i64 t580, .int .i64 0, .int .i64 0, .int .i64 0]) ?_ 8 _ rfl; (with_reducible repeat (first | refine blk_drewN ?_ _ | refine blk_drew ?_ | refine blk_alloc ?_ _)); refine blk_put (cs := #[.int .i64 t573, .int .i64 t574, .int .i64 t575, .int .i64 t576, .int .i64 t577, .int .i64 t578, .int .i64 t579, .int .i64 0, .int .i64 0, .int .i64 0, .int .i64 0]) ?_ 7 _ rfl; (with_reducible repeat (first | refine blk_drewN ?_ _ | refine blk_drew ?_ | refine blk_alloc ?_ _)); refine blk_put (cs := #[.int .i64 t573, .int .i64 t574, .int .i64 t575, .int .i64 t576, .int .i64 t577, .int .i64 t578, .int .i64 0, .int .i64 0, .int .i64 0, .int .i64 0, .int .i64 0]) ?_ 6 _ rfl; (with_reducible repeat (first | refine blk_drewN ?_ _ | refine blk_drew ?_ | refine blk_alloc ?_ _)); refine blk_put (cs := #[.int .i64 t573, .int .i64 t574, .int .i64 t575, .int .i64 t576, .int .i64 t577, .int .i64 0, .int .i64 0, .int .i64 0, .int .i64 0, .int .i64 0, .int .i64 0]) ?_ 5 _ rfl; (with_reducible repeat (first | refine blk_drewN ?_ _ | refine blk_drew ?_ | refine blk_alloc ?_ _)); refine blk_put (cs := #[.int .i64 t573, .int .i64 t574, .int .i64 t575, .int .i64 t576, .int .i64 0, .int .i64 0, .int .i64 0, .int .i64 0, .int .i64 0, .int .i64 0, .int .i64 0]) ?_ 4 _ rfl; (with_reducible repeat (first | refine blk_drewN ?_ _ | refine blk_drew ?_ | refine blk_alloc ?_ _)); refine blk_put (cs := #[.int .i64 t573, .int .i64 t574, .int .i64 t575, .int .i64 0, .int .i64 0, .int .i64 0, .int .i64 0, .int .i64 0, .int .i64 0, .int .i64 0, .int .i64 0]) ?_ 3 _ rfl; (with_reducible repeat (first | refine blk_drewN ?_ _ | refine blk_drew ?_ | refine blk_alloc ?_ _)); refine blk_put (cs := #[.int .i64 t573, .int .i64 t574, .int .i64 0, .int .i64 0, .int .i64 0, .int .i64 0, .int .i64 0, .int .i64 0, .int .i64 0, .int .i64 0, .int .i64 0]) ?_ 2 _ rfl; (with_reducible repeat (first | refine blk_drewN ?_ _ | refine blk_drew ?_ | refine blk_alloc ?_ _)); refine blk_put (cs := #[.int .i64 t573, .int .i64 0, .int .i64 0, .int .i64 0, .int .i64 0, .int .i64 0, .int .i64 0, .int .i64 0, .int .i64 0, .int .i64 0, .int .i64 0]) ?_ 1 _ rfl; (with_reducible repeat (first | refine blk_drewN ?_ _ | refine blk_drew ?_ | refine blk_alloc ?_ _)); refine blk_put (cs := #[.int .i64 0, .int .i64 0, .int .i64 0, .int .i64 0, .int .i64 0, .int .i64 0, .int .i64 0, .int .i64 0, .int .i64 0, .int .i64 0, .int .i64 0]) ?_ 0 _ rfl; (with_reducible repeat (first | refine blk_drewN ?_ _ | refine blk_drew ?_ | refine blk_alloc ?_ _)); exact BK595.out) hb); have n1_ := Aside0.mk (blk_below (g := gb596) (o := .cells #[.int .i64 t584, .int .i64 t585, .int .i64 t586, .int .i64 t587, .int .i64 t588, .int .i64 t589, .int .i64 t590, .int .i64 t591, .int .i64 t592, .int .i64 t593, .int .i64 t594] 23 (0, 0)) (by (with_reducible repeat (first | refine blk_drewN ?_ _ | refine blk_drew ?_ | refine blk_alloc ?_ _)); refine blk_put (cs := #[.int .i64 t584, .int .i64 t585, .int .i64 t586, .int .i64 t587, .int .i64 t588, .int .i64 t589, .int .i64 t590, .int .i64 t591, .int .i64 t592, .int .i64 t593, .int .i64 0]) ?_ 10 _ rfl; (with_reducible repeat (first | refine blk_drewN ?_ _ | refine blk_drew ?_ | refine blk_alloc ?_ _)); refine blk_put (cs := #[.int .i64 t584, .int .i64 t585, .int .i64 t586, .int .i64 t587, .int .i64 t588, .int .i64 t589, .int .i64 t590, .int .i64 t591, .int .i64 t592, .int .i64 0, .int .i64 0]) ?_ 9 _ rfl; (with_reducible repeat (first | refine blk_drewN ?_ _ | refine blk_drew ?_ | refine blk_alloc ?_ _)); refine blk_put (cs := #[.int .i64 t584, .int .i64 t585, .int .i64 t586, .int .i64 t587, .int .i64 t588, .int .i64 t589, .int .i64 t590, .int .i64 t591, .int .i64 0, .int .i64 0, .int .i64 0]) ?_ 8 _ rfl; (with_reducible repeat (first | refine blk_drewN ?_ _ | refine blk_drew ?_ | refine blk_alloc ?_ _)); refine blk_put (cs := #[.int .i64 t584, .int .i64 t585, .int .i64 t586, .int .i64 t587, .int .i64 t588, .int .i64 t589, .int .i64 t590, .int .i64 0, .int .i64 0, .int .i64 0, .int .i64 0]) ?_ 7 _ rfl; (with_reducible repeat (first | refine blk_drewN ?_ _ | refine blk_drew ?_ | refine blk_alloc ?_ _)); refine blk_put (cs := #[.int .i64 t584, .int .i64 t585, .int .i64 t586, .int .i64 t587, .int .i64 t588, .int .i64 t589, .int .i64 0, .int .i64 0, .int .i64 0, .int .i64 0, .int .i64 0]) ?_ 6 _ rfl; (with_reducible repeat (first | refine blk_drewN ?_ _ | refine blk_drew ?_ | refine blk_alloc ?_ _)); refine blk_put (cs := #[.int .i64 t584, .int .i64 t585, .int .i64 t586, .int .i64 t587, .int .i64 t588, .int .i64 0, .int .i64 0, .int .i64 0, .int .i64 0, .int .i64 0, .int .i64 0]) ?_ 5 _ rfl; (with_reducible repeat (first | refine blk_drewN ?_ _ | refine blk_drew ?_ | refine blk_alloc ?_ _)); refine blk_put (cs := #[.int .i64 t584, .int .i64 t585, .int .i64 t586, .int .i64 t587, .int .i64 0, .int .i64 0, .int .i64 0, .int .i64 0, .int .i64 0, .int .i64 0, .int .i64 0]) ?_ 4 _ rfl; (with_reducible repeat (first | refine blk_drewN ?_ _ | refine blk_drew ?_ | refine blk_alloc ?_ _)); refine blk_put (cs := #[.int .i64 t584, .int .i64 t585, .int .i64 t586, .int .i64 0, .int .i64 0, .int .i64 0, .int .i64 0, .int .i64 0, .int .i64 0, .int .i64 0, .int .i64 0]) ?_ 3 _ rfl; (with_reducible repeat (first | refine blk_drewN ?_ _ | refine blk_drew ?_ | refine blk_alloc ?_ _)); refine blk_put (cs := #[.int .i64 t584, .int .i64 t585, .int .i64 0, .int .i64 0, .int .i64 0, .int .i64 0, .int .i64 0, .int .i64 0, .int .i64 0, .int .i64 0, .int .i64 0]) ?_ 2 _ rfl; (with_reducible repeat (first | refine blk_drewN ?_ _ | refine blk_drew ?_ | refine blk_alloc ?_ _)); refine blk_put (cs := #[.int .i64 t584, .int .i64 0, .int .i64 0, .int .i64 0, .int .i64 0, .int .i64 0, .int .i64 0, .int .i64 0, .int .i64 0, .int .i64 0, .int .i64 0]) ?_ 1 _ rfl; (with_reducible repeat (first | refine blk_drewN ?_ _ | refine blk_drew ?_ | refine blk_alloc ?_ _)); refine blk_put (cs := #[.int .i64 0, .int .i64 0, .int .i64 0, .int .i64 0, .int .i64 0, .int .i64 0, .int .i64 0, .int .i64 0, .int .i64 0, .int .i64 0, .int .i64 0]) ?_ 0 _ rfl; (with_reducible repeat (first | refine blk_drewN ?_ _ | refine blk_drew ?_ | refine blk_alloc ?_ _)); refine blk_far ?_ NB596_595.out _; (with_reducible repeat (first | refine blk_drewN ?_ _ | refine blk_drew ?_ | refine blk_alloc ?_ _)); refine blk_far ?_ NB596_595.out _; (with_reducible repeat (first | refine blk_drewN ?_ _ | refine blk_drew ?_ | refine blk_alloc ?_ _)); refine blk_far ?_ NB596_595.out _; (with_reducible repeat (first | refine blk_drewN ?_ _ | refine blk_drew ?_ | refine blk_alloc ?_ _)); refine blk_far ?_ NB596_595.out _; (with_reducible repeat (first | refine blk_drewN ?_ _ | refine blk_drew ?_ | refine blk_alloc ?_ _)); refine blk_far ?_ NB596_595.out _; (with_reducible repeat (first | refine blk_drewN ?_ _ | refine blk_drew ?_ | refine blk_alloc ?_ _)); refine blk_far ?_ NB596_595.out _; (with_reducible repeat (first | refine blk_drewN ?_ _ | refine blk_drew ?_ | refine blk_alloc ?_ _)); refine blk_far ?_ NB596_595.out _; (with_reducible repeat (first | refine blk_drewN ?_ _ | refine blk_drew ?_ | refine blk_alloc ?_ _)); refine blk_far ?_ NB596_595.out _; (with_reducible repeat (first | refine blk_drewN ?_ _ | refine blk_drew ?_ | refine blk_alloc ?_ _)); refine blk_far ?_ NB596_595.out _; (with_reducible repeat (first | refine blk_drewN ?_ _ | refine blk_drew ?_ | refine blk_alloc ?_ _)); refine blk_far ?_ NB596_595.out _; (with_reducible repeat (first | refine blk_drewN ?_ _ | refine blk_drew ?_ | refine blk_alloc ?_ _)); refine blk_far ?_ NB596_595.out _; (with_reducible repeat (first | refine blk_drewN ?_ _ | refine blk_drew ?_ | refine blk_alloc ?_ _)); exact BK596.out) hb); have n2_ := Aside0.mk (below_step (by repeat (first | (with_reducible first | exact HB.out | apply below_alloc | apply pw_below_drewN | apply below_drew1 | refine below_set ?_ GE595.out | refine below_set ?_ GE596.out) | exact HB.out)) hb); clear BK595; clear BK596; clear HB; have BK595 := n0_; have BK596 := n1_; have HB := n2_; clear n0_ n1_ n2_; (try clear hb); (try clear hb2); (try clear hk); (try clear hi); have hcz16_0 : w15.cell? ⟨gb595, 0, none⟩ = some (.int .i64 t573) := (blk_cell BK595.out 0).trans rfl; have hcz16_1 : w15.cell? ⟨gb595, 1, none⟩ = some (.int .i64 t574) := (blk_cell BK595.out 1).trans rfl; have hcz16_2 : w15.cell? ⟨gb595, 2, none⟩ = some (.int .i64 t575) := (blk_cell BK595.out 2).trans rfl; have hcz16_3 : w15.cell? ⟨gb595, 3, none⟩ = some (.int .i64 t576) := (blk_cell BK595.out 3).trans rfl; have hcz16_4 : w15.cell? ⟨gb595, 4, none⟩ = some (.int .i64 t577) := (blk_cell BK595.out 4).trans rfl; have hcz16_5 : w15.cell? ⟨gb595, 5, none⟩ = some (.int .i64 t578) := (blk_cell BK595.out 5).trans rfl; have hcz16_6 : w15.cell? ⟨gb595, 6, none⟩ = some (.int .i64 t579) := (blk_cell BK595.out 6).trans rfl; have hcz16_7 : w15.cell? ⟨gb595, 7, none⟩ = some (.int .i64 t580) := (blk_cell BK595.out 7).trans rfl; have hcz16_8 : w15.cell? ⟨gb595, 8, none⟩ = some (.int .i64 t581) := (blk_cell BK595.out 8).trans rfl; have hcz16_9 : w15.cell? ⟨gb595, 9, none⟩ = some (.int .i64 t582) := (blk_cell BK595.out 9).trans rfl; have hcz16_10 : w15.cell? ⟨gb595, 10, none⟩ = some (.int .i64 t583) := (blk_cell BK595.out 10).trans rfl; have hfz16_0 := blk_frozen BK595.out 0; have hfz16_1 := blk_frozen BK595.out 1; have hfz16_2 := blk_frozen BK595.out 2; have hfz16_3 := blk_frozen BK595.out 3; have hfz16_4 := blk_frozen BK595.out 4; have hfz16_5 := blk_frozen BK595.out 5; have hfz16_6 := blk_frozen BK595.out 6; have hfz16_7 := blk_frozen BK595.out 7; have hfz16_8 := blk_frozen BK595.out 8; have hfz16_9 := blk_frozen BK595.out 9; have hfz16_10 := blk_frozen BK595.out 10; have hcz17_0 : w15.cell? ⟨gb596, 0, none⟩ = some (.int .i64 t584) := (blk_cell BK596.out 0).trans rfl; have hcz17_1 : w15.cell? ⟨gb596, 1, none⟩ = some (.int .i64 t585) := (blk_cell BK596.out 1).trans rfl; have hcz17_2 : w15.cell? ⟨gb596, 2, none⟩ = some (.int .i64 t586) := (blk_cell BK596.out 2).trans rfl; have hcz17_3 : w15.cell? ⟨gb596, 3, none⟩ = some (.int .i64 t587) := (blk_cell BK596.out 3).trans rfl; have hcz17_4 : w15.cell? ⟨gb596, 4, none⟩ = some (.int .i64 t588) := (blk_cell BK596.out 4).trans rfl; have hcz17_5 : w15.cell? ⟨gb596, 5, none⟩ = some (.int .i64 t589) := (blk_cell BK596.out 5).trans rfl; have hcz17_6 : w15.cell? ⟨gb596, 6, none⟩ = some (.int .i64 t590) := (blk_cell BK596.out 6).trans rfl; have hcz17_7 : w15.cell? ⟨gb596, 7, none⟩ = some (.int .i64 t591) := (blk_cell BK596.out 7).trans rfl; have hcz17_8 : w15.cell? ⟨gb596, 8, none⟩ = some (.int .i64 t592) := (blk_cell BK596.out 8).trans rfl; have hcz17_9 : w15.cell? ⟨gb596, 9, none⟩ = some (.int .i64 t593) := (blk_cell BK596.out 9).trans rfl; have hcz17_10 : w15.cell? ⟨gb596, 10, none⟩ = some (.int .i64 t594) := (blk_cell BK596.out 10).trans rfl; have hfz17_0 := blk_frozen BK596.out 0; have hfz17_1 := blk_frozen BK596.out 1; have hfz17_2 := blk_frozen BK596.out 2; have hfz17_3 := blk_frozen BK596.out 3; have hfz17_4 := blk_frozen BK596.out 4; have hfz17_5 := blk_frozen BK596.out 5; have hfz17_6 := blk_frozen BK596.out 6; have hfz17_7 := blk_frozen BK596.out 7; have hfz17_8 := blk_frozen BK596.out 8; have hfz17_9 := blk_frozen BK596.out 9; have hfz17_10 := blk_frozen BK596.out 10) | ((with_reducible refine gate_callee (f := 21) rfl ?_); refine goesL_ (some 22) rfl rfl Try.func21 (by kernel_rfl) rfl #[.agg #[.int .i64 t573, .int .i64 t574, .int .i64 t575, .int .i64 t576, .int .i64 t577, .int .i64 t578, .int .i64 t579, .int .i64 t580, .int .i64 t581, .int .i64 t582, .int .i64 t583], .agg #[.int .i64 t584, .int .i64 t585, .int .i64 t586, .int .i64 t587, .int .i64 t588, .int .i64 t589, .int .i64 t590, .int .i64 t591, .int .i64 t592, .int .i64 t593, .int .i64 t594]] rfl (by (try simp only [List.map_toArray, List.map_cons, List.map_nil]); first | done | rfl | (simp only [List.length_drop, List.length_take]; rfl)) ?_; (with_reducible refine (spec_Less.calls k t573 t574 t575 t576 t577 t578 t579 t580 t581 t582 t583 t584 t585 t586 t587 t588 t589 t590 t591 t592 t593 t594 t598 _ A6.out).mono ?_); rintro e w18 ⟨rfl, hb⟩; refine ⟨_, rfl, ?_⟩; have n0_ := Aside0.mk (blk_below (g := gb595) (o := .cells #[.int .i64 t573, .int .i64 t574, .int .i64 t575, .int .i64 t576, .int .i64 t577, .int .i64 t578, .int .i64 t579, .int .i64 t580, .int .i64 t581, .int .i64 t582, .int .i64 t583] 23 (0, 0)) (by (with_reducible repeat (first | refine blk_drewN ?_ _ | refine blk_drew ?_ | refine blk_alloc ?_ _)); exact BK595.out) hb); have n1_ := Aside0.mk (blk_below (g := gb596) (o := .cells #[.int .i64 t584, .int .i64 t585, .int .i64 t586, .int .i64 t587, .int .i64 t588, .int .i64 t589, .int .i64 t590, .int .i64 t591, .int .i64 t592, .int .i64 t593, .int .i64 t594] 23 (0, 0)) (by (with_reducible repeat (first | refine blk_drewN ?_ _ | refine blk_drew ?_ | refine blk_alloc ?_ _)); exact BK596.out) hb); have n2_ := Aside0.mk (below_step (by repeat (first | (with_reducible first | exact HB.out | apply below_alloc | apply pw_below_drewN | apply below_drew1 | refine below_set ?_ GE595.out | refine below_set ?_ GE596.out) | exact HB.out)) hb); clear BK595; clear BK596; clear HB; have BK595 := n0_; have BK596 := n1_; have HB := n2_; clear n0_ n1_ n2_; (try clear hb); (try clear hb2); (try clear hk); (try clear hi)))
      (try simp only [Act.put, List.setIfInBounds_toArray, List.set_cons_zero, List.set_cons_succ])
      go_cut [34] (fun v34 wc => ∃ (kq : Nat) (x34_7 : Bool), v34 = .bool x34_7 ∧ Aside0 (laws_FnLess.j0 kq t597 x34_7 t573 t574 t575 t576 t577 t578 t579 t580 t581 t582 t583 t584 t585 t586 t587 t588 t589 t590 t591 t592 t593 t594 = some r) ∧ Aside0 (kq ≤ k) ∧ Aside0 (wc.heap[gb595]? = some (.cells #[.int .i64 t573, .int .i64 t574, .int .i64 t575, .int .i64 t576, .int .i64 t577, .int .i64 t578, .int .i64 t579, .int .i64 t580, .int .i64 t581, .int .i64 t582, .int .i64 t583] 23 (0, 0))) ∧ Aside0 (wc.heap[gb596]? = some (.cells #[.int .i64 t584, .int .i64 t585, .int .i64 t586, .int .i64 t587, .int .i64 t588, .int .i64 t589, .int .i64 t590, .int .i64 t591, .int .i64 t592, .int .i64 t593, .int .i64 t594] 23 (0, 0))) ∧ Aside0 (Below w.heap.size w wc))
      case first =>
        have H := HC8.out
        clear HC8
        by_cases c19 : t597 = true
        · subst c19
          have H1 : ((impl_Less.f t584 t585 t586 t587 t588 t589 t590 t591 t592 t593 t594 t573 t574 t575 t576 t577 t578 t579 t580 t581 t582 t583).bind fun t599 => (if t599 = true then (laws_FnLess.j0 k true (!(t573 == t584) || (!(t574 == t585) || (!(t575 == t586) || (!(t576 == t587) || (!(t577 == t588) || (!(t578 == t589) || (!(t579 == t590) || (!(t580 == t591) || (!(t581 == t592) || (!(t582 == t593) || (!(t583 == t594)))))))))))) t573 t574 t575 t576 t577 t578 t579 t580 t581 t582 t583 t584 t585 t586 t587 t588 t589 t590 t591 t592 t593 t594) else (laws_FnLess.j0 k true false t573 t574 t575 t576 t577 t578 t579 t580 t581 t582 t583 t584 t585 t586 t587 t588 t589 t590 t591 t592 t593 t594))) = some r := by rw [if_pos rfl] at H; exact H
          clear H
          have H := H1
          clear H1
          replace H := Option.bind_eq_some_iff.mp H
          obtain ⟨t599, A200, H⟩ := H
          replace H : (if t599 = true then (laws_FnLess.j0 k true (!(t573 == t584) || (!(t574 == t585) || (!(t575 == t586) || (!(t576 == t587) || (!(t577 == t588) || (!(t578 == t589) || (!(t579 == t590) || (!(t580 == t591) || (!(t581 == t592) || (!(t582 == t593) || (!(t583 == t594)))))))))))) t573 t574 t575 t576 t577 t578 t579 t580 t581 t582 t583 t584 t585 t586 t587 t588 t589 t590 t591 t592 t593 t594) else (laws_FnLess.j0 k true false t573 t574 t575 t576 t577 t578 t579 t580 t581 t582 t583 t584 t585 t586 t587 t588 t589 t590 t591 t592 t593 t594)) = some r := H
          have A20 := Aside0.mk A200
          clear A200
          by_cases c21 : t599 = true
          · subst c21
            have H1 : (laws_FnLess.j0 k true (!(t573 == t584) || (!(t574 == t585) || (!(t575 == t586) || (!(t576 == t587) || (!(t577 == t588) || (!(t578 == t589) || (!(t579 == t590) || (!(t580 == t591) || (!(t581 == t592) || (!(t582 == t593) || (!(t583 == t594)))))))))))) t573 t574 t575 t576 t577 t578 t579 t580 t581 t582 t583 t584 t585 t586 t587 t588 t589 t590 t591 t592 t593 t594) = some r := by rw [if_pos rfl] at H; exact H
            clear H
            have H := H1
            clear H1
            have H' := Aside0.mk H
            clear H
            have hnb22 := NB596_595.out
            have hnc22 := NB595_596.out
            have hcz23_0 : w18.cell? ⟨gb596, 0, none⟩ = some (.int .i64 t584) := (blk_cell BK596.out 0).trans rfl
            have hcz23_1 : w18.cell? ⟨gb596, 1, none⟩ = some (.int .i64 t585) := (blk_cell BK596.out 1).trans rfl
            have hcz23_2 : w18.cell? ⟨gb596, 2, none⟩ = some (.int .i64 t586) := (blk_cell BK596.out 2).trans rfl
            have hcz23_3 : w18.cell? ⟨gb596, 3, none⟩ = some (.int .i64 t587) := (blk_cell BK596.out 3).trans rfl
            have hcz23_4 : w18.cell? ⟨gb596, 4, none⟩ = some (.int .i64 t588) := (blk_cell BK596.out 4).trans rfl
            have hcz23_5 : w18.cell? ⟨gb596, 5, none⟩ = some (.int .i64 t589) := (blk_cell BK596.out 5).trans rfl
            have hcz23_6 : w18.cell? ⟨gb596, 6, none⟩ = some (.int .i64 t590) := (blk_cell BK596.out 6).trans rfl
            have hcz23_7 : w18.cell? ⟨gb596, 7, none⟩ = some (.int .i64 t591) := (blk_cell BK596.out 7).trans rfl
            have hcz23_8 : w18.cell? ⟨gb596, 8, none⟩ = some (.int .i64 t592) := (blk_cell BK596.out 8).trans rfl
            have hcz23_9 : w18.cell? ⟨gb596, 9, none⟩ = some (.int .i64 t593) := (blk_cell BK596.out 9).trans rfl
            have hcz23_10 : w18.cell? ⟨gb596, 10, none⟩ = some (.int .i64 t594) := (blk_cell BK596.out 10).trans rfl
            have hfz23_0 := blk_frozen BK596.out 0
            have hfz23_1 := blk_frozen BK596.out 1
            have hfz23_2 := blk_frozen BK596.out 2
            have hfz23_3 := blk_frozen BK596.out 3
            have hfz23_4 := blk_frozen BK596.out 4
            have hfz23_5 := blk_frozen BK596.out 5
            have hfz23_6 := blk_frozen BK596.out 6
            have hfz23_7 := blk_frozen BK596.out 7
            have hfz23_8 := blk_frozen BK596.out 8
            have hfz23_9 := blk_frozen BK596.out 9
            have hfz23_10 := blk_frozen BK596.out 10
            have hcz24_0 : w18.cell? ⟨gb595, 0, none⟩ = some (.int .i64 t573) := (blk_cell BK595.out 0).trans rfl
            have hcz24_1 : w18.cell? ⟨gb595, 1, none⟩ = some (.int .i64 t574) := (blk_cell BK595.out 1).trans rfl
            have hcz24_2 : w18.cell? ⟨gb595, 2, none⟩ = some (.int .i64 t575) := (blk_cell BK595.out 2).trans rfl
            have hcz24_3 : w18.cell? ⟨gb595, 3, none⟩ = some (.int .i64 t576) := (blk_cell BK595.out 3).trans rfl
            have hcz24_4 : w18.cell? ⟨gb595, 4, none⟩ = some (.int .i64 t577) := (blk_cell BK595.out 4).trans rfl
            have hcz24_5 : w18.cell? ⟨gb595, 5, none⟩ = some (.int .i64 t578) := (blk_cell BK595.out 5).trans rfl
            have hcz24_6 : w18.cell? ⟨gb595, 6, none⟩ = some (.int .i64 t579) := (blk_cell BK595.out 6).trans rfl
            have hcz24_7 : w18.cell? ⟨gb595, 7, none⟩ = some (.int .i64 t580) := (blk_cell BK595.out 7).trans rfl
            have hcz24_8 : w18.cell? ⟨gb595, 8, none⟩ = some (.int .i64 t581) := (blk_cell BK595.out 8).trans rfl
            have hcz24_9 : w18.cell? ⟨gb595, 9, none⟩ = some (.int .i64 t582) := (blk_cell BK595.out 9).trans rfl
            have hcz24_10 : w18.cell? ⟨gb595, 10, none⟩ = some (.int .i64 t583) := (blk_cell BK595.out 10).trans rfl
            have hfz24_0 := blk_frozen BK595.out 0
            have hfz24_1 := blk_frozen BK595.out 1
            have hfz24_2 := blk_frozen BK595.out 2
            have hfz24_3 := blk_frozen BK595.out 3
            have hfz24_4 := blk_frozen BK595.out 4
            have hfz24_5 := blk_frozen BK595.out 5
            have hfz24_6 := blk_frozen BK595.out 6
            have hfz24_7 := blk_frozen BK595.out 7
            have hfz24_8 := blk_frozen BK595.out 8
            have hfz24_9 := blk_frozen BK595.out 9
            have hfz24_10 := blk_frozen BK595.out 10
            go_wp2_with (first | (go_at_call 22; (with_reducible refine (impl_Less.calls t584 t585 t586 t587 t588 t589 t590 t591 t592 t593 t594 t573 t574 t575 t576 t577 t578 t579 t580 t581 t582 t583 true _ A20.out).mono ?_); rintro e w25 ⟨rfl, hb⟩; have n0_ := Aside0.mk (blk_below (g := gb595) (o := .cells #[.int .i64 t573, .int .i64 t574, .int .i64 t575, .int .i64 t576, .int .i64 t577, .int .i64 t578, .int .i64 t579, .int .i64 t580, .int .i64 t581, .int .i64 t582, .int .i64 t583] 23 (0, 0)) (by (with_reducible repeat (first | refine blk_drewN ?_ _ | refine blk_drew ?_ | refine blk_alloc ?_ _)); exact BK595.out) hb); have n1_ := Aside0.mk (blk_below (g := gb596) (o := .cells #[.int .i64 t584, .int .i64 t585, .int .i64 t586, .int .i64 t587, .int .i64 t588, .int .i64 t589, .int .i64 t590, .int .i64 t591, .int .i64 t592, .int .i64 t593, .int .i64 t594] 23 (0, 0)) (by (with_reducible repeat (first | refine blk_drewN ?_ _ | refine blk_drew ?_ | refine blk_alloc ?_ _)); exact BK596.out) hb); have n2_ := Aside0.mk (below_step (by repeat (first | (with_reducible first | exact HB.out | apply below_alloc | apply pw_below_drewN | apply below_drew1 | refine below_set ?_ GE595.out | refine below_set ?_ GE596.out) | exact HB.out)) hb); clear BK595; clear BK596; clear HB; have BK595 := n0_; have BK596 := n1_; have HB := n2_; clear n0_ n1_ n2_; (try clear hb); (try clear hb2); (try clear hk); (try clear hi); have hcz26_0 : w25.cell? ⟨gb595, 0, none⟩ = some (.int .i64 t573) := (blk_cell BK595.out 0).trans rfl; have hcz26_1 : w25.cell? ⟨gb595, 1, none⟩ = some (.int .i64 t574) := (blk_cell BK595.out 1).trans rfl; have hcz26_2 : w25.cell? ⟨gb595, 2, none⟩ = some (.int .i64 t575) := (blk_cell BK595.out 2).trans rfl; have hcz26_3 : w25.cell? ⟨gb595, 3, none⟩ = some (.int .i64 t576) := (blk_cell BK595.out 3).trans rfl; have hcz26_4 : w25.cell? ⟨gb595, 4, none⟩ = some (.int .i64 t577) := (blk_cell BK595.out 4).trans rfl; have hcz26_5 : w25.cell? ⟨gb595, 5, none⟩ = some (.int .i64 t578) := (blk_cell BK595.out 5).trans rfl; have hcz26_6 : w25.cell? ⟨gb595, 6, none⟩ = some (.int .i64 t579) := (blk_cell BK595.out 6).trans rfl; have hcz26_7 : w25.cell? ⟨gb595, 7, none⟩ = some (.int .i64 t580) := (blk_cell BK595.out 7).trans rfl; have hcz26_8 : w25.cell? ⟨gb595, 8, none⟩ = some (.int .i64 t581) := (blk_cell BK595.out 8).trans rfl; have hcz26_9 : w25.cell? ⟨gb595, 9, none⟩ = some (.int .i64 t582) := (blk_cell BK595.out 9).trans rfl; have hcz26_10 : w25.cell? ⟨gb595, 10, none⟩ = some (.int .i64 t583) := (blk_cell BK595.out 10).trans rfl; have hfz26_0 := blk_frozen BK595.out 0; have hfz26_1 := blk_frozen BK595.out 1; have hfz26_2 := blk_frozen BK595.out 2; have hfz26_3 := blk_frozen BK595.out 3; have hfz26_4 := blk_frozen BK595.out 4; have hfz26_5 := blk_frozen BK595.out 5; have hfz26_6 := blk_frozen BK595.out 6; have hfz26_7 := blk_frozen BK595.out 7; have hfz26_8 := blk_frozen BK595.out 8; have hfz26_9 := blk_frozen BK595.out 9; have hfz26_10 := blk_frozen BK595.out 10; have hcz27_0 : w25.cell? ⟨gb596, 0, none⟩ = some (.int .i64 t584) := (blk_cell BK596.out 0).trans rfl; have hcz27_1 : w25.cell? ⟨gb596, 1, none⟩ = some (.int .i64 t585) := (blk_cell BK596.out 1).trans rfl; have hcz27_2 : w25.cell? ⟨gb596, 2, none⟩ = some (.int .i64 t586) := (blk_cell BK596.out 2).trans rfl; have hcz27_3 : w25.cell? ⟨gb596, 3, none⟩ = some (.int .i64 t587) := (blk_cell BK596.out 3).trans rfl; have hcz27_4 : w25.cell? ⟨gb596, 4, none⟩ = some (.int .i64 t588) := (blk_cell BK596.out 4).trans rfl; have hcz27_5 : w25.cell? ⟨gb596, 5, none⟩ = some (.int .i64 t589) := (blk_cell BK596.out 5).trans rfl; have hcz27_6 : w25.cell? ⟨gb596, 6, none⟩ = some (.int .i64 t590) := (blk_cell BK596.out 6).trans rfl; have hcz27_7 : w25.cell? ⟨gb596, 7, none⟩ = some (.int .i64 t591) := (blk_cell BK596.out 7).trans rfl; have hcz27_8 : w25.cell? ⟨gb596, 8, none⟩ = some (.int .i64 t592) := (blk_cell BK596.out 8).trans rfl; have hcz27_9 : w25.cell? ⟨gb596, 9, none⟩ = some (.int .i64 t593) := (blk_cell BK596.out 9).trans rfl; have hcz27_10 : w25.cell? ⟨gb596, 10, none⟩ = some (.int .i64 t594) := (blk_cell BK596.out 10).trans rfl; have hfz27_0 := blk_frozen BK596.out 0; have hfz27_1 := blk_frozen BK596.out 1; have hfz27_2 := blk_frozen BK596.out 2; have hfz27_3 := blk_frozen BK596.out 3; have hfz27_4 := blk_frozen BK596.out 4; have hfz27_5 := blk_frozen BK596.out 5; have hfz27_6 := blk_frozen BK596.out 6; have hfz27_7 := blk_frozen BK596.out 7; have hfz27_8 := blk_frozen BK596.out 8; have hfz27_9 := blk_frozen BK596.out 9; have hfz27_10 := blk_frozen BK596.out 10))
            go_meet
            case rel => exact ⟨_, ((!(t573 == t584) || (!(t574 == t585) || (!(t575 == t586) || (!(t576 == t587) || (!(t577 == t588) || (!(t578 == t589) || (!(t579 == t590) || (!(t580 == t591) || (!(t581 == t592) || (!(t582 == t593) || (!(t583 == t594))))))))))))), (by first | rfl | (simp; done) | (simp [*]; done)), H', ⟨by first | omega | exact Nat.le_refl _⟩, ⟨by (with_reducible repeat (first | refine blk_drewN ?_ _ | refine blk_drew ?_ | refine blk_alloc ?_ _)); exact BK595.out⟩, ⟨by (with_reducible repeat (first | refine blk_drewN ?_ _ | refine blk_drew ?_ | refine blk_alloc ?_ _)); exact BK596.out⟩, ⟨by repeat (first | (with_reducible first | exact HB.out | apply below_alloc | apply pw_below_drewN | apply below_drew1 | refine below_set ?_ GE595.out | refine below_set ?_ GE596.out) | exact HB.out)⟩⟩
          · replace c21 := Bool.eq_false_iff.mpr c21
            subst c21
            have H1 : (laws_FnLess.j0 k true false t573 t574 t575 t576 t577 t578 t579 t580 t581 t582 t583 t584 t585 t586 t587 t588 t589 t590 t591 t592 t593 t594) = some r := by rw [if_neg (show ¬ (false = true) by decide)] at H; exact H
            clear H
            have H := H1
            clear H1
            have H' := Aside0.mk H
            clear H
            have hnb28 := NB596_595.out
            have hnc28 := NB595_596.out
            have hcz29_0 : w18.cell? ⟨gb596, 0, none⟩ = some (.int .i64 t584) := (blk_cell BK596.out 0).trans rfl
            have hcz29_1 : w18.cell? ⟨gb596, 1, none⟩ = some (.int .i64 t585) := (blk_cell BK596.out 1).trans rfl
            have hcz29_2 : w18.cell? ⟨gb596, 2, none⟩ = some (.int .i64 t586) := (blk_cell BK596.out 2).trans rfl
            have hcz29_3 : w18.cell? ⟨gb596, 3, none⟩ = some (.int .i64 t587) := (blk_cell BK596.out 3).trans rfl
            have hcz29_4 : w18.cell? ⟨gb596, 4, none⟩ = some (.int .i64 t588) := (blk_cell BK596.out 4).trans rfl
            have hcz29_5 : w18.cell? ⟨gb596, 5, none⟩ = some (.int .i64 t589) := (blk_cell BK596.out 5).trans rfl
            have hcz29_6 : w18.cell? ⟨gb596, 6, none⟩ = some (.int .i64 t590) := (blk_cell BK596.out 6).trans rfl
            have hcz29_7 : w18.cell? ⟨gb596, 7, none⟩ = some (.int .i64 t591) := (blk_cell BK596.out 7).trans rfl
            have hcz29_8 : w18.cell? ⟨gb596, 8, none⟩ = some (.int .i64 t592) := (blk_cell BK596.out 8).trans rfl
            have hcz29_9 : w18.cell? ⟨gb596, 9, none⟩ = some (.int .i64 t593) := (blk_cell BK596.out 9).trans rfl
            have hcz29_10 : w18.cell? ⟨gb596, 10, none⟩ = some (.int .i64 t594) := (blk_cell BK596.out 10).trans rfl
            have hfz29_0 := blk_frozen BK596.out 0
            have hfz29_1 := blk_frozen BK596.out 1
            have hfz29_2 := blk_frozen BK596.out 2
            have hfz29_3 := blk_frozen BK596.out 3
            have hfz29_4 := blk_frozen BK596.out 4
            have hfz29_5 := blk_frozen BK596.out 5
            have hfz29_6 := blk_frozen BK596.out 6
            have hfz29_7 := blk_frozen BK596.out 7
            have hfz29_8 := blk_frozen BK596.out 8
            have hfz29_9 := blk_frozen BK596.out 9
            have hfz29_10 := blk_frozen BK596.out 10
            have hcz30_0 : w18.cell? ⟨gb595, 0, none⟩ = some (.int .i64 t573) := (blk_cell BK595.out 0).trans rfl
            have hcz30_1 : w18.cell? ⟨gb595, 1, none⟩ = some (.int .i64 t574) := (blk_cell BK595.out 1).trans rfl
            have hcz30_2 : w18.cell? ⟨gb595, 2, none⟩ = some (.int .i64 t575) := (blk_cell BK595.out 2).trans rfl
            have hcz30_3 : w18.cell? ⟨gb595, 3, none⟩ = some (.int .i64 t576) := (blk_cell BK595.out 3).trans rfl
            have hcz30_4 : w18.cell? ⟨gb595, 4, none⟩ = some (.int .i64 t577) := (blk_cell BK595.out 4).trans rfl
            have hcz30_5 : w18.cell? ⟨gb595, 5, none⟩ = some (.int .i64 t578) := (blk_cell BK595.out 5).trans rfl
            have hcz30_6 : w18.cell? ⟨gb595, 6, none⟩ = some (.int .i64 t579) := (blk_cell BK595.out 6).trans rfl
            have hcz30_7 : w18.cell? ⟨gb595, 7, none⟩ = some (.int .i64 t580) := (blk_cell BK595.out 7).trans rfl
            have hcz30_8 : w18.cell? ⟨gb595, 8, none⟩ = some (.int .i64 t581) := (blk_cell BK595.out 8).trans rfl
            have hcz30_9 : w18.cell? ⟨gb595, 9, none⟩ = some (.int .i64 t582) := (blk_cell BK595.out 9).trans rfl
            have hcz30_10 : w18.cell? ⟨gb595, 10, none⟩ = some (.int .i64 t583) := (blk_cell BK595.out 10).trans rfl
            have hfz30_0 := blk_frozen BK595.out 0
            have hfz30_1 := blk_frozen BK595.out 1
            have hfz30_2 := blk_frozen BK595.out 2
            have hfz30_3 := blk_frozen BK595.out 3
            have hfz30_4 := blk_frozen BK595.out 4
            have hfz30_5 := blk_frozen BK595.out 5
            have hfz30_6 := blk_frozen BK595.out 6
            have hfz30_7 := blk_frozen BK595.out 7
            have hfz30_8 := blk_frozen BK595.out 8
            have hfz30_9 := blk_frozen BK595.out 9
            have hfz30_10 := blk_frozen BK595.out 10
            go_wp2_with (first | (go_at_call 22; (with_reducible refine (impl_Less.calls t584 t585 t586 t587 t588 t589 t590 t591 t592 t593 t594 t573 t574 t575 t576 t577 t578 t579 t580 t581 t582 t583 false _ A20.out).mono ?_); rintro e w31 ⟨rfl, hb⟩; have n0_ := Aside0.mk (blk_below (g := gb595) (o := .cells #[.int .i64 t573, .int .i64 t574, .int .i64 t575, .int .i64 t576, .int .i64 t577, .int .i64 t578, .int .i64 t579, .int .i64 t580, .int .i64 t581, .int .i64 t582, .int .i64 t583] 23 (0, 0)) (by (with_reducible repeat (first | refine blk_drewN ?_ _ | refine blk_drew ?_ | refine blk_alloc ?_ _)); exact BK595.out) hb); have n1_ := Aside0.mk (blk_below (g := gb596) (o := .cells #[.int .i64 t584, .int .i64 t585, .int .i64 t586, .int .i64 t587, .int .i64 t588, .int .i64 t589, .int .i64 t590, .int .i64 t591, .int .i64 t592, .int .i64 t593, .int .i64 t594] 23 (0, 0)) (by (with_reducible repeat (first | refine blk_drewN ?_ _ | refine blk_drew ?_ | refine blk_alloc ?_ _)); exact BK596.out) hb); have n2_ := Aside0.mk (below_step (by repeat (first | (with_reducible first | exact HB.out | apply below_alloc | apply pw_below_drewN | apply below_drew1 | refine below_set ?_ GE595.out | refine below_set ?_ GE596.out) | exact HB.out)) hb); clear BK595; clear BK596; clear HB; have BK595 := n0_; have BK596 := n1_; have HB := n2_; clear n0_ n1_ n2_; (try clear hb); (try clear hb2); (try clear hk); (try clear hi)))
            go_meet
            case rel => exact ⟨_, (false), (by first | rfl | (simp; done) | (simp [*]; done)), H', ⟨by first | omega | exact Nat.le_refl _⟩, ⟨by (with_reducible repeat (first | refine blk_drewN ?_ _ | refine blk_drew ?_ | refine blk_alloc ?_ _)); exact BK595.out⟩, ⟨by (with_reducible repeat (first | refine blk_drewN ?_ _ | refine blk_drew ?_ | refine blk_alloc ?_ _)); exact BK596.out⟩, ⟨by repeat (first | (with_reducible first | exact HB.out | apply below_alloc | apply pw_below_drewN | apply below_drew1 | refine below_set ?_ GE595.out | refine below_set ?_ GE596.out) | exact HB.out)⟩⟩
        · replace c19 := Bool.eq_false_iff.mpr c19
          subst c19
          have H1 : (laws_FnLess.j0 k false false t573 t574 t575 t576 t577 t578 t579 t580 t581 t582 t583 t584 t585 t586 t587 t588 t589 t590 t591 t592 t593 t594) = some r := by rw [if_neg (show ¬ (false = true) by decide)] at H; exact H
          clear H
          have H := H1
          clear H1
          have H' := Aside0.mk H
          clear H
          go_wp2
          go_meet
          case rel => exact ⟨_, (false), (by first | rfl | (simp; done) | (simp [*]; done)), H', ⟨by first | omega | exact Nat.le_refl _⟩, ⟨by (with_reducible repeat (first | refine blk_drewN ?_ _ | refine blk_drew ?_ | refine blk_alloc ?_ _)); exact BK595.out⟩, ⟨by (with_reducible repeat (first | refine blk_drewN ?_ _ | refine blk_drew ?_ | refine blk_alloc ?_ _)); exact BK596.out⟩, ⟨by repeat (first | (with_reducible first | exact HB.out | apply below_alloc | apply pw_below_drewN | apply below_drew1 | refine below_set ?_ GE595.out | refine below_set ?_ GE596.out) | exact HB.out)⟩⟩
      case rest =>
        clear HC8
        try clear c1
        try clear c2
        try clear p2
        try clear c3
        try clear c7
        try clear c7b0
        try clear c7b1
        try clear c7b2
        try clear c12
        try clear c19
        try clear c21
        try clear c22
        try clear c28
        try clear hcz13_0
        try clear hcz13_1
        try clear hcz13_10
        try clear hcz13_2
        try clear hcz13_3
        try clear hcz13_4
        try clear hcz13_5
        try clear hcz13_6
        try clear hcz13_7
        try clear hcz13_8
        try clear hcz13_9
        try clear hcz14_0
        try clear hcz14_1
        try clear hcz14_10
        try clear hcz14_2
        try clear hcz14_3
        try clear hcz14_4
        try clear hcz14_5
        try clear hcz14_6
        try clear hcz14_7
        try clear hcz14_8
        try clear hcz14_9
        try clear hcz16_0
        try clear hcz16_1
        try clear hcz16_10
        try clear hcz16_2
        try clear hcz16_3
        try clear hcz16_4
        try clear hcz16_5
        try clear hcz16_6
        try clear hcz16_7
        try clear hcz16_8
        try clear hcz16_9
        try clear hcz17_0
        try clear hcz17_1
        try clear hcz17_10
        try clear hcz17_2
        try clear hcz17_3
        try clear hcz17_4
        try clear hcz17_5
        try clear hcz17_6
        try clear hcz17_7
        try clear hcz17_8
        try clear hcz17_9
        try clear hcz23_0
        try clear hcz23_1
        try clear hcz23_10
        try clear hcz23_2
        try clear hcz23_3
        try clear hcz23_4
        try clear hcz23_5
        try clear hcz23_6
        try clear hcz23_7
        try clear hcz23_8
        try clear hcz23_9
        try clear hcz24_0
        try clear hcz24_1
        try clear hcz24_10
        try clear hcz24_2
        try clear hcz24_3
        try clear hcz24_4
        try clear hcz24_5
        try clear hcz24_6
        try clear hcz24_7
        try clear hcz24_8
        try clear hcz24_9
        try clear hcz26_0
        try clear hcz26_1
        try clear hcz26_10
        try clear hcz26_2
        try clear hcz26_3
        try clear hcz26_4
        try clear hcz26_5
        try clear hcz26_6
        try clear hcz26_7
        try clear hcz26_8
        try clear hcz26_9
        try clear hcz27_0
        try clear hcz27_1
        try clear hcz27_10
        try clear hcz27_2
        try clear hcz27_3
        try clear hcz27_4
        try clear hcz27_5
        try clear hcz27_6
        try clear hcz27_7
        try clear hcz27_8
        try clear hcz27_9
        try clear hcz29_0
        try clear hcz29_1
        try clear hcz29_10
        try clear hcz29_2
        try clear hcz29_3
        try clear hcz29_4
        try clear hcz29_5
        try clear hcz29_6
        try clear hcz29_7
        try clear hcz29_8
        try clear hcz29_9
        try clear hcz30_0
        try clear hcz30_1
        try clear hcz30_10
        try clear hcz30_2
        try clear hcz30_3
        try clear hcz30_4
        try clear hcz30_5
        try clear hcz30_6
        try clear hcz30_7
        try clear hcz30_8
        try clear hcz30_9
        try clear hfz13_0
        try clear hfz13_1
        try clear hfz13_10
        try clear hfz13_2
        try clear hfz13_3
        try clear hfz13_4
        try clear hfz13_5
        try clear hfz13_6
        try clear hfz13_7
        try clear hfz13_8
        try clear hfz13_9
        try clear hfz14_0
        try clear hfz14_1
        try clear hfz14_10
        try clear hfz14_2
        try clear hfz14_3
        try clear hfz14_4
        try clear hfz14_5
        try clear hfz14_6
        try clear hfz14_7
        try clear hfz14_8
        try clear hfz14_9
        try clear hfz16_0
        try clear hfz16_1
        try clear hfz16_10
        try clear hfz16_2
        try clear hfz16_3
        try clear hfz16_4
        try clear hfz16_5
        try clear hfz16_6
        try clear hfz16_7
        try clear hfz16_8
        try clear hfz16_9
        try clear hfz17_0
        try clear hfz17_1
        try clear hfz17_10
        try clear hfz17_2
        try clear hfz17_3
        try clear hfz17_4
        try clear hfz17_5
        try clear hfz17_6
        try clear hfz17_7
        try clear hfz17_8
        try clear hfz17_9
        try clear hfz23_0
        try clear hfz23_1
        try clear hfz23_10
        try clear hfz23_2
        try clear hfz23_3
        try clear hfz23_4
        try clear hfz23_5
        try clear hfz23_6
        try clear hfz23_7
        try clear hfz23_8
        try clear hfz23_9
        try clear hfz24_0
        try clear hfz24_1
        try clear hfz24_10
        try clear hfz24_2
        try clear hfz24_3
        try clear hfz24_4
        try clear hfz24_5
        try clear hfz24_6
        try clear hfz24_7
        try clear hfz24_8
        try clear hfz24_9
        try clear hfz26_0
        try clear hfz26_1
        try clear hfz26_10
        try clear hfz26_2
        try clear hfz26_3
        try clear hfz26_4
        try clear hfz26_5
        try clear hfz26_6
        try clear hfz26_7
        try clear hfz26_8
        try clear hfz26_9
        try clear hfz27_0
        try clear hfz27_1
        try clear hfz27_10
        try clear hfz27_2
        try clear hfz27_3
        try clear hfz27_4
        try clear hfz27_5
        try clear hfz27_6
        try clear hfz27_7
        try clear hfz27_8
        try clear hfz27_9
        try clear hfz29_0
        try clear hfz29_1
        try clear hfz29_10
        try clear hfz29_2
        try clear hfz29_3
        try clear hfz29_4
        try clear hfz29_5
        try clear hfz29_6
        try clear hfz29_7
        try clear hfz29_8
        try clear hfz29_9
        try clear hfz30_0
        try clear hfz30_1
        try clear hfz30_10
        try clear hfz30_2
        try clear hfz30_3
        try clear hfz30_4
        try clear hfz30_5
        try clear hfz30_6
        try clear hfz30_7
        try clear hfz30_8
        try clear hfz30_9
        obtain ⟨kq, x34_7, rfl, HA, HJ7, BK595, BK596, HB⟩ := hcut
        cases kq with
        | zero => exact absurd HA.out (by simp [laws_FnLess.j0])
        | succ kj7 =>
          have H := HA.out
          clear HA
          simp only [laws_FnLess.j0] at H
          by_cases c32 : x34_7 = true
          · subst c32
            have H1 : (some false) = some r := by rw [if_pos rfl] at H; exact H
            clear H
            have H := H1
            clear H1
            exact absurd ((Option.some.inj H).trans hrt_.out) (by decide)
          · replace c32 := Bool.eq_false_iff.mpr c32
            subst c32
            have H1 : (if t597 = true then ((impl_Meet.f t573 t574 t575 t576 t577 t578 t579 t580 t581 t582 t583 t584 t585 t586 t587 t588 t589 t590 t591 t592 t593 t594).bind fun bt600 => ((impl_OnlyPC.f (-1)).bind fun bt613 => (if bt600.2.2.2.2.2.2.2.2.2.2.2 = true then (if (bt600.1 == t584 && (bt600.2.1 == t585 && (bt600.2.2.1 == t586 && (bt600.2.2.2.1 == t587 && (bt600.2.2.2.2.1 == t588 && (bt600.2.2.2.2.2.1 == t589 && (bt600.2.2.2.2.2.2.1 == t590 && (bt600.2.2.2.2.2.2.2.1 == t591 && (bt600.2.2.2.2.2.2.2.2.1 == t592 && (bt600.2.2.2.2.2.2.2.2.2.1 == t593 && (bt600.2.2.2.2.2.2.2.2.2.2.1 == t594))))))))))) = true then ((impl_Less.f bt613.1 bt613.2.1 bt613.2.2.1 bt613.2.2.2.1 bt613.2.2.2.2.1 bt613.2.2.2.2.2.1 bt613.2.2.2.2.2.2.1 bt613.2.2.2.2.2.2.2.1 bt613.2.2.2.2.2.2.2.2.1 bt613.2.2.2.2.2.2.2.2.2.1 bt613.2.2.2.2.2.2.2.2.2.2 t573 t574 t575 t576 t577 t578 t579 t580 t581 t582 t583).bind fun t625 => (if t625 = true then ((impl_Known.f bt613.1 bt613.2.1 bt613.2.2.1 bt613.2.2.2.1 bt613.2.2.2.2.1 bt613.2.2.2.2.2.1 bt613.2.2.2.2.2.2.1 bt613.2.2.2.2.2.2.2.1 bt613.2.2.2.2.2.2.2.2.1 bt613.2.2.2.2.2.2.2.2.2.1 bt613.2.2.2.2.2.2.2.2.2.2).bind fun t626 => (if t626 = 0 then ((impl_Known.f t573 t574 t575 t576 t577 t578 t579 t580 t581 t582 t583).bind fun t627 => ((impl_Known.f t584 t585 t586 t587 t588 t589 t590 t591 t592 t593 t594).bind fun t628 => (some (decide (t627 ≤ t628))))) else (some false))) else (some false))) else (some false)) else (some false)))) else (some true)) = some r := by rw [if_neg (show ¬ (false = true) by decide)] at H; exact H
            clear H
            have H := H1
            clear H1
            by_cases c33 : t597 = true
            · subst c33
              have H1 : ((impl_Meet.f t573 t574 t575 t576 t577 t578 t579 t580 t581 t582 t583 t584 t585 t586 t587 t588 t589 t590 t591 t592 t593 t594).bind fun bt600 => ((impl_OnlyPC.f (-1)).bind fun bt613 => (if bt600.2.2.2.2.2.2.2.2.2.2.2 = true then (if (bt600.1 == t584 && (bt600.2.1 == t585 && (bt600.2.2.1 == t586 && (bt600.2.2.2.1 == t587 && (bt600.2.2.2.2.1 == t588 && (bt600.2.2.2.2.2.1 == t589 && (bt600.2.2.2.2.2.2.1 == t590 && (bt600.2.2.2.2.2.2.2.1 == t591 && (bt600.2.2.2.2.2.2.2.2.1 == t592 && (bt600.2.2.2.2.2.2.2.2.2.1 == t593 && (bt600.2.2.2.2.2.2.2.2.2.2.1 == t594))))))))))) = true then ((impl_Less.f bt613.1 bt613.2.1 bt613.2.2.1 bt613.2.2.2.1 bt613.2.2.2.2.1 bt613.2.2.2.2.2.1 bt613.2.2.2.2.2.2.1 bt613.2.2.2.2.2.2.2.1 bt613.2.2.2.2.2.2.2.2.1 bt613.2.2.2.2.2.2.2.2.2.1 bt613.2.2.2.2.2.2.2.2.2.2 t573 t574 t575 t576 t577 t578 t579 t580 t581 t582 t583).bind fun t625 => (if t625 = true then ((impl_Known.f bt613.1 bt613.2.1 bt613.2.2.1 bt613.2.2.2.1 bt613.2.2.2.2.1 bt613.2.2.2.2.2.1 bt613.2.2.2.2.2.2.1 bt613.2.2.2.2.2.2.2.1 bt613.2.2.2.2.2.2.2.2.1 bt613.2.2.2.2.2.2.2.2.2.1 bt613.2.2.2.2.2.2.2.2.2.2).bind fun t626 => (if t626 = 0 then ((impl_Known.f t573 t574 t575 t576 t577 t578 t579 t580 t581 t582 t583).bind fun t627 => ((impl_Known.f t584 t585 t586 t587 t588 t589 t590 t591 t592 t593 t594).bind fun t628 => (some (decide (t627 ≤ t628))))) else (some false))) else (some false))) else (some false)) else (some false)))) = some r := by rw [if_pos rfl] at H; exact H
              clear H
              have H := H1
              clear H1
              replace H := Option.bind_eq_some_iff.mp H
              obtain ⟨⟨t600, t601, t602, t603, t604, t605, t606, t607, t608, t609, t610, t611⟩, A340, H⟩ := H
              replace H : ((impl_OnlyPC.f (-1)).bind fun bt613 => (if t611 = true then (if (t600 == t584 && (t601 == t585 && (t602 == t586 && (t603 == t587 && (t604 == t588 && (t605 == t589 && (t606 == t590 && (t607 == t591 && (t608 == t592 && (t609 == t593 && (t610 == t594))))))))))) = true then ((impl_Less.f bt613.1 bt613.2.1 bt613.2.2.1 bt613.2.2.2.1 bt613.2.2.2.2.1 bt613.2.2.2.2.2.1 bt613.2.2.2.2.2.2.1 bt613.2.2.2.2.2.2.2.1 bt613.2.2.2.2.2.2.2.2.1 bt613.2.2.2.2.2.2.2.2.2.1 bt613.2.2.2.2.2.2.2.2.2.2 t573 t574 t575 t576 t577 t578 t579 t580 t581 t582 t583).bind fun t625 => (if t625 = true then ((impl_Known.f bt613.1 bt613.2.1 bt613.2.2.1 bt613.2.2.2.1 bt613.2.2.2.2.1 bt613.2.2.2.2.2.1 bt613.2.2.2.2.2.2.1 bt613.2.2.2.2.2.2.2.1 bt613.2.2.2.2.2.2.2.2.1 bt613.2.2.2.2.2.2.2.2.2.1 bt613.2.2.2.2.2.2.2.2.2.2).bind fun t626 => (if t626 = 0 then ((impl_Known.f t573 t574 t575 t576 t577 t578 t579 t580 t581 t582 t583).bind fun t627 => ((impl_Known.f t584 t585 t586 t587 t588 t589 t590 t591 t592 t593 t594).bind fun t628 => (some (decide (t627 ≤ t628))))) else (some false))) else (some false))) else (some false)) else (some false))) = some r := H
              have A34 := Aside0.mk A340
              clear A340
              replace H := Option.bind_eq_some_iff.mp H
              obtain ⟨⟨t613, t614, t615, t616, t617, t618, t619, t620, t621, t622, t623⟩, A350, H⟩ := H
              replace H : (if t611 = true then (if (t600 == t584 && (t601 == t585 && (t602 == t586 && (t603 == t587 && (t604 == t588 && (t605 == t589 && (t606 == t590 && (t607 == t591 && (t608 == t592 && (t609 == t593 && (t610 == t594))))))))))) = true then ((impl_Less.f t613 t614 t615 t616 t617 t618 t619 t620 t621 t622 t623 t573 t574 t575 t576 t577 t578 t579 t580 t581 t582 t583).bind fun t625 => (if t625 = true then ((impl_Known.f t613 t614 t615 t616 t617 t618 t619 t620 t621 t622 t623).bind fun t626 => (if t626 = 0 then ((impl_Known.f t573 t574 t575 t576 t577 t578 t579 t580 t581 t582 t583).bind fun t627 => ((impl_Known.f t584 t585 t586 t587 t588 t589 t590 t591 t592 t593 t594).bind fun t628 => (some (decide (t627 ≤ t628))))) else (some false))) else (some false))) else (some false)) else (some false)) = some r := H
              have A35 := Aside0.mk A350
              clear A350
              by_cases c36 : t611 = true
              · subst c36
                have H1 : (if (t600 == t584 && (t601 == t585 && (t602 == t586 && (t603 == t587 && (t604 == t588 && (t605 == t589 && (t606 == t590 && (t607 == t591 && (t608 == t592 && (t609 == t593 && (t610 == t594))))))))))) = true then ((impl_Less.f t613 t614 t615 t616 t617 t618 t619 t620 t621 t622 t623 t573 t574 t575 t576 t577 t578 t579 t580 t581 t582 t583).bind fun t625 => (if t625 = true then ((impl_Known.f t613 t614 t615 t616 t617 t618 t619 t620 t621 t622 t623).bind fun t626 => (if t626 = 0 then ((impl_Known.f t573 t574 t575 t576 t577 t578 t579 t580 t581 t582 t583).bind fun t627 => ((impl_Known.f t584 t585 t586 t587 t588 t589 t590 t591 t592 t593 t594).bind fun t628 => (some (decide (t627 ≤ t628))))) else (some false))) else (some false))) else (some false)) = some r := by rw [if_pos rfl] at H; exact H
                clear H
                have H := H1
                clear H1
                by_cases c37 : (t600 == t584 && (t601 == t585 && (t602 == t586 && (t603 == t587 && (t604 == t588 && (t605 == t589 && (t606 == t590 && (t607 == t591 && (t608 == t592 && (t609 == t593 && (t610 == t594))))))))))) = true
                · rw [if_pos c37] at H
                  have c37b0 : (t600 == t584 && (t601 == t585 && (t602 == t586 && (t603 == t587 && (t604 == t588 && (t605 == t589 && (t606 == t590 && (t607 == t591 && (t608 == t592 && (t609 == t593 && (t610 == t594))))))))))) = true := c37
                  (try (have c37b1 : decide (t600 = t584 && (t601 == t585 && (t602 == t586 && (t603 == t587 && (t604 == t588 && (t605 == t589 && (t606 == t590 && (t607 == t591 && (t608 == t592 && (t609 == t593 && (t610 == t594))))))))))) = true := by simpa using c37))
                  (try (have c37b2 : (t600 == t584 && (t601 == t585 && (t602 == t586 && (t603 == t587 && (t604 == t588 && (t605 == t589 && (t606 == t590 && (t607 == t591 && (t608 == t592 && (t609 == t593 && (t610 == t594))))))))))) = true := by simpa using c37))
                  clear c37
                  replace H := Option.bind_eq_some_iff.mp H
                  obtain ⟨t625, A380, H⟩ := H
                  replace H : (if t625 = true then ((impl_Known.f t613 t614 t615 t616 t617 t618 t619 t620 t621 t622 t623).bind fun t626 => (if t626 = 0 then ((impl_Known.f t573 t574 t575 t576 t577 t578 t579 t580 t581 t582 t583).bind fun t627 => ((impl_Known.f t584 t585 t586 t587 t588 t589 t590 t591 t592 t593 t594).bind fun t628 => (some (decide (t627 ≤ t628))))) else (some false))) else (some false)) = some r := H
                  have A38 := Aside0.mk A380
                  clear A380
                  by_cases c39 : t625 = true
                  · subst c39
                    have H1 : ((impl_Known.f t613 t614 t615 t616 t617 t618 t619 t620 t621 t622 t623).bind fun t626 => (if t626 = 0 then ((impl_Known.f t573 t574 t575 t576 t577 t578 t579 t580 t581 t582 t583).bind fun t627 => ((impl_Known.f t584 t585 t586 t587 t588 t589 t590 t591 t592 t593 t594).bind fun t628 => (some (decide (t627 ≤ t628))))) else (some false))) = some r := by rw [if_pos rfl] at H; exact H
                    clear H
                    have H := H1
                    clear H1
                    replace H := Option.bind_eq_some_iff.mp H
                    obtain ⟨t626, A400, H⟩ := H
                    replace H : (if t626 = 0 then ((impl_Known.f t573 t574 t575 t576 t577 t578 t579 t580 t581 t582 t583).bind fun t627 => ((impl_Known.f t584 t585 t586 t587 t588 t589 t590 t591 t592 t593 t594).bind fun t628 => (some (decide (t627 ≤ t628))))) else (some false)) = some r := H
                    have A40 := Aside0.mk A400
                    clear A400
                    by_cases c41 : t626 = 0
                    · rw [if_pos c41] at H
                      have c41b0 : (t626 == 0) = true := beq_iff_eq.mpr c41
                      have c41b1 : (t626 != 0) = false := bne_eq_false_iff_eq.mpr c41
                      clear c41
                      replace H := Option.bind_eq_some_iff.mp H
                      obtain ⟨t627, A420, H⟩ := H
                      replace H : ((impl_Known.f t584 t585 t586 t587 t588 t589 t590 t591 t592 t593 t594).bind fun t628 => (some (decide (t627 ≤ t628)))) = some r := H
                      have A42 := Aside0.mk A420
                      clear A420
                      replace H := Option.bind_eq_some_iff.mp H
                      obtain ⟨t628, A430, H⟩ := H
                      replace H : (some (decide (t627 ≤ t628))) = some r := H
                      have A43 := Aside0.mk A430
                      clear A430
                      obtain rfl := Option.some.inj H
                      have hnb44 := NB595_596.out
                      have hnc44 := NB596_595.out
                      have hcz45_0 : wc.cell? ⟨gb595, 0, none⟩ = some (.int .i64 t573) := (blk_cell BK595.out 0).trans rfl
                      have hcz45_1 : wc.cell? ⟨gb595, 1, none⟩ = some (.int .i64 t574) := (blk_cell BK595.out 1).trans rfl
                      have hcz45_2 : wc.cell? ⟨gb595, 2, none⟩ = some (.int .i64 t575) := (blk_cell BK595.out 2).trans rfl
                      have hcz45_3 : wc.cell? ⟨gb595, 3, none⟩ = some (.int .i64 t576) := (blk_cell BK595.out 3).trans rfl
                      have hcz45_4 : wc.cell? ⟨gb595, 4, none⟩ = some (.int .i64 t577) := (blk_cell BK595.out 4).trans rfl
                      have hcz45_5 : wc.cell? ⟨gb595, 5, none⟩ = some (.int .i64 t578) := (blk_cell BK595.out 5).trans rfl
                      have hcz45_6 : wc.cell? ⟨gb595, 6, none⟩ = some (.int .i64 t579) := (blk_cell BK595.out 6).trans rfl
                      have hcz45_7 : wc.cell? ⟨gb595, 7, none⟩ = some (.int .i64 t580) := (blk_cell BK595.out 7).trans rfl
                      have hcz45_8 : wc.cell? ⟨gb595, 8, none⟩ = some (.int .i64 t581) := (blk_cell BK595.out 8).trans rfl
                      have hcz45_9 : wc.cell? ⟨gb595, 9, none⟩ = some (.int .i64 t582) := (blk_cell BK595.out 9).trans rfl
                      have hcz45_10 : wc.cell? ⟨gb595, 10, none⟩ = some (.int .i64 t583) := (blk_cell BK595.out 10).trans rfl
                      have hfz45_0 := blk_frozen BK595.out 0
                      have hfz45_1 := blk_frozen BK595.out 1
                      have hfz45_2 := blk_frozen BK595.out 2
                      have hfz45_3 := blk_frozen BK595.out 3
                      have hfz45_4 := blk_frozen BK595.out 4
                      have hfz45_5 := blk_frozen BK595.out 5
                      have hfz45_6 := blk_frozen BK595.out 6
                      have hfz45_7 := blk_frozen BK595.out 7
                      have hfz45_8 := blk_frozen BK595.out 8
                      have hfz45_9 := blk_frozen BK595.out 9
                      have hfz45_10 := blk_frozen BK595.out 10
                      have hcz46_0 : wc.cell? ⟨gb596, 0, none⟩ = some (.int .i64 t584) := (blk_cell BK596.out 0).trans rfl
                      have hcz46_1 : wc.cell? ⟨gb596, 1, none⟩ = some (.int .i64 t585) := (blk_cell BK596.out 1).trans rfl
                      have hcz46_2 : wc.cell? ⟨gb596, 2, none⟩ = some (.int .i64 t586) := (blk_cell BK596.out 2).trans rfl
                      have hcz46_3 : wc.cell? ⟨gb596, 3, none⟩ = some (.int .i64 t587) := (blk_cell BK596.out 3).trans rfl
                      have hcz46_4 : wc.cell? ⟨gb596, 4, none⟩ = some (.int .i64 t588) := (blk_cell BK596.out 4).trans rfl
                      have hcz46_5 : wc.cell? ⟨gb596, 5, none⟩ = some (.int .i64 t589) := (blk_cell BK596.out 5).trans rfl
                      have hcz46_6 : wc.cell? ⟨gb596, 6, none⟩ = some (.int .i64 t590) := (blk_cell BK596.out 6).trans rfl
                      have hcz46_7 : wc.cell? ⟨gb596, 7, none⟩ = some (.int .i64 t591) := (blk_cell BK596.out 7).trans rfl
                      have hcz46_8 : wc.cell? ⟨gb596, 8, none⟩ = some (.int .i64 t592) := (blk_cell BK596.out 8).trans rfl
                      have hcz46_9 : wc.cell? ⟨gb596, 9, none⟩ = some (.int .i64 t593) := (blk_cell BK596.out 9).trans rfl
                      have hcz46_10 : wc.cell? ⟨gb596, 10, none⟩ = some (.int .i64 t594) := (blk_cell BK596.out 10).trans rfl
                      have hfz46_0 := blk_frozen BK596.out 0
                      have hfz46_1 := blk_frozen BK596.out 1
                      have hfz46_2 := blk_frozen BK596.out 2
                      have hfz46_3 := blk_frozen BK596.out 3
                      have hfz46_4 := blk_frozen BK596.out 4
                      have hfz46_5 := blk_frozen BK596.out 5
                      have hfz46_6 := blk_frozen BK596.out 6
                      have hfz46_7 := blk_frozen BK596.out 7
                      have hfz46_8 := blk_frozen BK596.out 8
                      have hfz46_9 := blk_frozen BK596.out 9
                      have hfz46_10 := blk_frozen BK596.out 10
                      try go_wp2_with (first | ((with_reducible refine gate_callee (f := 31) rfl ?_); refine goesL_ (some 40) rfl rfl Try.func31 (by kernel_rfl) rfl #[.agg #[.int .i64 t573, .int .i64 t574, .int .i64 t575, .int .i64 t576, .int .i64 t577, .int .i64 t578, .int .i64 t579, .int .i64 t580, .int .i64 t581, .int .i64 t582, .int .i64 t583], .agg #[.int .i64 t584, .int .i64 t585, .int .i64 t586, .int .i64 t587, .int .i64 t588, .int .i64 t589, .int .i64 t590, .int .i64 t591, .int .i64 t592, .int .i64 t593, .int .i64 t594]] rfl (by (try simp only [List.map_toArray, List.map_cons, List.map_nil]); first | done | rfl | (simp only [List.length_drop, List.length_take]; rfl)) ?_; (with_reducible refine (impl_Meet.calls t573 t574 t575 t576 t577 t578 t579 t580 t581 t582 t583 t584 t585 t586 t587 t588 t589 t590 t591 t592 t593 t594 t600 t601 t602 t603 t604 t605 t606 t607 t608 t609 t610 true _ A34.out).mono ?_); rintro e w47 ⟨rfl, hb⟩; refine ⟨_, rfl, ?_⟩; have n0_ := Aside0.mk (blk_below (g := gb595) (o := .cells #[.int .i64 t573, .int .i64 t574, .int .i64 t575, .int .i64 t576, .int .i64 t577, .int .i64 t578, .int .i64 t579, .int .i64 t580, .int .i64 t581, .int .i64 t582, .int .i64 t583] 23 (0, 0)) (by (with_reducible repeat (first | refine blk_drewN ?_ _ | refine blk_drew ?_ | refine blk_alloc ?_ _)); exact BK595.out) hb); have n1_ := Aside0.mk (blk_below (g := gb596) (o := .cells #[.int .i64 t584, .int .i64 t585, .int .i64 t586, .int .i64 t587, .int .i64 t588, .int .i64 t589, .int .i64 t590, .int .i64 t591, .int .i64 t592, .int .i64 t593, .int .i64 t594] 23 (0, 0)) (by (with_reducible repeat (first | refine blk_drewN ?_ _ | refine blk_drew ?_ | refine blk_alloc ?_ _)); exact BK596.out) hb); have n2_ := Aside0.mk (below_step (by repeat (first | (with_reducible first | exact HB.out | apply below_alloc | apply pw_below_drewN | apply below_drew1 | refine below_set ?_ GE595.out | refine below_set ?_ GE596.out) | exact HB.out)) hb); clear BK595; clear BK596; clear HB; have BK595 := n0_; have BK596 := n1_; have HB := n2_; clear n0_ n1_ n2_; (try clear hb); (try clear hb2); (try clear hk); (try clear hi)) | ((with_reducible refine gate_dst (N := 6) rfl ?_); refine box_event ?hg (N := 6) ?hd (cs := #[.int .i64 0, .int .i64 0, .int .i64 0, .int .i64 0, .int .i64 0, .int .i64 0, .int .i64 0, .int .i64 0, .int .i64 0, .int .i64 0, .int .i64 0]) (t := 23) ?hr ?_; (case hd => rfl); (case hg => rfl); (case hr => first | (go_simp; done) | (go_simp; rfl)); intro gb612 hg w48 hbox hb; have n0_ := Aside0.mk (blk_below (g := gb595) (o := .cells #[.int .i64 t573, .int .i64 t574, .int .i64 t575, .int .i64 t576, .int .i64 t577, .int .i64 t578, .int .i64 t579, .int .i64 t580, .int .i64 t581, .int .i64 t582, .int .i64 t583] 23 (0, 0)) (by (with_reducible repeat (first | refine blk_drewN ?_ _ | refine blk_drew ?_ | refine blk_alloc ?_ _)); exact BK595.out) hb); have n1_ := Aside0.mk (blk_below (g := gb596) (o := .cells #[.int .i64 t584, .int .i64 t585, .int .i64 t586, .int .i64 t587, .int .i64 t588, .int .i64 t589, .int .i64 t590, .int .i64 t591, .int .i64 t592, .int .i64 t593, .int .i64 t594] 23 (0, 0)) (by (with_reducible repeat (first | refine blk_drewN ?_ _ | refine blk_drew ?_ | refine blk_alloc ?_ _)); exact BK596.out) hb); have n2_ := Aside0.mk (below_step (by repeat (first | (with_reducible first | exact HB.out | apply below_alloc | apply pw_below_drewN | apply below_drew1 | refine below_set ?_ GE595.out | refine below_set ?_ GE596.out) | exact HB.out)) hb); have n3_ := Aside0.mk (hbox); have n4_ := Aside0.mk ((by rw [hg]; exact (below_size (by repeat (first | (with_reducible first | exact HB.out | apply below_alloc | apply pw_below_drewN | apply below_drew1 | refine below_set ?_ GE595.out | refine below_set ?_ GE596.out) | exact HB.out))) : w.heap.size ≤ gb612)); have n5_ := Aside0.mk ((by rw [hg]; exact (below_size (by repeat (first | (with_reducible first | exact HB.out | apply below_alloc | apply pw_below_drewN | apply below_drew1 | refine below_set ?_ GE595.out | refine below_set ?_ GE596.out) | exact HB.out))) : w.heap.size ≤ gb612)); have n6_ := Aside0.mk ((by rw [hg]; exact Nat.ne_of_lt (blk_lt (g := gb595) (o := .cells #[.int .i64 t573, .int .i64 t574, .int .i64 t575, .int .i64 t576, .int .i64 t577, .int .i64 t578, .int .i64 t579, .int .i64 t580, .int .i64 t581, .int .i64 t582, .int .i64 t583] 23 (0, 0)) (by (with_reducible repeat (first | refine blk_drewN ?_ _ | refine blk_drew ?_ | refine blk_alloc ?_ _)); exact BK595.out)) : gb595 ≠ gb612)); have n7_ := Aside0.mk ((by rw [hg]; exact Nat.ne_of_gt (blk_lt (g := gb595) (o := .cells #[.int .i64 t573, .int .i64 t574, .int .i64 t575, .int .i64 t576, .int .i64 t577, .int .i64 t578, .int .i64 t579, .int .i64 t580, .int .i64 t581, .int .i64 t582, .int .i64 t583] 23 (0, 0)) (by (with_reducible repeat (first | refine blk_drewN ?_ _ | refine blk_drew ?_ | refine blk_alloc ?_ _)); exact BK595.out)) : gb612 ≠ gb595)); have n8_ := Aside0.mk ((by rw [hg]; exact Nat.ne_of_lt (blk_lt (g := gb596) (o := .cells #[.int .i64 t584, .int .i64 t585, .int .i64 t586, .int .i64 t587, .int .i64 t588, .int .i64 t589, .int .i64 t590, .int .i64 t591, .int .i64 t592, .int .i64 t593, .int .i64 t594] 23 (0, 0)) (by (with_reducible repeat (first | refine blk_drewN ?_ _ | refine blk_drew ?_ | refine blk_alloc ?_ _)); exact BK596.out)) : gb596 ≠ gb612)); have n9_ := Aside0.mk ((by rw [hg]; exact Nat.ne_of_gt (blk_lt (g := gb596) (o := .cells #[.int .i64 t584, .int .i64 t585, .int .i64 t586, .int .i64 t587, .int .i64 t588, .int .i64 t589, .int .i64 t590, .int .i64 t591, .int .i64 t592, .int .i64 t593, .int .i64 t594] 23 (0, 0)) (by (with_reducible repeat (first | refine blk_drewN ?_ _ | refine blk_drew ?_ | refine blk_alloc ?_ _)); exact BK596.out)) : gb612 ≠ gb596)); clear BK595; clear BK596; clear HB; have BK595 := n0_; have BK596 := n1_; have HB := n2_; have BK612 := n3_; have GW612 := n4_; have GE612 := n5_; have NB595_612 := n6_; have NB612_595 := n7_; have NB596_612 := n8_; have NB612_596 := n9_; clear n0_ n1_ n2_ n3_ n4_ n5_ n6_ n7_ n8_ n9_; clear hb hbox hg; have hnb49 := NB612_595.out; have hnc49 := NB595_612.out; have hnb50 := NB612_596.out; have hnc50 := NB596_612.out; have hcz51_0 : w48.cell? ⟨gb612, 0, none⟩ = some (.int .i64 0) := (blk_cell BK612.out 0).trans rfl; have hcz51_1 : w48.cell? ⟨gb612, 1, none⟩ = some (.int .i64 0) := (blk_cell BK612.out 1).trans rfl; have hcz51_2 : w48.cell? ⟨gb612, 2, none⟩ = some (.int .i64 0) := (blk_cell BK612.out 2).trans rfl; have hcz51_3 : w48.cell? ⟨gb612, 3, none⟩ = some (.int .i64 0) := (blk_cell BK612.out 3).trans rfl; have hcz51_4 : w48.cell? ⟨gb612, 4, none⟩ = some (.int .i64 0) := (blk_cell BK612.out 4).trans rfl; have hcz51_5 : w48.cell? ⟨gb612, 5, none⟩ = some (.int .i64 0) := (blk_cell BK612.out 5).trans rfl; have hcz51_6 : w48.cell? ⟨gb612, 6, none⟩ = some (.int .i64 0) := (blk_cell BK612.out 6).trans rfl; have hcz51_7 : w48.cell? ⟨gb612, 7, none⟩ = some (.int .i64 0) := (blk_cell BK612.out 7).trans rfl; have hcz51_8 : w48.cell? ⟨gb612, 8, none⟩ = some (.int .i64 0) := (blk_cell BK612.out 8).trans rfl; have hcz51_9 : w48.cell? ⟨gb612, 9, none⟩ = some (.int .i64 0) := (blk_cell BK612.out 9).trans rfl; have hcz51_10 : w48.cell? ⟨gb612, 10, none⟩ = some (.int .i64 0) := (blk_cell BK612.out 10).trans rfl; have hfz51_0 := blk_frozen BK612.out 0; have hfz51_1 := blk_frozen BK612.out 1; have hfz51_2 := blk_frozen BK612.out 2; have hfz51_3 := blk_frozen BK612.out 3; have hfz51_4 := blk_frozen BK612.out 4; have hfz51_5 := blk_frozen BK612.out 5; have hfz51_6 := blk_frozen BK612.out 6; have hfz51_7 := blk_frozen BK612.out 7; have hfz51_8 := blk_frozen BK612.out 8; have hfz51_9 := blk_frozen BK612.out 9; have hfz51_10 := blk_frozen BK612.out 10) | ((with_reducible refine gate_callee (f := 16) rfl ?_); refine goesL_ (some 43) rfl rfl Try.func16 (by kernel_rfl) rfl #[.int .i64 (-1)] rfl (by (try simp only [List.map_toArray, List.map_cons, List.map_nil]); first | done | rfl | (simp only [List.length_drop, List.length_take]; rfl)) ?_; (with_reducible refine (impl_OnlyPC.calls (-1) t613 t614 t615 t616 t617 t618 t619 t620 t621 t622 t623 _ A35.out).mono ?_); rintro e w52 ⟨rfl, hb⟩; refine ⟨_, rfl, ?_⟩; have n0_ := Aside0.mk (blk_below (g := gb595) (o := .cells #[.int .i64 t573, .int .i64 t574, .int .i64 t575, .int .i64 t576, .int .i64 t577, .int .i64 t578, .int .i64 t579, .int .i64 t580, .int .i64 t581, .int .i64 t582, .int .i64 t583] 23 (0, 0)) (by (with_reducible repeat (first | refine blk_drewN ?_ _ | refine blk_drew ?_ | refine blk_alloc ?_ _)); refine blk_far ?_ NB595_612.out _; (with_reducible repeat (first | refine blk_drewN ?_ _ | refine blk_drew ?_ | refine blk_alloc ?_ _)); refine blk_far ?_ NB595_612.out _; (with_reducible repeat (first | refine blk_drewN ?_ _ | refine blk_drew ?_ | refine blk_alloc ?_ _)); refine blk_far ?_ NB595_612.out _; (with_reducible repeat (first | refine blk_drewN ?_ _ | refine blk_drew ?_ | refine blk_alloc ?_ _)); refine blk_far ?_ NB595_612.out _; (with_reducible repeat (first | refine blk_drewN ?_ _ | refine blk_drew ?_ | refine blk_alloc ?_ _)); refine blk_far ?_ NB595_612.out _; (with_reducible repeat (first | refine blk_drewN ?_ _ | refine blk_drew ?_ | refine blk_alloc ?_ _)); refine blk_far ?_ NB595_612.out _; (with_reducible repeat (first | refine blk_drewN ?_ _ | refine blk_drew ?_ | refine blk_alloc ?_ _)); refine blk_far ?_ NB595_612.out _; (with_reducible repeat (first | refine blk_drewN ?_ _ | refine blk_drew ?_ | refine blk_alloc ?_ _)); refine blk_far ?_ NB595_612.out _; (with_reducible repeat (first | refine blk_drewN ?_ _ | refine blk_drew ?_ | refine blk_alloc ?_ _)); refine blk_far ?_ NB595_612.out _; (with_reducible repeat (first | refine blk_drewN ?_ _ | refine blk_drew ?_ | refine blk_alloc ?_ _)); refine blk_far ?_ NB595_612.out _; (with_reducible repeat (first | refine blk_drewN ?_ _ | refine blk_drew ?_ | refine blk_alloc ?_ _)); refine blk_far ?_ NB595_612.out _; (with_reducible repeat (first | refine blk_drewN ?_ _ | refine blk_drew ?_ | refine blk_alloc ?_ _)); exact BK595.out) hb); have n1_ := Aside0.mk (blk_below (g := gb596) (o := .cells #[.int .i64 t584, .int .i64 t585, .int .i64 t586, .int .i64 t587, .int .i64 t588, .int .i64 t589, .int .i64 t590, .int .i64 t591, .int .i64 t592, .int .i64 t593, .int .i64 t594] 23 (0, 0)) (by (with_reducible repeat (first | refine blk_drewN ?_ _ | refine blk_drew ?_ | refine blk_alloc ?_ _)); refine blk_far ?_ NB596_612.out _; (with_reducible repeat (first | refine blk_drewN ?_ _ | refine blk_drew ?_ | refine blk_alloc ?_ _)); refine blk_far ?_ NB596_612.out _; (with_reducible repeat (first | refine blk_drewN ?_ _ | refine blk_drew ?_ | refine blk_alloc ?_ _)); refine blk_far ?_ NB596_612.out _; (with_reducible repeat (first | refine blk_drewN ?_ _ | refine blk_drew ?_ | refine blk_alloc ?_ _)); refine blk_far ?_ NB596_612.out _; (with_reducible repeat (first | refine blk_drewN ?_ _ | refine blk_drew ?_ | refine blk_alloc ?_ _)); refine blk_far ?_ NB596_612.out _; (with_reducible repeat (first | refine blk_drewN ?_ _ | refine blk_drew ?_ | refine blk_alloc ?_ _)); refine blk_far ?_ NB596_612.out _; (with_reducible repeat (first | refine blk_drewN ?_ _ | refine blk_drew ?_ | refine blk_alloc ?_ _)); refine blk_far ?_ NB596_612.out _; (with_reducible repeat (first | refine blk_drewN ?_ _ | refine blk_drew ?_ | refine blk_alloc ?_ _)); refine blk_far ?_ NB596_612.out _; (with_reducible repeat (first | refine blk_drewN ?_ _ | refine blk_drew ?_ | refine blk_alloc ?_ _)); refine blk_far ?_ NB596_612.out _; (with_reducible repeat (first | refine blk_drewN ?_ _ | refine blk_drew ?_ | refine blk_alloc ?_ _)); refine blk_far ?_ NB596_612.out _; (with_reducible repeat (first | refine blk_drewN ?_ _ | refine blk_drew ?_ | refine blk_alloc ?_ _)); refine blk_far ?_ NB596_612.out _; (with_reducible repeat (first | refine blk_drewN ?_ _ | refine blk_drew ?_ | refine blk_alloc ?_ _)); exact BK596.out) hb); have n2_ := Aside0.mk (blk_below (g := gb612) (o := .cells #[.int .i64 t600, .int .i64 t601, .int .i64 t602, .int .i64 t603, .int .i64 t604, .int .i64 t605, .int .i64 t606, .int .i64 t607, .int .i64 t608, .int .i64 t609, .int .i64 t610] 23 (0, 0)) (by (with_reducible repeat (first | refine blk_drewN ?_ _ | refine blk_drew ?_ | refine blk_alloc ?_ _)); refine blk_put (cs := #[.int .i64 t600, .int .i64 t601, .int .i64 t602, .int .i64 t603, .int .i64 t604, .int .i64 t605, .int .i64 t606, .int .i64 t607, .int .i64 t608, .int .i64 t609, .int .i64 0]) ?_ 10 _ rfl; (with_reducible repeat (first | refine blk_drewN ?_ _ | refine blk_drew ?_ | refine blk_alloc ?_ _)); refine blk_put (cs := #[.int .i64 t600, .int .i64 t601, .int .i64 t602, .int .i64 t603, .int .i64 t604, .int .i64 t605, .int .i64 t606, .int .i64 t607, .int .i64 t608, .int .i64 0, .int .i64 0]) ?_ 9 _ rfl; (with_reducible repeat (first | refine blk_drewN ?_ _ | refine blk_drew ?_ | refine blk_alloc ?_ _)); refine blk_put (cs := #[.int .i64 t600, .int .i64 t601, .int .i64 t602, .int .i64 t603, .int .i64 t604, .int .i64 t605, .int .i64 t606, .int .i64 t607, .int .i64 0, .int .i64 0, .int .i64 0]) ?_ 8 _ rfl; (with_reducible repeat (first | refine blk_drewN ?_ _ | refine blk_drew ?_ | refine blk_alloc ?_ _)); refine blk_put (cs := #[.int .i64 t600, .int .i64 t601, .int .i64 t602, .int .i64 t603, .int .i64 t604, .int .i64 t605, .int .i64 t606, .int .i64 0, .int .i64 0, .int .i64 0, .int .i64 0]) ?_ 7 _ rfl; (with_reducible repeat (first | refine blk_drewN ?_ _ | refine blk_drew ?_ | refine blk_alloc ?_ _)); refine blk_put (cs := #[.int .i64 t600, .int .i64 t601, .int .i64 t602, .int .i64 t603, .int .i64 t604, .int .i64 t605, .int .i64 0, .int .i64 0, .int .i64 0, .int .i64 0, .int .i64 0]) ?_ 6 _ rfl; (with_reducible repeat (first | refine blk_drewN ?_ _ | refine blk_drew ?_ | refine blk_alloc ?_ _)); refine blk_put (cs := #[.int .i64 t600, .int .i64 t601, .int .i64 t602, .int .i64 t603, .int .i64 t604, .int .i64 0, .int .i64 0, .int .i64 0, .int .i64 0, .int .i64 0, .int .i64 0]) ?_ 5 _ rfl; (with_reducible repeat (first | refine blk_drewN ?_ _ | refine blk_drew ?_ | refine blk_alloc ?_ _)); refine blk_put (cs := #[.int .i64 t600, .int .i64 t601, .int .i64 t602, .int .i64 t603, .int .i64 0, .int .i64 0, .int .i64 0, .int .i64 0, .int .i64 0, .int .i64 0, .int .i64 0]) ?_ 4 _ rfl; (with_reducible repeat (first | refine blk_drewN ?_ _ | refine blk_drew ?_ | refine blk_alloc ?_ _)); refine blk_put (cs := #[.int .i64 t600, .int .i64 t601, .int .i64 t602, .int .i64 0, .int .i64 0, .int .i64 0, .int .i64 0, .int .i64 0, .int .i64 0, .int .i64 0, .int .i64 0]) ?_ 3 _ rfl; (with_reducible repeat (first | refine blk_drewN ?_ _ | refine blk_drew ?_ | refine blk_alloc ?_ _)); refine blk_put (cs := #[.int .i64 t600, .int .i64 t601, .int .i64 0, .int .i64 0, .int .i64 0, .int .i64 0, .int .i64 0, .int .i64 0, .int .i64 0, .int .i64 0, .int .i64 0]) ?_ 2 _ rfl; (with_reducible repeat (first | refine blk_drewN ?_ _ | refine blk_drew ?_ | refine blk_alloc ?_ _)); refine blk_put (cs := #[.int .i64 t600, .int .i64 0, .int .i64 0, .int .i64 0, .int .i64 0, .int .i64 0, .int .i64 0, .int .i64 0, .int .i64 0, .int .i64 0, .int .i64 0]) ?_ 1 _ rfl; (with_reducible repeat (first | refine blk_drewN ?_ _ | refine blk_drew ?_ | refine blk_alloc ?_ _)); refine blk_put (cs := #[.int .i64 0, .int .i64 0, .int .i64 0, .int .i64 0, .int .i64 0, .int .i64 0, .int .i64 0, .int .i64 0, .int .i64 0, .int .i64 0, .int .i64 0]) ?_ 0 _ rfl; (with_reducible repeat (first | refine blk_drewN ?_ _ | refine blk_drew ?_ | refine blk_alloc ?_ _)); exact BK612.out) hb); have n3_ := Aside0.mk (below_step (by repeat (first | (with_reducible first | exact HB.out | apply below_alloc | apply pw_below_drewN | apply below_drew1 | refine below_set ?_ GE595.out | refine below_set ?_ GE596.out | refine below_set ?_ GE612.out) | exact HB.out)) hb); clear BK595; clear BK596; clear BK612; clear HB; have BK595 := n0_; have BK596 := n1_; have BK612 := n2_; have HB := n3_; clear n0_ n1_ n2_ n3_; (try clear hb); (try clear hb2); (try clear hk); (try clear hi)) | ((with_reducible refine gate_dst (N := 8) rfl ?_); refine box_event ?hg (N := 8) ?hd (cs := #[.int .i64 0, .int .i64 0, .int .i64 0, .int .i64 0, .int .i64 0, .int .i64 0, .int .i64 0, .int .i64 0, .int .i64 0, .int .i64 0, .int .i64 0]) (t := 23) ?hr ?_; (case hd => rfl); (case hg => rfl); (case hr => first | (go_simp; done) | (go_simp; rfl)); intro gb624 hg w53 hbox hb; have n0_ := Aside0.mk (blk_below (g := gb595) (o := .cells #[.int .i64 t573, .int .i64 t574, .int .i64 t575, .int .i64 t576, .int .i64 t577, .int .i64 t578, .int .i64 t579, .int .i64 t580, .int .i64 t581, .int .i64 t582, .int .i64 t583] 23 (0, 0)) (by (with_reducible repeat (first | refine blk_drewN ?_ _ | refine blk_drew ?_ | refine blk_alloc ?_ _)); exact BK595.out) hb); have n1_ := Aside0.mk (blk_below (g := gb596) (o := .cells #[.int .i64 t584, .int .i64 t585, .int .i64 t586, .int .i64 t587, .int .i64 t588, .int .i64 t589, .int .i64 t590, .int .i64 t591, .int .i64 t592, .int .i64 t593, .int .i64 t594] 23 (0, 0)) (by (with_reducible repeat (first | refine blk_drewN ?_ _ | refine blk_drew ?_ | refine blk_alloc ?_ _)); exact BK596.out) hb); have n2_ := Aside0.mk (blk_below (g := gb612) (o := .cells #[.int .i64 t600, .int .i64 t601, .int .i64 t602, .int .i64 t603, .int .i64 t604, .int .i64 t605, .int .i64 t606, .int .i64 t607, .int .i64 t608, .int .i64 t609, .int .i64 t610] 23 (0, 0)) (by (with_reducible repeat (first | refine blk_drewN ?_ _ | refine blk_drew ?_ | refine blk_alloc ?_ _)); exact BK612.out) hb); have n3_ := Aside0.mk (below_step (by repeat (first | (with_reducible first | exact HB.out | apply below_alloc | apply pw_below_drewN | apply below_drew1 | refine below_set ?_ GE595.out | refine below_set ?_ GE596.out | refine below_set ?_ GE612.out) | exact HB.out)) hb); have n4_ := Aside0.mk (hbox); have n5_ := Aside0.mk ((by rw [hg]; exact (below_size (by repeat (first | (with_reducible first | exact HB.out | apply below_alloc | apply pw_below_drewN | apply below_drew1 | refine below_set ?_ GE595.out | refine below_set ?_ GE596.out | refine below_set ?_ GE612.out) | exact HB.out))) : w.heap.size ≤ gb624)); have n6_ := Aside0.mk ((by rw [hg]; exact (below_size (by repeat (first | (with_reducible first | exact HB.out | apply below_alloc | apply pw_below_drewN | apply below_drew1 | refine below_set ?_ GE595.out | refine below_set ?_ GE596.out | refine below_set ?_ GE612.out) | exact HB.out))) : w.heap.size ≤ gb624)); have n7_ := Aside0.mk ((by rw [hg]; exact Nat.ne_of_lt (blk_lt (g := gb595) (o := .cells #[.int .i64 t573, .int .i64 t574, .int .i64 t575, .int .i64 t576, .int .i64 t577, .int .i64 t578, .int .i64 t579, .int .i64 t580, .int .i64 t581, .int .i64 t582, .int .i64 t583] 23 (0, 0)) (by (with_reducible repeat (first | refine blk_drewN ?_ _ | refine blk_drew ?_ | refine blk_alloc ?_ _)); exact BK595.out)) : gb595 ≠ gb624)); have n8_ := Aside0.mk ((by rw [hg]; exact Nat.ne_of_gt (blk_lt (g := gb595) (o := .cells #[.int .i64 t573, .int .i64 t574, .int .i64 t575, .int .i64 t576, .int .i64 t577, .int .i64 t578, .int .i64 t579, .int .i64 t580, .int .i64 t581, .int .i64 t582, .int .i64 t583] 23 (0, 0)) (by (with_reducible repeat (first | refine blk_drewN ?_ _ | refine blk_drew ?_ | refine blk_alloc ?_ _)); exact BK595.out)) : gb624 ≠ gb595)); have n9_ := Aside0.mk ((by rw [hg]; exact Nat.ne_of_lt (blk_lt (g := gb596) (o := .cells #[.int .i64 t584, .int .i64 t585, .int .i64 t586, .int .i64 t587, .int .i64 t588, .int .i64 t589, .int .i64 t590, .int .i64 t591, .int .i64 t592, .int .i64 t593, .int .i64 t594] 23 (0, 0)) (by (with_reducible repeat (first | refine blk_drewN ?_ _ | refine blk_drew ?_ | refine blk_alloc ?_ _)); exact BK596.out)) : gb596 ≠ gb624)); have n10_ := Aside0.mk ((by rw [hg]; exact Nat.ne_of_gt (blk_lt (g := gb596) (o := .cells #[.int .i64 t584, .int .i64 t585, .int .i64 t586, .int .i64 t587, .int .i64 t588, .int .i64 t589, .int .i64 t590, .int .i64 t591, .int .i64 t592, .int .i64 t593, .int .i64 t594] 23 (0, 0)) (by (with_reducible repeat (first | refine blk_drewN ?_ _ | refine blk_drew ?_ | refine blk_alloc ?_ _)); exact BK596.out)) : gb624 ≠ gb596)); have n11_ := Aside0.mk ((by rw [hg]; exact Nat.ne_of_lt (blk_lt (g := gb612) (o := .cells #[.int .i64 t600, .int .i64 t601, .int .i64 t602, .int .i64 t603, .int .i64 t604, .int .i64 t605, .int .i64 t606, .int .i64 t607, .int .i64 t608, .int .i64 t609, .int .i64 t610] 23 (0, 0)) (by (with_reducible repeat (first | refine blk_drewN ?_ _ | refine blk_drew ?_ | refine blk_alloc ?_ _)); exact BK612.out)) : gb612 ≠ gb624)); have n12_ := Aside0.mk ((by rw [hg]; exact Nat.ne_of_gt (blk_lt (g := gb612) (o := .cells #[.int .i64 t600, .int .i64 t601, .int .i64 t602, .int .i64 t603, .int .i64 t604, .int .i64 t605, .int .i64 t606, .int .i64 t607, .int .i64 t608, .int .i64 t609, .int .i64 t610] 23 (0, 0)) (by (with_reducible repeat (first | refine blk_drewN ?_ _ | refine blk_drew ?_ | refine blk_alloc ?_ _)); exact BK612.out)) : gb624 ≠ gb612)); clear BK595; clear BK596; clear BK612; clear HB; have BK595 := n0_; have BK596 := n1_; have BK612 := n2_; have HB := n3_; have BK624 := n4_; have GW624 := n5_; have GE624 := n6_; have NB595_624 := n7_; have NB624_595 := n8_; have NB596_624 := n9_; have NB624_596 := n10_; have NB612_624 := n11_; have NB624_612 := n12_; clear n0_ n1_ n2_ n3_ n4_ n5_ n6_ n7_ n8_ n9_ n10_ n11_ n12_; clear hb hbox hg; have hnb54 := NB624_595.out; have hnc54 := NB595_624.out; have hnb55 := NB624_596.out; have hnc55 := NB596_624.out; have hnb56 := NB624_612.out; have hnc56 := NB612_624.out; have hcz57_0 : w53.cell? ⟨gb624, 0, none⟩ = some (.int .i64 0) := (blk_cell BK624.out 0).trans rfl; have hcz57_1 : w53.cell? ⟨gb624, 1, none⟩ = some (.int .i64 0) := (blk_cell BK624.out 1).trans rfl; have hcz57_2 : w53.cell? ⟨gb624, 2, none⟩ = some (.int .i64 0) := (blk_cell BK624.out 2).trans rfl; have hcz57_3 : w53.cell? ⟨gb624, 3, none⟩ = some (.int .i64 0) := (blk_cell BK624.out 3).trans rfl; have hcz57_4 : w53.cell? ⟨gb624, 4, none⟩ = some (.int .i64 0) := (blk_cell BK624.out 4).trans rfl; have hcz57_5 : w53.cell? ⟨gb624, 5, none⟩ = some (.int .i64 0) := (blk_cell BK624.out 5).trans rfl; have hcz57_6 : w53.cell? ⟨gb624, 6, none⟩ = some (.int .i64 0) := (blk_cell BK624.out 6).trans rfl; have hcz57_7 : w53.cell? ⟨gb624, 7, none⟩ = some (.int .i64 0) := (blk_cell BK624.out 7).trans rfl; have hcz57_8 : w53.cell? ⟨gb624, 8, none⟩ = some (.int .i64 0) := (blk_cell BK624.out 8).trans rfl; have hcz57_9 : w53.cell? ⟨gb624, 9, none⟩ = some (.int .i64 0) := (blk_cell BK624.out 9).trans rfl; have hcz57_10 : w53.cell? ⟨gb624, 10, none⟩ = some (.int .i64 0) := (blk_cell BK624.out 10).trans rfl; have hfz57_0 := blk_frozen BK624.out 0; have hfz57_1 := blk_frozen BK624.out 1; have hfz57_2 := blk_frozen BK624.out 2; have hfz57_3 := blk_frozen BK624.out 3; have hfz57_4 := blk_frozen BK624.out 4; have hfz57_5 := blk_frozen BK624.out 5; have hfz57_6 := blk_frozen BK624.out 6; have hfz57_7 := blk_frozen BK624.out 7; have hfz57_8 := blk_frozen BK624.out 8; have hfz57_9 := blk_frozen BK624.out 9; have hfz57_10 := blk_frozen BK624.out 10))
                      have n0_ : Aside0 ((((((((((((w53.setCell ⟨gb624, 0, none⟩ (.int .i64 t613)).setCell ⟨gb624, 1, none⟩ (.int .i64 t614)).setCell ⟨gb624, 2, none⟩ (.int .i64 t615)).setCell ⟨gb624, 3, none⟩ (.int .i64 t616)).setCell ⟨gb624, 4, none⟩ (.int .i64 t617)).setCell ⟨gb624, 5, none⟩ (.int .i64 t618)).setCell ⟨gb624, 6, none⟩ (.int .i64 t619)).setCell ⟨gb624, 7, none⟩ (.int .i64 t620)).setCell ⟨gb624, 8, none⟩ (.int .i64 t621)).setCell ⟨gb624, 9, none⟩ (.int .i64 t622)).setCell ⟨gb624, 10, none⟩ (.int .i64 t623)).heap[gb595]? = some (.cells #[.int .i64 t573, .int .i64 t574, .int .i64 t575, .int .i64 t576, .int .i64 t577, .int .i64 t578, .int .i64 t579, .int .i64 t580, .int .i64 t581, .int .i64 t582, .int .i64 t583] 23 (0, 0))) := ⟨by (with_reducible repeat (first | refine blk_drewN ?_ _ | refine blk_drew ?_ | refine blk_alloc ?_ _)); refine blk_far ?_ NB595_624.out _; (with_reducible repeat (first | refine blk_drewN ?_ _ | refine blk_drew ?_ | refine blk_alloc ?_ _)); refine blk_far ?_ NB595_624.out _; (with_reducible repeat (first | refine blk_drewN ?_ _ | refine blk_drew ?_ | refine blk_alloc ?_ _)); refine blk_far ?_ NB595_624.out _; (with_reducible repeat (first | refine blk_drewN ?_ _ | refine blk_drew ?_ | refine blk_alloc ?_ _)); refine blk_far ?_ NB595_624.out _; (with_reducible repeat (first | refine blk_drewN ?_ _ | refine blk_drew ?_ | refine blk_alloc ?_ _)); refine blk_far ?_ NB595_624.out _; (with_reducible repeat (first | refine blk_drewN ?_ _ | refine blk_drew ?_ | refine blk_alloc ?_ _)); refine blk_far ?_ NB595_624.out _; (with_reducible repeat (first | refine blk_drewN ?_ _ | refine blk_drew ?_ | refine blk_alloc ?_ _)); refine blk_far ?_ NB595_624.out _; (with_reducible repeat (first | refine blk_drewN ?_ _ | refine blk_drew ?_ | refine blk_alloc ?_ _)); refine blk_far ?_ NB595_624.out _; (with_reducible repeat (first | refine blk_drewN ?_ _ | refine blk_drew ?_ | refine blk_alloc ?_ _)); refine blk_far ?_ NB595_624.out _; (with_reducible repeat (first | refine blk_drewN ?_ _ | refine blk_drew ?_ | refine blk_alloc ?_ _)); refine blk_far ?_ NB595_624.out _; (with_reducible repeat (first | refine blk_drewN ?_ _ | refine blk_drew ?_ | refine blk_alloc ?_ _)); refine blk_far ?_ NB595_624.out _; (with_reducible repeat (first | refine blk_drewN ?_ _ | refine blk_drew ?_ | refine blk_alloc ?_ _)); exact BK595.out⟩
                      have n1_ : Aside0 ((((((((((((w53.setCell ⟨gb624, 0, none⟩ (.int .i64 t613)).setCell ⟨gb624, 1, none⟩ (.int .i64 t614)).setCell ⟨gb624, 2, none⟩ (.int .i64 t615)).setCell ⟨gb624, 3, none⟩ (.int .i64 t616)).setCell ⟨gb624, 4, none⟩ (.int .i64 t617)).setCell ⟨gb624, 5, none⟩ (.int .i64 t618)).setCell ⟨gb624, 6, none⟩ (.int .i64 t619)).setCell ⟨gb624, 7, none⟩ (.int .i64 t620)).setCell ⟨gb624, 8, none⟩ (.int .i64 t621)).setCell ⟨gb624, 9, none⟩ (.int .i64 t622)).setCell ⟨gb624, 10, none⟩ (.int .i64 t623)).heap[gb596]? = some (.cells #[.int .i64 t584, .int .i64 t585, .int .i64 t586, .int .i64 t587, .int .i64 t588, .int .i64 t589, .int .i64 t590, .int .i64 t591, .int .i64 t592, .int .i64 t593, .int .i64 t594] 23 (0, 0))) := ⟨by (with_reducible repeat (first | refine blk_drewN ?_ _ | refine blk_drew ?_ | refine blk_alloc ?_ _)); refine blk_far ?_ NB596_624.out _; (with_reducible repeat (first | refine blk_drewN ?_ _ | refine blk_drew ?_ | refine blk_alloc ?_ _)); refine blk_far ?_ NB596_624.out _; (with_reducible repeat (first | refine blk_drewN ?_ _ | refine blk_drew ?_ | refine blk_alloc ?_ _)); refine blk_far ?_ NB596_624.out _; (with_reducible repeat (first | refine blk_drewN ?_ _ | refine blk_drew ?_ | refine blk_alloc ?_ _)); refine blk_far ?_ NB596_624.out _; (with_reducible repeat (first | refine blk_drewN ?_ _ | refine blk_drew ?_ | refine blk_alloc ?_ _)); refine blk_far ?_ NB596_624.out _; (with_reducible repeat (first | refine blk_drewN ?_ _ | refine blk_drew ?_ | refine blk_alloc ?_ _)); refine blk_far ?_ NB596_624.out _; (with_reducible repeat (first | refine blk_drewN ?_ _ | refine blk_drew ?_ | refine blk_alloc ?_ _)); refine blk_far ?_ NB596_624.out _; (with_reducible repeat (first | refine blk_drewN ?_ _ | refine blk_drew ?_ | refine blk_alloc ?_ _)); refine blk_far ?_ NB596_624.out _; (with_reducible repeat (first | refine blk_drewN ?_ _ | refine blk_drew ?_ | refine blk_alloc ?_ _)); refine blk_far ?_ NB596_624.out _; (with_reducible repeat (first | refine blk_drewN ?_ _ | refine blk_drew ?_ | refine blk_alloc ?_ _)); refine blk_far ?_ NB596_624.out _; (with_reducible repeat (first | refine blk_drewN ?_ _ | refine blk_drew ?_ | refine blk_alloc ?_ _)); refine blk_far ?_ NB596_624.out _; (with_reducible repeat (first | refine blk_drewN ?_ _ | refine blk_drew ?_ | refine blk_alloc ?_ _)); exact BK596.out⟩
                      have n2_ : Aside0 ((((((((((((w53.setCell ⟨gb624, 0, none⟩ (.int .i64 t613)).setCell ⟨gb624, 1, none⟩ (.int .i64 t614)).setCell ⟨gb624, 2, none⟩ (.int .i64 t615)).setCell ⟨gb624, 3, none⟩ (.int .i64 t616)).setCell ⟨gb624, 4, none⟩ (.int .i64 t617)).setCell ⟨gb624, 5, none⟩ (.int .i64 t618)).setCell ⟨gb624, 6, none⟩ (.int .i64 t619)).setCell ⟨gb624, 7, none⟩ (.int .i64 t620)).setCell ⟨gb624, 8, none⟩ (.int .i64 t621)).setCell ⟨gb624, 9, none⟩ (.int .i64 t622)).setCell ⟨gb624, 10, none⟩ (.int .i64 t623)).heap[gb612]? = some (.cells #[.int .i64 t600, .int .i64 t601, .int .i64 t602, .int .i64 t603, .int .i64 t604, .int .i64 t605, .int .i64 t606, .int .i64 t607, .int .i64 t608, .int .i64 t609, .int .i64 t610] 23 (0, 0))) := ⟨by (with_reducible repeat (first | refine blk_drewN ?_ _ | refine blk_drew ?_ | refine blk_alloc ?_ _)); refine blk_far ?_ NB612_624.out _; (with_reducible repeat (first | refine blk_drewN ?_ _ | refine blk_drew ?_ | refine blk_alloc ?_ _)); refine blk_far ?_ NB612_624.out _; (with_reducible repeat (first | refine blk_drewN ?_ _ | refine blk_drew ?_ | refine blk_alloc ?_ _)); refine blk_far ?_ NB612_624.out _; (with_reducible repeat (first | refine blk_drewN ?_ _ | refine blk_drew ?_ | refine blk_alloc ?_ _)); refine blk_far ?_ NB612_624.out _; (with_reducible repeat (first | refine blk_drewN ?_ _ | refine blk_drew ?_ | refine blk_alloc ?_ _)); refine blk_far ?_ NB612_624.out _; (with_reducible repeat (first | refine blk_drewN ?_ _ | refine blk_drew ?_ | refine blk_alloc ?_ _)); refine blk_far ?_ NB612_624.out _; (with_reducible repeat (first | refine blk_drewN ?_ _ | refine blk_drew ?_ | refine blk_alloc ?_ _)); refine blk_far ?_ NB612_624.out _; (with_reducible repeat (first | refine blk_drewN ?_ _ | refine blk_drew ?_ | refine blk_alloc ?_ _)); refine blk_far ?_ NB612_624.out _; (with_reducible repeat (first | refine blk_drewN ?_ _ | refine blk_drew ?_ | refine blk_alloc ?_ _)); refine blk_far ?_ NB612_624.out _; (with_reducible repeat (first | refine blk_drewN ?_ _ | refine blk_drew ?_ | refine blk_alloc ?_ _)); refine blk_far ?_ NB612_624.out _; (with_reducible repeat (first | refine blk_drewN ?_ _ | refine blk_drew ?_ | refine blk_alloc ?_ _)); refine blk_far ?_ NB612_624.out _; (with_reducible repeat (first | refine blk_drewN ?_ _ | refine blk_drew ?_ | refine blk_alloc ?_ _)); exact BK612.out⟩
                      have n3_ : Aside0 ((((((((((((w53.setCell ⟨gb624, 0, none⟩ (.int .i64 t613)).setCell ⟨gb624, 1, none⟩ (.int .i64 t614)).setCell ⟨gb624, 2, none⟩ (.int .i64 t615)).setCell ⟨gb624, 3, none⟩ (.int .i64 t616)).setCell ⟨gb624, 4, none⟩ (.int .i64 t617)).setCell ⟨gb624, 5, none⟩ (.int .i64 t618)).setCell ⟨gb624, 6, none⟩ (.int .i64 t619)).setCell ⟨gb624, 7, none⟩ (.int .i64 t620)).setCell ⟨gb624, 8, none⟩ (.int .i64 t621)).setCell ⟨gb624, 9, none⟩ (.int .i64 t622)).setCell ⟨gb624, 10, none⟩ (.int .i64 t623)).heap[gb624]? = some (.cells #[.int .i64 t613, .int .i64 t614, .int .i64 t615, .int .i64 t616, .int .i64 t617, .int .i64 t618, .int .i64 t619, .int .i64 t620, .int .i64 t621, .int .i64 t622, .int .i64 t623] 23 (0, 0))) := ⟨by (with_reducible repeat (first | refine blk_drewN ?_ _ | refine blk_drew ?_ | refine blk_alloc ?_ _)); refine blk_put (cs := #[.int .i64 t613, .int .i64 t614, .int .i64 t615, .int .i64 t616, .int .i64 t617, .int .i64 t618, .int .i64 t619, .int .i64 t620, .int .i64 t621, .int .i64 t622, .int .i64 0]) ?_ 10 _ rfl; (with_reducible repeat (first | refine blk_drewN ?_ _ | refine blk_drew ?_ | refine blk_alloc ?_ _)); refine blk_put (cs := #[.int .i64 t613, .int .i64 t614, .int .i64 t615, .int .i64 t616, .int .i64 t617, .int .i64 t618, .int .i64 t619, .int .i64 t620, .int .i64 t621, .int .i64 0, .int .i64 0]) ?_ 9 _ rfl; (with_reducible repeat (first | refine blk_drewN ?_ _ | refine blk_drew ?_ | refine blk_alloc ?_ _)); refine blk_put (cs := #[.int .i64 t613, .int .i64 t614, .int .i64 t615, .int .i64 t616, .int .i64 t617, .int .i64 t618, .int .i64 t619, .int .i64 t620, .int .i64 0, .int .i64 0, .int .i64 0]) ?_ 8 _ rfl; (with_reducible repeat (first | refine blk_drewN ?_ _ | refine blk_drew ?_ | refine blk_alloc ?_ _)); refine blk_put (cs := #[.int .i64 t613, .int .i64 t614, .int .i64 t615, .int .i64 t616, .int .i64 t617, .int .i64 t618, .int .i64 t619, .int .i64 0, .int .i64 0, .int .i64 0, .int .i64 0]) ?_ 7 _ rfl; (with_reducible repeat (first | refine blk_drewN ?_ _ | refine blk_drew ?_ | refine blk_alloc ?_ _)); refine blk_put (cs := #[.int .i64 t613, .int .i64 t614, .int .i64 t615, .int .i64 t616, .int .i64 t617, .int .i64 t618, .int .i64 0, .int .i64 0, .int .i64 0, .int .i64 0, .int .i64 0]) ?_ 6 _ rfl; (with_reducible repeat (first | refine blk_drewN ?_ _ | refine blk_drew ?_ | refine blk_alloc ?_ _)); refine blk_put (cs := #[.int .i64 t613, .int .i64 t614, .int .i64 t615, .int .i64 t616, .int .i64 t617, .int .i64 0, .int .i64 0, .int .i64 0, .int .i64 0, .int .i64 0, .int .i64 0]) ?_ 5 _ rfl; (with_reducible repeat (first | refine blk_drewN ?_ _ | refine blk_drew ?_ | refine blk_alloc ?_ _)); refine blk_put (cs := #[.int .i64 t613, .int .i64 t614, .int .i64 t615, .int .i64 t616, .int .i64 0, .int .i64 0, .int .i64 0, .int .i64 0, .int .i64 0, .int .i64 0, .int .i64 0]) ?_ 4 _ rfl; (with_reducible repeat (first | refine blk_drewN ?_ _ | refine blk_drew ?_ | refine blk_alloc ?_ _)); refine blk_put (cs := #[.int .i64 t613, .int .i64 t614, .int .i64 t615, .int .i64 0, .int .i64 0, .int .i64 0, .int .i64 0, .int .i64 0, .int .i64 0, .int .i64 0, .int .i64 0]) ?_ 3 _ rfl; (with_reducible repeat (first | refine blk_drewN ?_ _ | refine blk_drew ?_ | refine blk_alloc ?_ _)); refine blk_put (cs := #[.int .i64 t613, .int .i64 t614, .int .i64 0, .int .i64 0, .int .i64 0, .int .i64 0, .int .i64 0, .int .i64 0, .int .i64 0, .int .i64 0, .int .i64 0]) ?_ 2 _ rfl; (with_reducible repeat (first | refine blk_drewN ?_ _ | refine blk_drew ?_ | refine blk_alloc ?_ _)); refine blk_put (cs := #[.int .i64 t613, .int .i64 0, .int .i64 0, .int .i64 0, .int .i64 0, .int .i64 0, .int .i64 0, .int .i64 0, .int .i64 0, .int .i64 0, .int .i64 0]) ?_ 1 _ rfl; (with_reducible repeat (first | refine blk_drewN ?_ _ | refine blk_drew ?_ | refine blk_alloc ?_ _)); refine blk_put (cs := #[.int .i64 0, .int .i64 0, .int .i64 0, .int .i64 0, .int .i64 0, .int .i64 0, .int .i64 0, .int .i64 0, .int .i64 0, .int .i64 0, .int .i64 0]) ?_ 0 _ rfl; (with_reducible repeat (first | refine blk_drewN ?_ _ | refine blk_drew ?_ | refine blk_alloc ?_ _)); exact BK624.out⟩
                      have n4_ : Aside0 (Below w.heap.size w (((((((((((w53.setCell ⟨gb624, 0, none⟩ (.int .i64 t613)).setCell ⟨gb624, 1, none⟩ (.int .i64 t614)).setCell ⟨gb624, 2, none⟩ (.int .i64 t615)).setCell ⟨gb624, 3, none⟩ (.int .i64 t616)).setCell ⟨gb624, 4, none⟩ (.int .i64 t617)).setCell ⟨gb624, 5, none⟩ (.int .i64 t618)).setCell ⟨gb624, 6, none⟩ (.int .i64 t619)).setCell ⟨gb624, 7, none⟩ (.int .i64 t620)).setCell ⟨gb624, 8, none⟩ (.int .i64 t621)).setCell ⟨gb624, 9, none⟩ (.int .i64 t622)).setCell ⟨gb624, 10, none⟩ (.int .i64 t623))) := ⟨by repeat (first | (with_reducible first | exact HB.out | apply below_alloc | apply pw_below_drewN | apply below_drew1 | refine below_set ?_ GE595.out | refine below_set ?_ GE596.out | refine below_set ?_ GE612.out | refine below_set ?_ GE624.out) | exact HB.out)⟩
                      (try clear BK595)
                      (try clear BK596)
                      (try clear BK612)
                      (try clear BK624)
                      (try clear HB)
                      generalize (((((((((((w53.setCell ⟨gb624, 0, none⟩ (.int .i64 t613)).setCell ⟨gb624, 1, none⟩ (.int .i64 t614)).setCell ⟨gb624, 2, none⟩ (.int .i64 t615)).setCell ⟨gb624, 3, none⟩ (.int .i64 t616)).setCell ⟨gb624, 4, none⟩ (.int .i64 t617)).setCell ⟨gb624, 5, none⟩ (.int .i64 t618)).setCell ⟨gb624, 6, none⟩ (.int .i64 t619)).setCell ⟨gb624, 7, none⟩ (.int .i64 t620)).setCell ⟨gb624, 8, none⟩ (.int .i64 t621)).setCell ⟨gb624, 9, none⟩ (.int .i64 t622)).setCell ⟨gb624, 10, none⟩ (.int .i64 t623)) = w58 at n0_ n1_ n2_ n3_ n4_ ⊢
                      have BK595 := n0_
                      have BK596 := n1_
                      have BK612 := n2_
                      have BK624 := n3_
                      have HB := n4_
                      clear n0_ n1_ n2_ n3_ n4_
                      have n0_ := Aside0.mk (blk_drew BK595.out)
                      have n1_ := Aside0.mk (blk_drew BK596.out)
                      have n2_ := Aside0.mk (blk_drew BK612.out)
                      have n3_ := Aside0.mk (blk_drew BK624.out)
                      have n4_ := Aside0.mk (below_drew1 HB.out)
                      clear BK595
                      clear BK596
                      clear BK612
                      clear BK624
                      clear HB
                      have BK595 := n0_
                      have BK596 := n1_
                      have BK612 := n2_
                      have BK624 := n3_
                      have HB := n4_
                      clear n0_ n1_ n2_ n3_ n4_
                      refine start_ (n := 24) (S := fun w' => w'.cell? ⟨gb612, 0, none⟩ = some (.int .i64 t600) ∧ w'.cell? ⟨gb612, 1, none⟩ = some (.int .i64 t601) ∧ w'.cell? ⟨gb612, 2, none⟩ = some (.int .i64 t602) ∧ w'.cell? ⟨gb612, 3, none⟩ = some (.int .i64 t603) ∧ w'.cell? ⟨gb612, 4, none⟩ = some (.int .i64 t604) ∧ w'.cell? ⟨gb612, 5, none⟩ = some (.int .i64 t605) ∧ w'.cell? ⟨gb612, 6, none⟩ = some (.int .i64 t606) ∧ w'.cell? ⟨gb612, 7, none⟩ = some (.int .i64 t607) ∧ w'.cell? ⟨gb612, 8, none⟩ = some (.int .i64 t608) ∧ w'.cell? ⟨gb612, 9, none⟩ = some (.int .i64 t609) ∧ w'.cell? ⟨gb612, 10, none⟩ = some (.int .i64 t610) ∧ w'.cell? ⟨gb596, 0, none⟩ = some (.int .i64 t584) ∧ w'.cell? ⟨gb596, 1, none⟩ = some (.int .i64 t585) ∧ w'.cell? ⟨gb596, 2, none⟩ = some (.int .i64 t586) ∧ w'.cell? ⟨gb596, 3, none⟩ = some (.int .i64 t587) ∧ w'.cell? ⟨gb596, 4, none⟩ = some (.int .i64 t588) ∧ w'.cell? ⟨gb596, 5, none⟩ = some (.int .i64 t589) ∧ w'.cell? ⟨gb596, 6, none⟩ = some (.int .i64 t590) ∧ w'.cell? ⟨gb596, 7, none⟩ = some (.int .i64 t591) ∧ w'.cell? ⟨gb596, 8, none⟩ = some (.int .i64 t592) ∧ w'.cell? ⟨gb596, 9, none⟩ = some (.int .i64 t593) ∧ w'.cell? ⟨gb596, 10, none⟩ = some (.int .i64 t594) ∧ w'.cell? ⟨gb624, 0, none⟩ = some (.int .i64 t613) ∧ w'.cell? ⟨gb624, 1, none⟩ = some (.int .i64 t614) ∧ w'.cell? ⟨gb624, 2, none⟩ = some (.int .i64 t615) ∧ w'.cell? ⟨gb624, 3, none⟩ = some (.int .i64 t616) ∧ w'.cell? ⟨gb624, 4, none⟩ = some (.int .i64 t617) ∧ w'.cell? ⟨gb624, 5, none⟩ = some (.int .i64 t618) ∧ w'.cell? ⟨gb624, 6, none⟩ = some (.int .i64 t619) ∧ w'.cell? ⟨gb624, 7, none⟩ = some (.int .i64 t620) ∧ w'.cell? ⟨gb624, 8, none⟩ = some (.int .i64 t621) ∧ w'.cell? ⟨gb624, 9, none⟩ = some (.int .i64 t622) ∧ w'.cell? ⟨gb624, 10, none⟩ = some (.int .i64 t623) ∧ w'.cell? ⟨gb595, 0, none⟩ = some (.int .i64 t573) ∧ w'.cell? ⟨gb595, 1, none⟩ = some (.int .i64 t574) ∧ w'.cell? ⟨gb595, 2, none⟩ = some (.int .i64 t575) ∧ w'.cell? ⟨gb595, 3, none⟩ = some (.int .i64 t576) ∧ w'.cell? ⟨gb595, 4, none⟩ = some (.int .i64 t577) ∧ w'.cell? ⟨gb595, 5, none⟩ = some (.int .i64 t578) ∧ w'.cell? ⟨gb595, 6, none⟩ = some (.int .i64 t579) ∧ w'.cell? ⟨gb595, 7, none⟩ = some (.int .i64 t580) ∧ w'.cell? ⟨gb595, 8, none⟩ = some (.int .i64 t581) ∧ w'.cell? ⟨gb595, 9, none⟩ = some (.int .i64 t582) ∧ w'.cell? ⟨gb595, 10, none⟩ = some (.int .i64 t583)) (ds := []) #[false, false, false, false, false, false, false, false, false, false, false, false, false, false, false, false, false, false, false, false, false, false, false, false] (by kernel_rfl) rfl rfl ⟨(blk_cell BK612.out 0).trans rfl, (blk_cell BK612.out 1).trans rfl, (blk_cell BK612.out 2).trans rfl, (blk_cell BK612.out 3).trans rfl, (blk_cell BK612.out 4).trans rfl, (blk_cell BK612.out 5).trans rfl, (blk_cell BK612.out 6).trans rfl, (blk_cell BK612.out 7).trans rfl, (blk_cell BK612.out 8).trans rfl, (blk_cell BK612.out 9).trans rfl, (blk_cell BK612.out 10).trans rfl, (blk_cell BK596.out 0).trans rfl, (blk_cell BK596.out 1).trans rfl, (blk_cell BK596.out 2).trans rfl, (blk_cell BK596.out 3).trans rfl, (blk_cell BK596.out 4).trans rfl, (blk_cell BK596.out 5).trans rfl, (blk_cell BK596.out 6).trans rfl, (blk_cell BK596.out 7).trans rfl, (blk_cell BK596.out 8).trans rfl, (blk_cell BK596.out 9).trans rfl, (blk_cell BK596.out 10).trans rfl, (blk_cell BK624.out 0).trans rfl, (blk_cell BK624.out 1).trans rfl, (blk_cell BK624.out 2).trans rfl, (blk_cell BK624.out 3).trans rfl, (blk_cell BK624.out 4).trans rfl, (blk_cell BK624.out 5).trans rfl, (blk_cell BK624.out 6).trans rfl, (blk_cell BK624.out 7).trans rfl, (blk_cell BK624.out 8).trans rfl, (blk_cell BK624.out 9).trans rfl, (blk_cell BK624.out 10).trans rfl, (blk_cell BK595.out 0).trans rfl, (blk_cell BK595.out 1).trans rfl, (blk_cell BK595.out 2).trans rfl, (blk_cell BK595.out 3).trans rfl, (blk_cell BK595.out 4).trans rfl, (blk_cell BK595.out 5).trans rfl, (blk_cell BK595.out 6).trans rfl, (blk_cell BK595.out 7).trans rfl, (blk_cell BK595.out 8).trans rfl, (blk_cell BK595.out 9).trans rfl, (blk_cell BK595.out 10).trans rfl⟩ (fun hHeld => ?_); refine with_tabW laws_FnLess.tab13 laws_FnLess.bits13 (fun HT_ HW_ => ?_)
                      generalize w58.drew = w59 at BK595 BK596 BK612 BK624 HB hHeld ⊢
                      refine pure_ (i := 0) (N := some 44) (v := ?_) (a' := ?_) #[true, false, false, false, false, false, false, false, false, false, false, false, false, false, false, false, false, false, false, false, false, false, false, false] rfl rfl (any_of HT_.out (by kernel_rfl)) (fun _ _ _ h => h) (Or.inl ⟨by rfl, ?_⟩) ?_ ?_
                      rotate_left
                      · intro w'
                        go_simp
                        with_reducible rfl
                      rotate_left
                      · simp only [Act.put, List.setIfInBounds_toArray, List.set_cons_zero, List.set_cons_succ, i64_w, i32_w]
                        rfl
                      refine pure_ (i := 1) (N := some 45) (v := ?_) (a' := ?_) #[true, true, false, false, false, false, false, false, false, false, false, false, false, false, false, false, false, false, false, false, false, false, false, false] rfl rfl (any_of HT_.out (by kernel_rfl)) (fun _ _ _ h => h) (Or.inl ⟨by rfl, ?_⟩) ?_ ?_
                      rotate_left
                      · intro w'
                        go_simp
                        with_reducible rfl
                      rotate_left
                      · simp only [Act.put, List.setIfInBounds_toArray, List.set_cons_zero, List.set_cons_succ, i64_w, i32_w]
                        rfl
                      refine take_ (i := 2) (N := some 46) (v := ?_) (a' := ?_) #[true, true, true, false, false, false, false, false, false, false, false, false, false, false, false, false, false, false, false, false, false, false, false, false] rfl rfl (take_ofW HT_.out HW_.out (by kernel_rfl)) (fun _ _ _ h => h) (Or.inl ⟨by rfl, ?_⟩) hHeld ?_ ?_
                      rotate_left
                      · rintro w' ⟨s0, s1, s2, s3, s4, s5, s6, s7, s8, s9, s10, s11, s12, s13, s14, s15, s16, s17, s18, s19, s20, s21, s22, s23, s24, s25, s26, s27, s28, s29, s30, s31, s32, s33, s34, s35, s36, s37, s38, s39, s40, s41, s42, s43⟩
                        go_simp
                        with_reducible rfl
                      rotate_left
                      · simp only [Act.put, List.setIfInBounds_toArray, List.set_cons_zero, List.set_cons_succ, i64_w, i32_w]
                        rfl
                      refine take_ (i := 3) (N := some 47) (v := ?_) (a' := ?_) #[true, true, true, true, false, false, false, false, false, false, false, false, false, false, false, false, false, false, false, false, false, false, false, false] rfl rfl (take_ofW HT_.out HW_.out (by kernel_rfl)) (fun _ _ _ h => h) (Or.inl ⟨by rfl, ?_⟩) hHeld ?_ ?_
                      rotate_left
                      · rintro w' ⟨s0, s1, s2, s3, s4, s5, s6, s7, s8, s9, s10, s11, s12, s13, s14, s15, s16, s17, s18, s19, s20, s21, s22, s23, s24, s25, s26, s27, s28, s29, s30, s31, s32, s33, s34, s35, s36, s37, s38, s39, s40, s41, s42, s43⟩
                        go_simp
                        with_reducible rfl
                      rotate_left
                      · simp only [Act.put, List.setIfInBounds_toArray, List.set_cons_zero, List.set_cons_succ, i64_w, i32_w]
                        rfl
                      refine pure_ (i := 4) (N := some 48) (v := ?_) (a' := ?_) #[true, true, true, true, true, false, false, false, false, false, false, false, false, false, false, false, false, false, false, false, false, false, false, false] rfl rfl (any_of HT_.out (by kernel_rfl)) (fun _ _ _ h => h) (Or.inl ⟨by rfl, ?_⟩) ?_ ?_
                      rotate_left
                      · intro w'
                        go_simp
                        with_reducible rfl
                      rotate_left
                      · simp only [Act.put, List.setIfInBounds_toArray, List.set_cons_zero, List.set_cons_succ, i64_w, i32_w]
                        rfl
                      refine pure_ (i := 5) (N := some 49) (v := ?_) (a' := ?_) #[true, true, true, true, true, true, false, false, false, false, false, false, false, false, false, false, false, false, false, false, false, false, false, false] rfl rfl (any_of HT_.out (by kernel_rfl)) (fun _ _ _ h => h) (Or.inl ⟨by rfl, ?_⟩) ?_ ?_
                      rotate_left
                      · intro w'
                        go_simp
                        with_reducible rfl
                      rotate_left
                      · simp only [Act.put, List.setIfInBounds_toArray, List.set_cons_zero, List.set_cons_succ, i64_w, i32_w]
                        rfl
                      refine pure_ (i := 6) (N := some 50) (v := ?_) (a' := ?_) #[true, true, true, true, true, true, true, false, false, false, false, false, false, false, false, false, false, false, false, false, false, false, false, false] rfl rfl (any_of HT_.out (by kernel_rfl)) (fun _ _ _ h => h) (Or.inl ⟨by rfl, ?_⟩) ?_ ?_
                      rotate_left
                      · intro w'
                        go_simp
                        with_reducible rfl
                      rotate_left
                      · simp only [Act.put, List.setIfInBounds_toArray, List.set_cons_zero, List.set_cons_succ, i64_w, i32_w]
                        rfl
                      refine take_ (i := 7) (N := some 51) (v := ?_) (a' := ?_) #[true, true, true, true, true, true, true, true, false, false, false, false, false, false, false, false, false, false, false, false, false, false, false, false] rfl rfl (take_ofW HT_.out HW_.out (by kernel_rfl)) (fun _ _ _ h => h) (Or.inl ⟨by rfl, ?_⟩) hHeld ?_ ?_
                      rotate_left
                      · rintro w' ⟨s0, s1, s2, s3, s4, s5, s6, s7, s8, s9, s10, s11, s12, s13, s14, s15, s16, s17, s18, s19, s20, s21, s22, s23, s24, s25, s26, s27, s28, s29, s30, s31, s32, s33, s34, s35, s36, s37, s38, s39, s40, s41, s42, s43⟩
                        go_simp
                        with_reducible rfl
                      rotate_left
                      · simp only [Act.put, List.setIfInBounds_toArray, List.set_cons_zero, List.set_cons_succ, i64_w, i32_w]
                        rfl
                      refine take_ (i := 8) (N := some 52) (v := ?_) (a' := ?_) #[true, true, true, true, true, true, true, true, true, false, false, false, false, false, false, false, false, false, false, false, false, false, false, false] rfl rfl (take_ofW HT_.out HW_.out (by kernel_rfl)) (fun _ _ _ h => h) (Or.inl ⟨by rfl, ?_⟩) hHeld ?_ ?_
                      rotate_left
                      · rintro w' ⟨s0, s1, s2, s3, s4, s5, s6, s7, s8, s9, s10, s11, s12, s13, s14, s15, s16, s17, s18, s19, s20, s21, s22, s23, s24, s25, s26, s27, s28, s29, s30, s31, s32, s33, s34, s35, s36, s37, s38, s39, s40, s41, s42, s43⟩
                        go_simp
                        with_reducible rfl
                      rotate_left
                      · simp only [Act.put, List.setIfInBounds_toArray, List.set_cons_zero, List.set_cons_succ, i64_w, i32_w]
                        rfl
                      refine one_ (i := 9) (N := some 53) #[true, true, true, true, true, true, true, true, true, true, false, false, false, false, false, false, false, false, false, false, false, false, false, false] rfl rfl (one_of HT_.out (by kernel_rfl)) (by decide) (fun K hK => ?_)
                      refine goes_ Try.func22 (by kernel_rfl) rfl #[.agg #[.int .i64 t613, .int .i64 t614, .int .i64 t615, .int .i64 t616, .int .i64 t617, .int .i64 t618, .int .i64 t619, .int .i64 t620, .int .i64 t621, .int .i64 t622, .int .i64 t623], .agg #[.int .i64 t573, .int .i64 t574, .int .i64 t575, .int .i64 t576, .int .i64 t577, .int .i64 t578, .int .i64 t579, .int .i64 t580, .int .i64 t581, .int .i64 t582, .int .i64 t583]] (by rfl) rfl rfl (by (try simp only [List.map_toArray, List.map_cons, List.map_nil]); first | done | rfl | (simp only [List.length_drop, List.length_take]; rfl)) ?_
                      with_reducible refine (impl_Less.calls t613 t614 t615 t616 t617 t618 t619 t620 t621 t622 t623 t573 t574 t575 t576 t577 t578 t579 t580 t581 t582 t583 true _ A38.out).mono ?_
                      rintro e w60 ⟨rfl, hb⟩
                      refine ⟨_, rfl, ?_⟩
                      have n0_ := Aside0.mk (blk_below (g := gb595) (o := .cells #[.int .i64 t573, .int .i64 t574, .int .i64 t575, .int .i64 t576, .int .i64 t577, .int .i64 t578, .int .i64 t579, .int .i64 t580, .int .i64 t581, .int .i64 t582, .int .i64 t583] 23 (0, 0)) (by (with_reducible repeat (first | refine blk_drewN ?_ _ | refine blk_drew ?_ | refine blk_alloc ?_ _)); exact BK595.out) hb)
                      have n1_ := Aside0.mk (blk_below (g := gb596) (o := .cells #[.int .i64 t584, .int .i64 t585, .int .i64 t586, .int .i64 t587, .int .i64 t588, .int .i64 t589, .int .i64 t590, .int .i64 t591, .int .i64 t592, .int .i64 t593, .int .i64 t594] 23 (0, 0)) (by (with_reducible repeat (first | refine blk_drewN ?_ _ | refine blk_drew ?_ | refine blk_alloc ?_ _)); exact BK596.out) hb)
                      have n2_ := Aside0.mk (blk_below (g := gb612) (o := .cells #[.int .i64 t600, .int .i64 t601, .int .i64 t602, .int .i64 t603, .int .i64 t604, .int .i64 t605, .int .i64 t606, .int .i64 t607, .int .i64 t608, .int .i64 t609, .int .i64 t610] 23 (0, 0)) (by (with_reducible repeat (first | refine blk_drewN ?_ _ | refine blk_drew ?_ | refine blk_alloc ?_ _)); exact BK612.out) hb)
                      have n3_ := Aside0.mk (blk_below (g := gb624) (o := .cells #[.int .i64 t613, .int .i64 t614, .int .i64 t615, .int .i64 t616, .int .i64 t617, .int .i64 t618, .int .i64 t619, .int .i64 t620, .int .i64 t621, .int .i64 t622, .int .i64 t623] 23 (0, 0)) (by (with_reducible repeat (first | refine blk_drewN ?_ _ | refine blk_drew ?_ | refine blk_alloc ?_ _)); exact BK624.out) hb)
                      have n4_ := Aside0.mk (below_step (by repeat (first | (with_reducible first | exact HB.out | apply below_alloc | apply pw_below_drewN | apply below_drew1 | refine below_set ?_ GE595.out | refine below_set ?_ GE596.out | refine below_set ?_ GE612.out | refine below_set ?_ GE624.out) | exact HB.out)) hb)
                      clear BK595
                      clear BK596
                      clear BK612
                      clear BK624
                      clear HB
                      have BK595 := n0_
                      have BK596 := n1_
                      have BK612 := n2_
                      have BK624 := n3_
                      have HB := n4_
                      clear n0_ n1_ n2_ n3_ n4_
                      (try clear hb)
                      (try clear hb2)
                      (try clear hk)
                      (try clear hi)
                      refine hK.out _ _ ⟨(blk_cell BK612.out 0).trans rfl, (blk_cell BK612.out 1).trans rfl, (blk_cell BK612.out 2).trans rfl, (blk_cell BK612.out 3).trans rfl, (blk_cell BK612.out 4).trans rfl, (blk_cell BK612.out 5).trans rfl, (blk_cell BK612.out 6).trans rfl, (blk_cell BK612.out 7).trans rfl, (blk_cell BK612.out 8).trans rfl, (blk_cell BK612.out 9).trans rfl, (blk_cell BK612.out 10).trans rfl, (blk_cell BK596.out 0).trans rfl, (blk_cell BK596.out 1).trans rfl, (blk_cell BK596.out 2).trans rfl, (blk_cell BK596.out 3).trans rfl, (blk_cell BK596.out 4).trans rfl, (blk_cell BK596.out 5).trans rfl, (blk_cell BK596.out 6).trans rfl, (blk_cell BK596.out 7).trans rfl, (blk_cell BK596.out 8).trans rfl, (blk_cell BK596.out 9).trans rfl, (blk_cell BK596.out 10).trans rfl, (blk_cell BK624.out 0).trans rfl, (blk_cell BK624.out 1).trans rfl, (blk_cell BK624.out 2).trans rfl, (blk_cell BK624.out 3).trans rfl, (blk_cell BK624.out 4).trans rfl, (blk_cell BK624.out 5).trans rfl, (blk_cell BK624.out 6).trans rfl, (blk_cell BK624.out 7).trans rfl, (blk_cell BK624.out 8).trans rfl, (blk_cell BK624.out 9).trans rfl, (blk_cell BK624.out 10).trans rfl, (blk_cell BK595.out 0).trans rfl, (blk_cell BK595.out 1).trans rfl, (blk_cell BK595.out 2).trans rfl, (blk_cell BK595.out 3).trans rfl, (blk_cell BK595.out 4).trans rfl, (blk_cell BK595.out 5).trans rfl, (blk_cell BK595.out 6).trans rfl, (blk_cell BK595.out 7).trans rfl, (blk_cell BK595.out 8).trans rfl, (blk_cell BK595.out 9).trans rfl, (blk_cell BK595.out 10).trans rfl⟩ (fun hHeld => ?_)
                      clear hK K
                      refine norm_ (a' := ?_) ?_ ?_
                      rotate_left
                      · show Act.put _ (some 53) _ = _
                        simp only [Act.put, List.setIfInBounds_toArray, List.set_cons_zero, List.set_cons_succ, i64_w, i32_w]
                        rfl
                      refine pure_ (i := 10) (N := some 54) (v := ?_) (a' := ?_) #[true, true, true, true, true, true, true, true, true, true, true, false, false, false, false, false, false, false, false, false, false, false, false, false] rfl rfl (any_of HT_.out (by kernel_rfl)) (fun _ _ _ h => h) (Or.inl ⟨by rfl, ?_⟩) ?_ ?_
                      rotate_left
                      · intro w'
                        go_simp
                        with_reducible rfl
                      rotate_left
                      · simp only [Act.put, List.setIfInBounds_toArray, List.set_cons_zero, List.set_cons_succ, i64_w, i32_w]
                        rfl
                      refine pure_ (i := 11) (N := some 55) (v := ?_) (a' := ?_) #[true, true, true, true, true, true, true, true, true, true, true, true, false, false, false, false, false, false, false, false, false, false, false, false] rfl rfl (any_of HT_.out (by kernel_rfl)) (fun _ _ _ h => h) (Or.inl ⟨by rfl, ?_⟩) ?_ ?_
                      rotate_left
                      · intro w'
                        go_simp
                        with_reducible rfl
                      rotate_left
                      · simp only [Act.put, List.setIfInBounds_toArray, List.set_cons_zero, List.set_cons_succ, i64_w, i32_w]
                        rfl
                      refine take_ (i := 12) (N := some 56) (v := ?_) (a' := ?_) #[true, true, true, true, true, true, true, true, true, true, true, true, true, false, false, false, false, false, false, false, false, false, false, false] rfl rfl (take_ofW HT_.out HW_.out (by kernel_rfl)) (fun _ _ _ h => h) (Or.inl ⟨by rfl, ?_⟩) hHeld ?_ ?_
                      rotate_left
                      · rintro w' ⟨s0, s1, s2, s3, s4, s5, s6, s7, s8, s9, s10, s11, s12, s13, s14, s15, s16, s17, s18, s19, s20, s21, s22, s23, s24, s25, s26, s27, s28, s29, s30, s31, s32, s33, s34, s35, s36, s37, s38, s39, s40, s41, s42, s43⟩
                        go_simp
                        with_reducible rfl
                      rotate_left
                      · simp only [Act.put, List.setIfInBounds_toArray, List.set_cons_zero, List.set_cons_succ, i64_w, i32_w]
                        rfl
                      refine one_ (i := 13) (N := some 57) #[true, true, true, true, true, true, true, true, true, true, true, true, true, true, false, false, false, false, false, false, false, false, false, false] rfl rfl (one_of HT_.out (by kernel_rfl)) (by decide) (fun K hK => ?_)
                      refine goes_ Try.func27 (by kernel_rfl) rfl #[.agg #[.int .i64 t613, .int .i64 t614, .int .i64 t615, .int .i64 t616, .int .i64 t617, .int .i64 t618, .int .i64 t619, .int .i64 t620, .int .i64 t621, .int .i64 t622, .int .i64 t623]] (by rfl) rfl rfl (by (try simp only [List.map_toArray, List.map_cons, List.map_nil]); first | done | rfl | (simp only [List.length_drop, List.length_take]; rfl)) ?_
                      with_reducible refine (impl_Known.calls t613 t614 t615 t616 t617 t618 t619 t620 t621 t622 t623 t626 _ A40.out).mono ?_
                      rintro e w61 ⟨rfl, hb⟩
                      refine ⟨_, rfl, ?_⟩
                      have n0_ := Aside0.mk (blk_below (g := gb595) (o := .cells #[.int .i64 t573, .int .i64 t574, .int .i64 t575, .int .i64 t576, .int .i64 t577, .int .i64 t578, .int .i64 t579, .int .i64 t580, .int .i64 t581, .int .i64 t582, .int .i64 t583] 23 (0, 0)) (by (with_reducible repeat (first | refine blk_drewN ?_ _ | refine blk_drew ?_ | refine blk_alloc ?_ _)); exact BK595.out) hb)
                      have n1_ := Aside0.mk (blk_below (g := gb596) (o := .cells #[.int .i64 t584, .int .i64 t585, .int .i64 t586, .int .i64 t587, .int .i64 t588, .int .i64 t589, .int .i64 t590, .int .i64 t591, .int .i64 t592, .int .i64 t593, .int .i64 t594] 23 (0, 0)) (by (with_reducible repeat (first | refine blk_drewN ?_ _ | refine blk_drew ?_ | refine blk_alloc ?_ _)); exact BK596.out) hb)
                      have n2_ := Aside0.mk (blk_below (g := gb612) (o := .cells #[.int .i64 t600, .int .i64 t601, .int .i64 t602, .int .i64 t603, .int .i64 t604, .int .i64 t605, .int .i64 t606, .int .i64 t607, .int .i64 t608, .int .i64 t609, .int .i64 t610] 23 (0, 0)) (by (with_reducible repeat (first | refine blk_drewN ?_ _ | refine blk_drew ?_ | refine blk_alloc ?_ _)); exact BK612.out) hb)
                      have n3_ := Aside0.mk (blk_below (g := gb624) (o := .cells #[.int .i64 t613, .int .i64 t614, .int .i64 t615, .int .i64 t616, .int .i64 t617, .int .i64 t618, .int .i64 t619, .int .i64 t620, .int .i64 t621, .int .i64 t622, .int .i64 t623] 23 (0, 0)) (by (with_reducible repeat (first | refine blk_drewN ?_ _ | refine blk_drew ?_ | refine blk_alloc ?_ _)); exact BK624.out) hb)
                      have n4_ := Aside0.mk (below_step (by repeat (first | (with_reducible first | exact HB.out | apply below_alloc | apply pw_below_drewN | apply below_drew1 | refine below_set ?_ GE595.out | refine below_set ?_ GE596.out | refine below_set ?_ GE612.out | refine below_set ?_ GE624.out) | exact HB.out)) hb)
                      clear BK595
                      clear BK596
                      clear BK612
                      clear BK624
                      clear HB
                      have BK595 := n0_
                      have BK596 := n1_
                      have BK612 := n2_
                      have BK624 := n3_
                      have HB := n4_
                      clear n0_ n1_ n2_ n3_ n4_
                      (try clear hb)
                      (try clear hb2)
                      (try clear hk)
                      (try clear hi)
                      refine hK.out _ _ ⟨(blk_cell BK612.out 0).trans rfl, (blk_cell BK612.out 1).trans rfl, (blk_cell BK612.out 2).trans rfl, (blk_cell BK612.out 3).trans rfl, (blk_cell BK612.out 4).trans rfl, (blk_cell BK612.out 5).trans rfl, (blk_cell BK612.out 6).trans rfl, (blk_cell BK612.out 7).trans rfl, (blk_cell BK612.out 8).trans rfl, (blk_cell BK612.out 9).trans rfl, (blk_cell BK612.out 10).trans rfl, (blk_cell BK596.out 0).trans rfl, (blk_cell BK596.out 1).trans rfl, (blk_cell BK596.out 2).trans rfl, (blk_cell BK596.out 3).trans rfl, (blk_cell BK596.out 4).trans rfl, (blk_cell BK596.out 5).trans rfl, (blk_cell BK596.out 6).trans rfl, (blk_cell BK596.out 7).trans rfl, (blk_cell BK596.out 8).trans rfl, (blk_cell BK596.out 9).trans rfl, (blk_cell BK596.out 10).trans rfl, (blk_cell BK624.out 0).trans rfl, (blk_cell BK624.out 1).trans rfl, (blk_cell BK624.out 2).trans rfl, (blk_cell BK624.out 3).trans rfl, (blk_cell BK624.out 4).trans rfl, (blk_cell BK624.out 5).trans rfl, (blk_cell BK624.out 6).trans rfl, (blk_cell BK624.out 7).trans rfl, (blk_cell BK624.out 8).trans rfl, (blk_cell BK624.out 9).trans rfl, (blk_cell BK624.out 10).trans rfl, (blk_cell BK595.out 0).trans rfl, (blk_cell BK595.out 1).trans rfl, (blk_cell BK595.out 2).trans rfl, (blk_cell BK595.out 3).trans rfl, (blk_cell BK595.out 4).trans rfl, (blk_cell BK595.out 5).trans rfl, (blk_cell BK595.out 6).trans rfl, (blk_cell BK595.out 7).trans rfl, (blk_cell BK595.out 8).trans rfl, (blk_cell BK595.out 9).trans rfl, (blk_cell BK595.out 10).trans rfl⟩ (fun hHeld => ?_)
                      clear hK K
                      refine norm_ (a' := ?_) ?_ ?_
                      rotate_left
                      · show Act.put _ (some 57) _ = _
                        simp only [Act.put, List.setIfInBounds_toArray, List.set_cons_zero, List.set_cons_succ, i64_w, i32_w]
                        rfl
                      refine pure_ (i := 14) (N := some 58) (v := ?_) (a' := ?_) #[true, true, true, true, true, true, true, true, true, true, true, true, true, true, true, false, false, false, false, false, false, false, false, false] rfl rfl (any_of HT_.out (by kernel_rfl)) (fun _ _ _ h => h) (Or.inl ⟨by rfl, ?_⟩) ?_ ?_
                      rotate_left
                      · intro w'
                        go_simp
                        with_reducible rfl
                      rotate_left
                      · simp only [Act.put, List.setIfInBounds_toArray, List.set_cons_zero, List.set_cons_succ, i64_w, i32_w]
                        rfl
                      refine pure_ (i := 15) (N := some 59) (v := ?_) (a' := ?_) #[true, true, true, true, true, true, true, true, true, true, true, true, true, true, true, true, false, false, false, false, false, false, false, false] rfl rfl (any_of HT_.out (by kernel_rfl)) (fun _ _ _ h => h) (Or.inl ⟨by rfl, ?_⟩) ?_ ?_
                      rotate_left
                      · intro w'
                        go_simp
                        with_reducible rfl
                      rotate_left
                      · simp only [Act.put, List.setIfInBounds_toArray, List.set_cons_zero, List.set_cons_succ, i64_w, i32_w]
                        rfl
                      refine pure_ (i := 16) (N := some 60) (v := ?_) (a' := ?_) #[true, true, true, true, true, true, true, true, true, true, true, true, true, true, true, true, true, false, false, false, false, false, false, false] rfl rfl (any_of HT_.out (by kernel_rfl)) (fun _ _ _ h => h) (Or.inl ⟨by rfl, ?_⟩) ?_ ?_
                      rotate_left
                      · intro w'
                        go_simp
                        with_reducible rfl
                      rotate_left
                      · simp only [Act.put, List.setIfInBounds_toArray, List.set_cons_zero, List.set_cons_succ, i64_w, i32_w]
                        rfl
                      refine take_ (i := 17) (N := some 61) (v := ?_) (a' := ?_) #[true, true, true, true, true, true, true, true, true, true, true, true, true, true, true, true, true, true, false, false, false, false, false, false] rfl rfl (take_ofW HT_.out HW_.out (by kernel_rfl)) (fun _ _ _ h => h) (Or.inl ⟨by rfl, ?_⟩) hHeld ?_ ?_
                      rotate_left
                      · rintro w' ⟨s0, s1, s2, s3, s4, s5, s6, s7, s8, s9, s10, s11, s12, s13, s14, s15, s16, s17, s18, s19, s20, s21, s22, s23, s24, s25, s26, s27, s28, s29, s30, s31, s32, s33, s34, s35, s36, s37, s38, s39, s40, s41, s42, s43⟩
                        go_simp
                        with_reducible rfl
                      rotate_left
                      · simp only [Act.put, List.setIfInBounds_toArray, List.set_cons_zero, List.set_cons_succ, i64_w, i32_w]
                        rfl
                      refine take_ (i := 19) (N := some 63) (v := ?_) (a' := ?_) #[true, true, true, true, true, true, true, true, true, true, true, true, true, true, true, true, true, true, false, true, false, false, false, false] rfl rfl (take_ofW HT_.out HW_.out (by kernel_rfl)) (fun _ _ _ h => h) (Or.inl ⟨by rfl, ?_⟩) hHeld ?_ ?_
                      rotate_left
                      · rintro w' ⟨s0, s1, s2, s3, s4, s5, s6, s7, s8, s9, s10, s11, s12, s13, s14, s15, s16, s17, s18, s19, s20, s21, s22, s23, s24, s25, s26, s27, s28, s29, s30, s31, s32, s33, s34, s35, s36, s37, s38, s39, s40, s41, s42, s43⟩
                        go_simp
                        with_reducible rfl
                      rotate_left
                      · simp only [Act.put, List.setIfInBounds_toArray, List.set_cons_zero, List.set_cons_succ, i64_w, i32_w]
                        rfl
                      refine one_ (i := 18) (N := some 62) #[true, true, true, true, true, true, true, true, true, true, true, true, true, true, true, true, true, true, true, true, false, false, false, false] rfl rfl (one_of HT_.out (by kernel_rfl)) (by decide) (fun K hK => ?_)
                      refine goes_ Try.func27 (by kernel_rfl) rfl #[.agg #[.int .i64 t573, .int .i64 t574, .int .i64 t575, .int .i64 t576, .int .i64 t577, .int .i64 t578, .int .i64 t579, .int .i64 t580, .int .i64 t581, .int .i64 t582, .int .i64 t583]] (by rfl) rfl rfl (by (try simp only [List.map_toArray, List.map_cons, List.map_nil]); first | done | rfl | (simp only [List.length_drop, List.length_take]; rfl)) ?_
                      with_reducible refine (impl_Known.calls t573 t574 t575 t576 t577 t578 t579 t580 t581 t582 t583 t627 _ A42.out).mono ?_
                      rintro e w62 ⟨rfl, hb⟩
                      refine ⟨_, rfl, ?_⟩
                      have n0_ := Aside0.mk (blk_below (g := gb595) (o := .cells #[.int .i64 t573, .int .i64 t574, .int .i64 t575, .int .i64 t576, .int .i64 t577, .int .i64 t578, .int .i64 t579, .int .i64 t580, .int .i64 t581, .int .i64 t582, .int .i64 t583] 23 (0, 0)) (by (with_reducible repeat (first | refine blk_drewN ?_ _ | refine blk_drew ?_ | refine blk_alloc ?_ _)); exact BK595.out) hb)
                      have n1_ := Aside0.mk (blk_below (g := gb596) (o := .cells #[.int .i64 t584, .int .i64 t585, .int .i64 t586, .int .i64 t587, .int .i64 t588, .int .i64 t589, .int .i64 t590, .int .i64 t591, .int .i64 t592, .int .i64 t593, .int .i64 t594] 23 (0, 0)) (by (with_reducible repeat (first | refine blk_drewN ?_ _ | refine blk_drew ?_ | refine blk_alloc ?_ _)); exact BK596.out) hb)
                      have n2_ := Aside0.mk (blk_below (g := gb612) (o := .cells #[.int .i64 t600, .int .i64 t601, .int .i64 t602, .int .i64 t603, .int .i64 t604, .int .i64 t605, .int .i64 t606, .int .i64 t607, .int .i64 t608, .int .i64 t609, .int .i64 t610] 23 (0, 0)) (by (with_reducible repeat (first | refine blk_drewN ?_ _ | refine blk_drew ?_ | refine blk_alloc ?_ _)); exact BK612.out) hb)
                      have n3_ := Aside0.mk (blk_below (g := gb624) (o := .cells #[.int .i64 t613, .int .i64 t614, .int .i64 t615, .int .i64 t616, .int .i64 t617, .int .i64 t618, .int .i64 t619, .int .i64 t620, .int .i64 t621, .int .i64 t622, .int .i64 t623] 23 (0, 0)) (by (with_reducible repeat (first | refine blk_drewN ?_ _ | refine blk_drew ?_ | refine blk_alloc ?_ _)); exact BK624.out) hb)
                      have n4_ := Aside0.mk (below_step (by repeat (first | (with_reducible first | exact HB.out | apply below_alloc | apply pw_below_drewN | apply below_drew1 | refine below_set ?_ GE595.out | refine below_set ?_ GE596.out | refine below_set ?_ GE612.out | refine below_set ?_ GE624.out) | exact HB.out)) hb)
                      clear BK595
                      clear BK596
                      clear BK612
                      clear BK624
                      clear HB
                      have BK595 := n0_
                      have BK596 := n1_
                      have BK612 := n2_
                      have BK624 := n3_
                      have HB := n4_
                      clear n0_ n1_ n2_ n3_ n4_
                      (try clear hb)
                      (try clear hb2)
                      (try clear hk)
                      (try clear hi)
                      refine hK.out _ _ ⟨(blk_cell BK612.out 0).trans rfl, (blk_cell BK612.out 1).trans rfl, (blk_cell BK612.out 2).trans rfl, (blk_cell BK612.out 3).trans rfl, (blk_cell BK612.out 4).trans rfl, (blk_cell BK612.out 5).trans rfl, (blk_cell BK612.out 6).trans rfl, (blk_cell BK612.out 7).trans rfl, (blk_cell BK612.out 8).trans rfl, (blk_cell BK612.out 9).trans rfl, (blk_cell BK612.out 10).trans rfl, (blk_cell BK596.out 0).trans rfl, (blk_cell BK596.out 1).trans rfl, (blk_cell BK596.out 2).trans rfl, (blk_cell BK596.out 3).trans rfl, (blk_cell BK596.out 4).trans rfl, (blk_cell BK596.out 5).trans rfl, (blk_cell BK596.out 6).trans rfl, (blk_cell BK596.out 7).trans rfl, (blk_cell BK596.out 8).trans rfl, (blk_cell BK596.out 9).trans rfl, (blk_cell BK596.out 10).trans rfl, (blk_cell BK624.out 0).trans rfl, (blk_cell BK624.out 1).trans rfl, (blk_cell BK624.out 2).trans rfl, (blk_cell BK624.out 3).trans rfl, (blk_cell BK624.out 4).trans rfl, (blk_cell BK624.out 5).trans rfl, (blk_cell BK624.out 6).trans rfl, (blk_cell BK624.out 7).trans rfl, (blk_cell BK624.out 8).trans rfl, (blk_cell BK624.out 9).trans rfl, (blk_cell BK624.out 10).trans rfl, (blk_cell BK595.out 0).trans rfl, (blk_cell BK595.out 1).trans rfl, (blk_cell BK595.out 2).trans rfl, (blk_cell BK595.out 3).trans rfl, (blk_cell BK595.out 4).trans rfl, (blk_cell BK595.out 5).trans rfl, (blk_cell BK595.out 6).trans rfl, (blk_cell BK595.out 7).trans rfl, (blk_cell BK595.out 8).trans rfl, (blk_cell BK595.out 9).trans rfl, (blk_cell BK595.out 10).trans rfl⟩ (fun hHeld => ?_)
                      clear hK K
                      refine norm_ (a' := ?_) ?_ ?_
                      rotate_left
                      · show Act.put _ (some 62) _ = _
                        simp only [Act.put, List.setIfInBounds_toArray, List.set_cons_zero, List.set_cons_succ, i64_w, i32_w]
                        rfl
                      refine one_ (i := 20) (N := some 64) #[true, true, true, true, true, true, true, true, true, true, true, true, true, true, true, true, true, true, true, true, true, false, false, false] rfl rfl (one_of HT_.out (by kernel_rfl)) (by decide) (fun K hK => ?_)
                      refine goes_ Try.func27 (by kernel_rfl) rfl #[.agg #[.int .i64 t584, .int .i64 t585, .int .i64 t586, .int .i64 t587, .int .i64 t588, .int .i64 t589, .int .i64 t590, .int .i64 t591, .int .i64 t592, .int .i64 t593, .int .i64 t594]] (by rfl) rfl rfl (by (try simp only [List.map_toArray, List.map_cons, List.map_nil]); first | done | rfl | (simp only [List.length_drop, List.length_take]; rfl)) ?_
                      with_reducible refine (impl_Known.calls t584 t585 t586 t587 t588 t589 t590 t591 t592 t593 t594 t628 _ A43.out).mono ?_
                      rintro e w63 ⟨rfl, hb⟩
                      refine ⟨_, rfl, ?_⟩
                      have n0_ := Aside0.mk (blk_below (g := gb595) (o := .cells #[.int .i64 t573, .int .i64 t574, .int .i64 t575, .int .i64 t576, .int .i64 t577, .int .i64 t578, .int .i64 t579, .int .i64 t580, .int .i64 t581, .int .i64 t582, .int .i64 t583] 23 (0, 0)) (by (with_reducible repeat (first | refine blk_drewN ?_ _ | refine blk_drew ?_ | refine blk_alloc ?_ _)); exact BK595.out) hb)
                      have n1_ := Aside0.mk (blk_below (g := gb596) (o := .cells #[.int .i64 t584, .int .i64 t585, .int .i64 t586, .int .i64 t587, .int .i64 t588, .int .i64 t589, .int .i64 t590, .int .i64 t591, .int .i64 t592, .int .i64 t593, .int .i64 t594] 23 (0, 0)) (by (with_reducible repeat (first | refine blk_drewN ?_ _ | refine blk_drew ?_ | refine blk_alloc ?_ _)); exact BK596.out) hb)
                      have n2_ := Aside0.mk (blk_below (g := gb612) (o := .cells #[.int .i64 t600, .int .i64 t601, .int .i64 t602, .int .i64 t603, .int .i64 t604, .int .i64 t605, .int .i64 t606, .int .i64 t607, .int .i64 t608, .int .i64 t609, .int .i64 t610] 23 (0, 0)) (by (with_reducible repeat (first | refine blk_drewN ?_ _ | refine blk_drew ?_ | refine blk_alloc ?_ _)); exact BK612.out) hb)
                      have n3_ := Aside0.mk (blk_below (g := gb624) (o := .cells #[.int .i64 t613, .int .i64 t614, .int .i64 t615, .int .i64 t616, .int .i64 t617, .int .i64 t618, .int .i64 t619, .int .i64 t620, .int .i64 t621, .int .i64 t622, .int .i64 t623] 23 (0, 0)) (by (with_reducible repeat (first | refine blk_drewN ?_ _ | refine blk_drew ?_ | refine blk_alloc ?_ _)); exact BK624.out) hb)
                      have n4_ := Aside0.mk (below_step (by repeat (first | (with_reducible first | exact HB.out | apply below_alloc | apply pw_below_drewN | apply below_drew1 | refine below_set ?_ GE595.out | refine below_set ?_ GE596.out | refine below_set ?_ GE612.out | refine below_set ?_ GE624.out) | exact HB.out)) hb)
                      clear BK595
                      clear BK596
                      clear BK612
                      clear BK624
                      clear HB
                      have BK595 := n0_
                      have BK596 := n1_
                      have BK612 := n2_
                      have BK624 := n3_
                      have HB := n4_
                      clear n0_ n1_ n2_ n3_ n4_
                      (try clear hb)
                      (try clear hb2)
                      (try clear hk)
                      (try clear hi)
                      refine hK.out _ _ ⟨(blk_cell BK612.out 0).trans rfl, (blk_cell BK612.out 1).trans rfl, (blk_cell BK612.out 2).trans rfl, (blk_cell BK612.out 3).trans rfl, (blk_cell BK612.out 4).trans rfl, (blk_cell BK612.out 5).trans rfl, (blk_cell BK612.out 6).trans rfl, (blk_cell BK612.out 7).trans rfl, (blk_cell BK612.out 8).trans rfl, (blk_cell BK612.out 9).trans rfl, (blk_cell BK612.out 10).trans rfl, (blk_cell BK596.out 0).trans rfl, (blk_cell BK596.out 1).trans rfl, (blk_cell BK596.out 2).trans rfl, (blk_cell BK596.out 3).trans rfl, (blk_cell BK596.out 4).trans rfl, (blk_cell BK596.out 5).trans rfl, (blk_cell BK596.out 6).trans rfl, (blk_cell BK596.out 7).trans rfl, (blk_cell BK596.out 8).trans rfl, (blk_cell BK596.out 9).trans rfl, (blk_cell BK596.out 10).trans rfl, (blk_cell BK624.out 0).trans rfl, (blk_cell BK624.out 1).trans rfl, (blk_cell BK624.out 2).trans rfl, (blk_cell BK624.out 3).trans rfl, (blk_cell BK624.out 4).trans rfl, (blk_cell BK624.out 5).trans rfl, (blk_cell BK624.out 6).trans rfl, (blk_cell BK624.out 7).trans rfl, (blk_cell BK624.out 8).trans rfl, (blk_cell BK624.out 9).trans rfl, (blk_cell BK624.out 10).trans rfl, (blk_cell BK595.out 0).trans rfl, (blk_cell BK595.out 1).trans rfl, (blk_cell BK595.out 2).trans rfl, (blk_cell BK595.out 3).trans rfl, (blk_cell BK595.out 4).trans rfl, (blk_cell BK595.out 5).trans rfl, (blk_cell BK595.out 6).trans rfl, (blk_cell BK595.out 7).trans rfl, (blk_cell BK595.out 8).trans rfl, (blk_cell BK595.out 9).trans rfl, (blk_cell BK595.out 10).trans rfl⟩ (fun hHeld => ?_)
                      clear hK K
                      refine norm_ (a' := ?_) ?_ ?_
                      rotate_left
                      · show Act.put _ (some 64) _ = _
                        simp only [Act.put, List.setIfInBounds_toArray, List.set_cons_zero, List.set_cons_succ, i64_w, i32_w]
                        rfl
                      refine pure_ (i := 21) (N := some 65) (v := ?_) (a' := ?_) #[true, true, true, true, true, true, true, true, true, true, true, true, true, true, true, true, true, true, true, true, true, true, false, false] rfl rfl (any_of HT_.out (by kernel_rfl)) (fun _ _ _ h => h) (Or.inl ⟨by rfl, ?_⟩) ?_ ?_
                      rotate_left
                      · intro w'
                        go_simp
                        with_reducible rfl
                      rotate_left
                      · simp only [Act.put, List.setIfInBounds_toArray, List.set_cons_zero, List.set_cons_succ, i64_w, i32_w]
                        rfl
                      refine pure_ (i := 22) (N := some 66) (v := ?_) (a' := ?_) #[true, true, true, true, true, true, true, true, true, true, true, true, true, true, true, true, true, true, true, true, true, true, true, false] rfl rfl (any_of HT_.out (by kernel_rfl)) (fun _ _ _ h => h) (Or.inl ⟨by rfl, ?_⟩) ?_ ?_
                      rotate_left
                      · intro w'
                        go_simp
                        with_reducible rfl
                      rotate_left
                      · simp only [Act.put, List.setIfInBounds_toArray, List.set_cons_zero, List.set_cons_succ, i64_w, i32_w]
                        rfl
                      refine pure_ (i := 23) (N := some 2) (v := ?_) (a' := ?_) #[true, true, true, true, true, true, true, true, true, true, true, true, true, true, true, true, true, true, true, true, true, true, true, true] rfl rfl (any_of HT_.out (by kernel_rfl)) (fun _ _ _ h => h) (Or.inl ⟨by rfl, ?_⟩) ?_ ?_
                      rotate_left
                      · intro w'
                        go_simp
                        with_reducible rfl
                      rotate_left
                      · simp only [Act.put, List.setIfInBounds_toArray, List.set_cons_zero, List.set_cons_succ, i64_w, i32_w]
                        rfl
                      refine done_ (done_of HT_.out (by kernel_rfl)) ?_
                      try go_wp2
                      go_ret
                      exact ⟨by first | rfl | (simp [errW_none, errW_some] <;> rfl) | (simp [*, errW_none, errW_some] <;> rfl), by repeat (first | (with_reducible first | exact HB.out | apply below_alloc | apply pw_below_drewN | apply below_drew1 | refine below_set ?_ GE595.out | refine below_set ?_ GE596.out | refine below_set ?_ GE612.out | refine below_set ?_ GE624.out) | exact HB.out)⟩
                    · rw [if_neg c41] at H
                      have c41b0 : (t626 == 0) = false := beq_eq_false_iff_ne.mpr c41
                      have c41b1 : (t626 != 0) = true := bne_iff_ne.mpr c41
                      exact absurd ((Option.some.inj H).trans hrt_.out) (by decide)
                  · replace c39 := Bool.eq_false_iff.mpr c39
                    subst c39
                    have H1 : (some false) = some r := by rw [if_neg (show ¬ (false = true) by decide)] at H; exact H
                    clear H
                    have H := H1
                    clear H1
                    exact absurd ((Option.some.inj H).trans hrt_.out) (by decide)
                · rw [if_neg c37] at H
                  have c37b0 : (t600 == t584 && (t601 == t585 && (t602 == t586 && (t603 == t587 && (t604 == t588 && (t605 == t589 && (t606 == t590 && (t607 == t591 && (t608 == t592 && (t609 == t593 && (t610 == t594))))))))))) = false := by simpa using c37
                  (try (have c37b1 : decide (t600 = t584 && (t601 == t585 && (t602 == t586 && (t603 == t587 && (t604 == t588 && (t605 == t589 && (t606 == t590 && (t607 == t591 && (t608 == t592 && (t609 == t593 && (t610 == t594))))))))))) = false := by simpa using c37))
                  (try (have c37b2 : (t600 == t584 && (t601 == t585 && (t602 == t586 && (t603 == t587 && (t604 == t588 && (t605 == t589 && (t606 == t590 && (t607 == t591 && (t608 == t592 && (t609 == t593 && (t610 == t594))))))))))) = false := by simpa using c37))
                  (try (have c37b3 : ¬ (t600 = t584 && (t601 == t585 && (t602 == t586 && (t603 == t587 && (t604 == t588 && (t605 == t589 && (t606 == t590 && (t607 == t591 && (t608 == t592 && (t609 == t593 && (t610 == t594))))))))))) := by simpa using c37))
                  clear c37
                  exact absurd ((Option.some.inj H).trans hrt_.out) (by decide)
              · replace c36 := Bool.eq_false_iff.mpr c36
                subst c36
                have H1 : (some false) = some r := by rw [if_neg (show ¬ (false = true) by decide)] at H; exact H
                clear H
                have H := H1
                clear H1
                exact absurd ((Option.some.inj H).trans hrt_.out) (by decide)
            · replace c33 := Bool.eq_false_iff.mpr c33
              subst c33
              have H1 : (some true) = some r := by rw [if_neg (show ¬ (false = true) by decide)] at H; exact H
              clear H
              have H := H1
              clear H1
              obtain rfl := Option.some.inj H
              go_wp2
              go_ret
              exact ⟨by first | rfl | (simp [errW_none, errW_some] <;> rfl) | (simp [*, errW_none, errW_some] <;> rfl), by repeat (first | (with_reducible first | exact HB.out | apply below_alloc | apply pw_below_drewN | apply below_drew1 | refine below_set ?_ GE595.out | refine below_set ?_ GE596.out) | exact HB.out)⟩
def laws_FnLess.Pure : Prop := ∀ (l0 : List Int), l0.length ≤ maxLen → l0.length * 1 ≤ 140737488351232 → (∀ x ∈ l0, (Lit.int .u8 x).wf = true) → ∃ k, laws_FnLess.f k l0 = some true
theorem laws_FnLess.walk (P : laws_FnLess.Pure) (a0 : Option Addr) (len0 cap0 : Nat) (z0 : List Int) (w : World) (w0 : (a0 = none ∧ len0 = 0 ∧ cap0 = 0 ∧ z0 = []) ∨ ∃ x, a0 = some x ∧ len0 ≤ cap0 ∧ cap0 ≤ maxLen ∧ z0.length = cap0 ∧ (∀ i, i < z0.length → w.cell? (x.add i) = some (.int .u8 (z0.getD i 0))) ∧ ∀ n ∈ z0, (Lit.int .u8 n).wf = true) (y0 : len0 * 1 ≤ 140737488351232) :
    Calls Try.prog 12 #[.slice a0 len0 cap0] w fun e w' => e = .returned (.bool true) ∧ Below w.heap.size w w' := by
  obtain ⟨l0, rfl, hr0, hm0, hw0, hc0⟩ := ReadsInt.ofRowC w0
  obtain ⟨k, h⟩ := P l0 hm0 y0 hw0
  refine (laws_FnLess.calls k _ _ l0 true ⟨rfl⟩ w (Kd.C_of_reads (d := (0 : Int)) (h1 := fun _ => rfl) hr0) hc0 h).mono ?_
  rintro e w' ⟨rfl, hd⟩
  exact ⟨rfl, hd⟩
end Go.Proofs.Ytecccbecflbcfaa.PDuo
