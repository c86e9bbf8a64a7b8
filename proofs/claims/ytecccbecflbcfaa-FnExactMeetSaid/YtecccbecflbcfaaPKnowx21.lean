/- Functions of the program as plain Lean functions, each with a proof that the machine's call comes to it; written for this seat's claims by a program of mine. -/
import Derived.Test.YtecccbecflbcfaaPKnowx0
import Derived.Test.YtecccbecflbcfaaPKnowx4
import Derived.Test.YtecccbecflbcfaaPKnowx19
import Derived.Test.YtecccbecflbcfaaPKnowx20
import Derived.Test.YtecccbecflbcfaaMyKnowMeet
namespace Go.Proofs.Ytecccbecflbcfaa.PKnow
open Go.RowKit Go.Proofs.YtecccbecflbcfaaW.PrintWords Go.Proofs.YtecccbecflbcfaaW.PrintLast Go.Proofs.YtecccbecflbcfaaW.PrintMore
attribute [local go_sem] max2_int min2_int max_two min_two max_three min_three max_four min_four   -- for this text's walks alone
attribute [local go_sem] Go.Proofs.Ytecccbecflbcfaa.Cell2.cell_set_off Go.Proofs.Ytecccbecflbcfaa.Cell2.set_drewN Go.Proofs.Ytecccbecflbcfaa.Cell2.not_beq_bool
set_option linter.unusedVariables false
set_option linter.unusedSimpArgs false

/-! ### laws_FnExactMeet: function 9 -/
def laws_FnExactMeet.f (k : Nat) (a0_0 : Int) (a0_1 : Int) (a0_2 : Int) (a0_3 : Int) (a0_4 : Int) (a0_5 : Int) (a0_6 : Int) (a0_7 : Int) (a0_8 : Int) (a0_9 : Int) (a0_10 : Int) (a1_0 : Int) (a1_1 : Int) (a1_2 : Int) (a1_3 : Int) (a1_4 : Int) (a1_5 : Int) (a1_6 : Int) (a1_7 : Int) (a1_8 : Int) (a1_9 : Int) (a1_10 : Int) : Option (Bool) := (laws_toKnow.f a0_0 a0_1 a0_2 a0_3 a0_4 a0_5 a0_6 a0_7 a0_8 a0_9 a0_10).bind fun bt404 => ((laws_toKnow.f a1_0 a1_1 a1_2 a1_3 a1_4 a1_5 a1_6 a1_7 a1_8 a1_9 a1_10).bind fun bt415 => ((spec_Meet.f k bt404.1 bt404.2.1 bt404.2.2.1 bt404.2.2.2.1 bt404.2.2.2.2.1 bt404.2.2.2.2.2.1 bt404.2.2.2.2.2.2.1 bt404.2.2.2.2.2.2.2.1 bt404.2.2.2.2.2.2.2.2.1 bt404.2.2.2.2.2.2.2.2.2.1 bt404.2.2.2.2.2.2.2.2.2.2 bt415.1 bt415.2.1 bt415.2.2.1 bt415.2.2.2.1 bt415.2.2.2.2.1 bt415.2.2.2.2.2.1 bt415.2.2.2.2.2.2.1 bt415.2.2.2.2.2.2.2.1 bt415.2.2.2.2.2.2.2.2.1 bt415.2.2.2.2.2.2.2.2.2.1 bt415.2.2.2.2.2.2.2.2.2.2).bind fun bt426 => ((laws_toKnow.f a0_0 a0_1 a0_2 a0_3 a0_4 a0_5 a0_6 a0_7 a0_8 a0_9 a0_10).bind fun bt439 => ((laws_toKnow.f a1_0 a1_1 a1_2 a1_3 a1_4 a1_5 a1_6 a1_7 a1_8 a1_9 a1_10).bind fun bt450 => ((impl_Meet.f bt439.1 bt439.2.1 bt439.2.2.1 bt439.2.2.2.1 bt439.2.2.2.2.1 bt439.2.2.2.2.2.1 bt439.2.2.2.2.2.2.1 bt439.2.2.2.2.2.2.2.1 bt439.2.2.2.2.2.2.2.2.1 bt439.2.2.2.2.2.2.2.2.2.1 bt439.2.2.2.2.2.2.2.2.2.2 bt450.1 bt450.2.1 bt450.2.2.1 bt450.2.2.2.1 bt450.2.2.2.2.1 bt450.2.2.2.2.2.1 bt450.2.2.2.2.2.2.1 bt450.2.2.2.2.2.2.2.1 bt450.2.2.2.2.2.2.2.2.1 bt450.2.2.2.2.2.2.2.2.2.1 bt450.2.2.2.2.2.2.2.2.2.2).bind fun bt461 => ((laws_eqKnow.f bt461.1 bt461.2.1 bt461.2.2.1 bt461.2.2.2.1 bt461.2.2.2.2.1 bt461.2.2.2.2.2.1 bt461.2.2.2.2.2.2.1 bt461.2.2.2.2.2.2.2.1 bt461.2.2.2.2.2.2.2.2.1 bt461.2.2.2.2.2.2.2.2.2.1 bt461.2.2.2.2.2.2.2.2.2.2.1 bt426.1 bt426.2.1 bt426.2.2.1 bt426.2.2.2.1 bt426.2.2.2.2.1 bt426.2.2.2.2.2.1 bt426.2.2.2.2.2.2.1 bt426.2.2.2.2.2.2.2.1 bt426.2.2.2.2.2.2.2.2.1 bt426.2.2.2.2.2.2.2.2.2.1 bt426.2.2.2.2.2.2.2.2.2.2.1).bind fun t474 => (if t474 = true then (if (bt461.2.2.2.2.2.2.2.2.2.2.2 != bt426.2.2.2.2.2.2.2.2.2.2.2) = true then (some false) else (some true)) else (some false))))))))
theorem laws_FnExactMeet.mono : ∀ a0 a1 a2 a3 a4 a5 a6 a7 a8 a9 a10 a11 a12 a13 a14 a15 a16 a17 a18 a19 a20 a21 k, LeO (laws_FnExactMeet.f k a0 a1 a2 a3 a4 a5 a6 a7 a8 a9 a10 a11 a12 a13 a14 a15 a16 a17 a18 a19 a20 a21) (laws_FnExactMeet.f (k + 1) a0 a1 a2 a3 a4 a5 a6 a7 a8 a9 a10 a11 a12 a13 a14 a15 a16 a17 a18 a19 a20 a21) := by
  intro a0 a1 a2 a3 a4 a5 a6 a7 a8 a9 a10 a11 a12 a13 a14 a15 a16 a17 a18 a19 a20 a21 k
  unfold laws_FnExactMeet.f
  repeat' first
      | (with_reducible exact spec_Meet.mono _ _ _ _ _ _ _ _ _ _ _ _ _ _ _ _ _ _ _ _ _ _ _)
      | (with_reducible exact LeO.refl _)
      | (with_reducible exact LeO.none _)
      | (with_reducible refine LeO.ite ?_ ?_)
      | (with_reducible refine LeO.bind ?_ (fun _ => ?_))
      | exact spec_Meet.mono _ _ _ _ _ _ _ _ _ _ _ _ _ _ _ _ _ _ _ _ _ _ _
      | exact LeO.none _
      | refine LeO.ite ?_ ?_
      | refine LeO.bind ?_ (fun _ => ?_)
def laws_FnExactMeet.T1 : Bool × List (List Nat × List Nat) := (true, [([], []), ([0], [0]), ([], []), ([2, 1], [2]), ([1, 3, 3], [1, 3]), ([4], [4]), ([5], [5]), ([5], [5]), ([], []), ([8, 6, 4, 0, 1, 2, 3, 4, 5, 6, 8], [6, 8]), ([7, 9, 0, 1, 2, 3, 4, 5, 6, 7, 8, 9], [7])])
def laws_FnExactMeet.B1 : List Nat := [0, 1, 0, 7, 15, 31, 63, 63, 0, 383, 1023]
theorem laws_FnExactMeet.tab1 : rtab .any (opsOf Try.f9 1) = laws_FnExactMeet.T1 := by kernel_rfl
theorem laws_FnExactMeet.bits1 : waitsOk laws_FnExactMeet.T1.2 laws_FnExactMeet.B1 = true := by kernel_rfl
def laws_FnExactMeet.T2 : Bool × List (List Nat × List Nat) := (true, [([], []), ([0], [0]), ([], []), ([2, 1], [2]), ([1, 3, 3], [1, 3]), ([4], [4]), ([5], [5]), ([5], [5]), ([], []), ([8, 6, 4, 0, 1, 2, 3, 4, 5, 6, 8], [6, 8]), ([7, 9, 0, 1, 2, 3, 4, 5, 6, 7, 8, 9], [7])])
def laws_FnExactMeet.B2 : List Nat := [0, 1, 0, 7, 15, 31, 63, 63, 0, 383, 1023]
theorem laws_FnExactMeet.tab2 : rtab .any (opsOf Try.f9 2) = laws_FnExactMeet.T2 := by kernel_rfl
theorem laws_FnExactMeet.bits2 : waitsOk laws_FnExactMeet.T2.2 laws_FnExactMeet.B2 = true := by kernel_rfl
theorem dnN_x21 {w : World} {n : Nat} {a : Addr} {v : Option Value} (h : w.cell? a = v) : (w.drewN n).cell? a = v := h
set_option maxHeartbeats 8000000 in
set_option maxRecDepth 100000 in
theorem laws_FnExactMeet.calls (k : Nat) (a0_0 : Int) (a0_1 : Int) (a0_2 : Int) (a0_3 : Int) (a0_4 : Int) (a0_5 : Int) (a0_6 : Int) (a0_7 : Int) (a0_8 : Int) (a0_9 : Int) (a0_10 : Int) (a1_0 : Int) (a1_1 : Int) (a1_2 : Int) (a1_3 : Int) (a1_4 : Int) (a1_5 : Int) (a1_6 : Int) (a1_7 : Int) (a1_8 : Int) (a1_9 : Int) (a1_10 : Int) (r : Bool) (hrt_ : Aside0 (r = true)) (w : World) (h : laws_FnExactMeet.f k a0_0 a0_1 a0_2 a0_3 a0_4 a0_5 a0_6 a0_7 a0_8 a0_9 a0_10 a1_0 a1_1 a1_2 a1_3 a1_4 a1_5 a1_6 a1_7 a1_8 a1_9 a1_10 = some r) :
    Calls Try.prog 9 #[.agg #[.int .i64 a0_0, .int .i64 a0_1, .int .i64 a0_2, .int .i64 a0_3, .int .i64 a0_4, .int .i64 a0_5, .int .i64 a0_6, .int .i64 a0_7, .int .i64 a0_8, .int .i64 a0_9, .int .i64 a0_10], .agg #[.int .i64 a1_0, .int .i64 a1_1, .int .i64 a1_2, .int .i64 a1_3, .int .i64 a1_4, .int .i64 a1_5, .int .i64 a1_6, .int .i64 a1_7, .int .i64 a1_8, .int .i64 a1_9, .int .i64 a1_10]] w fun e w' => e = .returned (.bool r) ∧ Below w.heap.size w w' := by
  have hu27 := Try.underlying27
  have hu23 := Try.underlying23
  have HB := Aside0.mk (Below.refl w.heap.size w)
  have H : ((laws_toKnow.f a0_0 a0_1 a0_2 a0_3 a0_4 a0_5 a0_6 a0_7 a0_8 a0_9 a0_10).bind fun bt404 => ((laws_toKnow.f a1_0 a1_1 a1_2 a1_3 a1_4 a1_5 a1_6 a1_7 a1_8 a1_9 a1_10).bind fun bt415 => ((spec_Meet.f k bt404.1 bt404.2.1 bt404.2.2.1 bt404.2.2.2.1 bt404.2.2.2.2.1 bt404.2.2.2.2.2.1 bt404.2.2.2.2.2.2.1 bt404.2.2.2.2.2.2.2.1 bt404.2.2.2.2.2.2.2.2.1 bt404.2.2.2.2.2.2.2.2.2.1 bt404.2.2.2.2.2.2.2.2.2.2 bt415.1 bt415.2.1 bt415.2.2.1 bt415.2.2.2.1 bt415.2.2.2.2.1 bt415.2.2.2.2.2.1 bt415.2.2.2.2.2.2.1 bt415.2.2.2.2.2.2.2.1 bt415.2.2.2.2.2.2.2.2.1 bt415.2.2.2.2.2.2.2.2.2.1 bt415.2.2.2.2.2.2.2.2.2.2).bind fun bt426 => ((laws_toKnow.f a0_0 a0_1 a0_2 a0_3 a0_4 a0_5 a0_6 a0_7 a0_8 a0_9 a0_10).bind fun bt439 => ((laws_toKnow.f a1_0 a1_1 a1_2 a1_3 a1_4 a1_5 a1_6 a1_7 a1_8 a1_9 a1_10).bind fun bt450 => ((impl_Meet.f bt439.1 bt439.2.1 bt439.2.2.1 bt439.2.2.2.1 bt439.2.2.2.2.1 bt439.2.2.2.2.2.1 bt439.2.2.2.2.2.2.1 bt439.2.2.2.2.2.2.2.1 bt439.2.2.2.2.2.2.2.2.1 bt439.2.2.2.2.2.2.2.2.2.1 bt439.2.2.2.2.2.2.2.2.2.2 bt450.1 bt450.2.1 bt450.2.2.1 bt450.2.2.2.1 bt450.2.2.2.2.1 bt450.2.2.2.2.2.1 bt450.2.2.2.2.2.2.1 bt450.2.2.2.2.2.2.2.1 bt450.2.2.2.2.2.2.2.2.1 bt450.2.2.2.2.2.2.2.2.2.1 bt450.2.2.2.2.2.2.2.2.2.2).bind fun bt461 => ((laws_eqKnow.f bt461.1 bt461.2.1 bt461.2.2.1 bt461.2.2.2.1 bt461.2.2.2.2.1 bt461.2.2.2.2.2.1 bt461.2.2.2.2.2.2.1 bt461.2.2.2.2.2.2.2.1 bt461.2.2.2.2.2.2.2.2.1 bt461.2.2.2.2.2.2.2.2.2.1 bt461.2.2.2.2.2.2.2.2.2.2.1 bt426.1 bt426.2.1 bt426.2.2.1 bt426.2.2.2.1 bt426.2.2.2.2.1 bt426.2.2.2.2.2.1 bt426.2.2.2.2.2.2.1 bt426.2.2.2.2.2.2.2.1 bt426.2.2.2.2.2.2.2.2.1 bt426.2.2.2.2.2.2.2.2.2.1 bt426.2.2.2.2.2.2.2.2.2.2.1).bind fun t474 => (if t474 = true then (if (bt461.2.2.2.2.2.2.2.2.2.2.2 != bt426.2.2.2.2.2.2.2.2.2.2.2) = true then (some false) else (some true)) else (some false))))))))) = some r := h
  clear h
  replace H := Option.bind_eq_some_iff.mp H
  obtain ⟨⟨t404, t405, t406, t407, t408, t409, t410, t411, t412, t413, t414⟩, A30, H⟩ := H
  replace H : ((laws_toKnow.f a1_0 a1_1 a1_2 a1_3 a1_4 a1_5 a1_6 a1_7 a1_8 a1_9 a1_10).bind fun bt415 => ((spec_Meet.f k t404 t405 t406 t407 t408 t409 t410 t411 t412 t413 t414 bt415.1 bt415.2.1 bt415.2.2.1 bt415.2.2.2.1 bt415.2.2.2.2.1 bt415.2.2.2.2.2.1 bt415.2.2.2.2.2.2.1 bt415.2.2.2.2.2.2.2.1 bt415.2.2.2.2.2.2.2.2.1 bt415.2.2.2.2.2.2.2.2.2.1 bt415.2.2.2.2.2.2.2.2.2.2).bind fun bt426 => ((laws_toKnow.f a0_0 a0_1 a0_2 a0_3 a0_4 a0_5 a0_6 a0_7 a0_8 a0_9 a0_10).bind fun bt439 => ((laws_toKnow.f a1_0 a1_1 a1_2 a1_3 a1_4 a1_5 a1_6 a1_7 a1_8 a1_9 a1_10).bind fun bt450 => ((impl_Meet.f bt439.1 bt439.2.1 bt439.2.2.1 bt439.2.2.2.1 bt439.2.2.2.2.1 bt439.2.2.2.2.2.1 bt439.2.2.2.2.2.2.1 bt439.2.2.2.2.2.2.2.1 bt439.2.2.2.2.2.2.2.2.1 bt439.2.2.2.2.2.2.2.2.2.1 bt439.2.2.2.2.2.2.2.2.2.2 bt450.1 bt450.2.1 bt450.2.2.1 bt450.2.2.2.1 bt450.2.2.2.2.1 bt450.2.2.2.2.2.1 bt450.2.2.2.2.2.2.1 bt450.2.2.2.2.2.2.2.1 bt450.2.2.2.2.2.2.2.2.1 bt450.2.2.2.2.2.2.2.2.2.1 bt450.2.2.2.2.2.2.2.2.2.2).bind fun bt461 => ((laws_eqKnow.f bt461.1 bt461.2.1 bt461.2.2.1 bt461.2.2.2.1 bt461.2.2.2.2.1 bt461.2.2.2.2.2.1 bt461.2.2.2.2.2.2.1 bt461.2.2.2.2.2.2.2.1 bt461.2.2.2.2.2.2.2.2.1 bt461.2.2.2.2.2.2.2.2.2.1 bt461.2.2.2.2.2.2.2.2.2.2.1 bt426.1 bt426.2.1 bt426.2.2.1 bt426.2.2.2.1 bt426.2.2.2.2.1 bt426.2.2.2.2.2.1 bt426.2.2.2.2.2.2.1 bt426.2.2.2.2.2.2.2.1 bt426.2.2.2.2.2.2.2.2.1 bt426.2.2.2.2.2.2.2.2.2.1 bt426.2.2.2.2.2.2.2.2.2.2.1).bind fun t474 => (if t474 = true then (if (bt461.2.2.2.2.2.2.2.2.2.2.2 != bt426.2.2.2.2.2.2.2.2.2.2.2) = true then (some false) else (some true)) else (some false)))))))) = some r := H
  have A3 := Aside0.mk A30
  clear A30
  replace H := Option.bind_eq_some_iff.mp H
  obtain ⟨⟨t415, t416, t417, t418, t419, t420, t421, t422, t423, t424, t425⟩, A40, H⟩ := H
  replace H : ((spec_Meet.f k t404 t405 t406 t407 t408 t409 t410 t411 t412 t413 t414 t415 t416 t417 t418 t419 t420 t421 t422 t423 t424 t425).bind fun bt426 => ((laws_toKnow.f a0_0 a0_1 a0_2 a0_3 a0_4 a0_5 a0_6 a0_7 a0_8 a0_9 a0_10).bind fun bt439 => ((laws_toKnow.f a1_0 a1_1 a1_2 a1_3 a1_4 a1_5 a1_6 a1_7 a1_8 a1_9 a1_10).bind fun bt450 => ((impl_Meet.f bt439.1 bt439.2.1 bt439.2.2.1 bt439.2.2.2.1 bt439.2.2.2.2.1 bt439.2.2.2.2.2.1 bt439.2.2.2.2.2.2.1 bt439.2.2.2.2.2.2.2.1 bt439.2.2.2.2.2.2.2.2.1 bt439.2.2.2.2.2.2.2.2.2.1 bt439.2.2.2.2.2.2.2.2.2.2 bt450.1 bt450.2.1 bt450.2.2.1 bt450.2.2.2.1 bt450.2.2.2.2.1 bt450.2.2.2.2.2.1 bt450.2.2.2.2.2.2.1 bt450.2.2.2.2.2.2.2.1 bt450.2.2.2.2.2.2.2.2.1 bt450.2.2.2.2.2.2.2.2.2.1 bt450.2.2.2.2.2.2.2.2.2.2).bind fun bt461 => ((laws_eqKnow.f bt461.1 bt461.2.1 bt461.2.2.1 bt461.2.2.2.1 bt461.2.2.2.2.1 bt461.2.2.2.2.2.1 bt461.2.2.2.2.2.2.1 bt461.2.2.2.2.2.2.2.1 bt461.2.2.2.2.2.2.2.2.1 bt461.2.2.2.2.2.2.2.2.2.1 bt461.2.2.2.2.2.2.2.2.2.2.1 bt426.1 bt426.2.1 bt426.2.2.1 bt426.2.2.2.1 bt426.2.2.2.2.1 bt426.2.2.2.2.2.1 bt426.2.2.2.2.2.2.1 bt426.2.2.2.2.2.2.2.1 bt426.2.2.2.2.2.2.2.2.1 bt426.2.2.2.2.2.2.2.2.2.1 bt426.2.2.2.2.2.2.2.2.2.2.1).bind fun t474 => (if t474 = true then (if (bt461.2.2.2.2.2.2.2.2.2.2.2 != bt426.2.2.2.2.2.2.2.2.2.2.2) = true then (some false) else (some true)) else (some false))))))) = some r := H
  have A4 := Aside0.mk A40
  clear A40
  replace H := Option.bind_eq_some_iff.mp H
  obtain ⟨⟨t426, t427, t428, t429, t430, t431, t432, t433, t434, t435, t436, t437⟩, A50, H⟩ := H
  replace H : ((laws_toKnow.f a0_0 a0_1 a0_2 a0_3 a0_4 a0_5 a0_6 a0_7 a0_8 a0_9 a0_10).bind fun bt439 => ((laws_toKnow.f a1_0 a1_1 a1_2 a1_3 a1_4 a1_5 a1_6 a1_7 a1_8 a1_9 a1_10).bind fun bt450 => ((impl_Meet.f bt439.1 bt439.2.1 bt439.2.2.1 bt439.2.2.2.1 bt439.2.2.2.2.1 bt439.2.2.2.2.2.1 bt439.2.2.2.2.2.2.1 bt439.2.2.2.2.2.2.2.1 bt439.2.2.2.2.2.2.2.2.1 bt439.2.2.2.2.2.2.2.2.2.1 bt439.2.2.2.2.2.2.2.2.2.2 bt450.1 bt450.2.1 bt450.2.2.1 bt450.2.2.2.1 bt450.2.2.2.2.1 bt450.2.2.2.2.2.1 bt450.2.2.2.2.2.2.1 bt450.2.2.2.2.2.2.2.1 bt450.2.2.2.2.2.2.2.2.1 bt450.2.2.2.2.2.2.2.2.2.1 bt450.2.2.2.2.2.2.2.2.2.2).bind fun bt461 => ((laws_eqKnow.f bt461.1 bt461.2.1 bt461.2.2.1 bt461.2.2.2.1 bt461.2.2.2.2.1 bt461.2.2.2.2.2.1 bt461.2.2.2.2.2.2.1 bt461.2.2.2.2.2.2.2.1 bt461.2.2.2.2.2.2.2.2.1 bt461.2.2.2.2.2.2.2.2.2.1 bt461.2.2.2.2.2.2.2.2.2.2.1 t426 t427 t428 t429 t430 t431 t432 t433 t434 t435 t436).bind fun t474 => (if t474 = true then (if (bt461.2.2.2.2.2.2.2.2.2.2.2 != t437) = true then (some false) else (some true)) else (some false)))))) = some r := H
  have A5 := Aside0.mk A50
  clear A50
  replace H := Option.bind_eq_some_iff.mp H
  obtain ⟨⟨t439, t440, t441, t442, t443, t444, t445, t446, t447, t448, t449⟩, A60, H⟩ := H
  replace H : ((laws_toKnow.f a1_0 a1_1 a1_2 a1_3 a1_4 a1_5 a1_6 a1_7 a1_8 a1_9 a1_10).bind fun bt450 => ((impl_Meet.f t439 t440 t441 t442 t443 t444 t445 t446 t447 t448 t449 bt450.1 bt450.2.1 bt450.2.2.1 bt450.2.2.2.1 bt450.2.2.2.2.1 bt450.2.2.2.2.2.1 bt450.2.2.2.2.2.2.1 bt450.2.2.2.2.2.2.2.1 bt450.2.2.2.2.2.2.2.2.1 bt450.2.2.2.2.2.2.2.2.2.1 bt450.2.2.2.2.2.2.2.2.2.2).bind fun bt461 => ((laws_eqKnow.f bt461.1 bt461.2.1 bt461.2.2.1 bt461.2.2.2.1 bt461.2.2.2.2.1 bt461.2.2.2.2.2.1 bt461.2.2.2.2.2.2.1 bt461.2.2.2.2.2.2.2.1 bt461.2.2.2.2.2.2.2.2.1 bt461.2.2.2.2.2.2.2.2.2.1 bt461.2.2.2.2.2.2.2.2.2.2.1 t426 t427 t428 t429 t430 t431 t432 t433 t434 t435 t436).bind fun t474 => (if t474 = true then (if (bt461.2.2.2.2.2.2.2.2.2.2.2 != t437) = true then (some false) else (some true)) else (some false))))) = some r := H
  have A6 := Aside0.mk A60
  clear A60
  replace H := Option.bind_eq_some_iff.mp H
  obtain ⟨⟨t450, t451, t452, t453, t454, t455, t456, t457, t458, t459, t460⟩, A70, H⟩ := H
  replace H : ((impl_Meet.f t439 t440 t441 t442 t443 t444 t445 t446 t447 t448 t449 t450 t451 t452 t453 t454 t455 t456 t457 t458 t459 t460).bind fun bt461 => ((laws_eqKnow.f bt461.1 bt461.2.1 bt461.2.2.1 bt461.2.2.2.1 bt461.2.2.2.2.1 bt461.2.2.2.2.2.1 bt461.2.2.2.2.2.2.1 bt461.2.2.2.2.2.2.2.1 bt461.2.2.2.2.2.2.2.2.1 bt461.2.2.2.2.2.2.2.2.2.1 bt461.2.2.2.2.2.2.2.2.2.2.1 t426 t427 t428 t429 t430 t431 t432 t433 t434 t435 t436).bind fun t474 => (if t474 = true then (if (bt461.2.2.2.2.2.2.2.2.2.2.2 != t437) = true then (some false) else (some true)) else (some false)))) = some r := H
  have A7 := Aside0.mk A70
  clear A70
  replace H := Option.bind_eq_some_iff.mp H
  obtain ⟨⟨t461, t462, t463, t464, t465, t466, t467, t468, t469, t470, t471, t472⟩, A80, H⟩ := H
  replace H : ((laws_eqKnow.f t461 t462 t463 t464 t465 t466 t467 t468 t469 t470 t471 t426 t427 t428 t429 t430 t431 t432 t433 t434 t435 t436).bind fun t474 => (if t474 = true then (if (t472 != t437) = true then (some false) else (some true)) else (some false))) = some r := H
  have A8 := Aside0.mk A80
  clear A80
  replace H := Option.bind_eq_some_iff.mp H
  obtain ⟨t474, A90, H⟩ := H
  replace H : (if t474 = true then (if (t472 != t437) = true then (some false) else (some true)) else (some false)) = some r := H
  have A9 := Aside0.mk A90
  clear A90
  by_cases c10 : t474 = true
  · subst c10
    have H1 : (if (t472 != t437) = true then (some false) else (some true)) = some r := by rw [if_pos rfl] at H; exact H
    clear H
    have H := H1
    clear H1
    by_cases c11 : (t472 != t437) = true
    · rw [if_pos c11] at H
      have c11b0 : (t472 != t437) = true := c11
      (try (have c11b1 : decide (t472 = t437) = false := by simpa using c11))
      (try (have c11b2 : (t472 == t437) = false := by simpa using c11))
      (try (have c11b3 : ¬ (t472 = t437) := by simpa using c11))
      clear c11
      exact absurd ((Option.some.inj H).trans hrt_.out) (by decide)
    · rw [if_neg c11] at H
      have c11b0 : (t472 != t437) = false := by simpa using c11
      (try (have c11b1 : decide (t472 = t437) = true := by simpa using c11))
      (try (have c11b2 : (t472 == t437) = true := by simpa using c11))
      clear c11
      obtain rfl := Option.some.inj H
      go_enter Try.func9, Try.ntmps9
      try go_wp2_with (first | ((with_reducible refine gate_dst (N := 2) rfl ?_); refine box_event ?hg (N := 2) ?hd (cs := #[.int .i64 a0_0, .int .i64 a0_1, .int .i64 a0_2, .int .i64 a0_3, .int .i64 a0_4, .int .i64 a0_5, .int .i64 a0_6, .int .i64 a0_7, .int .i64 a0_8, .int .i64 a0_9, .int .i64 a0_10]) (t := 27) ?hr ?_; (case hd => rfl); (case hg => rfl); (case hr => first | (go_simp; done) | (go_simp; rfl)); intro gb402 hg w12 hbox hb; have n0_ := Aside0.mk (below_step (by repeat (first | (with_reducible first | exact HB.out | apply below_alloc | apply pw_below_drewN | apply below_drew1) | exact HB.out)) hb); have n1_ := Aside0.mk (hbox); have n2_ := Aside0.mk ((by rw [hg]; exact (below_size (by repeat (first | (with_reducible first | exact HB.out | apply below_alloc | apply pw_below_drewN | apply below_drew1) | exact HB.out))) : w.heap.size ≤ gb402)); have n3_ := Aside0.mk ((by rw [hg]; exact (below_size (by repeat (first | (with_reducible first | exact HB.out | apply below_alloc | apply pw_below_drewN | apply below_drew1) | exact HB.out))) : w.heap.size ≤ gb402)); clear HB; have HB := n0_; have BK402 := n1_; have GW402 := n2_; have GE402 := n3_; clear n0_ n1_ n2_ n3_; clear hb hbox hg) | ((with_reducible refine gate_dst (N := 3) rfl ?_); refine box_event ?hg (N := 3) ?hd (cs := #[.int .i64 a1_0, .int .i64 a1_1, .int .i64 a1_2, .int .i64 a1_3, .int .i64 a1_4, .int .i64 a1_5, .int .i64 a1_6, .int .i64 a1_7, .int .i64 a1_8, .int .i64 a1_9, .int .i64 a1_10]) (t := 27) ?hr ?_; (case hd => rfl); (case hg => rfl); (case hr => first | (go_simp; done) | (go_simp; rfl)); intro gb403 hg w13 hbox hb; have n0_ := Aside0.mk (blk_below (g := gb402) (o := .cells #[.int .i64 a0_0, .int .i64 a0_1, .int .i64 a0_2, .int .i64 a0_3, .int .i64 a0_4, .int .i64 a0_5, .int .i64 a0_6, .int .i64 a0_7, .int .i64 a0_8, .int .i64 a0_9, .int .i64 a0_10] 27 (0, 0)) (by (with_reducible repeat (first | refine blk_drewN ?_ _ | refine blk_drew ?_ | refine blk_alloc ?_ _)); exact BK402.out) hb); have n1_ := Aside0.mk (below_step (by repeat (first | (with_reducible first | exact HB.out | apply below_alloc | apply pw_below_drewN | apply below_drew1 | refine below_set ?_ GE402.out) | exact HB.out)) hb); have n2_ := Aside0.mk (hbox); have n3_ := Aside0.mk ((by rw [hg]; exact (below_size (by repeat (first | (with_reducible first | exact HB.out | apply below_alloc | apply pw_below_drewN | apply below_drew1 | refine below_set ?_ GE402.out) | exact HB.out))) : w.heap.size ≤ gb403)); have n4_ := Aside0.mk ((by rw [hg]; exact (below_size (by repeat (first | (with_reducible first | exact HB.out | apply below_alloc | apply pw_below_drewN | apply below_drew1 | refine below_set ?_ GE402.out) | exact HB.out))) : w.heap.size ≤ gb403)); have n5_ := Aside0.mk ((by rw [hg]; exact Nat.ne_of_lt (blk_lt (g := gb402) (o := .cells #[.int .i64 a0_0, .int .i64 a0_1, .int .i64 a0_2, .int .i64 a0_3, .int .i64 a0_4, .int .i64 a0_5, .int .i64 a0_6, .int .i64 a0_7, .int .i64 a0_8, .int .i64 a0_9, .int .i64 a0_10] 27 (0, 0)) (by (with_reducible repeat (first | refine blk_drewN ?_ _ | refine blk_drew ?_ | refine blk_alloc ?_ _)); exact BK402.out)) : gb402 ≠ gb403)); have n6_ := Aside0.mk ((by rw [hg]; exact Nat.ne_of_gt (blk_lt (g := gb402) (o := .cells #[.int .i64 a0_0, .int .i64 a0_1, .int .i64 a0_2, .int .i64 a0_3, .int .i64 a0_4, .int .i64 a0_5, .int .i64 a0_6, .int .i64 a0_7, .int .i64 a0_8, .int .i64 a0_9, .int .i64 a0_10] 27 (0, 0)) (by (with_reducible repeat (first | refine blk_drewN ?_ _ | refine blk_drew ?_ | refine blk_alloc ?_ _)); exact BK402.out)) : gb403 ≠ gb402)); clear BK402; clear HB; have BK402 := n0_; have HB := n1_; have BK403 := n2_; have GW403 := n3_; have GE403 := n4_; have NB402_403 := n5_; have NB403_402 := n6_; clear n0_ n1_ n2_ n3_ n4_ n5_ n6_; clear hb hbox hg))
      have n0_ := Aside0.mk (blk_drew BK402.out)
      have n1_ := Aside0.mk (blk_drew BK403.out)
      have n2_ := Aside0.mk (below_drew1 HB.out)
      clear BK402
      clear BK403
      clear HB
      have BK402 := n0_
      have BK403 := n1_
      have HB := n2_
      clear n0_ n1_ n2_
      refine start_ (n := 11) (S := fun w' => w'.cell? ⟨gb402, 0, none⟩ = some (.int .i64 a0_0) ∧ w'.cell? ⟨gb402, 1, none⟩ = some (.int .i64 a0_1) ∧ w'.cell? ⟨gb402, 2, none⟩ = some (.int .i64 a0_2) ∧ w'.cell? ⟨gb402, 3, none⟩ = some (.int .i64 a0_3) ∧ w'.cell? ⟨gb402, 4, none⟩ = some (.int .i64 a0_4) ∧ w'.cell? ⟨gb402, 5, none⟩ = some (.int .i64 a0_5) ∧ w'.cell? ⟨gb402, 6, none⟩ = some (.int .i64 a0_6) ∧ w'.cell? ⟨gb402, 7, none⟩ = some (.int .i64 a0_7) ∧ w'.cell? ⟨gb402, 8, none⟩ = some (.int .i64 a0_8) ∧ w'.cell? ⟨gb402, 9, none⟩ = some (.int .i64 a0_9) ∧ w'.cell? ⟨gb402, 10, none⟩ = some (.int .i64 a0_10) ∧ w'.cell? ⟨gb403, 0, none⟩ = some (.int .i64 a1_0) ∧ w'.cell? ⟨gb403, 1, none⟩ = some (.int .i64 a1_1) ∧ w'.cell? ⟨gb403, 2, none⟩ = some (.int .i64 a1_2) ∧ w'.cell? ⟨gb403, 3, none⟩ = some (.int .i64 a1_3) ∧ w'.cell? ⟨gb403, 4, none⟩ = some (.int .i64 a1_4) ∧ w'.cell? ⟨gb403, 5, none⟩ = some (.int .i64 a1_5) ∧ w'.cell? ⟨gb403, 6, none⟩ = some (.int .i64 a1_6) ∧ w'.cell? ⟨gb403, 7, none⟩ = some (.int .i64 a1_7) ∧ w'.cell? ⟨gb403, 8, none⟩ = some (.int .i64 a1_8) ∧ w'.cell? ⟨gb403, 9, none⟩ = some (.int .i64 a1_9) ∧ w'.cell? ⟨gb403, 10, none⟩ = some (.int .i64 a1_10)) (ds := []) #[false, false, false, false, false, false, false, false, false, false, false] (by kernel_rfl) rfl rfl ⟨(blk_cell BK402.out 0).trans rfl, (blk_cell BK402.out 1).trans rfl, (blk_cell BK402.out 2).trans rfl, (blk_cell BK402.out 3).trans rfl, (blk_cell BK402.out 4).trans rfl, (blk_cell BK402.out 5).trans rfl, (blk_cell BK402.out 6).trans rfl, (blk_cell BK402.out 7).trans rfl, (blk_cell BK402.out 8).trans rfl, (blk_cell BK402.out 9).trans rfl, (blk_cell BK402.out 10).trans rfl, (blk_cell BK403.out 0).trans rfl, (blk_cell BK403.out 1).trans rfl, (blk_cell BK403.out 2).trans rfl, (blk_cell BK403.out 3).trans rfl, (blk_cell BK403.out 4).trans rfl, (blk_cell BK403.out 5).trans rfl, (blk_cell BK403.out 6).trans rfl, (blk_cell BK403.out 7).trans rfl, (blk_cell BK403.out 8).trans rfl, (blk_cell BK403.out 9).trans rfl, (blk_cell BK403.out 10).trans rfl⟩ (fun hHeld => ?_); refine with_tabW laws_FnExactMeet.tab1 laws_FnExactMeet.bits1 (fun HT_ HW_ => ?_)
      generalize w13.drew = w14 at BK402 BK403 HB hHeld ⊢
      refine take_ (i := 0) (N := some 10) (v := ?_) (a' := ?_) #[true, false, false, false, false, false, false, false, false, false, false] rfl rfl (take_ofW HT_.out HW_.out (by kernel_rfl)) (fun _ _ _ h => h) (Or.inl ⟨by rfl, ?_⟩) hHeld ?_ ?_
      rotate_left
      · rintro w' ⟨s0, s1, s2, s3, s4, s5, s6, s7, s8, s9, s10, s11, s12, s13, s14, s15, s16, s17, s18, s19, s20, s21⟩
        go_simp
        with_reducible rfl
      rotate_left
      · simp only [Act.put, List.setIfInBounds_toArray, List.set_cons_zero, List.set_cons_succ, i64_w, i32_w]
        rfl
      refine take_ (i := 2) (N := some 12) (v := ?_) (a' := ?_) #[true, false, true, false, false, false, false, false, false, false, false] rfl rfl (take_ofW HT_.out HW_.out (by kernel_rfl)) (fun _ _ _ h => h) (Or.inl ⟨by rfl, ?_⟩) hHeld ?_ ?_
      rotate_left
      · rintro w' ⟨s0, s1, s2, s3, s4, s5, s6, s7, s8, s9, s10, s11, s12, s13, s14, s15, s16, s17, s18, s19, s20, s21⟩
        go_simp
        with_reducible rfl
      rotate_left
      · simp only [Act.put, List.setIfInBounds_toArray, List.set_cons_zero, List.set_cons_succ, i64_w, i32_w]
        rfl
      refine join_ (σ := Nat) 2 #[true, true, true, true, true, true, true, true, true, false, false] (fun s_ => [(11, .agg #[.int .i64 t404, .int .i64 t405, .int .i64 t406, .int .i64 t407, .int .i64 t408, .int .i64 t409, .int .i64 t410, .int .i64 t411, .int .i64 t412, .int .i64 t413, .int .i64 t414]), (13, .agg #[.int .i64 t415, .int .i64 t416, .int .i64 t417, .int .i64 t418, .int .i64 t419, .int .i64 t420, .int .i64 t421, .int .i64 t422, .int .i64 t423, .int .i64 t424, .int .i64 t425]), (14, .tuple #[.agg #[.int .i64 t426, .int .i64 t427, .int .i64 t428, .int .i64 t429, .int .i64 t430, .int .i64 t431, .int .i64 t432, .int .i64 t433, .int .i64 t434, .int .i64 t435, .int .i64 t436], .bool t437]), (5, .pointer (some ⟨s_, 0, none⟩)), (9, .tuple #[.agg #[.int .i64 t426, .int .i64 t427, .int .i64 t428, .int .i64 t429, .int .i64 t430, .int .i64 t431, .int .i64 t432, .int .i64 t433, .int .i64 t434, .int .i64 t435, .int .i64 t436], .bool t437]), (15, .agg #[.int .i64 t426, .int .i64 t427, .int .i64 t428, .int .i64 t429, .int .i64 t430, .int .i64 t431, .int .i64 t432, .int .i64 t433, .int .i64 t434, .int .i64 t435, .int .i64 t436]), (16, .bool t437)]) (fun s_ w' => (w'.cell? ⟨gb402, 0, none⟩ = some (.int .i64 a0_0) ∧ w'.cell? ⟨gb402, 1, none⟩ = some (.int .i64 a0_1) ∧ w'.cell? ⟨gb402, 2, none⟩ = some (.int .i64 a0_2) ∧ w'.cell? ⟨gb402, 3, none⟩ = some (.int .i64 a0_3) ∧ w'.cell? ⟨gb402, 4, none⟩ = some (.int .i64 a0_4) ∧ w'.cell? ⟨gb402, 5, none⟩ = some (.int .i64 a0_5) ∧ w'.cell? ⟨gb402, 6, none⟩ = some (.int .i64 a0_6) ∧ w'.cell? ⟨gb402, 7, none⟩ = some (.int .i64 a0_7) ∧ w'.cell? ⟨gb402, 8, none⟩ = some (.int .i64 a0_8) ∧ w'.cell? ⟨gb402, 9, none⟩ = some (.int .i64 a0_9) ∧ w'.cell? ⟨gb402, 10, none⟩ = some (.int .i64 a0_10) ∧ w'.cell? ⟨gb403, 0, none⟩ = some (.int .i64 a1_0) ∧ w'.cell? ⟨gb403, 1, none⟩ = some (.int .i64 a1_1) ∧ w'.cell? ⟨gb403, 2, none⟩ = some (.int .i64 a1_2) ∧ w'.cell? ⟨gb403, 3, none⟩ = some (.int .i64 a1_3) ∧ w'.cell? ⟨gb403, 4, none⟩ = some (.int .i64 a1_4) ∧ w'.cell? ⟨gb403, 5, none⟩ = some (.int .i64 a1_5) ∧ w'.cell? ⟨gb403, 6, none⟩ = some (.int .i64 a1_6) ∧ w'.cell? ⟨gb403, 7, none⟩ = some (.int .i64 a1_7) ∧ w'.cell? ⟨gb403, 8, none⟩ = some (.int .i64 a1_8) ∧ w'.cell? ⟨gb403, 9, none⟩ = some (.int .i64 a1_9) ∧ w'.cell? ⟨gb403, 10, none⟩ = some (.int .i64 a1_10)) ∧ (w'.heap[gb402]? = some (.cells #[.int .i64 a0_0, .int .i64 a0_1, .int .i64 a0_2, .int .i64 a0_3, .int .i64 a0_4, .int .i64 a0_5, .int .i64 a0_6, .int .i64 a0_7, .int .i64 a0_8, .int .i64 a0_9, .int .i64 a0_10] 27 (0, 0))) ∧ (w'.heap[gb403]? = some (.cells #[.int .i64 a1_0, .int .i64 a1_1, .int .i64 a1_2, .int .i64 a1_3, .int .i64 a1_4, .int .i64 a1_5, .int .i64 a1_6, .int .i64 a1_7, .int .i64 a1_8, .int .i64 a1_9, .int .i64 a1_10] 27 (0, 0))) ∧ (w'.heap[s_]? = some (.cells #[.int .i64 0, .int .i64 0, .int .i64 0, .int .i64 0, .int .i64 0, .int .i64 0, .int .i64 0, .int .i64 0, .int .i64 0, .int .i64 0, .int .i64 0] 23 (0, 0))) ∧ (w.heap.size ≤ s_) ∧ (w.heap.size ≤ s_) ∧ (gb402 ≠ s_) ∧ (s_ ≠ gb402) ∧ (gb403 ≠ s_) ∧ (s_ ≠ gb403) ∧ (Below w.heap.size w w')) ?_ ?_
      rotate_left
      · intro hCont
        refine two_ (i := 1) (j := 8) (Ni := some 11) (Nj := some 5) #[true, true, true, false, false, false, false, false, false, false, false] #[true, false, true, false, false, false, false, false, true, false, false] rfl rfl rfl rfl (two_of HT_.out (by kernel_rfl)) (by decide) (by decide) (fun K hK => ?_) (fun K hK => ?_)
        · skip
          refine goes_ Try.func19 (by kernel_rfl) rfl #[.agg #[.int .i64 a0_0, .int .i64 a0_1, .int .i64 a0_2, .int .i64 a0_3, .int .i64 a0_4, .int .i64 a0_5, .int .i64 a0_6, .int .i64 a0_7, .int .i64 a0_8, .int .i64 a0_9, .int .i64 a0_10]] (by rfl) rfl rfl (by (try simp only [List.map_toArray, List.map_cons, List.map_nil]); first | done | rfl | (simp only [List.length_drop, List.length_take]; rfl)) ?_
          with_reducible refine (laws_toKnow.calls a0_0 a0_1 a0_2 a0_3 a0_4 a0_5 a0_6 a0_7 a0_8 a0_9 a0_10 t404 t405 t406 t407 t408 t409 t410 t411 t412 t413 t414 _ A3.out).mono ?_
          rintro e w15 ⟨rfl, hb⟩
          refine ⟨_, rfl, ?_⟩
          have n0_ := Aside0.mk (blk_below (g := gb402) (o := .cells #[.int .i64 a0_0, .int .i64 a0_1, .int .i64 a0_2, .int .i64 a0_3, .int .i64 a0_4, .int .i64 a0_5, .int .i64 a0_6, .int .i64 a0_7, .int .i64 a0_8, .int .i64 a0_9, .int .i64 a0_10] 27 (0, 0)) (by (with_reducible repeat (first | refine blk_drewN ?_ _ | refine blk_drew ?_ | refine blk_alloc ?_ _)); exact BK402.out) hb)
          have n1_ := Aside0.mk (blk_below (g := gb403) (o := .cells #[.int .i64 a1_0, .int .i64 a1_1, .int .i64 a1_2, .int .i64 a1_3, .int .i64 a1_4, .int .i64 a1_5, .int .i64 a1_6, .int .i64 a1_7, .int .i64 a1_8, .int .i64 a1_9, .int .i64 a1_10] 27 (0, 0)) (by (with_reducible repeat (first | refine blk_drewN ?_ _ | refine blk_drew ?_ | refine blk_alloc ?_ _)); exact BK403.out) hb)
          have n2_ := Aside0.mk (below_step (by repeat (first | (with_reducible first | exact HB.out | apply below_alloc | apply pw_below_drewN | apply below_drew1 | refine below_set ?_ GE402.out | refine below_set ?_ GE403.out) | exact HB.out)) hb)
          clear BK402
          clear BK403
          clear HB
          have BK402 := n0_
          have BK403 := n1_
          have HB := n2_
          clear n0_ n1_ n2_
          (try clear hb)
          (try clear hb2)
          (try clear hk)
          (try clear hi)
          refine hK.out _ _ ⟨(blk_cell BK402.out 0).trans rfl, (blk_cell BK402.out 1).trans rfl, (blk_cell BK402.out 2).trans rfl, (blk_cell BK402.out 3).trans rfl, (blk_cell BK402.out 4).trans rfl, (blk_cell BK402.out 5).trans rfl, (blk_cell BK402.out 6).trans rfl, (blk_cell BK402.out 7).trans rfl, (blk_cell BK402.out 8).trans rfl, (blk_cell BK402.out 9).trans rfl, (blk_cell BK402.out 10).trans rfl, (blk_cell BK403.out 0).trans rfl, (blk_cell BK403.out 1).trans rfl, (blk_cell BK403.out 2).trans rfl, (blk_cell BK403.out 3).trans rfl, (blk_cell BK403.out 4).trans rfl, (blk_cell BK403.out 5).trans rfl, (blk_cell BK403.out 6).trans rfl, (blk_cell BK403.out 7).trans rfl, (blk_cell BK403.out 8).trans rfl, (blk_cell BK403.out 9).trans rfl, (blk_cell BK403.out 10).trans rfl⟩ (fun hHeld => ?_)
          clear hK K
          refine norm_ (a' := ?_) ?_ ?_
          rotate_left
          · show Act.put _ (some 11) _ = _
            simp only [Act.put, List.setIfInBounds_toArray, List.set_cons_zero, List.set_cons_succ, i64_w, i32_w]
            rfl
          refine two_ (i := 3) (j := 8) (Ni := some 13) (Nj := some 5) #[true, true, true, true, false, false, false, false, false, false, false] #[true, true, true, false, false, false, false, false, true, false, false] rfl rfl rfl rfl (two_of HT_.out (by kernel_rfl)) (by decide) (by decide) (fun K hK => ?_) (fun K hK => ?_)
          · skip
            refine goes_ Try.func19 (by kernel_rfl) rfl #[.agg #[.int .i64 a1_0, .int .i64 a1_1, .int .i64 a1_2, .int .i64 a1_3, .int .i64 a1_4, .int .i64 a1_5, .int .i64 a1_6, .int .i64 a1_7, .int .i64 a1_8, .int .i64 a1_9, .int .i64 a1_10]] (by rfl) rfl rfl (by (try simp only [List.map_toArray, List.map_cons, List.map_nil]); first | done | rfl | (simp only [List.length_drop, List.length_take]; rfl)) ?_
            with_reducible refine (laws_toKnow.calls a1_0 a1_1 a1_2 a1_3 a1_4 a1_5 a1_6 a1_7 a1_8 a1_9 a1_10 t415 t416 t417 t418 t419 t420 t421 t422 t423 t424 t425 _ A4.out).mono ?_
            rintro e w16 ⟨rfl, hb⟩
            refine ⟨_, rfl, ?_⟩
            have n0_ := Aside0.mk (blk_below (g := gb402) (o := .cells #[.int .i64 a0_0, .int .i64 a0_1, .int .i64 a0_2, .int .i64 a0_3, .int .i64 a0_4, .int .i64 a0_5, .int .i64 a0_6, .int .i64 a0_7, .int .i64 a0_8, .int .i64 a0_9, .int .i64 a0_10] 27 (0, 0)) (by (with_reducible repeat (first | refine blk_drewN ?_ _ | refine blk_drew ?_ | refine blk_alloc ?_ _)); exact BK402.out) hb)
            have n1_ := Aside0.mk (blk_below (g := gb403) (o := .cells #[.int .i64 a1_0, .int .i64 a1_1, .int .i64 a1_2, .int .i64 a1_3, .int .i64 a1_4, .int .i64 a1_5, .int .i64 a1_6, .int .i64 a1_7, .int .i64 a1_8, .int .i64 a1_9, .int .i64 a1_10] 27 (0, 0)) (by (with_reducible repeat (first | refine blk_drewN ?_ _ | refine blk_drew ?_ | refine blk_alloc ?_ _)); exact BK403.out) hb)
            have n2_ := Aside0.mk (below_step (by repeat (first | (with_reducible first | exact HB.out | apply below_alloc | apply pw_below_drewN | apply below_drew1 | refine below_set ?_ GE402.out | refine below_set ?_ GE403.out) | exact HB.out)) hb)
            clear BK402
            clear BK403
            clear HB
            have BK402 := n0_
            have BK403 := n1_
            have HB := n2_
            clear n0_ n1_ n2_
            (try clear hb)
            (try clear hb2)
            (try clear hk)
            (try clear hi)
            refine hK.out _ _ ⟨(blk_cell BK402.out 0).trans rfl, (blk_cell BK402.out 1).trans rfl, (blk_cell BK402.out 2).trans rfl, (blk_cell BK402.out 3).trans rfl, (blk_cell BK402.out 4).trans rfl, (blk_cell BK402.out 5).trans rfl, (blk_cell BK402.out 6).trans rfl, (blk_cell BK402.out 7).trans rfl, (blk_cell BK402.out 8).trans rfl, (blk_cell BK402.out 9).trans rfl, (blk_cell BK402.out 10).trans rfl, (blk_cell BK403.out 0).trans rfl, (blk_cell BK403.out 1).trans rfl, (blk_cell BK403.out 2).trans rfl, (blk_cell BK403.out 3).trans rfl, (blk_cell BK403.out 4).trans rfl, (blk_cell BK403.out 5).trans rfl, (blk_cell BK403.out 6).trans rfl, (blk_cell BK403.out 7).trans rfl, (blk_cell BK403.out 8).trans rfl, (blk_cell BK403.out 9).trans rfl, (blk_cell BK403.out 10).trans rfl⟩ (fun hHeld => ?_)
            clear hK K
            refine norm_ (a' := ?_) ?_ ?_
            rotate_left
            · show Act.put _ (some 13) _ = _
              simp only [Act.put, List.setIfInBounds_toArray, List.set_cons_zero, List.set_cons_succ, i64_w, i32_w]
              rfl
            refine two_ (i := 4) (j := 8) (Ni := some 14) (Nj := some 5) #[true, true, true, true, true, false, false, false, false, false, false] #[true, true, true, true, false, false, false, false, true, false, false] rfl rfl rfl rfl (two_of HT_.out (by kernel_rfl)) (by decide) (by decide) (fun K hK => ?_) (fun K hK => ?_)
            · skip
              refine goes_ Try.func30 (by kernel_rfl) rfl #[.agg #[.int .i64 t404, .int .i64 t405, .int .i64 t406, .int .i64 t407, .int .i64 t408, .int .i64 t409, .int .i64 t410, .int .i64 t411, .int .i64 t412, .int .i64 t413, .int .i64 t414], .agg #[.int .i64 t415, .int .i64 t416, .int .i64 t417, .int .i64 t418, .int .i64 t419, .int .i64 t420, .int .i64 t421, .int .i64 t422, .int .i64 t423, .int .i64 t424, .int .i64 t425]] (by rfl) rfl rfl (by (try simp only [List.map_toArray, List.map_cons, List.map_nil]); first | done | rfl | (simp only [List.length_drop, List.length_take]; rfl)) ?_
              with_reducible refine (spec_Meet.calls k t404 t405 t406 t407 t408 t409 t410 t411 t412 t413 t414 t415 t416 t417 t418 t419 t420 t421 t422 t423 t424 t425 t426 t427 t428 t429 t430 t431 t432 t433 t434 t435 t436 t437 _ A5.out).mono ?_
              rintro e w17 ⟨rfl, hb⟩
              refine ⟨_, rfl, ?_⟩
              have n0_ := Aside0.mk (blk_below (g := gb402) (o := .cells #[.int .i64 a0_0, .int .i64 a0_1, .int .i64 a0_2, .int .i64 a0_3, .int .i64 a0_4, .int .i64 a0_5, .int .i64 a0_6, .int .i64 a0_7, .int .i64 a0_8, .int .i64 a0_9, .int .i64 a0_10] 27 (0, 0)) (by (with_reducible repeat (first | refine blk_drewN ?_ _ | refine blk_drew ?_ | refine blk_alloc ?_ _)); exact BK402.out) hb)
              have n1_ := Aside0.mk (blk_below (g := gb403) (o := .cells #[.int .i64 a1_0, .int .i64 a1_1, .int .i64 a1_2, .int .i64 a1_3, .int .i64 a1_4, .int .i64 a1_5, .int .i64 a1_6, .int .i64 a1_7, .int .i64 a1_8, .int .i64 a1_9, .int .i64 a1_10] 27 (0, 0)) (by (with_reducible repeat (first | refine blk_drewN ?_ _ | refine blk_drew ?_ | refine blk_alloc ?_ _)); exact BK403.out) hb)
              have n2_ := Aside0.mk (below_step (by repeat (first | (with_reducible first | exact HB.out | apply below_alloc | apply pw_below_drewN | apply below_drew1 | refine below_set ?_ GE402.out | refine below_set ?_ GE403.out) | exact HB.out)) hb)
              clear BK402
              clear BK403
              clear HB
              have BK402 := n0_
              have BK403 := n1_
              have HB := n2_
              clear n0_ n1_ n2_
              (try clear hb)
              (try clear hb2)
              (try clear hk)
              (try clear hi)
              refine hK.out _ _ ⟨(blk_cell BK402.out 0).trans rfl, (blk_cell BK402.out 1).trans rfl, (blk_cell BK402.out 2).trans rfl, (blk_cell BK402.out 3).trans rfl, (blk_cell BK402.out 4).trans rfl, (blk_cell BK402.out 5).trans rfl, (blk_cell BK402.out 6).trans rfl, (blk_cell BK402.out 7).trans rfl, (blk_cell BK402.out 8).trans rfl, (blk_cell BK402.out 9).trans rfl, (blk_cell BK402.out 10).trans rfl, (blk_cell BK403.out 0).trans rfl, (blk_cell BK403.out 1).trans rfl, (blk_cell BK403.out 2).trans rfl, (blk_cell BK403.out 3).trans rfl, (blk_cell BK403.out 4).trans rfl, (blk_cell BK403.out 5).trans rfl, (blk_cell BK403.out 6).trans rfl, (blk_cell BK403.out 7).trans rfl, (blk_cell BK403.out 8).trans rfl, (blk_cell BK403.out 9).trans rfl, (blk_cell BK403.out 10).trans rfl⟩ (fun hHeld => ?_)
              clear hK K
              refine norm_ (a' := ?_) ?_ ?_
              rotate_left
              · show Act.put _ (some 14) _ = _
                simp only [Act.put, List.setIfInBounds_toArray, List.set_cons_zero, List.set_cons_succ, i64_w, i32_w]
                rfl
              refine pure_ (i := 5) (N := some 9) (v := ?_) (a' := ?_) #[true, true, true, true, true, true, false, false, false, false, false] rfl rfl (any_of HT_.out (by kernel_rfl)) (fun _ _ _ h => h) (Or.inl ⟨by rfl, ?_⟩) ?_ ?_
              rotate_left
              · intro w'
                go_simp
                with_reducible rfl
              rotate_left
              · simp only [Act.put, List.setIfInBounds_toArray, List.set_cons_zero, List.set_cons_succ, i64_w, i32_w]
                rfl
              refine pure_ (i := 6) (N := some 15) (v := ?_) (a' := ?_) #[true, true, true, true, true, true, true, false, false, false, false] rfl rfl (any_of HT_.out (by kernel_rfl)) (fun _ _ _ h => h) (Or.inl ⟨by rfl, ?_⟩) ?_ ?_
              rotate_left
              · intro w'
                go_simp
                with_reducible rfl
              rotate_left
              · simp only [Act.put, List.setIfInBounds_toArray, List.set_cons_zero, List.set_cons_succ, i64_w, i32_w]
                rfl
              refine pure_ (i := 7) (N := some 16) (v := ?_) (a' := ?_) #[true, true, true, true, true, true, true, true, false, false, false] rfl rfl (any_of HT_.out (by kernel_rfl)) (fun _ _ _ h => h) (Or.inl ⟨by rfl, ?_⟩) ?_ ?_
              rotate_left
              · intro w'
                go_simp
                with_reducible rfl
              rotate_left
              · simp only [Act.put, List.setIfInBounds_toArray, List.set_cons_zero, List.set_cons_succ, i64_w, i32_w]
                rfl
              refine one_ (i := 8) (N := some 5) #[true, true, true, true, true, true, true, true, true, false, false] rfl rfl (one_of HT_.out (by kernel_rfl)) (by decide) (fun K hK => ?_)
              refine box_step ?hg (N := 5) ?hd (cs := #[.int .i64 0, .int .i64 0, .int .i64 0, .int .i64 0, .int .i64 0, .int .i64 0, .int .i64 0, .int .i64 0, .int .i64 0, .int .i64 0, .int .i64 0]) (t := 23) ?hr ?_; (case hd => rfl); (case hg => rfl); (case hr => first | (go_simp; done) | (go_simp; rfl))
              intro gb438 hg w18 hbox hb
              have n0_ := Aside0.mk (blk_below (g := gb402) (o := .cells #[.int .i64 a0_0, .int .i64 a0_1, .int .i64 a0_2, .int .i64 a0_3, .int .i64 a0_4, .int .i64 a0_5, .int .i64 a0_6, .int .i64 a0_7, .int .i64 a0_8, .int .i64 a0_9, .int .i64 a0_10] 27 (0, 0)) (by (with_reducible repeat (first | refine blk_drewN ?_ _ | refine blk_drew ?_ | refine blk_alloc ?_ _)); exact BK402.out) hb)
              have n1_ := Aside0.mk (blk_below (g := gb403) (o := .cells #[.int .i64 a1_0, .int .i64 a1_1, .int .i64 a1_2, .int .i64 a1_3, .int .i64 a1_4, .int .i64 a1_5, .int .i64 a1_6, .int .i64 a1_7, .int .i64 a1_8, .int .i64 a1_9, .int .i64 a1_10] 27 (0, 0)) (by (with_reducible repeat (first | refine blk_drewN ?_ _ | refine blk_drew ?_ | refine blk_alloc ?_ _)); exact BK403.out) hb)
              have n2_ := Aside0.mk (below_step (by repeat (first | (with_reducible first | exact HB.out | apply below_alloc | apply pw_below_drewN | apply below_drew1 | refine below_set ?_ GE402.out | refine below_set ?_ GE403.out) | exact HB.out)) hb)
              have n3_ := Aside0.mk (hbox)
              have n4_ := Aside0.mk ((by rw [hg]; exact (below_size (by repeat (first | (with_reducible first | exact HB.out | apply below_alloc | apply pw_below_drewN | apply below_drew1 | refine below_set ?_ GE402.out | refine below_set ?_ GE403.out) | exact HB.out))) : w.heap.size ≤ gb438))
              have n5_ := Aside0.mk ((by rw [hg]; exact (below_size (by repeat (first | (with_reducible first | exact HB.out | apply below_alloc | apply pw_below_drewN | apply below_drew1 | refine below_set ?_ GE402.out | refine below_set ?_ GE403.out) | exact HB.out))) : w.heap.size ≤ gb438))
              have n6_ := Aside0.mk ((by rw [hg]; exact Nat.ne_of_lt (blk_lt (g := gb402) (o := .cells #[.int .i64 a0_0, .int .i64 a0_1, .int .i64 a0_2, .int .i64 a0_3, .int .i64 a0_4, .int .i64 a0_5, .int .i64 a0_6, .int .i64 a0_7, .int .i64 a0_8, .int .i64 a0_9, .int .i64 a0_10] 27 (0, 0)) (by (with_reducible repeat (first | refine blk_drewN ?_ _ | refine blk_drew ?_ | refine blk_alloc ?_ _)); exact BK402.out)) : gb402 ≠ gb438))
              have n7_ := Aside0.mk ((by rw [hg]; exact Nat.ne_of_gt (blk_lt (g := gb402) (o := .cells #[.int .i64 a0_0, .int .i64 a0_1, .int .i64 a0_2, .int .i64 a0_3, .int .i64 a0_4, .int .i64 a0_5, .int .i64 a0_6, .int .i64 a0_7, .int .i64 a0_8, .int .i64 a0_9, .int .i64 a0_10] 27 (0, 0)) (by (with_reducible repeat (first | refine blk_drewN ?_ _ | refine blk_drew ?_ | refine blk_alloc ?_ _)); exact BK402.out)) : gb438 ≠ gb402))
              have n8_ := Aside0.mk ((by rw [hg]; exact Nat.ne_of_lt (blk_lt (g := gb403) (o := .cells #[.int .i64 a1_0, .int .i64 a1_1, .int .i64 a1_2, .int .i64 a1_3, .int .i64 a1_4, .int .i64 a1_5, .int .i64 a1_6, .int .i64 a1_7, .int .i64 a1_8, .int .i64 a1_9, .int .i64 a1_10] 27 (0, 0)) (by (with_reducible repeat (first | refine blk_drewN ?_ _ | refine blk_drew ?_ | refine blk_alloc ?_ _)); exact BK403.out)) : gb403 ≠ gb438))
              have n9_ := Aside0.mk ((by rw [hg]; exact Nat.ne_of_gt (blk_lt (g := gb403) (o := .cells #[.int .i64 a1_0, .int .i64 a1_1, .int .i64 a1_2, .int .i64 a1_3, .int .i64 a1_4, .int .i64 a1_5, .int .i64 a1_6, .int .i64 a1_7, .int .i64 a1_8, .int .i64 a1_9, .int .i64 a1_10] 27 (0, 0)) (by (with_reducible repeat (first | refine blk_drewN ?_ _ | refine blk_drew ?_ | refine blk_alloc ?_ _)); exact BK403.out)) : gb438 ≠ gb403))
              clear BK402
              clear BK403
              clear HB
              have BK402 := n0_
              have BK403 := n1_
              have HB := n2_
              have BK438 := n3_
              have GW438 := n4_
              have GE438 := n5_
              have NB402_438 := n6_
              have NB438_402 := n7_
              have NB403_438 := n8_
              have NB438_403 := n9_
              clear n0_ n1_ n2_ n3_ n4_ n5_ n6_ n7_ n8_ n9_
              clear hb hbox hg
              refine hK.out _ _ ⟨(blk_cell BK402.out 0).trans rfl, (blk_cell BK402.out 1).trans rfl, (blk_cell BK402.out 2).trans rfl, (blk_cell BK402.out 3).trans rfl, (blk_cell BK402.out 4).trans rfl, (blk_cell BK402.out 5).trans rfl, (blk_cell BK402.out 6).trans rfl, (blk_cell BK402.out 7).trans rfl, (blk_cell BK402.out 8).trans rfl, (blk_cell BK402.out 9).trans rfl, (blk_cell BK402.out 10).trans rfl, (blk_cell BK403.out 0).trans rfl, (blk_cell BK403.out 1).trans rfl, (blk_cell BK403.out 2).trans rfl, (blk_cell BK403.out 3).trans rfl, (blk_cell BK403.out 4).trans rfl, (blk_cell BK403.out 5).trans rfl, (blk_cell BK403.out 6).trans rfl, (blk_cell BK403.out 7).trans rfl, (blk_cell BK403.out 8).trans rfl, (blk_cell BK403.out 9).trans rfl, (blk_cell BK403.out 10).trans rfl⟩ (fun hHeld => ?_)
              clear hK K
              refine norm_ (a' := ?_) ?_ ?_
              rotate_left
              · show Act.put _ (some 5) _ = _
                simp only [Act.put, List.setIfInBounds_toArray, List.set_cons_zero, List.set_cons_succ, i64_w, i32_w]
                rfl
              exact norm_ (by simp only [putAll, Act.put, List.setIfInBounds_toArray, List.set_cons_zero, List.set_cons_succ]) (hCont (gb438) _ ⟨hHeld, (by (with_reducible repeat (first | refine blk_drewN ?_ _ | refine blk_drew ?_ | refine blk_alloc ?_ _)); exact BK402.out), (by (with_reducible repeat (first | refine blk_drewN ?_ _ | refine blk_drew ?_ | refine blk_alloc ?_ _)); exact BK403.out), (by (with_reducible repeat (first | refine blk_drewN ?_ _ | refine blk_drew ?_ | refine blk_alloc ?_ _)); exact BK438.out), GW438.out, GE438.out, NB402_438.out, NB438_402.out, NB403_438.out, NB438_403.out, (by repeat (first | (with_reducible first | exact HB.out | apply below_alloc | apply pw_below_drewN | apply below_drew1 | refine below_set ?_ GE402.out | refine below_set ?_ GE403.out | refine below_set ?_ GE438.out) | exact HB.out))⟩)
            · skip
              refine box_step ?hg (N := 5) ?hd (cs := #[.int .i64 0, .int .i64 0, .int .i64 0, .int .i64 0, .int .i64 0, .int .i64 0, .int .i64 0, .int .i64 0, .int .i64 0, .int .i64 0, .int .i64 0]) (t := 23) ?hr ?_; (case hd => rfl); (case hg => rfl); (case hr => first | (go_simp; done) | (go_simp; rfl))
              intro gb438 hg w17 hbox hb
              have n0_ := Aside0.mk (blk_below (g := gb402) (o := .cells #[.int .i64 a0_0, .int .i64 a0_1, .int .i64 a0_2, .int .i64 a0_3, .int .i64 a0_4, .int .i64 a0_5, .int .i64 a0_6, .int .i64 a0_7, .int .i64 a0_8, .int .i64 a0_9, .int .i64 a0_10] 27 (0, 0)) (by (with_reducible repeat (first | refine blk_drewN ?_ _ | refine blk_drew ?_ | refine blk_alloc ?_ _)); exact BK402.out) hb)
              have n1_ := Aside0.mk (blk_below (g := gb403) (o := .cells #[.int .i64 a1_0, .int .i64 a1_1, .int .i64 a1_2, .int .i64 a1_3, .int .i64 a1_4, .int .i64 a1_5, .int .i64 a1_6, .int .i64 a1_7, .int .i64 a1_8, .int .i64 a1_9, .int .i64 a1_10] 27 (0, 0)) (by (with_reducible repeat (first | refine blk_drewN ?_ _ | refine blk_drew ?_ | refine blk_alloc ?_ _)); exact BK403.out) hb)
              have n2_ := Aside0.mk (below_step (by repeat (first | (with_reducible first | exact HB.out | apply below_alloc | apply pw_below_drewN | apply below_drew1 | refine below_set ?_ GE402.out | refine below_set ?_ GE403.out) | exact HB.out)) hb)
              have n3_ := Aside0.mk (hbox)
              have n4_ := Aside0.mk ((by rw [hg]; exact (below_size (by repeat (first | (with_reducible first | exact HB.out | apply below_alloc | apply pw_below_drewN | apply below_drew1 | refine below_set ?_ GE402.out | refine below_set ?_ GE403.out) | exact HB.out))) : w.heap.size ≤ gb438))
              have n5_ := Aside0.mk ((by rw [hg]; exact (below_size (by repeat (first | (with_reducible first | exact HB.out | apply below_alloc | apply pw_below_drewN | apply below_drew1 | refine below_set ?_ GE402.out | refine below_set ?_ GE403.out) | exact HB.out))) : w.heap.size ≤ gb438))
              have n6_ := Aside0.mk ((by rw [hg]; exact Nat.ne_of_lt (blk_lt (g := gb402) (o := .cells #[.int .i64 a0_0, .int .i64 a0_1, .int .i64 a0_2, .int .i64 a0_3, .int .i64 a0_4, .int .i64 a0_5, .int .i64 a0_6, .int .i64 a0_7, .int .i64 a0_8, .int .i64 a0_9, .int .i64 a0_10] 27 (0, 0)) (by (with_reducible repeat (first | refine blk_drewN ?_ _ | refine blk_drew ?_ | refine blk_alloc ?_ _)); exact BK402.out)) : gb402 ≠ gb438))
              have n7_ := Aside0.mk ((by rw [hg]; exact Nat.ne_of_gt (blk_lt (g := gb402) (o := .cells #[.int .i64 a0_0, .int .i64 a0_1, .int .i64 a0_2, .int .i64 a0_3, .int .i64 a0_4, .int .i64 a0_5, .int .i64 a0_6, .int .i64 a0_7, .int .i64 a0_8, .int .i64 a0_9, .int .i64 a0_10] 27 (0, 0)) (by (with_reducible repeat (first | refine blk_drewN ?_ _ | refine blk_drew ?_ | refine blk_alloc ?_ _)); exact BK402.out)) : gb438 ≠ gb402))
              have n8_ := Aside0.mk ((by rw [hg]; exact Nat.ne_of_lt (blk_lt (g := gb403) (o := .cells #[.int .i64 a1_0, .int .i64 a1_1, .int .i64 a1_2, .int .i64 a1_3, .int .i64 a1_4, .int .i64 a1_5, .int .i64 a1_6, .int .i64 a1_7, .int .i64 a1_8, .int .i64 a1_9, .int .i64 a1_10] 27 (0, 0)) (by (with_reducible repeat (first | refine blk_drewN ?_ _ | refine blk_drew ?_ | refine blk_alloc ?_ _)); exact BK403.out)) : gb403 ≠ gb438))
              have n9_ := Aside0.mk ((by rw [hg]; exact Nat.ne_of_gt (blk_lt (g := gb403) (o := .cells #[.int .i64 a1_0, .int .i64 a1_1, .int .i64 a1_2, .int .i64 a1_3, .int .i64 a1_4, .int .i64 a1_5, .int .i64 a1_6, .int .i64 a1_7, .int .i64 a1_8, .int .i64 a1_9, .int .i64 a1_10] 27 (0, 0)) (by (with_reducible repeat (first | refine blk_drewN ?_ _ | refine blk_drew ?_ | refine blk_alloc ?_ _)); exact BK403.out)) : gb438 ≠ gb403))
              clear BK402
              clear BK403
              clear HB
              have BK402 := n0_
              have BK403 := n1_
              have HB := n2_
              have BK438 := n3_
              have GW438 := n4_
              have GE438 := n5_
              have NB402_438 := n6_
              have NB438_402 := n7_
              have NB403_438 := n8_
              have NB438_403 := n9_
              clear n0_ n1_ n2_ n3_ n4_ n5_ n6_ n7_ n8_ n9_
              clear hb hbox hg
              refine hK.out _ _ ⟨(blk_cell BK402.out 0).trans rfl, (blk_cell BK402.out 1).trans rfl, (blk_cell BK402.out 2).trans rfl, (blk_cell BK402.out 3).trans rfl, (blk_cell BK402.out 4).trans rfl, (blk_cell BK402.out 5).trans rfl, (blk_cell BK402.out 6).trans rfl, (blk_cell BK402.out 7).trans rfl, (blk_cell BK402.out 8).trans rfl, (blk_cell BK402.out 9).trans rfl, (blk_cell BK402.out 10).trans rfl, (blk_cell BK403.out 0).trans rfl, (blk_cell BK403.out 1).trans rfl, (blk_cell BK403.out 2).trans rfl, (blk_cell BK403.out 3).trans rfl, (blk_cell BK403.out 4).trans rfl, (blk_cell BK403.out 5).trans rfl, (blk_cell BK403.out 6).trans rfl, (blk_cell BK403.out 7).trans rfl, (blk_cell BK403.out 8).trans rfl, (blk_cell BK403.out 9).trans rfl, (blk_cell BK403.out 10).trans rfl⟩ (fun hHeld => ?_)
              clear hK K
              refine norm_ (a' := ?_) ?_ ?_
              rotate_left
              · show Act.put _ (some 5) _ = _
                simp only [Act.put, List.setIfInBounds_toArray, List.set_cons_zero, List.set_cons_succ, i64_w, i32_w]
                rfl
              refine one_ (i := 4) (N := some 14) #[true, true, true, true, true, false, false, false, true, false, false] rfl rfl (one_of HT_.out (by kernel_rfl)) (by decide) (fun K hK => ?_)
              refine goes_ Try.func30 (by kernel_rfl) rfl #[.agg #[.int .i64 t404, .int .i64 t405, .int .i64 t406, .int .i64 t407, .int .i64 t408, .int .i64 t409, .int .i64 t410, .int .i64 t411, .int .i64 t412, .int .i64 t413, .int .i64 t414], .agg #[.int .i64 t415, .int .i64 t416, .int .i64 t417, .int .i64 t418, .int .i64 t419, .int .i64 t420, .int .i64 t421, .int .i64 t422, .int .i64 t423, .int .i64 t424, .int .i64 t425]] (by rfl) rfl rfl (by (try simp only [List.map_toArray, List.map_cons, List.map_nil]); first | done | rfl | (simp only [List.length_drop, List.length_take]; rfl)) ?_
              with_reducible refine (spec_Meet.calls k t404 t405 t406 t407 t408 t409 t410 t411 t412 t413 t414 t415 t416 t417 t418 t419 t420 t421 t422 t423 t424 t425 t426 t427 t428 t429 t430 t431 t432 t433 t434 t435 t436 t437 _ A5.out).mono ?_
              rintro e w18 ⟨rfl, hb⟩
              refine ⟨_, rfl, ?_⟩
              have n0_ := Aside0.mk (blk_below (g := gb402) (o := .cells #[.int .i64 a0_0, .int .i64 a0_1, .int .i64 a0_2, .int .i64 a0_3, .int .i64 a0_4, .int .i64 a0_5, .int .i64 a0_6, .int .i64 a0_7, .int .i64 a0_8, .int .i64 a0_9, .int .i64 a0_10] 27 (0, 0)) (by (with_reducible repeat (first | refine blk_drewN ?_ _ | refine blk_drew ?_ | refine blk_alloc ?_ _)); exact BK402.out) hb)
              have n1_ := Aside0.mk (blk_below (g := gb403) (o := .cells #[.int .i64 a1_0, .int .i64 a1_1, .int .i64 a1_2, .int .i64 a1_3, .int .i64 a1_4, .int .i64 a1_5, .int .i64 a1_6, .int .i64 a1_7, .int .i64 a1_8, .int .i64 a1_9, .int .i64 a1_10] 27 (0, 0)) (by (with_reducible repeat (first | refine blk_drewN ?_ _ | refine blk_drew ?_ | refine blk_alloc ?_ _)); exact BK403.out) hb)
              have n2_ := Aside0.mk (blk_below (g := gb438) (o := .cells #[.int .i64 0, .int .i64 0, .int .i64 0, .int .i64 0, .int .i64 0, .int .i64 0, .int .i64 0, .int .i64 0, .int .i64 0, .int .i64 0, .int .i64 0] 23 (0, 0)) (by (with_reducible repeat (first | refine blk_drewN ?_ _ | refine blk_drew ?_ | refine blk_alloc ?_ _)); exact BK438.out) hb)
              have n3_ := Aside0.mk (below_step (by repeat (first | (with_reducible first | exact HB.out | apply below_alloc | apply pw_below_drewN | apply below_drew1 | refine below_set ?_ GE402.out | refine below_set ?_ GE403.out | refine below_set ?_ GE438.out) | exact HB.out)) hb)
              clear BK402
              clear BK403
              clear BK438
              clear HB
              have BK402 := n0_
              have BK403 := n1_
              have BK438 := n2_
              have HB := n3_
              clear n0_ n1_ n2_ n3_
              (try clear hb)
              (try clear hb2)
              (try clear hk)
              (try clear hi)
              refine hK.out _ _ ⟨(blk_cell BK402.out 0).trans rfl, (blk_cell BK402.out 1).trans rfl, (blk_cell BK402.out 2).trans rfl, (blk_cell BK402.out 3).trans rfl, (blk_cell BK402.out 4).trans rfl, (blk_cell BK402.out 5).trans rfl, (blk_cell BK402.out 6).trans rfl, (blk_cell BK402.out 7).trans rfl, (blk_cell BK402.out 8).trans rfl, (blk_cell BK402.out 9).trans rfl, (blk_cell BK402.out 10).trans rfl, (blk_cell BK403.out 0).trans rfl, (blk_cell BK403.out 1).trans rfl, (blk_cell BK403.out 2).trans rfl, (blk_cell BK403.out 3).trans rfl, (blk_cell BK403.out 4).trans rfl, (blk_cell BK403.out 5).trans rfl, (blk_cell BK403.out 6).trans rfl, (blk_cell BK403.out 7).trans rfl, (blk_cell BK403.out 8).trans rfl, (blk_cell BK403.out 9).trans rfl, (blk_cell BK403.out 10).trans rfl⟩ (fun hHeld => ?_)
              clear hK K
              refine norm_ (a' := ?_) ?_ ?_
              rotate_left
              · show Act.put _ (some 14) _ = _
                simp only [Act.put, List.setIfInBounds_toArray, List.set_cons_zero, List.set_cons_succ, i64_w, i32_w]
                rfl
              refine pure_ (i := 5) (N := some 9) (v := ?_) (a' := ?_) #[true, true, true, true, true, true, false, false, true, false, false] rfl rfl (any_of HT_.out (by kernel_rfl)) (fun _ _ _ h => h) (Or.inl ⟨by rfl, ?_⟩) ?_ ?_
              rotate_left
              · intro w'
                go_simp
                with_reducible rfl
              rotate_left
              · simp only [Act.put, List.setIfInBounds_toArray, List.set_cons_zero, List.set_cons_succ, i64_w, i32_w]
                rfl
              refine pure_ (i := 6) (N := some 15) (v := ?_) (a' := ?_) #[true, true, true, true, true, true, true, false, true, false, false] rfl rfl (any_of HT_.out (by kernel_rfl)) (fun _ _ _ h => h) (Or.inl ⟨by rfl, ?_⟩) ?_ ?_
              rotate_left
              · intro w'
                go_simp
                with_reducible rfl
              rotate_left
              · simp only [Act.put, List.setIfInBounds_toArray, List.set_cons_zero, List.set_cons_succ, i64_w, i32_w]
                rfl
              refine pure_ (i := 7) (N := some 16) (v := ?_) (a' := ?_) #[true, true, true, true, true, true, true, true, true, false, false] rfl rfl (any_of HT_.out (by kernel_rfl)) (fun _ _ _ h => h) (Or.inl ⟨by rfl, ?_⟩) ?_ ?_
              rotate_left
              · intro w'
                go_simp
                with_reducible rfl
              rotate_left
              · simp only [Act.put, List.setIfInBounds_toArray, List.set_cons_zero, List.set_cons_succ, i64_w, i32_w]
                rfl
              exact norm_ (by simp only [putAll, Act.put, List.setIfInBounds_toArray, List.set_cons_zero, List.set_cons_succ]) (hCont (gb438) _ ⟨hHeld, (by (with_reducible repeat (first | refine blk_drewN ?_ _ | refine blk_drew ?_ | refine blk_alloc ?_ _)); exact BK402.out), (by (with_reducible repeat (first | refine blk_drewN ?_ _ | refine blk_drew ?_ | refine blk_alloc ?_ _)); exact BK403.out), (by (with_reducible repeat (first | refine blk_drewN ?_ _ | refine blk_drew ?_ | refine blk_alloc ?_ _)); exact BK438.out), GW438.out, GE438.out, NB402_438.out, NB438_402.out, NB403_438.out, NB438_403.out, (by repeat (first | (with_reducible first | exact HB.out | apply below_alloc | apply pw_below_drewN | apply below_drew1 | refine below_set ?_ GE402.out | refine below_set ?_ GE403.out | refine below_set ?_ GE438.out) | exact HB.out))⟩)
          · skip
            refine box_step ?hg (N := 5) ?hd (cs := #[.int .i64 0, .int .i64 0, .int .i64 0, .int .i64 0, .int .i64 0, .int .i64 0, .int .i64 0, .int .i64 0, .int .i64 0, .int .i64 0, .int .i64 0]) (t := 23) ?hr ?_; (case hd => rfl); (case hg => rfl); (case hr => first | (go_simp; done) | (go_simp; rfl))
            intro gb438 hg w16 hbox hb
            have n0_ := Aside0.mk (blk_below (g := gb402) (o := .cells #[.int .i64 a0_0, .int .i64 a0_1, .int .i64 a0_2, .int .i64 a0_3, .int .i64 a0_4, .int .i64 a0_5, .int .i64 a0_6, .int .i64 a0_7, .int .i64 a0_8, .int .i64 a0_9, .int .i64 a0_10] 27 (0, 0)) (by (with_reducible repeat (first | refine blk_drewN ?_ _ | refine blk_drew ?_ | refine blk_alloc ?_ _)); exact BK402.out) hb)
            have n1_ := Aside0.mk (blk_below (g := gb403) (o := .cells #[.int .i64 a1_0, .int .i64 a1_1, .int .i64 a1_2, .int .i64 a1_3, .int .i64 a1_4, .int .i64 a1_5, .int .i64 a1_6, .int .i64 a1_7, .int .i64 a1_8, .int .i64 a1_9, .int .i64 a1_10] 27 (0, 0)) (by (with_reducible repeat (first | refine blk_drewN ?_ _ | refine blk_drew ?_ | refine blk_alloc ?_ _)); exact BK403.out) hb)
            have n2_ := Aside0.mk (below_step (by repeat (first | (with_reducible first | exact HB.out | apply below_alloc | apply pw_below_drewN | apply below_drew1 | refine below_set ?_ GE402.out | refine below_set ?_ GE403.out) | exact HB.out)) hb)
            have n3_ := Aside0.mk (hbox)
            have n4_ := Aside0.mk ((by rw [hg]; exact (below_size (by repeat (first | (with_reducible first | exact HB.out | apply below_alloc | apply pw_below_drewN | apply below_drew1 | refine below_set ?_ GE402.out | refine below_set ?_ GE403.out) | exact HB.out))) : w.heap.size ≤ gb438))
            have n5_ := Aside0.mk ((by rw [hg]; exact (below_size (by repeat (first | (with_reducible first | exact HB.out | apply below_alloc | apply pw_below_drewN | apply below_drew1 | refine below_set ?_ GE402.out | refine below_set ?_ GE403.out) | exact HB.out))) : w.heap.size ≤ gb438))
            have n6_ := Aside0.mk ((by rw [hg]; exact Nat.ne_of_lt (blk_lt (g := gb402) (o := .cells #[.int .i64 a0_0, .int .i64 a0_1, .int .i64 a0_2, .int .i64 a0_3, .int .i64 a0_4, .int .i64 a0_5, .int .i64 a0_6, .int .i64 a0_7, .int .i64 a0_8, .int .i64 a0_9, .int .i64 a0_10] 27 (0, 0)) (by (with_reducible repeat (first | refine blk_drewN ?_ _ | refine blk_drew ?_ | refine blk_alloc ?_ _)); exact BK402.out)) : gb402 ≠ gb438))
            have n7_ := Aside0.mk ((by rw [hg]; exact Nat.ne_of_gt (blk_lt (g := gb402) (o := .cells #[.int .i64 a0_0, .int .i64 a0_1, .int .i64 a0_2, .int .i64 a0_3, .int .i64 a0_4, .int .i64 a0_5, .int .i64 a0_6, .int .i64 a0_7, .int .i64 a0_8, .int .i64 a0_9, .int .i64 a0_10] 27 (0, 0)) (by (with_reducible repeat (first | refine blk_drewN ?_ _ | refine blk_drew ?_ | refine blk_alloc ?_ _)); exact BK402.out)) : gb438 ≠ gb402))
            have n8_ := Aside0.mk ((by rw [hg]; exact Nat.ne_of_lt (blk_lt (g := gb403) (o := .cells #[.int .i64 a1_0, .int .i64 a1_1, .int .i64 a1_2, .int .i64 a1_3, .int .i64 a1_4, .int .i64 a1_5, .int .i64 a1_6, .int .i64 a1_7, .int .i64 a1_8, .int .i64 a1_9, .int .i64 a1_10] 27 (0, 0)) (by (with_reducible repeat (first | refine blk_drewN ?_ _ | refine blk_drew ?_ | refine blk_alloc ?_ _)); exact BK403.out)) : gb403 ≠ gb438))
            have n9_ := Aside0.mk ((by rw [hg]; exact Nat.ne_of_gt (blk_lt (g := gb403) (o := .cells #[.int .i64 a1_0, .int .i64 a1_1, .int .i64 a1_2, .int .i64 a1_3, .int .i64 a1_4, .int .i64 a1_5, .int .i64 a1_6, .int .i64 a1_7, .int .i64 a1_8, .int .i64 a1_9, .int .i64 a1_10] 27 (0, 0)) (by (with_reducible repeat (first | refine blk_drewN ?_ _ | refine blk_drew ?_ | refine blk_alloc ?_ _)); exact BK403.out)) : gb438 ≠ gb403))
            clear BK402
            clear BK403
            clear HB
            have BK402 := n0_
            have BK403 := n1_
            have HB := n2_
            have BK438 := n3_
            have GW438 := n4_
            have GE438 := n5_
            have NB402_438 := n6_
            have NB438_402 := n7_
            have NB403_438 := n8_
            have NB438_403 := n9_
            clear n0_ n1_ n2_ n3_ n4_ n5_ n6_ n7_ n8_ n9_
            clear hb hbox hg
            refine hK.out _ _ ⟨(blk_cell BK402.out 0).trans rfl, (blk_cell BK402.out 1).trans rfl, (blk_cell BK402.out 2).trans rfl, (blk_cell BK402.out 3).trans rfl, (blk_cell BK402.out 4).trans rfl, (blk_cell BK402.out 5).trans rfl, (blk_cell BK402.out 6).trans rfl, (blk_cell BK402.out 7).trans rfl, (blk_cell BK402.out 8).trans rfl, (blk_cell BK402.out 9).trans rfl, (blk_cell BK402.out 10).trans rfl, (blk_cell BK403.out 0).trans rfl, (blk_cell BK403.out 1).trans rfl, (blk_cell BK403.out 2).trans rfl, (blk_cell BK403.out 3).trans rfl, (blk_cell BK403.out 4).trans rfl, (blk_cell BK403.out 5).trans rfl, (blk_cell BK403.out 6).trans rfl, (blk_cell BK403.out 7).trans rfl, (blk_cell BK403.out 8).trans rfl, (blk_cell BK403.out 9).trans rfl, (blk_cell BK403.out 10).trans rfl⟩ (fun hHeld => ?_)
            clear hK K
            refine norm_ (a' := ?_) ?_ ?_
            rotate_left
            · show Act.put _ (some 5) _ = _
              simp only [Act.put, List.setIfInBounds_toArray, List.set_cons_zero, List.set_cons_succ, i64_w, i32_w]
              rfl
            refine one_ (i := 3) (N := some 13) #[true, true, true, true, false, false, false, false, true, false, false] rfl rfl (one_of HT_.out (by kernel_rfl)) (by decide) (fun K hK => ?_)
            refine goes_ Try.func19 (by kernel_rfl) rfl #[.agg #[.int .i64 a1_0, .int .i64 a1_1, .int .i64 a1_2, .int .i64 a1_3, .int .i64 a1_4, .int .i64 a1_5, .int .i64 a1_6, .int .i64 a1_7, .int .i64 a1_8, .int .i64 a1_9, .int .i64 a1_10]] (by rfl) rfl rfl (by (try simp only [List.map_toArray, List.map_cons, List.map_nil]); first | done | rfl | (simp only [List.length_drop, List.length_take]; rfl)) ?_
            with_reducible refine (laws_toKnow.calls a1_0 a1_1 a1_2 a1_3 a1_4 a1_5 a1_6 a1_7 a1_8 a1_9 a1_10 t415 t416 t417 t418 t419 t420 t421 t422 t423 t424 t425 _ A4.out).mono ?_
            rintro e w17 ⟨rfl, hb⟩
            refine ⟨_, rfl, ?_⟩
            have n0_ := Aside0.mk (blk_below (g := gb402) (o := .cells #[.int .i64 a0_0, .int .i64 a0_1, .int .i64 a0_2, .int .i64 a0_3, .int .i64 a0_4, .int .i64 a0_5, .int .i64 a0_6, .int .i64 a0_7, .int .i64 a0_8, .int .i64 a0_9, .int .i64 a0_10] 27 (0, 0)) (by (with_reducible repeat (first | refine blk_drewN ?_ _ | refine blk_drew ?_ | refine blk_alloc ?_ _)); exact BK402.out) hb)
            have n1_ := Aside0.mk (blk_below (g := gb403) (o := .cells #[.int .i64 a1_0, .int .i64 a1_1, .int .i64 a1_2, .int .i64 a1_3, .int .i64 a1_4, .int .i64 a1_5, .int .i64 a1_6, .int .i64 a1_7, .int .i64 a1_8, .int .i64 a1_9, .int .i64 a1_10] 27 (0, 0)) (by (with_reducible repeat (first | refine blk_drewN ?_ _ | refine blk_drew ?_ | refine blk_alloc ?_ _)); exact BK403.out) hb)
            have n2_ := Aside0.mk (blk_below (g := gb438) (o := .cells #[.int .i64 0, .int .i64 0, .int .i64 0, .int .i64 0, .int .i64 0, .int .i64 0, .int .i64 0, .int .i64 0, .int .i64 0, .int .i64 0, .int .i64 0] 23 (0, 0)) (by (with_reducible repeat (first | refine blk_drewN ?_ _ | refine blk_drew ?_ | refine blk_alloc ?_ _)); exact BK438.out) hb)
            have n3_ := Aside0.mk (below_step (by repeat (first | (with_reducible first | exact HB.out | apply below_alloc | apply pw_below_drewN | apply below_drew1 | refine below_set ?_ GE402.out | refine below_set ?_ GE403.out | refine below_set ?_ GE438.out) | exact HB.out)) hb)
            clear BK402
            clear BK403
            clear BK438
            clear HB
            have BK402 := n0_
            have BK403 := n1_
            have BK438 := n2_
            have HB := n3_
            clear n0_ n1_ n2_ n3_
            (try clear hb)
            (try clear hb2)
            (try clear hk)
            (try clear hi)
            refine hK.out _ _ ⟨(blk_cell BK402.out 0).trans rfl, (blk_cell BK402.out 1).trans rfl, (blk_cell BK402.out 2).trans rfl, (blk_cell BK402.out 3).trans rfl, (blk_cell BK402.out 4).trans rfl, (blk_cell BK402.out 5).trans rfl, (blk_cell BK402.out 6).trans rfl, (blk_cell BK402.out 7).trans rfl, (blk_cell BK402.out 8).trans rfl, (blk_cell BK402.out 9).trans rfl, (blk_cell BK402.out 10).trans rfl, (blk_cell BK403.out 0).trans rfl, (blk_cell BK403.out 1).trans rfl, (blk_cell BK403.out 2).trans rfl, (blk_cell BK403.out 3).trans rfl, (blk_cell BK403.out 4).trans rfl, (blk_cell BK403.out 5).trans rfl, (blk_cell BK403.out 6).trans rfl, (blk_cell BK403.out 7).trans rfl, (blk_cell BK403.out 8).trans rfl, (blk_cell BK403.out 9).trans rfl, (blk_cell BK403.out 10).trans rfl⟩ (fun hHeld => ?_)
            clear hK K
            refine norm_ (a' := ?_) ?_ ?_
            rotate_left
            · show Act.put _ (some 13) _ = _
              simp only [Act.put, List.setIfInBounds_toArray, List.set_cons_zero, List.set_cons_succ, i64_w, i32_w]
              rfl
            refine one_ (i := 4) (N := some 14) #[true, true, true, true, true, false, false, false, true, false, false] rfl rfl (one_of HT_.out (by kernel_rfl)) (by decide) (fun K hK => ?_)
            refine goes_ Try.func30 (by kernel_rfl) rfl #[.agg #[.int .i64 t404, .int .i64 t405, .int .i64 t406, .int .i64 t407, .int .i64 t408, .int .i64 t409, .int .i64 t410, .int .i64 t411, .int .i64 t412, .int .i64 t413, .int .i64 t414], .agg #[.int .i64 t415, .int .i64 t416, .int .i64 t417, .int .i64 t418, .int .i64 t419, .int .i64 t420, .int .i64 t421, .int .i64 t422, .int .i64 t423, .int .i64 t424, .int .i64 t425]] (by rfl) rfl rfl (by (try simp only [List.map_toArray, List.map_cons, List.map_nil]); first | done | rfl | (simp only [List.length_drop, List.length_take]; rfl)) ?_
            with_reducible refine (spec_Meet.calls k t404 t405 t406 t407 t408 t409 t410 t411 t412 t413 t414 t415 t416 t417 t418 t419 t420 t421 t422 t423 t424 t425 t426 t427 t428 t429 t430 t431 t432 t433 t434 t435 t436 t437 _ A5.out).mono ?_
            rintro e w18 ⟨rfl, hb⟩
            refine ⟨_, rfl, ?_⟩
            have n0_ := Aside0.mk (blk_below (g := gb402) (o := .cells #[.int .i64 a0_0, .int .i64 a0_1, .int .i64 a0_2, .int .i64 a0_3, .int .i64 a0_4, .int .i64 a0_5, .int .i64 a0_6, .int .i64 a0_7, .int .i64 a0_8, .int .i64 a0_9, .int .i64 a0_10] 27 (0, 0)) (by (with_reducible repeat (first | refine blk_drewN ?_ _ | refine blk_drew ?_ | refine blk_alloc ?_ _)); exact BK402.out) hb)
            have n1_ := Aside0.mk (blk_below (g := gb403) (o := .cells #[.int .i64 a1_0, .int .i64 a1_1, .int .i64 a1_2, .int .i64 a1_3, .int .i64 a1_4, .int .i64 a1_5, .int .i64 a1_6, .int .i64 a1_7, .int .i64 a1_8, .int .i64 a1_9, .int .i64 a1_10] 27 (0, 0)) (by (with_reducible repeat (first | refine blk_drewN ?_ _ | refine blk_drew ?_ | refine blk_alloc ?_ _)); exact BK403.out) hb)
            have n2_ := Aside0.mk (blk_below (g := gb438) (o := .cells #[.int .i64 0, .int .i64 0, .int .i64 0, .int .i64 0, .int .i64 0, .int .i64 0, .int .i64 0, .int .i64 0, .int .i64 0, .int .i64 0, .int .i64 0] 23 (0, 0)) (by (with_reducible repeat (first | refine blk_drewN ?_ _ | refine blk_drew ?_ | refine blk_alloc ?_ _)); exact BK438.out) hb)
            have n3_ := Aside0.mk (below_step (by repeat (first | (with_reducible first | exact HB.out | apply below_alloc | apply pw_below_drewN | apply below_drew1 | refine below_set ?_ GE402.out | refine below_set ?_ GE403.out | refine below_set ?_ GE438.out) | exact HB.out)) hb)
            clear BK402
            clear BK403
            clear BK438
            clear HB
            have BK402 := n0_
            have BK403 := n1_
            have BK438 := n2_
            have HB := n3_
            clear n0_ n1_ n2_ n3_
            (try clear hb)
            (try clear hb2)
            (try clear hk)
            (try clear hi)
            refine hK.out _ _ ⟨(blk_cell BK402.out 0).trans rfl, (blk_cell BK402.out 1).trans rfl, (blk_cell BK402.out 2).trans rfl, (blk_cell BK402.out 3).trans rfl, (blk_cell BK402.out 4).trans rfl, (blk_cell BK402.out 5).trans rfl, (blk_cell BK402.out 6).trans rfl, (blk_cell BK402.out 7).trans rfl, (blk_cell BK402.out 8).trans rfl, (blk_cell BK402.out 9).trans rfl, (blk_cell BK402.out 10).trans rfl, (blk_cell BK403.out 0).trans rfl, (blk_cell BK403.out 1).trans rfl, (blk_cell BK403.out 2).trans rfl, (blk_cell BK403.out 3).trans rfl, (blk_cell BK403.out 4).trans rfl, (blk_cell BK403.out 5).trans rfl, (blk_cell BK403.out 6).trans rfl, (blk_cell BK403.out 7).trans rfl, (blk_cell BK403.out 8).trans rfl, (blk_cell BK403.out 9).trans rfl, (blk_cell BK403.out 10).trans rfl⟩ (fun hHeld => ?_)
            clear hK K
            refine norm_ (a' := ?_) ?_ ?_
            rotate_left
            · show Act.put _ (some 14) _ = _
              simp only [Act.put, List.setIfInBounds_toArray, List.set_cons_zero, List.set_cons_succ, i64_w, i32_w]
              rfl
            refine pure_ (i := 5) (N := some 9) (v := ?_) (a' := ?_) #[true, true, true, true, true, true, false, false, true, false, false] rfl rfl (any_of HT_.out (by kernel_rfl)) (fun _ _ _ h => h) (Or.inl ⟨by rfl, ?_⟩) ?_ ?_
            rotate_left
            · intro w'
              go_simp
              with_reducible rfl
            rotate_left
            · simp only [Act.put, List.setIfInBounds_toArray, List.set_cons_zero, List.set_cons_succ, i64_w, i32_w]
              rfl
            refine pure_ (i := 6) (N := some 15) (v := ?_) (a' := ?_) #[true, true, true, true, true, true, true, false, true, false, false] rfl rfl (any_of HT_.out (by kernel_rfl)) (fun _ _ _ h => h) (Or.inl ⟨by rfl, ?_⟩) ?_ ?_
            rotate_left
            · intro w'
              go_simp
              with_reducible rfl
            rotate_left
            · simp only [Act.put, List.setIfInBounds_toArray, List.set_cons_zero, List.set_cons_succ, i64_w, i32_w]
              rfl
            refine pure_ (i := 7) (N := some 16) (v := ?_) (a' := ?_) #[true, true, true, true, true, true, true, true, true, false, false] rfl rfl (any_of HT_.out (by kernel_rfl)) (fun _ _ _ h => h) (Or.inl ⟨by rfl, ?_⟩) ?_ ?_
            rotate_left
            · intro w'
              go_simp
              with_reducible rfl
            rotate_left
            · simp only [Act.put, List.setIfInBounds_toArray, List.set_cons_zero, List.set_cons_succ, i64_w, i32_w]
              rfl
            exact norm_ (by simp only [putAll, Act.put, List.setIfInBounds_toArray, List.set_cons_zero, List.set_cons_succ]) (hCont (gb438) _ ⟨hHeld, (by (with_reducible repeat (first | refine blk_drewN ?_ _ | refine blk_drew ?_ | refine blk_alloc ?_ _)); exact BK402.out), (by (with_reducible repeat (first | refine blk_drewN ?_ _ | refine blk_drew ?_ | refine blk_alloc ?_ _)); exact BK403.out), (by (with_reducible repeat (first | refine blk_drewN ?_ _ | refine blk_drew ?_ | refine blk_alloc ?_ _)); exact BK438.out), GW438.out, GE438.out, NB402_438.out, NB438_402.out, NB403_438.out, NB438_403.out, (by repeat (first | (with_reducible first | exact HB.out | apply below_alloc | apply pw_below_drewN | apply below_drew1 | refine below_set ?_ GE402.out | refine below_set ?_ GE403.out | refine below_set ?_ GE438.out) | exact HB.out))⟩)
        · skip
          refine box_step ?hg (N := 5) ?hd (cs := #[.int .i64 0, .int .i64 0, .int .i64 0, .int .i64 0, .int .i64 0, .int .i64 0, .int .i64 0, .int .i64 0, .int .i64 0, .int .i64 0, .int .i64 0]) (t := 23) ?hr ?_; (case hd => rfl); (case hg => rfl); (case hr => first | (go_simp; done) | (go_simp; rfl))
          intro gb438 hg w15 hbox hb
          have n0_ := Aside0.mk (blk_below (g := gb402) (o := .cells #[.int .i64 a0_0, .int .i64 a0_1, .int .i64 a0_2, .int .i64 a0_3, .int .i64 a0_4, .int .i64 a0_5, .int .i64 a0_6, .int .i64 a0_7, .int .i64 a0_8, .int .i64 a0_9, .int .i64 a0_10] 27 (0, 0)) (by (with_reducible repeat (first | refine blk_drewN ?_ _ | refine blk_drew ?_ | refine blk_alloc ?_ _)); exact BK402.out) hb)
          have n1_ := Aside0.mk (blk_below (g := gb403) (o := .cells #[.int .i64 a1_0, .int .i64 a1_1, .int .i64 a1_2, .int .i64 a1_3, .int .i64 a1_4, .int .i64 a1_5, .int .i64 a1_6, .int .i64 a1_7, .int .i64 a1_8, .int .i64 a1_9, .int .i64 a1_10] 27 (0, 0)) (by (with_reducible repeat (first | refine blk_drewN ?_ _ | refine blk_drew ?_ | refine blk_alloc ?_ _)); exact BK403.out) hb)
          have n2_ := Aside0.mk (below_step (by repeat (first | (with_reducible first | exact HB.out | apply below_alloc | apply pw_below_drewN | apply below_drew1 | refine below_set ?_ GE402.out | refine below_set ?_ GE403.out) | exact HB.out)) hb)
          have n3_ := Aside0.mk (hbox)
          have n4_ := Aside0.mk ((by rw [hg]; exact (below_size (by repeat (first | (with_reducible first | exact HB.out | apply below_alloc | apply pw_below_drewN | apply below_drew1 | refine below_set ?_ GE402.out | refine below_set ?_ GE403.out) | exact HB.out))) : w.heap.size ≤ gb438))
          have n5_ := Aside0.mk ((by rw [hg]; exact (below_size (by repeat (first | (with_reducible first | exact HB.out | apply below_alloc | apply pw_below_drewN | apply below_drew1 | refine below_set ?_ GE402.out | refine below_set ?_ GE403.out) | exact HB.out))) : w.heap.size ≤ gb438))
          have n6_ := Aside0.mk ((by rw [hg]; exact Nat.ne_of_lt (blk_lt (g := gb402) (o := .cells #[.int .i64 a0_0, .int .i64 a0_1, .int .i64 a0_2, .int .i64 a0_3, .int .i64 a0_4, .int .i64 a0_5, .int .i64 a0_6, .int .i64 a0_7, .int .i64 a0_8, .int .i64 a0_9, .int .i64 a0_10] 27 (0, 0)) (by (with_reducible repeat (first | refine blk_drewN ?_ _ | refine blk_drew ?_ | refine blk_alloc ?_ _)); exact BK402.out)) : gb402 ≠ gb438))
          have n7_ := Aside0.mk ((by rw [hg]; exact Nat.ne_of_gt (blk_lt (g := gb402) (o := .cells #[.int .i64 a0_0, .int .i64 a0_1, .int .i64 a0_2, .int .i64 a0_3, .int .i64 a0_4, .int .i64 a0_5, .int .i64 a0_6, .int .i64 a0_7, .int .i64 a0_8, .int .i64 a0_9, .int .i64 a0_10] 27 (0, 0)) (by (with_reducible repeat (first | refine blk_drewN ?_ _ | refine blk_drew ?_ | refine blk_alloc ?_ _)); exact BK402.out)) : gb438 ≠ gb402))
          have n8_ := Aside0.mk ((by rw [hg]; exact Nat.ne_of_lt (blk_lt (g := gb403) (o := .cells #[.int .i64 a1_0, .int .i64 a1_1, .int .i64 a1_2, .int .i64 a1_3, .int .i64 a1_4, .int .i64 a1_5, .int .i64 a1_6, .int .i64 a1_7, .int .i64 a1_8, .int .i64 a1_9, .int .i64 a1_10] 27 (0, 0)) (by (with_reducible repeat (first | refine blk_drewN ?_ _ | refine blk_drew ?_ | refine blk_alloc ?_ _)); exact BK403.out)) : gb403 ≠ gb438))
          have n9_ := Aside0.mk ((by rw [hg]; exact Nat.ne_of_gt (blk_lt (g := gb403) (o := .cells #[.int .i64 a1_0, .int .i64 a1_1, .int .i64 a1_2, .int .i64 a1_3, .int .i64 a1_4, .int .i64 a1_5, .int .i64 a1_6, .int .i64 a1_7, .int .i64 a1_8, .int .i64 a1_9, .int .i64 a1_10] 27 (0, 0)) (by (with_reducible repeat (first | refine blk_drewN ?_ _ | refine blk_drew ?_ | refine blk_alloc ?_ _)); exact BK403.out)) : gb438 ≠ gb403))
          clear BK402
          clear BK403
          clear HB
          have BK402 := n0_
          have BK403 := n1_
          have HB := n2_
          have BK438 := n3_
          have GW438 := n4_
          have GE438 := n5_
          have NB402_438 := n6_
          have NB438_402 := n7_
          have NB403_438 := n8_
          have NB438_403 := n9_
          clear n0_ n1_ n2_ n3_ n4_ n5_ n6_ n7_ n8_ n9_
          clear hb hbox hg
          refine hK.out _ _ ⟨(blk_cell BK402.out 0).trans rfl, (blk_cell BK402.out 1).trans rfl, (blk_cell BK402.out 2).trans rfl, (blk_cell BK402.out 3).trans rfl, (blk_cell BK402.out 4).trans rfl, (blk_cell BK402.out 5).trans rfl, (blk_cell BK402.out 6).trans rfl, (blk_cell BK402.out 7).trans rfl, (blk_cell BK402.out 8).trans rfl, (blk_cell BK402.out 9).trans rfl, (blk_cell BK402.out 10).trans rfl, (blk_cell BK403.out 0).trans rfl, (blk_cell BK403.out 1).trans rfl, (blk_cell BK403.out 2).trans rfl, (blk_cell BK403.out 3).trans rfl, (blk_cell BK403.out 4).trans rfl, (blk_cell BK403.out 5).trans rfl, (blk_cell BK403.out 6).trans rfl, (blk_cell BK403.out 7).trans rfl, (blk_cell BK403.out 8).trans rfl, (blk_cell BK403.out 9).trans rfl, (blk_cell BK403.out 10).trans rfl⟩ (fun hHeld => ?_)
          clear hK K
          refine norm_ (a' := ?_) ?_ ?_
          rotate_left
          · show Act.put _ (some 5) _ = _
            simp only [Act.put, List.setIfInBounds_toArray, List.set_cons_zero, List.set_cons_succ, i64_w, i32_w]
            rfl
          refine one_ (i := 1) (N := some 11) #[true, true, true, false, false, false, false, false, true, false, false] rfl rfl (one_of HT_.out (by kernel_rfl)) (by decide) (fun K hK => ?_)
          refine goes_ Try.func19 (by kernel_rfl) rfl #[.agg #[.int .i64 a0_0, .int .i64 a0_1, .int .i64 a0_2, .int .i64 a0_3, .int .i64 a0_4, .int .i64 a0_5, .int .i64 a0_6, .int .i64 a0_7, .int .i64 a0_8, .int .i64 a0_9, .int .i64 a0_10]] (by rfl) rfl rfl (by (try simp only [List.map_toArray, List.map_cons, List.map_nil]); first | done | rfl | (simp only [List.length_drop, List.length_take]; rfl)) ?_
          with_reducible refine (laws_toKnow.calls a0_0 a0_1 a0_2 a0_3 a0_4 a0_5 a0_6 a0_7 a0_8 a0_9 a0_10 t404 t405 t406 t407 t408 t409 t410 t411 t412 t413 t414 _ A3.out).mono ?_
          rintro e w16 ⟨rfl, hb⟩
          refine ⟨_, rfl, ?_⟩
          have n0_ := Aside0.mk (blk_below (g := gb402) (o := .cells #[.int .i64 a0_0, .int .i64 a0_1, .int .i64 a0_2, .int .i64 a0_3, .int .i64 a0_4, .int .i64 a0_5, .int .i64 a0_6, .int .i64 a0_7, .int .i64 a0_8, .int .i64 a0_9, .int .i64 a0_10] 27 (0, 0)) (by (with_reducible repeat (first | refine blk_drewN ?_ _ | refine blk_drew ?_ | refine blk_alloc ?_ _)); exact BK402.out) hb)
          have n1_ := Aside0.mk (blk_below (g := gb403) (o := .cells #[.int .i64 a1_0, .int .i64 a1_1, .int .i64 a1_2, .int .i64 a1_3, .int .i64 a1_4, .int .i64 a1_5, .int .i64 a1_6, .int .i64 a1_7, .int .i64 a1_8, .int .i64 a1_9, .int .i64 a1_10] 27 (0, 0)) (by (with_reducible repeat (first | refine blk_drewN ?_ _ | refine blk_drew ?_ | refine blk_alloc ?_ _)); exact BK403.out) hb)
          have n2_ := Aside0.mk (blk_below (g := gb438) (o := .cells #[.int .i64 0, .int .i64 0, .int .i64 0, .int .i64 0, .int .i64 0, .int .i64 0, .int .i64 0, .int .i64 0, .int .i64 0, .int .i64 0, .int .i64 0] 23 (0, 0)) (by (with_reducible repeat (first | refine blk_drewN ?_ _ | refine blk_drew ?_ | refine blk_alloc ?_ _)); exact BK438.out) hb)
          have n3_ := Aside0.mk (below_step (by repeat (first | (with_reducible first | exact HB.out | apply below_alloc | apply pw_below_drewN | apply below_drew1 | refine below_set ?_ GE402.out | refine below_set ?_ GE403.out | refine below_set ?_ GE438.out) | exact HB.out)) hb)
          clear BK402
          clear BK403
          clear BK438
          clear HB
          have BK402 := n0_
          have BK403 := n1_
          have BK438 := n2_
          have HB := n3_
          clear n0_ n1_ n2_ n3_
          (try clear hb)
          (try clear hb2)
          (try clear hk)
          (try clear hi)
          refine hK.out _ _ ⟨(blk_cell BK402.out 0).trans rfl, (blk_cell BK402.out 1).trans rfl, (blk_cell BK402.out 2).trans rfl, (blk_cell BK402.out 3).trans rfl, (blk_cell BK402.out 4).trans rfl, (blk_cell BK402.out 5).trans rfl, (blk_cell BK402.out 6).trans rfl, (blk_cell BK402.out 7).trans rfl, (blk_cell BK402.out 8).trans rfl, (blk_cell BK402.out 9).trans rfl, (blk_cell BK402.out 10).trans rfl, (blk_cell BK403.out 0).trans rfl, (blk_cell BK403.out 1).trans rfl, (blk_cell BK403.out 2).trans rfl, (blk_cell BK403.out 3).trans rfl, (blk_cell BK403.out 4).trans rfl, (blk_cell BK403.out 5).trans rfl, (blk_cell BK403.out 6).trans rfl, (blk_cell BK403.out 7).trans rfl, (blk_cell BK403.out 8).trans rfl, (blk_cell BK403.out 9).trans rfl, (blk_cell BK403.out 10).trans rfl⟩ (fun hHeld => ?_)
          clear hK K
          refine norm_ (a' := ?_) ?_ ?_
          rotate_left
          · show Act.put _ (some 11) _ = _
            simp only [Act.put, List.setIfInBounds_toArray, List.set_cons_zero, List.set_cons_succ, i64_w, i32_w]
            rfl
          refine one_ (i := 3) (N := some 13) #[true, true, true, true, false, false, false, false, true, false, false] rfl rfl (one_of HT_.out (by kernel_rfl)) (by decide) (fun K hK => ?_)
          refine goes_ Try.func19 (by kernel_rfl) rfl #[.agg #[.int .i64 a1_0, .int .i64 a1_1, .int .i64 a1_2, .int .i64 a1_3, .int .i64 a1_4, .int .i64 a1_5, .int .i64 a1_6, .int .i64 a1_7, .int .i64 a1_8, .int .i64 a1_9, .int .i64 a1_10]] (by rfl) rfl rfl (by (try simp only [List.map_toArray, List.map_cons, List.map_nil]); first | done | rfl | (simp only [List.length_drop, List.length_take]; rfl)) ?_
          with_reducible refine (laws_toKnow.calls a1_0 a1_1 a1_2 a1_3 a1_4 a1_5 a1_6 a1_7 a1_8 a1_9 a1_10 t415 t416 t417 t418 t419 t420 t421 t422 t423 t424 t425 _ A4.out).mono ?_
          rintro e w17 ⟨rfl, hb⟩
          refine ⟨_, rfl, ?_⟩
          have n0_ := Aside0.mk (blk_below (g := gb402) (o := .cells #[.int .i64 a0_0, .int .i64 a0_1, .int .i64 a0_2, .int .i64 a0_3, .int .i64 a0_4, .int .i64 a0_5, .int .i64 a0_6, .int .i64 a0_7, .int .i64 a0_8, .int .i64 a0_9, .int .i64 a0_10] 27 (0, 0)) (by (with_reducible repeat (first | refine blk_drewN ?_ _ | refine blk_drew ?_ | refine blk_alloc ?_ _)); exact BK402.out) hb)
          have n1_ := Aside0.mk (blk_below (g := gb403) (o := .cells #[.int .i64 a1_0, .int .i64 a1_1, .int .i64 a1_2, .int .i64 a1_3, .int .i64 a1_4, .int .i64 a1_5, .int .i64 a1_6, .int .i64 a1_7, .int .i64 a1_8, .int .i64 a1_9, .int .i64 a1_10] 27 (0, 0)) (by (with_reducible repeat (first | refine blk_drewN ?_ _ | refine blk_drew ?_ | refine blk_alloc ?_ _)); exact BK403.out) hb)
          have n2_ := Aside0.mk (blk_below (g := gb438) (o := .cells #[.int .i64 0, .int .i64 0, .int .i64 0, .int .i64 0, .int .i64 0, .int .i64 0, .int .i64 0, .int .i64 0, .int .i64 0, .int .i64 0, .int .i64 0] 23 (0, 0)) (by (with_reducible repeat (first | refine blk_drewN ?_ _ | refine blk_drew ?_ | refine blk_alloc ?_ _)); exact BK438.out) hb)
          have n3_ := Aside0.mk (below_step (by repeat (first | (with_reducible first | exact HB.out | apply below_alloc | apply pw_below_drewN | apply below_drew1 | refine below_set ?_ GE402.out | refine below_set ?_ GE403.out | refine below_set ?_ GE438.out) | exact HB.out)) hb)
          clear BK402
          clear BK403
          clear BK438
          clear HB
          have BK402 := n0_
          have BK403 := n1_
          have BK438 := n2_
          have HB := n3_
          clear n0_ n1_ n2_ n3_
          (try clear hb)
          (try clear hb2)
          (try clear hk)
          (try clear hi)
          refine hK.out _ _ ⟨(blk_cell BK402.out 0).trans rfl, (blk_cell BK402.out 1).trans rfl, (blk_cell BK402.out 2).trans rfl, (blk_cell BK402.out 3).trans rfl, (blk_cell BK402.out 4).trans rfl, (blk_cell BK402.out 5).trans rfl, (blk_cell BK402.out 6).trans rfl, (blk_cell BK402.out 7).trans rfl, (blk_cell BK402.out 8).trans rfl, (blk_cell BK402.out 9).trans rfl, (blk_cell BK402.out 10).trans rfl, (blk_cell BK403.out 0).trans rfl, (blk_cell BK403.out 1).trans rfl, (blk_cell BK403.out 2).trans rfl, (blk_cell BK403.out 3).trans rfl, (blk_cell BK403.out 4).trans rfl, (blk_cell BK403.out 5).trans rfl, (blk_cell BK403.out 6).trans rfl, (blk_cell BK403.out 7).trans rfl, (blk_cell BK403.out 8).trans rfl, (blk_cell BK403.out 9).trans rfl, (blk_cell BK403.out 10).trans rfl⟩ (fun hHeld => ?_)
          clear hK K
          refine norm_ (a' := ?_) ?_ ?_
          rotate_left
          · show Act.put _ (some 13) _ = _
            simp only [Act.put, List.setIfInBounds_toArray, List.set_cons_zero, List.set_cons_succ, i64_w, i32_w]
            rfl
          refine one_ (i := 4) (N := some 14) #[true, true, true, true, true, false, false, false, true, false, false] rfl rfl (one_of HT_.out (by kernel_rfl)) (by decide) (fun K hK => ?_)
          refine goes_ Try.func30 (by kernel_rfl) rfl #[.agg #[.int .i64 t404, .int .i64 t405, .int .i64 t406, .int .i64 t407, .int .i64 t408, .int .i64 t409, .int .i64 t410, .int .i64 t411, .int .i64 t412, .int .i64 t413, .int .i64 t414], .agg #[.int .i64 t415, .int .i64 t416, .int .i64 t417, .int .i64 t418, .int .i64 t419, .int .i64 t420, .int .i64 t421, .int .i64 t422, .int .i64 t423, .int .i64 t424, .int .i64 t425]] (by rfl) rfl rfl (by (try simp only [List.map_toArray, List.map_cons, List.map_nil]); first | done | rfl | (simp only [List.length_drop, List.length_take]; rfl)) ?_
          with_reducible refine (spec_Meet.calls k t404 t405 t406 t407 t408 t409 t410 t411 t412 t413 t414 t415 t416 t417 t418 t419 t420 t421 t422 t423 t424 t425 t426 t427 t428 t429 t430 t431 t432 t433 t434 t435 t436 t437 _ A5.out).mono ?_
          rintro e w18 ⟨rfl, hb⟩
          refine ⟨_, rfl, ?_⟩
          have n0_ := Aside0.mk (blk_below (g := gb402) (o := .cells #[.int .i64 a0_0, .int .i64 a0_1, .int .i64 a0_2, .int .i64 a0_3, .int .i64 a0_4, .int .i64 a0_5, .int .i64 a0_6, .int .i64 a0_7, .int .i64 a0_8, .int .i64 a0_9, .int .i64 a0_10] 27 (0, 0)) (by (with_reducible repeat (first | refine blk_drewN ?_ _ | refine blk_drew ?_ | refine blk_alloc ?_ _)); exact BK402.out) hb)
          have n1_ := Aside0.mk (blk_below (g := gb403) (o := .cells #[.int .i64 a1_0, .int .i64 a1_1, .int .i64 a1_2, .int .i64 a1_3, .int .i64 a1_4, .int .i64 a1_5, .int .i64 a1_6, .int .i64 a1_7, .int .i64 a1_8, .int .i64 a1_9, .int .i64 a1_10] 27 (0, 0)) (by (with_reducible repeat (first | refine blk_drewN ?_ _ | refine blk_drew ?_ | refine blk_alloc ?_ _)); exact BK403.out) hb)
          have n2_ := Aside0.mk (blk_below (g := gb438) (o := .cells #[.int .i64 0, .int .i64 0, .int .i64 0, .int .i64 0, .int .i64 0, .int .i64 0, .int .i64 0, .int .i64 0, .int .i64 0, .int .i64 0, .int .i64 0] 23 (0, 0)) (by (with_reducible repeat (first | refine blk_drewN ?_ _ | refine blk_drew ?_ | refine blk_alloc ?_ _)); exact BK438.out) hb)
          have n3_ := Aside0.mk (below_step (by repeat (first | (with_reducible first | exact HB.out | apply below_alloc | apply pw_below_drewN | apply below_drew1 | refine below_set ?_ GE402.out | refine below_set ?_ GE403.out | refine below_set ?_ GE438.out) | exact HB.out)) hb)
          clear BK402
          clear BK403
          clear BK438
          clear HB
          have BK402 := n0_
          have BK403 := n1_
          have BK438 := n2_
          have HB := n3_
          clear n0_ n1_ n2_ n3_
          (try clear hb)
          (try clear hb2)
          (try clear hk)
          (try clear hi)
          refine hK.out _ _ ⟨(blk_cell BK402.out 0).trans rfl, (blk_cell BK402.out 1).trans rfl, (blk_cell BK402.out 2).trans rfl, (blk_cell BK402.out 3).trans rfl, (blk_cell BK402.out 4).trans rfl, (blk_cell BK402.out 5).trans rfl, (blk_cell BK402.out 6).trans rfl, (blk_cell BK402.out 7).trans rfl, (blk_cell BK402.out 8).trans rfl, (blk_cell BK402.out 9).trans rfl, (blk_cell BK402.out 10).trans rfl, (blk_cell BK403.out 0).trans rfl, (blk_cell BK403.out 1).trans rfl, (blk_cell BK403.out 2).trans rfl, (blk_cell BK403.out 3).trans rfl, (blk_cell BK403.out 4).trans rfl, (blk_cell BK403.out 5).trans rfl, (blk_cell BK403.out 6).trans rfl, (blk_cell BK403.out 7).trans rfl, (blk_cell BK403.out 8).trans rfl, (blk_cell BK403.out 9).trans rfl, (blk_cell BK403.out 10).trans rfl⟩ (fun hHeld => ?_)
          clear hK K
          refine norm_ (a' := ?_) ?_ ?_
          rotate_left
          · show Act.put _ (some 14) _ = _
            simp only [Act.put, List.setIfInBounds_toArray, List.set_cons_zero, List.set_cons_succ, i64_w, i32_w]
            rfl
          refine pure_ (i := 5) (N := some 9) (v := ?_) (a' := ?_) #[true, true, true, true, true, true, false, false, true, false, false] rfl rfl (any_of HT_.out (by kernel_rfl)) (fun _ _ _ h => h) (Or.inl ⟨by rfl, ?_⟩) ?_ ?_
          rotate_left
          · intro w'
            go_simp
            with_reducible rfl
          rotate_left
          · simp only [Act.put, List.setIfInBounds_toArray, List.set_cons_zero, List.set_cons_succ, i64_w, i32_w]
            rfl
          refine pure_ (i := 6) (N := some 15) (v := ?_) (a' := ?_) #[true, true, true, true, true, true, true, false, true, false, false] rfl rfl (any_of HT_.out (by kernel_rfl)) (fun _ _ _ h => h) (Or.inl ⟨by rfl, ?_⟩) ?_ ?_
          rotate_left
          · intro w'
            go_simp
            with_reducible rfl
          rotate_left
          · simp only [Act.put, List.setIfInBounds_toArray, List.set_cons_zero, List.set_cons_succ, i64_w, i32_w]
            rfl
          refine pure_ (i := 7) (N := some 16) (v := ?_) (a' := ?_) #[true, true, true, true, true, true, true, true, true, false, false] rfl rfl (any_of HT_.out (by kernel_rfl)) (fun _ _ _ h => h) (Or.inl ⟨by rfl, ?_⟩) ?_ ?_
          rotate_left
          · intro w'
            go_simp
            with_reducible rfl
          rotate_left
          · simp only [Act.put, List.setIfInBounds_toArray, List.set_cons_zero, List.set_cons_succ, i64_w, i32_w]
            rfl
          exact norm_ (by simp only [putAll, Act.put, List.setIfInBounds_toArray, List.set_cons_zero, List.set_cons_succ]) (hCont (gb438) _ ⟨hHeld, (by (with_reducible repeat (first | refine blk_drewN ?_ _ | refine blk_drew ?_ | refine blk_alloc ?_ _)); exact BK402.out), (by (with_reducible repeat (first | refine blk_drewN ?_ _ | refine blk_drew ?_ | refine blk_alloc ?_ _)); exact BK403.out), (by (with_reducible repeat (first | refine blk_drewN ?_ _ | refine blk_drew ?_ | refine blk_alloc ?_ _)); exact BK438.out), GW438.out, GE438.out, NB402_438.out, NB438_402.out, NB403_438.out, NB438_403.out, (by repeat (first | (with_reducible first | exact HB.out | apply below_alloc | apply pw_below_drewN | apply below_drew1 | refine below_set ?_ GE402.out | refine below_set ?_ GE403.out | refine below_set ?_ GE438.out) | exact HB.out))⟩)
      rintro gb438 w19 ⟨hS_, h0_, h1_, h2_, h3_, h4_, h5_, h6_, h7_, h8_, h9_⟩
      have n0_ : Aside0 (w19.heap[gb402]? = some (.cells #[.int .i64 a0_0, .int .i64 a0_1, .int .i64 a0_2, .int .i64 a0_3, .int .i64 a0_4, .int .i64 a0_5, .int .i64 a0_6, .int .i64 a0_7, .int .i64 a0_8, .int .i64 a0_9, .int .i64 a0_10] 27 (0, 0))) := ⟨h0_⟩
      have n1_ : Aside0 (w19.heap[gb403]? = some (.cells #[.int .i64 a1_0, .int .i64 a1_1, .int .i64 a1_2, .int .i64 a1_3, .int .i64 a1_4, .int .i64 a1_5, .int .i64 a1_6, .int .i64 a1_7, .int .i64 a1_8, .int .i64 a1_9, .int .i64 a1_10] 27 (0, 0))) := ⟨h1_⟩
      have n2_ : Aside0 (w19.heap[gb438]? = some (.cells #[.int .i64 0, .int .i64 0, .int .i64 0, .int .i64 0, .int .i64 0, .int .i64 0, .int .i64 0, .int .i64 0, .int .i64 0, .int .i64 0, .int .i64 0] 23 (0, 0))) := ⟨h2_⟩
      have n3_ : Aside0 (w.heap.size ≤ gb438) := ⟨h3_⟩
      have n4_ : Aside0 (w.heap.size ≤ gb438) := ⟨h4_⟩
      have n5_ : Aside0 (gb402 ≠ gb438) := ⟨h5_⟩
      have n6_ : Aside0 (gb438 ≠ gb402) := ⟨h6_⟩
      have n7_ : Aside0 (gb403 ≠ gb438) := ⟨h7_⟩
      have n8_ : Aside0 (gb438 ≠ gb403) := ⟨h8_⟩
      have n9_ : Aside0 (Below w.heap.size w w19) := ⟨h9_⟩
      clear BK402
      clear BK403
      clear HB
      clear h0_ h1_ h2_ h3_ h4_ h5_ h6_ h7_ h8_ h9_
      have BK402 := n0_
      have BK403 := n1_
      have BK438 := n2_
      have GW438 := n3_
      have GE438 := n4_
      have NB402_438 := n5_
      have NB438_402 := n6_
      have NB403_438 := n7_
      have NB438_403 := n8_
      have HB := n9_
      clear n0_ n1_ n2_ n3_ n4_ n5_ n6_ n7_ n8_ n9_
      have hHeld : w19.cell? ⟨gb402, 0, none⟩ = some (.int .i64 a0_0) ∧ w19.cell? ⟨gb402, 1, none⟩ = some (.int .i64 a0_1) ∧ w19.cell? ⟨gb402, 2, none⟩ = some (.int .i64 a0_2) ∧ w19.cell? ⟨gb402, 3, none⟩ = some (.int .i64 a0_3) ∧ w19.cell? ⟨gb402, 4, none⟩ = some (.int .i64 a0_4) ∧ w19.cell? ⟨gb402, 5, none⟩ = some (.int .i64 a0_5) ∧ w19.cell? ⟨gb402, 6, none⟩ = some (.int .i64 a0_6) ∧ w19.cell? ⟨gb402, 7, none⟩ = some (.int .i64 a0_7) ∧ w19.cell? ⟨gb402, 8, none⟩ = some (.int .i64 a0_8) ∧ w19.cell? ⟨gb402, 9, none⟩ = some (.int .i64 a0_9) ∧ w19.cell? ⟨gb402, 10, none⟩ = some (.int .i64 a0_10) ∧ w19.cell? ⟨gb403, 0, none⟩ = some (.int .i64 a1_0) ∧ w19.cell? ⟨gb403, 1, none⟩ = some (.int .i64 a1_1) ∧ w19.cell? ⟨gb403, 2, none⟩ = some (.int .i64 a1_2) ∧ w19.cell? ⟨gb403, 3, none⟩ = some (.int .i64 a1_3) ∧ w19.cell? ⟨gb403, 4, none⟩ = some (.int .i64 a1_4) ∧ w19.cell? ⟨gb403, 5, none⟩ = some (.int .i64 a1_5) ∧ w19.cell? ⟨gb403, 6, none⟩ = some (.int .i64 a1_6) ∧ w19.cell? ⟨gb403, 7, none⟩ = some (.int .i64 a1_7) ∧ w19.cell? ⟨gb403, 8, none⟩ = some (.int .i64 a1_8) ∧ w19.cell? ⟨gb403, 9, none⟩ = some (.int .i64 a1_9) ∧ w19.cell? ⟨gb403, 10, none⟩ = some (.int .i64 a1_10) := hS_
      refine norm_ (a' := ?_) ?_ ?_
      rotate_left
      · simp only [putAll, Act.put, List.setIfInBounds_toArray, List.set_cons_zero, List.set_cons_succ]
        rfl
      refine one_ (i := 9) (N := none) #[true, true, true, true, true, true, true, true, true, true, false] rfl rfl (one_of HT_.out (by kernel_rfl)) (by decide) (fun K hK => ?_)
      have hs20 : w19.cell? ⟨gb438, 0, none⟩ = some (.int .i64 0) := (blk_cell BK438.out 0).trans rfl
      have hfs20 := blk_frozen BK438.out 0
      have hns20_0 := NB402_438.out
      have hns20_1 := NB403_438.out
      have hms20_0 := NB438_402.out
      have hms20_1 := NB438_403.out
      have hs21 : w19.cell? ⟨gb438, 1, none⟩ = some (.int .i64 0) := (blk_cell BK438.out 1).trans rfl
      have hfs21 := blk_frozen BK438.out 1
      have hns21_0 := NB402_438.out
      have hns21_1 := NB403_438.out
      have hms21_0 := NB438_402.out
      have hms21_1 := NB438_403.out
      have hs22 : w19.cell? ⟨gb438, 2, none⟩ = some (.int .i64 0) := (blk_cell BK438.out 2).trans rfl
      have hfs22 := blk_frozen BK438.out 2
      have hns22_0 := NB402_438.out
      have hns22_1 := NB403_438.out
      have hms22_0 := NB438_402.out
      have hms22_1 := NB438_403.out
      have hs23 : w19.cell? ⟨gb438, 3, none⟩ = some (.int .i64 0) := (blk_cell BK438.out 3).trans rfl
      have hfs23 := blk_frozen BK438.out 3
      have hns23_0 := NB402_438.out
      have hns23_1 := NB403_438.out
      have hms23_0 := NB438_402.out
      have hms23_1 := NB438_403.out
      have hs24 : w19.cell? ⟨gb438, 4, none⟩ = some (.int .i64 0) := (blk_cell BK438.out 4).trans rfl
      have hfs24 := blk_frozen BK438.out 4
      have hns24_0 := NB402_438.out
      have hns24_1 := NB403_438.out
      have hms24_0 := NB438_402.out
      have hms24_1 := NB438_403.out
      have hs25 : w19.cell? ⟨gb438, 5, none⟩ = some (.int .i64 0) := (blk_cell BK438.out 5).trans rfl
      have hfs25 := blk_frozen BK438.out 5
      have hns25_0 := NB402_438.out
      have hns25_1 := NB403_438.out
      have hms25_0 := NB438_402.out
      have hms25_1 := NB438_403.out
      have hs26 : w19.cell? ⟨gb438, 6, none⟩ = some (.int .i64 0) := (blk_cell BK438.out 6).trans rfl
      have hfs26 := blk_frozen BK438.out 6
      have hns26_0 := NB402_438.out
      have hns26_1 := NB403_438.out
      have hms26_0 := NB438_402.out
      have hms26_1 := NB438_403.out
      have hs27 : w19.cell? ⟨gb438, 7, none⟩ = some (.int .i64 0) := (blk_cell BK438.out 7).trans rfl
      have hfs27 := blk_frozen BK438.out 7
      have hns27_0 := NB402_438.out
      have hns27_1 := NB403_438.out
      have hms27_0 := NB438_402.out
      have hms27_1 := NB438_403.out
      have hs28 : w19.cell? ⟨gb438, 8, none⟩ = some (.int .i64 0) := (blk_cell BK438.out 8).trans rfl
      have hfs28 := blk_frozen BK438.out 8
      have hns28_0 := NB402_438.out
      have hns28_1 := NB403_438.out
      have hms28_0 := NB438_402.out
      have hms28_1 := NB438_403.out
      have hs29 : w19.cell? ⟨gb438, 9, none⟩ = some (.int .i64 0) := (blk_cell BK438.out 9).trans rfl
      have hfs29 := blk_frozen BK438.out 9
      have hns29_0 := NB402_438.out
      have hns29_1 := NB403_438.out
      have hms29_0 := NB438_402.out
      have hms29_1 := NB438_403.out
      have hs30 : w19.cell? ⟨gb438, 10, none⟩ = some (.int .i64 0) := (blk_cell BK438.out 10).trans rfl
      have hfs30 := blk_frozen BK438.out 10
      have hns30_0 := NB402_438.out
      have hns30_1 := NB403_438.out
      have hms30_0 := NB438_402.out
      have hms30_1 := NB438_403.out
      refine skip_ (w1 := ?_) (by rfl) rfl ?_ ?_
      rotate_left
      · go_simp
        with_reducible rfl
      refine hK.out _ _ ⟨(by first | (with_reducible refine dnN_x21 ?_; exact ((cell_far (p := ⟨gb438, _, none⟩) NB402_438.out _).trans (((cell_far (p := ⟨gb438, _, none⟩) NB402_438.out _).trans (((cell_far (p := ⟨gb438, _, none⟩) NB402_438.out _).trans (((cell_far (p := ⟨gb438, _, none⟩) NB402_438.out _).trans (((cell_far (p := ⟨gb438, _, none⟩) NB402_438.out _).trans (((cell_far (p := ⟨gb438, _, none⟩) NB402_438.out _).trans (((cell_far (p := ⟨gb438, _, none⟩) NB402_438.out _).trans (((cell_far (p := ⟨gb438, _, none⟩) NB402_438.out _).trans (((cell_far (p := ⟨gb438, _, none⟩) NB402_438.out _).trans (((cell_far (p := ⟨gb438, _, none⟩) NB402_438.out _).trans (((cell_far (p := ⟨gb438, _, none⟩) NB402_438.out _).trans (hHeld.1))))))))))))))))))))))) | exact ((cell_far (p := ⟨gb438, _, none⟩) NB402_438.out _).trans (((cell_far (p := ⟨gb438, _, none⟩) NB402_438.out _).trans (((cell_far (p := ⟨gb438, _, none⟩) NB402_438.out _).trans (((cell_far (p := ⟨gb438, _, none⟩) NB402_438.out _).trans (((cell_far (p := ⟨gb438, _, none⟩) NB402_438.out _).trans (((cell_far (p := ⟨gb438, _, none⟩) NB402_438.out _).trans (((cell_far (p := ⟨gb438, _, none⟩) NB402_438.out _).trans (((cell_far (p := ⟨gb438, _, none⟩) NB402_438.out _).trans (((cell_far (p := ⟨gb438, _, none⟩) NB402_438.out _).trans (((cell_far (p := ⟨gb438, _, none⟩) NB402_438.out _).trans (((cell_far (p := ⟨gb438, _, none⟩) NB402_438.out _).trans (hHeld.1))))))))))))))))))))))), (by first | (with_reducible refine dnN_x21 ?_; exact ((cell_far (p := ⟨gb438, _, none⟩) NB402_438.out _).trans (((cell_far (p := ⟨gb438, _, none⟩) NB402_438.out _).trans (((cell_far (p := ⟨gb438, _, none⟩) NB402_438.out _).trans (((cell_far (p := ⟨gb438, _, none⟩) NB402_438.out _).trans (((cell_far (p := ⟨gb438, _, none⟩) NB402_438.out _).trans (((cell_far (p := ⟨gb438, _, none⟩) NB402_438.out _).trans (((cell_far (p := ⟨gb438, _, none⟩) NB402_438.out _).trans (((cell_far (p := ⟨gb438, _, none⟩) NB402_438.out _).trans (((cell_far (p := ⟨gb438, _, none⟩) NB402_438.out _).trans (((cell_far (p := ⟨gb438, _, none⟩) NB402_438.out _).trans (((cell_far (p := ⟨gb438, _, none⟩) NB402_438.out _).trans (hHeld.2.1))))))))))))))))))))))) | exact ((cell_far (p := ⟨gb438, _, none⟩) NB402_438.out _).trans (((cell_far (p := ⟨gb438, _, none⟩) NB402_438.out _).trans (((cell_far (p := ⟨gb438, _, none⟩) NB402_438.out _).trans (((cell_far (p := ⟨gb438, _, none⟩) NB402_438.out _).trans (((cell_far (p := ⟨gb438, _, none⟩) NB402_438.out _).trans (((cell_far (p := ⟨gb438, _, none⟩) NB402_438.out _).trans (((cell_far (p := ⟨gb438, _, none⟩) NB402_438.out _).trans (((cell_far (p := ⟨gb438, _, none⟩) NB402_438.out _).trans (((cell_far (p := ⟨gb438, _, none⟩) NB402_438.out _).trans (((cell_far (p := ⟨gb438, _, none⟩) NB402_438.out _).trans (((cell_far (p := ⟨gb438, _, none⟩) NB402_438.out _).trans (hHeld.2.1))))))))))))))))))))))), (by first | (with_reducible refine dnN_x21 ?_; exact ((cell_far (p := ⟨gb438, _, none⟩) NB402_438.out _).trans (((cell_far (p := ⟨gb438, _, none⟩) NB402_438.out _).trans (((cell_far (p := ⟨gb438, _, none⟩) NB402_438.out _).trans (((cell_far (p := ⟨gb438, _, none⟩) NB402_438.out _).trans (((cell_far (p := ⟨gb438, _, none⟩) NB402_438.out _).trans (((cell_far (p := ⟨gb438, _, none⟩) NB402_438.out _).trans (((cell_far (p := ⟨gb438, _, none⟩) NB402_438.out _).trans (((cell_far (p := ⟨gb438, _, none⟩) NB402_438.out _).trans (((cell_far (p := ⟨gb438, _, none⟩) NB402_438.out _).trans (((cell_far (p := ⟨gb438, _, none⟩) NB402_438.out _).trans (((cell_far (p := ⟨gb438, _, none⟩) NB402_438.out _).trans (hHeld.2.2.1))))))))))))))))))))))) | exact ((cell_far (p := ⟨gb438, _, none⟩) NB402_438.out _).trans (((cell_far (p := ⟨gb438, _, none⟩) NB402_438.out _).trans (((cell_far (p := ⟨gb438, _, none⟩) NB402_438.out _).trans (((cell_far (p := ⟨gb438, _, none⟩) NB402_438.out _).trans (((cell_far (p := ⟨gb438, _, none⟩) NB402_438.out _).trans (((cell_far (p := ⟨gb438, _, none⟩) NB402_438.out _).trans (((cell_far (p := ⟨gb438, _, none⟩) NB402_438.out _).trans (((cell_far (p := ⟨gb438, _, none⟩) NB402_438.out _).trans (((cell_far (p := ⟨gb438, _, none⟩) NB402_438.out _).trans (((cell_far (p := ⟨gb438, _, none⟩) NB402_438.out _).trans (((cell_far (p := ⟨gb438, _, none⟩) NB402_438.out _).trans (hHeld.2.2.1))))))))))))))))))))))), (by first | (with_reducible refine dnN_x21 ?_; exact ((cell_far (p := ⟨gb438, _, none⟩) NB402_438.out _).trans (((cell_far (p := ⟨gb438, _, none⟩) NB402_438.out _).trans (((cell_far (p := ⟨gb438, _, none⟩) NB402_438.out _).trans (((cell_far (p := ⟨gb438, _, none⟩) NB402_438.out _).trans (((cell_far (p := ⟨gb438, _, none⟩) NB402_438.out _).trans (((cell_far (p := ⟨gb438, _, none⟩) NB402_438.out _).trans (((cell_far (p := ⟨gb438, _, none⟩) NB402_438.out _).trans (((cell_far (p := ⟨gb438, _, none⟩) NB402_438.out _).trans (((cell_far (p := ⟨gb438, _, none⟩) NB402_438.out _).trans (((cell_far (p := ⟨gb438, _, none⟩) NB402_438.out _).trans (((cell_far (p := ⟨gb438, _, none⟩) NB402_438.out _).trans (hHeld.2.2.2.1))))))))))))))))))))))) | exact ((cell_far (p := ⟨gb438, _, none⟩) NB402_438.out _).trans (((cell_far (p := ⟨gb438, _, none⟩) NB402_438.out _).trans (((cell_far (p := ⟨gb438, _, none⟩) NB402_438.out _).trans (((cell_far (p := ⟨gb438, _, none⟩) NB402_438.out _).trans (((cell_far (p := ⟨gb438, _, none⟩) NB402_438.out _).trans (((cell_far (p := ⟨gb438, _, none⟩) NB402_438.out _).trans (((cell_far (p := ⟨gb438, _, none⟩) NB402_438.out _).trans (((cell_far (p := ⟨gb438, _, none⟩) NB402_438.out _).trans (((cell_far (p := ⟨gb438, _, none⟩) NB402_438.out _).trans (((cell_far (p := ⟨gb438, _, none⟩) NB402_438.out _).trans (((cell_far (p := ⟨gb438, _, none⟩) NB402_438.out _).trans (hHeld.2.2.2.1))))))))))))))))))))))), (by first | (with_reducible refine dnN_x21 ?_; exact ((cell_far (p := ⟨gb438, _, none⟩) NB402_438.out _).trans (((cell_far (p := ⟨gb438, _, none⟩) NB402_438.out _).trans (((cell_far (p := ⟨gb438, _, none⟩) NB402_438.out _).trans (((cell_far (p := ⟨gb438, _, none⟩) NB402_438.out _).trans (((cell_far (p := ⟨gb438, _, none⟩) NB402_438.out _).trans (((cell_far (p := ⟨gb438, _, none⟩) NB402_438.out _).trans (((cell_far (p := ⟨gb438, _, none⟩) NB402_438.out _).trans (((cell_far (p := ⟨gb438, _, none⟩) NB402_438.out _).trans (((cell_far (p := ⟨gb438, _, none⟩) NB402_438.out _).trans (((cell_far (p := ⟨gb438, _, none⟩) NB402_438.out _).trans (((cell_far (p := ⟨gb438, _, none⟩) NB402_438.out _).trans (hHeld.2.2.2.2.1))))))))))))))))))))))) | exact ((cell_far (p := ⟨gb438, _, none⟩) NB402_438.out _).trans (((cell_far (p := ⟨gb438, _, none⟩) NB402_438.out _).trans (((cell_far (p := ⟨gb438, _, none⟩) NB402_438.out _).trans (((cell_far (p := ⟨gb438, _, none⟩) NB402_438.out _).trans (((cell_far (p := ⟨gb438, _, none⟩) NB402_438.out _).trans (((cell_far (p := ⟨gb438, _, none⟩) NB402_438.out _).trans (((cell_far (p := ⟨gb438, _, none⟩) NB402_438.out _).trans (((cell_far (p := ⟨gb438, _, none⟩) NB402_438.out _).trans (((cell_far (p := ⟨gb438, _, none⟩) NB402_438.out _).trans (((cell_far (p := ⟨gb438, _, none⟩) NB402_438.out _).trans (((cell_far (p := ⟨gb438, _, none⟩) NB402_438.out _).trans (hHeld.2.2.2.2.1))))))))))))))))))))))), (by first | (with_reducible refine dnN_x21 ?_; exact ((cell_far (p := ⟨gb438, _, none⟩) NB402_438.out _).trans (((cell_far (p := ⟨gb438, _, none⟩) NB402_438.out _).trans (((cell_far (p := ⟨gb438, _, none⟩) NB402_438.out _).trans (((cell_far (p := ⟨gb438, _, none⟩) NB402_438.out _).trans (((cell_far (p := ⟨gb438, _, none⟩) NB402_438.out _).trans (((cell_far (p := ⟨gb438, _, none⟩) NB402_438.out _).trans (((cell_far (p := ⟨gb438, _, none⟩) NB402_438.out _).trans (((cell_far (p := ⟨gb438, _, none⟩) NB402_438.out _).trans (((cell_far (p := ⟨gb438, _, none⟩) NB402_438.out _).trans (((cell_far (p := ⟨gb438, _, none⟩) NB402_438.out _).trans (((cell_far (p := ⟨gb438, _, none⟩) NB402_438.out _).trans (hHeld.2.2.2.2.2.1))))))))))))))))))))))) | exact ((cell_far (p := ⟨gb438, _, none⟩) NB402_438.out _).trans (((cell_far (p := ⟨gb438, _, none⟩) NB402_438.out _).trans (((cell_far (p := ⟨gb438, _, none⟩) NB402_438.out _).trans (((cell_far (p := ⟨gb438, _, none⟩) NB402_438.out _).trans (((cell_far (p := ⟨gb438, _, none⟩) NB402_438.out _).trans (((cell_far (p := ⟨gb438, _, none⟩) NB402_438.out _).trans (((cell_far (p := ⟨gb438, _, none⟩) NB402_438.out _).trans (((cell_far (p := ⟨gb438, _, none⟩) NB402_438.out _).trans (((cell_far (p := ⟨gb438, _, none⟩) NB402_438.out _).trans (((cell_far (p := ⟨gb438, _, none⟩) NB402_438.out _).trans (((cell_far (p := ⟨gb438, _, none⟩) NB402_438.out _).trans (hHeld.2.2.2.2.2.1))))))))))))))))))))))), (by first | (with_reducible refine dnN_x21 ?_; exact ((cell_far (p := ⟨gb438, _, none⟩) NB402_438.out _).trans (((cell_far (p := ⟨gb438, _, none⟩) NB402_438.out _).trans (((cell_far (p := ⟨gb438, _, none⟩) NB402_438.out _).trans (((cell_far (p := ⟨gb438, _, none⟩) NB402_438.out _).trans (((cell_far (p := ⟨gb438, _, none⟩) NB402_438.out _).trans (((cell_far (p := ⟨gb438, _, none⟩) NB402_438.out _).trans (((cell_far (p := ⟨gb438, _, none⟩) NB402_438.out _).trans (((cell_far (p := ⟨gb438, _, none⟩) NB402_438.out _).trans (((cell_far (p := ⟨gb438, _, none⟩) NB402_438.out _).trans (((cell_far (p := ⟨gb438, _, none⟩) NB402_438.out _).trans (((cell_far (p := ⟨gb438, _, none⟩) NB402_438.out _).trans (hHeld.2.2.2.2.2.2.1))))))))))))))))))))))) | exact ((cell_far (p := ⟨gb438, _, none⟩) NB402_438.out _).trans (((cell_far (p := ⟨gb438, _, none⟩) NB402_438.out _).trans (((cell_far (p := ⟨gb438, _, none⟩) NB402_438.out _).trans (((cell_far (p := ⟨gb438, _, none⟩) NB402_438.out _).trans (((cell_far (p := ⟨gb438, _, none⟩) NB402_438.out _).trans (((cell_far (p := ⟨gb438, _, none⟩) NB402_438.out _).trans (((cell_far (p := ⟨gb438, _, none⟩) NB402_438.out _).trans (((cell_far (p := ⟨gb438, _, none⟩) NB402_438.out _).trans (((cell_far (p := ⟨gb438, _, none⟩) NB402_438.out _).trans (((cell_far (p := ⟨gb438, _, none⟩) NB402_438.out _).trans (((cell_far (p := ⟨gb438, _, none⟩) NB402_438.out _).trans (hHeld.2.2.2.2.2.2.1))))))))))))))))))))))), (by first | (with_reducible refine dnN_x21 ?_; exact ((cell_far (p := ⟨gb438, _, none⟩) NB402_438.out _).trans (((cell_far (p := ⟨gb438, _, none⟩) NB402_438.out _).trans (((cell_far (p := ⟨gb438, _, none⟩) NB402_438.out _).trans (((cell_far (p := ⟨gb438, _, none⟩) NB402_438.out _).trans (((cell_far (p := ⟨gb438, _, none⟩) NB402_438.out _).trans (((cell_far (p := ⟨gb438, _, none⟩) NB402_438.out _).trans (((cell_far (p := ⟨gb438, _, none⟩) NB402_438.out _).trans (((cell_far (p := ⟨gb438, _, none⟩) NB402_438.out _).trans (((cell_far (p := ⟨gb438, _, none⟩) NB402_438.out _).trans (((cell_far (p := ⟨gb438, _, none⟩) NB402_438.out _).trans (((cell_far (p := ⟨gb438, _, none⟩) NB402_438.out _).trans (hHeld.2.2.2.2.2.2.2.1))))))))))))))))))))))) | exact ((cell_far (p := ⟨gb438, _, none⟩) NB402_438.out _).trans (((cell_far (p := ⟨gb438, _, none⟩) NB402_438.out _).trans (((cell_far (p := ⟨gb438, _, none⟩) NB402_438.out _).trans (((cell_far (p := ⟨gb438, _, none⟩) NB402_438.out _).trans (((cell_far (p := ⟨gb438, _, none⟩) NB402_438.out _).trans (((cell_far (p := ⟨gb438, _, none⟩) NB402_438.out _).trans (((cell_far (p := ⟨gb438, _, none⟩) NB402_438.out _).trans (((cell_far (p := ⟨gb438, _, none⟩) NB402_438.out _).trans (((cell_far (p := ⟨gb438, _, none⟩) NB402_438.out _).trans (((cell_far (p := ⟨gb438, _, none⟩) NB402_438.out _).trans (((cell_far (p := ⟨gb438, _, none⟩) NB402_438.out _).trans (hHeld.2.2.2.2.2.2.2.1))))))))))))))))))))))), (by first | (with_reducible refine dnN_x21 ?_; exact ((cell_far (p := ⟨gb438, _, none⟩) NB402_438.out _).trans (((cell_far (p := ⟨gb438, _, none⟩) NB402_438.out _).trans (((cell_far (p := ⟨gb438, _, none⟩) NB402_438.out _).trans (((cell_far (p := ⟨gb438, _, none⟩) NB402_438.out _).trans (((cell_far (p := ⟨gb438, _, none⟩) NB402_438.out _).trans (((cell_far (p := ⟨gb438, _, none⟩) NB402_438.out _).trans (((cell_far (p := ⟨gb438, _, none⟩) NB402_438.out _).trans (((cell_far (p := ⟨gb438, _, none⟩) NB402_438.out _).trans (((cell_far (p := ⟨gb438, _, none⟩) NB402_438.out _).trans (((cell_far (p := ⟨gb438, _, none⟩) NB402_438.out _).trans (((cell_far (p := ⟨gb438, _, none⟩) NB402_438.out _).trans (hHeld.2.2.2.2.2.2.2.2.1))))))))))))))))))))))) | exact ((cell_far (p := ⟨gb438, _, none⟩) NB402_438.out _).trans (((cell_far (p := ⟨gb438, _, none⟩) NB402_438.out _).trans (((cell_far (p := ⟨gb438, _, none⟩) NB402_438.out _).trans (((cell_far (p := ⟨gb438, _, none⟩) NB402_438.out _).trans (((cell_far (p := ⟨gb438, _, none⟩) NB402_438.out _).trans (((cell_far (p := ⟨gb438, _, none⟩) NB402_438.out _).trans (((cell_far (p := ⟨gb438, _, none⟩) NB402_438.out _).trans (((cell_far (p := ⟨gb438, _, none⟩) NB402_438.out _).trans (((cell_far (p := ⟨gb438, _, none⟩) NB402_438.out _).trans (((cell_far (p := ⟨gb438, _, none⟩) NB402_438.out _).trans (((cell_far (p := ⟨gb438, _, none⟩) NB402_438.out _).trans (hHeld.2.2.2.2.2.2.2.2.1))))))))))))))))))))))), (by first | (with_reducible refine dnN_x21 ?_; exact ((cell_far (p := ⟨gb438, _, none⟩) NB402_438.out _).trans (((cell_far (p := ⟨gb438, _, none⟩) NB402_438.out _).trans (((cell_far (p := ⟨gb438, _, none⟩) NB402_438.out _).trans (((cell_far (p := ⟨gb438, _, none⟩) NB402_438.out _).trans (((cell_far (p := ⟨gb438, _, none⟩) NB402_438.out _).trans (((cell_far (p := ⟨gb438, _, none⟩) NB402_438.out _).trans (((cell_far (p := ⟨gb438, _, none⟩) NB402_438.out _).trans (((cell_far (p := ⟨gb438, _, none⟩) NB402_438.out _).trans (((cell_far (p := ⟨gb438, _, none⟩) NB402_438.out _).trans (((cell_far (p := ⟨gb438, _, none⟩) NB402_438.out _).trans (((cell_far (p := ⟨gb438, _, none⟩) NB402_438.out _).trans (hHeld.2.2.2.2.2.2.2.2.2.1))))))))))))))))))))))) | exact ((cell_far (p := ⟨gb438, _, none⟩) NB402_438.out _).trans (((cell_far (p := ⟨gb438, _, none⟩) NB402_438.out _).trans (((cell_far (p := ⟨gb438, _, none⟩) NB402_438.out _).trans (((cell_far (p := ⟨gb438, _, none⟩) NB402_438.out _).trans (((cell_far (p := ⟨gb438, _, none⟩) NB402_438.out _).trans (((cell_far (p := ⟨gb438, _, none⟩) NB402_438.out _).trans (((cell_far (p := ⟨gb438, _, none⟩) NB402_438.out _).trans (((cell_far (p := ⟨gb438, _, none⟩) NB402_438.out _).trans (((cell_far (p := ⟨gb438, _, none⟩) NB402_438.out _).trans (((cell_far (p := ⟨gb438, _, none⟩) NB402_438.out _).trans (((cell_far (p := ⟨gb438, _, none⟩) NB402_438.out _).trans (hHeld.2.2.2.2.2.2.2.2.2.1))))))))))))))))))))))), (by first | (with_reducible refine dnN_x21 ?_; exact ((cell_far (p := ⟨gb438, _, none⟩) NB402_438.out _).trans (((cell_far (p := ⟨gb438, _, none⟩) NB402_438.out _).trans (((cell_far (p := ⟨gb438, _, none⟩) NB402_438.out _).trans (((cell_far (p := ⟨gb438, _, none⟩) NB402_438.out _).trans (((cell_far (p := ⟨gb438, _, none⟩) NB402_438.out _).trans (((cell_far (p := ⟨gb438, _, none⟩) NB402_438.out _).trans (((cell_far (p := ⟨gb438, _, none⟩) NB402_438.out _).trans (((cell_far (p := ⟨gb438, _, none⟩) NB402_438.out _).trans (((cell_far (p := ⟨gb438, _, none⟩) NB402_438.out _).trans (((cell_far (p := ⟨gb438, _, none⟩) NB402_438.out _).trans (((cell_far (p := ⟨gb438, _, none⟩) NB402_438.out _).trans (hHeld.2.2.2.2.2.2.2.2.2.2.1))))))))))))))))))))))) | exact ((cell_far (p := ⟨gb438, _, none⟩) NB402_438.out _).trans (((cell_far (p := ⟨gb438, _, none⟩) NB402_438.out _).trans (((cell_far (p := ⟨gb438, _, none⟩) NB402_438.out _).trans (((cell_far (p := ⟨gb438, _, none⟩) NB402_438.out _).trans (((cell_far (p := ⟨gb438, _, none⟩) NB402_438.out _).trans (((cell_far (p := ⟨gb438, _, none⟩) NB402_438.out _).trans (((cell_far (p := ⟨gb438, _, none⟩) NB402_438.out _).trans (((cell_far (p := ⟨gb438, _, none⟩) NB402_438.out _).trans (((cell_far (p := ⟨gb438, _, none⟩) NB402_438.out _).trans (((cell_far (p := ⟨gb438, _, none⟩) NB402_438.out _).trans (((cell_far (p := ⟨gb438, _, none⟩) NB402_438.out _).trans (hHeld.2.2.2.2.2.2.2.2.2.2.1))))))))))))))))))))))), (by first | (with_reducible refine dnN_x21 ?_; exact ((cell_far (p := ⟨gb438, _, none⟩) NB403_438.out _).trans (((cell_far (p := ⟨gb438, _, none⟩) NB403_438.out _).trans (((cell_far (p := ⟨gb438, _, none⟩) NB403_438.out _).trans (((cell_far (p := ⟨gb438, _, none⟩) NB403_438.out _).trans (((cell_far (p := ⟨gb438, _, none⟩) NB403_438.out _).trans (((cell_far (p := ⟨gb438, _, none⟩) NB403_438.out _).trans (((cell_far (p := ⟨gb438, _, none⟩) NB403_438.out _).trans (((cell_far (p := ⟨gb438, _, none⟩) NB403_438.out _).trans (((cell_far (p := ⟨gb438, _, none⟩) NB403_438.out _).trans (((cell_far (p := ⟨gb438, _, none⟩) NB403_438.out _).trans (((cell_far (p := ⟨gb438, _, none⟩) NB403_438.out _).trans (hHeld.2.2.2.2.2.2.2.2.2.2.2.1))))))))))))))))))))))) | exact ((cell_far (p := ⟨gb438, _, none⟩) NB403_438.out _).trans (((cell_far (p := ⟨gb438, _, none⟩) NB403_438.out _).trans (((cell_far (p := ⟨gb438, _, none⟩) NB403_438.out _).trans (((cell_far (p := ⟨gb438, _, none⟩) NB403_438.out _).trans (((cell_far (p := ⟨gb438, _, none⟩) NB403_438.out _).trans (((cell_far (p := ⟨gb438, _, none⟩) NB403_438.out _).trans (((cell_far (p := ⟨gb438, _, none⟩) NB403_438.out _).trans (((cell_far (p := ⟨gb438, _, none⟩) NB403_438.out _).trans (((cell_far (p := ⟨gb438, _, none⟩) NB403_438.out _).trans (((cell_far (p := ⟨gb438, _, none⟩) NB403_438.out _).trans (((cell_far (p := ⟨gb438, _, none⟩) NB403_438.out _).trans (hHeld.2.2.2.2.2.2.2.2.2.2.2.1))))))))))))))))))))))), (by first | (with_reducible refine dnN_x21 ?_; exact ((cell_far (p := ⟨gb438, _, none⟩) NB403_438.out _).trans (((cell_far (p := ⟨gb438, _, none⟩) NB403_438.out _).trans (((cell_far (p := ⟨gb438, _, none⟩) NB403_438.out _).trans (((cell_far (p := ⟨gb438, _, none⟩) NB403_438.out _).trans (((cell_far (p := ⟨gb438, _, none⟩) NB403_438.out _).trans (((cell_far (p := ⟨gb438, _, none⟩) NB403_438.out _).trans (((cell_far (p := ⟨gb438, _, none⟩) NB403_438.out _).trans (((cell_far (p := ⟨gb438, _, none⟩) NB403_438.out _).trans (((cell_far (p := ⟨gb438, _, none⟩) NB403_438.out _).trans (((cell_far (p := ⟨gb438, _, none⟩) NB403_438.out _).trans (((cell_far (p := ⟨gb438, _, none⟩) NB403_438.out _).trans (hHeld.2.2.2.2.2.2.2.2.2.2.2.2.1))))))))))))))))))))))) | exact ((cell_far (p := ⟨gb438, _, none⟩) NB403_438.out _).trans (((cell_far (p := ⟨gb438, _, none⟩) NB403_438.out _).trans (((cell_far (p := ⟨gb438, _, none⟩) NB403_438.out _).trans (((cell_far (p := ⟨gb438, _, none⟩) NB403_438.out _).trans (((cell_far (p := ⟨gb438, _, none⟩) NB403_438.out _).trans (((cell_far (p := ⟨gb438, _, none⟩) NB403_438.out _).trans (((cell_far (p := ⟨gb438, _, none⟩) NB403_438.out _).trans (((cell_far (p := ⟨gb438, _, none⟩) NB403_438.out _).trans (((cell_far (p := ⟨gb438, _, none⟩) NB403_438.out _).trans (((cell_far (p := ⟨gb438, _, none⟩) NB403_438.out _).trans (((cell_far (p := ⟨gb438, _, none⟩) NB403_438.out _).trans (hHeld.2.2.2.2.2.2.2.2.2.2.2.2.1))))))))))))))))))))))), (by first | (with_reducible refine dnN_x21 ?_; exact ((cell_far (p := ⟨gb438, _, none⟩) NB403_438.out _).trans (((cell_far (p := ⟨gb438, _, none⟩) NB403_438.out _).trans (((cell_far (p := ⟨gb438, _, none⟩) NB403_438.out _).trans (((cell_far (p := ⟨gb438, _, none⟩) NB403_438.out _).trans (((cell_far (p := ⟨gb438, _, none⟩) NB403_438.out _).trans (((cell_far (p := ⟨gb438, _, none⟩) NB403_438.out _).trans (((cell_far (p := ⟨gb438, _, none⟩) NB403_438.out _).trans (((cell_far (p := ⟨gb438, _, none⟩) NB403_438.out _).trans (((cell_far (p := ⟨gb438, _, none⟩) NB403_438.out _).trans (((cell_far (p := ⟨gb438, _, none⟩) NB403_438.out _).trans (((cell_far (p := ⟨gb438, _, none⟩) NB403_438.out _).trans (hHeld.2.2.2.2.2.2.2.2.2.2.2.2.2.1))))))))))))))))))))))) | exact ((cell_far (p := ⟨gb438, _, none⟩) NB403_438.out _).trans (((cell_far (p := ⟨gb438, _, none⟩) NB403_438.out _).trans (((cell_far (p := ⟨gb438, _, none⟩) NB403_438.out _).trans (((cell_far (p := ⟨gb438, _, none⟩) NB403_438.out _).trans (((cell_far (p := ⟨gb438, _, none⟩) NB403_438.out _).trans (((cell_far (p := ⟨gb438, _, none⟩) NB403_438.out _).trans (((cell_far (p := ⟨gb438, _, none⟩) NB403_438.out _).trans (((cell_far (p := ⟨gb438, _, none⟩) NB403_438.out _).trans (((cell_far (p := ⟨gb438, _, none⟩) NB403_438.out _).trans (((cell_far (p := ⟨gb438, _, none⟩) NB403_438.out _).trans (((cell_far (p := ⟨gb438, _, none⟩) NB403_438.out _).trans (hHeld.2.2.2.2.2.2.2.2.2.2.2.2.2.1))))))))))))))))))))))), (by first | (with_reducible refine dnN_x21 ?_; exact ((cell_far (p := ⟨gb438, _, none⟩) NB403_438.out _).trans (((cell_far (p := ⟨gb438, _, none⟩) NB403_438.out _).trans (((cell_far (p := ⟨gb438, _, none⟩) NB403_438.out _).trans (((cell_far (p := ⟨gb438, _, none⟩) NB403_438.out _).trans (((cell_far (p := ⟨gb438, _, none⟩) NB403_438.out _).trans (((cell_far (p := ⟨gb438, _, none⟩) NB403_438.out _).trans (((cell_far (p := ⟨gb438, _, none⟩) NB403_438.out _).trans (((cell_far (p := ⟨gb438, _, none⟩) NB403_438.out _).trans (((cell_far (p := ⟨gb438, _, none⟩) NB403_438.out _).trans (((cell_far (p := ⟨gb438, _, none⟩) NB403_438.out _).trans (((cell_far (p := ⟨gb438, _, none⟩) NB403_438.out _).trans (hHeld.2.2.2.2.2.2.2.2.2.2.2.2.2.2.1))))))))))))))))))))))) | exact ((cell_far (p := ⟨gb438, _, none⟩) NB403_438.out _).trans (((cell_far (p := ⟨gb438, _, none⟩) NB403_438.out _).trans (((cell_far (p := ⟨gb438, _, none⟩) NB403_438.out _).trans (((cell_far (p := ⟨gb438, _, none⟩) NB403_438.out _).trans (((cell_far (p := ⟨gb438, _, none⟩) NB403_438.out _).trans (((cell_far (p := ⟨gb438, _, none⟩) NB403_438.out _).trans (((cell_far (p := ⟨gb438, _, none⟩) NB403_438.out _).trans (((cell_far (p := ⟨gb438, _, none⟩) NB403_438.out _).trans (((cell_far (p := ⟨gb438, _, none⟩) NB403_438.out _).trans (((cell_far (p := ⟨gb438, _, none⟩) NB403_438.out _).trans (((cell_far (p := ⟨gb438, _, none⟩) NB403_438.out _).trans (hHeld.2.2.2.2.2.2.2.2.2.2.2.2.2.2.1))))))))))))))))))))))), (by first | (with_reducible refine dnN_x21 ?_; exact ((cell_far (p := ⟨gb438, _, none⟩) NB403_438.out _).trans (((cell_far (p := ⟨gb438, _, none⟩) NB403_438.out _).trans (((cell_far (p := ⟨gb438, _, none⟩) NB403_438.out _).trans (((cell_far (p := ⟨gb438, _, none⟩) NB403_438.out _).trans (((cell_far (p := ⟨gb438, _, none⟩) NB403_438.out _).trans (((cell_far (p := ⟨gb438, _, none⟩) NB403_438.out _).trans (((cell_far (p := ⟨gb438, _, none⟩) NB403_438.out _).trans (((cell_far (p := ⟨gb438, _, none⟩) NB403_438.out _).trans (((cell_far (p := ⟨gb438, _, none⟩) NB403_438.out _).trans (((cell_far (p := ⟨gb438, _, none⟩) NB403_438.out _).trans (((cell_far (p := ⟨gb438, _, none⟩) NB403_438.out _).trans (hHeld.2.2.2.2.2.2.2.2.2.2.2.2.2.2.2.1))))))))))))))))))))))) | exact ((cell_far (p := ⟨gb438, _, none⟩) NB403_438.out _).trans (((cell_far (p := ⟨gb438, _, none⟩) NB403_438.out _).trans (((cell_far (p := ⟨gb438, _, none⟩) NB403_438.out _).trans (((cell_far (p := ⟨gb438, _, none⟩) NB403_438.out _).trans (((cell_far (p := ⟨gb438, _, none⟩) NB403_438.out _).trans (((cell_far (p := ⟨gb438, _, none⟩) NB403_438.out _).trans (((cell_far (p := ⟨gb438, _, none⟩) NB403_438.out _).trans (((cell_far (p := ⟨gb438, _, none⟩) NB403_438.out _).trans (((cell_far (p := ⟨gb438, _, none⟩) NB403_438.out _).trans (((cell_far (p := ⟨gb438, _, none⟩) NB403_438.out _).trans (((cell_far (p := ⟨gb438, _, none⟩) NB403_438.out _).trans (hHeld.2.2.2.2.2.2.2.2.2.2.2.2.2.2.2.1))))))))))))))))))))))), (by first | (with_reducible refine dnN_x21 ?_; exact ((cell_far (p := ⟨gb438, _, none⟩) NB403_438.out _).trans (((cell_far (p := ⟨gb438, _, none⟩) NB403_438.out _).trans (((cell_far (p := ⟨gb438, _, none⟩) NB403_438.out _).trans (((cell_far (p := ⟨gb438, _, none⟩) NB403_438.out _).trans (((cell_far (p := ⟨gb438, _, none⟩) NB403_438.out _).trans (((cell_far (p := ⟨gb438, _, none⟩) NB403_438.out _).trans (((cell_far (p := ⟨gb438, _, none⟩) NB403_438.out _).trans (((cell_far (p := ⟨gb438, _, none⟩) NB403_438.out _).trans (((cell_far (p := ⟨gb438, _, none⟩) NB403_438.out _).trans (((cell_far (p := ⟨gb438, _, none⟩) NB403_438.out _).trans (((cell_far (p := ⟨gb438, _, none⟩) NB403_438.out _).trans (hHeld.2.2.2.2.2.2.2.2.2.2.2.2.2.2.2.2.1))))))))))))))))))))))) | exact ((cell_far (p := ⟨gb438, _, none⟩) NB403_438.out _).trans (((cell_far (p := ⟨gb438, _, none⟩) NB403_438.out _).trans (((cell_far (p := ⟨gb438, _, none⟩) NB403_438.out _).trans (((cell_far (p := ⟨gb438, _, none⟩) NB403_438.out _).trans (((cell_far (p := ⟨gb438, _, none⟩) NB403_438.out _).trans (((cell_far (p := ⟨gb438, _, none⟩) NB403_438.out _).trans (((cell_far (p := ⟨gb438, _, none⟩) NB403_438.out _).trans (((cell_far (p := ⟨gb438, _, none⟩) NB403_438.out _).trans (((cell_far (p := ⟨gb438, _, none⟩) NB403_438.out _).trans (((cell_far (p := ⟨gb438, _, none⟩) NB403_438.out _).trans (((cell_far (p := ⟨gb438, _, none⟩) NB403_438.out _).trans (hHeld.2.2.2.2.2.2.2.2.2.2.2.2.2.2.2.2.1))))))))))))))))))))))), (by first | (with_reducible refine dnN_x21 ?_; exact ((cell_far (p := ⟨gb438, _, none⟩) NB403_438.out _).trans (((cell_far (p := ⟨gb438, _, none⟩) NB403_438.out _).trans (((cell_far (p := ⟨gb438, _, none⟩) NB403_438.out _).trans (((cell_far (p := ⟨gb438, _, none⟩) NB403_438.out _).trans (((cell_far (p := ⟨gb438, _, none⟩) NB403_438.out _).trans (((cell_far (p := ⟨gb438, _, none⟩) NB403_438.out _).trans (((cell_far (p := ⟨gb438, _, none⟩) NB403_438.out _).trans (((cell_far (p := ⟨gb438, _, none⟩) NB403_438.out _).trans (((cell_far (p := ⟨gb438, _, none⟩) NB403_438.out _).trans (((cell_far (p := ⟨gb438, _, none⟩) NB403_438.out _).trans (((cell_far (p := ⟨gb438, _, none⟩) NB403_438.out _).trans (hHeld.2.2.2.2.2.2.2.2.2.2.2.2.2.2.2.2.2.1))))))))))))))))))))))) | exact ((cell_far (p := ⟨gb438, _, none⟩) NB403_438.out _).trans (((cell_far (p := ⟨gb438, _, none⟩) NB403_438.out _).trans (((cell_far (p := ⟨gb438, _, none⟩) NB403_438.out _).trans (((cell_far (p := ⟨gb438, _, none⟩) NB403_438.out _).trans (((cell_far (p := ⟨gb438, _, none⟩) NB403_438.out _).trans (((cell_far (p := ⟨gb438, _, none⟩) NB403_438.out _).trans (((cell_far (p := ⟨gb438, _, none⟩) NB403_438.out _).trans (((cell_far (p := ⟨gb438, _, none⟩) NB403_438.out _).trans (((cell_far (p := ⟨gb438, _, none⟩) NB403_438.out _).trans (((cell_far (p := ⟨gb438, _, none⟩) NB403_438.out _).trans (((cell_far (p := ⟨gb438, _, none⟩) NB403_438.out _).trans (hHeld.2.2.2.2.2.2.2.2.2.2.2.2.2.2.2.2.2.1))))))))))))))))))))))), (by first | (with_reducible refine dnN_x21 ?_; exact ((cell_far (p := ⟨gb438, _, none⟩) NB403_438.out _).trans (((cell_far (p := ⟨gb438, _, none⟩) NB403_438.out _).trans (((cell_far (p := ⟨gb438, _, none⟩) NB403_438.out _).trans (((cell_far (p := ⟨gb438, _, none⟩) NB403_438.out _).trans (((cell_far (p := ⟨gb438, _, none⟩) NB403_438.out _).trans (((cell_far (p := ⟨gb438, _, none⟩) NB403_438.out _).trans (((cell_far (p := ⟨gb438, _, none⟩) NB403_438.out _).trans (((cell_far (p := ⟨gb438, _, none⟩) NB403_438.out _).trans (((cell_far (p := ⟨gb438, _, none⟩) NB403_438.out _).trans (((cell_far (p := ⟨gb438, _, none⟩) NB403_438.out _).trans (((cell_far (p := ⟨gb438, _, none⟩) NB403_438.out _).trans (hHeld.2.2.2.2.2.2.2.2.2.2.2.2.2.2.2.2.2.2.1))))))))))))))))))))))) | exact ((cell_far (p := ⟨gb438, _, none⟩) NB403_438.out _).trans (((cell_far (p := ⟨gb438, _, none⟩) NB403_438.out _).trans (((cell_far (p := ⟨gb438, _, none⟩) NB403_438.out _).trans (((cell_far (p := ⟨gb438, _, none⟩) NB403_438.out _).trans (((cell_far (p := ⟨gb438, _, none⟩) NB403_438.out _).trans (((cell_far (p := ⟨gb438, _, none⟩) NB403_438.out _).trans (((cell_far (p := ⟨gb438, _, none⟩) NB403_438.out _).trans (((cell_far (p := ⟨gb438, _, none⟩) NB403_438.out _).trans (((cell_far (p := ⟨gb438, _, none⟩) NB403_438.out _).trans (((cell_far (p := ⟨gb438, _, none⟩) NB403_438.out _).trans (((cell_far (p := ⟨gb438, _, none⟩) NB403_438.out _).trans (hHeld.2.2.2.2.2.2.2.2.2.2.2.2.2.2.2.2.2.2.1))))))))))))))))))))))), (by first | (with_reducible refine dnN_x21 ?_; exact ((cell_far (p := ⟨gb438, _, none⟩) NB403_438.out _).trans (((cell_far (p := ⟨gb438, _, none⟩) NB403_438.out _).trans (((cell_far (p := ⟨gb438, _, none⟩) NB403_438.out _).trans (((cell_far (p := ⟨gb438, _, none⟩) NB403_438.out _).trans (((cell_far (p := ⟨gb438, _, none⟩) NB403_438.out _).trans (((cell_far (p := ⟨gb438, _, none⟩) NB403_438.out _).trans (((cell_far (p := ⟨gb438, _, none⟩) NB403_438.out _).trans (((cell_far (p := ⟨gb438, _, none⟩) NB403_438.out _).trans (((cell_far (p := ⟨gb438, _, none⟩) NB403_438.out _).trans (((cell_far (p := ⟨gb438, _, none⟩) NB403_438.out _).trans (((cell_far (p := ⟨gb438, _, none⟩) NB403_438.out _).trans (hHeld.2.2.2.2.2.2.2.2.2.2.2.2.2.2.2.2.2.2.2.1))))))))))))))))))))))) | exact ((cell_far (p := ⟨gb438, _, none⟩) NB403_438.out _).trans (((cell_far (p := ⟨gb438, _, none⟩) NB403_438.out _).trans (((cell_far (p := ⟨gb438, _, none⟩) NB403_438.out _).trans (((cell_far (p := ⟨gb438, _, none⟩) NB403_438.out _).trans (((cell_far (p := ⟨gb438, _, none⟩) NB403_438.out _).trans (((cell_far (p := ⟨gb438, _, none⟩) NB403_438.out _).trans (((cell_far (p := ⟨gb438, _, none⟩) NB403_438.out _).trans (((cell_far (p := ⟨gb438, _, none⟩) NB403_438.out _).trans (((cell_far (p := ⟨gb438, _, none⟩) NB403_438.out _).trans (((cell_far (p := ⟨gb438, _, none⟩) NB403_438.out _).trans (((cell_far (p := ⟨gb438, _, none⟩) NB403_438.out _).trans (hHeld.2.2.2.2.2.2.2.2.2.2.2.2.2.2.2.2.2.2.2.1))))))))))))))))))))))), (by first | (with_reducible refine dnN_x21 ?_; exact ((cell_far (p := ⟨gb438, _, none⟩) NB403_438.out _).trans (((cell_far (p := ⟨gb438, _, none⟩) NB403_438.out _).trans (((cell_far (p := ⟨gb438, _, none⟩) NB403_438.out _).trans (((cell_far (p := ⟨gb438, _, none⟩) NB403_438.out _).trans (((cell_far (p := ⟨gb438, _, none⟩) NB403_438.out _).trans (((cell_far (p := ⟨gb438, _, none⟩) NB403_438.out _).trans (((cell_far (p := ⟨gb438, _, none⟩) NB403_438.out _).trans (((cell_far (p := ⟨gb438, _, none⟩) NB403_438.out _).trans (((cell_far (p := ⟨gb438, _, none⟩) NB403_438.out _).trans (((cell_far (p := ⟨gb438, _, none⟩) NB403_438.out _).trans (((cell_far (p := ⟨gb438, _, none⟩) NB403_438.out _).trans (hHeld.2.2.2.2.2.2.2.2.2.2.2.2.2.2.2.2.2.2.2.2.1))))))))))))))))))))))) | exact ((cell_far (p := ⟨gb438, _, none⟩) NB403_438.out _).trans (((cell_far (p := ⟨gb438, _, none⟩) NB403_438.out _).trans (((cell_far (p := ⟨gb438, _, none⟩) NB403_438.out _).trans (((cell_far (p := ⟨gb438, _, none⟩) NB403_438.out _).trans (((cell_far (p := ⟨gb438, _, none⟩) NB403_438.out _).trans (((cell_far (p := ⟨gb438, _, none⟩) NB403_438.out _).trans (((cell_far (p := ⟨gb438, _, none⟩) NB403_438.out _).trans (((cell_far (p := ⟨gb438, _, none⟩) NB403_438.out _).trans (((cell_far (p := ⟨gb438, _, none⟩) NB403_438.out _).trans (((cell_far (p := ⟨gb438, _, none⟩) NB403_438.out _).trans (((cell_far (p := ⟨gb438, _, none⟩) NB403_438.out _).trans (hHeld.2.2.2.2.2.2.2.2.2.2.2.2.2.2.2.2.2.2.2.2.1))))))))))))))))))))))), (by first | (with_reducible refine dnN_x21 ?_; exact ((cell_far (p := ⟨gb438, _, none⟩) NB403_438.out _).trans (((cell_far (p := ⟨gb438, _, none⟩) NB403_438.out _).trans (((cell_far (p := ⟨gb438, _, none⟩) NB403_438.out _).trans (((cell_far (p := ⟨gb438, _, none⟩) NB403_438.out _).trans (((cell_far (p := ⟨gb438, _, none⟩) NB403_438.out _).trans (((cell_far (p := ⟨gb438, _, none⟩) NB403_438.out _).trans (((cell_far (p := ⟨gb438, _, none⟩) NB403_438.out _).trans (((cell_far (p := ⟨gb438, _, none⟩) NB403_438.out _).trans (((cell_far (p := ⟨gb438, _, none⟩) NB403_438.out _).trans (((cell_far (p := ⟨gb438, _, none⟩) NB403_438.out _).trans (((cell_far (p := ⟨gb438, _, none⟩) NB403_438.out _).trans (hHeld.2.2.2.2.2.2.2.2.2.2.2.2.2.2.2.2.2.2.2.2.2))))))))))))))))))))))) | exact ((cell_far (p := ⟨gb438, _, none⟩) NB403_438.out _).trans (((cell_far (p := ⟨gb438, _, none⟩) NB403_438.out _).trans (((cell_far (p := ⟨gb438, _, none⟩) NB403_438.out _).trans (((cell_far (p := ⟨gb438, _, none⟩) NB403_438.out _).trans (((cell_far (p := ⟨gb438, _, none⟩) NB403_438.out _).trans (((cell_far (p := ⟨gb438, _, none⟩) NB403_438.out _).trans (((cell_far (p := ⟨gb438, _, none⟩) NB403_438.out _).trans (((cell_far (p := ⟨gb438, _, none⟩) NB403_438.out _).trans (((cell_far (p := ⟨gb438, _, none⟩) NB403_438.out _).trans (((cell_far (p := ⟨gb438, _, none⟩) NB403_438.out _).trans (((cell_far (p := ⟨gb438, _, none⟩) NB403_438.out _).trans (hHeld.2.2.2.2.2.2.2.2.2.2.2.2.2.2.2.2.2.2.2.2.2)))))))))))))))))))))))⟩ (fun hHeld => ?_)
      clear hK K
      refine pure_ (i := 10) (N := some 6) (v := ?_) (a' := ?_) #[true, true, true, true, true, true, true, true, true, true, true] rfl rfl (any_of HT_.out (by kernel_rfl)) (fun _ _ _ h => h) (Or.inl ⟨by rfl, ?_⟩) ?_ ?_
      rotate_left
      · intro w'
        go_simp
        with_reducible rfl
      rotate_left
      · simp only [Act.put, List.setIfInBounds_toArray, List.set_cons_zero, List.set_cons_succ, i64_w, i32_w]
        rfl
      refine done_ (done_of HT_.out (by kernel_rfl)) ?_
      try go_wp2
      have n0_ : Aside0 ((((((((((((w19.setCell ⟨gb438, 0, none⟩ (.int .i64 t426)).setCell ⟨gb438, 1, none⟩ (.int .i64 t427)).setCell ⟨gb438, 2, none⟩ (.int .i64 t428)).setCell ⟨gb438, 3, none⟩ (.int .i64 t429)).setCell ⟨gb438, 4, none⟩ (.int .i64 t430)).setCell ⟨gb438, 5, none⟩ (.int .i64 t431)).setCell ⟨gb438, 6, none⟩ (.int .i64 t432)).setCell ⟨gb438, 7, none⟩ (.int .i64 t433)).setCell ⟨gb438, 8, none⟩ (.int .i64 t434)).setCell ⟨gb438, 9, none⟩ (.int .i64 t435)).setCell ⟨gb438, 10, none⟩ (.int .i64 t436)).heap[gb402]? = some (.cells #[.int .i64 a0_0, .int .i64 a0_1, .int .i64 a0_2, .int .i64 a0_3, .int .i64 a0_4, .int .i64 a0_5, .int .i64 a0_6, .int .i64 a0_7, .int .i64 a0_8, .int .i64 a0_9, .int .i64 a0_10] 27 (0, 0))) := ⟨by (with_reducible repeat (first | refine blk_drewN ?_ _ | refine blk_drew ?_ | refine blk_alloc ?_ _)); refine blk_far ?_ NB402_438.out _; (with_reducible repeat (first | refine blk_drewN ?_ _ | refine blk_drew ?_ | refine blk_alloc ?_ _)); refine blk_far ?_ NB402_438.out _; (with_reducible repeat (first | refine blk_drewN ?_ _ | refine blk_drew ?_ | refine blk_alloc ?_ _)); refine blk_far ?_ NB402_438.out _; (with_reducible repeat (first | refine blk_drewN ?_ _ | refine blk_drew ?_ | refine blk_alloc ?_ _)); refine blk_far ?_ NB402_438.out _; (with_reducible repeat (first | refine blk_drewN ?_ _ | refine blk_drew ?_ | refine blk_alloc ?_ _)); refine blk_far ?_ NB402_438.out _; (with_reducible repeat (first | refine blk_drewN ?_ _ | refine blk_drew ?_ | refine blk_alloc ?_ _)); refine blk_far ?_ NB402_438.out _; (with_reducible repeat (first | refine blk_drewN ?_ _ | refine blk_drew ?_ | refine blk_alloc ?_ _)); refine blk_far ?_ NB402_438.out _; (with_reducible repeat (first | refine blk_drewN ?_ _ | refine blk_drew ?_ | refine blk_alloc ?_ _)); refine blk_far ?_ NB402_438.out _; (with_reducible repeat (first | refine blk_drewN ?_ _ | refine blk_drew ?_ | refine blk_alloc ?_ _)); refine blk_far ?_ NB402_438.out _; (with_reducible repeat (first | refine blk_drewN ?_ _ | refine blk_drew ?_ | refine blk_alloc ?_ _)); refine blk_far ?_ NB402_438.out _; (with_reducible repeat (first | refine blk_drewN ?_ _ | refine blk_drew ?_ | refine blk_alloc ?_ _)); refine blk_far ?_ NB402_438.out _; (with_reducible repeat (first | refine blk_drewN ?_ _ | refine blk_drew ?_ | refine blk_alloc ?_ _)); exact BK402.out⟩
      have n1_ : Aside0 ((((((((((((w19.setCell ⟨gb438, 0, none⟩ (.int .i64 t426)).setCell ⟨gb438, 1, none⟩ (.int .i64 t427)).setCell ⟨gb438, 2, none⟩ (.int .i64 t428)).setCell ⟨gb438, 3, none⟩ (.int .i64 t429)).setCell ⟨gb438, 4, none⟩ (.int .i64 t430)).setCell ⟨gb438, 5, none⟩ (.int .i64 t431)).setCell ⟨gb438, 6, none⟩ (.int .i64 t432)).setCell ⟨gb438, 7, none⟩ (.int .i64 t433)).setCell ⟨gb438, 8, none⟩ (.int .i64 t434)).setCell ⟨gb438, 9, none⟩ (.int .i64 t435)).setCell ⟨gb438, 10, none⟩ (.int .i64 t436)).heap[gb403]? = some (.cells #[.int .i64 a1_0, .int .i64 a1_1, .int .i64 a1_2, .int .i64 a1_3, .int .i64 a1_4, .int .i64 a1_5, .int .i64 a1_6, .int .i64 a1_7, .int .i64 a1_8, .int .i64 a1_9, .int .i64 a1_10] 27 (0, 0))) := ⟨by (with_reducible repeat (first | refine blk_drewN ?_ _ | refine blk_drew ?_ | refine blk_alloc ?_ _)); refine blk_far ?_ NB403_438.out _; (with_reducible repeat (first | refine blk_drewN ?_ _ | refine blk_drew ?_ | refine blk_alloc ?_ _)); refine blk_far ?_ NB403_438.out _; (with_reducible repeat (first | refine blk_drewN ?_ _ | refine blk_drew ?_ | refine blk_alloc ?_ _)); refine blk_far ?_ NB403_438.out _; (with_reducible repeat (first | refine blk_drewN ?_ _ | refine blk_drew ?_ | refine blk_alloc ?_ _)); refine blk_far ?_ NB403_438.out _; (with_reducible repeat (first | refine blk_drewN ?_ _ | refine blk_drew ?_ | refine blk_alloc ?_ _)); refine blk_far ?_ NB403_438.out _; (with_reducible repeat (first | refine blk_drewN ?_ _ | refine blk_drew ?_ | refine blk_alloc ?_ _)); refine blk_far ?_ NB403_438.out _; (with_reducible repeat (first | refine blk_drewN ?_ _ | refine blk_drew ?_ | refine blk_alloc ?_ _)); refine blk_far ?_ NB403_438.out _; (with_reducible repeat (first | refine blk_drewN ?_ _ | refine blk_drew ?_ | refine blk_alloc ?_ _)); refine blk_far ?_ NB403_438.out _; (with_reducible repeat (first | refine blk_drewN ?_ _ | refine blk_drew ?_ | refine blk_alloc ?_ _)); refine blk_far ?_ NB403_438.out _; (with_reducible repeat (first | refine blk_drewN ?_ _ | refine blk_drew ?_ | refine blk_alloc ?_ _)); refine blk_far ?_ NB403_438.out _; (with_reducible repeat (first | refine blk_drewN ?_ _ | refine blk_drew ?_ | refine blk_alloc ?_ _)); refine blk_far ?_ NB403_438.out _; (with_reducible repeat (first | refine blk_drewN ?_ _ | refine blk_drew ?_ | refine blk_alloc ?_ _)); exact BK403.out⟩
      have n2_ : Aside0 ((((((((((((w19.setCell ⟨gb438, 0, none⟩ (.int .i64 t426)).setCell ⟨gb438, 1, none⟩ (.int .i64 t427)).setCell ⟨gb438, 2, none⟩ (.int .i64 t428)).setCell ⟨gb438, 3, none⟩ (.int .i64 t429)).setCell ⟨gb438, 4, none⟩ (.int .i64 t430)).setCell ⟨gb438, 5, none⟩ (.int .i64 t431)).setCell ⟨gb438, 6, none⟩ (.int .i64 t432)).setCell ⟨gb438, 7, none⟩ (.int .i64 t433)).setCell ⟨gb438, 8, none⟩ (.int .i64 t434)).setCell ⟨gb438, 9, none⟩ (.int .i64 t435)).setCell ⟨gb438, 10, none⟩ (.int .i64 t436)).heap[gb438]? = some (.cells #[.int .i64 t426, .int .i64 t427, .int .i64 t428, .int .i64 t429, .int .i64 t430, .int .i64 t431, .int .i64 t432, .int .i64 t433, .int .i64 t434, .int .i64 t435, .int .i64 t436] 23 (0, 0))) := ⟨by (with_reducible repeat (first | refine blk_drewN ?_ _ | refine blk_drew ?_ | refine blk_alloc ?_ _)); refine blk_put (cs := #[.int .i64 t426, .int .i64 t427, .int .i64 t428, .int .i64 t429, .int .i64 t430, .int .i64 t431, .int .i64 t432, .int .i64 t433, .int .i64 t434, .int .i64 t435, .int .i64 0]) ?_ 10 _ rfl; (with_reducible repeat (first | refine blk_drewN ?_ _ | refine blk_drew ?_ | refine blk_alloc ?_ _)); refine blk_put (cs := #[.int .i64 t426, .int .i64 t427, .int .i64 t428, .int .i64 t429, .int .i64 t430, .int .i64 t431, .int .i64 t432, .int .i64 t433, .int .i64 t434, .int .i64 0, .int .i64 0]) ?_ 9 _ rfl; (with_reducible repeat (first | refine blk_drewN ?_ _ | refine blk_drew ?_ | refine blk_alloc ?_ _)); refine blk_put (cs := #[.int .i64 t426, .int .i64 t427, .int .i64 t428, .int .i64 t429, .int .i64 t430, .int .i64 t431, .int .i64 t432, .int .i64 t433, .int .i64 0, .int .i64 0, .int .i64 0]) ?_ 8 _ rfl; (with_reducible repeat (first | refine blk_drewN ?_ _ | refine blk_drew ?_ | refine blk_alloc ?_ _)); refine blk_put (cs := #[.int .i64 t426, .int .i64 t427, .int .i64 t428, .int .i64 t429, .int .i64 t430, .int .i64 t431, .int .i64 t432, .int .i64 0, .int .i64 0, .int .i64 0, .int .i64 0]) ?_ 7 _ rfl; (with_reducible repeat (first | refine blk_drewN ?_ _ | refine blk_drew ?_ | refine blk_alloc ?_ _)); refine blk_put (cs := #[.int .i64 t426, .int .i64 t427, .int .i64 t428, .int .i64 t429, .int .i64 t430, .int .i64 t431, .int .i64 0, .int .i64 0, .int .i64 0, .int .i64 0, .int .i64 0]) ?_ 6 _ rfl; (with_reducible repeat (first | refine blk_drewN ?_ _ | refine blk_drew ?_ | refine blk_alloc ?_ _)); refine blk_put (cs := #[.int .i64 t426, .int .i64 t427, .int .i64 t428, .int .i64 t429, .int .i64 t430, .int .i64 0, .int .i64 0, .int .i64 0, .int .i64 0, .int .i64 0, .int .i64 0]) ?_ 5 _ rfl; (with_reducible repeat (first | refine blk_drewN ?_ _ | refine blk_drew ?_ | refine blk_alloc ?_ _)); refine blk_put (cs := #[.int .i64 t426, .int .i64 t427, .int .i64 t428, .int .i64 t429, .int .i64 0, .int .i64 0, .int .i64 0, .int .i64 0, .int .i64 0, .int .i64 0, .int .i64 0]) ?_ 4 _ rfl; (with_reducible repeat (first | refine blk_drewN ?_ _ | refine blk_drew ?_ | refine blk_alloc ?_ _)); refine blk_put (cs := #[.int .i64 t426, .int .i64 t427, .int .i64 t428, .int .i64 0, .int .i64 0, .int .i64 0, .int .i64 0, .int .i64 0, .int .i64 0, .int .i64 0, .int .i64 0]) ?_ 3 _ rfl; (with_reducible repeat (first | refine blk_drewN ?_ _ | refine blk_drew ?_ | refine blk_alloc ?_ _)); refine blk_put (cs := #[.int .i64 t426, .int .i64 t427, .int .i64 0, .int .i64 0, .int .i64 0, .int .i64 0, .int .i64 0, .int .i64 0, .int .i64 0, .int .i64 0, .int .i64 0]) ?_ 2 _ rfl; (with_reducible repeat (first | refine blk_drewN ?_ _ | refine blk_drew ?_ | refine blk_alloc ?_ _)); refine blk_put (cs := #[.int .i64 t426, .int .i64 0, .int .i64 0, .int .i64 0, .int .i64 0, .int .i64 0, .int .i64 0, .int .i64 0, .int .i64 0, .int .i64 0, .int .i64 0]) ?_ 1 _ rfl; (with_reducible repeat (first | refine blk_drewN ?_ _ | refine blk_drew ?_ | refine blk_alloc ?_ _)); refine blk_put (cs := #[.int .i64 0, .int .i64 0, .int .i64 0, .int .i64 0, .int .i64 0, .int .i64 0, .int .i64 0, .int .i64 0, .int .i64 0, .int .i64 0, .int .i64 0]) ?_ 0 _ rfl; (with_reducible repeat (first | refine blk_drewN ?_ _ | refine blk_drew ?_ | refine blk_alloc ?_ _)); exact BK438.out⟩
      have n3_ : Aside0 (Below w.heap.size w (((((((((((w19.setCell ⟨gb438, 0, none⟩ (.int .i64 t426)).setCell ⟨gb438, 1, none⟩ (.int .i64 t427)).setCell ⟨gb438, 2, none⟩ (.int .i64 t428)).setCell ⟨gb438, 3, none⟩ (.int .i64 t429)).setCell ⟨gb438, 4, none⟩ (.int .i64 t430)).setCell ⟨gb438, 5, none⟩ (.int .i64 t431)).setCell ⟨gb438, 6, none⟩ (.int .i64 t432)).setCell ⟨gb438, 7, none⟩ (.int .i64 t433)).setCell ⟨gb438, 8, none⟩ (.int .i64 t434)).setCell ⟨gb438, 9, none⟩ (.int .i64 t435)).setCell ⟨gb438, 10, none⟩ (.int .i64 t436))) := ⟨by repeat (first | (with_reducible first | exact HB.out | apply below_alloc | apply pw_below_drewN | apply below_drew1 | refine below_set ?_ GE402.out | refine below_set ?_ GE403.out | refine below_set ?_ GE438.out) | exact HB.out)⟩
      (try clear BK402)
      (try clear BK403)
      (try clear BK438)
      (try clear HB)
      generalize (((((((((((w19.setCell ⟨gb438, 0, none⟩ (.int .i64 t426)).setCell ⟨gb438, 1, none⟩ (.int .i64 t427)).setCell ⟨gb438, 2, none⟩ (.int .i64 t428)).setCell ⟨gb438, 3, none⟩ (.int .i64 t429)).setCell ⟨gb438, 4, none⟩ (.int .i64 t430)).setCell ⟨gb438, 5, none⟩ (.int .i64 t431)).setCell ⟨gb438, 6, none⟩ (.int .i64 t432)).setCell ⟨gb438, 7, none⟩ (.int .i64 t433)).setCell ⟨gb438, 8, none⟩ (.int .i64 t434)).setCell ⟨gb438, 9, none⟩ (.int .i64 t435)).setCell ⟨gb438, 10, none⟩ (.int .i64 t436)) = w31 at n0_ n1_ n2_ n3_ ⊢
      have BK402 := n0_
      have BK403 := n1_
      have BK438 := n2_
      have HB := n3_
      clear n0_ n1_ n2_ n3_
      have n0_ := Aside0.mk (blk_drew BK402.out)
      have n1_ := Aside0.mk (blk_drew BK403.out)
      have n2_ := Aside0.mk (blk_drew BK438.out)
      have n3_ := Aside0.mk (below_drew1 HB.out)
      clear BK402
      clear BK403
      clear BK438
      clear HB
      have BK402 := n0_
      have BK403 := n1_
      have BK438 := n2_
      have HB := n3_
      clear n0_ n1_ n2_ n3_
      refine start_ (n := 11) (S := fun w' => w'.cell? ⟨gb402, 0, none⟩ = some (.int .i64 a0_0) ∧ w'.cell? ⟨gb402, 1, none⟩ = some (.int .i64 a0_1) ∧ w'.cell? ⟨gb402, 2, none⟩ = some (.int .i64 a0_2) ∧ w'.cell? ⟨gb402, 3, none⟩ = some (.int .i64 a0_3) ∧ w'.cell? ⟨gb402, 4, none⟩ = some (.int .i64 a0_4) ∧ w'.cell? ⟨gb402, 5, none⟩ = some (.int .i64 a0_5) ∧ w'.cell? ⟨gb402, 6, none⟩ = some (.int .i64 a0_6) ∧ w'.cell? ⟨gb402, 7, none⟩ = some (.int .i64 a0_7) ∧ w'.cell? ⟨gb402, 8, none⟩ = some (.int .i64 a0_8) ∧ w'.cell? ⟨gb402, 9, none⟩ = some (.int .i64 a0_9) ∧ w'.cell? ⟨gb402, 10, none⟩ = some (.int .i64 a0_10) ∧ w'.cell? ⟨gb403, 0, none⟩ = some (.int .i64 a1_0) ∧ w'.cell? ⟨gb403, 1, none⟩ = some (.int .i64 a1_1) ∧ w'.cell? ⟨gb403, 2, none⟩ = some (.int .i64 a1_2) ∧ w'.cell? ⟨gb403, 3, none⟩ = some (.int .i64 a1_3) ∧ w'.cell? ⟨gb403, 4, none⟩ = some (.int .i64 a1_4) ∧ w'.cell? ⟨gb403, 5, none⟩ = some (.int .i64 a1_5) ∧ w'.cell? ⟨gb403, 6, none⟩ = some (.int .i64 a1_6) ∧ w'.cell? ⟨gb403, 7, none⟩ = some (.int .i64 a1_7) ∧ w'.cell? ⟨gb403, 8, none⟩ = some (.int .i64 a1_8) ∧ w'.cell? ⟨gb403, 9, none⟩ = some (.int .i64 a1_9) ∧ w'.cell? ⟨gb403, 10, none⟩ = some (.int .i64 a1_10)) (ds := []) #[false, false, false, false, false, false, false, false, false, false, false] (by kernel_rfl) rfl rfl ⟨(blk_cell BK402.out 0).trans rfl, (blk_cell BK402.out 1).trans rfl, (blk_cell BK402.out 2).trans rfl, (blk_cell BK402.out 3).trans rfl, (blk_cell BK402.out 4).trans rfl, (blk_cell BK402.out 5).trans rfl, (blk_cell BK402.out 6).trans rfl, (blk_cell BK402.out 7).trans rfl, (blk_cell BK402.out 8).trans rfl, (blk_cell BK402.out 9).trans rfl, (blk_cell BK402.out 10).trans rfl, (blk_cell BK403.out 0).trans rfl, (blk_cell BK403.out 1).trans rfl, (blk_cell BK403.out 2).trans rfl, (blk_cell BK403.out 3).trans rfl, (blk_cell BK403.out 4).trans rfl, (blk_cell BK403.out 5).trans rfl, (blk_cell BK403.out 6).trans rfl, (blk_cell BK403.out 7).trans rfl, (blk_cell BK403.out 8).trans rfl, (blk_cell BK403.out 9).trans rfl, (blk_cell BK403.out 10).trans rfl⟩ (fun hHeld => ?_); refine with_tabW laws_FnExactMeet.tab2 laws_FnExactMeet.bits2 (fun HT_ HW_ => ?_)
      generalize w31.drew = w32 at BK402 BK403 BK438 HB hHeld ⊢
      refine take_ (i := 0) (N := some 18) (v := ?_) (a' := ?_) #[true, false, false, false, false, false, false, false, false, false, false] rfl rfl (take_ofW HT_.out HW_.out (by kernel_rfl)) (fun _ _ _ h => h) (Or.inl ⟨by rfl, ?_⟩) hHeld ?_ ?_
      rotate_left
      · rintro w' ⟨s0, s1, s2, s3, s4, s5, s6, s7, s8, s9, s10, s11, s12, s13, s14, s15, s16, s17, s18, s19, s20, s21⟩
        go_simp
        with_reducible rfl
      rotate_left
      · simp only [Act.put, List.setIfInBounds_toArray, List.set_cons_zero, List.set_cons_succ, i64_w, i32_w]
        rfl
      refine take_ (i := 2) (N := some 20) (v := ?_) (a' := ?_) #[true, false, true, false, false, false, false, false, false, false, false] rfl rfl (take_ofW HT_.out HW_.out (by kernel_rfl)) (fun _ _ _ h => h) (Or.inl ⟨by rfl, ?_⟩) hHeld ?_ ?_
      rotate_left
      · rintro w' ⟨s0, s1, s2, s3, s4, s5, s6, s7, s8, s9, s10, s11, s12, s13, s14, s15, s16, s17, s18, s19, s20, s21⟩
        go_simp
        with_reducible rfl
      rotate_left
      · simp only [Act.put, List.setIfInBounds_toArray, List.set_cons_zero, List.set_cons_succ, i64_w, i32_w]
        rfl
      refine join_ (σ := Nat) 2 #[true, true, true, true, true, true, true, true, true, false, false] (fun s_ => [(19, .agg #[.int .i64 t439, .int .i64 t440, .int .i64 t441, .int .i64 t442, .int .i64 t443, .int .i64 t444, .int .i64 t445, .int .i64 t446, .int .i64 t447, .int .i64 t448, .int .i64 t449]), (21, .agg #[.int .i64 t450, .int .i64 t451, .int .i64 t452, .int .i64 t453, .int .i64 t454, .int .i64 t455, .int .i64 t456, .int .i64 t457, .int .i64 t458, .int .i64 t459, .int .i64 t460]), (22, .tuple #[.agg #[.int .i64 t461, .int .i64 t462, .int .i64 t463, .int .i64 t464, .int .i64 t465, .int .i64 t466, .int .i64 t467, .int .i64 t468, .int .i64 t469, .int .i64 t470, .int .i64 t471], .bool t472]), (7, .pointer (some ⟨s_, 0, none⟩)), (17, .tuple #[.agg #[.int .i64 t461, .int .i64 t462, .int .i64 t463, .int .i64 t464, .int .i64 t465, .int .i64 t466, .int .i64 t467, .int .i64 t468, .int .i64 t469, .int .i64 t470, .int .i64 t471], .bool t472]), (23, .agg #[.int .i64 t461, .int .i64 t462, .int .i64 t463, .int .i64 t464, .int .i64 t465, .int .i64 t466, .int .i64 t467, .int .i64 t468, .int .i64 t469, .int .i64 t470, .int .i64 t471]), (24, .bool t472)]) (fun s_ w' => (w'.cell? ⟨gb402, 0, none⟩ = some (.int .i64 a0_0) ∧ w'.cell? ⟨gb402, 1, none⟩ = some (.int .i64 a0_1) ∧ w'.cell? ⟨gb402, 2, none⟩ = some (.int .i64 a0_2) ∧ w'.cell? ⟨gb402, 3, none⟩ = some (.int .i64 a0_3) ∧ w'.cell? ⟨gb402, 4, none⟩ = some (.int .i64 a0_4) ∧ w'.cell? ⟨gb402, 5, none⟩ = some (.int .i64 a0_5) ∧ w'.cell? ⟨gb402, 6, none⟩ = some (.int .i64 a0_6) ∧ w'.cell? ⟨gb402, 7, none⟩ = some (.int .i64 a0_7) ∧ w'.cell? ⟨gb402, 8, none⟩ = some (.int .i64 a0_8) ∧ w'.cell? ⟨gb402, 9, none⟩ = some (.int .i64 a0_9) ∧ w'.cell? ⟨gb402, 10, none⟩ = some (.int .i64 a0_10) ∧ w'.cell? ⟨gb403, 0, none⟩ = some (.int .i64 a1_0) ∧ w'.cell? ⟨gb403, 1, none⟩ = some (.int .i64 a1_1) ∧ w'.cell? ⟨gb403, 2, none⟩ = some (.int .i64 a1_2) ∧ w'.cell? ⟨gb403, 3, none⟩ = some (.int .i64 a1_3) ∧ w'.cell? ⟨gb403, 4, none⟩ = some (.int .i64 a1_4) ∧ w'.cell? ⟨gb403, 5, none⟩ = some (.int .i64 a1_5) ∧ w'.cell? ⟨gb403, 6, none⟩ = some (.int .i64 a1_6) ∧ w'.cell? ⟨gb403, 7, none⟩ = some (.int .i64 a1_7) ∧ w'.cell? ⟨gb403, 8, none⟩ = some (.int .i64 a1_8) ∧ w'.cell? ⟨gb403, 9, none⟩ = some (.int .i64 a1_9) ∧ w'.cell? ⟨gb403, 10, none⟩ = some (.int .i64 a1_10)) ∧ (w'.heap[gb402]? = some (.cells #[.int .i64 a0_0, .int .i64 a0_1, .int .i64 a0_2, .int .i64 a0_3, .int .i64 a0_4, .int .i64 a0_5, .int .i64 a0_6, .int .i64 a0_7, .int .i64 a0_8, .int .i64 a0_9, .int .i64 a0_10] 27 (0, 0))) ∧ (w'.heap[gb403]? = some (.cells #[.int .i64 a1_0, .int .i64 a1_1, .int .i64 a1_2, .int .i64 a1_3, .int .i64 a1_4, .int .i64 a1_5, .int .i64 a1_6, .int .i64 a1_7, .int .i64 a1_8, .int .i64 a1_9, .int .i64 a1_10] 27 (0, 0))) ∧ (w'.heap[gb438]? = some (.cells #[.int .i64 t426, .int .i64 t427, .int .i64 t428, .int .i64 t429, .int .i64 t430, .int .i64 t431, .int .i64 t432, .int .i64 t433, .int .i64 t434, .int .i64 t435, .int .i64 t436] 23 (0, 0))) ∧ (w'.heap[s_]? = some (.cells #[.int .i64 0, .int .i64 0, .int .i64 0, .int .i64 0, .int .i64 0, .int .i64 0, .int .i64 0, .int .i64 0, .int .i64 0, .int .i64 0, .int .i64 0] 23 (0, 0))) ∧ (w.heap.size ≤ s_) ∧ (w.heap.size ≤ s_) ∧ (gb402 ≠ s_) ∧ (s_ ≠ gb402) ∧ (gb403 ≠ s_) ∧ (s_ ≠ gb403) ∧ (gb438 ≠ s_) ∧ (s_ ≠ gb438) ∧ (Below w.heap.size w w')) ?_ ?_
      rotate_left
      · intro hCont
        refine two_ (i := 1) (j := 8) (Ni := some 19) (Nj := some 7) #[true, true, true, false, false, false, false, false, false, false, false] #[true, false, true, false, false, false, false, false, true, false, false] rfl rfl rfl rfl (two_of HT_.out (by kernel_rfl)) (by decide) (by decide) (fun K hK => ?_) (fun K hK => ?_)
        · skip
          refine goes_ Try.func19 (by kernel_rfl) rfl #[.agg #[.int .i64 a0_0, .int .i64 a0_1, .int .i64 a0_2, .int .i64 a0_3, .int .i64 a0_4, .int .i64 a0_5, .int .i64 a0_6, .int .i64 a0_7, .int .i64 a0_8, .int .i64 a0_9, .int .i64 a0_10]] (by rfl) rfl rfl (by (try simp only [List.map_toArray, List.map_cons, List.map_nil]); first | done | rfl | (simp only [List.length_drop, List.length_take]; rfl)) ?_
          with_reducible refine (laws_toKnow.calls a0_0 a0_1 a0_2 a0_3 a0_4 a0_5 a0_6 a0_7 a0_8 a0_9 a0_10 t439 t440 t441 t442 t443 t444 t445 t446 t447 t448 t449 _ A6.out).mono ?_
          rintro e w33 ⟨rfl, hb⟩
          refine ⟨_, rfl, ?_⟩
          have n0_ := Aside0.mk (blk_below (g := gb402) (o := .cells #[.int .i64 a0_0, .int .i64 a0_1, .int .i64 a0_2, .int .i64 a0_3, .int .i64 a0_4, .int .i64 a0_5, .int .i64 a0_6, .int .i64 a0_7, .int .i64 a0_8, .int .i64 a0_9, .int .i64 a0_10] 27 (0, 0)) (by (with_reducible repeat (first | refine blk_drewN ?_ _ | refine blk_drew ?_ | refine blk_alloc ?_ _)); exact BK402.out) hb)
          have n1_ := Aside0.mk (blk_below (g := gb403) (o := .cells #[.int .i64 a1_0, .int .i64 a1_1, .int .i64 a1_2, .int .i64 a1_3, .int .i64 a1_4, .int .i64 a1_5, .int .i64 a1_6, .int .i64 a1_7, .int .i64 a1_8, .int .i64 a1_9, .int .i64 a1_10] 27 (0, 0)) (by (with_reducible repeat (first | refine blk_drewN ?_ _ | refine blk_drew ?_ | refine blk_alloc ?_ _)); exact BK403.out) hb)
          have n2_ := Aside0.mk (blk_below (g := gb438) (o := .cells #[.int .i64 t426, .int .i64 t427, .int .i64 t428, .int .i64 t429, .int .i64 t430, .int .i64 t431, .int .i64 t432, .int .i64 t433, .int .i64 t434, .int .i64 t435, .int .i64 t436] 23 (0, 0)) (by (with_reducible repeat (first | refine blk_drewN ?_ _ | refine blk_drew ?_ | refine blk_alloc ?_ _)); exact BK438.out) hb)
          have n3_ := Aside0.mk (below_step (by repeat (first | (with_reducible first | exact HB.out | apply below_alloc | apply pw_below_drewN | apply below_drew1 | refine below_set ?_ GE402.out | refine below_set ?_ GE403.out | refine below_set ?_ GE438.out) | exact HB.out)) hb)
          clear BK402
          clear BK403
          clear BK438
          clear HB
          have BK402 := n0_
          have BK403 := n1_
          have BK438 := n2_
          have HB := n3_
          clear n0_ n1_ n2_ n3_
          (try clear hb)
          (try clear hb2)
          (try clear hk)
          (try clear hi)
          refine hK.out _ _ ⟨(blk_cell BK402.out 0).trans rfl, (blk_cell BK402.out 1).trans rfl, (blk_cell BK402.out 2).trans rfl, (blk_cell BK402.out 3).trans rfl, (blk_cell BK402.out 4).trans rfl, (blk_cell BK402.out 5).trans rfl, (blk_cell BK402.out 6).trans rfl, (blk_cell BK402.out 7).trans rfl, (blk_cell BK402.out 8).trans rfl, (blk_cell BK402.out 9).trans rfl, (blk_cell BK402.out 10).trans rfl, (blk_cell BK403.out 0).trans rfl, (blk_cell BK403.out 1).trans rfl, (blk_cell BK403.out 2).trans rfl, (blk_cell BK403.out 3).trans rfl, (blk_cell BK403.out 4).trans rfl, (blk_cell BK403.out 5).trans rfl, (blk_cell BK403.out 6).trans rfl, (blk_cell BK403.out 7).trans rfl, (blk_cell BK403.out 8).trans rfl, (blk_cell BK403.out 9).trans rfl, (blk_cell BK403.out 10).trans rfl⟩ (fun hHeld => ?_)
          clear hK K
          refine norm_ (a' := ?_) ?_ ?_
          rotate_left
          · show Act.put _ (some 19) _ = _
            simp only [Act.put, List.setIfInBounds_toArray, List.set_cons_zero, List.set_cons_succ, i64_w, i32_w]
            rfl
          refine two_ (i := 3) (j := 8) (Ni := some 21) (Nj := some 7) #[true, true, true, true, false, false, false, false, false, false, false] #[true, true, true, false, false, false, false, false, true, false, false] rfl rfl rfl rfl (two_of HT_.out (by kernel_rfl)) (by decide) (by decide) (fun K hK => ?_) (fun K hK => ?_)
          · skip
            refine goes_ Try.func19 (by kernel_rfl) rfl #[.agg #[.int .i64 a1_0, .int .i64 a1_1, .int .i64 a1_2, .int .i64 a1_3, .int .i64 a1_4, .int .i64 a1_5, .int .i64 a1_6, .int .i64 a1_7, .int .i64 a1_8, .int .i64 a1_9, .int .i64 a1_10]] (by rfl) rfl rfl (by (try simp only [List.map_toArray, List.map_cons, List.map_nil]); first | done | rfl | (simp only [List.length_drop, List.length_take]; rfl)) ?_
            with_reducible refine (laws_toKnow.calls a1_0 a1_1 a1_2 a1_3 a1_4 a1_5 a1_6 a1_7 a1_8 a1_9 a1_10 t450 t451 t452 t453 t454 t455 t456 t457 t458 t459 t460 _ A7.out).mono ?_
            rintro e w34 ⟨rfl, hb⟩
            refine ⟨_, rfl, ?_⟩
            have n0_ := Aside0.mk (blk_below (g := gb402) (o := .cells #[.int .i64 a0_0, .int .i64 a0_1, .int .i64 a0_2, .int .i64 a0_3, .int .i64 a0_4, .int .i64 a0_5, .int .i64 a0_6, .int .i64 a0_7, .int .i64 a0_8, .int .i64 a0_9, .int .i64 a0_10] 27 (0, 0)) (by (with_reducible repeat (first | refine blk_drewN ?_ _ | refine blk_drew ?_ | refine blk_alloc ?_ _)); exact BK402.out) hb)
            have n1_ := Aside0.mk (blk_below (g := gb403) (o := .cells #[.int .i64 a1_0, .int .i64 a1_1, .int .i64 a1_2, .int .i64 a1_3, .int .i64 a1_4, .int .i64 a1_5, .int .i64 a1_6, .int .i64 a1_7, .int .i64 a1_8, .int .i64 a1_9, .int .i64 a1_10] 27 (0, 0)) (by (with_reducible repeat (first | refine blk_drewN ?_ _ | refine blk_drew ?_ | refine blk_alloc ?_ _)); exact BK403.out) hb)
            have n2_ := Aside0.mk (blk_below (g := gb438) (o := .cells #[.int .i64 t426, .int .i64 t427, .int .i64 t428, .int .i64 t429, .int .i64 t430, .int .i64 t431, .int .i64 t432, .int .i64 t433, .int .i64 t434, .int .i64 t435, .int .i64 t436] 23 (0, 0)) (by (with_reducible repeat (first | refine blk_drewN ?_ _ | refine blk_drew ?_ | refine blk_alloc ?_ _)); exact BK438.out) hb)
            have n3_ := Aside0.mk (below_step (by repeat (first | (with_reducible first | exact HB.out | apply below_alloc | apply pw_below_drewN | apply below_drew1 | refine below_set ?_ GE402.out | refine below_set ?_ GE403.out | refine below_set ?_ GE438.out) | exact HB.out)) hb)
            clear BK402
            clear BK403
            clear BK438
            clear HB
            have BK402 := n0_
            have BK403 := n1_
            have BK438 := n2_
            have HB := n3_
            clear n0_ n1_ n2_ n3_
            (try clear hb)
            (try clear hb2)
            (try clear hk)
            (try clear hi)
            refine hK.out _ _ ⟨(blk_cell BK402.out 0).trans rfl, (blk_cell BK402.out 1).trans rfl, (blk_cell BK402.out 2).trans rfl, (blk_cell BK402.out 3).trans rfl, (blk_cell BK402.out 4).trans rfl, (blk_cell BK402.out 5).trans rfl, (blk_cell BK402.out 6).trans rfl, (blk_cell BK402.out 7).trans rfl, (blk_cell BK402.out 8).trans rfl, (blk_cell BK402.out 9).trans rfl, (blk_cell BK402.out 10).trans rfl, (blk_cell BK403.out 0).trans rfl, (blk_cell BK403.out 1).trans rfl, (blk_cell BK403.out 2).trans rfl, (blk_cell BK403.out 3).trans rfl, (blk_cell BK403.out 4).trans rfl, (blk_cell BK403.out 5).trans rfl, (blk_cell BK403.out 6).trans rfl, (blk_cell BK403.out 7).trans rfl, (blk_cell BK403.out 8).trans rfl, (blk_cell BK403.out 9).trans rfl, (blk_cell BK403.out 10).trans rfl⟩ (fun hHeld => ?_)
            clear hK K
            refine norm_ (a' := ?_) ?_ ?_
            rotate_left
            · show Act.put _ (some 21) _ = _
              simp only [Act.put, List.setIfInBounds_toArray, List.set_cons_zero, List.set_cons_succ, i64_w, i32_w]
              rfl
            refine two_ (i := 4) (j := 8) (Ni := some 22) (Nj := some 7) #[true, true, true, true, true, false, false, false, false, false, false] #[true, true, true, true, false, false, false, false, true, false, false] rfl rfl rfl rfl (two_of HT_.out (by kernel_rfl)) (by decide) (by decide) (fun K hK => ?_) (fun K hK => ?_)
            · skip
              refine goes_ Try.func31 (by kernel_rfl) rfl #[.agg #[.int .i64 t439, .int .i64 t440, .int .i64 t441, .int .i64 t442, .int .i64 t443, .int .i64 t444, .int .i64 t445, .int .i64 t446, .int .i64 t447, .int .i64 t448, .int .i64 t449], .agg #[.int .i64 t450, .int .i64 t451, .int .i64 t452, .int .i64 t453, .int .i64 t454, .int .i64 t455, .int .i64 t456, .int .i64 t457, .int .i64 t458, .int .i64 t459, .int .i64 t460]] (by rfl) rfl rfl (by (try simp only [List.map_toArray, List.map_cons, List.map_nil]); first | done | rfl | (simp only [List.length_drop, List.length_take]; rfl)) ?_
              with_reducible refine (impl_Meet.calls t439 t440 t441 t442 t443 t444 t445 t446 t447 t448 t449 t450 t451 t452 t453 t454 t455 t456 t457 t458 t459 t460 t461 t462 t463 t464 t465 t466 t467 t468 t469 t470 t471 t472 _ A8.out).mono ?_
              rintro e w35 ⟨rfl, hb⟩
              refine ⟨_, rfl, ?_⟩
              have n0_ := Aside0.mk (blk_below (g := gb402) (o := .cells #[.int .i64 a0_0, .int .i64 a0_1, .int .i64 a0_2, .int .i64 a0_3, .int .i64 a0_4, .int .i64 a0_5, .int .i64 a0_6, .int .i64 a0_7, .int .i64 a0_8, .int .i64 a0_9, .int .i64 a0_10] 27 (0, 0)) (by (with_reducible repeat (first | refine blk_drewN ?_ _ | refine blk_drew ?_ | refine blk_alloc ?_ _)); exact BK402.out) hb)
              have n1_ := Aside0.mk (blk_below (g := gb403) (o := .cells #[.int .i64 a1_0, .int .i64 a1_1, .int .i64 a1_2, .int .i64 a1_3, .int .i64 a1_4, .int .i64 a1_5, .int .i64 a1_6, .int .i64 a1_7, .int .i64 a1_8, .int .i64 a1_9, .int .i64 a1_10] 27 (0, 0)) (by (with_reducible repeat (first | refine blk_drewN ?_ _ | refine blk_drew ?_ | refine blk_alloc ?_ _)); exact BK403.out) hb)
              have n2_ := Aside0.mk (blk_below (g := gb438) (o := .cells #[.int .i64 t426, .int .i64 t427, .int .i64 t428, .int .i64 t429, .int .i64 t430, .int .i64 t431, .int .i64 t432, .int .i64 t433, .int .i64 t434, .int .i64 t435, .int .i64 t436] 23 (0, 0)) (by (with_reducible repeat (first | refine blk_drewN ?_ _ | refine blk_drew ?_ | refine blk_alloc ?_ _)); exact BK438.out) hb)
              have n3_ := Aside0.mk (below_step (by repeat (first | (with_reducible first | exact HB.out | apply below_alloc | apply pw_below_drewN | apply below_drew1 | refine below_set ?_ GE402.out | refine below_set ?_ GE403.out | refine below_set ?_ GE438.out) | exact HB.out)) hb)
              clear BK402
              clear BK403
              clear BK438
              clear HB
              have BK402 := n0_
              have BK403 := n1_
              have BK438 := n2_
              have HB := n3_
              clear n0_ n1_ n2_ n3_
              (try clear hb)
              (try clear hb2)
              (try clear hk)
              (try clear hi)
              refine hK.out _ _ ⟨(blk_cell BK402.out 0).trans rfl, (blk_cell BK402.out 1).trans rfl, (blk_cell BK402.out 2).trans rfl, (blk_cell BK402.out 3).trans rfl, (blk_cell BK402.out 4).trans rfl, (blk_cell BK402.out 5).trans rfl, (blk_cell BK402.out 6).trans rfl, (blk_cell BK402.out 7).trans rfl, (blk_cell BK402.out 8).trans rfl, (blk_cell BK402.out 9).trans rfl, (blk_cell BK402.out 10).trans rfl, (blk_cell BK403.out 0).trans rfl, (blk_cell BK403.out 1).trans rfl, (blk_cell BK403.out 2).trans rfl, (blk_cell BK403.out 3).trans rfl, (blk_cell BK403.out 4).trans rfl, (blk_cell BK403.out 5).trans rfl, (blk_cell BK403.out 6).trans rfl, (blk_cell BK403.out 7).trans rfl, (blk_cell BK403.out 8).trans rfl, (blk_cell BK403.out 9).trans rfl, (blk_cell BK403.out 10).trans rfl⟩ (fun hHeld => ?_)
              clear hK K
              refine norm_ (a' := ?_) ?_ ?_
              rotate_left
              · show Act.put _ (some 22) _ = _
                simp only [Act.put, List.setIfInBounds_toArray, List.set_cons_zero, List.set_cons_succ, i64_w, i32_w]
                rfl
              refine pure_ (i := 5) (N := some 17) (v := ?_) (a' := ?_) #[true, true, true, true, true, true, false, false, false, false, false] rfl rfl (any_of HT_.out (by kernel_rfl)) (fun _ _ _ h => h) (Or.inl ⟨by rfl, ?_⟩) ?_ ?_
              rotate_left
              · intro w'
                go_simp
                with_reducible rfl
              rotate_left
              · simp only [Act.put, List.setIfInBounds_toArray, List.set_cons_zero, List.set_cons_succ, i64_w, i32_w]
                rfl
              refine pure_ (i := 6) (N := some 23) (v := ?_) (a' := ?_) #[true, true, true, true, true, true, true, false, false, false, false] rfl rfl (any_of HT_.out (by kernel_rfl)) (fun _ _ _ h => h) (Or.inl ⟨by rfl, ?_⟩) ?_ ?_
              rotate_left
              · intro w'
                go_simp
                with_reducible rfl
              rotate_left
              · simp only [Act.put, List.setIfInBounds_toArray, List.set_cons_zero, List.set_cons_succ, i64_w, i32_w]
                rfl
              refine pure_ (i := 7) (N := some 24) (v := ?_) (a' := ?_) #[true, true, true, true, true, true, true, true, false, false, false] rfl rfl (any_of HT_.out (by kernel_rfl)) (fun _ _ _ h => h) (Or.inl ⟨by rfl, ?_⟩) ?_ ?_
              rotate_left
              · intro w'
                go_simp
                with_reducible rfl
              rotate_left
              · simp only [Act.put, List.setIfInBounds_toArray, List.set_cons_zero, List.set_cons_succ, i64_w, i32_w]
                rfl
              refine one_ (i := 8) (N := some 7) #[true, true, true, true, true, true, true, true, true, false, false] rfl rfl (one_of HT_.out (by kernel_rfl)) (by decide) (fun K hK => ?_)
              refine box_step ?hg (N := 7) ?hd (cs := #[.int .i64 0, .int .i64 0, .int .i64 0, .int .i64 0, .int .i64 0, .int .i64 0, .int .i64 0, .int .i64 0, .int .i64 0, .int .i64 0, .int .i64 0]) (t := 23) ?hr ?_; (case hd => rfl); (case hg => rfl); (case hr => first | (go_simp; done) | (go_simp; rfl))
              intro gb473 hg w36 hbox hb
              have n0_ := Aside0.mk (blk_below (g := gb402) (o := .cells #[.int .i64 a0_0, .int .i64 a0_1, .int .i64 a0_2, .int .i64 a0_3, .int .i64 a0_4, .int .i64 a0_5, .int .i64 a0_6, .int .i64 a0_7, .int .i64 a0_8, .int .i64 a0_9, .int .i64 a0_10] 27 (0, 0)) (by (with_reducible repeat (first | refine blk_drewN ?_ _ | refine blk_drew ?_ | refine blk_alloc ?_ _)); exact BK402.out) hb)
              have n1_ := Aside0.mk (blk_below (g := gb403) (o := .cells #[.int .i64 a1_0, .int .i64 a1_1, .int .i64 a1_2, .int .i64 a1_3, .int .i64 a1_4, .int .i64 a1_5, .int .i64 a1_6, .int .i64 a1_7, .int .i64 a1_8, .int .i64 a1_9, .int .i64 a1_10] 27 (0, 0)) (by (with_reducible repeat (first | refine blk_drewN ?_ _ | refine blk_drew ?_ | refine blk_alloc ?_ _)); exact BK403.out) hb)
              have n2_ := Aside0.mk (blk_below (g := gb438) (o := .cells #[.int .i64 t426, .int .i64 t427, .int .i64 t428, .int .i64 t429, .int .i64 t430, .int .i64 t431, .int .i64 t432, .int .i64 t433, .int .i64 t434, .int .i64 t435, .int .i64 t436] 23 (0, 0)) (by (with_reducible repeat (first | refine blk_drewN ?_ _ | refine blk_drew ?_ | refine blk_alloc ?_ _)); exact BK438.out) hb)
              have n3_ := Aside0.mk (below_step (by repeat (first | (with_reducible first | exact HB.out | apply below_alloc | apply pw_below_drewN | apply below_drew1 | refine below_set ?_ GE402.out | refine below_set ?_ GE403.out | refine below_set ?_ GE438.out) | exact HB.out)) hb)
              have n4_ := Aside0.mk (hbox)
              have n5_ := Aside0.mk ((by rw [hg]; exact (below_size (by repeat (first | (with_reducible first | exact HB.out | apply below_alloc | apply pw_below_drewN | apply below_drew1 | refine below_set ?_ GE402.out | refine below_set ?_ GE403.out | refine below_set ?_ GE438.out) | exact HB.out))) : w.heap.size ≤ gb473))
              have n6_ := Aside0.mk ((by rw [hg]; exact (below_size (by repeat (first | (with_reducible first | exact HB.out | apply below_alloc | apply pw_below_drewN | apply below_drew1 | refine below_set ?_ GE402.out | refine below_set ?_ GE403.out | refine below_set ?_ GE438.out) | exact HB.out))) : w.heap.size ≤ gb473))
              have n7_ := Aside0.mk ((by rw [hg]; exact Nat.ne_of_lt (blk_lt (g := gb402) (o := .cells #[.int .i64 a0_0, .int .i64 a0_1, .int .i64 a0_2, .int .i64 a0_3, .int .i64 a0_4, .int .i64 a0_5, .int .i64 a0_6, .int .i64 a0_7, .int .i64 a0_8, .int .i64 a0_9, .int .i64 a0_10] 27 (0, 0)) (by (with_reducible repeat (first | refine blk_drewN ?_ _ | refine blk_drew ?_ | refine blk_alloc ?_ _)); exact BK402.out)) : gb402 ≠ gb473))
              have n8_ := Aside0.mk ((by rw [hg]; exact Nat.ne_of_gt (blk_lt (g := gb402) (o := .cells #[.int .i64 a0_0, .int .i64 a0_1, .int .i64 a0_2, .int .i64 a0_3, .int .i64 a0_4, .int .i64 a0_5, .int .i64 a0_6, .int .i64 a0_7, .int .i64 a0_8, .int .i64 a0_9, .int .i64 a0_10] 27 (0, 0)) (by (with_reducible repeat (first | refine blk_drewN ?_ _ | refine blk_drew ?_ | refine blk_alloc ?_ _)); exact BK402.out)) : gb473 ≠ gb402))
              have n9_ := Aside0.mk ((by rw [hg]; exact Nat.ne_of_lt (blk_lt (g := gb403) (o := .cells #[.int .i64 a1_0, .int .i64 a1_1, .int .i64 a1_2, .int .i64 a1_3, .int .i64 a1_4, .int .i64 a1_5, .int .i64 a1_6, .int .i64 a1_7, .int .i64 a1_8, .int .i64 a1_9, .int .i64 a1_10] 27 (0, 0)) (by (with_reducible repeat (first | refine blk_drewN ?_ _ | refine blk_drew ?_ | refine blk_alloc ?_ _)); exact BK403.out)) : gb403 ≠ gb473))
              have n10_ := Aside0.mk ((by rw [hg]; exact Nat.ne_of_gt (blk_lt (g := gb403) (o := .cells #[.int .i64 a1_0, .int .i64 a1_1, .int .i64 a1_2, .int .i64 a1_3, .int .i64 a1_4, .int .i64 a1_5, .int .i64 a1_6, .int .i64 a1_7, .int .i64 a1_8, .int .i64 a1_9, .int .i64 a1_10] 27 (0, 0)) (by (with_reducible repeat (first | refine blk_drewN ?_ _ | refine blk_drew ?_ | refine blk_alloc ?_ _)); exact BK403.out)) : gb473 ≠ gb403))
              have n11_ := Aside0.mk ((by rw [hg]; exact Nat.ne_of_lt (blk_lt (g := gb438) (o := .cells #[.int .i64 t426, .int .i64 t427, .int .i64 t428, .int .i64 t429, .int .i64 t430, .int .i64 t431, .int .i64 t432, .int .i64 t433, .int .i64 t434, .int .i64 t435, .int .i64 t436] 23 (0, 0)) (by (with_reducible repeat (first | refine blk_drewN ?_ _ | refine blk_drew ?_ | refine blk_alloc ?_ _)); exact BK438.out)) : gb438 ≠ gb473))
              have n12_ := Aside0.mk ((by rw [hg]; exact Nat.ne_of_gt (blk_lt (g := gb438) (o := .cells #[.int .i64 t426, .int .i64 t427, .int .i64 t428, .int .i64 t429, .int .i64 t430, .int .i64 t431, .int .i64 t432, .int .i64 t433, .int .i64 t434, .int .i64 t435, .int .i64 t436] 23 (0, 0)) (by (with_reducible repeat (first | refine blk_drewN ?_ _ | refine blk_drew ?_ | refine blk_alloc ?_ _)); exact BK438.out)) : gb473 ≠ gb438))
              clear BK402
              clear BK403
              clear BK438
              clear HB
              have BK402 := n0_
              have BK403 := n1_
              have BK438 := n2_
              have HB := n3_
              have BK473 := n4_
              have GW473 := n5_
              have GE473 := n6_
              have NB402_473 := n7_
              have NB473_402 := n8_
              have NB403_473 := n9_
              have NB473_403 := n10_
              have NB438_473 := n11_
              have NB473_438 := n12_
              clear n0_ n1_ n2_ n3_ n4_ n5_ n6_ n7_ n8_ n9_ n10_ n11_ n12_
              clear hb hbox hg
              refine hK.out _ _ ⟨(blk_cell BK402.out 0).trans rfl, (blk_cell BK402.out 1).trans rfl, (blk_cell BK402.out 2).trans rfl, (blk_cell BK402.out 3).trans rfl, (blk_cell BK402.out 4).trans rfl, (blk_cell BK402.out 5).trans rfl, (blk_cell BK402.out 6).trans rfl, (blk_cell BK402.out 7).trans rfl, (blk_cell BK402.out 8).trans rfl, (blk_cell BK402.out 9).trans rfl, (blk_cell BK402.out 10).trans rfl, (blk_cell BK403.out 0).trans rfl, (blk_cell BK403.out 1).trans rfl, (blk_cell BK403.out 2).trans rfl, (blk_cell BK403.out 3).trans rfl, (blk_cell BK403.out 4).trans rfl, (blk_cell BK403.out 5).trans rfl, (blk_cell BK403.out 6).trans rfl, (blk_cell BK403.out 7).trans rfl, (blk_cell BK403.out 8).trans rfl, (blk_cell BK403.out 9).trans rfl, (blk_cell BK403.out 10).trans rfl⟩ (fun hHeld => ?_)
              clear hK K
              refine norm_ (a' := ?_) ?_ ?_
              rotate_left
              · show Act.put _ (some 7) _ = _
                simp only [Act.put, List.setIfInBounds_toArray, List.set_cons_zero, List.set_cons_succ, i64_w, i32_w]
                rfl
              exact norm_ (by simp only [putAll, Act.put, List.setIfInBounds_toArray, List.set_cons_zero, List.set_cons_succ]) (hCont (gb473) _ ⟨hHeld, (by (with_reducible repeat (first | refine blk_drewN ?_ _ | refine blk_drew ?_ | refine blk_alloc ?_ _)); exact BK402.out), (by (with_reducible repeat (first | refine blk_drewN ?_ _ | refine blk_drew ?_ | refine blk_alloc ?_ _)); exact BK403.out), (by (with_reducible repeat (first | refine blk_drewN ?_ _ | refine blk_drew ?_ | refine blk_alloc ?_ _)); exact BK438.out), (by (with_reducible repeat (first | refine blk_drewN ?_ _ | refine blk_drew ?_ | refine blk_alloc ?_ _)); exact BK473.out), GW473.out, GE473.out, NB402_473.out, NB473_402.out, NB403_473.out, NB473_403.out, NB438_473.out, NB473_438.out, (by repeat (first | (with_reducible first | exact HB.out | apply below_alloc | apply pw_below_drewN | apply below_drew1 | refine below_set ?_ GE402.out | refine below_set ?_ GE403.out | refine below_set ?_ GE438.out | refine below_set ?_ GE473.out) | exact HB.out))⟩)
            · skip
              refine box_step ?hg (N := 7) ?hd (cs := #[.int .i64 0, .int .i64 0, .int .i64 0, .int .i64 0, .int .i64 0, .int .i64 0, .int .i64 0, .int .i64 0, .int .i64 0, .int .i64 0, .int .i64 0]) (t := 23) ?hr ?_; (case hd => rfl); (case hg => rfl); (case hr => first | (go_simp; done) | (go_simp; rfl))
              intro gb473 hg w35 hbox hb
              have n0_ := Aside0.mk (blk_below (g := gb402) (o := .cells #[.int .i64 a0_0, .int .i64 a0_1, .int .i64 a0_2, .int .i64 a0_3, .int .i64 a0_4, .int .i64 a0_5, .int .i64 a0_6, .int .i64 a0_7, .int .i64 a0_8, .int .i64 a0_9, .int .i64 a0_10] 27 (0, 0)) (by (with_reducible repeat (first | refine blk_drewN ?_ _ | refine blk_drew ?_ | refine blk_alloc ?_ _)); exact BK402.out) hb)
              have n1_ := Aside0.mk (blk_below (g := gb403) (o := .cells #[.int .i64 a1_0, .int .i64 a1_1, .int .i64 a1_2, .int .i64 a1_3, .int .i64 a1_4, .int .i64 a1_5, .int .i64 a1_6, .int .i64 a1_7, .int .i64 a1_8, .int .i64 a1_9, .int .i64 a1_10] 27 (0, 0)) (by (with_reducible repeat (first | refine blk_drewN ?_ _ | refine blk_drew ?_ | refine blk_alloc ?_ _)); exact BK403.out) hb)
              have n2_ := Aside0.mk (blk_below (g := gb438) (o := .cells #[.int .i64 t426, .int .i64 t427, .int .i64 t428, .int .i64 t429, .int .i64 t430, .int .i64 t431, .int .i64 t432, .int .i64 t433, .int .i64 t434, .int .i64 t435, .int .i64 t436] 23 (0, 0)) (by (with_reducible repeat (first | refine blk_drewN ?_ _ | refine blk_drew ?_ | refine blk_alloc ?_ _)); exact BK438.out) hb)
              have n3_ := Aside0.mk (below_step (by repeat (first | (with_reducible first | exact HB.out | apply below_alloc | apply pw_below_drewN | apply below_drew1 | refine below_set ?_ GE402.out | refine below_set ?_ GE403.out | refine below_set ?_ GE438.out) | exact HB.out)) hb)
              have n4_ := Aside0.mk (hbox)
              have n5_ := Aside0.mk ((by rw [hg]; exact (below_size (by repeat (first | (with_reducible first | exact HB.out | apply below_alloc | apply pw_below_drewN | apply below_drew1 | refine below_set ?_ GE402.out | refine below_set ?_ GE403.out | refine below_set ?_ GE438.out) | exact HB.out))) : w.heap.size ≤ gb473))
              have n6_ := Aside0.mk ((by rw [hg]; exact (below_size (by repeat (first | (with_reducible first | exact HB.out | apply below_alloc | apply pw_below_drewN | apply below_drew1 | refine below_set ?_ GE402.out | refine below_set ?_ GE403.out | refine below_set ?_ GE438.out) | exact HB.out))) : w.heap.size ≤ gb473))
              have n7_ := Aside0.mk ((by rw [hg]; exact Nat.ne_of_lt (blk_lt (g := gb402) (o := .cells #[.int .i64 a0_0, .int .i64 a0_1, .int .i64 a0_2, .int .i64 a0_3, .int .i64 a0_4, .int .i64 a0_5, .int .i64 a0_6, .int .i64 a0_7, .int .i64 a0_8, .int .i64 a0_9, .int .i64 a0_10] 27 (0, 0)) (by (with_reducible repeat (first | refine blk_drewN ?_ _ | refine blk_drew ?_ | refine blk_alloc ?_ _)); exact BK402.out)) : gb402 ≠ gb473))
              have n8_ := Aside0.mk ((by rw [hg]; exact Nat.ne_of_gt (blk_lt (g := gb402) (o := .cells #[.int .i64 a0_0, .int .i64 a0_1, .int .i64 a0_2, .int .i64 a0_3, .int .i64 a0_4, .int .i64 a0_5, .int .i64 a0_6, .int .i64 a0_7, .int .i64 a0_8, .int .i64 a0_9, .int .i64 a0_10] 27 (0, 0)) (by (with_reducible repeat (first | refine blk_drewN ?_ _ | refine blk_drew ?_ | refine blk_alloc ?_ _)); exact BK402.out)) : gb473 ≠ gb402))
              have n9_ := Aside0.mk ((by rw [hg]; exact Nat.ne_of_lt (blk_lt (g := gb403) (o := .cells #[.int .i64 a1_0, .int .i64 a1_1, .int .i64 a1_2, .int .i64 a1_3, .int .i64 a1_4, .int .i64 a1_5, .int .i64 a1_6, .int .i64 a1_7, .int .i64 a1_8, .int .i64 a1_9, .int .i64 a1_10] 27 (0, 0)) (by (with_reducible repeat (first | refine blk_drewN ?_ _ | refine blk_drew ?_ | refine blk_alloc ?_ _)); exact BK403.out)) : gb403 ≠ gb473))
              have n10_ := Aside0.mk ((by rw [hg]; exact Nat.ne_of_gt (blk_lt (g := gb403) (o := .cells #[.int .i64 a1_0, .int .i64 a1_1, .int .i64 a1_2, .int .i64 a1_3, .int .i64 a1_4, .int .i64 a1_5, .int .i64 a1_6, .int .i64 a1_7, .int .i64 a1_8, .int .i64 a1_9, .int .i64 a1_10] 27 (0, 0)) (by (with_reducible repeat (first | refine blk_drewN ?_ _ | refine blk_drew ?_ | refine blk_alloc ?_ _)); exact BK403.out)) : gb473 ≠ gb403))
              have n11_ := Aside0.mk ((by rw [hg]; exact Nat.ne_of_lt (blk_lt (g := gb438) (o := .cells #[.int .i64 t426, .int .i64 t427, .int .i64 t428, .int .i64 t429, .int .i64 t430, .int .i64 t431, .int .i64 t432, .int .i64 t433, .int .i64 t434, .int .i64 t435, .int .i64 t436] 23 (0, 0)) (by (with_reducible repeat (first | refine blk_drewN ?_ _ | refine blk_drew ?_ | refine blk_alloc ?_ _)); exact BK438.out)) : gb438 ≠ gb473))
              have n12_ := Aside0.mk ((by rw [hg]; exact Nat.ne_of_gt (blk_lt (g := gb438) (o := .cells #[.int .i64 t426, .int .i64 t427, .int .i64 t428, .int .i64 t429, .int .i64 t430, .int .i64 t431, .int .i64 t432, .int .i64 t433, .int .i64 t434, .int .i64 t435, .int .i64 t436] 23 (0, 0)) (by (with_reducible repeat (first | refine blk_drewN ?_ _ | refine blk_drew ?_ | refine blk_alloc ?_ _)); exact BK438.out)) : gb473 ≠ gb438))
              clear BK402
              clear BK403
              clear BK438
              clear HB
              have BK402 := n0_
              have BK403 := n1_
              have BK438 := n2_
              have HB := n3_
              have BK473 := n4_
              have GW473 := n5_
              have GE473 := n6_
              have NB402_473 := n7_
              have NB473_402 := n8_
              have NB403_473 := n9_
              have NB473_403 := n10_
              have NB438_473 := n11_
              have NB473_438 := n12_
              clear n0_ n1_ n2_ n3_ n4_ n5_ n6_ n7_ n8_ n9_ n10_ n11_ n12_
              clear hb hbox hg
              refine hK.out _ _ ⟨(blk_cell BK402.out 0).trans rfl, (blk_cell BK402.out 1).trans rfl, (blk_cell BK402.out 2).trans rfl, (blk_cell BK402.out 3).trans rfl, (blk_cell BK402.out 4).trans rfl, (blk_cell BK402.out 5).trans rfl, (blk_cell BK402.out 6).trans rfl, (blk_cell BK402.out 7).trans rfl, (blk_cell BK402.out 8).trans rfl, (blk_cell BK402.out 9).trans rfl, (blk_cell BK402.out 10).trans rfl, (blk_cell BK403.out 0).trans rfl, (blk_cell BK403.out 1).trans rfl, (blk_cell BK403.out 2).trans rfl, (blk_cell BK403.out 3).trans rfl, (blk_cell BK403.out 4).trans rfl, (blk_cell BK403.out 5).trans rfl, (blk_cell BK403.out 6).trans rfl, (blk_cell BK403.out 7).trans rfl, (blk_cell BK403.out 8).trans rfl, (blk_cell BK403.out 9).trans rfl, (blk_cell BK403.out 10).trans rfl⟩ (fun hHeld => ?_)
              clear hK K
              refine norm_ (a' := ?_) ?_ ?_
              rotate_left
              · show Act.put _ (some 7) _ = _
                simp only [Act.put, List.setIfInBounds_toArray, List.set_cons_zero, List.set_cons_succ, i64_w, i32_w]
                rfl
              refine one_ (i := 4) (N := some 22) #[true, true, true, true, true, false, false, false, true, false, false] rfl rfl (one_of HT_.out (by kernel_rfl)) (by decide) (fun K hK => ?_)
              refine goes_ Try.func31 (by kernel_rfl) rfl #[.agg #[.int .i64 t439, .int .i64 t440, .int .i64 t441, .int .i64 t442, .int .i64 t443, .int .i64 t444, .int .i64 t445, .int .i64 t446, .int .i64 t447, .int .i64 t448, .int .i64 t449], .agg #[.int .i64 t450, .int .i64 t451, .int .i64 t452, .int .i64 t453, .int .i64 t454, .int .i64 t455, .int .i64 t456, .int .i64 t457, .int .i64 t458, .int .i64 t459, .int .i64 t460]] (by rfl) rfl rfl (by (try simp only [List.map_toArray, List.map_cons, List.map_nil]); first | done | rfl | (simp only [List.length_drop, List.length_take]; rfl)) ?_
              with_reducible refine (impl_Meet.calls t439 t440 t441 t442 t443 t444 t445 t446 t447 t448 t449 t450 t451 t452 t453 t454 t455 t456 t457 t458 t459 t460 t461 t462 t463 t464 t465 t466 t467 t468 t469 t470 t471 t472 _ A8.out).mono ?_
              rintro e w36 ⟨rfl, hb⟩
              refine ⟨_, rfl, ?_⟩
              have n0_ := Aside0.mk (blk_below (g := gb402) (o := .cells #[.int .i64 a0_0, .int .i64 a0_1, .int .i64 a0_2, .int .i64 a0_3, .int .i64 a0_4, .int .i64 a0_5, .int .i64 a0_6, .int .i64 a0_7, .int .i64 a0_8, .int .i64 a0_9, .int .i64 a0_10] 27 (0, 0)) (by (with_reducible repeat (first | refine blk_drewN ?_ _ | refine blk_drew ?_ | refine blk_alloc ?_ _)); exact BK402.out) hb)
              have n1_ := Aside0.mk (blk_below (g := gb403) (o := .cells #[.int .i64 a1_0, .int .i64 a1_1, .int .i64 a1_2, .int .i64 a1_3, .int .i64 a1_4, .int .i64 a1_5, .int .i64 a1_6, .int .i64 a1_7, .int .i64 a1_8, .int .i64 a1_9, .int .i64 a1_10] 27 (0, 0)) (by (with_reducible repeat (first | refine blk_drewN ?_ _ | refine blk_drew ?_ | refine blk_alloc ?_ _)); exact BK403.out) hb)
              have n2_ := Aside0.mk (blk_below (g := gb438) (o := .cells #[.int .i64 t426, .int .i64 t427, .int .i64 t428, .int .i64 t429, .int .i64 t430, .int .i64 t431, .int .i64 t432, .int .i64 t433, .int .i64 t434, .int .i64 t435, .int .i64 t436] 23 (0, 0)) (by (with_reducible repeat (first | refine blk_drewN ?_ _ | refine blk_drew ?_ | refine blk_alloc ?_ _)); exact BK438.out) hb)
              have n3_ := Aside0.mk (blk_below (g := gb473) (o := .cells #[.int .i64 0, .int .i64 0, .int .i64 0, .int .i64 0, .int .i64 0, .int .i64 0, .int .i64 0, .int .i64 0, .int .i64 0, .int .i64 0, .int .i64 0] 23 (0, 0)) (by (with_reducible repeat (first | refine blk_drewN ?_ _ | refine blk_drew ?_ | refine blk_alloc ?_ _)); exact BK473.out) hb)
              have n4_ := Aside0.mk (below_step (by repeat (first | (with_reducible first | exact HB.out | apply below_alloc | apply pw_below_drewN | apply below_drew1 | refine below_set ?_ GE402.out | refine below_set ?_ GE403.out | refine below_set ?_ GE438.out | refine below_set ?_ GE473.out) | exact HB.out)) hb)
              clear BK402
              clear BK403
              clear BK438
              clear BK473
              clear HB
              have BK402 := n0_
              have BK403 := n1_
              have BK438 := n2_
              have BK473 := n3_
              have HB := n4_
              clear n0_ n1_ n2_ n3_ n4_
              (try clear hb)
              (try clear hb2)
              (try clear hk)
              (try clear hi)
              refine hK.out _ _ ⟨(blk_cell BK402.out 0).trans rfl, (blk_cell BK402.out 1).trans rfl, (blk_cell BK402.out 2).trans rfl, (blk_cell BK402.out 3).trans rfl, (blk_cell BK402.out 4).trans rfl, (blk_cell BK402.out 5).trans rfl, (blk_cell BK402.out 6).trans rfl, (blk_cell BK402.out 7).trans rfl, (blk_cell BK402.out 8).trans rfl, (blk_cell BK402.out 9).trans rfl, (blk_cell BK402.out 10).trans rfl, (blk_cell BK403.out 0).trans rfl, (blk_cell BK403.out 1).trans rfl, (blk_cell BK403.out 2).trans rfl, (blk_cell BK403.out 3).trans rfl, (blk_cell BK403.out 4).trans rfl, (blk_cell BK403.out 5).trans rfl, (blk_cell BK403.out 6).trans rfl, (blk_cell BK403.out 7).trans rfl, (blk_cell BK403.out 8).trans rfl, (blk_cell BK403.out 9).trans rfl, (blk_cell BK403.out 10).trans rfl⟩ (fun hHeld => ?_)
              clear hK K
              refine norm_ (a' := ?_) ?_ ?_
              rotate_left
              · show Act.put _ (some 22) _ = _
                simp only [Act.put, List.setIfInBounds_toArray, List.set_cons_zero, List.set_cons_succ, i64_w, i32_w]
                rfl
              refine pure_ (i := 5) (N := some 17) (v := ?_) (a' := ?_) #[true, true, true, true, true, true, false, false, true, false, false] rfl rfl (any_of HT_.out (by kernel_rfl)) (fun _ _ _ h => h) (Or.inl ⟨by rfl, ?_⟩) ?_ ?_
              rotate_left
              · intro w'
                go_simp
                with_reducible rfl
              rotate_left
              · simp only [Act.put, List.setIfInBounds_toArray, List.set_cons_zero, List.set_cons_succ, i64_w, i32_w]
                rfl
              refine pure_ (i := 6) (N := some 23) (v := ?_) (a' := ?_) #[true, true, true, true, true, true, true, false, true, false, false] rfl rfl (any_of HT_.out (by kernel_rfl)) (fun _ _ _ h => h) (Or.inl ⟨by rfl, ?_⟩) ?_ ?_
              rotate_left
              · intro w'
                go_simp
                with_reducible rfl
              rotate_left
              · simp only [Act.put, List.setIfInBounds_toArray, List.set_cons_zero, List.set_cons_succ, i64_w, i32_w]
                rfl
              refine pure_ (i := 7) (N := some 24) (v := ?_) (a' := ?_) #[true, true, true, true, true, true, true, true, true, false, false] rfl rfl (any_of HT_.out (by kernel_rfl)) (fun _ _ _ h => h) (Or.inl ⟨by rfl, ?_⟩) ?_ ?_
              rotate_left
              · intro w'
                go_simp
                with_reducible rfl
              rotate_left
              · simp only [Act.put, List.setIfInBounds_toArray, List.set_cons_zero, List.set_cons_succ, i64_w, i32_w]
                rfl
              exact norm_ (by simp only [putAll, Act.put, List.setIfInBounds_toArray, List.set_cons_zero, List.set_cons_succ]) (hCont (gb473) _ ⟨hHeld, (by (with_reducible repeat (first | refine blk_drewN ?_ _ | refine blk_drew ?_ | refine blk_alloc ?_ _)); exact BK402.out), (by (with_reducible repeat (first | refine blk_drewN ?_ _ | refine blk_drew ?_ | refine blk_alloc ?_ _)); exact BK403.out), (by (with_reducible repeat (first | refine blk_drewN ?_ _ | refine blk_drew ?_ | refine blk_alloc ?_ _)); exact BK438.out), (by (with_reducible repeat (first | refine blk_drewN ?_ _ | refine blk_drew ?_ | refine blk_alloc ?_ _)); exact BK473.out), GW473.out, GE473.out, NB402_473.out, NB473_402.out, NB403_473.out, NB473_403.out, NB438_473.out, NB473_438.out, (by repeat (first | (with_reducible first | exact HB.out | apply below_alloc | apply pw_below_drewN | apply below_drew1 | refine below_set ?_ GE402.out | refine below_set ?_ GE403.out | refine below_set ?_ GE438.out | refine below_set ?_ GE473.out) | exact HB.out))⟩)
          · skip
            refine box_step ?hg (N := 7) ?hd (cs := #[.int .i64 0, .int .i64 0, .int .i64 0, .int .i64 0, .int .i64 0, .int .i64 0, .int .i64 0, .int .i64 0, .int .i64 0, .int .i64 0, .int .i64 0]) (t := 23) ?hr ?_; (case hd => rfl); (case hg => rfl); (case hr => first | (go_simp; done) | (go_simp; rfl))
            intro gb473 hg w34 hbox hb
            have n0_ := Aside0.mk (blk_below (g := gb402) (o := .cells #[.int .i64 a0_0, .int .i64 a0_1, .int .i64 a0_2, .int .i64 a0_3, .int .i64 a0_4, .int .i64 a0_5, .int .i64 a0_6, .int .i64 a0_7, .int .i64 a0_8, .int .i64 a0_9, .int .i64 a0_10] 27 (0, 0)) (by (with_reducible repeat (first | refine blk_drewN ?_ _ | refine blk_drew ?_ | refine blk_alloc ?_ _)); exact BK402.out) hb)
            have n1_ := Aside0.mk (blk_below (g := gb403) (o := .cells #[.int .i64 a1_0, .int .i64 a1_1, .int .i64 a1_2, .int .i64 a1_3, .int .i64 a1_4, .int .i64 a1_5, .int .i64 a1_6, .int .i64 a1_7, .int .i64 a1_8, .int .i64 a1_9, .int .i64 a1_10] 27 (0, 0)) (by (with_reducible repeat (first | refine blk_drewN ?_ _ | refine blk_drew ?_ | refine blk_alloc ?_ _)); exact BK403.out) hb)
            have n2_ := Aside0.mk (blk_below (g := gb438) (o := .cells #[.int .i64 t426, .int .i64 t427, .int .i64 t428, .int .i64 t429, .int .i64 t430, .int .i64 t431, .int .i64 t432, .int .i64 t433, .int .i64 t434, .int .i64 t435, .int .i64 t436] 23 (0, 0)) (by (with_reducible repeat (first | refine blk_drewN ?_ _ | refine blk_drew ?_ | refine blk_alloc ?_ _)); exact BK438.out) hb)
            have n3_ := Aside0.mk (below_step (by repeat (first | (with_reducible first | exact HB.out | apply below_alloc | apply pw_below_drewN | apply below_drew1 | refine below_set ?_ GE402.out | refine below_set ?_ GE403.out | refine below_set ?_ GE438.out) | exact HB.out)) hb)
            have n4_ := Aside0.mk (hbox)
            have n5_ := Aside0.mk ((by rw [hg]; exact (below_size (by repeat (first | (with_reducible first | exact HB.out | apply below_alloc | apply pw_below_drewN | apply below_drew1 | refine below_set ?_ GE402.out | refine below_set ?_ GE403.out | refine below_set ?_ GE438.out) | exact HB.out))) : w.heap.size ≤ gb473))
            have n6_ := Aside0.mk ((by rw [hg]; exact (below_size (by repeat (first | (with_reducible first | exact HB.out | apply below_alloc | apply pw_below_drewN | apply below_drew1 | refine below_set ?_ GE402.out | refine below_set ?_ GE403.out | refine below_set ?_ GE438.out) | exact HB.out))) : w.heap.size ≤ gb473))
            have n7_ := Aside0.mk ((by rw [hg]; exact Nat.ne_of_lt (blk_lt (g := gb402) (o := .cells #[.int .i64 a0_0, .int .i64 a0_1, .int .i64 a0_2, .int .i64 a0_3, .int .i64 a0_4, .int .i64 a0_5, .int .i64 a0_6, .int .i64 a0_7, .int .i64 a0_8, .int .i64 a0_9, .int .i64 a0_10] 27 (0, 0)) (by (with_reducible repeat (first | refine blk_drewN ?_ _ | refine blk_drew ?_ | refine blk_alloc ?_ _)); exact BK402.out)) : gb402 ≠ gb473))
            have n8_ := Aside0.mk ((by rw [hg]; exact Nat.ne_of_gt (blk_lt (g := gb402) (o := .cells #[.int .i64 a0_0, .int .i64 a0_1, .int .i64 a0_2, .int .i64 a0_3, .int .i64 a0_4, .int .i64 a0_5, .int .i64 a0_6, .int .i64 a0_7, .int .i64 a0_8, .int .i64 a0_9, .int .i64 a0_10] 27 (0, 0)) (by (with_reducible repeat (first | refine blk_drewN ?_ _ | refine blk_drew ?_ | refine blk_alloc ?_ _)); exact BK402.out)) : gb473 ≠ gb402))
            have n9_ := Aside0.mk ((by rw [hg]; exact Nat.ne_of_lt (blk_lt (g := gb403) (o := .cells #[.int .i64 a1_0, .int .i64 a1_1, .int .i64 a1_2, .int .i64 a1_3, .int .i64 a1_4, .int .i64 a1_5, .int .i64 a1_6, .int .i64 a1_7, .int .i64 a1_8, .int .i64 a1_9, .int .i64 a1_10] 27 (0, 0)) (by (with_reducible repeat (first | refine blk_drewN ?_ _ | refine blk_drew ?_ | refine blk_alloc ?_ _)); exact BK403.out)) : gb403 ≠ gb473))
            have n10_ := Aside0.mk ((by rw [hg]; exact Nat.ne_of_gt (blk_lt (g := gb403) (o := .cells #[.int .i64 a1_0, .int .i64 a1_1, .int .i64 a1_2, .int .i64 a1_3, .int .i64 a1_4, .int .i64 a1_5, .int .i64 a1_6, .int .i64 a1_7, .int .i64 a1_8, .int .i64 a1_9, .int .i64 a1_10] 27 (0, 0)) (by (with_reducible repeat (first | refine blk_drewN ?_ _ | refine blk_drew ?_ | refine blk_alloc ?_ _)); exact BK403.out)) : gb473 ≠ gb403))
            have n11_ := Aside0.mk ((by rw [hg]; exact Nat.ne_of_lt (blk_lt (g := gb438) (o := .cells #[.int .i64 t426, .int .i64 t427, .int .i64 t428, .int .i64 t429, .int .i64 t430, .int .i64 t431, .int .i64 t432, .int .i64 t433, .int .i64 t434, .int .i64 t435, .int .i64 t436] 23 (0, 0)) (by (with_reducible repeat (first | refine blk_drewN ?_ _ | refine blk_drew ?_ | refine blk_alloc ?_ _)); exact BK438.out)) : gb438 ≠ gb473))
            have n12_ := Aside0.mk ((by rw [hg]; exact Nat.ne_of_gt (blk_lt (g := gb438) (o := .cells #[.int .i64 t426, .int .i64 t427, .int .i64 t428, .int .i64 t429, .int .i64 t430, .int .i64 t431, .int .i64 t432, .int .i64 t433, .int .i64 t434, .int .i64 t435, .int .i64 t436] 23 (0, 0)) (by (with_reducible repeat (first | refine blk_drewN ?_ _ | refine blk_drew ?_ | refine blk_alloc ?_ _)); exact BK438.out)) : gb473 ≠ gb438))
            clear BK402
            clear BK403
            clear BK438
            clear HB
            have BK402 := n0_
            have BK403 := n1_
            have BK438 := n2_
            have HB := n3_
            have BK473 := n4_
            have GW473 := n5_
            have GE473 := n6_
            have NB402_473 := n7_
            have NB473_402 := n8_
            have NB403_473 := n9_
            have NB473_403 := n10_
            have NB438_473 := n11_
            have NB473_438 := n12_
            clear n0_ n1_ n2_ n3_ n4_ n5_ n6_ n7_ n8_ n9_ n10_ n11_ n12_
            clear hb hbox hg
            refine hK.out _ _ ⟨(blk_cell BK402.out 0).trans rfl, (blk_cell BK402.out 1).trans rfl, (blk_cell BK402.out 2).trans rfl, (blk_cell BK402.out 3).trans rfl, (blk_cell BK402.out 4).trans rfl, (blk_cell BK402.out 5).trans rfl, (blk_cell BK402.out 6).trans rfl, (blk_cell BK402.out 7).trans rfl, (blk_cell BK402.out 8).trans rfl, (blk_cell BK402.out 9).trans rfl, (blk_cell BK402.out 10).trans rfl, (blk_cell BK403.out 0).trans rfl, (blk_cell BK403.out 1).trans rfl, (blk_cell BK403.out 2).trans rfl, (blk_cell BK403.out 3).trans rfl, (blk_cell BK403.out 4).trans rfl, (blk_cell BK403.out 5).trans rfl, (blk_cell BK403.out 6).trans rfl, (blk_cell BK403.out 7).trans rfl, (blk_cell BK403.out 8).trans rfl, (blk_cell BK403.out 9).trans rfl, (blk_cell BK403.out 10).trans rfl⟩ (fun hHeld => ?_)
            clear hK K
            refine norm_ (a' := ?_) ?_ ?_
            rotate_left
            · show Act.put _ (some 7) _ = _
              simp only [Act.put, List.setIfInBounds_toArray, List.set_cons_zero, List.set_cons_succ, i64_w, i32_w]
              rfl
            refine one_ (i := 3) (N := some 21) #[true, true, true, true, false, false, false, false, true, false, false] rfl rfl (one_of HT_.out (by kernel_rfl)) (by decide) (fun K hK => ?_)
            refine goes_ Try.func19 (by kernel_rfl) rfl #[.agg #[.int .i64 a1_0, .int .i64 a1_1, .int .i64 a1_2, .int .i64 a1_3, .int .i64 a1_4, .int .i64 a1_5, .int .i64 a1_6, .int .i64 a1_7, .int .i64 a1_8, .int .i64 a1_9, .int .i64 a1_10]] (by rfl) rfl rfl (by (try simp only [List.map_toArray, List.map_cons, List.map_nil]); first | done | rfl | (simp only [List.length_drop, List.length_take]; rfl)) ?_
            with_reducible refine (laws_toKnow.calls a1_0 a1_1 a1_2 a1_3 a1_4 a1_5 a1_6 a1_7 a1_8 a1_9 a1_10 t450 t451 t452 t453 t454 t455 t456 t457 t458 t459 t460 _ A7.out).mono ?_
            rintro e w35 ⟨rfl, hb⟩
            refine ⟨_, rfl, ?_⟩
            have n0_ := Aside0.mk (blk_below (g := gb402) (o := .cells #[.int .i64 a0_0, .int .i64 a0_1, .int .i64 a0_2, .int .i64 a0_3, .int .i64 a0_4, .int .i64 a0_5, .int .i64 a0_6, .int .i64 a0_7, .int .i64 a0_8, .int .i64 a0_9, .int .i64 a0_10] 27 (0, 0)) (by (with_reducible repeat (first | refine blk_drewN ?_ _ | refine blk_drew ?_ | refine blk_alloc ?_ _)); exact BK402.out) hb)
            have n1_ := Aside0.mk (blk_below (g := gb403) (o := .cells #[.int .i64 a1_0, .int .i64 a1_1, .int .i64 a1_2, .int .i64 a1_3, .int .i64 a1_4, .int .i64 a1_5, .int .i64 a1_6, .int .i64 a1_7, .int .i64 a1_8, .int .i64 a1_9, .int .i64 a1_10] 27 (0, 0)) (by (with_reducible repeat (first | refine blk_drewN ?_ _ | refine blk_drew ?_ | refine blk_alloc ?_ _)); exact BK403.out) hb)
            have n2_ := Aside0.mk (blk_below (g := gb438) (o := .cells #[.int .i64 t426, .int .i64 t427, .int .i64 t428, .int .i64 t429, .int .i64 t430, .int .i64 t431, .int .i64 t432, .int .i64 t433, .int .i64 t434, .int .i64 t435, .int .i64 t436] 23 (0, 0)) (by (with_reducible repeat (first | refine blk_drewN ?_ _ | refine blk_drew ?_ | refine blk_alloc ?_ _)); exact BK438.out) hb)
            have n3_ := Aside0.mk (blk_below (g := gb473) (o := .cells #[.int .i64 0, .int .i64 0, .int .i64 0, .int .i64 0, .int .i64 0, .int .i64 0, .int .i64 0, .int .i64 0, .int .i64 0, .int .i64 0, .int .i64 0] 23 (0, 0)) (by (with_reducible repeat (first | refine blk_drewN ?_ _ | refine blk_drew ?_ | refine blk_alloc ?_ _)); exact BK473.out) hb)
            have n4_ := Aside0.mk (below_step (by repeat (first | (with_reducible first | exact HB.out | apply below_alloc | apply pw_below_drewN | apply below_drew1 | refine below_set ?_ GE402.out | refine below_set ?_ GE403.out | refine below_set ?_ GE438.out | refine below_set ?_ GE473.out) | exact HB.out)) hb)
            clear BK402
            clear BK403
            clear BK438
            clear BK473
            clear HB
            have BK402 := n0_
            have BK403 := n1_
            have BK438 := n2_
            have BK473 := n3_
            have HB := n4_
            clear n0_ n1_ n2_ n3_ n4_
            (try clear hb)
            (try clear hb2)
            (try clear hk)
            (try clear hi)
            refine hK.out _ _ ⟨(blk_cell BK402.out 0).trans rfl, (blk_cell BK402.out 1).trans rfl, (blk_cell BK402.out 2).trans rfl, (blk_cell BK402.out 3).trans rfl, (blk_cell BK402.out 4).trans rfl, (blk_cell BK402.out 5).trans rfl, (blk_cell BK402.out 6).trans rfl, (blk_cell BK402.out 7).trans rfl, (blk_cell BK402.out 8).trans rfl, (blk_cell BK402.out 9).trans rfl, (blk_cell BK402.out 10).trans rfl, (blk_cell BK403.out 0).trans rfl, (blk_cell BK403.out 1).trans rfl, (blk_cell BK403.out 2).trans rfl, (blk_cell BK403.out 3).trans rfl, (blk_cell BK403.out 4).trans rfl, (blk_cell BK403.out 5).trans rfl, (blk_cell BK403.out 6).trans rfl, (blk_cell BK403.out 7).trans rfl, (blk_cell BK403.out 8).trans rfl, (blk_cell BK403.out 9).trans rfl, (blk_cell BK403.out 10).trans rfl⟩ (fun hHeld => ?_)
            clear hK K
            refine norm_ (a' := ?_) ?_ ?_
            rotate_left
            · show Act.put _ (some 21) _ = _
              simp only [Act.put, List.setIfInBounds_toArray, List.set_cons_zero, List.set_cons_succ, i64_w, i32_w]
              rfl
            refine one_ (i := 4) (N := some 22) #[true, true, true, true, true, false, false, false, true, false, false] rfl rfl (one_of HT_.out (by kernel_rfl)) (by decide) (fun K hK => ?_)
            refine goes_ Try.func31 (by kernel_rfl) rfl #[.agg #[.int .i64 t439, .int .i64 t440, .int .i64 t441, .int .i64 t442, .int .i64 t443, .int .i64 t444, .int .i64 t445, .int .i64 t446, .int .i64 t447, .int .i64 t448, .int .i64 t449], .agg #[.int .i64 t450, .int .i64 t451, .int .i64 t452, .int .i64 t453, .int .i64 t454, .int .i64 t455, .int .i64 t456, .int .i64 t457, .int .i64 t458, .int .i64 t459, .int .i64 t460]] (by rfl) rfl rfl (by (try simp only [List.map_toArray, List.map_cons, List.map_nil]); first | done | rfl | (simp only [List.length_drop, List.length_take]; rfl)) ?_
            with_reducible refine (impl_Meet.calls t439 t440 t441 t442 t443 t444 t445 t446 t447 t448 t449 t450 t451 t452 t453 t454 t455 t456 t457 t458 t459 t460 t461 t462 t463 t464 t465 t466 t467 t468 t469 t470 t471 t472 _ A8.out).mono ?_
            rintro e w36 ⟨rfl, hb⟩
            refine ⟨_, rfl, ?_⟩
            have n0_ := Aside0.mk (blk_below (g := gb402) (o := .cells #[.int .i64 a0_0, .int .i64 a0_1, .int .i64 a0_2, .int .i64 a0_3, .int .i64 a0_4, .int .i64 a0_5, .int .i64 a0_6, .int .i64 a0_7, .int .i64 a0_8, .int .i64 a0_9, .int .i64 a0_10] 27 (0, 0)) (by (with_reducible repeat (first | refine blk_drewN ?_ _ | refine blk_drew ?_ | refine blk_alloc ?_ _)); exact BK402.out) hb)
            have n1_ := Aside0.mk (blk_below (g := gb403) (o := .cells #[.int .i64 a1_0, .int .i64 a1_1, .int .i64 a1_2, .int .i64 a1_3, .int .i64 a1_4, .int .i64 a1_5, .int .i64 a1_6, .int .i64 a1_7, .int .i64 a1_8, .int .i64 a1_9, .int .i64 a1_10] 27 (0, 0)) (by (with_reducible repeat (first | refine blk_drewN ?_ _ | refine blk_drew ?_ | refine blk_alloc ?_ _)); exact BK403.out) hb)
            have n2_ := Aside0.mk (blk_below (g := gb438) (o := .cells #[.int .i64 t426, .int .i64 t427, .int .i64 t428, .int .i64 t429, .int .i64 t430, .int .i64 t431, .int .i64 t432, .int .i64 t433, .int .i64 t434, .int .i64 t435, .int .i64 t436] 23 (0, 0)) (by (with_reducible repeat (first | refine blk_drewN ?_ _ | refine blk_drew ?_ | refine blk_alloc ?_ _)); exact BK438.out) hb)
            have n3_ := Aside0.mk (blk_below (g := gb473) (o := .cells #[.int .i64 0, .int .i64 0, .int .i64 0, .int .i64 0, .int .i64 0, .int .i64 0, .int .i64 0, .int .i64 0, .int .i64 0, .int .i64 0, .int .i64 0] 23 (0, 0)) (by (with_reducible repeat (first | refine blk_drewN ?_ _ | refine blk_drew ?_ | refine blk_alloc ?_ _)); exact BK473.out) hb)
            have n4_ := Aside0.mk (below_step (by repeat (first | (with_reducible first | exact HB.out | apply below_alloc | apply pw_below_drewN | apply below_drew1 | refine below_set ?_ GE402.out | refine below_set ?_ GE403.out | refine below_set ?_ GE438.out | refine below_set ?_ GE473.out) | exact HB.out)) hb)
            clear BK402
            clear BK403
            clear BK438
            clear BK473
            clear HB
            have BK402 := n0_
            have BK403 := n1_
            have BK438 := n2_
            have BK473 := n3_
            have HB := n4_
            clear n0_ n1_ n2_ n3_ n4_
            (try clear hb)
            (try clear hb2)
            (try clear hk)
            (try clear hi)
            refine hK.out _ _ ⟨(blk_cell BK402.out 0).trans rfl, (blk_cell BK402.out 1).trans rfl, (blk_cell BK402.out 2).trans rfl, (blk_cell BK402.out 3).trans rfl, (blk_cell BK402.out 4).trans rfl, (blk_cell BK402.out 5).trans rfl, (blk_cell BK402.out 6).trans rfl, (blk_cell BK402.out 7).trans rfl, (blk_cell BK402.out 8).trans rfl, (blk_cell BK402.out 9).trans rfl, (blk_cell BK402.out 10).trans rfl, (blk_cell BK403.out 0).trans rfl, (blk_cell BK403.out 1).trans rfl, (blk_cell BK403.out 2).trans rfl, (blk_cell BK403.out 3).trans rfl, (blk_cell BK403.out 4).trans rfl, (blk_cell BK403.out 5).trans rfl, (blk_cell BK403.out 6).trans rfl, (blk_cell BK403.out 7).trans rfl, (blk_cell BK403.out 8).trans rfl, (blk_cell BK403.out 9).trans rfl, (blk_cell BK403.out 10).trans rfl⟩ (fun hHeld => ?_)
            clear hK K
            refine norm_ (a' := ?_) ?_ ?_
            rotate_left
            · show Act.put _ (some 22) _ = _
              simp only [Act.put, List.setIfInBounds_toArray, List.set_cons_zero, List.set_cons_succ, i64_w, i32_w]
              rfl
            refine pure_ (i := 5) (N := some 17) (v := ?_) (a' := ?_) #[true, true, true, true, true, true, false, false, true, false, false] rfl rfl (any_of HT_.out (by kernel_rfl)) (fun _ _ _ h => h) (Or.inl ⟨by rfl, ?_⟩) ?_ ?_
            rotate_left
            · intro w'
              go_simp
              with_reducible rfl
            rotate_left
            · simp only [Act.put, List.setIfInBounds_toArray, List.set_cons_zero, List.set_cons_succ, i64_w, i32_w]
              rfl
            refine pure_ (i := 6) (N := some 23) (v := ?_) (a' := ?_) #[true, true, true, true, true, true, true, false, true, false, false] rfl rfl (any_of HT_.out (by kernel_rfl)) (fun _ _ _ h => h) (Or.inl ⟨by rfl, ?_⟩) ?_ ?_
            rotate_left
            · intro w'
              go_simp
              with_reducible rfl
            rotate_left
            · simp only [Act.put, List.setIfInBounds_toArray, List.set_cons_zero, List.set_cons_succ, i64_w, i32_w]
              rfl
            refine pure_ (i := 7) (N := some 24) (v := ?_) (a' := ?_) #[true, true, true, true, true, true, true, true, true, false, false] rfl rfl (any_of HT_.out (by kernel_rfl)) (fun _ _ _ h => h) (Or.inl ⟨by rfl, ?_⟩) ?_ ?_
            rotate_left
            · intro w'
              go_simp
              with_reducible rfl
            rotate_left
            · simp only [Act.put, List.setIfInBounds_toArray, List.set_cons_zero, List.set_cons_succ, i64_w, i32_w]
              rfl
            exact norm_ (by simp only [putAll, Act.put, List.setIfInBounds_toArray, List.set_cons_zero, List.set_cons_succ]) (hCont (gb473) _ ⟨hHeld, (by (with_reducible repeat (first | refine blk_drewN ?_ _ | refine blk_drew ?_ | refine blk_alloc ?_ _)); exact BK402.out), (by (with_reducible repeat (first | refine blk_drewN ?_ _ | refine blk_drew ?_ | refine blk_alloc ?_ _)); exact BK403.out), (by (with_reducible repeat (first | refine blk_drewN ?_ _ | refine blk_drew ?_ | refine blk_alloc ?_ _)); exact BK438.out), (by (with_reducible repeat (first | refine blk_drewN ?_ _ | refine blk_drew ?_ | refine blk_alloc ?_ _)); exact BK473.out), GW473.out, GE473.out, NB402_473.out, NB473_402.out, NB403_473.out, NB473_403.out, NB438_473.out, NB473_438.out, (by repeat (first | (with_reducible first | exact HB.out | apply below_alloc | apply pw_below_drewN | apply below_drew1 | refine below_set ?_ GE402.out | refine below_set ?_ GE403.out | refine below_set ?_ GE438.out | refine below_set ?_ GE473.out) | exact HB.out))⟩)
        · skip
          refine box_step ?hg (N := 7) ?hd (cs := #[.int .i64 0, .int .i64 0, .int .i64 0, .int .i64 0, .int .i64 0, .int .i64 0, .int .i64 0, .int .i64 0, .int .i64 0, .int .i64 0, .int .i64 0]) (t := 23) ?hr ?_; (case hd => rfl); (case hg => rfl); (case hr => first | (go_simp; done) | (go_simp; rfl))
          intro gb473 hg w33 hbox hb
          have n0_ := Aside0.mk (blk_below (g := gb402) (o := .cells #[.int .i64 a0_0, .int .i64 a0_1, .int .i64 a0_2, .int .i64 a0_3, .int .i64 a0_4, .int .i64 a0_5, .int .i64 a0_6, .int .i64 a0_7, .int .i64 a0_8, .int .i64 a0_9, .int .i64 a0_10] 27 (0, 0)) (by (with_reducible repeat (first | refine blk_drewN ?_ _ | refine blk_drew ?_ | refine blk_alloc ?_ _)); exact BK402.out) hb)
          have n1_ := Aside0.mk (blk_below (g := gb403) (o := .cells #[.int .i64 a1_0, .int .i64 a1_1, .int .i64 a1_2, .int .i64 a1_3, .int .i64 a1_4, .int .i64 a1_5, .int .i64 a1_6, .int .i64 a1_7, .int .i64 a1_8, .int .i64 a1_9, .int .i64 a1_10] 27 (0, 0)) (by (with_reducible repeat (first | refine blk_drewN ?_ _ | refine blk_drew ?_ | refine blk_alloc ?_ _)); exact BK403.out) hb)
          have n2_ := Aside0.mk (blk_below (g := gb438) (o := .cells #[.int .i64 t426, .int .i64 t427, .int .i64 t428, .int .i64 t429, .int .i64 t430, .int .i64 t431, .int .i64 t432, .int .i64 t433, .int .i64 t434, .int .i64 t435, .int .i64 t436] 23 (0, 0)) (by (with_reducible repeat (first | refine blk_drewN ?_ _ | refine blk_drew ?_ | refine blk_alloc ?_ _)); exact BK438.out) hb)
          have n3_ := Aside0.mk (below_step (by repeat (first | (with_reducible first | exact HB.out | apply below_alloc | apply pw_below_drewN | apply below_drew1 | refine below_set ?_ GE402.out | refine below_set ?_ GE403.out | refine below_set ?_ GE438.out) | exact HB.out)) hb)
          have n4_ := Aside0.mk (hbox)
          have n5_ := Aside0.mk ((by rw [hg]; exact (below_size (by repeat (first | (with_reducible first | exact HB.out | apply below_alloc | apply pw_below_drewN | apply below_drew1 | refine below_set ?_ GE402.out | refine below_set ?_ GE403.out | refine below_set ?_ GE438.out) | exact HB.out))) : w.heap.size ≤ gb473))
          have n6_ := Aside0.mk ((by rw [hg]; exact (below_size (by repeat (first | (with_reducible first | exact HB.out | apply below_alloc | apply pw_below_drewN | apply below_drew1 | refine below_set ?_ GE402.out | refine below_set ?_ GE403.out | refine below_set ?_ GE438.out) | exact HB.out))) : w.heap.size ≤ gb473))
          have n7_ := Aside0.mk ((by rw [hg]; exact Nat.ne_of_lt (blk_lt (g := gb402) (o := .cells #[.int .i64 a0_0, .int .i64 a0_1, .int .i64 a0_2, .int .i64 a0_3, .int .i64 a0_4, .int .i64 a0_5, .int .i64 a0_6, .int .i64 a0_7, .int .i64 a0_8, .int .i64 a0_9, .int .i64 a0_10] 27 (0, 0)) (by (with_reducible repeat (first | refine blk_drewN ?_ _ | refine blk_drew ?_ | refine blk_alloc ?_ _)); exact BK402.out)) : gb402 ≠ gb473))
          have n8_ := Aside0.mk ((by rw [hg]; exact Nat.ne_of_gt (blk_lt (g := gb402) (o := .cells #[.int .i64 a0_0, .int .i64 a0_1, .int .i64 a0_2, .int .i64 a0_3, .int .i64 a0_4, .int .i64 a0_5, .int .i64 a0_6, .int .i64 a0_7, .int .i64 a0_8, .int .i64 a0_9, .int .i64 a0_10] 27 (0, 0)) (by (with_reducible repeat (first | refine blk_drewN ?_ _ | refine blk_drew ?_ | refine blk_alloc ?_ _)); exact BK402.out)) : gb473 ≠ gb402))
          have n9_ := Aside0.mk ((by rw [hg]; exact Nat.ne_of_lt (blk_lt (g := gb403) (o := .cells #[.int .i64 a1_0, .int .i64 a1_1, .int .i64 a1_2, .int .i64 a1_3, .int .i64 a1_4, .int .i64 a1_5, .int .i64 a1_6, .int .i64 a1_7, .int .i64 a1_8, .int .i64 a1_9, .int .i64 a1_10] 27 (0, 0)) (by (with_reducible repeat (first | refine blk_drewN ?_ _ | refine blk_drew ?_ | refine blk_alloc ?_ _)); exact BK403.out)) : gb403 ≠ gb473))
          have n10_ := Aside0.mk ((by rw [hg]; exact Nat.ne_of_gt (blk_lt (g := gb403) (o := .cells #[.int .i64 a1_0, .int .i64 a1_1, .int .i64 a1_2, .int .i64 a1_3, .int .i64 a1_4, .int .i64 a1_5, .int .i64 a1_6, .int .i64 a1_7, .int .i64 a1_8, .int .i64 a1_9, .int .i64 a1_10] 27 (0, 0)) (by (with_reducible repeat (first | refine blk_drewN ?_ _ | refine blk_drew ?_ | refine blk_alloc ?_ _)); exact BK403.out)) : gb473 ≠ gb403))
          have n11_ := Aside0.mk ((by rw [hg]; exact Nat.ne_of_lt (blk_lt (g := gb438) (o := .cells #[.int .i64 t426, .int .i64 t427, .int .i64 t428, .int .i64 t429, .int .i64 t430, .int .i64 t431, .int .i64 t432, .int .i64 t433, .int .i64 t434, .int .i64 t435, .int .i64 t436] 23 (0, 0)) (by (with_reducible repeat (first | refine blk_drewN ?_ _ | refine blk_drew ?_ | refine blk_alloc ?_ _)); exact BK438.out)) : gb438 ≠ gb473))
          have n12_ := Aside0.mk ((by rw [hg]; exact Nat.ne_of_gt (blk_lt (g := gb438) (o := .cells #[.int .i64 t426, .int .i64 t427, .int .i64 t428, .int .i64 t429, .int .i64 t430, .int .i64 t431, .int .i64 t432, .int .i64 t433, .int .i64 t434, .int .i64 t435, .int .i64 t436] 23 (0, 0)) (by (with_reducible repeat (first | refine blk_drewN ?_ _ | refine blk_drew ?_ | refine blk_alloc ?_ _)); exact BK438.out)) : gb473 ≠ gb438))
          clear BK402
          clear BK403
          clear BK438
          clear HB
          have BK402 := n0_
          have BK403 := n1_
          have BK438 := n2_
          have HB := n3_
          have BK473 := n4_
          have GW473 := n5_
          have GE473 := n6_
          have NB402_473 := n7_
          have NB473_402 := n8_
          have NB403_473 := n9_
          have NB473_403 := n10_
          have NB438_473 := n11_
          have NB473_438 := n12_
          clear n0_ n1_ n2_ n3_ n4_ n5_ n6_ n7_ n8_ n9_ n10_ n11_ n12_
          clear hb hbox hg
          refine hK.out _ _ ⟨(blk_cell BK402.out 0).trans rfl, (blk_cell BK402.out 1).trans rfl, (blk_cell BK402.out 2).trans rfl, (blk_cell BK402.out 3).trans rfl, (blk_cell BK402.out 4).trans rfl, (blk_cell BK402.out 5).trans rfl, (blk_cell BK402.out 6).trans rfl, (blk_cell BK402.out 7).trans rfl, (blk_cell BK402.out 8).trans rfl, (blk_cell BK402.out 9).trans rfl, (blk_cell BK402.out 10).trans rfl, (blk_cell BK403.out 0).trans rfl, (blk_cell BK403.out 1).trans rfl, (blk_cell BK403.out 2).trans rfl, (blk_cell BK403.out 3).trans rfl, (blk_cell BK403.out 4).trans rfl, (blk_cell BK403.out 5).trans rfl, (blk_cell BK403.out 6).trans rfl, (blk_cell BK403.out 7).trans rfl, (blk_cell BK403.out 8).trans rfl, (blk_cell BK403.out 9).trans rfl, (blk_cell BK403.out 10).trans rfl⟩ (fun hHeld => ?_)
          clear hK K
          refine norm_ (a' := ?_) ?_ ?_
          rotate_left
          · show Act.put _ (some 7) _ = _
            simp only [Act.put, List.setIfInBounds_toArray, List.set_cons_zero, List.set_cons_succ, i64_w, i32_w]
            rfl
          refine one_ (i := 1) (N := some 19) #[true, true, true, false, false, false, false, false, true, false, false] rfl rfl (one_of HT_.out (by kernel_rfl)) (by decide) (fun K hK => ?_)
          refine goes_ Try.func19 (by kernel_rfl) rfl #[.agg #[.int .i64 a0_0, .int .i64 a0_1, .int .i64 a0_2, .int .i64 a0_3, .int .i64 a0_4, .int .i64 a0_5, .int .i64 a0_6, .int .i64 a0_7, .int .i64 a0_8, .int .i64 a0_9, .int .i64 a0_10]] (by rfl) rfl rfl (by (try simp only [List.map_toArray, List.map_cons, List.map_nil]); first | done | rfl | (simp only [List.length_drop, List.length_take]; rfl)) ?_
          with_reducible refine (laws_toKnow.calls a0_0 a0_1 a0_2 a0_3 a0_4 a0_5 a0_6 a0_7 a0_8 a0_9 a0_10 t439 t440 t441 t442 t443 t444 t445 t446 t447 t448 t449 _ A6.out).mono ?_
          rintro e w34 ⟨rfl, hb⟩
          refine ⟨_, rfl, ?_⟩
          have n0_ := Aside0.mk (blk_below (g := gb402) (o := .cells #[.int .i64 a0_0, .int .i64 a0_1, .int .i64 a0_2, .int .i64 a0_3, .int .i64 a0_4, .int .i64 a0_5, .int .i64 a0_6, .int .i64 a0_7, .int .i64 a0_8, .int .i64 a0_9, .int .i64 a0_10] 27 (0, 0)) (by (with_reducible repeat (first | refine blk_drewN ?_ _ | refine blk_drew ?_ | refine blk_alloc ?_ _)); exact BK402.out) hb)
          have n1_ := Aside0.mk (blk_below (g := gb403) (o := .cells #[.int .i64 a1_0, .int .i64 a1_1, .int .i64 a1_2, .int .i64 a1_3, .int .i64 a1_4, .int .i64 a1_5, .int .i64 a1_6, .int .i64 a1_7, .int .i64 a1_8, .int .i64 a1_9, .int .i64 a1_10] 27 (0, 0)) (by (with_reducible repeat (first | refine blk_drewN ?_ _ | refine blk_drew ?_ | refine blk_alloc ?_ _)); exact BK403.out) hb)
          have n2_ := Aside0.mk (blk_below (g := gb438) (o := .cells #[.int .i64 t426, .int .i64 t427, .int .i64 t428, .int .i64 t429, .int .i64 t430, .int .i64 t431, .int .i64 t432, .int .i64 t433, .int .i64 t434, .int .i64 t435, .int .i64 t436] 23 (0, 0)) (by (with_reducible repeat (first | refine blk_drewN ?_ _ | refine blk_drew ?_ | refine blk_alloc ?_ _)); exact BK438.out) hb)
          have n3_ := Aside0.mk (blk_below (g := gb473) (o := .cells #[.int .i64 0, .int .i64 0, .int .i64 0, .int .i64 0, .int .i64 0, .int .i64 0, .int .i64 0, .int .i64 0, .int .i64 0, .int .i64 0, .int .i64 0] 23 (0, 0)) (by (with_reducible repeat (first | refine blk_drewN ?_ _ | refine blk_drew ?_ | refine blk_alloc ?_ _)); exact BK473.out) hb)
          have n4_ := Aside0.mk (below_step (by repeat (first | (with_reducible first | exact HB.out | apply below_alloc | apply pw_below_drewN | apply below_drew1 | refine below_set ?_ GE402.out | refine below_set ?_ GE403.out | refine below_set ?_ GE438.out | refine below_set ?_ GE473.out) | exact HB.out)) hb)
          clear BK402
          clear BK403
          clear BK438
          clear BK473
          clear HB
          have BK402 := n0_
          have BK403 := n1_
          have BK438 := n2_
          have BK473 := n3_
          have HB := n4_
          clear n0_ n1_ n2_ n3_ n4_
          (try clear hb)
          (try clear hb2)
          (try clear hk)
          (try clear hi)
          refine hK.out _ _ ⟨(blk_cell BK402.out 0).trans rfl, (blk_cell BK402.out 1).trans rfl, (blk_cell BK402.out 2).trans rfl, (blk_cell BK402.out 3).trans rfl, (blk_cell BK402.out 4).trans rfl, (blk_cell BK402.out 5).trans rfl, (blk_cell BK402.out 6).trans rfl, (blk_cell BK402.out 7).trans rfl, (blk_cell BK402.out 8).trans rfl, (blk_cell BK402.out 9).trans rfl, (blk_cell BK402.out 10).trans rfl, (blk_cell BK403.out 0).trans rfl, (blk_cell BK403.out 1).trans rfl, (blk_cell BK403.out 2).trans rfl, (blk_cell BK403.out 3).trans rfl, (blk_cell BK403.out 4).trans rfl, (blk_cell BK403.out 5).trans rfl, (blk_cell BK403.out 6).trans rfl, (blk_cell BK403.out 7).trans rfl, (blk_cell BK403.out 8).trans rfl, (blk_cell BK403.out 9).trans rfl, (blk_cell BK403.out 10).trans rfl⟩ (fun hHeld => ?_)
          clear hK K
          refine norm_ (a' := ?_) ?_ ?_
          rotate_left
          · show Act.put _ (some 19) _ = _
            simp only [Act.put, List.setIfInBounds_toArray, List.set_cons_zero, List.set_cons_succ, i64_w, i32_w]
            rfl
          refine one_ (i := 3) (N := some 21) #[true, true, true, true, false, false, false, false, true, false, false] rfl rfl (one_of HT_.out (by kernel_rfl)) (by decide) (fun K hK => ?_)
          refine goes_ Try.func19 (by kernel_rfl) rfl #[.agg #[.int .i64 a1_0, .int .i64 a1_1, .int .i64 a1_2, .int .i64 a1_3, .int .i64 a1_4, .int .i64 a1_5, .int .i64 a1_6, .int .i64 a1_7, .int .i64 a1_8, .int .i64 a1_9, .int .i64 a1_10]] (by rfl) rfl rfl (by (try simp only [List.map_toArray, List.map_cons, List.map_nil]); first | done | rfl | (simp only [List.length_drop, List.length_take]; rfl)) ?_
          with_reducible refine (laws_toKnow.calls a1_0 a1_1 a1_2 a1_3 a1_4 a1_5 a1_6 a1_7 a1_8 a1_9 a1_10 t450 t451 t452 t453 t454 t455 t456 t457 t458 t459 t460 _ A7.out).mono ?_
          rintro e w35 ⟨rfl, hb⟩
          refine ⟨_, rfl, ?_⟩
          have n0_ := Aside0.mk (blk_below (g := gb402) (o := .cells #[.int .i64 a0_0, .int .i64 a0_1, .int .i64 a0_2, .int .i64 a0_3, .int .i64 a0_4, .int .i64 a0_5, .int .i64 a0_6, .int .i64 a0_7, .int .i64 a0_8, .int .i64 a0_9, .int .i64 a0_10] 27 (0, 0)) (by (with_reducible repeat (first | refine blk_drewN ?_ _ | refine blk_drew ?_ | refine blk_alloc ?_ _)); exact BK402.out) hb)
          have n1_ := Aside0.mk (blk_below (g := gb403) (o := .cells #[.int .i64 a1_0, .int .i64 a1_1, .int .i64 a1_2, .int .i64 a1_3, .int .i64 a1_4, .int .i64 a1_5, .int .i64 a1_6, .int .i64 a1_7, .int .i64 a1_8, .int .i64 a1_9, .int .i64 a1_10] 27 (0, 0)) (by (with_reducible repeat (first | refine blk_drewN ?_ _ | refine blk_drew ?_ | refine blk_alloc ?_ _)); exact BK403.out) hb)
          have n2_ := Aside0.mk (blk_below (g := gb438) (o := .cells #[.int .i64 t426, .int .i64 t427, .int .i64 t428, .int .i64 t429, .int .i64 t430, .int .i64 t431, .int .i64 t432, .int .i64 t433, .int .i64 t434, .int .i64 t435, .int .i64 t436] 23 (0, 0)) (by (with_reducible repeat (first | refine blk_drewN ?_ _ | refine blk_drew ?_ | refine blk_alloc ?_ _)); exact BK438.out) hb)
          have n3_ := Aside0.mk (blk_below (g := gb473) (o := .cells #[.int .i64 0, .int .i64 0, .int .i64 0, .int .i64 0, .int .i64 0, .int .i64 0, .int .i64 0, .int .i64 0, .int .i64 0, .int .i64 0, .int .i64 0] 23 (0, 0)) (by (with_reducible repeat (first | refine blk_drewN ?_ _ | refine blk_drew ?_ | refine blk_alloc ?_ _)); exact BK473.out) hb)
          have n4_ := Aside0.mk (below_step (by repeat (first | (with_reducible first | exact HB.out | apply below_alloc | apply pw_below_drewN | apply below_drew1 | refine below_set ?_ GE402.out | refine below_set ?_ GE403.out | refine below_set ?_ GE438.out | refine below_set ?_ GE473.out) | exact HB.out)) hb)
          clear BK402
          clear BK403
          clear BK438
          clear BK473
          clear HB
          have BK402 := n0_
          have BK403 := n1_
          have BK438 := n2_
          have BK473 := n3_
          have HB := n4_
          clear n0_ n1_ n2_ n3_ n4_
          (try clear hb)
          (try clear hb2)
          (try clear hk)
          (try clear hi)
          refine hK.out _ _ ⟨(blk_cell BK402.out 0).trans rfl, (blk_cell BK402.out 1).trans rfl, (blk_cell BK402.out 2).trans rfl, (blk_cell BK402.out 3).trans rfl, (blk_cell BK402.out 4).trans rfl, (blk_cell BK402.out 5).trans rfl, (blk_cell BK402.out 6).trans rfl, (blk_cell BK402.out 7).trans rfl, (blk_cell BK402.out 8).trans rfl, (blk_cell BK402.out 9).trans rfl, (blk_cell BK402.out 10).trans rfl, (blk_cell BK403.out 0).trans rfl, (blk_cell BK403.out 1).trans rfl, (blk_cell BK403.out 2).trans rfl, (blk_cell BK403.out 3).trans rfl, (blk_cell BK403.out 4).trans rfl, (blk_cell BK403.out 5).trans rfl, (blk_cell BK403.out 6).trans rfl, (blk_cell BK403.out 7).trans rfl, (blk_cell BK403.out 8).trans rfl, (blk_cell BK403.out 9).trans rfl, (blk_cell BK403.out 10).trans rfl⟩ (fun hHeld => ?_)
          clear hK K
          refine norm_ (a' := ?_) ?_ ?_
          rotate_left
          · show Act.put _ (some 21) _ = _
            simp only [Act.put, List.setIfInBounds_toArray, List.set_cons_zero, List.set_cons_succ, i64_w, i32_w]
            rfl
          refine one_ (i := 4) (N := some 22) #[true, true, true, true, true, false, false, false, true, false, false] rfl rfl (one_of HT_.out (by kernel_rfl)) (by decide) (fun K hK => ?_)
          refine goes_ Try.func31 (by kernel_rfl) rfl #[.agg #[.int .i64 t439, .int .i64 t440, .int .i64 t441, .int .i64 t442, .int .i64 t443, .int .i64 t444, .int .i64 t445, .int .i64 t446, .int .i64 t447, .int .i64 t448, .int .i64 t449], .agg #[.int .i64 t450, .int .i64 t451, .int .i64 t452, .int .i64 t453, .int .i64 t454, .int .i64 t455, .int .i64 t456, .int .i64 t457, .int .i64 t458, .int .i64 t459, .int .i64 t460]] (by rfl) rfl rfl (by (try simp only [List.map_toArray, List.map_cons, List.map_nil]); first | done | rfl | (simp only [List.length_drop, List.length_take]; rfl)) ?_
          with_reducible refine (impl_Meet.calls t439 t440 t441 t442 t443 t444 t445 t446 t447 t448 t449 t450 t451 t452 t453 t454 t455 t456 t457 t458 t459 t460 t461 t462 t463 t464 t465 t466 t467 t468 t469 t470 t471 t472 _ A8.out).mono ?_
          rintro e w36 ⟨rfl, hb⟩
          refine ⟨_, rfl, ?_⟩
          have n0_ := Aside0.mk (blk_below (g := gb402) (o := .cells #[.int .i64 a0_0, .int .i64 a0_1, .int .i64 a0_2, .int .i64 a0_3, .int .i64 a0_4, .int .i64 a0_5, .int .i64 a0_6, .int .i64 a0_7, .int .i64 a0_8, .int .i64 a0_9, .int .i64 a0_10] 27 (0, 0)) (by (with_reducible repeat (first | refine blk_drewN ?_ _ | refine blk_drew ?_ | refine blk_alloc ?_ _)); exact BK402.out) hb)
          have n1_ := Aside0.mk (blk_below (g := gb403) (o := .cells #[.int .i64 a1_0, .int .i64 a1_1, .int .i64 a1_2, .int .i64 a1_3, .int .i64 a1_4, .int .i64 a1_5, .int .i64 a1_6, .int .i64 a1_7, .int .i64 a1_8, .int .i64 a1_9, .int .i64 a1_10] 27 (0, 0)) (by (with_reducible repeat (first | refine blk_drewN ?_ _ | refine blk_drew ?_ | refine blk_alloc ?_ _)); exact BK403.out) hb)
          have n2_ := Aside0.mk (blk_below (g := gb438) (o := .cells #[.int .i64 t426, .int .i64 t427, .int .i64 t428, .int .i64 t429, .int .i64 t430, .int .i64 t431, .int .i64 t432, .int .i64 t433, .int .i64 t434, .int .i64 t435, .int .i64 t436] 23 (0, 0)) (by (with_reducible repeat (first | refine blk_drewN ?_ _ | refine blk_drew ?_ | refine blk_alloc ?_ _)); exact BK438.out) hb)
          have n3_ := Aside0.mk (blk_below (g := gb473) (o := .cells #[.int .i64 0, .int .i64 0, .int .i64 0, .int .i64 0, .int .i64 0, .int .i64 0, .int .i64 0, .int .i64 0, .int .i64 0, .int .i64 0, .int .i64 0] 23 (0, 0)) (by (with_reducible repeat (first | refine blk_drewN ?_ _ | refine blk_drew ?_ | refine blk_alloc ?_ _)); exact BK473.out) hb)
          have n4_ := Aside0.mk (below_step (by repeat (first | (with_reducible first | exact HB.out | apply below_alloc | apply pw_below_drewN | apply below_drew1 | refine below_set ?_ GE402.out | refine below_set ?_ GE403.out | refine below_set ?_ GE438.out | refine below_set ?_ GE473.out) | exact HB.out)) hb)
          clear BK402
          clear BK403
          clear BK438
          clear BK473
          clear HB
          have BK402 := n0_
          have BK403 := n1_
          have BK438 := n2_
          have BK473 := n3_
          have HB := n4_
          clear n0_ n1_ n2_ n3_ n4_
          (try clear hb)
          (try clear hb2)
          (try clear hk)
          (try clear hi)
          refine hK.out _ _ ⟨(blk_cell BK402.out 0).trans rfl, (blk_cell BK402.out 1).trans rfl, (blk_cell BK402.out 2).trans rfl, (blk_cell BK402.out 3).trans rfl, (blk_cell BK402.out 4).trans rfl, (blk_cell BK402.out 5).trans rfl, (blk_cell BK402.out 6).trans rfl, (blk_cell BK402.out 7).trans rfl, (blk_cell BK402.out 8).trans rfl, (blk_cell BK402.out 9).trans rfl, (blk_cell BK402.out 10).trans rfl, (blk_cell BK403.out 0).trans rfl, (blk_cell BK403.out 1).trans rfl, (blk_cell BK403.out 2).trans rfl, (blk_cell BK403.out 3).trans rfl, (blk_cell BK403.out 4).trans rfl, (blk_cell BK403.out 5).trans rfl, (blk_cell BK403.out 6).trans rfl, (blk_cell BK403.out 7).trans rfl, (blk_cell BK403.out 8).trans rfl, (blk_cell BK403.out 9).trans rfl, (blk_cell BK403.out 10).trans rfl⟩ (fun hHeld => ?_)
          clear hK K
          refine norm_ (a' := ?_) ?_ ?_
          rotate_left
          · show Act.put _ (some 22) _ = _
            simp only [Act.put, List.setIfInBounds_toArray, List.set_cons_zero, List.set_cons_succ, i64_w, i32_w]
            rfl
          refine pure_ (i := 5) (N := some 17) (v := ?_) (a' := ?_) #[true, true, true, true, true, true, false, false, true, false, false] rfl rfl (any_of HT_.out (by kernel_rfl)) (fun _ _ _ h => h) (Or.inl ⟨by rfl, ?_⟩) ?_ ?_
          rotate_left
          · intro w'
            go_simp
            with_reducible rfl
          rotate_left
          · simp only [Act.put, List.setIfInBounds_toArray, List.set_cons_zero, List.set_cons_succ, i64_w, i32_w]
            rfl
          refine pure_ (i := 6) (N := some 23) (v := ?_) (a' := ?_) #[true, true, true, true, true, true, true, false, true, false, false] rfl rfl (any_of HT_.out (by kernel_rfl)) (fun _ _ _ h => h) (Or.inl ⟨by rfl, ?_⟩) ?_ ?_
          rotate_left
          · intro w'
            go_simp
            with_reducible rfl
          rotate_left
          · simp only [Act.put, List.setIfInBounds_toArray, List.set_cons_zero, List.set_cons_succ, i64_w, i32_w]
            rfl
          refine pure_ (i := 7) (N := some 24) (v := ?_) (a' := ?_) #[true, true, true, true, true, true, true, true, true, false, false] rfl rfl (any_of HT_.out (by kernel_rfl)) (fun _ _ _ h => h) (Or.inl ⟨by rfl, ?_⟩) ?_ ?_
          rotate_left
          · intro w'
            go_simp
            with_reducible rfl
          rotate_left
          · simp only [Act.put, List.setIfInBounds_toArray, List.set_cons_zero, List.set_cons_succ, i64_w, i32_w]
            rfl
          exact norm_ (by simp only [putAll, Act.put, List.setIfInBounds_toArray, List.set_cons_zero, List.set_cons_succ]) (hCont (gb473) _ ⟨hHeld, (by (with_reducible repeat (first | refine blk_drewN ?_ _ | refine blk_drew ?_ | refine blk_alloc ?_ _)); exact BK402.out), (by (with_reducible repeat (first | refine blk_drewN ?_ _ | refine blk_drew ?_ | refine blk_alloc ?_ _)); exact BK403.out), (by (with_reducible repeat (first | refine blk_drewN ?_ _ | refine blk_drew ?_ | refine blk_alloc ?_ _)); exact BK438.out), (by (with_reducible repeat (first | refine blk_drewN ?_ _ | refine blk_drew ?_ | refine blk_alloc ?_ _)); exact BK473.out), GW473.out, GE473.out, NB402_473.out, NB473_402.out, NB403_473.out, NB473_403.out, NB438_473.out, NB473_438.out, (by repeat (first | (with_reducible first | exact HB.out | apply below_alloc | apply pw_below_drewN | apply below_drew1 | refine below_set ?_ GE402.out | refine below_set ?_ GE403.out | refine below_set ?_ GE438.out | refine below_set ?_ GE473.out) | exact HB.out))⟩)
      rintro gb473 w37 ⟨hS_, h0_, h1_, h2_, h3_, h4_, h5_, h6_, h7_, h8_, h9_, h10_, h11_, h12_⟩
      have n0_ : Aside0 (w37.heap[gb402]? = some (.cells #[.int .i64 a0_0, .int .i64 a0_1, .int .i64 a0_2, .int .i64 a0_3, .int .i64 a0_4, .int .i64 a0_5, .int .i64 a0_6, .int .i64 a0_7, .int .i64 a0_8, .int .i64 a0_9, .int .i64 a0_10] 27 (0, 0))) := ⟨h0_⟩
      have n1_ : Aside0 (w37.heap[gb403]? = some (.cells #[.int .i64 a1_0, .int .i64 a1_1, .int .i64 a1_2, .int .i64 a1_3, .int .i64 a1_4, .int .i64 a1_5, .int .i64 a1_6, .int .i64 a1_7, .int .i64 a1_8, .int .i64 a1_9, .int .i64 a1_10] 27 (0, 0))) := ⟨h1_⟩
      have n2_ : Aside0 (w37.heap[gb438]? = some (.cells #[.int .i64 t426, .int .i64 t427, .int .i64 t428, .int .i64 t429, .int .i64 t430, .int .i64 t431, .int .i64 t432, .int .i64 t433, .int .i64 t434, .int .i64 t435, .int .i64 t436] 23 (0, 0))) := ⟨h2_⟩
      have n3_ : Aside0 (w37.heap[gb473]? = some (.cells #[.int .i64 0, .int .i64 0, .int .i64 0, .int .i64 0, .int .i64 0, .int .i64 0, .int .i64 0, .int .i64 0, .int .i64 0, .int .i64 0, .int .i64 0] 23 (0, 0))) := ⟨h3_⟩
      have n4_ : Aside0 (w.heap.size ≤ gb473) := ⟨h4_⟩
      have n5_ : Aside0 (w.heap.size ≤ gb473) := ⟨h5_⟩
      have n6_ : Aside0 (gb402 ≠ gb473) := ⟨h6_⟩
      have n7_ : Aside0 (gb473 ≠ gb402) := ⟨h7_⟩
      have n8_ : Aside0 (gb403 ≠ gb473) := ⟨h8_⟩
      have n9_ : Aside0 (gb473 ≠ gb403) := ⟨h9_⟩
      have n10_ : Aside0 (gb438 ≠ gb473) := ⟨h10_⟩
      have n11_ : Aside0 (gb473 ≠ gb438) := ⟨h11_⟩
      have n12_ : Aside0 (Below w.heap.size w w37) := ⟨h12_⟩
      clear BK402
      clear BK403
      clear BK438
      clear HB
      clear h0_ h1_ h2_ h3_ h4_ h5_ h6_ h7_ h8_ h9_ h10_ h11_ h12_
      have BK402 := n0_
      have BK403 := n1_
      have BK438 := n2_
      have BK473 := n3_
      have GW473 := n4_
      have GE473 := n5_
      have NB402_473 := n6_
      have NB473_402 := n7_
      have NB403_473 := n8_
      have NB473_403 := n9_
      have NB438_473 := n10_
      have NB473_438 := n11_
      have HB := n12_
      clear n0_ n1_ n2_ n3_ n4_ n5_ n6_ n7_ n8_ n9_ n10_ n11_ n12_
      have hHeld : w37.cell? ⟨gb402, 0, none⟩ = some (.int .i64 a0_0) ∧ w37.cell? ⟨gb402, 1, none⟩ = some (.int .i64 a0_1) ∧ w37.cell? ⟨gb402, 2, none⟩ = some (.int .i64 a0_2) ∧ w37.cell? ⟨gb402, 3, none⟩ = some (.int .i64 a0_3) ∧ w37.cell? ⟨gb402, 4, none⟩ = some (.int .i64 a0_4) ∧ w37.cell? ⟨gb402, 5, none⟩ = some (.int .i64 a0_5) ∧ w37.cell? ⟨gb402, 6, none⟩ = some (.int .i64 a0_6) ∧ w37.cell? ⟨gb402, 7, none⟩ = some (.int .i64 a0_7) ∧ w37.cell? ⟨gb402, 8, none⟩ = some (.int .i64 a0_8) ∧ w37.cell? ⟨gb402, 9, none⟩ = some (.int .i64 a0_9) ∧ w37.cell? ⟨gb402, 10, none⟩ = some (.int .i64 a0_10) ∧ w37.cell? ⟨gb403, 0, none⟩ = some (.int .i64 a1_0) ∧ w37.cell? ⟨gb403, 1, none⟩ = some (.int .i64 a1_1) ∧ w37.cell? ⟨gb403, 2, none⟩ = some (.int .i64 a1_2) ∧ w37.cell? ⟨gb403, 3, none⟩ = some (.int .i64 a1_3) ∧ w37.cell? ⟨gb403, 4, none⟩ = some (.int .i64 a1_4) ∧ w37.cell? ⟨gb403, 5, none⟩ = some (.int .i64 a1_5) ∧ w37.cell? ⟨gb403, 6, none⟩ = some (.int .i64 a1_6) ∧ w37.cell? ⟨gb403, 7, none⟩ = some (.int .i64 a1_7) ∧ w37.cell? ⟨gb403, 8, none⟩ = some (.int .i64 a1_8) ∧ w37.cell? ⟨gb403, 9, none⟩ = some (.int .i64 a1_9) ∧ w37.cell? ⟨gb403, 10, none⟩ = some (.int .i64 a1_10) := hS_
      refine norm_ (a' := ?_) ?_ ?_
      rotate_left
      · simp only [putAll, Act.put, List.setIfInBounds_toArray, List.set_cons_zero, List.set_cons_succ]
        rfl
      refine one_ (i := 9) (N := none) #[true, true, true, true, true, true, true, true, true, true, false] rfl rfl (one_of HT_.out (by kernel_rfl)) (by decide) (fun K hK => ?_)
      have hs38 : w37.cell? ⟨gb473, 0, none⟩ = some (.int .i64 0) := (blk_cell BK473.out 0).trans rfl
      have hfs38 := blk_frozen BK473.out 0
      have hns38_0 := NB402_473.out
      have hns38_1 := NB403_473.out
      have hns38_2 := NB438_473.out
      have hms38_0 := NB473_402.out
      have hms38_1 := NB473_403.out
      have hms38_2 := NB473_438.out
      have hs39 : w37.cell? ⟨gb473, 1, none⟩ = some (.int .i64 0) := (blk_cell BK473.out 1).trans rfl
      have hfs39 := blk_frozen BK473.out 1
      have hns39_0 := NB402_473.out
      have hns39_1 := NB403_473.out
      have hns39_2 := NB438_473.out
      have hms39_0 := NB473_402.out
      have hms39_1 := NB473_403.out
      have hms39_2 := NB473_438.out
      have hs40 : w37.cell? ⟨gb473, 2, none⟩ = some (.int .i64 0) := (blk_cell BK473.out 2).trans rfl
      have hfs40 := blk_frozen BK473.out 2
      have hns40_0 := NB402_473.out
      have hns40_1 := NB403_473.out
      have hns40_2 := NB438_473.out
      have hms40_0 := NB473_402.out
      have hms40_1 := NB473_403.out
      have hms40_2 := NB473_438.out
      have hs41 : w37.cell? ⟨gb473, 3, none⟩ = some (.int .i64 0) := (blk_cell BK473.out 3).trans rfl
      have hfs41 := blk_frozen BK473.out 3
      have hns41_0 := NB402_473.out
      have hns41_1 := NB403_473.out
      have hns41_2 := NB438_473.out
      have hms41_0 := NB473_402.out
      have hms41_1 := NB473_403.out
      have hms41_2 := NB473_438.out
      have hs42 : w37.cell? ⟨gb473, 4, none⟩ = some (.int .i64 0) := (blk_cell BK473.out 4).trans rfl
      have hfs42 := blk_frozen BK473.out 4
      have hns42_0 := NB402_473.out
      have hns42_1 := NB403_473.out
      have hns42_2 := NB438_473.out
      have hms42_0 := NB473_402.out
      have hms42_1 := NB473_403.out
      have hms42_2 := NB473_438.out
      have hs43 : w37.cell? ⟨gb473, 5, none⟩ = some (.int .i64 0) := (blk_cell BK473.out 5).trans rfl
      have hfs43 := blk_frozen BK473.out 5
      have hns43_0 := NB402_473.out
      have hns43_1 := NB403_473.out
      have hns43_2 := NB438_473.out
      have hms43_0 := NB473_402.out
      have hms43_1 := NB473_403.out
      have hms43_2 := NB473_438.out
      have hs44 : w37.cell? ⟨gb473, 6, none⟩ = some (.int .i64 0) := (blk_cell BK473.out 6).trans rfl
      have hfs44 := blk_frozen BK473.out 6
      have hns44_0 := NB402_473.out
      have hns44_1 := NB403_473.out
      have hns44_2 := NB438_473.out
      have hms44_0 := NB473_402.out
      have hms44_1 := NB473_403.out
      have hms44_2 := NB473_438.out
      have hs45 : w37.cell? ⟨gb473, 7, none⟩ = some (.int .i64 0) := (blk_cell BK473.out 7).trans rfl
      have hfs45 := blk_frozen BK473.out 7
      have hns45_0 := NB402_473.out
      have hns45_1 := NB403_473.out
      have hns45_2 := NB438_473.out
      have hms45_0 := NB473_402.out
      have hms45_1 := NB473_403.out
      have hms45_2 := NB473_438.out
      have hs46 : w37.cell? ⟨gb473, 8, none⟩ = some (.int .i64 0) := (blk_cell BK473.out 8).trans rfl
      have hfs46 := blk_frozen BK473.out 8
      have hns46_0 := NB402_473.out
      have hns46_1 := NB403_473.out
      have hns46_2 := NB438_473.out
      have hms46_0 := NB473_402.out
      have hms46_1 := NB473_403.out
      have hms46_2 := NB473_438.out
      have hs47 : w37.cell? ⟨gb473, 9, none⟩ = some (.int .i64 0) := (blk_cell BK473.out 9).trans rfl
      have hfs47 := blk_frozen BK473.out 9
      have hns47_0 := NB402_473.out
      have hns47_1 := NB403_473.out
      have hns47_2 := NB438_473.out
      have hms47_0 := NB473_402.out
      have hms47_1 := NB473_403.out
      have hms47_2 := NB473_438.out
      have hs48 : w37.cell? ⟨gb473, 10, none⟩ = some (.int .i64 0) := (blk_cell BK473.out 10).trans rfl
      have hfs48 := blk_frozen BK473.out 10
      have hns48_0 := NB402_473.out
      have hns48_1 := NB403_473.out
      have hns48_2 := NB438_473.out
      have hms48_0 := NB473_402.out
      have hms48_1 := NB473_403.out
      have hms48_2 := NB473_438.out
      refine skip_ (w1 := ?_) (by rfl) rfl ?_ ?_
      rotate_left
      · go_simp
        with_reducible rfl
      refine hK.out _ _ ⟨(by first | (with_reducible refine dnN_x21 ?_; exact ((cell_far (p := ⟨gb473, _, none⟩) NB402_473.out _).trans (((cell_far (p := ⟨gb473, _, none⟩) NB402_473.out _).trans (((cell_far (p := ⟨gb473, _, none⟩) NB402_473.out _).trans (((cell_far (p := ⟨gb473, _, none⟩) NB402_473.out _).trans (((cell_far (p := ⟨gb473, _, none⟩) NB402_473.out _).trans (((cell_far (p := ⟨gb473, _, none⟩) NB402_473.out _).trans (((cell_far (p := ⟨gb473, _, none⟩) NB402_473.out _).trans (((cell_far (p := ⟨gb473, _, none⟩) NB402_473.out _).trans (((cell_far (p := ⟨gb473, _, none⟩) NB402_473.out _).trans (((cell_far (p := ⟨gb473, _, none⟩) NB402_473.out _).trans (((cell_far (p := ⟨gb473, _, none⟩) NB402_473.out _).trans (hHeld.1))))))))))))))))))))))) | exact ((cell_far (p := ⟨gb473, _, none⟩) NB402_473.out _).trans (((cell_far (p := ⟨gb473, _, none⟩) NB402_473.out _).trans (((cell_far (p := ⟨gb473, _, none⟩) NB402_473.out _).trans (((cell_far (p := ⟨gb473, _, none⟩) NB402_473.out _).trans (((cell_far (p := ⟨gb473, _, none⟩) NB402_473.out _).trans (((cell_far (p := ⟨gb473, _, none⟩) NB402_473.out _).trans (((cell_far (p := ⟨gb473, _, none⟩) NB402_473.out _).trans (((cell_far (p := ⟨gb473, _, none⟩) NB402_473.out _).trans (((cell_far (p := ⟨gb473, _, none⟩) NB402_473.out _).trans (((cell_far (p := ⟨gb473, _, none⟩) NB402_473.out _).trans (((cell_far (p := ⟨gb473, _, none⟩) NB402_473.out _).trans (hHeld.1))))))))))))))))))))))), (by first | (with_reducible refine dnN_x21 ?_; exact ((cell_far (p := ⟨gb473, _, none⟩) NB402_473.out _).trans (((cell_far (p := ⟨gb473, _, none⟩) NB402_473.out _).trans (((cell_far (p := ⟨gb473, _, none⟩) NB402_473.out _).trans (((cell_far (p := ⟨gb473, _, none⟩) NB402_473.out _).trans (((cell_far (p := ⟨gb473, _, none⟩) NB402_473.out _).trans (((cell_far (p := ⟨gb473, _, none⟩) NB402_473.out _).trans (((cell_far (p := ⟨gb473, _, none⟩) NB402_473.out _).trans (((cell_far (p := ⟨gb473, _, none⟩) NB402_473.out _).trans (((cell_far (p := ⟨gb473, _, none⟩) NB402_473.out _).trans (((cell_far (p := ⟨gb473, _, none⟩) NB402_473.out _).trans (((cell_far (p := ⟨gb473, _, none⟩) NB402_473.out _).trans (hHeld.2.1))))))))))))))))))))))) | exact ((cell_far (p := ⟨gb473, _, none⟩) NB402_473.out _).trans (((cell_far (p := ⟨gb473, _, none⟩) NB402_473.out _).trans (((cell_far (p := ⟨gb473, _, none⟩) NB402_473.out _).trans (((cell_far (p := ⟨gb473, _, none⟩) NB402_473.out _).trans (((cell_far (p := ⟨gb473, _, none⟩) NB402_473.out _).trans (((cell_far (p := ⟨gb473, _, none⟩) NB402_473.out _).trans (((cell_far (p := ⟨gb473, _, none⟩) NB402_473.out _).trans (((cell_far (p := ⟨gb473, _, none⟩) NB402_473.out _).trans (((cell_far (p := ⟨gb473, _, none⟩) NB402_473.out _).trans (((cell_far (p := ⟨gb473, _, none⟩) NB402_473.out _).trans (((cell_far (p := ⟨gb473, _, none⟩) NB402_473.out _).trans (hHeld.2.1))))))))))))))))))))))), (by first | (with_reducible refine dnN_x21 ?_; exact ((cell_far (p := ⟨gb473, _, none⟩) NB402_473.out _).trans (((cell_far (p := ⟨gb473, _, none⟩) NB402_473.out _).trans (((cell_far (p := ⟨gb473, _, none⟩) NB402_473.out _).trans (((cell_far (p := ⟨gb473, _, none⟩) NB402_473.out _).trans (((cell_far (p := ⟨gb473, _, none⟩) NB402_473.out _).trans (((cell_far (p := ⟨gb473, _, none⟩) NB402_473.out _).trans (((cell_far (p := ⟨gb473, _, none⟩) NB402_473.out _).trans (((cell_far (p := ⟨gb473, _, none⟩) NB402_473.out _).trans (((cell_far (p := ⟨gb473, _, none⟩) NB402_473.out _).trans (((cell_far (p := ⟨gb473, _, none⟩) NB402_473.out _).trans (((cell_far (p := ⟨gb473, _, none⟩) NB402_473.out _).trans (hHeld.2.2.1))))))))))))))))))))))) | exact ((cell_far (p := ⟨gb473, _, none⟩) NB402_473.out _).trans (((cell_far (p := ⟨gb473, _, none⟩) NB402_473.out _).trans (((cell_far (p := ⟨gb473, _, none⟩) NB402_473.out _).trans (((cell_far (p := ⟨gb473, _, none⟩) NB402_473.out _).trans (((cell_far (p := ⟨gb473, _, none⟩) NB402_473.out _).trans (((cell_far (p := ⟨gb473, _, none⟩) NB402_473.out _).trans (((cell_far (p := ⟨gb473, _, none⟩) NB402_473.out _).trans (((cell_far (p := ⟨gb473, _, none⟩) NB402_473.out _).trans (((cell_far (p := ⟨gb473, _, none⟩) NB402_473.out _).trans (((cell_far (p := ⟨gb473, _, none⟩) NB402_473.out _).trans (((cell_far (p := ⟨gb473, _, none⟩) NB402_473.out _).trans (hHeld.2.2.1))))))))))))))))))))))), (by first | (with_reducible refine dnN_x21 ?_; exact ((cell_far (p := ⟨gb473, _, none⟩) NB402_473.out _).trans (((cell_far (p := ⟨gb473, _, none⟩) NB402_473.out _).trans (((cell_far (p := ⟨gb473, _, none⟩) NB402_473.out _).trans (((cell_far (p := ⟨gb473, _, none⟩) NB402_473.out _).trans (((cell_far (p := ⟨gb473, _, none⟩) NB402_473.out _).trans (((cell_far (p := ⟨gb473, _, none⟩) NB402_473.out _).trans (((cell_far (p := ⟨gb473, _, none⟩) NB402_473.out _).trans (((cell_far (p := ⟨gb473, _, none⟩) NB402_473.out _).trans (((cell_far (p := ⟨gb473, _, none⟩) NB402_473.out _).trans (((cell_far (p := ⟨gb473, _, none⟩) NB402_473.out _).trans (((cell_far (p := ⟨gb473, _, none⟩) NB402_473.out _).trans (hHeld.2.2.2.1))))))))))))))))))))))) | exact ((cell_far (p := ⟨gb473, _, none⟩) NB402_473.out _).trans (((cell_far (p := ⟨gb473, _, none⟩) NB402_473.out _).trans (((cell_far (p := ⟨gb473, _, none⟩) NB402_473.out _).trans (((cell_far (p := ⟨gb473, _, none⟩) NB402_473.out _).trans (((cell_far (p := ⟨gb473, _, none⟩) NB402_473.out _).trans (((cell_far (p := ⟨gb473, _, none⟩) NB402_473.out _).trans (((cell_far (p := ⟨gb473, _, none⟩) NB402_473.out _).trans (((cell_far (p := ⟨gb473, _, none⟩) NB402_473.out _).trans (((cell_far (p := ⟨gb473, _, none⟩) NB402_473.out _).trans (((cell_far (p := ⟨gb473, _, none⟩) NB402_473.out _).trans (((cell_far (p := ⟨gb473, _, none⟩) NB402_473.out _).trans (hHeld.2.2.2.1))))))))))))))))))))))), (by first | (with_reducible refine dnN_x21 ?_; exact ((cell_far (p := ⟨gb473, _, none⟩) NB402_473.out _).trans (((cell_far (p := ⟨gb473, _, none⟩) NB402_473.out _).trans (((cell_far (p := ⟨gb473, _, none⟩) NB402_473.out _).trans (((cell_far (p := ⟨gb473, _, none⟩) NB402_473.out _).trans (((cell_far (p := ⟨gb473, _, none⟩) NB402_473.out _).trans (((cell_far (p := ⟨gb473, _, none⟩) NB402_473.out _).trans (((cell_far (p := ⟨gb473, _, none⟩) NB402_473.out _).trans (((cell_far (p := ⟨gb473, _, none⟩) NB402_473.out _).trans (((cell_far (p := ⟨gb473, _, none⟩) NB402_473.out _).trans (((cell_far (p := ⟨gb473, _, none⟩) NB402_473.out _).trans (((cell_far (p := ⟨gb473, _, none⟩) NB402_473.out _).trans (hHeld.2.2.2.2.1))))))))))))))))))))))) | exact ((cell_far (p := ⟨gb473, _, none⟩) NB402_473.out _).trans (((cell_far (p := ⟨gb473, _, none⟩) NB402_473.out _).trans (((cell_far (p := ⟨gb473, _, none⟩) NB402_473.out _).trans (((cell_far (p := ⟨gb473, _, none⟩) NB402_473.out _).trans (((cell_far (p := ⟨gb473, _, none⟩) NB402_473.out _).trans (((cell_far (p := ⟨gb473, _, none⟩) NB402_473.out _).trans (((cell_far (p := ⟨gb473, _, none⟩) NB402_473.out _).trans (((cell_far (p := ⟨gb473, _, none⟩) NB402_473.out _).trans (((cell_far (p := ⟨gb473, _, none⟩) NB402_473.out _).trans (((cell_far (p := ⟨gb473, _, none⟩) NB402_473.out _).trans (((cell_far (p := ⟨gb473, _, none⟩) NB402_473.out _).trans (hHeld.2.2.2.2.1))))))))))))))))))))))), (by first | (with_reducible refine dnN_x21 ?_; exact ((cell_far (p := ⟨gb473, _, none⟩) NB402_473.out _).trans (((cell_far (p := ⟨gb473, _, none⟩) NB402_473.out _).trans (((cell_far (p := ⟨gb473, _, none⟩) NB402_473.out _).trans (((cell_far (p := ⟨gb473, _, none⟩) NB402_473.out _).trans (((cell_far (p := ⟨gb473, _, none⟩) NB402_473.out _).trans (((cell_far (p := ⟨gb473, _, none⟩) NB402_473.out _).trans (((cell_far (p := ⟨gb473, _, none⟩) NB402_473.out _).trans (((cell_far (p := ⟨gb473, _, none⟩) NB402_473.out _).trans (((cell_far (p := ⟨gb473, _, none⟩) NB402_473.out _).trans (((cell_far (p := ⟨gb473, _, none⟩) NB402_473.out _).trans (((cell_far (p := ⟨gb473, _, none⟩) NB402_473.out _).trans (hHeld.2.2.2.2.2.1))))))))))))))))))))))) | exact ((cell_far (p := ⟨gb473, _, none⟩) NB402_473.out _).trans (((cell_far (p := ⟨gb473, _, none⟩) NB402_473.out _).trans (((cell_far (p := ⟨gb473, _, none⟩) NB402_473.out _).trans (((cell_far (p := ⟨gb473, _, none⟩) NB402_473.out _).trans (((cell_far (p := ⟨gb473, _, none⟩) NB402_473.out _).trans (((cell_far (p := ⟨gb473, _, none⟩) NB402_473.out _).trans (((cell_far (p := ⟨gb473, _, none⟩) NB402_473.out _).trans (((cell_far (p := ⟨gb473, _, none⟩) NB402_473.out _).trans (((cell_far (p := ⟨gb473, _, none⟩) NB402_473.out _).trans (((cell_far (p := ⟨gb473, _, none⟩) NB402_473.out _).trans (((cell_far (p := ⟨gb473, _, none⟩) NB402_473.out _).trans (hHeld.2.2.2.2.2.1))))))))))))))))))))))), (by first | (with_reducible refine dnN_x21 ?_; exact ((cell_far (p := ⟨gb473, _, none⟩) NB402_473.out _).trans (((cell_far (p := ⟨gb473, _, none⟩) NB402_473.out _).trans (((cell_far (p := ⟨gb473, _, none⟩) NB402_473.out _).trans (((cell_far (p := ⟨gb473, _, none⟩) NB402_473.out _).trans (((cell_far (p := ⟨gb473, _, none⟩) NB402_473.out _).trans (((cell_far (p := ⟨gb473, _, none⟩) NB402_473.out _).trans (((cell_far (p := ⟨gb473, _, none⟩) NB402_473.out _).trans (((cell_far (p := ⟨gb473, _, none⟩) NB402_473.out _).trans (((cell_far (p := ⟨gb473, _, none⟩) NB402_473.out _).trans (((cell_far (p := ⟨gb473, _, none⟩) NB402_473.out _).trans (((cell_far (p := ⟨gb473, _, none⟩) NB402_473.out _).trans (hHeld.2.2.2.2.2.2.1))))))))))))))))))))))) | exact ((cell_far (p := ⟨gb473, _, none⟩) NB402_473.out _).trans (((cell_far (p := ⟨gb473, _, none⟩) NB402_473.out _).trans (((cell_far (p := ⟨gb473, _, none⟩) NB402_473.out _).trans (((cell_far (p := ⟨gb473, _, none⟩) NB402_473.out _).trans (((cell_far (p := ⟨gb473, _, none⟩) NB402_473.out _).trans (((cell_far (p := ⟨gb473, _, none⟩) NB402_473.out _).trans (((cell_far (p := ⟨gb473, _, none⟩) NB402_473.out _).trans (((cell_far (p := ⟨gb473, _, none⟩) NB402_473.out _).trans (((cell_far (p := ⟨gb473, _, none⟩) NB402_473.out _).trans (((cell_far (p := ⟨gb473, _, none⟩) NB402_473.out _).trans (((cell_far (p := ⟨gb473, _, none⟩) NB402_473.out _).trans (hHeld.2.2.2.2.2.2.1))))))))))))))))))))))), (by first | (with_reducible refine dnN_x21 ?_; exact ((cell_far (p := ⟨gb473, _, none⟩) NB402_473.out _).trans (((cell_far (p := ⟨gb473, _, none⟩) NB402_473.out _).trans (((cell_far (p := ⟨gb473, _, none⟩) NB402_473.out _).trans (((cell_far (p := ⟨gb473, _, none⟩) NB402_473.out _).trans (((cell_far (p := ⟨gb473, _, none⟩) NB402_473.out _).trans (((cell_far (p := ⟨gb473, _, none⟩) NB402_473.out _).trans (((cell_far (p := ⟨gb473, _, none⟩) NB402_473.out _).trans (((cell_far (p := ⟨gb473, _, none⟩) NB402_473.out _).trans (((cell_far (p := ⟨gb473, _, none⟩) NB402_473.out _).trans (((cell_far (p := ⟨gb473, _, none⟩) NB402_473.out _).trans (((cell_far (p := ⟨gb473, _, none⟩) NB402_473.out _).trans (hHeld.2.2.2.2.2.2.2.1))))))))))))))))))))))) | exact ((cell_far (p := ⟨gb473, _, none⟩) NB402_473.out _).trans (((cell_far (p := ⟨gb473, _, none⟩) NB402_473.out _).trans (((cell_far (p := ⟨gb473, _, none⟩) NB402_473.out _).trans (((cell_far (p := ⟨gb473, _, none⟩) NB402_473.out _).trans (((cell_far (p := ⟨gb473, _, none⟩) NB402_473.out _).trans (((cell_far (p := ⟨gb473, _, none⟩) NB402_473.out _).trans (((cell_far (p := ⟨gb473, _, none⟩) NB402_473.out _).trans (((cell_far (p := ⟨gb473, _, none⟩) NB402_473.out _).trans (((cell_far (p := ⟨gb473, _, none⟩) NB402_473.out _).trans (((cell_far (p := ⟨gb473, _, none⟩) NB402_473.out _).trans (((cell_far (p := ⟨gb473, _, none⟩) NB402_473.out _).trans (hHeld.2.2.2.2.2.2.2.1))))))))))))))))))))))), (by first | (with_reducible refine dnN_x21 ?_; exact ((cell_far (p := ⟨gb473, _, none⟩) NB402_473.out _).trans (((cell_far (p := ⟨gb473, _, none⟩) NB402_473.out _).trans (((cell_far (p := ⟨gb473, _, none⟩) NB402_473.out _).trans (((cell_far (p := ⟨gb473, _, none⟩) NB402_473.out _).trans (((cell_far (p := ⟨gb473, _, none⟩) NB402_473.out _).trans (((cell_far (p := ⟨gb473, _, none⟩) NB402_473.out _).trans (((cell_far (p := ⟨gb473, _, none⟩) NB402_473.out _).trans (((cell_far (p := ⟨gb473, _, none⟩) NB402_473.out _).trans (((cell_far (p := ⟨gb473, _, none⟩) NB402_473.out _).trans (((cell_far (p := ⟨gb473, _, none⟩) NB402_473.out _).trans (((cell_far (p := ⟨gb473, _, none⟩) NB402_473.out _).trans (hHeld.2.2.2.2.2.2.2.2.1))))))))))))))))))))))) | exact ((cell_far (p := ⟨gb473, _, none⟩) NB402_473.out _).trans (((cell_far (p := ⟨gb473, _, none⟩) NB402_473.out _).trans (((cell_far (p := ⟨gb473, _, none⟩) NB402_473.out _).trans (((cell_far (p := ⟨gb473, _, none⟩) NB402_473.out _).trans (((cell_far (p := ⟨gb473, _, none⟩) NB402_473.out _).trans (((cell_far (p := ⟨gb473, _, none⟩) NB402_473.out _).trans (((cell_far (p := ⟨gb473, _, none⟩) NB402_473.out _).trans (((cell_far (p := ⟨gb473, _, none⟩) NB402_473.out _).trans (((cell_far (p := ⟨gb473, _, none⟩) NB402_473.out _).trans (((cell_far (p := ⟨gb473, _, none⟩) NB402_473.out _).trans (((cell_far (p := ⟨gb473, _, none⟩) NB402_473.out _).trans (hHeld.2.2.2.2.2.2.2.2.1))))))))))))))))))))))), (by first | (with_reducible refine dnN_x21 ?_; exact ((cell_far (p := ⟨gb473, _, none⟩) NB402_473.out _).trans (((cell_far (p := ⟨gb473, _, none⟩) NB402_473.out _).trans (((cell_far (p := ⟨gb473, _, none⟩) NB402_473.out _).trans (((cell_far (p := ⟨gb473, _, none⟩) NB402_473.out _).trans (((cell_far (p := ⟨gb473, _, none⟩) NB402_473.out _).trans (((cell_far (p := ⟨gb473, _, none⟩) NB402_473.out _).trans (((cell_far (p := ⟨gb473, _, none⟩) NB402_473.out _).trans (((cell_far (p := ⟨gb473, _, none⟩) NB402_473.out _).trans (((cell_far (p := ⟨gb473, _, none⟩) NB402_473.out _).trans (((cell_far (p := ⟨gb473, _, none⟩) NB402_473.out _).trans (((cell_far (p := ⟨gb473, _, none⟩) NB402_473.out _).trans (hHeld.2.2.2.2.2.2.2.2.2.1))))))))))))))))))))))) | exact ((cell_far (p := ⟨gb473, _, none⟩) NB402_473.out _).trans (((cell_far (p := ⟨gb473, _, none⟩) NB402_473.out _).trans (((cell_far (p := ⟨gb473, _, none⟩) NB402_473.out _).trans (((cell_far (p := ⟨gb473, _, none⟩) NB402_473.out _).trans (((cell_far (p := ⟨gb473, _, none⟩) NB402_473.out _).trans (((cell_far (p := ⟨gb473, _, none⟩) NB402_473.out _).trans (((cell_far (p := ⟨gb473, _, none⟩) NB402_473.out _).trans (((cell_far (p := ⟨gb473, _, none⟩) NB402_473.out _).trans (((cell_far (p := ⟨gb473, _, none⟩) NB402_473.out _).trans (((cell_far (p := ⟨gb473, _, none⟩) NB402_473.out _).trans (((cell_far (p := ⟨gb473, _, none⟩) NB402_473.out _).trans (hHeld.2.2.2.2.2.2.2.2.2.1))))))))))))))))))))))), (by first | (with_reducible refine dnN_x21 ?_; exact ((cell_far (p := ⟨gb473, _, none⟩) NB402_473.out _).trans (((cell_far (p := ⟨gb473, _, none⟩) NB402_473.out _).trans (((cell_far (p := ⟨gb473, _, none⟩) NB402_473.out _).trans (((cell_far (p := ⟨gb473, _, none⟩) NB402_473.out _).trans (((cell_far (p := ⟨gb473, _, none⟩) NB402_473.out _).trans (((cell_far (p := ⟨gb473, _, none⟩) NB402_473.out _).trans (((cell_far (p := ⟨gb473, _, none⟩) NB402_473.out _).trans (((cell_far (p := ⟨gb473, _, none⟩) NB402_473.out _).trans (((cell_far (p := ⟨gb473, _, none⟩) NB402_473.out _).trans (((cell_far (p := ⟨gb473, _, none⟩) NB402_473.out _).trans (((cell_far (p := ⟨gb473, _, none⟩) NB402_473.out _).trans (hHeld.2.2.2.2.2.2.2.2.2.2.1))))))))))))))))))))))) | exact ((cell_far (p := ⟨gb473, _, none⟩) NB402_473.out _).trans (((cell_far (p := ⟨gb473, _, none⟩) NB402_473.out _).trans (((cell_far (p := ⟨gb473, _, none⟩) NB402_473.out _).trans (((cell_far (p := ⟨gb473, _, none⟩) NB402_473.out _).trans (((cell_far (p := ⟨gb473, _, none⟩) NB402_473.out _).trans (((cell_far (p := ⟨gb473, _, none⟩) NB402_473.out _).trans (((cell_far (p := ⟨gb473, _, none⟩) NB402_473.out _).trans (((cell_far (p := ⟨gb473, _, none⟩) NB402_473.out _).trans (((cell_far (p := ⟨gb473, _, none⟩) NB402_473.out _).trans (((cell_far (p := ⟨gb473, _, none⟩) NB402_473.out _).trans (((cell_far (p := ⟨gb473, _, none⟩) NB402_473.out _).trans (hHeld.2.2.2.2.2.2.2.2.2.2.1))))))))))))))))))))))), (by first | (with_reducible refine dnN_x21 ?_; exact ((cell_far (p := ⟨gb473, _, none⟩) NB403_473.out _).trans (((cell_far (p := ⟨gb473, _, none⟩) NB403_473.out _).trans (((cell_far (p := ⟨gb473, _, none⟩) NB403_473.out _).trans (((cell_far (p := ⟨gb473, _, none⟩) NB403_473.out _).trans (((cell_far (p := ⟨gb473, _, none⟩) NB403_473.out _).trans (((cell_far (p := ⟨gb473, _, none⟩) NB403_473.out _).trans (((cell_far (p := ⟨gb473, _, none⟩) NB403_473.out _).trans (((cell_far (p := ⟨gb473, _, none⟩) NB403_473.out _).trans (((cell_far (p := ⟨gb473, _, none⟩) NB403_473.out _).trans (((cell_far (p := ⟨gb473, _, none⟩) NB403_473.out _).trans (((cell_far (p := ⟨gb473, _, none⟩) NB403_473.out _).trans (hHeld.2.2.2.2.2.2.2.2.2.2.2.1))))))))))))))))))))))) | exact ((cell_far (p := ⟨gb473, _, none⟩) NB403_473.out _).trans (((cell_far (p := ⟨gb473, _, none⟩) NB403_473.out _).trans (((cell_far (p := ⟨gb473, _, none⟩) NB403_473.out _).trans (((cell_far (p := ⟨gb473, _, none⟩) NB403_473.out _).trans (((cell_far (p := ⟨gb473, _, none⟩) NB403_473.out _).trans (((cell_far (p := ⟨gb473, _, none⟩) NB403_473.out _).trans (((cell_far (p := ⟨gb473, _, none⟩) NB403_473.out _).trans (((cell_far (p := ⟨gb473, _, none⟩) NB403_473.out _).trans (((cell_far (p := ⟨gb473, _, none⟩) NB403_473.out _).trans (((cell_far (p := ⟨gb473, _, none⟩) NB403_473.out _).trans (((cell_far (p := ⟨gb473, _, none⟩) NB403_473.out _).trans (hHeld.2.2.2.2.2.2.2.2.2.2.2.1))))))))))))))))))))))), (by first | (with_reducible refine dnN_x21 ?_; exact ((cell_far (p := ⟨gb473, _, none⟩) NB403_473.out _).trans (((cell_far (p := ⟨gb473, _, none⟩) NB403_473.out _).trans (((cell_far (p := ⟨gb473, _, none⟩) NB403_473.out _).trans (((cell_far (p := ⟨gb473, _, none⟩) NB403_473.out _).trans (((cell_far (p := ⟨gb473, _, none⟩) NB403_473.out _).trans (((cell_far (p := ⟨gb473, _, none⟩) NB403_473.out _).trans (((cell_far (p := ⟨gb473, _, none⟩) NB403_473.out _).trans (((cell_far (p := ⟨gb473, _, none⟩) NB403_473.out _).trans (((cell_far (p := ⟨gb473, _, none⟩) NB403_473.out _).trans (((cell_far (p := ⟨gb473, _, none⟩) NB403_473.out _).trans (((cell_far (p := ⟨gb473, _, none⟩) NB403_473.out _).trans (hHeld.2.2.2.2.2.2.2.2.2.2.2.2.1))))))))))))))))))))))) | exact ((cell_far (p := ⟨gb473, _, none⟩) NB403_473.out _).trans (((cell_far (p := ⟨gb473, _, none⟩) NB403_473.out _).trans (((cell_far (p := ⟨gb473, _, none⟩) NB403_473.out _).trans (((cell_far (p := ⟨gb473, _, none⟩) NB403_473.out _).trans (((cell_far (p := ⟨gb473, _, none⟩) NB403_473.out _).trans (((cell_far (p := ⟨gb473, _, none⟩) NB403_473.out _).trans (((cell_far (p := ⟨gb473, _, none⟩) NB403_473.out _).trans (((cell_far (p := ⟨gb473, _, none⟩) NB403_473.out _).trans (((cell_far (p := ⟨gb473, _, none⟩) NB403_473.out _).trans (((cell_far (p := ⟨gb473, _, none⟩) NB403_473.out _).trans (((cell_far (p := ⟨gb473, _, none⟩) NB403_473.out _).trans (hHeld.2.2.2.2.2.2.2.2.2.2.2.2.1))))))))))))))))))))))), (by first | (with_reducible refine dnN_x21 ?_; exact ((cell_far (p := ⟨gb473, _, none⟩) NB403_473.out _).trans (((cell_far (p := ⟨gb473, _, none⟩) NB403_473.out _).trans (((cell_far (p := ⟨gb473, _, none⟩) NB403_473.out _).trans (((cell_far (p := ⟨gb473, _, none⟩) NB403_473.out _).trans (((cell_far (p := ⟨gb473, _, none⟩) NB403_473.out _).trans (((cell_far (p := ⟨gb473, _, none⟩) NB403_473.out _).trans (((cell_far (p := ⟨gb473, _, none⟩) NB403_473.out _).trans (((cell_far (p := ⟨gb473, _, none⟩) NB403_473.out _).trans (((cell_far (p := ⟨gb473, _, none⟩) NB403_473.out _).trans (((cell_far (p := ⟨gb473, _, none⟩) NB403_473.out _).trans (((cell_far (p := ⟨gb473, _, none⟩) NB403_473.out _).trans (hHeld.2.2.2.2.2.2.2.2.2.2.2.2.2.1))))))))))))))))))))))) | exact ((cell_far (p := ⟨gb473, _, none⟩) NB403_473.out _).trans (((cell_far (p := ⟨gb473, _, none⟩) NB403_473.out _).trans (((cell_far (p := ⟨gb473, _, none⟩) NB403_473.out _).trans (((cell_far (p := ⟨gb473, _, none⟩) NB403_473.out _).trans (((cell_far (p := ⟨gb473, _, none⟩) NB403_473.out _).trans (((cell_far (p := ⟨gb473, _, none⟩) NB403_473.out _).trans (((cell_far (p := ⟨gb473, _, none⟩) NB403_473.out _).trans (((cell_far (p := ⟨gb473, _, none⟩) NB403_473.out _).trans (((cell_far (p := ⟨gb473, _, none⟩) NB403_473.out _).trans (((cell_far (p := ⟨gb473, _, none⟩) NB403_473.out _).trans (((cell_far (p := ⟨gb473, _, none⟩) NB403_473.out _).trans (hHeld.2.2.2.2.2.2.2.2.2.2.2.2.2.1))))))))))))))))))))))), (by first | (with_reducible refine dnN_x21 ?_; exact ((cell_far (p := ⟨gb473, _, none⟩) NB403_473.out _).trans (((cell_far (p := ⟨gb473, _, none⟩) NB403_473.out _).trans (((cell_far (p := ⟨gb473, _, none⟩) NB403_473.out _).trans (((cell_far (p := ⟨gb473, _, none⟩) NB403_473.out _).trans (((cell_far (p := ⟨gb473, _, none⟩) NB403_473.out _).trans (((cell_far (p := ⟨gb473, _, none⟩) NB403_473.out _).trans (((cell_far (p := ⟨gb473, _, none⟩) NB403_473.out _).trans (((cell_far (p := ⟨gb473, _, none⟩) NB403_473.out _).trans (((cell_far (p := ⟨gb473, _, none⟩) NB403_473.out _).trans (((cell_far (p := ⟨gb473, _, none⟩) NB403_473.out _).trans (((cell_far (p := ⟨gb473, _, none⟩) NB403_473.out _).trans (hHeld.2.2.2.2.2.2.2.2.2.2.2.2.2.2.1))))))))))))))))))))))) | exact ((cell_far (p := ⟨gb473, _, none⟩) NB403_473.out _).trans (((cell_far (p := ⟨gb473, _, none⟩) NB403_473.out _).trans (((cell_far (p := ⟨gb473, _, none⟩) NB403_473.out _).trans (((cell_far (p := ⟨gb473, _, none⟩) NB403_473.out _).trans (((cell_far (p := ⟨gb473, _, none⟩) NB403_473.out _).trans (((cell_far (p := ⟨gb473, _, none⟩) NB403_473.out _).trans (((cell_far (p := ⟨gb473, _, none⟩) NB403_473.out _).trans (((cell_far (p := ⟨gb473, _, none⟩) NB403_473.out _).trans (((cell_far (p := ⟨gb473, _, none⟩) NB403_473.out _).trans (((cell_far (p := ⟨gb473, _, none⟩) NB403_473.out _).trans (((cell_far (p := ⟨gb473, _, none⟩) NB403_473.out _).trans (hHeld.2.2.2.2.2.2.2.2.2.2.2.2.2.2.1))))))))))))))))))))))), (by first | (with_reducible refine dnN_x21 ?_; exact ((cell_far (p := ⟨gb473, _, none⟩) NB403_473.out _).trans (((cell_far (p := ⟨gb473, _, none⟩) NB403_473.out _).trans (((cell_far (p := ⟨gb473, _, none⟩) NB403_473.out _).trans (((cell_far (p := ⟨gb473, _, none⟩) NB403_473.out _).trans (((cell_far (p := ⟨gb473, _, none⟩) NB403_473.out _).trans (((cell_far (p := ⟨gb473, _, none⟩) NB403_473.out _).trans (((cell_far (p := ⟨gb473, _, none⟩) NB403_473.out _).trans (((cell_far (p := ⟨gb473, _, none⟩) NB403_473.out _).trans (((cell_far (p := ⟨gb473, _, none⟩) NB403_473.out _).trans (((cell_far (p := ⟨gb473, _, none⟩) NB403_473.out _).trans (((cell_far (p := ⟨gb473, _, none⟩) NB403_473.out _).trans (hHeld.2.2.2.2.2.2.2.2.2.2.2.2.2.2.2.1))))))))))))))))))))))) | exact ((cell_far (p := ⟨gb473, _, none⟩) NB403_473.out _).trans (((cell_far (p := ⟨gb473, _, none⟩) NB403_473.out _).trans (((cell_far (p := ⟨gb473, _, none⟩) NB403_473.out _).trans (((cell_far (p := ⟨gb473, _, none⟩) NB403_473.out _).trans (((cell_far (p := ⟨gb473, _, none⟩) NB403_473.out _).trans (((cell_far (p := ⟨gb473, _, none⟩) NB403_473.out _).trans (((cell_far (p := ⟨gb473, _, none⟩) NB403_473.out _).trans (((cell_far (p := ⟨gb473, _, none⟩) NB403_473.out _).trans (((cell_far (p := ⟨gb473, _, none⟩) NB403_473.out _).trans (((cell_far (p := ⟨gb473, _, none⟩) NB403_473.out _).trans (((cell_far (p := ⟨gb473, _, none⟩) NB403_473.out _).trans (hHeld.2.2.2.2.2.2.2.2.2.2.2.2.2.2.2.1))))))))))))))))))))))), (by first | (with_reducible refine dnN_x21 ?_; exact ((cell_far (p := ⟨gb473, _, none⟩) NB403_473.out _).trans (((cell_far (p := ⟨gb473, _, none⟩) NB403_473.out _).trans (((cell_far (p := ⟨gb473, _, none⟩) NB403_473.out _).trans (((cell_far (p := ⟨gb473, _, none⟩) NB403_473.out _).trans (((cell_far (p := ⟨gb473, _, none⟩) NB403_473.out _).trans (((cell_far (p := ⟨gb473, _, none⟩) NB403_473.out _).trans (((cell_far (p := ⟨gb473, _, none⟩) NB403_473.out _).trans (((cell_far (p := ⟨gb473, _, none⟩) NB403_473.out _).trans (((cell_far (p := ⟨gb473, _, none⟩) NB403_473.out _).trans (((cell_far (p := ⟨gb473, _, none⟩) NB403_473.out _).trans (((cell_far (p := ⟨gb473, _, none⟩) NB403_473.out _).trans (hHeld.2.2.2.2.2.2.2.2.2.2.2.2.2.2.2.2.1))))))))))))))))))))))) | exact ((cell_far (p := ⟨gb473, _, none⟩) NB403_473.out _).trans (((cell_far (p := ⟨gb473, _, none⟩) NB403_473.out _).trans (((cell_far (p := ⟨gb473, _, none⟩) NB403_473.out _).trans (((cell_far (p := ⟨gb473, _, none⟩) NB403_473.out _).trans (((cell_far (p := ⟨gb473, _, none⟩) NB403_473.out _).trans (((cell_far (p := ⟨gb473, _, none⟩) NB403_473.out _).trans (((cell_far (p := ⟨gb473, _, none⟩) NB403_473.out _).trans (((cell_far (p := ⟨gb473, _, none⟩) NB403_473.out _).trans (((cell_far (p := ⟨gb473, _, none⟩) NB403_473.out _).trans (((cell_far (p := ⟨gb473, _, none⟩) NB403_473.out _).trans (((cell_far (p := ⟨gb473, _, none⟩) NB403_473.out _).trans (hHeld.2.2.2.2.2.2.2.2.2.2.2.2.2.2.2.2.1))))))))))))))))))))))), (by first | (with_reducible refine dnN_x21 ?_; exact ((cell_far (p := ⟨gb473, _, none⟩) NB403_473.out _).trans (((cell_far (p := ⟨gb473, _, none⟩) NB403_473.out _).trans (((cell_far (p := ⟨gb473, _, none⟩) NB403_473.out _).trans (((cell_far (p := ⟨gb473, _, none⟩) NB403_473.out _).trans (((cell_far (p := ⟨gb473, _, none⟩) NB403_473.out _).trans (((cell_far (p := ⟨gb473, _, none⟩) NB403_473.out _).trans (((cell_far (p := ⟨gb473, _, none⟩) NB403_473.out _).trans (((cell_far (p := ⟨gb473, _, none⟩) NB403_473.out _).trans (((cell_far (p := ⟨gb473, _, none⟩) NB403_473.out _).trans (((cell_far (p := ⟨gb473, _, none⟩) NB403_473.out _).trans (((cell_far (p := ⟨gb473, _, none⟩) NB403_473.out _).trans (hHeld.2.2.2.2.2.2.2.2.2.2.2.2.2.2.2.2.2.1))))))))))))))))))))))) | exact ((cell_far (p := ⟨gb473, _, none⟩) NB403_473.out _).trans (((cell_far (p := ⟨gb473, _, none⟩) NB403_473.out _).trans (((cell_far (p := ⟨gb473, _, none⟩) NB403_473.out _).trans (((cell_far (p := ⟨gb473, _, none⟩) NB403_473.out _).trans (((cell_far (p := ⟨gb473, _, none⟩) NB403_473.out _).trans (((cell_far (p := ⟨gb473, _, none⟩) NB403_473.out _).trans (((cell_far (p := ⟨gb473, _, none⟩) NB403_473.out _).trans (((cell_far (p := ⟨gb473, _, none⟩) NB403_473.out _).trans (((cell_far (p := ⟨gb473, _, none⟩) NB403_473.out _).trans (((cell_far (p := ⟨gb473, _, none⟩) NB403_473.out _).trans (((cell_far (p := ⟨gb473, _, none⟩) NB403_473.out _).trans (hHeld.2.2.2.2.2.2.2.2.2.2.2.2.2.2.2.2.2.1))))))))))))))))))))))), (by first | (with_reducible refine dnN_x21 ?_; exact ((cell_far (p := ⟨gb473, _, none⟩) NB403_473.out _).trans (((cell_far (p := ⟨gb473, _, none⟩) NB403_473.out _).trans (((cell_far (p := ⟨gb473, _, none⟩) NB403_473.out _).trans (((cell_far (p := ⟨gb473, _, none⟩) NB403_473.out _).trans (((cell_far (p := ⟨gb473, _, none⟩) NB403_473.out _).trans (((cell_far (p := ⟨gb473, _, none⟩) NB403_473.out _).trans (((cell_far (p := ⟨gb473, _, none⟩) NB403_473.out _).trans (((cell_far (p := ⟨gb473, _, none⟩) NB403_473.out _).trans (((cell_far (p := ⟨gb473, _, none⟩) NB403_473.out _).trans (((cell_far (p := ⟨gb473, _, none⟩) NB403_473.out _).trans (((cell_far (p := ⟨gb473, _, none⟩) NB403_473.out _).trans (hHeld.2.2.2.2.2.2.2.2.2.2.2.2.2.2.2.2.2.2.1))))))))))))))))))))))) | exact ((cell_far (p := ⟨gb473, _, none⟩) NB403_473.out _).trans (((cell_far (p := ⟨gb473, _, none⟩) NB403_473.out _).trans (((cell_far (p := ⟨gb473, _, none⟩) NB403_473.out _).trans (((cell_far (p := ⟨gb473, _, none⟩) NB403_473.out _).trans (((cell_far (p := ⟨gb473, _, none⟩) NB403_473.out _).trans (((cell_far (p := ⟨gb473, _, none⟩) NB403_473.out _).trans (((cell_far (p := ⟨gb473, _, none⟩) NB403_473.out _).trans (((cell_far (p := ⟨gb473, _, none⟩) NB403_473.out _).trans (((cell_far (p := ⟨gb473, _, none⟩) NB403_473.out _).trans (((cell_far (p := ⟨gb473, _, none⟩) NB403_473.out _).trans (((cell_far (p := ⟨gb473, _, none⟩) NB403_473.out _).trans (hHeld.2.2.2.2.2.2.2.2.2.2.2.2.2.2.2.2.2.2.1))))))))))))))))))))))), (by first | (with_reducible refine dnN_x21 ?_; exact ((cell_far (p := ⟨gb473, _, none⟩) NB403_473.out _).trans (((cell_far (p := ⟨gb473, _, none⟩) NB403_473.out _).trans (((cell_far (p := ⟨gb473, _, none⟩) NB403_473.out _).trans (((cell_far (p := ⟨gb473, _, none⟩) NB403_473.out _).trans (((cell_far (p := ⟨gb473, _, none⟩) NB403_473.out _).trans (((cell_far (p := ⟨gb473, _, none⟩) NB403_473.out _).trans (((cell_far (p := ⟨gb473, _, none⟩) NB403_473.out _).trans (((cell_far (p := ⟨gb473, _, none⟩) NB403_473.out _).trans (((cell_far (p := ⟨gb473, _, none⟩) NB403_473.out _).trans (((cell_far (p := ⟨gb473, _, none⟩) NB403_473.out _).trans (((cell_far (p := ⟨gb473, _, none⟩) NB403_473.out _).trans (hHeld.2.2.2.2.2.2.2.2.2.2.2.2.2.2.2.2.2.2.2.1))))))))))))))))))))))) | exact ((cell_far (p := ⟨gb473, _, none⟩) NB403_473.out _).trans (((cell_far (p := ⟨gb473, _, none⟩) NB403_473.out _).trans (((cell_far (p := ⟨gb473, _, none⟩) NB403_473.out _).trans (((cell_far (p := ⟨gb473, _, none⟩) NB403_473.out _).trans (((cell_far (p := ⟨gb473, _, none⟩) NB403_473.out _).trans (((cell_far (p := ⟨gb473, _, none⟩) NB403_473.out _).trans (((cell_far (p := ⟨gb473, _, none⟩) NB403_473.out _).trans (((cell_far (p := ⟨gb473, _, none⟩) NB403_473.out _).trans (((cell_far (p := ⟨gb473, _, none⟩) NB403_473.out _).trans (((cell_far (p := ⟨gb473, _, none⟩) NB403_473.out _).trans (((cell_far (p := ⟨gb473, _, none⟩) NB403_473.out _).trans (hHeld.2.2.2.2.2.2.2.2.2.2.2.2.2.2.2.2.2.2.2.1))))))))))))))))))))))), (by first | (with_reducible refine dnN_x21 ?_; exact ((cell_far (p := ⟨gb473, _, none⟩) NB403_473.out _).trans (((cell_far (p := ⟨gb473, _, none⟩) NB403_473.out _).trans (((cell_far (p := ⟨gb473, _, none⟩) NB403_473.out _).trans (((cell_far (p := ⟨gb473, _, none⟩) NB403_473.out _).trans (((cell_far (p := ⟨gb473, _, none⟩) NB403_473.out _).trans (((cell_far (p := ⟨gb473, _, none⟩) NB403_473.out _).trans (((cell_far (p := ⟨gb473, _, none⟩) NB403_473.out _).trans (((cell_far (p := ⟨gb473, _, none⟩) NB403_473.out _).trans (((cell_far (p := ⟨gb473, _, none⟩) NB403_473.out _).trans (((cell_far (p := ⟨gb473, _, none⟩) NB403_473.out _).trans (((cell_far (p := ⟨gb473, _, none⟩) NB403_473.out _).trans (hHeld.2.2.2.2.2.2.2.2.2.2.2.2.2.2.2.2.2.2.2.2.1))))))))))))))))))))))) | exact ((cell_far (p := ⟨gb473, _, none⟩) NB403_473.out _).trans (((cell_far (p := ⟨gb473, _, none⟩) NB403_473.out _).trans (((cell_far (p := ⟨gb473, _, none⟩) NB403_473.out _).trans (((cell_far (p := ⟨gb473, _, none⟩) NB403_473.out _).trans (((cell_far (p := ⟨gb473, _, none⟩) NB403_473.out _).trans (((cell_far (p := ⟨gb473, _, none⟩) NB403_473.out _).trans (((cell_far (p := ⟨gb473, _, none⟩) NB403_473.out _).trans (((cell_far (p := ⟨gb473, _, none⟩) NB403_473.out _).trans (((cell_far (p := ⟨gb473, _, none⟩) NB403_473.out _).trans (((cell_far (p := ⟨gb473, _, none⟩) NB403_473.out _).trans (((cell_far (p := ⟨gb473, _, none⟩) NB403_473.out _).trans (hHeld.2.2.2.2.2.2.2.2.2.2.2.2.2.2.2.2.2.2.2.2.1))))))))))))))))))))))), (by first | (with_reducible refine dnN_x21 ?_; exact ((cell_far (p := ⟨gb473, _, none⟩) NB403_473.out _).trans (((cell_far (p := ⟨gb473, _, none⟩) NB403_473.out _).trans (((cell_far (p := ⟨gb473, _, none⟩) NB403_473.out _).trans (((cell_far (p := ⟨gb473, _, none⟩) NB403_473.out _).trans (((cell_far (p := ⟨gb473, _, none⟩) NB403_473.out _).trans (((cell_far (p := ⟨gb473, _, none⟩) NB403_473.out _).trans (((cell_far (p := ⟨gb473, _, none⟩) NB403_473.out _).trans (((cell_far (p := ⟨gb473, _, none⟩) NB403_473.out _).trans (((cell_far (p := ⟨gb473, _, none⟩) NB403_473.out _).trans (((cell_far (p := ⟨gb473, _, none⟩) NB403_473.out _).trans (((cell_far (p := ⟨gb473, _, none⟩) NB403_473.out _).trans (hHeld.2.2.2.2.2.2.2.2.2.2.2.2.2.2.2.2.2.2.2.2.2))))))))))))))))))))))) | exact ((cell_far (p := ⟨gb473, _, none⟩) NB403_473.out _).trans (((cell_far (p := ⟨gb473, _, none⟩) NB403_473.out _).trans (((cell_far (p := ⟨gb473, _, none⟩) NB403_473.out _).trans (((cell_far (p := ⟨gb473, _, none⟩) NB403_473.out _).trans (((cell_far (p := ⟨gb473, _, none⟩) NB403_473.out _).trans (((cell_far (p := ⟨gb473, _, none⟩) NB403_473.out _).trans (((cell_far (p := ⟨gb473, _, none⟩) NB403_473.out _).trans (((cell_far (p := ⟨gb473, _, none⟩) NB403_473.out _).trans (((cell_far (p := ⟨gb473, _, none⟩) NB403_473.out _).trans (((cell_far (p := ⟨gb473, _, none⟩) NB403_473.out _).trans (((cell_far (p := ⟨gb473, _, none⟩) NB403_473.out _).trans (hHeld.2.2.2.2.2.2.2.2.2.2.2.2.2.2.2.2.2.2.2.2.2)))))))))))))))))))))))⟩ (fun hHeld => ?_)
      clear hK K
      refine pure_ (i := 10) (N := some 8) (v := ?_) (a' := ?_) #[true, true, true, true, true, true, true, true, true, true, true] rfl rfl (any_of HT_.out (by kernel_rfl)) (fun _ _ _ h => h) (Or.inl ⟨by rfl, ?_⟩) ?_ ?_
      rotate_left
      · intro w'
        go_simp
        with_reducible rfl
      rotate_left
      · simp only [Act.put, List.setIfInBounds_toArray, List.set_cons_zero, List.set_cons_succ, i64_w, i32_w]
        rfl
      refine done_ (done_of HT_.out (by kernel_rfl)) ?_
      have hnb49 := NB473_402.out
      have hnc49 := NB402_473.out
      have hnb50 := NB473_403.out
      have hnc50 := NB403_473.out
      have hnb51 := NB473_438.out
      have hnc51 := NB438_473.out
      have hcz52_0 : w37.cell? ⟨gb473, 0, none⟩ = some (.int .i64 0) := (blk_cell BK473.out 0).trans rfl
      have hcz52_1 : w37.cell? ⟨gb473, 1, none⟩ = some (.int .i64 0) := (blk_cell BK473.out 1).trans rfl
      have hcz52_2 : w37.cell? ⟨gb473, 2, none⟩ = some (.int .i64 0) := (blk_cell BK473.out 2).trans rfl
      have hcz52_3 : w37.cell? ⟨gb473, 3, none⟩ = some (.int .i64 0) := (blk_cell BK473.out 3).trans rfl
      have hcz52_4 : w37.cell? ⟨gb473, 4, none⟩ = some (.int .i64 0) := (blk_cell BK473.out 4).trans rfl
      have hcz52_5 : w37.cell? ⟨gb473, 5, none⟩ = some (.int .i64 0) := (blk_cell BK473.out 5).trans rfl
      have hcz52_6 : w37.cell? ⟨gb473, 6, none⟩ = some (.int .i64 0) := (blk_cell BK473.out 6).trans rfl
      have hcz52_7 : w37.cell? ⟨gb473, 7, none⟩ = some (.int .i64 0) := (blk_cell BK473.out 7).trans rfl
      have hcz52_8 : w37.cell? ⟨gb473, 8, none⟩ = some (.int .i64 0) := (blk_cell BK473.out 8).trans rfl
      have hcz52_9 : w37.cell? ⟨gb473, 9, none⟩ = some (.int .i64 0) := (blk_cell BK473.out 9).trans rfl
      have hcz52_10 : w37.cell? ⟨gb473, 10, none⟩ = some (.int .i64 0) := (blk_cell BK473.out 10).trans rfl
      have hfz52_0 := blk_frozen BK473.out 0
      have hfz52_1 := blk_frozen BK473.out 1
      have hfz52_2 := blk_frozen BK473.out 2
      have hfz52_3 := blk_frozen BK473.out 3
      have hfz52_4 := blk_frozen BK473.out 4
      have hfz52_5 := blk_frozen BK473.out 5
      have hfz52_6 := blk_frozen BK473.out 6
      have hfz52_7 := blk_frozen BK473.out 7
      have hfz52_8 := blk_frozen BK473.out 8
      have hfz52_9 := blk_frozen BK473.out 9
      have hfz52_10 := blk_frozen BK473.out 10
      have hnb53 := NB438_402.out
      have hnc53 := NB402_438.out
      have hnb54 := NB438_403.out
      have hnc54 := NB403_438.out
      have hcz55_0 : w37.cell? ⟨gb438, 0, none⟩ = some (.int .i64 t426) := (blk_cell BK438.out 0).trans rfl
      have hcz55_1 : w37.cell? ⟨gb438, 1, none⟩ = some (.int .i64 t427) := (blk_cell BK438.out 1).trans rfl
      have hcz55_2 : w37.cell? ⟨gb438, 2, none⟩ = some (.int .i64 t428) := (blk_cell BK438.out 2).trans rfl
      have hcz55_3 : w37.cell? ⟨gb438, 3, none⟩ = some (.int .i64 t429) := (blk_cell BK438.out 3).trans rfl
      have hcz55_4 : w37.cell? ⟨gb438, 4, none⟩ = some (.int .i64 t430) := (blk_cell BK438.out 4).trans rfl
      have hcz55_5 : w37.cell? ⟨gb438, 5, none⟩ = some (.int .i64 t431) := (blk_cell BK438.out 5).trans rfl
      have hcz55_6 : w37.cell? ⟨gb438, 6, none⟩ = some (.int .i64 t432) := (blk_cell BK438.out 6).trans rfl
      have hcz55_7 : w37.cell? ⟨gb438, 7, none⟩ = some (.int .i64 t433) := (blk_cell BK438.out 7).trans rfl
      have hcz55_8 : w37.cell? ⟨gb438, 8, none⟩ = some (.int .i64 t434) := (blk_cell BK438.out 8).trans rfl
      have hcz55_9 : w37.cell? ⟨gb438, 9, none⟩ = some (.int .i64 t435) := (blk_cell BK438.out 9).trans rfl
      have hcz55_10 : w37.cell? ⟨gb438, 10, none⟩ = some (.int .i64 t436) := (blk_cell BK438.out 10).trans rfl
      have hfz55_0 := blk_frozen BK438.out 0
      have hfz55_1 := blk_frozen BK438.out 1
      have hfz55_2 := blk_frozen BK438.out 2
      have hfz55_3 := blk_frozen BK438.out 3
      have hfz55_4 := blk_frozen BK438.out 4
      have hfz55_5 := blk_frozen BK438.out 5
      have hfz55_6 := blk_frozen BK438.out 6
      have hfz55_7 := blk_frozen BK438.out 7
      have hfz55_8 := blk_frozen BK438.out 8
      have hfz55_9 := blk_frozen BK438.out 9
      have hfz55_10 := blk_frozen BK438.out 10
      try go_wp2_with (first | ((with_reducible refine gate_callee (f := 17) rfl ?_); refine goesL_ (some 27) rfl rfl Try.func17 (by kernel_rfl) rfl #[.agg #[.int .i64 t461, .int .i64 t462, .int .i64 t463, .int .i64 t464, .int .i64 t465, .int .i64 t466, .int .i64 t467, .int .i64 t468, .int .i64 t469, .int .i64 t470, .int .i64 t471], .agg #[.int .i64 t426, .int .i64 t427, .int .i64 t428, .int .i64 t429, .int .i64 t430, .int .i64 t431, .int .i64 t432, .int .i64 t433, .int .i64 t434, .int .i64 t435, .int .i64 t436]] rfl (by (try simp only [List.map_toArray, List.map_cons, List.map_nil]); first | done | rfl | (simp only [List.length_drop, List.length_take]; rfl)) ?_; (with_reducible refine (laws_eqKnow.calls t461 t462 t463 t464 t465 t466 t467 t468 t469 t470 t471 t426 t427 t428 t429 t430 t431 t432 t433 t434 t435 t436 true _ A9.out).mono ?_); rintro e w56 ⟨rfl, hb⟩; refine ⟨_, rfl, ?_⟩; have n0_ := Aside0.mk (blk_below (g := gb402) (o := .cells #[.int .i64 a0_0, .int .i64 a0_1, .int .i64 a0_2, .int .i64 a0_3, .int .i64 a0_4, .int .i64 a0_5, .int .i64 a0_6, .int .i64 a0_7, .int .i64 a0_8, .int .i64 a0_9, .int .i64 a0_10] 27 (0, 0)) (by (with_reducible repeat (first | refine blk_drewN ?_ _ | refine blk_drew ?_ | refine blk_alloc ?_ _)); refine blk_far ?_ NB402_473.out _; (with_reducible repeat (first | refine blk_drewN ?_ _ | refine blk_drew ?_ | refine blk_alloc ?_ _)); refine blk_far ?_ NB402_473.out _; (with_reducible repeat (first | refine blk_drewN ?_ _ | refine blk_drew ?_ | refine blk_alloc ?_ _)); refine blk_far ?_ NB402_473.out _; (with_reducible repeat (first | refine blk_drewN ?_ _ | refine blk_drew ?_ | refine blk_alloc ?_ _)); refine blk_far ?_ NB402_473.out _; (with_reducible repeat (first | refine blk_drewN ?_ _ | refine blk_drew ?_ | refine blk_alloc ?_ _)); refine blk_far ?_ NB402_473.out _; (with_reducible repeat (first | refine blk_drewN ?_ _ | refine blk_drew ?_ | refine blk_alloc ?_ _)); refine blk_far ?_ NB402_473.out _; (with_reducible repeat (first | refine blk_drewN ?_ _ | refine blk_drew ?_ | refine blk_alloc ?_ _)); refine blk_far ?_ NB402_473.out _; (with_reducible repeat (first | refine blk_drewN ?_ _ | refine blk_drew ?_ | refine blk_alloc ?_ _)); refine blk_far ?_ NB402_473.out _; (with_reducible repeat (first | refine blk_drewN ?_ _ | refine blk_drew ?_ | refine blk_alloc ?_ _)); refine blk_far ?_ NB402_473.out _; (with_reducible repeat (first | refine blk_drewN ?_ _ | refine blk_drew ?_ | refine blk_alloc ?_ _)); refine blk_far ?_ NB402_473.out _; (with_reducible repeat (first | refine blk_drewN ?_ _ | refine blk_drew ?_ | refine blk_alloc ?_ _)); refine blk_far ?_ NB402_473.out _; (with_reducible repeat (first | refine blk_drewN ?_ _ | refine blk_drew ?_ | refine blk_alloc ?_ _)); exact BK402.out) hb); have n1_ := Aside0.mk (blk_below (g := gb403) (o := .cells #[.int .i64 a1_0, .int .i64 a1_1, .int .i64 a1_2, .int .i64 a1_3, .int .i64 a1_4, .int .i64 a1_5, .int .i64 a1_6, .int .i64 a1_7, .int .i64 a1_8, .int .i64 a1_9, .int .i64 a1_10] 27 (0, 0)) (by (with_reducible repeat (first | refine blk_drewN ?_ _ | refine blk_drew ?_ | refine blk_alloc ?_ _)); refine blk_far ?_ NB403_473.out _; (with_reducible repeat (first | refine blk_drewN ?_ _ | refine blk_drew ?_ | refine blk_alloc ?_ _)); refine blk_far ?_ NB403_473.out _; (with_reducible repeat (first | refine blk_drewN ?_ _ | refine blk_drew ?_ | refine blk_alloc ?_ _)); refine blk_far ?_ NB403_473.out _; (with_reducible repeat (first | refine blk_drewN ?_ _ | refine blk_drew ?_ | refine blk_alloc ?_ _)); refine blk_far ?_ NB403_473.out _; (with_reducible repeat (first | refine blk_drewN ?_ _ | refine blk_drew ?_ | refine blk_alloc ?_ _)); refine blk_far ?_ NB403_473.out _; (with_reducible repeat (first | refine blk_drewN ?_ _ | refine blk_drew ?_ | refine blk_alloc ?_ _)); refine blk_far ?_ NB403_473.out _; (with_reducible repeat (first | refine blk_drewN ?_ _ | refine blk_drew ?_ | refine blk_alloc ?_ _)); refine blk_far ?_ NB403_473.out _; (with_reducible repeat (first | refine blk_drewN ?_ _ | refine blk_drew ?_ | refine blk_alloc ?_ _)); refine blk_far ?_ NB403_473.out _; (with_reducible repeat (first | refine blk_drewN ?_ _ | refine blk_drew ?_ | refine blk_alloc ?_ _)); refine blk_far ?_ NB403_473.out _; (with_reducible repeat (first | refine blk_drewN ?_ _ | refine blk_drew ?_ | refine blk_alloc ?_ _)); refine blk_far ?_ NB403_473.out _; (with_reducible repeat (first | refine blk_drewN ?_ _ | refine blk_drew ?_ | refine blk_alloc ?_ _)); refine blk_far ?_ NB403_473.out _; (with_reducible repeat (first | refine blk_drewN ?_ _ | refine blk_drew ?_ | refine blk_alloc ?_ _)); exact BK403.out) hb); have n2_ := Aside0.mk (blk_below (g := gb438) (o := .cells #[.int .i64 t426, .int .i64 t427, .int .i64 t428, .int .i64 t429, .int .i64 t430, .int .i64 t431, .int .i64 t432, .int .i64 t433, .int .i64 t434, .int .i64 t435, .int .i64 t436] 23 (0, 0)) (by (with_reducible repeat (first | refine blk_drewN ?_ _ | refine blk_drew ?_ | refine blk_alloc ?_ _)); refine blk_far ?_ NB438_473.out _; (with_reducible repeat (first | refine blk_drewN ?_ _ | refine blk_drew ?_ | refine blk_alloc ?_ _)); refine blk_far ?_ NB438_473.out _; (with_reducible repeat (first | refine blk_drewN ?_ _ | refine blk_drew ?_ | refine blk_alloc ?_ _)); refine blk_far ?_ NB438_473.out _; (with_reducible repeat (first | refine blk_drewN ?_ _ | refine blk_drew ?_ | refine blk_alloc ?_ _)); refine blk_far ?_ NB438_473.out _; (with_reducible repeat (first | refine blk_drewN ?_ _ | refine blk_drew ?_ | refine blk_alloc ?_ _)); refine blk_far ?_ NB438_473.out _; (with_reducible repeat (first | refine blk_drewN ?_ _ | refine blk_drew ?_ | refine blk_alloc ?_ _)); refine blk_far ?_ NB438_473.out _; (with_reducible repeat (first | refine blk_drewN ?_ _ | refine blk_drew ?_ | refine blk_alloc ?_ _)); refine blk_far ?_ NB438_473.out _; (with_reducible repeat (first | refine blk_drewN ?_ _ | refine blk_drew ?_ | refine blk_alloc ?_ _)); refine blk_far ?_ NB438_473.out _; (with_reducible repeat (first | refine blk_drewN ?_ _ | refine blk_drew ?_ | refine blk_alloc ?_ _)); refine blk_far ?_ NB438_473.out _; (with_reducible repeat (first | refine blk_drewN ?_ _ | refine blk_drew ?_ | refine blk_alloc ?_ _)); refine blk_far ?_ NB438_473.out _; (with_reducible repeat (first | refine blk_drewN ?_ _ | refine blk_drew ?_ | refine blk_alloc ?_ _)); refine blk_far ?_ NB438_473.out _; (with_reducible repeat (first | refine blk_drewN ?_ _ | refine blk_drew ?_ | refine blk_alloc ?_ _)); exact BK438.out) hb); have n3_ := Aside0.mk (blk_below (g := gb473) (o := .cells #[.int .i64 t461, .int .i64 t462, .int .i64 t463, .int .i64 t464, .int .i64 t465, .int .i64 t466, .int .i64 t467, .int .i64 t468, .int .i64 t469, .int .i64 t470, .int .i64 t471] 23 (0, 0)) (by (with_reducible repeat (first | refine blk_drewN ?_ _ | refine blk_drew ?_ | refine blk_alloc ?_ _)); refine blk_put (cs := #[.int .i64 t461, .int .i64 t462, .int .i64 t463, .int .i64 t464, .int .i64 t465, .int .i64 t466, .int .i64 t467, .int .i64 t468, .int .i64 t469, .int .i64 t470, .int .i64 0]) ?_ 10 _ rfl; (with_reducible repeat (first | refine blk_drewN ?_ _ | refine blk_drew ?_ | refine blk_alloc ?_ _)); refine blk_put (cs := #[.int .i64 t461, .int .i64 t462, .int .i64 t463, .int .i64 t464, .int .i64 t465, .int .i64 t466, .int .i64 t467, .int .i64 t468, .int .i64 t469, .int .i64 0, .int .i64 0]) ?_ 9 _ rfl; (with_reducible repeat (first | refine blk_drewN ?_ _ | refine blk_drew ?_ | refine blk_alloc ?_ _)); refine blk_put (cs := #[.int .i64 t461, .int .i64 t462, .int .i64 t463, .int .i64 t464, .int .i64 t465, .int .i64 t466, .int .i64 t467, .int .i64 t468, .int .i64 0, .int .i64 0, .int .i64 0]) ?_ 8 _ rfl; (with_reducible repeat (first | refine blk_drewN ?_ _ | refine blk_drew ?_ | refine blk_alloc ?_ _)); refine blk_put (cs := #[.int .i64 t461, .int .i64 t462, .int .i64 t463, .int .i64 t464, .int .i64 t465, .int .i64 t466, .int .i64 t467, .int .i64 0, .int .i64 0, .int .i64 0, .int .i64 0]) ?_ 7 _ rfl; (with_reducible repeat (first | refine blk_drewN ?_ _ | refine blk_drew ?_ | refine blk_alloc ?_ _)); refine blk_put (cs := #[.int .i64 t461, .int .i64 t462, .int .i64 t463, .int .i64 t464, .int .i64 t465, .int .i64 t466, .int .i64 0, .int .i64 0, .int .i64 0, .int .i64 0, .int .i64 0]) ?_ 6 _ rfl; (with_reducible repeat (first | refine blk_drewN ?_ _ | refine blk_drew ?_ | refine blk_alloc ?_ _)); refine blk_put (cs := #[.int .i64 t461, .int .i64 t462, .int .i64 t463, .int .i64 t464, .int .i64 t465, .int .i64 0, .int .i64 0, .int .i64 0, .int .i64 0, .int .i64 0, .int .i64 0]) ?_ 5 _ rfl; (with_reducible repeat (first | refine blk_drewN ?_ _ | refine blk_drew ?_ | refine blk_alloc ?_ _)); refine blk_put (cs := #[.int .i64 t461, .int .i64 t462, .int .i64 t463, .int .i64 t464, .int .i64 0, .int .i64 0, .int .i64 0, .int .i64 0, .int .i64 0, .int .i64 0, .int .i64 0]) ?_ 4 _ rfl; (with_reducible repeat (first | refine blk_drewN ?_ _ | refine blk_drew ?_ | refine blk_alloc ?_ _)); refine blk_put (cs := #[.int .i64 t461, .int .i64 t462, .int .i64 t463, .int .i64 0, .int .i64 0, .int .i64 0, .int .i64 0, .int .i64 0, .int .i64 0, .int .i64 0, .int .i64 0]) ?_ 3 _ rfl; (with_reducible repeat (first | refine blk_drewN ?_ _ | refine blk_drew ?_ | refine blk_alloc ?_ _)); refine blk_put (cs := #[.int .i64 t461, .int .i64 t462, .int .i64 0, .int .i64 0, .int .i64 0, .int .i64 0, .int .i64 0, .int .i64 0, .int .i64 0, .int .i64 0, .int .i64 0]) ?_ 2 _ rfl; (with_reducible repeat (first | refine blk_drewN ?_ _ | refine blk_drew ?_ | refine blk_alloc ?_ _)); refine blk_put (cs := #[.int .i64 t461, .int .i64 0, .int .i64 0, .int .i64 0, .int .i64 0, .int .i64 0, .int .i64 0, .int .i64 0, .int .i64 0, .int .i64 0, .int .i64 0]) ?_ 1 _ rfl; (with_reducible repeat (first | refine blk_drewN ?_ _ | refine blk_drew ?_ | refine blk_alloc ?_ _)); refine blk_put (cs := #[.int .i64 0, .int .i64 0, .int .i64 0, .int .i64 0, .int .i64 0, .int .i64 0, .int .i64 0, .int .i64 0, .int .i64 0, .int .i64 0, .int .i64 0]) ?_ 0 _ rfl; (with_reducible repeat (first | refine blk_drewN ?_ _ | refine blk_drew ?_ | refine blk_alloc ?_ _)); exact BK473.out) hb); have n4_ := Aside0.mk (below_step (by repeat (first | (with_reducible first | exact HB.out | apply below_alloc | apply pw_below_drewN | apply below_drew1 | refine below_set ?_ GE402.out | refine below_set ?_ GE403.out | refine below_set ?_ GE438.out | refine below_set ?_ GE473.out) | exact HB.out)) hb); clear BK402; clear BK403; clear BK438; clear BK473; clear HB; have BK402 := n0_; have BK403 := n1_; have BK438 := n2_; have BK473 := n3_; have HB := n4_; clear n0_ n1_ n2_ n3_ n4_; (try clear hb); (try clear hb2); (try clear hk); (try clear hi)))
      go_ret
      exact ⟨by first | rfl | (simp [errW_none, errW_some] <;> rfl) | (simp [*, errW_none, errW_some] <;> rfl), by repeat (first | (with_reducible first | exact HB.out | apply below_alloc | apply pw_below_drewN | apply below_drew1 | refine below_set ?_ GE402.out | refine below_set ?_ GE403.out | refine below_set ?_ GE438.out | refine below_set ?_ GE473.out) | exact HB.out)⟩
  · replace c10 := Bool.eq_false_iff.mpr c10
    subst c10
    have H1 : (some false) = some r := by rw [if_neg (show ¬ (false = true) by decide)] at H; exact H
    clear H
    have H := H1
    clear H1
    exact absurd ((Option.some.inj H).trans hrt_.out) (by decide)

end Go.Proofs.Ytecccbecflbcfaa.PKnow
