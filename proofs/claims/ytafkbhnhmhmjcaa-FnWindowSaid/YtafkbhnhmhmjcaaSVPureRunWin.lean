import Derived.Test.YtafkbhnhmhmjcaaSVPRunx0
import Derived.Test.YtafkbhnhmhmjcaaSVMyLoops
import Derived.Test.YtafkbhnhmhmjcaaSVMyWin
section
namespace Go.Proofs.Ytafkbhnhmhmjcaa.PRun
open Go.RowKit Go.Proofs.YtafkbhnhmhmjcaaW.PrintWords Go.Proofs.YtafkbhnhmhmjcaaW.PrintLast Go.Proofs.YtafkbhnhmhmjcaaW.PrintMore
attribute [local go_sem] max2_int min2_int max_two min_two max_three min_three max_four min_four   -- for this text's walks alone
attribute [local go_sem] Go.Proofs.Ytafkbhnhmhmjcaa.Cell2.cell_set_off Go.Proofs.Ytafkbhnhmhmjcaa.Cell2.set_drewN Go.Proofs.Ytafkbhnhmhmjcaa.Cell2.not_beq_bool
set_option linter.unusedVariables false
set_option linter.unusedSimpArgs false
theorem eqA55 (d : Nat) (w : World) (x0 y0 : Int) (x1 y1 : Int) (x2 y2 : Bool) :
    (Op.equalIn (d + 2) 55 (.agg #[.int .u16 x0, .int .u8 x1, .bool x2]) (.agg #[.int .u16 y0, .int .u8 y1, .bool y2])).run Try.prog w = .ok (x0 == y0 && (x1 == y1 && (x2 == y2))) w := by
  refine eqA_of Try.underlying55 (by kernel_rfl) ?_
  refine eqf_cons (by rfl) (by go_simp; rfl) (by go_simp; rfl) (by go_simp) ?_
  refine eqf_cons (by rfl) (by go_simp; rfl) (by go_simp; rfl) (by go_simp) ?_
  exact eqf_last (by rfl) (by go_simp; rfl) (by go_simp; rfl) (by go_simp)
end Go.Proofs.Ytafkbhnhmhmjcaa.PRun
end
section
namespace Go.Proofs.Ytafkbhnhmhmjcaa.PRun
open Go.RowKit Go.Proofs.YtafkbhnhmhmjcaaW.PrintWords Go.Proofs.YtafkbhnhmhmjcaaW.PrintLast Go.Proofs.YtafkbhnhmhmjcaaW.PrintMore
attribute [local go_sem] max2_int min2_int max_two min_two max_three min_three max_four min_four   -- for this text's walks alone
attribute [local go_sem] Go.Proofs.Ytafkbhnhmhmjcaa.Cell2.cell_set_off Go.Proofs.Ytafkbhnhmhmjcaa.Cell2.set_drewN Go.Proofs.Ytafkbhnhmhmjcaa.Cell2.not_beq_bool
set_option linter.unusedVariables false
set_option linter.unusedSimpArgs false
attribute [local go_sem high] eqA55
def laws_sameCycs.l0 : Nat → List (S55) → List (S55) → Int → Option (Bool)
  | 0, _, _, _ => none
  | k + 1, x0, x1, x5 => if x5 < (x0.length : Int) then (if 0 ≤ x5 then (if x5 < (x1.length : Int) then (if (!(((rd_T55 x0 x5).f0) == ((rd_T55 x1 x5).f0)) || (!(((rd_T55 x0 x5).f1) == ((rd_T55 x1 x5).f1)) || (!(((rd_T55 x0 x5).f2) == ((rd_T55 x1 x5).f2))))) = true then (some false) else (laws_sameCycs.l0 k x0 x1 (wrap64 (x5 + 1)))) else (none)) else (none)) else (some true)
def laws_sameCycs.f (k : Nat) (l0 : List (S55)) (l1 : List (S55)) : Option (Bool) := if (l0.length : Int) = (l1.length : Int) then (laws_sameCycs.l0 k l0 l1 0) else (some false)
theorem laws_sameCycs.mono_l : ∀ k, (∀ y0 y1 y2, LeO (laws_sameCycs.l0 k y0 y1 y2) (laws_sameCycs.l0 (k + 1) y0 y1 y2))
  | 0 => fun _ _ _ r h => by simp [laws_sameCycs.l0] at h
  | k + 1 => by
    have ih0 := laws_sameCycs.mono_l k
    · intro y0 y1 y2
      unfold laws_sameCycs.l0
      repeat' first
      | (with_reducible exact ih0 _ _ _)
      | (with_reducible exact LeO.refl _)
      | (with_reducible exact LeO.none _)
      | (with_reducible refine LeO.ite ?_ ?_)
      | (with_reducible refine LeO.bind ?_ (fun _ => ?_))
      | exact ih0 _ _ _
      | exact LeO.none _
      | refine LeO.ite ?_ ?_
      | refine LeO.bind ?_ (fun _ => ?_)
theorem laws_sameCycs.mono : ∀ a0 a1 k, LeO (laws_sameCycs.f k a0 a1) (laws_sameCycs.f (k + 1) a0 a1) := by
  intro a0 a1 k
  have ih0 := laws_sameCycs.mono_l k
  unfold laws_sameCycs.f
  repeat' first
      | (with_reducible exact ih0 _ _ _)
      | (with_reducible exact LeO.refl _)
      | (with_reducible exact LeO.none _)
      | (with_reducible refine LeO.ite ?_ ?_)
      | (with_reducible refine LeO.bind ?_ (fun _ => ?_))
      | exact ih0 _ _ _
      | exact LeO.none _
      | refine LeO.ite ?_ ?_
      | refine LeO.bind ?_ (fun _ => ?_)
set_option maxHeartbeats 8000000 in
set_option maxRecDepth 100000 in
theorem laws_sameCycs.calls (k : Nat) (A0 : Option Addr) (c0 : Nat) (l0 : List (S55)) (A1 : Option Addr) (c1 : Nat) (l1 : List (S55)) (r : Bool) (w : World) (hr0 : Kd.C k55 w A0 l0.length l0) (hc0 : l0.length ≤ c0) (hr1 : Kd.C k55 w A1 l1.length l1) (hc1 : l1.length ≤ c1) (h : laws_sameCycs.f k l0 l1 = some r) :
    Calls Try.prog 10 #[.slice A0 l0.length c0, .slice A1 l1.length c1] w fun e w' => e = .returned (.bool r) ∧ Drawn0 w w' := by
  have hu55 := Try.underlying55
  have HR0 := Aside0.mk hr0
  have HC0 := Aside0.mk hc0
  clear hr0 hc0
  have HR1 := Aside0.mk hr1
  have HC1 := Aside0.mk hc1
  clear hr1 hc1
  have H : (if (l0.length : Int) = (l1.length : Int) then (laws_sameCycs.l0 k l0 l1 0) else (some false)) = some r := h
  clear h
  by_cases c3 : (l0.length : Int) = (l1.length : Int)
  · rw [if_pos c3] at H
    have c3b0 : ((l0.length : Int) == (l1.length : Int)) = true := beq_iff_eq.mpr c3
    have c3b1 : ((l0.length : Int) != (l1.length : Int)) = false := bne_eq_false_iff_eq.mpr c3
    have c3b2 : (l0.length == l1.length) = true := by first | simpa using c3 | (simp at c3 ⊢; omega)
    clear c3
    have H' := Aside0.mk H
    clear H
    go_enter Try.func10, Try.ntmps10
    go_wp2
    repeat (go_quiet (fail); try go_wp2)
    go_loopg [5] k (fun kq v5 w' => ∃ (x5_1 : Int), v5 = .int .i64 x5_1 ∧ Aside0 (laws_sameCycs.l0 kq l0 l1 x5_1 = some r) ∧ Aside0 (kq ≤ k) ∧ Drawn0 w w')
    case atStart => exact ⟨(0), (by first | rfl | (simp; done) | (simp [*]; done)), H', ⟨Nat.le_refl _⟩, by repeat (first | exact Drawn0.refl _ | apply Drawn0.step)⟩
    case round =>
      clear H'
      try clear c1
      try clear p2
      try clear c3
      try clear c3b0
      try clear c3b1
      try clear c3b2
      obtain ⟨x5_1, rfl, HA, HK1, ⟨m1, rfl⟩⟩ := hrel
      cases gk with
      | zero => exact absurd HA.out (by simp [laws_sameCycs.l0])
      | succ k1 =>
        have H := HA.out
        clear HA
        simp only [laws_sameCycs.l0] at H
        by_cases c4 : x5_1 < (l0.length : Int)
        · rw [if_pos c4] at H
          have c4b0 : decide (x5_1 < (l0.length : Int)) = true := decide_eq_true c4
          clear c4
          by_cases c5 : 0 ≤ x5_1
          · rw [if_pos c5] at H
            have c5b0 : decide (0 ≤ x5_1) = true := decide_eq_true c5
            clear c5
            by_cases c6 : x5_1 < (l1.length : Int)
            · rw [if_pos c6] at H
              have c6b0 : decide (x5_1 < (l1.length : Int)) = true := decide_eq_true c6
              clear c6
              by_cases c7 : (!(((rd_T55 l0 x5_1).f0) == ((rd_T55 l1 x5_1).f0)) || (!(((rd_T55 l0 x5_1).f1) == ((rd_T55 l1 x5_1).f1)) || (!(((rd_T55 l0 x5_1).f2) == ((rd_T55 l1 x5_1).f2))))) = true
              · rw [if_pos c7] at H
                have c7b0 : (!(((rd_T55 l0 x5_1).f0) == ((rd_T55 l1 x5_1).f0)) || (!(((rd_T55 l0 x5_1).f1) == ((rd_T55 l1 x5_1).f1)) || (((rd_T55 l0 x5_1).f2) != ((rd_T55 l1 x5_1).f2)))) = true := c7
                clear c7
                obtain rfl := Option.some.inj H
                have p905 : 0 ≤ (x5_1 : Int) := of_decide_eq_true (by first | (with_reducible assumption) | assumption)
                have q905 : x5_1 < (l0.length : Int) := of_decide_eq_true (by first | (with_reducible assumption) | assumption)
                obtain ⟨ad905, e905, hx905_0, hx905_1, hx905_2⟩ := at_T55 HR0.out x5_1 p905 q905
                cases e905
                replace p905 := eq_true p905
                replace q905 := eq_true q905
                have p906 : 0 ≤ (x5_1 : Int) := of_decide_eq_true (by first | (with_reducible assumption) | assumption)
                have q906 : x5_1 < (l1.length : Int) := of_decide_eq_true (by first | (with_reducible assumption) | assumption)
                obtain ⟨ad906, e906, hx906_0, hx906_1, hx906_2⟩ := at_T55 HR1.out x5_1 p906 q906
                cases e906
                replace p906 := eq_true p906
                replace q906 := eq_true q906
                go_wp2
                repeat (go_quiet (fail); try go_wp2)
                go_ret
                exact ⟨by first | rfl | (simp; done) | (simp [*]; done), by repeat (first | exact Drawn0.refl _ | apply Drawn0.step)⟩
              · rw [if_neg c7] at H
                have c7b0 : (!(((rd_T55 l0 x5_1).f0) == ((rd_T55 l1 x5_1).f0)) || (!(((rd_T55 l0 x5_1).f1) == ((rd_T55 l1 x5_1).f1)) || (((rd_T55 l0 x5_1).f2) != ((rd_T55 l1 x5_1).f2)))) = false := (Bool.not_eq_true _).mp c7
                clear c7
                have H' := Aside0.mk H
                clear H
                have p905 : 0 ≤ (x5_1 : Int) := of_decide_eq_true (by first | (with_reducible assumption) | assumption)
                have q905 : x5_1 < (l0.length : Int) := of_decide_eq_true (by first | (with_reducible assumption) | assumption)
                obtain ⟨ad905, e905, hx905_0, hx905_1, hx905_2⟩ := at_T55 HR0.out x5_1 p905 q905
                cases e905
                replace p905 := eq_true p905
                replace q905 := eq_true q905
                have p906 : 0 ≤ (x5_1 : Int) := of_decide_eq_true (by first | (with_reducible assumption) | assumption)
                have q906 : x5_1 < (l1.length : Int) := of_decide_eq_true (by first | (with_reducible assumption) | assumption)
                obtain ⟨ad906, e906, hx906_0, hx906_1, hx906_2⟩ := at_T55 HR1.out x5_1 p906 q906
                cases e906
                replace p906 := eq_true p906
                replace q906 := eq_true q906
                go_wp2
                repeat (go_quiet (fail); try go_wp2)
                go_roundg k1
                case measure => have := HK1.out; omega
                case rel => exact ⟨(wrap64 (x5_1 + 1)), (by first | rfl | (simp; done) | (simp [*]; done)), H', ⟨by have := HK1.out; omega⟩, by repeat (first | exact Drawn0.refl _ | apply Drawn0.step)⟩
            · rw [if_neg c6] at H
              exact absurd H (by simp)
          · rw [if_neg c5] at H
            exact absurd H (by simp)
        · rw [if_neg c4] at H
          have c4b0 : decide (x5_1 < (l0.length : Int)) = false := decide_eq_false c4
          clear c4
          obtain rfl := Option.some.inj H
          go_wp2
          repeat (go_quiet (fail); try go_wp2)
          go_ret
          exact ⟨by first | rfl | (simp; done) | (simp [*]; done), by repeat (first | exact Drawn0.refl _ | apply Drawn0.step)⟩
  · rw [if_neg c3] at H
    have c3b0 : ((l0.length : Int) == (l1.length : Int)) = false := beq_eq_false_iff_ne.mpr c3
    have c3b1 : ((l0.length : Int) != (l1.length : Int)) = true := bne_iff_ne.mpr c3
    have c3b2 : (l0.length == l1.length) = false := by first | simpa using c3 | (simp at c3 ⊢; omega)
    obtain rfl := Option.some.inj H
    go_enter Try.func10, Try.ntmps10
    go_wp2
    repeat (go_quiet (fail); try go_wp2)
    go_ret
    exact ⟨by first | rfl | (simp; done) | (simp [*]; done), by repeat (first | exact Drawn0.refl _ | apply Drawn0.step)⟩
def spec_Window.l0 : Nat → List (S55) → Int → Int → List (S55) → Int → Option ((List (S55)))
  | 0, _, _, _, _, _ => none
  | k + 1, x0, x1, x2, x7, x8 => if x8 < (x0.length : Int) then (if x8 ≥ x1 then (if x8 < x2 then (if 0 ≤ x8 then (if x7.length < 35184372088832 then (spec_Window.l0 k x0 x1 x2 (x7 ++ [(⟨(rd_T55 x0 x8).f0, (rd_T55 x0 x8).f1, (rd_T55 x0 x8).f2⟩ : S55)]) (wrap64 (x8 + 1))) else (none)) else (none)) else (spec_Window.l0 k x0 x1 x2 x7 (wrap64 (x8 + 1)))) else (spec_Window.l0 k x0 x1 x2 x7 (wrap64 (x8 + 1)))) else (some x7)
def spec_Window.f (k : Nat) (l0 : List (S55)) (a1 : Int) (a2 : Int) : Option ((List (S55))) := spec_Window.l0 k l0 a1 a2 (([] : List (S55))) 0
theorem spec_Window.mono_l : ∀ k, (∀ y0 y1 y2 y3 y4, LeO (spec_Window.l0 k y0 y1 y2 y3 y4) (spec_Window.l0 (k + 1) y0 y1 y2 y3 y4))
  | 0 => fun _ _ _ _ _ r h => by simp [spec_Window.l0] at h
  | k + 1 => by
    have ih0 := spec_Window.mono_l k
    · intro y0 y1 y2 y3 y4
      unfold spec_Window.l0
      repeat' first
      | (with_reducible exact ih0 _ _ _ _ _)
      | (with_reducible exact LeO.refl _)
      | (with_reducible exact LeO.none _)
      | (with_reducible refine LeO.ite ?_ ?_)
      | (with_reducible refine LeO.bind ?_ (fun _ => ?_))
      | exact ih0 _ _ _ _ _
      | exact LeO.none _
      | refine LeO.ite ?_ ?_
      | refine LeO.bind ?_ (fun _ => ?_)
theorem spec_Window.mono : ∀ a0 a1 a2 k, LeO (spec_Window.f k a0 a1 a2) (spec_Window.f (k + 1) a0 a1 a2) := by
  intro a0 a1 a2 k
  have ih0 := spec_Window.mono_l k
  unfold spec_Window.f
  repeat' first
      | (with_reducible exact ih0 _ _ _ _ _)
      | (with_reducible exact LeO.refl _)
      | (with_reducible exact LeO.none _)
      | (with_reducible refine LeO.ite ?_ ?_)
      | (with_reducible refine LeO.bind ?_ (fun _ => ?_))
      | exact ih0 _ _ _ _ _
      | exact LeO.none _
      | refine LeO.ite ?_ ?_
      | refine LeO.bind ?_ (fun _ => ?_)
set_option maxHeartbeats 8000000 in
set_option maxRecDepth 100000 in
theorem spec_Window.calls (k : Nat) (A0 : Option Addr) (c0 : Nat) (l0 : List (S55)) (a1 : Int) (a2 : Int) (r : List (S55)) (w : World) (hr0 : Kd.C k55 w A0 l0.length l0) (hc0 : l0.length ≤ c0) (h : spec_Window.f k l0 a1 a2 = some r) :
    Calls Try.prog 11 #[.slice A0 l0.length c0, .int .i64 a1, .int .i64 a2] w fun e w' => ∃ v0_ : Value, e = .returned (v0_) ∧ Kd.R k55 55 w' w.heap.size (fun _ => True) v0_ r ∧ Below w.heap.size w w' := by
  have hu55 := Try.underlying55
  have HR0 := Aside0.mk hr0
  have HC0 := Aside0.mk hc0
  clear hr0 hc0
  have HB := Aside0.mk (Below.refl w.heap.size w)
  have H : (spec_Window.l0 k l0 a1 a2 (([] : List (S55))) 0) = some r := h
  clear h
  obtain ⟨y907, hy907⟩ : ∃ y_ : List (S55), y_ = (([] : List (S55))) := ⟨_, rfl⟩
  replace H : (spec_Window.l0 k l0 a1 a2 y907 0) = some r := by first | (rw [hy907]; with_reducible exact H) | (have H2_ := (Option.bind_some _ _).symm.trans H; rw [hy907]; with_reducible exact H2_) | (have H2_ := (Option.bind_some _ _).symm.trans H; with_reducible exact H2_) | with_reducible exact H | (rw [hy907]; exact H) | exact H
  have Ny907 := Aside0.mk hy907
  clear hy907
  have H' := Aside0.mk H
  clear H
  go_enter Try.func11, Try.ntmps11
  go_wp2_with (first | ((with_reducible refine gate_dst (N := 9) rfl ?_); refine Kd.R_lit k55 _ 55 ?hg (N := 9) ?hd (xs := ([] : List (S55))) (inner := []) (ok := fun _ => True) (okp := fun _ => True) ?hr ?hp (fun _ hk => hk) trivial (Below.refl _ _) (Nat.le_refl _) (by simp) ?_; (case hd => rfl); (case hg => rfl); (case hr => first | (go_simp; done) | (go_simp; rfl)); (case hp => exact (Reps.none _ _)); intro v908 w4 ho5 hb hg_ hnew_; clear hg_ hnew_; (first | rw [← Ny907.out] at ho5 | (simp only [Int.reduceToNat] at ho5; rw [← Ny907.out] at ho5)); have n0_ := Aside0.mk (Kd.R_lower ho5 (below_size (by repeat (first | (with_reducible first | exact HB.out | apply below_alloc | apply pw_below_drewN | apply below_drew1) | exact HB.out)))); have n1_ := Aside0.mk (below_step (by repeat (first | (with_reducible first | exact HB.out | apply below_alloc | apply pw_below_drewN | apply below_drew1) | exact HB.out)) hb); clear HB; have HO909 := n0_; have HB := n1_; clear n0_ n1_; clear hb ho5))
  go_loopg [7, 8] k (fun kq v7 v8 w' => ∃ (x7_1 : List (S55)) (x8_1 : Int), v8 = .int .i64 x8_1 ∧ Aside0 (spec_Window.l0 kq l0 a1 a2 x7_1 x8_1 = some r) ∧ Aside0 (kq ≤ k) ∧ Aside0 (Kd.R k55 55 w' w.heap.size (fun _ => True) v7 x7_1) ∧ Aside0 (Below w.heap.size w w'))
  case atStart => exact ⟨(y907), (0), (by first | rfl | (simp; done) | (simp [*]; done)), H', ⟨Nat.le_refl _⟩, ⟨by (with_reducible repeat (first | apply Kd.R_alloc | apply Kd.R_drewN | apply Kd.R_drew)); exact HO909.out⟩, ⟨by repeat (first | (with_reducible first | exact HB.out | apply below_alloc | apply pw_below_drewN | apply below_drew1) | exact HB.out)⟩⟩
  case round =>
    clear H'
    try clear c1
    try clear p2
    obtain ⟨x7_1, x8_1, rfl, HA, HK1, HO_7, HB⟩ := hrel
    cases gk with
    | zero => exact absurd HA.out (by simp [spec_Window.l0])
    | succ k1 =>
      have H := HA.out
      clear HA
      simp only [spec_Window.l0] at H
      by_cases c6 : x8_1 < (l0.length : Int)
      · rw [if_pos c6] at H
        have c6b0 : decide (x8_1 < (l0.length : Int)) = true := decide_eq_true c6
        clear c6
        by_cases c7 : x8_1 ≥ a1
        · rw [if_pos c7] at H
          have c7b0 : decide (a1 ≤ x8_1) = true := decide_eq_true c7
          clear c7
          by_cases c8 : x8_1 < a2
          · rw [if_pos c8] at H
            have c8b0 : decide (x8_1 < a2) = true := decide_eq_true c8
            clear c8
            by_cases c9 : 0 ≤ x8_1
            · rw [if_pos c9] at H
              have c9b0 : decide (0 ≤ x8_1) = true := decide_eq_true c9
              clear c9
              by_cases c10 : x7_1.length < 35184372088832
              · rw [if_pos c10] at H
                have LMc10 := Aside0.mk c10
                clear c10
                obtain ⟨y911, hy911⟩ : ∃ y_ : List (S55), y_ = (x7_1 ++ [(⟨(rd_T55 l0 x8_1).f0, (rd_T55 l0 x8_1).f1, (rd_T55 l0 x8_1).f2⟩ : S55)]) := ⟨_, rfl⟩
                replace H : (spec_Window.l0 k1 l0 a1 a2 y911 (wrap64 (x8_1 + 1))) = some r := by first | (rw [hy911]; with_reducible exact H) | (have H2_ := (Option.bind_some _ _).symm.trans H; rw [hy911]; with_reducible exact H2_) | (have H2_ := (Option.bind_some _ _).symm.trans H; with_reducible exact H2_) | with_reducible exact H | (rw [hy911]; exact H) | exact H
                have Ny911 := Aside0.mk hy911
                clear hy911
                have H' := Aside0.mk H
                clear H
                have p910 : 0 ≤ (x8_1 : Int) := of_decide_eq_true (by first | (with_reducible assumption) | assumption)
                have q910 : x8_1 < (l0.length : Int) := of_decide_eq_true (by first | (with_reducible assumption) | assumption)
                obtain ⟨ad910, e910, hx910_0, hx910_1, hx910_2⟩ := at_T55 HR0.out x8_1 p910 q910
                cases e910
                replace hx910_0 := (HB.out.cell (World.block_lt_of_cell? w _ hx910_0)).trans hx910_0
                replace hx910_1 := (HB.out.cell (World.block_lt_of_cell? w _ hx910_1)).trans hx910_1
                replace hx910_2 := (HB.out.cell (World.block_lt_of_cell? w _ hx910_2)).trans hx910_2
                replace p910 := eq_true p910
                replace q910 := eq_true q910
                go_wp2_with (first | ((with_reducible refine gate_builtin (b := .append) (xs := #[.tmp 24, .tmp 29]) rfl ?_); at_builtin; refine Kd.R_append k55 (w0 := w) w.heap.size rfl (.tmp 24) (.tmp 29) 31 55 (.agg #[(.int .u16 0), (.int .u8 0), (.bool false)]) 4 rfl Try.underlying31 info55 rfl (by decide) (by omega) u7 x7_1 (⟨(rd_T55 l0 x8_1).f0, (rd_T55 l0 x8_1).f1, (rd_T55 l0 x8_1).f2⟩ : S55) [.int .u16 ((rd_T55 l0 x8_1).f0), .int .u8 ((rd_T55 l0 x8_1).f1), .bool ((rd_T55 l0 x8_1).f2)] (fun _ => True) (fun _ => False) rfl rfl ?aP (fun _ hk => hk.elim) ?aF ?aO ?aB ?aS ?aL ?_; (case aP => exact k55_mkM _ _ _ (⟨(rd_T55 l0 x8_1).f0, (rd_T55 l0 x8_1).f1, (rd_T55 l0 x8_1).f2⟩ : S55)); (case aB => exact (by repeat (first | (with_reducible first | exact HB.out | apply below_alloc | apply pw_below_drewN | apply below_drew1) | exact HB.out))); (case aF => exact (fun _ _ => trivial)); (case aO => exact (by (with_reducible repeat (first | apply Kd.R_alloc | apply Kd.R_drewN | apply Kd.R_drew)); exact HO_7.out)); (case aS => exact (below_size (by repeat (first | (with_reducible first | exact HB.out | apply below_alloc | apply pw_below_drewN | apply below_drew1) | exact HB.out)))); (case aL => have := LMc10.out; omega); intro v912 w11 ho hb hg hat; rw [← Ny911.out] at ho; have n0_ := Aside0.mk (hb); have n1_ := Aside0.mk (ho); clear HB; clear HO_7; have HB := n0_; have HO913 := n1_; clear n0_ n1_; clear ho hb hg hat))
                go_roundg k1
                case measure => have := HK1.out; omega
                case rel => exact ⟨(y911), (wrap64 (x8_1 + 1)), (by first | rfl | (simp; done) | (simp [*]; done)), H', ⟨by have := HK1.out; omega⟩, ⟨by (with_reducible repeat (first | apply Kd.R_alloc | apply Kd.R_drewN | apply Kd.R_drew)); exact HO913.out⟩, ⟨by repeat (first | (with_reducible first | exact HB.out | apply below_alloc | apply pw_below_drewN | apply below_drew1) | exact HB.out)⟩⟩
              · rw [if_neg c10] at H
                exact absurd H (by simp)
            · rw [if_neg c9] at H
              exact absurd H (by simp)
          · rw [if_neg c8] at H
            have c8b0 : decide (x8_1 < a2) = false := decide_eq_false c8
            clear c8
            have H' := Aside0.mk H
            clear H
            go_wp2
            go_roundg k1
            case measure => have := HK1.out; omega
            case rel => exact ⟨(x7_1), (wrap64 (x8_1 + 1)), (by first | rfl | (simp; done) | (simp [*]; done)), H', ⟨by have := HK1.out; omega⟩, ⟨by (with_reducible repeat (first | apply Kd.R_alloc | apply Kd.R_drewN | apply Kd.R_drew)); exact HO_7.out⟩, ⟨by repeat (first | (with_reducible first | exact HB.out | apply below_alloc | apply pw_below_drewN | apply below_drew1) | exact HB.out)⟩⟩
        · rw [if_neg c7] at H
          have c7b0 : decide (a1 ≤ x8_1) = false := decide_eq_false c7
          clear c7
          have H' := Aside0.mk H
          clear H
          go_wp2
          go_roundg k1
          case measure => have := HK1.out; omega
          case rel => exact ⟨(x7_1), (wrap64 (x8_1 + 1)), (by first | rfl | (simp; done) | (simp [*]; done)), H', ⟨by have := HK1.out; omega⟩, ⟨by (with_reducible repeat (first | apply Kd.R_alloc | apply Kd.R_drewN | apply Kd.R_drew)); exact HO_7.out⟩, ⟨by repeat (first | (with_reducible first | exact HB.out | apply below_alloc | apply pw_below_drewN | apply below_drew1) | exact HB.out)⟩⟩
      · rw [if_neg c6] at H
        have c6b0 : decide (x8_1 < (l0.length : Int)) = false := decide_eq_false c6
        clear c6
        obtain rfl := Option.some.inj H
        go_wp2
        go_ret
        exact ⟨_, by first | rfl | (simp [errW_none, errW_some] <;> rfl) | (simp [*, errW_none, errW_some] <;> rfl), by (with_reducible repeat (first | apply Kd.R_alloc | apply Kd.R_drewN | apply Kd.R_drew)); exact HO_7.out, by repeat (first | (with_reducible first | exact HB.out | apply below_alloc | apply pw_below_drewN | apply below_drew1) | exact HB.out)⟩
end Go.Proofs.Ytafkbhnhmhmjcaa.PRun
end
section
namespace Go.Proofs.Ytafkbhnhmhmjcaa.Win
open Go.RowKit Go.Proofs.Ytafkbhnhmhmjcaa.PRun Go.Proofs.Ytafkbhnhmhmjcaa.Plain Go.Proofs.YtafkbhnhmhmjcaaW.PrintWords Go.Proofs.YtafkbhnhmhmjcaaW.PrintLast Go.Proofs.YtafkbhnhmhmjcaaW.PrintMore
theorem rdC_nat (l : List S55) (i : Nat) (h : i < l.length) : rd_T55 l (i : Int) = l[i] := getD_lt l z55 i h
theorem same_refl (l : List S55) (h : l.length ≤ 2097152) (k : Nat) (hk : l.length < k) : laws_sameCycs.f k l l = some true := by
  unfold laws_sameCycs.f
  rw [if_pos rfl]
  refine loop_run (fun k (_ : Unit) i => laws_sameCycs.l0 k l l i) (fun _ => ()) l.length true ?_ ?_ k hk
  · intro k i hi
    simp only [laws_sameCycs.l0]
    rw [if_pos (by omega), if_pos (by omega), if_pos (by omega)]
    simp [wsucc (show i < 9223372036854775807 by omega)]
  · intro k
    simp only [laws_sameCycs.l0]
    rw [if_neg (by omega)]
theorem spec_win (l : List S55) (hl : l.length ≤ 1048576) (x y : Int) (hx : 0 ≤ x) (hy : y ≤ l.length) (x' y' : Int) (hxx : ∀ i : Nat, i < l.length → (x' ≤ (i : Int) ↔ x ≤ (i : Int))) (hyy : ∀ i : Nat, i < l.length → ((i : Int) < y' ↔ (i : Int) < y)) (k : Nat) (hk : l.length < k) : spec_Window.f k l x' y' = some (if x ≥ y then [] else (l.drop x.toNat).take (y - x).toNat) := by
  have key : ∀ i : Nat, i ≤ l.length → ((l.take i).drop x.toNat).take (y - x).toNat = ((l.take (min i y.toNat)).drop x.toNat) := by
    intro i hi
    rcases Int.le_total x y with h | h
    · rw [List.drop_take, List.drop_take, List.take_take]
      congr 1; omega
    · rw [show (y - x).toNat = 0 by omega, List.take_zero, List.drop_eq_nil_of_le (by rw [List.length_take]; omega)]
  have hfin : (if x ≥ y then ([] : List S55) else (l.drop x.toNat).take (y - x).toNat) = (l.take (min l.length y.toNat)).drop x.toNat := by
    have := key l.length (Nat.le_refl _)
    rw [List.take_length] at this
    split
    · rw [List.drop_eq_nil_of_le (by rw [List.length_take]; omega)]
    · exact this
  rw [hfin]
  have := loop_run (fun k s i => spec_Window.l0 k l x' y' s i) (fun i => (l.take (min i y.toNat)).drop x.toNat) l.length ((l.take (min l.length y.toNat)).drop x.toNat) ?_ ?_ k hk
  · have h0 : (l.take (min 0 y.toNat)).drop x.toNat = [] := by simp
    simp only [h0] at this
    exact this
  · intro k i hi
    have e1 := hxx i hi
    have e2 := hyy i hi
    show spec_Window.l0 (k + 1) l x' y' ((l.take (min i y.toNat)).drop x.toNat) (i : Int) = spec_Window.l0 k l x' y' ((l.take (min (i + 1) y.toNat)).drop x.toNat) ((i + 1 : Nat) : Int)
    simp only [spec_Window.l0]
    rw [if_pos (by omega), wsucc (by omega)]
    by_cases h1 : (i : Int) ≥ x'
    · rw [if_pos h1]
      by_cases h2 : (i : Int) < y'
      · have g1 : x ≤ (i : Int) := e1.1 h1
        have g2 : (i : Int) < y := e2.1 h2
        rw [if_pos h2, if_pos (by omega), if_pos (by simp; omega), rdC_nat _ _ hi]
        have m1 : min i y.toNat = i := by omega
        have m2 : min (i + 1) y.toNat = i + 1 := by omega
        rw [m1, m2, List.take_succ_eq_append_getElem hi, List.drop_append_of_le_length (by rw [List.length_take]; omega)]
      · have g2 : ¬ (i : Int) < y := fun h => h2 (e2.2 h)
        rw [if_neg h2]
        have m1 : min i y.toNat = y.toNat := by omega
        have m2 : min (i + 1) y.toNat = y.toNat := by omega
        rw [m1, m2]
    · have g1 : ¬ x ≤ (i : Int) := fun h => h1 (e1.2 h)
      rw [if_neg h1]
      have z1 : (l.take (min i y.toNat)).drop x.toNat = [] := List.drop_eq_nil_of_le (by rw [List.length_take]; omega)
      have z2 : (l.take (min (i + 1) y.toNat)).drop x.toNat = [] := List.drop_eq_nil_of_le (by rw [List.length_take]; omega)
      rw [z1, z2]
  · intro k
    show spec_Window.l0 (k + 1) l x' y' _ _ = _
    simp only [spec_Window.l0]
    rw [if_neg (by omega)]
theorem window_both (l : List S55) (hl : l.length ≤ 1048576) (x y : Int) : ∃ r : List S55, r.length ≤ l.length ∧ impl_Window.f l x y = some r ∧ ∀ k, l.length < k → spec_Window.f k l x y = some r := by
  have n1 : 0 ≤ mx 0 x := by unfold mx; split <;> omega
  have n2 : mn y (l.length : Int) ≤ (l.length : Int) := by unfold mn; split <;> omega
  have e1 : ∀ i : Nat, i < l.length → (x ≤ (i : Int) ↔ mx 0 x ≤ (i : Int)) := by intro i _; unfold mx; split <;> omega
  have e2 : ∀ i : Nat, i < l.length → ((i : Int) < y ↔ (i : Int) < mn y (l.length : Int)) := by intro i _; unfold mn; split <;> omega
  refine ⟨if mx 0 x ≥ mn y (l.length : Int) then [] else (l.drop (mx 0 x).toNat).take (mn y (l.length : Int) - mx 0 x).toNat, ?_, ?_, fun k hk => spec_win l hl _ _ n1 n2 x y e1 e2 k hk⟩
  · split
    · simp
    · simp; omega
  · unfold impl_Window.f
    split
    · rfl
    · rw [if_pos (by omega)]
def cut (l : List S55) (x y : Int) : List S55 := if mx 0 x ≥ mn y (l.length : Int) then [] else (l.drop (mx 0 x).toNat).take (mn y (l.length : Int) - mx 0 x).toNat
theorem cut_f (l : List S55) (hl : l.length ≤ 1048576) (x y : Int) : impl_Window.f l x y = some (cut l x y) := by
  unfold impl_Window.f cut
  split
  · rfl
  · rw [if_pos (by omega)]
theorem cut_spec (l : List S55) (hl : l.length ≤ 1048576) (x y : Int) (k : Nat) (hk : l.length < k) : spec_Window.f k l x y = some (cut l x y) := by
  obtain ⟨r, _, h1, h2⟩ := window_both l hl x y
  rw [h2 k hk]
  exact h1.symm.trans (cut_f l hl x y)
theorem cut_len (l : List S55) (x y : Int) : (cut l x y).length ≤ l.length := by
  unfold cut
  split
  · simp
  · simp; omega
theorem cut_none (l : List S55) (x y : Int) (h : y < x) : cut l x y = [] := by
  unfold cut
  rw [if_pos]
  unfold mx mn
  split <;> split <;> omega
theorem cut_nat (l : List S55) (a b : Nat) (h : a ≤ b) : cut l (a : Int) (b : Int) = (l.drop a).take (b - a) := by
  have h1 : mx 0 (a : Int) = (a : Int) := by unfold mx; split <;> omega
  unfold cut
  rw [h1]
  unfold mn
  split
  · rename_i h2
    split
    · rename_i h3
      rcases Nat.lt_or_ge a l.length with h4 | h4
      · omega
      · rw [List.drop_eq_nil_of_le h4]; simp
    · rename_i h3
      rw [Int.toNat_natCast, List.take_of_length_le (by simp), List.take_of_length_le (by simp; omega)]
  · split
    · have : b - a = 0 := by omega
      rw [this]; simp
    · rw [Int.toNat_natCast]
      congr 1
      omega
theorem cut_all (l : List S55) (x y : Int) (hx : 0 ≤ x) (hy : x ≤ y) : cut l 0 x ++ cut l x y ++ cut l y (l.length : Int) = l := by
  obtain ⟨a, rfl⟩ : ∃ a : Nat, x = (a : Int) := ⟨x.toNat, by omega⟩
  obtain ⟨b, rfl⟩ : ∃ b : Nat, y = (b : Int) := ⟨y.toNat, by omega⟩
  have h0 : cut l 0 (a : Int) = l.take a := by
    have := cut_nat l 0 a (Nat.zero_le _)
    simpa using this
  have h1 := cut_nat l a b (by omega)
  have h2 : cut l (b : Int) (l.length : Int) = l.drop b := by
    rcases Nat.lt_or_ge l.length b with h | h
    · rw [cut_none l _ _ (by omega), List.drop_eq_nil_of_le (by omega)]
    · rw [cut_nat l b l.length h, List.take_of_length_le (by simp)]
  rw [h0, h1, h2]
  have h3 : l.take a ++ (l.drop a).take (b - a) = l.take b := by
    have := List.take_add (l := l) (i := a) (j := b - a)
    rw [show a + (b - a) = b by omega] at this
    exact this.symm
  rw [h3, List.take_append_drop]
theorem three (x y : Int) : x < 0 ∨ (¬ x < 0 ∧ y < x) ∨ (¬ x < 0 ∧ ¬ y < x) := by omega
section
variable {l u v z : List S55} {x y : Int}
theorem nil0 (h : cut l x y = v) (hxy : y < x) : v = [] := h.symm.trans (cut_none l x y hxy)
theorem nil1 (h : cut l x y = v) (hxy : y < x) : ((v.length : Int) == 0) = true := by rw [nil0 h hxy]; rfl
theorem nil2 (h : cut l x y = v) (hxy : y < x) : (v = []) = True := eq_true (nil0 h hxy)
theorem nil3 (h : cut l x y = v) (hxy : y < x) : (v.length == 0) = true := by rw [nil0 h hxy]; rfl
theorem cut_eq (h1 : cut l 0 x = u) (h2 : cut l x y = v) (h3 : cut l y (l.length : Int) = z) (h : ¬ x < 0 ∧ ¬ y < x) : u ++ v ++ z = l := by
  rw [← h1, ← h2, ← h3]
  exact cut_all l x y (by omega) (by omega)
theorem cut_len2 (h : cut l x y = v) : v.length ≤ l.length := h ▸ cut_len l x y
theorem lt500 (h : l.length ≤ 400) : l.length < 500 := by omega
theorem le_big (h : v.length ≤ l.length) (hl : l.length ≤ 400) : v.length ≤ 2097152 := by omega
theorem lt_five (h : v.length ≤ l.length) (hl : l.length ≤ 400) : v.length < 500 := by omega
theorem same_eq (h : u = l) (hl : l.length ≤ 400) : laws_sameCycs.f 500 u l = some true := by
  subst h
  exact same_refl u (by omega) 500 (by omega)
theorem cut_four (h : cut l x y = v) (hl : l.length ≤ 400) : v.length ≤ 400 := Nat.le_trans (cut_len2 h) hl
theorem room {u v : List S55} (h1 : u.length ≤ 800) (h2 : v.length ≤ 400) : (u.length + v.length) * 4 ≤ 140737488355328 := by omega
theorem nil_len (h : u = []) : u.length ≤ 800 := by rw [h]; simp
theorem eq_len {z : List S55} (h : u = z) (hz : z.length ≤ 400) : u.length ≤ 800 := by rw [h]; omega
theorem eq_len2 {z1 z2 : List S55} (h : u = z1 ++ z2) (h1 : z1.length ≤ 400) (h2 : z2.length ≤ 400) : u.length ≤ 800 := by rw [h, List.length_append]; omega
end
end Go.Proofs.Ytafkbhnhmhmjcaa.Win
end
