import Derived.Test.YthdeemkhbajfgaaSUPUnitx0
namespace Go.Proofs.Ythdeemkhbajfgaa.PUnit
open Go.RowKit Go.Proofs.YthdeemkhbajfgaaW.PrintWords Go.Proofs.YthdeemkhbajfgaaW.PrintLast Go.Proofs.YthdeemkhbajfgaaW.PrintMore
attribute [local go_sem] max2_int min2_int max_two min_two max_three min_three max_four min_four   -- for this text's walks alone
attribute [local go_sem] Go.Proofs.Ythdeemkhbajfgaa.Cell2.cell_set_off Go.Proofs.Ythdeemkhbajfgaa.Cell2.set_drewN Go.Proofs.Ythdeemkhbajfgaa.Cell2.not_beq_bool
set_option linter.unusedVariables false
set_option linter.unusedSimpArgs false
def spec_l01In.f (a0 : Int) (a1 : Int) (a2 : Int) : Option (Bool) := if a0 ≥ a1 then (some (decide (a0 ≤ a2))) else (some false)
set_option maxHeartbeats 8000000 in
set_option maxRecDepth 100000 in
theorem spec_l01In.calls (a0 : Int) (a1 : Int) (a2 : Int) (r : Bool) (w : World) (h : spec_l01In.f a0 a1 a2 = some r) :
    Calls Try.prog 73 #[.int .i64 a0, .int .i64 a1, .int .i64 a2] w fun e w' => e = .returned (.bool r) ∧ Drawn0 w w' := by
  have H : (if a0 ≥ a1 then (some (decide (a0 ≤ a2))) else (some false)) = some r := h
  clear h
  by_cases c4 : a0 ≥ a1
  · rw [if_pos c4] at H
    have c4b0 : decide (a1 ≤ a0) = true := decide_eq_true c4
    clear c4
    obtain rfl := Option.some.inj H
    go_enter Try.func73, Try.ntmps73
    go_wp2
    go_ret
    exact ⟨by first | rfl | (simp; done) | (simp [*]; done), by repeat (first | exact Drawn0.refl _ | apply Drawn0.step)⟩
  · rw [if_neg c4] at H
    have c4b0 : decide (a1 ≤ a0) = false := decide_eq_false c4
    clear c4
    obtain rfl := Option.some.inj H
    go_enter Try.func73, Try.ntmps73
    go_wp2
    go_ret
    exact ⟨by first | rfl | (simp; done) | (simp [*]; done), by repeat (first | exact Drawn0.refl _ | apply Drawn0.step)⟩
def spec_UnitAt.l0 : Nat → Int → Int → Int → Int → Int → Int → Int → Int → Bool → Bool → Bool → Bool → Bool → Bool → List Int → List (S100) → List Int → List (S42) → Bool → Option (Int)
  | 0, _, _, _, _, _, _, _, _, _, _, _, _, _, _, _, _, _, _, _ => none
  | k + 1, x1, x5, x6, x109000, x109001, x109002, x109003, x109004, x109005, x109006, x109007, x109008, x109009, x109010, x109011, x109012, x109013, x109014, x109015 => if x6 < (x109013.length : Int) then (if 0 ≤ x6 then (if (rd x109013 x6) ≤ x1 then (spec_UnitAt.l0 k x1 (wrap64 (x5 + 1)) (wrap64 (x6 + 1)) x109000 x109001 x109002 x109003 x109004 x109005 x109006 x109007 x109008 x109009 x109010 x109011 x109012 x109013 x109014 x109015) else (spec_UnitAt.l0 k x1 x5 (wrap64 (x6 + 1)) x109000 x109001 x109002 x109003 x109004 x109005 x109006 x109007 x109008 x109009 x109010 x109011 x109012 x109013 x109014 x109015)) else (none)) else (some x5)
def spec_UnitAt.f (k : Nat) (a0_0 : Int) (a0_1 : Int) (a0_2 : Int) (a0_3 : Int) (a0_4 : Int) (a0_5 : Bool) (a0_6 : Bool) (a0_7 : Bool) (a0_8 : Bool) (a0_9 : Bool) (a0_10 : Bool) (l0_11 : List Int) (l0_12 : List (S100)) (l0_13 : List Int) (l0_14 : List (S42)) (a0_15 : Bool) (a1 : Int) : Option (Int) := (spec_l01In.f a1 0 (wrap64 ((l0_12.length : Int) - 1))).bind fun t109 => (if t109 = true then (spec_UnitAt.l0 k a1 (-1) 0 a0_0 a0_1 a0_2 a0_3 a0_4 a0_5 a0_6 a0_7 a0_8 a0_9 a0_10 l0_11 l0_12 l0_13 l0_14 a0_15) else (some (-1)))
theorem spec_UnitAt.mono_l : ∀ k, (∀ y0 y1 y2 y3 y4 y5 y6 y7 y8 y9 y10 y11 y12 y13 y14 y15 y16 y17 y18, LeO (spec_UnitAt.l0 k y0 y1 y2 y3 y4 y5 y6 y7 y8 y9 y10 y11 y12 y13 y14 y15 y16 y17 y18) (spec_UnitAt.l0 (k + 1) y0 y1 y2 y3 y4 y5 y6 y7 y8 y9 y10 y11 y12 y13 y14 y15 y16 y17 y18))
  | 0 => fun _ _ _ _ _ _ _ _ _ _ _ _ _ _ _ _ _ _ _ r h => by simp [spec_UnitAt.l0] at h
  | k + 1 => by
    have ih0 := spec_UnitAt.mono_l k
    · intro y0 y1 y2 y3 y4 y5 y6 y7 y8 y9 y10 y11 y12 y13 y14 y15 y16 y17 y18
      unfold spec_UnitAt.l0
      repeat' first
      | (with_reducible exact ih0 _ _ _ _ _ _ _ _ _ _ _ _ _ _ _ _ _ _ _)
      | (with_reducible exact LeO.refl _)
      | (with_reducible exact LeO.none _)
      | (with_reducible refine LeO.ite ?_ ?_)
      | (with_reducible refine LeO.bind ?_ (fun _ => ?_))
      | exact ih0 _ _ _ _ _ _ _ _ _ _ _ _ _ _ _ _ _ _ _
      | exact LeO.none _
      | refine LeO.ite ?_ ?_
      | refine LeO.bind ?_ (fun _ => ?_)
theorem spec_UnitAt.mono : ∀ a0 a1 a2 a3 a4 a5 a6 a7 a8 a9 a10 a11 a12 a13 a14 a15 a16 k, LeO (spec_UnitAt.f k a0 a1 a2 a3 a4 a5 a6 a7 a8 a9 a10 a11 a12 a13 a14 a15 a16) (spec_UnitAt.f (k + 1) a0 a1 a2 a3 a4 a5 a6 a7 a8 a9 a10 a11 a12 a13 a14 a15 a16) := by
  intro a0 a1 a2 a3 a4 a5 a6 a7 a8 a9 a10 a11 a12 a13 a14 a15 a16 k
  have ih0 := spec_UnitAt.mono_l k
  unfold spec_UnitAt.f
  repeat' first
      | (with_reducible exact ih0 _ _ _ _ _ _ _ _ _ _ _ _ _ _ _ _ _ _ _)
      | (with_reducible exact LeO.refl _)
      | (with_reducible exact LeO.none _)
      | (with_reducible refine LeO.ite ?_ ?_)
      | (with_reducible refine LeO.bind ?_ (fun _ => ?_))
      | exact ih0 _ _ _ _ _ _ _ _ _ _ _ _ _ _ _ _ _ _ _
      | exact LeO.none _
      | refine LeO.ite ?_ ?_
      | refine LeO.bind ?_ (fun _ => ?_)
set_option maxHeartbeats 8000000 in
set_option maxRecDepth 100000 in
theorem spec_UnitAt.calls (k : Nat) (a0_0 : Int) (a0_1 : Int) (a0_2 : Int) (a0_3 : Int) (a0_4 : Int) (a0_5 : Bool) (a0_6 : Bool) (a0_7 : Bool) (a0_8 : Bool) (a0_9 : Bool) (a0_10 : Bool) (A0_11 : Option Addr) (c0_11 : Nat) (l0_11 : List Int) (A0_12 : Option Addr) (c0_12 : Nat) (l0_12 : List (S100)) (A0_13 : Option Addr) (c0_13 : Nat) (l0_13 : List Int) (A0_14 : Option Addr) (c0_14 : Nat) (l0_14 : List (S42)) (a0_15 : Bool) (a1 : Int) (r : Int) (w : World) (hr0_11 : Kd.C (Kd.int .u8) w A0_11 l0_11.length l0_11) (hc0_11 : l0_11.length ≤ c0_11) (hr0_12 : Kd.C k100 w A0_12 l0_12.length l0_12) (hc0_12 : l0_12.length ≤ c0_12) (hr0_13 : Kd.C (Kd.int .i64) w A0_13 l0_13.length l0_13) (hc0_13 : l0_13.length ≤ c0_13) (hr0_14 : Kd.C k42 w A0_14 l0_14.length l0_14) (hc0_14 : l0_14.length ≤ c0_14) (h : spec_UnitAt.f k a0_0 a0_1 a0_2 a0_3 a0_4 a0_5 a0_6 a0_7 a0_8 a0_9 a0_10 l0_11 l0_12 l0_13 l0_14 a0_15 a1 = some r) :
    Calls Try.prog 27 #[.agg #[.int .u8 a0_0, .int .u8 a0_1, .int .u8 a0_2, .int .u8 a0_3, .int .u16 a0_4, .bool a0_5, .bool a0_6, .bool a0_7, .bool a0_8, .bool a0_9, .bool a0_10, .slice A0_11 l0_11.length c0_11, .slice A0_12 l0_12.length c0_12, .slice A0_13 l0_13.length c0_13, .slice A0_14 l0_14.length c0_14, .bool a0_15], .int .i64 a1] w fun e w' => e = .returned (.int .i64 r) ∧ Below w.heap.size w w' := by
  have hu55 := Try.underlying55
  have HR0_11 := Aside0.mk hr0_11
  have HC0_11 := Aside0.mk hc0_11
  clear hr0_11 hc0_11
  have HR0_12 := Aside0.mk hr0_12
  have HC0_12 := Aside0.mk hc0_12
  clear hr0_12 hc0_12
  have HR0_13 := Aside0.mk hr0_13
  have HC0_13 := Aside0.mk hc0_13
  clear hr0_13 hc0_13
  have HR0_14 := Aside0.mk hr0_14
  have HC0_14 := Aside0.mk hc0_14
  clear hr0_14 hc0_14
  have HB := Aside0.mk (Below.refl w.heap.size w)
  have H : ((spec_l01In.f a1 0 (wrap64 ((l0_12.length : Int) - 1))).bind fun t109 => (if t109 = true then (spec_UnitAt.l0 k a1 (-1) 0 a0_0 a0_1 a0_2 a0_3 a0_4 a0_5 a0_6 a0_7 a0_8 a0_9 a0_10 l0_11 l0_12 l0_13 l0_14 a0_15) else (some (-1)))) = some r := h
  clear h
  replace H := Option.bind_eq_some_iff.mp H
  obtain ⟨t109, A30, H⟩ := H
  replace H : (if t109 = true then (spec_UnitAt.l0 k a1 (-1) 0 a0_0 a0_1 a0_2 a0_3 a0_4 a0_5 a0_6 a0_7 a0_8 a0_9 a0_10 l0_11 l0_12 l0_13 l0_14 a0_15) else (some (-1))) = some r := H
  have A3 := Aside0.mk A30
  clear A30
  by_cases c4 : t109 = true
  · subst c4
    have H1 : (spec_UnitAt.l0 k a1 (-1) 0 a0_0 a0_1 a0_2 a0_3 a0_4 a0_5 a0_6 a0_7 a0_8 a0_9 a0_10 l0_11 l0_12 l0_13 l0_14 a0_15) = some r := by rw [if_pos rfl] at H; exact H
    clear H
    have H := H1
    clear H1
    have H' := Aside0.mk H
    clear H
    go_enter Try.func27, Try.ntmps27
    go_wp2_with (first | ((with_reducible refine gate_dst (N := 2) rfl ?_); refine box_event ?hg (N := 2) ?hd (cs := #[.int .u8 a0_0, .int .u8 a0_1, .int .u8 a0_2, .int .u8 a0_3, .int .u16 a0_4, .bool a0_5, .bool a0_6, .bool a0_7, .bool a0_8, .bool a0_9, .bool a0_10, .slice A0_11 l0_11.length c0_11, .slice A0_12 l0_12.length c0_12, .slice A0_13 l0_13.length c0_13, .slice A0_14 l0_14.length c0_14, .bool a0_15]) (t := 55) ?hr ?_; (case hd => rfl); (case hg => rfl); (case hr => first | (go_simp; done) | (go_simp; rfl)); intro gb108 hg w5 hbox hb; have n0_ := Aside0.mk (below_step (by repeat (first | (with_reducible first | exact HB.out | apply below_alloc | apply pw_below_drewN | apply below_drew1) | exact HB.out)) hb); have n1_ := Aside0.mk (hbox); have n2_ := Aside0.mk ((by rw [hg]; exact (below_size (by repeat (first | (with_reducible first | exact HB.out | apply below_alloc | apply pw_below_drewN | apply below_drew1) | exact HB.out))) : w.heap.size ≤ gb108)); have n3_ := Aside0.mk ((by rw [hg]; exact (below_size (by repeat (first | (with_reducible first | exact HB.out | apply below_alloc | apply pw_below_drewN | apply below_drew1) | exact HB.out))) : w.heap.size ≤ gb108)); clear HB; have HB := n0_; have BK108 := n1_; have GW108 := n2_; have GE108 := n3_; clear n0_ n1_ n2_ n3_; clear hb hbox hg; have hcz6_0 : w5.cell? ⟨gb108, 0, none⟩ = some (.int .u8 a0_0) := (blk_cell BK108.out 0).trans rfl; have hcz6_1 : w5.cell? ⟨gb108, 1, none⟩ = some (.int .u8 a0_1) := (blk_cell BK108.out 1).trans rfl; have hcz6_2 : w5.cell? ⟨gb108, 2, none⟩ = some (.int .u8 a0_2) := (blk_cell BK108.out 2).trans rfl; have hcz6_3 : w5.cell? ⟨gb108, 3, none⟩ = some (.int .u8 a0_3) := (blk_cell BK108.out 3).trans rfl; have hcz6_4 : w5.cell? ⟨gb108, 4, none⟩ = some (.int .u16 a0_4) := (blk_cell BK108.out 4).trans rfl; have hcz6_5 : w5.cell? ⟨gb108, 5, none⟩ = some (.bool a0_5) := (blk_cell BK108.out 5).trans rfl; have hcz6_6 : w5.cell? ⟨gb108, 6, none⟩ = some (.bool a0_6) := (blk_cell BK108.out 6).trans rfl; have hcz6_7 : w5.cell? ⟨gb108, 7, none⟩ = some (.bool a0_7) := (blk_cell BK108.out 7).trans rfl; have hcz6_8 : w5.cell? ⟨gb108, 8, none⟩ = some (.bool a0_8) := (blk_cell BK108.out 8).trans rfl; have hcz6_9 : w5.cell? ⟨gb108, 9, none⟩ = some (.bool a0_9) := (blk_cell BK108.out 9).trans rfl; have hcz6_10 : w5.cell? ⟨gb108, 10, none⟩ = some (.bool a0_10) := (blk_cell BK108.out 10).trans rfl; have hcz6_11 : w5.cell? ⟨gb108, 11, none⟩ = some (.slice A0_11 l0_11.length c0_11) := (blk_cell BK108.out 11).trans rfl; have hcz6_12 : w5.cell? ⟨gb108, 12, none⟩ = some (.slice A0_12 l0_12.length c0_12) := (blk_cell BK108.out 12).trans rfl; have hcz6_13 : w5.cell? ⟨gb108, 13, none⟩ = some (.slice A0_13 l0_13.length c0_13) := (blk_cell BK108.out 13).trans rfl; have hcz6_14 : w5.cell? ⟨gb108, 14, none⟩ = some (.slice A0_14 l0_14.length c0_14) := (blk_cell BK108.out 14).trans rfl; have hcz6_15 : w5.cell? ⟨gb108, 15, none⟩ = some (.bool a0_15) := (blk_cell BK108.out 15).trans rfl; have hfz6_0 := blk_frozen BK108.out 0; have hfz6_1 := blk_frozen BK108.out 1; have hfz6_2 := blk_frozen BK108.out 2; have hfz6_3 := blk_frozen BK108.out 3; have hfz6_4 := blk_frozen BK108.out 4; have hfz6_5 := blk_frozen BK108.out 5; have hfz6_6 := blk_frozen BK108.out 6; have hfz6_7 := blk_frozen BK108.out 7; have hfz6_8 := blk_frozen BK108.out 8; have hfz6_9 := blk_frozen BK108.out 9; have hfz6_10 := blk_frozen BK108.out 10; have hfz6_11 := blk_frozen BK108.out 11; have hfz6_12 := blk_frozen BK108.out 12; have hfz6_13 := blk_frozen BK108.out 13; have hfz6_14 := blk_frozen BK108.out 14; have hfz6_15 := blk_frozen BK108.out 15) | ((with_reducible refine gate_callee (f := 73) rfl ?_); refine goesL_ (some 12) rfl rfl Try.func73 (by kernel_rfl) rfl #[.int .i64 a1, .int .i64 0, .int .i64 (wrap64 ((l0_12.length : Int) - 1))] rfl (by (try simp only [List.map_toArray, List.map_cons, List.map_nil]); first | done | rfl | (simp only [List.length_drop, List.length_take]; rfl)) ?_; (with_reducible refine (spec_l01In.calls a1 0 (wrap64 ((l0_12.length : Int) - 1)) true _ A3.out).mono ?_); rintro e w' ⟨rfl, ⟨nd, rfl⟩⟩; refine ⟨_, rfl, ?_⟩))
    go_loopg [5, 6] k (fun kq v5 v6 w' => ∃ (x5_1 : Int) (x6_1 : Int), v5 = .int .i64 x5_1 ∧ v6 = .int .i64 x6_1 ∧ Aside0 (spec_UnitAt.l0 kq a1 x5_1 x6_1 a0_0 a0_1 a0_2 a0_3 a0_4 a0_5 a0_6 a0_7 a0_8 a0_9 a0_10 l0_11 l0_12 l0_13 l0_14 a0_15 = some r) ∧ Aside0 (kq ≤ k) ∧ Aside0 (w'.heap[gb108]? = some (.cells #[.int .u8 a0_0, .int .u8 a0_1, .int .u8 a0_2, .int .u8 a0_3, .int .u16 a0_4, .bool a0_5, .bool a0_6, .bool a0_7, .bool a0_8, .bool a0_9, .bool a0_10, (.slice A0_11 l0_11.length c0_11), (.slice A0_12 l0_12.length c0_12), (.slice A0_13 l0_13.length c0_13), (.slice A0_14 l0_14.length c0_14), .bool a0_15] 55 (0, 0))) ∧ Aside0 (Below w.heap.size w w'))
    case atStart => exact ⟨((-1)), (0), (by first | rfl | (simp; done) | (simp [*]; done)), (by first | rfl | (simp; done) | (simp [*]; done)), H', ⟨Nat.le_refl _⟩, ⟨by (with_reducible repeat (first | refine blk_drewN ?_ _ | refine blk_drew ?_ | refine blk_alloc ?_ _)); exact BK108.out⟩, ⟨by repeat (first | (with_reducible first | exact HB.out | apply below_alloc | apply pw_below_drewN | apply below_drew1 | refine below_set ?_ GE108.out) | exact HB.out)⟩⟩
    case round =>
      clear H'
      try clear c2
      try clear p2
      try clear c4
      try clear p6
      try clear hcz6_0
      try clear hcz6_1
      try clear hcz6_10
      try clear hcz6_11
      try clear hcz6_12
      try clear hcz6_13
      try clear hcz6_14
      try clear hcz6_15
      try clear hcz6_2
      try clear hcz6_3
      try clear hcz6_4
      try clear hcz6_5
      try clear hcz6_6
      try clear hcz6_7
      try clear hcz6_8
      try clear hcz6_9
      try clear hfz6_0
      try clear hfz6_1
      try clear hfz6_10
      try clear hfz6_11
      try clear hfz6_12
      try clear hfz6_13
      try clear hfz6_14
      try clear hfz6_15
      try clear hfz6_2
      try clear hfz6_3
      try clear hfz6_4
      try clear hfz6_5
      try clear hfz6_6
      try clear hfz6_7
      try clear hfz6_8
      try clear hfz6_9
      obtain ⟨x5_1, x6_1, rfl, rfl, HA, HK1, BK108, HB⟩ := hrel
      cases gk with
      | zero => exact absurd HA.out (by simp [spec_UnitAt.l0])
      | succ k1 =>
        have H := HA.out
        clear HA
        simp only [spec_UnitAt.l0] at H
        by_cases c7 : x6_1 < (l0_13.length : Int)
        · rw [if_pos c7] at H
          have c7b0 : decide (x6_1 < (l0_13.length : Int)) = true := decide_eq_true c7
          clear c7
          by_cases c8 : 0 ≤ x6_1
          · rw [if_pos c8] at H
            have c8b0 : decide (0 ≤ x6_1) = true := decide_eq_true c8
            clear c8
            by_cases c9 : (rd l0_13 x6_1) ≤ a1
            · rw [if_pos c9] at H
              have c9b0 : decide ((rd l0_13 x6_1) ≤ a1) = true := decide_eq_true c9
              clear c9
              have H' := Aside0.mk H
              clear H
              have hcz10_0 : wr.cell? ⟨gb108, 0, none⟩ = some (.int .u8 a0_0) := (blk_cell BK108.out 0).trans rfl
              have hcz10_1 : wr.cell? ⟨gb108, 1, none⟩ = some (.int .u8 a0_1) := (blk_cell BK108.out 1).trans rfl
              have hcz10_2 : wr.cell? ⟨gb108, 2, none⟩ = some (.int .u8 a0_2) := (blk_cell BK108.out 2).trans rfl
              have hcz10_3 : wr.cell? ⟨gb108, 3, none⟩ = some (.int .u8 a0_3) := (blk_cell BK108.out 3).trans rfl
              have hcz10_4 : wr.cell? ⟨gb108, 4, none⟩ = some (.int .u16 a0_4) := (blk_cell BK108.out 4).trans rfl
              have hcz10_5 : wr.cell? ⟨gb108, 5, none⟩ = some (.bool a0_5) := (blk_cell BK108.out 5).trans rfl
              have hcz10_6 : wr.cell? ⟨gb108, 6, none⟩ = some (.bool a0_6) := (blk_cell BK108.out 6).trans rfl
              have hcz10_7 : wr.cell? ⟨gb108, 7, none⟩ = some (.bool a0_7) := (blk_cell BK108.out 7).trans rfl
              have hcz10_8 : wr.cell? ⟨gb108, 8, none⟩ = some (.bool a0_8) := (blk_cell BK108.out 8).trans rfl
              have hcz10_9 : wr.cell? ⟨gb108, 9, none⟩ = some (.bool a0_9) := (blk_cell BK108.out 9).trans rfl
              have hcz10_10 : wr.cell? ⟨gb108, 10, none⟩ = some (.bool a0_10) := (blk_cell BK108.out 10).trans rfl
              have hcz10_11 : wr.cell? ⟨gb108, 11, none⟩ = some (.slice A0_11 l0_11.length c0_11) := (blk_cell BK108.out 11).trans rfl
              have hcz10_12 : wr.cell? ⟨gb108, 12, none⟩ = some (.slice A0_12 l0_12.length c0_12) := (blk_cell BK108.out 12).trans rfl
              have hcz10_13 : wr.cell? ⟨gb108, 13, none⟩ = some (.slice A0_13 l0_13.length c0_13) := (blk_cell BK108.out 13).trans rfl
              have hcz10_14 : wr.cell? ⟨gb108, 14, none⟩ = some (.slice A0_14 l0_14.length c0_14) := (blk_cell BK108.out 14).trans rfl
              have hcz10_15 : wr.cell? ⟨gb108, 15, none⟩ = some (.bool a0_15) := (blk_cell BK108.out 15).trans rfl
              have hfz10_0 := blk_frozen BK108.out 0
              have hfz10_1 := blk_frozen BK108.out 1
              have hfz10_2 := blk_frozen BK108.out 2
              have hfz10_3 := blk_frozen BK108.out 3
              have hfz10_4 := blk_frozen BK108.out 4
              have hfz10_5 := blk_frozen BK108.out 5
              have hfz10_6 := blk_frozen BK108.out 6
              have hfz10_7 := blk_frozen BK108.out 7
              have hfz10_8 := blk_frozen BK108.out 8
              have hfz10_9 := blk_frozen BK108.out 9
              have hfz10_10 := blk_frozen BK108.out 10
              have hfz10_11 := blk_frozen BK108.out 11
              have hfz10_12 := blk_frozen BK108.out 12
              have hfz10_13 := blk_frozen BK108.out 13
              have hfz10_14 := blk_frozen BK108.out 14
              have hfz10_15 := blk_frozen BK108.out 15
              have p110 : 0 ≤ (x6_1 : Int) := of_decide_eq_true (by first | (with_reducible assumption) | assumption)
              have q110 : x6_1 < (l0_13.length : Int) := of_decide_eq_true (by first | (with_reducible assumption) | assumption)
              obtain ⟨ad110, e110, hx110_0⟩ := Kd.at_int HR0_13.out x6_1 p110 q110
              cases e110
              replace hx110_0 := (HB.out.cell (World.block_lt_of_cell? w _ hx110_0)).trans hx110_0
              replace p110 := eq_true p110
              replace q110 := eq_true q110
              go_wp2
              go_roundg k1
              case measure => have := HK1.out; omega
              case rel => exact ⟨(wrap64 (x5_1 + 1)), (wrap64 (x6_1 + 1)), (by first | rfl | (simp; done) | (simp [*]; done)), (by first | rfl | (simp; done) | (simp [*]; done)), H', ⟨by have := HK1.out; omega⟩, ⟨by (with_reducible repeat (first | refine blk_drewN ?_ _ | refine blk_drew ?_ | refine blk_alloc ?_ _)); exact BK108.out⟩, ⟨by repeat (first | (with_reducible first | exact HB.out | apply below_alloc | apply pw_below_drewN | apply below_drew1 | refine below_set ?_ GE108.out) | exact HB.out)⟩⟩
            · rw [if_neg c9] at H
              have c9b0 : decide ((rd l0_13 x6_1) ≤ a1) = false := decide_eq_false c9
              clear c9
              have H' := Aside0.mk H
              clear H
              have hcz11_0 : wr.cell? ⟨gb108, 0, none⟩ = some (.int .u8 a0_0) := (blk_cell BK108.out 0).trans rfl
              have hcz11_1 : wr.cell? ⟨gb108, 1, none⟩ = some (.int .u8 a0_1) := (blk_cell BK108.out 1).trans rfl
              have hcz11_2 : wr.cell? ⟨gb108, 2, none⟩ = some (.int .u8 a0_2) := (blk_cell BK108.out 2).trans rfl
              have hcz11_3 : wr.cell? ⟨gb108, 3, none⟩ = some (.int .u8 a0_3) := (blk_cell BK108.out 3).trans rfl
              have hcz11_4 : wr.cell? ⟨gb108, 4, none⟩ = some (.int .u16 a0_4) := (blk_cell BK108.out 4).trans rfl
              have hcz11_5 : wr.cell? ⟨gb108, 5, none⟩ = some (.bool a0_5) := (blk_cell BK108.out 5).trans rfl
              have hcz11_6 : wr.cell? ⟨gb108, 6, none⟩ = some (.bool a0_6) := (blk_cell BK108.out 6).trans rfl
              have hcz11_7 : wr.cell? ⟨gb108, 7, none⟩ = some (.bool a0_7) := (blk_cell BK108.out 7).trans rfl
              have hcz11_8 : wr.cell? ⟨gb108, 8, none⟩ = some (.bool a0_8) := (blk_cell BK108.out 8).trans rfl
              have hcz11_9 : wr.cell? ⟨gb108, 9, none⟩ = some (.bool a0_9) := (blk_cell BK108.out 9).trans rfl
              have hcz11_10 : wr.cell? ⟨gb108, 10, none⟩ = some (.bool a0_10) := (blk_cell BK108.out 10).trans rfl
              have hcz11_11 : wr.cell? ⟨gb108, 11, none⟩ = some (.slice A0_11 l0_11.length c0_11) := (blk_cell BK108.out 11).trans rfl
              have hcz11_12 : wr.cell? ⟨gb108, 12, none⟩ = some (.slice A0_12 l0_12.length c0_12) := (blk_cell BK108.out 12).trans rfl
              have hcz11_13 : wr.cell? ⟨gb108, 13, none⟩ = some (.slice A0_13 l0_13.length c0_13) := (blk_cell BK108.out 13).trans rfl
              have hcz11_14 : wr.cell? ⟨gb108, 14, none⟩ = some (.slice A0_14 l0_14.length c0_14) := (blk_cell BK108.out 14).trans rfl
              have hcz11_15 : wr.cell? ⟨gb108, 15, none⟩ = some (.bool a0_15) := (blk_cell BK108.out 15).trans rfl
              have hfz11_0 := blk_frozen BK108.out 0
              have hfz11_1 := blk_frozen BK108.out 1
              have hfz11_2 := blk_frozen BK108.out 2
              have hfz11_3 := blk_frozen BK108.out 3
              have hfz11_4 := blk_frozen BK108.out 4
              have hfz11_5 := blk_frozen BK108.out 5
              have hfz11_6 := blk_frozen BK108.out 6
              have hfz11_7 := blk_frozen BK108.out 7
              have hfz11_8 := blk_frozen BK108.out 8
              have hfz11_9 := blk_frozen BK108.out 9
              have hfz11_10 := blk_frozen BK108.out 10
              have hfz11_11 := blk_frozen BK108.out 11
              have hfz11_12 := blk_frozen BK108.out 12
              have hfz11_13 := blk_frozen BK108.out 13
              have hfz11_14 := blk_frozen BK108.out 14
              have hfz11_15 := blk_frozen BK108.out 15
              have p110 : 0 ≤ (x6_1 : Int) := of_decide_eq_true (by first | (with_reducible assumption) | assumption)
              have q110 : x6_1 < (l0_13.length : Int) := of_decide_eq_true (by first | (with_reducible assumption) | assumption)
              obtain ⟨ad110, e110, hx110_0⟩ := Kd.at_int HR0_13.out x6_1 p110 q110
              cases e110
              replace hx110_0 := (HB.out.cell (World.block_lt_of_cell? w _ hx110_0)).trans hx110_0
              replace p110 := eq_true p110
              replace q110 := eq_true q110
              go_wp2
              go_roundg k1
              case measure => have := HK1.out; omega
              case rel => exact ⟨(x5_1), (wrap64 (x6_1 + 1)), (by first | rfl | (simp; done) | (simp [*]; done)), (by first | rfl | (simp; done) | (simp [*]; done)), H', ⟨by have := HK1.out; omega⟩, ⟨by (with_reducible repeat (first | refine blk_drewN ?_ _ | refine blk_drew ?_ | refine blk_alloc ?_ _)); exact BK108.out⟩, ⟨by repeat (first | (with_reducible first | exact HB.out | apply below_alloc | apply pw_below_drewN | apply below_drew1 | refine below_set ?_ GE108.out) | exact HB.out)⟩⟩
          · rw [if_neg c8] at H
            exact absurd H (by simp)
        · rw [if_neg c7] at H
          have c7b0 : decide (x6_1 < (l0_13.length : Int)) = false := decide_eq_false c7
          clear c7
          obtain rfl := Option.some.inj H
          have hcz12_0 : wr.cell? ⟨gb108, 0, none⟩ = some (.int .u8 a0_0) := (blk_cell BK108.out 0).trans rfl
          have hcz12_1 : wr.cell? ⟨gb108, 1, none⟩ = some (.int .u8 a0_1) := (blk_cell BK108.out 1).trans rfl
          have hcz12_2 : wr.cell? ⟨gb108, 2, none⟩ = some (.int .u8 a0_2) := (blk_cell BK108.out 2).trans rfl
          have hcz12_3 : wr.cell? ⟨gb108, 3, none⟩ = some (.int .u8 a0_3) := (blk_cell BK108.out 3).trans rfl
          have hcz12_4 : wr.cell? ⟨gb108, 4, none⟩ = some (.int .u16 a0_4) := (blk_cell BK108.out 4).trans rfl
          have hcz12_5 : wr.cell? ⟨gb108, 5, none⟩ = some (.bool a0_5) := (blk_cell BK108.out 5).trans rfl
          have hcz12_6 : wr.cell? ⟨gb108, 6, none⟩ = some (.bool a0_6) := (blk_cell BK108.out 6).trans rfl
          have hcz12_7 : wr.cell? ⟨gb108, 7, none⟩ = some (.bool a0_7) := (blk_cell BK108.out 7).trans rfl
          have hcz12_8 : wr.cell? ⟨gb108, 8, none⟩ = some (.bool a0_8) := (blk_cell BK108.out 8).trans rfl
          have hcz12_9 : wr.cell? ⟨gb108, 9, none⟩ = some (.bool a0_9) := (blk_cell BK108.out 9).trans rfl
          have hcz12_10 : wr.cell? ⟨gb108, 10, none⟩ = some (.bool a0_10) := (blk_cell BK108.out 10).trans rfl
          have hcz12_11 : wr.cell? ⟨gb108, 11, none⟩ = some (.slice A0_11 l0_11.length c0_11) := (blk_cell BK108.out 11).trans rfl
          have hcz12_12 : wr.cell? ⟨gb108, 12, none⟩ = some (.slice A0_12 l0_12.length c0_12) := (blk_cell BK108.out 12).trans rfl
          have hcz12_13 : wr.cell? ⟨gb108, 13, none⟩ = some (.slice A0_13 l0_13.length c0_13) := (blk_cell BK108.out 13).trans rfl
          have hcz12_14 : wr.cell? ⟨gb108, 14, none⟩ = some (.slice A0_14 l0_14.length c0_14) := (blk_cell BK108.out 14).trans rfl
          have hcz12_15 : wr.cell? ⟨gb108, 15, none⟩ = some (.bool a0_15) := (blk_cell BK108.out 15).trans rfl
          have hfz12_0 := blk_frozen BK108.out 0
          have hfz12_1 := blk_frozen BK108.out 1
          have hfz12_2 := blk_frozen BK108.out 2
          have hfz12_3 := blk_frozen BK108.out 3
          have hfz12_4 := blk_frozen BK108.out 4
          have hfz12_5 := blk_frozen BK108.out 5
          have hfz12_6 := blk_frozen BK108.out 6
          have hfz12_7 := blk_frozen BK108.out 7
          have hfz12_8 := blk_frozen BK108.out 8
          have hfz12_9 := blk_frozen BK108.out 9
          have hfz12_10 := blk_frozen BK108.out 10
          have hfz12_11 := blk_frozen BK108.out 11
          have hfz12_12 := blk_frozen BK108.out 12
          have hfz12_13 := blk_frozen BK108.out 13
          have hfz12_14 := blk_frozen BK108.out 14
          have hfz12_15 := blk_frozen BK108.out 15
          go_wp2
          go_ret
          exact ⟨by first | rfl | (simp [errW_none, errW_some] <;> rfl) | (simp [*, errW_none, errW_some] <;> rfl), by repeat (first | (with_reducible first | exact HB.out | apply below_alloc | apply pw_below_drewN | apply below_drew1 | refine below_set ?_ GE108.out) | exact HB.out)⟩
  · replace c4 := Bool.eq_false_iff.mpr c4
    subst c4
    have H1 : (some (-1)) = some r := by rw [if_neg (show ¬ (false = true) by decide)] at H; exact H
    clear H
    have H := H1
    clear H1
    obtain rfl := Option.some.inj H
    go_enter Try.func27, Try.ntmps27
    go_wp2_with (first | ((with_reducible refine gate_dst (N := 2) rfl ?_); refine box_event ?hg (N := 2) ?hd (cs := #[.int .u8 a0_0, .int .u8 a0_1, .int .u8 a0_2, .int .u8 a0_3, .int .u16 a0_4, .bool a0_5, .bool a0_6, .bool a0_7, .bool a0_8, .bool a0_9, .bool a0_10, .slice A0_11 l0_11.length c0_11, .slice A0_12 l0_12.length c0_12, .slice A0_13 l0_13.length c0_13, .slice A0_14 l0_14.length c0_14, .bool a0_15]) (t := 55) ?hr ?_; (case hd => rfl); (case hg => rfl); (case hr => first | (go_simp; done) | (go_simp; rfl)); intro gb108 hg w13 hbox hb; have n0_ := Aside0.mk (below_step (by repeat (first | (with_reducible first | exact HB.out | apply below_alloc | apply pw_below_drewN | apply below_drew1) | exact HB.out)) hb); have n1_ := Aside0.mk (hbox); have n2_ := Aside0.mk ((by rw [hg]; exact (below_size (by repeat (first | (with_reducible first | exact HB.out | apply below_alloc | apply pw_below_drewN | apply below_drew1) | exact HB.out))) : w.heap.size ≤ gb108)); have n3_ := Aside0.mk ((by rw [hg]; exact (below_size (by repeat (first | (with_reducible first | exact HB.out | apply below_alloc | apply pw_below_drewN | apply below_drew1) | exact HB.out))) : w.heap.size ≤ gb108)); clear HB; have HB := n0_; have BK108 := n1_; have GW108 := n2_; have GE108 := n3_; clear n0_ n1_ n2_ n3_; clear hb hbox hg; have hcz14_0 : w13.cell? ⟨gb108, 0, none⟩ = some (.int .u8 a0_0) := (blk_cell BK108.out 0).trans rfl; have hcz14_1 : w13.cell? ⟨gb108, 1, none⟩ = some (.int .u8 a0_1) := (blk_cell BK108.out 1).trans rfl; have hcz14_2 : w13.cell? ⟨gb108, 2, none⟩ = some (.int .u8 a0_2) := (blk_cell BK108.out 2).trans rfl; have hcz14_3 : w13.cell? ⟨gb108, 3, none⟩ = some (.int .u8 a0_3) := (blk_cell BK108.out 3).trans rfl; have hcz14_4 : w13.cell? ⟨gb108, 4, none⟩ = some (.int .u16 a0_4) := (blk_cell BK108.out 4).trans rfl; have hcz14_5 : w13.cell? ⟨gb108, 5, none⟩ = some (.bool a0_5) := (blk_cell BK108.out 5).trans rfl; have hcz14_6 : w13.cell? ⟨gb108, 6, none⟩ = some (.bool a0_6) := (blk_cell BK108.out 6).trans rfl; have hcz14_7 : w13.cell? ⟨gb108, 7, none⟩ = some (.bool a0_7) := (blk_cell BK108.out 7).trans rfl; have hcz14_8 : w13.cell? ⟨gb108, 8, none⟩ = some (.bool a0_8) := (blk_cell BK108.out 8).trans rfl; have hcz14_9 : w13.cell? ⟨gb108, 9, none⟩ = some (.bool a0_9) := (blk_cell BK108.out 9).trans rfl; have hcz14_10 : w13.cell? ⟨gb108, 10, none⟩ = some (.bool a0_10) := (blk_cell BK108.out 10).trans rfl; have hcz14_11 : w13.cell? ⟨gb108, 11, none⟩ = some (.slice A0_11 l0_11.length c0_11) := (blk_cell BK108.out 11).trans rfl; have hcz14_12 : w13.cell? ⟨gb108, 12, none⟩ = some (.slice A0_12 l0_12.length c0_12) := (blk_cell BK108.out 12).trans rfl; have hcz14_13 : w13.cell? ⟨gb108, 13, none⟩ = some (.slice A0_13 l0_13.length c0_13) := (blk_cell BK108.out 13).trans rfl; have hcz14_14 : w13.cell? ⟨gb108, 14, none⟩ = some (.slice A0_14 l0_14.length c0_14) := (blk_cell BK108.out 14).trans rfl; have hcz14_15 : w13.cell? ⟨gb108, 15, none⟩ = some (.bool a0_15) := (blk_cell BK108.out 15).trans rfl; have hfz14_0 := blk_frozen BK108.out 0; have hfz14_1 := blk_frozen BK108.out 1; have hfz14_2 := blk_frozen BK108.out 2; have hfz14_3 := blk_frozen BK108.out 3; have hfz14_4 := blk_frozen BK108.out 4; have hfz14_5 := blk_frozen BK108.out 5; have hfz14_6 := blk_frozen BK108.out 6; have hfz14_7 := blk_frozen BK108.out 7; have hfz14_8 := blk_frozen BK108.out 8; have hfz14_9 := blk_frozen BK108.out 9; have hfz14_10 := blk_frozen BK108.out 10; have hfz14_11 := blk_frozen BK108.out 11; have hfz14_12 := blk_frozen BK108.out 12; have hfz14_13 := blk_frozen BK108.out 13; have hfz14_14 := blk_frozen BK108.out 14; have hfz14_15 := blk_frozen BK108.out 15) | ((with_reducible refine gate_callee (f := 73) rfl ?_); refine goesL_ (some 12) rfl rfl Try.func73 (by kernel_rfl) rfl #[.int .i64 a1, .int .i64 0, .int .i64 (wrap64 ((l0_12.length : Int) - 1))] rfl (by (try simp only [List.map_toArray, List.map_cons, List.map_nil]); first | done | rfl | (simp only [List.length_drop, List.length_take]; rfl)) ?_; (with_reducible refine (spec_l01In.calls a1 0 (wrap64 ((l0_12.length : Int) - 1)) false _ A3.out).mono ?_); rintro e w' ⟨rfl, ⟨nd, rfl⟩⟩; refine ⟨_, rfl, ?_⟩))
    go_ret
    exact ⟨by first | rfl | (simp [errW_none, errW_some] <;> rfl) | (simp [*, errW_none, errW_some] <;> rfl), by repeat (first | (with_reducible first | exact HB.out | apply below_alloc | apply pw_below_drewN | apply below_drew1 | refine below_set ?_ GE108.out) | exact HB.out)⟩
end Go.Proofs.Ythdeemkhbajfgaa.PUnit
