/- Functions of the program as plain Lean functions, each with a proof that the machine's call comes to it; written for this seat's claims by a program of mine. -/
import Derived.Test.YthdeemkhbajfgaaPAllx0
import Derived.Test.YthdeemkhbajfgaaPAllx35
namespace Go.Proofs.Ythdeemkhbajfgaa.PAll
open Go.RowKit Go.Proofs.YthdeemkhbajfgaaW.PrintWords Go.Proofs.YthdeemkhbajfgaaW.PrintLast Go.Proofs.YthdeemkhbajfgaaW.PrintMore
attribute [local go_sem] max2_int min2_int max_two min_two max_three min_three max_four min_four   -- for this text's walks alone
attribute [local go_sem] Go.Proofs.Ythdeemkhbajfgaa.Cell.cell_set_off
set_option linter.unusedVariables false
set_option linter.unusedSimpArgs false

/-! ### impl_moved: function 89 -/
def impl_moved.f (a0 : Int) (a1 : Bool) (a2_0 : Bool) (a2_1 : Bool) (a2_2 : Bool) (a2_3 : Bool) (a2_4 : Bool) (a2_5 : Bool) : Option (Int × Bool × Bool × Bool × Bool × Bool × Bool) := (impl_NZ.f a0 a2_0 a2_1 a2_2 a2_3 a2_4 a2_5).bind fun bt567 => (some (a0, bt567.1, bt567.2.1, bt567.2.2.1, bt567.2.2.2.1, bt567.2.2.2.2.1, a1))
set_option maxHeartbeats 8000000 in
set_option maxRecDepth 100000 in
theorem impl_moved.calls (a0 : Int) (a1 : Bool) (a2_0 : Bool) (a2_1 : Bool) (a2_2 : Bool) (a2_3 : Bool) (a2_4 : Bool) (a2_5 : Bool) (r1 : Int) (r2 : Bool) (r3 : Bool) (r4 : Bool) (r5 : Bool) (r6 : Bool) (r7 : Bool) (w : World) (h : impl_moved.f a0 a1 a2_0 a2_1 a2_2 a2_3 a2_4 a2_5 = some (r1, r2, r3, r4, r5, r6, r7)) :
    Calls Try.prog 89 #[.int .u8 a0, .bool a1, .agg #[.bool a2_0, .bool a2_1, .bool a2_2, .bool a2_3, .bool a2_4, .bool a2_5]] w fun e w' => e = .returned (.tuple #[.int .u8 r1, .agg #[.bool r2, .bool r3, .bool r4, .bool r5, .bool r6, .bool r7]]) ∧ Below w.heap.size w w' := by
  have hu40 := Try.underlying40
  have HB := Aside0.mk (Below.refl w.heap.size w)
  have H : ((impl_NZ.f a0 a2_0 a2_1 a2_2 a2_3 a2_4 a2_5).bind fun bt567 => (some (a0, bt567.1, bt567.2.1, bt567.2.2.1, bt567.2.2.2.1, bt567.2.2.2.2.1, a1))) = some (r1, r2, r3, r4, r5, r6, r7) := h
  clear h
  replace H := Option.bind_eq_some_iff.mp H
  obtain ⟨⟨t567, t568, t569, t570, t571, t572⟩, A40, H⟩ := H
  replace H : (some (a0, t567, t568, t569, t570, t571, a1)) = some (r1, r2, r3, r4, r5, r6, r7) := H
  have A4 := Aside0.mk A40
  clear A40
  simp only [Option.some.injEq, Prod.mk.injEq] at H
  obtain ⟨rfl, rfl, rfl, rfl, rfl, rfl, rfl⟩ := H
  go_enter Try.func89, Try.ntmps89
  try go_wp2_with (first | ((with_reducible refine gate_dst (N := 5) rfl ?_); refine box_event ?hg (N := 5) ?hd (cs := #[.bool a2_0, .bool a2_1, .bool a2_2, .bool a2_3, .bool a2_4, .bool a2_5]) (t := 40) ?hr ?_; (case hd => rfl); (case hg => rfl); (case hr => first | (go_simp; done) | (go_simp; rfl)); intro gb565 hg w5 hbox hb; have n0_ := Aside0.mk (below_step (by repeat (first | (with_reducible first | exact HB.out | apply below_alloc | apply pw_below_drewN | apply below_drew1) | exact HB.out)) hb); have n1_ := Aside0.mk (hbox); have n2_ := Aside0.mk ((by rw [hg]; exact (below_size (by repeat (first | (with_reducible first | exact HB.out | apply below_alloc | apply pw_below_drewN | apply below_drew1) | exact HB.out))) : w.heap.size ≤ gb565)); have n3_ := Aside0.mk ((by rw [hg]; exact (below_size (by repeat (first | (with_reducible first | exact HB.out | apply below_alloc | apply pw_below_drewN | apply below_drew1) | exact HB.out))) : w.heap.size ≤ gb565)); clear HB; have HB := n0_; have BK565 := n1_; have GW565 := n2_; have GE565 := n3_; clear n0_ n1_ n2_ n3_; clear hb hbox hg) | ((with_reducible refine gate_dst (N := 7) rfl ?_); refine box_event ?hg (N := 7) ?hd (cs := #[.bool false, .bool false, .bool false, .bool false, .bool false, .bool false]) (t := 40) ?hr ?_; (case hd => rfl); (case hg => rfl); (case hr => first | (go_simp; done) | (go_simp; rfl)); intro gb566 hg w6 hbox hb; have n0_ := Aside0.mk (blk_below (g := gb565) (o := .cells #[.bool a2_0, .bool a2_1, .bool a2_2, .bool a2_3, .bool a2_4, .bool a2_5] 40 (0, 0)) (by (with_reducible repeat (first | refine blk_drewN ?_ _ | refine blk_drew ?_ | refine blk_alloc ?_ _)); exact BK565.out) hb); have n1_ := Aside0.mk (below_step (by repeat (first | (with_reducible first | exact HB.out | apply below_alloc | apply pw_below_drewN | apply below_drew1 | refine below_set ?_ GE565.out) | exact HB.out)) hb); have n2_ := Aside0.mk (hbox); have n3_ := Aside0.mk ((by rw [hg]; exact (below_size (by repeat (first | (with_reducible first | exact HB.out | apply below_alloc | apply pw_below_drewN | apply below_drew1 | refine below_set ?_ GE565.out) | exact HB.out))) : w.heap.size ≤ gb566)); have n4_ := Aside0.mk ((by rw [hg]; exact (below_size (by repeat (first | (with_reducible first | exact HB.out | apply below_alloc | apply pw_below_drewN | apply below_drew1 | refine below_set ?_ GE565.out) | exact HB.out))) : w.heap.size ≤ gb566)); have n5_ := Aside0.mk ((by rw [hg]; exact Nat.ne_of_lt (blk_lt (g := gb565) (o := .cells #[.bool a2_0, .bool a2_1, .bool a2_2, .bool a2_3, .bool a2_4, .bool a2_5] 40 (0, 0)) (by (with_reducible repeat (first | refine blk_drewN ?_ _ | refine blk_drew ?_ | refine blk_alloc ?_ _)); exact BK565.out)) : gb565 ≠ gb566)); have n6_ := Aside0.mk ((by rw [hg]; exact Nat.ne_of_gt (blk_lt (g := gb565) (o := .cells #[.bool a2_0, .bool a2_1, .bool a2_2, .bool a2_3, .bool a2_4, .bool a2_5] 40 (0, 0)) (by (with_reducible repeat (first | refine blk_drewN ?_ _ | refine blk_drew ?_ | refine blk_alloc ?_ _)); exact BK565.out)) : gb566 ≠ gb565)); clear BK565; clear HB; have BK565 := n0_; have HB := n1_; have BK566 := n2_; have GW566 := n3_; have GE566 := n4_; have NB565_566 := n5_; have NB566_565 := n6_; clear n0_ n1_ n2_ n3_ n4_ n5_ n6_; clear hb hbox hg; have hnb7 := NB565_566.out; have hnc7 := NB566_565.out; have hcz8_0 : w6.cell? ⟨gb565, 0, none⟩ = some (.bool a2_0) := (blk_cell BK565.out 0).trans rfl; have hcz8_1 : w6.cell? ⟨gb565, 1, none⟩ = some (.bool a2_1) := (blk_cell BK565.out 1).trans rfl; have hcz8_2 : w6.cell? ⟨gb565, 2, none⟩ = some (.bool a2_2) := (blk_cell BK565.out 2).trans rfl; have hcz8_3 : w6.cell? ⟨gb565, 3, none⟩ = some (.bool a2_3) := (blk_cell BK565.out 3).trans rfl; have hcz8_4 : w6.cell? ⟨gb565, 4, none⟩ = some (.bool a2_4) := (blk_cell BK565.out 4).trans rfl; have hcz8_5 : w6.cell? ⟨gb565, 5, none⟩ = some (.bool a2_5) := (blk_cell BK565.out 5).trans rfl; have hfz8_0 := blk_frozen BK565.out 0; have hfz8_1 := blk_frozen BK565.out 1; have hfz8_2 := blk_frozen BK565.out 2; have hfz8_3 := blk_frozen BK565.out 3; have hfz8_4 := blk_frozen BK565.out 4; have hfz8_5 := blk_frozen BK565.out 5) | ((with_reducible refine gate_callee (f := 62) rfl ?_); refine goesL_ (some 10) rfl rfl Try.func62 (by kernel_rfl) rfl #[.int .u8 a0, .agg #[.bool a2_0, .bool a2_1, .bool a2_2, .bool a2_3, .bool a2_4, .bool a2_5]] rfl (by (try simp only [List.map_toArray, List.map_cons, List.map_nil]); first | done | rfl | (simp only [List.length_drop, List.length_take]; rfl)) ?_; (with_reducible refine (impl_NZ.calls a0 a2_0 a2_1 a2_2 a2_3 a2_4 a2_5 t567 t568 t569 t570 t571 t572 _ A4.out).mono ?_); rintro e w9 ⟨rfl, hb⟩; refine ⟨_, rfl, ?_⟩; have n0_ := Aside0.mk (blk_below (g := gb565) (o := .cells #[.bool a2_0, .bool a2_1, .bool a2_2, .bool a2_3, .bool a2_4, .bool a2_5] 40 (0, 0)) (by (with_reducible repeat (first | refine blk_drewN ?_ _ | refine blk_drew ?_ | refine blk_alloc ?_ _)); exact BK565.out) hb); have n1_ := Aside0.mk (blk_below (g := gb566) (o := .cells #[.bool false, .bool false, .bool false, .bool false, .bool false, .bool false] 40 (0, 0)) (by (with_reducible repeat (first | refine blk_drewN ?_ _ | refine blk_drew ?_ | refine blk_alloc ?_ _)); exact BK566.out) hb); have n2_ := Aside0.mk (below_step (by repeat (first | (with_reducible first | exact HB.out | apply below_alloc | apply pw_below_drewN | apply below_drew1 | refine below_set ?_ GE565.out | refine below_set ?_ GE566.out) | exact HB.out)) hb); clear BK565; clear BK566; clear HB; have BK565 := n0_; have BK566 := n1_; have HB := n2_; clear n0_ n1_ n2_; (try clear hb); (try clear hb2); (try clear hk); (try clear hi); have hcz10_0 : w9.cell? ⟨gb565, 0, none⟩ = some (.bool a2_0) := (blk_cell BK565.out 0).trans rfl; have hcz10_1 : w9.cell? ⟨gb565, 1, none⟩ = some (.bool a2_1) := (blk_cell BK565.out 1).trans rfl; have hcz10_2 : w9.cell? ⟨gb565, 2, none⟩ = some (.bool a2_2) := (blk_cell BK565.out 2).trans rfl; have hcz10_3 : w9.cell? ⟨gb565, 3, none⟩ = some (.bool a2_3) := (blk_cell BK565.out 3).trans rfl; have hcz10_4 : w9.cell? ⟨gb565, 4, none⟩ = some (.bool a2_4) := (blk_cell BK565.out 4).trans rfl; have hcz10_5 : w9.cell? ⟨gb565, 5, none⟩ = some (.bool a2_5) := (blk_cell BK565.out 5).trans rfl; have hfz10_0 := blk_frozen BK565.out 0; have hfz10_1 := blk_frozen BK565.out 1; have hfz10_2 := blk_frozen BK565.out 2; have hfz10_3 := blk_frozen BK565.out 3; have hfz10_4 := blk_frozen BK565.out 4; have hfz10_5 := blk_frozen BK565.out 5))
  have n0_ : Aside0 ((((((((w9.setCell ⟨gb565, 0, none⟩ (.bool t567)).setCell ⟨gb565, 1, none⟩ (.bool t568)).setCell ⟨gb565, 2, none⟩ (.bool t569)).setCell ⟨gb565, 3, none⟩ (.bool t570)).setCell ⟨gb565, 4, none⟩ (.bool t571)).setCell ⟨gb565, 5, none⟩ (.bool t572)).setCell ⟨gb565, 5, none⟩ (.bool a1)).heap[gb565]? = some (.cells #[.bool t567, .bool t568, .bool t569, .bool t570, .bool t571, .bool a1] 40 (0, 0))) := ⟨by (with_reducible repeat (first | refine blk_drewN ?_ _ | refine blk_drew ?_ | refine blk_alloc ?_ _)); refine blk_put (cs := #[.bool t567, .bool t568, .bool t569, .bool t570, .bool t571, .bool t572]) ?_ 5 _ rfl; (with_reducible repeat (first | refine blk_drewN ?_ _ | refine blk_drew ?_ | refine blk_alloc ?_ _)); refine blk_put (cs := #[.bool t567, .bool t568, .bool t569, .bool t570, .bool t571, .bool a2_5]) ?_ 5 _ rfl; (with_reducible repeat (first | refine blk_drewN ?_ _ | refine blk_drew ?_ | refine blk_alloc ?_ _)); refine blk_put (cs := #[.bool t567, .bool t568, .bool t569, .bool t570, .bool a2_4, .bool a2_5]) ?_ 4 _ rfl; (with_reducible repeat (first | refine blk_drewN ?_ _ | refine blk_drew ?_ | refine blk_alloc ?_ _)); refine blk_put (cs := #[.bool t567, .bool t568, .bool t569, .bool a2_3, .bool a2_4, .bool a2_5]) ?_ 3 _ rfl; (with_reducible repeat (first | refine blk_drewN ?_ _ | refine blk_drew ?_ | refine blk_alloc ?_ _)); refine blk_put (cs := #[.bool t567, .bool t568, .bool a2_2, .bool a2_3, .bool a2_4, .bool a2_5]) ?_ 2 _ rfl; (with_reducible repeat (first | refine blk_drewN ?_ _ | refine blk_drew ?_ | refine blk_alloc ?_ _)); refine blk_put (cs := #[.bool t567, .bool a2_1, .bool a2_2, .bool a2_3, .bool a2_4, .bool a2_5]) ?_ 1 _ rfl; (with_reducible repeat (first | refine blk_drewN ?_ _ | refine blk_drew ?_ | refine blk_alloc ?_ _)); refine blk_put (cs := #[.bool a2_0, .bool a2_1, .bool a2_2, .bool a2_3, .bool a2_4, .bool a2_5]) ?_ 0 _ rfl; (with_reducible repeat (first | refine blk_drewN ?_ _ | refine blk_drew ?_ | refine blk_alloc ?_ _)); exact BK565.out⟩
  have n1_ : Aside0 ((((((((w9.setCell ⟨gb565, 0, none⟩ (.bool t567)).setCell ⟨gb565, 1, none⟩ (.bool t568)).setCell ⟨gb565, 2, none⟩ (.bool t569)).setCell ⟨gb565, 3, none⟩ (.bool t570)).setCell ⟨gb565, 4, none⟩ (.bool t571)).setCell ⟨gb565, 5, none⟩ (.bool t572)).setCell ⟨gb565, 5, none⟩ (.bool a1)).heap[gb566]? = some (.cells #[.bool false, .bool false, .bool false, .bool false, .bool false, .bool false] 40 (0, 0))) := ⟨by (with_reducible repeat (first | refine blk_drewN ?_ _ | refine blk_drew ?_ | refine blk_alloc ?_ _)); refine blk_far ?_ NB566_565.out _; (with_reducible repeat (first | refine blk_drewN ?_ _ | refine blk_drew ?_ | refine blk_alloc ?_ _)); refine blk_far ?_ NB566_565.out _; (with_reducible repeat (first | refine blk_drewN ?_ _ | refine blk_drew ?_ | refine blk_alloc ?_ _)); refine blk_far ?_ NB566_565.out _; (with_reducible repeat (first | refine blk_drewN ?_ _ | refine blk_drew ?_ | refine blk_alloc ?_ _)); refine blk_far ?_ NB566_565.out _; (with_reducible repeat (first | refine blk_drewN ?_ _ | refine blk_drew ?_ | refine blk_alloc ?_ _)); refine blk_far ?_ NB566_565.out _; (with_reducible repeat (first | refine blk_drewN ?_ _ | refine blk_drew ?_ | refine blk_alloc ?_ _)); refine blk_far ?_ NB566_565.out _; (with_reducible repeat (first | refine blk_drewN ?_ _ | refine blk_drew ?_ | refine blk_alloc ?_ _)); refine blk_far ?_ NB566_565.out _; (with_reducible repeat (first | refine blk_drewN ?_ _ | refine blk_drew ?_ | refine blk_alloc ?_ _)); exact BK566.out⟩
  have n2_ : Aside0 (Below w.heap.size w (((((((w9.setCell ⟨gb565, 0, none⟩ (.bool t567)).setCell ⟨gb565, 1, none⟩ (.bool t568)).setCell ⟨gb565, 2, none⟩ (.bool t569)).setCell ⟨gb565, 3, none⟩ (.bool t570)).setCell ⟨gb565, 4, none⟩ (.bool t571)).setCell ⟨gb565, 5, none⟩ (.bool t572)).setCell ⟨gb565, 5, none⟩ (.bool a1))) := ⟨by repeat (first | (with_reducible first | exact HB.out | apply below_alloc | apply pw_below_drewN | apply below_drew1 | refine below_set ?_ GE565.out | refine below_set ?_ GE566.out) | exact HB.out)⟩
  (try clear BK565)
  (try clear BK566)
  (try clear HB)
  generalize (((((((w9.setCell ⟨gb565, 0, none⟩ (.bool t567)).setCell ⟨gb565, 1, none⟩ (.bool t568)).setCell ⟨gb565, 2, none⟩ (.bool t569)).setCell ⟨gb565, 3, none⟩ (.bool t570)).setCell ⟨gb565, 4, none⟩ (.bool t571)).setCell ⟨gb565, 5, none⟩ (.bool t572)).setCell ⟨gb565, 5, none⟩ (.bool a1)) = w11 at n0_ n1_ n2_ ⊢
  have BK565 := n0_
  have BK566 := n1_
  have HB := n2_
  clear n0_ n1_ n2_
  have n0_ := Aside0.mk (blk_drew BK565.out)
  have n1_ := Aside0.mk (blk_drew BK566.out)
  have n2_ := Aside0.mk (below_drew1 HB.out)
  clear BK565
  clear BK566
  clear HB
  have BK565 := n0_
  have BK566 := n1_
  have HB := n2_
  clear n0_ n1_ n2_
  refine start_ (n := 4) (S := fun w' => w'.cell? ⟨gb565, 0, none⟩ = some (.bool t567) ∧ w'.cell? ⟨gb565, 1, none⟩ = some (.bool t568) ∧ w'.cell? ⟨gb565, 2, none⟩ = some (.bool t569) ∧ w'.cell? ⟨gb565, 3, none⟩ = some (.bool t570) ∧ w'.cell? ⟨gb565, 4, none⟩ = some (.bool t571) ∧ w'.cell? ⟨gb565, 5, none⟩ = some (.bool a1)) (ds := []) #[false, false, false, false] (by kernel_rfl) rfl rfl ⟨(blk_cell BK565.out 0).trans rfl, (blk_cell BK565.out 1).trans rfl, (blk_cell BK565.out 2).trans rfl, (blk_cell BK565.out 3).trans rfl, (blk_cell BK565.out 4).trans rfl, (blk_cell BK565.out 5).trans rfl⟩ (fun hHeld => ?_)
  generalize w11.drew = w12 at BK565 BK566 HB hHeld ⊢
  refine pure_ (i := 0) (N := some 13) (v := ?_) (a' := ?_) #[true, false, false, false] rfl rfl (by kernel_rfl) (fun _ _ _ h => h) (Or.inl ⟨by rfl, ?_⟩) ?_ ?_
  rotate_left
  · intro w'
    go_simp
    with_reducible rfl
  rotate_left
  · simp only [Act.put, List.setIfInBounds_toArray, List.set_cons_zero, List.set_cons_succ, i64_w, i32_w]
    rfl
  refine pure_ (i := 2) (N := some 6) (v := ?_) (a' := ?_) #[true, false, true, false] rfl rfl (by kernel_rfl) (fun _ _ _ h => h) (Or.inl ⟨by rfl, ?_⟩) ?_ ?_
  rotate_left
  · intro w'
    go_simp
    with_reducible rfl
  rotate_left
  · simp only [Act.put, List.setIfInBounds_toArray, List.set_cons_zero, List.set_cons_succ, i64_w, i32_w]
    rfl
  refine take_ (i := 1) (N := some 14) (v := ?_) (a' := ?_) #[true, true, true, false] rfl rfl (by kernel_rfl) (fun _ _ _ h => h) (Or.inl ⟨by rfl, ?_⟩) hHeld ?_ ?_
  rotate_left
  · rintro w' ⟨s0, s1, s2, s3, s4, s5⟩
    go_simp
    with_reducible rfl
  rotate_left
  · simp only [Act.put, List.setIfInBounds_toArray, List.set_cons_zero, List.set_cons_succ, i64_w, i32_w]
    rfl
  refine one_ (i := 3) (N := none) #[true, true, true, true] rfl rfl (by kernel_rfl) (by decide) (fun K hK => ?_)
  have hs13 : w12.cell? ⟨gb566, 0, none⟩ = some (.bool false) := (blk_cell BK566.out 0).trans rfl
  have hfs13 := blk_frozen BK566.out 0
  have hns13_0 := NB565_566.out
  have hms13_0 := NB566_565.out
  have hs14 : w12.cell? ⟨gb566, 1, none⟩ = some (.bool false) := (blk_cell BK566.out 1).trans rfl
  have hfs14 := blk_frozen BK566.out 1
  have hns14_0 := NB565_566.out
  have hms14_0 := NB566_565.out
  have hs15 : w12.cell? ⟨gb566, 2, none⟩ = some (.bool false) := (blk_cell BK566.out 2).trans rfl
  have hfs15 := blk_frozen BK566.out 2
  have hns15_0 := NB565_566.out
  have hms15_0 := NB566_565.out
  have hs16 : w12.cell? ⟨gb566, 3, none⟩ = some (.bool false) := (blk_cell BK566.out 3).trans rfl
  have hfs16 := blk_frozen BK566.out 3
  have hns16_0 := NB565_566.out
  have hms16_0 := NB566_565.out
  have hs17 : w12.cell? ⟨gb566, 4, none⟩ = some (.bool false) := (blk_cell BK566.out 4).trans rfl
  have hfs17 := blk_frozen BK566.out 4
  have hns17_0 := NB565_566.out
  have hms17_0 := NB566_565.out
  have hs18 : w12.cell? ⟨gb566, 5, none⟩ = some (.bool false) := (blk_cell BK566.out 5).trans rfl
  have hfs18 := blk_frozen BK566.out 5
  have hns18_0 := NB565_566.out
  have hms18_0 := NB566_565.out
  refine skip_ (w1 := ?_) (by rfl) rfl ?_ ?_
  rotate_left
  · go_simp
    rfl
  refine hK.out _ _ ⟨((cell_far (p := ⟨gb566, _, none⟩) NB565_566.out _).trans (((cell_far (p := ⟨gb566, _, none⟩) NB565_566.out _).trans (((cell_far (p := ⟨gb566, _, none⟩) NB565_566.out _).trans (((cell_far (p := ⟨gb566, _, none⟩) NB565_566.out _).trans (((cell_far (p := ⟨gb566, _, none⟩) NB565_566.out _).trans (((cell_far (p := ⟨gb566, _, none⟩) NB565_566.out _).trans (hHeld.1)))))))))))), ((cell_far (p := ⟨gb566, _, none⟩) NB565_566.out _).trans (((cell_far (p := ⟨gb566, _, none⟩) NB565_566.out _).trans (((cell_far (p := ⟨gb566, _, none⟩) NB565_566.out _).trans (((cell_far (p := ⟨gb566, _, none⟩) NB565_566.out _).trans (((cell_far (p := ⟨gb566, _, none⟩) NB565_566.out _).trans (((cell_far (p := ⟨gb566, _, none⟩) NB565_566.out _).trans (hHeld.2.1)))))))))))), ((cell_far (p := ⟨gb566, _, none⟩) NB565_566.out _).trans (((cell_far (p := ⟨gb566, _, none⟩) NB565_566.out _).trans (((cell_far (p := ⟨gb566, _, none⟩) NB565_566.out _).trans (((cell_far (p := ⟨gb566, _, none⟩) NB565_566.out _).trans (((cell_far (p := ⟨gb566, _, none⟩) NB565_566.out _).trans (((cell_far (p := ⟨gb566, _, none⟩) NB565_566.out _).trans (hHeld.2.2.1)))))))))))), ((cell_far (p := ⟨gb566, _, none⟩) NB565_566.out _).trans (((cell_far (p := ⟨gb566, _, none⟩) NB565_566.out _).trans (((cell_far (p := ⟨gb566, _, none⟩) NB565_566.out _).trans (((cell_far (p := ⟨gb566, _, none⟩) NB565_566.out _).trans (((cell_far (p := ⟨gb566, _, none⟩) NB565_566.out _).trans (((cell_far (p := ⟨gb566, _, none⟩) NB565_566.out _).trans (hHeld.2.2.2.1)))))))))))), ((cell_far (p := ⟨gb566, _, none⟩) NB565_566.out _).trans (((cell_far (p := ⟨gb566, _, none⟩) NB565_566.out _).trans (((cell_far (p := ⟨gb566, _, none⟩) NB565_566.out _).trans (((cell_far (p := ⟨gb566, _, none⟩) NB565_566.out _).trans (((cell_far (p := ⟨gb566, _, none⟩) NB565_566.out _).trans (((cell_far (p := ⟨gb566, _, none⟩) NB565_566.out _).trans (hHeld.2.2.2.2.1)))))))))))), ((cell_far (p := ⟨gb566, _, none⟩) NB565_566.out _).trans (((cell_far (p := ⟨gb566, _, none⟩) NB565_566.out _).trans (((cell_far (p := ⟨gb566, _, none⟩) NB565_566.out _).trans (((cell_far (p := ⟨gb566, _, none⟩) NB565_566.out _).trans (((cell_far (p := ⟨gb566, _, none⟩) NB565_566.out _).trans (((cell_far (p := ⟨gb566, _, none⟩) NB565_566.out _).trans (hHeld.2.2.2.2.2))))))))))))⟩ (fun hHeld => ?_)
  clear hK K
  refine done_ (by kernel_rfl) ?_
  try go_wp2
  refine bodyPost_ret (results_tc rfl _ _ gb566 40 #[.bool t567, .bool t568, .bool t569, .bool t570, .bool t571, .bool a1] (0, 0) _ rfl (by (with_reducible repeat (first | refine blk_drewN ?_ _ | refine blk_drew ?_ | refine blk_alloc ?_ _)); refine blk_put (cs := #[.bool t567, .bool t568, .bool t569, .bool t570, .bool t571, .bool false]) ?_ 5 _ rfl; (with_reducible repeat (first | refine blk_drewN ?_ _ | refine blk_drew ?_ | refine blk_alloc ?_ _)); refine blk_put (cs := #[.bool t567, .bool t568, .bool t569, .bool t570, .bool false, .bool false]) ?_ 4 _ rfl; (with_reducible repeat (first | refine blk_drewN ?_ _ | refine blk_drew ?_ | refine blk_alloc ?_ _)); refine blk_put (cs := #[.bool t567, .bool t568, .bool t569, .bool false, .bool false, .bool false]) ?_ 3 _ rfl; (with_reducible repeat (first | refine blk_drewN ?_ _ | refine blk_drew ?_ | refine blk_alloc ?_ _)); refine blk_put (cs := #[.bool t567, .bool t568, .bool false, .bool false, .bool false, .bool false]) ?_ 2 _ rfl; (with_reducible repeat (first | refine blk_drewN ?_ _ | refine blk_drew ?_ | refine blk_alloc ?_ _)); refine blk_put (cs := #[.bool t567, .bool false, .bool false, .bool false, .bool false, .bool false]) ?_ 1 _ rfl; (with_reducible repeat (first | refine blk_drewN ?_ _ | refine blk_drew ?_ | refine blk_alloc ?_ _)); refine blk_put (cs := #[.bool false, .bool false, .bool false, .bool false, .bool false, .bool false]) ?_ 0 _ rfl; (with_reducible repeat (first | refine blk_drewN ?_ _ | refine blk_drew ?_ | refine blk_alloc ?_ _)); exact BK566.out) Try.underlying40 rfl (by kernel_rfl)) rfl ?_
  exact ⟨by first | rfl | (simp [errW_none, errW_some] <;> rfl) | (simp [*, errW_none, errW_some] <;> rfl), by repeat (first | (with_reducible first | exact HB.out | apply below_alloc | apply pw_below_drewN | apply below_drew1 | refine below_set ?_ GE565.out | refine below_set ?_ GE566.out) | exact HB.out)⟩

end Go.Proofs.Ythdeemkhbajfgaa.PAll
