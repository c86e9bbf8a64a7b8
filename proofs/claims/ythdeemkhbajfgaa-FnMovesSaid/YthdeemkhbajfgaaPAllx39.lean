/- Functions of the program as plain Lean functions, each with a proof that the machine's call comes to it; written for this seat's claims by a program of mine. -/
import Derived.Test.YthdeemkhbajfgaaPAllx0
import Derived.Test.YthdeemkhbajfgaaPAllx35
import Derived.Test.YthdeemkhbajfgaaPAllx36
namespace Go.Proofs.Ythdeemkhbajfgaa.PAll
open Go.RowKit Go.Proofs.YthdeemkhbajfgaaW.PrintWords Go.Proofs.YthdeemkhbajfgaaW.PrintLast Go.Proofs.YthdeemkhbajfgaaW.PrintMore
attribute [local go_sem] max2_int min2_int max_two min_two max_three min_three max_four min_four   -- for this text's walks alone
attribute [local go_sem] Go.Proofs.Ythdeemkhbajfgaa.Cell.cell_set_off
set_option linter.unusedVariables false
set_option linter.unusedSimpArgs false

/-! ### impl_Asl: function 50 -/
def impl_Asl.f (a0 : Int) (a1_0 : Bool) (a1_1 : Bool) (a1_2 : Bool) (a1_3 : Bool) (a1_4 : Bool) (a1_5 : Bool) : Option (Int × Bool × Bool × Bool × Bool × Bool × Bool) := (impl_has.f a0 7).bind fun t597 => ((impl_moved.f ((a0 * 2) % 256) t597 a1_0 a1_1 a1_2 a1_3 a1_4 a1_5).bind fun bt598 => (some (bt598.1, bt598.2.1, bt598.2.2.1, bt598.2.2.2.1, bt598.2.2.2.2.1, bt598.2.2.2.2.2.1, bt598.2.2.2.2.2.2)))
def impl_Asl.T1 : Bool × List (List Nat × List Nat) := (true, [([], []), ([0], [0]), ([], []), ([2], [2]), ([], []), ([1, 3, 4, 3], [1, 3, 4]), ([5], [5]), ([5], [5]), ([6, 5, 0, 1, 2, 3, 4, 5, 6, 7], [6]), ([7, 8, 0, 1, 2, 3, 4, 5, 6, 7, 8], [7])])
def impl_Asl.B1 : List Nat := [0, 1, 0, 4, 0, 31, 63, 63, 255, 511]
theorem impl_Asl.tab1 : rtab .any (opsOf Try.f50 1) = impl_Asl.T1 := by kernel_rfl
theorem impl_Asl.bits1 : waitsOk impl_Asl.T1.2 impl_Asl.B1 = true := by kernel_rfl
set_option maxHeartbeats 8000000 in
set_option maxRecDepth 100000 in
theorem impl_Asl.calls (a0 : Int) (a1_0 : Bool) (a1_1 : Bool) (a1_2 : Bool) (a1_3 : Bool) (a1_4 : Bool) (a1_5 : Bool) (r1 : Int) (r2 : Bool) (r3 : Bool) (r4 : Bool) (r5 : Bool) (r6 : Bool) (r7 : Bool) (w : World) (h : impl_Asl.f a0 a1_0 a1_1 a1_2 a1_3 a1_4 a1_5 = some (r1, r2, r3, r4, r5, r6, r7)) :
    Calls Try.prog 50 #[.int .u8 a0, .agg #[.bool a1_0, .bool a1_1, .bool a1_2, .bool a1_3, .bool a1_4, .bool a1_5]] w fun e w' => e = .returned (.tuple #[.int .u8 r1, .agg #[.bool r2, .bool r3, .bool r4, .bool r5, .bool r6, .bool r7]]) ∧ Below w.heap.size w w' := by
  have hu40 := Try.underlying40
  have HB := Aside0.mk (Below.refl w.heap.size w)
  have H : ((impl_has.f a0 7).bind fun t597 => ((impl_moved.f ((a0 * 2) % 256) t597 a1_0 a1_1 a1_2 a1_3 a1_4 a1_5).bind fun bt598 => (some (bt598.1, bt598.2.1, bt598.2.2.1, bt598.2.2.2.1, bt598.2.2.2.2.1, bt598.2.2.2.2.2.1, bt598.2.2.2.2.2.2)))) = some (r1, r2, r3, r4, r5, r6, r7) := h
  clear h
  replace H := Option.bind_eq_some_iff.mp H
  obtain ⟨t597, A30, H⟩ := H
  replace H : ((impl_moved.f ((a0 * 2) % 256) t597 a1_0 a1_1 a1_2 a1_3 a1_4 a1_5).bind fun bt598 => (some (bt598.1, bt598.2.1, bt598.2.2.1, bt598.2.2.2.1, bt598.2.2.2.2.1, bt598.2.2.2.2.2.1, bt598.2.2.2.2.2.2))) = some (r1, r2, r3, r4, r5, r6, r7) := H
  have A3 := Aside0.mk A30
  clear A30
  replace H := Option.bind_eq_some_iff.mp H
  obtain ⟨⟨t598, t599, t600, t601, t602, t603, t604⟩, A40, H⟩ := H
  replace H : (some (t598, t599, t600, t601, t602, t603, t604)) = some (r1, r2, r3, r4, r5, r6, r7) := H
  have A4 := Aside0.mk A40
  clear A40
  simp only [Option.some.injEq, Prod.mk.injEq] at H
  obtain ⟨rfl, rfl, rfl, rfl, rfl, rfl, rfl⟩ := H
  go_enter Try.func50, Try.ntmps50
  try go_wp2_with (first | ((with_reducible refine gate_dst (N := 3) rfl ?_); refine box_event ?hg (N := 3) ?hd (cs := #[.bool a1_0, .bool a1_1, .bool a1_2, .bool a1_3, .bool a1_4, .bool a1_5]) (t := 40) ?hr ?_; (case hd => rfl); (case hg => rfl); (case hr => first | (go_simp; done) | (go_simp; rfl)); intro gb595 hg w5 hbox hb; have n0_ := Aside0.mk (below_step (by repeat (first | (with_reducible first | exact HB.out | apply below_alloc | apply pw_below_drewN | apply below_drew1) | exact HB.out)) hb); have n1_ := Aside0.mk (hbox); have n2_ := Aside0.mk ((by rw [hg]; exact (below_size (by repeat (first | (with_reducible first | exact HB.out | apply below_alloc | apply pw_below_drewN | apply below_drew1) | exact HB.out))) : w.heap.size ≤ gb595)); have n3_ := Aside0.mk ((by rw [hg]; exact (below_size (by repeat (first | (with_reducible first | exact HB.out | apply below_alloc | apply pw_below_drewN | apply below_drew1) | exact HB.out))) : w.heap.size ≤ gb595)); clear HB; have HB := n0_; have BK595 := n1_; have GW595 := n2_; have GE595 := n3_; clear n0_ n1_ n2_ n3_; clear hb hbox hg) | ((with_reducible refine gate_dst (N := 5) rfl ?_); refine box_event ?hg (N := 5) ?hd (cs := #[.bool false, .bool false, .bool false, .bool false, .bool false, .bool false]) (t := 40) ?hr ?_; (case hd => rfl); (case hg => rfl); (case hr => first | (go_simp; done) | (go_simp; rfl)); intro gb596 hg w6 hbox hb; have n0_ := Aside0.mk (blk_below (g := gb595) (o := .cells #[.bool a1_0, .bool a1_1, .bool a1_2, .bool a1_3, .bool a1_4, .bool a1_5] 40 (0, 0)) (by (with_reducible repeat (first | refine blk_drewN ?_ _ | refine blk_drew ?_ | refine blk_alloc ?_ _)); exact BK595.out) hb); have n1_ := Aside0.mk (below_step (by repeat (first | (with_reducible first | exact HB.out | apply below_alloc | apply pw_below_drewN | apply below_drew1 | refine below_set ?_ GE595.out) | exact HB.out)) hb); have n2_ := Aside0.mk (hbox); have n3_ := Aside0.mk ((by rw [hg]; exact (below_size (by repeat (first | (with_reducible first | exact HB.out | apply below_alloc | apply pw_below_drewN | apply below_drew1 | refine below_set ?_ GE595.out) | exact HB.out))) : w.heap.size ≤ gb596)); have n4_ := Aside0.mk ((by rw [hg]; exact (below_size (by repeat (first | (with_reducible first | exact HB.out | apply below_alloc | apply pw_below_drewN | apply below_drew1 | refine below_set ?_ GE595.out) | exact HB.out))) : w.heap.size ≤ gb596)); have n5_ := Aside0.mk ((by rw [hg]; exact Nat.ne_of_lt (blk_lt (g := gb595) (o := .cells #[.bool a1_0, .bool a1_1, .bool a1_2, .bool a1_3, .bool a1_4, .bool a1_5] 40 (0, 0)) (by (with_reducible repeat (first | refine blk_drewN ?_ _ | refine blk_drew ?_ | refine blk_alloc ?_ _)); exact BK595.out)) : gb595 ≠ gb596)); have n6_ := Aside0.mk ((by rw [hg]; exact Nat.ne_of_gt (blk_lt (g := gb595) (o := .cells #[.bool a1_0, .bool a1_1, .bool a1_2, .bool a1_3, .bool a1_4, .bool a1_5] 40 (0, 0)) (by (with_reducible repeat (first | refine blk_drewN ?_ _ | refine blk_drew ?_ | refine blk_alloc ?_ _)); exact BK595.out)) : gb596 ≠ gb595)); clear BK595; clear HB; have BK595 := n0_; have HB := n1_; have BK596 := n2_; have GW596 := n3_; have GE596 := n4_; have NB595_596 := n5_; have NB596_595 := n6_; clear n0_ n1_ n2_ n3_ n4_ n5_ n6_; clear hb hbox hg))
  have n0_ := Aside0.mk (blk_drew BK595.out)
  have n1_ := Aside0.mk (blk_drew BK596.out)
  have n2_ := Aside0.mk (below_drew1 HB.out)
  clear BK595
  clear BK596
  clear HB
  have BK595 := n0_
  have BK596 := n1_
  have HB := n2_
  clear n0_ n1_ n2_
  refine start_ (n := 10) (S := fun w' => w'.cell? ⟨gb595, 0, none⟩ = some (.bool a1_0) ∧ w'.cell? ⟨gb595, 1, none⟩ = some (.bool a1_1) ∧ w'.cell? ⟨gb595, 2, none⟩ = some (.bool a1_2) ∧ w'.cell? ⟨gb595, 3, none⟩ = some (.bool a1_3) ∧ w'.cell? ⟨gb595, 4, none⟩ = some (.bool a1_4) ∧ w'.cell? ⟨gb595, 5, none⟩ = some (.bool a1_5)) (ds := []) #[false, false, false, false, false, false, false, false, false, false] (by kernel_rfl) rfl rfl ⟨(blk_cell BK595.out 0).trans rfl, (blk_cell BK595.out 1).trans rfl, (blk_cell BK595.out 2).trans rfl, (blk_cell BK595.out 3).trans rfl, (blk_cell BK595.out 4).trans rfl, (blk_cell BK595.out 5).trans rfl⟩ (fun hHeld => ?_); refine with_tabW impl_Asl.tab1 impl_Asl.bits1 (fun HT_ HW_ => ?_)
  generalize w6.drew = w7 at BK595 BK596 HB hHeld ⊢
  refine pure_ (i := 0) (N := some 6) (v := ?_) (a' := ?_) #[true, false, false, false, false, false, false, false, false, false] rfl rfl (any_of HT_.out (by kernel_rfl)) (fun _ _ _ h => h) (Or.inl ⟨by rfl, ?_⟩) ?_ ?_
  rotate_left
  · intro w'
    go_simp
    with_reducible rfl
  rotate_left
  · simp only [Act.put, List.setIfInBounds_toArray, List.set_cons_zero, List.set_cons_succ, i64_w, i32_w]
    rfl
  refine pure_ (i := 1) (N := some 7) (v := ?_) (a' := ?_) #[true, true, false, false, false, false, false, false, false, false] rfl rfl (any_of HT_.out (by kernel_rfl)) (fun _ _ _ h => h) (Or.inl ⟨by rfl, ?_⟩) ?_ ?_
  rotate_left
  · intro w'
    go_simp
    with_reducible rfl
  rotate_left
  · simp only [Act.put, List.setIfInBounds_toArray, List.set_cons_zero, List.set_cons_succ, i64_w, i32_w]
    rfl
  refine pure_ (i := 2) (N := some 8) (v := ?_) (a' := ?_) #[true, true, true, false, false, false, false, false, false, false] rfl rfl (any_of HT_.out (by kernel_rfl)) (fun _ _ _ h => h) (Or.inl ⟨by rfl, ?_⟩) ?_ ?_
  rotate_left
  · intro w'
    go_simp
    with_reducible rfl
  rotate_left
  · simp only [Act.put, List.setIfInBounds_toArray, List.set_cons_zero, List.set_cons_succ, i64_w, i32_w]
    rfl
  refine take_ (i := 4) (N := some 10) (v := ?_) (a' := ?_) #[true, true, true, false, true, false, false, false, false, false] rfl rfl (take_ofW HT_.out HW_.out (by kernel_rfl)) (fun _ _ _ h => h) (Or.inl ⟨by rfl, ?_⟩) hHeld ?_ ?_
  rotate_left
  · rintro w' ⟨s0, s1, s2, s3, s4, s5⟩
    go_simp
    with_reducible rfl
  rotate_left
  · simp only [Act.put, List.setIfInBounds_toArray, List.set_cons_zero, List.set_cons_succ, i64_w, i32_w]
    rfl
  refine one_ (i := 3) (N := some 9) #[true, true, true, true, true, false, false, false, false, false] rfl rfl (one_of HT_.out (by kernel_rfl)) (by decide) (fun K hK => ?_)
  refine goes_ Try.func90 (by kernel_rfl) rfl #[.int .u8 a0, .int .i64 7] (by rfl) rfl rfl (by (try simp only [List.map_toArray, List.map_cons, List.map_nil]); first | done | rfl | (simp only [List.length_drop, List.length_take]; rfl)) ?_
  with_reducible refine (impl_has.calls a0 7 t597 _ A3.out).mono ?_
  rintro e w' ⟨rfl, ⟨nd, rfl⟩⟩
  refine ⟨_, rfl, ?_⟩
  refine hK.out _ _ ⟨(blk_cell BK595.out 0).trans rfl, (blk_cell BK595.out 1).trans rfl, (blk_cell BK595.out 2).trans rfl, (blk_cell BK595.out 3).trans rfl, (blk_cell BK595.out 4).trans rfl, (blk_cell BK595.out 5).trans rfl⟩ (fun hHeld => ?_)
  clear hK K
  refine norm_ (a' := ?_) ?_ ?_
  rotate_left
  · show Act.put _ (some 9) _ = _
    simp only [Act.put, List.setIfInBounds_toArray, List.set_cons_zero, List.set_cons_succ, i64_w, i32_w]
    rfl
  refine one_ (i := 5) (N := some 11) #[true, true, true, true, true, true, false, false, false, false] rfl rfl (one_of HT_.out (by kernel_rfl)) (by decide) (fun K hK => ?_)
  refine goes_ Try.func89 (by kernel_rfl) rfl #[.int .u8 ((a0 * 2) % 256), .bool t597, .agg #[.bool a1_0, .bool a1_1, .bool a1_2, .bool a1_3, .bool a1_4, .bool a1_5]] (by rfl) rfl rfl (by (try simp only [List.map_toArray, List.map_cons, List.map_nil]); first | done | rfl | (simp only [List.length_drop, List.length_take]; rfl)) ?_
  with_reducible refine (impl_moved.calls ((a0 * 2) % 256) t597 a1_0 a1_1 a1_2 a1_3 a1_4 a1_5 t598 t599 t600 t601 t602 t603 t604 _ A4.out).mono ?_
  rintro e w8 ⟨rfl, hb⟩
  refine ⟨_, rfl, ?_⟩
  have n0_ := Aside0.mk (blk_below (g := gb595) (o := .cells #[.bool a1_0, .bool a1_1, .bool a1_2, .bool a1_3, .bool a1_4, .bool a1_5] 40 (0, 0)) (by (with_reducible repeat (first | refine blk_drewN ?_ _ | refine blk_drew ?_ | refine blk_alloc ?_ _)); exact BK595.out) hb)
  have n1_ := Aside0.mk (blk_below (g := gb596) (o := .cells #[.bool false, .bool false, .bool false, .bool false, .bool false, .bool false] 40 (0, 0)) (by (with_reducible repeat (first | refine blk_drewN ?_ _ | refine blk_drew ?_ | refine blk_alloc ?_ _)); exact BK596.out) hb)
  have n2_ := Aside0.mk (below_step (by repeat (first | (with_reducible first | exact HB.out | apply below_alloc | apply pw_below_drewN | apply below_drew1 | refine below_set ?_ GE595.out | refine below_set ?_ GE596.out) | exact HB.out)) hb)
  clear BK595
  clear BK596
  clear HB
  have BK595 := n0_
  have BK596 := n1_
  have HB := n2_
  clear n0_ n1_ n2_
  (try clear hb)
  (try clear hb2)
  (try clear hk)
  (try clear hi)
  refine hK.out _ _ ⟨(blk_cell BK595.out 0).trans rfl, (blk_cell BK595.out 1).trans rfl, (blk_cell BK595.out 2).trans rfl, (blk_cell BK595.out 3).trans rfl, (blk_cell BK595.out 4).trans rfl, (blk_cell BK595.out 5).trans rfl⟩ (fun hHeld => ?_)
  clear hK K
  refine norm_ (a' := ?_) ?_ ?_
  rotate_left
  · show Act.put _ (some 11) _ = _
    simp only [Act.put, List.setIfInBounds_toArray, List.set_cons_zero, List.set_cons_succ, i64_w, i32_w]
    rfl
  refine pure_ (i := 6) (N := some 12) (v := ?_) (a' := ?_) #[true, true, true, true, true, true, true, false, false, false] rfl rfl (any_of HT_.out (by kernel_rfl)) (fun _ _ _ h => h) (Or.inl ⟨by rfl, ?_⟩) ?_ ?_
  rotate_left
  · intro w'
    go_simp
    with_reducible rfl
  rotate_left
  · simp only [Act.put, List.setIfInBounds_toArray, List.set_cons_zero, List.set_cons_succ, i64_w, i32_w]
    rfl
  refine pure_ (i := 7) (N := some 13) (v := ?_) (a' := ?_) #[true, true, true, true, true, true, true, true, false, false] rfl rfl (any_of HT_.out (by kernel_rfl)) (fun _ _ _ h => h) (Or.inl ⟨by rfl, ?_⟩) ?_ ?_
  rotate_left
  · intro w'
    go_simp
    with_reducible rfl
  rotate_left
  · simp only [Act.put, List.setIfInBounds_toArray, List.set_cons_zero, List.set_cons_succ, i64_w, i32_w]
    rfl
  refine pure_ (i := 8) (N := some 4) (v := ?_) (a' := ?_) #[true, true, true, true, true, true, true, true, true, false] rfl rfl (any_of HT_.out (by kernel_rfl)) (fun _ _ _ h => h) (Or.inl ⟨by rfl, ?_⟩) ?_ ?_
  rotate_left
  · intro w'
    go_simp
    with_reducible rfl
  rotate_left
  · simp only [Act.put, List.setIfInBounds_toArray, List.set_cons_zero, List.set_cons_succ, i64_w, i32_w]
    rfl
  refine one_ (i := 9) (N := none) #[true, true, true, true, true, true, true, true, true, true] rfl rfl (one_of HT_.out (by kernel_rfl)) (by decide) (fun K hK => ?_)
  have hs9 : w8.cell? ⟨gb596, 0, none⟩ = some (.bool false) := (blk_cell BK596.out 0).trans rfl
  have hfs9 := blk_frozen BK596.out 0
  have hns9_0 := NB595_596.out
  have hms9_0 := NB596_595.out
  have hs10 : w8.cell? ⟨gb596, 1, none⟩ = some (.bool false) := (blk_cell BK596.out 1).trans rfl
  have hfs10 := blk_frozen BK596.out 1
  have hns10_0 := NB595_596.out
  have hms10_0 := NB596_595.out
  have hs11 : w8.cell? ⟨gb596, 2, none⟩ = some (.bool false) := (blk_cell BK596.out 2).trans rfl
  have hfs11 := blk_frozen BK596.out 2
  have hns11_0 := NB595_596.out
  have hms11_0 := NB596_595.out
  have hs12 : w8.cell? ⟨gb596, 3, none⟩ = some (.bool false) := (blk_cell BK596.out 3).trans rfl
  have hfs12 := blk_frozen BK596.out 3
  have hns12_0 := NB595_596.out
  have hms12_0 := NB596_595.out
  have hs13 : w8.cell? ⟨gb596, 4, none⟩ = some (.bool false) := (blk_cell BK596.out 4).trans rfl
  have hfs13 := blk_frozen BK596.out 4
  have hns13_0 := NB595_596.out
  have hms13_0 := NB596_595.out
  have hs14 : w8.cell? ⟨gb596, 5, none⟩ = some (.bool false) := (blk_cell BK596.out 5).trans rfl
  have hfs14 := blk_frozen BK596.out 5
  have hns14_0 := NB595_596.out
  have hms14_0 := NB596_595.out
  refine skip_ (w1 := ?_) (by rfl) rfl ?_ ?_
  rotate_left
  · go_simp
    rfl
  refine hK.out _ _ ⟨((cell_far (p := ⟨gb596, _, none⟩) NB595_596.out _).trans (((cell_far (p := ⟨gb596, _, none⟩) NB595_596.out _).trans (((cell_far (p := ⟨gb596, _, none⟩) NB595_596.out _).trans (((cell_far (p := ⟨gb596, _, none⟩) NB595_596.out _).trans (((cell_far (p := ⟨gb596, _, none⟩) NB595_596.out _).trans (((cell_far (p := ⟨gb596, _, none⟩) NB595_596.out _).trans (hHeld.1)))))))))))), ((cell_far (p := ⟨gb596, _, none⟩) NB595_596.out _).trans (((cell_far (p := ⟨gb596, _, none⟩) NB595_596.out _).trans (((cell_far (p := ⟨gb596, _, none⟩) NB595_596.out _).trans (((cell_far (p := ⟨gb596, _, none⟩) NB595_596.out _).trans (((cell_far (p := ⟨gb596, _, none⟩) NB595_596.out _).trans (((cell_far (p := ⟨gb596, _, none⟩) NB595_596.out _).trans (hHeld.2.1)))))))))))), ((cell_far (p := ⟨gb596, _, none⟩) NB595_596.out _).trans (((cell_far (p := ⟨gb596, _, none⟩) NB595_596.out _).trans (((cell_far (p := ⟨gb596, _, none⟩) NB595_596.out _).trans (((cell_far (p := ⟨gb596, _, none⟩) NB595_596.out _).trans (((cell_far (p := ⟨gb596, _, none⟩) NB595_596.out _).trans (((cell_far (p := ⟨gb596, _, none⟩) NB595_596.out _).trans (hHeld.2.2.1)))))))))))), ((cell_far (p := ⟨gb596, _, none⟩) NB595_596.out _).trans (((cell_far (p := ⟨gb596, _, none⟩) NB595_596.out _).trans (((cell_far (p := ⟨gb596, _, none⟩) NB595_596.out _).trans (((cell_far (p := ⟨gb596, _, none⟩) NB595_596.out _).trans (((cell_far (p := ⟨gb596, _, none⟩) NB595_596.out _).trans (((cell_far (p := ⟨gb596, _, none⟩) NB595_596.out _).trans (hHeld.2.2.2.1)))))))))))), ((cell_far (p := ⟨gb596, _, none⟩) NB595_596.out _).trans (((cell_far (p := ⟨gb596, _, none⟩) NB595_596.out _).trans (((cell_far (p := ⟨gb596, _, none⟩) NB595_596.out _).trans (((cell_far (p := ⟨gb596, _, none⟩) NB595_596.out _).trans (((cell_far (p := ⟨gb596, _, none⟩) NB595_596.out _).trans (((cell_far (p := ⟨gb596, _, none⟩) NB595_596.out _).trans (hHeld.2.2.2.2.1)))))))))))), ((cell_far (p := ⟨gb596, _, none⟩) NB595_596.out _).trans (((cell_far (p := ⟨gb596, _, none⟩) NB595_596.out _).trans (((cell_far (p := ⟨gb596, _, none⟩) NB595_596.out _).trans (((cell_far (p := ⟨gb596, _, none⟩) NB595_596.out _).trans (((cell_far (p := ⟨gb596, _, none⟩) NB595_596.out _).trans (((cell_far (p := ⟨gb596, _, none⟩) NB595_596.out _).trans (hHeld.2.2.2.2.2))))))))))))⟩ (fun hHeld => ?_)
  clear hK K
  refine done_ (done_of HT_.out (by kernel_rfl)) ?_
  try go_wp2
  refine bodyPost_ret (results_tc rfl _ _ gb596 40 #[.bool t599, .bool t600, .bool t601, .bool t602, .bool t603, .bool t604] (0, 0) _ rfl (by (with_reducible repeat (first | refine blk_drewN ?_ _ | refine blk_drew ?_ | refine blk_alloc ?_ _)); refine blk_put (cs := #[.bool t599, .bool t600, .bool t601, .bool t602, .bool t603, .bool false]) ?_ 5 _ rfl; (with_reducible repeat (first | refine blk_drewN ?_ _ | refine blk_drew ?_ | refine blk_alloc ?_ _)); refine blk_put (cs := #[.bool t599, .bool t600, .bool t601, .bool t602, .bool false, .bool false]) ?_ 4 _ rfl; (with_reducible repeat (first | refine blk_drewN ?_ _ | refine blk_drew ?_ | refine blk_alloc ?_ _)); refine blk_put (cs := #[.bool t599, .bool t600, .bool t601, .bool false, .bool false, .bool false]) ?_ 3 _ rfl; (with_reducible repeat (first | refine blk_drewN ?_ _ | refine blk_drew ?_ | refine blk_alloc ?_ _)); refine blk_put (cs := #[.bool t599, .bool t600, .bool false, .bool false, .bool false, .bool false]) ?_ 2 _ rfl; (with_reducible repeat (first | refine blk_drewN ?_ _ | refine blk_drew ?_ | refine blk_alloc ?_ _)); refine blk_put (cs := #[.bool t599, .bool false, .bool false, .bool false, .bool false, .bool false]) ?_ 1 _ rfl; (with_reducible repeat (first | refine blk_drewN ?_ _ | refine blk_drew ?_ | refine blk_alloc ?_ _)); refine blk_put (cs := #[.bool false, .bool false, .bool false, .bool false, .bool false, .bool false]) ?_ 0 _ rfl; (with_reducible repeat (first | refine blk_drewN ?_ _ | refine blk_drew ?_ | refine blk_alloc ?_ _)); exact BK596.out) Try.underlying40 rfl (by kernel_rfl)) rfl ?_
  exact ⟨by first | rfl | (simp [errW_none, errW_some] <;> rfl) | (simp [*, errW_none, errW_some] <;> rfl), by repeat (first | (with_reducible first | exact HB.out | apply below_alloc | apply pw_below_drewN | apply below_drew1 | refine below_set ?_ GE595.out | refine below_set ?_ GE596.out) | exact HB.out)⟩

/-! ### impl_Lsr: function 51 -/
def impl_Lsr.f (a0 : Int) (a1_0 : Bool) (a1_1 : Bool) (a1_2 : Bool) (a1_3 : Bool) (a1_4 : Bool) (a1_5 : Bool) : Option (Int × Bool × Bool × Bool × Bool × Bool × Bool) := (impl_has.f a0 0).bind fun t607 => ((impl_moved.f (a0 / 2) t607 a1_0 a1_1 a1_2 a1_3 a1_4 a1_5).bind fun bt608 => (some (bt608.1, bt608.2.1, bt608.2.2.1, bt608.2.2.2.1, bt608.2.2.2.2.1, bt608.2.2.2.2.2.1, bt608.2.2.2.2.2.2)))
def impl_Lsr.T1 : Bool × List (List Nat × List Nat) := (true, [([], []), ([0], [0]), ([], []), ([2], [2]), ([], []), ([1, 3, 4, 3], [1, 3, 4]), ([5], [5]), ([5], [5]), ([6, 5, 0, 1, 2, 3, 4, 5, 6, 7], [6]), ([7, 8, 0, 1, 2, 3, 4, 5, 6, 7, 8], [7])])
def impl_Lsr.B1 : List Nat := [0, 1, 0, 4, 0, 31, 63, 63, 255, 511]
theorem impl_Lsr.tab1 : rtab .any (opsOf Try.f51 1) = impl_Lsr.T1 := by kernel_rfl
theorem impl_Lsr.bits1 : waitsOk impl_Lsr.T1.2 impl_Lsr.B1 = true := by kernel_rfl
set_option maxHeartbeats 8000000 in
set_option maxRecDepth 100000 in
theorem impl_Lsr.calls (a0 : Int) (a1_0 : Bool) (a1_1 : Bool) (a1_2 : Bool) (a1_3 : Bool) (a1_4 : Bool) (a1_5 : Bool) (r1 : Int) (r2 : Bool) (r3 : Bool) (r4 : Bool) (r5 : Bool) (r6 : Bool) (r7 : Bool) (w : World) (h : impl_Lsr.f a0 a1_0 a1_1 a1_2 a1_3 a1_4 a1_5 = some (r1, r2, r3, r4, r5, r6, r7)) :
    Calls Try.prog 51 #[.int .u8 a0, .agg #[.bool a1_0, .bool a1_1, .bool a1_2, .bool a1_3, .bool a1_4, .bool a1_5]] w fun e w' => e = .returned (.tuple #[.int .u8 r1, .agg #[.bool r2, .bool r3, .bool r4, .bool r5, .bool r6, .bool r7]]) ∧ Below w.heap.size w w' := by
  have hu40 := Try.underlying40
  have HB := Aside0.mk (Below.refl w.heap.size w)
  have H : ((impl_has.f a0 0).bind fun t607 => ((impl_moved.f (a0 / 2) t607 a1_0 a1_1 a1_2 a1_3 a1_4 a1_5).bind fun bt608 => (some (bt608.1, bt608.2.1, bt608.2.2.1, bt608.2.2.2.1, bt608.2.2.2.2.1, bt608.2.2.2.2.2.1, bt608.2.2.2.2.2.2)))) = some (r1, r2, r3, r4, r5, r6, r7) := h
  clear h
  replace H := Option.bind_eq_some_iff.mp H
  obtain ⟨t607, A30, H⟩ := H
  replace H : ((impl_moved.f (a0 / 2) t607 a1_0 a1_1 a1_2 a1_3 a1_4 a1_5).bind fun bt608 => (some (bt608.1, bt608.2.1, bt608.2.2.1, bt608.2.2.2.1, bt608.2.2.2.2.1, bt608.2.2.2.2.2.1, bt608.2.2.2.2.2.2))) = some (r1, r2, r3, r4, r5, r6, r7) := H
  have A3 := Aside0.mk A30
  clear A30
  replace H := Option.bind_eq_some_iff.mp H
  obtain ⟨⟨t608, t609, t610, t611, t612, t613, t614⟩, A40, H⟩ := H
  replace H : (some (t608, t609, t610, t611, t612, t613, t614)) = some (r1, r2, r3, r4, r5, r6, r7) := H
  have A4 := Aside0.mk A40
  clear A40
  simp only [Option.some.injEq, Prod.mk.injEq] at H
  obtain ⟨rfl, rfl, rfl, rfl, rfl, rfl, rfl⟩ := H
  go_enter Try.func51, Try.ntmps51
  try go_wp2_with (first | ((with_reducible refine gate_dst (N := 3) rfl ?_); refine box_event ?hg (N := 3) ?hd (cs := #[.bool a1_0, .bool a1_1, .bool a1_2, .bool a1_3, .bool a1_4, .bool a1_5]) (t := 40) ?hr ?_; (case hd => rfl); (case hg => rfl); (case hr => first | (go_simp; done) | (go_simp; rfl)); intro gb605 hg w5 hbox hb; have n0_ := Aside0.mk (below_step (by repeat (first | (with_reducible first | exact HB.out | apply below_alloc | apply pw_below_drewN | apply below_drew1) | exact HB.out)) hb); have n1_ := Aside0.mk (hbox); have n2_ := Aside0.mk ((by rw [hg]; exact (below_size (by repeat (first | (with_reducible first | exact HB.out | apply below_alloc | apply pw_below_drewN | apply below_drew1) | exact HB.out))) : w.heap.size ≤ gb605)); have n3_ := Aside0.mk ((by rw [hg]; exact (below_size (by repeat (first | (with_reducible first | exact HB.out | apply below_alloc | apply pw_below_drewN | apply below_drew1) | exact HB.out))) : w.heap.size ≤ gb605)); clear HB; have HB := n0_; have BK605 := n1_; have GW605 := n2_; have GE605 := n3_; clear n0_ n1_ n2_ n3_; clear hb hbox hg) | ((with_reducible refine gate_dst (N := 5) rfl ?_); refine box_event ?hg (N := 5) ?hd (cs := #[.bool false, .bool false, .bool false, .bool false, .bool false, .bool false]) (t := 40) ?hr ?_; (case hd => rfl); (case hg => rfl); (case hr => first | (go_simp; done) | (go_simp; rfl)); intro gb606 hg w6 hbox hb; have n0_ := Aside0.mk (blk_below (g := gb605) (o := .cells #[.bool a1_0, .bool a1_1, .bool a1_2, .bool a1_3, .bool a1_4, .bool a1_5] 40 (0, 0)) (by (with_reducible repeat (first | refine blk_drewN ?_ _ | refine blk_drew ?_ | refine blk_alloc ?_ _)); exact BK605.out) hb); have n1_ := Aside0.mk (below_step (by repeat (first | (with_reducible first | exact HB.out | apply below_alloc | apply pw_below_drewN | apply below_drew1 | refine below_set ?_ GE605.out) | exact HB.out)) hb); have n2_ := Aside0.mk (hbox); have n3_ := Aside0.mk ((by rw [hg]; exact (below_size (by repeat (first | (with_reducible first | exact HB.out | apply below_alloc | apply pw_below_drewN | apply below_drew1 | refine below_set ?_ GE605.out) | exact HB.out))) : w.heap.size ≤ gb606)); have n4_ := Aside0.mk ((by rw [hg]; exact (below_size (by repeat (first | (with_reducible first | exact HB.out | apply below_alloc | apply pw_below_drewN | apply below_drew1 | refine below_set ?_ GE605.out) | exact HB.out))) : w.heap.size ≤ gb606)); have n5_ := Aside0.mk ((by rw [hg]; exact Nat.ne_of_lt (blk_lt (g := gb605) (o := .cells #[.bool a1_0, .bool a1_1, .bool a1_2, .bool a1_3, .bool a1_4, .bool a1_5] 40 (0, 0)) (by (with_reducible repeat (first | refine blk_drewN ?_ _ | refine blk_drew ?_ | refine blk_alloc ?_ _)); exact BK605.out)) : gb605 ≠ gb606)); have n6_ := Aside0.mk ((by rw [hg]; exact Nat.ne_of_gt (blk_lt (g := gb605) (o := .cells #[.bool a1_0, .bool a1_1, .bool a1_2, .bool a1_3, .bool a1_4, .bool a1_5] 40 (0, 0)) (by (with_reducible repeat (first | refine blk_drewN ?_ _ | refine blk_drew ?_ | refine blk_alloc ?_ _)); exact BK605.out)) : gb606 ≠ gb605)); clear BK605; clear HB; have BK605 := n0_; have HB := n1_; have BK606 := n2_; have GW606 := n3_; have GE606 := n4_; have NB605_606 := n5_; have NB606_605 := n6_; clear n0_ n1_ n2_ n3_ n4_ n5_ n6_; clear hb hbox hg))
  have n0_ := Aside0.mk (blk_drew BK605.out)
  have n1_ := Aside0.mk (blk_drew BK606.out)
  have n2_ := Aside0.mk (below_drew1 HB.out)
  clear BK605
  clear BK606
  clear HB
  have BK605 := n0_
  have BK606 := n1_
  have HB := n2_
  clear n0_ n1_ n2_
  refine start_ (n := 10) (S := fun w' => w'.cell? ⟨gb605, 0, none⟩ = some (.bool a1_0) ∧ w'.cell? ⟨gb605, 1, none⟩ = some (.bool a1_1) ∧ w'.cell? ⟨gb605, 2, none⟩ = some (.bool a1_2) ∧ w'.cell? ⟨gb605, 3, none⟩ = some (.bool a1_3) ∧ w'.cell? ⟨gb605, 4, none⟩ = some (.bool a1_4) ∧ w'.cell? ⟨gb605, 5, none⟩ = some (.bool a1_5)) (ds := []) #[false, false, false, false, false, false, false, false, false, false] (by kernel_rfl) rfl rfl ⟨(blk_cell BK605.out 0).trans rfl, (blk_cell BK605.out 1).trans rfl, (blk_cell BK605.out 2).trans rfl, (blk_cell BK605.out 3).trans rfl, (blk_cell BK605.out 4).trans rfl, (blk_cell BK605.out 5).trans rfl⟩ (fun hHeld => ?_); refine with_tabW impl_Lsr.tab1 impl_Lsr.bits1 (fun HT_ HW_ => ?_)
  generalize w6.drew = w7 at BK605 BK606 HB hHeld ⊢
  refine pure_ (i := 0) (N := some 6) (v := ?_) (a' := ?_) #[true, false, false, false, false, false, false, false, false, false] rfl rfl (any_of HT_.out (by kernel_rfl)) (fun _ _ _ h => h) (Or.inl ⟨by rfl, ?_⟩) ?_ ?_
  rotate_left
  · intro w'
    go_simp
    with_reducible rfl
  rotate_left
  · simp only [Act.put, List.setIfInBounds_toArray, List.set_cons_zero, List.set_cons_succ, i64_w, i32_w]
    rfl
  refine pure_ (i := 1) (N := some 7) (v := ?_) (a' := ?_) #[true, true, false, false, false, false, false, false, false, false] rfl rfl (any_of HT_.out (by kernel_rfl)) (fun _ _ _ h => h) (Or.inl ⟨by rfl, ?_⟩) ?_ ?_
  rotate_left
  · intro w'
    go_simp
    with_reducible rfl
  rotate_left
  · simp only [Act.put, List.setIfInBounds_toArray, List.set_cons_zero, List.set_cons_succ, i64_w, i32_w]
    rfl
  refine pure_ (i := 2) (N := some 8) (v := ?_) (a' := ?_) #[true, true, true, false, false, false, false, false, false, false] rfl rfl (any_of HT_.out (by kernel_rfl)) (fun _ _ _ h => h) (Or.inl ⟨by rfl, ?_⟩) ?_ ?_
  rotate_left
  · intro w'
    go_simp
    with_reducible rfl
  rotate_left
  · simp only [Act.put, List.setIfInBounds_toArray, List.set_cons_zero, List.set_cons_succ, i64_w, i32_w]
    rfl
  refine take_ (i := 4) (N := some 10) (v := ?_) (a' := ?_) #[true, true, true, false, true, false, false, false, false, false] rfl rfl (take_ofW HT_.out HW_.out (by kernel_rfl)) (fun _ _ _ h => h) (Or.inl ⟨by rfl, ?_⟩) hHeld ?_ ?_
  rotate_left
  · rintro w' ⟨s0, s1, s2, s3, s4, s5⟩
    go_simp
    with_reducible rfl
  rotate_left
  · simp only [Act.put, List.setIfInBounds_toArray, List.set_cons_zero, List.set_cons_succ, i64_w, i32_w]
    rfl
  refine one_ (i := 3) (N := some 9) #[true, true, true, true, true, false, false, false, false, false] rfl rfl (one_of HT_.out (by kernel_rfl)) (by decide) (fun K hK => ?_)
  refine goes_ Try.func90 (by kernel_rfl) rfl #[.int .u8 a0, .int .i64 0] (by rfl) rfl rfl (by (try simp only [List.map_toArray, List.map_cons, List.map_nil]); first | done | rfl | (simp only [List.length_drop, List.length_take]; rfl)) ?_
  with_reducible refine (impl_has.calls a0 0 t607 _ A3.out).mono ?_
  rintro e w' ⟨rfl, ⟨nd, rfl⟩⟩
  refine ⟨_, rfl, ?_⟩
  refine hK.out _ _ ⟨(blk_cell BK605.out 0).trans rfl, (blk_cell BK605.out 1).trans rfl, (blk_cell BK605.out 2).trans rfl, (blk_cell BK605.out 3).trans rfl, (blk_cell BK605.out 4).trans rfl, (blk_cell BK605.out 5).trans rfl⟩ (fun hHeld => ?_)
  clear hK K
  refine norm_ (a' := ?_) ?_ ?_
  rotate_left
  · show Act.put _ (some 9) _ = _
    simp only [Act.put, List.setIfInBounds_toArray, List.set_cons_zero, List.set_cons_succ, i64_w, i32_w]
    rfl
  refine one_ (i := 5) (N := some 11) #[true, true, true, true, true, true, false, false, false, false] rfl rfl (one_of HT_.out (by kernel_rfl)) (by decide) (fun K hK => ?_)
  refine goes_ Try.func89 (by kernel_rfl) rfl #[.int .u8 (a0 / 2), .bool t607, .agg #[.bool a1_0, .bool a1_1, .bool a1_2, .bool a1_3, .bool a1_4, .bool a1_5]] (by rfl) rfl rfl (by (try simp only [List.map_toArray, List.map_cons, List.map_nil]); first | done | rfl | (simp only [List.length_drop, List.length_take]; rfl)) ?_
  with_reducible refine (impl_moved.calls (a0 / 2) t607 a1_0 a1_1 a1_2 a1_3 a1_4 a1_5 t608 t609 t610 t611 t612 t613 t614 _ A4.out).mono ?_
  rintro e w8 ⟨rfl, hb⟩
  refine ⟨_, rfl, ?_⟩
  have n0_ := Aside0.mk (blk_below (g := gb605) (o := .cells #[.bool a1_0, .bool a1_1, .bool a1_2, .bool a1_3, .bool a1_4, .bool a1_5] 40 (0, 0)) (by (with_reducible repeat (first | refine blk_drewN ?_ _ | refine blk_drew ?_ | refine blk_alloc ?_ _)); exact BK605.out) hb)
  have n1_ := Aside0.mk (blk_below (g := gb606) (o := .cells #[.bool false, .bool false, .bool false, .bool false, .bool false, .bool false] 40 (0, 0)) (by (with_reducible repeat (first | refine blk_drewN ?_ _ | refine blk_drew ?_ | refine blk_alloc ?_ _)); exact BK606.out) hb)
  have n2_ := Aside0.mk (below_step (by repeat (first | (with_reducible first | exact HB.out | apply below_alloc | apply pw_below_drewN | apply below_drew1 | refine below_set ?_ GE605.out | refine below_set ?_ GE606.out) | exact HB.out)) hb)
  clear BK605
  clear BK606
  clear HB
  have BK605 := n0_
  have BK606 := n1_
  have HB := n2_
  clear n0_ n1_ n2_
  (try clear hb)
  (try clear hb2)
  (try clear hk)
  (try clear hi)
  refine hK.out _ _ ⟨(blk_cell BK605.out 0).trans rfl, (blk_cell BK605.out 1).trans rfl, (blk_cell BK605.out 2).trans rfl, (blk_cell BK605.out 3).trans rfl, (blk_cell BK605.out 4).trans rfl, (blk_cell BK605.out 5).trans rfl⟩ (fun hHeld => ?_)
  clear hK K
  refine norm_ (a' := ?_) ?_ ?_
  rotate_left
  · show Act.put _ (some 11) _ = _
    simp only [Act.put, List.setIfInBounds_toArray, List.set_cons_zero, List.set_cons_succ, i64_w, i32_w]
    rfl
  refine pure_ (i := 6) (N := some 12) (v := ?_) (a' := ?_) #[true, true, true, true, true, true, true, false, false, false] rfl rfl (any_of HT_.out (by kernel_rfl)) (fun _ _ _ h => h) (Or.inl ⟨by rfl, ?_⟩) ?_ ?_
  rotate_left
  · intro w'
    go_simp
    with_reducible rfl
  rotate_left
  · simp only [Act.put, List.setIfInBounds_toArray, List.set_cons_zero, List.set_cons_succ, i64_w, i32_w]
    rfl
  refine pure_ (i := 7) (N := some 13) (v := ?_) (a' := ?_) #[true, true, true, true, true, true, true, true, false, false] rfl rfl (any_of HT_.out (by kernel_rfl)) (fun _ _ _ h => h) (Or.inl ⟨by rfl, ?_⟩) ?_ ?_
  rotate_left
  · intro w'
    go_simp
    with_reducible rfl
  rotate_left
  · simp only [Act.put, List.setIfInBounds_toArray, List.set_cons_zero, List.set_cons_succ, i64_w, i32_w]
    rfl
  refine pure_ (i := 8) (N := some 4) (v := ?_) (a' := ?_) #[true, true, true, true, true, true, true, true, true, false] rfl rfl (any_of HT_.out (by kernel_rfl)) (fun _ _ _ h => h) (Or.inl ⟨by rfl, ?_⟩) ?_ ?_
  rotate_left
  · intro w'
    go_simp
    with_reducible rfl
  rotate_left
  · simp only [Act.put, List.setIfInBounds_toArray, List.set_cons_zero, List.set_cons_succ, i64_w, i32_w]
    rfl
  refine one_ (i := 9) (N := none) #[true, true, true, true, true, true, true, true, true, true] rfl rfl (one_of HT_.out (by kernel_rfl)) (by decide) (fun K hK => ?_)
  have hs9 : w8.cell? ⟨gb606, 0, none⟩ = some (.bool false) := (blk_cell BK606.out 0).trans rfl
  have hfs9 := blk_frozen BK606.out 0
  have hns9_0 := NB605_606.out
  have hms9_0 := NB606_605.out
  have hs10 : w8.cell? ⟨gb606, 1, none⟩ = some (.bool false) := (blk_cell BK606.out 1).trans rfl
  have hfs10 := blk_frozen BK606.out 1
  have hns10_0 := NB605_606.out
  have hms10_0 := NB606_605.out
  have hs11 : w8.cell? ⟨gb606, 2, none⟩ = some (.bool false) := (blk_cell BK606.out 2).trans rfl
  have hfs11 := blk_frozen BK606.out 2
  have hns11_0 := NB605_606.out
  have hms11_0 := NB606_605.out
  have hs12 : w8.cell? ⟨gb606, 3, none⟩ = some (.bool false) := (blk_cell BK606.out 3).trans rfl
  have hfs12 := blk_frozen BK606.out 3
  have hns12_0 := NB605_606.out
  have hms12_0 := NB606_605.out
  have hs13 : w8.cell? ⟨gb606, 4, none⟩ = some (.bool false) := (blk_cell BK606.out 4).trans rfl
  have hfs13 := blk_frozen BK606.out 4
  have hns13_0 := NB605_606.out
  have hms13_0 := NB606_605.out
  have hs14 : w8.cell? ⟨gb606, 5, none⟩ = some (.bool false) := (blk_cell BK606.out 5).trans rfl
  have hfs14 := blk_frozen BK606.out 5
  have hns14_0 := NB605_606.out
  have hms14_0 := NB606_605.out
  refine skip_ (w1 := ?_) (by rfl) rfl ?_ ?_
  rotate_left
  · go_simp
    rfl
  refine hK.out _ _ ⟨((cell_far (p := ⟨gb606, _, none⟩) NB605_606.out _).trans (((cell_far (p := ⟨gb606, _, none⟩) NB605_606.out _).trans (((cell_far (p := ⟨gb606, _, none⟩) NB605_606.out _).trans (((cell_far (p := ⟨gb606, _, none⟩) NB605_606.out _).trans (((cell_far (p := ⟨gb606, _, none⟩) NB605_606.out _).trans (((cell_far (p := ⟨gb606, _, none⟩) NB605_606.out _).trans (hHeld.1)))))))))))), ((cell_far (p := ⟨gb606, _, none⟩) NB605_606.out _).trans (((cell_far (p := ⟨gb606, _, none⟩) NB605_606.out _).trans (((cell_far (p := ⟨gb606, _, none⟩) NB605_606.out _).trans (((cell_far (p := ⟨gb606, _, none⟩) NB605_606.out _).trans (((cell_far (p := ⟨gb606, _, none⟩) NB605_606.out _).trans (((cell_far (p := ⟨gb606, _, none⟩) NB605_606.out _).trans (hHeld.2.1)))))))))))), ((cell_far (p := ⟨gb606, _, none⟩) NB605_606.out _).trans (((cell_far (p := ⟨gb606, _, none⟩) NB605_606.out _).trans (((cell_far (p := ⟨gb606, _, none⟩) NB605_606.out _).trans (((cell_far (p := ⟨gb606, _, none⟩) NB605_606.out _).trans (((cell_far (p := ⟨gb606, _, none⟩) NB605_606.out _).trans (((cell_far (p := ⟨gb606, _, none⟩) NB605_606.out _).trans (hHeld.2.2.1)))))))))))), ((cell_far (p := ⟨gb606, _, none⟩) NB605_606.out _).trans (((cell_far (p := ⟨gb606, _, none⟩) NB605_606.out _).trans (((cell_far (p := ⟨gb606, _, none⟩) NB605_606.out _).trans (((cell_far (p := ⟨gb606, _, none⟩) NB605_606.out _).trans (((cell_far (p := ⟨gb606, _, none⟩) NB605_606.out _).trans (((cell_far (p := ⟨gb606, _, none⟩) NB605_606.out _).trans (hHeld.2.2.2.1)))))))))))), ((cell_far (p := ⟨gb606, _, none⟩) NB605_606.out _).trans (((cell_far (p := ⟨gb606, _, none⟩) NB605_606.out _).trans (((cell_far (p := ⟨gb606, _, none⟩) NB605_606.out _).trans (((cell_far (p := ⟨gb606, _, none⟩) NB605_606.out _).trans (((cell_far (p := ⟨gb606, _, none⟩) NB605_606.out _).trans (((cell_far (p := ⟨gb606, _, none⟩) NB605_606.out _).trans (hHeld.2.2.2.2.1)))))))))))), ((cell_far (p := ⟨gb606, _, none⟩) NB605_606.out _).trans (((cell_far (p := ⟨gb606, _, none⟩) NB605_606.out _).trans (((cell_far (p := ⟨gb606, _, none⟩) NB605_606.out _).trans (((cell_far (p := ⟨gb606, _, none⟩) NB605_606.out _).trans (((cell_far (p := ⟨gb606, _, none⟩) NB605_606.out _).trans (((cell_far (p := ⟨gb606, _, none⟩) NB605_606.out _).trans (hHeld.2.2.2.2.2))))))))))))⟩ (fun hHeld => ?_)
  clear hK K
  refine done_ (done_of HT_.out (by kernel_rfl)) ?_
  try go_wp2
  refine bodyPost_ret (results_tc rfl _ _ gb606 40 #[.bool t609, .bool t610, .bool t611, .bool t612, .bool t613, .bool t614] (0, 0) _ rfl (by (with_reducible repeat (first | refine blk_drewN ?_ _ | refine blk_drew ?_ | refine blk_alloc ?_ _)); refine blk_put (cs := #[.bool t609, .bool t610, .bool t611, .bool t612, .bool t613, .bool false]) ?_ 5 _ rfl; (with_reducible repeat (first | refine blk_drewN ?_ _ | refine blk_drew ?_ | refine blk_alloc ?_ _)); refine blk_put (cs := #[.bool t609, .bool t610, .bool t611, .bool t612, .bool false, .bool false]) ?_ 4 _ rfl; (with_reducible repeat (first | refine blk_drewN ?_ _ | refine blk_drew ?_ | refine blk_alloc ?_ _)); refine blk_put (cs := #[.bool t609, .bool t610, .bool t611, .bool false, .bool false, .bool false]) ?_ 3 _ rfl; (with_reducible repeat (first | refine blk_drewN ?_ _ | refine blk_drew ?_ | refine blk_alloc ?_ _)); refine blk_put (cs := #[.bool t609, .bool t610, .bool false, .bool false, .bool false, .bool false]) ?_ 2 _ rfl; (with_reducible repeat (first | refine blk_drewN ?_ _ | refine blk_drew ?_ | refine blk_alloc ?_ _)); refine blk_put (cs := #[.bool t609, .bool false, .bool false, .bool false, .bool false, .bool false]) ?_ 1 _ rfl; (with_reducible repeat (first | refine blk_drewN ?_ _ | refine blk_drew ?_ | refine blk_alloc ?_ _)); refine blk_put (cs := #[.bool false, .bool false, .bool false, .bool false, .bool false, .bool false]) ?_ 0 _ rfl; (with_reducible repeat (first | refine blk_drewN ?_ _ | refine blk_drew ?_ | refine blk_alloc ?_ _)); exact BK606.out) Try.underlying40 rfl (by kernel_rfl)) rfl ?_
  exact ⟨by first | rfl | (simp [errW_none, errW_some] <;> rfl) | (simp [*, errW_none, errW_some] <;> rfl), by repeat (first | (with_reducible first | exact HB.out | apply below_alloc | apply pw_below_drewN | apply below_drew1 | refine below_set ?_ GE605.out | refine below_set ?_ GE606.out) | exact HB.out)⟩

end Go.Proofs.Ythdeemkhbajfgaa.PAll
