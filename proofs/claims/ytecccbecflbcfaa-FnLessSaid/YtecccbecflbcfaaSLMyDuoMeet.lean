import Derived.Test.YtecccbecflbcfaaSLPDuox0
import Derived.Test.YtecccbecflbcfaaSLMyDuoKnowOk
import Derived.Deep.WholeRow
import Derived.StillTailTactics
import Derived.Test.YtecccbecflbcfaaSLMyFields
set_option linter.unusedVariables false
namespace Go.Proofs.Ytecccbecflbcfaa.PDuo
open Go.RowKit Go.Proofs.Ytecccbecflbcfaa.Know Go.Proofs.YtecccbecflbcfaaW.PrintWords Go.Proofs.YtecccbecflbcfaaW.PrintLast Go.Proofs.YtecccbecflbcfaaW.PrintMore
def meet1 (x y : Int) : Int := if x < 0 then y else x
def fits1 (x y : Int) : Bool := decide (x < 0) || !(decide (y ≥ 0) && (y != x))
def vals (l : List Int) : Array Value := (l.map (Value.int .i64)).toArray
theorem vals_at (l : List Int) (i : Nat) (h : i < l.length) : (vals l)[i]? = some (.int .i64 (pAt l i)) := by
  simp [vals, pAt, h]
theorem vals_set (l : List Int) (i : Nat) (v : Int) : (vals l).setIfInBounds i (.int .i64 v) = vals (l.set i v) := by
  simp [vals, List.map_set]
def mixUp (a b : List Int) (i : Nat) : List Int := (List.range 11).map fun j => if j < i then meet1 (pAt a j) (pAt b j) else pAt a j
theorem mixUp_len (a b : List Int) (i : Nat) : (mixUp a b i).length = 11 := by simp [mixUp]
theorem mixUp_at (a b : List Int) (i : Nat) (h : i < 11) : pAt (mixUp a b i) i = pAt a i := by
  simp [mixUp, pAt, h]
theorem mixUp_set (a b : List Int) (i : Nat) (h : i < 11) : (mixUp a b i).set i (meet1 (pAt a i) (pAt b i)) = mixUp a b (i + 1) := by
  apply List.ext_getElem
  · simp [mixUp]
  · intro j h1 h2
    simp only [mixUp, List.getElem_set, List.getElem_map, List.getElem_range]
    by_cases hj : i = j
    · subst hj; simp
    · rw [if_neg hj]
      by_cases hlt : j < i
      · rw [if_pos hlt, if_pos (by omega)]
      · rw [if_neg hlt, if_neg (by omega)]
theorem mixUp_keep (a b : List Int) (i : Nat) (h : i < 11) (hk : meet1 (pAt a i) (pAt b i) = pAt a i) : mixUp a b i = mixUp a b (i + 1) := by
  rw [← mixUp_set a b i h, hk, ← mixUp_at a b i h]
  apply List.ext_getElem
  · simp
  · intro j h1 h2
    rw [List.getElem_set]
    by_cases hj : i = j
    · subst hj; rw [if_pos rfl]; simp [pAt, h1]
    · rw [if_neg hj]
theorem vals_full (a0 a1 a2 a3 a4 a5 a6 a7 a8 a9 a10 b0 b1 b2 b3 b4 b5 b6 b7 b8 b9 b10 : Int) : vals (mixUp (ints a0 a1 a2 a3 a4 a5 a6 a7 a8 a9 a10) (ints b0 b1 b2 b3 b4 b5 b6 b7 b8 b9 b10) 11) = #[.int .i64 (meet1 a0 b0), .int .i64 (meet1 a1 b1), .int .i64 (meet1 a2 b2), .int .i64 (meet1 a3 b3), .int .i64 (meet1 a4 b4), .int .i64 (meet1 a5 b5), .int .i64 (meet1 a6 b6), .int .i64 (meet1 a7 b7), .int .i64 (meet1 a8 b8), .int .i64 (meet1 a9 b9), .int .i64 (meet1 a10 b10)] := rfl
def impl_Meet.f (a0 a1 a2 a3 a4 a5 a6 a7 a8 a9 a10 b0 b1 b2 b3 b4 b5 b6 b7 b8 b9 b10 : Int) : Option (Int × Int × Int × Int × Int × Int × Int × Int × Int × Int × Int × Bool) := (impl_KnowOk.f a0 a1 a2 a3 a4 a5 a6 a7 a8 a9 a10).bind fun ta => if ta = true then (impl_KnowOk.f b0 b1 b2 b3 b4 b5 b6 b7 b8 b9 b10).bind fun tb => if tb = true then (if (List.range 11).all (fun i => fits1 (pAt (ints a0 a1 a2 a3 a4 a5 a6 a7 a8 a9 a10) i) (pAt (ints b0 b1 b2 b3 b4 b5 b6 b7 b8 b9 b10) i)) = true then some (meet1 a0 b0, meet1 a1 b1, meet1 a2 b2, meet1 a3 b3, meet1 a4 b4, meet1 a5 b5, meet1 a6 b6, meet1 a7 b7, meet1 a8 b8, meet1 a9 b9, meet1 a10 b10, true) else some (0, 0, 0, 0, 0, 0, 0, 0, 0, 0, 0, false)) else some (0, 0, 0, 0, 0, 0, 0, 0, 0, 0, 0, false) else some (0, 0, 0, 0, 0, 0, 0, 0, 0, 0, 0, false)
set_option maxHeartbeats 8000000 in
set_option maxRecDepth 100000 in
theorem impl_Meet.calls (a0 a1 a2 a3 a4 a5 a6 a7 a8 a9 a10 b0 b1 b2 b3 b4 b5 b6 b7 b8 b9 b10 : Int) (r1 r2 r3 r4 r5 r6 r7 r8 r9 r10 r11 : Int) (r12 : Bool) (w : World) (h : impl_Meet.f a0 a1 a2 a3 a4 a5 a6 a7 a8 a9 a10 b0 b1 b2 b3 b4 b5 b6 b7 b8 b9 b10 = some (r1, r2, r3, r4, r5, r6, r7, r8, r9, r10, r11, r12)) : Calls Try.prog 31 #[.agg #[.int .i64 a0, .int .i64 a1, .int .i64 a2, .int .i64 a3, .int .i64 a4, .int .i64 a5, .int .i64 a6, .int .i64 a7, .int .i64 a8, .int .i64 a9, .int .i64 a10], .agg #[.int .i64 b0, .int .i64 b1, .int .i64 b2, .int .i64 b3, .int .i64 b4, .int .i64 b5, .int .i64 b6, .int .i64 b7, .int .i64 b8, .int .i64 b9, .int .i64 b10]] w fun e w' => e = .returned (.tuple #[.agg #[.int .i64 r1, .int .i64 r2, .int .i64 r3, .int .i64 r4, .int .i64 r5, .int .i64 r6, .int .i64 r7, .int .i64 r8, .int .i64 r9, .int .i64 r10, .int .i64 r11], .bool r12]) ∧ Below w.heap.size w w' := by
  have HB := Aside0.mk (Below.refl w.heap.size w)
  have hu66 := Try.underlying66
  have hu23 := Try.underlying23
  obtain ⟨ta, hta, h2⟩ := Option.bind_eq_some_iff.mp h
  clear h
  have h := h2
  clear h2
  go_enter Try.func31, Try.ntmps31
  try go_wp2_with (first | (((with_reducible refine gate_dst (N := 2) rfl ?_); refine box_event ?hg (N := 2) ?hd (cs := #[.int .i64 a0, .int .i64 a1, .int .i64 a2, .int .i64 a3, .int .i64 a4, .int .i64 a5, .int .i64 a6, .int .i64 a7, .int .i64 a8, .int .i64 a9, .int .i64 a10]) (t := 23) ?hr ?_; (case hd => rfl); (case hg => rfl); (case hr => first | (go_simp; done) | (go_simp; rfl)); intro ga hg w7 hbox hb; have n0_ := Aside0.mk (below_step (by repeat (first | (with_reducible first | exact HB.out | apply below_alloc | apply pw_below_drewN | apply below_drew1) | exact HB.out)) hb); have n1_ := Aside0.mk (hbox); have n2_ := Aside0.mk ((by rw [hg]; exact (below_size (by repeat (first | (with_reducible first | exact HB.out | apply below_alloc | apply pw_below_drewN | apply below_drew1) | exact HB.out))) : w.heap.size ≤ ga)); clear HB; have HB := n0_; have Bga := n1_; have Gga := n2_; clear n0_ n1_ n2_; clear hb hbox hg)) | (((with_reducible refine gate_dst (N := 3) rfl ?_); refine box_event ?hg (N := 3) ?hd (cs := #[.int .i64 b0, .int .i64 b1, .int .i64 b2, .int .i64 b3, .int .i64 b4, .int .i64 b5, .int .i64 b6, .int .i64 b7, .int .i64 b8, .int .i64 b9, .int .i64 b10]) (t := 23) ?hr ?_; (case hd => rfl); (case hg => rfl); (case hr => first | (go_simp; done) | (go_simp; rfl)); intro gb hg w8 hbox hb; have mBga := Aside0.mk ((hb.block _ (lt_size Bga.out)).trans Bga.out); clear Bga; have Bga := mBga; clear mBga; have n0_ := Aside0.mk (below_step (by repeat (first | (with_reducible first | exact HB.out | apply below_alloc | apply pw_below_drewN | apply below_drew1) | exact HB.out)) hb); have n1_ := Aside0.mk (hbox); have n2_ := Aside0.mk ((by rw [hg]; exact (below_size (by repeat (first | (with_reducible first | exact HB.out | apply below_alloc | apply pw_below_drewN | apply below_drew1) | exact HB.out))) : w.heap.size ≤ gb)); clear HB; have HB := n0_; have Bgb := n1_; have Ggb := n2_; clear n0_ n1_ n2_; clear hb hbox hg)) | (((with_reducible refine gate_dst (N := 4) rfl ?_); refine box_event ?hg (N := 4) ?hd (cs := #[.int .i64 0, .int .i64 0, .int .i64 0, .int .i64 0, .int .i64 0, .int .i64 0, .int .i64 0, .int .i64 0, .int .i64 0, .int .i64 0, .int .i64 0]) (t := 23) ?hr ?_; (case hd => rfl); (case hg => rfl); (case hr => first | (go_simp; done) | (go_simp; rfl)); intro gz hg w9 hbox hb; have mBga := Aside0.mk ((hb.block _ (lt_size Bga.out)).trans Bga.out); clear Bga; have Bga := mBga; clear mBga; have mBgb := Aside0.mk ((hb.block _ (lt_size Bgb.out)).trans Bgb.out); clear Bgb; have Bgb := mBgb; clear mBgb; have n0_ := Aside0.mk (below_step (by repeat (first | (with_reducible first | exact HB.out | apply below_alloc | apply pw_below_drewN | apply below_drew1) | exact HB.out)) hb); have n1_ := Aside0.mk (hbox); have n2_ := Aside0.mk ((by rw [hg]; exact (below_size (by repeat (first | (with_reducible first | exact HB.out | apply below_alloc | apply pw_below_drewN | apply below_drew1) | exact HB.out))) : w.heap.size ≤ gz)); clear HB; have HB := n0_; have Bgz := n1_; have Ggz := n2_; clear n0_ n1_ n2_; clear hb hbox hg; have hcga0 : w9.cell? ⟨ga, 0, none⟩ = some (.int .i64 a0) := (blk_cell Bga.out 0).trans rfl; have hcga1 : w9.cell? ⟨ga, 1, none⟩ = some (.int .i64 a1) := (blk_cell Bga.out 1).trans rfl; have hcga2 : w9.cell? ⟨ga, 2, none⟩ = some (.int .i64 a2) := (blk_cell Bga.out 2).trans rfl; have hcga3 : w9.cell? ⟨ga, 3, none⟩ = some (.int .i64 a3) := (blk_cell Bga.out 3).trans rfl; have hcga4 : w9.cell? ⟨ga, 4, none⟩ = some (.int .i64 a4) := (blk_cell Bga.out 4).trans rfl; have hcga5 : w9.cell? ⟨ga, 5, none⟩ = some (.int .i64 a5) := (blk_cell Bga.out 5).trans rfl; have hcga6 : w9.cell? ⟨ga, 6, none⟩ = some (.int .i64 a6) := (blk_cell Bga.out 6).trans rfl; have hcga7 : w9.cell? ⟨ga, 7, none⟩ = some (.int .i64 a7) := (blk_cell Bga.out 7).trans rfl; have hcga8 : w9.cell? ⟨ga, 8, none⟩ = some (.int .i64 a8) := (blk_cell Bga.out 8).trans rfl; have hcga9 : w9.cell? ⟨ga, 9, none⟩ = some (.int .i64 a9) := (blk_cell Bga.out 9).trans rfl; have hcga10 : w9.cell? ⟨ga, 10, none⟩ = some (.int .i64 a10) := (blk_cell Bga.out 10).trans rfl; have hcgb0 : w9.cell? ⟨gb, 0, none⟩ = some (.int .i64 b0) := (blk_cell Bgb.out 0).trans rfl; have hcgb1 : w9.cell? ⟨gb, 1, none⟩ = some (.int .i64 b1) := (blk_cell Bgb.out 1).trans rfl; have hcgb2 : w9.cell? ⟨gb, 2, none⟩ = some (.int .i64 b2) := (blk_cell Bgb.out 2).trans rfl; have hcgb3 : w9.cell? ⟨gb, 3, none⟩ = some (.int .i64 b3) := (blk_cell Bgb.out 3).trans rfl; have hcgb4 : w9.cell? ⟨gb, 4, none⟩ = some (.int .i64 b4) := (blk_cell Bgb.out 4).trans rfl; have hcgb5 : w9.cell? ⟨gb, 5, none⟩ = some (.int .i64 b5) := (blk_cell Bgb.out 5).trans rfl; have hcgb6 : w9.cell? ⟨gb, 6, none⟩ = some (.int .i64 b6) := (blk_cell Bgb.out 6).trans rfl; have hcgb7 : w9.cell? ⟨gb, 7, none⟩ = some (.int .i64 b7) := (blk_cell Bgb.out 7).trans rfl; have hcgb8 : w9.cell? ⟨gb, 8, none⟩ = some (.int .i64 b8) := (blk_cell Bgb.out 8).trans rfl; have hcgb9 : w9.cell? ⟨gb, 9, none⟩ = some (.int .i64 b9) := (blk_cell Bgb.out 9).trans rfl; have hcgb10 : w9.cell? ⟨gb, 10, none⟩ = some (.int .i64 b10) := (blk_cell Bgb.out 10).trans rfl)))
  refine (impl_KnowOk.calls a0 a1 a2 a3 a4 a5 a6 a7 a8 a9 a10 ta w9 hta).mono ?_
  rintro e wa ⟨rfl, hba⟩
  clear hcga0 hcga1 hcga2 hcga3 hcga4 hcga5 hcga6 hcga7 hcga8 hcga9 hcga10
  clear hcgb0 hcgb1 hcgb2 hcgb3 hcgb4 hcgb5 hcgb6 hcgb7 hcgb8 hcgb9 hcgb10
  have mga := Aside0.mk ((hba.block ga (lt_size Bga.out)).trans Bga.out)
  have mgb := Aside0.mk ((hba.block gb (lt_size Bgb.out)).trans Bgb.out)
  have mgz := Aside0.mk ((hba.block gz (lt_size Bgz.out)).trans Bgz.out)
  have mH := Aside0.mk (below_step HB.out hba)
  clear HB Bga Bgb Bgz hba
  have HB := mH
  have Bga := mga
  have Bgb := mgb
  have Bgz := mgz
  clear mH mga mgb mgz
  cases ta with
  | false =>
    simp only [Bool.false_eq_true, if_false, Option.some.injEq, Prod.mk.injEq] at h
    obtain ⟨rfl, rfl, rfl, rfl, rfl, rfl, rfl, rfl, rfl, rfl, rfl, rfl⟩ := h
    clear hta
    have hz0 : wa.cell? ⟨gz, 0, none⟩ = some (.int .i64 0) := (blk_cell Bgz.out 0).trans rfl
    have hfz0 := blk_frozen Bgz.out 0
    have hz1 : wa.cell? ⟨gz, 1, none⟩ = some (.int .i64 0) := (blk_cell Bgz.out 1).trans rfl
    have hfz1 := blk_frozen Bgz.out 1
    have hz2 : wa.cell? ⟨gz, 2, none⟩ = some (.int .i64 0) := (blk_cell Bgz.out 2).trans rfl
    have hfz2 := blk_frozen Bgz.out 2
    have hz3 : wa.cell? ⟨gz, 3, none⟩ = some (.int .i64 0) := (blk_cell Bgz.out 3).trans rfl
    have hfz3 := blk_frozen Bgz.out 3
    have hz4 : wa.cell? ⟨gz, 4, none⟩ = some (.int .i64 0) := (blk_cell Bgz.out 4).trans rfl
    have hfz4 := blk_frozen Bgz.out 4
    have hz5 : wa.cell? ⟨gz, 5, none⟩ = some (.int .i64 0) := (blk_cell Bgz.out 5).trans rfl
    have hfz5 := blk_frozen Bgz.out 5
    have hz6 : wa.cell? ⟨gz, 6, none⟩ = some (.int .i64 0) := (blk_cell Bgz.out 6).trans rfl
    have hfz6 := blk_frozen Bgz.out 6
    have hz7 : wa.cell? ⟨gz, 7, none⟩ = some (.int .i64 0) := (blk_cell Bgz.out 7).trans rfl
    have hfz7 := blk_frozen Bgz.out 7
    have hz8 : wa.cell? ⟨gz, 8, none⟩ = some (.int .i64 0) := (blk_cell Bgz.out 8).trans rfl
    have hfz8 := blk_frozen Bgz.out 8
    have hz9 : wa.cell? ⟨gz, 9, none⟩ = some (.int .i64 0) := (blk_cell Bgz.out 9).trans rfl
    have hfz9 := blk_frozen Bgz.out 9
    have hz10 : wa.cell? ⟨gz, 10, none⟩ = some (.int .i64 0) := (blk_cell Bgz.out 10).trans rfl
    have hfz10 := blk_frozen Bgz.out 10
    try go_wp2_with (fail)
    refine bodyPost_ret (results_ct rfl _ _ gz 23 #[.int .i64 0, .int .i64 0, .int .i64 0, .int .i64 0, .int .i64 0, .int .i64 0, .int .i64 0, .int .i64 0, .int .i64 0, .int .i64 0, .int .i64 0] (0, 0) _ rfl (by (with_reducible repeat (first | refine blk_drewN ?_ _ | refine blk_drew ?_ | refine blk_alloc ?_ _)); refine blk_put (cs := #[.int .i64 0, .int .i64 0, .int .i64 0, .int .i64 0, .int .i64 0, .int .i64 0, .int .i64 0, .int .i64 0, .int .i64 0, .int .i64 0, .int .i64 0]) ?_ 10 _ rfl; (with_reducible repeat (first | refine blk_drewN ?_ _ | refine blk_drew ?_ | refine blk_alloc ?_ _)); refine blk_put (cs := #[.int .i64 0, .int .i64 0, .int .i64 0, .int .i64 0, .int .i64 0, .int .i64 0, .int .i64 0, .int .i64 0, .int .i64 0, .int .i64 0, .int .i64 0]) ?_ 9 _ rfl; (with_reducible repeat (first | refine blk_drewN ?_ _ | refine blk_drew ?_ | refine blk_alloc ?_ _)); refine blk_put (cs := #[.int .i64 0, .int .i64 0, .int .i64 0, .int .i64 0, .int .i64 0, .int .i64 0, .int .i64 0, .int .i64 0, .int .i64 0, .int .i64 0, .int .i64 0]) ?_ 8 _ rfl; (with_reducible repeat (first | refine blk_drewN ?_ _ | refine blk_drew ?_ | refine blk_alloc ?_ _)); refine blk_put (cs := #[.int .i64 0, .int .i64 0, .int .i64 0, .int .i64 0, .int .i64 0, .int .i64 0, .int .i64 0, .int .i64 0, .int .i64 0, .int .i64 0, .int .i64 0]) ?_ 7 _ rfl; (with_reducible repeat (first | refine blk_drewN ?_ _ | refine blk_drew ?_ | refine blk_alloc ?_ _)); refine blk_put (cs := #[.int .i64 0, .int .i64 0, .int .i64 0, .int .i64 0, .int .i64 0, .int .i64 0, .int .i64 0, .int .i64 0, .int .i64 0, .int .i64 0, .int .i64 0]) ?_ 6 _ rfl; (with_reducible repeat (first | refine blk_drewN ?_ _ | refine blk_drew ?_ | refine blk_alloc ?_ _)); refine blk_put (cs := #[.int .i64 0, .int .i64 0, .int .i64 0, .int .i64 0, .int .i64 0, .int .i64 0, .int .i64 0, .int .i64 0, .int .i64 0, .int .i64 0, .int .i64 0]) ?_ 5 _ rfl; (with_reducible repeat (first | refine blk_drewN ?_ _ | refine blk_drew ?_ | refine blk_alloc ?_ _)); refine blk_put (cs := #[.int .i64 0, .int .i64 0, .int .i64 0, .int .i64 0, .int .i64 0, .int .i64 0, .int .i64 0, .int .i64 0, .int .i64 0, .int .i64 0, .int .i64 0]) ?_ 4 _ rfl; (with_reducible repeat (first | refine blk_drewN ?_ _ | refine blk_drew ?_ | refine blk_alloc ?_ _)); refine blk_put (cs := #[.int .i64 0, .int .i64 0, .int .i64 0, .int .i64 0, .int .i64 0, .int .i64 0, .int .i64 0, .int .i64 0, .int .i64 0, .int .i64 0, .int .i64 0]) ?_ 3 _ rfl; (with_reducible repeat (first | refine blk_drewN ?_ _ | refine blk_drew ?_ | refine blk_alloc ?_ _)); refine blk_put (cs := #[.int .i64 0, .int .i64 0, .int .i64 0, .int .i64 0, .int .i64 0, .int .i64 0, .int .i64 0, .int .i64 0, .int .i64 0, .int .i64 0, .int .i64 0]) ?_ 2 _ rfl; (with_reducible repeat (first | refine blk_drewN ?_ _ | refine blk_drew ?_ | refine blk_alloc ?_ _)); refine blk_put (cs := #[.int .i64 0, .int .i64 0, .int .i64 0, .int .i64 0, .int .i64 0, .int .i64 0, .int .i64 0, .int .i64 0, .int .i64 0, .int .i64 0, .int .i64 0]) ?_ 1 _ rfl; (with_reducible repeat (first | refine blk_drewN ?_ _ | refine blk_drew ?_ | refine blk_alloc ?_ _)); refine blk_put (cs := #[.int .i64 0, .int .i64 0, .int .i64 0, .int .i64 0, .int .i64 0, .int .i64 0, .int .i64 0, .int .i64 0, .int .i64 0, .int .i64 0, .int .i64 0]) ?_ 0 _ rfl; (with_reducible repeat (first | refine blk_drewN ?_ _ | refine blk_drew ?_ | refine blk_alloc ?_ _)); exact Bgz.out) Try.underlying23 rfl (by kernel_rfl)) rfl ?_
    exact ⟨by first | rfl | simp, by repeat (first | (with_reducible first | exact HB.out | apply below_alloc | apply pw_below_drewN | apply below_drew1 | refine below_set ?_ Ggz.out) | exact HB.out)⟩
  | true =>
    rw [if_pos rfl] at h
    obtain ⟨tb, htb, h2⟩ := Option.bind_eq_some_iff.mp h
    clear h hta
    have H := Aside0.mk h2
    clear h2
    have HTB := Aside0.mk htb
    clear htb
    have hcb0 : wa.cell? ⟨gb, 0, none⟩ = some (.int .i64 b0) := (blk_cell Bgb.out 0).trans rfl; have hcb1 : wa.cell? ⟨gb, 1, none⟩ = some (.int .i64 b1) := (blk_cell Bgb.out 1).trans rfl; have hcb2 : wa.cell? ⟨gb, 2, none⟩ = some (.int .i64 b2) := (blk_cell Bgb.out 2).trans rfl; have hcb3 : wa.cell? ⟨gb, 3, none⟩ = some (.int .i64 b3) := (blk_cell Bgb.out 3).trans rfl; have hcb4 : wa.cell? ⟨gb, 4, none⟩ = some (.int .i64 b4) := (blk_cell Bgb.out 4).trans rfl; have hcb5 : wa.cell? ⟨gb, 5, none⟩ = some (.int .i64 b5) := (blk_cell Bgb.out 5).trans rfl; have hcb6 : wa.cell? ⟨gb, 6, none⟩ = some (.int .i64 b6) := (blk_cell Bgb.out 6).trans rfl; have hcb7 : wa.cell? ⟨gb, 7, none⟩ = some (.int .i64 b7) := (blk_cell Bgb.out 7).trans rfl; have hcb8 : wa.cell? ⟨gb, 8, none⟩ = some (.int .i64 b8) := (blk_cell Bgb.out 8).trans rfl; have hcb9 : wa.cell? ⟨gb, 9, none⟩ = some (.int .i64 b9) := (blk_cell Bgb.out 9).trans rfl; have hcb10 : wa.cell? ⟨gb, 10, none⟩ = some (.int .i64 b10) := (blk_cell Bgb.out 10).trans rfl
    try go_wp2_with (fail)
    refine (impl_KnowOk.calls b0 b1 b2 b3 b4 b5 b6 b7 b8 b9 b10 tb wa HTB.out).mono ?_
    rintro e wb ⟨rfl, hbb⟩
    clear hcb0 hcb1 hcb2 hcb3 hcb4 hcb5 hcb6 hcb7 hcb8 hcb9 hcb10
    have mga := Aside0.mk ((hbb.block ga (lt_size Bga.out)).trans Bga.out)
    have mgb := Aside0.mk ((hbb.block gb (lt_size Bgb.out)).trans Bgb.out)
    have mgz := Aside0.mk ((hbb.block gz (lt_size Bgz.out)).trans Bgz.out)
    have mH := Aside0.mk (below_step HB.out hbb)
    clear HB Bga Bgb Bgz hbb
    have HB := mH
    have Bga := mga
    have Bgb := mgb
    have Bgz := mgz
    clear mH mga mgb mgz
    have h := H.out
    clear H
    cases tb with
    | false =>
      simp only [Bool.false_eq_true, if_false, Option.some.injEq, Prod.mk.injEq] at h
      obtain ⟨rfl, rfl, rfl, rfl, rfl, rfl, rfl, rfl, rfl, rfl, rfl, rfl⟩ := h
      have hz0 : wb.cell? ⟨gz, 0, none⟩ = some (.int .i64 0) := (blk_cell Bgz.out 0).trans rfl
      have hfz0 := blk_frozen Bgz.out 0
      have hz1 : wb.cell? ⟨gz, 1, none⟩ = some (.int .i64 0) := (blk_cell Bgz.out 1).trans rfl
      have hfz1 := blk_frozen Bgz.out 1
      have hz2 : wb.cell? ⟨gz, 2, none⟩ = some (.int .i64 0) := (blk_cell Bgz.out 2).trans rfl
      have hfz2 := blk_frozen Bgz.out 2
      have hz3 : wb.cell? ⟨gz, 3, none⟩ = some (.int .i64 0) := (blk_cell Bgz.out 3).trans rfl
      have hfz3 := blk_frozen Bgz.out 3
      have hz4 : wb.cell? ⟨gz, 4, none⟩ = some (.int .i64 0) := (blk_cell Bgz.out 4).trans rfl
      have hfz4 := blk_frozen Bgz.out 4
      have hz5 : wb.cell? ⟨gz, 5, none⟩ = some (.int .i64 0) := (blk_cell Bgz.out 5).trans rfl
      have hfz5 := blk_frozen Bgz.out 5
      have hz6 : wb.cell? ⟨gz, 6, none⟩ = some (.int .i64 0) := (blk_cell Bgz.out 6).trans rfl
      have hfz6 := blk_frozen Bgz.out 6
      have hz7 : wb.cell? ⟨gz, 7, none⟩ = some (.int .i64 0) := (blk_cell Bgz.out 7).trans rfl
      have hfz7 := blk_frozen Bgz.out 7
      have hz8 : wb.cell? ⟨gz, 8, none⟩ = some (.int .i64 0) := (blk_cell Bgz.out 8).trans rfl
      have hfz8 := blk_frozen Bgz.out 8
      have hz9 : wb.cell? ⟨gz, 9, none⟩ = some (.int .i64 0) := (blk_cell Bgz.out 9).trans rfl
      have hfz9 := blk_frozen Bgz.out 9
      have hz10 : wb.cell? ⟨gz, 10, none⟩ = some (.int .i64 0) := (blk_cell Bgz.out 10).trans rfl
      have hfz10 := blk_frozen Bgz.out 10
      try go_wp2_with (fail)
      refine bodyPost_ret (results_ct rfl _ _ gz 23 #[.int .i64 0, .int .i64 0, .int .i64 0, .int .i64 0, .int .i64 0, .int .i64 0, .int .i64 0, .int .i64 0, .int .i64 0, .int .i64 0, .int .i64 0] (0, 0) _ rfl (by (with_reducible repeat (first | refine blk_drewN ?_ _ | refine blk_drew ?_ | refine blk_alloc ?_ _)); refine blk_put (cs := #[.int .i64 0, .int .i64 0, .int .i64 0, .int .i64 0, .int .i64 0, .int .i64 0, .int .i64 0, .int .i64 0, .int .i64 0, .int .i64 0, .int .i64 0]) ?_ 10 _ rfl; (with_reducible repeat (first | refine blk_drewN ?_ _ | refine blk_drew ?_ | refine blk_alloc ?_ _)); refine blk_put (cs := #[.int .i64 0, .int .i64 0, .int .i64 0, .int .i64 0, .int .i64 0, .int .i64 0, .int .i64 0, .int .i64 0, .int .i64 0, .int .i64 0, .int .i64 0]) ?_ 9 _ rfl; (with_reducible repeat (first | refine blk_drewN ?_ _ | refine blk_drew ?_ | refine blk_alloc ?_ _)); refine blk_put (cs := #[.int .i64 0, .int .i64 0, .int .i64 0, .int .i64 0, .int .i64 0, .int .i64 0, .int .i64 0, .int .i64 0, .int .i64 0, .int .i64 0, .int .i64 0]) ?_ 8 _ rfl; (with_reducible repeat (first | refine blk_drewN ?_ _ | refine blk_drew ?_ | refine blk_alloc ?_ _)); refine blk_put (cs := #[.int .i64 0, .int .i64 0, .int .i64 0, .int .i64 0, .int .i64 0, .int .i64 0, .int .i64 0, .int .i64 0, .int .i64 0, .int .i64 0, .int .i64 0]) ?_ 7 _ rfl; (with_reducible repeat (first | refine blk_drewN ?_ _ | refine blk_drew ?_ | refine blk_alloc ?_ _)); refine blk_put (cs := #[.int .i64 0, .int .i64 0, .int .i64 0, .int .i64 0, .int .i64 0, .int .i64 0, .int .i64 0, .int .i64 0, .int .i64 0, .int .i64 0, .int .i64 0]) ?_ 6 _ rfl; (with_reducible repeat (first | refine blk_drewN ?_ _ | refine blk_drew ?_ | refine blk_alloc ?_ _)); refine blk_put (cs := #[.int .i64 0, .int .i64 0, .int .i64 0, .int .i64 0, .int .i64 0, .int .i64 0, .int .i64 0, .int .i64 0, .int .i64 0, .int .i64 0, .int .i64 0]) ?_ 5 _ rfl; (with_reducible repeat (first | refine blk_drewN ?_ _ | refine blk_drew ?_ | refine blk_alloc ?_ _)); refine blk_put (cs := #[.int .i64 0, .int .i64 0, .int .i64 0, .int .i64 0, .int .i64 0, .int .i64 0, .int .i64 0, .int .i64 0, .int .i64 0, .int .i64 0, .int .i64 0]) ?_ 4 _ rfl; (with_reducible repeat (first | refine blk_drewN ?_ _ | refine blk_drew ?_ | refine blk_alloc ?_ _)); refine blk_put (cs := #[.int .i64 0, .int .i64 0, .int .i64 0, .int .i64 0, .int .i64 0, .int .i64 0, .int .i64 0, .int .i64 0, .int .i64 0, .int .i64 0, .int .i64 0]) ?_ 3 _ rfl; (with_reducible repeat (first | refine blk_drewN ?_ _ | refine blk_drew ?_ | refine blk_alloc ?_ _)); refine blk_put (cs := #[.int .i64 0, .int .i64 0, .int .i64 0, .int .i64 0, .int .i64 0, .int .i64 0, .int .i64 0, .int .i64 0, .int .i64 0, .int .i64 0, .int .i64 0]) ?_ 2 _ rfl; (with_reducible repeat (first | refine blk_drewN ?_ _ | refine blk_drew ?_ | refine blk_alloc ?_ _)); refine blk_put (cs := #[.int .i64 0, .int .i64 0, .int .i64 0, .int .i64 0, .int .i64 0, .int .i64 0, .int .i64 0, .int .i64 0, .int .i64 0, .int .i64 0, .int .i64 0]) ?_ 1 _ rfl; (with_reducible repeat (first | refine blk_drewN ?_ _ | refine blk_drew ?_ | refine blk_alloc ?_ _)); refine blk_put (cs := #[.int .i64 0, .int .i64 0, .int .i64 0, .int .i64 0, .int .i64 0, .int .i64 0, .int .i64 0, .int .i64 0, .int .i64 0, .int .i64 0, .int .i64 0]) ?_ 0 _ rfl; (with_reducible repeat (first | refine blk_drewN ?_ _ | refine blk_drew ?_ | refine blk_alloc ?_ _)); exact Bgz.out) Try.underlying23 rfl (by kernel_rfl)) rfl ?_
      exact ⟨by first | rfl | simp, by repeat (first | (with_reducible first | exact HB.out | apply below_alloc | apply pw_below_drewN | apply below_drew1 | refine below_set ?_ Ggz.out) | exact HB.out)⟩
    | true =>
      rw [if_pos rfl] at h
      have H := Aside0.mk h
      clear h
      have hca0 : wb.cell? ⟨ga, 0, none⟩ = some (.int .i64 a0) := (blk_cell Bga.out 0).trans rfl; have hca1 : wb.cell? ⟨ga, 1, none⟩ = some (.int .i64 a1) := (blk_cell Bga.out 1).trans rfl; have hca2 : wb.cell? ⟨ga, 2, none⟩ = some (.int .i64 a2) := (blk_cell Bga.out 2).trans rfl; have hca3 : wb.cell? ⟨ga, 3, none⟩ = some (.int .i64 a3) := (blk_cell Bga.out 3).trans rfl; have hca4 : wb.cell? ⟨ga, 4, none⟩ = some (.int .i64 a4) := (blk_cell Bga.out 4).trans rfl; have hca5 : wb.cell? ⟨ga, 5, none⟩ = some (.int .i64 a5) := (blk_cell Bga.out 5).trans rfl; have hca6 : wb.cell? ⟨ga, 6, none⟩ = some (.int .i64 a6) := (blk_cell Bga.out 6).trans rfl; have hca7 : wb.cell? ⟨ga, 7, none⟩ = some (.int .i64 a7) := (blk_cell Bga.out 7).trans rfl; have hca8 : wb.cell? ⟨ga, 8, none⟩ = some (.int .i64 a8) := (blk_cell Bga.out 8).trans rfl; have hca9 : wb.cell? ⟨ga, 9, none⟩ = some (.int .i64 a9) := (blk_cell Bga.out 9).trans rfl; have hca10 : wb.cell? ⟨ga, 10, none⟩ = some (.int .i64 a10) := (blk_cell Bga.out 10).trans rfl
      try go_wp2_with (fail)
      clear hca0 hca1 hca2 hca3 hca4 hca5 hca6 hca7 hca8 hca9 hca10
      have hal := below_alloc (Below.refl wb.heap.size wb) (.cells #[.int .i64 a0, .int .i64 a1, .int .i64 a2, .int .i64 a3, .int .i64 a4, .int .i64 a5, .int .i64 a6, .int .i64 a7, .int .i64 a8, .int .i64 a9, .int .i64 a10] 23)
      have hbl := below_alloc HB.out (.cells #[.int .i64 a0, .int .i64 a1, .int .i64 a2, .int .i64 a3, .int .i64 a4, .int .i64 a5, .int .i64 a6, .int .i64 a7, .int .i64 a8, .int .i64 a9, .int .i64 a10] 23)
      have mga := Aside0.mk ((hal.block ga (lt_size Bga.out)).trans Bga.out)
      have mgb := Aside0.mk ((hal.block gb (lt_size Bgb.out)).trans Bgb.out)
      have mgz := Aside0.mk ((hal.block gz (lt_size Bgz.out)).trans Bgz.out)
      have NEgo_ga := Aside0.mk (show wb.heap.size ≠ ga from Nat.ne_of_gt (lt_size Bga.out))
      have NEgo_gb := Aside0.mk (show wb.heap.size ≠ gb from Nat.ne_of_gt (lt_size Bgb.out))
      have NEgo_gz := Aside0.mk (show wb.heap.size ≠ gz from Nat.ne_of_gt (lt_size Bgz.out))
      have mgo := Aside0.mk (heap_alloc_new wb (.cells #[.int .i64 a0, .int .i64 a1, .int .i64 a2, .int .i64 a3, .int .i64 a4, .int .i64 a5, .int .i64 a6, .int .i64 a7, .int .i64 a8, .int .i64 a9, .int .i64 a10] 23))
      have mG := Aside0.mk (below_size HB.out)
      have mH := Aside0.mk hbl
      clear HB hal hbl Bga Bgb Bgz
      have HB := mH
      have Bga := mga
      have Bgb := mgb
      have Bgz := mgz
      have Bgo := mgo
      clear mH mga mgb mgz mgo
      generalize wb.alloc (.cells #[.int .i64 a0, .int .i64 a1, .int .i64 a2, .int .i64 a3, .int .i64 a4, .int .i64 a5, .int .i64 a6, .int .i64 a7, .int .i64 a8, .int .i64 a9, .int .i64 a10] 23) = wo at HB Bga Bgb Bgz Bgo ⊢
      generalize wb.heap.size = go at Bgo mG NEgo_ga NEgo_gb NEgo_gz ⊢
      have Ggo := mG
      clear mG
      refine (fields_calls gb wo).mono ?_
      rintro e wc ⟨rfl, hbc⟩
      have mga := Aside0.mk ((hbc.block ga (lt_size Bga.out)).trans Bga.out)
      have mgb := Aside0.mk ((hbc.block gb (lt_size Bgb.out)).trans Bgb.out)
      have mgz := Aside0.mk ((hbc.block gz (lt_size Bgz.out)).trans Bgz.out)
      have mgo := Aside0.mk ((hbc.block go (lt_size Bgo.out)).trans Bgo.out)
      have mH := Aside0.mk (below_step HB.out hbc)
      clear HB Bga Bgb Bgz Bgo hbc
      have HB := mH
      have Bga := mga
      have Bgb := mgb
      have Bgz := mgz
      have Bgo := mgo
      clear mH mga mgb mgz mgo
      have hst := run_storeCells_new (P := Try.prog) wc 66 #[.pointer none, .pointer none, .pointer none, .pointer none, .pointer none, .pointer none, .pointer none, .pointer none, .pointer none, .pointer none, .pointer none] (ptrs gb) (by kernel_rfl) rfl (by kernel_rfl)
      try go_wp2_with (fail)
      clear hst
      have hal := below_alloc (Below.refl wc.heap.size wc) (.cells (ptrs gb) 66)
      have hbl := below_alloc HB.out (.cells (ptrs gb) 66)
      have mga := Aside0.mk ((hal.block ga (lt_size Bga.out)).trans Bga.out)
      have mgb := Aside0.mk ((hal.block gb (lt_size Bgb.out)).trans Bgb.out)
      have mgz := Aside0.mk ((hal.block gz (lt_size Bgz.out)).trans Bgz.out)
      have mgo := Aside0.mk ((hal.block go (lt_size Bgo.out)).trans Bgo.out)
      have NEgc_ga := Aside0.mk (show wc.heap.size ≠ ga from Nat.ne_of_gt (lt_size Bga.out))
      have NEgc_gb := Aside0.mk (show wc.heap.size ≠ gb from Nat.ne_of_gt (lt_size Bgb.out))
      have NEgc_gz := Aside0.mk (show wc.heap.size ≠ gz from Nat.ne_of_gt (lt_size Bgz.out))
      have NEgc_go := Aside0.mk (show wc.heap.size ≠ go from Nat.ne_of_gt (lt_size Bgo.out))
      have mgc := Aside0.mk (heap_alloc_new wc (.cells (ptrs gb) 66))
      have mG := Aside0.mk (below_size HB.out)
      have mH := Aside0.mk hbl
      clear HB hal hbl Bga Bgb Bgz Bgo
      have HB := mH
      have Bga := mga
      have Bgb := mgb
      have Bgz := mgz
      have Bgo := mgo
      have Bgc := mgc
      clear mH mga mgb mgz mgo mgc
      generalize wc.alloc (.cells (ptrs gb) 66) = wd at HB Bga Bgb Bgz Bgo Bgc ⊢
      generalize wc.heap.size = gc at Bgc mG NEgc_ga NEgc_gb NEgc_gz NEgc_go ⊢
      have Ggc := mG
      clear mG
      refine (fields_calls go wd).mono ?_
      rintro e we ⟨rfl, hbe⟩
      have mga := Aside0.mk ((hbe.block ga (lt_size Bga.out)).trans Bga.out)
      have mgb := Aside0.mk ((hbe.block gb (lt_size Bgb.out)).trans Bgb.out)
      have mgz := Aside0.mk ((hbe.block gz (lt_size Bgz.out)).trans Bgz.out)
      have mgo := Aside0.mk ((hbe.block go (lt_size Bgo.out)).trans Bgo.out)
      have mgc := Aside0.mk ((hbe.block gc (lt_size Bgc.out)).trans Bgc.out)
      have mH := Aside0.mk (below_step HB.out hbe)
      clear HB Bga Bgb Bgz Bgo Bgc hbe
      have HB := mH
      have Bga := mga
      have Bgb := mgb
      have Bgz := mgz
      have Bgo := mgo
      have Bgc := mgc
      clear mH mga mgb mgz mgo mgc
      try go_wp2_with (fail)
      go_loopg [23] 12 (fun kq v23 w' => ∃ (i : Nat), v23 = .int .i64 (i : Int) ∧ Aside0 (kq + i = 12) ∧ Aside0 (i ≤ 11) ∧ Aside0 (∀ j, j < i → fits1 (pAt (ints a0 a1 a2 a3 a4 a5 a6 a7 a8 a9 a10) j) (pAt (ints b0 b1 b2 b3 b4 b5 b6 b7 b8 b9 b10) j) = true) ∧ Aside0 (w'.heap[go]? = some (.cells (vals (mixUp (ints a0 a1 a2 a3 a4 a5 a6 a7 a8 a9 a10) (ints b0 b1 b2 b3 b4 b5 b6 b7 b8 b9 b10) i)) 23)) ∧ Aside0 (w'.heap[gb]? = some (.cells #[.int .i64 b0, .int .i64 b1, .int .i64 b2, .int .i64 b3, .int .i64 b4, .int .i64 b5, .int .i64 b6, .int .i64 b7, .int .i64 b8, .int .i64 b9, .int .i64 b10] 23)) ∧ Aside0 (w'.heap[gz]? = some (.cells #[.int .i64 0, .int .i64 0, .int .i64 0, .int .i64 0, .int .i64 0, .int .i64 0, .int .i64 0, .int .i64 0, .int .i64 0, .int .i64 0, .int .i64 0] 23)) ∧ Aside0 (w'.heap[gc]? = some (.cells (ptrs gb) 66)) ∧ Aside0 (Below w.heap.size w w'))
      case atStart => exact ⟨0, rfl, ⟨rfl⟩, ⟨by omega⟩, ⟨fun j hj => absurd hj (Nat.not_lt_zero j)⟩, Bgo, Bgb, Bgz, Bgc, HB⟩
      case round =>
        clear Bgo Bga Bgb Bgz Bgc HB
        obtain ⟨i, rfl, HK, H11, HU, Bgo, Bgb, Bgz, Bgc, HB⟩ := hrel
        by_cases hi : i < 11
        · have ci : decide ((i : Int) < 11) = true := decide_eq_true (by omega)
          have p1 : 0 ≤ (i : Int) := by omega
          have p2 : (i : Int) < 11 := by omega
          have hx := idx_run go i hi
          have hco : wr.cell? ⟨go, i, none⟩ = some (.int .i64 (pAt (ints a0 a1 a2 a3 a4 a5 a6 a7 a8 a9 a10) i)) := by rw [← mixUp_at (ints a0 a1 a2 a3 a4 a5 a6 a7 a8 a9 a10) (ints b0 b1 b2 b3 b4 b5 b6 b7 b8 b9 b10) i hi]; exact (blk_cell Bgo.out i).trans (vals_at _ i (by rw [mixUp_len]; exact hi))
          have hfo := blk_frozen Bgo.out i
          have hcb : wr.cell? ⟨gb, i, none⟩ = some (.int .i64 (pAt (ints b0 b1 b2 b3 b4 b5 b6 b7 b8 b9 b10) i)) := (blk_cell Bgb.out i).trans (ints_at b0 b1 b2 b3 b4 b5 b6 b7 b8 b9 b10 i hi)
          have hcc : wr.cell? ⟨gc, i, none⟩ = some (.pointer (some ⟨gb, i, none⟩)) := (blk_cell Bgc.out i).trans (ptrs_at gb i hi)
          have HM := Aside0.mk (mixUp_set (ints a0 a1 a2 a3 a4 a5 a6 a7 a8 a9 a10) (ints b0 b1 b2 b3 b4 b5 b6 b7 b8 b9 b10) i hi)
          have HF := Aside0.mk (show fits1 (pAt (ints a0 a1 a2 a3 a4 a5 a6 a7 a8 a9 a10) i) (pAt (ints b0 b1 b2 b3 b4 b5 b6 b7 b8 b9 b10) i) = (decide (pAt (ints a0 a1 a2 a3 a4 a5 a6 a7 a8 a9 a10) i < 0) || !(decide (pAt (ints b0 b1 b2 b3 b4 b5 b6 b7 b8 b9 b10) i ≥ 0) && (pAt (ints b0 b1 b2 b3 b4 b5 b6 b7 b8 b9 b10) i != pAt (ints a0 a1 a2 a3 a4 a5 a6 a7 a8 a9 a10) i))) from rfl)
          have HME := Aside0.mk (show meet1 (pAt (ints a0 a1 a2 a3 a4 a5 a6 a7 a8 a9 a10) i) (pAt (ints b0 b1 b2 b3 b4 b5 b6 b7 b8 b9 b10) i) = if pAt (ints a0 a1 a2 a3 a4 a5 a6 a7 a8 a9 a10) i < 0 then pAt (ints b0 b1 b2 b3 b4 b5 b6 b7 b8 b9 b10) i else pAt (ints a0 a1 a2 a3 a4 a5 a6 a7 a8 a9 a10) i from rfl)
          generalize hxx : pAt (ints a0 a1 a2 a3 a4 a5 a6 a7 a8 a9 a10) i = x at hco HF HME
          generalize hyy : pAt (ints b0 b1 b2 b3 b4 b5 b6 b7 b8 b9 b10) i = y at hcb HF HME
          have HX := Aside0.mk hxx
          have HY := Aside0.mk hyy
          clear hxx hyy
          by_cases h0 : x < 0
          · have c0 : decide (x < 0) = true := decide_eq_true h0
            have hT : fits1 (pAt (ints a0 a1 a2 a3 a4 a5 a6 a7 a8 a9 a10) i) (pAt (ints b0 b1 b2 b3 b4 b5 b6 b7 b8 b9 b10) i) = true := by rw [HX.out, HY.out, HF.out, c0]; rfl
            have HV := Aside0.mk (show (vals (mixUp (ints a0 a1 a2 a3 a4 a5 a6 a7 a8 a9 a10) (ints b0 b1 b2 b3 b4 b5 b6 b7 b8 b9 b10) i)).setIfInBounds i (.int .i64 y) = vals (mixUp (ints a0 a1 a2 a3 a4 a5 a6 a7 a8 a9 a10) (ints b0 b1 b2 b3 b4 b5 b6 b7 b8 b9 b10) (i + 1)) by rw [vals_set, ← HM.out, HX.out, HY.out, HME.out, if_pos h0])
            have HT := Aside0.mk hT
            clear hT h0
            have hT := HT.out
            cases gk with
            | zero => have := HK.out; omega
            | succ g1 =>
              have hU : ∀ j, j < i + 1 → fits1 (pAt (ints a0 a1 a2 a3 a4 a5 a6 a7 a8 a9 a10) j) (pAt (ints b0 b1 b2 b3 b4 b5 b6 b7 b8 b9 b10) j) = true := by
                intro j hj
                by_cases hji : j < i
                · exact HU.out j hji
                · have : j = i := by omega
                  subst this; exact hT
              have HU' := Aside0.mk hU
              clear hU
              try go_wp2_with (fail)
              go_roundg g1
              case measure => omega
              case rel => exact ⟨i + 1, rfl, ⟨by have := HK.out; omega⟩, ⟨by omega⟩, HU', ⟨blk_put Bgo.out i _ HV.out⟩, ⟨blk_far Bgb.out (p := ⟨go, i, none⟩) NEgo_gb.out.symm _⟩, ⟨blk_far Bgz.out (p := ⟨go, i, none⟩) NEgo_gz.out.symm _⟩, ⟨blk_far Bgc.out (p := ⟨go, i, none⟩) NEgc_go.out _⟩, ⟨by repeat (first | (with_reducible first | exact HB.out | apply below_alloc | apply pw_below_drewN | apply below_drew1 | refine below_set ?_ Ggo.out) | exact HB.out)⟩⟩
          · have c0 : decide (x < 0) = false := decide_eq_false h0
            have hm : meet1 (pAt (ints a0 a1 a2 a3 a4 a5 a6 a7 a8 a9 a10) i) (pAt (ints b0 b1 b2 b3 b4 b5 b6 b7 b8 b9 b10) i) = pAt (ints a0 a1 a2 a3 a4 a5 a6 a7 a8 a9 a10) i := by rw [HX.out, HY.out, HME.out, if_neg h0]
            by_cases h1 : 0 ≤ y
            · have c1 : decide (0 ≤ y) = true := decide_eq_true h1
              by_cases he : y = x
              · have c2 : (y == x) = true := beq_iff_eq.mpr he
                have c3 : (y != x) = false := bne_eq_false_iff_eq.mpr he
                have hT : fits1 (pAt (ints a0 a1 a2 a3 a4 a5 a6 a7 a8 a9 a10) i) (pAt (ints b0 b1 b2 b3 b4 b5 b6 b7 b8 b9 b10) i) = true := by rw [HX.out, HY.out, HF.out, c3]; simp
                clear he
                cases gk with
                | zero => have := HK.out; omega
                | succ g1 =>
                  have hU : ∀ j, j < i + 1 → fits1 (pAt (ints a0 a1 a2 a3 a4 a5 a6 a7 a8 a9 a10) j) (pAt (ints b0 b1 b2 b3 b4 b5 b6 b7 b8 b9 b10) j) = true := by
                    intro j hj
                    by_cases hji : j < i
                    · exact HU.out j hji
                    · have : j = i := by omega
                      subst this; exact hT
                  have HU' := Aside0.mk hU
                  clear hU
                  try go_wp2_with (fail)
                  go_roundg g1
                  case measure => omega
                  case rel => exact ⟨i + 1, rfl, ⟨by have := HK.out; omega⟩, ⟨by omega⟩, HU', ⟨by rw [← mixUp_keep (ints a0 a1 a2 a3 a4 a5 a6 a7 a8 a9 a10) (ints b0 b1 b2 b3 b4 b5 b6 b7 b8 b9 b10) i hi hm]; exact Bgo.out⟩, Bgb, Bgz, Bgc, ⟨by repeat (first | (with_reducible first | exact HB.out | apply below_alloc | apply pw_below_drewN | apply below_drew1 | refine below_set ?_ Ggo.out) | exact HB.out)⟩⟩
              · have c2 : (y == x) = false := beq_eq_false_iff_ne.mpr he
                have c3 : (y != x) = true := bne_iff_ne.mpr he
                have hF : fits1 (pAt (ints a0 a1 a2 a3 a4 a5 a6 a7 a8 a9 a10) i) (pAt (ints b0 b1 b2 b3 b4 b5 b6 b7 b8 b9 b10) i) = false := by rw [HX.out, HY.out, HF.out, c3, c0]; simp [h1]
                have h := H.out
                rw [if_neg (by rw [all_no (fun j => fits1 (pAt (ints a0 a1 a2 a3 a4 a5 a6 a7 a8 a9 a10) j) (pAt (ints b0 b1 b2 b3 b4 b5 b6 b7 b8 b9 b10) j)) i hi hF]; exact Bool.false_ne_true)] at h
                simp only [Option.some.injEq, Prod.mk.injEq] at h
                obtain ⟨rfl, rfl, rfl, rfl, rfl, rfl, rfl, rfl, rfl, rfl, rfl, rfl⟩ := h
                clear H
                have hz0 : wr.cell? ⟨gz, 0, none⟩ = some (.int .i64 0) := (blk_cell Bgz.out 0).trans rfl
                have hfz0 := blk_frozen Bgz.out 0
                have hz1 : wr.cell? ⟨gz, 1, none⟩ = some (.int .i64 0) := (blk_cell Bgz.out 1).trans rfl
                have hfz1 := blk_frozen Bgz.out 1
                have hz2 : wr.cell? ⟨gz, 2, none⟩ = some (.int .i64 0) := (blk_cell Bgz.out 2).trans rfl
                have hfz2 := blk_frozen Bgz.out 2
                have hz3 : wr.cell? ⟨gz, 3, none⟩ = some (.int .i64 0) := (blk_cell Bgz.out 3).trans rfl
                have hfz3 := blk_frozen Bgz.out 3
                have hz4 : wr.cell? ⟨gz, 4, none⟩ = some (.int .i64 0) := (blk_cell Bgz.out 4).trans rfl
                have hfz4 := blk_frozen Bgz.out 4
                have hz5 : wr.cell? ⟨gz, 5, none⟩ = some (.int .i64 0) := (blk_cell Bgz.out 5).trans rfl
                have hfz5 := blk_frozen Bgz.out 5
                have hz6 : wr.cell? ⟨gz, 6, none⟩ = some (.int .i64 0) := (blk_cell Bgz.out 6).trans rfl
                have hfz6 := blk_frozen Bgz.out 6
                have hz7 : wr.cell? ⟨gz, 7, none⟩ = some (.int .i64 0) := (blk_cell Bgz.out 7).trans rfl
                have hfz7 := blk_frozen Bgz.out 7
                have hz8 : wr.cell? ⟨gz, 8, none⟩ = some (.int .i64 0) := (blk_cell Bgz.out 8).trans rfl
                have hfz8 := blk_frozen Bgz.out 8
                have hz9 : wr.cell? ⟨gz, 9, none⟩ = some (.int .i64 0) := (blk_cell Bgz.out 9).trans rfl
                have hfz9 := blk_frozen Bgz.out 9
                have hz10 : wr.cell? ⟨gz, 10, none⟩ = some (.int .i64 0) := (blk_cell Bgz.out 10).trans rfl
                have hfz10 := blk_frozen Bgz.out 10
                try go_wp2_with (fail)
                refine bodyPost_ret (results_ct rfl _ _ gz 23 #[.int .i64 0, .int .i64 0, .int .i64 0, .int .i64 0, .int .i64 0, .int .i64 0, .int .i64 0, .int .i64 0, .int .i64 0, .int .i64 0, .int .i64 0] (0, 0) _ rfl (by (with_reducible repeat (first | refine blk_drewN ?_ _ | refine blk_drew ?_ | refine blk_alloc ?_ _)); refine blk_put (cs := #[.int .i64 0, .int .i64 0, .int .i64 0, .int .i64 0, .int .i64 0, .int .i64 0, .int .i64 0, .int .i64 0, .int .i64 0, .int .i64 0, .int .i64 0]) ?_ 10 _ rfl; (with_reducible repeat (first | refine blk_drewN ?_ _ | refine blk_drew ?_ | refine blk_alloc ?_ _)); refine blk_put (cs := #[.int .i64 0, .int .i64 0, .int .i64 0, .int .i64 0, .int .i64 0, .int .i64 0, .int .i64 0, .int .i64 0, .int .i64 0, .int .i64 0, .int .i64 0]) ?_ 9 _ rfl; (with_reducible repeat (first | refine blk_drewN ?_ _ | refine blk_drew ?_ | refine blk_alloc ?_ _)); refine blk_put (cs := #[.int .i64 0, .int .i64 0, .int .i64 0, .int .i64 0, .int .i64 0, .int .i64 0, .int .i64 0, .int .i64 0, .int .i64 0, .int .i64 0, .int .i64 0]) ?_ 8 _ rfl; (with_reducible repeat (first | refine blk_drewN ?_ _ | refine blk_drew ?_ | refine blk_alloc ?_ _)); refine blk_put (cs := #[.int .i64 0, .int .i64 0, .int .i64 0, .int .i64 0, .int .i64 0, .int .i64 0, .int .i64 0, .int .i64 0, .int .i64 0, .int .i64 0, .int .i64 0]) ?_ 7 _ rfl; (with_reducible repeat (first | refine blk_drewN ?_ _ | refine blk_drew ?_ | refine blk_alloc ?_ _)); refine blk_put (cs := #[.int .i64 0, .int .i64 0, .int .i64 0, .int .i64 0, .int .i64 0, .int .i64 0, .int .i64 0, .int .i64 0, .int .i64 0, .int .i64 0, .int .i64 0]) ?_ 6 _ rfl; (with_reducible repeat (first | refine blk_drewN ?_ _ | refine blk_drew ?_ | refine blk_alloc ?_ _)); refine blk_put (cs := #[.int .i64 0, .int .i64 0, .int .i64 0, .int .i64 0, .int .i64 0, .int .i64 0, .int .i64 0, .int .i64 0, .int .i64 0, .int .i64 0, .int .i64 0]) ?_ 5 _ rfl; (with_reducible repeat (first | refine blk_drewN ?_ _ | refine blk_drew ?_ | refine blk_alloc ?_ _)); refine blk_put (cs := #[.int .i64 0, .int .i64 0, .int .i64 0, .int .i64 0, .int .i64 0, .int .i64 0, .int .i64 0, .int .i64 0, .int .i64 0, .int .i64 0, .int .i64 0]) ?_ 4 _ rfl; (with_reducible repeat (first | refine blk_drewN ?_ _ | refine blk_drew ?_ | refine blk_alloc ?_ _)); refine blk_put (cs := #[.int .i64 0, .int .i64 0, .int .i64 0, .int .i64 0, .int .i64 0, .int .i64 0, .int .i64 0, .int .i64 0, .int .i64 0, .int .i64 0, .int .i64 0]) ?_ 3 _ rfl; (with_reducible repeat (first | refine blk_drewN ?_ _ | refine blk_drew ?_ | refine blk_alloc ?_ _)); refine blk_put (cs := #[.int .i64 0, .int .i64 0, .int .i64 0, .int .i64 0, .int .i64 0, .int .i64 0, .int .i64 0, .int .i64 0, .int .i64 0, .int .i64 0, .int .i64 0]) ?_ 2 _ rfl; (with_reducible repeat (first | refine blk_drewN ?_ _ | refine blk_drew ?_ | refine blk_alloc ?_ _)); refine blk_put (cs := #[.int .i64 0, .int .i64 0, .int .i64 0, .int .i64 0, .int .i64 0, .int .i64 0, .int .i64 0, .int .i64 0, .int .i64 0, .int .i64 0, .int .i64 0]) ?_ 1 _ rfl; (with_reducible repeat (first | refine blk_drewN ?_ _ | refine blk_drew ?_ | refine blk_alloc ?_ _)); refine blk_put (cs := #[.int .i64 0, .int .i64 0, .int .i64 0, .int .i64 0, .int .i64 0, .int .i64 0, .int .i64 0, .int .i64 0, .int .i64 0, .int .i64 0, .int .i64 0]) ?_ 0 _ rfl; (with_reducible repeat (first | refine blk_drewN ?_ _ | refine blk_drew ?_ | refine blk_alloc ?_ _)); exact Bgz.out) Try.underlying23 rfl (by kernel_rfl)) rfl ?_
                exact ⟨by first | rfl | simp, by repeat (first | (with_reducible first | exact HB.out | apply below_alloc | apply pw_below_drewN | apply below_drew1 | refine below_set ?_ Ggz.out) | exact HB.out)⟩
            · have c1 : decide (0 ≤ y) = false := decide_eq_false h1
              have hT : fits1 (pAt (ints a0 a1 a2 a3 a4 a5 a6 a7 a8 a9 a10) i) (pAt (ints b0 b1 b2 b3 b4 b5 b6 b7 b8 b9 b10) i) = true := by rw [HX.out, HY.out, HF.out]; simp [h1]
              cases gk with
              | zero => have := HK.out; omega
              | succ g1 =>
                have hU : ∀ j, j < i + 1 → fits1 (pAt (ints a0 a1 a2 a3 a4 a5 a6 a7 a8 a9 a10) j) (pAt (ints b0 b1 b2 b3 b4 b5 b6 b7 b8 b9 b10) j) = true := by
                  intro j hj
                  by_cases hji : j < i
                  · exact HU.out j hji
                  · have : j = i := by omega
                    subst this; exact hT
                have HU' := Aside0.mk hU
                clear hU
                try go_wp2_with (fail)
                go_roundg g1
                case measure => omega
                case rel => exact ⟨i + 1, rfl, ⟨by have := HK.out; omega⟩, ⟨by omega⟩, HU', ⟨by rw [← mixUp_keep (ints a0 a1 a2 a3 a4 a5 a6 a7 a8 a9 a10) (ints b0 b1 b2 b3 b4 b5 b6 b7 b8 b9 b10) i hi hm]; exact Bgo.out⟩, Bgb, Bgz, Bgc, ⟨by repeat (first | (with_reducible first | exact HB.out | apply below_alloc | apply pw_below_drewN | apply below_drew1 | refine below_set ?_ Ggo.out) | exact HB.out)⟩⟩
        · have ci : decide ((i : Int) < 11) = false := decide_eq_false (by omega)
          have hi11 : i = 11 := by have := H11.out; omega
          subst hi11
          have h := H.out
          rw [if_pos (all_yes (fun j => fits1 (pAt (ints a0 a1 a2 a3 a4 a5 a6 a7 a8 a9 a10) j) (pAt (ints b0 b1 b2 b3 b4 b5 b6 b7 b8 b9 b10) j)) (fun j hj => HU.out j hj))] at h
          simp only [Option.some.injEq, Prod.mk.injEq] at h
          obtain ⟨rfl, rfl, rfl, rfl, rfl, rfl, rfl, rfl, rfl, rfl, rfl, rfl⟩ := h
          clear H
          have Bo := Aside0.mk (show wr.heap[go]? = some (.cells #[.int .i64 (meet1 a0 b0), .int .i64 (meet1 a1 b1), .int .i64 (meet1 a2 b2), .int .i64 (meet1 a3 b3), .int .i64 (meet1 a4 b4), .int .i64 (meet1 a5 b5), .int .i64 (meet1 a6 b6), .int .i64 (meet1 a7 b7), .int .i64 (meet1 a8 b8), .int .i64 (meet1 a9 b9), .int .i64 (meet1 a10 b10)] 23) from (vals_full a0 a1 a2 a3 a4 a5 a6 a7 a8 a9 a10 b0 b1 b2 b3 b4 b5 b6 b7 b8 b9 b10) ▸ Bgo.out)
          have hco0 : wr.cell? ⟨go, 0, none⟩ = some (.int .i64 (meet1 a0 b0)) := (blk_cell Bo.out 0).trans rfl
          have hco1 : wr.cell? ⟨go, 1, none⟩ = some (.int .i64 (meet1 a1 b1)) := (blk_cell Bo.out 1).trans rfl
          have hco2 : wr.cell? ⟨go, 2, none⟩ = some (.int .i64 (meet1 a2 b2)) := (blk_cell Bo.out 2).trans rfl
          have hco3 : wr.cell? ⟨go, 3, none⟩ = some (.int .i64 (meet1 a3 b3)) := (blk_cell Bo.out 3).trans rfl
          have hco4 : wr.cell? ⟨go, 4, none⟩ = some (.int .i64 (meet1 a4 b4)) := (blk_cell Bo.out 4).trans rfl
          have hco5 : wr.cell? ⟨go, 5, none⟩ = some (.int .i64 (meet1 a5 b5)) := (blk_cell Bo.out 5).trans rfl
          have hco6 : wr.cell? ⟨go, 6, none⟩ = some (.int .i64 (meet1 a6 b6)) := (blk_cell Bo.out 6).trans rfl
          have hco7 : wr.cell? ⟨go, 7, none⟩ = some (.int .i64 (meet1 a7 b7)) := (blk_cell Bo.out 7).trans rfl
          have hco8 : wr.cell? ⟨go, 8, none⟩ = some (.int .i64 (meet1 a8 b8)) := (blk_cell Bo.out 8).trans rfl
          have hco9 : wr.cell? ⟨go, 9, none⟩ = some (.int .i64 (meet1 a9 b9)) := (blk_cell Bo.out 9).trans rfl
          have hco10 : wr.cell? ⟨go, 10, none⟩ = some (.int .i64 (meet1 a10 b10)) := (blk_cell Bo.out 10).trans rfl
          have hz0 : wr.cell? ⟨gz, 0, none⟩ = some (.int .i64 0) := (blk_cell Bgz.out 0).trans rfl
          have hfz0 := blk_frozen Bgz.out 0
          have hz1 : wr.cell? ⟨gz, 1, none⟩ = some (.int .i64 0) := (blk_cell Bgz.out 1).trans rfl
          have hfz1 := blk_frozen Bgz.out 1
          have hz2 : wr.cell? ⟨gz, 2, none⟩ = some (.int .i64 0) := (blk_cell Bgz.out 2).trans rfl
          have hfz2 := blk_frozen Bgz.out 2
          have hz3 : wr.cell? ⟨gz, 3, none⟩ = some (.int .i64 0) := (blk_cell Bgz.out 3).trans rfl
          have hfz3 := blk_frozen Bgz.out 3
          have hz4 : wr.cell? ⟨gz, 4, none⟩ = some (.int .i64 0) := (blk_cell Bgz.out 4).trans rfl
          have hfz4 := blk_frozen Bgz.out 4
          have hz5 : wr.cell? ⟨gz, 5, none⟩ = some (.int .i64 0) := (blk_cell Bgz.out 5).trans rfl
          have hfz5 := blk_frozen Bgz.out 5
          have hz6 : wr.cell? ⟨gz, 6, none⟩ = some (.int .i64 0) := (blk_cell Bgz.out 6).trans rfl
          have hfz6 := blk_frozen Bgz.out 6
          have hz7 : wr.cell? ⟨gz, 7, none⟩ = some (.int .i64 0) := (blk_cell Bgz.out 7).trans rfl
          have hfz7 := blk_frozen Bgz.out 7
          have hz8 : wr.cell? ⟨gz, 8, none⟩ = some (.int .i64 0) := (blk_cell Bgz.out 8).trans rfl
          have hfz8 := blk_frozen Bgz.out 8
          have hz9 : wr.cell? ⟨gz, 9, none⟩ = some (.int .i64 0) := (blk_cell Bgz.out 9).trans rfl
          have hfz9 := blk_frozen Bgz.out 9
          have hz10 : wr.cell? ⟨gz, 10, none⟩ = some (.int .i64 0) := (blk_cell Bgz.out 10).trans rfl
          have hfz10 := blk_frozen Bgz.out 10
          try go_wp2_with (fail)
          refine bodyPost_ret (results_ct rfl _ _ gz 23 #[.int .i64 (meet1 a0 b0), .int .i64 (meet1 a1 b1), .int .i64 (meet1 a2 b2), .int .i64 (meet1 a3 b3), .int .i64 (meet1 a4 b4), .int .i64 (meet1 a5 b5), .int .i64 (meet1 a6 b6), .int .i64 (meet1 a7 b7), .int .i64 (meet1 a8 b8), .int .i64 (meet1 a9 b9), .int .i64 (meet1 a10 b10)] (0, 0) _ rfl (by (with_reducible repeat (first | refine blk_drewN ?_ _ | refine blk_drew ?_ | refine blk_alloc ?_ _)); refine blk_put (cs := #[.int .i64 (meet1 a0 b0), .int .i64 (meet1 a1 b1), .int .i64 (meet1 a2 b2), .int .i64 (meet1 a3 b3), .int .i64 (meet1 a4 b4), .int .i64 (meet1 a5 b5), .int .i64 (meet1 a6 b6), .int .i64 (meet1 a7 b7), .int .i64 (meet1 a8 b8), .int .i64 (meet1 a9 b9), .int .i64 0]) ?_ 10 _ rfl; (with_reducible repeat (first | refine blk_drewN ?_ _ | refine blk_drew ?_ | refine blk_alloc ?_ _)); refine blk_put (cs := #[.int .i64 (meet1 a0 b0), .int .i64 (meet1 a1 b1), .int .i64 (meet1 a2 b2), .int .i64 (meet1 a3 b3), .int .i64 (meet1 a4 b4), .int .i64 (meet1 a5 b5), .int .i64 (meet1 a6 b6), .int .i64 (meet1 a7 b7), .int .i64 (meet1 a8 b8), .int .i64 0, .int .i64 0]) ?_ 9 _ rfl; (with_reducible repeat (first | refine blk_drewN ?_ _ | refine blk_drew ?_ | refine blk_alloc ?_ _)); refine blk_put (cs := #[.int .i64 (meet1 a0 b0), .int .i64 (meet1 a1 b1), .int .i64 (meet1 a2 b2), .int .i64 (meet1 a3 b3), .int .i64 (meet1 a4 b4), .int .i64 (meet1 a5 b5), .int .i64 (meet1 a6 b6), .int .i64 (meet1 a7 b7), .int .i64 0, .int .i64 0, .int .i64 0]) ?_ 8 _ rfl; (with_reducible repeat (first | refine blk_drewN ?_ _ | refine blk_drew ?_ | refine blk_alloc ?_ _)); refine blk_put (cs := #[.int .i64 (meet1 a0 b0), .int .i64 (meet1 a1 b1), .int .i64 (meet1 a2 b2), .int .i64 (meet1 a3 b3), .int .i64 (meet1 a4 b4), .int .i64 (meet1 a5 b5), .int .i64 (meet1 a6 b6), .int .i64 0, .int .i64 0, .int .i64 0, .int .i64 0]) ?_ 7 _ rfl; (with_reducible repeat (first | refine blk_drewN ?_ _ | refine blk_drew ?_ | refine blk_alloc ?_ _)); refine blk_put (cs := #[.int .i64 (meet1 a0 b0), .int .i64 (meet1 a1 b1), .int .i64 (meet1 a2 b2), .int .i64 (meet1 a3 b3), .int .i64 (meet1 a4 b4), .int .i64 (meet1 a5 b5), .int .i64 0, .int .i64 0, .int .i64 0, .int .i64 0, .int .i64 0]) ?_ 6 _ rfl; (with_reducible repeat (first | refine blk_drewN ?_ _ | refine blk_drew ?_ | refine blk_alloc ?_ _)); refine blk_put (cs := #[.int .i64 (meet1 a0 b0), .int .i64 (meet1 a1 b1), .int .i64 (meet1 a2 b2), .int .i64 (meet1 a3 b3), .int .i64 (meet1 a4 b4), .int .i64 0, .int .i64 0, .int .i64 0, .int .i64 0, .int .i64 0, .int .i64 0]) ?_ 5 _ rfl; (with_reducible repeat (first | refine blk_drewN ?_ _ | refine blk_drew ?_ | refine blk_alloc ?_ _)); refine blk_put (cs := #[.int .i64 (meet1 a0 b0), .int .i64 (meet1 a1 b1), .int .i64 (meet1 a2 b2), .int .i64 (meet1 a3 b3), .int .i64 0, .int .i64 0, .int .i64 0, .int .i64 0, .int .i64 0, .int .i64 0, .int .i64 0]) ?_ 4 _ rfl; (with_reducible repeat (first | refine blk_drewN ?_ _ | refine blk_drew ?_ | refine blk_alloc ?_ _)); refine blk_put (cs := #[.int .i64 (meet1 a0 b0), .int .i64 (meet1 a1 b1), .int .i64 (meet1 a2 b2), .int .i64 0, .int .i64 0, .int .i64 0, .int .i64 0, .int .i64 0, .int .i64 0, .int .i64 0, .int .i64 0]) ?_ 3 _ rfl; (with_reducible repeat (first | refine blk_drewN ?_ _ | refine blk_drew ?_ | refine blk_alloc ?_ _)); refine blk_put (cs := #[.int .i64 (meet1 a0 b0), .int .i64 (meet1 a1 b1), .int .i64 0, .int .i64 0, .int .i64 0, .int .i64 0, .int .i64 0, .int .i64 0, .int .i64 0, .int .i64 0, .int .i64 0]) ?_ 2 _ rfl; (with_reducible repeat (first | refine blk_drewN ?_ _ | refine blk_drew ?_ | refine blk_alloc ?_ _)); refine blk_put (cs := #[.int .i64 (meet1 a0 b0), .int .i64 0, .int .i64 0, .int .i64 0, .int .i64 0, .int .i64 0, .int .i64 0, .int .i64 0, .int .i64 0, .int .i64 0, .int .i64 0]) ?_ 1 _ rfl; (with_reducible repeat (first | refine blk_drewN ?_ _ | refine blk_drew ?_ | refine blk_alloc ?_ _)); refine blk_put (cs := #[.int .i64 0, .int .i64 0, .int .i64 0, .int .i64 0, .int .i64 0, .int .i64 0, .int .i64 0, .int .i64 0, .int .i64 0, .int .i64 0, .int .i64 0]) ?_ 0 _ rfl; (with_reducible repeat (first | refine blk_drewN ?_ _ | refine blk_drew ?_ | refine blk_alloc ?_ _)); exact Bgz.out) Try.underlying23 rfl (by kernel_rfl)) rfl ?_
          exact ⟨by first | rfl | simp, by repeat (first | (with_reducible first | exact HB.out | apply below_alloc | apply pw_below_drewN | apply below_drew1 | refine below_set ?_ Ggz.out) | exact HB.out)⟩
end Go.Proofs.Ytecccbecflbcfaa.PDuo
