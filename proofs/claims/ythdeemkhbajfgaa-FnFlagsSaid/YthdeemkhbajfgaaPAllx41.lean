/- Functions of the program as plain Lean functions, each with a proof that the machine's call comes to it; written for this seat's claims by a program of mine. -/
import Derived.Test.YthdeemkhbajfgaaPAllx0
import Derived.Test.YthdeemkhbajfgaaPAllx33
import Derived.Test.YthdeemkhbajfgaaPAllx34
namespace Go.Proofs.Ythdeemkhbajfgaa.PAll
open Go.RowKit Go.Proofs.YthdeemkhbajfgaaW.PrintWords Go.Proofs.YthdeemkhbajfgaaW.PrintLast Go.Proofs.YthdeemkhbajfgaaW.PrintMore
attribute [local go_sem] max2_int min2_int max_two min_two max_three min_three max_four min_four   -- for this text's walks alone
attribute [local go_sem] Go.Proofs.Ythdeemkhbajfgaa.Cell.cell_set_off
set_option linter.unusedVariables false
set_option linter.unusedSimpArgs false

/-! ### spec_DrawPackP: function 52 -/
def spec_DrawPackP.f (k : Nat) (l0 : List Int) : Option (Bool × Bool × Bool × Bool × Bool × Bool × Bool) := (spec_l01New.f k l0).bind fun bt673 => ((spec_l02Flags.f bt673.1 bt673.2.1 bt673.2.2).bind fun bt677 => ((spec_l01Once.f bt673.1 bt677.2.2.2.2.2.2.1 bt677.2.2.2.2.2.2.2 2).bind fun bt686 => (some (bt677.1, bt677.2.1, bt677.2.2.1, bt677.2.2.2.1, bt677.2.2.2.2.1, bt677.2.2.2.2.2.1, bt686.1))))
theorem spec_DrawPackP.mono : ∀ a0 k, LeO (spec_DrawPackP.f k a0) (spec_DrawPackP.f (k + 1) a0) := by
  intro a0 k
  unfold spec_DrawPackP.f
  repeat' first
      | (with_reducible exact spec_l01New.mono _ _)
      | (with_reducible exact LeO.refl _)
      | (with_reducible exact LeO.none _)
      | (with_reducible refine LeO.ite ?_ ?_)
      | (with_reducible refine LeO.bind ?_ (fun _ => ?_))
      | exact spec_l01New.mono _ _
      | exact LeO.none _
      | refine LeO.ite ?_ ?_
      | refine LeO.bind ?_ (fun _ => ?_)
set_option maxHeartbeats 8000000 in
set_option maxRecDepth 100000 in
theorem spec_DrawPackP.calls (k : Nat) (A0 : Option Addr) (c0 : Nat) (l0 : List Int) (r1 : Bool) (r2 : Bool) (r3 : Bool) (r4 : Bool) (r5 : Bool) (r6 : Bool) (r7 : Bool) (w : World) (hr0 : Kd.C (Kd.int .u8) w A0 l0.length l0) (hc0 : l0.length ≤ c0) (h : spec_DrawPackP.f k l0 = some (r1, r2, r3, r4, r5, r6, r7)) :
    Calls Try.prog 52 #[.slice A0 l0.length c0] w fun e w' => e = .returned (.tuple #[.agg #[.bool r1, .bool r2, .bool r3, .bool r4, .bool r5, .bool r6], .bool r7]) ∧ Below w.heap.size w w' := by
  have hu40 := Try.underlying40
  have HR0 := Aside0.mk hr0
  have HC0 := Aside0.mk hc0
  clear hr0 hc0
  have HB := Aside0.mk (Below.refl w.heap.size w)
  have H : ((spec_l01New.f k l0).bind fun bt673 => ((spec_l02Flags.f bt673.1 bt673.2.1 bt673.2.2).bind fun bt677 => ((spec_l01Once.f bt673.1 bt677.2.2.2.2.2.2.1 bt677.2.2.2.2.2.2.2 2).bind fun bt686 => (some (bt677.1, bt677.2.1, bt677.2.2.1, bt677.2.2.2.1, bt677.2.2.2.2.1, bt677.2.2.2.2.2.1, bt686.1))))) = some (r1, r2, r3, r4, r5, r6, r7) := h
  clear h
  replace H := Option.bind_eq_some_iff.mp H
  obtain ⟨⟨t673, t674, t675⟩, A20, H⟩ := H
  replace H : ((spec_l02Flags.f t673 t674 t675).bind fun bt677 => ((spec_l01Once.f t673 bt677.2.2.2.2.2.2.1 bt677.2.2.2.2.2.2.2 2).bind fun bt686 => (some (bt677.1, bt677.2.1, bt677.2.2.1, bt677.2.2.2.1, bt677.2.2.2.2.1, bt677.2.2.2.2.2.1, bt686.1)))) = some (r1, r2, r3, r4, r5, r6, r7) := H
  have A2 := Aside0.mk A20
  clear A20
  replace H := Option.bind_eq_some_iff.mp H
  obtain ⟨⟨t677, t678, t679, t680, t681, t682, t683, t684⟩, A30, H⟩ := H
  replace H : ((spec_l01Once.f t673 t683 t684 2).bind fun bt686 => (some (t677, t678, t679, t680, t681, t682, bt686.1))) = some (r1, r2, r3, r4, r5, r6, r7) := H
  have A3 := Aside0.mk A30
  clear A30
  replace H := Option.bind_eq_some_iff.mp H
  obtain ⟨⟨t686, t687, t688⟩, A40, H⟩ := H
  replace H : (some (t677, t678, t679, t680, t681, t682, t686)) = some (r1, r2, r3, r4, r5, r6, r7) := H
  have A4 := Aside0.mk A40
  clear A40
  simp only [Option.some.injEq, Prod.mk.injEq] at H
  obtain ⟨rfl, rfl, rfl, rfl, rfl, rfl, rfl⟩ := H
  go_enter Try.func52, Try.ntmps52
  try go_wp2_with (first | ((with_reducible refine gate_dst (N := 2) rfl ?_); refine box_event ?hg (N := 2) ?hd (cs := #[.bool false, .bool false, .bool false, .bool false, .bool false, .bool false]) (t := 40) ?hr ?_; (case hd => rfl); (case hg => rfl); (case hr => first | (go_simp; done) | (go_simp; rfl)); intro gb672 hg w5 hbox hb; have n0_ := Aside0.mk (below_step (by repeat (first | (with_reducible first | exact HB.out | apply below_alloc | apply pw_below_drewN | apply below_drew1) | exact HB.out)) hb); have n1_ := Aside0.mk (hbox); have n2_ := Aside0.mk ((by rw [hg]; exact (below_size (by repeat (first | (with_reducible first | exact HB.out | apply below_alloc | apply pw_below_drewN | apply below_drew1) | exact HB.out))) : w.heap.size ≤ gb672)); have n3_ := Aside0.mk ((by rw [hg]; exact (below_size (by repeat (first | (with_reducible first | exact HB.out | apply below_alloc | apply pw_below_drewN | apply below_drew1) | exact HB.out))) : w.heap.size ≤ gb672)); clear HB; have HB := n0_; have BK672 := n1_; have GW672 := n2_; have GE672 := n3_; clear n0_ n1_ n2_ n3_; clear hb hbox hg) | ((with_reducible refine gate_callee (f := 86) rfl ?_); refine goesL_ (some 7) rfl rfl Try.func86 (by kernel_rfl) rfl #[.slice A0 l0.length c0] rfl (by (try simp only [List.map_toArray, List.map_cons, List.map_nil]); first | done | rfl | (simp only [List.length_drop, List.length_take]; rfl)) ?_; (with_reducible refine (spec_l01New.calls k _ _ l0 t673 t674 t675 w _ ?side1 ?side2 ?side3 A2.out).mono ?_); (case side1 => repeat (first | (with_reducible first | exact HB.out | apply below_alloc | apply pw_below_drewN | apply below_drew1 | refine below_set ?_ GE672.out) | exact HB.out)); (case side2 => exact HR0.out); (case side3 => exact HC0.out); rintro e w6 ⟨g676, rfl, hi, hb, hb2⟩; refine ⟨_, rfl, ?_⟩; have n0_ := Aside0.mk (blk_below (g := gb672) (o := .cells #[.bool false, .bool false, .bool false, .bool false, .bool false, .bool false] 40 (0, 0)) (by (with_reducible repeat (first | refine blk_drewN ?_ _ | refine blk_drew ?_ | refine blk_alloc ?_ _)); exact BK672.out) hb2); have n1_ := Aside0.mk (hb); have n2_ := Aside0.mk (hi); have n3_ := Aside0.mk (IsS130.ne_blk hi (blk_below (g := gb672) (o := .cells #[.bool false, .bool false, .bool false, .bool false, .bool false, .bool false] 40 (0, 0)) (by (with_reducible repeat (first | refine blk_drewN ?_ _ | refine blk_drew ?_ | refine blk_alloc ?_ _)); exact BK672.out) hb2) (by decide)); have n4_ := Aside0.mk (Ne.symm (IsS130.ne_blk hi (blk_below (g := gb672) (o := .cells #[.bool false, .bool false, .bool false, .bool false, .bool false, .bool false] 40 (0, 0)) (by (with_reducible repeat (first | refine blk_drewN ?_ _ | refine blk_drew ?_ | refine blk_alloc ?_ _)); exact BK672.out) hb2) (by decide))); clear BK672; clear HB; have BK672 := n0_; have HB := n1_; have HI676 := n2_; have NB676_672 := n3_; have NB672_676 := n4_; clear n0_ n1_ n2_ n3_ n4_; (try clear hb); (try clear hb2); (try clear hk); (try clear hi)) | ((with_reducible refine gate_callee (f := 88) rfl ?_); refine goesL_ (some 9) rfl rfl Try.func88 (by kernel_rfl) rfl #[.pointer (some ⟨g676, 0, none⟩)] rfl (by (try simp only [List.map_toArray, List.map_cons, List.map_nil]); first | done | rfl | (simp only [List.length_drop, List.length_take]; rfl)) ?_; (with_reducible refine (spec_l02Flags.calls g676 t673 t674 t675 t677 t678 t679 t680 t681 t682 t683 t684 w _ ?side1 ?side2 A3.out).mono ?_); (case side1 => repeat (first | (with_reducible first | exact HI676.out | apply IsS130.alloc | apply IsS130.drewN | apply IsS130.drew | apply IsS130.set_1 | apply IsS130.set_2 | refine IsS130.far ?_ NB676_672.out _) | exact HI676.out)); (case side2 => repeat (first | (with_reducible first | exact HB.out | apply below_alloc | apply pw_below_drewN | apply below_drew1 | refine below_set ?_ (IsS130.ge HI676.out) | refine below_set ?_ GE672.out) | exact HB.out)); rintro e w7 ⟨rfl, hi, hb, hk⟩; refine ⟨_, rfl, ?_⟩; have n0_ := Aside0.mk (KeepBut.blk hk (g' := gb672) (o := .cells #[.bool false, .bool false, .bool false, .bool false, .bool false, .bool false] 40 (0, 0)) (by (with_reducible repeat (first | refine blk_drewN ?_ _ | refine blk_drew ?_ | refine blk_alloc ?_ _)); exact BK672.out) NB672_676.out (by simp)); have n1_ := Aside0.mk (hb); have n2_ := Aside0.mk (hi); clear BK672; clear HB; clear HI676; have BK672 := n0_; have HB := n1_; have HI676 := n2_; clear n0_ n1_ n2_; (try clear hb); (try clear hb2); (try clear hk); (try clear hi)) | ((with_reducible refine gate_dst (N := 5) rfl ?_); refine box_event ?hg (N := 5) ?hd (cs := #[.bool false, .bool false, .bool false, .bool false, .bool false, .bool false]) (t := 40) ?hr ?_; (case hd => rfl); (case hg => rfl); (case hr => first | (go_simp; done) | (go_simp; rfl)); intro gb685 hg w8 hbox hb; have n0_ := Aside0.mk (blk_below (g := gb672) (o := .cells #[.bool false, .bool false, .bool false, .bool false, .bool false, .bool false] 40 (0, 0)) (by (with_reducible repeat (first | refine blk_drewN ?_ _ | refine blk_drew ?_ | refine blk_alloc ?_ _)); exact BK672.out) hb); have n1_ := Aside0.mk (IsS130.below (by repeat (first | (with_reducible first | exact HI676.out | apply IsS130.alloc | apply IsS130.drewN | apply IsS130.drew | apply IsS130.set_1 | apply IsS130.set_2 | refine IsS130.far ?_ NB676_672.out _) | exact HI676.out)) hb); have n2_ := Aside0.mk (below_step (by repeat (first | (with_reducible first | exact HB.out | apply below_alloc | apply pw_below_drewN | apply below_drew1 | refine below_set ?_ (IsS130.ge HI676.out) | refine below_set ?_ GE672.out) | exact HB.out)) hb); have n3_ := Aside0.mk (hbox); have n4_ := Aside0.mk ((by rw [hg]; exact (below_size (by repeat (first | (with_reducible first | exact HB.out | apply below_alloc | apply pw_below_drewN | apply below_drew1 | refine below_set ?_ (IsS130.ge HI676.out) | refine below_set ?_ GE672.out) | exact HB.out))) : w.heap.size ≤ gb685)); have n5_ := Aside0.mk ((by rw [hg]; exact (below_size (by repeat (first | (with_reducible first | exact HB.out | apply below_alloc | apply pw_below_drewN | apply below_drew1 | refine below_set ?_ (IsS130.ge HI676.out) | refine below_set ?_ GE672.out) | exact HB.out))) : w.heap.size ≤ gb685)); have n6_ := Aside0.mk ((by rw [hg]; exact Nat.ne_of_lt (blk_lt (g := gb672) (o := .cells #[.bool false, .bool false, .bool false, .bool false, .bool false, .bool false] 40 (0, 0)) (by (with_reducible repeat (first | refine blk_drewN ?_ _ | refine blk_drew ?_ | refine blk_alloc ?_ _)); exact BK672.out)) : gb672 ≠ gb685)); have n7_ := Aside0.mk ((by rw [hg]; exact Nat.ne_of_gt (blk_lt (g := gb672) (o := .cells #[.bool false, .bool false, .bool false, .bool false, .bool false, .bool false] 40 (0, 0)) (by (with_reducible repeat (first | refine blk_drewN ?_ _ | refine blk_drew ?_ | refine blk_alloc ?_ _)); exact BK672.out)) : gb685 ≠ gb672)); have n8_ := Aside0.mk ((by rw [hg]; exact Nat.ne_of_lt (IsS130.lt (show IsS130 w _ g676 t673 t683 t684 from by repeat (first | (with_reducible first | exact HI676.out | apply IsS130.alloc | apply IsS130.drewN | apply IsS130.drew | apply IsS130.set_1 | apply IsS130.set_2 | refine IsS130.far ?_ NB676_672.out _) | exact HI676.out))) : g676 ≠ gb685)); have n9_ := Aside0.mk ((by rw [hg]; exact Nat.ne_of_gt (IsS130.lt (show IsS130 w _ g676 t673 t683 t684 from by repeat (first | (with_reducible first | exact HI676.out | apply IsS130.alloc | apply IsS130.drewN | apply IsS130.drew | apply IsS130.set_1 | apply IsS130.set_2 | refine IsS130.far ?_ NB676_672.out _) | exact HI676.out))) : gb685 ≠ g676)); clear BK672; clear HI676; clear HB; have BK672 := n0_; have HI676 := n1_; have HB := n2_; have BK685 := n3_; have GW685 := n4_; have GE685 := n5_; have NB672_685 := n6_; have NB685_672 := n7_; have NB676_685 := n8_; have NB685_676 := n9_; clear n0_ n1_ n2_ n3_ n4_ n5_ n6_ n7_ n8_ n9_; clear hb hbox hg; have hnb9 := NB685_672.out; have hnc9 := NB672_685.out; have hnb10 := NB685_676.out; have hnc10 := NB676_685.out; have hcz11_0 : w8.cell? ⟨gb685, 0, none⟩ = some (.bool false) := (blk_cell BK685.out 0).trans rfl; have hcz11_1 : w8.cell? ⟨gb685, 1, none⟩ = some (.bool false) := (blk_cell BK685.out 1).trans rfl; have hcz11_2 : w8.cell? ⟨gb685, 2, none⟩ = some (.bool false) := (blk_cell BK685.out 2).trans rfl; have hcz11_3 : w8.cell? ⟨gb685, 3, none⟩ = some (.bool false) := (blk_cell BK685.out 3).trans rfl; have hcz11_4 : w8.cell? ⟨gb685, 4, none⟩ = some (.bool false) := (blk_cell BK685.out 4).trans rfl; have hcz11_5 : w8.cell? ⟨gb685, 5, none⟩ = some (.bool false) := (blk_cell BK685.out 5).trans rfl; have hfz11_0 := blk_frozen BK685.out 0; have hfz11_1 := blk_frozen BK685.out 1; have hfz11_2 := blk_frozen BK685.out 2; have hfz11_3 := blk_frozen BK685.out 3; have hfz11_4 := blk_frozen BK685.out 4; have hfz11_5 := blk_frozen BK685.out 5))
  have n0_ : Aside0 (((((((w8.setCell ⟨gb685, 0, none⟩ (.bool t677)).setCell ⟨gb685, 1, none⟩ (.bool t678)).setCell ⟨gb685, 2, none⟩ (.bool t679)).setCell ⟨gb685, 3, none⟩ (.bool t680)).setCell ⟨gb685, 4, none⟩ (.bool t681)).setCell ⟨gb685, 5, none⟩ (.bool t682)).heap[gb672]? = some (.cells #[.bool false, .bool false, .bool false, .bool false, .bool false, .bool false] 40 (0, 0))) := ⟨by (with_reducible repeat (first | refine blk_drewN ?_ _ | refine blk_drew ?_ | refine blk_alloc ?_ _)); refine blk_far ?_ NB672_685.out _; (with_reducible repeat (first | refine blk_drewN ?_ _ | refine blk_drew ?_ | refine blk_alloc ?_ _)); refine blk_far ?_ NB672_685.out _; (with_reducible repeat (first | refine blk_drewN ?_ _ | refine blk_drew ?_ | refine blk_alloc ?_ _)); refine blk_far ?_ NB672_685.out _; (with_reducible repeat (first | refine blk_drewN ?_ _ | refine blk_drew ?_ | refine blk_alloc ?_ _)); refine blk_far ?_ NB672_685.out _; (with_reducible repeat (first | refine blk_drewN ?_ _ | refine blk_drew ?_ | refine blk_alloc ?_ _)); refine blk_far ?_ NB672_685.out _; (with_reducible repeat (first | refine blk_drewN ?_ _ | refine blk_drew ?_ | refine blk_alloc ?_ _)); refine blk_far ?_ NB672_685.out _; (with_reducible repeat (first | refine blk_drewN ?_ _ | refine blk_drew ?_ | refine blk_alloc ?_ _)); exact BK672.out⟩
  have n1_ : Aside0 (((((((w8.setCell ⟨gb685, 0, none⟩ (.bool t677)).setCell ⟨gb685, 1, none⟩ (.bool t678)).setCell ⟨gb685, 2, none⟩ (.bool t679)).setCell ⟨gb685, 3, none⟩ (.bool t680)).setCell ⟨gb685, 4, none⟩ (.bool t681)).setCell ⟨gb685, 5, none⟩ (.bool t682)).heap[gb685]? = some (.cells #[.bool t677, .bool t678, .bool t679, .bool t680, .bool t681, .bool t682] 40 (0, 0))) := ⟨by (with_reducible repeat (first | refine blk_drewN ?_ _ | refine blk_drew ?_ | refine blk_alloc ?_ _)); refine blk_put (cs := #[.bool t677, .bool t678, .bool t679, .bool t680, .bool t681, .bool false]) ?_ 5 _ rfl; (with_reducible repeat (first | refine blk_drewN ?_ _ | refine blk_drew ?_ | refine blk_alloc ?_ _)); refine blk_put (cs := #[.bool t677, .bool t678, .bool t679, .bool t680, .bool false, .bool false]) ?_ 4 _ rfl; (with_reducible repeat (first | refine blk_drewN ?_ _ | refine blk_drew ?_ | refine blk_alloc ?_ _)); refine blk_put (cs := #[.bool t677, .bool t678, .bool t679, .bool false, .bool false, .bool false]) ?_ 3 _ rfl; (with_reducible repeat (first | refine blk_drewN ?_ _ | refine blk_drew ?_ | refine blk_alloc ?_ _)); refine blk_put (cs := #[.bool t677, .bool t678, .bool false, .bool false, .bool false, .bool false]) ?_ 2 _ rfl; (with_reducible repeat (first | refine blk_drewN ?_ _ | refine blk_drew ?_ | refine blk_alloc ?_ _)); refine blk_put (cs := #[.bool t677, .bool false, .bool false, .bool false, .bool false, .bool false]) ?_ 1 _ rfl; (with_reducible repeat (first | refine blk_drewN ?_ _ | refine blk_drew ?_ | refine blk_alloc ?_ _)); refine blk_put (cs := #[.bool false, .bool false, .bool false, .bool false, .bool false, .bool false]) ?_ 0 _ rfl; (with_reducible repeat (first | refine blk_drewN ?_ _ | refine blk_drew ?_ | refine blk_alloc ?_ _)); exact BK685.out⟩
  have n2_ : Aside0 (IsS130 w ((((((w8.setCell ⟨gb685, 0, none⟩ (.bool t677)).setCell ⟨gb685, 1, none⟩ (.bool t678)).setCell ⟨gb685, 2, none⟩ (.bool t679)).setCell ⟨gb685, 3, none⟩ (.bool t680)).setCell ⟨gb685, 4, none⟩ (.bool t681)).setCell ⟨gb685, 5, none⟩ (.bool t682)) g676 t673 t683 t684) := ⟨by repeat (first | (with_reducible first | exact HI676.out | apply IsS130.alloc | apply IsS130.drewN | apply IsS130.drew | apply IsS130.set_1 | apply IsS130.set_2 | refine IsS130.far ?_ NB676_672.out _ | refine IsS130.far ?_ NB676_685.out _) | exact HI676.out)⟩
  have n3_ : Aside0 (Below w.heap.size w ((((((w8.setCell ⟨gb685, 0, none⟩ (.bool t677)).setCell ⟨gb685, 1, none⟩ (.bool t678)).setCell ⟨gb685, 2, none⟩ (.bool t679)).setCell ⟨gb685, 3, none⟩ (.bool t680)).setCell ⟨gb685, 4, none⟩ (.bool t681)).setCell ⟨gb685, 5, none⟩ (.bool t682))) := ⟨by repeat (first | (with_reducible first | exact HB.out | apply below_alloc | apply pw_below_drewN | apply below_drew1 | refine below_set ?_ (IsS130.ge HI676.out) | refine below_set ?_ GE672.out | refine below_set ?_ GE685.out) | exact HB.out)⟩
  (try clear BK672)
  (try clear BK685)
  (try clear HI676)
  (try clear HB)
  generalize ((((((w8.setCell ⟨gb685, 0, none⟩ (.bool t677)).setCell ⟨gb685, 1, none⟩ (.bool t678)).setCell ⟨gb685, 2, none⟩ (.bool t679)).setCell ⟨gb685, 3, none⟩ (.bool t680)).setCell ⟨gb685, 4, none⟩ (.bool t681)).setCell ⟨gb685, 5, none⟩ (.bool t682)) = w12 at n0_ n1_ n2_ n3_ ⊢
  have BK672 := n0_
  have BK685 := n1_
  have HI676 := n2_
  have HB := n3_
  clear n0_ n1_ n2_ n3_
  have n0_ := Aside0.mk (blk_drew BK672.out)
  have n1_ := Aside0.mk (blk_drew BK685.out)
  have n2_ := Aside0.mk (IsS130.drew HI676.out)
  have n3_ := Aside0.mk (below_drew1 HB.out)
  clear BK672
  clear BK685
  clear HI676
  clear HB
  have BK672 := n0_
  have BK685 := n1_
  have HI676 := n2_
  have HB := n3_
  clear n0_ n1_ n2_ n3_
  refine start_ (n := 5) (S := fun w' => w'.cell? ⟨gb685, 0, none⟩ = some (.bool t677) ∧ w'.cell? ⟨gb685, 1, none⟩ = some (.bool t678) ∧ w'.cell? ⟨gb685, 2, none⟩ = some (.bool t679) ∧ w'.cell? ⟨gb685, 3, none⟩ = some (.bool t680) ∧ w'.cell? ⟨gb685, 4, none⟩ = some (.bool t681) ∧ w'.cell? ⟨gb685, 5, none⟩ = some (.bool t682)) (ds := []) #[false, false, false, false, false] (by kernel_rfl) rfl rfl ⟨(blk_cell BK685.out 0).trans rfl, (blk_cell BK685.out 1).trans rfl, (blk_cell BK685.out 2).trans rfl, (blk_cell BK685.out 3).trans rfl, (blk_cell BK685.out 4).trans rfl, (blk_cell BK685.out 5).trans rfl⟩ (fun hHeld => ?_)
  generalize w12.drew = w13 at BK672 BK685 HI676 HB hHeld ⊢
  refine pure_ (i := 1) (N := some 11) (v := ?_) (a' := ?_) #[false, true, false, false, false] rfl rfl (by kernel_rfl) (fun _ _ _ h => h) (Or.inl ⟨by rfl, ?_⟩) ?_ ?_
  rotate_left
  · intro w'
    go_simp
    with_reducible rfl
  rotate_left
  · simp only [Act.put, List.setIfInBounds_toArray, List.set_cons_zero, List.set_cons_succ, i64_w, i32_w]
    rfl
  refine take_ (i := 0) (N := some 10) (v := ?_) (a' := ?_) #[true, true, false, false, false] rfl rfl (by kernel_rfl) (fun _ _ _ h => h) (Or.inl ⟨by rfl, ?_⟩) hHeld ?_ ?_
  rotate_left
  · rintro w' ⟨s0, s1, s2, s3, s4, s5⟩
    go_simp
    with_reducible rfl
  rotate_left
  · simp only [Act.put, List.setIfInBounds_toArray, List.set_cons_zero, List.set_cons_succ, i64_w, i32_w]
    rfl
  refine one_ (i := 2) (N := some 12) #[true, true, true, false, false] rfl rfl (by kernel_rfl) (by decide) (fun K hK => ?_)
  refine goes_ Try.func91 (by kernel_rfl) rfl #[.pointer (some ⟨g676, 0, none⟩), .int .i64 2] (by rfl) rfl rfl (by (try simp only [List.map_toArray, List.map_cons, List.map_nil]); first | done | rfl | (simp only [List.length_drop, List.length_take]; rfl)) ?_
  with_reducible refine (spec_l01Once.calls g676 t673 t683 t684 2 t686 t687 t688 w _ ?side1 ?side2 A4.out).mono ?_
  (case side1 => repeat (first | (with_reducible first | exact HI676.out | apply IsS130.alloc | apply IsS130.drewN | apply IsS130.drew | apply IsS130.set_1 | apply IsS130.set_2 | refine IsS130.far ?_ NB676_672.out _ | refine IsS130.far ?_ NB676_685.out _) | exact HI676.out))
  (case side2 => repeat (first | (with_reducible first | exact HB.out | apply below_alloc | apply pw_below_drewN | apply below_drew1 | refine below_set ?_ (IsS130.ge HI676.out) | refine below_set ?_ GE672.out | refine below_set ?_ GE685.out) | exact HB.out))
  rintro e w14 ⟨rfl, hi, hb, hk⟩
  refine ⟨_, rfl, ?_⟩
  have n0_ := Aside0.mk (KeepBut.blk hk (g' := gb672) (o := .cells #[.bool false, .bool false, .bool false, .bool false, .bool false, .bool false] 40 (0, 0)) (by (with_reducible repeat (first | refine blk_drewN ?_ _ | refine blk_drew ?_ | refine blk_alloc ?_ _)); exact BK672.out) NB672_676.out (by simp))
  have n1_ := Aside0.mk (KeepBut.blk hk (g' := gb685) (o := .cells #[.bool t677, .bool t678, .bool t679, .bool t680, .bool t681, .bool t682] 40 (0, 0)) (by (with_reducible repeat (first | refine blk_drewN ?_ _ | refine blk_drew ?_ | refine blk_alloc ?_ _)); exact BK685.out) NB685_676.out (by simp))
  have n2_ := Aside0.mk (hb)
  have n3_ := Aside0.mk (hi)
  clear BK672
  clear BK685
  clear HB
  clear HI676
  have BK672 := n0_
  have BK685 := n1_
  have HB := n2_
  have HI676 := n3_
  clear n0_ n1_ n2_ n3_
  (try clear hb)
  (try clear hb2)
  (try clear hk)
  (try clear hi)
  refine hK.out _ _ ⟨(blk_cell BK685.out 0).trans rfl, (blk_cell BK685.out 1).trans rfl, (blk_cell BK685.out 2).trans rfl, (blk_cell BK685.out 3).trans rfl, (blk_cell BK685.out 4).trans rfl, (blk_cell BK685.out 5).trans rfl⟩ (fun hHeld => ?_)
  clear hK K
  refine norm_ (a' := ?_) ?_ ?_
  rotate_left
  · show Act.put _ (some 12) _ = _
    simp only [Act.put, List.setIfInBounds_toArray, List.set_cons_zero, List.set_cons_succ, i64_w, i32_w]
    rfl
  refine one_ (i := 3) (N := none) #[true, true, true, true, false] rfl rfl (by kernel_rfl) (by decide) (fun K hK => ?_)
  have hs15 : w14.cell? ⟨gb672, 0, none⟩ = some (.bool false) := (blk_cell BK672.out 0).trans rfl
  have hfs15 := blk_frozen BK672.out 0
  have hns15_1 := NB685_672.out
  have hms15_1 := NB672_685.out
  have hs16 : w14.cell? ⟨gb672, 1, none⟩ = some (.bool false) := (blk_cell BK672.out 1).trans rfl
  have hfs16 := blk_frozen BK672.out 1
  have hns16_1 := NB685_672.out
  have hms16_1 := NB672_685.out
  have hs17 : w14.cell? ⟨gb672, 2, none⟩ = some (.bool false) := (blk_cell BK672.out 2).trans rfl
  have hfs17 := blk_frozen BK672.out 2
  have hns17_1 := NB685_672.out
  have hms17_1 := NB672_685.out
  have hs18 : w14.cell? ⟨gb672, 3, none⟩ = some (.bool false) := (blk_cell BK672.out 3).trans rfl
  have hfs18 := blk_frozen BK672.out 3
  have hns18_1 := NB685_672.out
  have hms18_1 := NB672_685.out
  have hs19 : w14.cell? ⟨gb672, 4, none⟩ = some (.bool false) := (blk_cell BK672.out 4).trans rfl
  have hfs19 := blk_frozen BK672.out 4
  have hns19_1 := NB685_672.out
  have hms19_1 := NB672_685.out
  have hs20 : w14.cell? ⟨gb672, 5, none⟩ = some (.bool false) := (blk_cell BK672.out 5).trans rfl
  have hfs20 := blk_frozen BK672.out 5
  have hns20_1 := NB685_672.out
  have hms20_1 := NB672_685.out
  refine skip_ (w1 := ?_) (by rfl) rfl ?_ ?_
  rotate_left
  · go_simp
    rfl
  refine hK.out _ _ ⟨((cell_far (p := ⟨gb672, _, none⟩) NB685_672.out _).trans (((cell_far (p := ⟨gb672, _, none⟩) NB685_672.out _).trans (((cell_far (p := ⟨gb672, _, none⟩) NB685_672.out _).trans (((cell_far (p := ⟨gb672, _, none⟩) NB685_672.out _).trans (((cell_far (p := ⟨gb672, _, none⟩) NB685_672.out _).trans (((cell_far (p := ⟨gb672, _, none⟩) NB685_672.out _).trans (hHeld.1)))))))))))), ((cell_far (p := ⟨gb672, _, none⟩) NB685_672.out _).trans (((cell_far (p := ⟨gb672, _, none⟩) NB685_672.out _).trans (((cell_far (p := ⟨gb672, _, none⟩) NB685_672.out _).trans (((cell_far (p := ⟨gb672, _, none⟩) NB685_672.out _).trans (((cell_far (p := ⟨gb672, _, none⟩) NB685_672.out _).trans (((cell_far (p := ⟨gb672, _, none⟩) NB685_672.out _).trans (hHeld.2.1)))))))))))), ((cell_far (p := ⟨gb672, _, none⟩) NB685_672.out _).trans (((cell_far (p := ⟨gb672, _, none⟩) NB685_672.out _).trans (((cell_far (p := ⟨gb672, _, none⟩) NB685_672.out _).trans (((cell_far (p := ⟨gb672, _, none⟩) NB685_672.out _).trans (((cell_far (p := ⟨gb672, _, none⟩) NB685_672.out _).trans (((cell_far (p := ⟨gb672, _, none⟩) NB685_672.out _).trans (hHeld.2.2.1)))))))))))), ((cell_far (p := ⟨gb672, _, none⟩) NB685_672.out _).trans (((cell_far (p := ⟨gb672, _, none⟩) NB685_672.out _).trans (((cell_far (p := ⟨gb672, _, none⟩) NB685_672.out _).trans (((cell_far (p := ⟨gb672, _, none⟩) NB685_672.out _).trans (((cell_far (p := ⟨gb672, _, none⟩) NB685_672.out _).trans (((cell_far (p := ⟨gb672, _, none⟩) NB685_672.out _).trans (hHeld.2.2.2.1)))))))))))), ((cell_far (p := ⟨gb672, _, none⟩) NB685_672.out _).trans (((cell_far (p := ⟨gb672, _, none⟩) NB685_672.out _).trans (((cell_far (p := ⟨gb672, _, none⟩) NB685_672.out _).trans (((cell_far (p := ⟨gb672, _, none⟩) NB685_672.out _).trans (((cell_far (p := ⟨gb672, _, none⟩) NB685_672.out _).trans (((cell_far (p := ⟨gb672, _, none⟩) NB685_672.out _).trans (hHeld.2.2.2.2.1)))))))))))), ((cell_far (p := ⟨gb672, _, none⟩) NB685_672.out _).trans (((cell_far (p := ⟨gb672, _, none⟩) NB685_672.out _).trans (((cell_far (p := ⟨gb672, _, none⟩) NB685_672.out _).trans (((cell_far (p := ⟨gb672, _, none⟩) NB685_672.out _).trans (((cell_far (p := ⟨gb672, _, none⟩) NB685_672.out _).trans (((cell_far (p := ⟨gb672, _, none⟩) NB685_672.out _).trans (hHeld.2.2.2.2.2))))))))))))⟩ (fun hHeld => ?_)
  clear hK K
  refine pure_ (i := 4) (N := some 3) (v := ?_) (a' := ?_) #[true, true, true, true, true] rfl rfl (by kernel_rfl) (fun _ _ _ h => h) (Or.inl ⟨by rfl, ?_⟩) ?_ ?_
  rotate_left
  · intro w'
    go_simp
    with_reducible rfl
  rotate_left
  · simp only [Act.put, List.setIfInBounds_toArray, List.set_cons_zero, List.set_cons_succ, i64_w, i32_w]
    rfl
  refine done_ (by kernel_rfl) ?_
  try go_wp2
  refine bodyPost_ret (results_ct rfl _ _ gb672 40 #[.bool t677, .bool t678, .bool t679, .bool t680, .bool t681, .bool t682] (0, 0) _ rfl (by (with_reducible repeat (first | refine blk_drewN ?_ _ | refine blk_drew ?_ | refine blk_alloc ?_ _)); refine blk_put (cs := #[.bool t677, .bool t678, .bool t679, .bool t680, .bool t681, .bool false]) ?_ 5 _ rfl; (with_reducible repeat (first | refine blk_drewN ?_ _ | refine blk_drew ?_ | refine blk_alloc ?_ _)); refine blk_put (cs := #[.bool t677, .bool t678, .bool t679, .bool t680, .bool false, .bool false]) ?_ 4 _ rfl; (with_reducible repeat (first | refine blk_drewN ?_ _ | refine blk_drew ?_ | refine blk_alloc ?_ _)); refine blk_put (cs := #[.bool t677, .bool t678, .bool t679, .bool false, .bool false, .bool false]) ?_ 3 _ rfl; (with_reducible repeat (first | refine blk_drewN ?_ _ | refine blk_drew ?_ | refine blk_alloc ?_ _)); refine blk_put (cs := #[.bool t677, .bool t678, .bool false, .bool false, .bool false, .bool false]) ?_ 2 _ rfl; (with_reducible repeat (first | refine blk_drewN ?_ _ | refine blk_drew ?_ | refine blk_alloc ?_ _)); refine blk_put (cs := #[.bool t677, .bool false, .bool false, .bool false, .bool false, .bool false]) ?_ 1 _ rfl; (with_reducible repeat (first | refine blk_drewN ?_ _ | refine blk_drew ?_ | refine blk_alloc ?_ _)); refine blk_put (cs := #[.bool false, .bool false, .bool false, .bool false, .bool false, .bool false]) ?_ 0 _ rfl; (with_reducible repeat (first | refine blk_drewN ?_ _ | refine blk_drew ?_ | refine blk_alloc ?_ _)); exact BK672.out) Try.underlying40 rfl (by kernel_rfl)) rfl ?_
  exact ⟨by first | rfl | (simp [errW_none, errW_some] <;> rfl) | (simp [*, errW_none, errW_some] <;> rfl), by repeat (first | (with_reducible first | exact HB.out | apply below_alloc | apply pw_below_drewN | apply below_drew1 | refine below_set ?_ (IsS130.ge HI676.out) | refine below_set ?_ GE672.out | refine below_set ?_ GE685.out) | exact HB.out)⟩

end Go.Proofs.Ythdeemkhbajfgaa.PAll
