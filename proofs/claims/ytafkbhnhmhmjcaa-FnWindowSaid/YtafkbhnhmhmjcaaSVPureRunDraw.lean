import Derived.Test.YtafkbhnhmhmjcaaSVPRunx0
import Derived.Test.YtafkbhnhmhmjcaaSVPRunx2
import Derived.Test.YtafkbhnhmhmjcaaSVPRunx3
import Derived.Laws.BitsLemmas
import Derived.Laws.BitsAllLaws
import Derived.Test.YtafkbhnhmhmjcaaSVMyLoops
import Derived.Test.YtafkbhnhmhmjcaaSVPRunx6
section
namespace Go.Proofs.Ytafkbhnhmhmjcaa.PRun
open Go.RowKit Go.Proofs.YtafkbhnhmhmjcaaW.PrintWords Go.Proofs.YtafkbhnhmhmjcaaW.PrintLast Go.Proofs.YtafkbhnhmhmjcaaW.PrintMore
attribute [local go_sem] max2_int min2_int max_two min_two max_three min_three max_four min_four   -- for this text's walks alone
attribute [local go_sem] Go.Proofs.Ytafkbhnhmhmjcaa.Cell2.cell_set_off Go.Proofs.Ytafkbhnhmhmjcaa.Cell2.set_drewN Go.Proofs.Ytafkbhnhmhmjcaa.Cell2.not_beq_bool
set_option linter.unusedVariables false
set_option linter.unusedSimpArgs false
def spec_l04Pc.f (s0_0 : List Int) (s0_1 : Int) (s0_2 : Int) : Option (Int × Int × Int) := (spec_l01Below.f s0_0 s0_1 s0_2 65536).bind fun bt282 => ((spec_l01PickInt.f s0_0 bt282.2.1 bt282.2.2 (([0, 255, 512, 4096, 32768, 65535, 65530, bt282.1] : List Int))).bind fun bt288 => (some (IntKind.u16.wrap (bt288.1), bt288.2.1, bt288.2.2)))
set_option maxHeartbeats 8000000 in
set_option maxRecDepth 100000 in
theorem spec_l04Pc.calls (g : Nat) (s0_0 : List Int) (s0_1 : Int) (s0_2 : Int) (r1 : Int) (r2 : Int) (r3 : Int) (w0 w : World) (hI : IsS57 w0 w g s0_0 s0_1 s0_2) (hB : Below w0.heap.size w0 w) (h : spec_l04Pc.f s0_0 s0_1 s0_2 = some (r1, r2, r3)) :
    Calls Try.prog 36 #[.pointer (some ⟨g, 0, none⟩)] w fun e w' => e = .returned (.int .u16 r1) ∧ IsS57 w0 w' g s0_0 r2 r3 ∧ Below w0.heap.size w0 w' ∧ KeepBut w w' g none := by
  have HI0 := Aside0.mk hI
  have HK := Aside0.mk (KeepBut.refl w g none)
  have HL := Aside0.mk hB.size
  clear hI
  have HW0 := Aside0.mk hB.size
  have HB := Aside0.mk hB
  clear hB
  have H : ((spec_l01Below.f s0_0 s0_1 s0_2 65536).bind fun bt282 => ((spec_l01PickInt.f s0_0 bt282.2.1 bt282.2.2 (([0, 255, 512, 4096, 32768, 65535, 65530, bt282.1] : List Int))).bind fun bt288 => (some (IntKind.u16.wrap (bt288.1), bt288.2.1, bt288.2.2)))) = some (r1, r2, r3) := h
  clear h
  replace H := Option.bind_eq_some_iff.mp H
  obtain ⟨⟨t282, t283, t284⟩, A20, H⟩ := H
  replace H : ((spec_l01PickInt.f s0_0 t283 t284 (([0, 255, 512, 4096, 32768, 65535, 65530, t282] : List Int))).bind fun bt288 => (some (IntKind.u16.wrap (bt288.1), bt288.2.1, bt288.2.2))) = some (r1, r2, r3) := H
  have A2 := Aside0.mk A20
  clear A20
  obtain ⟨y285, hy285⟩ : ∃ y_ : List Int, y_ = (([0, 255, 512, 4096, 32768, 65535, 65530, t282] : List Int)) := ⟨_, rfl⟩
  replace H : ((spec_l01PickInt.f s0_0 t283 t284 y285).bind fun bt288 => (some (IntKind.u16.wrap (bt288.1), bt288.2.1, bt288.2.2))) = some (r1, r2, r3) := by first | (rw [hy285]; with_reducible exact H) | (have H2_ := (Option.bind_some _ _).symm.trans H; rw [hy285]; with_reducible exact H2_) | (have H2_ := (Option.bind_some _ _).symm.trans H; with_reducible exact H2_) | with_reducible exact H | (rw [hy285]; exact H) | exact H
  have Ny285 := Aside0.mk hy285
  clear hy285
  replace H := Option.bind_eq_some_iff.mp H
  obtain ⟨⟨t288, t289, t290⟩, A30, H⟩ := H
  replace H : (some (IntKind.u16.wrap (t288), t289, t290)) = some (r1, r2, r3) := H
  have A3 := Aside0.mk A30
  clear A30
  simp only [Option.some.injEq, Prod.mk.injEq] at H
  obtain ⟨rfl, rfl, rfl⟩ := H
  go_enter Try.func36, Try.ntmps36
  go_wp2_with (first | ((with_reducible refine gate_callee (f := 16) rfl ?_); refine goesL_ (some 5) rfl rfl Try.func16 (by kernel_rfl) rfl #[.pointer (some ⟨g, 0, none⟩), .int .i64 65536] rfl (by (try simp only [List.map_toArray, List.map_cons, List.map_nil]); first | done | rfl | (simp only [List.length_drop, List.length_take]; rfl)) ?_; (with_reducible refine (spec_l01Below.calls g s0_0 s0_1 s0_2 65536 t282 t283 t284 w0 _ ?side1 ?side2 A2.out).mono ?_); (case side1 => repeat (first | (with_reducible first | exact HI0.out | apply IsS57.alloc | apply IsS57.drewN | apply IsS57.drew | apply IsS57.set_1 | apply IsS57.set_2) | exact HI0.out)); (case side2 => repeat (first | (with_reducible first | exact HB.out | apply below_alloc | apply pw_below_drewN | apply below_drew1 | refine below_set ?_ (IsS57.ge HI0.out)) | exact HB.out)); rintro e w4 ⟨rfl, hi, hb, hk⟩; refine ⟨_, rfl, ?_⟩; have n0_ := Aside0.mk (KeepBut.trans (by repeat (first | (with_reducible first | exact HK.out | apply KeepBut.set_ | apply keep_drewN | apply keep_drew | apply keep_alloc) | exact HK.out)) hk (.inl rfl)); have n1_ := Aside0.mk (hb); have n2_ := Aside0.mk (hi); clear HK; clear HB; clear HI0; have HK := n0_; have HB := n1_; have HI0 := n2_; clear n0_ n1_ n2_; (try clear hb); (try clear hb2); (try clear hk); (try clear hi)) | ((with_reducible refine gate_dst (N := 6) rfl ?_); refine Kd.R_lit (Kd.int .i64) _ 3 ?hg (N := 6) ?hd (xs := ([0, 255, 512, 4096, 32768, 65535, 65530, t282] : List Int)) (inner := [.int .i64 0, .int .i64 255, .int .i64 512, .int .i64 4096, .int .i64 32768, .int .i64 65535, .int .i64 65530, .int .i64 t282]) (ok := fun _ => True) (okp := fun _ => True) ?hr ?hp (fun _ hk => hk) trivial (Below.refl _ _) (Nat.le_refl _) (by simp) ?_; (case hd => rfl); (case hg => rfl); (case hr => first | (go_simp; done) | (go_simp; rfl)); (case hp => exact (Reps.one (show Kd.M (Kd.int .i64) _ _ _ 0 [.int .i64 0] from rfl) (Reps.one (show Kd.M (Kd.int .i64) _ _ _ 255 [.int .i64 255] from rfl) (Reps.one (show Kd.M (Kd.int .i64) _ _ _ 512 [.int .i64 512] from rfl) (Reps.one (show Kd.M (Kd.int .i64) _ _ _ 4096 [.int .i64 4096] from rfl) (Reps.one (show Kd.M (Kd.int .i64) _ _ _ 32768 [.int .i64 32768] from rfl) (Reps.one (show Kd.M (Kd.int .i64) _ _ _ 65535 [.int .i64 65535] from rfl) (Reps.one (show Kd.M (Kd.int .i64) _ _ _ 65530 [.int .i64 65530] from rfl) (Reps.one (show Kd.M (Kd.int .i64) _ _ _ t282 [.int .i64 t282] from rfl) (Reps.none _ _)))))))))); intro v286 w5 ho6 hb hg_ hnew_; clear hg_ hnew_; (first | rw [← Ny285.out] at ho6 | (simp only [Int.reduceToNat] at ho6; rw [← Ny285.out] at ho6)); have n0_ := Aside0.mk (Kd.R_lower ho6 (keep_size (w := w) (g := g) (row := none) (by repeat (first | (with_reducible first | exact HK.out | apply KeepBut.set_ | apply keep_drewN | apply keep_drew | apply keep_alloc) | exact HK.out)))); have n1_ := Aside0.mk (IsS57.below (by repeat (first | (with_reducible first | exact HI0.out | apply IsS57.alloc | apply IsS57.drewN | apply IsS57.drew | apply IsS57.set_1 | apply IsS57.set_2) | exact HI0.out)) hb); have n2_ := Aside0.mk (KeepBut.trans (by repeat (first | (with_reducible first | exact HK.out | apply KeepBut.set_ | apply keep_drewN | apply keep_drew | apply keep_alloc) | exact HK.out)) (KeepBut.of_below hb g none) (.inl rfl)); have n3_ := Aside0.mk (below_step (by repeat (first | (with_reducible first | exact HB.out | apply below_alloc | apply pw_below_drewN | apply below_drew1 | refine below_set ?_ (IsS57.ge HI0.out)) | exact HB.out)) hb); clear HI0; clear HK; clear HB; have HO287 := n0_; have HI0 := n1_; have HK := n2_; have HB := n3_; clear n0_ n1_ n2_ n3_; clear hb ho6; obtain ⟨Ao7, co7, eo7⟩ := Kd.R_slice HO287.out; subst eo7) | ((with_reducible refine gate_callee (f := 22) rfl ?_); refine goesL_ (some 7) rfl rfl Try.func22 (by kernel_rfl) rfl #[.pointer (some ⟨g, 0, none⟩), .slice Ao7 y285.length co7] rfl (by (try simp only [List.map_toArray, List.map_cons, List.map_nil]); first | done | rfl | (simp only [List.length_drop, List.length_take]; rfl)) ?_; (with_reducible refine (spec_l01PickInt.calls g s0_0 t283 t284 _ _ y285 t288 t289 t290 w0 _ ?side1 ?side2 ?side3 ?side4 ?side5 A3.out).mono ?_); (case side1 => repeat (first | (with_reducible first | exact HI0.out | apply IsS57.alloc | apply IsS57.drewN | apply IsS57.drew | apply IsS57.set_1 | apply IsS57.set_2) | exact HI0.out)); (case side2 => repeat (first | (with_reducible first | exact HB.out | apply below_alloc | apply pw_below_drewN | apply below_drew1 | refine below_set ?_ (IsS57.ge HI0.out)) | exact HB.out)); (case side3 => repeat (first | exact (Kd.R_reads' HO287.out).2.2 | (with_reducible refine Kd.C_alloc ?_ _) | (with_reducible refine Kd.C_drewN ?_ _) | (with_reducible refine Kd.C_drew ?_))); (case side4 => exact (Kd.R_reads' HO287.out).2.1); (case side5 => exact far_slice (IsS57.own_ne HI0.out HO287.out (by decide))); rintro e w8 ⟨rfl, hi, hb, hk⟩; refine ⟨_, rfl, ?_⟩; have n0_ := Aside0.mk (Kd.R_mono (Kd.R_keep (IsS57.apart (show IsS57 w0 _ g s0_0 t283 t284 from by repeat (first | (with_reducible first | exact HI0.out | apply IsS57.alloc | apply IsS57.drewN | apply IsS57.drew | apply IsS57.set_1 | apply IsS57.set_2) | exact HI0.out)) (by (with_reducible repeat (first | apply Kd.R_alloc | apply Kd.R_drewN | apply Kd.R_drew)); exact HO287.out) (by decide)) hk (fun _ h => h.2)) (fun _ h => h.1)); have n1_ := Aside0.mk (KeepBut.trans (by repeat (first | (with_reducible first | exact HK.out | apply KeepBut.set_ | apply keep_drewN | apply keep_drew | apply keep_alloc) | exact HK.out)) hk (.inl rfl)); have n2_ := Aside0.mk (hb); have n3_ := Aside0.mk (hi); clear HO287; clear HK; clear HB; clear HI0; have HO287 := n0_; have HK := n1_; have HB := n2_; have HI0 := n3_; clear n0_ n1_ n2_ n3_; (try clear hb); (try clear hb2); (try clear hk); (try clear hi)))
  go_ret
  exact ⟨by first | rfl | (simp [errW_none, errW_some] <;> rfl) | (simp [*, errW_none, errW_some] <;> rfl), by repeat (first | (with_reducible first | exact HI0.out | apply IsS57.alloc | apply IsS57.drewN | apply IsS57.drew | apply IsS57.set_1 | apply IsS57.set_2) | exact HI0.out), by repeat (first | (with_reducible first | exact HB.out | apply below_alloc | apply pw_below_drewN | apply below_drew1 | refine below_set ?_ (IsS57.ge HI0.out)) | exact HB.out), by repeat (first | (with_reducible first | exact HK.out | apply KeepBut.set_ | apply keep_drewN | apply keep_drew | apply keep_alloc) | exact HK.out)⟩
def spec_UnpackP.f (a0 : Int) : Option (Bool × Bool × Bool × Bool × Bool × Bool) := some (((Go.bits .and .u8 a0 128) != 0), ((Go.bits .and .u8 a0 64) != 0), ((Go.bits .and .u8 a0 8) != 0), ((Go.bits .and .u8 a0 4) != 0), ((Go.bits .and .u8 a0 2) != 0), ((Go.bits .and .u8 a0 1) != 0))
set_option maxHeartbeats 8000000 in
set_option maxRecDepth 100000 in
theorem spec_UnpackP.calls (a0 : Int) (r1 : Bool) (r2 : Bool) (r3 : Bool) (r4 : Bool) (r5 : Bool) (r6 : Bool) (w : World) (h : spec_UnpackP.f a0 = some (r1, r2, r3, r4, r5, r6)) :
    Calls Try.prog 50 #[.int .u8 a0] w fun e w' => e = .returned (.agg #[.bool r1, .bool r2, .bool r3, .bool r4, .bool r5, .bool r6]) ∧ Below w.heap.size w w' := by
  have hu26 := Try.underlying26
  have HB := Aside0.mk (Below.refl w.heap.size w)
  have H : (some (((Go.bits .and .u8 a0 128) != 0), ((Go.bits .and .u8 a0 64) != 0), ((Go.bits .and .u8 a0 8) != 0), ((Go.bits .and .u8 a0 4) != 0), ((Go.bits .and .u8 a0 2) != 0), ((Go.bits .and .u8 a0 1) != 0))) = some (r1, r2, r3, r4, r5, r6) := h
  clear h
  simp only [Option.some.injEq, Prod.mk.injEq] at H
  obtain ⟨rfl, rfl, rfl, rfl, rfl, rfl⟩ := H
  go_enter Try.func50, Try.ntmps50
  go_wp2_with (first | ((with_reducible refine gate_dst (N := 2) rfl ?_); refine box_event ?hg (N := 2) ?hd (cs := #[.bool false, .bool false, .bool false, .bool false, .bool false, .bool false]) (t := 26) ?hr ?_; (case hd => rfl); (case hg => rfl); (case hr => first | (go_simp; done) | (go_simp; rfl)); intro gb291 hg w2 hbox hb; have n0_ := Aside0.mk (below_step (by repeat (first | (with_reducible first | exact HB.out | apply below_alloc | apply pw_below_drewN | apply below_drew1) | exact HB.out)) hb); have n1_ := Aside0.mk (hbox); have n2_ := Aside0.mk ((by rw [hg]; exact (below_size (by repeat (first | (with_reducible first | exact HB.out | apply below_alloc | apply pw_below_drewN | apply below_drew1) | exact HB.out))) : w.heap.size ≤ gb291)); have n3_ := Aside0.mk ((by rw [hg]; exact (below_size (by repeat (first | (with_reducible first | exact HB.out | apply below_alloc | apply pw_below_drewN | apply below_drew1) | exact HB.out))) : w.heap.size ≤ gb291)); clear HB; have HB := n0_; have BK291 := n1_; have GW291 := n2_; have GE291 := n3_; clear n0_ n1_ n2_ n3_; clear hb hbox hg; have hcz3_0 : w2.cell? ⟨gb291, 0, none⟩ = some (.bool false) := (blk_cell BK291.out 0).trans rfl; have hcz3_1 : w2.cell? ⟨gb291, 1, none⟩ = some (.bool false) := (blk_cell BK291.out 1).trans rfl; have hcz3_2 : w2.cell? ⟨gb291, 2, none⟩ = some (.bool false) := (blk_cell BK291.out 2).trans rfl; have hcz3_3 : w2.cell? ⟨gb291, 3, none⟩ = some (.bool false) := (blk_cell BK291.out 3).trans rfl; have hcz3_4 : w2.cell? ⟨gb291, 4, none⟩ = some (.bool false) := (blk_cell BK291.out 4).trans rfl; have hcz3_5 : w2.cell? ⟨gb291, 5, none⟩ = some (.bool false) := (blk_cell BK291.out 5).trans rfl; have hfz3_0 := blk_frozen BK291.out 0; have hfz3_1 := blk_frozen BK291.out 1; have hfz3_2 := blk_frozen BK291.out 2; have hfz3_3 := blk_frozen BK291.out 3; have hfz3_4 := blk_frozen BK291.out 4; have hfz3_5 := blk_frozen BK291.out 5))
  refine bodyPost_ret (results_cell_row rfl _ _ gb291 26 #[.bool ((Go.bits .and .u8 a0 128) != 0), .bool ((Go.bits .and .u8 a0 64) != 0), .bool ((Go.bits .and .u8 a0 8) != 0), .bool ((Go.bits .and .u8 a0 4) != 0), .bool ((Go.bits .and .u8 a0 2) != 0), .bool ((Go.bits .and .u8 a0 1) != 0)] (0, 0) _ rfl (by (with_reducible repeat (first | refine blk_drewN ?_ _ | refine blk_drew ?_ | refine blk_alloc ?_ _)); refine blk_put (cs := #[.bool ((Go.bits .and .u8 a0 128) != 0), .bool ((Go.bits .and .u8 a0 64) != 0), .bool ((Go.bits .and .u8 a0 8) != 0), .bool ((Go.bits .and .u8 a0 4) != 0), .bool ((Go.bits .and .u8 a0 2) != 0), .bool false]) ?_ 5 _ rfl; (with_reducible repeat (first | refine blk_drewN ?_ _ | refine blk_drew ?_ | refine blk_alloc ?_ _)); refine blk_put (cs := #[.bool ((Go.bits .and .u8 a0 128) != 0), .bool ((Go.bits .and .u8 a0 64) != 0), .bool ((Go.bits .and .u8 a0 8) != 0), .bool ((Go.bits .and .u8 a0 4) != 0), .bool false, .bool false]) ?_ 4 _ rfl; (with_reducible repeat (first | refine blk_drewN ?_ _ | refine blk_drew ?_ | refine blk_alloc ?_ _)); refine blk_put (cs := #[.bool ((Go.bits .and .u8 a0 128) != 0), .bool ((Go.bits .and .u8 a0 64) != 0), .bool ((Go.bits .and .u8 a0 8) != 0), .bool false, .bool false, .bool false]) ?_ 3 _ rfl; (with_reducible repeat (first | refine blk_drewN ?_ _ | refine blk_drew ?_ | refine blk_alloc ?_ _)); refine blk_put (cs := #[.bool ((Go.bits .and .u8 a0 128) != 0), .bool ((Go.bits .and .u8 a0 64) != 0), .bool false, .bool false, .bool false, .bool false]) ?_ 2 _ rfl; (with_reducible repeat (first | refine blk_drewN ?_ _ | refine blk_drew ?_ | refine blk_alloc ?_ _)); refine blk_put (cs := #[.bool ((Go.bits .and .u8 a0 128) != 0), .bool false, .bool false, .bool false, .bool false, .bool false]) ?_ 1 _ rfl; (with_reducible repeat (first | refine blk_drewN ?_ _ | refine blk_drew ?_ | refine blk_alloc ?_ _)); refine blk_put (cs := #[.bool false, .bool false, .bool false, .bool false, .bool false, .bool false]) ?_ 0 _ rfl; (with_reducible repeat (first | refine blk_drewN ?_ _ | refine blk_drew ?_ | refine blk_alloc ?_ _)); exact BK291.out) Try.underlying26 rfl (by kernel_rfl)) rfl ?_
  exact ⟨by first | rfl | (simp [errW_none, errW_some] <;> rfl) | (simp [*, errW_none, errW_some] <;> rfl), by repeat (first | (with_reducible first | exact HB.out | apply below_alloc | apply pw_below_drewN | apply below_drew1 | refine below_set ?_ GE291.out) | exact HB.out)⟩
def spec_l02Flags.f (s0_0 : List Int) (s0_1 : Int) (s0_2 : Int) : Option (Bool × Bool × Bool × Bool × Bool × Bool × Int × Int) := (spec_l01Byte.f s0_0 s0_1 s0_2).bind fun bt293 => ((spec_UnpackP.f ((bt293.1) % 256)).bind fun bt296 => (some (bt296.1, bt296.2.1, bt296.2.2.1, bt296.2.2.2.1, bt296.2.2.2.2.1, bt296.2.2.2.2.2, bt293.2.1, bt293.2.2)))
set_option maxHeartbeats 8000000 in
set_option maxRecDepth 100000 in
theorem spec_l02Flags.calls (g : Nat) (s0_0 : List Int) (s0_1 : Int) (s0_2 : Int) (r1 : Bool) (r2 : Bool) (r3 : Bool) (r4 : Bool) (r5 : Bool) (r6 : Bool) (r7 : Int) (r8 : Int) (w0 w : World) (hI : IsS57 w0 w g s0_0 s0_1 s0_2) (hB : Below w0.heap.size w0 w) (h : spec_l02Flags.f s0_0 s0_1 s0_2 = some (r1, r2, r3, r4, r5, r6, r7, r8)) :
    Calls Try.prog 37 #[.pointer (some ⟨g, 0, none⟩)] w fun e w' => e = .returned (.agg #[.bool r1, .bool r2, .bool r3, .bool r4, .bool r5, .bool r6]) ∧ IsS57 w0 w' g s0_0 r7 r8 ∧ Below w0.heap.size w0 w' ∧ KeepBut w w' g none := by
  have hu26 := Try.underlying26
  have HI0 := Aside0.mk hI
  have HK := Aside0.mk (KeepBut.refl w g none)
  have HL := Aside0.mk hB.size
  clear hI
  have HW0 := Aside0.mk hB.size
  have HB := Aside0.mk hB
  clear hB
  have H : ((spec_l01Byte.f s0_0 s0_1 s0_2).bind fun bt293 => ((spec_UnpackP.f ((bt293.1) % 256)).bind fun bt296 => (some (bt296.1, bt296.2.1, bt296.2.2.1, bt296.2.2.2.1, bt296.2.2.2.2.1, bt296.2.2.2.2.2, bt293.2.1, bt293.2.2)))) = some (r1, r2, r3, r4, r5, r6, r7, r8) := h
  clear h
  replace H := Option.bind_eq_some_iff.mp H
  obtain ⟨⟨t293, t294, t295⟩, A20, H⟩ := H
  replace H : ((spec_UnpackP.f ((t293) % 256)).bind fun bt296 => (some (bt296.1, bt296.2.1, bt296.2.2.1, bt296.2.2.2.1, bt296.2.2.2.2.1, bt296.2.2.2.2.2, t294, t295))) = some (r1, r2, r3, r4, r5, r6, r7, r8) := H
  have A2 := Aside0.mk A20
  clear A20
  replace H := Option.bind_eq_some_iff.mp H
  obtain ⟨⟨t296, t297, t298, t299, t300, t301⟩, A30, H⟩ := H
  replace H : (some (t296, t297, t298, t299, t300, t301, t294, t295)) = some (r1, r2, r3, r4, r5, r6, r7, r8) := H
  have A3 := Aside0.mk A30
  clear A30
  simp only [Option.some.injEq, Prod.mk.injEq] at H
  obtain ⟨rfl, rfl, rfl, rfl, rfl, rfl, rfl, rfl⟩ := H
  go_enter Try.func37, Try.ntmps37
  go_wp2_with (first | ((with_reducible refine gate_dst (N := 2) rfl ?_); refine box_event ?hg (N := 2) ?hd (cs := #[.bool false, .bool false, .bool false, .bool false, .bool false, .bool false]) (t := 26) ?hr ?_; (case hd => rfl); (case hg => rfl); (case hr => first | (go_simp; done) | (go_simp; rfl)); intro gb292 hg w4 hbox hb; have n0_ := Aside0.mk (IsS57.below (by repeat (first | (with_reducible first | exact HI0.out | apply IsS57.alloc | apply IsS57.drewN | apply IsS57.drew | apply IsS57.set_1 | apply IsS57.set_2) | exact HI0.out)) hb); have n1_ := Aside0.mk (KeepBut.trans (by repeat (first | (with_reducible first | exact HK.out | apply KeepBut.set_ | apply keep_drewN | apply keep_drew | apply keep_alloc) | exact HK.out)) (KeepBut.of_below hb g none) (.inl rfl)); have n2_ := Aside0.mk (below_step (by repeat (first | (with_reducible first | exact HB.out | apply below_alloc | apply pw_below_drewN | apply below_drew1 | refine below_set ?_ (IsS57.ge HI0.out)) | exact HB.out)) hb); have n3_ := Aside0.mk (hbox); have n4_ := Aside0.mk ((by rw [hg]; exact (keep_size (w := w) (g := g) (row := none) (by repeat (first | (with_reducible first | exact HK.out | apply KeepBut.set_ | apply keep_drewN | apply keep_drew | apply keep_alloc) | exact HK.out))) : w.heap.size ≤ gb292)); have n5_ := Aside0.mk ((Nat.le_trans HW0.out (by rw [hg]; exact (keep_size (w := w) (g := g) (row := none) (by repeat (first | (with_reducible first | exact HK.out | apply KeepBut.set_ | apply keep_drewN | apply keep_drew | apply keep_alloc) | exact HK.out))) : w.heap.size ≤ gb292) : w0.heap.size ≤ gb292)); have n6_ := Aside0.mk ((by rw [hg]; exact Nat.ne_of_lt (IsS57.lt (show IsS57 w0 _ g s0_0 s0_1 s0_2 from by repeat (first | (with_reducible first | exact HI0.out | apply IsS57.alloc | apply IsS57.drewN | apply IsS57.drew | apply IsS57.set_1 | apply IsS57.set_2) | exact HI0.out))) : g ≠ gb292)); have n7_ := Aside0.mk ((by rw [hg]; exact Nat.ne_of_gt (IsS57.lt (show IsS57 w0 _ g s0_0 s0_1 s0_2 from by repeat (first | (with_reducible first | exact HI0.out | apply IsS57.alloc | apply IsS57.drewN | apply IsS57.drew | apply IsS57.set_1 | apply IsS57.set_2) | exact HI0.out))) : gb292 ≠ g)); clear HI0; clear HK; clear HB; have HI0 := n0_; have HK := n1_; have HB := n2_; have BK292 := n3_; have GW292 := n4_; have GE292 := n5_; have NB0_292 := n6_; have NB292_0 := n7_; clear n0_ n1_ n2_ n3_ n4_ n5_ n6_ n7_; clear hb hbox hg) | ((with_reducible refine gate_callee (f := 32) rfl ?_); refine goesL_ (some 4) rfl rfl Try.func32 (by kernel_rfl) rfl #[.pointer (some ⟨g, 0, none⟩)] rfl (by (try simp only [List.map_toArray, List.map_cons, List.map_nil]); first | done | rfl | (simp only [List.length_drop, List.length_take]; rfl)) ?_; (with_reducible refine (spec_l01Byte.calls g s0_0 s0_1 s0_2 t293 t294 t295 w0 _ ?side1 ?side2 A2.out).mono ?_); (case side1 => repeat (first | (with_reducible first | exact HI0.out | apply IsS57.alloc | apply IsS57.drewN | apply IsS57.drew | apply IsS57.set_1 | apply IsS57.set_2 | refine IsS57.far ?_ NB0_292.out _) | exact HI0.out)); (case side2 => repeat (first | (with_reducible first | exact HB.out | apply below_alloc | apply pw_below_drewN | apply below_drew1 | refine below_set ?_ (IsS57.ge HI0.out) | refine below_set ?_ GE292.out) | exact HB.out)); rintro e w5 ⟨rfl, hi, hb, hk⟩; refine ⟨_, rfl, ?_⟩; have n0_ := Aside0.mk (KeepBut.blk hk (g' := gb292) (o := .cells #[.bool false, .bool false, .bool false, .bool false, .bool false, .bool false] 26 (0, 0)) (by (with_reducible repeat (first | refine blk_drewN ?_ _ | refine blk_drew ?_ | refine blk_alloc ?_ _)); exact BK292.out) NB292_0.out (by simp)); have n1_ := Aside0.mk (KeepBut.trans (by repeat (first | (with_reducible first | exact HK.out | apply KeepBut.set_ | apply keep_drewN | apply keep_drew | apply keep_alloc | refine keep_far ?_ GW292.out _) | exact HK.out)) hk (.inl rfl)); have n2_ := Aside0.mk (hb); have n3_ := Aside0.mk (hi); clear BK292; clear HK; clear HB; clear HI0; have BK292 := n0_; have HK := n1_; have HB := n2_; have HI0 := n3_; clear n0_ n1_ n2_ n3_; (try clear hb); (try clear hb2); (try clear hk); (try clear hi)) | ((with_reducible refine gate_callee (f := 50) rfl ?_); refine goesL_ (some 6) rfl rfl Try.func50 (by kernel_rfl) rfl #[.int .u8 ((t293) % 256)] rfl (by (try simp only [List.map_toArray, List.map_cons, List.map_nil]); first | done | rfl | (simp only [List.length_drop, List.length_take]; rfl)) ?_; (with_reducible refine (spec_UnpackP.calls ((t293) % 256) t296 t297 t298 t299 t300 t301 _ A3.out).mono ?_); rintro e w6 ⟨rfl, hb⟩; refine ⟨_, rfl, ?_⟩; have n0_ := Aside0.mk (IsS57.below (by repeat (first | (with_reducible first | exact HI0.out | apply IsS57.alloc | apply IsS57.drewN | apply IsS57.drew | apply IsS57.set_1 | apply IsS57.set_2 | refine IsS57.far ?_ NB0_292.out _) | exact HI0.out)) hb); have n1_ := Aside0.mk (blk_below (g := gb292) (o := .cells #[.bool false, .bool false, .bool false, .bool false, .bool false, .bool false] 26 (0, 0)) (by (with_reducible repeat (first | refine blk_drewN ?_ _ | refine blk_drew ?_ | refine blk_alloc ?_ _)); exact BK292.out) hb); have n2_ := Aside0.mk (KeepBut.trans (by repeat (first | (with_reducible first | exact HK.out | apply KeepBut.set_ | apply keep_drewN | apply keep_drew | apply keep_alloc | refine keep_far ?_ GW292.out _) | exact HK.out)) (KeepBut.of_below hb g none) (.inl rfl)); have n3_ := Aside0.mk (below_step (by repeat (first | (with_reducible first | exact HB.out | apply below_alloc | apply pw_below_drewN | apply below_drew1 | refine below_set ?_ (IsS57.ge HI0.out) | refine below_set ?_ GE292.out) | exact HB.out)) hb); clear HI0; clear BK292; clear HK; clear HB; have HI0 := n0_; have BK292 := n1_; have HK := n2_; have HB := n3_; clear n0_ n1_ n2_ n3_; (try clear hb); (try clear hb2); (try clear hk); (try clear hi); have hnb7 := NB292_0.out; have hnc7 := NB0_292.out; have hcz8_0 : w6.cell? ⟨gb292, 0, none⟩ = some (.bool false) := (blk_cell BK292.out 0).trans rfl; have hcz8_1 : w6.cell? ⟨gb292, 1, none⟩ = some (.bool false) := (blk_cell BK292.out 1).trans rfl; have hcz8_2 : w6.cell? ⟨gb292, 2, none⟩ = some (.bool false) := (blk_cell BK292.out 2).trans rfl; have hcz8_3 : w6.cell? ⟨gb292, 3, none⟩ = some (.bool false) := (blk_cell BK292.out 3).trans rfl; have hcz8_4 : w6.cell? ⟨gb292, 4, none⟩ = some (.bool false) := (blk_cell BK292.out 4).trans rfl; have hcz8_5 : w6.cell? ⟨gb292, 5, none⟩ = some (.bool false) := (blk_cell BK292.out 5).trans rfl; have hfz8_0 := blk_frozen BK292.out 0; have hfz8_1 := blk_frozen BK292.out 1; have hfz8_2 := blk_frozen BK292.out 2; have hfz8_3 := blk_frozen BK292.out 3; have hfz8_4 := blk_frozen BK292.out 4; have hfz8_5 := blk_frozen BK292.out 5))
  refine bodyPost_ret (results_cell_row rfl _ _ gb292 26 #[.bool t296, .bool t297, .bool t298, .bool t299, .bool t300, .bool t301] (0, 0) _ rfl (by (with_reducible repeat (first | refine blk_drewN ?_ _ | refine blk_drew ?_ | refine blk_alloc ?_ _)); refine blk_put (cs := #[.bool t296, .bool t297, .bool t298, .bool t299, .bool t300, .bool false]) ?_ 5 _ rfl; (with_reducible repeat (first | refine blk_drewN ?_ _ | refine blk_drew ?_ | refine blk_alloc ?_ _)); refine blk_put (cs := #[.bool t296, .bool t297, .bool t298, .bool t299, .bool false, .bool false]) ?_ 4 _ rfl; (with_reducible repeat (first | refine blk_drewN ?_ _ | refine blk_drew ?_ | refine blk_alloc ?_ _)); refine blk_put (cs := #[.bool t296, .bool t297, .bool t298, .bool false, .bool false, .bool false]) ?_ 3 _ rfl; (with_reducible repeat (first | refine blk_drewN ?_ _ | refine blk_drew ?_ | refine blk_alloc ?_ _)); refine blk_put (cs := #[.bool t296, .bool t297, .bool false, .bool false, .bool false, .bool false]) ?_ 2 _ rfl; (with_reducible repeat (first | refine blk_drewN ?_ _ | refine blk_drew ?_ | refine blk_alloc ?_ _)); refine blk_put (cs := #[.bool t296, .bool false, .bool false, .bool false, .bool false, .bool false]) ?_ 1 _ rfl; (with_reducible repeat (first | refine blk_drewN ?_ _ | refine blk_drew ?_ | refine blk_alloc ?_ _)); refine blk_put (cs := #[.bool false, .bool false, .bool false, .bool false, .bool false, .bool false]) ?_ 0 _ rfl; (with_reducible repeat (first | refine blk_drewN ?_ _ | refine blk_drew ?_ | refine blk_alloc ?_ _)); exact BK292.out) Try.underlying26 rfl (by kernel_rfl)) rfl ?_
  exact ⟨by first | rfl | (simp [errW_none, errW_some] <;> rfl) | (simp [*, errW_none, errW_some] <;> rfl), by repeat (first | (with_reducible first | exact HI0.out | apply IsS57.alloc | apply IsS57.drewN | apply IsS57.drew | apply IsS57.set_1 | apply IsS57.set_2 | refine IsS57.far ?_ NB0_292.out _) | exact HI0.out), by repeat (first | (with_reducible first | exact HB.out | apply below_alloc | apply pw_below_drewN | apply below_drew1 | refine below_set ?_ (IsS57.ge HI0.out) | refine below_set ?_ GE292.out) | exact HB.out), by repeat (first | (with_reducible first | exact HK.out | apply KeepBut.set_ | apply keep_drewN | apply keep_drew | apply keep_alloc | refine keep_far ?_ GW292.out _) | exact HK.out)⟩
end Go.Proofs.Ytafkbhnhmhmjcaa.PRun
end
section
namespace Go.Proofs.Ytafkbhnhmhmjcaa.DrawRun
open Go.RowKit Go.Proofs.Ytafkbhnhmhmjcaa.PRun Go.Proofs.Ytafkbhnhmhmjcaa.Plain Go.Proofs.YtafkbhnhmhmjcaaW.PrintWords Go.Proofs.YtafkbhnhmhmjcaaW.PrintLast Go.Proofs.YtafkbhnhmhmjcaaW.PrintMore
theorem and255_range (x : Int) : 0 ≤ Go.bits .and .i64 x 255 ∧ Go.bits .and .i64 x 255 ≤ 255 := by
  have h : (BitVec.ofInt 64 x &&& BitVec.ofInt 64 255).toNat ≤ 255 := by
    rw [BitVec.toNat_and]; exact Nat.le_trans Nat.and_le_right (by decide)
  show 0 ≤ IntKind.i64.wrap ((BitVec.ofInt 64 x &&& BitVec.ofInt 64 255).toNat : Int) ∧ IntKind.i64.wrap ((BitVec.ofInt 64 x &&& BitVec.ofInt 64 255).toNat : Int) ≤ 255
  rw [IntKind.wrap_i64]; omega
theorem new_some (l : List Int) (_h : l.length ≤ 1048576) : ∃ s : Int, ∀ k, 4001 < k → spec_l01New.f k l = some (l, 0, s) := by
  have key : ∀ (d i : Nat) (s : Int), i + d = 4000 → ∃ r : Int, ∀ k, d < k → spec_l01New.l0 k l s (i : Int) = some (l, 0, r) := by
    intro d
    induction d with
    | zero =>
      intro i s hi
      refine ⟨s, fun k hk => ?_⟩
      obtain ⟨k, rfl⟩ : ∃ m, k = m + 1 := ⟨k - 1, by omega⟩
      simp only [spec_l01New.l0]
      by_cases hl : (i : Int) < (l.length : Int)
      · rw [if_pos hl, if_neg (by omega)]
      · rw [if_neg hl]
    | succ d ih =>
      intro i s hi
      by_cases hl : (i : Int) < (l.length : Int)
      · obtain ⟨r, hr⟩ := ih (i + 1) (Go.bits .and .i64 (wrap64 ((wrap64 ((wrap64 (s * 131)) + (wrap64 (rd l (i : Int))))) + 7)) 1073741823) (by omega)
        refine ⟨r, fun k hk => ?_⟩
        obtain ⟨k, rfl⟩ : ∃ m, k = m + 1 := ⟨k - 1, by omega⟩
        simp only [spec_l01New.l0]
        rw [if_pos hl, if_pos (by omega), if_pos (by omega), wsucc (by omega)]
        exact hr k (by omega)
      · refine ⟨s, fun k hk => ?_⟩
        obtain ⟨k, rfl⟩ : ∃ m, k = m + 1 := ⟨k - 1, by omega⟩
        simp only [spec_l01New.l0]
        rw [if_neg hl]
  obtain ⟨r, hr⟩ := key 4000 0 (wrap64 (693693 + (l.length : Int))) (by omega)
  exact ⟨r, fun k hk => hr k (by omega)⟩
def At (l : List Int) (i : Int) : Prop := 0 ≤ i ∧ i ≤ (l.length : Int) ∧ l.length ≤ 1048576
theorem byte_some {l : List Int} {i : Int} (h : At l i) (s : Int) : ∃ x i' s' : Int, spec_l01Byte.f l i s = some (x, i', s') ∧ 0 ≤ x ∧ x ≤ 255 ∧ At l i' := by
  obtain ⟨h0, h1, h2⟩ := h
  simp only [spec_l01Byte.f]
  by_cases hl : i < (l.length : Int)
  · rw [if_pos hl, if_pos h0]
    exact ⟨_, _, _, rfl, (and255_range _).1, (and255_range _).2, by rw [w64 (by omega) (by omega)]; omega, by rw [w64 (by omega) (by omega)]; omega, h2⟩
  · rw [if_neg hl]
    exact ⟨_, _, _, rfl, (and255_range _).1, (and255_range _).2, h0, h1, h2⟩
theorem below_some {l : List Int} {i : Int} (h : At l i) (s n : Int) : ∃ x i' s' : Int, spec_l01Below.f l i s n = some (x, i', s') ∧ At l i' ∧ (n ≤ 0 → x = 0) ∧ (0 < n → 0 ≤ x ∧ x < n) ∧ 0 ≤ x := by
  simp only [spec_l01Below.f]
  by_cases h0 : n ≤ 0
  · rw [if_pos h0]; exact ⟨0, i, s, rfl, h, fun _ => rfl, fun h => by omega, by omega⟩
  rw [if_neg h0]
  obtain ⟨x, i1, s1, e1, x0, x1, a1⟩ := byte_some h s
  by_cases h1 : n ≤ 256
  · rw [if_pos h1, e1]; simp only [Option.bind_some]
    rw [if_neg (by omega)]
    have hm : Int.tmod x n = x % n := Int.tmod_eq_emod_of_nonneg x0
    have h3 := Int.emod_nonneg x (show n ≠ 0 by omega)
    have h4 := Int.emod_lt_of_pos x (show 0 < n by omega)
    exact ⟨_, _, _, rfl, a1, fun h => by omega, fun _ => by rw [hm]; exact ⟨h3, h4⟩, by rw [hm]; exact h3⟩
  · rw [if_neg h1, e1]; simp only [Option.bind_some]
    obtain ⟨y, i2, s2, e2, y0, y1, a2⟩ := byte_some a1 s1
    rw [e2]; simp only [Option.bind_some]
    obtain ⟨z, i3, s3, e3, z0, z1, a3⟩ := byte_some a2 s2
    rw [e3]; simp only [Option.bind_some]
    obtain ⟨w, i4, s4, e4, w0, w1, a4⟩ := byte_some a3 s3
    rw [e4]; simp only [Option.bind_some]
    rw [if_neg (by omega), w64 (x := x * 16777216) (by omega) (by omega), w64 (x := y * 65536) (by omega) (by omega), w64 (x := z * 256) (by omega) (by omega), w64 (x := x * 16777216 + y * 65536) (by omega) (by omega), w64 (x := x * 16777216 + y * 65536 + z * 256) (by omega) (by omega), w64 (x := x * 16777216 + y * 65536 + z * 256 + w) (by omega) (by omega)]
    have hm : Int.tmod (x * 16777216 + y * 65536 + z * 256 + w) n = (x * 16777216 + y * 65536 + z * 256 + w) % n := Int.tmod_eq_emod_of_nonneg (by omega)
    have h3 := Int.emod_nonneg (x * 16777216 + y * 65536 + z * 256 + w) (show n ≠ 0 by omega)
    have h4 := Int.emod_lt_of_pos (x * 16777216 + y * 65536 + z * 256 + w) (show 0 < n by omega)
    exact ⟨_, _, _, rfl, a4, fun h => by omega, fun _ => by rw [hm]; exact ⟨h3, h4⟩, by rw [hm]; exact h3⟩
theorem once_some {l : List Int} {i : Int} (h : At l i) (s n : Int) : ∃ (b : Bool) (i' s' : Int), spec_l01Once.f l i s n = some (b, i', s') ∧ At l i' := by
  obtain ⟨x, i1, s1, e1, a1, _⟩ := below_some h s n
  exact ⟨_, _, _, by simp only [spec_l01Once.f, e1, Option.bind_some]; rfl, a1⟩
theorem pick_some {l : List Int} {i : Int} (h : At l i) (s : Int) (xs : List Int) (hx : 0 < xs.length) : ∃ x i' s' : Int, spec_l01PickInt.f l i s xs = some (x, i', s') ∧ At l i' ∧ x ∈ xs := by
  obtain ⟨x, i1, s1, e1, a1, _, hb, _⟩ := below_some h s (xs.length : Int)
  obtain ⟨h0, h1⟩ := hb (by omega)
  refine ⟨rd xs x, i1, s1, ?_, a1, ?_⟩
  · simp only [spec_l01PickInt.f, e1, Option.bind_some]
    rw [if_pos h0, if_pos h1]
  · unfold rd
    rw [getD_lt xs 0 _ (by omega)]
    exact List.getElem_mem _
theorem l02Byte_some {l : List Int} {i : Int} (h : At l i) (s : Int) : ∃ x i' s' : Int, spec_l02Byte.f l i s = some (x, i', s') ∧ 0 ≤ x ∧ x ≤ 255 ∧ At l i' := by
  obtain ⟨b, i1, s1, e1, a1⟩ := once_some h s 2
  simp only [spec_l02Byte.f, e1, Option.bind_some]
  cases b with
  | true =>
    obtain ⟨x, i2, s2, e2, a2, _⟩ := pick_some a1 s1 [0, 1, 9, 16, 127, 128, 153, 255, 154, 80] (by decide)
    rw [if_pos rfl, e2]
    exact ⟨x % 256, i2, s2, rfl, by omega, by omega, a2⟩
  | false =>
    obtain ⟨x, i2, s2, e2, x0, x1, a2⟩ := byte_some a1 s1
    rw [if_neg (by decide), e2]
    exact ⟨x % 256, i2, s2, rfl, by omega, by omega, a2⟩
theorem l02Flags_some {l : List Int} {i : Int} (h : At l i) (s : Int) : ∃ (b0 b1 b2 b3 b4 b5 : Bool) (i' s' : Int), spec_l02Flags.f l i s = some (b0, b1, b2, b3, b4, b5, i', s') ∧ At l i' := by
  obtain ⟨x, i1, s1, e1, _, _, a1⟩ := byte_some h s
  exact ⟨_, _, _, _, _, _, i1, s1, by simp only [spec_l02Flags.f, e1, Option.bind_some, spec_UnpackP.f]; rfl, a1⟩
theorem big_small {l : List Int} (h : l.length ≤ 1048576) : laws_big.f l = some false := by
  simp only [laws_big.f]; rw [decide_eq_false (by omega)]
theorem big_big {l : List Int} (h : ¬ l.length ≤ 1048576) : laws_big.f l = some true := by
  simp only [laws_big.f]; rw [decide_eq_true (by omega)]
end Go.Proofs.Ytafkbhnhmhmjcaa.DrawRun
end
