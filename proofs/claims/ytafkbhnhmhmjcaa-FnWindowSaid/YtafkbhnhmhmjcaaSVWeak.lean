import Derived.StillTailTactics
import Derived.Handy
import Derived.Test.YtafkbhnhmhmjcaaSVPRunx17
import Derived.Test.YtafkbhnhmhmjcaaSVMyFl
set_option linter.unusedVariables false
set_option linter.unusedSimpArgs false
namespace Go.Proofs.Ytafkbhnhmhmjcaa.Weak
open Go.RowKit Go.Proofs.YtafkbhnhmhmjcaaW.PrintWords Go.Proofs.YtafkbhnhmhmjcaaW.PrintLast Go.Proofs.YtafkbhnhmhmjcaaW.PrintMore
set_option maxHeartbeats 8000000 in
set_option maxRecDepth 100000 in
theorem NZ.any (a0 : Int) (f1_0 : Bool) (f1_1 : Bool) (f1_2 : Bool) (f1_3 : Bool) (f1_4 : Bool) (f1_5 : Bool) (h0 : RB a0) (w : World) : Calls Try.prog 57 #[.int .u8 a0, .agg #[.bool f1_0, .bool f1_1, .bool f1_2, .bool f1_3, .bool f1_4, .bool f1_5]] w fun e w1 => ∃ (r0 : Bool) (r1 : Bool) (r2 : Bool) (r3 : Bool) (r4 : Bool) (r5 : Bool), e = .returned (.agg #[.bool r0, .bool r1, .bool r2, .bool r3, .bool r4, .bool r5]) ∧ Below w.heap.size w w1 := by
  have K := Aside0.mk (Fls.nil w)
  go_enter Try.func57, Try.ntmps57
  go_wp2_with (first
  | ((with_reducible refine gate_dst (N := 3) rfl ?_); refine fl_box K.out rfl rfl rfl rfl ?_; intro g3 w1 k_; replace K := Aside0.mk k_; clear k_)
  | ((with_reducible refine gate_dst (N := 4) rfl ?_); refine fl_alloc K.out rfl rfl rfl ?_; intro g4 w1 k_; replace K := Aside0.mk k_; clear k_)
  | ((with_reducible refine gate_load (t := 26) rfl ?_); refine fl_ld K.out (by first | exact .head _ | exact .tail _ (.head _) | exact .tail _ (.tail _ (.head _))) rfl rfl rfl ?_; intro _ _ _ _ _ _)
  | ((with_reducible refine gate_st (t := 26) rfl ?_); refine fl_st K.out (by first | exact .head _ | exact .tail _ (.head _) | exact .tail _ (.tail _ (.head _))) rfl rfl rfl rfl ?_; intro w1 k_; replace K := Aside0.mk k_; clear k_)
  | ((with_reducible refine gate_load (t := 4) rfl ?_); refine fl_ldb K.out (by first | exact .head _ | exact .tail _ (.head _) | exact .tail _ (.tail _ (.head _))) rfl rfl rfl (by decide) ?_; intro _)
  | ((with_reducible refine gate_st (t := 4) rfl ?_); refine fl_stb K.out (by first | exact .head _ | exact .tail _ (.head _) | exact .tail _ (.tail _ (.head _))) rfl rfl rfl rfl (by decide) ?_; intro w1 k_; replace K := Aside0.mk k_; clear k_)
  | ((with_reducible refine gate_ret ?_); refine fl_ret K.out (by first | exact .head _ | exact .tail _ (.head _) | exact .tail _ (.tail _ (.head _))) rfl rfl rfl ?_; intro _ _ _ _ _ _; exact ⟨_, _, _, _, _, _, rfl, K.out.1⟩))
set_option maxHeartbeats 8000000 in
set_option maxRecDepth 100000 in
theorem Cmp.any (a0 : Int) (a1 : Int) (f2_0 : Bool) (f2_1 : Bool) (f2_2 : Bool) (f2_3 : Bool) (f2_4 : Bool) (f2_5 : Bool) (h0 : RB a0) (h1 : RB a1) (w : World) : Calls Try.prog 75 #[.int .u8 a0, .int .u8 a1, .agg #[.bool f2_0, .bool f2_1, .bool f2_2, .bool f2_3, .bool f2_4, .bool f2_5]] w fun e w1 => ∃ (r0 : Bool) (r1 : Bool) (r2 : Bool) (r3 : Bool) (r4 : Bool) (r5 : Bool), e = .returned (.agg #[.bool r0, .bool r1, .bool r2, .bool r3, .bool r4, .bool r5]) ∧ Below w.heap.size w w1 := by
  have K := Aside0.mk (Fls.nil w)
  go_enter Try.func75, Try.ntmps75
  go_wp2_with (first
  | ((with_reducible refine gate_dst (N := 5) rfl ?_); refine fl_box K.out rfl rfl rfl rfl ?_; intro g5 w1 k_; replace K := Aside0.mk k_; clear k_)
  | ((with_reducible refine gate_dst (N := 6) rfl ?_); refine fl_alloc K.out rfl rfl rfl ?_; intro g6 w1 k_; replace K := Aside0.mk k_; clear k_)
  | ((with_reducible refine gate_load (t := 26) rfl ?_); refine fl_ld K.out (by first | exact .head _ | exact .tail _ (.head _) | exact .tail _ (.tail _ (.head _))) rfl rfl rfl ?_; intro _ _ _ _ _ _)
  | ((with_reducible refine gate_st (t := 26) rfl ?_); refine fl_st K.out (by first | exact .head _ | exact .tail _ (.head _) | exact .tail _ (.tail _ (.head _))) rfl rfl rfl rfl ?_; intro w1 k_; replace K := Aside0.mk k_; clear k_)
  | ((with_reducible refine gate_load (t := 4) rfl ?_); refine fl_ldb K.out (by first | exact .head _ | exact .tail _ (.head _) | exact .tail _ (.tail _ (.head _))) rfl rfl rfl (by decide) ?_; intro _)
  | ((with_reducible refine gate_st (t := 4) rfl ?_); refine fl_stb K.out (by first | exact .head _ | exact .tail _ (.head _) | exact .tail _ (.tail _ (.head _))) rfl rfl rfl rfl (by decide) ?_; intro w1 k_; replace K := Aside0.mk k_; clear k_)
  | (go_at_call 57; refine (NZ.any _ _ _ _ _ _ _ (by first | assumption | with_reducible exact RB_wrap _ | with_reducible exact RB_bits _ _ _ | with_reducible exact RB_mod _ | (unfold RB; omega)) _).mono ?_; rintro e w1 ⟨_, _, _, _, _, _, rfl, hb_⟩; replace K := Aside0.mk (K.out.below_ hb_); clear hb_)
  | ((with_reducible refine gate_ret ?_); refine fl_ret K.out (by first | exact .head _ | exact .tail _ (.head _) | exact .tail _ (.tail _ (.head _))) rfl rfl rfl ?_; intro _ _ _ _ _ _; exact ⟨_, _, _, _, _, _, rfl, K.out.1⟩))
set_option maxHeartbeats 8000000 in
set_option maxRecDepth 100000 in
theorem BitTest.any (a0 : Int) (a1 : Int) (f2_0 : Bool) (f2_1 : Bool) (f2_2 : Bool) (f2_3 : Bool) (f2_4 : Bool) (f2_5 : Bool) (h0 : RB a0) (h1 : RB a1) (w : World) : Calls Try.prog 76 #[.int .u8 a0, .int .u8 a1, .agg #[.bool f2_0, .bool f2_1, .bool f2_2, .bool f2_3, .bool f2_4, .bool f2_5]] w fun e w1 => ∃ (r0 : Bool) (r1 : Bool) (r2 : Bool) (r3 : Bool) (r4 : Bool) (r5 : Bool), e = .returned (.agg #[.bool r0, .bool r1, .bool r2, .bool r3, .bool r4, .bool r5]) ∧ Below w.heap.size w w1 := by
  have K := Aside0.mk (Fls.nil w)
  go_enter Try.func76, Try.ntmps76
  go_wp2_with (first
  | ((with_reducible refine gate_dst (N := 5) rfl ?_); refine fl_box K.out rfl rfl rfl rfl ?_; intro g5 w1 k_; replace K := Aside0.mk k_; clear k_)
  | ((with_reducible refine gate_dst (N := 6) rfl ?_); refine fl_alloc K.out rfl rfl rfl ?_; intro g6 w1 k_; replace K := Aside0.mk k_; clear k_)
  | ((with_reducible refine gate_load (t := 26) rfl ?_); refine fl_ld K.out (by first | exact .head _ | exact .tail _ (.head _) | exact .tail _ (.tail _ (.head _))) rfl rfl rfl ?_; intro _ _ _ _ _ _)
  | ((with_reducible refine gate_st (t := 26) rfl ?_); refine fl_st K.out (by first | exact .head _ | exact .tail _ (.head _) | exact .tail _ (.tail _ (.head _))) rfl rfl rfl rfl ?_; intro w1 k_; replace K := Aside0.mk k_; clear k_)
  | ((with_reducible refine gate_load (t := 4) rfl ?_); refine fl_ldb K.out (by first | exact .head _ | exact .tail _ (.head _) | exact .tail _ (.tail _ (.head _))) rfl rfl rfl (by decide) ?_; intro _)
  | ((with_reducible refine gate_st (t := 4) rfl ?_); refine fl_stb K.out (by first | exact .head _ | exact .tail _ (.head _) | exact .tail _ (.tail _ (.head _))) rfl rfl rfl rfl (by decide) ?_; intro w1 k_; replace K := Aside0.mk k_; clear k_)
  | ((with_reducible refine gate_ret ?_); refine fl_ret K.out (by first | exact .head _ | exact .tail _ (.head _) | exact .tail _ (.tail _ (.head _))) rfl rfl rfl ?_; intro _ _ _ _ _ _; exact ⟨_, _, _, _, _, _, rfl, K.out.1⟩))
set_option maxHeartbeats 8000000 in
set_option maxRecDepth 100000 in
theorem l02Bit.any (a0 : Bool) (a1 : Int)  (w : World) : Calls Try.prog 65 #[.bool a0, .int .i64 a1] w fun e w1 => ∃ (r : Int), e = .returned (.int .i64 r) ∧ Below w.heap.size w w1 := by
  go_enter Try.func65, Try.ntmps65
  go_wp2
  all_goals ((try simp only [Exit.inBlock, Exit.then]); first | (refine bodyPost_ret (results_tmp rfl _ _ _) rfl ?_; refine ⟨_, rfl, ?_⟩; go_grown) | (refine bodyPost_ret (by simp [results, Try.results65, go_sem]; try rfl) rfl ?_; refine ⟨_, rfl, ?_⟩; go_grown))
set_option maxHeartbeats 8000000 in
set_option maxRecDepth 100000 in
theorem l02Over.any (a0 : Int) (a1 : Int) (a2 : Int)  (w : World) : Calls Try.prog 79 #[.int .i64 a0, .int .i64 a1, .int .i64 a2] w fun e w1 => ∃ (r : Bool), e = .returned (.bool r) ∧ Below w.heap.size w w1 := by
  go_enter Try.func79, Try.ntmps79
  go_wp2
  all_goals ((try simp only [Exit.inBlock, Exit.then]); first | (refine bodyPost_ret (results_tmp rfl _ _ _) rfl ?_; refine ⟨_, rfl, ?_⟩; go_grown) | (refine bodyPost_ret (by simp [results, Try.results79, go_sem]; try rfl) rfl ?_; refine ⟨_, rfl, ?_⟩; go_grown))
set_option maxHeartbeats 8000000 in
set_option maxRecDepth 100000 in
theorem Asl.any (a0 : Int) (f1_0 : Bool) (f1_1 : Bool) (f1_2 : Bool) (f1_3 : Bool) (f1_4 : Bool) (f1_5 : Bool) (h0 : RB a0) (w : World) : Calls Try.prog 69 #[.int .u8 a0, .agg #[.bool f1_0, .bool f1_1, .bool f1_2, .bool f1_3, .bool f1_4, .bool f1_5]] w fun e w1 => ∃ (ru : Int) (rv0 : Bool) (rv1 : Bool) (rv2 : Bool) (rv3 : Bool) (rv4 : Bool) (rv5 : Bool), e = .returned (.tuple #[.int .u8 ru, .agg #[.bool rv0, .bool rv1, .bool rv2, .bool rv3, .bool rv4, .bool rv5]]) ∧ RB ru ∧ Below w.heap.size w w1 := by
  have K := Aside0.mk (Fls.nil w)
  go_enter Try.func69, Try.ntmps69
  go_wp2_with (first
  | ((with_reducible refine gate_dst (N := 3) rfl ?_); refine fl_box K.out rfl rfl rfl rfl ?_; intro g3 w1 k_; replace K := Aside0.mk k_; clear k_)
  | ((with_reducible refine gate_dst (N := 5) rfl ?_); refine fl_alloc K.out rfl rfl rfl ?_; intro g5 w1 k_; replace K := Aside0.mk k_; clear k_)
  | ((with_reducible refine gate_load (t := 26) rfl ?_); refine fl_ld K.out (by first | exact .head _ | exact .tail _ (.head _) | exact .tail _ (.tail _ (.head _))) rfl rfl rfl ?_; intro _ _ _ _ _ _)
  | ((with_reducible refine gate_st (t := 26) rfl ?_); refine fl_st K.out (by first | exact .head _ | exact .tail _ (.head _) | exact .tail _ (.tail _ (.head _))) rfl rfl rfl rfl ?_; intro w1 k_; replace K := Aside0.mk k_; clear k_)
  | ((with_reducible refine gate_load (t := 4) rfl ?_); refine fl_ldb K.out (by first | exact .head _ | exact .tail _ (.head _) | exact .tail _ (.tail _ (.head _))) rfl rfl rfl (by decide) ?_; intro _)
  | ((with_reducible refine gate_st (t := 4) rfl ?_); refine fl_stb K.out (by first | exact .head _ | exact .tail _ (.head _) | exact .tail _ (.tail _ (.head _))) rfl rfl rfl rfl (by decide) ?_; intro w1 k_; replace K := Aside0.mk k_; clear k_)
  | (go_at_call 57; refine (NZ.any _ _ _ _ _ _ _ (by first | assumption | with_reducible exact RB_wrap _ | with_reducible exact RB_bits _ _ _ | with_reducible exact RB_mod _ | (unfold RB; omega)) _).mono ?_; rintro e w1 ⟨_, _, _, _, _, _, rfl, hb_⟩; replace K := Aside0.mk (K.out.below_ hb_); clear hb_)
  | ((with_reducible refine gate_ret ?_); refine fl_ret2 K.out (by first | exact .head _ | exact .tail _ (.head _) | exact .tail _ (.tail _ (.head _))) rfl rfl rfl rfl ?_; intro _ _ _ _ _ _; exact ⟨_, _, _, _, _, _, _, rfl, (by first | assumption | with_reducible exact RB_wrap _ | with_reducible exact RB_bits _ _ _ | with_reducible exact RB_mod _ | (unfold RB; omega)), K.out.1⟩))
set_option maxHeartbeats 8000000 in
set_option maxRecDepth 100000 in
theorem Lsr.any (a0 : Int) (f1_0 : Bool) (f1_1 : Bool) (f1_2 : Bool) (f1_3 : Bool) (f1_4 : Bool) (f1_5 : Bool) (h0 : RB a0) (w : World) : Calls Try.prog 70 #[.int .u8 a0, .agg #[.bool f1_0, .bool f1_1, .bool f1_2, .bool f1_3, .bool f1_4, .bool f1_5]] w fun e w1 => ∃ (ru : Int) (rv0 : Bool) (rv1 : Bool) (rv2 : Bool) (rv3 : Bool) (rv4 : Bool) (rv5 : Bool), e = .returned (.tuple #[.int .u8 ru, .agg #[.bool rv0, .bool rv1, .bool rv2, .bool rv3, .bool rv4, .bool rv5]]) ∧ RB ru ∧ Below w.heap.size w w1 := by
  have K := Aside0.mk (Fls.nil w)
  go_enter Try.func70, Try.ntmps70
  go_wp2_with (first
  | ((with_reducible refine gate_dst (N := 3) rfl ?_); refine fl_box K.out rfl rfl rfl rfl ?_; intro g3 w1 k_; replace K := Aside0.mk k_; clear k_)
  | ((with_reducible refine gate_dst (N := 5) rfl ?_); refine fl_alloc K.out rfl rfl rfl ?_; intro g5 w1 k_; replace K := Aside0.mk k_; clear k_)
  | ((with_reducible refine gate_load (t := 26) rfl ?_); refine fl_ld K.out (by first | exact .head _ | exact .tail _ (.head _) | exact .tail _ (.tail _ (.head _))) rfl rfl rfl ?_; intro _ _ _ _ _ _)
  | ((with_reducible refine gate_st (t := 26) rfl ?_); refine fl_st K.out (by first | exact .head _ | exact .tail _ (.head _) | exact .tail _ (.tail _ (.head _))) rfl rfl rfl rfl ?_; intro w1 k_; replace K := Aside0.mk k_; clear k_)
  | ((with_reducible refine gate_load (t := 4) rfl ?_); refine fl_ldb K.out (by first | exact .head _ | exact .tail _ (.head _) | exact .tail _ (.tail _ (.head _))) rfl rfl rfl (by decide) ?_; intro _)
  | ((with_reducible refine gate_st (t := 4) rfl ?_); refine fl_stb K.out (by first | exact .head _ | exact .tail _ (.head _) | exact .tail _ (.tail _ (.head _))) rfl rfl rfl rfl (by decide) ?_; intro w1 k_; replace K := Aside0.mk k_; clear k_)
  | (go_at_call 57; refine (NZ.any _ _ _ _ _ _ _ (by first | assumption | with_reducible exact RB_wrap _ | with_reducible exact RB_bits _ _ _ | with_reducible exact RB_mod _ | (unfold RB; omega)) _).mono ?_; rintro e w1 ⟨_, _, _, _, _, _, rfl, hb_⟩; replace K := Aside0.mk (K.out.below_ hb_); clear hb_)
  | ((with_reducible refine gate_ret ?_); refine fl_ret2 K.out (by first | exact .head _ | exact .tail _ (.head _) | exact .tail _ (.tail _ (.head _))) rfl rfl rfl rfl ?_; intro _ _ _ _ _ _; exact ⟨_, _, _, _, _, _, _, rfl, (by first | assumption | with_reducible exact RB_wrap _ | with_reducible exact RB_bits _ _ _ | with_reducible exact RB_mod _ | (unfold RB; omega)), K.out.1⟩))
set_option maxHeartbeats 8000000 in
set_option maxRecDepth 100000 in
theorem Rol.any (a0 : Int) (f1_0 : Bool) (f1_1 : Bool) (f1_2 : Bool) (f1_3 : Bool) (f1_4 : Bool) (f1_5 : Bool) (h0 : RB a0) (w : World) : Calls Try.prog 71 #[.int .u8 a0, .agg #[.bool f1_0, .bool f1_1, .bool f1_2, .bool f1_3, .bool f1_4, .bool f1_5]] w fun e w1 => ∃ (ru : Int) (rv0 : Bool) (rv1 : Bool) (rv2 : Bool) (rv3 : Bool) (rv4 : Bool) (rv5 : Bool), e = .returned (.tuple #[.int .u8 ru, .agg #[.bool rv0, .bool rv1, .bool rv2, .bool rv3, .bool rv4, .bool rv5]]) ∧ RB ru ∧ Below w.heap.size w w1 := by
  have K := Aside0.mk (Fls.nil w)
  go_enter Try.func71, Try.ntmps71
  go_wp2_with (first
  | ((with_reducible refine gate_dst (N := 3) rfl ?_); refine fl_box K.out rfl rfl rfl rfl ?_; intro g3 w1 k_; replace K := Aside0.mk k_; clear k_)
  | ((with_reducible refine gate_dst (N := 5) rfl ?_); refine fl_alloc K.out rfl rfl rfl ?_; intro g5 w1 k_; replace K := Aside0.mk k_; clear k_)
  | ((with_reducible refine gate_load (t := 26) rfl ?_); refine fl_ld K.out (by first | exact .head _ | exact .tail _ (.head _) | exact .tail _ (.tail _ (.head _))) rfl rfl rfl ?_; intro _ _ _ _ _ _)
  | ((with_reducible refine gate_st (t := 26) rfl ?_); refine fl_st K.out (by first | exact .head _ | exact .tail _ (.head _) | exact .tail _ (.tail _ (.head _))) rfl rfl rfl rfl ?_; intro w1 k_; replace K := Aside0.mk k_; clear k_)
  | ((with_reducible refine gate_load (t := 4) rfl ?_); refine fl_ldb K.out (by first | exact .head _ | exact .tail _ (.head _) | exact .tail _ (.tail _ (.head _))) rfl rfl rfl (by decide) ?_; intro _)
  | ((with_reducible refine gate_st (t := 4) rfl ?_); refine fl_stb K.out (by first | exact .head _ | exact .tail _ (.head _) | exact .tail _ (.tail _ (.head _))) rfl rfl rfl rfl (by decide) ?_; intro w1 k_; replace K := Aside0.mk k_; clear k_)
  | (go_at_call 65; refine (l02Bit.any _ _  _).mono ?_; rintro e w1 ⟨_, rfl, hb_⟩; replace K := Aside0.mk (K.out.below_ hb_); clear hb_)
  | (go_at_call 57; refine (NZ.any _ _ _ _ _ _ _ (by first | assumption | with_reducible exact RB_wrap _ | with_reducible exact RB_bits _ _ _ | with_reducible exact RB_mod _ | (unfold RB; omega)) _).mono ?_; rintro e w1 ⟨_, _, _, _, _, _, rfl, hb_⟩; replace K := Aside0.mk (K.out.below_ hb_); clear hb_)
  | ((with_reducible refine gate_ret ?_); refine fl_ret2 K.out (by first | exact .head _ | exact .tail _ (.head _) | exact .tail _ (.tail _ (.head _))) rfl rfl rfl rfl ?_; intro _ _ _ _ _ _; exact ⟨_, _, _, _, _, _, _, rfl, (by first | assumption | with_reducible exact RB_wrap _ | with_reducible exact RB_bits _ _ _ | with_reducible exact RB_mod _ | (unfold RB; omega)), K.out.1⟩))
set_option maxHeartbeats 8000000 in
set_option maxRecDepth 100000 in
theorem Ror.any (a0 : Int) (f1_0 : Bool) (f1_1 : Bool) (f1_2 : Bool) (f1_3 : Bool) (f1_4 : Bool) (f1_5 : Bool) (h0 : RB a0) (w : World) : Calls Try.prog 72 #[.int .u8 a0, .agg #[.bool f1_0, .bool f1_1, .bool f1_2, .bool f1_3, .bool f1_4, .bool f1_5]] w fun e w1 => ∃ (ru : Int) (rv0 : Bool) (rv1 : Bool) (rv2 : Bool) (rv3 : Bool) (rv4 : Bool) (rv5 : Bool), e = .returned (.tuple #[.int .u8 ru, .agg #[.bool rv0, .bool rv1, .bool rv2, .bool rv3, .bool rv4, .bool rv5]]) ∧ RB ru ∧ Below w.heap.size w w1 := by
  have K := Aside0.mk (Fls.nil w)
  go_enter Try.func72, Try.ntmps72
  go_wp2_with (first
  | ((with_reducible refine gate_dst (N := 3) rfl ?_); refine fl_box K.out rfl rfl rfl rfl ?_; intro g3 w1 k_; replace K := Aside0.mk k_; clear k_)
  | ((with_reducible refine gate_dst (N := 5) rfl ?_); refine fl_alloc K.out rfl rfl rfl ?_; intro g5 w1 k_; replace K := Aside0.mk k_; clear k_)
  | ((with_reducible refine gate_load (t := 26) rfl ?_); refine fl_ld K.out (by first | exact .head _ | exact .tail _ (.head _) | exact .tail _ (.tail _ (.head _))) rfl rfl rfl ?_; intro _ _ _ _ _ _)
  | ((with_reducible refine gate_st (t := 26) rfl ?_); refine fl_st K.out (by first | exact .head _ | exact .tail _ (.head _) | exact .tail _ (.tail _ (.head _))) rfl rfl rfl rfl ?_; intro w1 k_; replace K := Aside0.mk k_; clear k_)
  | ((with_reducible refine gate_load (t := 4) rfl ?_); refine fl_ldb K.out (by first | exact .head _ | exact .tail _ (.head _) | exact .tail _ (.tail _ (.head _))) rfl rfl rfl (by decide) ?_; intro _)
  | ((with_reducible refine gate_st (t := 4) rfl ?_); refine fl_stb K.out (by first | exact .head _ | exact .tail _ (.head _) | exact .tail _ (.tail _ (.head _))) rfl rfl rfl rfl (by decide) ?_; intro w1 k_; replace K := Aside0.mk k_; clear k_)
  | (go_at_call 65; refine (l02Bit.any _ _  _).mono ?_; rintro e w1 ⟨_, rfl, hb_⟩; replace K := Aside0.mk (K.out.below_ hb_); clear hb_)
  | (go_at_call 57; refine (NZ.any _ _ _ _ _ _ _ (by first | assumption | with_reducible exact RB_wrap _ | with_reducible exact RB_bits _ _ _ | with_reducible exact RB_mod _ | (unfold RB; omega)) _).mono ?_; rintro e w1 ⟨_, _, _, _, _, _, rfl, hb_⟩; replace K := Aside0.mk (K.out.below_ hb_); clear hb_)
  | ((with_reducible refine gate_ret ?_); refine fl_ret2 K.out (by first | exact .head _ | exact .tail _ (.head _) | exact .tail _ (.tail _ (.head _))) rfl rfl rfl rfl ?_; intro _ _ _ _ _ _; exact ⟨_, _, _, _, _, _, _, rfl, (by first | assumption | with_reducible exact RB_wrap _ | with_reducible exact RB_bits _ _ _ | with_reducible exact RB_mod _ | (unfold RB; omega)), K.out.1⟩))
set_option maxHeartbeats 8000000 in
set_option maxRecDepth 100000 in
theorem l06Holds.any (f0_0 : Bool) (f0_1 : Bool) (f0_2 : Bool) (f0_3 : Bool) (f0_4 : Bool) (f0_5 : Bool) (a1 : ByteArray)  (w : World) : Calls Try.prog 59 #[.agg #[.bool f0_0, .bool f0_1, .bool f0_2, .bool f0_3, .bool f0_4, .bool f0_5], .string a1] w fun e w1 => ∃ (r : Bool), e = .returned (.bool r) ∧ Below w.heap.size w w1 := by
  go_enter Try.func59, Try.ntmps59
  go_wp2
  all_goals ((try simp only [Exit.inBlock, Exit.then]); first | (refine bodyPost_ret (results_tmp rfl _ _ _) rfl ?_; refine ⟨_, rfl, ?_⟩; go_grown) | (refine bodyPost_ret (by simp [results, Try.results59, go_sem]; try rfl) rfl ?_; refine ⟨_, rfl, ?_⟩; go_grown))
set_option maxHeartbeats 8000000 in
set_option maxRecDepth 100000 in
theorem l06Index.any (f0_a f0_x f0_y f0_s f0_p : Int) (f0_0 : Bool) (f0_1 : Bool) (f0_2 : Bool) (f0_3 : Bool) (f0_4 : Bool) (f0_5 : Bool) (a1 : Int) (h0 : RB f0_a) (h1 : RB f0_x) (h2 : RB f0_y) (h3 : RB f0_s) (w : World) : Calls Try.prog 77 #[.agg #[.int .u8 f0_a, .int .u8 f0_x, .int .u8 f0_y, .int .u8 f0_s, .int .u16 f0_p, .bool f0_0, .bool f0_1, .bool f0_2, .bool f0_3, .bool f0_4, .bool f0_5], .int .i64 a1] w fun e w1 => ∃ (r : Int), e = .returned (.int .i64 r) ∧ Below w.heap.size w w1 := by
  go_enter Try.func77, Try.ntmps77
  go_wp2
  all_goals ((try simp only [Exit.inBlock, Exit.then]); first | (refine bodyPost_ret (results_tmp rfl _ _ _) rfl ?_; refine ⟨_, rfl, ?_⟩; go_grown) | (refine bodyPost_ret (by simp [results, Try.results77, go_sem]; try rfl) rfl ?_; refine ⟨_, rfl, ?_⟩; go_grown))
set_option maxHeartbeats 8000000 in
set_option maxRecDepth 100000 in
theorem l06Reg.any (f0_a f0_x f0_y f0_s f0_p : Int) (f0_0 : Bool) (f0_1 : Bool) (f0_2 : Bool) (f0_3 : Bool) (f0_4 : Bool) (f0_5 : Bool) (a1 : ByteArray) (h0 : RB f0_a) (h1 : RB f0_x) (h2 : RB f0_y) (h3 : RB f0_s) (w : World) : Calls Try.prog 63 #[.agg #[.int .u8 f0_a, .int .u8 f0_x, .int .u8 f0_y, .int .u8 f0_s, .int .u16 f0_p, .bool f0_0, .bool f0_1, .bool f0_2, .bool f0_3, .bool f0_4, .bool f0_5], .string a1] w fun e w1 => ∃ (r : Int), e = .returned (.int .u8 r) ∧ RB r ∧ Below w.heap.size w w1 := by
  go_enter Try.func63, Try.ntmps63
  go_wp2
  all_goals ((try simp only [Exit.inBlock, Exit.then]); first | (refine bodyPost_ret (results_tmp rfl _ _ _) rfl ?_; refine ⟨_, rfl, (by first | assumption | with_reducible exact RB_wrap _ | with_reducible exact RB_bits _ _ _ | with_reducible exact RB_mod _ | (unfold RB; omega)), ?_⟩; go_grown) | (refine bodyPost_ret (by simp [results, Try.results63, go_sem]; try rfl) rfl ?_; refine ⟨_, rfl, (by first | assumption | with_reducible exact RB_wrap _ | with_reducible exact RB_bits _ _ _ | with_reducible exact RB_mod _ | (unfold RB; omega)), ?_⟩; go_grown))
set_option maxHeartbeats 8000000 in
set_option maxRecDepth 100000 in
theorem l04Offset.any (a0 : Int) (h0 : RB a0) (w : World) : Calls Try.prog 60 #[.int .u8 a0] w fun e w1 => ∃ (r : Int), e = .returned (.int .i64 r) ∧ Below w.heap.size w w1 := by
  go_enter Try.func60, Try.ntmps60
  go_wp2
  all_goals ((try simp only [Exit.inBlock, Exit.then]); first | (refine bodyPost_ret (results_tmp rfl _ _ _) rfl ?_; refine ⟨_, rfl, ?_⟩; go_grown) | (refine bodyPost_ret (by simp [results, Try.results60, go_sem]; try rfl) rfl ?_; refine ⟨_, rfl, ?_⟩; go_grown))
set_option maxHeartbeats 8000000 in
set_option maxRecDepth 100000 in
theorem l04Word.any (a0 : Int) (a1 : Int) (h0 : RB a0) (h1 : RB a1) (w : World) : Calls Try.prog 54 #[.int .u8 a0, .int .u8 a1] w fun e w1 => ∃ (r : Int), e = .returned (.int .i64 r) ∧ Below w.heap.size w w1 := by
  go_enter Try.func54, Try.ntmps54
  go_wp2
  all_goals ((try simp only [Exit.inBlock, Exit.then]); first | (refine bodyPost_ret (results_tmp rfl _ _ _) rfl ?_; refine ⟨_, rfl, ?_⟩; go_grown) | (refine bodyPost_ret (by simp [results, Try.results54, go_sem]; try rfl) rfl ?_; refine ⟨_, rfl, ?_⟩; go_grown))
set_option maxHeartbeats 8000000 in
set_option maxRecDepth 100000 in
theorem l06Stack.any (a0 : Int)  (w : World) : Calls Try.prog 52 #[.int .i64 a0] w fun e w1 => ∃ (r : Int), e = .returned (.int .i64 r) ∧ Below w.heap.size w w1 := by
  go_enter Try.func52, Try.ntmps52
  go_wp2
  all_goals ((try simp only [Exit.inBlock, Exit.then]); first | (refine bodyPost_ret (results_tmp rfl _ _ _) rfl ?_; refine ⟨_, rfl, ?_⟩; go_grown) | (refine bodyPost_ret (by simp [results, Try.results52, go_sem]; try rfl) rfl ?_; refine ⟨_, rfl, ?_⟩; go_grown))
set_option maxHeartbeats 8000000 in
set_option maxRecDepth 100000 in
theorem UnpackP.any (a0 : Int) (h0 : RB a0) (w : World) : Calls Try.prog 50 #[.int .u8 a0] w fun e w1 => ∃ (r0 : Bool) (r1 : Bool) (r2 : Bool) (r3 : Bool) (r4 : Bool) (r5 : Bool), e = .returned (.agg #[.bool r0, .bool r1, .bool r2, .bool r3, .bool r4, .bool r5]) ∧ Below w.heap.size w w1 := by
  go_enter Try.func50, Try.ntmps50
  go_wp2
  all_goals ((try simp only [Exit.inBlock, Exit.then]); first | (refine bodyPost_ret (by simp [results, Try.results50, go_sem]; try rfl) rfl ?_; refine ⟨_, _, _, _, _, _, rfl, ?_⟩; go_grown))
set_option maxHeartbeats 8000000 in
set_option maxRecDepth 100000 in
theorem l02Plain.any (a0 : Int) (a1 : Int) (f2_0 : Bool) (f2_1 : Bool) (f2_2 : Bool) (f2_3 : Bool) (f2_4 : Bool) (f2_5 : Bool) (h0 : RB a0) (h1 : RB a1) (w : World) : Calls Try.prog 78 #[.int .u8 a0, .int .u8 a1, .agg #[.bool f2_0, .bool f2_1, .bool f2_2, .bool f2_3, .bool f2_4, .bool f2_5]] w fun e w1 => ∃ (ru : Int) (rv0 : Bool) (rv1 : Bool) (rv2 : Bool) (rv3 : Bool) (rv4 : Bool) (rv5 : Bool), e = .returned (.tuple #[.int .u8 ru, .agg #[.bool rv0, .bool rv1, .bool rv2, .bool rv3, .bool rv4, .bool rv5]]) ∧ RB ru ∧ Below w.heap.size w w1 := by
  have K := Aside0.mk (Fls.nil w)
  go_enter Try.func78, Try.ntmps78
  go_wp2_with (first
  | ((with_reducible refine gate_dst (N := 5) rfl ?_); refine fl_box K.out rfl rfl rfl rfl ?_; intro g5 w1 k_; replace K := Aside0.mk k_; clear k_)
  | ((with_reducible refine gate_dst (N := 7) rfl ?_); refine fl_alloc K.out rfl rfl rfl ?_; intro g7 w1 k_; replace K := Aside0.mk k_; clear k_)
  | ((with_reducible refine gate_load (t := 26) rfl ?_); refine fl_ld K.out (by first | exact .head _ | exact .tail _ (.head _) | exact .tail _ (.tail _ (.head _))) rfl rfl rfl ?_; intro _ _ _ _ _ _)
  | ((with_reducible refine gate_st (t := 26) rfl ?_); refine fl_st K.out (by first | exact .head _ | exact .tail _ (.head _) | exact .tail _ (.tail _ (.head _))) rfl rfl rfl rfl ?_; intro w1 k_; replace K := Aside0.mk k_; clear k_)
  | ((with_reducible refine gate_load (t := 4) rfl ?_); refine fl_ldb K.out (by first | exact .head _ | exact .tail _ (.head _) | exact .tail _ (.tail _ (.head _))) rfl rfl rfl (by decide) ?_; intro _)
  | ((with_reducible refine gate_st (t := 4) rfl ?_); refine fl_stb K.out (by first | exact .head _ | exact .tail _ (.head _) | exact .tail _ (.tail _ (.head _))) rfl rfl rfl rfl (by decide) ?_; intro w1 k_; replace K := Aside0.mk k_; clear k_)
  | (go_at_call 65; refine (l02Bit.any _ _  _).mono ?_; rintro e w1 ⟨_, rfl, hb_⟩; replace K := Aside0.mk (K.out.below_ hb_); clear hb_)
  | (go_at_call 79; refine (l02Over.any _ _ _  _).mono ?_; rintro e w1 ⟨_, rfl, hb_⟩; replace K := Aside0.mk (K.out.below_ hb_); clear hb_)
  | (go_at_call 57; refine (NZ.any _ _ _ _ _ _ _ (by first | assumption | with_reducible exact RB_wrap _ | with_reducible exact RB_bits _ _ _ | with_reducible exact RB_mod _ | (unfold RB; omega)) _).mono ?_; rintro e w1 ⟨_, _, _, _, _, _, rfl, hb_⟩; replace K := Aside0.mk (K.out.below_ hb_); clear hb_)
  | ((with_reducible refine gate_ret ?_); refine fl_ret2 K.out (by first | exact .head _ | exact .tail _ (.head _) | exact .tail _ (.tail _ (.head _))) rfl rfl rfl rfl ?_; intro _ _ _ _ _ _; exact ⟨_, _, _, _, _, _, _, rfl, (by first | assumption | with_reducible exact RB_wrap _ | with_reducible exact RB_bits _ _ _ | with_reducible exact RB_mod _ | (unfold RB; omega)), K.out.1⟩))
theorem PackP.any (b0 b1 b2 b3 b4 b5 c : Bool) (w : World) : Calls Try.prog 53 #[.agg #[.bool b0, .bool b1, .bool b2, .bool b3, .bool b4, .bool b5], .bool c] w fun e w1 => ∃ r, e = .returned (.int .u8 r) ∧ RB r ∧ Below w.heap.size w w1 := by
  obtain ⟨r, hr, hq⟩ : ∃ r, PRun.spec_PackP.f b0 b1 b2 b3 b4 b5 c = some r ∧ RB r := by
    simp only [PRun.spec_PackP.f, PRun.spec_l02Bit.f]
    cases b0 <;> cases b1 <;> cases b2 <;> cases b3 <;> cases b4 <;> cases b5 <;> cases c <;> exact ⟨_, rfl, RB_mod _⟩
  refine (PRun.spec_PackP.calls b0 b1 b2 b3 b4 b5 c r w hr).mono ?_
  rintro e w1 ⟨rfl, hw⟩
  exact ⟨r, rfl, hq, hw⟩
set_option maxHeartbeats 8000000 in
set_option maxRecDepth 100000 in
theorem l06Change.any (a0 : ByteArray) (a1 : Int) (f2_0 : Bool) (f2_1 : Bool) (f2_2 : Bool) (f2_3 : Bool) (f2_4 : Bool) (f2_5 : Bool) (h0 : RB a1) (w : World) : Calls Try.prog 56 #[.string a0, .int .u8 a1, .agg #[.bool f2_0, .bool f2_1, .bool f2_2, .bool f2_3, .bool f2_4, .bool f2_5]] w fun e w1 => ∃ (ru : Int) (rv0 : Bool) (rv1 : Bool) (rv2 : Bool) (rv3 : Bool) (rv4 : Bool) (rv5 : Bool), e = .returned (.tuple #[.int .u8 ru, .agg #[.bool rv0, .bool rv1, .bool rv2, .bool rv3, .bool rv4, .bool rv5]]) ∧ RB ru ∧ Below w.heap.size w w1 := by
  have K := Aside0.mk (Fls.nil w)
  go_enter Try.func56, Try.ntmps56
  go_wp2_with (first
  | ((with_reducible refine gate_dst (N := 5) rfl ?_); refine fl_box K.out rfl rfl rfl rfl ?_; intro g5 w1 k_; replace K := Aside0.mk k_; clear k_)
  | ((with_reducible refine gate_dst (N := 7) rfl ?_); refine fl_alloc K.out rfl rfl rfl ?_; intro g7 w1 k_; replace K := Aside0.mk k_; clear k_)
  | ((with_reducible refine gate_load (t := 26) rfl ?_); refine fl_ld K.out (by first | exact .head _ | exact .tail _ (.head _) | exact .tail _ (.tail _ (.head _))) rfl rfl rfl ?_; intro _ _ _ _ _ _)
  | ((with_reducible refine gate_st (t := 26) rfl ?_); refine fl_st K.out (by first | exact .head _ | exact .tail _ (.head _) | exact .tail _ (.tail _ (.head _))) rfl rfl rfl rfl ?_; intro w1 k_; replace K := Aside0.mk k_; clear k_)
  | ((with_reducible refine gate_load (t := 4) rfl ?_); refine fl_ldb K.out (by first | exact .head _ | exact .tail _ (.head _) | exact .tail _ (.tail _ (.head _))) rfl rfl rfl (by decide) ?_; intro _)
  | ((with_reducible refine gate_st (t := 4) rfl ?_); refine fl_stb K.out (by first | exact .head _ | exact .tail _ (.head _) | exact .tail _ (.tail _ (.head _))) rfl rfl rfl rfl (by decide) ?_; intro w1 k_; replace K := Aside0.mk k_; clear k_)
  | (go_at_call 69; refine (Asl.any _ _ _ _ _ _ _ (by first | assumption | with_reducible exact RB_wrap _ | with_reducible exact RB_bits _ _ _ | with_reducible exact RB_mod _ | (unfold RB; omega)) _).mono ?_; rintro e w1 ⟨_, _, _, _, _, _, _, rfl, _, hb_⟩; replace K := Aside0.mk (K.out.below_ hb_); clear hb_)
  | (go_at_call 70; refine (Lsr.any _ _ _ _ _ _ _ (by first | assumption | with_reducible exact RB_wrap _ | with_reducible exact RB_bits _ _ _ | with_reducible exact RB_mod _ | (unfold RB; omega)) _).mono ?_; rintro e w1 ⟨_, _, _, _, _, _, _, rfl, _, hb_⟩; replace K := Aside0.mk (K.out.below_ hb_); clear hb_)
  | (go_at_call 71; refine (Rol.any _ _ _ _ _ _ _ (by first | assumption | with_reducible exact RB_wrap _ | with_reducible exact RB_bits _ _ _ | with_reducible exact RB_mod _ | (unfold RB; omega)) _).mono ?_; rintro e w1 ⟨_, _, _, _, _, _, _, rfl, _, hb_⟩; replace K := Aside0.mk (K.out.below_ hb_); clear hb_)
  | (go_at_call 72; refine (Ror.any _ _ _ _ _ _ _ (by first | assumption | with_reducible exact RB_wrap _ | with_reducible exact RB_bits _ _ _ | with_reducible exact RB_mod _ | (unfold RB; omega)) _).mono ?_; rintro e w1 ⟨_, _, _, _, _, _, _, rfl, _, hb_⟩; replace K := Aside0.mk (K.out.below_ hb_); clear hb_)
  | (go_at_call 57; refine (NZ.any _ _ _ _ _ _ _ (by first | assumption | with_reducible exact RB_wrap _ | with_reducible exact RB_bits _ _ _ | with_reducible exact RB_mod _ | (unfold RB; omega)) _).mono ?_; rintro e w1 ⟨_, _, _, _, _, _, rfl, hb_⟩; replace K := Aside0.mk (K.out.below_ hb_); clear hb_)
  | ((with_reducible refine gate_ret ?_); refine fl_ret2 K.out (by first | exact .head _ | exact .tail _ (.head _) | exact .tail _ (.tail _ (.head _))) rfl rfl rfl rfl ?_; intro _ _ _ _ _ _; exact ⟨_, _, _, _, _, _, _, rfl, (by first | assumption | with_reducible exact RB_wrap _ | with_reducible exact RB_bits _ _ _ | with_reducible exact RB_mod _ | (unfold RB; omega)), K.out.1⟩))
set_option maxHeartbeats 8000000 in
set_option maxRecDepth 100000 in
theorem l06Flag.any (f0_0 : Bool) (f0_1 : Bool) (f0_2 : Bool) (f0_3 : Bool) (f0_4 : Bool) (f0_5 : Bool) (a1 : ByteArray)  (w : World) : Calls Try.prog 58 #[.agg #[.bool f0_0, .bool f0_1, .bool f0_2, .bool f0_3, .bool f0_4, .bool f0_5], .string a1] w fun e w1 => ∃ (r0 : Bool) (r1 : Bool) (r2 : Bool) (r3 : Bool) (r4 : Bool) (r5 : Bool), e = .returned (.agg #[.bool r0, .bool r1, .bool r2, .bool r3, .bool r4, .bool r5]) ∧ Below w.heap.size w w1 := by
  have K := Aside0.mk (Fls.nil w)
  go_enter Try.func58, Try.ntmps58
  go_wp2_with (first
  | ((with_reducible refine gate_dst (N := 2) rfl ?_); refine fl_box K.out rfl rfl rfl rfl ?_; intro g2 w1 k_; replace K := Aside0.mk k_; clear k_)
  | ((with_reducible refine gate_dst (N := 4) rfl ?_); refine fl_alloc K.out rfl rfl rfl ?_; intro g4 w1 k_; replace K := Aside0.mk k_; clear k_)
  | ((with_reducible refine gate_load (t := 26) rfl ?_); refine fl_ld K.out (by first | exact .head _ | exact .tail _ (.head _) | exact .tail _ (.tail _ (.head _))) rfl rfl rfl ?_; intro _ _ _ _ _ _)
  | ((with_reducible refine gate_st (t := 26) rfl ?_); refine fl_st K.out (by first | exact .head _ | exact .tail _ (.head _) | exact .tail _ (.tail _ (.head _))) rfl rfl rfl rfl ?_; intro w1 k_; replace K := Aside0.mk k_; clear k_)
  | ((with_reducible refine gate_load (t := 4) rfl ?_); refine fl_ldb K.out (by first | exact .head _ | exact .tail _ (.head _) | exact .tail _ (.tail _ (.head _))) rfl rfl rfl (by decide) ?_; intro _)
  | ((with_reducible refine gate_st (t := 4) rfl ?_); refine fl_stb K.out (by first | exact .head _ | exact .tail _ (.head _) | exact .tail _ (.tail _ (.head _))) rfl rfl rfl rfl (by decide) ?_; intro w1 k_; replace K := Aside0.mk k_; clear k_)
  | ((with_reducible refine gate_ret ?_); refine fl_ret K.out (by first | exact .head _ | exact .tail _ (.head _) | exact .tail _ (.tail _ (.head _))) rfl rfl rfl ?_; intro _ _ _ _ _ _; exact ⟨_, _, _, _, _, _, rfl, K.out.1⟩))
set_option maxHeartbeats 8000000 in
set_option maxRecDepth 100000 in
theorem Adc.any (a0 : Int) (a1 : Int) (f2_0 : Bool) (f2_1 : Bool) (f2_2 : Bool) (f2_3 : Bool) (f2_4 : Bool) (f2_5 : Bool) (h0 : RB a0) (h1 : RB a1) (w : World) : Calls Try.prog 73 #[.int .u8 a0, .int .u8 a1, .agg #[.bool f2_0, .bool f2_1, .bool f2_2, .bool f2_3, .bool f2_4, .bool f2_5]] w fun e w1 => ∃ (ru : Int) (rv0 : Bool) (rv1 : Bool) (rv2 : Bool) (rv3 : Bool) (rv4 : Bool) (rv5 : Bool), e = .returned (.tuple #[.int .u8 ru, .agg #[.bool rv0, .bool rv1, .bool rv2, .bool rv3, .bool rv4, .bool rv5]]) ∧ RB ru ∧ Below w.heap.size w w1 := by
  have K := Aside0.mk (Fls.nil w)
  go_enter Try.func73, Try.ntmps73
  go_wp2_with (first
  | ((with_reducible refine gate_dst (N := 5) rfl ?_); refine fl_box K.out rfl rfl rfl rfl ?_; intro g5 w1 k_; replace K := Aside0.mk k_; clear k_)
  | ((with_reducible refine gate_dst (N := 7) rfl ?_); refine fl_alloc K.out rfl rfl rfl ?_; intro g7 w1 k_; replace K := Aside0.mk k_; clear k_)
  | ((with_reducible refine gate_dst (N := 9) rfl ?_); refine fl_alloc K.out rfl rfl rfl ?_; intro g9 w1 k_; replace K := Aside0.mk k_; clear k_)
  | ((with_reducible refine gate_load (t := 26) rfl ?_); refine fl_ld K.out (by first | exact .head _ | exact .tail _ (.head _) | exact .tail _ (.tail _ (.head _))) rfl rfl rfl ?_; intro _ _ _ _ _ _)
  | ((with_reducible refine gate_st (t := 26) rfl ?_); refine fl_st K.out (by first | exact .head _ | exact .tail _ (.head _) | exact .tail _ (.tail _ (.head _))) rfl rfl rfl rfl ?_; intro w1 k_; replace K := Aside0.mk k_; clear k_)
  | ((with_reducible refine gate_load (t := 4) rfl ?_); refine fl_ldb K.out (by first | exact .head _ | exact .tail _ (.head _) | exact .tail _ (.tail _ (.head _))) rfl rfl rfl (by decide) ?_; intro _)
  | ((with_reducible refine gate_st (t := 4) rfl ?_); refine fl_stb K.out (by first | exact .head _ | exact .tail _ (.head _) | exact .tail _ (.tail _ (.head _))) rfl rfl rfl rfl (by decide) ?_; intro w1 k_; replace K := Aside0.mk k_; clear k_)
  | (go_at_call 78; refine (l02Plain.any _ _ _ _ _ _ _ _ (by first | assumption | with_reducible exact RB_wrap _ | with_reducible exact RB_bits _ _ _ | with_reducible exact RB_mod _ | (unfold RB; omega)) (by first | assumption | with_reducible exact RB_wrap _ | with_reducible exact RB_bits _ _ _ | with_reducible exact RB_mod _ | (unfold RB; omega)) _).mono ?_; rintro e w1 ⟨_, _, _, _, _, _, _, rfl, _, hb_⟩; replace K := Aside0.mk (K.out.below_ hb_); clear hb_)
  | (go_at_call 65; refine (l02Bit.any _ _  _).mono ?_; rintro e w1 ⟨_, rfl, hb_⟩; replace K := Aside0.mk (K.out.below_ hb_); clear hb_)
  | (go_at_call 79; refine (l02Over.any _ _ _  _).mono ?_; rintro e w1 ⟨_, rfl, hb_⟩; replace K := Aside0.mk (K.out.below_ hb_); clear hb_)
  | ((with_reducible refine gate_region (id := 3) ?_)
     obtain ⟨cs_, hb_, f0_, f1_, f2_, f3_, f4_, f5_, rfl⟩ := (K.out.2 _ (by first | exact .head _ | exact .tail _ (.head _) | exact .tail _ (.tail _ (.head _))) : _ ∧ FlagsAt _ g9).2
     refine start_k (n := 4) (S := fun w' => w'.heap[g9]? = some (.cells #[.bool f0_, .bool f1_, .bool f2_, .bool f3_, .bool f4_, .bool f5_] 26 (0, 0))) (ds := [3]) #[false, false, false, false] (by kernel_rfl) rfl rfl hb_ (fun w1 he hs => by rw [he]; exact hs) ?_
     intro w1 hHeld hd_
     clear hb_
     replace K := Aside0.mk (K.out.below_ hd_)
     clear hd_
     refine take_ (i := 1) (N := some 23) (v := ?_) (a' := ?_) #[false, true, false, false] rfl rfl (by kernel_rfl) (fun _ _ _ h => h) (Or.inl ⟨by rfl, ?_⟩) hHeld ?_ ?_
     rotate_left
     · intro w' s0
       refine (fl_run (x := .tmp 9) ?_ ?_ s0).trans ?_
       · rfl
       · rfl
       · rfl
     rotate_left
     · simp only [Act.put, List.setIfInBounds_toArray, List.set_cons_zero, List.set_cons_succ, i64_w, i32_w]
       rfl
     refine pure_ (i := 0) (N := some 22) (v := ?_) (a' := ?_) #[true, true, false, false] rfl rfl (by kernel_rfl) (fun _ _ _ h => h) (Or.inl ⟨by rfl, ?_⟩) ?_ ?_
     rotate_left
     · intro w'
       go_simp
       with_reducible rfl
     rotate_left
     · simp only [Act.put, List.setIfInBounds_toArray, List.set_cons_zero, List.set_cons_succ, i64_w, i32_w]
       rfl
     refine pure_ (i := 2) (N := some 6) (v := ?_) (a' := ?_) #[true, true, true, false] rfl rfl (by kernel_rfl) (fun _ _ _ h => h) (Or.inl ⟨by rfl, ?_⟩) ?_ ?_
     rotate_left
     · intro w'
       go_simp
       with_reducible rfl
     rotate_left
     · simp only [Act.put, List.setIfInBounds_toArray, List.set_cons_zero, List.set_cons_succ, i64_w, i32_w]
       rfl
     refine last_ (i := 3) (N := none) #[true, true, true, true] rfl rfl (by kernel_rfl) (by decide) (fun K_ hK => ?_)
     refine fl_stStep (x := .tmp 7) (y := .tmp 23) K.out (by first | exact .head _ | exact .tail _ (.head _) | exact .tail _ (.tail _ (.head _))) (by rfl) rfl rfl rfl rfl ?_
     intro w1 h_
     refine hK.out _ _ ?_
     clear hK K_
     replace K := Aside0.mk h_
     clear h_ hHeld
     refine done_ (by kernel_rfl) ?_)
  | ((with_reducible refine gate_region (id := 13) ?_)
     obtain ⟨cs_, hb_, f0_, f1_, f2_, f3_, f4_, f5_, rfl⟩ := (K.out.2 _ (by first | exact .head _ | exact .tail _ (.head _) | exact .tail _ (.tail _ (.head _))) : _ ∧ FlagsAt _ g9).2
     refine start_k (n := 6) (S := fun w' => w'.heap[g9]? = some (.cells #[.bool f0_, .bool f1_, .bool f2_, .bool f3_, .bool f4_, .bool f5_] 26 (0, 0))) (ds := [5]) #[false, false, false, false, false, false] (by kernel_rfl) rfl rfl hb_ (fun w1 he hs => by rw [he]; exact hs) ?_
     intro w1 hHeld hd_
     clear hb_
     replace K := Aside0.mk (K.out.below_ hd_)
     clear hd_
     refine take_ (i := 3) (N := some 72) (v := ?_) (a' := ?_) #[false, false, false, true, false, false] rfl rfl (by kernel_rfl) (fun _ _ _ h => h) (Or.inl ⟨by rfl, ?_⟩) hHeld ?_ ?_
     rotate_left
     · intro w' s0
       refine (fl_run (x := .tmp 9) ?_ ?_ s0).trans ?_
       · rfl
       · rfl
       · rfl
     rotate_left
     · simp only [Act.put, List.setIfInBounds_toArray, List.set_cons_zero, List.set_cons_succ, i64_w, i32_w]
       rfl
     refine pure_ (i := 0) (N := some 69) (v := ?_) (a' := ?_) #[true, false, false, true, false, false] rfl rfl (by kernel_rfl) (fun _ _ _ h => h) (Or.inl ⟨by rfl, ?_⟩) ?_ ?_
     rotate_left
     · intro w'
       go_simp
       with_reducible rfl
     rotate_left
     · simp only [Act.put, List.setIfInBounds_toArray, List.set_cons_zero, List.set_cons_succ, i64_w, i32_w]
       rfl
     refine pure_ (i := 1) (N := some 70) (v := ?_) (a' := ?_) #[true, true, false, true, false, false] rfl rfl (by kernel_rfl) (fun _ _ _ h => h) (Or.inl ⟨by rfl, ?_⟩) ?_ ?_
     rotate_left
     · intro w'
       go_simp
       with_reducible rfl
     rotate_left
     · simp only [Act.put, List.setIfInBounds_toArray, List.set_cons_zero, List.set_cons_succ, i64_w, i32_w]
       rfl
     refine pure_ (i := 2) (N := some 71) (v := ?_) (a' := ?_) #[true, true, true, true, false, false] rfl rfl (by kernel_rfl) (fun _ _ _ h => h) (Or.inl ⟨by rfl, ?_⟩) ?_ ?_
     rotate_left
     · intro w'
       go_simp
       with_reducible rfl
     rotate_left
     · simp only [Act.put, List.setIfInBounds_toArray, List.set_cons_zero, List.set_cons_succ, i64_w, i32_w]
       rfl
     refine pure_ (i := 4) (N := some 6) (v := ?_) (a' := ?_) #[true, true, true, true, true, false] rfl rfl (by kernel_rfl) (fun _ _ _ h => h) (Or.inl ⟨by rfl, ?_⟩) ?_ ?_
     rotate_left
     · intro w'
       go_simp
       with_reducible rfl
     rotate_left
     · simp only [Act.put, List.setIfInBounds_toArray, List.set_cons_zero, List.set_cons_succ, i64_w, i32_w]
       rfl
     refine last_ (i := 5) (N := none) #[true, true, true, true, true, true] rfl rfl (by kernel_rfl) (by decide) (fun K_ hK => ?_)
     refine fl_stStep (x := .tmp 7) (y := .tmp 72) K.out (by first | exact .head _ | exact .tail _ (.head _) | exact .tail _ (.tail _ (.head _))) (by rfl) rfl rfl rfl rfl ?_
     intro w1 h_
     refine hK.out _ _ ?_
     clear hK K_
     replace K := Aside0.mk h_
     clear h_ hHeld
     refine done_ (by kernel_rfl) ?_)
  | ((with_reducible refine gate_ret ?_); refine fl_ret2 K.out (by first | exact .head _ | exact .tail _ (.head _) | exact .tail _ (.tail _ (.head _))) rfl rfl rfl rfl ?_; intro _ _ _ _ _ _; exact ⟨_, _, _, _, _, _, _, rfl, (by first | assumption | with_reducible exact RB_wrap _ | with_reducible exact RB_bits _ _ _ | with_reducible exact RB_mod _ | (unfold RB; omega)), K.out.1⟩))
set_option maxHeartbeats 8000000 in
set_option maxRecDepth 100000 in
theorem Sbc.any (a0 : Int) (a1 : Int) (f2_0 : Bool) (f2_1 : Bool) (f2_2 : Bool) (f2_3 : Bool) (f2_4 : Bool) (f2_5 : Bool) (h0 : RB a0) (h1 : RB a1) (w : World) : Calls Try.prog 74 #[.int .u8 a0, .int .u8 a1, .agg #[.bool f2_0, .bool f2_1, .bool f2_2, .bool f2_3, .bool f2_4, .bool f2_5]] w fun e w1 => ∃ (ru : Int) (rv0 : Bool) (rv1 : Bool) (rv2 : Bool) (rv3 : Bool) (rv4 : Bool) (rv5 : Bool), e = .returned (.tuple #[.int .u8 ru, .agg #[.bool rv0, .bool rv1, .bool rv2, .bool rv3, .bool rv4, .bool rv5]]) ∧ RB ru ∧ Below w.heap.size w w1 := by
  have K := Aside0.mk (Fls.nil w)
  go_enter Try.func74, Try.ntmps74
  go_wp2_with (first
  | ((with_reducible refine gate_dst (N := 5) rfl ?_); refine fl_box K.out rfl rfl rfl rfl ?_; intro g5 w1 k_; replace K := Aside0.mk k_; clear k_)
  | ((with_reducible refine gate_dst (N := 7) rfl ?_); refine fl_alloc K.out rfl rfl rfl ?_; intro g7 w1 k_; replace K := Aside0.mk k_; clear k_)
  | ((with_reducible refine gate_dst (N := 9) rfl ?_); refine fl_alloc K.out rfl rfl rfl ?_; intro g9 w1 k_; replace K := Aside0.mk k_; clear k_)
  | ((with_reducible refine gate_load (t := 26) rfl ?_); refine fl_ld K.out (by first | exact .head _ | exact .tail _ (.head _) | exact .tail _ (.tail _ (.head _))) rfl rfl rfl ?_; intro _ _ _ _ _ _)
  | ((with_reducible refine gate_st (t := 26) rfl ?_); refine fl_st K.out (by first | exact .head _ | exact .tail _ (.head _) | exact .tail _ (.tail _ (.head _))) rfl rfl rfl rfl ?_; intro w1 k_; replace K := Aside0.mk k_; clear k_)
  | ((with_reducible refine gate_load (t := 4) rfl ?_); refine fl_ldb K.out (by first | exact .head _ | exact .tail _ (.head _) | exact .tail _ (.tail _ (.head _))) rfl rfl rfl (by decide) ?_; intro _)
  | ((with_reducible refine gate_st (t := 4) rfl ?_); refine fl_stb K.out (by first | exact .head _ | exact .tail _ (.head _) | exact .tail _ (.tail _ (.head _))) rfl rfl rfl rfl (by decide) ?_; intro w1 k_; replace K := Aside0.mk k_; clear k_)
  | (go_at_call 78; refine (l02Plain.any _ _ _ _ _ _ _ _ (by first | assumption | with_reducible exact RB_wrap _ | with_reducible exact RB_bits _ _ _ | with_reducible exact RB_mod _ | (unfold RB; omega)) (by first | assumption | with_reducible exact RB_wrap _ | with_reducible exact RB_bits _ _ _ | with_reducible exact RB_mod _ | (unfold RB; omega)) _).mono ?_; rintro e w1 ⟨_, _, _, _, _, _, _, rfl, _, hb_⟩; replace K := Aside0.mk (K.out.below_ hb_); clear hb_)
  | (go_at_call 65; refine (l02Bit.any _ _  _).mono ?_; rintro e w1 ⟨_, rfl, hb_⟩; replace K := Aside0.mk (K.out.below_ hb_); clear hb_)
  | (go_at_call 79; refine (l02Over.any _ _ _  _).mono ?_; rintro e w1 ⟨_, rfl, hb_⟩; replace K := Aside0.mk (K.out.below_ hb_); clear hb_)
  | ((with_reducible refine gate_region (id := 3) ?_)
     obtain ⟨cs_, hb_, f0_, f1_, f2_, f3_, f4_, f5_, rfl⟩ := (K.out.2 _ (by first | exact .head _ | exact .tail _ (.head _) | exact .tail _ (.tail _ (.head _))) : _ ∧ FlagsAt _ g9).2
     refine start_k (n := 4) (S := fun w' => w'.heap[g9]? = some (.cells #[.bool f0_, .bool f1_, .bool f2_, .bool f3_, .bool f4_, .bool f5_] 26 (0, 0))) (ds := [3]) #[false, false, false, false] (by kernel_rfl) rfl rfl hb_ (fun w1 he hs => by rw [he]; exact hs) ?_
     intro w1 hHeld hd_
     clear hb_
     replace K := Aside0.mk (K.out.below_ hd_)
     clear hd_
     refine take_ (i := 1) (N := some 24) (v := ?_) (a' := ?_) #[false, true, false, false] rfl rfl (by kernel_rfl) (fun _ _ _ h => h) (Or.inl ⟨by rfl, ?_⟩) hHeld ?_ ?_
     rotate_left
     · intro w' s0
       refine (fl_run (x := .tmp 9) ?_ ?_ s0).trans ?_
       · rfl
       · rfl
       · rfl
     rotate_left
     · simp only [Act.put, List.setIfInBounds_toArray, List.set_cons_zero, List.set_cons_succ, i64_w, i32_w]
       rfl
     refine pure_ (i := 0) (N := some 23) (v := ?_) (a' := ?_) #[true, true, false, false] rfl rfl (by kernel_rfl) (fun _ _ _ h => h) (Or.inl ⟨by rfl, ?_⟩) ?_ ?_
     rotate_left
     · intro w'
       go_simp
       with_reducible rfl
     rotate_left
     · simp only [Act.put, List.setIfInBounds_toArray, List.set_cons_zero, List.set_cons_succ, i64_w, i32_w]
       rfl
     refine pure_ (i := 2) (N := some 6) (v := ?_) (a' := ?_) #[true, true, true, false] rfl rfl (by kernel_rfl) (fun _ _ _ h => h) (Or.inl ⟨by rfl, ?_⟩) ?_ ?_
     rotate_left
     · intro w'
       go_simp
       with_reducible rfl
     rotate_left
     · simp only [Act.put, List.setIfInBounds_toArray, List.set_cons_zero, List.set_cons_succ, i64_w, i32_w]
       rfl
     refine last_ (i := 3) (N := none) #[true, true, true, true] rfl rfl (by kernel_rfl) (by decide) (fun K_ hK => ?_)
     refine fl_stStep (x := .tmp 7) (y := .tmp 24) K.out (by first | exact .head _ | exact .tail _ (.head _) | exact .tail _ (.tail _ (.head _))) (by rfl) rfl rfl rfl rfl ?_
     intro w1 h_
     refine hK.out _ _ ?_
     clear hK K_
     replace K := Aside0.mk h_
     clear h_ hHeld
     refine done_ (by kernel_rfl) ?_)
  | ((with_reducible refine gate_region (id := 10) ?_)
     obtain ⟨cs_, hb_, f0_, f1_, f2_, f3_, f4_, f5_, rfl⟩ := (K.out.2 _ (by first | exact .head _ | exact .tail _ (.head _) | exact .tail _ (.tail _ (.head _))) : _ ∧ FlagsAt _ g9).2
     refine start_k (n := 6) (S := fun w' => w'.heap[g9]? = some (.cells #[.bool f0_, .bool f1_, .bool f2_, .bool f3_, .bool f4_, .bool f5_] 26 (0, 0))) (ds := [5]) #[false, false, false, false, false, false] (by kernel_rfl) rfl rfl hb_ (fun w1 he hs => by rw [he]; exact hs) ?_
     intro w1 hHeld hd_
     clear hb_
     replace K := Aside0.mk (K.out.below_ hd_)
     clear hd_
     refine take_ (i := 3) (N := some 59) (v := ?_) (a' := ?_) #[false, false, false, true, false, false] rfl rfl (by kernel_rfl) (fun _ _ _ h => h) (Or.inl ⟨by rfl, ?_⟩) hHeld ?_ ?_
     rotate_left
     · intro w' s0
       refine (fl_run (x := .tmp 9) ?_ ?_ s0).trans ?_
       · rfl
       · rfl
       · rfl
     rotate_left
     · simp only [Act.put, List.setIfInBounds_toArray, List.set_cons_zero, List.set_cons_succ, i64_w, i32_w]
       rfl
     refine pure_ (i := 0) (N := some 56) (v := ?_) (a' := ?_) #[true, false, false, true, false, false] rfl rfl (by kernel_rfl) (fun _ _ _ h => h) (Or.inl ⟨by rfl, ?_⟩) ?_ ?_
     rotate_left
     · intro w'
       go_simp
       with_reducible rfl
     rotate_left
     · simp only [Act.put, List.setIfInBounds_toArray, List.set_cons_zero, List.set_cons_succ, i64_w, i32_w]
       rfl
     refine pure_ (i := 1) (N := some 57) (v := ?_) (a' := ?_) #[true, true, false, true, false, false] rfl rfl (by kernel_rfl) (fun _ _ _ h => h) (Or.inl ⟨by rfl, ?_⟩) ?_ ?_
     rotate_left
     · intro w'
       go_simp
       with_reducible rfl
     rotate_left
     · simp only [Act.put, List.setIfInBounds_toArray, List.set_cons_zero, List.set_cons_succ, i64_w, i32_w]
       rfl
     refine pure_ (i := 2) (N := some 58) (v := ?_) (a' := ?_) #[true, true, true, true, false, false] rfl rfl (by kernel_rfl) (fun _ _ _ h => h) (Or.inl ⟨by rfl, ?_⟩) ?_ ?_
     rotate_left
     · intro w'
       go_simp
       with_reducible rfl
     rotate_left
     · simp only [Act.put, List.setIfInBounds_toArray, List.set_cons_zero, List.set_cons_succ, i64_w, i32_w]
       rfl
     refine pure_ (i := 4) (N := some 6) (v := ?_) (a' := ?_) #[true, true, true, true, true, false] rfl rfl (by kernel_rfl) (fun _ _ _ h => h) (Or.inl ⟨by rfl, ?_⟩) ?_ ?_
     rotate_left
     · intro w'
       go_simp
       with_reducible rfl
     rotate_left
     · simp only [Act.put, List.setIfInBounds_toArray, List.set_cons_zero, List.set_cons_succ, i64_w, i32_w]
       rfl
     refine last_ (i := 5) (N := none) #[true, true, true, true, true, true] rfl rfl (by kernel_rfl) (by decide) (fun K_ hK => ?_)
     refine fl_stStep (x := .tmp 7) (y := .tmp 59) K.out (by first | exact .head _ | exact .tail _ (.head _) | exact .tail _ (.tail _ (.head _))) (by rfl) rfl rfl rfl rfl ?_
     intro w1 h_
     refine hK.out _ _ ?_
     clear hK K_
     replace K := Aside0.mk h_
     clear h_ hHeld
     refine done_ (by kernel_rfl) ?_)
  | ((with_reducible refine gate_ret ?_); refine fl_ret2 K.out (by first | exact .head _ | exact .tail _ (.head _) | exact .tail _ (.tail _ (.head _))) rfl rfl rfl rfl ?_; intro _ _ _ _ _ _; exact ⟨_, _, _, _, _, _, _, rfl, (by first | assumption | with_reducible exact RB_wrap _ | with_reducible exact RB_bits _ _ _ | with_reducible exact RB_mod _ | (unfold RB; omega)), K.out.1⟩))
end Go.Proofs.Ytafkbhnhmhmjcaa.Weak
