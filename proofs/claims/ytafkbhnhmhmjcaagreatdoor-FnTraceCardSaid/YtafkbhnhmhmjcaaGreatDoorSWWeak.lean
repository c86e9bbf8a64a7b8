import Derived.StillTailTactics
import Derived.Handy
import Derived.Test.YtafkbhnhmhmjcaaGreatDoorSWPRunx17
import Derived.Test.YtafkbhnhmhmjcaaGreatDoorSWMyFl
set_option linter.unusedVariables false
set_option linter.unusedSimpArgs false
namespace Go.Proofs.YtafkbhnhmhmjcaaGreatDoor.Weak
open Go.RowKit Go.Proofs.YtafkbhnhmhmjcaaGreatDoorW.PrintWords Go.Proofs.YtafkbhnhmhmjcaaGreatDoorW.PrintLast Go.Proofs.YtafkbhnhmhmjcaaGreatDoorW.PrintMore
set_option maxHeartbeats 8000000 in
set_option maxRecDepth 100000 in
theorem NZ.any (a0 : Int) (f1_0 : Bool) (f1_1 : Bool) (f1_2 : Bool) (f1_3 : Bool) (f1_4 : Bool) (f1_5 : Bool) (h0 : RB a0) (w : World) : Calls Tryz.prog 80 #[.int .u8 a0, .agg #[.bool f1_0, .bool f1_1, .bool f1_2, .bool f1_3, .bool f1_4, .bool f1_5]] w fun e w1 => ∃ (r0 : Bool) (r1 : Bool) (r2 : Bool) (r3 : Bool) (r4 : Bool) (r5 : Bool), e = .returned (.agg #[.bool r0, .bool r1, .bool r2, .bool r3, .bool r4, .bool r5]) ∧ Below w.heap.size w w1 := by
  have K := zA (Fls.nil w)
  go_enter Tryz.func80, Tryz.ntmps80
  go_wp2_with (first
  | ((with_reducible refine gate_dst (N := 3) rfl ?_); refine fl_box K.out rfl rfl rfl rfl ?_; intro g3 w1 k_; replace K := zA k_; clear k_)
  | ((with_reducible refine gate_dst (N := 4) rfl ?_); refine fl_alloc K.out rfl rfl rfl ?_; intro g4 w1 k_; replace K := zA k_; clear k_)
  | ((with_reducible refine gate_load (t := 62) rfl ?_); refine fl_ld K.out (by first | exact .head _ | exact .tail _ (.head _) | exact .tail _ (.tail _ (.head _))) rfl rfl rfl ?_; intro _ _ _ _ _ _)
  | ((with_reducible refine gate_st (t := 62) rfl ?_); refine fl_st K.out (by first | exact .head _ | exact .tail _ (.head _) | exact .tail _ (.tail _ (.head _))) rfl rfl rfl rfl ?_; intro w1 k_; replace K := zA k_; clear k_)
  | ((with_reducible refine gate_load (t := 4) rfl ?_); refine fl_ldb K.out (by first | exact .head _ | exact .tail _ (.head _) | exact .tail _ (.tail _ (.head _))) rfl rfl rfl (by decide) ?_; intro _)
  | ((with_reducible refine gate_st (t := 4) rfl ?_); refine fl_stb K.out (by first | exact .head _ | exact .tail _ (.head _) | exact .tail _ (.tail _ (.head _))) rfl rfl rfl rfl (by decide) ?_; intro w1 k_; replace K := zA k_; clear k_)
  | ((with_reducible refine gate_ret ?_); refine fl_ret K.out (by first | exact .head _ | exact .tail _ (.head _) | exact .tail _ (.tail _ (.head _))) rfl rfl rfl ?_; intro _ _ _ _ _ _; exact ⟨_, _, _, _, _, _, rfl, K.out.1⟩))
set_option maxHeartbeats 8000000 in
set_option maxRecDepth 100000 in
theorem Cmp.any (a0 : Int) (a1 : Int) (f2_0 : Bool) (f2_1 : Bool) (f2_2 : Bool) (f2_3 : Bool) (f2_4 : Bool) (f2_5 : Bool) (h0 : RB a0) (h1 : RB a1) (w : World) : Calls Tryz.prog 103 #[.int .u8 a0, .int .u8 a1, .agg #[.bool f2_0, .bool f2_1, .bool f2_2, .bool f2_3, .bool f2_4, .bool f2_5]] w fun e w1 => ∃ (r0 : Bool) (r1 : Bool) (r2 : Bool) (r3 : Bool) (r4 : Bool) (r5 : Bool), e = .returned (.agg #[.bool r0, .bool r1, .bool r2, .bool r3, .bool r4, .bool r5]) ∧ Below w.heap.size w w1 := by
  have K := zA (Fls.nil w)
  go_enter Tryz.func103, Tryz.ntmps103
  go_wp2_with (first
  | ((with_reducible refine gate_dst (N := 5) rfl ?_); refine fl_box K.out rfl rfl rfl rfl ?_; intro g5 w1 k_; replace K := zA k_; clear k_)
  | ((with_reducible refine gate_dst (N := 6) rfl ?_); refine fl_alloc K.out rfl rfl rfl ?_; intro g6 w1 k_; replace K := zA k_; clear k_)
  | ((with_reducible refine gate_load (t := 62) rfl ?_); refine fl_ld K.out (by first | exact .head _ | exact .tail _ (.head _) | exact .tail _ (.tail _ (.head _))) rfl rfl rfl ?_; intro _ _ _ _ _ _)
  | ((with_reducible refine gate_st (t := 62) rfl ?_); refine fl_st K.out (by first | exact .head _ | exact .tail _ (.head _) | exact .tail _ (.tail _ (.head _))) rfl rfl rfl rfl ?_; intro w1 k_; replace K := zA k_; clear k_)
  | ((with_reducible refine gate_load (t := 4) rfl ?_); refine fl_ldb K.out (by first | exact .head _ | exact .tail _ (.head _) | exact .tail _ (.tail _ (.head _))) rfl rfl rfl (by decide) ?_; intro _)
  | ((with_reducible refine gate_st (t := 4) rfl ?_); refine fl_stb K.out (by first | exact .head _ | exact .tail _ (.head _) | exact .tail _ (.tail _ (.head _))) rfl rfl rfl rfl (by decide) ?_; intro w1 k_; replace K := zA k_; clear k_)
  | (go_at_call 80; refine (NZ.any _ _ _ _ _ _ _ (by first | assumption | with_reducible exact RB_wrap _ | with_reducible exact RB_bits _ _ _ | with_reducible exact RB_mod _ | (unfold RB; omega)) _).mono ?_; rintro e w1 ⟨_, _, _, _, _, _, rfl, hb_⟩; replace K := zA (K.out.below_ hb_); clear hb_)
  | ((with_reducible refine gate_ret ?_); refine fl_ret K.out (by first | exact .head _ | exact .tail _ (.head _) | exact .tail _ (.tail _ (.head _))) rfl rfl rfl ?_; intro _ _ _ _ _ _; exact ⟨_, _, _, _, _, _, rfl, K.out.1⟩))
set_option maxHeartbeats 8000000 in
set_option maxRecDepth 100000 in
theorem BitTest.any (a0 : Int) (a1 : Int) (f2_0 : Bool) (f2_1 : Bool) (f2_2 : Bool) (f2_3 : Bool) (f2_4 : Bool) (f2_5 : Bool) (h0 : RB a0) (h1 : RB a1) (w : World) : Calls Tryz.prog 104 #[.int .u8 a0, .int .u8 a1, .agg #[.bool f2_0, .bool f2_1, .bool f2_2, .bool f2_3, .bool f2_4, .bool f2_5]] w fun e w1 => ∃ (r0 : Bool) (r1 : Bool) (r2 : Bool) (r3 : Bool) (r4 : Bool) (r5 : Bool), e = .returned (.agg #[.bool r0, .bool r1, .bool r2, .bool r3, .bool r4, .bool r5]) ∧ Below w.heap.size w w1 := by
  have K := zA (Fls.nil w)
  go_enter Tryz.func104, Tryz.ntmps104
  go_wp2_with (first
  | ((with_reducible refine gate_dst (N := 5) rfl ?_); refine fl_box K.out rfl rfl rfl rfl ?_; intro g5 w1 k_; replace K := zA k_; clear k_)
  | ((with_reducible refine gate_dst (N := 6) rfl ?_); refine fl_alloc K.out rfl rfl rfl ?_; intro g6 w1 k_; replace K := zA k_; clear k_)
  | ((with_reducible refine gate_load (t := 62) rfl ?_); refine fl_ld K.out (by first | exact .head _ | exact .tail _ (.head _) | exact .tail _ (.tail _ (.head _))) rfl rfl rfl ?_; intro _ _ _ _ _ _)
  | ((with_reducible refine gate_st (t := 62) rfl ?_); refine fl_st K.out (by first | exact .head _ | exact .tail _ (.head _) | exact .tail _ (.tail _ (.head _))) rfl rfl rfl rfl ?_; intro w1 k_; replace K := zA k_; clear k_)
  | ((with_reducible refine gate_load (t := 4) rfl ?_); refine fl_ldb K.out (by first | exact .head _ | exact .tail _ (.head _) | exact .tail _ (.tail _ (.head _))) rfl rfl rfl (by decide) ?_; intro _)
  | ((with_reducible refine gate_st (t := 4) rfl ?_); refine fl_stb K.out (by first | exact .head _ | exact .tail _ (.head _) | exact .tail _ (.tail _ (.head _))) rfl rfl rfl rfl (by decide) ?_; intro w1 k_; replace K := zA k_; clear k_)
  | ((with_reducible refine gate_ret ?_); refine fl_ret K.out (by first | exact .head _ | exact .tail _ (.head _) | exact .tail _ (.tail _ (.head _))) rfl rfl rfl ?_; intro _ _ _ _ _ _; exact ⟨_, _, _, _, _, _, rfl, K.out.1⟩))
set_option maxHeartbeats 8000000 in
set_option maxRecDepth 100000 in
theorem l02Bit.any (a0 : Bool) (a1 : Int)  (w : World) : Calls Tryz.prog 93 #[.bool a0, .int .i64 a1] w fun e w1 => ∃ (r : Int), e = .returned (.int .i64 r) ∧ Below w.heap.size w w1 := by
  go_enter Tryz.func93, Tryz.ntmps93
  go_wp2
  all_goals ((try simp only [Exit.inBlock, Exit.then]); first | (refine bodyPost_ret (results_tmp rfl _ _ _) rfl ?_; refine ⟨_, rfl, ?_⟩; go_grown) | (refine bodyPost_ret (by simp [results, Tryz.results93, go_sem]; try rfl) rfl ?_; refine ⟨_, rfl, ?_⟩; go_grown))
set_option maxHeartbeats 8000000 in
set_option maxRecDepth 100000 in
theorem l02Over.any (a0 : Int) (a1 : Int) (a2 : Int)  (w : World) : Calls Tryz.prog 111 #[.int .i64 a0, .int .i64 a1, .int .i64 a2] w fun e w1 => ∃ (r : Bool), e = .returned (.bool r) ∧ Below w.heap.size w w1 := by
  go_enter Tryz.func111, Tryz.ntmps111
  go_wp2
  all_goals ((try simp only [Exit.inBlock, Exit.then]); first | (refine bodyPost_ret (results_tmp rfl _ _ _) rfl ?_; refine ⟨_, rfl, ?_⟩; go_grown) | (refine bodyPost_ret (by simp [results, Tryz.results111, go_sem]; try rfl) rfl ?_; refine ⟨_, rfl, ?_⟩; go_grown))
set_option maxHeartbeats 8000000 in
set_option maxRecDepth 100000 in
theorem Asl.any (a0 : Int) (f1_0 : Bool) (f1_1 : Bool) (f1_2 : Bool) (f1_3 : Bool) (f1_4 : Bool) (f1_5 : Bool) (h0 : RB a0) (w : World) : Calls Tryz.prog 97 #[.int .u8 a0, .agg #[.bool f1_0, .bool f1_1, .bool f1_2, .bool f1_3, .bool f1_4, .bool f1_5]] w fun e w1 => ∃ (ru : Int) (rv0 : Bool) (rv1 : Bool) (rv2 : Bool) (rv3 : Bool) (rv4 : Bool) (rv5 : Bool), e = .returned (.tuple #[.int .u8 ru, .agg #[.bool rv0, .bool rv1, .bool rv2, .bool rv3, .bool rv4, .bool rv5]]) ∧ RB ru ∧ Below w.heap.size w w1 := by
  have K := zA (Fls.nil w)
  go_enter Tryz.func97, Tryz.ntmps97
  go_wp2_with (first
  | ((with_reducible refine gate_dst (N := 3) rfl ?_); refine fl_box K.out rfl rfl rfl rfl ?_; intro g3 w1 k_; replace K := zA k_; clear k_)
  | ((with_reducible refine gate_dst (N := 5) rfl ?_); refine fl_alloc K.out rfl rfl rfl ?_; intro g5 w1 k_; replace K := zA k_; clear k_)
  | ((with_reducible refine gate_load (t := 62) rfl ?_); refine fl_ld K.out (by first | exact .head _ | exact .tail _ (.head _) | exact .tail _ (.tail _ (.head _))) rfl rfl rfl ?_; intro _ _ _ _ _ _)
  | ((with_reducible refine gate_st (t := 62) rfl ?_); refine fl_st K.out (by first | exact .head _ | exact .tail _ (.head _) | exact .tail _ (.tail _ (.head _))) rfl rfl rfl rfl ?_; intro w1 k_; replace K := zA k_; clear k_)
  | ((with_reducible refine gate_load (t := 4) rfl ?_); refine fl_ldb K.out (by first | exact .head _ | exact .tail _ (.head _) | exact .tail _ (.tail _ (.head _))) rfl rfl rfl (by decide) ?_; intro _)
  | ((with_reducible refine gate_st (t := 4) rfl ?_); refine fl_stb K.out (by first | exact .head _ | exact .tail _ (.head _) | exact .tail _ (.tail _ (.head _))) rfl rfl rfl rfl (by decide) ?_; intro w1 k_; replace K := zA k_; clear k_)
  | (go_at_call 80; refine (NZ.any _ _ _ _ _ _ _ (by first | assumption | with_reducible exact RB_wrap _ | with_reducible exact RB_bits _ _ _ | with_reducible exact RB_mod _ | (unfold RB; omega)) _).mono ?_; rintro e w1 ⟨_, _, _, _, _, _, rfl, hb_⟩; replace K := zA (K.out.below_ hb_); clear hb_)
  | ((with_reducible refine gate_ret ?_); refine fl_ret2 K.out (by first | exact .head _ | exact .tail _ (.head _) | exact .tail _ (.tail _ (.head _))) rfl rfl rfl rfl ?_; intro _ _ _ _ _ _; exact ⟨_, _, _, _, _, _, _, rfl, (by first | assumption | with_reducible exact RB_wrap _ | with_reducible exact RB_bits _ _ _ | with_reducible exact RB_mod _ | (unfold RB; omega)), K.out.1⟩))
set_option maxHeartbeats 8000000 in
set_option maxRecDepth 100000 in
theorem Lsr.any (a0 : Int) (f1_0 : Bool) (f1_1 : Bool) (f1_2 : Bool) (f1_3 : Bool) (f1_4 : Bool) (f1_5 : Bool) (h0 : RB a0) (w : World) : Calls Tryz.prog 98 #[.int .u8 a0, .agg #[.bool f1_0, .bool f1_1, .bool f1_2, .bool f1_3, .bool f1_4, .bool f1_5]] w fun e w1 => ∃ (ru : Int) (rv0 : Bool) (rv1 : Bool) (rv2 : Bool) (rv3 : Bool) (rv4 : Bool) (rv5 : Bool), e = .returned (.tuple #[.int .u8 ru, .agg #[.bool rv0, .bool rv1, .bool rv2, .bool rv3, .bool rv4, .bool rv5]]) ∧ RB ru ∧ Below w.heap.size w w1 := by
  have K := zA (Fls.nil w)
  go_enter Tryz.func98, Tryz.ntmps98
  go_wp2_with (first
  | ((with_reducible refine gate_dst (N := 3) rfl ?_); refine fl_box K.out rfl rfl rfl rfl ?_; intro g3 w1 k_; replace K := zA k_; clear k_)
  | ((with_reducible refine gate_dst (N := 5) rfl ?_); refine fl_alloc K.out rfl rfl rfl ?_; intro g5 w1 k_; replace K := zA k_; clear k_)
  | ((with_reducible refine gate_load (t := 62) rfl ?_); refine fl_ld K.out (by first | exact .head _ | exact .tail _ (.head _) | exact .tail _ (.tail _ (.head _))) rfl rfl rfl ?_; intro _ _ _ _ _ _)
  | ((with_reducible refine gate_st (t := 62) rfl ?_); refine fl_st K.out (by first | exact .head _ | exact .tail _ (.head _) | exact .tail _ (.tail _ (.head _))) rfl rfl rfl rfl ?_; intro w1 k_; replace K := zA k_; clear k_)
  | ((with_reducible refine gate_load (t := 4) rfl ?_); refine fl_ldb K.out (by first | exact .head _ | exact .tail _ (.head _) | exact .tail _ (.tail _ (.head _))) rfl rfl rfl (by decide) ?_; intro _)
  | ((with_reducible refine gate_st (t := 4) rfl ?_); refine fl_stb K.out (by first | exact .head _ | exact .tail _ (.head _) | exact .tail _ (.tail _ (.head _))) rfl rfl rfl rfl (by decide) ?_; intro w1 k_; replace K := zA k_; clear k_)
  | (go_at_call 80; refine (NZ.any _ _ _ _ _ _ _ (by first | assumption | with_reducible exact RB_wrap _ | with_reducible exact RB_bits _ _ _ | with_reducible exact RB_mod _ | (unfold RB; omega)) _).mono ?_; rintro e w1 ⟨_, _, _, _, _, _, rfl, hb_⟩; replace K := zA (K.out.below_ hb_); clear hb_)
  | ((with_reducible refine gate_ret ?_); refine fl_ret2 K.out (by first | exact .head _ | exact .tail _ (.head _) | exact .tail _ (.tail _ (.head _))) rfl rfl rfl rfl ?_; intro _ _ _ _ _ _; exact ⟨_, _, _, _, _, _, _, rfl, (by first | assumption | with_reducible exact RB_wrap _ | with_reducible exact RB_bits _ _ _ | with_reducible exact RB_mod _ | (unfold RB; omega)), K.out.1⟩))
set_option maxHeartbeats 8000000 in
set_option maxRecDepth 100000 in
theorem Rol.any (a0 : Int) (f1_0 : Bool) (f1_1 : Bool) (f1_2 : Bool) (f1_3 : Bool) (f1_4 : Bool) (f1_5 : Bool) (h0 : RB a0) (w : World) : Calls Tryz.prog 99 #[.int .u8 a0, .agg #[.bool f1_0, .bool f1_1, .bool f1_2, .bool f1_3, .bool f1_4, .bool f1_5]] w fun e w1 => ∃ (ru : Int) (rv0 : Bool) (rv1 : Bool) (rv2 : Bool) (rv3 : Bool) (rv4 : Bool) (rv5 : Bool), e = .returned (.tuple #[.int .u8 ru, .agg #[.bool rv0, .bool rv1, .bool rv2, .bool rv3, .bool rv4, .bool rv5]]) ∧ RB ru ∧ Below w.heap.size w w1 := by
  have K := zA (Fls.nil w)
  go_enter Tryz.func99, Tryz.ntmps99
  go_wp2_with (first
  | ((with_reducible refine gate_dst (N := 3) rfl ?_); refine fl_box K.out rfl rfl rfl rfl ?_; intro g3 w1 k_; replace K := zA k_; clear k_)
  | ((with_reducible refine gate_dst (N := 5) rfl ?_); refine fl_alloc K.out rfl rfl rfl ?_; intro g5 w1 k_; replace K := zA k_; clear k_)
  | ((with_reducible refine gate_load (t := 62) rfl ?_); refine fl_ld K.out (by first | exact .head _ | exact .tail _ (.head _) | exact .tail _ (.tail _ (.head _))) rfl rfl rfl ?_; intro _ _ _ _ _ _)
  | ((with_reducible refine gate_st (t := 62) rfl ?_); refine fl_st K.out (by first | exact .head _ | exact .tail _ (.head _) | exact .tail _ (.tail _ (.head _))) rfl rfl rfl rfl ?_; intro w1 k_; replace K := zA k_; clear k_)
  | ((with_reducible refine gate_load (t := 4) rfl ?_); refine fl_ldb K.out (by first | exact .head _ | exact .tail _ (.head _) | exact .tail _ (.tail _ (.head _))) rfl rfl rfl (by decide) ?_; intro _)
  | ((with_reducible refine gate_st (t := 4) rfl ?_); refine fl_stb K.out (by first | exact .head _ | exact .tail _ (.head _) | exact .tail _ (.tail _ (.head _))) rfl rfl rfl rfl (by decide) ?_; intro w1 k_; replace K := zA k_; clear k_)
  | (go_at_call 93; refine (l02Bit.any _ _  _).mono ?_; rintro e w1 ⟨_, rfl, hb_⟩; replace K := zA (K.out.below_ hb_); clear hb_)
  | (go_at_call 80; refine (NZ.any _ _ _ _ _ _ _ (by first | assumption | with_reducible exact RB_wrap _ | with_reducible exact RB_bits _ _ _ | with_reducible exact RB_mod _ | (unfold RB; omega)) _).mono ?_; rintro e w1 ⟨_, _, _, _, _, _, rfl, hb_⟩; replace K := zA (K.out.below_ hb_); clear hb_)
  | ((with_reducible refine gate_ret ?_); refine fl_ret2 K.out (by first | exact .head _ | exact .tail _ (.head _) | exact .tail _ (.tail _ (.head _))) rfl rfl rfl rfl ?_; intro _ _ _ _ _ _; exact ⟨_, _, _, _, _, _, _, rfl, (by first | assumption | with_reducible exact RB_wrap _ | with_reducible exact RB_bits _ _ _ | with_reducible exact RB_mod _ | (unfold RB; omega)), K.out.1⟩))
set_option maxHeartbeats 8000000 in
set_option maxRecDepth 100000 in
theorem Ror.any (a0 : Int) (f1_0 : Bool) (f1_1 : Bool) (f1_2 : Bool) (f1_3 : Bool) (f1_4 : Bool) (f1_5 : Bool) (h0 : RB a0) (w : World) : Calls Tryz.prog 100 #[.int .u8 a0, .agg #[.bool f1_0, .bool f1_1, .bool f1_2, .bool f1_3, .bool f1_4, .bool f1_5]] w fun e w1 => ∃ (ru : Int) (rv0 : Bool) (rv1 : Bool) (rv2 : Bool) (rv3 : Bool) (rv4 : Bool) (rv5 : Bool), e = .returned (.tuple #[.int .u8 ru, .agg #[.bool rv0, .bool rv1, .bool rv2, .bool rv3, .bool rv4, .bool rv5]]) ∧ RB ru ∧ Below w.heap.size w w1 := by
  have K := zA (Fls.nil w)
  go_enter Tryz.func100, Tryz.ntmps100
  go_wp2_with (first
  | ((with_reducible refine gate_dst (N := 3) rfl ?_); refine fl_box K.out rfl rfl rfl rfl ?_; intro g3 w1 k_; replace K := zA k_; clear k_)
  | ((with_reducible refine gate_dst (N := 5) rfl ?_); refine fl_alloc K.out rfl rfl rfl ?_; intro g5 w1 k_; replace K := zA k_; clear k_)
  | ((with_reducible refine gate_load (t := 62) rfl ?_); refine fl_ld K.out (by first | exact .head _ | exact .tail _ (.head _) | exact .tail _ (.tail _ (.head _))) rfl rfl rfl ?_; intro _ _ _ _ _ _)
  | ((with_reducible refine gate_st (t := 62) rfl ?_); refine fl_st K.out (by first | exact .head _ | exact .tail _ (.head _) | exact .tail _ (.tail _ (.head _))) rfl rfl rfl rfl ?_; intro w1 k_; replace K := zA k_; clear k_)
  | ((with_reducible refine gate_load (t := 4) rfl ?_); refine fl_ldb K.out (by first | exact .head _ | exact .tail _ (.head _) | exact .tail _ (.tail _ (.head _))) rfl rfl rfl (by decide) ?_; intro _)
  | ((with_reducible refine gate_st (t := 4) rfl ?_); refine fl_stb K.out (by first | exact .head _ | exact .tail _ (.head _) | exact .tail _ (.tail _ (.head _))) rfl rfl rfl rfl (by decide) ?_; intro w1 k_; replace K := zA k_; clear k_)
  | (go_at_call 93; refine (l02Bit.any _ _  _).mono ?_; rintro e w1 ⟨_, rfl, hb_⟩; replace K := zA (K.out.below_ hb_); clear hb_)
  | (go_at_call 80; refine (NZ.any _ _ _ _ _ _ _ (by first | assumption | with_reducible exact RB_wrap _ | with_reducible exact RB_bits _ _ _ | with_reducible exact RB_mod _ | (unfold RB; omega)) _).mono ?_; rintro e w1 ⟨_, _, _, _, _, _, rfl, hb_⟩; replace K := zA (K.out.below_ hb_); clear hb_)
  | ((with_reducible refine gate_ret ?_); refine fl_ret2 K.out (by first | exact .head _ | exact .tail _ (.head _) | exact .tail _ (.tail _ (.head _))) rfl rfl rfl rfl ?_; intro _ _ _ _ _ _; exact ⟨_, _, _, _, _, _, _, rfl, (by first | assumption | with_reducible exact RB_wrap _ | with_reducible exact RB_bits _ _ _ | with_reducible exact RB_mod _ | (unfold RB; omega)), K.out.1⟩))
set_option maxHeartbeats 8000000 in
set_option maxRecDepth 100000 in
theorem l06Holds.any (f0_0 : Bool) (f0_1 : Bool) (f0_2 : Bool) (f0_3 : Bool) (f0_4 : Bool) (f0_5 : Bool) (a1 : ByteArray)  (w : World) : Calls Tryz.prog 82 #[.agg #[.bool f0_0, .bool f0_1, .bool f0_2, .bool f0_3, .bool f0_4, .bool f0_5], .string a1] w fun e w1 => ∃ (r : Bool), e = .returned (.bool r) ∧ Below w.heap.size w w1 := by
  go_enter Tryz.func82, Tryz.ntmps82
  go_wp2
  all_goals ((try simp only [Exit.inBlock, Exit.then]); first | (refine bodyPost_ret (results_tmp rfl _ _ _) rfl ?_; refine ⟨_, rfl, ?_⟩; go_grown) | (refine bodyPost_ret (by simp [results, Tryz.results82, go_sem]; try rfl) rfl ?_; refine ⟨_, rfl, ?_⟩; go_grown))
set_option maxHeartbeats 8000000 in
set_option maxRecDepth 100000 in
theorem l06Index.any (f0_a f0_x f0_y f0_s f0_p : Int) (f0_0 : Bool) (f0_1 : Bool) (f0_2 : Bool) (f0_3 : Bool) (f0_4 : Bool) (f0_5 : Bool) (a1 : Int) (h0 : RB f0_a) (h1 : RB f0_x) (h2 : RB f0_y) (h3 : RB f0_s) (w : World) : Calls Tryz.prog 105 #[.agg #[.int .u8 f0_a, .int .u8 f0_x, .int .u8 f0_y, .int .u8 f0_s, .int .u16 f0_p, .bool f0_0, .bool f0_1, .bool f0_2, .bool f0_3, .bool f0_4, .bool f0_5], .int .i64 a1] w fun e w1 => ∃ (r : Int), e = .returned (.int .i64 r) ∧ Below w.heap.size w w1 := by
  go_enter Tryz.func105, Tryz.ntmps105
  go_wp2
  all_goals ((try simp only [Exit.inBlock, Exit.then]); first | (refine bodyPost_ret (results_tmp rfl _ _ _) rfl ?_; refine ⟨_, rfl, ?_⟩; go_grown) | (refine bodyPost_ret (by simp [results, Tryz.results105, go_sem]; try rfl) rfl ?_; refine ⟨_, rfl, ?_⟩; go_grown))
set_option maxHeartbeats 8000000 in
set_option maxRecDepth 100000 in
theorem l06Reg.any (f0_a f0_x f0_y f0_s f0_p : Int) (f0_0 : Bool) (f0_1 : Bool) (f0_2 : Bool) (f0_3 : Bool) (f0_4 : Bool) (f0_5 : Bool) (a1 : ByteArray) (h0 : RB f0_a) (h1 : RB f0_x) (h2 : RB f0_y) (h3 : RB f0_s) (w : World) : Calls Tryz.prog 86 #[.agg #[.int .u8 f0_a, .int .u8 f0_x, .int .u8 f0_y, .int .u8 f0_s, .int .u16 f0_p, .bool f0_0, .bool f0_1, .bool f0_2, .bool f0_3, .bool f0_4, .bool f0_5], .string a1] w fun e w1 => ∃ (r : Int), e = .returned (.int .u8 r) ∧ RB r ∧ Below w.heap.size w w1 := by
  go_enter Tryz.func86, Tryz.ntmps86
  go_wp2
  all_goals ((try simp only [Exit.inBlock, Exit.then]); first | (refine bodyPost_ret (results_tmp rfl _ _ _) rfl ?_; refine ⟨_, rfl, (by first | assumption | with_reducible exact RB_wrap _ | with_reducible exact RB_bits _ _ _ | with_reducible exact RB_mod _ | (unfold RB; omega)), ?_⟩; go_grown) | (refine bodyPost_ret (by simp [results, Tryz.results86, go_sem]; try rfl) rfl ?_; refine ⟨_, rfl, (by first | assumption | with_reducible exact RB_wrap _ | with_reducible exact RB_bits _ _ _ | with_reducible exact RB_mod _ | (unfold RB; omega)), ?_⟩; go_grown))
set_option maxHeartbeats 8000000 in
set_option maxRecDepth 100000 in
theorem l04Offset.any (a0 : Int) (h0 : RB a0) (w : World) : Calls Tryz.prog 83 #[.int .u8 a0] w fun e w1 => ∃ (r : Int), e = .returned (.int .i64 r) ∧ Below w.heap.size w w1 := by
  go_enter Tryz.func83, Tryz.ntmps83
  go_wp2
  all_goals ((try simp only [Exit.inBlock, Exit.then]); first | (refine bodyPost_ret (results_tmp rfl _ _ _) rfl ?_; refine ⟨_, rfl, ?_⟩; go_grown) | (refine bodyPost_ret (by simp [results, Tryz.results83, go_sem]; try rfl) rfl ?_; refine ⟨_, rfl, ?_⟩; go_grown))
set_option maxHeartbeats 8000000 in
set_option maxRecDepth 100000 in
theorem l04Word.any (a0 : Int) (a1 : Int) (h0 : RB a0) (h1 : RB a1) (w : World) : Calls Tryz.prog 77 #[.int .u8 a0, .int .u8 a1] w fun e w1 => ∃ (r : Int), e = .returned (.int .i64 r) ∧ Below w.heap.size w w1 := by
  go_enter Tryz.func77, Tryz.ntmps77
  go_wp2
  all_goals ((try simp only [Exit.inBlock, Exit.then]); first | (refine bodyPost_ret (results_tmp rfl _ _ _) rfl ?_; refine ⟨_, rfl, ?_⟩; go_grown) | (refine bodyPost_ret (by simp [results, Tryz.results77, go_sem]; try rfl) rfl ?_; refine ⟨_, rfl, ?_⟩; go_grown))
set_option maxHeartbeats 8000000 in
set_option maxRecDepth 100000 in
theorem l06Stack.any (a0 : Int)  (w : World) : Calls Tryz.prog 75 #[.int .i64 a0] w fun e w1 => ∃ (r : Int), e = .returned (.int .i64 r) ∧ Below w.heap.size w w1 := by
  go_enter Tryz.func75, Tryz.ntmps75
  go_wp2
  all_goals ((try simp only [Exit.inBlock, Exit.then]); first | (refine bodyPost_ret (results_tmp rfl _ _ _) rfl ?_; refine ⟨_, rfl, ?_⟩; go_grown) | (refine bodyPost_ret (by simp [results, Tryz.results75, go_sem]; try rfl) rfl ?_; refine ⟨_, rfl, ?_⟩; go_grown))
set_option maxHeartbeats 8000000 in
set_option maxRecDepth 100000 in
theorem UnpackP.any (a0 : Int) (h0 : RB a0) (w : World) : Calls Tryz.prog 73 #[.int .u8 a0] w fun e w1 => ∃ (r0 : Bool) (r1 : Bool) (r2 : Bool) (r3 : Bool) (r4 : Bool) (r5 : Bool), e = .returned (.agg #[.bool r0, .bool r1, .bool r2, .bool r3, .bool r4, .bool r5]) ∧ Below w.heap.size w w1 := by
  go_enter Tryz.func73, Tryz.ntmps73
  go_wp2
  all_goals ((try simp only [Exit.inBlock, Exit.then]); first | (refine bodyPost_ret (by simp [results, Tryz.results73, go_sem]; try rfl) rfl ?_; refine ⟨_, _, _, _, _, _, rfl, ?_⟩; go_grown))
set_option maxHeartbeats 8000000 in
set_option maxRecDepth 100000 in
theorem l02Plain.any (a0 : Int) (a1 : Int) (f2_0 : Bool) (f2_1 : Bool) (f2_2 : Bool) (f2_3 : Bool) (f2_4 : Bool) (f2_5 : Bool) (h0 : RB a0) (h1 : RB a1) (w : World) : Calls Tryz.prog 110 #[.int .u8 a0, .int .u8 a1, .agg #[.bool f2_0, .bool f2_1, .bool f2_2, .bool f2_3, .bool f2_4, .bool f2_5]] w fun e w1 => ∃ (ru : Int) (rv0 : Bool) (rv1 : Bool) (rv2 : Bool) (rv3 : Bool) (rv4 : Bool) (rv5 : Bool), e = .returned (.tuple #[.int .u8 ru, .agg #[.bool rv0, .bool rv1, .bool rv2, .bool rv3, .bool rv4, .bool rv5]]) ∧ RB ru ∧ Below w.heap.size w w1 := by
  have K := zA (Fls.nil w)
  go_enter Tryz.func110, Tryz.ntmps110
  go_wp2_with (first
  | ((with_reducible refine gate_dst (N := 5) rfl ?_); refine fl_box K.out rfl rfl rfl rfl ?_; intro g5 w1 k_; replace K := zA k_; clear k_)
  | ((with_reducible refine gate_dst (N := 7) rfl ?_); refine fl_alloc K.out rfl rfl rfl ?_; intro g7 w1 k_; replace K := zA k_; clear k_)
  | ((with_reducible refine gate_load (t := 62) rfl ?_); refine fl_ld K.out (by first | exact .head _ | exact .tail _ (.head _) | exact .tail _ (.tail _ (.head _))) rfl rfl rfl ?_; intro _ _ _ _ _ _)
  | ((with_reducible refine gate_st (t := 62) rfl ?_); refine fl_st K.out (by first | exact .head _ | exact .tail _ (.head _) | exact .tail _ (.tail _ (.head _))) rfl rfl rfl rfl ?_; intro w1 k_; replace K := zA k_; clear k_)
  | ((with_reducible refine gate_load (t := 4) rfl ?_); refine fl_ldb K.out (by first | exact .head _ | exact .tail _ (.head _) | exact .tail _ (.tail _ (.head _))) rfl rfl rfl (by decide) ?_; intro _)
  | ((with_reducible refine gate_st (t := 4) rfl ?_); refine fl_stb K.out (by first | exact .head _ | exact .tail _ (.head _) | exact .tail _ (.tail _ (.head _))) rfl rfl rfl rfl (by decide) ?_; intro w1 k_; replace K := zA k_; clear k_)
  | (go_at_call 93; refine (l02Bit.any _ _  _).mono ?_; rintro e w1 ⟨_, rfl, hb_⟩; replace K := zA (K.out.below_ hb_); clear hb_)
  | (go_at_call 111; refine (l02Over.any _ _ _  _).mono ?_; rintro e w1 ⟨_, rfl, hb_⟩; replace K := zA (K.out.below_ hb_); clear hb_)
  | (go_at_call 80; refine (NZ.any _ _ _ _ _ _ _ (by first | assumption | with_reducible exact RB_wrap _ | with_reducible exact RB_bits _ _ _ | with_reducible exact RB_mod _ | (unfold RB; omega)) _).mono ?_; rintro e w1 ⟨_, _, _, _, _, _, rfl, hb_⟩; replace K := zA (K.out.below_ hb_); clear hb_)
  | ((with_reducible refine gate_ret ?_); refine fl_ret2 K.out (by first | exact .head _ | exact .tail _ (.head _) | exact .tail _ (.tail _ (.head _))) rfl rfl rfl rfl ?_; intro _ _ _ _ _ _; exact ⟨_, _, _, _, _, _, _, rfl, (by first | assumption | with_reducible exact RB_wrap _ | with_reducible exact RB_bits _ _ _ | with_reducible exact RB_mod _ | (unfold RB; omega)), K.out.1⟩))
theorem PackP.any (b0 b1 b2 b3 b4 b5 c : Bool) (w : World) : Calls Tryz.prog 76 #[.agg #[.bool b0, .bool b1, .bool b2, .bool b3, .bool b4, .bool b5], .bool c] w fun e w1 => ∃ r, e = .returned (.int .u8 r) ∧ RB r ∧ Below w.heap.size w w1 := by
  obtain ⟨r, hr, hq⟩ : ∃ r, PRun.spec_PackP.f b0 b1 b2 b3 b4 b5 c = some r ∧ RB r := by
    simp only [PRun.spec_PackP.f, PRun.spec_l02Bit.f]
    cases b0 <;> cases b1 <;> cases b2 <;> cases b3 <;> cases b4 <;> cases b5 <;> cases c <;> exact ⟨_, rfl, RB_mod _⟩
  refine (PRun.spec_PackP.calls b0 b1 b2 b3 b4 b5 c r w hr).mono ?_
  rintro e w1 ⟨rfl, hw⟩
  exact ⟨r, rfl, hq, hw⟩
set_option maxHeartbeats 8000000 in
set_option maxRecDepth 100000 in
theorem l06Change.any (a0 : ByteArray) (a1 : Int) (f2_0 : Bool) (f2_1 : Bool) (f2_2 : Bool) (f2_3 : Bool) (f2_4 : Bool) (f2_5 : Bool) (h0 : RB a1) (w : World) : Calls Tryz.prog 79 #[.string a0, .int .u8 a1, .agg #[.bool f2_0, .bool f2_1, .bool f2_2, .bool f2_3, .bool f2_4, .bool f2_5]] w fun e w1 => ∃ (ru : Int) (rv0 : Bool) (rv1 : Bool) (rv2 : Bool) (rv3 : Bool) (rv4 : Bool) (rv5 : Bool), e = .returned (.tuple #[.int .u8 ru, .agg #[.bool rv0, .bool rv1, .bool rv2, .bool rv3, .bool rv4, .bool rv5]]) ∧ RB ru ∧ Below w.heap.size w w1 := by
  have K := zA (Fls.nil w)
  go_enter Tryz.func79, Tryz.ntmps79
  go_wp2_with (first
  | ((with_reducible refine gate_dst (N := 5) rfl ?_); refine fl_box K.out rfl rfl rfl rfl ?_; intro g5 w1 k_; replace K := zA k_; clear k_)
  | ((with_reducible refine gate_dst (N := 7) rfl ?_); refine fl_alloc K.out rfl rfl rfl ?_; intro g7 w1 k_; replace K := zA k_; clear k_)
  | ((with_reducible refine gate_load (t := 62) rfl ?_); refine fl_ld K.out (by first | exact .head _ | exact .tail _ (.head _) | exact .tail _ (.tail _ (.head _))) rfl rfl rfl ?_; intro _ _ _ _ _ _)
  | ((with_reducible refine gate_st (t := 62) rfl ?_); refine fl_st K.out (by first | exact .head _ | exact .tail _ (.head _) | exact .tail _ (.tail _ (.head _))) rfl rfl rfl rfl ?_; intro w1 k_; replace K := zA k_; clear k_)
  | ((with_reducible refine gate_load (t := 4) rfl ?_); refine fl_ldb K.out (by first | exact .head _ | exact .tail _ (.head _) | exact .tail _ (.tail _ (.head _))) rfl rfl rfl (by decide) ?_; intro _)
  | ((with_reducible refine gate_st (t := 4) rfl ?_); refine fl_stb K.out (by first | exact .head _ | exact .tail _ (.head _) | exact .tail _ (.tail _ (.head _))) rfl rfl rfl rfl (by decide) ?_; intro w1 k_; replace K := zA k_; clear k_)
  | (go_at_call 97; refine (Asl.any _ _ _ _ _ _ _ (by first | assumption | with_reducible exact RB_wrap _ | with_reducible exact RB_bits _ _ _ | with_reducible exact RB_mod _ | (unfold RB; omega)) _).mono ?_; rintro e w1 ⟨_, _, _, _, _, _, _, rfl, _, hb_⟩; replace K := zA (K.out.below_ hb_); clear hb_)
  | (go_at_call 98; refine (Lsr.any _ _ _ _ _ _ _ (by first | assumption | with_reducible exact RB_wrap _ | with_reducible exact RB_bits _ _ _ | with_reducible exact RB_mod _ | (unfold RB; omega)) _).mono ?_; rintro e w1 ⟨_, _, _, _, _, _, _, rfl, _, hb_⟩; replace K := zA (K.out.below_ hb_); clear hb_)
  | (go_at_call 99; refine (Rol.any _ _ _ _ _ _ _ (by first | assumption | with_reducible exact RB_wrap _ | with_reducible exact RB_bits _ _ _ | with_reducible exact RB_mod _ | (unfold RB; omega)) _).mono ?_; rintro e w1 ⟨_, _, _, _, _, _, _, rfl, _, hb_⟩; replace K := zA (K.out.below_ hb_); clear hb_)
  | (go_at_call 100; refine (Ror.any _ _ _ _ _ _ _ (by first | assumption | with_reducible exact RB_wrap _ | with_reducible exact RB_bits _ _ _ | with_reducible exact RB_mod _ | (unfold RB; omega)) _).mono ?_; rintro e w1 ⟨_, _, _, _, _, _, _, rfl, _, hb_⟩; replace K := zA (K.out.below_ hb_); clear hb_)
  | (go_at_call 80; refine (NZ.any _ _ _ _ _ _ _ (by first | assumption | with_reducible exact RB_wrap _ | with_reducible exact RB_bits _ _ _ | with_reducible exact RB_mod _ | (unfold RB; omega)) _).mono ?_; rintro e w1 ⟨_, _, _, _, _, _, rfl, hb_⟩; replace K := zA (K.out.below_ hb_); clear hb_)
  | ((with_reducible refine gate_ret ?_); refine fl_ret2 K.out (by first | exact .head _ | exact .tail _ (.head _) | exact .tail _ (.tail _ (.head _))) rfl rfl rfl rfl ?_; intro _ _ _ _ _ _; exact ⟨_, _, _, _, _, _, _, rfl, (by first | assumption | with_reducible exact RB_wrap _ | with_reducible exact RB_bits _ _ _ | with_reducible exact RB_mod _ | (unfold RB; omega)), K.out.1⟩))
set_option maxHeartbeats 8000000 in
set_option maxRecDepth 100000 in
theorem l06Flag.any (f0_0 : Bool) (f0_1 : Bool) (f0_2 : Bool) (f0_3 : Bool) (f0_4 : Bool) (f0_5 : Bool) (a1 : ByteArray)  (w : World) : Calls Tryz.prog 81 #[.agg #[.bool f0_0, .bool f0_1, .bool f0_2, .bool f0_3, .bool f0_4, .bool f0_5], .string a1] w fun e w1 => ∃ (r0 : Bool) (r1 : Bool) (r2 : Bool) (r3 : Bool) (r4 : Bool) (r5 : Bool), e = .returned (.agg #[.bool r0, .bool r1, .bool r2, .bool r3, .bool r4, .bool r5]) ∧ Below w.heap.size w w1 := by
  have K := zA (Fls.nil w)
  go_enter Tryz.func81, Tryz.ntmps81
  go_wp2_with (first
  | ((with_reducible refine gate_dst (N := 2) rfl ?_); refine fl_box K.out rfl rfl rfl rfl ?_; intro g2 w1 k_; replace K := zA k_; clear k_)
  | ((with_reducible refine gate_dst (N := 4) rfl ?_); refine fl_alloc K.out rfl rfl rfl ?_; intro g4 w1 k_; replace K := zA k_; clear k_)
  | ((with_reducible refine gate_load (t := 62) rfl ?_); refine fl_ld K.out (by first | exact .head _ | exact .tail _ (.head _) | exact .tail _ (.tail _ (.head _))) rfl rfl rfl ?_; intro _ _ _ _ _ _)
  | ((with_reducible refine gate_st (t := 62) rfl ?_); refine fl_st K.out (by first | exact .head _ | exact .tail _ (.head _) | exact .tail _ (.tail _ (.head _))) rfl rfl rfl rfl ?_; intro w1 k_; replace K := zA k_; clear k_)
  | ((with_reducible refine gate_load (t := 4) rfl ?_); refine fl_ldb K.out (by first | exact .head _ | exact .tail _ (.head _) | exact .tail _ (.tail _ (.head _))) rfl rfl rfl (by decide) ?_; intro _)
  | ((with_reducible refine gate_st (t := 4) rfl ?_); refine fl_stb K.out (by first | exact .head _ | exact .tail _ (.head _) | exact .tail _ (.tail _ (.head _))) rfl rfl rfl rfl (by decide) ?_; intro w1 k_; replace K := zA k_; clear k_)
  | ((with_reducible refine gate_ret ?_); refine fl_ret K.out (by first | exact .head _ | exact .tail _ (.head _) | exact .tail _ (.tail _ (.head _))) rfl rfl rfl ?_; intro _ _ _ _ _ _; exact ⟨_, _, _, _, _, _, rfl, K.out.1⟩))
set_option maxHeartbeats 8000000 in
set_option maxRecDepth 100000 in
theorem Adc.any (a0 : Int) (a1 : Int) (f2_0 : Bool) (f2_1 : Bool) (f2_2 : Bool) (f2_3 : Bool) (f2_4 : Bool) (f2_5 : Bool) (h0 : RB a0) (h1 : RB a1) (w : World) : Calls Tryz.prog 101 #[.int .u8 a0, .int .u8 a1, .agg #[.bool f2_0, .bool f2_1, .bool f2_2, .bool f2_3, .bool f2_4, .bool f2_5]] w fun e w1 => ∃ (ru : Int) (rv0 : Bool) (rv1 : Bool) (rv2 : Bool) (rv3 : Bool) (rv4 : Bool) (rv5 : Bool), e = .returned (.tuple #[.int .u8 ru, .agg #[.bool rv0, .bool rv1, .bool rv2, .bool rv3, .bool rv4, .bool rv5]]) ∧ RB ru ∧ Below w.heap.size w w1 := by
  have K := zA (Fls.nil w)
  go_enter Tryz.func101, Tryz.ntmps101
  go_wp2_with (first
  | ((with_reducible refine gate_dst (N := 5) rfl ?_); refine fl_box K.out rfl rfl rfl rfl ?_; intro g5 w1 k_; replace K := zA k_; clear k_)
  | ((with_reducible refine gate_dst (N := 7) rfl ?_); refine fl_alloc K.out rfl rfl rfl ?_; intro g7 w1 k_; replace K := zA k_; clear k_)
  | ((with_reducible refine gate_dst (N := 9) rfl ?_); refine fl_alloc K.out rfl rfl rfl ?_; intro g9 w1 k_; replace K := zA k_; clear k_)
  | ((with_reducible refine gate_load (t := 62) rfl ?_); refine fl_ld K.out (by first | exact .head _ | exact .tail _ (.head _) | exact .tail _ (.tail _ (.head _))) rfl rfl rfl ?_; intro _ _ _ _ _ _)
  | ((with_reducible refine gate_st (t := 62) rfl ?_); refine fl_st K.out (by first | exact .head _ | exact .tail _ (.head _) | exact .tail _ (.tail _ (.head _))) rfl rfl rfl rfl ?_; intro w1 k_; replace K := zA k_; clear k_)
  | ((with_reducible refine gate_load (t := 4) rfl ?_); refine fl_ldb K.out (by first | exact .head _ | exact .tail _ (.head _) | exact .tail _ (.tail _ (.head _))) rfl rfl rfl (by decide) ?_; intro _)
  | ((with_reducible refine gate_st (t := 4) rfl ?_); refine fl_stb K.out (by first | exact .head _ | exact .tail _ (.head _) | exact .tail _ (.tail _ (.head _))) rfl rfl rfl rfl (by decide) ?_; intro w1 k_; replace K := zA k_; clear k_)
  | (go_at_call 110; refine (l02Plain.any _ _ _ _ _ _ _ _ (by first | assumption | with_reducible exact RB_wrap _ | with_reducible exact RB_bits _ _ _ | with_reducible exact RB_mod _ | (unfold RB; omega)) (by first | assumption | with_reducible exact RB_wrap _ | with_reducible exact RB_bits _ _ _ | with_reducible exact RB_mod _ | (unfold RB; omega)) _).mono ?_; rintro e w1 ⟨_, _, _, _, _, _, _, rfl, _, hb_⟩; replace K := zA (K.out.below_ hb_); clear hb_)
  | (go_at_call 93; refine (l02Bit.any _ _  _).mono ?_; rintro e w1 ⟨_, rfl, hb_⟩; replace K := zA (K.out.below_ hb_); clear hb_)
  | (go_at_call 111; refine (l02Over.any _ _ _  _).mono ?_; rintro e w1 ⟨_, rfl, hb_⟩; replace K := zA (K.out.below_ hb_); clear hb_)
  | ((with_reducible refine gate_region (id := 3) ?_)
     obtain ⟨cs_, hb_, f0_, f1_, f2_, f3_, f4_, f5_, rfl⟩ := (K.out.2 _ (by first | exact .head _ | exact .tail _ (.head _) | exact .tail _ (.tail _ (.head _))) : _ ∧ FlagsAt _ g9).2
     refine start_k (n := 4) (S := fun w' => w'.heap[g9]? = some (.cells #[.bool f0_, .bool f1_, .bool f2_, .bool f3_, .bool f4_, .bool f5_] 62 (0, 0))) (ds := [3]) #[false, false, false, false] (by kernel_rfl) rfl rfl hb_ (fun w1 he hs => by rw [he]; exact hs) ?_
     intro w1 hHeld hd_
     clear hb_
     replace K := zA (K.out.below_ hd_)
     clear hd_
     refine take_ (i := 1) (N := some 23) (v := ?_) (a' := ?_) #[false, true, false, false] rfl rfl (by kernel_rfl) (fun _ _ _ h => h) (Or.inl ⟨by rfl, ?_⟩) hHeld ?_ ?_
     rotate_left
     · intro w' s0
       refine (fl_run (x := .tmp 9) ?_ ?_ s0).trans ?_
       · rfl
       · rfl
       · rfl
     rotate_left
     · simp only [zP]
       rfl
     refine pure_ (i := 0) (N := some 22) (v := ?_) (a' := ?_) #[true, true, false, false] rfl rfl (by kernel_rfl) (fun _ _ _ h => h) (Or.inl ⟨by rfl, ?_⟩) ?_ ?_
     rotate_left
     · intro w'
       go_simp
       with_reducible rfl
     rotate_left
     · simp only [zP]
       rfl
     refine pure_ (i := 2) (N := some 6) (v := ?_) (a' := ?_) #[true, true, true, false] rfl rfl (by kernel_rfl) (fun _ _ _ h => h) (Or.inl ⟨by rfl, ?_⟩) ?_ ?_
     rotate_left
     · intro w'
       go_simp
       with_reducible rfl
     rotate_left
     · simp only [zP]
       rfl
     refine last_ (i := 3) (N := none) #[true, true, true, true] rfl rfl (by kernel_rfl) (by decide) (fun K_ hK => ?_)
     refine fl_stStep (x := .tmp 7) (y := .tmp 23) K.out (by first | exact .head _ | exact .tail _ (.head _) | exact .tail _ (.tail _ (.head _))) (by rfl) rfl rfl rfl rfl ?_
     intro w1 h_
     refine hK.out _ _ ?_
     clear hK K_
     replace K := zA h_
     clear h_ hHeld
     refine done_ (by kernel_rfl) ?_)
  | ((with_reducible refine gate_region (id := 13) ?_)
     obtain ⟨cs_, hb_, f0_, f1_, f2_, f3_, f4_, f5_, rfl⟩ := (K.out.2 _ (by first | exact .head _ | exact .tail _ (.head _) | exact .tail _ (.tail _ (.head _))) : _ ∧ FlagsAt _ g9).2
     refine start_k (n := 6) (S := fun w' => w'.heap[g9]? = some (.cells #[.bool f0_, .bool f1_, .bool f2_, .bool f3_, .bool f4_, .bool f5_] 62 (0, 0))) (ds := [5]) #[false, false, false, false, false, false] (by kernel_rfl) rfl rfl hb_ (fun w1 he hs => by rw [he]; exact hs) ?_
     intro w1 hHeld hd_
     clear hb_
     replace K := zA (K.out.below_ hd_)
     clear hd_
     refine take_ (i := 3) (N := some 72) (v := ?_) (a' := ?_) #[false, false, false, true, false, false] rfl rfl (by kernel_rfl) (fun _ _ _ h => h) (Or.inl ⟨by rfl, ?_⟩) hHeld ?_ ?_
     rotate_left
     · intro w' s0
       refine (fl_run (x := .tmp 9) ?_ ?_ s0).trans ?_
       · rfl
       · rfl
       · rfl
     rotate_left
     · simp only [zP]
       rfl
     refine pure_ (i := 0) (N := some 69) (v := ?_) (a' := ?_) #[true, false, false, true, false, false] rfl rfl (by kernel_rfl) (fun _ _ _ h => h) (Or.inl ⟨by rfl, ?_⟩) ?_ ?_
     rotate_left
     · intro w'
       go_simp
       with_reducible rfl
     rotate_left
     · simp only [zP]
       rfl
     refine pure_ (i := 1) (N := some 70) (v := ?_) (a' := ?_) #[true, true, false, true, false, false] rfl rfl (by kernel_rfl) (fun _ _ _ h => h) (Or.inl ⟨by rfl, ?_⟩) ?_ ?_
     rotate_left
     · intro w'
       go_simp
       with_reducible rfl
     rotate_left
     · simp only [zP]
       rfl
     refine pure_ (i := 2) (N := some 71) (v := ?_) (a' := ?_) #[true, true, true, true, false, false] rfl rfl (by kernel_rfl) (fun _ _ _ h => h) (Or.inl ⟨by rfl, ?_⟩) ?_ ?_
     rotate_left
     · intro w'
       go_simp
       with_reducible rfl
     rotate_left
     · simp only [zP]
       rfl
     refine pure_ (i := 4) (N := some 6) (v := ?_) (a' := ?_) #[true, true, true, true, true, false] rfl rfl (by kernel_rfl) (fun _ _ _ h => h) (Or.inl ⟨by rfl, ?_⟩) ?_ ?_
     rotate_left
     · intro w'
       go_simp
       with_reducible rfl
     rotate_left
     · simp only [zP]
       rfl
     refine last_ (i := 5) (N := none) #[true, true, true, true, true, true] rfl rfl (by kernel_rfl) (by decide) (fun K_ hK => ?_)
     refine fl_stStep (x := .tmp 7) (y := .tmp 72) K.out (by first | exact .head _ | exact .tail _ (.head _) | exact .tail _ (.tail _ (.head _))) (by rfl) rfl rfl rfl rfl ?_
     intro w1 h_
     refine hK.out _ _ ?_
     clear hK K_
     replace K := zA h_
     clear h_ hHeld
     refine done_ (by kernel_rfl) ?_)
  | ((with_reducible refine gate_ret ?_); refine fl_ret2 K.out (by first | exact .head _ | exact .tail _ (.head _) | exact .tail _ (.tail _ (.head _))) rfl rfl rfl rfl ?_; intro _ _ _ _ _ _; exact ⟨_, _, _, _, _, _, _, rfl, (by first | assumption | with_reducible exact RB_wrap _ | with_reducible exact RB_bits _ _ _ | with_reducible exact RB_mod _ | (unfold RB; omega)), K.out.1⟩))
set_option maxHeartbeats 8000000 in
set_option maxRecDepth 100000 in
theorem Sbc.any (a0 : Int) (a1 : Int) (f2_0 : Bool) (f2_1 : Bool) (f2_2 : Bool) (f2_3 : Bool) (f2_4 : Bool) (f2_5 : Bool) (h0 : RB a0) (h1 : RB a1) (w : World) : Calls Tryz.prog 102 #[.int .u8 a0, .int .u8 a1, .agg #[.bool f2_0, .bool f2_1, .bool f2_2, .bool f2_3, .bool f2_4, .bool f2_5]] w fun e w1 => ∃ (ru : Int) (rv0 : Bool) (rv1 : Bool) (rv2 : Bool) (rv3 : Bool) (rv4 : Bool) (rv5 : Bool), e = .returned (.tuple #[.int .u8 ru, .agg #[.bool rv0, .bool rv1, .bool rv2, .bool rv3, .bool rv4, .bool rv5]]) ∧ RB ru ∧ Below w.heap.size w w1 := by
  have K := zA (Fls.nil w)
  go_enter Tryz.func102, Tryz.ntmps102
  go_wp2_with (first
  | ((with_reducible refine gate_dst (N := 5) rfl ?_); refine fl_box K.out rfl rfl rfl rfl ?_; intro g5 w1 k_; replace K := zA k_; clear k_)
  | ((with_reducible refine gate_dst (N := 7) rfl ?_); refine fl_alloc K.out rfl rfl rfl ?_; intro g7 w1 k_; replace K := zA k_; clear k_)
  | ((with_reducible refine gate_dst (N := 9) rfl ?_); refine fl_alloc K.out rfl rfl rfl ?_; intro g9 w1 k_; replace K := zA k_; clear k_)
  | ((with_reducible refine gate_load (t := 62) rfl ?_); refine fl_ld K.out (by first | exact .head _ | exact .tail _ (.head _) | exact .tail _ (.tail _ (.head _))) rfl rfl rfl ?_; intro _ _ _ _ _ _)
  | ((with_reducible refine gate_st (t := 62) rfl ?_); refine fl_st K.out (by first | exact .head _ | exact .tail _ (.head _) | exact .tail _ (.tail _ (.head _))) rfl rfl rfl rfl ?_; intro w1 k_; replace K := zA k_; clear k_)
  | ((with_reducible refine gate_load (t := 4) rfl ?_); refine fl_ldb K.out (by first | exact .head _ | exact .tail _ (.head _) | exact .tail _ (.tail _ (.head _))) rfl rfl rfl (by decide) ?_; intro _)
  | ((with_reducible refine gate_st (t := 4) rfl ?_); refine fl_stb K.out (by first | exact .head _ | exact .tail _ (.head _) | exact .tail _ (.tail _ (.head _))) rfl rfl rfl rfl (by decide) ?_; intro w1 k_; replace K := zA k_; clear k_)
  | (go_at_call 110; refine (l02Plain.any _ _ _ _ _ _ _ _ (by first | assumption | with_reducible exact RB_wrap _ | with_reducible exact RB_bits _ _ _ | with_reducible exact RB_mod _ | (unfold RB; omega)) (by first | assumption | with_reducible exact RB_wrap _ | with_reducible exact RB_bits _ _ _ | with_reducible exact RB_mod _ | (unfold RB; omega)) _).mono ?_; rintro e w1 ⟨_, _, _, _, _, _, _, rfl, _, hb_⟩; replace K := zA (K.out.below_ hb_); clear hb_)
  | (go_at_call 93; refine (l02Bit.any _ _  _).mono ?_; rintro e w1 ⟨_, rfl, hb_⟩; replace K := zA (K.out.below_ hb_); clear hb_)
  | (go_at_call 111; refine (l02Over.any _ _ _  _).mono ?_; rintro e w1 ⟨_, rfl, hb_⟩; replace K := zA (K.out.below_ hb_); clear hb_)
  | ((with_reducible refine gate_region (id := 3) ?_)
     obtain ⟨cs_, hb_, f0_, f1_, f2_, f3_, f4_, f5_, rfl⟩ := (K.out.2 _ (by first | exact .head _ | exact .tail _ (.head _) | exact .tail _ (.tail _ (.head _))) : _ ∧ FlagsAt _ g9).2
     refine start_k (n := 4) (S := fun w' => w'.heap[g9]? = some (.cells #[.bool f0_, .bool f1_, .bool f2_, .bool f3_, .bool f4_, .bool f5_] 62 (0, 0))) (ds := [3]) #[false, false, false, false] (by kernel_rfl) rfl rfl hb_ (fun w1 he hs => by rw [he]; exact hs) ?_
     intro w1 hHeld hd_
     clear hb_
     replace K := zA (K.out.below_ hd_)
     clear hd_
     refine take_ (i := 1) (N := some 24) (v := ?_) (a' := ?_) #[false, true, false, false] rfl rfl (by kernel_rfl) (fun _ _ _ h => h) (Or.inl ⟨by rfl, ?_⟩) hHeld ?_ ?_
     rotate_left
     · intro w' s0
       refine (fl_run (x := .tmp 9) ?_ ?_ s0).trans ?_
       · rfl
       · rfl
       · rfl
     rotate_left
     · simp only [zP]
       rfl
     refine pure_ (i := 0) (N := some 23) (v := ?_) (a' := ?_) #[true, true, false, false] rfl rfl (by kernel_rfl) (fun _ _ _ h => h) (Or.inl ⟨by rfl, ?_⟩) ?_ ?_
     rotate_left
     · intro w'
       go_simp
       with_reducible rfl
     rotate_left
     · simp only [zP]
       rfl
     refine pure_ (i := 2) (N := some 6) (v := ?_) (a' := ?_) #[true, true, true, false] rfl rfl (by kernel_rfl) (fun _ _ _ h => h) (Or.inl ⟨by rfl, ?_⟩) ?_ ?_
     rotate_left
     · intro w'
       go_simp
       with_reducible rfl
     rotate_left
     · simp only [zP]
       rfl
     refine last_ (i := 3) (N := none) #[true, true, true, true] rfl rfl (by kernel_rfl) (by decide) (fun K_ hK => ?_)
     refine fl_stStep (x := .tmp 7) (y := .tmp 24) K.out (by first | exact .head _ | exact .tail _ (.head _) | exact .tail _ (.tail _ (.head _))) (by rfl) rfl rfl rfl rfl ?_
     intro w1 h_
     refine hK.out _ _ ?_
     clear hK K_
     replace K := zA h_
     clear h_ hHeld
     refine done_ (by kernel_rfl) ?_)
  | ((with_reducible refine gate_region (id := 10) ?_)
     obtain ⟨cs_, hb_, f0_, f1_, f2_, f3_, f4_, f5_, rfl⟩ := (K.out.2 _ (by first | exact .head _ | exact .tail _ (.head _) | exact .tail _ (.tail _ (.head _))) : _ ∧ FlagsAt _ g9).2
     refine start_k (n := 6) (S := fun w' => w'.heap[g9]? = some (.cells #[.bool f0_, .bool f1_, .bool f2_, .bool f3_, .bool f4_, .bool f5_] 62 (0, 0))) (ds := [5]) #[false, false, false, false, false, false] (by kernel_rfl) rfl rfl hb_ (fun w1 he hs => by rw [he]; exact hs) ?_
     intro w1 hHeld hd_
     clear hb_
     replace K := zA (K.out.below_ hd_)
     clear hd_
     refine take_ (i := 3) (N := some 59) (v := ?_) (a' := ?_) #[false, false, false, true, false, false] rfl rfl (by kernel_rfl) (fun _ _ _ h => h) (Or.inl ⟨by rfl, ?_⟩) hHeld ?_ ?_
     rotate_left
     · intro w' s0
       refine (fl_run (x := .tmp 9) ?_ ?_ s0).trans ?_
       · rfl
       · rfl
       · rfl
     rotate_left
     · simp only [zP]
       rfl
     refine pure_ (i := 0) (N := some 56) (v := ?_) (a' := ?_) #[true, false, false, true, false, false] rfl rfl (by kernel_rfl) (fun _ _ _ h => h) (Or.inl ⟨by rfl, ?_⟩) ?_ ?_
     rotate_left
     · intro w'
       go_simp
       with_reducible rfl
     rotate_left
     · simp only [zP]
       rfl
     refine pure_ (i := 1) (N := some 57) (v := ?_) (a' := ?_) #[true, true, false, true, false, false] rfl rfl (by kernel_rfl) (fun _ _ _ h => h) (Or.inl ⟨by rfl, ?_⟩) ?_ ?_
     rotate_left
     · intro w'
       go_simp
       with_reducible rfl
     rotate_left
     · simp only [zP]
       rfl
     refine pure_ (i := 2) (N := some 58) (v := ?_) (a' := ?_) #[true, true, true, true, false, false] rfl rfl (by kernel_rfl) (fun _ _ _ h => h) (Or.inl ⟨by rfl, ?_⟩) ?_ ?_
     rotate_left
     · intro w'
       go_simp
       with_reducible rfl
     rotate_left
     · simp only [zP]
       rfl
     refine pure_ (i := 4) (N := some 6) (v := ?_) (a' := ?_) #[true, true, true, true, true, false] rfl rfl (by kernel_rfl) (fun _ _ _ h => h) (Or.inl ⟨by rfl, ?_⟩) ?_ ?_
     rotate_left
     · intro w'
       go_simp
       with_reducible rfl
     rotate_left
     · simp only [zP]
       rfl
     refine last_ (i := 5) (N := none) #[true, true, true, true, true, true] rfl rfl (by kernel_rfl) (by decide) (fun K_ hK => ?_)
     refine fl_stStep (x := .tmp 7) (y := .tmp 59) K.out (by first | exact .head _ | exact .tail _ (.head _) | exact .tail _ (.tail _ (.head _))) (by rfl) rfl rfl rfl rfl ?_
     intro w1 h_
     refine hK.out _ _ ?_
     clear hK K_
     replace K := zA h_
     clear h_ hHeld
     refine done_ (by kernel_rfl) ?_)
  | ((with_reducible refine gate_ret ?_); refine fl_ret2 K.out (by first | exact .head _ | exact .tail _ (.head _) | exact .tail _ (.tail _ (.head _))) rfl rfl rfl rfl ?_; intro _ _ _ _ _ _; exact ⟨_, _, _, _, _, _, _, rfl, (by first | assumption | with_reducible exact RB_wrap _ | with_reducible exact RB_bits _ _ _ | with_reducible exact RB_mod _ | (unfold RB; omega)), K.out.1⟩))
end Go.Proofs.YtafkbhnhmhmjcaaGreatDoor.Weak
