import Derived.StillTailTactics
import Derived.Handy
import Derived.Test.YtafkbhnhmhmjcaaSVWeak
import Derived.Test.YtafkbhnhmhmjcaaSVMyCpu
import Derived.Test.YtafkbhnhmhmjcaaSVMyWk1
set_option linter.unusedVariables false
set_option linter.unusedSimpArgs false
namespace Go.Proofs.Ytafkbhnhmhmjcaa.Weak
open Go.RowKit Go.Proofs.YtafkbhnhmhmjcaaW.PrintWords Go.Proofs.YtafkbhnhmhmjcaaW.PrintLast Go.Proofs.YtafkbhnhmhmjcaaW.PrintMore Go.Proofs.Ytafkbhnhmhmjcaa.PRun
set_option maxHeartbeats 8000000 in
set_option maxRecDepth 100000 in
theorem l06Branch.any (w : World) (gb B ln n : Nat) (cs : Array Value) (a2 : ByteArray) (hv : CC cs) (hl : 0 < ln ∧ ln ≤ 65536) (hn : n ≤ 900) (hB : B ≤ w.heap.size) (h : Bus w gb B ln n) : Calls Try.prog 47 #[.pointer (some ⟨gb, 0, none⟩), .agg cs, .string a2] w fun e w1 => ∃ ds m, e = .returned (.agg ds) ∧ CC ds ∧ n ≤ m ∧ m ≤ n + 3 ∧ Bus w1 gb B ln m ∧ FB B w w1 := by
  have HV := Aside0.mk hv
  have HB := Aside0.mk (FB.refl B w)
  have HU := Aside0.mk h
  have HL := Aside0.mk hl
  have HN := Aside0.mk hn
  have HS := Aside0.mk hB
  clear hv h hl hn hB
  go_enter Try.func47, Try.ntmps47
  go_wp2_with (first
    | ((with_reducible refine gate_dst (N := 4) rfl ?_); refine c_box rfl rfl rfl rfl HV.out ?_; intro g hg w1 hc_ hb_; have GC := Aside0.mk (by rw [← hg]; exact HB.out.size : w.heap.size ≤ g); have n0_ := Aside0.mk (HB.out.trans (FB.of_below hb_)); have n1_ := Aside0.mk (HU.out.below_ hb_); clear HB HU; have HB := n0_; have HU := n1_; clear n0_ n1_; have BC := Aside0.mk hc_; clear hb_ hc_)
    | ((with_reducible refine gate_dst (N := 6) rfl ?_); refine c_alloc rfl rfl rfl ?_; intro gr hgr w1 hc_ hb_; have GR := Aside0.mk (by rw [← hgr]; exact HB.out.size : w.heap.size ≤ gr); have NE := Aside0.mk (by have := BC.out.lt; omega : gr ≠ g); have n0_ := Aside0.mk (BC.out.below_ hb_); have n1_ := Aside0.mk (HB.out.trans (FB.of_below hb_)); have n2_ := Aside0.mk (HU.out.below_ hb_); clear BC HB HU; have BC := n0_; have HB := n1_; have HU := n2_; clear n0_ n1_ n2_; have BR := Aside0.mk hc_; clear hb_ hc_)
    | ((with_reducible refine gate_load (t := 5) rfl ?_); first | (refine c_ld8 rfl rfl rfl (by decide) BC.out ?_; intro _ _) | (refine c_ld8 rfl rfl rfl (by decide) BR.out ?_; intro _ _))
    | ((with_reducible refine gate_st (t := 5) rfl ?_); first | (refine c_st8 rfl rfl rfl rfl (by decide) (by first | assumption | exact RB_mod _ | exact RB_bits _ _ _ | exact RB_wrap _ | (unfold RB; omega)) BC.out ?_; intro w1 hc_ hk_ hb_; have n0_ := Aside0.mk (hc_); have n1_ := Aside0.mk (BR.out.other NE.out hk_); have n2_ := Aside0.mk (HB.out.set GC.out hk_ hb_); have n3_ := Aside0.mk (HU.out.other BC.out hk_); clear BC BR HB HU; have BC := n0_; have BR := n1_; have HB := n2_; have HU := n3_; clear n0_ n1_ n2_ n3_; clear hc_ hk_ hb_) | (refine c_st8 rfl rfl rfl rfl (by decide) (by first | assumption | exact RB_mod _ | exact RB_bits _ _ _ | exact RB_wrap _ | (unfold RB; omega)) BR.out ?_; intro w1 hc_ hk_ hb_; have n0_ := Aside0.mk (hc_); have n1_ := Aside0.mk (BC.out.other NE.out.symm hk_); have n2_ := Aside0.mk (HB.out.set GR.out hk_ hb_); have n3_ := Aside0.mk (HU.out.other BR.out hk_); clear BR BC HB HU; have BR := n0_; have BC := n1_; have HB := n2_; have HU := n3_; clear n0_ n1_ n2_ n3_; clear hc_ hk_ hb_))
    | ((with_reducible refine gate_load (t := 24) rfl ?_); first | (refine c_ldp rfl rfl rfl BC.out ?_; intro _ _) | (refine c_ldp rfl rfl rfl BR.out ?_; intro _ _))
    | ((with_reducible refine gate_st (t := 24) rfl ?_); first | (refine c_stp rfl rfl rfl rfl (by first | assumption | exact RP_mod _ | exact RP_wrap _ | (unfold RP; omega)) BC.out ?_; intro w1 hc_ hk_ hb_; have n0_ := Aside0.mk (hc_); have n1_ := Aside0.mk (BR.out.other NE.out hk_); have n2_ := Aside0.mk (HB.out.set GC.out hk_ hb_); have n3_ := Aside0.mk (HU.out.other BC.out hk_); clear BC BR HB HU; have BC := n0_; have BR := n1_; have HB := n2_; have HU := n3_; clear n0_ n1_ n2_ n3_; clear hc_ hk_ hb_) | (refine c_stp rfl rfl rfl rfl (by first | assumption | exact RP_mod _ | exact RP_wrap _ | (unfold RP; omega)) BR.out ?_; intro w1 hc_ hk_ hb_; have n0_ := Aside0.mk (hc_); have n1_ := Aside0.mk (BC.out.other NE.out.symm hk_); have n2_ := Aside0.mk (HB.out.set GR.out hk_ hb_); have n3_ := Aside0.mk (HU.out.other BR.out hk_); clear BR BC HB HU; have BR := n0_; have BC := n1_; have HB := n2_; have HU := n3_; clear n0_ n1_ n2_ n3_; clear hc_ hk_ hb_))
    | ((with_reducible refine gate_load (t := 4) rfl ?_); first | (refine c_ldb rfl rfl rfl (by decide) BC.out ?_; intro _) | (refine c_ldb rfl rfl rfl (by decide) BR.out ?_; intro _))
    | ((with_reducible refine gate_st (t := 4) rfl ?_); first | (refine c_stb rfl rfl rfl rfl (by decide) BC.out ?_; intro w1 hc_ hk_ hb_; have n0_ := Aside0.mk (hc_); have n1_ := Aside0.mk (BR.out.other NE.out hk_); have n2_ := Aside0.mk (HB.out.set GC.out hk_ hb_); have n3_ := Aside0.mk (HU.out.other BC.out hk_); clear BC BR HB HU; have BC := n0_; have BR := n1_; have HB := n2_; have HU := n3_; clear n0_ n1_ n2_ n3_; clear hc_ hk_ hb_) | (refine c_stb rfl rfl rfl rfl (by decide) BR.out ?_; intro w1 hc_ hk_ hb_; have n0_ := Aside0.mk (hc_); have n1_ := Aside0.mk (BC.out.other NE.out.symm hk_); have n2_ := Aside0.mk (HB.out.set GR.out hk_ hb_); have n3_ := Aside0.mk (HU.out.other BR.out hk_); clear BR BC HB HU; have BR := n0_; have BC := n1_; have HB := n2_; have HU := n3_; clear n0_ n1_ n2_ n3_; clear hc_ hk_ hb_))
    | ((with_reducible refine gate_load (t := 26) rfl ?_); first | (refine c_ldF rfl rfl rfl BC.out ?_; rintro _ ⟨k0, k1, k2, k3, k4, k5, rfl⟩) | (refine c_ldF rfl rfl rfl BR.out ?_; rintro _ ⟨k0, k1, k2, k3, k4, k5, rfl⟩))
    | ((with_reducible refine gate_st (t := 26) rfl ?_); first | (refine c_stF rfl rfl rfl rfl ⟨_, _, _, _, _, _, rfl⟩ BC.out ?_; intro w1 hc_ hk_ hb_; have n0_ := Aside0.mk (hc_); have n1_ := Aside0.mk (BR.out.other NE.out hk_); have n2_ := Aside0.mk (HB.out.set GC.out hk_ hb_); have n3_ := Aside0.mk (HU.out.other BC.out hk_); clear BC BR HB HU; have BC := n0_; have BR := n1_; have HB := n2_; have HU := n3_; clear n0_ n1_ n2_ n3_; clear hc_ hk_ hb_) | (refine c_stF rfl rfl rfl rfl ⟨_, _, _, _, _, _, rfl⟩ BR.out ?_; intro w1 hc_ hk_ hb_; have n0_ := Aside0.mk (hc_); have n1_ := Aside0.mk (BC.out.other NE.out.symm hk_); have n2_ := Aside0.mk (HB.out.set GR.out hk_ hb_); have n3_ := Aside0.mk (HU.out.other BR.out hk_); clear BR BC HB HU; have BR := n0_; have BC := n1_; have HB := n2_; have HU := n3_; clear n0_ n1_ n2_ n3_; clear hc_ hk_ hb_))
    | ((with_reducible refine gate_load (t := 28) rfl ?_); first | (refine c_ldC rfl rfl rfl BC.out ?_; intro _ _) | (refine c_ldC rfl rfl rfl BR.out ?_; intro _ _))
    | ((with_reducible refine gate_st (t := 28) rfl ?_); first | (refine c_stC rfl rfl rfl rfl (by assumption) BC.out ?_; intro w1 hc_ hk_ hb_; have n0_ := Aside0.mk (hc_); have n1_ := Aside0.mk (BR.out.other NE.out hk_); have n2_ := Aside0.mk (HB.out.set GC.out hk_ hb_); have n3_ := Aside0.mk (HU.out.other BC.out hk_); clear BC BR HB HU; have BC := n0_; have BR := n1_; have HB := n2_; have HU := n3_; clear n0_ n1_ n2_ n3_; clear hc_ hk_ hb_) | (refine c_stC rfl rfl rfl rfl (by assumption) BR.out ?_; intro w1 hc_ hk_ hb_; have n0_ := Aside0.mk (hc_); have n1_ := Aside0.mk (BC.out.other NE.out.symm hk_); have n2_ := Aside0.mk (HB.out.set GR.out hk_ hb_); have n3_ := Aside0.mk (HU.out.other BR.out hk_); clear BR BC HB HU; have BR := n0_; have BC := n1_; have HB := n2_; have HU := n3_; clear n0_ n1_ n2_ n3_; clear hc_ hk_ hb_))
    | (go_at_call 59; refine (l06Holds.any _ _ _ _ _ _ _ _).mono ?_; rintro e w1 ⟨_, rfl, hb_⟩; have n0_ := Aside0.mk (BC.out.below_ hb_); have n1_ := Aside0.mk (BR.out.below_ hb_); have n2_ := Aside0.mk (HB.out.trans (FB.of_below hb_)); have n3_ := Aside0.mk (HU.out.below_ hb_); clear BC BR HB HU; have BC := n0_; have BR := n1_; have HB := n2_; have HU := n3_; clear n0_ n1_ n2_ n3_; clear hb_)
    | (go_at_call 60; refine (l04Offset.any _ (by first | assumption | exact RB_mod _ | exact RB_bits _ _ _ | exact RB_wrap _ | (unfold RB; omega)) _).mono ?_; rintro e w1 ⟨_, rfl, hb_⟩; have n0_ := Aside0.mk (BC.out.below_ hb_); have n1_ := Aside0.mk (BR.out.below_ hb_); have n2_ := Aside0.mk (HB.out.trans (FB.of_below hb_)); have n3_ := Aside0.mk (HU.out.below_ hb_); clear BC BR HB HU; have BC := n0_; have BR := n1_; have HB := n2_; have HU := n3_; clear n0_ n1_ n2_ n3_; clear hb_)
    | (go_at_call 41; refine (l06Read.any _ gb B ln _ _ HL.out (by have := HN.out; omega) (Nat.le_trans HS.out HB.out.size) HU.out).mono ?_; rintro e w1 ⟨_, rfl, _, hu_, hb_⟩; have n0_ := Aside0.mk (BC.out.fb hb_); have n1_ := Aside0.mk (BR.out.fb hb_); have n2_ := Aside0.mk (HB.out.trans hb_); have n3_ := Aside0.mk (hu_); clear BC BR HB HU; have BC := n0_; have BR := n1_; have HB := n2_; have HU := n3_; clear n0_ n1_ n2_ n3_; clear hu_ hb_)
    | ((with_reducible refine gate_ret ?_); refine c_ret rfl rfl rfl BR.out (fun ds hds => ?_); exact ⟨ds, _, rfl, hds, by omega, by omega, HU.out, HB.out⟩))
set_option maxHeartbeats 8000000 in
set_option maxRecDepth 100000 in
theorem l06Push.any (w : World) (gb B ln n : Nat) (cs : Array Value) (a2 : Int) (a3 : Bool) (a4 : Int) (hv : CC cs) (hl : 0 < ln ∧ ln ≤ 65536) (hn : n ≤ 950) (hB : B ≤ w.heap.size) (h : Bus w gb B ln n) : Calls Try.prog 42 #[.pointer (some ⟨gb, 0, none⟩), .agg cs, .int .i64 a2, .bool a3, .int .i64 a4] w fun e w1 => ∃ ds, e = .returned (.agg ds) ∧ CC ds ∧ Bus w1 gb B ln (n + 5) ∧ FB B w w1 := by
  have HV := Aside0.mk hv
  have HB := Aside0.mk (FB.refl B w)
  have HU := Aside0.mk h
  have HL := Aside0.mk hl
  have HN := Aside0.mk hn
  have HS := Aside0.mk hB
  clear hv h hl hn hB
  go_enter Try.func42, Try.ntmps42
  go_wp2_with (first
    | ((with_reducible refine gate_dst (N := 6) rfl ?_); refine c_box rfl rfl rfl rfl HV.out ?_; intro g hg w1 hc_ hb_; have GC := Aside0.mk (by rw [← hg]; exact HB.out.size : w.heap.size ≤ g); have n0_ := Aside0.mk (HB.out.trans (FB.of_below hb_)); have n1_ := Aside0.mk (HU.out.below_ hb_); clear HB HU; have HB := n0_; have HU := n1_; clear n0_ n1_; have BC := Aside0.mk hc_; clear hb_ hc_)
    | ((with_reducible refine gate_dst (N := 10) rfl ?_); refine c_alloc rfl rfl rfl ?_; intro gr hgr w1 hc_ hb_; have GR := Aside0.mk (by rw [← hgr]; exact HB.out.size : w.heap.size ≤ gr); have NE := Aside0.mk (by have := BC.out.lt; omega : gr ≠ g); have n0_ := Aside0.mk (BC.out.below_ hb_); have n1_ := Aside0.mk (HB.out.trans (FB.of_below hb_)); have n2_ := Aside0.mk (HU.out.below_ hb_); clear BC HB HU; have BC := n0_; have HB := n1_; have HU := n2_; clear n0_ n1_ n2_; have BR := Aside0.mk hc_; clear hb_ hc_)
    | ((with_reducible refine gate_load (t := 5) rfl ?_); first | (refine c_ld8 rfl rfl rfl (by decide) BC.out ?_; intro _ _) | (refine c_ld8 rfl rfl rfl (by decide) BR.out ?_; intro _ _))
    | ((with_reducible refine gate_st (t := 5) rfl ?_); first | (refine c_st8 rfl rfl rfl rfl (by decide) (by first | assumption | exact RB_mod _ | exact RB_bits _ _ _ | exact RB_wrap _ | (unfold RB; omega)) BC.out ?_; intro w1 hc_ hk_ hb_; have n0_ := Aside0.mk (hc_); have n1_ := Aside0.mk (BR.out.other NE.out hk_); have n2_ := Aside0.mk (HB.out.set GC.out hk_ hb_); have n3_ := Aside0.mk (HU.out.other BC.out hk_); clear BC BR HB HU; have BC := n0_; have BR := n1_; have HB := n2_; have HU := n3_; clear n0_ n1_ n2_ n3_; clear hc_ hk_ hb_) | (refine c_st8 rfl rfl rfl rfl (by decide) (by first | assumption | exact RB_mod _ | exact RB_bits _ _ _ | exact RB_wrap _ | (unfold RB; omega)) BR.out ?_; intro w1 hc_ hk_ hb_; have n0_ := Aside0.mk (hc_); have n1_ := Aside0.mk (BC.out.other NE.out.symm hk_); have n2_ := Aside0.mk (HB.out.set GR.out hk_ hb_); have n3_ := Aside0.mk (HU.out.other BR.out hk_); clear BR BC HB HU; have BR := n0_; have BC := n1_; have HB := n2_; have HU := n3_; clear n0_ n1_ n2_ n3_; clear hc_ hk_ hb_))
    | ((with_reducible refine gate_load (t := 24) rfl ?_); first | (refine c_ldp rfl rfl rfl BC.out ?_; intro _ _) | (refine c_ldp rfl rfl rfl BR.out ?_; intro _ _))
    | ((with_reducible refine gate_st (t := 24) rfl ?_); first | (refine c_stp rfl rfl rfl rfl (by first | assumption | exact RP_mod _ | exact RP_wrap _ | (unfold RP; omega)) BC.out ?_; intro w1 hc_ hk_ hb_; have n0_ := Aside0.mk (hc_); have n1_ := Aside0.mk (BR.out.other NE.out hk_); have n2_ := Aside0.mk (HB.out.set GC.out hk_ hb_); have n3_ := Aside0.mk (HU.out.other BC.out hk_); clear BC BR HB HU; have BC := n0_; have BR := n1_; have HB := n2_; have HU := n3_; clear n0_ n1_ n2_ n3_; clear hc_ hk_ hb_) | (refine c_stp rfl rfl rfl rfl (by first | assumption | exact RP_mod _ | exact RP_wrap _ | (unfold RP; omega)) BR.out ?_; intro w1 hc_ hk_ hb_; have n0_ := Aside0.mk (hc_); have n1_ := Aside0.mk (BC.out.other NE.out.symm hk_); have n2_ := Aside0.mk (HB.out.set GR.out hk_ hb_); have n3_ := Aside0.mk (HU.out.other BR.out hk_); clear BR BC HB HU; have BR := n0_; have BC := n1_; have HB := n2_; have HU := n3_; clear n0_ n1_ n2_ n3_; clear hc_ hk_ hb_))
    | ((with_reducible refine gate_load (t := 4) rfl ?_); first | (refine c_ldb rfl rfl rfl (by decide) BC.out ?_; intro _) | (refine c_ldb rfl rfl rfl (by decide) BR.out ?_; intro _))
    | ((with_reducible refine gate_st (t := 4) rfl ?_); first | (refine c_stb rfl rfl rfl rfl (by decide) BC.out ?_; intro w1 hc_ hk_ hb_; have n0_ := Aside0.mk (hc_); have n1_ := Aside0.mk (BR.out.other NE.out hk_); have n2_ := Aside0.mk (HB.out.set GC.out hk_ hb_); have n3_ := Aside0.mk (HU.out.other BC.out hk_); clear BC BR HB HU; have BC := n0_; have BR := n1_; have HB := n2_; have HU := n3_; clear n0_ n1_ n2_ n3_; clear hc_ hk_ hb_) | (refine c_stb rfl rfl rfl rfl (by decide) BR.out ?_; intro w1 hc_ hk_ hb_; have n0_ := Aside0.mk (hc_); have n1_ := Aside0.mk (BC.out.other NE.out.symm hk_); have n2_ := Aside0.mk (HB.out.set GR.out hk_ hb_); have n3_ := Aside0.mk (HU.out.other BR.out hk_); clear BR BC HB HU; have BR := n0_; have BC := n1_; have HB := n2_; have HU := n3_; clear n0_ n1_ n2_ n3_; clear hc_ hk_ hb_))
    | ((with_reducible refine gate_load (t := 26) rfl ?_); first | (refine c_ldF rfl rfl rfl BC.out ?_; rintro _ ⟨k0, k1, k2, k3, k4, k5, rfl⟩) | (refine c_ldF rfl rfl rfl BR.out ?_; rintro _ ⟨k0, k1, k2, k3, k4, k5, rfl⟩))
    | ((with_reducible refine gate_st (t := 26) rfl ?_); first | (refine c_stF rfl rfl rfl rfl ⟨_, _, _, _, _, _, rfl⟩ BC.out ?_; intro w1 hc_ hk_ hb_; have n0_ := Aside0.mk (hc_); have n1_ := Aside0.mk (BR.out.other NE.out hk_); have n2_ := Aside0.mk (HB.out.set GC.out hk_ hb_); have n3_ := Aside0.mk (HU.out.other BC.out hk_); clear BC BR HB HU; have BC := n0_; have BR := n1_; have HB := n2_; have HU := n3_; clear n0_ n1_ n2_ n3_; clear hc_ hk_ hb_) | (refine c_stF rfl rfl rfl rfl ⟨_, _, _, _, _, _, rfl⟩ BR.out ?_; intro w1 hc_ hk_ hb_; have n0_ := Aside0.mk (hc_); have n1_ := Aside0.mk (BC.out.other NE.out.symm hk_); have n2_ := Aside0.mk (HB.out.set GR.out hk_ hb_); have n3_ := Aside0.mk (HU.out.other BR.out hk_); clear BR BC HB HU; have BR := n0_; have BC := n1_; have HB := n2_; have HU := n3_; clear n0_ n1_ n2_ n3_; clear hc_ hk_ hb_))
    | ((with_reducible refine gate_load (t := 28) rfl ?_); first | (refine c_ldC rfl rfl rfl BC.out ?_; intro _ _) | (refine c_ldC rfl rfl rfl BR.out ?_; intro _ _))
    | ((with_reducible refine gate_st (t := 28) rfl ?_); first | (refine c_stC rfl rfl rfl rfl (by assumption) BC.out ?_; intro w1 hc_ hk_ hb_; have n0_ := Aside0.mk (hc_); have n1_ := Aside0.mk (BR.out.other NE.out hk_); have n2_ := Aside0.mk (HB.out.set GC.out hk_ hb_); have n3_ := Aside0.mk (HU.out.other BC.out hk_); clear BC BR HB HU; have BC := n0_; have BR := n1_; have HB := n2_; have HU := n3_; clear n0_ n1_ n2_ n3_; clear hc_ hk_ hb_) | (refine c_stC rfl rfl rfl rfl (by assumption) BR.out ?_; intro w1 hc_ hk_ hb_; have n0_ := Aside0.mk (hc_); have n1_ := Aside0.mk (BC.out.other NE.out.symm hk_); have n2_ := Aside0.mk (HB.out.set GR.out hk_ hb_); have n3_ := Aside0.mk (HU.out.other BR.out hk_); clear BR BC HB HU; have BR := n0_; have BC := n1_; have HB := n2_; have HU := n3_; clear n0_ n1_ n2_ n3_; clear hc_ hk_ hb_))
    | (go_at_call 52; refine (l06Stack.any _ _).mono ?_; rintro e w1 ⟨_, rfl, hb_⟩; have n0_ := Aside0.mk (BC.out.below_ hb_); have n1_ := Aside0.mk (BR.out.below_ hb_); have n2_ := Aside0.mk (HB.out.trans (FB.of_below hb_)); have n3_ := Aside0.mk (HU.out.below_ hb_); clear BC BR HB HU; have BC := n0_; have BR := n1_; have HB := n2_; have HU := n3_; clear n0_ n1_ n2_ n3_; clear hb_)
    | (go_at_call 53; refine (PackP.any _ _ _ _ _ _ _ _).mono ?_; rintro e w1 ⟨_, rfl, _, hb_⟩; have n0_ := Aside0.mk (BC.out.below_ hb_); have n1_ := Aside0.mk (BR.out.below_ hb_); have n2_ := Aside0.mk (HB.out.trans (FB.of_below hb_)); have n3_ := Aside0.mk (HU.out.below_ hb_); clear BC BR HB HU; have BC := n0_; have BR := n1_; have HB := n2_; have HU := n3_; clear n0_ n1_ n2_ n3_; clear hb_)
    | (go_at_call 54; refine (l04Word.any _ _ (by first | assumption | exact RB_mod _ | exact RB_bits _ _ _ | exact RB_wrap _ | (unfold RB; omega)) (by first | assumption | exact RB_mod _ | exact RB_bits _ _ _ | exact RB_wrap _ | (unfold RB; omega)) _).mono ?_; rintro e w1 ⟨_, rfl, hb_⟩; have n0_ := Aside0.mk (BC.out.below_ hb_); have n1_ := Aside0.mk (BR.out.below_ hb_); have n2_ := Aside0.mk (HB.out.trans (FB.of_below hb_)); have n3_ := Aside0.mk (HU.out.below_ hb_); clear BC BR HB HU; have BC := n0_; have BR := n1_; have HB := n2_; have HU := n3_; clear n0_ n1_ n2_ n3_; clear hb_)
    | (go_at_call 41; refine (l06Read.any _ gb B ln _ _ HL.out (by have := HN.out; omega) (Nat.le_trans HS.out HB.out.size) HU.out).mono ?_; rintro e w1 ⟨_, rfl, _, hu_, hb_⟩; have n0_ := Aside0.mk (BC.out.fb hb_); have n1_ := Aside0.mk (BR.out.fb hb_); have n2_ := Aside0.mk (HB.out.trans hb_); have n3_ := Aside0.mk (hu_); clear BC BR HB HU; have BC := n0_; have BR := n1_; have HB := n2_; have HU := n3_; clear n0_ n1_ n2_ n3_; clear hu_ hb_)
    | (go_at_call 51; refine (l06Write.any _ gb B ln _ _ _ (by first | assumption | exact RB_mod _ | exact RB_bits _ _ _ | exact RB_wrap _ | (unfold RB; omega)) HL.out (by have := HN.out; omega) (Nat.le_trans HS.out HB.out.size) HU.out).mono ?_; rintro e w1 ⟨rfl, hu_, hb_⟩; have n0_ := Aside0.mk (BC.out.fb hb_); have n1_ := Aside0.mk (BR.out.fb hb_); have n2_ := Aside0.mk (HB.out.trans hb_); have n3_ := Aside0.mk (hu_); clear BC BR HB HU; have BC := n0_; have BR := n1_; have HB := n2_; have HU := n3_; clear n0_ n1_ n2_ n3_; clear hu_ hb_)
    | ((with_reducible refine gate_region (id := 4) ?_)
       obtain ⟨cs0, hbc, hcc⟩ := BC.out
       have HCC := Aside0.mk hcc
       obtain ⟨Ac, X0, Y0, S0, P0, e0, e1, e2, e3, e4, e5, rfl, hA0, hX0, hY0, hS0, hP0⟩ := hcc
       refine start_k (n := 9) (S := fun w' => w'.heap[g]? = some (.cells #[.int .u8 Ac, .int .u8 X0, .int .u8 Y0, .int .u8 S0, .int .u16 P0, .bool e0, .bool e1, .bool e2, .bool e3, .bool e4, .bool e5] 28 (0, 0))) (ds := []) #[false, false, false, false, false, false, false, false, false] (by kernel_rfl) rfl rfl hbc (fun w1 he hs => by rw [he]; exact hs) ?_
       intro w1 hHeld hb_
       have n0_ := Aside0.mk (BC.out.below_ hb_); have n1_ := Aside0.mk (BR.out.below_ hb_); have n2_ := Aside0.mk (HB.out.trans (FB.of_below hb_)); have n3_ := Aside0.mk (HU.out.below_ hb_); clear BC BR HB HU; have BC := n0_; have BR := n1_; have HB := n2_; have HU := n3_; clear n0_ n1_ n2_ n3_
       clear hb_ hbc
       refine pure_ (i := 0) (N := some 32) (v := ?_) (a' := ?_) #[true, false, false, false, false, false, false, false, false] rfl rfl (by kernel_rfl) (fun _ _ _ h => h) (Or.inl ⟨by rfl, ?_⟩) ?_ ?_
       rotate_left
       · intro w'
         go_simp
         with_reducible rfl
       rotate_left
       · simp only [Act.put, List.setIfInBounds_toArray, List.set_cons_zero, List.set_cons_succ, i64_w, i32_w]
         rfl
       refine pure_ (i := 1) (N := some 33) (v := ?_) (a' := ?_) #[true, true, false, false, false, false, false, false, false] rfl rfl (by kernel_rfl) (fun _ _ _ h => h) (Or.inl ⟨by rfl, ?_⟩) ?_ ?_
       rotate_left
       · intro w'
         go_simp
         with_reducible rfl
       rotate_left
       · simp only [Act.put, List.setIfInBounds_toArray, List.set_cons_zero, List.set_cons_succ, i64_w, i32_w]
         rfl
       refine pure_ (i := 2) (N := some 34) (v := ?_) (a' := ?_) #[true, true, true, false, false, false, false, false, false] rfl rfl (by kernel_rfl) (fun _ _ _ h => h) (Or.inl ⟨by rfl, ?_⟩) ?_ ?_
       rotate_left
       · intro w'
         go_simp
         with_reducible rfl
       rotate_left
       · simp only [Act.put, List.setIfInBounds_toArray, List.set_cons_zero, List.set_cons_succ, i64_w, i32_w]
         rfl
       refine pure_ (i := 4) (N := some 36) (v := ?_) (a' := ?_) #[true, true, true, false, true, false, false, false, false] rfl rfl (by kernel_rfl) (fun _ _ _ h => h) (Or.inl ⟨by rfl, ?_⟩) ?_ ?_
       rotate_left
       · intro w'
         go_simp
         with_reducible rfl
       rotate_left
       · simp only [Act.put, List.setIfInBounds_toArray, List.set_cons_zero, List.set_cons_succ, i64_w, i32_w]
         rfl
       refine take_ (i := 5) (N := some 37) (v := ?_) (a' := ?_) #[true, true, true, false, true, true, false, false, false] rfl rfl (by kernel_rfl) (fun _ _ _ h => h) (Or.inl ⟨by rfl, ?_⟩) hHeld ?_ ?_
       rotate_left
       · intro w' s0
         have s1 : w'.cell? ⟨g, 0, none⟩ = some (.int .u8 Ac) := (blk_cell s0 0).trans rfl
         have s2 : w'.cell? ⟨g, 1, none⟩ = some (.int .u8 X0) := (blk_cell s0 1).trans rfl
         have s3 : w'.cell? ⟨g, 2, none⟩ = some (.int .u8 Y0) := (blk_cell s0 2).trans rfl
         have s4 : w'.cell? ⟨g, 3, none⟩ = some (.int .u8 S0) := (blk_cell s0 3).trans rfl
         have s5 : w'.cell? ⟨g, 4, none⟩ = some (.int .u16 P0) := (blk_cell s0 4).trans rfl
         have s6 : w'.cell? ⟨g, 5, none⟩ = some (.bool e0) := (blk_cell s0 5).trans rfl
         have s7 : w'.cell? ⟨g, 6, none⟩ = some (.bool e1) := (blk_cell s0 6).trans rfl
         have s8 : w'.cell? ⟨g, 7, none⟩ = some (.bool e2) := (blk_cell s0 7).trans rfl
         have s9 : w'.cell? ⟨g, 8, none⟩ = some (.bool e3) := (blk_cell s0 8).trans rfl
         have s10 : w'.cell? ⟨g, 9, none⟩ = some (.bool e4) := (blk_cell s0 9).trans rfl
         have s11 : w'.cell? ⟨g, 10, none⟩ = some (.bool e5) := (blk_cell s0 10).trans rfl
         go_simp
         with_reducible rfl
       rotate_left
       · simp only [Act.put, List.setIfInBounds_toArray, List.set_cons_zero, List.set_cons_succ, i64_w, i32_w]
         rfl
       refine pure_ (i := 6) (N := some 38) (v := ?_) (a' := ?_) #[true, true, true, false, true, true, true, false, false] rfl rfl (by kernel_rfl) (fun _ _ _ h => h) (Or.inl ⟨by rfl, ?_⟩) ?_ ?_
       rotate_left
       · intro w'
         go_simp
         with_reducible rfl
       rotate_left
       · simp only [Act.put, List.setIfInBounds_toArray, List.set_cons_zero, List.set_cons_succ, i64_w, i32_w]
         rfl
       refine one_ (i := 3) (N := some 35) #[true, true, true, true, true, true, true, false, false] rfl rfl (by kernel_rfl) (by decide) (fun K hK => ?_)
       refine goes_ Try.func52 (by kernel_rfl) rfl #[.int .i64 _] (by rfl) rfl rfl (by (try simp only [List.map_toArray, List.map_cons, List.map_nil]); first | done | rfl) ?_
       with_reducible refine (l06Stack.any _ _).mono ?_
       rintro e w1 ⟨z1, rfl, hb_⟩
       refine ⟨_, rfl, ?_⟩
       replace hHeld := blk_below hHeld hb_
       have n0_ := Aside0.mk (BC.out.below_ hb_); have n1_ := Aside0.mk (BR.out.below_ hb_); have n2_ := Aside0.mk (HB.out.trans (FB.of_below hb_)); have n3_ := Aside0.mk (HU.out.below_ hb_); clear BC BR HB HU; have BC := n0_; have BR := n1_; have HB := n2_; have HU := n3_; clear n0_ n1_ n2_ n3_
       clear hb_
       refine hK.out _ _ hHeld (fun _ => ?_)
       clear hK K
       refine norm_ (a' := ?_) ?_ ?_
       rotate_left
       · show Act.put _ (some 35) _ = _
         simp only [Act.put, List.setIfInBounds_toArray, List.set_cons_zero, List.set_cons_succ, i64_w, i32_w]
         rfl
       refine one_ (i := 7) (N := some 39) #[true, true, true, true, true, true, true, true, false] rfl rfl (by kernel_rfl) (by decide) (fun K hK => ?_)
       refine goes_ Try.func53 (by kernel_rfl) rfl #[.agg #[.bool _, .bool _, .bool _, .bool _, .bool _, .bool _], .bool _] (by rfl) rfl rfl (by (try simp only [List.map_toArray, List.map_cons, List.map_nil]); first | done | rfl) ?_
       with_reducible refine (PackP.any _ _ _ _ _ _ _ _).mono ?_
       rintro e w1 ⟨z2, rfl, hz2, hb_⟩
       refine ⟨_, rfl, ?_⟩
       replace hHeld := blk_below hHeld hb_
       have n0_ := Aside0.mk (BC.out.below_ hb_); have n1_ := Aside0.mk (BR.out.below_ hb_); have n2_ := Aside0.mk (HB.out.trans (FB.of_below hb_)); have n3_ := Aside0.mk (HU.out.below_ hb_); clear BC BR HB HU; have BC := n0_; have BR := n1_; have HB := n2_; have HU := n3_; clear n0_ n1_ n2_ n3_
       clear hb_
       refine hK.out _ _ hHeld (fun _ => ?_)
       clear hK K
       refine norm_ (a' := ?_) ?_ ?_
       rotate_left
       · show Act.put _ (some 39) _ = _
         simp only [Act.put, List.setIfInBounds_toArray, List.set_cons_zero, List.set_cons_succ, i64_w, i32_w]
         rfl
       refine one_ (i := 8) (N := some 40) #[true, true, true, true, true, true, true, true, true] rfl rfl (by kernel_rfl) (by decide) (fun K hK => ?_)
       refine goes_ Try.func51 (by kernel_rfl) rfl #[.pointer (some ⟨gb, 0, none⟩), .int .i64 _, .int .u8 _] (by rfl) rfl rfl (by (try simp only [List.map_toArray, List.map_cons, List.map_nil]); first | done | rfl) ?_
       with_reducible refine (l06Write.any _ gb B ln _ _ _ (by first | assumption | exact RB_mod _ | exact RB_bits _ _ _ | exact RB_wrap _ | (unfold RB; omega)) HL.out (by have := HN.out; omega) (Nat.le_trans HS.out HB.out.size) HU.out).mono ?_
       rintro e w1 ⟨rfl, hu_, hb_⟩
       refine ⟨_, rfl, ?_⟩
       replace hHeld := (hb_.block _ (blk_lt hHeld) (.inr ⟨_, _, hHeld, by decide, by decide, by decide⟩)).trans hHeld
       have n0_ := Aside0.mk (BC.out.fb hb_); have n1_ := Aside0.mk (BR.out.fb hb_); have n2_ := Aside0.mk (HB.out.trans hb_); have n3_ := Aside0.mk (hu_); clear BC BR HB HU; have BC := n0_; have BR := n1_; have HB := n2_; have HU := n3_; clear n0_ n1_ n2_ n3_
       clear hb_ hu_
       refine hK.out _ _ hHeld (fun _ => ?_)
       clear hK K
       refine norm_ (a' := ?_) ?_ ?_
       rotate_left
       · show Act.put _ (some 40) _ = _
         simp only [Act.put, List.setIfInBounds_toArray, List.set_cons_zero, List.set_cons_succ, i64_w, i32_w]
         rfl
       refine done_ (by kernel_rfl) ?_
       clear hHeld)
    | ((with_reducible refine gate_ret ?_); refine c_ret rfl rfl rfl BR.out (fun ds hds => ?_); exact ⟨ds, rfl, hds, HU.out, HB.out⟩))
theorem l06Index.cc (cs : Array Value) (a1 : Int) (hv : CC cs) (w : World) : Calls Try.prog 77 #[.agg cs, .int .i64 a1] w fun e w1 => ∃ r, e = .returned (.int .i64 r) ∧ Below w.heap.size w w1 := by
  obtain ⟨a, x, y, s, p, f0, f1, f2, f3, f4, f5, rfl, h0, h1, h2, h3, h4⟩ := hv
  exact l06Index.any _ _ _ _ _ _ _ _ _ _ _ _ h0 h1 h2 h3 w
theorem l06Reg.cc (cs : Array Value) (a1 : ByteArray) (hv : CC cs) (w : World) : Calls Try.prog 63 #[.agg cs, .string a1] w fun e w1 => ∃ r, e = .returned (.int .u8 r) ∧ RB r ∧ Below w.heap.size w w1 := by
  obtain ⟨a, x, y, s, p, f0, f1, f2, f3, f4, f5, rfl, h0, h1, h2, h3, h4⟩ := hv
  exact l06Reg.any _ _ _ _ _ _ _ _ _ _ _ _ h0 h1 h2 h3 w
set_option maxHeartbeats 8000000 in
set_option maxRecDepth 100000 in
theorem l06Place.any (w : World) (gb B ln n : Nat) (cs : Array Value) (a2 a3 : Int) (hv : CC cs) (hl : 0 < ln ∧ ln ≤ 65536) (hn : n ≤ 950) (hB : B ≤ w.heap.size) (h : Bus w gb B ln n) : Calls Try.prog 62 #[.pointer (some ⟨gb, 0, none⟩), .agg cs, .int .i64 a2, .int .i64 a3] w fun e w1 => ∃ r m, e = .returned (.int .i64 r) ∧ n ≤ m ∧ m ≤ n + 5 ∧ Bus w1 gb B ln m ∧ FB B w w1 := by
  have HV := Aside0.mk hv
  have HB := Aside0.mk (FB.refl B w)
  have HU := Aside0.mk h
  have HL := Aside0.mk hl
  have HN := Aside0.mk hn
  have HS := Aside0.mk hB
  clear h hl hn hB
  go_enter Try.func62, Try.ntmps62
  go_wp2_with (first
    | ((with_reducible refine gate_dst (N := 5) rfl ?_); refine c_box rfl rfl rfl rfl HV.out ?_; intro g hg w1 hc_ hb_; have GC := Aside0.mk (by rw [← hg]; exact HB.out.size : w.heap.size ≤ g); have n0_ := Aside0.mk (HB.out.trans (FB.of_below hb_)); have n1_ := Aside0.mk (HU.out.below_ hb_); clear HB HU; have HB := n0_; have HU := n1_; clear n0_ n1_; have BC := Aside0.mk hc_; clear hb_ hc_)
    | ((with_reducible refine gate_load (t := 5) rfl ?_); first | (refine c_ld8 rfl rfl rfl (by decide) BC.out ?_; intro _ _))
    | ((with_reducible refine gate_st (t := 5) rfl ?_); first | (refine c_st8 rfl rfl rfl rfl (by decide) (by first | assumption | exact RB_mod _ | exact RB_bits _ _ _ | exact RB_wrap _ | (unfold RB; omega)) BC.out ?_; intro w1 hc_ hk_ hb_; have n0_ := Aside0.mk (hc_); have n1_ := Aside0.mk (HB.out.set GC.out hk_ hb_); have n2_ := Aside0.mk (HU.out.other BC.out hk_); clear BC HB HU; have BC := n0_; have HB := n1_; have HU := n2_; clear n0_ n1_ n2_; clear hc_ hk_ hb_))
    | ((with_reducible refine gate_load (t := 24) rfl ?_); first | (refine c_ldp rfl rfl rfl BC.out ?_; intro _ _))
    | ((with_reducible refine gate_st (t := 24) rfl ?_); first | (refine c_stp rfl rfl rfl rfl (by first | assumption | exact RP_mod _ | exact RP_wrap _ | (unfold RP; omega)) BC.out ?_; intro w1 hc_ hk_ hb_; have n0_ := Aside0.mk (hc_); have n1_ := Aside0.mk (HB.out.set GC.out hk_ hb_); have n2_ := Aside0.mk (HU.out.other BC.out hk_); clear BC HB HU; have BC := n0_; have HB := n1_; have HU := n2_; clear n0_ n1_ n2_; clear hc_ hk_ hb_))
    | ((with_reducible refine gate_load (t := 4) rfl ?_); first | (refine c_ldb rfl rfl rfl (by decide) BC.out ?_; intro _))
    | ((with_reducible refine gate_st (t := 4) rfl ?_); first | (refine c_stb rfl rfl rfl rfl (by decide) BC.out ?_; intro w1 hc_ hk_ hb_; have n0_ := Aside0.mk (hc_); have n1_ := Aside0.mk (HB.out.set GC.out hk_ hb_); have n2_ := Aside0.mk (HU.out.other BC.out hk_); clear BC HB HU; have BC := n0_; have HB := n1_; have HU := n2_; clear n0_ n1_ n2_; clear hc_ hk_ hb_))
    | ((with_reducible refine gate_load (t := 26) rfl ?_); first | (refine c_ldF rfl rfl rfl BC.out ?_; rintro _ ⟨k0, k1, k2, k3, k4, k5, rfl⟩))
    | ((with_reducible refine gate_st (t := 26) rfl ?_); first | (refine c_stF rfl rfl rfl rfl ⟨_, _, _, _, _, _, rfl⟩ BC.out ?_; intro w1 hc_ hk_ hb_; have n0_ := Aside0.mk (hc_); have n1_ := Aside0.mk (HB.out.set GC.out hk_ hb_); have n2_ := Aside0.mk (HU.out.other BC.out hk_); clear BC HB HU; have BC := n0_; have HB := n1_; have HU := n2_; clear n0_ n1_ n2_; clear hc_ hk_ hb_))
    | ((with_reducible refine gate_load (t := 28) rfl ?_); first | (refine c_ldC rfl rfl rfl BC.out ?_; intro _ _))
    | ((with_reducible refine gate_st (t := 28) rfl ?_); first | (refine c_stC rfl rfl rfl rfl (by assumption) BC.out ?_; intro w1 hc_ hk_ hb_; have n0_ := Aside0.mk (hc_); have n1_ := Aside0.mk (HB.out.set GC.out hk_ hb_); have n2_ := Aside0.mk (HU.out.other BC.out hk_); clear BC HB HU; have BC := n0_; have HB := n1_; have HU := n2_; clear n0_ n1_ n2_; clear hc_ hk_ hb_))
    | (go_at_call 54; refine (l04Word.any _ _ (by first | assumption | exact RB_mod _ | exact RB_bits _ _ _ | exact RB_wrap _ | (unfold RB; omega)) (by first | assumption | exact RB_mod _ | exact RB_bits _ _ _ | exact RB_wrap _ | (unfold RB; omega)) _).mono ?_; rintro e w1 ⟨_, rfl, hb_⟩; have n0_ := Aside0.mk (BC.out.below_ hb_); have n1_ := Aside0.mk (HB.out.trans (FB.of_below hb_)); have n2_ := Aside0.mk (HU.out.below_ hb_); clear BC HB HU; have BC := n0_; have HB := n1_; have HU := n2_; clear n0_ n1_ n2_; clear hb_)
    | (go_at_call 77; refine (l06Index.cc _ _ (by assumption) _).mono ?_; rintro e w1 ⟨_, rfl, hb_⟩; have n0_ := Aside0.mk (BC.out.below_ hb_); have n1_ := Aside0.mk (HB.out.trans (FB.of_below hb_)); have n2_ := Aside0.mk (HU.out.below_ hb_); clear BC HB HU; have BC := n0_; have HB := n1_; have HU := n2_; clear n0_ n1_ n2_; clear hb_)
    | (go_at_call 41; refine (l06Read.any _ gb B ln _ _ HL.out (by have := HN.out; omega) (Nat.le_trans HS.out HB.out.size) HU.out).mono ?_; rintro e w1 ⟨_, rfl, _, hu_, hb_⟩; have n0_ := Aside0.mk (BC.out.fb hb_); have n1_ := Aside0.mk (HB.out.trans hb_); have n2_ := Aside0.mk (hu_); clear BC HB HU; have BC := n0_; have HB := n1_; have HU := n2_; clear n0_ n1_ n2_; clear hu_ hb_)
    | ((with_reducible refine gate_ret ?_); refine bodyPost_ret (results_tmp rfl _ _ _) rfl ?_; exact ⟨_, _, rfl, by omega, by omega, HU.out, HB.out⟩))
set_option maxHeartbeats 8000000 in
set_option maxRecDepth 100000 in
theorem l06Hold.any (w : World) (gb B ln n : Nat) (cs : Array Value) (a2 : ByteArray) (hv : CC cs) (hl : 0 < ln ∧ ln ≤ 65536) (hn : n ≤ 950) (hB : B ≤ w.heap.size) (h : Bus w gb B ln n) : Calls Try.prog 64 #[.pointer (some ⟨gb, 0, none⟩), .agg cs, .string a2] w fun e w1 => ∃ ds m, e = .returned (.agg ds) ∧ CC ds ∧ n ≤ m ∧ m ≤ n + 3 ∧ Bus w1 gb B ln m ∧ FB B w w1 := by
  have HV := Aside0.mk hv
  have HB := Aside0.mk (FB.refl B w)
  have HU := Aside0.mk h
  have HL := Aside0.mk hl
  have HN := Aside0.mk hn
  have HS := Aside0.mk hB
  clear h hl hn hB
  clear hv
  go_enter Try.func64, Try.ntmps64
  go_wp2_with (first
    | ((with_reducible refine gate_dst (N := 4) rfl ?_); refine c_box rfl rfl rfl rfl HV.out ?_; intro g hg w1 hc_ hb_; have GC := Aside0.mk (by rw [← hg]; exact HB.out.size : w.heap.size ≤ g); have n0_ := Aside0.mk (HB.out.trans (FB.of_below hb_)); have n1_ := Aside0.mk (HU.out.below_ hb_); clear HB HU; have HB := n0_; have HU := n1_; clear n0_ n1_; have BC := Aside0.mk hc_; clear hb_ hc_)
    | ((with_reducible refine gate_dst (N := 6) rfl ?_); refine c_alloc rfl rfl rfl ?_; intro gr hgr w1 hc_ hb_; have GR := Aside0.mk (by rw [← hgr]; exact HB.out.size : w.heap.size ≤ gr); have NE := Aside0.mk (by have := BC.out.lt; omega : gr ≠ g); have n0_ := Aside0.mk (BC.out.below_ hb_); have n1_ := Aside0.mk (HB.out.trans (FB.of_below hb_)); have n2_ := Aside0.mk (HU.out.below_ hb_); clear BC HB HU; have BC := n0_; have HB := n1_; have HU := n2_; clear n0_ n1_ n2_; have BR := Aside0.mk hc_; clear hb_ hc_)
    | ((with_reducible refine gate_load (t := 5) rfl ?_); first | (refine c_ld8 rfl rfl rfl (by decide) BC.out ?_; intro _ _) | (refine c_ld8 rfl rfl rfl (by decide) BR.out ?_; intro _ _))
    | ((with_reducible refine gate_st (t := 5) rfl ?_); first | (refine c_st8 rfl rfl rfl rfl (by decide) (by first | assumption | exact RB_mod _ | exact RB_bits _ _ _ | exact RB_wrap _ | (unfold RB; omega)) BC.out ?_; intro w1 hc_ hk_ hb_; have n0_ := Aside0.mk (hc_); have n1_ := Aside0.mk (BR.out.other NE.out hk_); have n2_ := Aside0.mk (HB.out.set GC.out hk_ hb_); have n3_ := Aside0.mk (HU.out.other BC.out hk_); clear BC BR HB HU; have BC := n0_; have BR := n1_; have HB := n2_; have HU := n3_; clear n0_ n1_ n2_ n3_; clear hc_ hk_ hb_) | (refine c_st8 rfl rfl rfl rfl (by decide) (by first | assumption | exact RB_mod _ | exact RB_bits _ _ _ | exact RB_wrap _ | (unfold RB; omega)) BR.out ?_; intro w1 hc_ hk_ hb_; have n0_ := Aside0.mk (hc_); have n1_ := Aside0.mk (BC.out.other NE.out.symm hk_); have n2_ := Aside0.mk (HB.out.set GR.out hk_ hb_); have n3_ := Aside0.mk (HU.out.other BR.out hk_); clear BR BC HB HU; have BR := n0_; have BC := n1_; have HB := n2_; have HU := n3_; clear n0_ n1_ n2_ n3_; clear hc_ hk_ hb_))
    | ((with_reducible refine gate_load (t := 24) rfl ?_); first | (refine c_ldp rfl rfl rfl BC.out ?_; intro _ _) | (refine c_ldp rfl rfl rfl BR.out ?_; intro _ _))
    | ((with_reducible refine gate_st (t := 24) rfl ?_); first | (refine c_stp rfl rfl rfl rfl (by first | assumption | exact RP_mod _ | exact RP_wrap _ | (unfold RP; omega)) BC.out ?_; intro w1 hc_ hk_ hb_; have n0_ := Aside0.mk (hc_); have n1_ := Aside0.mk (BR.out.other NE.out hk_); have n2_ := Aside0.mk (HB.out.set GC.out hk_ hb_); have n3_ := Aside0.mk (HU.out.other BC.out hk_); clear BC BR HB HU; have BC := n0_; have BR := n1_; have HB := n2_; have HU := n3_; clear n0_ n1_ n2_ n3_; clear hc_ hk_ hb_) | (refine c_stp rfl rfl rfl rfl (by first | assumption | exact RP_mod _ | exact RP_wrap _ | (unfold RP; omega)) BR.out ?_; intro w1 hc_ hk_ hb_; have n0_ := Aside0.mk (hc_); have n1_ := Aside0.mk (BC.out.other NE.out.symm hk_); have n2_ := Aside0.mk (HB.out.set GR.out hk_ hb_); have n3_ := Aside0.mk (HU.out.other BR.out hk_); clear BR BC HB HU; have BR := n0_; have BC := n1_; have HB := n2_; have HU := n3_; clear n0_ n1_ n2_ n3_; clear hc_ hk_ hb_))
    | ((with_reducible refine gate_load (t := 4) rfl ?_); first | (refine c_ldb rfl rfl rfl (by decide) BC.out ?_; intro _) | (refine c_ldb rfl rfl rfl (by decide) BR.out ?_; intro _))
    | ((with_reducible refine gate_st (t := 4) rfl ?_); first | (refine c_stb rfl rfl rfl rfl (by decide) BC.out ?_; intro w1 hc_ hk_ hb_; have n0_ := Aside0.mk (hc_); have n1_ := Aside0.mk (BR.out.other NE.out hk_); have n2_ := Aside0.mk (HB.out.set GC.out hk_ hb_); have n3_ := Aside0.mk (HU.out.other BC.out hk_); clear BC BR HB HU; have BC := n0_; have BR := n1_; have HB := n2_; have HU := n3_; clear n0_ n1_ n2_ n3_; clear hc_ hk_ hb_) | (refine c_stb rfl rfl rfl rfl (by decide) BR.out ?_; intro w1 hc_ hk_ hb_; have n0_ := Aside0.mk (hc_); have n1_ := Aside0.mk (BC.out.other NE.out.symm hk_); have n2_ := Aside0.mk (HB.out.set GR.out hk_ hb_); have n3_ := Aside0.mk (HU.out.other BR.out hk_); clear BR BC HB HU; have BR := n0_; have BC := n1_; have HB := n2_; have HU := n3_; clear n0_ n1_ n2_ n3_; clear hc_ hk_ hb_))
    | ((with_reducible refine gate_load (t := 26) rfl ?_); first | (refine c_ldF rfl rfl rfl BC.out ?_; rintro _ ⟨k0, k1, k2, k3, k4, k5, rfl⟩) | (refine c_ldF rfl rfl rfl BR.out ?_; rintro _ ⟨k0, k1, k2, k3, k4, k5, rfl⟩))
    | ((with_reducible refine gate_st (t := 26) rfl ?_); first | (refine c_stF rfl rfl rfl rfl ⟨_, _, _, _, _, _, rfl⟩ BC.out ?_; intro w1 hc_ hk_ hb_; have n0_ := Aside0.mk (hc_); have n1_ := Aside0.mk (BR.out.other NE.out hk_); have n2_ := Aside0.mk (HB.out.set GC.out hk_ hb_); have n3_ := Aside0.mk (HU.out.other BC.out hk_); clear BC BR HB HU; have BC := n0_; have BR := n1_; have HB := n2_; have HU := n3_; clear n0_ n1_ n2_ n3_; clear hc_ hk_ hb_) | (refine c_stF rfl rfl rfl rfl ⟨_, _, _, _, _, _, rfl⟩ BR.out ?_; intro w1 hc_ hk_ hb_; have n0_ := Aside0.mk (hc_); have n1_ := Aside0.mk (BC.out.other NE.out.symm hk_); have n2_ := Aside0.mk (HB.out.set GR.out hk_ hb_); have n3_ := Aside0.mk (HU.out.other BR.out hk_); clear BR BC HB HU; have BR := n0_; have BC := n1_; have HB := n2_; have HU := n3_; clear n0_ n1_ n2_ n3_; clear hc_ hk_ hb_))
    | ((with_reducible refine gate_load (t := 28) rfl ?_); first | (refine c_ldC rfl rfl rfl BC.out ?_; intro _ _) | (refine c_ldC rfl rfl rfl BR.out ?_; intro _ _))
    | ((with_reducible refine gate_st (t := 28) rfl ?_); first | (refine c_stC rfl rfl rfl rfl (by assumption) BC.out ?_; intro w1 hc_ hk_ hb_; have n0_ := Aside0.mk (hc_); have n1_ := Aside0.mk (BR.out.other NE.out hk_); have n2_ := Aside0.mk (HB.out.set GC.out hk_ hb_); have n3_ := Aside0.mk (HU.out.other BC.out hk_); clear BC BR HB HU; have BC := n0_; have BR := n1_; have HB := n2_; have HU := n3_; clear n0_ n1_ n2_ n3_; clear hc_ hk_ hb_) | (refine c_stC rfl rfl rfl rfl (by assumption) BR.out ?_; intro w1 hc_ hk_ hb_; have n0_ := Aside0.mk (hc_); have n1_ := Aside0.mk (BC.out.other NE.out.symm hk_); have n2_ := Aside0.mk (HB.out.set GR.out hk_ hb_); have n3_ := Aside0.mk (HU.out.other BR.out hk_); clear BR BC HB HU; have BR := n0_; have BC := n1_; have HB := n2_; have HU := n3_; clear n0_ n1_ n2_ n3_; clear hc_ hk_ hb_))
    | (go_at_call 52; refine (l06Stack.any _ _).mono ?_; rintro e w1 ⟨_, rfl, hb_⟩; have n0_ := Aside0.mk (BC.out.below_ hb_); have n1_ := Aside0.mk (BR.out.below_ hb_); have n2_ := Aside0.mk (HB.out.trans (FB.of_below hb_)); have n3_ := Aside0.mk (HU.out.below_ hb_); clear BC BR HB HU; have BC := n0_; have BR := n1_; have HB := n2_; have HU := n3_; clear n0_ n1_ n2_ n3_; clear hb_)
    | (go_at_call 53; refine (PackP.any _ _ _ _ _ _ _ _).mono ?_; rintro e w1 ⟨_, rfl, _, hb_⟩; have n0_ := Aside0.mk (BC.out.below_ hb_); have n1_ := Aside0.mk (BR.out.below_ hb_); have n2_ := Aside0.mk (HB.out.trans (FB.of_below hb_)); have n3_ := Aside0.mk (HU.out.below_ hb_); clear BC BR HB HU; have BC := n0_; have BR := n1_; have HB := n2_; have HU := n3_; clear n0_ n1_ n2_ n3_; clear hb_)
    | (go_at_call 50; refine (UnpackP.any _ (by first | assumption | exact RB_mod _ | exact RB_bits _ _ _ | exact RB_wrap _ | (unfold RB; omega)) _).mono ?_; rintro e w1 ⟨k0, k1, k2, k3, k4, k5, rfl, hb_⟩; have n0_ := Aside0.mk (BC.out.below_ hb_); have n1_ := Aside0.mk (BR.out.below_ hb_); have n2_ := Aside0.mk (HB.out.trans (FB.of_below hb_)); have n3_ := Aside0.mk (HU.out.below_ hb_); clear BC BR HB HU; have BC := n0_; have BR := n1_; have HB := n2_; have HU := n3_; clear n0_ n1_ n2_ n3_; clear hb_)
    | (go_at_call 57; refine (NZ.any _ _ _ _ _ _ _ (by first | assumption | exact RB_mod _ | exact RB_bits _ _ _ | exact RB_wrap _ | (unfold RB; omega)) _).mono ?_; rintro e w1 ⟨k0, k1, k2, k3, k4, k5, rfl, hb_⟩; have n0_ := Aside0.mk (BC.out.below_ hb_); have n1_ := Aside0.mk (BR.out.below_ hb_); have n2_ := Aside0.mk (HB.out.trans (FB.of_below hb_)); have n3_ := Aside0.mk (HU.out.below_ hb_); clear BC BR HB HU; have BC := n0_; have BR := n1_; have HB := n2_; have HU := n3_; clear n0_ n1_ n2_ n3_; clear hb_)
    | (go_at_call 41; refine (l06Read.any _ gb B ln _ _ HL.out (by have := HN.out; omega) (Nat.le_trans HS.out HB.out.size) HU.out).mono ?_; rintro e w1 ⟨_, rfl, _, hu_, hb_⟩; have n0_ := Aside0.mk (BC.out.fb hb_); have n1_ := Aside0.mk (BR.out.fb hb_); have n2_ := Aside0.mk (HB.out.trans hb_); have n3_ := Aside0.mk (hu_); clear BC BR HB HU; have BC := n0_; have BR := n1_; have HB := n2_; have HU := n3_; clear n0_ n1_ n2_ n3_; clear hu_ hb_)
    | (go_at_call 51; refine (l06Write.any _ gb B ln _ _ _ (by first | assumption | exact RB_mod _ | exact RB_bits _ _ _ | exact RB_wrap _ | (unfold RB; omega)) HL.out (by have := HN.out; omega) (Nat.le_trans HS.out HB.out.size) HU.out).mono ?_; rintro e w1 ⟨rfl, hu_, hb_⟩; have n0_ := Aside0.mk (BC.out.fb hb_); have n1_ := Aside0.mk (BR.out.fb hb_); have n2_ := Aside0.mk (HB.out.trans hb_); have n3_ := Aside0.mk (hu_); clear BC BR HB HU; have BC := n0_; have BR := n1_; have HB := n2_; have HU := n3_; clear n0_ n1_ n2_ n3_; clear hu_ hb_)
    | ((with_reducible refine gate_region (id := 5) ?_)
       obtain ⟨cs0, hbc, hcc⟩ := BC.out
       have HCC := Aside0.mk hcc
       obtain ⟨Ac, X0, Y0, S0, P0, e0, e1, e2, e3, e4, e5, rfl, hA0, hX0, hY0, hS0, hP0⟩ := hcc
       refine start_k (n := 6) (S := fun w' => w'.heap[g]? = some (.cells #[.int .u8 Ac, .int .u8 X0, .int .u8 Y0, .int .u8 S0, .int .u16 P0, .bool e0, .bool e1, .bool e2, .bool e3, .bool e4, .bool e5] 28 (0, 0))) (ds := []) #[false, false, false, false, false, false] (by kernel_rfl) rfl rfl hbc (fun w1 he hs => by rw [he]; exact hs) ?_
       intro w1 hHeld hb_
       have n0_ := Aside0.mk (BC.out.below_ hb_); have n1_ := Aside0.mk (BR.out.below_ hb_); have n2_ := Aside0.mk (HB.out.trans (FB.of_below hb_)); have n3_ := Aside0.mk (HU.out.below_ hb_); clear BC BR HB HU; have BC := n0_; have BR := n1_; have HB := n2_; have HU := n3_; clear n0_ n1_ n2_ n3_
       clear hb_ hbc
       refine pure_ (i := 0) (N := some 19) (v := ?_) (a' := ?_) #[true, false, false, false, false, false] rfl rfl (by kernel_rfl) (fun _ _ _ h => h) (Or.inl ⟨by rfl, ?_⟩) ?_ ?_
       rotate_left
       · intro w'
         go_simp
         with_reducible rfl
       rotate_left
       · simp only [Act.put, List.setIfInBounds_toArray, List.set_cons_zero, List.set_cons_succ, i64_w, i32_w]
         rfl
       refine pure_ (i := 1) (N := some 20) (v := ?_) (a' := ?_) #[true, true, false, false, false, false] rfl rfl (by kernel_rfl) (fun _ _ _ h => h) (Or.inl ⟨by rfl, ?_⟩) ?_ ?_
       rotate_left
       · intro w'
         go_simp
         with_reducible rfl
       rotate_left
       · simp only [Act.put, List.setIfInBounds_toArray, List.set_cons_zero, List.set_cons_succ, i64_w, i32_w]
         rfl
       refine pure_ (i := 3) (N := some 22) (v := ?_) (a' := ?_) #[true, true, false, true, false, false] rfl rfl (by kernel_rfl) (fun _ _ _ h => h) (Or.inl ⟨by rfl, ?_⟩) ?_ ?_
       rotate_left
       · intro w'
         go_simp
         with_reducible rfl
       rotate_left
       · simp only [Act.put, List.setIfInBounds_toArray, List.set_cons_zero, List.set_cons_succ, i64_w, i32_w]
         rfl
       refine take_ (i := 4) (N := some 23) (v := ?_) (a' := ?_) #[true, true, false, true, true, false] rfl rfl (by kernel_rfl) (fun _ _ _ h => h) (Or.inl ⟨by rfl, ?_⟩) hHeld ?_ ?_
       rotate_left
       · intro w' s0
         have s1 : w'.cell? ⟨g, 0, none⟩ = some (.int .u8 Ac) := (blk_cell s0 0).trans rfl
         have s2 : w'.cell? ⟨g, 1, none⟩ = some (.int .u8 X0) := (blk_cell s0 1).trans rfl
         have s3 : w'.cell? ⟨g, 2, none⟩ = some (.int .u8 Y0) := (blk_cell s0 2).trans rfl
         have s4 : w'.cell? ⟨g, 3, none⟩ = some (.int .u8 S0) := (blk_cell s0 3).trans rfl
         have s5 : w'.cell? ⟨g, 4, none⟩ = some (.int .u16 P0) := (blk_cell s0 4).trans rfl
         have s6 : w'.cell? ⟨g, 5, none⟩ = some (.bool e0) := (blk_cell s0 5).trans rfl
         have s7 : w'.cell? ⟨g, 6, none⟩ = some (.bool e1) := (blk_cell s0 6).trans rfl
         have s8 : w'.cell? ⟨g, 7, none⟩ = some (.bool e2) := (blk_cell s0 7).trans rfl
         have s9 : w'.cell? ⟨g, 8, none⟩ = some (.bool e3) := (blk_cell s0 8).trans rfl
         have s10 : w'.cell? ⟨g, 9, none⟩ = some (.bool e4) := (blk_cell s0 9).trans rfl
         have s11 : w'.cell? ⟨g, 10, none⟩ = some (.bool e5) := (blk_cell s0 10).trans rfl
         go_simp
         with_reducible rfl
       rotate_left
       · simp only [Act.put, List.setIfInBounds_toArray, List.set_cons_zero, List.set_cons_succ, i64_w, i32_w]
         rfl
       refine one_ (i := 2) (N := some 21) #[true, true, true, true, true, false] rfl rfl (by kernel_rfl) (by decide) (fun K hK => ?_)
       refine goes_ Try.func52 (by kernel_rfl) rfl #[.int .i64 _] (by rfl) rfl rfl (by (try simp only [List.map_toArray, List.map_cons, List.map_nil]); first | done | rfl) ?_
       with_reducible refine (l06Stack.any _ _).mono ?_
       rintro e w1 ⟨z1, rfl, hb_⟩
       refine ⟨_, rfl, ?_⟩
       replace hHeld := blk_below hHeld hb_
       have n0_ := Aside0.mk (BC.out.below_ hb_); have n1_ := Aside0.mk (BR.out.below_ hb_); have n2_ := Aside0.mk (HB.out.trans (FB.of_below hb_)); have n3_ := Aside0.mk (HU.out.below_ hb_); clear BC BR HB HU; have BC := n0_; have BR := n1_; have HB := n2_; have HU := n3_; clear n0_ n1_ n2_ n3_
       clear hb_
       refine hK.out _ _ hHeld (fun _ => ?_)
       clear hK K
       refine norm_ (a' := ?_) ?_ ?_
       rotate_left
       · show Act.put _ (some 21) _ = _
         simp only [Act.put, List.setIfInBounds_toArray, List.set_cons_zero, List.set_cons_succ, i64_w, i32_w]
         rfl
       refine one_ (i := 5) (N := some 24) #[true, true, true, true, true, true] rfl rfl (by kernel_rfl) (by decide) (fun K hK => ?_)
       refine goes_ Try.func51 (by kernel_rfl) rfl #[.pointer (some ⟨gb, 0, none⟩), .int .i64 _, .int .u8 _] (by rfl) rfl rfl (by (try simp only [List.map_toArray, List.map_cons, List.map_nil]); first | done | rfl) ?_
       with_reducible refine (l06Write.any _ gb B ln _ _ _ (by first | assumption | exact RB_mod _ | exact RB_bits _ _ _ | exact RB_wrap _ | (unfold RB; omega)) HL.out (by have := HN.out; omega) (Nat.le_trans HS.out HB.out.size) HU.out).mono ?_
       rintro e w1 ⟨rfl, hu_, hb_⟩
       refine ⟨_, rfl, ?_⟩
       replace hHeld := (hb_.block _ (blk_lt hHeld) (.inr ⟨_, _, hHeld, by decide, by decide, by decide⟩)).trans hHeld
       have n0_ := Aside0.mk (BC.out.fb hb_); have n1_ := Aside0.mk (BR.out.fb hb_); have n2_ := Aside0.mk (HB.out.trans hb_); have n3_ := Aside0.mk (hu_); clear BC BR HB HU; have BC := n0_; have BR := n1_; have HB := n2_; have HU := n3_; clear n0_ n1_ n2_ n3_
       clear hb_ hu_
       refine hK.out _ _ hHeld (fun _ => ?_)
       clear hK K
       refine norm_ (a' := ?_) ?_ ?_
       rotate_left
       · show Act.put _ (some 24) _ = _
         simp only [Act.put, List.setIfInBounds_toArray, List.set_cons_zero, List.set_cons_succ, i64_w, i32_w]
         rfl
       refine done_ (by kernel_rfl) ?_
       clear hHeld)
    | ((with_reducible refine gate_region (id := 9) ?_)
       obtain ⟨cs0, hbc, hcc⟩ := BC.out
       have HCC := Aside0.mk hcc
       obtain ⟨Ac, X0, Y0, S0, P0, e0, e1, e2, e3, e4, e5, rfl, hA0, hX0, hY0, hS0, hP0⟩ := hcc
       refine start_k (n := 7) (S := fun w' => w'.heap[g]? = some (.cells #[.int .u8 Ac, .int .u8 X0, .int .u8 Y0, .int .u8 S0, .int .u16 P0, .bool e0, .bool e1, .bool e2, .bool e3, .bool e4, .bool e5] 28 (0, 0))) (ds := []) #[false, false, false, false, false, false, false] (by kernel_rfl) rfl rfl hbc (fun w1 he hs => by rw [he]; exact hs) ?_
       intro w1 hHeld hb_
       have n0_ := Aside0.mk (BC.out.below_ hb_); have n1_ := Aside0.mk (BR.out.below_ hb_); have n2_ := Aside0.mk (HB.out.trans (FB.of_below hb_)); have n3_ := Aside0.mk (HU.out.below_ hb_); clear BC BR HB HU; have BC := n0_; have BR := n1_; have HB := n2_; have HU := n3_; clear n0_ n1_ n2_ n3_
       clear hb_ hbc
       refine pure_ (i := 0) (N := some 32) (v := ?_) (a' := ?_) #[true, false, false, false, false, false, false] rfl rfl (by kernel_rfl) (fun _ _ _ h => h) (Or.inl ⟨by rfl, ?_⟩) ?_ ?_
       rotate_left
       · intro w'
         go_simp
         with_reducible rfl
       rotate_left
       · simp only [Act.put, List.setIfInBounds_toArray, List.set_cons_zero, List.set_cons_succ, i64_w, i32_w]
         rfl
       refine pure_ (i := 1) (N := some 33) (v := ?_) (a' := ?_) #[true, true, false, false, false, false, false] rfl rfl (by kernel_rfl) (fun _ _ _ h => h) (Or.inl ⟨by rfl, ?_⟩) ?_ ?_
       rotate_left
       · intro w'
         go_simp
         with_reducible rfl
       rotate_left
       · simp only [Act.put, List.setIfInBounds_toArray, List.set_cons_zero, List.set_cons_succ, i64_w, i32_w]
         rfl
       refine pure_ (i := 3) (N := some 35) (v := ?_) (a' := ?_) #[true, true, false, true, false, false, false] rfl rfl (by kernel_rfl) (fun _ _ _ h => h) (Or.inl ⟨by rfl, ?_⟩) ?_ ?_
       rotate_left
       · intro w'
         go_simp
         with_reducible rfl
       rotate_left
       · simp only [Act.put, List.setIfInBounds_toArray, List.set_cons_zero, List.set_cons_succ, i64_w, i32_w]
         rfl
       refine take_ (i := 4) (N := some 36) (v := ?_) (a' := ?_) #[true, true, false, true, true, false, false] rfl rfl (by kernel_rfl) (fun _ _ _ h => h) (Or.inl ⟨by rfl, ?_⟩) hHeld ?_ ?_
       rotate_left
       · intro w' s0
         have s1 : w'.cell? ⟨g, 0, none⟩ = some (.int .u8 Ac) := (blk_cell s0 0).trans rfl
         have s2 : w'.cell? ⟨g, 1, none⟩ = some (.int .u8 X0) := (blk_cell s0 1).trans rfl
         have s3 : w'.cell? ⟨g, 2, none⟩ = some (.int .u8 Y0) := (blk_cell s0 2).trans rfl
         have s4 : w'.cell? ⟨g, 3, none⟩ = some (.int .u8 S0) := (blk_cell s0 3).trans rfl
         have s5 : w'.cell? ⟨g, 4, none⟩ = some (.int .u16 P0) := (blk_cell s0 4).trans rfl
         have s6 : w'.cell? ⟨g, 5, none⟩ = some (.bool e0) := (blk_cell s0 5).trans rfl
         have s7 : w'.cell? ⟨g, 6, none⟩ = some (.bool e1) := (blk_cell s0 6).trans rfl
         have s8 : w'.cell? ⟨g, 7, none⟩ = some (.bool e2) := (blk_cell s0 7).trans rfl
         have s9 : w'.cell? ⟨g, 8, none⟩ = some (.bool e3) := (blk_cell s0 8).trans rfl
         have s10 : w'.cell? ⟨g, 9, none⟩ = some (.bool e4) := (blk_cell s0 9).trans rfl
         have s11 : w'.cell? ⟨g, 10, none⟩ = some (.bool e5) := (blk_cell s0 10).trans rfl
         go_simp
         with_reducible rfl
       rotate_left
       · simp only [Act.put, List.setIfInBounds_toArray, List.set_cons_zero, List.set_cons_succ, i64_w, i32_w]
         rfl
       refine one_ (i := 2) (N := some 34) #[true, true, true, true, true, false, false] rfl rfl (by kernel_rfl) (by decide) (fun K hK => ?_)
       refine goes_ Try.func52 (by kernel_rfl) rfl #[.int .i64 _] (by rfl) rfl rfl (by (try simp only [List.map_toArray, List.map_cons, List.map_nil]); first | done | rfl) ?_
       with_reducible refine (l06Stack.any _ _).mono ?_
       rintro e w1 ⟨z1, rfl, hb_⟩
       refine ⟨_, rfl, ?_⟩
       replace hHeld := blk_below hHeld hb_
       have n0_ := Aside0.mk (BC.out.below_ hb_); have n1_ := Aside0.mk (BR.out.below_ hb_); have n2_ := Aside0.mk (HB.out.trans (FB.of_below hb_)); have n3_ := Aside0.mk (HU.out.below_ hb_); clear BC BR HB HU; have BC := n0_; have BR := n1_; have HB := n2_; have HU := n3_; clear n0_ n1_ n2_ n3_
       clear hb_
       refine hK.out _ _ hHeld (fun _ => ?_)
       clear hK K
       refine norm_ (a' := ?_) ?_ ?_
       rotate_left
       · show Act.put _ (some 34) _ = _
         simp only [Act.put, List.setIfInBounds_toArray, List.set_cons_zero, List.set_cons_succ, i64_w, i32_w]
         rfl
       refine one_ (i := 5) (N := some 37) #[true, true, true, true, true, true, false] rfl rfl (by kernel_rfl) (by decide) (fun K hK => ?_)
       refine goes_ Try.func53 (by kernel_rfl) rfl #[.agg #[.bool _, .bool _, .bool _, .bool _, .bool _, .bool _], .bool _] (by rfl) rfl rfl (by (try simp only [List.map_toArray, List.map_cons, List.map_nil]); first | done | rfl) ?_
       with_reducible refine (PackP.any _ _ _ _ _ _ _ _).mono ?_
       rintro e w1 ⟨z2, rfl, hz2, hb_⟩
       refine ⟨_, rfl, ?_⟩
       replace hHeld := blk_below hHeld hb_
       have n0_ := Aside0.mk (BC.out.below_ hb_); have n1_ := Aside0.mk (BR.out.below_ hb_); have n2_ := Aside0.mk (HB.out.trans (FB.of_below hb_)); have n3_ := Aside0.mk (HU.out.below_ hb_); clear BC BR HB HU; have BC := n0_; have BR := n1_; have HB := n2_; have HU := n3_; clear n0_ n1_ n2_ n3_
       clear hb_
       refine hK.out _ _ hHeld (fun _ => ?_)
       clear hK K
       refine norm_ (a' := ?_) ?_ ?_
       rotate_left
       · show Act.put _ (some 37) _ = _
         simp only [Act.put, List.setIfInBounds_toArray, List.set_cons_zero, List.set_cons_succ, i64_w, i32_w]
         rfl
       refine one_ (i := 6) (N := some 38) #[true, true, true, true, true, true, true] rfl rfl (by kernel_rfl) (by decide) (fun K hK => ?_)
       refine goes_ Try.func51 (by kernel_rfl) rfl #[.pointer (some ⟨gb, 0, none⟩), .int .i64 _, .int .u8 _] (by rfl) rfl rfl (by (try simp only [List.map_toArray, List.map_cons, List.map_nil]); first | done | rfl) ?_
       with_reducible refine (l06Write.any _ gb B ln _ _ _ (by first | assumption | exact RB_mod _ | exact RB_bits _ _ _ | exact RB_wrap _ | (unfold RB; omega)) HL.out (by have := HN.out; omega) (Nat.le_trans HS.out HB.out.size) HU.out).mono ?_
       rintro e w1 ⟨rfl, hu_, hb_⟩
       refine ⟨_, rfl, ?_⟩
       replace hHeld := (hb_.block _ (blk_lt hHeld) (.inr ⟨_, _, hHeld, by decide, by decide, by decide⟩)).trans hHeld
       have n0_ := Aside0.mk (BC.out.fb hb_); have n1_ := Aside0.mk (BR.out.fb hb_); have n2_ := Aside0.mk (HB.out.trans hb_); have n3_ := Aside0.mk (hu_); clear BC BR HB HU; have BC := n0_; have BR := n1_; have HB := n2_; have HU := n3_; clear n0_ n1_ n2_ n3_
       clear hb_ hu_
       refine hK.out _ _ hHeld (fun _ => ?_)
       clear hK K
       refine norm_ (a' := ?_) ?_ ?_
       rotate_left
       · show Act.put _ (some 38) _ = _
         simp only [Act.put, List.setIfInBounds_toArray, List.set_cons_zero, List.set_cons_succ, i64_w, i32_w]
         rfl
       refine done_ (by kernel_rfl) ?_
       clear hHeld)
    | ((with_reducible refine gate_ret ?_); refine c_ret rfl rfl rfl BR.out (fun ds hds => ?_); exact ⟨ds, _, rfl, hds, by omega, by omega, HU.out, HB.out⟩))
end Go.Proofs.Ytafkbhnhmhmjcaa.Weak
