import Derived.StillTailTactics
import Derived.Handy
import Derived.Test.YtafkbhnhmhmjcaaSVPRunx11
import Derived.Test.YtafkbhnhmhmjcaaSVMyCpu
import Derived.Test.YtafkbhnhmhmjcaaSVWeak
section
set_option linter.unusedVariables false
namespace Go.Proofs.Ytafkbhnhmhmjcaa.Weak
open Go.RowKit Go.Proofs.YtafkbhnhmhmjcaaW.PrintWords Go.Proofs.YtafkbhnhmhmjcaaW.PrintLast Go.Proofs.YtafkbhnhmhmjcaaW.PrintMore Go.Proofs.Ytafkbhnhmhmjcaa.PRun
theorem names : ∀ n : Nat, n < 256 → (spec_NameOf.f 3 (n : Int)).isSome = true := by decide +kernel
theorem modes : ∀ n : Nat, n < 256 → (spec_ModeOf.f 3 (n : Int)).isSome = true := by decide +kernel
theorem sizes : ∀ n : Nat, n < 256 → (spec_SizeOf.f 3 (n : Int)).isSome = true := by decide +kernel
theorem of_bytes {α : Type} {f : Int → Option α} (hf : ∀ n : Nat, n < 256 → (f (n : Int)).isSome = true) (c : Int) (h : RB c) : ∃ r, f c = some r := by
  have := hf c.toNat (by unfold RB at h; omega)
  rw [Int.toNat_of_nonneg h.1] at this
  exact Option.isSome_iff_exists.mp this
theorem NameOf.any (c : Int) (h : RB c) (w : World) : Calls Try.prog 43 #[.int .u8 c] w fun e w1 => ∃ s, e = .returned (.string s) ∧ Below w.heap.size w w1 := by
  obtain ⟨r, hr⟩ := of_bytes names c h
  exact (spec_NameOf.calls 3 c r w hr).mono fun _ _ h => ⟨r, h⟩
theorem ModeOf.any (c : Int) (h : RB c) (w : World) : Calls Try.prog 46 #[.int .u8 c] w fun e w1 => ∃ s, e = .returned (.int .i64 s) ∧ Below w.heap.size w w1 := by
  obtain ⟨r, hr⟩ := of_bytes modes c h
  exact (spec_ModeOf.calls 3 c r w hr).mono fun _ _ h => ⟨r, h⟩
theorem SizeOf.any (c : Int) (h : RB c) (w : World) : Calls Try.prog 40 #[.int .u8 c] w fun e w1 => ∃ s, e = .returned (.int .i64 s) ∧ Below w.heap.size w w1 := by
  obtain ⟨r, hr⟩ := of_bytes sizes c h
  exact (spec_SizeOf.calls 3 c r w hr).mono fun _ _ h => ⟨r, h⟩
theorem KindOf.any (c : Int) (h : RB c) (w : World) : Calls Try.prog 39 #[.int .u8 c] w fun e w1 => ∃ s, e = .returned (.int .i64 s) ∧ Below w.heap.size w w1 := by
  have HB := Aside0.mk (Below.refl w.heap.size w)
  go_enter Try.func39, Try.ntmps39
  go_wp2_with (first
  | (go_at_call 43; refine (NameOf.any _ h _).mono ?_; rintro e w1 ⟨s_, rfl, hb_⟩; replace HB := Aside0.mk (below_step HB.out hb_); clear hb_)
  | (go_at_call 46; refine (ModeOf.any _ h _).mono ?_; rintro e w1 ⟨m_, rfl, hb_⟩; replace HB := Aside0.mk (below_step HB.out hb_); clear hb_)
  | ((with_reducible refine gate_ret ?_); refine bodyPost_ret (results_tmp rfl _ _ _) rfl ?_; exact ⟨_, rfl, HB.out⟩))
end Go.Proofs.Ytafkbhnhmhmjcaa.Weak
end
section
set_option linter.unusedVariables false
set_option linter.unusedSimpArgs false
namespace Go.Proofs.Ytafkbhnhmhmjcaa.Weak
open Go.RowKit Go.Proofs.YtafkbhnhmhmjcaaW.PrintWords Go.Proofs.YtafkbhnhmhmjcaaW.PrintLast Go.Proofs.YtafkbhnhmhmjcaaW.PrintMore Go.Proofs.Ytafkbhnhmhmjcaa.PRun
set_option maxHeartbeats 8000000 in
set_option maxRecDepth 100000 in
theorem l06Imp.any (cs : Array Value) (a1 : ByteArray) (a2 : Int) (hv : CC cs) (w : World) : Calls Try.prog 45 #[.agg cs, .string a1, .int .i64 a2] w fun e w1 => ∃ ds, e = .returned (.agg ds) ∧ CC ds ∧ Below w.heap.size w w1 := by
  have HV := Aside0.mk hv
  have HB := Aside0.mk (FB.refl w.heap.size w)
  clear hv
  go_enter Try.func45, Try.ntmps45
  go_wp2_with (first
    | ((with_reducible refine gate_dst (N := 3) rfl ?_); refine c_box rfl rfl rfl rfl HV.out ?_; intro g hg w1 hc_ hb_; have GC := Aside0.mk (by rw [← hg]; exact HB.out.size : w.heap.size ≤ g); have n0_ := Aside0.mk (HB.out.trans (FB.of_below hb_)); clear HB; have HB := n0_; clear n0_; have BC := Aside0.mk hc_; clear hb_ hc_)
    | ((with_reducible refine gate_dst (N := 6) rfl ?_); refine c_alloc rfl rfl rfl ?_; intro gr hgr w1 hc_ hb_; have GR := Aside0.mk (by rw [← hgr]; exact HB.out.size : w.heap.size ≤ gr); have NE := Aside0.mk (by have := BC.out.lt; omega : gr ≠ g); have n0_ := Aside0.mk (BC.out.below_ hb_); have n1_ := Aside0.mk (HB.out.trans (FB.of_below hb_)); clear BC HB; have BC := n0_; have HB := n1_; clear n0_ n1_; have BR := Aside0.mk hc_; clear hb_ hc_)
    | ((with_reducible refine gate_load (t := 5) rfl ?_); first | (refine c_ld8 rfl rfl rfl (by decide) BC.out ?_; intro _ _) | (refine c_ld8 rfl rfl rfl (by decide) BR.out ?_; intro _ _))
    | ((with_reducible refine gate_st (t := 5) rfl ?_); first | (refine c_st8 rfl rfl rfl rfl (by decide) (by first | assumption | exact RB_mod _ | exact RB_bits _ _ _ | exact RB_wrap _ | (unfold RB; omega)) BC.out ?_; intro w1 hc_ hk_ hb_; have n0_ := Aside0.mk (hc_); have n1_ := Aside0.mk (BR.out.other NE.out hk_); have n2_ := Aside0.mk (HB.out.set GC.out hk_ hb_); clear BC BR HB; have BC := n0_; have BR := n1_; have HB := n2_; clear n0_ n1_ n2_; clear hc_ hk_ hb_) | (refine c_st8 rfl rfl rfl rfl (by decide) (by first | assumption | exact RB_mod _ | exact RB_bits _ _ _ | exact RB_wrap _ | (unfold RB; omega)) BR.out ?_; intro w1 hc_ hk_ hb_; have n0_ := Aside0.mk (hc_); have n1_ := Aside0.mk (BC.out.other NE.out.symm hk_); have n2_ := Aside0.mk (HB.out.set GR.out hk_ hb_); clear BR BC HB; have BR := n0_; have BC := n1_; have HB := n2_; clear n0_ n1_ n2_; clear hc_ hk_ hb_))
    | ((with_reducible refine gate_load (t := 24) rfl ?_); first | (refine c_ldp rfl rfl rfl BC.out ?_; intro _ _) | (refine c_ldp rfl rfl rfl BR.out ?_; intro _ _))
    | ((with_reducible refine gate_st (t := 24) rfl ?_); first | (refine c_stp rfl rfl rfl rfl (by first | assumption | exact RP_mod _ | exact RP_wrap _ | (unfold RP; omega)) BC.out ?_; intro w1 hc_ hk_ hb_; have n0_ := Aside0.mk (hc_); have n1_ := Aside0.mk (BR.out.other NE.out hk_); have n2_ := Aside0.mk (HB.out.set GC.out hk_ hb_); clear BC BR HB; have BC := n0_; have BR := n1_; have HB := n2_; clear n0_ n1_ n2_; clear hc_ hk_ hb_) | (refine c_stp rfl rfl rfl rfl (by first | assumption | exact RP_mod _ | exact RP_wrap _ | (unfold RP; omega)) BR.out ?_; intro w1 hc_ hk_ hb_; have n0_ := Aside0.mk (hc_); have n1_ := Aside0.mk (BC.out.other NE.out.symm hk_); have n2_ := Aside0.mk (HB.out.set GR.out hk_ hb_); clear BR BC HB; have BR := n0_; have BC := n1_; have HB := n2_; clear n0_ n1_ n2_; clear hc_ hk_ hb_))
    | ((with_reducible refine gate_load (t := 4) rfl ?_); first | (refine c_ldb rfl rfl rfl (by decide) BC.out ?_; intro _) | (refine c_ldb rfl rfl rfl (by decide) BR.out ?_; intro _))
    | ((with_reducible refine gate_st (t := 4) rfl ?_); first | (refine c_stb rfl rfl rfl rfl (by decide) BC.out ?_; intro w1 hc_ hk_ hb_; have n0_ := Aside0.mk (hc_); have n1_ := Aside0.mk (BR.out.other NE.out hk_); have n2_ := Aside0.mk (HB.out.set GC.out hk_ hb_); clear BC BR HB; have BC := n0_; have BR := n1_; have HB := n2_; clear n0_ n1_ n2_; clear hc_ hk_ hb_) | (refine c_stb rfl rfl rfl rfl (by decide) BR.out ?_; intro w1 hc_ hk_ hb_; have n0_ := Aside0.mk (hc_); have n1_ := Aside0.mk (BC.out.other NE.out.symm hk_); have n2_ := Aside0.mk (HB.out.set GR.out hk_ hb_); clear BR BC HB; have BR := n0_; have BC := n1_; have HB := n2_; clear n0_ n1_ n2_; clear hc_ hk_ hb_))
    | ((with_reducible refine gate_load (t := 26) rfl ?_); first | (refine c_ldF rfl rfl rfl BC.out ?_; rintro _ ⟨k0, k1, k2, k3, k4, k5, rfl⟩) | (refine c_ldF rfl rfl rfl BR.out ?_; rintro _ ⟨k0, k1, k2, k3, k4, k5, rfl⟩))
    | ((with_reducible refine gate_st (t := 26) rfl ?_); first | (refine c_stF rfl rfl rfl rfl ⟨_, _, _, _, _, _, rfl⟩ BC.out ?_; intro w1 hc_ hk_ hb_; have n0_ := Aside0.mk (hc_); have n1_ := Aside0.mk (BR.out.other NE.out hk_); have n2_ := Aside0.mk (HB.out.set GC.out hk_ hb_); clear BC BR HB; have BC := n0_; have BR := n1_; have HB := n2_; clear n0_ n1_ n2_; clear hc_ hk_ hb_) | (refine c_stF rfl rfl rfl rfl ⟨_, _, _, _, _, _, rfl⟩ BR.out ?_; intro w1 hc_ hk_ hb_; have n0_ := Aside0.mk (hc_); have n1_ := Aside0.mk (BC.out.other NE.out.symm hk_); have n2_ := Aside0.mk (HB.out.set GR.out hk_ hb_); clear BR BC HB; have BR := n0_; have BC := n1_; have HB := n2_; clear n0_ n1_ n2_; clear hc_ hk_ hb_))
    | ((with_reducible refine gate_load (t := 28) rfl ?_); first | (refine c_ldC rfl rfl rfl BC.out ?_; intro _ _) | (refine c_ldC rfl rfl rfl BR.out ?_; intro _ _))
    | ((with_reducible refine gate_st (t := 28) rfl ?_); first | (refine c_stC rfl rfl rfl rfl (by assumption) BC.out ?_; intro w1 hc_ hk_ hb_; have n0_ := Aside0.mk (hc_); have n1_ := Aside0.mk (BR.out.other NE.out hk_); have n2_ := Aside0.mk (HB.out.set GC.out hk_ hb_); clear BC BR HB; have BC := n0_; have BR := n1_; have HB := n2_; clear n0_ n1_ n2_; clear hc_ hk_ hb_) | (refine c_stC rfl rfl rfl rfl (by assumption) BR.out ?_; intro w1 hc_ hk_ hb_; have n0_ := Aside0.mk (hc_); have n1_ := Aside0.mk (BC.out.other NE.out.symm hk_); have n2_ := Aside0.mk (HB.out.set GR.out hk_ hb_); clear BR BC HB; have BR := n0_; have BC := n1_; have HB := n2_; clear n0_ n1_ n2_; clear hc_ hk_ hb_))
    | (go_at_call 56; refine (l06Change.any _ _ _ _ _ _ _ _ (by first | assumption | exact RB_mod _ | exact RB_bits _ _ _ | exact RB_wrap _ | (unfold RB; omega)) _).mono ?_; rintro e w1 ⟨_, k0, k1, k2, k3, k4, k5, rfl, _, hb_⟩; have n0_ := Aside0.mk (BC.out.below_ hb_); have n1_ := Aside0.mk (BR.out.below_ hb_); have n2_ := Aside0.mk (HB.out.trans (FB.of_below hb_)); clear BC BR HB; have BC := n0_; have BR := n1_; have HB := n2_; clear n0_ n1_ n2_; clear hb_)
    | (go_at_call 57; refine (NZ.any _ _ _ _ _ _ _ (by first | assumption | exact RB_mod _ | exact RB_bits _ _ _ | exact RB_wrap _ | (unfold RB; omega)) _).mono ?_; rintro e w1 ⟨k0, k1, k2, k3, k4, k5, rfl, hb_⟩; have n0_ := Aside0.mk (BC.out.below_ hb_); have n1_ := Aside0.mk (BR.out.below_ hb_); have n2_ := Aside0.mk (HB.out.trans (FB.of_below hb_)); clear BC BR HB; have BC := n0_; have BR := n1_; have HB := n2_; clear n0_ n1_ n2_; clear hb_)
    | (go_at_call 58; refine (l06Flag.any _ _ _ _ _ _ _ _).mono ?_; rintro e w1 ⟨k0, k1, k2, k3, k4, k5, rfl, hb_⟩; have n0_ := Aside0.mk (BC.out.below_ hb_); have n1_ := Aside0.mk (BR.out.below_ hb_); have n2_ := Aside0.mk (HB.out.trans (FB.of_below hb_)); clear BC BR HB; have BC := n0_; have BR := n1_; have HB := n2_; clear n0_ n1_ n2_; clear hb_)
    | ((with_reducible refine gate_ret ?_); refine c_ret rfl rfl rfl BR.out (fun ds hds => ?_); exact ⟨ds, rfl, hds, HB.out.below (Nat.le_refl _)⟩))
end Go.Proofs.Ytafkbhnhmhmjcaa.Weak
end
