import Derived.StillTailTactics
import Derived.Handy
import Derived.Test.YtafkbhnhmhmjcaaGreatDoorSWPRunx6
import Derived.Test.YtafkbhnhmhmjcaaGreatDoorSWPRunx11
import Derived.Test.YtafkbhnhmhmjcaaGreatDoorSWMyCpu
import Derived.Test.YtafkbhnhmhmjcaaGreatDoorSWWeak
section
set_option linter.unusedVariables false
namespace Go.Proofs.YtafkbhnhmhmjcaaGreatDoor.Weak
open Go.RowKit Go.Proofs.YtafkbhnhmhmjcaaGreatDoorW.PrintWords Go.Proofs.YtafkbhnhmhmjcaaGreatDoorW.PrintLast Go.Proofs.YtafkbhnhmhmjcaaGreatDoorW.PrintMore Go.Proofs.YtafkbhnhmhmjcaaGreatDoor.PRun
theorem names : ∀ n : Nat, n < 256 → (spec_NameOf.f 3 (n : Int)).isSome = true := by decide +kernel
theorem modes : ∀ n : Nat, n < 256 → (spec_ModeOf.f 3 (n : Int)).isSome = true := by decide +kernel
theorem sizes : ∀ n : Nat, n < 256 → (spec_SizeOf.f 3 (n : Int)).isSome = true := by decide +kernel
theorem of_bytes {α : Type} {f : Int → Option α} (hf : ∀ n : Nat, n < 256 → (f (n : Int)).isSome = true) (c : Int) (h : RB c) : ∃ r, f c = some r := by
  have := hf c.toNat (by unfold RB at h; omega)
  rw [Int.toNat_of_nonneg h.1] at this
  exact Option.isSome_iff_exists.mp this
theorem NameOf.any (c : Int) (h : RB c) (w : World) : Calls Tryz.prog 61 #[.int .u8 c] w fun e w1 => ∃ s, e = .returned (.string s) ∧ Below w.heap.size w w1 := by
  obtain ⟨r, hr⟩ := of_bytes names c h
  exact (spec_NameOf.calls 3 c r w hr).mono fun _ _ h => ⟨r, h⟩
theorem ModeOf.any (c : Int) (h : RB c) (w : World) : Calls Tryz.prog 64 #[.int .u8 c] w fun e w1 => ∃ s, e = .returned (.int .i64 s) ∧ Below w.heap.size w w1 := by
  obtain ⟨r, hr⟩ := of_bytes modes c h
  exact (spec_ModeOf.calls 3 c r w hr).mono fun _ _ h => ⟨r, h⟩
theorem SizeOf.any (c : Int) (h : RB c) (w : World) : Calls Tryz.prog 58 #[.int .u8 c] w fun e w1 => ∃ s, e = .returned (.int .i64 s) ∧ Below w.heap.size w w1 := by
  obtain ⟨r, hr⟩ := of_bytes sizes c h
  exact (spec_SizeOf.calls 3 c r w hr).mono fun _ _ h => ⟨r, h⟩
theorem KindOf.any (c : Int) (h : RB c) (w : World) : Calls Tryz.prog 57 #[.int .u8 c] w fun e w1 => ∃ s, e = .returned (.int .i64 s) ∧ Below w.heap.size w w1 := by
  have HB := zA (Below.refl w.heap.size w)
  go_enter Tryz.func57, Tryz.ntmps57
  go_wp2_with (first
  | (go_at_call 61; refine (NameOf.any _ h _).mono ?_; rintro e w1 ⟨s_, rfl, hb_⟩; replace HB := zA (below_step HB.out hb_); clear hb_)
  | (go_at_call 64; refine (ModeOf.any _ h _).mono ?_; rintro e w1 ⟨m_, rfl, hb_⟩; replace HB := zA (below_step HB.out hb_); clear hb_)
  | ((with_reducible refine gate_ret ?_); refine bodyPost_ret (results_tmp rfl _ _ _) rfl ?_; exact ⟨_, rfl, HB.out⟩))
end Go.Proofs.YtafkbhnhmhmjcaaGreatDoor.Weak
end
section
set_option linter.unusedVariables false
set_option linter.unusedSimpArgs false
namespace Go.Proofs.YtafkbhnhmhmjcaaGreatDoor.Weak
open Go.RowKit Go.Proofs.YtafkbhnhmhmjcaaGreatDoorW.PrintWords Go.Proofs.YtafkbhnhmhmjcaaGreatDoorW.PrintLast Go.Proofs.YtafkbhnhmhmjcaaGreatDoorW.PrintMore Go.Proofs.YtafkbhnhmhmjcaaGreatDoor.PRun
set_option maxHeartbeats 8000000 in
set_option maxRecDepth 100000 in
theorem l06Imp.any (cs : Array Value) (a1 : ByteArray) (a2 : Int) (hv : CC cs) (w : World) : Calls Tryz.prog 63 #[.agg cs, .string a1, .int .i64 a2] w fun e w1 => ∃ ds, e = .returned (.agg ds) ∧ CC ds ∧ Below w.heap.size w w1 := by
  have HV := zA hv
  have HB := zA (FB.refl w.heap.size w)
  clear hv
  go_enter Tryz.func63, Tryz.ntmps63
  go_wp2_with (first
    | ((with_reducible refine gate_dst (N := 3) rfl ?_); refine c_box rfl rfl rfl rfl HV.out ?_; intro g hg w1 hc_ hb_; have GC := zA (by rw [← hg]; exact HB.out.size : w.heap.size ≤ g); replace HB := zA (HB.out.trans (FB.of_below hb_)); have BC := zA hc_; clear hb_ hc_)
    | ((with_reducible refine gate_dst (N := 6) rfl ?_); refine c_alloc rfl rfl rfl ?_; intro gr hgr w1 hc_ hb_; have GR := zA (by rw [← hgr]; exact HB.out.size : w.heap.size ≤ gr); have NE := zA (by have := BC.out.lt; omega : gr ≠ g); replace BC := zA (BC.out.below_ hb_); replace HB := zA (HB.out.trans (FB.of_below hb_)); have BR := zA hc_; clear hb_ hc_)
    | ((with_reducible refine gate_load (t := 5) rfl ?_); first | (refine c_ld8 rfl rfl rfl (by decide) BC.out ?_; intro _ _) | (refine c_ld8 rfl rfl rfl (by decide) BR.out ?_; intro _ _))
    | ((with_reducible refine gate_st (t := 5) rfl ?_); first | (refine c_st8 rfl rfl rfl rfl (by decide) (by first | assumption | exact RB_mod _ | exact RB_bits _ _ _ | exact RB_wrap _ | (unfold RB; omega)) BC.out ?_; intro w1 hc_ hk_ hb_; replace BC := zA (hc_); replace BR := zA (BR.out.other NE.out hk_); replace HB := zA (HB.out.set GC.out hk_ hb_); clear hc_ hk_ hb_) | (refine c_st8 rfl rfl rfl rfl (by decide) (by first | assumption | exact RB_mod _ | exact RB_bits _ _ _ | exact RB_wrap _ | (unfold RB; omega)) BR.out ?_; intro w1 hc_ hk_ hb_; replace BR := zA (hc_); replace BC := zA (BC.out.other NE.out.symm hk_); replace HB := zA (HB.out.set GR.out hk_ hb_); clear hc_ hk_ hb_))
    | ((with_reducible refine gate_load (t := 41) rfl ?_); first | (refine c_ldp rfl rfl rfl BC.out ?_; intro _ _) | (refine c_ldp rfl rfl rfl BR.out ?_; intro _ _))
    | ((with_reducible refine gate_st (t := 41) rfl ?_); first | (refine c_stp rfl rfl rfl rfl (by first | assumption | exact RP_mod _ | exact RP_wrap _ | (unfold RP; omega)) BC.out ?_; intro w1 hc_ hk_ hb_; replace BC := zA (hc_); replace BR := zA (BR.out.other NE.out hk_); replace HB := zA (HB.out.set GC.out hk_ hb_); clear hc_ hk_ hb_) | (refine c_stp rfl rfl rfl rfl (by first | assumption | exact RP_mod _ | exact RP_wrap _ | (unfold RP; omega)) BR.out ?_; intro w1 hc_ hk_ hb_; replace BR := zA (hc_); replace BC := zA (BC.out.other NE.out.symm hk_); replace HB := zA (HB.out.set GR.out hk_ hb_); clear hc_ hk_ hb_))
    | ((with_reducible refine gate_load (t := 4) rfl ?_); first | (refine c_ldb rfl rfl rfl (by decide) BC.out ?_; intro _) | (refine c_ldb rfl rfl rfl (by decide) BR.out ?_; intro _))
    | ((with_reducible refine gate_st (t := 4) rfl ?_); first | (refine c_stb rfl rfl rfl rfl (by decide) BC.out ?_; intro w1 hc_ hk_ hb_; replace BC := zA (hc_); replace BR := zA (BR.out.other NE.out hk_); replace HB := zA (HB.out.set GC.out hk_ hb_); clear hc_ hk_ hb_) | (refine c_stb rfl rfl rfl rfl (by decide) BR.out ?_; intro w1 hc_ hk_ hb_; replace BR := zA (hc_); replace BC := zA (BC.out.other NE.out.symm hk_); replace HB := zA (HB.out.set GR.out hk_ hb_); clear hc_ hk_ hb_))
    | ((with_reducible refine gate_load (t := 62) rfl ?_); first | (refine c_ldF rfl rfl rfl BC.out ?_; rintro _ ⟨k0, k1, k2, k3, k4, k5, rfl⟩) | (refine c_ldF rfl rfl rfl BR.out ?_; rintro _ ⟨k0, k1, k2, k3, k4, k5, rfl⟩))
    | ((with_reducible refine gate_st (t := 62) rfl ?_); first | (refine c_stF rfl rfl rfl rfl ⟨_, _, _, _, _, _, rfl⟩ BC.out ?_; intro w1 hc_ hk_ hb_; replace BC := zA (hc_); replace BR := zA (BR.out.other NE.out hk_); replace HB := zA (HB.out.set GC.out hk_ hb_); clear hc_ hk_ hb_) | (refine c_stF rfl rfl rfl rfl ⟨_, _, _, _, _, _, rfl⟩ BR.out ?_; intro w1 hc_ hk_ hb_; replace BR := zA (hc_); replace BC := zA (BC.out.other NE.out.symm hk_); replace HB := zA (HB.out.set GR.out hk_ hb_); clear hc_ hk_ hb_))
    | ((with_reducible refine gate_load (t := 64) rfl ?_); first | (refine c_ldC rfl rfl rfl BC.out ?_; intro _ _) | (refine c_ldC rfl rfl rfl BR.out ?_; intro _ _))
    | ((with_reducible refine gate_st (t := 64) rfl ?_); first | (refine c_stC rfl rfl rfl rfl (by assumption) BC.out ?_; intro w1 hc_ hk_ hb_; replace BC := zA (hc_); replace BR := zA (BR.out.other NE.out hk_); replace HB := zA (HB.out.set GC.out hk_ hb_); clear hc_ hk_ hb_) | (refine c_stC rfl rfl rfl rfl (by assumption) BR.out ?_; intro w1 hc_ hk_ hb_; replace BR := zA (hc_); replace BC := zA (BC.out.other NE.out.symm hk_); replace HB := zA (HB.out.set GR.out hk_ hb_); clear hc_ hk_ hb_))
    | (go_at_call 79; refine (l06Change.any _ _ _ _ _ _ _ _ (by first | assumption | exact RB_mod _ | exact RB_bits _ _ _ | exact RB_wrap _ | (unfold RB; omega)) _).mono ?_; rintro e w1 ⟨_, k0, k1, k2, k3, k4, k5, rfl, _, hb_⟩; replace BC := zA (BC.out.below_ hb_); replace BR := zA (BR.out.below_ hb_); replace HB := zA (HB.out.trans (FB.of_below hb_)); clear hb_)
    | (go_at_call 80; refine (NZ.any _ _ _ _ _ _ _ (by first | assumption | exact RB_mod _ | exact RB_bits _ _ _ | exact RB_wrap _ | (unfold RB; omega)) _).mono ?_; rintro e w1 ⟨k0, k1, k2, k3, k4, k5, rfl, hb_⟩; replace BC := zA (BC.out.below_ hb_); replace BR := zA (BR.out.below_ hb_); replace HB := zA (HB.out.trans (FB.of_below hb_)); clear hb_)
    | (go_at_call 81; refine (l06Flag.any _ _ _ _ _ _ _ _).mono ?_; rintro e w1 ⟨k0, k1, k2, k3, k4, k5, rfl, hb_⟩; replace BC := zA (BC.out.below_ hb_); replace BR := zA (BR.out.below_ hb_); replace HB := zA (HB.out.trans (FB.of_below hb_)); clear hb_)
    | ((with_reducible refine gate_ret ?_); refine c_ret rfl rfl rfl BR.out (fun ds hds => ?_); exact ⟨ds, rfl, hds, HB.out.below (Nat.le_refl _)⟩))
end Go.Proofs.YtafkbhnhmhmjcaaGreatDoor.Weak
end
section
set_option linter.unusedVariables false
set_option linter.unusedSimpArgs false
namespace Go.Proofs.YtafkbhnhmhmjcaaGreatDoor.Weak
open Go.RowKit Go.Proofs.YtafkbhnhmhmjcaaGreatDoorW.PrintWords Go.Proofs.YtafkbhnhmhmjcaaGreatDoorW.PrintLast Go.Proofs.YtafkbhnhmhmjcaaGreatDoorW.PrintMore Go.Proofs.YtafkbhnhmhmjcaaGreatDoor.PRun
set_option maxHeartbeats 8000000 in
set_option maxRecDepth 100000 in
theorem l06Branch.any (w : World) (gb B ln n : Nat) (cs : Array Value) (a2 : ByteArray) (hv : CC cs) (hl : 0 < ln ∧ ln ≤ 65536) (hn : n ≤ 900) (hB : B ≤ w.heap.size) (h : Bus w gb B ln n) : Calls Tryz.prog 65 #[.pointer (some ⟨gb, 0, none⟩), .agg cs, .string a2] w fun e w1 => ∃ ds m, e = .returned (.agg ds) ∧ CC ds ∧ n ≤ m ∧ m ≤ n + 3 ∧ Bus w1 gb B ln m ∧ FB B w w1 := by
  have HV := zA hv
  have HB := zA (FB.refl B w)
  have HU := zA h
  have HL := zA hl
  have HN := zA hn
  have HS := zA hB
  clear hv h hl hn hB
  go_enter Tryz.func65, Tryz.ntmps65
  go_wp2_with (first
    | ((with_reducible refine gate_dst (N := 4) rfl ?_); refine c_box rfl rfl rfl rfl HV.out ?_; intro g hg w1 hc_ hb_; have GC := zA (by rw [← hg]; exact HB.out.size : w.heap.size ≤ g); replace HB := zA (HB.out.trans (FB.of_below hb_)); replace HU := zA (HU.out.below_ hb_); have BC := zA hc_; clear hb_ hc_)
    | ((with_reducible refine gate_dst (N := 6) rfl ?_); refine c_alloc rfl rfl rfl ?_; intro gr hgr w1 hc_ hb_; have GR := zA (by rw [← hgr]; exact HB.out.size : w.heap.size ≤ gr); have NE := zA (by have := BC.out.lt; omega : gr ≠ g); replace BC := zA (BC.out.below_ hb_); replace HB := zA (HB.out.trans (FB.of_below hb_)); replace HU := zA (HU.out.below_ hb_); have BR := zA hc_; clear hb_ hc_)
    | ((with_reducible refine gate_load (t := 5) rfl ?_); first | (refine c_ld8 rfl rfl rfl (by decide) BC.out ?_; intro _ _) | (refine c_ld8 rfl rfl rfl (by decide) BR.out ?_; intro _ _))
    | ((with_reducible refine gate_st (t := 5) rfl ?_); first | (refine c_st8 rfl rfl rfl rfl (by decide) (by first | assumption | exact RB_mod _ | exact RB_bits _ _ _ | exact RB_wrap _ | (unfold RB; omega)) BC.out ?_; intro w1 hc_ hk_ hb_; replace BR := zA (BR.out.other NE.out hk_); replace HB := zA (HB.out.set GC.out hk_ hb_); replace HU := zA (HU.out.other BC.out hk_); replace BC := zA (hc_); clear hc_ hk_ hb_) | (refine c_st8 rfl rfl rfl rfl (by decide) (by first | assumption | exact RB_mod _ | exact RB_bits _ _ _ | exact RB_wrap _ | (unfold RB; omega)) BR.out ?_; intro w1 hc_ hk_ hb_; replace BC := zA (BC.out.other NE.out.symm hk_); replace HB := zA (HB.out.set GR.out hk_ hb_); replace HU := zA (HU.out.other BR.out hk_); replace BR := zA (hc_); clear hc_ hk_ hb_))
    | ((with_reducible refine gate_load (t := 41) rfl ?_); first | (refine c_ldp rfl rfl rfl BC.out ?_; intro _ _) | (refine c_ldp rfl rfl rfl BR.out ?_; intro _ _))
    | ((with_reducible refine gate_st (t := 41) rfl ?_); first | (refine c_stp rfl rfl rfl rfl (by first | assumption | exact RP_mod _ | exact RP_wrap _ | (unfold RP; omega)) BC.out ?_; intro w1 hc_ hk_ hb_; replace BR := zA (BR.out.other NE.out hk_); replace HB := zA (HB.out.set GC.out hk_ hb_); replace HU := zA (HU.out.other BC.out hk_); replace BC := zA (hc_); clear hc_ hk_ hb_) | (refine c_stp rfl rfl rfl rfl (by first | assumption | exact RP_mod _ | exact RP_wrap _ | (unfold RP; omega)) BR.out ?_; intro w1 hc_ hk_ hb_; replace BC := zA (BC.out.other NE.out.symm hk_); replace HB := zA (HB.out.set GR.out hk_ hb_); replace HU := zA (HU.out.other BR.out hk_); replace BR := zA (hc_); clear hc_ hk_ hb_))
    | ((with_reducible refine gate_load (t := 4) rfl ?_); first | (refine c_ldb rfl rfl rfl (by decide) BC.out ?_; intro _) | (refine c_ldb rfl rfl rfl (by decide) BR.out ?_; intro _))
    | ((with_reducible refine gate_st (t := 4) rfl ?_); first | (refine c_stb rfl rfl rfl rfl (by decide) BC.out ?_; intro w1 hc_ hk_ hb_; replace BR := zA (BR.out.other NE.out hk_); replace HB := zA (HB.out.set GC.out hk_ hb_); replace HU := zA (HU.out.other BC.out hk_); replace BC := zA (hc_); clear hc_ hk_ hb_) | (refine c_stb rfl rfl rfl rfl (by decide) BR.out ?_; intro w1 hc_ hk_ hb_; replace BC := zA (BC.out.other NE.out.symm hk_); replace HB := zA (HB.out.set GR.out hk_ hb_); replace HU := zA (HU.out.other BR.out hk_); replace BR := zA (hc_); clear hc_ hk_ hb_))
    | ((with_reducible refine gate_load (t := 62) rfl ?_); first | (refine c_ldF rfl rfl rfl BC.out ?_; rintro _ ⟨k0, k1, k2, k3, k4, k5, rfl⟩) | (refine c_ldF rfl rfl rfl BR.out ?_; rintro _ ⟨k0, k1, k2, k3, k4, k5, rfl⟩))
    | ((with_reducible refine gate_st (t := 62) rfl ?_); first | (refine c_stF rfl rfl rfl rfl ⟨_, _, _, _, _, _, rfl⟩ BC.out ?_; intro w1 hc_ hk_ hb_; replace BR := zA (BR.out.other NE.out hk_); replace HB := zA (HB.out.set GC.out hk_ hb_); replace HU := zA (HU.out.other BC.out hk_); replace BC := zA (hc_); clear hc_ hk_ hb_) | (refine c_stF rfl rfl rfl rfl ⟨_, _, _, _, _, _, rfl⟩ BR.out ?_; intro w1 hc_ hk_ hb_; replace BC := zA (BC.out.other NE.out.symm hk_); replace HB := zA (HB.out.set GR.out hk_ hb_); replace HU := zA (HU.out.other BR.out hk_); replace BR := zA (hc_); clear hc_ hk_ hb_))
    | ((with_reducible refine gate_load (t := 64) rfl ?_); first | (refine c_ldC rfl rfl rfl BC.out ?_; intro _ _) | (refine c_ldC rfl rfl rfl BR.out ?_; intro _ _))
    | ((with_reducible refine gate_st (t := 64) rfl ?_); first | (refine c_stC rfl rfl rfl rfl (by assumption) BC.out ?_; intro w1 hc_ hk_ hb_; replace BR := zA (BR.out.other NE.out hk_); replace HB := zA (HB.out.set GC.out hk_ hb_); replace HU := zA (HU.out.other BC.out hk_); replace BC := zA (hc_); clear hc_ hk_ hb_) | (refine c_stC rfl rfl rfl rfl (by assumption) BR.out ?_; intro w1 hc_ hk_ hb_; replace BC := zA (BC.out.other NE.out.symm hk_); replace HB := zA (HB.out.set GR.out hk_ hb_); replace HU := zA (HU.out.other BR.out hk_); replace BR := zA (hc_); clear hc_ hk_ hb_))
    | (go_at_call 82; refine (l06Holds.any _ _ _ _ _ _ _ _).mono ?_; rintro e w1 ⟨_, rfl, hb_⟩; replace BC := zA (BC.out.below_ hb_); replace BR := zA (BR.out.below_ hb_); replace HB := zA (HB.out.trans (FB.of_below hb_)); replace HU := zA (HU.out.below_ hb_); clear hb_)
    | (go_at_call 83; refine (l04Offset.any _ (by first | assumption | exact RB_mod _ | exact RB_bits _ _ _ | exact RB_wrap _ | (unfold RB; omega)) _).mono ?_; rintro e w1 ⟨_, rfl, hb_⟩; replace BC := zA (BC.out.below_ hb_); replace BR := zA (BR.out.below_ hb_); replace HB := zA (HB.out.trans (FB.of_below hb_)); replace HU := zA (HU.out.below_ hb_); clear hb_)
    | (go_at_call 59; refine (l06Read.any _ gb B ln _ _ HL.out (by have := HN.out; omega) (Nat.le_trans HS.out HB.out.size) HU.out).mono ?_; rintro e w1 ⟨_, rfl, _, hu_, hb_⟩; replace BC := zA (BC.out.fb hb_); replace BR := zA (BR.out.fb hb_); replace HB := zA (HB.out.trans hb_); replace HU := zA (hu_); clear hu_ hb_)
    | ((with_reducible refine gate_ret ?_); refine c_ret rfl rfl rfl BR.out (fun ds hds => ?_); exact ⟨ds, _, rfl, hds, by omega, by omega, HU.out, HB.out⟩))
set_option maxHeartbeats 8000000 in
set_option maxRecDepth 100000 in
theorem l06Push.any (w : World) (gb B ln n : Nat) (cs : Array Value) (a2 : Int) (a3 : Bool) (a4 : Int) (hv : CC cs) (hl : 0 < ln ∧ ln ≤ 65536) (hn : n ≤ 950) (hB : B ≤ w.heap.size) (h : Bus w gb B ln n) : Calls Tryz.prog 60 #[.pointer (some ⟨gb, 0, none⟩), .agg cs, .int .i64 a2, .bool a3, .int .i64 a4] w fun e w1 => ∃ ds, e = .returned (.agg ds) ∧ CC ds ∧ Bus w1 gb B ln (n + 5) ∧ FB B w w1 := by
  have HV := zA hv
  have HB := zA (FB.refl B w)
  have HU := zA h
  have HL := zA hl
  have HN := zA hn
  have HS := zA hB
  clear hv h hl hn hB
  go_enter Tryz.func60, Tryz.ntmps60
  go_wp2_with (first
    | ((with_reducible refine gate_dst (N := 6) rfl ?_); refine c_box rfl rfl rfl rfl HV.out ?_; intro g hg w1 hc_ hb_; have GC := zA (by rw [← hg]; exact HB.out.size : w.heap.size ≤ g); replace HB := zA (HB.out.trans (FB.of_below hb_)); replace HU := zA (HU.out.below_ hb_); have BC := zA hc_; clear hb_ hc_)
    | ((with_reducible refine gate_dst (N := 10) rfl ?_); refine c_alloc rfl rfl rfl ?_; intro gr hgr w1 hc_ hb_; have GR := zA (by rw [← hgr]; exact HB.out.size : w.heap.size ≤ gr); have NE := zA (by have := BC.out.lt; omega : gr ≠ g); replace BC := zA (BC.out.below_ hb_); replace HB := zA (HB.out.trans (FB.of_below hb_)); replace HU := zA (HU.out.below_ hb_); have BR := zA hc_; clear hb_ hc_)
    | ((with_reducible refine gate_load (t := 5) rfl ?_); first | (refine c_ld8 rfl rfl rfl (by decide) BC.out ?_; intro _ _) | (refine c_ld8 rfl rfl rfl (by decide) BR.out ?_; intro _ _))
    | ((with_reducible refine gate_st (t := 5) rfl ?_); first | (refine c_st8 rfl rfl rfl rfl (by decide) (by first | assumption | exact RB_mod _ | exact RB_bits _ _ _ | exact RB_wrap _ | (unfold RB; omega)) BC.out ?_; intro w1 hc_ hk_ hb_; replace BR := zA (BR.out.other NE.out hk_); replace HB := zA (HB.out.set GC.out hk_ hb_); replace HU := zA (HU.out.other BC.out hk_); replace BC := zA (hc_); clear hc_ hk_ hb_) | (refine c_st8 rfl rfl rfl rfl (by decide) (by first | assumption | exact RB_mod _ | exact RB_bits _ _ _ | exact RB_wrap _ | (unfold RB; omega)) BR.out ?_; intro w1 hc_ hk_ hb_; replace BC := zA (BC.out.other NE.out.symm hk_); replace HB := zA (HB.out.set GR.out hk_ hb_); replace HU := zA (HU.out.other BR.out hk_); replace BR := zA (hc_); clear hc_ hk_ hb_))
    | ((with_reducible refine gate_load (t := 41) rfl ?_); first | (refine c_ldp rfl rfl rfl BC.out ?_; intro _ _) | (refine c_ldp rfl rfl rfl BR.out ?_; intro _ _))
    | ((with_reducible refine gate_st (t := 41) rfl ?_); first | (refine c_stp rfl rfl rfl rfl (by first | assumption | exact RP_mod _ | exact RP_wrap _ | (unfold RP; omega)) BC.out ?_; intro w1 hc_ hk_ hb_; replace BR := zA (BR.out.other NE.out hk_); replace HB := zA (HB.out.set GC.out hk_ hb_); replace HU := zA (HU.out.other BC.out hk_); replace BC := zA (hc_); clear hc_ hk_ hb_) | (refine c_stp rfl rfl rfl rfl (by first | assumption | exact RP_mod _ | exact RP_wrap _ | (unfold RP; omega)) BR.out ?_; intro w1 hc_ hk_ hb_; replace BC := zA (BC.out.other NE.out.symm hk_); replace HB := zA (HB.out.set GR.out hk_ hb_); replace HU := zA (HU.out.other BR.out hk_); replace BR := zA (hc_); clear hc_ hk_ hb_))
    | ((with_reducible refine gate_load (t := 4) rfl ?_); first | (refine c_ldb rfl rfl rfl (by decide) BC.out ?_; intro _) | (refine c_ldb rfl rfl rfl (by decide) BR.out ?_; intro _))
    | ((with_reducible refine gate_st (t := 4) rfl ?_); first | (refine c_stb rfl rfl rfl rfl (by decide) BC.out ?_; intro w1 hc_ hk_ hb_; replace BR := zA (BR.out.other NE.out hk_); replace HB := zA (HB.out.set GC.out hk_ hb_); replace HU := zA (HU.out.other BC.out hk_); replace BC := zA (hc_); clear hc_ hk_ hb_) | (refine c_stb rfl rfl rfl rfl (by decide) BR.out ?_; intro w1 hc_ hk_ hb_; replace BC := zA (BC.out.other NE.out.symm hk_); replace HB := zA (HB.out.set GR.out hk_ hb_); replace HU := zA (HU.out.other BR.out hk_); replace BR := zA (hc_); clear hc_ hk_ hb_))
    | ((with_reducible refine gate_load (t := 62) rfl ?_); first | (refine c_ldF rfl rfl rfl BC.out ?_; rintro _ ⟨k0, k1, k2, k3, k4, k5, rfl⟩) | (refine c_ldF rfl rfl rfl BR.out ?_; rintro _ ⟨k0, k1, k2, k3, k4, k5, rfl⟩))
    | ((with_reducible refine gate_st (t := 62) rfl ?_); first | (refine c_stF rfl rfl rfl rfl ⟨_, _, _, _, _, _, rfl⟩ BC.out ?_; intro w1 hc_ hk_ hb_; replace BR := zA (BR.out.other NE.out hk_); replace HB := zA (HB.out.set GC.out hk_ hb_); replace HU := zA (HU.out.other BC.out hk_); replace BC := zA (hc_); clear hc_ hk_ hb_) | (refine c_stF rfl rfl rfl rfl ⟨_, _, _, _, _, _, rfl⟩ BR.out ?_; intro w1 hc_ hk_ hb_; replace BC := zA (BC.out.other NE.out.symm hk_); replace HB := zA (HB.out.set GR.out hk_ hb_); replace HU := zA (HU.out.other BR.out hk_); replace BR := zA (hc_); clear hc_ hk_ hb_))
    | ((with_reducible refine gate_load (t := 64) rfl ?_); first | (refine c_ldC rfl rfl rfl BC.out ?_; intro _ _) | (refine c_ldC rfl rfl rfl BR.out ?_; intro _ _))
    | ((with_reducible refine gate_st (t := 64) rfl ?_); first | (refine c_stC rfl rfl rfl rfl (by assumption) BC.out ?_; intro w1 hc_ hk_ hb_; replace BR := zA (BR.out.other NE.out hk_); replace HB := zA (HB.out.set GC.out hk_ hb_); replace HU := zA (HU.out.other BC.out hk_); replace BC := zA (hc_); clear hc_ hk_ hb_) | (refine c_stC rfl rfl rfl rfl (by assumption) BR.out ?_; intro w1 hc_ hk_ hb_; replace BC := zA (BC.out.other NE.out.symm hk_); replace HB := zA (HB.out.set GR.out hk_ hb_); replace HU := zA (HU.out.other BR.out hk_); replace BR := zA (hc_); clear hc_ hk_ hb_))
    | (go_at_call 75; refine (l06Stack.any _ _).mono ?_; rintro e w1 ⟨_, rfl, hb_⟩; replace BC := zA (BC.out.below_ hb_); replace BR := zA (BR.out.below_ hb_); replace HB := zA (HB.out.trans (FB.of_below hb_)); replace HU := zA (HU.out.below_ hb_); clear hb_)
    | (go_at_call 76; refine (PackP.any _ _ _ _ _ _ _ _).mono ?_; rintro e w1 ⟨_, rfl, _, hb_⟩; replace BC := zA (BC.out.below_ hb_); replace BR := zA (BR.out.below_ hb_); replace HB := zA (HB.out.trans (FB.of_below hb_)); replace HU := zA (HU.out.below_ hb_); clear hb_)
    | (go_at_call 77; refine (l04Word.any _ _ (by first | assumption | exact RB_mod _ | exact RB_bits _ _ _ | exact RB_wrap _ | (unfold RB; omega)) (by first | assumption | exact RB_mod _ | exact RB_bits _ _ _ | exact RB_wrap _ | (unfold RB; omega)) _).mono ?_; rintro e w1 ⟨_, rfl, hb_⟩; replace BC := zA (BC.out.below_ hb_); replace BR := zA (BR.out.below_ hb_); replace HB := zA (HB.out.trans (FB.of_below hb_)); replace HU := zA (HU.out.below_ hb_); clear hb_)
    | (go_at_call 59; refine (l06Read.any _ gb B ln _ _ HL.out (by have := HN.out; omega) (Nat.le_trans HS.out HB.out.size) HU.out).mono ?_; rintro e w1 ⟨_, rfl, _, hu_, hb_⟩; replace BC := zA (BC.out.fb hb_); replace BR := zA (BR.out.fb hb_); replace HB := zA (HB.out.trans hb_); replace HU := zA (hu_); clear hu_ hb_)
    | (go_at_call 74; refine (l06Write.any _ gb B ln _ _ _ (by first | assumption | exact RB_mod _ | exact RB_bits _ _ _ | exact RB_wrap _ | (unfold RB; omega)) HL.out (by have := HN.out; omega) (Nat.le_trans HS.out HB.out.size) HU.out).mono ?_; rintro e w1 ⟨rfl, hu_, hb_⟩; replace BC := zA (BC.out.fb hb_); replace BR := zA (BR.out.fb hb_); replace HB := zA (HB.out.trans hb_); replace HU := zA (hu_); clear hu_ hb_)
    | ((with_reducible refine gate_region (id := 4) ?_)
       obtain ⟨cs0, hbc, hcc⟩ := BC.out
       have HCC := zA hcc
       obtain ⟨Ac, X0, Y0, S0, P0, e0, e1, e2, e3, e4, e5, rfl, hA0, hX0, hY0, hS0, hP0⟩ := hcc
       refine start_k (n := 9) (S := fun w' => w'.heap[g]? = some (.cells #[.int .u8 Ac, .int .u8 X0, .int .u8 Y0, .int .u8 S0, .int .u16 P0, .bool e0, .bool e1, .bool e2, .bool e3, .bool e4, .bool e5] 64 (0, 0))) (ds := []) #[false, false, false, false, false, false, false, false, false] (by kernel_rfl) rfl rfl hbc (fun w1 he hs => by rw [he]; exact hs) ?_
       intro w1 hHeld hb_
       replace BC := zA (BC.out.below_ hb_); replace BR := zA (BR.out.below_ hb_); replace HB := zA (HB.out.trans (FB.of_below hb_)); replace HU := zA (HU.out.below_ hb_)
       clear hb_ hbc
       refine pure_ (i := 0) (N := some 32) (v := ?_) (a' := ?_) #[true, false, false, false, false, false, false, false, false] rfl rfl (by kernel_rfl) (fun _ _ _ h => h) (Or.inl ⟨by rfl, ?_⟩) ?_ ?_
       rotate_left
       · intro w'
         go_simp
         with_reducible rfl
       rotate_left
       · simp only [zP]
         rfl
       refine pure_ (i := 1) (N := some 33) (v := ?_) (a' := ?_) #[true, true, false, false, false, false, false, false, false] rfl rfl (by kernel_rfl) (fun _ _ _ h => h) (Or.inl ⟨by rfl, ?_⟩) ?_ ?_
       rotate_left
       · intro w'
         go_simp
         with_reducible rfl
       rotate_left
       · simp only [zP]
         rfl
       refine pure_ (i := 2) (N := some 34) (v := ?_) (a' := ?_) #[true, true, true, false, false, false, false, false, false] rfl rfl (by kernel_rfl) (fun _ _ _ h => h) (Or.inl ⟨by rfl, ?_⟩) ?_ ?_
       rotate_left
       · intro w'
         go_simp
         with_reducible rfl
       rotate_left
       · simp only [zP]
         rfl
       refine pure_ (i := 4) (N := some 36) (v := ?_) (a' := ?_) #[true, true, true, false, true, false, false, false, false] rfl rfl (by kernel_rfl) (fun _ _ _ h => h) (Or.inl ⟨by rfl, ?_⟩) ?_ ?_
       rotate_left
       · intro w'
         go_simp
         with_reducible rfl
       rotate_left
       · simp only [zP]
         rfl
       refine take_ (i := 5) (N := some 37) (v := ?_) (a' := ?_) #[true, true, true, false, true, true, false, false, false] rfl rfl (by kernel_rfl) (fun _ _ _ h => h) (Or.inl ⟨by rfl, ?_⟩) hHeld ?_ ?_
       rotate_left
       · intro w' s0
         have s1 : w'.cell? ⟨g, 0, none⟩ = some (.int .u8 Ac) := (blk_cell s0 0).trans rfl
         have s2 : w'.cell? ⟨g, 1, none⟩ = some (.int .u8 X0) := (blk_cell s0 1).trans rfl
         have s3 : w'.cell? ⟨g, 2, none⟩ = some (.int .u8 Y0) := (blk_cell s0 2).trans rfl
         have s4 : w'.cell? ⟨g, 3, none⟩ = some (.int .u8 S0) := (blk_cell s0 3).trans rfl
         have s5 : w'.cell? ⟨g, 4, none⟩ = some (.int .u16 P0) := (blk_cell s0 4).trans rfl
         have s6 : w'.cell? ⟨g, 5, none⟩ = some (.bool e0) := (blk_cell s0 5).trans rfl
         have s7 : w'.cell? ⟨g, 6, none⟩ = some (.bool e1) := (blk_cell s0 6).trans rfl
         have s8 : w'.cell? ⟨g, 7, none⟩ = some (.bool e2) := (blk_cell s0 7).trans rfl
         have s9 : w'.cell? ⟨g, 8, none⟩ = some (.bool e3) := (blk_cell s0 8).trans rfl
         have s10 : w'.cell? ⟨g, 9, none⟩ = some (.bool e4) := (blk_cell s0 9).trans rfl
         have s11 : w'.cell? ⟨g, 10, none⟩ = some (.bool e5) := (blk_cell s0 10).trans rfl
         go_simp
         with_reducible rfl
       rotate_left
       · simp only [zP]
         rfl
       refine pure_ (i := 6) (N := some 38) (v := ?_) (a' := ?_) #[true, true, true, false, true, true, true, false, false] rfl rfl (by kernel_rfl) (fun _ _ _ h => h) (Or.inl ⟨by rfl, ?_⟩) ?_ ?_
       rotate_left
       · intro w'
         go_simp
         with_reducible rfl
       rotate_left
       · simp only [zP]
         rfl
       refine one_ (i := 3) (N := some 35) #[true, true, true, true, true, true, true, false, false] rfl rfl (by kernel_rfl) (by decide) (fun K hK => ?_)
       refine goes_ Tryz.func75 (by kernel_rfl) rfl #[.int .i64 _] (by rfl) rfl rfl (by (try simp only [List.map_toArray, List.map_cons, List.map_nil]); first | done | rfl) ?_
       with_reducible refine (l06Stack.any _ _).mono ?_
       rintro e w1 ⟨z1, rfl, hb_⟩
       refine ⟨_, rfl, ?_⟩
       replace hHeld := blk_below hHeld hb_
       replace BC := zA (BC.out.below_ hb_); replace BR := zA (BR.out.below_ hb_); replace HB := zA (HB.out.trans (FB.of_below hb_)); replace HU := zA (HU.out.below_ hb_)
       clear hb_
       refine hK.out _ _ hHeld (fun _ => ?_)
       clear hK K
       refine norm_ (a' := ?_) ?_ ?_
       rotate_left
       · show Act.put _ (some 35) _ = _
         simp only [zP]
         rfl
       refine one_ (i := 7) (N := some 39) #[true, true, true, true, true, true, true, true, false] rfl rfl (by kernel_rfl) (by decide) (fun K hK => ?_)
       refine goes_ Tryz.func76 (by kernel_rfl) rfl #[.agg #[.bool _, .bool _, .bool _, .bool _, .bool _, .bool _], .bool _] (by rfl) rfl rfl (by (try simp only [List.map_toArray, List.map_cons, List.map_nil]); first | done | rfl) ?_
       with_reducible refine (PackP.any _ _ _ _ _ _ _ _).mono ?_
       rintro e w1 ⟨z2, rfl, hz2, hb_⟩
       refine ⟨_, rfl, ?_⟩
       replace hHeld := blk_below hHeld hb_
       replace BC := zA (BC.out.below_ hb_); replace BR := zA (BR.out.below_ hb_); replace HB := zA (HB.out.trans (FB.of_below hb_)); replace HU := zA (HU.out.below_ hb_)
       clear hb_
       refine hK.out _ _ hHeld (fun _ => ?_)
       clear hK K
       refine norm_ (a' := ?_) ?_ ?_
       rotate_left
       · show Act.put _ (some 39) _ = _
         simp only [zP]
         rfl
       refine one_ (i := 8) (N := some 40) #[true, true, true, true, true, true, true, true, true] rfl rfl (by kernel_rfl) (by decide) (fun K hK => ?_)
       refine goes_ Tryz.func74 (by kernel_rfl) rfl #[.pointer (some ⟨gb, 0, none⟩), .int .i64 _, .int .u8 _] (by rfl) rfl rfl (by (try simp only [List.map_toArray, List.map_cons, List.map_nil]); first | done | rfl) ?_
       with_reducible refine (l06Write.any _ gb B ln _ _ _ (by first | assumption | exact RB_mod _ | exact RB_bits _ _ _ | exact RB_wrap _ | (unfold RB; omega)) HL.out (by have := HN.out; omega) (Nat.le_trans HS.out HB.out.size) HU.out).mono ?_
       rintro e w1 ⟨rfl, hu_, hb_⟩
       refine ⟨_, rfl, ?_⟩
       replace hHeld := (hb_.block _ (blk_lt hHeld) (.inr ⟨_, _, hHeld, by decide, by decide, by decide⟩)).trans hHeld
       replace BC := zA (BC.out.fb hb_); replace BR := zA (BR.out.fb hb_); replace HB := zA (HB.out.trans hb_); replace HU := zA (hu_)
       clear hb_ hu_
       refine hK.out _ _ hHeld (fun _ => ?_)
       clear hK K
       refine norm_ (a' := ?_) ?_ ?_
       rotate_left
       · show Act.put _ (some 40) _ = _
         simp only [zP]
         rfl
       refine done_ (by kernel_rfl) ?_
       clear hHeld)
    | ((with_reducible refine gate_ret ?_); refine c_ret rfl rfl rfl BR.out (fun ds hds => ?_); exact ⟨ds, rfl, hds, HU.out, HB.out⟩))
theorem l06Index.cc (cs : Array Value) (a1 : Int) (hv : CC cs) (w : World) : Calls Tryz.prog 105 #[.agg cs, .int .i64 a1] w fun e w1 => ∃ r, e = .returned (.int .i64 r) ∧ Below w.heap.size w w1 := by
  obtain ⟨a, x, y, s, p, f0, f1, f2, f3, f4, f5, rfl, h0, h1, h2, h3, h4⟩ := hv
  exact l06Index.any _ _ _ _ _ _ _ _ _ _ _ _ h0 h1 h2 h3 w
theorem l06Reg.cc (cs : Array Value) (a1 : ByteArray) (hv : CC cs) (w : World) : Calls Tryz.prog 86 #[.agg cs, .string a1] w fun e w1 => ∃ r, e = .returned (.int .u8 r) ∧ RB r ∧ Below w.heap.size w w1 := by
  obtain ⟨a, x, y, s, p, f0, f1, f2, f3, f4, f5, rfl, h0, h1, h2, h3, h4⟩ := hv
  exact l06Reg.any _ _ _ _ _ _ _ _ _ _ _ _ h0 h1 h2 h3 w
set_option maxHeartbeats 8000000 in
set_option maxRecDepth 100000 in
theorem l06Place.any (w : World) (gb B ln n : Nat) (cs : Array Value) (a2 a3 : Int) (hv : CC cs) (hl : 0 < ln ∧ ln ≤ 65536) (hn : n ≤ 950) (hB : B ≤ w.heap.size) (h : Bus w gb B ln n) : Calls Tryz.prog 85 #[.pointer (some ⟨gb, 0, none⟩), .agg cs, .int .i64 a2, .int .i64 a3] w fun e w1 => ∃ r m, e = .returned (.int .i64 r) ∧ n ≤ m ∧ m ≤ n + 5 ∧ Bus w1 gb B ln m ∧ FB B w w1 := by
  have HV := zA hv
  have HB := zA (FB.refl B w)
  have HU := zA h
  have HL := zA hl
  have HN := zA hn
  have HS := zA hB
  clear h hl hn hB
  go_enter Tryz.func85, Tryz.ntmps85
  go_wp2_with (first
    | ((with_reducible refine gate_dst (N := 5) rfl ?_); refine c_box rfl rfl rfl rfl HV.out ?_; intro g hg w1 hc_ hb_; have GC := zA (by rw [← hg]; exact HB.out.size : w.heap.size ≤ g); replace HB := zA (HB.out.trans (FB.of_below hb_)); replace HU := zA (HU.out.below_ hb_); have BC := zA hc_; clear hb_ hc_)
    | ((with_reducible refine gate_load (t := 5) rfl ?_); first | (refine c_ld8 rfl rfl rfl (by decide) BC.out ?_; intro _ _))
    | ((with_reducible refine gate_st (t := 5) rfl ?_); first | (refine c_st8 rfl rfl rfl rfl (by decide) (by first | assumption | exact RB_mod _ | exact RB_bits _ _ _ | exact RB_wrap _ | (unfold RB; omega)) BC.out ?_; intro w1 hc_ hk_ hb_; replace HB := zA (HB.out.set GC.out hk_ hb_); replace HU := zA (HU.out.other BC.out hk_); replace BC := zA (hc_); clear hc_ hk_ hb_))
    | ((with_reducible refine gate_load (t := 41) rfl ?_); first | (refine c_ldp rfl rfl rfl BC.out ?_; intro _ _))
    | ((with_reducible refine gate_st (t := 41) rfl ?_); first | (refine c_stp rfl rfl rfl rfl (by first | assumption | exact RP_mod _ | exact RP_wrap _ | (unfold RP; omega)) BC.out ?_; intro w1 hc_ hk_ hb_; replace HB := zA (HB.out.set GC.out hk_ hb_); replace HU := zA (HU.out.other BC.out hk_); replace BC := zA (hc_); clear hc_ hk_ hb_))
    | ((with_reducible refine gate_load (t := 4) rfl ?_); first | (refine c_ldb rfl rfl rfl (by decide) BC.out ?_; intro _))
    | ((with_reducible refine gate_st (t := 4) rfl ?_); first | (refine c_stb rfl rfl rfl rfl (by decide) BC.out ?_; intro w1 hc_ hk_ hb_; replace HB := zA (HB.out.set GC.out hk_ hb_); replace HU := zA (HU.out.other BC.out hk_); replace BC := zA (hc_); clear hc_ hk_ hb_))
    | ((with_reducible refine gate_load (t := 62) rfl ?_); first | (refine c_ldF rfl rfl rfl BC.out ?_; rintro _ ⟨k0, k1, k2, k3, k4, k5, rfl⟩))
    | ((with_reducible refine gate_st (t := 62) rfl ?_); first | (refine c_stF rfl rfl rfl rfl ⟨_, _, _, _, _, _, rfl⟩ BC.out ?_; intro w1 hc_ hk_ hb_; replace HB := zA (HB.out.set GC.out hk_ hb_); replace HU := zA (HU.out.other BC.out hk_); replace BC := zA (hc_); clear hc_ hk_ hb_))
    | ((with_reducible refine gate_load (t := 64) rfl ?_); first | (refine c_ldC rfl rfl rfl BC.out ?_; intro _ _))
    | ((with_reducible refine gate_st (t := 64) rfl ?_); first | (refine c_stC rfl rfl rfl rfl (by assumption) BC.out ?_; intro w1 hc_ hk_ hb_; replace HB := zA (HB.out.set GC.out hk_ hb_); replace HU := zA (HU.out.other BC.out hk_); replace BC := zA (hc_); clear hc_ hk_ hb_))
    | (go_at_call 77; refine (l04Word.any _ _ (by first | assumption | exact RB_mod _ | exact RB_bits _ _ _ | exact RB_wrap _ | (unfold RB; omega)) (by first | assumption | exact RB_mod _ | exact RB_bits _ _ _ | exact RB_wrap _ | (unfold RB; omega)) _).mono ?_; rintro e w1 ⟨_, rfl, hb_⟩; replace BC := zA (BC.out.below_ hb_); replace HB := zA (HB.out.trans (FB.of_below hb_)); replace HU := zA (HU.out.below_ hb_); clear hb_)
    | (go_at_call 105; refine (l06Index.cc _ _ (by assumption) _).mono ?_; rintro e w1 ⟨_, rfl, hb_⟩; replace BC := zA (BC.out.below_ hb_); replace HB := zA (HB.out.trans (FB.of_below hb_)); replace HU := zA (HU.out.below_ hb_); clear hb_)
    | (go_at_call 59; refine (l06Read.any _ gb B ln _ _ HL.out (by have := HN.out; omega) (Nat.le_trans HS.out HB.out.size) HU.out).mono ?_; rintro e w1 ⟨_, rfl, _, hu_, hb_⟩; replace BC := zA (BC.out.fb hb_); replace HB := zA (HB.out.trans hb_); replace HU := zA (hu_); clear hu_ hb_)
    | ((with_reducible refine gate_ret ?_); refine bodyPost_ret (results_tmp rfl _ _ _) rfl ?_; exact ⟨_, _, rfl, by omega, by omega, HU.out, HB.out⟩))
set_option maxHeartbeats 8000000 in
set_option maxRecDepth 100000 in
theorem l06Hold.any (w : World) (gb B ln n : Nat) (cs : Array Value) (a2 : ByteArray) (hv : CC cs) (hl : 0 < ln ∧ ln ≤ 65536) (hn : n ≤ 950) (hB : B ≤ w.heap.size) (h : Bus w gb B ln n) : Calls Tryz.prog 87 #[.pointer (some ⟨gb, 0, none⟩), .agg cs, .string a2] w fun e w1 => ∃ ds m, e = .returned (.agg ds) ∧ CC ds ∧ n ≤ m ∧ m ≤ n + 3 ∧ Bus w1 gb B ln m ∧ FB B w w1 := by
  have HV := zA hv
  have HB := zA (FB.refl B w)
  have HU := zA h
  have HL := zA hl
  have HN := zA hn
  have HS := zA hB
  clear h hl hn hB hv
  go_enter Tryz.func87, Tryz.ntmps87
  go_wp2_with (first
    | ((with_reducible refine gate_dst (N := 4) rfl ?_); refine c_box rfl rfl rfl rfl HV.out ?_; intro g hg w1 hc_ hb_; have GC := zA (by rw [← hg]; exact HB.out.size : w.heap.size ≤ g); replace HB := zA (HB.out.trans (FB.of_below hb_)); replace HU := zA (HU.out.below_ hb_); have BC := zA hc_; clear hb_ hc_)
    | ((with_reducible refine gate_dst (N := 6) rfl ?_); refine c_alloc rfl rfl rfl ?_; intro gr hgr w1 hc_ hb_; have GR := zA (by rw [← hgr]; exact HB.out.size : w.heap.size ≤ gr); have NE := zA (by have := BC.out.lt; omega : gr ≠ g); replace BC := zA (BC.out.below_ hb_); replace HB := zA (HB.out.trans (FB.of_below hb_)); replace HU := zA (HU.out.below_ hb_); have BR := zA hc_; clear hb_ hc_)
    | ((with_reducible refine gate_load (t := 5) rfl ?_); first | (refine c_ld8 rfl rfl rfl (by decide) BC.out ?_; intro _ _) | (refine c_ld8 rfl rfl rfl (by decide) BR.out ?_; intro _ _))
    | ((with_reducible refine gate_st (t := 5) rfl ?_); first | (refine c_st8 rfl rfl rfl rfl (by decide) (by first | assumption | exact RB_mod _ | exact RB_bits _ _ _ | exact RB_wrap _ | (unfold RB; omega)) BC.out ?_; intro w1 hc_ hk_ hb_; replace BR := zA (BR.out.other NE.out hk_); replace HB := zA (HB.out.set GC.out hk_ hb_); replace HU := zA (HU.out.other BC.out hk_); replace BC := zA (hc_); clear hc_ hk_ hb_) | (refine c_st8 rfl rfl rfl rfl (by decide) (by first | assumption | exact RB_mod _ | exact RB_bits _ _ _ | exact RB_wrap _ | (unfold RB; omega)) BR.out ?_; intro w1 hc_ hk_ hb_; replace BC := zA (BC.out.other NE.out.symm hk_); replace HB := zA (HB.out.set GR.out hk_ hb_); replace HU := zA (HU.out.other BR.out hk_); replace BR := zA (hc_); clear hc_ hk_ hb_))
    | ((with_reducible refine gate_load (t := 41) rfl ?_); first | (refine c_ldp rfl rfl rfl BC.out ?_; intro _ _) | (refine c_ldp rfl rfl rfl BR.out ?_; intro _ _))
    | ((with_reducible refine gate_st (t := 41) rfl ?_); first | (refine c_stp rfl rfl rfl rfl (by first | assumption | exact RP_mod _ | exact RP_wrap _ | (unfold RP; omega)) BC.out ?_; intro w1 hc_ hk_ hb_; replace BR := zA (BR.out.other NE.out hk_); replace HB := zA (HB.out.set GC.out hk_ hb_); replace HU := zA (HU.out.other BC.out hk_); replace BC := zA (hc_); clear hc_ hk_ hb_) | (refine c_stp rfl rfl rfl rfl (by first | assumption | exact RP_mod _ | exact RP_wrap _ | (unfold RP; omega)) BR.out ?_; intro w1 hc_ hk_ hb_; replace BC := zA (BC.out.other NE.out.symm hk_); replace HB := zA (HB.out.set GR.out hk_ hb_); replace HU := zA (HU.out.other BR.out hk_); replace BR := zA (hc_); clear hc_ hk_ hb_))
    | ((with_reducible refine gate_load (t := 4) rfl ?_); first | (refine c_ldb rfl rfl rfl (by decide) BC.out ?_; intro _) | (refine c_ldb rfl rfl rfl (by decide) BR.out ?_; intro _))
    | ((with_reducible refine gate_st (t := 4) rfl ?_); first | (refine c_stb rfl rfl rfl rfl (by decide) BC.out ?_; intro w1 hc_ hk_ hb_; replace BR := zA (BR.out.other NE.out hk_); replace HB := zA (HB.out.set GC.out hk_ hb_); replace HU := zA (HU.out.other BC.out hk_); replace BC := zA (hc_); clear hc_ hk_ hb_) | (refine c_stb rfl rfl rfl rfl (by decide) BR.out ?_; intro w1 hc_ hk_ hb_; replace BC := zA (BC.out.other NE.out.symm hk_); replace HB := zA (HB.out.set GR.out hk_ hb_); replace HU := zA (HU.out.other BR.out hk_); replace BR := zA (hc_); clear hc_ hk_ hb_))
    | ((with_reducible refine gate_load (t := 62) rfl ?_); first | (refine c_ldF rfl rfl rfl BC.out ?_; rintro _ ⟨k0, k1, k2, k3, k4, k5, rfl⟩) | (refine c_ldF rfl rfl rfl BR.out ?_; rintro _ ⟨k0, k1, k2, k3, k4, k5, rfl⟩))
    | ((with_reducible refine gate_st (t := 62) rfl ?_); first | (refine c_stF rfl rfl rfl rfl ⟨_, _, _, _, _, _, rfl⟩ BC.out ?_; intro w1 hc_ hk_ hb_; replace BR := zA (BR.out.other NE.out hk_); replace HB := zA (HB.out.set GC.out hk_ hb_); replace HU := zA (HU.out.other BC.out hk_); replace BC := zA (hc_); clear hc_ hk_ hb_) | (refine c_stF rfl rfl rfl rfl ⟨_, _, _, _, _, _, rfl⟩ BR.out ?_; intro w1 hc_ hk_ hb_; replace BC := zA (BC.out.other NE.out.symm hk_); replace HB := zA (HB.out.set GR.out hk_ hb_); replace HU := zA (HU.out.other BR.out hk_); replace BR := zA (hc_); clear hc_ hk_ hb_))
    | ((with_reducible refine gate_load (t := 64) rfl ?_); first | (refine c_ldC rfl rfl rfl BC.out ?_; intro _ _) | (refine c_ldC rfl rfl rfl BR.out ?_; intro _ _))
    | ((with_reducible refine gate_st (t := 64) rfl ?_); first | (refine c_stC rfl rfl rfl rfl (by assumption) BC.out ?_; intro w1 hc_ hk_ hb_; replace BR := zA (BR.out.other NE.out hk_); replace HB := zA (HB.out.set GC.out hk_ hb_); replace HU := zA (HU.out.other BC.out hk_); replace BC := zA (hc_); clear hc_ hk_ hb_) | (refine c_stC rfl rfl rfl rfl (by assumption) BR.out ?_; intro w1 hc_ hk_ hb_; replace BC := zA (BC.out.other NE.out.symm hk_); replace HB := zA (HB.out.set GR.out hk_ hb_); replace HU := zA (HU.out.other BR.out hk_); replace BR := zA (hc_); clear hc_ hk_ hb_))
    | (go_at_call 75; refine (l06Stack.any _ _).mono ?_; rintro e w1 ⟨_, rfl, hb_⟩; replace BC := zA (BC.out.below_ hb_); replace BR := zA (BR.out.below_ hb_); replace HB := zA (HB.out.trans (FB.of_below hb_)); replace HU := zA (HU.out.below_ hb_); clear hb_)
    | (go_at_call 76; refine (PackP.any _ _ _ _ _ _ _ _).mono ?_; rintro e w1 ⟨_, rfl, _, hb_⟩; replace BC := zA (BC.out.below_ hb_); replace BR := zA (BR.out.below_ hb_); replace HB := zA (HB.out.trans (FB.of_below hb_)); replace HU := zA (HU.out.below_ hb_); clear hb_)
    | (go_at_call 73; refine (UnpackP.any _ (by first | assumption | exact RB_mod _ | exact RB_bits _ _ _ | exact RB_wrap _ | (unfold RB; omega)) _).mono ?_; rintro e w1 ⟨k0, k1, k2, k3, k4, k5, rfl, hb_⟩; replace BC := zA (BC.out.below_ hb_); replace BR := zA (BR.out.below_ hb_); replace HB := zA (HB.out.trans (FB.of_below hb_)); replace HU := zA (HU.out.below_ hb_); clear hb_)
    | (go_at_call 80; refine (NZ.any _ _ _ _ _ _ _ (by first | assumption | exact RB_mod _ | exact RB_bits _ _ _ | exact RB_wrap _ | (unfold RB; omega)) _).mono ?_; rintro e w1 ⟨k0, k1, k2, k3, k4, k5, rfl, hb_⟩; replace BC := zA (BC.out.below_ hb_); replace BR := zA (BR.out.below_ hb_); replace HB := zA (HB.out.trans (FB.of_below hb_)); replace HU := zA (HU.out.below_ hb_); clear hb_)
    | (go_at_call 59; refine (l06Read.any _ gb B ln _ _ HL.out (by have := HN.out; omega) (Nat.le_trans HS.out HB.out.size) HU.out).mono ?_; rintro e w1 ⟨_, rfl, _, hu_, hb_⟩; replace BC := zA (BC.out.fb hb_); replace BR := zA (BR.out.fb hb_); replace HB := zA (HB.out.trans hb_); replace HU := zA (hu_); clear hu_ hb_)
    | (go_at_call 74; refine (l06Write.any _ gb B ln _ _ _ (by first | assumption | exact RB_mod _ | exact RB_bits _ _ _ | exact RB_wrap _ | (unfold RB; omega)) HL.out (by have := HN.out; omega) (Nat.le_trans HS.out HB.out.size) HU.out).mono ?_; rintro e w1 ⟨rfl, hu_, hb_⟩; replace BC := zA (BC.out.fb hb_); replace BR := zA (BR.out.fb hb_); replace HB := zA (HB.out.trans hb_); replace HU := zA (hu_); clear hu_ hb_)
    | ((with_reducible refine gate_region (id := 5) ?_)
       obtain ⟨cs0, hbc, hcc⟩ := BC.out
       have HCC := zA hcc
       obtain ⟨Ac, X0, Y0, S0, P0, e0, e1, e2, e3, e4, e5, rfl, hA0, hX0, hY0, hS0, hP0⟩ := hcc
       refine start_k (n := 6) (S := fun w' => w'.heap[g]? = some (.cells #[.int .u8 Ac, .int .u8 X0, .int .u8 Y0, .int .u8 S0, .int .u16 P0, .bool e0, .bool e1, .bool e2, .bool e3, .bool e4, .bool e5] 64 (0, 0))) (ds := []) #[false, false, false, false, false, false] (by kernel_rfl) rfl rfl hbc (fun w1 he hs => by rw [he]; exact hs) ?_
       intro w1 hHeld hb_
       replace BC := zA (BC.out.below_ hb_); replace BR := zA (BR.out.below_ hb_); replace HB := zA (HB.out.trans (FB.of_below hb_)); replace HU := zA (HU.out.below_ hb_)
       clear hb_ hbc
       refine pure_ (i := 0) (N := some 19) (v := ?_) (a' := ?_) #[true, false, false, false, false, false] rfl rfl (by kernel_rfl) (fun _ _ _ h => h) (Or.inl ⟨by rfl, ?_⟩) ?_ ?_
       rotate_left
       · intro w'
         go_simp
         with_reducible rfl
       rotate_left
       · simp only [zP]
         rfl
       refine pure_ (i := 1) (N := some 20) (v := ?_) (a' := ?_) #[true, true, false, false, false, false] rfl rfl (by kernel_rfl) (fun _ _ _ h => h) (Or.inl ⟨by rfl, ?_⟩) ?_ ?_
       rotate_left
       · intro w'
         go_simp
         with_reducible rfl
       rotate_left
       · simp only [zP]
         rfl
       refine pure_ (i := 3) (N := some 22) (v := ?_) (a' := ?_) #[true, true, false, true, false, false] rfl rfl (by kernel_rfl) (fun _ _ _ h => h) (Or.inl ⟨by rfl, ?_⟩) ?_ ?_
       rotate_left
       · intro w'
         go_simp
         with_reducible rfl
       rotate_left
       · simp only [zP]
         rfl
       refine take_ (i := 4) (N := some 23) (v := ?_) (a' := ?_) #[true, true, false, true, true, false] rfl rfl (by kernel_rfl) (fun _ _ _ h => h) (Or.inl ⟨by rfl, ?_⟩) hHeld ?_ ?_
       rotate_left
       · intro w' s0
         have s1 : w'.cell? ⟨g, 0, none⟩ = some (.int .u8 Ac) := (blk_cell s0 0).trans rfl
         have s2 : w'.cell? ⟨g, 1, none⟩ = some (.int .u8 X0) := (blk_cell s0 1).trans rfl
         have s3 : w'.cell? ⟨g, 2, none⟩ = some (.int .u8 Y0) := (blk_cell s0 2).trans rfl
         have s4 : w'.cell? ⟨g, 3, none⟩ = some (.int .u8 S0) := (blk_cell s0 3).trans rfl
         have s5 : w'.cell? ⟨g, 4, none⟩ = some (.int .u16 P0) := (blk_cell s0 4).trans rfl
         have s6 : w'.cell? ⟨g, 5, none⟩ = some (.bool e0) := (blk_cell s0 5).trans rfl
         have s7 : w'.cell? ⟨g, 6, none⟩ = some (.bool e1) := (blk_cell s0 6).trans rfl
         have s8 : w'.cell? ⟨g, 7, none⟩ = some (.bool e2) := (blk_cell s0 7).trans rfl
         have s9 : w'.cell? ⟨g, 8, none⟩ = some (.bool e3) := (blk_cell s0 8).trans rfl
         have s10 : w'.cell? ⟨g, 9, none⟩ = some (.bool e4) := (blk_cell s0 9).trans rfl
         have s11 : w'.cell? ⟨g, 10, none⟩ = some (.bool e5) := (blk_cell s0 10).trans rfl
         go_simp
         with_reducible rfl
       rotate_left
       · simp only [zP]
         rfl
       refine one_ (i := 2) (N := some 21) #[true, true, true, true, true, false] rfl rfl (by kernel_rfl) (by decide) (fun K hK => ?_)
       refine goes_ Tryz.func75 (by kernel_rfl) rfl #[.int .i64 _] (by rfl) rfl rfl (by (try simp only [List.map_toArray, List.map_cons, List.map_nil]); first | done | rfl) ?_
       with_reducible refine (l06Stack.any _ _).mono ?_
       rintro e w1 ⟨z1, rfl, hb_⟩
       refine ⟨_, rfl, ?_⟩
       replace hHeld := blk_below hHeld hb_
       replace BC := zA (BC.out.below_ hb_); replace BR := zA (BR.out.below_ hb_); replace HB := zA (HB.out.trans (FB.of_below hb_)); replace HU := zA (HU.out.below_ hb_)
       clear hb_
       refine hK.out _ _ hHeld (fun _ => ?_)
       clear hK K
       refine norm_ (a' := ?_) ?_ ?_
       rotate_left
       · show Act.put _ (some 21) _ = _
         simp only [zP]
         rfl
       refine one_ (i := 5) (N := some 24) #[true, true, true, true, true, true] rfl rfl (by kernel_rfl) (by decide) (fun K hK => ?_)
       refine goes_ Tryz.func74 (by kernel_rfl) rfl #[.pointer (some ⟨gb, 0, none⟩), .int .i64 _, .int .u8 _] (by rfl) rfl rfl (by (try simp only [List.map_toArray, List.map_cons, List.map_nil]); first | done | rfl) ?_
       with_reducible refine (l06Write.any _ gb B ln _ _ _ (by first | assumption | exact RB_mod _ | exact RB_bits _ _ _ | exact RB_wrap _ | (unfold RB; omega)) HL.out (by have := HN.out; omega) (Nat.le_trans HS.out HB.out.size) HU.out).mono ?_
       rintro e w1 ⟨rfl, hu_, hb_⟩
       refine ⟨_, rfl, ?_⟩
       replace hHeld := (hb_.block _ (blk_lt hHeld) (.inr ⟨_, _, hHeld, by decide, by decide, by decide⟩)).trans hHeld
       replace BC := zA (BC.out.fb hb_); replace BR := zA (BR.out.fb hb_); replace HB := zA (HB.out.trans hb_); replace HU := zA (hu_)
       clear hb_ hu_
       refine hK.out _ _ hHeld (fun _ => ?_)
       clear hK K
       refine norm_ (a' := ?_) ?_ ?_
       rotate_left
       · show Act.put _ (some 24) _ = _
         simp only [zP]
         rfl
       refine done_ (by kernel_rfl) ?_
       clear hHeld)
    | ((with_reducible refine gate_region (id := 9) ?_)
       obtain ⟨cs0, hbc, hcc⟩ := BC.out
       have HCC := zA hcc
       obtain ⟨Ac, X0, Y0, S0, P0, e0, e1, e2, e3, e4, e5, rfl, hA0, hX0, hY0, hS0, hP0⟩ := hcc
       refine start_k (n := 7) (S := fun w' => w'.heap[g]? = some (.cells #[.int .u8 Ac, .int .u8 X0, .int .u8 Y0, .int .u8 S0, .int .u16 P0, .bool e0, .bool e1, .bool e2, .bool e3, .bool e4, .bool e5] 64 (0, 0))) (ds := []) #[false, false, false, false, false, false, false] (by kernel_rfl) rfl rfl hbc (fun w1 he hs => by rw [he]; exact hs) ?_
       intro w1 hHeld hb_
       replace BC := zA (BC.out.below_ hb_); replace BR := zA (BR.out.below_ hb_); replace HB := zA (HB.out.trans (FB.of_below hb_)); replace HU := zA (HU.out.below_ hb_)
       clear hb_ hbc
       refine pure_ (i := 0) (N := some 32) (v := ?_) (a' := ?_) #[true, false, false, false, false, false, false] rfl rfl (by kernel_rfl) (fun _ _ _ h => h) (Or.inl ⟨by rfl, ?_⟩) ?_ ?_
       rotate_left
       · intro w'
         go_simp
         with_reducible rfl
       rotate_left
       · simp only [zP]
         rfl
       refine pure_ (i := 1) (N := some 33) (v := ?_) (a' := ?_) #[true, true, false, false, false, false, false] rfl rfl (by kernel_rfl) (fun _ _ _ h => h) (Or.inl ⟨by rfl, ?_⟩) ?_ ?_
       rotate_left
       · intro w'
         go_simp
         with_reducible rfl
       rotate_left
       · simp only [zP]
         rfl
       refine pure_ (i := 3) (N := some 35) (v := ?_) (a' := ?_) #[true, true, false, true, false, false, false] rfl rfl (by kernel_rfl) (fun _ _ _ h => h) (Or.inl ⟨by rfl, ?_⟩) ?_ ?_
       rotate_left
       · intro w'
         go_simp
         with_reducible rfl
       rotate_left
       · simp only [zP]
         rfl
       refine take_ (i := 4) (N := some 36) (v := ?_) (a' := ?_) #[true, true, false, true, true, false, false] rfl rfl (by kernel_rfl) (fun _ _ _ h => h) (Or.inl ⟨by rfl, ?_⟩) hHeld ?_ ?_
       rotate_left
       · intro w' s0
         have s1 : w'.cell? ⟨g, 0, none⟩ = some (.int .u8 Ac) := (blk_cell s0 0).trans rfl
         have s2 : w'.cell? ⟨g, 1, none⟩ = some (.int .u8 X0) := (blk_cell s0 1).trans rfl
         have s3 : w'.cell? ⟨g, 2, none⟩ = some (.int .u8 Y0) := (blk_cell s0 2).trans rfl
         have s4 : w'.cell? ⟨g, 3, none⟩ = some (.int .u8 S0) := (blk_cell s0 3).trans rfl
         have s5 : w'.cell? ⟨g, 4, none⟩ = some (.int .u16 P0) := (blk_cell s0 4).trans rfl
         have s6 : w'.cell? ⟨g, 5, none⟩ = some (.bool e0) := (blk_cell s0 5).trans rfl
         have s7 : w'.cell? ⟨g, 6, none⟩ = some (.bool e1) := (blk_cell s0 6).trans rfl
         have s8 : w'.cell? ⟨g, 7, none⟩ = some (.bool e2) := (blk_cell s0 7).trans rfl
         have s9 : w'.cell? ⟨g, 8, none⟩ = some (.bool e3) := (blk_cell s0 8).trans rfl
         have s10 : w'.cell? ⟨g, 9, none⟩ = some (.bool e4) := (blk_cell s0 9).trans rfl
         have s11 : w'.cell? ⟨g, 10, none⟩ = some (.bool e5) := (blk_cell s0 10).trans rfl
         go_simp
         with_reducible rfl
       rotate_left
       · simp only [zP]
         rfl
       refine one_ (i := 2) (N := some 34) #[true, true, true, true, true, false, false] rfl rfl (by kernel_rfl) (by decide) (fun K hK => ?_)
       refine goes_ Tryz.func75 (by kernel_rfl) rfl #[.int .i64 _] (by rfl) rfl rfl (by (try simp only [List.map_toArray, List.map_cons, List.map_nil]); first | done | rfl) ?_
       with_reducible refine (l06Stack.any _ _).mono ?_
       rintro e w1 ⟨z1, rfl, hb_⟩
       refine ⟨_, rfl, ?_⟩
       replace hHeld := blk_below hHeld hb_
       replace BC := zA (BC.out.below_ hb_); replace BR := zA (BR.out.below_ hb_); replace HB := zA (HB.out.trans (FB.of_below hb_)); replace HU := zA (HU.out.below_ hb_)
       clear hb_
       refine hK.out _ _ hHeld (fun _ => ?_)
       clear hK K
       refine norm_ (a' := ?_) ?_ ?_
       rotate_left
       · show Act.put _ (some 34) _ = _
         simp only [zP]
         rfl
       refine one_ (i := 5) (N := some 37) #[true, true, true, true, true, true, false] rfl rfl (by kernel_rfl) (by decide) (fun K hK => ?_)
       refine goes_ Tryz.func76 (by kernel_rfl) rfl #[.agg #[.bool _, .bool _, .bool _, .bool _, .bool _, .bool _], .bool _] (by rfl) rfl rfl (by (try simp only [List.map_toArray, List.map_cons, List.map_nil]); first | done | rfl) ?_
       with_reducible refine (PackP.any _ _ _ _ _ _ _ _).mono ?_
       rintro e w1 ⟨z2, rfl, hz2, hb_⟩
       refine ⟨_, rfl, ?_⟩
       replace hHeld := blk_below hHeld hb_
       replace BC := zA (BC.out.below_ hb_); replace BR := zA (BR.out.below_ hb_); replace HB := zA (HB.out.trans (FB.of_below hb_)); replace HU := zA (HU.out.below_ hb_)
       clear hb_
       refine hK.out _ _ hHeld (fun _ => ?_)
       clear hK K
       refine norm_ (a' := ?_) ?_ ?_
       rotate_left
       · show Act.put _ (some 37) _ = _
         simp only [zP]
         rfl
       refine one_ (i := 6) (N := some 38) #[true, true, true, true, true, true, true] rfl rfl (by kernel_rfl) (by decide) (fun K hK => ?_)
       refine goes_ Tryz.func74 (by kernel_rfl) rfl #[.pointer (some ⟨gb, 0, none⟩), .int .i64 _, .int .u8 _] (by rfl) rfl rfl (by (try simp only [List.map_toArray, List.map_cons, List.map_nil]); first | done | rfl) ?_
       with_reducible refine (l06Write.any _ gb B ln _ _ _ (by first | assumption | exact RB_mod _ | exact RB_bits _ _ _ | exact RB_wrap _ | (unfold RB; omega)) HL.out (by have := HN.out; omega) (Nat.le_trans HS.out HB.out.size) HU.out).mono ?_
       rintro e w1 ⟨rfl, hu_, hb_⟩
       refine ⟨_, rfl, ?_⟩
       replace hHeld := (hb_.block _ (blk_lt hHeld) (.inr ⟨_, _, hHeld, by decide, by decide, by decide⟩)).trans hHeld
       replace BC := zA (BC.out.fb hb_); replace BR := zA (BR.out.fb hb_); replace HB := zA (HB.out.trans hb_); replace HU := zA (hu_)
       clear hb_ hu_
       refine hK.out _ _ hHeld (fun _ => ?_)
       clear hK K
       refine norm_ (a' := ?_) ?_ ?_
       rotate_left
       · show Act.put _ (some 38) _ = _
         simp only [zP]
         rfl
       refine done_ (by kernel_rfl) ?_
       clear hHeld)
    | ((with_reducible refine gate_ret ?_); refine c_ret rfl rfl rfl BR.out (fun ds hds => ?_); exact ⟨ds, _, rfl, hds, by omega, by omega, HU.out, HB.out⟩))
end Go.Proofs.YtafkbhnhmhmjcaaGreatDoor.Weak
end
