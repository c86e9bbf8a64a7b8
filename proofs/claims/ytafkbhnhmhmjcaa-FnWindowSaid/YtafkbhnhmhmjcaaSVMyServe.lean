import Derived.Test.YtafkbhnhmhmjcaaSVMyRam
import Derived.Test.YtafkbhnhmhmjcaaSVMyWk1
import Derived.Test.YtafkbhnhmhmjcaaSVMyWk2
import Derived.Test.YtafkbhnhmhmjcaaSVMyWk5
import Derived.Test.YtafkbhnhmhmjcaaSVPRunx18
import Derived.Test.YtafkbhnhmhmjcaaSVPRunx3
set_option linter.unusedVariables false
set_option linter.unusedSimpArgs false
namespace Go.Proofs.Ytafkbhnhmhmjcaa.Weak
open Go.RowKit Go.Proofs.YtafkbhnhmhmjcaaW.PrintWords Go.Proofs.YtafkbhnhmhmjcaaW.PrintLast Go.Proofs.YtafkbhnhmhmjcaaW.PrintMore Go.Proofs.Ytafkbhnhmhmjcaa.PRun
set_option maxHeartbeats 8000000 in
set_option maxRecDepth 100000 in
theorem Serve.any (w : World) (Ac X0 Y0 S0 P0 : Int) (e0 e1 e2 e3 e4 e5 : Bool) (A0 : Option Addr) (c0 : Nat) (l : List Int) (nmi : Bool) (hv : CC #[.int .u8 Ac, .int .u8 X0, .int .u8 Y0, .int .u8 S0, .int .u16 P0, .bool e0, .bool e1, .bool e2, .bool e3, .bool e4, .bool e5]) (hr : Kd.C (Kd.int .u8) w A0 l.length l) (hc0 : l.length ≤ c0) (hok : spec_RamOk.f l = some true) (hb : ∀ x, x ∈ l → RB x) : Calls Try.prog 29 #[.agg #[.int .u8 Ac, .int .u8 X0, .int .u8 Y0, .int .u8 S0, .int .u16 P0, .bool e0, .bool e1, .bool e2, .bool e3, .bool e4, .bool e5], .agg #[.slice A0 l.length c0], .bool nmi] w fun e w1 => Stepped w l.length 1 e w1 := by
  have HV := Aside0.mk hv
  have HB := Aside0.mk (FB.refl w.heap.size w)
  have HR := Aside0.mk hr
  have HC := Aside0.mk hc0
  have HK := Aside0.mk hok
  have HQ := Aside0.mk hb
  clear hv hr hc0 hok hb
  go_enter Try.func29, Try.ntmps29
  have HL := Aside0.mk (ram_len HK.out)
  have HLL := Aside0.mk (by have := HL.out; omega : 0 < l.length ∧ l.length ≤ 65536)
  have HN := Aside0.mk (Nat.zero_le 900)
  have HS := Aside0.mk (Nat.le_refl w.heap.size)
  have HLO := Aside0.mk (Nat.le_refl 1)
  go_wp2_with (first
    | ((with_reducible refine gate_dst (N := 3) rfl ?_); refine box_event ?hg (N := 3) ?hd (cs := #[.int .u8 Ac, .int .u8 X0, .int .u8 Y0, .int .u8 S0, .int .u16 P0, .bool e0, .bool e1, .bool e2, .bool e3, .bool e4, .bool e5]) (t := 28) ?hr ?_; (case hd => rfl); (case hg => rfl); (case hr => first | (go_simp; done) | (go_simp; rfl)); intro g hg w1 hc_ hb_; have GC := Aside0.mk (by rw [hg]; exact HB.out.size : w.heap.size ≤ g); have n0_ := Aside0.mk (HB.out.trans (FB.of_below hb_)); clear HB; have HB := n0_; clear n0_; have BC := Aside0.mk hc_; clear hb_ hc_ hg)
    | ((with_reducible refine gate_dst (N := 4) rfl ?_); refine box_event ?hg (N := 4) ?hd (cs := #[.slice A0 l.length c0]) (t := 30) ?hr ?_; (case hd => rfl); (case hg => rfl); (case hr => first | (go_simp; done) | (go_simp; rfl)); intro g3 hg3 w1 hc_ hb_; have GM := Aside0.mk (by rw [hg3]; exact HB.out.size : w.heap.size ≤ g3); have n0_ := Aside0.mk (blk_below BC.out hb_); have n1_ := Aside0.mk (HB.out.trans (FB.of_below hb_)); clear BC HB; have BC := n0_; have HB := n1_; clear n0_ n1_; have BM := Aside0.mk hc_; clear hb_ hc_ hg3)
    | ((with_reducible refine gate_dst (N := 6) rfl ?_); refine c_alloc rfl rfl rfl ?_; intro gr hgr w1 hc_ hb_; have GR := Aside0.mk (by rw [← hgr]; exact HB.out.size : w.heap.size ≤ gr); have NE := Aside0.mk (by have := blk_lt BC.out; omega : gr ≠ g); have n0_ := Aside0.mk (blk_below BC.out hb_); have n1_ := Aside0.mk (blk_below BM.out hb_); have n2_ := Aside0.mk (HB.out.trans (FB.of_below hb_)); clear BC BM HB; have BC := n0_; have BM := n1_; have HB := n2_; clear n0_ n1_ n2_; have BR := Aside0.mk hc_; clear hb_ hc_)
    | ((with_reducible refine gate_dst (N := 7) rfl ?_); refine box_event ?hg (N := 7) ?hd (cs := #[.slice none 0 0]) (t := 30) ?hr ?_; (case hd => rfl); (case hg => rfl); (case hr => first | (go_simp; done) | (go_simp; rfl)); intro g5 hg5 w1 hc_ hb_; have GQ := Aside0.mk (by rw [hg5]; exact HB.out.size : w.heap.size ≤ g5); have n0_ := Aside0.mk (blk_below BC.out hb_); have n1_ := Aside0.mk (blk_below BM.out hb_); have n2_ := Aside0.mk (BR.out.below_ hb_); have n3_ := Aside0.mk (HB.out.trans (FB.of_below hb_)); clear BC BM BR HB; have BC := n0_; have BM := n1_; have BR := n2_; have HB := n3_; clear n0_ n1_ n2_ n3_; have RR := Aside0.mk hc_; clear hb_ hc_ hg5)
    | ((with_reducible refine gate_load (t := 30) rfl ?_); refine wpList_plain rfl fun _ hK_ => wp_load_row 30 _ rfl g3 rfl 30 _ (0, 0) _ BM.out Try.underlying30 rfl (by kernel_rfl) (hK_ _ _ ?_); clear hK_)
    | ((with_reducible refine gate_dst (N := 19) rfl ?_); refine Kd.event_run (v := .slice A0 l.length c0) rfl (by have hx_ := (blk_cell BM.out 0); unfold execOp; go_simp; rfl) ?_)
    | (go_at_call 26; refine (spec_RamOk.calls A0 c0 l true _ (Kd.C_below HR.out (HB.out.below (Nat.le_refl _))) HC.out HK.out).mono ?_; rintro e w1 ⟨rfl, hb_⟩; have n0_ := Aside0.mk (blk_below BC.out hb_); have n1_ := Aside0.mk (blk_below BM.out hb_); have n2_ := Aside0.mk (BR.out.below_ hb_); have n3_ := Aside0.mk (blk_below RR.out hb_); have n4_ := Aside0.mk (HB.out.trans (FB.of_below hb_)); clear BC BM BR RR HB; have BC := n0_; have BM := n1_; have BR := n2_; have RR := n3_; have HB := n4_; clear n0_ n1_ n2_ n3_ n4_; clear hb_)
    | ((with_reducible refine gate_dst (N := 17) rfl ?_); refine Kd.R_lit (Kd.int .u8) _ 5 ?hg (N := 17) ?hd (xs := ([] : List Int)) (inner := []) (ok := fun _ => True) (okp := fun _ => True) ?hr ?hp (fun _ hk => hk) trivial (Below.refl _ _) (Nat.le_refl _) (by simp) ?_; (case hd => rfl); (case hg => rfl); (case hr => first | (go_simp; done) | (go_simp; rfl)); (case hp => exact (Reps.none _ _)); intro v1 w1 ho_ hb_ hg_ hnew_; clear hg_ hnew_; have HO := Aside0.mk (Kd.R_lower ho_ HB.out.size); have n0_ := Aside0.mk (blk_below BC.out hb_); have n1_ := Aside0.mk (blk_below BM.out hb_); have n2_ := Aside0.mk (BR.out.below_ hb_); have n3_ := Aside0.mk (blk_below RR.out hb_); have n4_ := Aside0.mk (HB.out.trans (FB.of_below hb_)); clear BC BM BR RR HB; have BC := n0_; have BM := n1_; have BR := n2_; have RR := n3_; have HB := n4_; clear n0_ n1_ n2_ n3_ n4_; clear ho_ hb_)
    | ((with_reducible refine gate_builtin (b := .append) (xs := #[.tmp 17, .tmp 19]) rfl ?_); at_builtin; refine Kd.R_append_rows (Kd.int .u8) (w0 := w) w.heap.size rfl (.tmp 17) (.tmp 19) 22 5 (.int .u8 0) 1 rfl Try.underlying22 info5 rfl (by decide) (by omega) v1 [] l _ _ _ (fun _ => True) (fun _ => False) rfl rfl ?aO ?aR (fun _ _ h => h) (fun _ h => h.elim) ?aF ?aB ?aS ?aL ?_; (case aR => exact Kd.C_below HR.out (HB.out.below (Nat.le_refl _))); (case aB => exact (HB.out.below (Nat.le_refl _))); (case aF => exact (fun _ _ => trivial)); (case aO => exact HO.out); (case aS => exact HB.out.size); (case aL => have := HL.out; simp; omega); intro v2 w1 ho_ hb_ hg_ hat_; obtain ⟨A1, c1, rfl⟩ := Kd.R_slice ho_; simp only [List.nil_append] at ho_ ⊢; have n0_ := Aside0.mk (raw_grown BC.out hg_ HO.out (by decide)); have n1_ := Aside0.mk (raw_grown BM.out hg_ HO.out (by decide)); have n2_ := Aside0.mk (BR.out.grown hg_ HO.out (by decide)); have n3_ := Aside0.mk (raw_grown RR.out hg_ HO.out (by decide)); have n4_ := Aside0.mk ((FB.of_below hb_ : FB w.heap.size w w1)); clear BC BM BR RR HB; have BC := n0_; have BM := n1_; have BR := n2_; have RR := n3_; have HB := n4_; clear n0_ n1_ n2_ n3_ n4_; replace HO := Aside0.mk ho_; clear ho_ hb_ hg_ hat_)
    | ((with_reducible refine gate_dst (N := 22) rfl ?_); refine box_event ?hg (N := 22) ?hd (cs := #[.slice A1 l.length c1, .slice none 0 0]) (t := 81) ?hr ?_; (case hd => rfl); (case hg => rfl); (case hr => first | (go_simp; done) | (go_simp; rfl)); intro gb hgb w1 hc_ hb_; have HU := Aside0.mk (p := Bus w1 gb w.heap.size l.length 0) (bus_new hc_ (by rw [hgb]; exact HB.out.size) (Kd.R_below HO.out hb_) HQ.out); have n0_ := Aside0.mk (blk_below BC.out hb_); have n1_ := Aside0.mk (blk_below BM.out hb_); have n2_ := Aside0.mk (BR.out.below_ hb_); have n3_ := Aside0.mk (blk_below RR.out hb_); have n4_ := Aside0.mk (HB.out.trans (FB.of_below hb_)); clear BC BM BR RR HB; have BC := n0_; have BM := n1_; have BR := n2_; have RR := n3_; have HB := n4_; clear n0_ n1_ n2_ n3_ n4_; clear hc_ hb_ HO hgb; replace BC := Aside0.mk (p := CpuAt w1 g) ⟨_, BC.out, HV.out⟩)
    | ((with_reducible refine gate_load (t := 5) rfl ?_); first | (refine c_ld8 rfl rfl rfl (by decide) BC.out ?_; intro _ _) | (refine c_ld8 rfl rfl rfl (by decide) BR.out ?_; intro _ _))
    | ((with_reducible refine gate_st (t := 5) rfl ?_); first | (refine c_st8 rfl rfl rfl rfl (by decide) (by first | assumption | exact RB_mod _ | exact RB_bits _ _ _ | exact RB_wrap _ | (unfold RB; omega)) BC.out ?_; intro w1 hc_ hk_ hb_; have n0_ := Aside0.mk (hc_); have n1_ := Aside0.mk ((hk_ _ (BC.out.ne_of BM.out (by decide))).trans BM.out); have n2_ := Aside0.mk (BR.out.other NE.out hk_); have n3_ := Aside0.mk ((hk_ _ (BC.out.ne_of RR.out (by decide))).trans RR.out); have n4_ := Aside0.mk (HB.out.set GC.out hk_ hb_); have n5_ := Aside0.mk (HU.out.other BC.out hk_); clear BC BM BR RR HB HU; have BC := n0_; have BM := n1_; have BR := n2_; have RR := n3_; have HB := n4_; have HU := n5_; clear n0_ n1_ n2_ n3_ n4_ n5_; clear hc_ hk_ hb_) | (refine c_st8 rfl rfl rfl rfl (by decide) (by first | assumption | exact RB_mod _ | exact RB_bits _ _ _ | exact RB_wrap _ | (unfold RB; omega)) BR.out ?_; intro w1 hc_ hk_ hb_; have n0_ := Aside0.mk (hc_); have n1_ := Aside0.mk (BC.out.other NE.out.symm hk_); have n2_ := Aside0.mk ((hk_ _ (BR.out.ne_of BM.out (by decide))).trans BM.out); have n3_ := Aside0.mk ((hk_ _ (BR.out.ne_of RR.out (by decide))).trans RR.out); have n4_ := Aside0.mk (HB.out.set GR.out hk_ hb_); have n5_ := Aside0.mk (HU.out.other BR.out hk_); clear BR BC BM RR HB HU; have BR := n0_; have BC := n1_; have BM := n2_; have RR := n3_; have HB := n4_; have HU := n5_; clear n0_ n1_ n2_ n3_ n4_ n5_; clear hc_ hk_ hb_))
    | ((with_reducible refine gate_load (t := 24) rfl ?_); first | (refine c_ldp rfl rfl rfl BC.out ?_; intro _ _) | (refine c_ldp rfl rfl rfl BR.out ?_; intro _ _))
    | ((with_reducible refine gate_st (t := 24) rfl ?_); first | (refine c_stp rfl rfl rfl rfl (by first | assumption | exact RP_mod _ | exact RP_wrap _ | (unfold RP; omega)) BC.out ?_; intro w1 hc_ hk_ hb_; have n0_ := Aside0.mk (hc_); have n1_ := Aside0.mk ((hk_ _ (BC.out.ne_of BM.out (by decide))).trans BM.out); have n2_ := Aside0.mk (BR.out.other NE.out hk_); have n3_ := Aside0.mk ((hk_ _ (BC.out.ne_of RR.out (by decide))).trans RR.out); have n4_ := Aside0.mk (HB.out.set GC.out hk_ hb_); have n5_ := Aside0.mk (HU.out.other BC.out hk_); clear BC BM BR RR HB HU; have BC := n0_; have BM := n1_; have BR := n2_; have RR := n3_; have HB := n4_; have HU := n5_; clear n0_ n1_ n2_ n3_ n4_ n5_; clear hc_ hk_ hb_) | (refine c_stp rfl rfl rfl rfl (by first | assumption | exact RP_mod _ | exact RP_wrap _ | (unfold RP; omega)) BR.out ?_; intro w1 hc_ hk_ hb_; have n0_ := Aside0.mk (hc_); have n1_ := Aside0.mk (BC.out.other NE.out.symm hk_); have n2_ := Aside0.mk ((hk_ _ (BR.out.ne_of BM.out (by decide))).trans BM.out); have n3_ := Aside0.mk ((hk_ _ (BR.out.ne_of RR.out (by decide))).trans RR.out); have n4_ := Aside0.mk (HB.out.set GR.out hk_ hb_); have n5_ := Aside0.mk (HU.out.other BR.out hk_); clear BR BC BM RR HB HU; have BR := n0_; have BC := n1_; have BM := n2_; have RR := n3_; have HB := n4_; have HU := n5_; clear n0_ n1_ n2_ n3_ n4_ n5_; clear hc_ hk_ hb_))
    | ((with_reducible refine gate_load (t := 4) rfl ?_); first | (refine c_ldb rfl rfl rfl (by decide) BC.out ?_; intro _) | (refine c_ldb rfl rfl rfl (by decide) BR.out ?_; intro _))
    | ((with_reducible refine gate_st (t := 4) rfl ?_); first | (refine c_stb rfl rfl rfl rfl (by decide) BC.out ?_; intro w1 hc_ hk_ hb_; have n0_ := Aside0.mk (hc_); have n1_ := Aside0.mk ((hk_ _ (BC.out.ne_of BM.out (by decide))).trans BM.out); have n2_ := Aside0.mk (BR.out.other NE.out hk_); have n3_ := Aside0.mk ((hk_ _ (BC.out.ne_of RR.out (by decide))).trans RR.out); have n4_ := Aside0.mk (HB.out.set GC.out hk_ hb_); have n5_ := Aside0.mk (HU.out.other BC.out hk_); clear BC BM BR RR HB HU; have BC := n0_; have BM := n1_; have BR := n2_; have RR := n3_; have HB := n4_; have HU := n5_; clear n0_ n1_ n2_ n3_ n4_ n5_; clear hc_ hk_ hb_) | (refine c_stb rfl rfl rfl rfl (by decide) BR.out ?_; intro w1 hc_ hk_ hb_; have n0_ := Aside0.mk (hc_); have n1_ := Aside0.mk (BC.out.other NE.out.symm hk_); have n2_ := Aside0.mk ((hk_ _ (BR.out.ne_of BM.out (by decide))).trans BM.out); have n3_ := Aside0.mk ((hk_ _ (BR.out.ne_of RR.out (by decide))).trans RR.out); have n4_ := Aside0.mk (HB.out.set GR.out hk_ hb_); have n5_ := Aside0.mk (HU.out.other BR.out hk_); clear BR BC BM RR HB HU; have BR := n0_; have BC := n1_; have BM := n2_; have RR := n3_; have HB := n4_; have HU := n5_; clear n0_ n1_ n2_ n3_ n4_ n5_; clear hc_ hk_ hb_))
    | ((with_reducible refine gate_load (t := 26) rfl ?_); first | (refine c_ldF rfl rfl rfl BC.out ?_; rintro _ ⟨k0, k1, k2, k3, k4, k5, rfl⟩) | (refine c_ldF rfl rfl rfl BR.out ?_; rintro _ ⟨k0, k1, k2, k3, k4, k5, rfl⟩))
    | ((with_reducible refine gate_st (t := 26) rfl ?_); first | (refine c_stF rfl rfl rfl rfl ⟨_, _, _, _, _, _, rfl⟩ BC.out ?_; intro w1 hc_ hk_ hb_; have n0_ := Aside0.mk (hc_); have n1_ := Aside0.mk ((hk_ _ (BC.out.ne_of BM.out (by decide))).trans BM.out); have n2_ := Aside0.mk (BR.out.other NE.out hk_); have n3_ := Aside0.mk ((hk_ _ (BC.out.ne_of RR.out (by decide))).trans RR.out); have n4_ := Aside0.mk (HB.out.set GC.out hk_ hb_); have n5_ := Aside0.mk (HU.out.other BC.out hk_); clear BC BM BR RR HB HU; have BC := n0_; have BM := n1_; have BR := n2_; have RR := n3_; have HB := n4_; have HU := n5_; clear n0_ n1_ n2_ n3_ n4_ n5_; clear hc_ hk_ hb_) | (refine c_stF rfl rfl rfl rfl ⟨_, _, _, _, _, _, rfl⟩ BR.out ?_; intro w1 hc_ hk_ hb_; have n0_ := Aside0.mk (hc_); have n1_ := Aside0.mk (BC.out.other NE.out.symm hk_); have n2_ := Aside0.mk ((hk_ _ (BR.out.ne_of BM.out (by decide))).trans BM.out); have n3_ := Aside0.mk ((hk_ _ (BR.out.ne_of RR.out (by decide))).trans RR.out); have n4_ := Aside0.mk (HB.out.set GR.out hk_ hb_); have n5_ := Aside0.mk (HU.out.other BR.out hk_); clear BR BC BM RR HB HU; have BR := n0_; have BC := n1_; have BM := n2_; have RR := n3_; have HB := n4_; have HU := n5_; clear n0_ n1_ n2_ n3_ n4_ n5_; clear hc_ hk_ hb_))
    | ((with_reducible refine gate_load (t := 28) rfl ?_); first | (refine c_ldC rfl rfl rfl BC.out ?_; intro _ _) | (refine c_ldC rfl rfl rfl BR.out ?_; intro _ _))
    | ((with_reducible refine gate_st (t := 28) rfl ?_); first | (refine c_stC rfl rfl rfl rfl (by assumption) BC.out ?_; intro w1 hc_ hk_ hb_; have n0_ := Aside0.mk (hc_); have n1_ := Aside0.mk ((hk_ _ (BC.out.ne_of BM.out (by decide))).trans BM.out); have n2_ := Aside0.mk (BR.out.other NE.out hk_); have n3_ := Aside0.mk ((hk_ _ (BC.out.ne_of RR.out (by decide))).trans RR.out); have n4_ := Aside0.mk (HB.out.set GC.out hk_ hb_); have n5_ := Aside0.mk (HU.out.other BC.out hk_); clear BC BM BR RR HB HU; have BC := n0_; have BM := n1_; have BR := n2_; have RR := n3_; have HB := n4_; have HU := n5_; clear n0_ n1_ n2_ n3_ n4_ n5_; clear hc_ hk_ hb_) | (refine c_stC rfl rfl rfl rfl (by assumption) BR.out ?_; intro w1 hc_ hk_ hb_; have n0_ := Aside0.mk (hc_); have n1_ := Aside0.mk (BC.out.other NE.out.symm hk_); have n2_ := Aside0.mk ((hk_ _ (BR.out.ne_of BM.out (by decide))).trans BM.out); have n3_ := Aside0.mk ((hk_ _ (BR.out.ne_of RR.out (by decide))).trans RR.out); have n4_ := Aside0.mk (HB.out.set GR.out hk_ hb_); have n5_ := Aside0.mk (HU.out.other BR.out hk_); clear BR BC BM RR HB HU; have BR := n0_; have BC := n1_; have BM := n2_; have RR := n3_; have HB := n4_; have HU := n5_; clear n0_ n1_ n2_ n3_ n4_ n5_; clear hc_ hk_ hb_))
    | (go_at_call 43; refine (NameOf.any _ (by first | assumption | exact RB_mod _ | exact RB_bits _ _ _ | exact RB_wrap _ | (unfold RB; omega)) _).mono ?_; rintro e w1 ⟨_, rfl, hb_⟩; have n0_ := Aside0.mk (BC.out.below_ hb_); have n1_ := Aside0.mk (blk_below BM.out hb_); have n2_ := Aside0.mk (BR.out.below_ hb_); have n3_ := Aside0.mk (blk_below RR.out hb_); have n4_ := Aside0.mk (HB.out.trans (FB.of_below hb_)); have n5_ := Aside0.mk (HU.out.below_ hb_); clear BC BM BR RR HB HU; have BC := n0_; have BM := n1_; have BR := n2_; have RR := n3_; have HB := n4_; have HU := n5_; clear n0_ n1_ n2_ n3_ n4_ n5_; clear hb_)
    | (go_at_call 46; refine (ModeOf.any _ (by first | assumption | exact RB_mod _ | exact RB_bits _ _ _ | exact RB_wrap _ | (unfold RB; omega)) _).mono ?_; rintro e w1 ⟨_, rfl, hb_⟩; have n0_ := Aside0.mk (BC.out.below_ hb_); have n1_ := Aside0.mk (blk_below BM.out hb_); have n2_ := Aside0.mk (BR.out.below_ hb_); have n3_ := Aside0.mk (blk_below RR.out hb_); have n4_ := Aside0.mk (HB.out.trans (FB.of_below hb_)); have n5_ := Aside0.mk (HU.out.below_ hb_); clear BC BM BR RR HB HU; have BC := n0_; have BM := n1_; have BR := n2_; have RR := n3_; have HB := n4_; have HU := n5_; clear n0_ n1_ n2_ n3_ n4_ n5_; clear hb_)
    | (go_at_call 39; refine (KindOf.any _ (by first | assumption | exact RB_mod _ | exact RB_bits _ _ _ | exact RB_wrap _ | (unfold RB; omega)) _).mono ?_; rintro e w1 ⟨_, rfl, hb_⟩; have n0_ := Aside0.mk (BC.out.below_ hb_); have n1_ := Aside0.mk (blk_below BM.out hb_); have n2_ := Aside0.mk (BR.out.below_ hb_); have n3_ := Aside0.mk (blk_below RR.out hb_); have n4_ := Aside0.mk (HB.out.trans (FB.of_below hb_)); have n5_ := Aside0.mk (HU.out.below_ hb_); clear BC BM BR RR HB HU; have BC := n0_; have BM := n1_; have BR := n2_; have RR := n3_; have HB := n4_; have HU := n5_; clear n0_ n1_ n2_ n3_ n4_ n5_; clear hb_)
    | (go_at_call 41; refine (l06Read.any _ gb w.heap.size l.length _ _ HLL.out (by have := HN.out; omega) (Nat.le_trans HS.out HB.out.size) HU.out).mono ?_; rintro e w1 ⟨_, rfl, _, hu_, hb_⟩; have n0_ := Aside0.mk (BC.out.fb hb_); have n1_ := Aside0.mk (hb_.raw BM.out (by decide)); have n2_ := Aside0.mk (BR.out.fb hb_); have n3_ := Aside0.mk (hb_.raw RR.out (by decide)); have n4_ := Aside0.mk (HB.out.trans hb_); have n5_ := Aside0.mk (hu_); clear BC BM BR RR HB HU; have BC := n0_; have BM := n1_; have BR := n2_; have RR := n3_; have HB := n4_; have HU := n5_; clear n0_ n1_ n2_ n3_ n4_ n5_; clear hu_ hb_)
    | (go_at_call 48; refine (l06Data.any _ gb w.heap.size l.length _ _ _ (by first | assumption | exact RB_mod _ | exact RB_bits _ _ _ | exact RB_wrap _ | (unfold RB; omega)) (by assumption) HLL.out (by have := HN.out; omega) (Nat.le_trans HS.out HB.out.size) HU.out).mono ?_; rintro e w1 ⟨ds_, m_, rfl, hds_, hm_, hm2_, hu_, hb_⟩; have n0_ := Aside0.mk (BC.out.fb hb_); have n1_ := Aside0.mk (hb_.raw BM.out (by decide)); have n2_ := Aside0.mk (BR.out.fb hb_); have n3_ := Aside0.mk (hb_.raw RR.out (by decide)); have n4_ := Aside0.mk (HB.out.trans hb_); have n5_ := Aside0.mk (hu_); clear BC BM BR RR HB HU; have BC := n0_; have BM := n1_; have BR := n2_; have RR := n3_; have HB := n4_; have HU := n5_; clear n0_ n1_ n2_ n3_ n4_ n5_; clear hu_ hb_)
    | (go_at_call 42; refine (l06Push.any _ gb w.heap.size l.length _ _ _ _ _ (by assumption) HLL.out (by have := HN.out; omega) (Nat.le_trans HS.out HB.out.size) HU.out).mono ?_; rintro e w1 ⟨ds_, rfl, hds_, hu_, hb_⟩; have n0_ := Aside0.mk (BC.out.fb hb_); have n1_ := Aside0.mk (hb_.raw BM.out (by decide)); have n2_ := Aside0.mk (BR.out.fb hb_); have n3_ := Aside0.mk (hb_.raw RR.out (by decide)); have n4_ := Aside0.mk (HB.out.trans hb_); have n5_ := Aside0.mk (hu_); clear BC BM BR RR HB HU; have BC := n0_; have BM := n1_; have BR := n2_; have RR := n3_; have HB := n4_; have HU := n5_; clear n0_ n1_ n2_ n3_ n4_ n5_; clear hu_ hb_)
    | ((with_reducible refine gate_region (id := 10) ?_)
       have HU := Aside0.mk HU.out.open_
       obtain ⟨cs0, hbc, hcc⟩ := BC.out
       have HCC := Aside0.mk hcc
       obtain ⟨Ac, X0, Y0, S0, P0, e0, e1, e2, e3, e4, e5, rfl, hA0, hX0, hY0, hS0, hP0⟩ := hcc
       obtain ⟨Am, cm, Al, cl, mem, log, hx_, hm_, hmb_, hn_, hlb_⟩ := HU.out
       have HX := Aside0.mk hx_
       have HM := Aside0.mk hm_
       have HMB := Aside0.mk hmb_
       have HLN := Aside0.mk hn_
       have HLB := Aside0.mk hlb_
       clear hm_ hmb_ hn_ hlb_ HU
       refine start_k (n := 13) (S := fun w' => w'.heap[g]? = some (.cells #[.int .u8 Ac, .int .u8 X0, .int .u8 Y0, .int .u8 S0, .int .u16 P0, .bool e0, .bool e1, .bool e2, .bool e3, .bool e4, .bool e5] 28 (0, 0)) ∧ w'.heap[gb]? = some (.cells #[.slice Am mem.length cm, .slice Al log.length cl] 81 (0, 0))) (ds := []) #[false, false, false, false, false, false, false, false, false, false, false, false, false] (by kernel_rfl) rfl rfl ⟨hbc, hx_.1⟩ (fun w1 he hs => by rw [he]; exact hs) ?_
       intro w1 hHeld hb_
       have n0_ := Aside0.mk (BC.out.below_ hb_); have n1_ := Aside0.mk (blk_below BM.out hb_); have n2_ := Aside0.mk (BR.out.below_ hb_); have n3_ := Aside0.mk (blk_below RR.out hb_); have n4_ := Aside0.mk (HB.out.trans (FB.of_below hb_)); clear BC BM BR RR HB; have BC := n0_; have BM := n1_; have BR := n2_; have RR := n3_; have HB := n4_; clear n0_ n1_ n2_ n3_ n4_
       replace HX := Aside0.mk (HX.out.below_ hb_)
       clear hb_ hbc hx_
       refine take_ (i := 0) (N := some 41) (v := ?_) (a' := ?_) #[true, false, false, false, false, false, false, false, false, false, false, false, false] rfl rfl (by kernel_rfl) (fun _ _ _ h => h) (Or.inl ⟨by rfl, ?_⟩) hHeld ?_ ?_
       rotate_left
       · rintro w' ⟨s0, sb⟩
         refine (c_runC (x := .tmp 3) ?_ ?_ s0 HCC.out).trans ?_
         · rfl
         · rfl
         · rfl
       rotate_left
       · simp only [Act.put, List.setIfInBounds_toArray, List.set_cons_zero, List.set_cons_succ, i64_w, i32_w]
         rfl
       refine pure_ (i := 1) (N := some 42) (v := ?_) (a' := ?_) #[true, true, false, false, false, false, false, false, false, false, false, false, false] rfl rfl (by kernel_rfl) (fun _ _ _ h => h) (Or.inl ⟨by rfl, ?_⟩) ?_ ?_
       rotate_left
       · intro w'
         go_simp
         with_reducible rfl
       rotate_left
       · simp only [Act.put, List.setIfInBounds_toArray, List.set_cons_zero, List.set_cons_succ, i64_w, i32_w]
         rfl
       refine pure_ (i := 2) (N := some 43) (v := ?_) (a' := ?_) #[true, true, true, false, false, false, false, false, false, false, false, false, false] rfl rfl (by kernel_rfl) (fun _ _ _ h => h) (Or.inl ⟨by rfl, ?_⟩) ?_ ?_
       rotate_left
       · intro w'
         go_simp
         with_reducible rfl
       rotate_left
       · simp only [Act.put, List.setIfInBounds_toArray, List.set_cons_zero, List.set_cons_succ, i64_w, i32_w]
         rfl
       refine pure_ (i := 3) (N := some 44) (v := ?_) (a' := ?_) #[true, true, true, true, false, false, false, false, false, false, false, false, false] rfl rfl (by kernel_rfl) (fun _ _ _ h => h) (Or.inl ⟨by rfl, ?_⟩) ?_ ?_
       rotate_left
       · intro w'
         go_simp
         with_reducible rfl
       rotate_left
       · simp only [Act.put, List.setIfInBounds_toArray, List.set_cons_zero, List.set_cons_succ, i64_w, i32_w]
         rfl
       refine take_ (i := 4) (N := some 45) (v := ?_) (a' := ?_) #[true, true, true, true, true, false, false, false, false, false, false, false, false] rfl rfl (by kernel_rfl) (fun _ _ _ h => h) (Or.inl ⟨by rfl, ?_⟩) hHeld ?_ ?_
       rotate_left
       · rintro w' ⟨s0, sb⟩
         have t0 : w'.cell? ⟨gb, 0, none⟩ = some (.slice Am mem.length cm) := (blk_cell sb 0).trans rfl
         have t1 : w'.cell? ⟨gb, 1, none⟩ = some (.slice Al log.length cl) := (blk_cell sb 1).trans rfl
         go_simp
         with_reducible rfl
       rotate_left
       · simp only [Act.put, List.setIfInBounds_toArray, List.set_cons_zero, List.set_cons_succ, i64_w, i32_w]
         rfl
       refine pure_ (i := 5) (N := some 46) (v := ?_) (a' := ?_) #[true, true, true, true, true, true, false, false, false, false, false, false, false] rfl rfl (by kernel_rfl) (fun _ _ _ h => h) (Or.inl ⟨by rfl, ?_⟩) ?_ ?_
       rotate_left
       · intro w'
         go_simp
         with_reducible rfl
       rotate_left
       · simp only [Act.put, List.setIfInBounds_toArray, List.set_cons_zero, List.set_cons_succ, i64_w, i32_w]
         rfl
       refine pure_ (i := 6) (N := some 47) (v := ?_) (a' := ?_) #[true, true, true, true, true, true, true, false, false, false, false, false, false] rfl rfl (by kernel_rfl) (fun _ _ _ h => h) (Or.inl ⟨by rfl, ?_⟩) ?_ ?_
       rotate_left
       · intro w'
         go_simp
         with_reducible rfl
       rotate_left
       · simp only [Act.put, List.setIfInBounds_toArray, List.set_cons_zero, List.set_cons_succ, i64_w, i32_w]
         rfl
       refine pure_ (i := 7) (N := some 48) (v := ?_) (a' := ?_) #[true, true, true, true, true, true, true, true, false, false, false, false, false] rfl rfl (by kernel_rfl) (fun _ _ _ h => h) (Or.inl ⟨by rfl, ?_⟩) ?_ ?_
       rotate_left
       · intro w'
         go_simp
         with_reducible rfl
       rotate_left
       · simp only [Act.put, List.setIfInBounds_toArray, List.set_cons_zero, List.set_cons_succ, i64_w, i32_w]
         rfl
       refine pure_ (i := 8) (N := some 49) (v := ?_) (a' := ?_) #[true, true, true, true, true, true, true, true, true, false, false, false, false] rfl rfl (by kernel_rfl) (fun _ _ _ h => h) (Or.inl ⟨by rfl, ?_⟩) ?_ ?_
       rotate_left
       · intro w'
         go_simp
         with_reducible rfl
       rotate_left
       · simp only [Act.put, List.setIfInBounds_toArray, List.set_cons_zero, List.set_cons_succ, i64_w, i32_w]
         rfl
       refine take_ (i := 9) (N := some 50) (v := ?_) (a' := ?_) #[true, true, true, true, true, true, true, true, true, true, false, false, false] rfl rfl (by kernel_rfl) (fun _ _ _ h => h) (Or.inl ⟨by rfl, ?_⟩) hHeld ?_ ?_
       rotate_left
       · rintro w' ⟨s0, sb⟩
         have t0 : w'.cell? ⟨gb, 0, none⟩ = some (.slice Am mem.length cm) := (blk_cell sb 0).trans rfl
         have t1 : w'.cell? ⟨gb, 1, none⟩ = some (.slice Al log.length cl) := (blk_cell sb 1).trans rfl
         go_simp
         with_reducible rfl
       rotate_left
       · simp only [Act.put, List.setIfInBounds_toArray, List.set_cons_zero, List.set_cons_succ, i64_w, i32_w]
         rfl
       refine one_ (i := 10) (N := none) #[true, true, true, true, true, true, true, true, true, true, true, false, false] rfl rfl (by kernel_rfl) (by decide) (fun K hK => ?_)
       refine c_stStep (by rfl) rfl (x := .tmp 6) (y := .tmp 41) (cs := #[.int .u8 Ac, .int .u8 X0, .int .u8 Y0, .int .u8 S0, .int .u16 P0, .bool e0, .bool e1, .bool e2, .bool e3, .bool e4, .bool e5]) rfl rfl rfl HCC.out BR.out ?_
       intro w1 hc_ hk_ hb_
       replace hHeld := And.intro ((hk_ g NE.out.symm).trans hHeld.1) ((hk_ gb (BR.out.ne_of hHeld.2 (by decide))).trans hHeld.2)
       refine hK.out _ _ hHeld (fun _ => ?_)
       clear hK K
       have n0_ := Aside0.mk (hc_); have n1_ := Aside0.mk (BC.out.other NE.out.symm hk_); have n2_ := Aside0.mk ((hk_ _ (BR.out.ne_of BM.out (by decide))).trans BM.out); have n3_ := Aside0.mk ((hk_ _ (BR.out.ne_of RR.out (by decide))).trans RR.out); have n4_ := Aside0.mk (HB.out.set GR.out hk_ hb_); have n5_ := Aside0.mk (HX.out.other (BR.out.choose_spec.1) (by decide) hk_); clear BR BC BM RR HB HX; have BR := n0_; have BC := n1_; have BM := n2_; have RR := n3_; have HB := n4_; have HX := n5_; clear n0_ n1_ n2_ n3_ n4_ n5_
       clear hc_ hk_ hb_
       refine one_ (i := 11) (N := none) #[true, true, true, true, true, true, true, true, true, true, true, true, false] rfl rfl (by kernel_rfl) (by decide) (fun K hK => ?_)
       refine r_stStep (by rfl) rfl (x := .tmp 7) (y := .tmp 46) (v := .slice Am mem.length cm) rfl rfl rfl (by rfl) RR.out ?_
       intro w1 hc_ hk_ hb_
       replace hHeld := And.intro ((hk_ g (BC.out.ne_of RR.out (by decide)).symm).trans hHeld.1) ((hk_ gb (raw_ne hHeld.2 RR.out (by decide))).trans hHeld.2)
       refine hK.out _ _ hHeld (fun _ => ?_)
       clear hK K
       have n0_ := Aside0.mk (hc_); have n1_ := Aside0.mk (BC.out.other (BC.out.ne_of RR.out (by decide)).symm hk_); have n2_ := Aside0.mk (BR.out.other (BR.out.ne_of RR.out (by decide)).symm hk_); have n3_ := Aside0.mk (HB.out.set GQ.out hk_ hb_); have n4_ := Aside0.mk (HX.out.other RR.out (by decide) hk_); clear RR BC BR HB HX; have RR := n0_; have BC := n1_; have BR := n2_; have HB := n3_; have HX := n4_; clear n0_ n1_ n2_ n3_ n4_
       clear BM
       clear hc_ hk_ hb_
       refine pure_ (i := 12) (N := some 8) (v := ?_) (a' := ?_) #[true, true, true, true, true, true, true, true, true, true, true, true, true] rfl rfl (by kernel_rfl) (fun _ _ _ h => h) (Or.inl ⟨by rfl, ?_⟩) ?_ ?_
       rotate_left
       · intro w'
         go_simp
         with_reducible rfl
       rotate_left
       · simp only [Act.put, List.setIfInBounds_toArray, List.set_cons_zero, List.set_cons_succ, i64_w, i32_w]
         rfl
       refine done_ (by kernel_rfl) ?_
       clear hHeld
       go_wp2_with (first | ((with_reducible refine gate_ret ?_); refine stepped_ret rfl rfl rfl rfl rfl BR.out RR.out HX.out HM.out HMB.out HLB.out (by have := HLN.out; have := HLO.out; omega) (by have := HLN.out; omega) (HB.out.below (Nat.le_refl _))))))
end Go.Proofs.Ytafkbhnhmhmjcaa.Weak
