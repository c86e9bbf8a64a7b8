import Derived.Test.YtafkbhnhmhmjcaaGreatDoorSWMyRam
import Derived.Test.YtafkbhnhmhmjcaaGreatDoorSWMyWk3
import Derived.Test.YtafkbhnhmhmjcaaGreatDoorSWMyWk5
import Derived.Test.YtafkbhnhmhmjcaaGreatDoorSWPRunx18
import Derived.Test.YtafkbhnhmhmjcaaGreatDoorSWPRunx3
import Derived.OpenShut
import Derived.Test.YtafkbhnhmhmjcaaGreatDoorSWWMore
section
set_option linter.unusedVariables false
set_option linter.unusedSimpArgs false
namespace Go.Proofs.YtafkbhnhmhmjcaaGreatDoor.Weak
open Go.RowKit Go.Proofs.YtafkbhnhmhmjcaaGreatDoorW.PrintWords Go.Proofs.YtafkbhnhmhmjcaaGreatDoorW.PrintLast Go.Proofs.YtafkbhnhmhmjcaaGreatDoorW.PrintMore Go.Proofs.YtafkbhnhmhmjcaaGreatDoor.PRun
set_option maxHeartbeats 8000000 in
set_option maxRecDepth 100000 in
theorem Serve.any (w : World) (Ac X0 Y0 S0 P0 : Int) (e0 e1 e2 e3 e4 e5 : Bool) (A0 : Option Addr) (c0 : Nat) (l : List Int) (nmi : Bool) (hv : CC #[.int .u8 Ac, .int .u8 X0, .int .u8 Y0, .int .u8 S0, .int .u16 P0, .bool e0, .bool e1, .bool e2, .bool e3, .bool e4, .bool e5]) (hr : Kd.C (Kd.int .u8) w A0 l.length l) (hc0 : l.length ≤ c0) (hok : spec_RamOk.f l = some true) (hb : ∀ x, x ∈ l → RB x) : Calls Tryz.prog 44 #[.agg #[.int .u8 Ac, .int .u8 X0, .int .u8 Y0, .int .u8 S0, .int .u16 P0, .bool e0, .bool e1, .bool e2, .bool e3, .bool e4, .bool e5], .agg #[.slice A0 l.length c0], .bool nmi] w fun e w1 => Stepped w l.length 1 e w1 := by
  have HV := zA hv
  have HB := zA (FB.refl w.heap.size w)
  have HR := zA hr
  have HC := zA hc0
  have HK := zA hok
  have HQ := zA hb
  clear hv hr hc0 hok hb
  go_enter Tryz.func44, Tryz.ntmps44
  have HL := zA (ram_len HK.out)
  have HLL := zA (by have := HL.out; omega : 0 < l.length ∧ l.length ≤ 65536)
  have HN := zA (Nat.zero_le 900)
  have HS := zA (Nat.le_refl w.heap.size)
  have HLO := zA (Nat.le_refl 1)
  go_wp2_with (first
    | ((with_reducible refine gate_dst (N := 3) rfl ?_); refine box_event ?hg (N := 3) ?hd (cs := #[.int .u8 Ac, .int .u8 X0, .int .u8 Y0, .int .u8 S0, .int .u16 P0, .bool e0, .bool e1, .bool e2, .bool e3, .bool e4, .bool e5]) (t := 64) ?hr ?_; (case hd => rfl); (case hg => rfl); (case hr => first | (go_simp; done) | (go_simp; rfl)); intro g hg w1 hc_ hb_; have GC := zA (by rw [hg]; exact HB.out.size : w.heap.size ≤ g); replace HB := zA (HB.out.trans (FB.of_below hb_)); have BC := zA hc_; clear hb_ hc_ hg)
    | ((with_reducible refine gate_dst (N := 4) rfl ?_); refine box_event ?hg (N := 4) ?hd (cs := #[.slice A0 l.length c0]) (t := 66) ?hr ?_; (case hd => rfl); (case hg => rfl); (case hr => first | (go_simp; done) | (go_simp; rfl)); intro g3 hg3 w1 hc_ hb_; have GM := zA (by rw [hg3]; exact HB.out.size : w.heap.size ≤ g3); replace BC := zA (blk_below BC.out hb_); replace HB := zA (HB.out.trans (FB.of_below hb_)); have BM := zA hc_; clear hb_ hc_ hg3)
    | ((with_reducible refine gate_dst (N := 6) rfl ?_); refine c_alloc rfl rfl rfl ?_; intro gr hgr w1 hc_ hb_; have GR := zA (by rw [← hgr]; exact HB.out.size : w.heap.size ≤ gr); have NE := zA (by have := blk_lt BC.out; omega : gr ≠ g); replace BC := zA (blk_below BC.out hb_); replace BM := zA (blk_below BM.out hb_); replace HB := zA (HB.out.trans (FB.of_below hb_)); have BR := zA hc_; clear hb_ hc_)
    | ((with_reducible refine gate_dst (N := 7) rfl ?_); refine box_event ?hg (N := 7) ?hd (cs := #[.slice none 0 0]) (t := 66) ?hr ?_; (case hd => rfl); (case hg => rfl); (case hr => first | (go_simp; done) | (go_simp; rfl)); intro g5 hg5 w1 hc_ hb_; have GQ := zA (by rw [hg5]; exact HB.out.size : w.heap.size ≤ g5); replace BC := zA (blk_below BC.out hb_); replace BM := zA (blk_below BM.out hb_); replace BR := zA (BR.out.below_ hb_); replace HB := zA (HB.out.trans (FB.of_below hb_)); have RR := zA hc_; clear hb_ hc_ hg5)
    | ((with_reducible refine gate_load (t := 66) rfl ?_); refine wpList_plain rfl fun _ hK_ => wp_load_row 66 _ rfl g3 rfl 66 _ (0, 0) _ BM.out Tryz.underlying66 rfl (by kernel_rfl) (hK_ _ _ ?_); clear hK_)
    | ((with_reducible refine gate_dst (N := 19) rfl ?_); refine Kd.event_run (v := .slice A0 l.length c0) rfl (by have hx_ := (blk_cell BM.out 0); unfold execOp; go_simp; rfl) ?_)
    | (go_at_call 41; refine (spec_RamOk.calls A0 c0 l true _ (Kd.C_below HR.out (HB.out.below (Nat.le_refl _))) HC.out HK.out).mono ?_; rintro e w1 ⟨rfl, hb_⟩; replace BC := zA (blk_below BC.out hb_); replace BM := zA (blk_below BM.out hb_); replace BR := zA (BR.out.below_ hb_); replace RR := zA (blk_below RR.out hb_); replace HB := zA (HB.out.trans (FB.of_below hb_)); clear hb_)
    | ((with_reducible refine gate_dst (N := 17) rfl ?_); refine Kd.R_lit (Kd.int .u8) _ 5 ?hg (N := 17) ?hd (xs := ([] : List Int)) (inner := []) (ok := fun _ => True) (okp := fun _ => True) ?hr ?hp (fun _ hk => hk) trivial (Below.refl _ _) (Nat.le_refl _) (by simp) ?_; (case hd => rfl); (case hg => rfl); (case hr => first | (go_simp; done) | (go_simp; rfl)); (case hp => exact (Reps.none _ _)); intro v1 w1 ho_ hb_ hg_ hnew_; clear hg_ hnew_; have HO := zA (Kd.R_lower ho_ HB.out.size); replace BC := zA (blk_below BC.out hb_); replace BM := zA (blk_below BM.out hb_); replace BR := zA (BR.out.below_ hb_); replace RR := zA (blk_below RR.out hb_); replace HB := zA (HB.out.trans (FB.of_below hb_)); clear ho_ hb_)
    | ((with_reducible refine gate_builtin (b := .append) (xs := #[.tmp 17, .tmp 19]) rfl ?_); at_builtin; refine Kd.R_append_rows (Kd.int .u8) (w0 := w) w.heap.size rfl (.tmp 17) (.tmp 19) 22 5 (.int .u8 0) 1 rfl Tryz.underlying22 info5 rfl (by decide) (by omega) v1 [] l _ _ _ (fun _ => True) (fun _ => False) rfl rfl ?aO ?aR (fun _ _ h => h) (fun _ h => h.elim) ?aF ?aB ?aS ?aL ?_; (case aR => exact Kd.C_below HR.out (HB.out.below (Nat.le_refl _))); (case aB => exact (HB.out.below (Nat.le_refl _))); (case aF => exact (fun _ _ => trivial)); (case aO => exact HO.out); (case aS => exact HB.out.size); (case aL => have := HL.out; simp; omega); intro v2 w1 ho_ hb_ hg_ hat_; obtain ⟨A1, c1, rfl⟩ := Kd.R_slice ho_; simp only [List.nil_append] at ho_ ⊢; replace BC := zA (raw_grown BC.out hg_ HO.out (by decide)); replace BM := zA (raw_grown BM.out hg_ HO.out (by decide)); replace BR := zA (BR.out.grown hg_ HO.out (by decide)); replace RR := zA (raw_grown RR.out hg_ HO.out (by decide)); replace HB := zA ((FB.of_below hb_ : FB w.heap.size w w1)); replace HO := zA ho_; clear ho_ hb_ hg_ hat_)
    | ((with_reducible refine gate_dst (N := 22) rfl ?_); refine box_event ?hg (N := 22) ?hd (cs := #[.slice A1 l.length c1, .slice none 0 0]) (t := 112) ?hr ?_; (case hd => rfl); (case hg => rfl); (case hr => first | (go_simp; done) | (go_simp; rfl)); intro gb hgb w1 hc_ hb_; have HU := zA (p := Bus w1 gb w.heap.size l.length 0) (bus_new hc_ (by rw [hgb]; exact HB.out.size) (Kd.R_below HO.out hb_) HQ.out); replace BC := zA (blk_below BC.out hb_); replace BM := zA (blk_below BM.out hb_); replace BR := zA (BR.out.below_ hb_); replace RR := zA (blk_below RR.out hb_); replace HB := zA (HB.out.trans (FB.of_below hb_)); clear hc_ hb_ HO hgb; replace BC := zA (p := CpuAt w1 g) ⟨_, BC.out, HV.out⟩)
    | ((with_reducible refine gate_load (t := 5) rfl ?_); first | (refine c_ld8 rfl rfl rfl (by decide) BC.out ?_; intro _ _) | (refine c_ld8 rfl rfl rfl (by decide) BR.out ?_; intro _ _))
    | ((with_reducible refine gate_st (t := 5) rfl ?_); first | (refine c_st8 rfl rfl rfl rfl (by decide) (by first | assumption | exact RB_mod _ | exact RB_bits _ _ _ | exact RB_wrap _ | (unfold RB; omega)) BC.out ?_; intro w1 hc_ hk_ hb_; replace BM := zA ((hk_ _ (BC.out.ne_of BM.out (by decide))).trans BM.out); replace BR := zA (BR.out.other NE.out hk_); replace RR := zA ((hk_ _ (BC.out.ne_of RR.out (by decide))).trans RR.out); replace HB := zA (HB.out.set GC.out hk_ hb_); replace HU := zA (HU.out.other BC.out hk_); replace BC := zA (hc_); clear hc_ hk_ hb_) | (refine c_st8 rfl rfl rfl rfl (by decide) (by first | assumption | exact RB_mod _ | exact RB_bits _ _ _ | exact RB_wrap _ | (unfold RB; omega)) BR.out ?_; intro w1 hc_ hk_ hb_; replace BC := zA (BC.out.other NE.out.symm hk_); replace BM := zA ((hk_ _ (BR.out.ne_of BM.out (by decide))).trans BM.out); replace RR := zA ((hk_ _ (BR.out.ne_of RR.out (by decide))).trans RR.out); replace HB := zA (HB.out.set GR.out hk_ hb_); replace HU := zA (HU.out.other BR.out hk_); replace BR := zA (hc_); clear hc_ hk_ hb_))
    | ((with_reducible refine gate_load (t := 41) rfl ?_); first | (refine c_ldp rfl rfl rfl BC.out ?_; intro _ _) | (refine c_ldp rfl rfl rfl BR.out ?_; intro _ _))
    | ((with_reducible refine gate_st (t := 41) rfl ?_); first | (refine c_stp rfl rfl rfl rfl (by first | assumption | exact RP_mod _ | exact RP_wrap _ | (unfold RP; omega)) BC.out ?_; intro w1 hc_ hk_ hb_; replace BM := zA ((hk_ _ (BC.out.ne_of BM.out (by decide))).trans BM.out); replace BR := zA (BR.out.other NE.out hk_); replace RR := zA ((hk_ _ (BC.out.ne_of RR.out (by decide))).trans RR.out); replace HB := zA (HB.out.set GC.out hk_ hb_); replace HU := zA (HU.out.other BC.out hk_); replace BC := zA (hc_); clear hc_ hk_ hb_) | (refine c_stp rfl rfl rfl rfl (by first | assumption | exact RP_mod _ | exact RP_wrap _ | (unfold RP; omega)) BR.out ?_; intro w1 hc_ hk_ hb_; replace BC := zA (BC.out.other NE.out.symm hk_); replace BM := zA ((hk_ _ (BR.out.ne_of BM.out (by decide))).trans BM.out); replace RR := zA ((hk_ _ (BR.out.ne_of RR.out (by decide))).trans RR.out); replace HB := zA (HB.out.set GR.out hk_ hb_); replace HU := zA (HU.out.other BR.out hk_); replace BR := zA (hc_); clear hc_ hk_ hb_))
    | ((with_reducible refine gate_load (t := 4) rfl ?_); first | (refine c_ldb rfl rfl rfl (by decide) BC.out ?_; intro _) | (refine c_ldb rfl rfl rfl (by decide) BR.out ?_; intro _))
    | ((with_reducible refine gate_st (t := 4) rfl ?_); first | (refine c_stb rfl rfl rfl rfl (by decide) BC.out ?_; intro w1 hc_ hk_ hb_; replace BM := zA ((hk_ _ (BC.out.ne_of BM.out (by decide))).trans BM.out); replace BR := zA (BR.out.other NE.out hk_); replace RR := zA ((hk_ _ (BC.out.ne_of RR.out (by decide))).trans RR.out); replace HB := zA (HB.out.set GC.out hk_ hb_); replace HU := zA (HU.out.other BC.out hk_); replace BC := zA (hc_); clear hc_ hk_ hb_) | (refine c_stb rfl rfl rfl rfl (by decide) BR.out ?_; intro w1 hc_ hk_ hb_; replace BC := zA (BC.out.other NE.out.symm hk_); replace BM := zA ((hk_ _ (BR.out.ne_of BM.out (by decide))).trans BM.out); replace RR := zA ((hk_ _ (BR.out.ne_of RR.out (by decide))).trans RR.out); replace HB := zA (HB.out.set GR.out hk_ hb_); replace HU := zA (HU.out.other BR.out hk_); replace BR := zA (hc_); clear hc_ hk_ hb_))
    | ((with_reducible refine gate_load (t := 62) rfl ?_); first | (refine c_ldF rfl rfl rfl BC.out ?_; rintro _ ⟨k0, k1, k2, k3, k4, k5, rfl⟩) | (refine c_ldF rfl rfl rfl BR.out ?_; rintro _ ⟨k0, k1, k2, k3, k4, k5, rfl⟩))
    | ((with_reducible refine gate_st (t := 62) rfl ?_); first | (refine c_stF rfl rfl rfl rfl ⟨_, _, _, _, _, _, rfl⟩ BC.out ?_; intro w1 hc_ hk_ hb_; replace BM := zA ((hk_ _ (BC.out.ne_of BM.out (by decide))).trans BM.out); replace BR := zA (BR.out.other NE.out hk_); replace RR := zA ((hk_ _ (BC.out.ne_of RR.out (by decide))).trans RR.out); replace HB := zA (HB.out.set GC.out hk_ hb_); replace HU := zA (HU.out.other BC.out hk_); replace BC := zA (hc_); clear hc_ hk_ hb_) | (refine c_stF rfl rfl rfl rfl ⟨_, _, _, _, _, _, rfl⟩ BR.out ?_; intro w1 hc_ hk_ hb_; replace BC := zA (BC.out.other NE.out.symm hk_); replace BM := zA ((hk_ _ (BR.out.ne_of BM.out (by decide))).trans BM.out); replace RR := zA ((hk_ _ (BR.out.ne_of RR.out (by decide))).trans RR.out); replace HB := zA (HB.out.set GR.out hk_ hb_); replace HU := zA (HU.out.other BR.out hk_); replace BR := zA (hc_); clear hc_ hk_ hb_))
    | ((with_reducible refine gate_load (t := 64) rfl ?_); first | (refine c_ldC rfl rfl rfl BC.out ?_; intro _ _) | (refine c_ldC rfl rfl rfl BR.out ?_; intro _ _))
    | ((with_reducible refine gate_st (t := 64) rfl ?_); first | (refine c_stC rfl rfl rfl rfl (by assumption) BC.out ?_; intro w1 hc_ hk_ hb_; replace BM := zA ((hk_ _ (BC.out.ne_of BM.out (by decide))).trans BM.out); replace BR := zA (BR.out.other NE.out hk_); replace RR := zA ((hk_ _ (BC.out.ne_of RR.out (by decide))).trans RR.out); replace HB := zA (HB.out.set GC.out hk_ hb_); replace HU := zA (HU.out.other BC.out hk_); replace BC := zA (hc_); clear hc_ hk_ hb_) | (refine c_stC rfl rfl rfl rfl (by assumption) BR.out ?_; intro w1 hc_ hk_ hb_; replace BC := zA (BC.out.other NE.out.symm hk_); replace BM := zA ((hk_ _ (BR.out.ne_of BM.out (by decide))).trans BM.out); replace RR := zA ((hk_ _ (BR.out.ne_of RR.out (by decide))).trans RR.out); replace HB := zA (HB.out.set GR.out hk_ hb_); replace HU := zA (HU.out.other BR.out hk_); replace BR := zA (hc_); clear hc_ hk_ hb_))
    | (go_at_call 61; refine (NameOf.any _ (by first | assumption | exact RB_mod _ | exact RB_bits _ _ _ | exact RB_wrap _ | (unfold RB; omega)) _).mono ?_; rintro e w1 ⟨_, rfl, hb_⟩; replace BC := zA (BC.out.below_ hb_); replace BM := zA (blk_below BM.out hb_); replace BR := zA (BR.out.below_ hb_); replace RR := zA (blk_below RR.out hb_); replace HB := zA (HB.out.trans (FB.of_below hb_)); replace HU := zA (HU.out.below_ hb_); clear hb_)
    | (go_at_call 64; refine (ModeOf.any _ (by first | assumption | exact RB_mod _ | exact RB_bits _ _ _ | exact RB_wrap _ | (unfold RB; omega)) _).mono ?_; rintro e w1 ⟨_, rfl, hb_⟩; replace BC := zA (BC.out.below_ hb_); replace BM := zA (blk_below BM.out hb_); replace BR := zA (BR.out.below_ hb_); replace RR := zA (blk_below RR.out hb_); replace HB := zA (HB.out.trans (FB.of_below hb_)); replace HU := zA (HU.out.below_ hb_); clear hb_)
    | (go_at_call 57; refine (KindOf.any _ (by first | assumption | exact RB_mod _ | exact RB_bits _ _ _ | exact RB_wrap _ | (unfold RB; omega)) _).mono ?_; rintro e w1 ⟨_, rfl, hb_⟩; replace BC := zA (BC.out.below_ hb_); replace BM := zA (blk_below BM.out hb_); replace BR := zA (BR.out.below_ hb_); replace RR := zA (blk_below RR.out hb_); replace HB := zA (HB.out.trans (FB.of_below hb_)); replace HU := zA (HU.out.below_ hb_); clear hb_)
    | (go_at_call 59; refine (l06Read.any _ gb w.heap.size l.length _ _ HLL.out (by have := HN.out; omega) (Nat.le_trans HS.out HB.out.size) HU.out).mono ?_; rintro e w1 ⟨_, rfl, _, hu_, hb_⟩; replace BC := zA (BC.out.fb hb_); replace BM := zA (hb_.raw BM.out (by decide)); replace BR := zA (BR.out.fb hb_); replace RR := zA (hb_.raw RR.out (by decide)); replace HB := zA (HB.out.trans hb_); replace HU := zA (hu_); clear hu_ hb_)
    | (go_at_call 66; refine (l06Data.any _ gb w.heap.size l.length _ _ _ (by first | assumption | exact RB_mod _ | exact RB_bits _ _ _ | exact RB_wrap _ | (unfold RB; omega)) (by assumption) HLL.out (by have := HN.out; omega) (Nat.le_trans HS.out HB.out.size) HU.out).mono ?_; rintro e w1 ⟨ds_, m_, rfl, hds_, hm_, hm2_, hu_, hb_⟩; replace BC := zA (BC.out.fb hb_); replace BM := zA (hb_.raw BM.out (by decide)); replace BR := zA (BR.out.fb hb_); replace RR := zA (hb_.raw RR.out (by decide)); replace HB := zA (HB.out.trans hb_); replace HU := zA (hu_); clear hu_ hb_)
    | (go_at_call 60; refine (l06Push.any _ gb w.heap.size l.length _ _ _ _ _ (by assumption) HLL.out (by have := HN.out; omega) (Nat.le_trans HS.out HB.out.size) HU.out).mono ?_; rintro e w1 ⟨ds_, rfl, hds_, hu_, hb_⟩; replace BC := zA (BC.out.fb hb_); replace BM := zA (hb_.raw BM.out (by decide)); replace BR := zA (BR.out.fb hb_); replace RR := zA (hb_.raw RR.out (by decide)); replace HB := zA (HB.out.trans hb_); replace HU := zA (hu_); clear hu_ hb_)
    | ((with_reducible refine gate_region (id := 10) ?_)
       have HU := zA HU.out.open_
       obtain ⟨cs0, hbc, hcc⟩ := BC.out
       have HCC := zA hcc
       obtain ⟨Ac, X0, Y0, S0, P0, e0, e1, e2, e3, e4, e5, rfl, hA0, hX0, hY0, hS0, hP0⟩ := hcc
       obtain ⟨Am, cm, Al, cl, mem, log, hx_, hm_, hmb_, hn_, hlb_⟩ := HU.out
       have HX := zA hx_
       have HM := zA hm_
       have HMB := zA hmb_
       have HLN := zA hn_
       have HLB := zA hlb_
       clear hm_ hmb_ hn_ hlb_ HU
       refine start_k (n := 13) (S := fun w' => w'.heap[g]? = some (.cells #[.int .u8 Ac, .int .u8 X0, .int .u8 Y0, .int .u8 S0, .int .u16 P0, .bool e0, .bool e1, .bool e2, .bool e3, .bool e4, .bool e5] 64 (0, 0)) ∧ w'.heap[gb]? = some (.cells #[.slice Am mem.length cm, .slice Al log.length cl] 112 (0, 0))) (ds := []) #[false, false, false, false, false, false, false, false, false, false, false, false, false] (by kernel_rfl) rfl rfl ⟨hbc, hx_.1⟩ (fun w1 he hs => by rw [he]; exact hs) ?_
       intro w1 hHeld hb_
       replace BC := zA (BC.out.below_ hb_); replace BM := zA (blk_below BM.out hb_); replace BR := zA (BR.out.below_ hb_); replace RR := zA (blk_below RR.out hb_); replace HB := zA (HB.out.trans (FB.of_below hb_))
       replace HX := zA (HX.out.below_ hb_)
       clear hb_ hbc hx_
       refine take_ (i := 0) (N := some 41) (v := ?_) (a' := ?_) #[true, false, false, false, false, false, false, false, false, false, false, false, false] rfl rfl (by kernel_rfl) (fun _ _ _ h => h) (Or.inl ⟨by rfl, ?_⟩) hHeld ?_ ?_
       rotate_left
       · rintro w' ⟨s0, sb⟩
         refine (c_runC (x := .tmp 3) ?_ ?_ s0 HCC.out).trans ?_
         · rfl
         · rfl
         · rfl
       rotate_left
       · simp only [zP]
         rfl
       refine pure_ (i := 1) (N := some 42) (v := ?_) (a' := ?_) #[true, true, false, false, false, false, false, false, false, false, false, false, false] rfl rfl (by kernel_rfl) (fun _ _ _ h => h) (Or.inl ⟨by rfl, ?_⟩) ?_ ?_
       rotate_left
       · intro w'
         go_simp
         with_reducible rfl
       rotate_left
       · simp only [zP]
         rfl
       refine pure_ (i := 2) (N := some 43) (v := ?_) (a' := ?_) #[true, true, true, false, false, false, false, false, false, false, false, false, false] rfl rfl (by kernel_rfl) (fun _ _ _ h => h) (Or.inl ⟨by rfl, ?_⟩) ?_ ?_
       rotate_left
       · intro w'
         go_simp
         with_reducible rfl
       rotate_left
       · simp only [zP]
         rfl
       refine pure_ (i := 3) (N := some 44) (v := ?_) (a' := ?_) #[true, true, true, true, false, false, false, false, false, false, false, false, false] rfl rfl (by kernel_rfl) (fun _ _ _ h => h) (Or.inl ⟨by rfl, ?_⟩) ?_ ?_
       rotate_left
       · intro w'
         go_simp
         with_reducible rfl
       rotate_left
       · simp only [zP]
         rfl
       refine take_ (i := 4) (N := some 45) (v := ?_) (a' := ?_) #[true, true, true, true, true, false, false, false, false, false, false, false, false] rfl rfl (by kernel_rfl) (fun _ _ _ h => h) (Or.inl ⟨by rfl, ?_⟩) hHeld ?_ ?_
       rotate_left
       · rintro w' ⟨s0, sb⟩
         have t0 : w'.cell? ⟨gb, 0, none⟩ = some (.slice Am mem.length cm) := (blk_cell sb 0).trans rfl
         have t1 : w'.cell? ⟨gb, 1, none⟩ = some (.slice Al log.length cl) := (blk_cell sb 1).trans rfl
         go_simp
         with_reducible rfl
       rotate_left
       · simp only [zP]
         rfl
       refine pure_ (i := 5) (N := some 46) (v := ?_) (a' := ?_) #[true, true, true, true, true, true, false, false, false, false, false, false, false] rfl rfl (by kernel_rfl) (fun _ _ _ h => h) (Or.inl ⟨by rfl, ?_⟩) ?_ ?_
       rotate_left
       · intro w'
         go_simp
         with_reducible rfl
       rotate_left
       · simp only [zP]
         rfl
       refine pure_ (i := 6) (N := some 47) (v := ?_) (a' := ?_) #[true, true, true, true, true, true, true, false, false, false, false, false, false] rfl rfl (by kernel_rfl) (fun _ _ _ h => h) (Or.inl ⟨by rfl, ?_⟩) ?_ ?_
       rotate_left
       · intro w'
         go_simp
         with_reducible rfl
       rotate_left
       · simp only [zP]
         rfl
       refine pure_ (i := 7) (N := some 48) (v := ?_) (a' := ?_) #[true, true, true, true, true, true, true, true, false, false, false, false, false] rfl rfl (by kernel_rfl) (fun _ _ _ h => h) (Or.inl ⟨by rfl, ?_⟩) ?_ ?_
       rotate_left
       · intro w'
         go_simp
         with_reducible rfl
       rotate_left
       · simp only [zP]
         rfl
       refine pure_ (i := 8) (N := some 49) (v := ?_) (a' := ?_) #[true, true, true, true, true, true, true, true, true, false, false, false, false] rfl rfl (by kernel_rfl) (fun _ _ _ h => h) (Or.inl ⟨by rfl, ?_⟩) ?_ ?_
       rotate_left
       · intro w'
         go_simp
         with_reducible rfl
       rotate_left
       · simp only [zP]
         rfl
       refine take_ (i := 9) (N := some 50) (v := ?_) (a' := ?_) #[true, true, true, true, true, true, true, true, true, true, false, false, false] rfl rfl (by kernel_rfl) (fun _ _ _ h => h) (Or.inl ⟨by rfl, ?_⟩) hHeld ?_ ?_
       rotate_left
       · rintro w' ⟨s0, sb⟩
         have t0 : w'.cell? ⟨gb, 0, none⟩ = some (.slice Am mem.length cm) := (blk_cell sb 0).trans rfl
         have t1 : w'.cell? ⟨gb, 1, none⟩ = some (.slice Al log.length cl) := (blk_cell sb 1).trans rfl
         go_simp
         with_reducible rfl
       rotate_left
       · simp only [zP]
         rfl
       refine one_ (i := 10) (N := none) #[true, true, true, true, true, true, true, true, true, true, true, false, false] rfl rfl (by kernel_rfl) (by decide) (fun K hK => ?_)
       refine c_stStep (by rfl) rfl (x := .tmp 6) (y := .tmp 41) (cs := #[.int .u8 Ac, .int .u8 X0, .int .u8 Y0, .int .u8 S0, .int .u16 P0, .bool e0, .bool e1, .bool e2, .bool e3, .bool e4, .bool e5]) rfl rfl rfl HCC.out BR.out ?_
       intro w1 hc_ hk_ hb_
       replace hHeld := And.intro ((hk_ g NE.out.symm).trans hHeld.1) ((hk_ gb (BR.out.ne_of hHeld.2 (by decide))).trans hHeld.2)
       refine hK.out _ _ hHeld (fun _ => ?_)
       clear hK K
       replace BC := zA (BC.out.other NE.out.symm hk_); replace BM := zA ((hk_ _ (BR.out.ne_of BM.out (by decide))).trans BM.out); replace RR := zA ((hk_ _ (BR.out.ne_of RR.out (by decide))).trans RR.out); replace HB := zA (HB.out.set GR.out hk_ hb_); replace HX := zA (HX.out.other (BR.out.choose_spec.1) (by decide) hk_); replace BR := zA (hc_)
       clear hc_ hk_ hb_
       refine one_ (i := 11) (N := none) #[true, true, true, true, true, true, true, true, true, true, true, true, false] rfl rfl (by kernel_rfl) (by decide) (fun K hK => ?_)
       refine r_stStep (by rfl) rfl (x := .tmp 7) (y := .tmp 46) (v := .slice Am mem.length cm) rfl rfl rfl (by rfl) RR.out ?_
       intro w1 hc_ hk_ hb_
       replace hHeld := And.intro ((hk_ g (BC.out.ne_of RR.out (by decide)).symm).trans hHeld.1) ((hk_ gb (raw_ne hHeld.2 RR.out (by decide))).trans hHeld.2)
       refine hK.out _ _ hHeld (fun _ => ?_)
       clear hK K
       replace BC := zA (BC.out.other (BC.out.ne_of RR.out (by decide)).symm hk_); replace BR := zA (BR.out.other (BR.out.ne_of RR.out (by decide)).symm hk_); replace HB := zA (HB.out.set GQ.out hk_ hb_); replace HX := zA (HX.out.other RR.out (by decide) hk_); replace RR := zA (hc_)
       clear BM hc_ hk_ hb_
       refine pure_ (i := 12) (N := some 8) (v := ?_) (a' := ?_) #[true, true, true, true, true, true, true, true, true, true, true, true, true] rfl rfl (by kernel_rfl) (fun _ _ _ h => h) (Or.inl ⟨by rfl, ?_⟩) ?_ ?_
       rotate_left
       · intro w'
         go_simp
         with_reducible rfl
       rotate_left
       · simp only [zP]
         rfl
       refine done_ (by kernel_rfl) ?_
       clear hHeld
       go_wp2_with (first | ((with_reducible refine gate_ret ?_); refine stepped_ret rfl rfl rfl rfl rfl BR.out RR.out HX.out HM.out HMB.out HLB.out (by have := HLN.out; have := HLO.out; omega) (by have := HLN.out; omega) (HB.out.below (Nat.le_refl _))))))
end Go.Proofs.YtafkbhnhmhmjcaaGreatDoor.Weak
end
section
set_option linter.unusedVariables false
set_option linter.unusedSimpArgs false
namespace Go.Proofs.YtafkbhnhmhmjcaaGreatDoor.Weak
open Go.RowKit Go.Proofs.YtafkbhnhmhmjcaaGreatDoorW.PrintWords Go.Proofs.YtafkbhnhmhmjcaaGreatDoorW.PrintLast Go.Proofs.YtafkbhnhmhmjcaaGreatDoorW.PrintMore Go.Proofs.YtafkbhnhmhmjcaaGreatDoor.PRun
theorem R_other {α : Type} {d : Kd α} {e B g t : Nat} {w w1 : World} {v : Value} {xs : List α} {cs : Array Value} (h : Kd.R d e w B (fun _ => True) v xs) (hc : w.heap[g]? = some (.cells cs t (0, 0))) (ht : ∀ q, q ∈ e :: d.E → q ≠ t) (hk : ∀ k, k ≠ g → w1.heap[k]? = w.heap[k]?) : Kd.R d e w1 B (fun _ => True) v xs :=
  Kd.R_mono (Kd.R_step (Kd.R_types h hc ht) (fun k ho _ => hk k ho.2)) (fun _ h => h.1)
def SLit (A X Y S p : Int) (f0 f1 f2 f3 f4 f5 : Bool) (vm vt vs vc : Value) (j : Bool) : Array Value := #[.int .u8 A, .int .u8 X, .int .u8 Y, .int .u8 S, .int .u16 p, .bool f0, .bool f1, .bool f2, .bool f3, .bool f4, .bool f5, vm, vt, vs, vc, .bool j]
theorem shot_info : (Tryz.prog.info? 72).map (·.size) = some 16 := by kernel_rfl
section
variable {o : Oper} {a : Act} {w : World} {A X Y S p : Int} {f0 f1 f2 f3 f4 f5 j : Bool} {vm vt vs vc : Value} {g : Nat}
theorem sh_ldC {x : Operand} (ho : o.op = .load 64 x) (hx : a.eval x = .pointer (some ⟨g, 0, none⟩)) (hb : w.heap[g]? = some (.cells (SLit A X Y S p f0 f1 f2 f3 f4 f5 vm vt vs vc j) 72 (0, 0))) : (execOp a.eval o).run Tryz.prog w = .ok (.value (.agg #[.int .u8 A, .int .u8 X, .int .u8 Y, .int .u8 S, .int .u16 p, .bool f0, .bool f1, .bool f2, .bool f3, .bool f4, .bool f5])) w := by
  have h0 : w.cell? ⟨g, 0, none⟩ = some (.int .u8 A) := (blk_cell hb 0).trans rfl
  have h1 : w.cell? ⟨g, 1, none⟩ = some (.int .u8 X) := (blk_cell hb 1).trans rfl
  have h2 : w.cell? ⟨g, 2, none⟩ = some (.int .u8 Y) := (blk_cell hb 2).trans rfl
  have h3 : w.cell? ⟨g, 3, none⟩ = some (.int .u8 S) := (blk_cell hb 3).trans rfl
  have h4 : w.cell? ⟨g, 4, none⟩ = some (.int .u16 p) := (blk_cell hb 4).trans rfl
  have h5 : w.cell? ⟨g, 5, none⟩ = some (.bool f0) := (blk_cell hb 5).trans rfl
  have h6 : w.cell? ⟨g, 6, none⟩ = some (.bool f1) := (blk_cell hb 6).trans rfl
  have h7 : w.cell? ⟨g, 7, none⟩ = some (.bool f2) := (blk_cell hb 7).trans rfl
  have h8 : w.cell? ⟨g, 8, none⟩ = some (.bool f3) := (blk_cell hb 8).trans rfl
  have h9 : w.cell? ⟨g, 9, none⟩ = some (.bool f4) := (blk_cell hb 9).trans rfl
  have h10 : w.cell? ⟨g, 10, none⟩ = some (.bool f5) := (blk_cell hb 10).trans rfl
  unfold execOp
  simp only [ho, hx]
  go_simp
theorem sh_ldP {x : Operand} (ho : o.op = .load 41 x) (hx : a.eval x = .pointer (some ⟨g, 4, none⟩)) (hb : w.heap[g]? = some (.cells (SLit A X Y S p f0 f1 f2 f3 f4 f5 vm vt vs vc j) 72 (0, 0))) : (execOp a.eval o).run Tryz.prog w = .ok (.value (.int .u16 p)) w := by
  have h4 : w.cell? ⟨g, 4, none⟩ = some (.int .u16 p) := (blk_cell hb 4).trans rfl
  unfold execOp
  simp only [ho, hx]
  go_simp
theorem sh_ldJ {x : Operand} (ho : o.op = .load 4 x) (hx : a.eval x = .pointer (some ⟨g, 15, none⟩)) (hb : w.heap[g]? = some (.cells (SLit A X Y S p f0 f1 f2 f3 f4 f5 vm vt vs vc j) 72 (0, 0))) : (execOp a.eval o).run Tryz.prog w = .ok (.value (.bool j)) w := by
  have h15 : w.cell? ⟨g, 15, none⟩ = some (.bool j) := (blk_cell hb 15).trans rfl
  unfold execOp
  simp only [ho, hx]
  go_simp
theorem sh_ldR {x : Operand} (ho : o.op = .load 66 x) (hx : a.eval x = .pointer (some ⟨g, 11, none⟩)) {A0 : Option Addr} {n0 c0 : Nat} (hv : vm = .slice A0 n0 c0) (hb : w.heap[g]? = some (.cells (SLit A X Y S p f0 f1 f2 f3 f4 f5 vm vt vs vc j) 72 (0, 0))) : (execOp a.eval o).run Tryz.prog w = .ok (.value (.agg #[.slice A0 n0 c0])) w := by
  subst hv
  have h11 : w.cell? ⟨g, 11, none⟩ = some (.slice A0 n0 c0) := (blk_cell hb 11).trans rfl
  unfold execOp
  simp only [ho, hx]
  go_simp
theorem sh_ldT {x : Operand} (ho : o.op = .load 24 x) (hx : a.eval x = .pointer (some ⟨g, 12, none⟩)) {A0 : Option Addr} {n0 c0 : Nat} (hv : vt = .slice A0 n0 c0) (hb : w.heap[g]? = some (.cells (SLit A X Y S p f0 f1 f2 f3 f4 f5 vm vt vs vc j) 72 (0, 0))) : (execOp a.eval o).run Tryz.prog w = .ok (.value (.slice A0 n0 c0)) w := by
  subst hv
  have h12 : w.cell? ⟨g, 12, none⟩ = some (.slice A0 n0 c0) := (blk_cell hb 12).trans rfl
  unfold execOp
  simp only [ho, hx]
  go_simp
theorem sh_ldS {x : Operand} (ho : o.op = .load 69 x) (hx : a.eval x = .pointer (some ⟨g, 13, none⟩)) {A0 : Option Addr} {n0 c0 : Nat} (hv : vs = .slice A0 n0 c0) (hb : w.heap[g]? = some (.cells (SLit A X Y S p f0 f1 f2 f3 f4 f5 vm vt vs vc j) 72 (0, 0))) : (execOp a.eval o).run Tryz.prog w = .ok (.value (.slice A0 n0 c0)) w := by
  subst hv
  have h13 : w.cell? ⟨g, 13, none⟩ = some (.slice A0 n0 c0) := (blk_cell hb 13).trans rfl
  unfold execOp
  simp only [ho, hx]
  go_simp
theorem sh_ldK {x : Operand} (ho : o.op = .load 70 x) (hx : a.eval x = .pointer (some ⟨g, 14, none⟩)) {A0 : Option Addr} {n0 c0 : Nat} (hv : vc = .slice A0 n0 c0) (hb : w.heap[g]? = some (.cells (SLit A X Y S p f0 f1 f2 f3 f4 f5 vm vt vs vc j) 72 (0, 0))) : (execOp a.eval o).run Tryz.prog w = .ok (.value (.slice A0 n0 c0)) w := by
  subst hv
  have h14 : w.cell? ⟨g, 14, none⟩ = some (.slice A0 n0 c0) := (blk_cell hb 14).trans rfl
  unfold execOp
  simp only [ho, hx]
  go_simp
end
section
variable {Q : Exit → Act → World → Prop} {ops : Array Oper} {rest : List Oper} {o : Oper} {a : Act} {w : World} {A X Y S p : Int} {f0 f1 f2 f3 f4 f5 j : Bool} {vm vt vs vc : Value} {g : Nat}
set_option maxHeartbeats 4000000 in
theorem sh_stC (hgd : o.guard = none) {x y : Operand} {A' X' Y' S' p' : Int} {f0' f1' f2' f3' f4' f5' : Bool} (ho : o.op = .store 64 x y) (hx : a.eval x = .pointer (some ⟨g, 0, none⟩)) (hy : a.eval y = .agg #[.int .u8 A', .int .u8 X', .int .u8 Y', .int .u8 S', .int .u16 p', .bool f0', .bool f1', .bool f2', .bool f3', .bool f4', .bool f5']) (hb : w.heap[g]? = some (.cells (SLit A X Y S p f0 f1 f2 f3 f4 f5 vm vt vs vc j) 72 (0, 0)))
    (h : ∀ w1, w1.heap[g]? = some (.cells (SLit A' X' Y' S' p' f0' f1' f2' f3' f4' f5' vm vt vs vc j) 72 (0, 0)) → (∀ k, k ≠ g → w1.heap[k]? = w.heap[k]?) → (∀ B u, B ≤ g → Below B u w → Below B u w1) → wpList Tryz.prog ops Q rest (a.put o.dst undef) w1) : wpList Tryz.prog ops Q (o :: rest) a w := by
  have q0 := blk_frozen hb 0
  have q1 := blk_frozen hb 1
  have q2 := blk_frozen hb 2
  have q3 := blk_frozen hb 3
  have q4 := blk_frozen hb 4
  have q5 := blk_frozen hb 5
  have q6 := blk_frozen hb 6
  have q7 := blk_frozen hb 7
  have q8 := blk_frozen hb 8
  have q9 := blk_frozen hb 9
  have q10 := blk_frozen hb 10
  have h0 : w.cell? ⟨g, 0, none⟩ = some (.int .u8 A) := (blk_cell hb 0).trans rfl
  have h1 : w.cell? ⟨g, 1, none⟩ = some (.int .u8 X) := (blk_cell hb 1).trans rfl
  have h2 : w.cell? ⟨g, 2, none⟩ = some (.int .u8 Y) := (blk_cell hb 2).trans rfl
  have h3 : w.cell? ⟨g, 3, none⟩ = some (.int .u8 S) := (blk_cell hb 3).trans rfl
  have h4 : w.cell? ⟨g, 4, none⟩ = some (.int .u16 p) := (blk_cell hb 4).trans rfl
  have h5 : w.cell? ⟨g, 5, none⟩ = some (.bool f0) := (blk_cell hb 5).trans rfl
  have h6 : w.cell? ⟨g, 6, none⟩ = some (.bool f1) := (blk_cell hb 6).trans rfl
  have h7 : w.cell? ⟨g, 7, none⟩ = some (.bool f2) := (blk_cell hb 7).trans rfl
  have h8 : w.cell? ⟨g, 8, none⟩ = some (.bool f3) := (blk_cell hb 8).trans rfl
  have h9 : w.cell? ⟨g, 9, none⟩ = some (.bool f4) := (blk_cell hb 9).trans rfl
  have h10 : w.cell? ⟨g, 10, none⟩ = some (.bool f5) := (blk_cell hb 10).trans rfl
  have hrun : (execOp a.eval o).run Tryz.prog w = .ok .skip (((((((((((w.setCell ⟨g, 0, none⟩ (.int .u8 A')).setCell ⟨g, 1, none⟩ (.int .u8 X')).setCell ⟨g, 2, none⟩ (.int .u8 Y')).setCell ⟨g, 3, none⟩ (.int .u8 S')).setCell ⟨g, 4, none⟩ (.int .u16 p')).setCell ⟨g, 5, none⟩ (.bool f0')).setCell ⟨g, 6, none⟩ (.bool f1')).setCell ⟨g, 7, none⟩ (.bool f2')).setCell ⟨g, 8, none⟩ (.bool f3')).setCell ⟨g, 9, none⟩ (.bool f4')).setCell ⟨g, 10, none⟩ (.bool f5')) := by
    unfold execOp
    simp only [ho, hx, hy]
    go_simp
  have b0 : (w.setCell ⟨g, 0, none⟩ (.int .u8 A')).heap[g]? = some (.cells (SLit A' X Y S p f0 f1 f2 f3 f4 f5 vm vt vs vc j) 72 (0, 0)) := blk_put hb 0 _ rfl
  have b1 : ((w.setCell ⟨g, 0, none⟩ (.int .u8 A')).setCell ⟨g, 1, none⟩ (.int .u8 X')).heap[g]? = some (.cells (SLit A' X' Y S p f0 f1 f2 f3 f4 f5 vm vt vs vc j) 72 (0, 0)) := blk_put b0 1 _ rfl
  have b2 : (((w.setCell ⟨g, 0, none⟩ (.int .u8 A')).setCell ⟨g, 1, none⟩ (.int .u8 X')).setCell ⟨g, 2, none⟩ (.int .u8 Y')).heap[g]? = some (.cells (SLit A' X' Y' S p f0 f1 f2 f3 f4 f5 vm vt vs vc j) 72 (0, 0)) := blk_put b1 2 _ rfl
  have b3 : ((((w.setCell ⟨g, 0, none⟩ (.int .u8 A')).setCell ⟨g, 1, none⟩ (.int .u8 X')).setCell ⟨g, 2, none⟩ (.int .u8 Y')).setCell ⟨g, 3, none⟩ (.int .u8 S')).heap[g]? = some (.cells (SLit A' X' Y' S' p f0 f1 f2 f3 f4 f5 vm vt vs vc j) 72 (0, 0)) := blk_put b2 3 _ rfl
  have b4 : (((((w.setCell ⟨g, 0, none⟩ (.int .u8 A')).setCell ⟨g, 1, none⟩ (.int .u8 X')).setCell ⟨g, 2, none⟩ (.int .u8 Y')).setCell ⟨g, 3, none⟩ (.int .u8 S')).setCell ⟨g, 4, none⟩ (.int .u16 p')).heap[g]? = some (.cells (SLit A' X' Y' S' p' f0 f1 f2 f3 f4 f5 vm vt vs vc j) 72 (0, 0)) := blk_put b3 4 _ rfl
  have b5 : ((((((w.setCell ⟨g, 0, none⟩ (.int .u8 A')).setCell ⟨g, 1, none⟩ (.int .u8 X')).setCell ⟨g, 2, none⟩ (.int .u8 Y')).setCell ⟨g, 3, none⟩ (.int .u8 S')).setCell ⟨g, 4, none⟩ (.int .u16 p')).setCell ⟨g, 5, none⟩ (.bool f0')).heap[g]? = some (.cells (SLit A' X' Y' S' p' f0' f1 f2 f3 f4 f5 vm vt vs vc j) 72 (0, 0)) := blk_put b4 5 _ rfl
  have b6 : (((((((w.setCell ⟨g, 0, none⟩ (.int .u8 A')).setCell ⟨g, 1, none⟩ (.int .u8 X')).setCell ⟨g, 2, none⟩ (.int .u8 Y')).setCell ⟨g, 3, none⟩ (.int .u8 S')).setCell ⟨g, 4, none⟩ (.int .u16 p')).setCell ⟨g, 5, none⟩ (.bool f0')).setCell ⟨g, 6, none⟩ (.bool f1')).heap[g]? = some (.cells (SLit A' X' Y' S' p' f0' f1' f2 f3 f4 f5 vm vt vs vc j) 72 (0, 0)) := blk_put b5 6 _ rfl
  have b7 : ((((((((w.setCell ⟨g, 0, none⟩ (.int .u8 A')).setCell ⟨g, 1, none⟩ (.int .u8 X')).setCell ⟨g, 2, none⟩ (.int .u8 Y')).setCell ⟨g, 3, none⟩ (.int .u8 S')).setCell ⟨g, 4, none⟩ (.int .u16 p')).setCell ⟨g, 5, none⟩ (.bool f0')).setCell ⟨g, 6, none⟩ (.bool f1')).setCell ⟨g, 7, none⟩ (.bool f2')).heap[g]? = some (.cells (SLit A' X' Y' S' p' f0' f1' f2' f3 f4 f5 vm vt vs vc j) 72 (0, 0)) := blk_put b6 7 _ rfl
  have b8 : (((((((((w.setCell ⟨g, 0, none⟩ (.int .u8 A')).setCell ⟨g, 1, none⟩ (.int .u8 X')).setCell ⟨g, 2, none⟩ (.int .u8 Y')).setCell ⟨g, 3, none⟩ (.int .u8 S')).setCell ⟨g, 4, none⟩ (.int .u16 p')).setCell ⟨g, 5, none⟩ (.bool f0')).setCell ⟨g, 6, none⟩ (.bool f1')).setCell ⟨g, 7, none⟩ (.bool f2')).setCell ⟨g, 8, none⟩ (.bool f3')).heap[g]? = some (.cells (SLit A' X' Y' S' p' f0' f1' f2' f3' f4 f5 vm vt vs vc j) 72 (0, 0)) := blk_put b7 8 _ rfl
  have b9 : ((((((((((w.setCell ⟨g, 0, none⟩ (.int .u8 A')).setCell ⟨g, 1, none⟩ (.int .u8 X')).setCell ⟨g, 2, none⟩ (.int .u8 Y')).setCell ⟨g, 3, none⟩ (.int .u8 S')).setCell ⟨g, 4, none⟩ (.int .u16 p')).setCell ⟨g, 5, none⟩ (.bool f0')).setCell ⟨g, 6, none⟩ (.bool f1')).setCell ⟨g, 7, none⟩ (.bool f2')).setCell ⟨g, 8, none⟩ (.bool f3')).setCell ⟨g, 9, none⟩ (.bool f4')).heap[g]? = some (.cells (SLit A' X' Y' S' p' f0' f1' f2' f3' f4' f5 vm vt vs vc j) 72 (0, 0)) := blk_put b8 9 _ rfl
  have b10 : (((((((((((w.setCell ⟨g, 0, none⟩ (.int .u8 A')).setCell ⟨g, 1, none⟩ (.int .u8 X')).setCell ⟨g, 2, none⟩ (.int .u8 Y')).setCell ⟨g, 3, none⟩ (.int .u8 S')).setCell ⟨g, 4, none⟩ (.int .u16 p')).setCell ⟨g, 5, none⟩ (.bool f0')).setCell ⟨g, 6, none⟩ (.bool f1')).setCell ⟨g, 7, none⟩ (.bool f2')).setCell ⟨g, 8, none⟩ (.bool f3')).setCell ⟨g, 9, none⟩ (.bool f4')).setCell ⟨g, 10, none⟩ (.bool f5')).heap[g]? = some (.cells (SLit A' X' Y' S' p' f0' f1' f2' f3' f4' f5' vm vt vs vc j) 72 (0, 0)) := blk_put b9 10 _ rfl
  refine event_skip hgd hrun (h _ b10 (fun k hk => ?_) (fun B u hB hz => (((((((((((hz.setCell hB _).setCell hB _).setCell hB _).setCell hB _).setCell hB _).setCell hB _).setCell hB _).setCell hB _).setCell hB _).setCell hB _).setCell hB _)))
  simp only [Below.heap_setCell _ ⟨g, _, none⟩ _ k hk]
set_option maxHeartbeats 4000000 in
theorem sh_stJ (hgd : o.guard = none) {x y : Operand} {j' : Bool} (ho : o.op = .store 4 x y) (hx : a.eval x = .pointer (some ⟨g, 15, none⟩)) (hy : a.eval y = .bool j') (hb : w.heap[g]? = some (.cells (SLit A X Y S p f0 f1 f2 f3 f4 f5 vm vt vs vc j) 72 (0, 0)))
    (h : ∀ w1, w1.heap[g]? = some (.cells (SLit A X Y S p f0 f1 f2 f3 f4 f5 vm vt vs vc j') 72 (0, 0)) → (∀ k, k ≠ g → w1.heap[k]? = w.heap[k]?) → (∀ B u, B ≤ g → Below B u w → Below B u w1) → wpList Tryz.prog ops Q rest (a.put o.dst undef) w1) : wpList Tryz.prog ops Q (o :: rest) a w := by
  have q15 := blk_frozen hb 15
  have h15 : w.cell? ⟨g, 15, none⟩ = some (.bool j) := (blk_cell hb 15).trans rfl
  have hrun : (execOp a.eval o).run Tryz.prog w = .ok .skip (w.setCell ⟨g, 15, none⟩ (.bool j')) := by
    unfold execOp
    simp only [ho, hx, hy]
    go_simp
  have b0 : (w.setCell ⟨g, 15, none⟩ (.bool j')).heap[g]? = some (.cells (SLit A X Y S p f0 f1 f2 f3 f4 f5 vm vt vs vc j') 72 (0, 0)) := blk_put hb 15 _ rfl
  refine event_skip hgd hrun (h _ b0 (fun k hk => ?_) (fun B u hB hz => (hz.setCell hB _)))
  simp only [Below.heap_setCell _ ⟨g, _, none⟩ _ k hk]
set_option maxHeartbeats 4000000 in
theorem sh_stR (hgd : o.guard = none) {x y : Operand} {A0 : Option Addr} {n0 c0 : Nat} (ho : o.op = .store 66 x y) (hx : a.eval x = .pointer (some ⟨g, 11, none⟩)) (hy : a.eval y = .agg #[.slice A0 n0 c0]) (hb : w.heap[g]? = some (.cells (SLit A X Y S p f0 f1 f2 f3 f4 f5 vm vt vs vc j) 72 (0, 0)))
    (h : ∀ w1, w1.heap[g]? = some (.cells (SLit A X Y S p f0 f1 f2 f3 f4 f5 (.slice A0 n0 c0) vt vs vc j) 72 (0, 0)) → (∀ k, k ≠ g → w1.heap[k]? = w.heap[k]?) → (∀ B u, B ≤ g → Below B u w → Below B u w1) → wpList Tryz.prog ops Q rest (a.put o.dst undef) w1) : wpList Tryz.prog ops Q (o :: rest) a w := by
  have q11 := blk_frozen hb 11
  have h11 : w.cell? ⟨g, 11, none⟩ = some (vm) := (blk_cell hb 11).trans rfl
  have hrun : (execOp a.eval o).run Tryz.prog w = .ok .skip (w.setCell ⟨g, 11, none⟩ (.slice A0 n0 c0)) := by
    unfold execOp
    simp only [ho, hx, hy]
    go_simp
  have b0 : (w.setCell ⟨g, 11, none⟩ (.slice A0 n0 c0)).heap[g]? = some (.cells (SLit A X Y S p f0 f1 f2 f3 f4 f5 (.slice A0 n0 c0) vt vs vc j) 72 (0, 0)) := blk_put hb 11 _ rfl
  refine event_skip hgd hrun (h _ b0 (fun k hk => ?_) (fun B u hB hz => (hz.setCell hB _)))
  simp only [Below.heap_setCell _ ⟨g, _, none⟩ _ k hk]
set_option maxHeartbeats 4000000 in
theorem sh_stT (hgd : o.guard = none) {x y : Operand} {A0 : Option Addr} {n0 c0 : Nat} (ho : o.op = .store 24 x y) (hx : a.eval x = .pointer (some ⟨g, 12, none⟩)) (hy : a.eval y = .slice A0 n0 c0) (hb : w.heap[g]? = some (.cells (SLit A X Y S p f0 f1 f2 f3 f4 f5 vm vt vs vc j) 72 (0, 0)))
    (h : ∀ w1, w1.heap[g]? = some (.cells (SLit A X Y S p f0 f1 f2 f3 f4 f5 vm (.slice A0 n0 c0) vs vc j) 72 (0, 0)) → (∀ k, k ≠ g → w1.heap[k]? = w.heap[k]?) → (∀ B u, B ≤ g → Below B u w → Below B u w1) → wpList Tryz.prog ops Q rest (a.put o.dst undef) w1) : wpList Tryz.prog ops Q (o :: rest) a w := by
  have q12 := blk_frozen hb 12
  have h12 : w.cell? ⟨g, 12, none⟩ = some (vt) := (blk_cell hb 12).trans rfl
  have hrun : (execOp a.eval o).run Tryz.prog w = .ok .skip (w.setCell ⟨g, 12, none⟩ (.slice A0 n0 c0)) := by
    unfold execOp
    simp only [ho, hx, hy]
    go_simp
  have b0 : (w.setCell ⟨g, 12, none⟩ (.slice A0 n0 c0)).heap[g]? = some (.cells (SLit A X Y S p f0 f1 f2 f3 f4 f5 vm (.slice A0 n0 c0) vs vc j) 72 (0, 0)) := blk_put hb 12 _ rfl
  refine event_skip hgd hrun (h _ b0 (fun k hk => ?_) (fun B u hB hz => (hz.setCell hB _)))
  simp only [Below.heap_setCell _ ⟨g, _, none⟩ _ k hk]
set_option maxHeartbeats 4000000 in
theorem sh_stS (hgd : o.guard = none) {x y : Operand} {A0 : Option Addr} {n0 c0 : Nat} (ho : o.op = .store 69 x y) (hx : a.eval x = .pointer (some ⟨g, 13, none⟩)) (hy : a.eval y = .slice A0 n0 c0) (hb : w.heap[g]? = some (.cells (SLit A X Y S p f0 f1 f2 f3 f4 f5 vm vt vs vc j) 72 (0, 0)))
    (h : ∀ w1, w1.heap[g]? = some (.cells (SLit A X Y S p f0 f1 f2 f3 f4 f5 vm vt (.slice A0 n0 c0) vc j) 72 (0, 0)) → (∀ k, k ≠ g → w1.heap[k]? = w.heap[k]?) → (∀ B u, B ≤ g → Below B u w → Below B u w1) → wpList Tryz.prog ops Q rest (a.put o.dst undef) w1) : wpList Tryz.prog ops Q (o :: rest) a w := by
  have q13 := blk_frozen hb 13
  have h13 : w.cell? ⟨g, 13, none⟩ = some (vs) := (blk_cell hb 13).trans rfl
  have hrun : (execOp a.eval o).run Tryz.prog w = .ok .skip (w.setCell ⟨g, 13, none⟩ (.slice A0 n0 c0)) := by
    unfold execOp
    simp only [ho, hx, hy]
    go_simp
  have b0 : (w.setCell ⟨g, 13, none⟩ (.slice A0 n0 c0)).heap[g]? = some (.cells (SLit A X Y S p f0 f1 f2 f3 f4 f5 vm vt (.slice A0 n0 c0) vc j) 72 (0, 0)) := blk_put hb 13 _ rfl
  refine event_skip hgd hrun (h _ b0 (fun k hk => ?_) (fun B u hB hz => (hz.setCell hB _)))
  simp only [Below.heap_setCell _ ⟨g, _, none⟩ _ k hk]
set_option maxHeartbeats 4000000 in
theorem sh_stK (hgd : o.guard = none) {x y : Operand} {A0 : Option Addr} {n0 c0 : Nat} (ho : o.op = .store 70 x y) (hx : a.eval x = .pointer (some ⟨g, 14, none⟩)) (hy : a.eval y = .slice A0 n0 c0) (hb : w.heap[g]? = some (.cells (SLit A X Y S p f0 f1 f2 f3 f4 f5 vm vt vs vc j) 72 (0, 0)))
    (h : ∀ w1, w1.heap[g]? = some (.cells (SLit A X Y S p f0 f1 f2 f3 f4 f5 vm vt vs (.slice A0 n0 c0) j) 72 (0, 0)) → (∀ k, k ≠ g → w1.heap[k]? = w.heap[k]?) → (∀ B u, B ≤ g → Below B u w → Below B u w1) → wpList Tryz.prog ops Q rest (a.put o.dst undef) w1) : wpList Tryz.prog ops Q (o :: rest) a w := by
  have q14 := blk_frozen hb 14
  have h14 : w.cell? ⟨g, 14, none⟩ = some (vc) := (blk_cell hb 14).trans rfl
  have hrun : (execOp a.eval o).run Tryz.prog w = .ok .skip (w.setCell ⟨g, 14, none⟩ (.slice A0 n0 c0)) := by
    unfold execOp
    simp only [ho, hx, hy]
    go_simp
  have b0 : (w.setCell ⟨g, 14, none⟩ (.slice A0 n0 c0)).heap[g]? = some (.cells (SLit A X Y S p f0 f1 f2 f3 f4 f5 vm vt vs (.slice A0 n0 c0) j) 72 (0, 0)) := blk_put hb 14 _ rfl
  refine event_skip hgd hrun (h _ b0 (fun k hk => ?_) (fun B u hB hz => (hz.setCell hB _)))
  simp only [Below.heap_setCell _ ⟨g, _, none⟩ _ k hk]
end
end Go.Proofs.YtafkbhnhmhmjcaaGreatDoor.Weak
end
section
namespace Go.Proofs.YtafkbhnhmhmjcaaGreatDoor.Plain
open Go.RowKit Go.Proofs.YtafkbhnhmhmjcaaGreatDoorW.PrintWords Go.Proofs.YtafkbhnhmhmjcaaGreatDoorW.PrintLast Go.Proofs.YtafkbhnhmhmjcaaGreatDoorW.PrintMore
theorem loop_run {σ ρ : Type} (F : Nat → σ → Int → Option ρ) (S : Nat → σ) (n : Nat) (r : ρ) (step : ∀ k i : Nat, i < n → F (k + 1) (S i) (i : Int) = F k (S (i + 1)) ((i + 1 : Nat) : Int)) (stop : ∀ k : Nat, F (k + 1) (S n) (n : Int) = some r) :
    ∀ k, n < k → F k (S 0) 0 = some r := by
  have key : ∀ d i k : Nat, i + d = n → d < k → F k (S i) (i : Int) = some r := by
    intro d
    induction d with
    | zero =>
      intro i k hi hk
      obtain ⟨k, rfl⟩ : ∃ m, k = m + 1 := ⟨k - 1, by omega⟩
      obtain rfl : i = n := by omega
      exact stop k
    | succ d ih =>
      intro i k hi hk
      obtain ⟨k, rfl⟩ : ∃ m, k = m + 1 := ⟨k - 1, by omega⟩
      rw [step k i (by omega)]
      exact ih (i + 1) k (by omega) (by omega)
  intro k hk
  exact key n 0 k (by omega) hk
theorem w64 {x : Int} (h0 : -9223372036854775808 ≤ x) (h1 : x ≤ 9223372036854775807) : wrap64 x = x := by unfold wrap64; omega
theorem wsucc {i : Nat} (h : i < 9223372036854775807) : wrap64 ((i : Int) + 1) = ((i + 1 : Nat) : Int) := by unfold wrap64; omega
theorem getD_lt {α : Type} (l : List α) (d : α) (i : Nat) (h : i < l.length) : l.getD i d = l[i] := by
  rw [List.getD_eq_getElem?_getD, List.getElem?_eq_getElem h]; rfl
end Go.Proofs.YtafkbhnhmhmjcaaGreatDoor.Plain
end
