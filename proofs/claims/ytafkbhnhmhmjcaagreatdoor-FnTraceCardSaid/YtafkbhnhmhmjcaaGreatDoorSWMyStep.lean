import Derived.Test.YtafkbhnhmhmjcaaGreatDoorSWMyRam
import Derived.Test.YtafkbhnhmhmjcaaGreatDoorSWMyWk3
import Derived.Test.YtafkbhnhmhmjcaaGreatDoorSWMyWk5
import Derived.Test.YtafkbhnhmhmjcaaGreatDoorSWPRunx18
import Derived.Test.YtafkbhnhmhmjcaaGreatDoorSWPRunx3
set_option linter.unusedVariables false
set_option linter.unusedSimpArgs false
namespace Go.Proofs.YtafkbhnhmhmjcaaGreatDoor.Weak
open Go.RowKit Go.Proofs.YtafkbhnhmhmjcaaGreatDoorW.PrintWords Go.Proofs.YtafkbhnhmhmjcaaGreatDoorW.PrintLast Go.Proofs.YtafkbhnhmhmjcaaGreatDoorW.PrintMore Go.Proofs.YtafkbhnhmhmjcaaGreatDoor.PRun
set_option maxHeartbeats 8000000 in
set_option maxRecDepth 100000 in
theorem Step.any (w : World) (Ac X0 Y0 S0 P0 : Int) (e0 e1 e2 e3 e4 e5 : Bool) (A0 : Option Addr) (c0 : Nat) (l : List Int) (jb : Bool) (hj : spec_Jams.f 3 l P0 = some jb) (lo : Nat) (h0 : jb = true → lo = 0) (h1 : lo ≤ 1) (hv : CC #[.int .u8 Ac, .int .u8 X0, .int .u8 Y0, .int .u8 S0, .int .u16 P0, .bool e0, .bool e1, .bool e2, .bool e3, .bool e4, .bool e5]) (hr : Kd.C (Kd.int .u8) w A0 l.length l) (hc0 : l.length ≤ c0) (hok : spec_RamOk.f l = some true) (hb : ∀ x, x ∈ l → RB x) : Calls Tryz.prog 46 #[.agg #[.int .u8 Ac, .int .u8 X0, .int .u8 Y0, .int .u8 S0, .int .u16 P0, .bool e0, .bool e1, .bool e2, .bool e3, .bool e4, .bool e5], .agg #[.slice A0 l.length c0]] w fun e w1 => Stepped w l.length lo e w1 := by
  have HV := zA hv
  have HB := zA (FB.refl w.heap.size w)
  have HR := zA hr
  have HC := zA hc0
  have HK := zA hok
  have HQ := zA hb
  have HJ := zA hj
  have HLO := zA h1
  have HLZ := zA h0
  clear hj h0 h1 hv hr hc0 hok hb
  go_enter Tryz.func46, Tryz.ntmps46
  have HL := zA (ram_len HK.out)
  have HLL := zA (by have := HL.out; omega : 0 < l.length ∧ l.length ≤ 65536)
  have HN := zA (Nat.zero_le 900)
  have HS := zA (Nat.le_refl w.heap.size)
  go_wp2_with (first
    | ((with_reducible refine gate_dst (N := 2) rfl ?_); refine box_event ?hg (N := 2) ?hd (cs := #[.int .u8 Ac, .int .u8 X0, .int .u8 Y0, .int .u8 S0, .int .u16 P0, .bool e0, .bool e1, .bool e2, .bool e3, .bool e4, .bool e5]) (t := 64) ?hr ?_; (case hd => rfl); (case hg => rfl); (case hr => first | (go_simp; done) | (go_simp; rfl)); intro g hg w1 hc_ hb_; have GC := zA (by rw [hg]; exact HB.out.size : w.heap.size ≤ g); replace HB := zA (HB.out.trans (FB.of_below hb_)); have BC := zA hc_; clear hb_ hc_ hg)
    | ((with_reducible refine gate_dst (N := 3) rfl ?_); refine box_event ?hg (N := 3) ?hd (cs := #[.slice A0 l.length c0]) (t := 66) ?hr ?_; (case hd => rfl); (case hg => rfl); (case hr => first | (go_simp; done) | (go_simp; rfl)); intro g3 hg3 w1 hc_ hb_; have GM := zA (by rw [hg3]; exact HB.out.size : w.heap.size ≤ g3); replace BC := zA (blk_below BC.out hb_); replace HB := zA (HB.out.trans (FB.of_below hb_)); have BM := zA hc_; clear hb_ hc_ hg3)
    | ((with_reducible refine gate_dst (N := 4) rfl ?_); refine c_alloc rfl rfl rfl ?_; intro gr hgr w1 hc_ hb_; have GR := zA (by rw [← hgr]; exact HB.out.size : w.heap.size ≤ gr); have NE := zA (by have := blk_lt BC.out; omega : gr ≠ g); replace BC := zA (blk_below BC.out hb_); replace BM := zA (blk_below BM.out hb_); replace HB := zA (HB.out.trans (FB.of_below hb_)); have BR := zA hc_; clear hb_ hc_)
    | ((with_reducible refine gate_dst (N := 5) rfl ?_); refine box_event ?hg (N := 5) ?hd (cs := #[.slice none 0 0]) (t := 66) ?hr ?_; (case hd => rfl); (case hg => rfl); (case hr => first | (go_simp; done) | (go_simp; rfl)); intro g5 hg5 w1 hc_ hb_; have GQ := zA (by rw [hg5]; exact HB.out.size : w.heap.size ≤ g5); replace BC := zA (blk_below BC.out hb_); replace BM := zA (blk_below BM.out hb_); replace BR := zA (BR.out.below_ hb_); replace HB := zA (HB.out.trans (FB.of_below hb_)); have RR := zA hc_; clear hb_ hc_ hg5)
    | ((with_reducible refine gate_dst (N := 23) rfl ?_); refine Kd.event_run (v := .int .u16 P0) rfl (by have hx_ := (blk_cell BC.out 4); unfold execOp; go_simp; rfl) ?_)
    | (go_at_call 45; refine (spec_Jams.calls 3 A0 c0 l P0 jb _ (Kd.C_below HR.out (HB.out.below (Nat.le_refl _))) HC.out HJ.out).mono ?_; rintro e w1 ⟨rfl, hb_⟩; replace BC := zA (blk_below BC.out hb_); replace BM := zA (blk_below BM.out hb_); replace BR := zA (BR.out.below_ hb_); replace RR := zA (blk_below RR.out hb_); replace HB := zA (HB.out.trans (FB.of_below hb_)); replace HU := zA (HU.out.below_ hb_); replace BC := zA (p := CpuAt w1 g) ⟨_, BC.out, HV.out⟩; clear hb_)
    | ((with_reducible refine gate_load (t := 66) rfl ?_); refine wpList_plain rfl fun _ hK_ => wp_load_row 66 _ rfl g3 rfl 66 _ (0, 0) _ BM.out Tryz.underlying66 rfl (by kernel_rfl) (hK_ _ _ ?_); clear hK_)
    | ((with_reducible refine gate_dst (N := 17) rfl ?_); refine Kd.event_run (v := .slice A0 l.length c0) rfl (by have hx_ := (blk_cell BM.out 0); unfold execOp; go_simp; rfl) ?_)
    | (go_at_call 41; refine (spec_RamOk.calls A0 c0 l true _ (Kd.C_below HR.out (HB.out.below (Nat.le_refl _))) HC.out HK.out).mono ?_; rintro e w1 ⟨rfl, hb_⟩; replace BC := zA (blk_below BC.out hb_); replace BM := zA (blk_below BM.out hb_); replace BR := zA (BR.out.below_ hb_); replace RR := zA (blk_below RR.out hb_); replace HB := zA (HB.out.trans (FB.of_below hb_)); clear hb_)
    | ((with_reducible refine gate_dst (N := 15) rfl ?_); refine Kd.R_lit (Kd.int .u8) _ 5 ?hg (N := 15) ?hd (xs := ([] : List Int)) (inner := []) (ok := fun _ => True) (okp := fun _ => True) ?hr ?hp (fun _ hk => hk) trivial (Below.refl _ _) (Nat.le_refl _) (by simp) ?_; (case hd => rfl); (case hg => rfl); (case hr => first | (go_simp; done) | (go_simp; rfl)); (case hp => exact (Reps.none _ _)); intro v1 w1 ho_ hb_ hg_ hnew_; clear hg_ hnew_; have HO := zA (Kd.R_lower ho_ HB.out.size); replace BC := zA (blk_below BC.out hb_); replace BM := zA (blk_below BM.out hb_); replace BR := zA (BR.out.below_ hb_); replace RR := zA (blk_below RR.out hb_); replace HB := zA (HB.out.trans (FB.of_below hb_)); clear ho_ hb_)
    | ((with_reducible refine gate_builtin (b := .append) (xs := #[.tmp 15, .tmp 17]) rfl ?_); at_builtin; refine Kd.R_append_rows (Kd.int .u8) (w0 := w) w.heap.size rfl (.tmp 15) (.tmp 17) 22 5 (.int .u8 0) 1 rfl Tryz.underlying22 info5 rfl (by decide) (by omega) v1 [] l _ _ _ (fun _ => True) (fun _ => False) rfl rfl ?aO ?aR (fun _ _ h => h) (fun _ h => h.elim) ?aF ?aB ?aS ?aL ?_; (case aR => exact Kd.C_below HR.out (HB.out.below (Nat.le_refl _))); (case aB => exact (HB.out.below (Nat.le_refl _))); (case aF => exact (fun _ _ => trivial)); (case aO => exact HO.out); (case aS => exact HB.out.size); (case aL => have := HL.out; simp; omega); intro v2 w1 ho_ hb_ hg_ hat_; obtain ⟨A1, c1, rfl⟩ := Kd.R_slice ho_; simp only [List.nil_append] at ho_ ⊢; replace BC := zA (raw_grown BC.out hg_ HO.out (by decide)); replace BM := zA (raw_grown BM.out hg_ HO.out (by decide)); replace BR := zA (BR.out.grown hg_ HO.out (by decide)); replace RR := zA (raw_grown RR.out hg_ HO.out (by decide)); replace HB := zA ((FB.of_below hb_ : FB w.heap.size w w1)); replace HO := zA ho_; clear ho_ hb_ hg_ hat_)
    | ((with_reducible refine gate_dst (N := 20) rfl ?_); refine box_event ?hg (N := 20) ?hd (cs := #[.slice A1 l.length c1, .slice none 0 0]) (t := 112) ?hr ?_; (case hd => rfl); (case hg => rfl); (case hr => first | (go_simp; done) | (go_simp; rfl)); intro gb hgb w1 hc_ hb_; have HU := zA (p := Bus w1 gb w.heap.size l.length 0) (bus_new hc_ (by rw [hgb]; exact HB.out.size) (Kd.R_below HO.out hb_) HQ.out); replace BC := zA (blk_below BC.out hb_); replace BM := zA (blk_below BM.out hb_); replace BR := zA (BR.out.below_ hb_); replace RR := zA (blk_below RR.out hb_); replace HB := zA (HB.out.trans (FB.of_below hb_)); clear hc_ hb_ HO hgb)
    | ((with_reducible refine gate_load (t := 5) rfl ?_); first | (refine c_ld8 rfl rfl rfl (by decide) BC.out ?_; intro _ _) | (refine c_ld8 rfl rfl rfl (by decide) BR.out ?_; intro _ _))
    | ((with_reducible refine gate_st (t := 5) rfl ?_); first | (refine c_st8 rfl rfl rfl rfl (by decide) (by first | assumption | exact RB_mod _ | exact RB_bits _ _ _ | exact RB_wrap _ | (unfold RB; omega)) BC.out ?_; intro w1 hc_ hk_ hb_; replace BM := zA ((hk_ _ (BC.out.ne_of BM.out (by decide))).trans BM.out); replace BR := zA (BR.out.other NE.out hk_); replace RR := zA ((hk_ _ (BC.out.ne_of RR.out (by decide))).trans RR.out); replace HB := zA (HB.out.set GC.out hk_ hb_); replace HU := zA (HU.out.other BC.out hk_); replace BC := zA (hc_); clear hc_ hk_ hb_) | (refine c_st8 rfl rfl rfl rfl (by decide) (by first | assumption | exact RB_mod _ | exact RB_bits _ _ _ | exact RB_wrap _ | (unfold RB; omega)) BR.out ?_; intro w1 hc_ hk_ hb_; replace BC := zA (BC.out.other NE.out.symm hk_); replace BM := zA ((hk_ _ (BR.out.ne_of BM.out (by decide))).trans BM.out); replace RR := zA ((hk_ _ (BR.out.ne_of RR.out (by decide))).trans RR.out); replace HB := zA (HB.out.set GR.out hk_ hb_); replace HU := zA (HU.out.other BR.out hk_); replace BR := zA (hc_); clear hc_ hk_ hb_))
    | ((with_reducible refine gate_load (t := 41) rfl ?_); first | (refine c_ldp rfl rfl rfl BC.out ?_; intro _ _) | (refine c_ldp rfl rfl rfl BR.out ?_; intro _ _))
    | ((with_reducible refine gate_st (t := 41) rfl ?_); first | (refine c_stp rfl rfl rfl rfl (by first | assumption | exact RP_mod _ | exact RP_wrap _ | (unfold RP; omega)) BC.out ?_; intro w1 hc_ hk_ hb_; replace BM := zA ((hk_ _ (BC.out.ne_of BM.out (by decide))).trans BM.out); replace BR := zA (BR.out.other NE.out hk_); replace RR := zA ((hk_ _ (BC.out.ne_of RR.out (by decide))).trans RR.out); replace HB := zA (HB.out.set GC.out hk_ hb_); replace HU := zA (HU.out.other BC.out hk_); replace BC := zA (hc_); clear hc_ hk_ hb_) | (refine c_stp rfl rfl rfl rfl (by first | assumption | exact RP_mod _ | exact RP_wrap _ | (unfold RP; omega)) BR.out ?_; intro w1 hc_ hk_ hb_; replace BC := zA (BC.out.other NE.out.symm hk_); replace BM := zA ((hk_ _ (BR.out.ne_of BM.out (by decide))).trans BM.out); replace RR := zA ((hk_ _ (BR.out.ne_of RR.out (by decide))).trans RR.out); replace HB := zA (HB.out.set GR.out hk_ hb_); replace HU := zA (HU.out.other BR.out hk_); replace BR := zA (hc_); clear hc_ hk_ hb_))
    | ((with_reducible refine gate_load (t := 4) rfl ?_); first | (refine c_ldb rfl rfl rfl (by decide) BC.out ?_; intro _) | (refine c_ldb rfl rfl rfl (by decide) BR.out ?_; intro _))
    | ((with_reducible refine gate_st (t := 4) rfl ?_); first | (refine c_stb rfl rfl rfl rfl (by decide) BC.out ?_; intro w1 hc_ hk_ hb_; replace BM := zA ((hk_ _ (BC.out.ne_of BM.out (by decide))).trans BM.out); replace BR := zA (BR.out.other NE.out hk_); replace RR := zA ((hk_ _ (BC.out.ne_of RR.out (by decide))).trans RR.out); replace HB := zA (HB.out.set GC.out hk_ hb_); replace HU := zA (HU.out.other BC.out hk_); replace BC := zA (hc_); clear hc_ hk_ hb_) | (refine c_stb rfl rfl rfl rfl (by decide) BR.out ?_; intro w1 hc_ hk_ hb_; replace BC := zA (BC.out.other NE.out.symm hk_); replace BM := zA ((hk_ _ (BR.out.ne_of BM.out (by decide))).trans BM.out); replace RR := zA ((hk_ _ (BR.out.ne_of RR.out (by decide))).trans RR.out); replace HB := zA (HB.out.set GR.out hk_ hb_); replace HU := zA (HU.out.other BR.out hk_); replace BR := zA (hc_); clear hc_ hk_ hb_))
    | ((with_reducible refine gate_load (t := 62) rfl ?_); first | (refine c_ldF rfl rfl rfl BC.out ?_; rintro _ ⟨k0, k1, k2, k3, k4, k5, rfl⟩) | (refine c_ldF rfl rfl rfl BR.out ?_; rintro _ ⟨k0, k1, k2, k3, k4, k5, rfl⟩))
    | ((with_reducible refine gate_st (t := 62) rfl ?_); first | (refine c_stF rfl rfl rfl rfl ⟨_, _, _, _, _, _, rfl⟩ BC.out ?_; intro w1 hc_ hk_ hb_; replace BM := zA ((hk_ _ (BC.out.ne_of BM.out (by decide))).trans BM.out); replace BR := zA (BR.out.other NE.out hk_); replace RR := zA ((hk_ _ (BC.out.ne_of RR.out (by decide))).trans RR.out); replace HB := zA (HB.out.set GC.out hk_ hb_); replace HU := zA (HU.out.other BC.out hk_); replace BC := zA (hc_); clear hc_ hk_ hb_) | (refine c_stF rfl rfl rfl rfl ⟨_, _, _, _, _, _, rfl⟩ BR.out ?_; intro w1 hc_ hk_ hb_; replace BC := zA (BC.out.other NE.out.symm hk_); replace BM := zA ((hk_ _ (BR.out.ne_of BM.out (by decide))).trans BM.out); replace RR := zA ((hk_ _ (BR.out.ne_of RR.out (by decide))).trans RR.out); replace HB := zA (HB.out.set GR.out hk_ hb_); replace HU := zA (HU.out.other BR.out hk_); replace BR := zA (hc_); clear hc_ hk_ hb_))
    | ((with_reducible refine gate_load (t := 64) rfl ?_); first | (refine c_ldC rfl rfl rfl BC.out ?_; intro _ _) | (refine c_ldC rfl rfl rfl BR.out ?_; intro _ _))
    | ((with_reducible refine gate_st (t := 64) rfl ?_); first | (refine c_stC rfl rfl rfl rfl (by assumption) BC.out ?_; intro w1 hc_ hk_ hb_; replace BM := zA ((hk_ _ (BC.out.ne_of BM.out (by decide))).trans BM.out); replace BR := zA (BR.out.other NE.out hk_); replace RR := zA ((hk_ _ (BC.out.ne_of RR.out (by decide))).trans RR.out); replace HB := zA (HB.out.set GC.out hk_ hb_); replace HU := zA (HU.out.other BC.out hk_); replace BC := zA (hc_); clear hc_ hk_ hb_) | (refine c_stC rfl rfl rfl rfl (by assumption) BR.out ?_; intro w1 hc_ hk_ hb_; replace BC := zA (BC.out.other NE.out.symm hk_); replace BM := zA ((hk_ _ (BR.out.ne_of BM.out (by decide))).trans BM.out); replace RR := zA ((hk_ _ (BR.out.ne_of RR.out (by decide))).trans RR.out); replace HB := zA (HB.out.set GR.out hk_ hb_); replace HU := zA (HU.out.other BR.out hk_); replace BR := zA (hc_); clear hc_ hk_ hb_))
    | (go_at_call 61; refine (NameOf.any _ (by first | assumption | exact RB_mod _ | exact RB_bits _ _ _ | exact RB_wrap _ | (unfold RB; omega)) _).mono ?_; rintro e w1 ⟨_, rfl, hb_⟩; replace BC := zA (BC.out.below_ hb_); replace BM := zA (blk_below BM.out hb_); replace BR := zA (BR.out.below_ hb_); replace RR := zA (blk_below RR.out hb_); replace HB := zA (HB.out.trans (FB.of_below hb_)); replace HU := zA (HU.out.below_ hb_); clear hb_)
    | (go_at_call 64; refine (ModeOf.any _ (by first | assumption | exact RB_mod _ | exact RB_bits _ _ _ | exact RB_wrap _ | (unfold RB; omega)) _).mono ?_; rintro e w1 ⟨_, rfl, hb_⟩; replace BC := zA (BC.out.below_ hb_); replace BM := zA (blk_below BM.out hb_); replace BR := zA (BR.out.below_ hb_); replace RR := zA (blk_below RR.out hb_); replace HB := zA (HB.out.trans (FB.of_below hb_)); replace HU := zA (HU.out.below_ hb_); clear hb_)
    | (go_at_call 57; refine (KindOf.any _ (by first | assumption | exact RB_mod _ | exact RB_bits _ _ _ | exact RB_wrap _ | (unfold RB; omega)) _).mono ?_; rintro e w1 ⟨_, rfl, hb_⟩; replace BC := zA (BC.out.below_ hb_); replace BM := zA (blk_below BM.out hb_); replace BR := zA (BR.out.below_ hb_); replace RR := zA (blk_below RR.out hb_); replace HB := zA (HB.out.trans (FB.of_below hb_)); replace HU := zA (HU.out.below_ hb_); clear hb_)
    | (go_at_call 59; refine (l06Read.any _ gb w.heap.size l.length _ _ HLL.out (by have := HN.out; omega) (Nat.le_trans HS.out HB.out.size) HU.out).mono ?_; rintro e w1 ⟨_, rfl, _, hu_, hb_⟩; replace BC := zA (BC.out.fb hb_); replace BM := zA (hb_.raw BM.out (by decide)); replace BR := zA (BR.out.fb hb_); replace RR := zA (hb_.raw RR.out (by decide)); replace HB := zA (HB.out.trans hb_); replace HU := zA (hu_); clear hu_ hb_)
    | (go_at_call 66; refine (l06Data.any _ gb w.heap.size l.length _ _ _ (by first | assumption | exact RB_mod _ | exact RB_bits _ _ _ | exact RB_wrap _ | (unfold RB; omega)) (by assumption) HLL.out (by have := HN.out; omega) (Nat.le_trans HS.out HB.out.size) HU.out).mono ?_; rintro e w1 ⟨ds_, m_, rfl, hds_, hm_, hm2_, hu_, hb_⟩; replace BC := zA (BC.out.fb hb_); replace BM := zA (hb_.raw BM.out (by decide)); replace BR := zA (BR.out.fb hb_); replace RR := zA (hb_.raw RR.out (by decide)); replace HB := zA (HB.out.trans hb_); replace HU := zA (hu_); clear hu_ hb_)
    | (go_at_call 60; refine (l06Push.any _ gb w.heap.size l.length _ _ _ _ _ (by assumption) HLL.out (by have := HN.out; omega) (Nat.le_trans HS.out HB.out.size) HU.out).mono ?_; rintro e w1 ⟨ds_, rfl, hds_, hu_, hb_⟩; replace BC := zA (BC.out.fb hb_); replace BM := zA (hb_.raw BM.out (by decide)); replace BR := zA (BR.out.fb hb_); replace RR := zA (hb_.raw RR.out (by decide)); replace HB := zA (HB.out.trans hb_); replace HU := zA (hu_); clear hu_ hb_)
    | ((with_reducible refine gate_region (id := 11) ?_)
       obtain ⟨cs0, hbc, hcc⟩ := BC.out
       have HCC := zA hcc
       obtain ⟨Ac, X0, Y0, S0, P0, e0, e1, e2, e3, e4, e5, rfl, hA0, hX0, hY0, hS0, hP0⟩ := hcc
       refine start_k (n := 7) (S := fun w' => w'.heap[g]? = some (.cells #[.int .u8 Ac, .int .u8 X0, .int .u8 Y0, .int .u8 S0, .int .u16 P0, .bool e0, .bool e1, .bool e2, .bool e3, .bool e4, .bool e5] 64 (0, 0))) (ds := [6]) #[false, false, false, false, false, false, false] (by kernel_rfl) rfl rfl hbc (fun w1 he hs => by rw [he]; exact hs) ?_
       intro w1 hHeld hb_
       replace BC := zA (BC.out.below_ hb_); replace BM := zA (blk_below BM.out hb_); replace BR := zA (BR.out.below_ hb_); replace RR := zA (blk_below RR.out hb_); replace HB := zA (HB.out.trans (FB.of_below hb_)); replace HU := zA (HU.out.below_ hb_)
       clear hb_ hbc
       refine take_ (i := 0) (N := some 54) (v := ?_) (a' := ?_) #[true, false, false, false, false, false, false] rfl rfl (by kernel_rfl) (fun _ _ _ h => h) (Or.inl ⟨by rfl, ?_⟩) hHeld ?_ ?_
       rotate_left
       · intro w' s0
         refine (c_runC (x := .tmp 2) ?_ ?_ s0 HCC.out).trans ?_
         · rfl
         · rfl
         · rfl
       rotate_left
       · simp only [zP]
         rfl
       refine pure_ (i := 1) (N := some 55) (v := ?_) (a' := ?_) #[true, true, false, false, false, false, false] rfl rfl (by kernel_rfl) (fun _ _ _ h => h) (Or.inl ⟨by rfl, ?_⟩) ?_ ?_
       rotate_left
       · intro w'
         go_simp
         with_reducible rfl
       rotate_left
       · simp only [zP]
         rfl
       refine pure_ (i := 3) (N := some 57) (v := ?_) (a' := ?_) #[true, true, false, true, false, false, false] rfl rfl (by kernel_rfl) (fun _ _ _ h => h) (Or.inl ⟨by rfl, ?_⟩) ?_ ?_
       rotate_left
       · intro w'
         go_simp
         with_reducible rfl
       rotate_left
       · simp only [zP]
         rfl
       refine one_ (i := 2) (N := some 56) #[true, true, true, true, false, false, false] rfl rfl (by kernel_rfl) (by decide) (fun K hK => ?_)
       refine goes_ Tryz.func61 (by kernel_rfl) rfl #[.int .u8 _] (by rfl) rfl rfl (by (try simp only [List.map_toArray, List.map_cons, List.map_nil]); first | done | rfl) ?_
       with_reducible refine (NameOf.any _ (by first | assumption | exact RB_mod _ | exact RB_bits _ _ _ | exact RB_wrap _ | (unfold RB; omega)) _).mono ?_
       rintro e w1 ⟨z1, rfl, hb_⟩
       refine ⟨_, rfl, ?_⟩
       replace hHeld := blk_below hHeld hb_
       replace BC := zA (BC.out.below_ hb_); replace BM := zA (blk_below BM.out hb_); replace BR := zA (BR.out.below_ hb_); replace RR := zA (blk_below RR.out hb_); replace HB := zA (HB.out.trans (FB.of_below hb_)); replace HU := zA (HU.out.below_ hb_)
       clear hb_
       refine hK.out _ _ hHeld (fun _ => ?_)
       clear hK K
       refine norm_ (a' := ?_) ?_ ?_
       rotate_left
       · show Act.put _ (some 56) _ = _
         simp only [zP]
         rfl
       refine one_ (i := 4) (N := some 58) #[true, true, true, true, true, false, false] rfl rfl (by kernel_rfl) (by decide) (fun K hK => ?_)
       refine goes_ Tryz.func64 (by kernel_rfl) rfl #[.int .u8 _] (by rfl) rfl rfl (by (try simp only [List.map_toArray, List.map_cons, List.map_nil]); first | done | rfl) ?_
       with_reducible refine (ModeOf.any _ (by first | assumption | exact RB_mod _ | exact RB_bits _ _ _ | exact RB_wrap _ | (unfold RB; omega)) _).mono ?_
       rintro e w1 ⟨z2, rfl, hb_⟩
       refine ⟨_, rfl, ?_⟩
       replace hHeld := blk_below hHeld hb_
       replace BC := zA (BC.out.below_ hb_); replace BM := zA (blk_below BM.out hb_); replace BR := zA (BR.out.below_ hb_); replace RR := zA (blk_below RR.out hb_); replace HB := zA (HB.out.trans (FB.of_below hb_)); replace HU := zA (HU.out.below_ hb_)
       clear hb_
       refine hK.out _ _ hHeld (fun _ => ?_)
       clear hK K
       refine norm_ (a' := ?_) ?_ ?_
       rotate_left
       · show Act.put _ (some 58) _ = _
         simp only [zP]
         rfl
       refine one_ (i := 5) (N := some 59) #[true, true, true, true, true, true, false] rfl rfl (by kernel_rfl) (by decide) (fun K hK => ?_)
       refine goes_ Tryz.func63 (by kernel_rfl) rfl #[.agg _, .string _, .int .i64 _] (by rfl) rfl rfl (by (try simp only [List.map_toArray, List.map_cons, List.map_nil]); first | done | rfl) ?_
       with_reducible refine (l06Imp.any _ _ _ (by first | assumption | exact HCC.out) _).mono ?_
       rintro e w1 ⟨ds_, rfl, hds_, hb_⟩
       refine ⟨_, rfl, ?_⟩
       replace hHeld := blk_below hHeld hb_
       replace BC := zA (BC.out.below_ hb_); replace BM := zA (blk_below BM.out hb_); replace BR := zA (BR.out.below_ hb_); replace RR := zA (blk_below RR.out hb_); replace HB := zA (HB.out.trans (FB.of_below hb_)); replace HU := zA (HU.out.below_ hb_)
       clear hb_
       refine hK.out _ _ hHeld (fun _ => ?_)
       clear hK K
       refine norm_ (a' := ?_) ?_ ?_
       rotate_left
       · show Act.put _ (some 59) _ = _
         simp only [zP]
         rfl
       refine last_ (i := 6) (N := none) #[true, true, true, true, true, true, true] rfl rfl (by kernel_rfl) (by decide) (fun K hK => ?_)
       refine c_stStep (by rfl) rfl (x := .tmp 2) (y := .tmp 59) (cs := ds_) rfl rfl rfl hds_ BC.out ?_
       intro w1 hc_ hk_ hb_
       refine hK.out _ _ ?_
       clear hK K
       replace BM := zA ((hk_ _ (BC.out.ne_of BM.out (by decide))).trans BM.out); replace BR := zA (BR.out.other NE.out hk_); replace RR := zA ((hk_ _ (BC.out.ne_of RR.out (by decide))).trans RR.out); replace HB := zA (HB.out.set GC.out hk_ hb_); replace HU := zA (HU.out.other BC.out hk_); replace BC := zA (hc_)
       clear hc_ hk_ hb_ hHeld
       refine done_ (by kernel_rfl) ?_)
    | ((with_reducible refine gate_region (id := 14) ?_)
       obtain ⟨cs0, hbc, hcc⟩ := BC.out
       have HCC := zA hcc
       obtain ⟨Ac, X0, Y0, S0, P0, e0, e1, e2, e3, e4, e5, rfl, hA0, hX0, hY0, hS0, hP0⟩ := hcc
       refine start_k (n := 6) (S := fun w' => w'.heap[g]? = some (.cells #[.int .u8 Ac, .int .u8 X0, .int .u8 Y0, .int .u8 S0, .int .u16 P0, .bool e0, .bool e1, .bool e2, .bool e3, .bool e4, .bool e5] 64 (0, 0))) (ds := [5]) #[false, false, false, false, false, false] (by kernel_rfl) rfl rfl hbc (fun w1 he hs => by rw [he]; exact hs) ?_
       intro w1 hHeld hb_
       replace BC := zA (BC.out.below_ hb_); replace BM := zA (blk_below BM.out hb_); replace BR := zA (BR.out.below_ hb_); replace RR := zA (blk_below RR.out hb_); replace HB := zA (HB.out.trans (FB.of_below hb_)); replace HU := zA (HU.out.below_ hb_)
       clear hb_ hbc
       refine pure_ (i := 0) (N := some 66) (v := ?_) (a' := ?_) #[true, false, false, false, false, false] rfl rfl (by kernel_rfl) (fun _ _ _ h => h) (Or.inl ⟨by rfl, ?_⟩) ?_ ?_
       rotate_left
       · intro w'
         go_simp
         with_reducible rfl
       rotate_left
       · simp only [zP]
         rfl
       refine take_ (i := 1) (N := some 67) (v := ?_) (a' := ?_) #[true, true, false, false, false, false] rfl rfl (by kernel_rfl) (fun _ _ _ h => h) (Or.inl ⟨by rfl, ?_⟩) hHeld ?_ ?_
       rotate_left
       · intro w' s0
         refine (c_runC (x := .tmp 2) ?_ ?_ s0 HCC.out).trans ?_
         · rfl
         · rfl
         · rfl
       rotate_left
       · simp only [zP]
         rfl
       refine pure_ (i := 2) (N := some 68) (v := ?_) (a' := ?_) #[true, true, true, false, false, false] rfl rfl (by kernel_rfl) (fun _ _ _ h => h) (Or.inl ⟨by rfl, ?_⟩) ?_ ?_
       rotate_left
       · intro w'
         go_simp
         with_reducible rfl
       rotate_left
       · simp only [zP]
         rfl
       refine one_ (i := 3) (N := some 69) #[true, true, true, true, false, false] rfl rfl (by kernel_rfl) (by decide) (fun K hK => ?_)
       refine goes_ Tryz.func61 (by kernel_rfl) rfl #[.int .u8 _] (by rfl) rfl rfl (by (try simp only [List.map_toArray, List.map_cons, List.map_nil]); first | done | rfl) ?_
       with_reducible refine (NameOf.any _ (by first | assumption | exact RB_mod _ | exact RB_bits _ _ _ | exact RB_wrap _ | (unfold RB; omega)) _).mono ?_
       rintro e w1 ⟨z1, rfl, hb_⟩
       refine ⟨_, rfl, ?_⟩
       replace hHeld := blk_below hHeld hb_
       replace BC := zA (BC.out.below_ hb_); replace BM := zA (blk_below BM.out hb_); replace BR := zA (BR.out.below_ hb_); replace RR := zA (blk_below RR.out hb_); replace HB := zA (HB.out.trans (FB.of_below hb_)); replace HU := zA (HU.out.below_ hb_)
       clear hb_
       refine hK.out _ _ hHeld (fun _ => ?_)
       clear hK K
       refine norm_ (a' := ?_) ?_ ?_
       rotate_left
       · show Act.put _ (some 69) _ = _
         simp only [zP]
         rfl
       refine one_ (i := 4) (N := some 70) #[true, true, true, true, true, false] rfl rfl (by kernel_rfl) (by decide) (fun K hK => ?_)
       refine goes_ Tryz.func65 (by kernel_rfl) rfl #[.pointer (some ⟨gb, 0, none⟩), .agg _, .string _] (by rfl) rfl rfl (by (try simp only [List.map_toArray, List.map_cons, List.map_nil]); first | done | rfl) ?_
       with_reducible refine (l06Branch.any _ gb w.heap.size l.length _ _ _ (by first | assumption | exact HCC.out) HLL.out (by have := HN.out; omega) (Nat.le_trans HS.out HB.out.size) HU.out).mono ?_
       rintro e w1 ⟨ds_, m_, rfl, hds_, hm_, hm2_, hu_, hb_⟩
       refine ⟨_, rfl, ?_⟩
       replace hHeld := (hb_.block _ (blk_lt hHeld) (.inr ⟨_, _, hHeld, by decide, by decide, by decide⟩)).trans hHeld
       replace BC := zA (BC.out.fb hb_); replace BM := zA (hb_.raw BM.out (by decide)); replace BR := zA (BR.out.fb hb_); replace RR := zA (hb_.raw RR.out (by decide)); replace HB := zA (HB.out.trans hb_); replace HU := zA (hu_)
       clear hb_ hu_
       refine hK.out _ _ hHeld (fun _ => ?_)
       clear hK K
       refine norm_ (a' := ?_) ?_ ?_
       rotate_left
       · show Act.put _ (some 70) _ = _
         simp only [zP]
         rfl
       refine last_ (i := 5) (N := none) #[true, true, true, true, true, true] rfl rfl (by kernel_rfl) (by decide) (fun K hK => ?_)
       refine c_stStep (by rfl) rfl (x := .tmp 2) (y := .tmp 70) (cs := ds_) rfl rfl rfl hds_ BC.out ?_
       intro w1 hc_ hk_ hb_
       refine hK.out _ _ ?_
       clear hK K
       replace BM := zA ((hk_ _ (BC.out.ne_of BM.out (by decide))).trans BM.out); replace BR := zA (BR.out.other NE.out hk_); replace RR := zA ((hk_ _ (BC.out.ne_of RR.out (by decide))).trans RR.out); replace HB := zA (HB.out.set GC.out hk_ hb_); replace HU := zA (HU.out.other BC.out hk_); replace BC := zA (hc_)
       clear hc_ hk_ hb_ hHeld
       refine done_ (by kernel_rfl) ?_)
    | ((with_reducible refine gate_region (id := 8) ?_)
       obtain ⟨cs0, hbc, hcc⟩ := BC.out
       have HCC := zA hcc
       obtain ⟨Ac, X0, Y0, S0, P0, e0, e1, e2, e3, e4, e5, rfl, hA0, hX0, hY0, hS0, hP0⟩ := hcc
       refine start_k (n := 8) (S := fun w' => w'.heap[g]? = some (.cells #[.int .u8 Ac, .int .u8 X0, .int .u8 Y0, .int .u8 S0, .int .u16 P0, .bool e0, .bool e1, .bool e2, .bool e3, .bool e4, .bool e5] 64 (0, 0))) (ds := [7]) #[false, false, false, false, false, false, false, false] (by kernel_rfl) rfl rfl hbc (fun w1 he hs => by rw [he]; exact hs) ?_
       intro w1 hHeld hb_
       replace BC := zA (BC.out.below_ hb_); replace BM := zA (blk_below BM.out hb_); replace BR := zA (BR.out.below_ hb_); replace RR := zA (blk_below RR.out hb_); replace HB := zA (HB.out.trans (FB.of_below hb_)); replace HU := zA (HU.out.below_ hb_)
       clear hb_ hbc
       refine pure_ (i := 0) (N := some 39) (v := ?_) (a' := ?_) #[true, false, false, false, false, false, false, false] rfl rfl (by kernel_rfl) (fun _ _ _ h => h) (Or.inl ⟨by rfl, ?_⟩) ?_ ?_
       rotate_left
       · intro w'
         go_simp
         with_reducible rfl
       rotate_left
       · simp only [zP]
         rfl
       refine take_ (i := 1) (N := some 40) (v := ?_) (a' := ?_) #[true, true, false, false, false, false, false, false] rfl rfl (by kernel_rfl) (fun _ _ _ h => h) (Or.inl ⟨by rfl, ?_⟩) hHeld ?_ ?_
       rotate_left
       · intro w' s0
         refine (c_runC (x := .tmp 2) ?_ ?_ s0 HCC.out).trans ?_
         · rfl
         · rfl
         · rfl
       rotate_left
       · simp only [zP]
         rfl
       refine pure_ (i := 2) (N := some 41) (v := ?_) (a' := ?_) #[true, true, true, false, false, false, false, false] rfl rfl (by kernel_rfl) (fun _ _ _ h => h) (Or.inl ⟨by rfl, ?_⟩) ?_ ?_
       rotate_left
       · intro w'
         go_simp
         with_reducible rfl
       rotate_left
       · simp only [zP]
         rfl
       refine pure_ (i := 4) (N := some 43) (v := ?_) (a' := ?_) #[true, true, true, false, true, false, false, false] rfl rfl (by kernel_rfl) (fun _ _ _ h => h) (Or.inl ⟨by rfl, ?_⟩) ?_ ?_
       rotate_left
       · intro w'
         go_simp
         with_reducible rfl
       rotate_left
       · simp only [zP]
         rfl
       refine one_ (i := 3) (N := some 42) #[true, true, true, true, true, false, false, false] rfl rfl (by kernel_rfl) (by decide) (fun K hK => ?_)
       refine goes_ Tryz.func61 (by kernel_rfl) rfl #[.int .u8 _] (by rfl) rfl rfl (by (try simp only [List.map_toArray, List.map_cons, List.map_nil]); first | done | rfl) ?_
       with_reducible refine (NameOf.any _ (by first | assumption | exact RB_mod _ | exact RB_bits _ _ _ | exact RB_wrap _ | (unfold RB; omega)) _).mono ?_
       rintro e w1 ⟨z1, rfl, hb_⟩
       refine ⟨_, rfl, ?_⟩
       replace hHeld := blk_below hHeld hb_
       replace BC := zA (BC.out.below_ hb_); replace BM := zA (blk_below BM.out hb_); replace BR := zA (BR.out.below_ hb_); replace RR := zA (blk_below RR.out hb_); replace HB := zA (HB.out.trans (FB.of_below hb_)); replace HU := zA (HU.out.below_ hb_)
       clear hb_
       refine hK.out _ _ hHeld (fun _ => ?_)
       clear hK K
       refine norm_ (a' := ?_) ?_ ?_
       rotate_left
       · show Act.put _ (some 42) _ = _
         simp only [zP]
         rfl
       refine one_ (i := 5) (N := some 44) #[true, true, true, true, true, true, false, false] rfl rfl (by kernel_rfl) (by decide) (fun K hK => ?_)
       refine goes_ Tryz.func64 (by kernel_rfl) rfl #[.int .u8 _] (by rfl) rfl rfl (by (try simp only [List.map_toArray, List.map_cons, List.map_nil]); first | done | rfl) ?_
       with_reducible refine (ModeOf.any _ (by first | assumption | exact RB_mod _ | exact RB_bits _ _ _ | exact RB_wrap _ | (unfold RB; omega)) _).mono ?_
       rintro e w1 ⟨z2, rfl, hb_⟩
       refine ⟨_, rfl, ?_⟩
       replace hHeld := blk_below hHeld hb_
       replace BC := zA (BC.out.below_ hb_); replace BM := zA (blk_below BM.out hb_); replace BR := zA (BR.out.below_ hb_); replace RR := zA (blk_below RR.out hb_); replace HB := zA (HB.out.trans (FB.of_below hb_)); replace HU := zA (HU.out.below_ hb_)
       clear hb_
       refine hK.out _ _ hHeld (fun _ => ?_)
       clear hK K
       refine norm_ (a' := ?_) ?_ ?_
       rotate_left
       · show Act.put _ (some 44) _ = _
         simp only [zP]
         rfl
       refine one_ (i := 6) (N := some 45) #[true, true, true, true, true, true, true, false] rfl rfl (by kernel_rfl) (by decide) (fun K hK => ?_)
       refine goes_ Tryz.func67 (by kernel_rfl) rfl #[.pointer (some ⟨gb, 0, none⟩), .agg _, .string _, .int .i64 _] (by rfl) rfl rfl (by (try simp only [List.map_toArray, List.map_cons, List.map_nil]); first | done | rfl) ?_
       with_reducible refine (l06Go.any _ gb w.heap.size l.length _ _ _ _ (by first | assumption | exact HCC.out) HLL.out (by have := HN.out; omega) (Nat.le_trans HS.out HB.out.size) HU.out).mono ?_
       rintro e w1 ⟨ds_, m_, rfl, hds_, hm_, hm2_, hu_, hb_⟩
       refine ⟨_, rfl, ?_⟩
       replace hHeld := (hb_.block _ (blk_lt hHeld) (.inr ⟨_, _, hHeld, by decide, by decide, by decide⟩)).trans hHeld
       replace BC := zA (BC.out.fb hb_); replace BM := zA (hb_.raw BM.out (by decide)); replace BR := zA (BR.out.fb hb_); replace RR := zA (hb_.raw RR.out (by decide)); replace HB := zA (HB.out.trans hb_); replace HU := zA (hu_)
       clear hb_ hu_
       refine hK.out _ _ hHeld (fun _ => ?_)
       clear hK K
       refine norm_ (a' := ?_) ?_ ?_
       rotate_left
       · show Act.put _ (some 45) _ = _
         simp only [zP]
         rfl
       refine last_ (i := 7) (N := none) #[true, true, true, true, true, true, true, true] rfl rfl (by kernel_rfl) (by decide) (fun K hK => ?_)
       refine c_stStep (by rfl) rfl (x := .tmp 2) (y := .tmp 45) (cs := ds_) rfl rfl rfl hds_ BC.out ?_
       intro w1 hc_ hk_ hb_
       refine hK.out _ _ ?_
       clear hK K
       replace BM := zA ((hk_ _ (BC.out.ne_of BM.out (by decide))).trans BM.out); replace BR := zA (BR.out.other NE.out hk_); replace RR := zA ((hk_ _ (BC.out.ne_of RR.out (by decide))).trans RR.out); replace HB := zA (HB.out.set GC.out hk_ hb_); replace HU := zA (HU.out.other BC.out hk_); replace BC := zA (hc_)
       clear hc_ hk_ hb_ hHeld
       refine done_ (by kernel_rfl) ?_)
    | ((with_reducible refine gate_region (id := 5) ?_)
       have HU := zA HU.out.open_
       obtain ⟨cs0, hbc, hcc⟩ := BC.out
       have HCC := zA hcc
       obtain ⟨Ac, X0, Y0, S0, P0, e0, e1, e2, e3, e4, e5, rfl, hA0, hX0, hY0, hS0, hP0⟩ := hcc
       obtain ⟨Am, cm, Al, cl, mem, log, hx_, hm_, hmb_, hn_, hlb_⟩ := HU.out
       have HX := zA hx_
       have HM := zA hm_
       have HMB := zA hmb_
       have HLN := zA hn_
       have HLB := zA hlb_
       clear hm_ hmb_ hn_ hlb_ HU
       refine start_k (n := 10) (S := fun w' => w'.heap[g]? = some (.cells #[.int .u8 Ac, .int .u8 X0, .int .u8 Y0, .int .u8 S0, .int .u16 P0, .bool e0, .bool e1, .bool e2, .bool e3, .bool e4, .bool e5] 64 (0, 0)) ∧ w'.heap[gb]? = some (.cells #[.slice Am mem.length cm, .slice Al log.length cl] 112 (0, 0))) (ds := []) #[false, false, false, false, false, false, false, false, false, false] (by kernel_rfl) rfl rfl ⟨hbc, hx_.1⟩ (fun w1 he hs => by rw [he]; exact hs) ?_
       intro w1 hHeld hb_
       replace BC := zA (BC.out.below_ hb_); replace BM := zA (blk_below BM.out hb_); replace BR := zA (BR.out.below_ hb_); replace RR := zA (blk_below RR.out hb_); replace HB := zA (HB.out.trans (FB.of_below hb_))
       replace HX := zA (HX.out.below_ hb_)
       clear hb_ hbc hx_
       refine take_ (i := 0) (N := some 25) (v := ?_) (a' := ?_) #[true, false, false, false, false, false, false, false, false, false] rfl rfl (by kernel_rfl) (fun _ _ _ h => h) (Or.inl ⟨by rfl, ?_⟩) hHeld ?_ ?_
       rotate_left
       · rintro w' ⟨s0, sb⟩
         refine (c_runC (x := .tmp 2) ?_ ?_ s0 HCC.out).trans ?_
         · rfl
         · rfl
         · rfl
       rotate_left
       · simp only [zP]
         rfl
       refine pure_ (i := 1) (N := some 26) (v := ?_) (a' := ?_) #[true, true, false, false, false, false, false, false, false, false] rfl rfl (by kernel_rfl) (fun _ _ _ h => h) (Or.inl ⟨by rfl, ?_⟩) ?_ ?_
       rotate_left
       · intro w'
         go_simp
         with_reducible rfl
       rotate_left
       · simp only [zP]
         rfl
       refine pure_ (i := 2) (N := some 27) (v := ?_) (a' := ?_) #[true, true, true, false, false, false, false, false, false, false] rfl rfl (by kernel_rfl) (fun _ _ _ h => h) (Or.inl ⟨by rfl, ?_⟩) ?_ ?_
       rotate_left
       · intro w'
         go_simp
         with_reducible rfl
       rotate_left
       · simp only [zP]
         rfl
       refine pure_ (i := 3) (N := some 28) (v := ?_) (a' := ?_) #[true, true, true, true, false, false, false, false, false, false] rfl rfl (by kernel_rfl) (fun _ _ _ h => h) (Or.inl ⟨by rfl, ?_⟩) ?_ ?_
       rotate_left
       · intro w'
         go_simp
         with_reducible rfl
       rotate_left
       · simp only [zP]
         rfl
       refine take_ (i := 4) (N := some 29) (v := ?_) (a' := ?_) #[true, true, true, true, true, false, false, false, false, false] rfl rfl (by kernel_rfl) (fun _ _ _ h => h) (Or.inl ⟨by rfl, ?_⟩) hHeld ?_ ?_
       rotate_left
       · rintro w' ⟨s0, sb⟩
         have t0 : w'.cell? ⟨gb, 0, none⟩ = some (.slice Am mem.length cm) := (blk_cell sb 0).trans rfl
         have t1 : w'.cell? ⟨gb, 1, none⟩ = some (.slice Al log.length cl) := (blk_cell sb 1).trans rfl
         go_simp
         with_reducible rfl
       rotate_left
       · simp only [zP]
         rfl
       refine pure_ (i := 5) (N := some 30) (v := ?_) (a' := ?_) #[true, true, true, true, true, true, false, false, false, false] rfl rfl (by kernel_rfl) (fun _ _ _ h => h) (Or.inl ⟨by rfl, ?_⟩) ?_ ?_
       rotate_left
       · intro w'
         go_simp
         with_reducible rfl
       rotate_left
       · simp only [zP]
         rfl
       refine two_ (i := 6) (j := 7) (Ni := some 31) (Nj := none) #[true, true, true, true, true, true, true, false, false, false] #[true, true, true, true, true, true, false, true, false, false] rfl rfl rfl rfl (by kernel_rfl) (by decide) (by decide) (fun K hK => ?_) (fun K hK => ?_)
       · skip
         refine Kd.R_lit_step k43 _ 43 (by rfl) (N := 31) rfl (xs := []) (inner := []) (ok := fun _ => True) (okp := fun _ => True) ?hr ?hp (fun _ hk => hk) trivial (Below.refl _ _) (Nat.le_refl _) (by simp) ?_
         case hr => first | (go_simp; done) | (go_simp; rfl)
         case hp => exact (Reps.none _ _)
         intro v5 w1 ho_ hb_ hg_ hnew_
         clear hg_ hnew_
         have HXR := zA (Kd.R_lower ho_ HB.out.size)
         replace hHeld := And.intro (blk_below hHeld.1 hb_) (blk_below hHeld.2 hb_)
         replace BC := zA (BC.out.below_ hb_); replace BM := zA (blk_below BM.out hb_); replace BR := zA (BR.out.below_ hb_); replace RR := zA (blk_below RR.out hb_); replace HB := zA (HB.out.trans (FB.of_below hb_))
         replace HX := zA (HX.out.below_ hb_)
         clear ho_ hb_
         refine hK.out _ _ hHeld (fun _ => ?_)
         clear hK K
         refine norm_ (a' := ?_) ?_ ?_
         rotate_left
         · show Act.put _ (some 31) _ = _
           simp only [zP]
           rfl
         refine one_ (i := 7) (N := none) #[true, true, true, true, true, true, true, true, false, false] rfl rfl (by kernel_rfl) (by decide) (fun K hK => ?_)
         refine c_stStep (by rfl) rfl (x := .tmp 4) (y := .tmp 25) (cs := #[.int .u8 Ac, .int .u8 X0, .int .u8 Y0, .int .u8 S0, .int .u16 P0, .bool e0, .bool e1, .bool e2, .bool e3, .bool e4, .bool e5]) rfl rfl rfl HCC.out BR.out ?_
         intro w1 hc_ hk_ hb_
         replace hHeld := And.intro ((hk_ g NE.out.symm).trans hHeld.1) ((hk_ gb (BR.out.ne_of hHeld.2 (by decide))).trans hHeld.2)
         refine hK.out _ _ hHeld (fun _ => ?_)
         clear hK K
         replace BC := zA (BC.out.other NE.out.symm hk_); replace BM := zA ((hk_ _ (BR.out.ne_of BM.out (by decide))).trans BM.out); replace RR := zA ((hk_ _ (BR.out.ne_of RR.out (by decide))).trans RR.out); replace HB := zA (HB.out.set GR.out hk_ hb_); replace HX := zA (HX.out.other (BR.out.choose_spec.1) (by decide) hk_); replace HXR := zA (row_other HXR.out (BR.out.choose_spec.1) (by decide) hk_); replace BR := zA (hc_)
         clear hc_ hk_ hb_
         refine one_ (i := 8) (N := none) #[true, true, true, true, true, true, true, true, true, false] rfl rfl (by kernel_rfl) (by decide) (fun K hK => ?_)
         refine r_stStep (by rfl) rfl (x := .tmp 5) (y := .tmp 30) (v := .slice Am mem.length cm) rfl rfl rfl (by rfl) RR.out ?_
         intro w1 hc_ hk_ hb_
         replace hHeld := And.intro ((hk_ g (BC.out.ne_of RR.out (by decide)).symm).trans hHeld.1) ((hk_ gb (raw_ne hHeld.2 RR.out (by decide))).trans hHeld.2)
         refine hK.out _ _ hHeld (fun _ => ?_)
         clear hK K
         replace BC := zA (BC.out.other (BC.out.ne_of RR.out (by decide)).symm hk_); replace BR := zA (BR.out.other (BR.out.ne_of RR.out (by decide)).symm hk_); replace HB := zA (HB.out.set GQ.out hk_ hb_); replace HX := zA (HX.out.other RR.out (by decide) hk_); replace HXR := zA (row_other HXR.out RR.out (by decide) hk_); replace RR := zA (hc_)
         clear BM hc_ hk_ hb_
         refine pure_ (i := 9) (N := some 6) (v := ?_) (a' := ?_) #[true, true, true, true, true, true, true, true, true, true] rfl rfl (by kernel_rfl) (fun _ _ _ h => h) (Or.inl ⟨by rfl, ?_⟩) ?_ ?_
         rotate_left
         · intro w'
           go_simp
           with_reducible rfl
         rotate_left
         · simp only [zP]
           rfl
         refine done_ (by kernel_rfl) ?_
         clear hHeld
         go_wp2_with (first | ((with_reducible refine gate_ret ?_); refine stepped_row rfl rfl rfl rfl rfl BR.out RR.out HX.out.2.2.1 HXR.out HM.out HMB.out (by simp) ?_ (by simp) (HB.out.below (Nat.le_refl _)); exact Nat.le_of_eq (HLZ.out (by assumption))))
       · skip
         refine c_stStep (by rfl) rfl (x := .tmp 4) (y := .tmp 25) (cs := #[.int .u8 Ac, .int .u8 X0, .int .u8 Y0, .int .u8 S0, .int .u16 P0, .bool e0, .bool e1, .bool e2, .bool e3, .bool e4, .bool e5]) rfl rfl rfl HCC.out BR.out ?_
         intro w1 hc_ hk_ hb_
         replace hHeld := And.intro ((hk_ g NE.out.symm).trans hHeld.1) ((hk_ gb (BR.out.ne_of hHeld.2 (by decide))).trans hHeld.2)
         refine hK.out _ _ hHeld (fun _ => ?_)
         clear hK K
         replace BC := zA (BC.out.other NE.out.symm hk_); replace BM := zA ((hk_ _ (BR.out.ne_of BM.out (by decide))).trans BM.out); replace RR := zA ((hk_ _ (BR.out.ne_of RR.out (by decide))).trans RR.out); replace HB := zA (HB.out.set GR.out hk_ hb_); replace HX := zA (HX.out.other (BR.out.choose_spec.1) (by decide) hk_); replace BR := zA (hc_)
         clear hc_ hk_ hb_
         refine two_ (i := 6) (j := 8) (Ni := some 31) (Nj := none) #[true, true, true, true, true, true, true, true, false, false] #[true, true, true, true, true, true, false, true, true, false] rfl rfl rfl rfl (by kernel_rfl) (by decide) (by decide) (fun K hK => ?_) (fun K hK => ?_)
         · skip
           refine Kd.R_lit_step k43 _ 43 (by rfl) (N := 31) rfl (xs := []) (inner := []) (ok := fun _ => True) (okp := fun _ => True) ?hr ?hp (fun _ hk => hk) trivial (Below.refl _ _) (Nat.le_refl _) (by simp) ?_
           case hr => first | (go_simp; done) | (go_simp; rfl)
           case hp => exact (Reps.none _ _)
           intro v5 w1 ho_ hb_ hg_ hnew_
           clear hg_ hnew_
           have HXR := zA (Kd.R_lower ho_ HB.out.size)
           replace hHeld := And.intro (blk_below hHeld.1 hb_) (blk_below hHeld.2 hb_)
           replace BC := zA (BC.out.below_ hb_); replace BM := zA (blk_below BM.out hb_); replace BR := zA (BR.out.below_ hb_); replace RR := zA (blk_below RR.out hb_); replace HB := zA (HB.out.trans (FB.of_below hb_))
           replace HX := zA (HX.out.below_ hb_)
           clear ho_ hb_
           refine hK.out _ _ hHeld (fun _ => ?_)
           clear hK K
           refine norm_ (a' := ?_) ?_ ?_
           rotate_left
           · show Act.put _ (some 31) _ = _
             simp only [zP]
             rfl
           refine one_ (i := 8) (N := none) #[true, true, true, true, true, true, true, true, true, false] rfl rfl (by kernel_rfl) (by decide) (fun K hK => ?_)
           refine r_stStep (by rfl) rfl (x := .tmp 5) (y := .tmp 30) (v := .slice Am mem.length cm) rfl rfl rfl (by rfl) RR.out ?_
           intro w1 hc_ hk_ hb_
           replace hHeld := And.intro ((hk_ g (BC.out.ne_of RR.out (by decide)).symm).trans hHeld.1) ((hk_ gb (raw_ne hHeld.2 RR.out (by decide))).trans hHeld.2)
           refine hK.out _ _ hHeld (fun _ => ?_)
           clear hK K
           replace BC := zA (BC.out.other (BC.out.ne_of RR.out (by decide)).symm hk_); replace BR := zA (BR.out.other (BR.out.ne_of RR.out (by decide)).symm hk_); replace HB := zA (HB.out.set GQ.out hk_ hb_); replace HX := zA (HX.out.other RR.out (by decide) hk_); replace HXR := zA (row_other HXR.out RR.out (by decide) hk_); replace RR := zA (hc_)
           clear BM hc_ hk_ hb_
           refine pure_ (i := 9) (N := some 6) (v := ?_) (a' := ?_) #[true, true, true, true, true, true, true, true, true, true] rfl rfl (by kernel_rfl) (fun _ _ _ h => h) (Or.inl ⟨by rfl, ?_⟩) ?_ ?_
           rotate_left
           · intro w'
             go_simp
             with_reducible rfl
           rotate_left
           · simp only [zP]
             rfl
           refine done_ (by kernel_rfl) ?_
           clear hHeld
           go_wp2_with (first | ((with_reducible refine gate_ret ?_); refine stepped_row rfl rfl rfl rfl rfl BR.out RR.out HX.out.2.2.1 HXR.out HM.out HMB.out (by simp) ?_ (by simp) (HB.out.below (Nat.le_refl _)); exact Nat.le_of_eq (HLZ.out (by assumption))))
         · skip
           refine r_stStep (by rfl) rfl (x := .tmp 5) (y := .tmp 30) (v := .slice Am mem.length cm) rfl rfl rfl (by rfl) RR.out ?_
           intro w1 hc_ hk_ hb_
           replace hHeld := And.intro ((hk_ g (BC.out.ne_of RR.out (by decide)).symm).trans hHeld.1) ((hk_ gb (raw_ne hHeld.2 RR.out (by decide))).trans hHeld.2)
           refine hK.out _ _ hHeld (fun _ => ?_)
           clear hK K
           replace BC := zA (BC.out.other (BC.out.ne_of RR.out (by decide)).symm hk_); replace BR := zA (BR.out.other (BR.out.ne_of RR.out (by decide)).symm hk_); replace HB := zA (HB.out.set GQ.out hk_ hb_); replace HX := zA (HX.out.other RR.out (by decide) hk_); replace RR := zA (hc_)
           clear BM hc_ hk_ hb_
           refine one_ (i := 6) (N := some 31) #[true, true, true, true, true, true, true, true, true, false] rfl rfl (by kernel_rfl) (by decide) (fun K hK => ?_)
           refine Kd.R_lit_step k43 _ 43 (by rfl) (N := 31) rfl (xs := []) (inner := []) (ok := fun _ => True) (okp := fun _ => True) ?hr ?hp (fun _ hk => hk) trivial (Below.refl _ _) (Nat.le_refl _) (by simp) ?_
           case hr => first | (go_simp; done) | (go_simp; rfl)
           case hp => exact (Reps.none _ _)
           intro v5 w1 ho_ hb_ hg_ hnew_
           clear hg_ hnew_
           have HXR := zA (Kd.R_lower ho_ HB.out.size)
           replace hHeld := And.intro (blk_below hHeld.1 hb_) (blk_below hHeld.2 hb_)
           replace BC := zA (BC.out.below_ hb_); replace BR := zA (BR.out.below_ hb_); replace RR := zA (blk_below RR.out hb_); replace HB := zA (HB.out.trans (FB.of_below hb_))
           replace HX := zA (HX.out.below_ hb_)
           clear ho_ hb_
           refine hK.out _ _ hHeld (fun _ => ?_)
           clear hK K
           refine norm_ (a' := ?_) ?_ ?_
           rotate_left
           · show Act.put _ (some 31) _ = _
             simp only [zP]
             rfl
           refine pure_ (i := 9) (N := some 6) (v := ?_) (a' := ?_) #[true, true, true, true, true, true, true, true, true, true] rfl rfl (by kernel_rfl) (fun _ _ _ h => h) (Or.inl ⟨by rfl, ?_⟩) ?_ ?_
           rotate_left
           · intro w'
             go_simp
             with_reducible rfl
           rotate_left
           · simp only [zP]
             rfl
           refine done_ (by kernel_rfl) ?_
           clear hHeld
           go_wp2_with (first | ((with_reducible refine gate_ret ?_); refine stepped_row rfl rfl rfl rfl rfl BR.out RR.out HX.out.2.2.1 HXR.out HM.out HMB.out (by simp) ?_ (by simp) (HB.out.below (Nat.le_refl _)); exact Nat.le_of_eq (HLZ.out (by assumption)))))
    | ((with_reducible refine gate_region (id := 19) ?_)
       have HU := zA HU.out.open_
       obtain ⟨cs0, hbc, hcc⟩ := BC.out
       have HCC := zA hcc
       obtain ⟨Ac, X0, Y0, S0, P0, e0, e1, e2, e3, e4, e5, rfl, hA0, hX0, hY0, hS0, hP0⟩ := hcc
       obtain ⟨Am, cm, Al, cl, mem, log, hx_, hm_, hmb_, hn_, hlb_⟩ := HU.out
       have HX := zA hx_
       have HM := zA hm_
       have HMB := zA hmb_
       have HLN := zA hn_
       have HLB := zA hlb_
       clear hm_ hmb_ hn_ hlb_ HU
       refine start_k (n := 13) (S := fun w' => w'.heap[g]? = some (.cells #[.int .u8 Ac, .int .u8 X0, .int .u8 Y0, .int .u8 S0, .int .u16 P0, .bool e0, .bool e1, .bool e2, .bool e3, .bool e4, .bool e5] 64 (0, 0)) ∧ w'.heap[gb]? = some (.cells #[.slice Am mem.length cm, .slice Al log.length cl] 112 (0, 0))) (ds := []) #[false, false, false, false, false, false, false, false, false, false, false, false, false] (by kernel_rfl) rfl rfl ⟨hbc, hx_.1⟩ (fun w1 he hs => by rw [he]; exact hs) ?_
       intro w1 hHeld hb_
       replace BC := zA (BC.out.below_ hb_); replace BM := zA (blk_below BM.out hb_); replace BR := zA (BR.out.below_ hb_); replace RR := zA (blk_below RR.out hb_); replace HB := zA (HB.out.trans (FB.of_below hb_))
       replace HX := zA (HX.out.below_ hb_)
       clear hb_ hbc hx_
       refine take_ (i := 0) (N := some 79) (v := ?_) (a' := ?_) #[true, false, false, false, false, false, false, false, false, false, false, false, false] rfl rfl (by kernel_rfl) (fun _ _ _ h => h) (Or.inl ⟨by rfl, ?_⟩) hHeld ?_ ?_
       rotate_left
       · rintro w' ⟨s0, sb⟩
         refine (c_runC (x := .tmp 2) ?_ ?_ s0 HCC.out).trans ?_
         · rfl
         · rfl
         · rfl
       rotate_left
       · simp only [zP]
         rfl
       refine pure_ (i := 1) (N := some 80) (v := ?_) (a' := ?_) #[true, true, false, false, false, false, false, false, false, false, false, false, false] rfl rfl (by kernel_rfl) (fun _ _ _ h => h) (Or.inl ⟨by rfl, ?_⟩) ?_ ?_
       rotate_left
       · intro w'
         go_simp
         with_reducible rfl
       rotate_left
       · simp only [zP]
         rfl
       refine pure_ (i := 2) (N := some 81) (v := ?_) (a' := ?_) #[true, true, true, false, false, false, false, false, false, false, false, false, false] rfl rfl (by kernel_rfl) (fun _ _ _ h => h) (Or.inl ⟨by rfl, ?_⟩) ?_ ?_
       rotate_left
       · intro w'
         go_simp
         with_reducible rfl
       rotate_left
       · simp only [zP]
         rfl
       refine pure_ (i := 3) (N := some 82) (v := ?_) (a' := ?_) #[true, true, true, true, false, false, false, false, false, false, false, false, false] rfl rfl (by kernel_rfl) (fun _ _ _ h => h) (Or.inl ⟨by rfl, ?_⟩) ?_ ?_
       rotate_left
       · intro w'
         go_simp
         with_reducible rfl
       rotate_left
       · simp only [zP]
         rfl
       refine take_ (i := 4) (N := some 83) (v := ?_) (a' := ?_) #[true, true, true, true, true, false, false, false, false, false, false, false, false] rfl rfl (by kernel_rfl) (fun _ _ _ h => h) (Or.inl ⟨by rfl, ?_⟩) hHeld ?_ ?_
       rotate_left
       · rintro w' ⟨s0, sb⟩
         have t0 : w'.cell? ⟨gb, 0, none⟩ = some (.slice Am mem.length cm) := (blk_cell sb 0).trans rfl
         have t1 : w'.cell? ⟨gb, 1, none⟩ = some (.slice Al log.length cl) := (blk_cell sb 1).trans rfl
         go_simp
         with_reducible rfl
       rotate_left
       · simp only [zP]
         rfl
       refine pure_ (i := 5) (N := some 84) (v := ?_) (a' := ?_) #[true, true, true, true, true, true, false, false, false, false, false, false, false] rfl rfl (by kernel_rfl) (fun _ _ _ h => h) (Or.inl ⟨by rfl, ?_⟩) ?_ ?_
       rotate_left
       · intro w'
         go_simp
         with_reducible rfl
       rotate_left
       · simp only [zP]
         rfl
       refine pure_ (i := 6) (N := some 85) (v := ?_) (a' := ?_) #[true, true, true, true, true, true, true, false, false, false, false, false, false] rfl rfl (by kernel_rfl) (fun _ _ _ h => h) (Or.inl ⟨by rfl, ?_⟩) ?_ ?_
       rotate_left
       · intro w'
         go_simp
         with_reducible rfl
       rotate_left
       · simp only [zP]
         rfl
       refine pure_ (i := 7) (N := some 86) (v := ?_) (a' := ?_) #[true, true, true, true, true, true, true, true, false, false, false, false, false] rfl rfl (by kernel_rfl) (fun _ _ _ h => h) (Or.inl ⟨by rfl, ?_⟩) ?_ ?_
       rotate_left
       · intro w'
         go_simp
         with_reducible rfl
       rotate_left
       · simp only [zP]
         rfl
       refine pure_ (i := 8) (N := some 87) (v := ?_) (a' := ?_) #[true, true, true, true, true, true, true, true, true, false, false, false, false] rfl rfl (by kernel_rfl) (fun _ _ _ h => h) (Or.inl ⟨by rfl, ?_⟩) ?_ ?_
       rotate_left
       · intro w'
         go_simp
         with_reducible rfl
       rotate_left
       · simp only [zP]
         rfl
       refine take_ (i := 9) (N := some 88) (v := ?_) (a' := ?_) #[true, true, true, true, true, true, true, true, true, true, false, false, false] rfl rfl (by kernel_rfl) (fun _ _ _ h => h) (Or.inl ⟨by rfl, ?_⟩) hHeld ?_ ?_
       rotate_left
       · rintro w' ⟨s0, sb⟩
         have t0 : w'.cell? ⟨gb, 0, none⟩ = some (.slice Am mem.length cm) := (blk_cell sb 0).trans rfl
         have t1 : w'.cell? ⟨gb, 1, none⟩ = some (.slice Al log.length cl) := (blk_cell sb 1).trans rfl
         go_simp
         with_reducible rfl
       rotate_left
       · simp only [zP]
         rfl
       refine one_ (i := 10) (N := none) #[true, true, true, true, true, true, true, true, true, true, true, false, false] rfl rfl (by kernel_rfl) (by decide) (fun K hK => ?_)
       refine c_stStep (by rfl) rfl (x := .tmp 4) (y := .tmp 79) (cs := #[.int .u8 Ac, .int .u8 X0, .int .u8 Y0, .int .u8 S0, .int .u16 P0, .bool e0, .bool e1, .bool e2, .bool e3, .bool e4, .bool e5]) rfl rfl rfl HCC.out BR.out ?_
       intro w1 hc_ hk_ hb_
       replace hHeld := And.intro ((hk_ g NE.out.symm).trans hHeld.1) ((hk_ gb (BR.out.ne_of hHeld.2 (by decide))).trans hHeld.2)
       refine hK.out _ _ hHeld (fun _ => ?_)
       clear hK K
       replace BC := zA (BC.out.other NE.out.symm hk_); replace BM := zA ((hk_ _ (BR.out.ne_of BM.out (by decide))).trans BM.out); replace RR := zA ((hk_ _ (BR.out.ne_of RR.out (by decide))).trans RR.out); replace HB := zA (HB.out.set GR.out hk_ hb_); replace HX := zA (HX.out.other (BR.out.choose_spec.1) (by decide) hk_); replace BR := zA (hc_)
       clear hc_ hk_ hb_
       refine one_ (i := 11) (N := none) #[true, true, true, true, true, true, true, true, true, true, true, true, false] rfl rfl (by kernel_rfl) (by decide) (fun K hK => ?_)
       refine r_stStep (by rfl) rfl (x := .tmp 5) (y := .tmp 84) (v := .slice Am mem.length cm) rfl rfl rfl (by rfl) RR.out ?_
       intro w1 hc_ hk_ hb_
       replace hHeld := And.intro ((hk_ g (BC.out.ne_of RR.out (by decide)).symm).trans hHeld.1) ((hk_ gb (raw_ne hHeld.2 RR.out (by decide))).trans hHeld.2)
       refine hK.out _ _ hHeld (fun _ => ?_)
       clear hK K
       replace BC := zA (BC.out.other (BC.out.ne_of RR.out (by decide)).symm hk_); replace BR := zA (BR.out.other (BR.out.ne_of RR.out (by decide)).symm hk_); replace HB := zA (HB.out.set GQ.out hk_ hb_); replace HX := zA (HX.out.other RR.out (by decide) hk_); replace RR := zA (hc_)
       clear BM hc_ hk_ hb_
       refine pure_ (i := 12) (N := some 6) (v := ?_) (a' := ?_) #[true, true, true, true, true, true, true, true, true, true, true, true, true] rfl rfl (by kernel_rfl) (fun _ _ _ h => h) (Or.inl ⟨by rfl, ?_⟩) ?_ ?_
       rotate_left
       · intro w'
         go_simp
         with_reducible rfl
       rotate_left
       · simp only [zP]
         rfl
       refine done_ (by kernel_rfl) ?_
       clear hHeld
       go_wp2_with (first | ((with_reducible refine gate_ret ?_); refine stepped_ret rfl rfl rfl rfl rfl BR.out RR.out HX.out HM.out HMB.out HLB.out (by have := HLN.out; have := HLO.out; omega) (by have := HLN.out; omega) (HB.out.below (Nat.le_refl _))))))
end Go.Proofs.YtafkbhnhmhmjcaaGreatDoor.Weak
