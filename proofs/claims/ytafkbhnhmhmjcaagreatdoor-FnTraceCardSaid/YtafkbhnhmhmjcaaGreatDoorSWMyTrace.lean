import Derived.Test.YtafkbhnhmhmjcaaGreatDoorSWMyLoop
section
set_option linter.unusedVariables false
set_option linter.unusedSimpArgs false
namespace Go.Proofs.YtafkbhnhmhmjcaaGreatDoor.Weak
open Go.RowKit Go.Proofs.YtafkbhnhmhmjcaaGreatDoorW.PrintWords Go.Proofs.YtafkbhnhmhmjcaaGreatDoorW.PrintLast Go.Proofs.YtafkbhnhmhmjcaaGreatDoorW.PrintMore Go.Proofs.YtafkbhnhmhmjcaaGreatDoor.PRun Go.Proofs.YtafkbhnhmhmjcaaGreatDoor.DrawRun
set_option maxHeartbeats 8000000 in
set_option maxRecDepth 100000 in
theorem l07Machine.any (w0 w : World) (gc : Nat) (hc : Cur w0 w gc) (hB : Below w0.heap.size w0 w) : Calls Tryz.prog 25 #[.pointer (some ⟨gc, 0, none⟩)] w fun e w1 => Machined w0 w gc e w1 := by
  have HCU := zA hc
  have HB0 := zA hB
  have HW := zA hB.size
  have HK := zA (KeepBut.refl w gc none)
  clear hc hB
  go_enter Tryz.func25, Tryz.ntmps25
  go_wp2_with (first
    | ((with_reducible refine gate_dst (N := 2) rfl ?_); refine c_alloc rfl rfl rfl ?_; intro gr hg_ w1 hc_ hb_; have GR := zA (by rw [← hg_]; exact HK.out.1 : w.heap.size ≤ gr); replace HCU := zA (HCU.out.below_ hb_); replace HB0 := zA (below_step HB0.out hb_); replace HK := zA (keep_below_ HK.out hb_); have BR := zA hc_; clear hb_ hc_ hg_)
    | ((with_reducible refine gate_dst (N := 3) rfl ?_); refine box_event ?hg (N := 3) ?hd (cs := #[.slice none 0 0]) (t := 66) ?hr ?_; (case hd => rfl); (case hg => rfl); (case hr => first | (go_simp; done) | (go_simp; rfl)); intro g5 hg_ w1 hc_ hb_; have G5 := zA (by rw [hg_]; exact HK.out.1 : w.heap.size ≤ g5); replace BR := zA (BR.out.below_ hb_); replace HCU := zA (HCU.out.below_ hb_); replace HB0 := zA (below_step HB0.out hb_); replace HK := zA (keep_below_ HK.out hb_); have RR := zA hc_; clear hb_ hc_ hg_)
    | (go_at_call 37; refine (l05Ram.cur w0 _ gc HCU.out HB0.out).mono ?_; rintro e w1 ⟨v_, mem, rfl, hm_, hcu_, hb0_, hk_⟩; have HMM := zA hm_.2; have HM := zA (Kd.R_lower hm_.1 HK.out.1); clear hm_; replace RR := zA (raw_keep RR.out HCU.out (by decide) hk_); replace BR := zA (BR.out.keep HCU.out hk_); replace HCU := zA (hcu_); replace HB0 := zA (hb0_); replace HK := zA (KeepBut.trans HK.out hk_ (.inl rfl)); obtain ⟨Am, cm, rfl⟩ := Kd.R_slice HM.out; clear hcu_ hb0_ hk_)
    | ((with_reducible refine gate_dst (N := 4) rfl ?_); refine box_event ?hg (N := 4) ?hd (cs := #[.slice none 0 0]) (t := 66) ?hr ?_; (case hd => rfl); (case hg => rfl); (case hr => first | (go_simp; done) | (go_simp; rfl)); intro g4 hg_ w1 hc_ hb_; have G4 := zA (by rw [hg_]; exact HK.out.1 : w.heap.size ≤ g4); have NM5 := zA (by have := blk_lt RR.out; omega : g5 ≠ g4); replace RR := zA (blk_below RR.out hb_); replace BR := zA (BR.out.below_ hb_); replace HM := zA (Kd.R_below HM.out hb_); replace HCU := zA (HCU.out.below_ hb_); replace HB0 := zA (below_step HB0.out hb_); replace HK := zA (keep_below_ HK.out hb_); have BM := zA hc_; clear hb_ hc_ hg_)
    | (go_at_call 38; refine (l05Cpu.cur w0 _ gc HCU.out HB0.out).mono ?_; rintro e w1 ⟨ds_, rfl, hds_, hcu_, hb0_, hk_⟩; replace RR := zA (raw_keep RR.out HCU.out (by decide) hk_); replace BM := zA (raw_keep BM.out HCU.out (by decide) hk_); replace BR := zA (BR.out.keep HCU.out hk_); replace HM := zA (R_keep HM.out HCU.out (by decide) hk_); replace HCU := zA (hcu_); replace HB0 := zA (hb0_); replace HK := zA (KeepBut.trans HK.out hk_ (.inl rfl)); clear hcu_ hb0_ hk_)
    | ((with_reducible refine gate_dst (N := 5) rfl ?_); refine c_alloc rfl rfl rfl ?_; intro g hg_ w1 hc_ hb_; have GC := zA (by rw [← hg_]; exact HK.out.1 : w.heap.size ≤ g); have NCR := zA (by have := BR.out.lt; omega : gr ≠ g); replace RR := zA (blk_below RR.out hb_); replace BM := zA (blk_below BM.out hb_); replace BR := zA (BR.out.below_ hb_); replace HM := zA (Kd.R_below HM.out hb_); replace HCU := zA (HCU.out.below_ hb_); replace HB0 := zA (below_step HB0.out hb_); replace HK := zA (keep_below_ HK.out hb_); have BC := zA hc_; clear hb_ hc_ hg_)
    | ((with_reducible refine gate_st (t := 41) rfl ?_); first | (refine c_stp rfl rfl rfl rfl (by first | assumption | exact RP_mod _ | exact RP_wrap _ | (unfold RP; omega)) BC.out ?_; intro w1 hc_ hk_ hb_; replace RR := zA ((hk_ _ (BC.out.ne_of RR.out (by decide))).trans RR.out); replace BM := zA ((hk_ _ (BC.out.ne_of BM.out (by decide))).trans BM.out); replace BR := zA (BR.out.other NCR.out hk_); replace HM := zA (R_other HM.out (BC.out.choose_spec.1) (by decide) hk_); replace HCU := zA (HCU.out.other (HCU.out.ne (BC.out.choose_spec.1) (by decide)) hk_); replace BC := zA (hc_); replace HB0 := zA (hb_ _ _ (Nat.le_trans HW.out GC.out) HB0.out); replace HK := zA (keep_own_ HK.out GC.out (hb_ 0 _ (Nat.zero_le _) (Below.refl _ _)) hk_); clear hc_ hk_ hb_))
    | ((with_reducible refine gate_st (t := 64) rfl ?_); first | (refine c_stC rfl rfl rfl rfl (by assumption) BC.out ?_; intro w1 hc_ hk_ hb_; replace RR := zA ((hk_ _ (BC.out.ne_of RR.out (by decide))).trans RR.out); replace BM := zA ((hk_ _ (BC.out.ne_of BM.out (by decide))).trans BM.out); replace BR := zA (BR.out.other NCR.out hk_); replace HM := zA (R_other HM.out (BC.out.choose_spec.1) (by decide) hk_); replace HCU := zA (HCU.out.other (HCU.out.ne (BC.out.choose_spec.1) (by decide)) hk_); replace BC := zA (hc_); replace HB0 := zA (hb_ _ _ (Nat.le_trans HW.out GC.out) HB0.out); replace HK := zA (keep_own_ HK.out GC.out (hb_ 0 _ (Nat.zero_le _) (Below.refl _ _)) hk_); clear hc_ hk_ hb_))
    | (go_at_call 13; refine (l01Below.cur w0 _ gc 200 HCU.out HB0.out).mono ?_; rintro e w1 ⟨x_, rfl, hx_, hcu_, hb0_, hk_⟩; replace RR := zA (raw_keep RR.out HCU.out (by decide) hk_); replace BM := zA (raw_keep BM.out HCU.out (by decide) hk_); replace BR := zA (BR.out.keep HCU.out hk_); replace BC := zA (BC.out.keep HCU.out hk_); replace HM := zA (R_keep HM.out HCU.out (by decide) hk_); replace HCU := zA (hcu_); replace HB0 := zA (hb0_); replace HK := zA (KeepBut.trans HK.out hk_ (.inl rfl)); clear hcu_ hb0_ hk_)
    | ((with_reducible refine gate_dst (N := 15) rfl ?_); refine lit5_ w.heap.size rfl (N := 15) rfl HK.out.1 ?hr ?_; (case hr => exact ⟨_, _, _, _, _, by first | (go_simp; done) | (go_simp; rfl)⟩); intro v1 w1 xs_ ho_ hbt_ hb_; have HP := zA ho_; have HPB := zA hbt_; replace RR := zA (blk_below RR.out hb_); replace BM := zA (blk_below BM.out hb_); replace BR := zA (BR.out.below_ hb_); replace BC := zA (BC.out.below_ hb_); replace HM := zA (Kd.R_below HM.out hb_); replace HCU := zA (HCU.out.below_ hb_); replace HB0 := zA (below_step HB0.out hb_); replace HK := zA (keep_below_ HK.out hb_); clear ho_ hbt_ hb_)
    | (go_at_call 28; refine (l01PickInt.cur w0 _ gc _ HPB.out HP.out HCU.out HB0.out).mono ?_; rintro e w1 ⟨y_, rfl, hy_, hcu_, hb0_, hk_⟩; clear hy_; replace RR := zA (raw_keep RR.out HCU.out (by decide) hk_); replace BM := zA (raw_keep BM.out HCU.out (by decide) hk_); replace BR := zA (BR.out.keep HCU.out hk_); replace BC := zA (BC.out.keep HCU.out hk_); replace HM := zA (R_keep HM.out HCU.out (by decide) hk_); replace HCU := zA (hcu_); replace HB0 := zA (hb0_); replace HK := zA (KeepBut.trans HK.out hk_ (.inl rfl)); clear HP HPB hcu_ hb0_ hk_)
    | ((with_reducible refine gate_load (t := 41) rfl ?_); first | (refine c_ldp rfl rfl rfl BC.out ?_; intro _ _))
    | ((with_reducible refine gate_load (t := 66) rfl ?_); first | (refine wpList_plain rfl fun _ hK_ => wp_load_row 66 _ rfl g4 rfl 66 _ (0, 0) _ BM.out Tryz.underlying66 rfl (by kernel_rfl) (hK_ _ _ ?_); clear hK_))
    | (go_at_call 39; have q_ := HL.out; clear q_; refine (l07Loop.cur w0 _ gc HCU.out HB0.out).mono ?_; rintro e w1 ⟨v2, b2, rfl, hl_, hcu_, hb0_, hk_⟩; have HLB2 := zA hl_.2; have q_ := zA (Kd.R_lower hl_.1 HK.out.1); clear hl_; replace RR := zA (raw_keep RR.out HCU.out (by decide) hk_); replace BM := zA (raw_keep BM.out HCU.out (by decide) hk_); replace BR := zA (BR.out.keep HCU.out hk_); replace BC := zA (BC.out.keep HCU.out hk_); replace HM := zA (R_keep HM.out HCU.out (by decide) hk_); replace HL := zA (R_keep HL.out HCU.out (by decide) hk_); replace HCU := zA (hcu_); replace HB0 := zA (hb0_); replace HK := zA (KeepBut.trans HK.out hk_ (.inl rfl)); clear hcu_ hb0_ hk_; have HL2 := q_; clear q_)
    | (go_at_call 39; refine (l07Loop.cur w0 _ gc HCU.out HB0.out).mono ?_; rintro e w1 ⟨vl, bl, rfl, hl_, hcu_, hb0_, hk_⟩; have HLB := zA hl_.2; have HAP := zA (apart_new HM.out hl_.1); have q_ := zA (Kd.R_lower hl_.1 HK.out.1); clear hl_; replace RR := zA (raw_keep RR.out HCU.out (by decide) hk_); replace BM := zA (raw_keep BM.out HCU.out (by decide) hk_); replace BR := zA (BR.out.keep HCU.out hk_); replace BC := zA (BC.out.keep HCU.out hk_); replace HM := zA (R_keep HM.out HCU.out (by decide) hk_); replace HCU := zA (hcu_); replace HB0 := zA (hb0_); replace HK := zA (KeepBut.trans HK.out hk_ (.inl rfl)); clear hcu_ hb0_ hk_; have HL := q_; clear q_)
    | ((with_reducible refine gate_builtin (b := .append) (xs := #[.tmp 21, .tmp 23]) rfl ?_); at_builtin; obtain ⟨A2, c2, rfl⟩ := Kd.R_slice HL2.out; refine Kd.R_append_rows (Kd.int .u8) (w0 := w1) w.heap.size rfl (.tmp 21) (.tmp 23) 22 5 (.int .u8 0) 1 rfl Tryz.underlying22 info5 rfl (by decide) (by omega) vl bl b2 _ _ _ (fun _ => True) (fun _ => False) rfl rfl ?aO ?aR (fun _ _ h => h) (fun _ h => h.elim) ?aF ?aB ?aS ?aL ?_; (case aR => exact (Kd.R_reads' HL2.out).2.2); (case aB => exact Below.refl _ _); (case aF => exact (fun _ _ => trivial)); (case aO => exact HL.out); (case aS => exact HK.out.1); (case aL => have h1_ := HLB.out.1; have h2_ := HLB2.out.1; (try simp only [List.length_cons, List.length_nil] at h2_ ⊢); omega); intro vl w1 ho_ hb_ hg_ hat_; have HLn_ := zA (HLB.out.append HLB2.out); have n0_ := zA (raw_grown RR.out hg_ HL.out (by decide)); have n1_ := zA (raw_grown BM.out hg_ HL.out (by decide)); have n2_ := zA (BR.out.grown hg_ HL.out (by decide)); have n3_ := zA (BC.out.grown hg_ HL.out (by decide)); have n4_ := zA (R_int_grown HM.out hg_ HAP.out); have n5_ := zA (ho_); have n6_ := zA (apart_step HM.out HAP.out hat_); have n7_ := zA (HCU.out.grown HL.out (by decide) hg_); have n8_ := zA (below_low HB0.out HW.out hb_); have n9_ := zA (keep_low_ HK.out hb_); clear RR BM BR BC HM HL HAP HCU HB0 HK; have RR := n0_; have BM := n1_; have BR := n2_; have BC := n3_; have HM := n4_; have HL := n5_; have HAP := n6_; have HCU := n7_; have HB0 := n8_; have HK := n9_; clear n0_ n1_ n2_ n3_ n4_ n5_ n6_ n7_ n8_ n9_ HLB HL2 HLB2 ho_ hb_ hg_ hat_; have HLB := HLn_; clear HLn_; obtain ⟨bl, q1_, q2_⟩ := (⟨_, HL.out, HLB.out⟩ : ∃ b_ : List Int, Kd.R (Kd.int .u8) 5 w1 w.heap.size (fun _ => True) vl b_ ∧ Bts _ b_); clear HL HLB; have HL := zA q1_; have HLB := zA q2_; clear q1_ q2_)
    | (go_at_call 12; refine (l01Once.cur w0 _ gc 2 HCU.out HB0.out).mono ?_; rintro e w1 ⟨x_, rfl, hcu_, hb0_, hk_⟩; replace RR := zA (raw_keep RR.out HCU.out (by decide) hk_); replace BM := zA (raw_keep BM.out HCU.out (by decide) hk_); replace BR := zA (BR.out.keep HCU.out hk_); replace BC := zA (BC.out.keep HCU.out hk_); replace HM := zA (R_keep HM.out HCU.out (by decide) hk_); replace HL := zA (R_keep HL.out HCU.out (by decide) hk_); replace HCU := zA (hcu_); replace HB0 := zA (hb0_); replace HK := zA (KeepBut.trans HK.out hk_ (.inl rfl)); clear hcu_ hb0_ hk_)
    | ((with_reducible refine gate_dst (N := 36) rfl ?_); refine lit3_ w.heap.size rfl (N := 36) rfl HK.out.1 ?hr ?_; (case hr => exact ⟨_, _, _, by first | (go_simp; done) | (go_simp; rfl), (by first | assumption | exact RB_mod _ | exact RB_bits _ _ _ | exact RB_wrap _ | (unfold RB; omega)), (by first | assumption | exact RB_mod _ | exact RB_bits _ _ _ | exact RB_wrap _ | (unfold RB; omega)), (by first | assumption | exact RB_mod _ | exact RB_bits _ _ _ | exact RB_wrap _ | (unfold RB; omega))⟩); intro v1 w1 xs_ ho_ hbt_ hb_; have HT3 := zA ho_; have HT3B := zA hbt_; replace RR := zA (blk_below RR.out hb_); replace BM := zA (blk_below BM.out hb_); replace BR := zA (BR.out.below_ hb_); replace BC := zA (BC.out.below_ hb_); replace HM := zA (Kd.R_below HM.out hb_); replace HL := zA (Kd.R_below HL.out hb_); replace HCU := zA (HCU.out.below_ hb_); replace HB0 := zA (below_step HB0.out hb_); replace HK := zA (keep_below_ HK.out hb_); clear ho_ hbt_ hb_)
    | ((with_reducible refine gate_builtin (b := .append) (xs := #[.tmp 27, .tmp 36]) rfl ?_); at_builtin; obtain ⟨A2, c2, rfl⟩ := Kd.R_slice HT3.out; refine Kd.R_append_rows (Kd.int .u8) (w0 := w1) w.heap.size rfl (.tmp 27) (.tmp 36) 22 5 (.int .u8 0) 1 rfl Tryz.underlying22 info5 rfl (by decide) (by omega) vl bl xs_ _ _ _ (fun _ => True) (fun _ => False) rfl rfl ?aO ?aR (fun _ _ h => h) (fun _ h => h.elim) ?aF ?aB ?aS ?aL ?_; (case aR => exact (Kd.R_reads' HT3.out).2.2); (case aB => exact Below.refl _ _); (case aF => exact (fun _ _ => trivial)); (case aO => exact HL.out); (case aS => exact HK.out.1); (case aL => have h1_ := HLB.out.1; have h2_ := HT3B.out.1; (try simp only [List.length_cons, List.length_nil] at h2_ ⊢); omega); intro vl w1 ho_ hb_ hg_ hat_; have HLn_ := zA (HLB.out.append HT3B.out); have n0_ := zA (raw_grown RR.out hg_ HL.out (by decide)); have n1_ := zA (raw_grown BM.out hg_ HL.out (by decide)); have n2_ := zA (BR.out.grown hg_ HL.out (by decide)); have n3_ := zA (BC.out.grown hg_ HL.out (by decide)); have n4_ := zA (R_int_grown HM.out hg_ HAP.out); have n5_ := zA (ho_); have n6_ := zA (apart_step HM.out HAP.out hat_); have n7_ := zA (HCU.out.grown HL.out (by decide) hg_); have n8_ := zA (below_low HB0.out HW.out hb_); have n9_ := zA (keep_low_ HK.out hb_); clear RR BM BR BC HM HL HAP HCU HB0 HK; have RR := n0_; have BM := n1_; have BR := n2_; have BC := n3_; have HM := n4_; have HL := n5_; have HAP := n6_; have HCU := n7_; have HB0 := n8_; have HK := n9_; clear n0_ n1_ n2_ n3_ n4_ n5_ n6_ n7_ n8_ n9_ HLB HT3 HT3B ho_ hb_ hg_ hat_; have HLB := HLn_; clear HLn_; obtain ⟨bl, q1_, q2_⟩ := (⟨_, HL.out, HLB.out⟩ : ∃ b_ : List Int, Kd.R (Kd.int .u8) 5 w1 w.heap.size (fun _ => True) vl b_ ∧ Bts _ b_); clear HL HLB; have HL := zA q1_; have HLB := zA q2_; clear q1_ q2_)
    | (go_at_call 40; have q_ := HT6.out; clear q_; refine (Fill.any _ mem _ _ HM.out HMM.out.1 HMM.out.2 (by first | assumption | exact RP_mod _ | exact RP_wrap _ | (unfold RP; omega)) HT6.out (HT6B.out.up (by decide))).mono ?_; rintro e w1 ⟨vm, mem, rfl, hm_, hb_⟩; have HMM := zA hm_.2; have q_ := zA (Kd.R_lower hm_.1 HK.out.1); clear hm_; replace RR := zA (blk_below RR.out hb_); replace BM := zA (blk_below BM.out hb_); replace BR := zA (BR.out.below_ hb_); replace BC := zA (BC.out.below_ hb_); replace HL := zA (Kd.R_below HL.out hb_); replace HCU := zA (HCU.out.below_ hb_); replace HB0 := zA (below_step HB0.out hb_); replace HK := zA (keep_below_ HK.out hb_); clear HM hb_; have HM := q_; clear q_; obtain ⟨Am, cm, rfl⟩ := Kd.R_slice HM.out)
    | (go_at_call 40; refine (Fill.any _ mem _ _ HM.out HMM.out.1 HMM.out.2 (by first | assumption | exact RP_mod _ | exact RP_wrap _ | (unfold RP; omega)) HL.out (HLB.out.up (by decide))).mono ?_; rintro e w1 ⟨vm, mem, rfl, hm_, hb_⟩; have HMM := zA hm_.2; have q_ := zA (Kd.R_lower hm_.1 HK.out.1); clear hm_; replace RR := zA (blk_below RR.out hb_); replace BM := zA (blk_below BM.out hb_); replace BR := zA (BR.out.below_ hb_); replace BC := zA (BC.out.below_ hb_); replace HL := zA (Kd.R_below HL.out hb_); replace HCU := zA (HCU.out.below_ hb_); replace HB0 := zA (below_step HB0.out hb_); replace HK := zA (keep_below_ HK.out hb_); clear HM hb_; have HM := q_; clear q_; obtain ⟨Am, cm, rfl⟩ := Kd.R_slice HM.out)
    | ((with_reducible refine gate_dst (N := 68) rfl ?_); refine lit6_ w.heap.size rfl (N := 68) rfl HK.out.1 ?hr ?_; (case hr => exact ⟨_, _, _, _, _, _, by first | (go_simp; done) | (go_simp; rfl), (by first | assumption | exact RB_mod _ | exact RB_bits _ _ _ | exact RB_wrap _ | (unfold RB; omega)), (by first | assumption | exact RB_mod _ | exact RB_bits _ _ _ | exact RB_wrap _ | (unfold RB; omega)), (by first | assumption | exact RB_mod _ | exact RB_bits _ _ _ | exact RB_wrap _ | (unfold RB; omega)), (by first | assumption | exact RB_mod _ | exact RB_bits _ _ _ | exact RB_wrap _ | (unfold RB; omega)), (by first | assumption | exact RB_mod _ | exact RB_bits _ _ _ | exact RB_wrap _ | (unfold RB; omega)), (by first | assumption | exact RB_mod _ | exact RB_bits _ _ _ | exact RB_wrap _ | (unfold RB; omega))⟩); intro v1 w1 xs_ ho_ hbt_ hb_; have HT6 := zA ho_; have HT6B := zA hbt_; replace RR := zA (blk_below RR.out hb_); replace BM := zA (blk_below BM.out hb_); replace BR := zA (BR.out.below_ hb_); replace BC := zA (BC.out.below_ hb_); replace HM := zA (Kd.R_below HM.out hb_); replace HL := zA (Kd.R_below HL.out hb_); replace HCU := zA (HCU.out.below_ hb_); replace HB0 := zA (below_step HB0.out hb_); replace HK := zA (keep_below_ HK.out hb_); clear ho_ hbt_ hb_)
    | ((with_reducible refine gate_st (t := 66) rfl ?_); first | (have q_ := HL.out; clear q_; refine r_stEv rfl rfl rfl rfl (by rfl) BM.out ?_; intro w1 hc_ hk_ hb_; replace RR := zA ((hk_ _ NM5.out).trans RR.out); replace BR := zA (BR.out.other (BR.out.ne_of BM.out (by decide)).symm hk_); replace BC := zA (BC.out.other (BC.out.ne_of BM.out (by decide)).symm hk_); replace HM := zA (R_other HM.out (BM.out) (by decide) hk_); replace HL := zA (R_other HL.out (BM.out) (by decide) hk_); replace HCU := zA (HCU.out.other (HCU.out.ne (BM.out) (by decide)) hk_); replace BM := zA (hc_); replace HB0 := zA (hb_ _ _ (Nat.le_trans HW.out G4.out) HB0.out); replace HK := zA (keep_own_ HK.out G4.out (hb_ 0 _ (Nat.zero_le _) (Below.refl _ _)) hk_); clear hc_ hk_ hb_) | (refine r_stEv rfl rfl rfl rfl (by rfl) BM.out ?_; intro w1 hc_ hk_ hb_; replace RR := zA ((hk_ _ NM5.out).trans RR.out); replace BR := zA (BR.out.other (BR.out.ne_of BM.out (by decide)).symm hk_); replace HM := zA (R_other HM.out (BM.out) (by decide) hk_); replace HCU := zA (HCU.out.other (HCU.out.ne (BM.out) (by decide)) hk_); replace BM := zA (hc_); replace HB0 := zA (hb_ _ _ (Nat.le_trans HW.out G4.out) HB0.out); replace HK := zA (keep_own_ HK.out G4.out (hb_ 0 _ (Nat.zero_le _) (Below.refl _ _)) hk_); clear hc_ hk_ hb_))
    | ((with_reducible refine gate_region (id := 10) ?_)
       obtain ⟨cs0, hbc, hcc⟩ := BC.out
       have HCC := zA hcc
       obtain ⟨Ac, X0, Y0, S0, P0, e0, e1, e2, e3, e4, e5, rfl, hA0, hX0, hY0, hS0, hP0⟩ := hcc
       refine start_k (n := 4) (S := fun w' => w'.heap[g]? = some (.cells #[.int .u8 Ac, .int .u8 X0, .int .u8 Y0, .int .u8 S0, .int .u16 P0, .bool e0, .bool e1, .bool e2, .bool e3, .bool e4, .bool e5] 64 (0, 0)) ∧ w'.heap[g4]? = some (.cells #[.slice Am mem.length cm] 66 (0, 0))) (ds := []) #[false, false, false, false] (by kernel_rfl) rfl rfl ⟨hbc, BM.out⟩ (fun w1 he hs => by rw [he]; exact hs) ?_
       intro w1 hHeld hb_
       replace RR := zA (blk_below RR.out hb_); replace BM := zA (blk_below BM.out hb_); replace BR := zA (BR.out.below_ hb_); replace BC := zA (BC.out.below_ hb_); replace HM := zA (Kd.R_below HM.out hb_); replace HCU := zA (HCU.out.below_ hb_); replace HB0 := zA (below_step HB0.out hb_); replace HK := zA (keep_below_ HK.out hb_)
       clear hb_ hbc
       refine take_ (i := 0) (N := some 70) (v := ?_) (a' := ?_) #[true, false, false, false] rfl rfl (by kernel_rfl) (fun _ _ _ h => h) (Or.inl ⟨by rfl, ?_⟩) hHeld ?_ ?_
       rotate_left
       · rintro w' ⟨s0, sb⟩
         refine (c_runC (x := .tmp 5) ?_ ?_ s0 HCC.out).trans ?_
         · rfl
         · rfl
         · rfl
       rotate_left
       · simp only [zP]
         rfl
       refine take_ (i := 1) (N := some 71) (v := ?_) (a' := ?_) #[true, true, false, false] rfl rfl (by kernel_rfl) (fun _ _ _ h => h) (Or.inl ⟨by rfl, ?_⟩) hHeld ?_ ?_
       rotate_left
       · rintro w' ⟨s0, sb⟩
         have t0 : w'.cell? ⟨g4, 0, none⟩ = some (.slice Am mem.length cm) := (blk_cell sb 0).trans rfl
         go_simp
         with_reducible rfl
       rotate_left
       · simp only [zP]
         rfl
       refine one_ (i := 2) (N := none) #[true, true, true, false] rfl rfl (by kernel_rfl) (by decide) (fun K hK => ?_)
       refine c_stStep (by rfl) rfl (x := .tmp 2) (y := .tmp 70) (cs := #[.int .u8 Ac, .int .u8 X0, .int .u8 Y0, .int .u8 S0, .int .u16 P0, .bool e0, .bool e1, .bool e2, .bool e3, .bool e4, .bool e5]) rfl rfl rfl HCC.out BR.out ?_
       intro w1 hc_ hk_ hb_
       replace hHeld := And.intro ((hk_ g NCR.out.symm).trans hHeld.1) ((hk_ g4 (BR.out.ne_of BM.out (by decide))).trans hHeld.2)
       refine hK.out _ _ hHeld (fun _ => ?_)
       clear hK K
       replace RR := zA ((hk_ _ (BR.out.ne_of RR.out (by decide))).trans RR.out); replace BM := zA ((hk_ _ (BR.out.ne_of BM.out (by decide))).trans BM.out); replace BC := zA (BC.out.other NCR.out.symm hk_); replace HM := zA (R_other HM.out (BR.out.choose_spec.1) (by decide) hk_); replace HCU := zA (HCU.out.other (HCU.out.ne (BR.out.choose_spec.1) (by decide)) hk_); replace BR := zA (hc_); replace HB0 := zA (hb_ _ _ (Nat.le_trans HW.out GR.out) HB0.out); replace HK := zA (keep_own_ HK.out GR.out (hb_ 0 _ (Nat.zero_le _) (Below.refl _ _)) hk_)
       clear hc_ hk_ hb_
       refine one_ (i := 3) (N := none) #[true, true, true, true] rfl rfl (by kernel_rfl) (by decide) (fun K hK => ?_)
       refine r_stStep (by rfl) rfl (x := .tmp 3) (y := .tmp 71) (v := .slice Am mem.length cm) rfl rfl rfl (by rfl) RR.out ?_
       intro w1 hc_ hk_ hb_
       replace hHeld := And.intro ((hk_ g (BC.out.ne_of RR.out (by decide)).symm).trans hHeld.1) ((hk_ g4 NM5.out.symm).trans hHeld.2)
       refine hK.out _ _ hHeld (fun _ => ?_)
       clear hK K
       replace BM := zA ((hk_ _ NM5.out.symm).trans BM.out); replace BR := zA (BR.out.other (BR.out.ne_of RR.out (by decide)).symm hk_); replace BC := zA (BC.out.other (BC.out.ne_of RR.out (by decide)).symm hk_); replace HM := zA (R_other HM.out (RR.out) (by decide) hk_); replace HCU := zA (HCU.out.other (HCU.out.ne (RR.out) (by decide)) hk_); replace RR := zA (hc_); replace HB0 := zA (hb_ _ _ (Nat.le_trans HW.out G5.out) HB0.out); replace HK := zA (keep_own_ HK.out G5.out (hb_ 0 _ (Nat.zero_le _) (Below.refl _ _)) hk_)
       clear hc_ hk_ hb_
       refine done_ (by kernel_rfl) ?_
       clear hHeld
       go_wp2_with (first | ((with_reducible refine gate_ret ?_); refine machined_ret rfl rfl rfl rfl BR.out RR.out HM.out HMM.out.1 HMM.out.2 ⟨HCU.out, HB0.out, HK.out⟩))))
end Go.Proofs.YtafkbhnhmhmjcaaGreatDoor.Weak
end
section
set_option linter.unusedVariables false
set_option linter.unusedSimpArgs false
namespace Go.Proofs.YtafkbhnhmhmjcaaGreatDoor.Weak
open Go.RowKit Go.Proofs.YtafkbhnhmhmjcaaGreatDoorW.PrintWords Go.Proofs.YtafkbhnhmhmjcaaGreatDoorW.PrintLast Go.Proofs.YtafkbhnhmhmjcaaGreatDoorW.PrintMore Go.Proofs.YtafkbhnhmhmjcaaGreatDoor.PRun
def cycCells (x : S43) : List Value := [.int .u16 x.f0, .int .u8 x.f1, .bool x.f2]
theorem set_part {α : Type} (l : List α) (i j f : Nat) (v : α) (hf : f < 3) (hne : i ≠ j) : ((l.set (i * 3 + f) v).drop (j * 3)).take 3 = (l.drop (j * 3)).take 3 := by
  apply List.ext_getElem?
  intro q
  by_cases hq : q < 3
  · rw [List.getElem?_take_of_lt hq, List.getElem?_take_of_lt hq, List.getElem?_drop, List.getElem?_drop, List.getElem?_set_ne (by omega)]
  · rw [List.getElem?_eq_none (by rw [List.length_take]; omega), List.getElem?_eq_none (by rw [List.length_take]; omega)]
theorem set_same {α : Type} (l : List α) (i f : Nat) (v : α) (hf : f < 3) (hl : i * 3 + 3 ≤ l.length) : ((l.set (i * 3 + f) v).drop (i * 3)).take 3 = ((l.drop (i * 3)).take 3).set f v := by
  apply List.ext_getElem?
  intro q
  by_cases hq : q < 3
  · rw [List.getElem?_take_of_lt hq, List.getElem?_drop]
    by_cases e : f = q
    · subst e
      rw [List.getElem?_set_self (by omega), List.getElem?_set_self (by simp; omega)]
    · rw [List.getElem?_set_ne (by omega), List.getElem?_set_ne e, List.getElem?_take_of_lt hq, List.getElem?_drop]
  · rw [List.getElem?_eq_none (by rw [List.length_take]; omega), List.getElem?_eq_none (by rw [List.length_set, List.length_take]; omega)]
theorem cyc_put {w : World} {B g n cap : Nat} {xs : List S43} (h : Kd.R k43 43 w B (fun _ => True) (.slice (some ⟨g, 0, none⟩) n cap) xs) (i : Nat) (hi : i < n) (f : Nat) (hf : f < 3) (v : Value) (x : S43) (hx : cycCells x = (cycCells (xs.getD i z43)).set f v) :
    Kd.R k43 43 (w.setCell ⟨g, i * 3 + f, none⟩ v) B (fun _ => True) (.slice (some ⟨g, 0, none⟩) n cap) (xs.set i x) := by
  obtain ⟨hn, _⟩ := Kd.R_reads' h
  obtain ⟨h0, inner, ho, hl, hr⟩ := h
  subst hn
  refine ⟨fun _ _ => trivial, inner.set (i * 3 + f) v, ?_, ?_, fun j p hj => ?_⟩
  · rw [List.length_set]; exact (ho.stored (i * 3 + f) v).1
  · rw [List.length_set, List.length_set]; exact hl
  · have hl3 : inner.length = xs.length * 3 := hl
    by_cases e : i = j
    · subst e
      rw [List.getElem?_set_self hi] at hj
      obtain rfl := Option.some.inj hj
      have h1 := k43_openM (hr i _ (List.getElem?_eq_getElem hi))
      have h2 : ((inner.drop (i * 3)).take 3) = cycCells (xs.getD i z43) := by
        rw [List.getD_eq_getElem?_getD, List.getElem?_eq_getElem hi]; exact h1
      show k43.M _ _ _ _ (((inner.set (i * 3 + f) v).drop (i * 3)).take 3)
      rw [set_same _ _ _ _ hf (by omega), h2, ← hx]
      exact k43_mkM _ _ _ _
    · rw [List.getElem?_set_ne e] at hj
      have h1 := hr j p hj
      have h2 := k43_openM h1
      show k43.M _ _ _ _ (((inner.set (i * 3 + f) v).drop (j * 3)).take 3)
      rw [set_part _ _ _ _ _ hf e]
      show k43.M _ _ _ _ ((inner.drop (j * k43.sz)).take k43.sz)
      rw [h2]
      exact k43_mkM _ _ _ _
theorem set_cb {xs : List S43} (h : ∀ c, c ∈ xs → CB c) (i : Nat) {x : S43} (hx : CB x) : ∀ c, c ∈ xs.set i x → CB c := fun c hc => (List.mem_or_eq_of_mem_set hc).elim (h c) (fun e => e ▸ hx)
theorem get_cb {xs : List S43} (h : ∀ c, c ∈ xs → CB c) (i : Nat) (hi : i < xs.length) : CB (xs.getD i z43) := by
  rw [List.getD_eq_getElem?_getD, List.getElem?_eq_getElem hi]
  exact h _ (List.getElem_mem _)
theorem cyc_cell {w : World} {B g n cap : Nat} {xs : List S43} (h : Kd.R k43 43 w B (fun _ => True) (.slice (some ⟨g, 0, none⟩) n cap) xs) (i : Nat) (hi : i < n) (f : Nat) (hf : f < 3) : w.cell? ⟨g, i * 3 + f, none⟩ = (cycCells (xs.getD i z43))[f]? := by
  obtain ⟨hn, hc, hr⟩ := Kd.R_reads' h
  obtain ⟨ad, c, e, hl, hK, hcell⟩ : ∃ ad c, some (⟨g, 0, none⟩ : Addr) = some ad ∧ c.length = 3 ∧ k43.K w (xs.getD i z43) c ∧ ∀ j u, c[j]? = some u → w.cell? (ad.add (i * 3 + j)) = some u := by
    have h1 := Kd.C_get hr z43 (i : Int) (by omega) (by omega)
    rw [Int.toNat_natCast] at h1
    exact h1
  obtain rfl := k43_open hK
  cases e
  have h2 := hcell f _ (List.getElem?_eq_getElem (show f < 3 from hf))
  rw [show (⟨g, 0, none⟩ : Addr).add (i * 3 + f) = ⟨g, i * 3 + f, none⟩ from by unfold Addr.add; split <;> simp_all] at h2
  exact h2.trans (List.getElem?_eq_getElem (show f < 3 from hf)).symm
theorem cyc_blk {w : World} {B g n cap : Nat} {xs : List S43} (h : Kd.R k43 43 w B (fun _ => True) (.slice (some ⟨g, 0, none⟩) n cap) xs) (hn : 0 < n) : ∃ cells, w.heap[g]? = some (.cells cells 43 (0, 0)) := by
  obtain ⟨hl, _⟩ := Kd.R_reads' h
  obtain ⟨g', cap', e, _, _, cells, hc⟩ := Kd.R_form h (by omega)
  cases e
  exact ⟨cells, hc⟩
section
variable {Q : Exit → Act → World → Prop} {ops : Array Oper} {rest : List Oper} {o : Oper} {a : Act} {w : World} {B g n cap i p : Nat} {xs : List S43}
theorem cyc_ld2 (h : Kd.R k43 43 w B (fun _ => True) (.slice (some ⟨g, 0, none⟩) n cap) xs) (hi : i < n) (hg : o.guard = none) {x : Operand} (ho : o.op = .load 4 x) (hx : a.eval x = .pointer (some ⟨g, p, none⟩)) (hp : p = i * 3 + 2)
    (k : ∀ v : Bool, wpList Tryz.prog ops Q rest (a.put o.dst (.bool v)) w) : wpList Tryz.prog ops Q (o :: rest) a w := by
  have hc : w.cell? ⟨g, p, none⟩ = some (.bool (xs.getD i z43).f2) := hp ▸ cyc_cell h i hi 2 (by decide)
  clear hp
  have hrun : (execOp a.eval o).run Tryz.prog w = .ok (.value (.bool (xs.getD i z43).f2)) w := by
    unfold execOp
    simp only [ho, hx]
    go_simp
  exact Kd.event_run hg hrun (k _)
theorem cyc_run0 (h : Kd.R k43 43 w B (fun _ => True) (.slice (some ⟨g, 0, none⟩) n cap) xs) (hi : i < n) {x y : Operand} (ho : o.op = .store 41 x y) {v : Int} (hp : p = i * 3 + 0) (hx : a.eval x = .pointer (some ⟨g, p, none⟩)) (hy : a.eval y = .int .u16 v) :
    (execOp a.eval o).run Tryz.prog w = .ok .skip (w.setCell ⟨g, p, none⟩ (.int .u16 v)) := by
  have hc : w.cell? ⟨g, p, none⟩ = some (.int .u16 (xs.getD i z43).f0) := hp ▸ cyc_cell h i hi 0 (by decide)
  clear hp
  obtain ⟨cells, hb⟩ := cyc_blk h (by omega)
  have hf := blk_frozen hb p
  unfold execOp
  simp only [ho, hx, hy]
  go_simp
theorem cyc_kept0 (h : Kd.R k43 43 w B (fun _ => True) (.slice (some ⟨g, 0, none⟩) n cap) xs) (hi : i < n) (v : Int) (hp : p = i * 3 + 0) : Kd.R k43 43 (w.setCell ⟨g, p, none⟩ (.int .u16 v)) B (fun _ => True) (.slice (some ⟨g, 0, none⟩) n cap) (xs.set i ⟨v, (xs.getD i z43).f1, (xs.getD i z43).f2⟩) := hp ▸ cyc_put h i hi 0 (by decide) _ _ rfl
theorem cyc_run1 (h : Kd.R k43 43 w B (fun _ => True) (.slice (some ⟨g, 0, none⟩) n cap) xs) (hi : i < n) {x y : Operand} (ho : o.op = .store 5 x y) {v : Int} (hp : p = i * 3 + 1) (hx : a.eval x = .pointer (some ⟨g, p, none⟩)) (hy : a.eval y = .int .u8 v) :
    (execOp a.eval o).run Tryz.prog w = .ok .skip (w.setCell ⟨g, p, none⟩ (.int .u8 v)) := by
  have hc : w.cell? ⟨g, p, none⟩ = some (.int .u8 (xs.getD i z43).f1) := hp ▸ cyc_cell h i hi 1 (by decide)
  clear hp
  obtain ⟨cells, hb⟩ := cyc_blk h (by omega)
  have hf := blk_frozen hb p
  unfold execOp
  simp only [ho, hx, hy]
  go_simp
theorem cyc_kept1 (h : Kd.R k43 43 w B (fun _ => True) (.slice (some ⟨g, 0, none⟩) n cap) xs) (hi : i < n) (v : Int) (hp : p = i * 3 + 1) : Kd.R k43 43 (w.setCell ⟨g, p, none⟩ (.int .u8 v)) B (fun _ => True) (.slice (some ⟨g, 0, none⟩) n cap) (xs.set i ⟨(xs.getD i z43).f0, v, (xs.getD i z43).f2⟩) := hp ▸ cyc_put h i hi 1 (by decide) _ _ rfl
theorem cyc_run2 (h : Kd.R k43 43 w B (fun _ => True) (.slice (some ⟨g, 0, none⟩) n cap) xs) (hi : i < n) {x y : Operand} (ho : o.op = .store 4 x y) {v : Bool} (hp : p = i * 3 + 2) (hx : a.eval x = .pointer (some ⟨g, p, none⟩)) (hy : a.eval y = .bool v) :
    (execOp a.eval o).run Tryz.prog w = .ok .skip (w.setCell ⟨g, p, none⟩ (.bool v)) := by
  have hc : w.cell? ⟨g, p, none⟩ = some (.bool (xs.getD i z43).f2) := hp ▸ cyc_cell h i hi 2 (by decide)
  clear hp
  obtain ⟨cells, hb⟩ := cyc_blk h (by omega)
  have hf := blk_frozen hb p
  unfold execOp
  simp only [ho, hx, hy]
  go_simp
theorem cyc_kept2 (h : Kd.R k43 43 w B (fun _ => True) (.slice (some ⟨g, 0, none⟩) n cap) xs) (hi : i < n) (v : Bool) (hp : p = i * 3 + 2) : Kd.R k43 43 (w.setCell ⟨g, p, none⟩ (.bool v)) B (fun _ => True) (.slice (some ⟨g, 0, none⟩) n cap) (xs.set i ⟨(xs.getD i z43).f0, (xs.getD i z43).f1, v⟩) := hp ▸ cyc_put h i hi 2 (by decide) _ _ rfl
theorem gate_below3 {w : World} {R : Ending → World → Prop} {v : Value} (h : Calls Tryz.prog 13 #[v, .int .i64 3] w R) : Calls Tryz.prog 13 #[v, .int .i64 3] w R := h
theorem len400 {n N : Nat} (h : n ≤ 20 * N) (hN : N ≤ 20) : n ≤ 400 := by omega
theorem dec0 {n : Nat} (h : n = 0) : decide ((0 : Int) < (n : Int)) = false := decide_eq_false (by omega)
theorem dec0b {n : Nat} (h : n = 0) : decide (0 < n) = false := decide_eq_false (by omega)
theorem dec1 {n : Nat} (h : 0 < n) : decide ((0 : Int) < (n : Int)) = true := decide_eq_true (by omega)
theorem below_nat {x : Int} {n : Nat} (h : ((0 : Int) < (n : Int) → 0 ≤ x ∧ x < (n : Int)) ∧ 0 ≤ x) (hn : 0 < n) : ∃ u : Nat, x = (u : Int) ∧ u < n := ⟨x.toNat, by omega, by have := h.1 (by omega); omega⟩
theorem n_of {x : Int} (h : ((0 : Int) < 20 → 0 ≤ x ∧ x < 20) ∧ 0 ≤ x) : ∃ N : Nat, wrap64 (1 + x) = (N : Int) ∧ N ≤ 20 := ⟨(1 + x).toNat, by have h_ := h.1 (by decide); unfold wrap64; omega, by have h_ := h.1 (by decide); omega⟩
theorem cyc_moves {w : World} {B g n cap p : Nat} {xs : List S43} (h : Kd.R k43 43 w B (fun _ => True) (.slice (some ⟨g, 0, none⟩) n cap) xs) (hn : 0 < n) (v : Value) {w0 w' : World} {gc : Nat} (hB : w'.heap.size ≤ g) (hW : w0.heap.size ≤ w'.heap.size) (hc : Cur w0 w gc) (hb : Below w0.heap.size w0 w) (hk : KeepBut w' w gc none) :
    Cur w0 (w.setCell ⟨g, p, none⟩ v) gc ∧ Below w0.heap.size w0 (w.setCell ⟨g, p, none⟩ v) ∧ KeepBut w' (w.setCell ⟨g, p, none⟩ v) gc none := by
  obtain ⟨cells, hblk⟩ := cyc_blk h hn
  exact ⟨hc.other (hc.ne hblk (by decide)) (fun k hk => Below.heap_setCell w _ _ k hk), hb.setCell (Nat.le_trans hW hB) v, keep_own_ hk hB ((Below.refl 0 w).setCell (Nat.zero_le _) v) (fun k hk => Below.heap_setCell w _ _ k hk)⟩
theorem cyc_st1 (hgd : o.guard = none) {x y : Operand} (ho : o.op = .store 5 x y) {v : Int} (hx : a.eval x = .pointer (some ⟨g, p, none⟩)) (hy : a.eval y = .int .u8 v) (hp : p = i * 3 + 1) (hv : RB v) (h : Kd.R k43 43 w B (fun _ => True) (.slice (some ⟨g, 0, none⟩) n cap) xs) (hi : i < n) {w0 w2 : World} {gc m : Nat} (hB : w2.heap.size ≤ g) (hW : w0.heap.size ≤ w2.heap.size) (hc : Cur w0 w gc) (hb : Below w0.heap.size w0 w) (hk : KeepBut w2 w gc none) (hcb : ∀ c, c ∈ xs → CB c) (hl : xs.length ≤ m)
    (k : ∀ w1 ys, Kd.R k43 43 w1 B (fun _ => True) (.slice (some ⟨g, 0, none⟩) n cap) ys → ys.length ≤ m → (∀ c, c ∈ ys → CB c) → Cur w0 w1 gc → Below w0.heap.size w0 w1 → KeepBut w2 w1 gc none → wpList Tryz.prog ops Q rest (a.put o.dst undef) w1) : wpList Tryz.prog ops Q (o :: rest) a w := by
  obtain ⟨m1, m2, m3⟩ := cyc_moves (p := p) h (by omega) (.int .u8 v) hB hW hc hb hk
  have hq := get_cb hcb i (by have := (Kd.R_reads' h).1; omega)
  exact event_skip hgd (cyc_run1 h hi ho hp hx hy) (k _ _ (cyc_kept1 h hi v hp) (by rw [List.length_set]; exact hl) (set_cb hcb i ⟨hq.1, hv⟩) m1 m2 m3)
theorem cyc_st2 (hgd : o.guard = none) {x y : Operand} (ho : o.op = .store 4 x y) {v : Bool} (hx : a.eval x = .pointer (some ⟨g, p, none⟩)) (hy : a.eval y = .bool v) (hp : p = i * 3 + 2) (h : Kd.R k43 43 w B (fun _ => True) (.slice (some ⟨g, 0, none⟩) n cap) xs) (hi : i < n) {w0 w2 : World} {gc m : Nat} (hB : w2.heap.size ≤ g) (hW : w0.heap.size ≤ w2.heap.size) (hc : Cur w0 w gc) (hb : Below w0.heap.size w0 w) (hk : KeepBut w2 w gc none) (hcb : ∀ c, c ∈ xs → CB c) (hl : xs.length ≤ m)
    (k : ∀ w1 ys, Kd.R k43 43 w1 B (fun _ => True) (.slice (some ⟨g, 0, none⟩) n cap) ys → ys.length ≤ m → (∀ c, c ∈ ys → CB c) → Cur w0 w1 gc → Below w0.heap.size w0 w1 → KeepBut w2 w1 gc none → wpList Tryz.prog ops Q rest (a.put o.dst undef) w1) : wpList Tryz.prog ops Q (o :: rest) a w := by
  obtain ⟨m1, m2, m3⟩ := cyc_moves (p := p) h (by omega) (.bool v) hB hW hc hb hk
  have hq := get_cb hcb i (by have := (Kd.R_reads' h).1; omega)
  exact event_skip hgd (cyc_run2 h hi ho hp hx hy) (k _ _ (cyc_kept2 h hi v hp) (by rw [List.length_set]; exact hl) (set_cb hcb i ⟨hq.1, hq.2⟩) m1 m2 m3)
theorem cyc_step0 {K : Act → World → Prop} {x y : Operand} (hw : Region.wanted o (yielded ops a.tmps) = true) (hN : o.dst = none) (ho : o.op = .store 41 x y) {v : Int} (hx : a.eval x = .pointer (some ⟨g, p, none⟩)) (hy : a.eval y = .int .u16 v) (hp : p = i * 3 + 0) (hv : RP v) (h : Kd.R k43 43 w B (fun _ => True) (.slice (some ⟨g, 0, none⟩) n cap) xs) (hi : i < n) {w0 w2 : World} {gc m : Nat} (hB : w2.heap.size ≤ g) (hW : w0.heap.size ≤ w2.heap.size) (hc : Cur w0 w gc) (hb : Below w0.heap.size w0 w) (hk : KeepBut w2 w gc none) (hcb : ∀ c, c ∈ xs → CB c) (hl : xs.length ≤ m)
    (k : ∀ w1 ys, Kd.R k43 43 w1 B (fun _ => True) (.slice (some ⟨g, 0, none⟩) n cap) ys → ys.length ≤ m → (∀ c, c ∈ ys → CB c) → Cur w0 w1 gc → Below w0.heap.size w0 w1 → KeepBut w2 w1 gc none → K a w1) : if Region.wanted o (yielded ops a.tmps) = true then Oper.wp Tryz.prog o a w K Q else K (a.put none undef) w := by
  obtain ⟨m1, m2, m3⟩ := cyc_moves (p := p) h (by omega) (.int .u16 v) hB hW hc hb hk
  have hq := get_cb hcb i (by have := (Kd.R_reads' h).1; omega)
  exact skip_ hw hN (cyc_run0 h hi ho hp hx hy) (k _ _ (cyc_kept0 h hi v hp) (by rw [List.length_set]; exact hl) (set_cb hcb i ⟨hv, hq.2⟩) m1 m2 m3)
end
end Go.Proofs.YtafkbhnhmhmjcaaGreatDoor.Weak
end
