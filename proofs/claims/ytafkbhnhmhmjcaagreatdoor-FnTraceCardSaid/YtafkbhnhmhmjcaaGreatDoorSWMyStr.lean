import Derived.Test.YtafkbhnhmhmjcaaGreatDoorSWMyLoop
import Derived.Test.YtafkbhnhmhmjcaaGreatDoorSWMyTrace
import Derived.Lib.Strings
import Derived.Test.YtafkbhnhmhmjcaaGreatDoorSWMyLoops
section
set_option linter.unusedVariables false
set_option linter.unusedSimpArgs false
namespace Go.Proofs.YtafkbhnhmhmjcaaGreatDoor.Weak
open Go.RowKit Go.Proofs.YtafkbhnhmhmjcaaGreatDoorW.PrintWords Go.Proofs.YtafkbhnhmhmjcaaGreatDoorW.PrintLast Go.Proofs.YtafkbhnhmhmjcaaGreatDoorW.PrintMore Go.Proofs.YtafkbhnhmhmjcaaGreatDoor.PRun Go.Proofs.YtafkbhnhmhmjcaaGreatDoor.DrawRun
set_option maxHeartbeats 8000000 in
set_option maxRecDepth 100000 in
theorem l08Trace.cur (w0 w : World) (gc : Nat) (hc : Cur w0 w gc) (hB : Below w0.heap.size w0 w) : Calls Tryz.prog 14 #[.pointer (some ⟨gc, 0, none⟩)] w fun e w1 => ∃ v tr, e = .returned v ∧ (Kd.R k43 43 w1 w.heap.size (fun _ => True) v tr ∧ (∀ c, c ∈ tr → CB c) ∧ tr.length ≤ 400) ∧ Drew w0 w w1 gc := by
  have HCU := zA hc
  have HB0 := zA hB
  have HW := zA hB.size
  have HK := zA (KeepBut.refl w gc none)
  clear hc hB
  go_enter Tryz.func14, Tryz.ntmps14
  go_wp2_with (first
    | (go_at_call 25; refine (l07Machine.any w0 _ gc HCU.out HB0.out).mono ?_; rintro e w1 ⟨ds_, vm, mem, rfl, hds_, hm_, hok_, hmb_, hcu_, hb0_, hk_⟩; have HM := zA (Kd.R_lower hm_ HK.out.1); have HMK := zA hok_; have HMB := zA hmb_; clear hm_ hok_ hmb_; replace HCU := zA (hcu_); replace HB0 := zA (hb0_); replace HK := zA (KeepBut.trans HK.out hk_ (.inl rfl)); clear hcu_ hb0_ hk_; obtain ⟨Am, cm, rfl⟩ := Kd.R_slice HM.out)
    | ((with_reducible refine gate_dst (N := 3) rfl ?_); refine c_alloc rfl rfl rfl ?_; intro g hg_ w1 hc_ hb_; have GC := zA (by rw [← hg_]; exact HK.out.1 : w.heap.size ≤ g); replace HM := zA (Kd.R_below HM.out hb_); replace HCU := zA (HCU.out.below_ hb_); replace HB0 := zA (below_step HB0.out hb_); replace HK := zA (keep_below_ HK.out hb_); have BC := zA hc_; clear hb_ hc_ hg_)
    | ((with_reducible refine gate_dst (N := 4) rfl ?_); refine box_event ?hg (N := 4) ?hd (cs := #[.slice none 0 0]) (t := 66) ?hr ?_; (case hd => rfl); (case hg => rfl); (case hr => first | (go_simp; done) | (go_simp; rfl)); intro g4 hg_ w1 hc_ hb_; have G4 := zA (by rw [hg_]; exact HK.out.1 : w.heap.size ≤ g4); replace BC := zA (BC.out.below_ hb_); replace HM := zA (Kd.R_below HM.out hb_); replace HCU := zA (HCU.out.below_ hb_); replace HB0 := zA (below_step HB0.out hb_); replace HK := zA (keep_below_ HK.out hb_); have BM := zA hc_; clear hb_ hc_ hg_)
    | ((with_reducible refine gate_st (t := 64) rfl ?_); first | (refine c_stC rfl rfl rfl rfl (by assumption) BC.out ?_; intro w1 hc_ hk_ hb_; replace BM := zA ((hk_ _ (BC.out.ne_of BM.out (by decide))).trans BM.out); replace HM := zA (R_other HM.out (BC.out.choose_spec.1) (by decide) hk_); replace HCU := zA (HCU.out.other (HCU.out.ne (BC.out.choose_spec.1) (by decide)) hk_); replace BC := zA (hc_); replace HB0 := zA (hb_ _ _ (Nat.le_trans HW.out GC.out) HB0.out); replace HK := zA (keep_own_ HK.out GC.out (hb_ 0 _ (Nat.zero_le _) (Below.refl _ _)) hk_); clear hc_ hk_ hb_))
    | ((with_reducible refine gate_st (t := 66) rfl ?_); first | (refine r_stEv rfl rfl rfl rfl (by rfl) BM.out ?_; intro w1 hc_ hk_ hb_; replace BC := zA (BC.out.other (BC.out.ne_of BM.out (by decide)).symm hk_); replace HM := zA (R_other HM.out (BM.out) (by decide) hk_); replace HCU := zA (HCU.out.other (HCU.out.ne (BM.out) (by decide)) hk_); replace BM := zA (hc_); replace HB0 := zA (hb_ _ _ (Nat.le_trans HW.out G4.out) HB0.out); replace HK := zA (keep_own_ HK.out G4.out (hb_ 0 _ (Nat.zero_le _) (Below.refl _ _)) hk_); clear hc_ hk_ hb_))
    | ((with_reducible refine gate_region (id := 2) ?_)
       obtain ⟨cs0, hbc, hcc⟩ := BC.out
       have HCC := zA hcc
       obtain ⟨Ac, X0, Y0, S0, P0, e0, e1, e2, e3, e4, e5, rfl, hA0, hX0, hY0, hS0, hP0⟩ := hcc
       refine start_k (n := 10) (S := fun w' => w'.heap[g]? = some (.cells #[.int .u8 Ac, .int .u8 X0, .int .u8 Y0, .int .u8 S0, .int .u16 P0, .bool e0, .bool e1, .bool e2, .bool e3, .bool e4, .bool e5] 64 (0, 0)) ∧ w'.heap[g4]? = some (.cells #[.slice Am mem.length cm] 66 (0, 0))) (ds := []) #[false, false, false, false, false, false, false, false, false, false] (by kernel_rfl) rfl rfl ⟨hbc, BM.out⟩ (fun w1 he hs => by rw [he]; exact hs) ?_
       intro w1 hHeld hb_
       replace BM := zA (blk_below BM.out hb_); replace BC := zA (BC.out.below_ hb_); replace HM := zA (Kd.R_below HM.out hb_); replace HCU := zA (HCU.out.below_ hb_); replace HB0 := zA (below_step HB0.out hb_); replace HK := zA (keep_below_ HK.out hb_)
       clear hb_
       refine take_ (i := 0) (N := some 12) (v := ?_) (a' := ?_) #[true, false, false, false, false, false, false, false, false, false] rfl rfl (by kernel_rfl) (fun _ _ _ h => h) (Or.inl ⟨by rfl, ?_⟩) hHeld ?_ ?_
       rotate_left
       · rintro w' ⟨s0, sb⟩
         refine (c_runC (x := .tmp 3) ?_ ?_ s0 HCC.out).trans ?_
         · rfl
         · rfl
         · rfl
       rotate_left
       · simp only [zP]
         rfl
       refine take_ (i := 1) (N := some 13) (v := ?_) (a' := ?_) #[true, true, false, false, false, false, false, false, false, false] rfl rfl (by kernel_rfl) (fun _ _ _ h => h) (Or.inl ⟨by rfl, ?_⟩) hHeld ?_ ?_
       rotate_left
       · rintro w' ⟨s0, sb⟩
         have t0 : w'.cell? ⟨g4, 0, none⟩ = some (.slice Am mem.length cm) := (blk_cell sb 0).trans rfl
         go_simp
         with_reducible rfl
       rotate_left
       · simp only [zP]
         rfl
       refine pure_ (i := 2) (N := some 14) (v := ?_) (a' := ?_) #[true, true, true, false, false, false, false, false, false, false] rfl rfl (by kernel_rfl) (fun _ _ _ h => h) (Or.inl ⟨by rfl, ?_⟩) ?_ ?_
       rotate_left
       · intro w'
         go_simp
         with_reducible rfl
       rotate_left
       · simp only [zP]
         rfl
       refine pure_ (i := 4) (N := some 16) (v := ?_) (a' := ?_) #[true, true, true, false, true, false, false, false, false, false] rfl rfl (by kernel_rfl) (fun _ _ _ h => h) (Or.inl ⟨by rfl, ?_⟩) ?_ ?_
       rotate_left
       · intro w'
         go_simp
         with_reducible rfl
       rotate_left
       · simp only [zP]
         rfl
       refine one_ (i := 3) (N := some 15) #[true, true, true, true, true, false, false, false, false, false] rfl rfl (by kernel_rfl) (by decide) (fun K hK => ?_)
       refine goes_ Tryz.func27 (by kernel_rfl) rfl #[.pointer (some ⟨gc, 0, none⟩)] (by rfl) rfl rfl (by (try simp only [List.map_toArray, List.map_cons, List.map_nil]); first | done | rfl) ?_
       refine (l07Events.cur w0 _ gc HCU.out HB0.out).mono ?_
       rintro e w1 ⟨ve, ev, rfl, hev_, hcu_, hb0_, hk_⟩
       refine ⟨_, rfl, ?_⟩
       replace hHeld := And.intro (raw_keep hHeld.1 HCU.out (by decide) hk_) (raw_keep hHeld.2 HCU.out (by decide) hk_)
       have HEV := zA (Kd.R_lower hev_.1 HK.out.1)
       have HEL := zA hev_.2
       replace BM := zA (raw_keep BM.out HCU.out (by decide) hk_); replace BC := zA (BC.out.keep HCU.out hk_); replace HM := zA (R_keep HM.out HCU.out (by decide) hk_); replace HCU := zA (hcu_); replace HB0 := zA (hb0_); replace HK := zA (KeepBut.trans HK.out hk_ (.inl rfl))
       clear hcu_ hb0_ hk_ hev_
       obtain ⟨Ae, ce, rfl⟩ := Kd.R_slice HEV.out
       refine hK.out _ _ hHeld (fun h_ => ?_)
       clear hK K h_
       refine norm_ (a' := ?_) ?_ ?_
       rotate_left
       · show Act.put _ (some 15) _ = _
         simp only [zP]
         rfl
       refine one_ (i := 5) (N := some 17) #[true, true, true, true, true, true, false, false, false, false] rfl rfl (by kernel_rfl) (by decide) (fun K hK => ?_)
       refine goes_ Tryz.func13 (by kernel_rfl) rfl #[.pointer (some ⟨gc, 0, none⟩), .int .i64 20] (by rfl) rfl rfl (by (try simp only [List.map_toArray, List.map_cons, List.map_nil]); first | done | rfl) ?_
       refine (l01Below.cur w0 _ gc 20 HCU.out HB0.out).mono ?_
       rintro e w1 ⟨x_, rfl, hx_, hcu_, hb0_, hk_⟩
       refine ⟨_, rfl, ?_⟩
       replace hHeld := And.intro (raw_keep hHeld.1 HCU.out (by decide) hk_) (raw_keep hHeld.2 HCU.out (by decide) hk_)
       replace BM := zA (raw_keep BM.out HCU.out (by decide) hk_); replace BC := zA (BC.out.keep HCU.out hk_); replace HM := zA (R_keep HM.out HCU.out (by decide) hk_); replace HEV := zA (R_keep HEV.out HCU.out (by decide) hk_); replace HCU := zA (hcu_); replace HB0 := zA (hb0_); replace HK := zA (KeepBut.trans HK.out hk_ (.inl rfl))
       clear hcu_ hb0_ hk_
       refine hK.out _ _ hHeld (fun h_ => ?_)
       clear hK K h_
       refine norm_ (a' := ?_) ?_ ?_
       rotate_left
       · show Act.put _ (some 17) _ = _
         simp only [zP]
         rfl
       obtain ⟨N, hw, hN_⟩ := n_of hx_
       have HN := zA hN_
       clear hx_ hN_
       have hw2 := True.intro
       have k1 := True.intro
       have k2 := True.intro
       refine pure_ (i := 6) (N := some 18) (v := .int .i64 (N : Int)) (a' := ?_) #[true, true, true, true, true, true, true, false, false, false] rfl rfl (by kernel_rfl) (fun _ _ _ h => h) (Or.inl ⟨by rfl, ?_⟩) ?_ ?_
       · intro w'
         go_simp
         first | done | rfl | (simp only [i64_w, hw, hw2]; done) | (simp [hw, hw2, k1, k2]; done)
       rotate_left
       · simp only [zP]
         rfl
       clear hw hw2 k1 k2
       refine one_ (i := 7) (N := some 19) #[true, true, true, true, true, true, true, true, false, false] rfl rfl (by kernel_rfl) (by decide) (fun K hK => ?_)
       refine goes_ Tryz.func26 (by kernel_rfl) rfl #[.agg #[.int .u8 Ac, .int .u8 X0, .int .u8 Y0, .int .u8 S0, .int .u16 P0, .bool e0, .bool e1, .bool e2, .bool e3, .bool e4, .bool e5], .agg #[.slice Am mem.length cm], .slice Ae ev.length ce, .int .i64 (N : Int)] (by rfl) rfl rfl (by (try simp only [List.map_toArray, List.map_cons, List.map_nil]); first | done | rfl) ?_
       refine (Run.any _ _ _ _ _ _ _ _ _ _ _ _ Am cm mem Ae ce ev N HCC.out (Kd.R_reads' HM.out).2.2 (Kd.R_reads' HM.out).2.1 HMK.out HMB.out (Kd.R_reads' HEV.out).2.2 (Kd.R_reads' HEV.out).2.1 (by have := HEL.out; omega) (by have := HN.out; omega)).mono ?_
       rintro e w1 ⟨A, X, Y, S, p, f0, f1, f2, f3, f4, f5, vm, vt, vs, vc, j, rfl, hrun_, hb_⟩
       refine ⟨_, rfl, ?_⟩
       replace hHeld := And.intro (blk_below hHeld.1 hb_) (blk_below hHeld.2 hb_)
       have HRU := zA (hrun_.lower HK.out.1)
       replace BM := zA (blk_below BM.out hb_); replace BC := zA (BC.out.below_ hb_); replace HM := zA (Kd.R_below HM.out hb_); replace HEV := zA (Kd.R_below HEV.out hb_); replace HCU := zA (HCU.out.below_ hb_); replace HB0 := zA (below_step HB0.out hb_); replace HK := zA (keep_below_ HK.out hb_)
       clear hrun_ hb_
       refine hK.out _ _ hHeld (fun h_ => ?_)
       clear hK K h_
       refine norm_ (a' := ?_) ?_ ?_
       rotate_left
       · show Act.put _ (some 19) _ = _
         simp only [zP]
         rfl
       obtain ⟨Am2, nm2, cm2, At, nt, ct, As2, ns2, cs2, Ak2, nk2, ck2, rfl, rfl, rfl, rfl, hnt_⟩ := HRU.out.forms
       clear hnt_
       refine pure_ (i := 8) (N := some 20) (v := .slice At nt ct) (a' := ?_) #[true, true, true, true, true, true, true, true, true, false] rfl rfl (by kernel_rfl) (fun _ _ _ h => h) (Or.inl ⟨by rfl, ?_⟩) ?_ ?_
       · intro w'
         kernel_rfl
       rotate_left
       · simp only [zP]
         rfl
       refine pure_ (i := 9) (N := some 5) (v := ?_) (a' := ?_) #[true, true, true, true, true, true, true, true, true, true] rfl rfl (by kernel_rfl) (fun _ _ _ h => h) (Or.inl ⟨by rfl, ?_⟩) ?_ ?_
       rotate_left
       · intro w'
         go_simp
         with_reducible rfl
       rotate_left
       · simp only [zP]
         rfl
       refine done_ (by kernel_rfl) ?_
       clear hHeld
       obtain ⟨-, _, tr, _, _, -, -, -, ht_, htt_, -, -, -, hl_, -⟩ := HRU.out
       have hl2_ := len400 hl_ HN.out
       have HT := zA ht_
       have HTT := zA htt_
       have HTL := zA hl2_
       clear ht_ htt_ hl_ hl2_ hbc hds_ HRU BC BM HM HMK HMB HEV HEL HCC hA0 hX0 hY0 hS0 hP0 GC G4 HN
       obtain ⟨rfl, -⟩ := Kd.R_reads' HT.out
       rcases Nat.eq_zero_or_pos tr.length with hz | hz
       have c1 := dec0 hz
       have c1b := dec0b hz
       clear hz
       rotate_left
       have c1 := dec1 hz
       have c1b : decide (0 < tr.length) = true := decide_eq_true hz
       have HP := zA hz
       obtain ⟨gs, ct, heq_, hgs_, -⟩ := Kd.R_form HT.out hz
       injection heq_ with q1_ q2_ q3_
       subst q1_ q3_
       have GG := zA hgs_
       clear hz q2_ hgs_
       all_goals (go_step; go_step; go_step; go_step))
    | (go_at_call 12; refine (l01Once.cur w0 _ gc 4 HCU.out HB0.out).mono ?_; rintro e w1 ⟨x_, rfl, hcu_, hb0_, hk_⟩; replace HT := zA (R_keep HT.out HCU.out (by decide) hk_); replace HCU := zA (hcu_); replace HB0 := zA (hb0_); replace HK := zA (KeepBut.trans HK.out hk_ (.inl rfl)); clear hcu_ hb0_ hk_)
    | (go_at_call 13; (with_reducible refine gate_below3 ?_); refine (l01Below.cur w0 _ gc 3 HCU.out HB0.out).mono ?_; rintro e w1 ⟨y_, rfl, hy_, hcu_, hb0_, hk_⟩; clear hy_; replace HT := zA (R_keep HT.out HCU.out (by decide) hk_); replace HCU := zA (hcu_); replace HB0 := zA (hb0_); replace HK := zA (KeepBut.trans HK.out hk_ (.inl rfl)); clear hcu_ hb0_ hk_)
    | (go_at_call 13; refine (l01Below.cur w0 _ gc (tr.length : Int) HCU.out HB0.out).mono ?_; rintro e w1 ⟨x_, rfl, hx_, hcu_, hb0_, hk_⟩; obtain ⟨u, rfl, hu_⟩ := below_nat hx_ HP.out; have HU := zA hu_; have z1 : (u < tr.length) = True := eq_true HU.out; clear hx_ hu_; replace HT := zA (R_keep HT.out HCU.out (by decide) hk_); replace HCU := zA (hcu_); replace HB0 := zA (hb0_); replace HK := zA (KeepBut.trans HK.out hk_ (.inl rfl)); clear hcu_ hb0_ hk_)
    | (go_at_call 29; refine (l02Byte.cur w0 _ gc HCU.out HB0.out).mono ?_; rintro e w1 ⟨b_, rfl, hrb_, hcu_, hb0_, hk_⟩; have HRB := zA hrb_; clear hrb_; replace HT := zA (R_keep HT.out HCU.out (by decide) hk_); replace HCU := zA (hcu_); replace HB0 := zA (hb0_); replace HK := zA (KeepBut.trans HK.out hk_ (.inl rfl)); clear hcu_ hb0_ hk_)
    | ((with_reducible refine gate_st (t := 5) rfl ?_); refine cyc_st1 rfl rfl (i := u) (p := u * 3 + 1) rfl rfl rfl HRB.out HT.out HU.out GG.out HW.out HCU.out HB0.out HK.out HTT.out HTL.out ?_; intro w1 tr2 ht_ hl_ htt_ hcu_ hb0_ hk_; clear HT HCU HB0 HK HTT HTL HP; have HT := zA ht_; have HTT := zA htt_; have HTL := zA hl_; have HCU := zA hcu_; have HB0 := zA hb0_; have HK := zA hk_; clear ht_ htt_ hl_ hcu_ hb0_ hk_)
    | ((with_reducible refine gate_st (t := 4) rfl ?_); refine cyc_st2 rfl rfl (i := u) (p := u * 3 + 2) rfl rfl rfl HT.out HU.out GG.out HW.out HCU.out HB0.out HK.out HTT.out HTL.out ?_; intro w1 tr2 ht_ hl_ htt_ hcu_ hb0_ hk_; clear HT HCU HB0 HK HTT HTL HP; have HT := zA ht_; have HTT := zA htt_; have HTL := zA hl_; have HCU := zA hcu_; have HB0 := zA hb0_; have HK := zA hk_; clear ht_ htt_ hl_ hcu_ hb0_ hk_)
    | ((with_reducible refine gate_load (t := 4) rfl ?_); refine cyc_ld2 (i := u) (p := u * 3 + 2) HT.out HU.out rfl rfl rfl rfl ?_; intro _)
    | ((with_reducible refine gate_region (id := 8) ?_)
       obtain ⟨cells, hblk_⟩ := cyc_blk HT.out HP.out
       have HC0 := zA ((blk_cell hblk_ (u * 3)).symm.trans (cyc_cell HT.out u HU.out 0 (by decide)))
       have hw := True.intro
       have hw2 := True.intro
       have k1 := True.intro
       have k2 := True.intro
       refine start_k (n := 15) (S := fun w' => w'.heap[gs]? = some (.cells cells 43 (0, 0))) (ds := [14]) #[false, false, false, false, false, false, false, false, false, false, false, false, false, false, false] (by kernel_rfl) rfl rfl hblk_ (fun w1 he hs => by rw [he]; exact hs) ?_
       intro w1 hHeld hb_
       replace HT := zA (Kd.R_below HT.out hb_); replace HCU := zA (HCU.out.below_ hb_); replace HB0 := zA (below_step HB0.out hb_); replace HK := zA (keep_below_ HK.out hb_)
       clear hb_
       refine pure_ (i := 0) (N := some 46) (v := .slice (some ⟨gs, 0, none⟩) tr.length ct) (a' := ?_) #[true, false, false, false, false, false, false, false, false, false, false, false, false, false, false] rfl rfl (by kernel_rfl) (fun _ _ _ h => h) (Or.inl ⟨by rfl, ?_⟩) ?_ ?_
       · intro w'
         go_simp
         first | done | rfl | (simp only [i64_w, hw, hw2]; done) | (simp [hw, hw2, k1, k2]; done)
       rotate_left
       · simp only [zP]
         rfl
       refine pure_ (i := 1) (N := some 47) (v := .int .i64 (u : Int)) (a' := ?_) #[true, true, false, false, false, false, false, false, false, false, false, false, false, false, false] rfl rfl (by kernel_rfl) (fun _ _ _ h => h) (Or.inl ⟨by rfl, ?_⟩) ?_ ?_
       · intro w'
         go_simp
         first | done | rfl | (simp only [i64_w, hw, hw2]; done) | (simp [hw, hw2, k1, k2]; done)
       rotate_left
       · simp only [zP]
         rfl
       refine pure_ (i := 2) (N := some 48) (v := .slice (some ⟨gs, 0, none⟩) tr.length ct) (a' := ?_) #[true, true, true, false, false, false, false, false, false, false, false, false, false, false, false] rfl rfl (by kernel_rfl) (fun _ _ _ h => h) (Or.inl ⟨by rfl, ?_⟩) ?_ ?_
       · intro w'
         go_simp
         first | done | rfl | (simp only [i64_w, hw, hw2]; done) | (simp [hw, hw2, k1, k2]; done)
       rotate_left
       · simp only [zP]
         rfl
       refine pure_ (i := 3) (N := some 49) (v := .int .i64 (u : Int)) (a' := ?_) #[true, true, true, true, false, false, false, false, false, false, false, false, false, false, false] rfl rfl (by kernel_rfl) (fun _ _ _ h => h) (Or.inl ⟨by rfl, ?_⟩) ?_ ?_
       · intro w'
         go_simp
         first | done | rfl | (simp only [i64_w, hw, hw2]; done) | (simp [hw, hw2, k1, k2]; done)
       rotate_left
       · simp only [zP]
         rfl
       refine pure_ (i := 4) (N := some 50) (v := .pointer (some ⟨gs, u * 3, none⟩)) (a' := ?_) #[true, true, true, true, true, false, false, false, false, false, false, false, false, false, false] rfl rfl (by kernel_rfl) (fun _ _ _ h => h) (Or.inl ⟨by rfl, ?_⟩) ?_ ?_
       · intro w'
         go_simp
         first | done | rfl | (simp only [i64_w, hw, hw2]; done) | (simp [hw, hw2, k1, k2]; done)
       rotate_left
       · simp only [zP]
         rfl
       refine pure_ (i := 5) (N := some 51) (v := .pointer (some ⟨gs, u * 3, none⟩)) (a' := ?_) #[true, true, true, true, true, true, false, false, false, false, false, false, false, false, false] rfl rfl (by kernel_rfl) (fun _ _ _ h => h) (Or.inl ⟨by rfl, ?_⟩) ?_ ?_
       · intro w'
         go_simp
         first | done | rfl | (simp only [i64_w, hw, hw2]; done) | (simp [hw, hw2, k1, k2]; done)
       rotate_left
       · simp only [zP]
         rfl
       refine take_ (i := 6) (N := some 52) (v := .int .u16 (tr.getD u z43).f0) (a' := ?_) #[true, true, true, true, true, true, true, false, false, false, false, false, false, false, false] rfl rfl (by kernel_rfl) (fun _ _ _ h => h) (Or.inl ⟨by rfl, ?_⟩) hHeld ?_ ?_
       · rintro w' s0
         have t0 : w'.cell? ⟨gs, u * 3, none⟩ = some (.int .u16 (tr.getD u z43).f0) := (blk_cell s0 (u * 3)).trans HC0.out
         go_simp
         first | done | rfl | (simp only [i64_w, hw, hw2]; done) | (simp [hw, hw2, k1, k2]; done)
       rotate_left
       · simp only [zP]
         rfl
       refine pure_ (i := 7) (N := some 53) (v := ?_) (a' := ?_) #[true, true, true, true, true, true, true, true, false, false, false, false, false, false, false] rfl rfl (by kernel_rfl) (fun _ _ _ h => h) (Or.inl ⟨by rfl, ?_⟩) ?_ ?_
       rotate_left
       · intro w'
         go_simp
         with_reducible rfl
       rotate_left
       · simp only [zP]
         rfl
       refine one_ (i := 8) (N := some 54) #[true, true, true, true, true, true, true, true, true, false, false, false, false, false, false] rfl rfl (by kernel_rfl) (by decide) (fun K hK => ?_)
       refine Kd.R_lit_step (Kd.int .i64) _ 3 (by rfl) (N := 54) rfl (xs := [1, 256, 65535]) (inner := [.int .i64 1, .int .i64 256, .int .i64 65535]) (ok := fun _ => True) (okp := fun _ => True) ?hr (reps_ints .i64 _ _ _ [1, 256, 65535]) (fun _ hk => hk) trivial (Below.refl _ _) (Nat.le_refl _) (by simp) ?_
       case hr => first | (go_simp; done) | (go_simp; rfl)
       intro v0 w1 ho_ hb_ hg_ hnew_
       clear hg_ hnew_
       have HO := zA ho_
       replace hHeld := blk_below hHeld hb_
       replace HT := zA (Kd.R_below HT.out hb_); replace HCU := zA (HCU.out.below_ hb_); replace HB0 := zA (below_step HB0.out hb_); replace HK := zA (keep_below_ HK.out hb_)
       clear ho_ hb_
       refine hK.out _ _ hHeld (fun h_ => ?_)
       clear hK K h_
       refine norm_ (a' := ?_) ?_ ?_
       rotate_left
       · show Act.put _ (some 54) _ = _
         simp only [zP]
         rfl
       refine one_ (i := 9) (N := some 55) #[true, true, true, true, true, true, true, true, true, true, false, false, false, false, false] rfl rfl (by kernel_rfl) (by decide) (fun K hK => ?_)
       refine goes_ Tryz.func28 (by kernel_rfl) rfl #[.pointer (some ⟨gc, 0, none⟩), v0] (by rfl) rfl rfl (by (try simp only [List.map_toArray, List.map_cons, List.map_nil]); first | done | rfl) ?_
       refine (l01PickInt.cur w0 _ gc _ (by decide) HO.out HCU.out HB0.out).mono ?_
       rintro e w1 ⟨y2_, rfl, hy_, hcu_, hb0_, hk_⟩
       refine ⟨_, rfl, ?_⟩
       replace hHeld := raw_keep hHeld HCU.out (by decide) hk_
       replace HT := zA (R_keep HT.out HCU.out (by decide) hk_); replace HCU := zA (hcu_); replace HB0 := zA (hb0_); replace HK := zA (KeepBut.trans HK.out hk_ (.inl rfl))
       clear hcu_ hb0_ hk_ hy_ HO
       refine hK.out _ _ hHeld (fun h_ => ?_)
       clear hK K h_
       refine norm_ (a' := ?_) ?_ ?_
       rotate_left
       · show Act.put _ (some 55) _ = _
         simp only [zP]
         rfl
       refine pure_ (i := 10) (N := some 56) (v := ?_) (a' := ?_) #[true, true, true, true, true, true, true, true, true, true, true, false, false, false, false] rfl rfl (by kernel_rfl) (fun _ _ _ h => h) (Or.inl ⟨by rfl, ?_⟩) ?_ ?_
       rotate_left
       · intro w'
         go_simp
         with_reducible rfl
       rotate_left
       · simp only [zP]
         rfl
       refine pure_ (i := 11) (N := some 57) (v := ?_) (a' := ?_) #[true, true, true, true, true, true, true, true, true, true, true, true, false, false, false] rfl rfl (by kernel_rfl) (fun _ _ _ h => h) (Or.inl ⟨by rfl, ?_⟩) ?_ ?_
       rotate_left
       · intro w'
         go_simp
         with_reducible rfl
       rotate_left
       · simp only [zP]
         rfl
       refine pure_ (i := 12) (N := some 58) (v := .pointer (some ⟨gs, u * 3, none⟩)) (a' := ?_) #[true, true, true, true, true, true, true, true, true, true, true, true, true, false, false] rfl rfl (by kernel_rfl) (fun _ _ _ h => h) (Or.inl ⟨by rfl, ?_⟩) ?_ ?_
       · intro w'
         go_simp
         first | done | rfl | (simp only [i64_w, hw, hw2]; done) | (simp [hw, hw2, k1, k2]; done)
       rotate_left
       · simp only [zP]
         rfl
       refine pure_ (i := 13) (N := some 59) (v := .pointer (some ⟨gs, u * 3, none⟩)) (a' := ?_) #[true, true, true, true, true, true, true, true, true, true, true, true, true, true, false] rfl rfl (by kernel_rfl) (fun _ _ _ h => h) (Or.inl ⟨by rfl, ?_⟩) ?_ ?_
       · intro w'
         go_simp
         first | done | rfl | (simp only [i64_w, hw, hw2]; done) | (simp [hw, hw2, k1, k2]; done)
       rotate_left
       · simp only [zP]
         rfl
       refine last_ (i := 14) (N := none) #[true, true, true, true, true, true, true, true, true, true, true, true, true, true, true] rfl rfl (by kernel_rfl) (by decide) (fun K hK => ?_)
       refine cyc_step0 (by rfl) rfl (i := u) (p := u * 3) rfl rfl rfl rfl (by first | assumption | exact RP_mod _ | exact RP_wrap _ | (unfold RP; omega)) HT.out HU.out GG.out HW.out HCU.out HB0.out HK.out HTT.out HTL.out ?_
       intro w1 tr2 ht_ hl_ htt_ hcu_ hb0_ hk_
       refine hK.out _ _ ?_
       clear hK K hHeld HC0 hw hw2 k1 k2
       clear HT HCU HB0 HK HTT HTL HP; have HT := zA ht_; have HTT := zA htt_; have HTL := zA hl_; have HCU := zA hcu_; have HB0 := zA hb0_; have HK := zA hk_; clear ht_ htt_ hl_ hcu_ hb0_ hk_
       refine done_ (by kernel_rfl) ?_)
    | ((with_reducible refine gate_ret ?_); refine bodyPost_ret (results_tmp rfl _ _ _) rfl ?_; exact ⟨_, _, rfl, ⟨HT.out, HTT.out, HTL.out⟩, HCU.out, HB0.out, HK.out⟩))
end Go.Proofs.YtafkbhnhmhmjcaaGreatDoor.Weak
end
section
set_option linter.unusedVariables false
set_option linter.unusedSimpArgs false
namespace Go.Proofs.YtafkbhnhmhmjcaaGreatDoor.Weak
open Go.RowKit Go.Proofs.YtafkbhnhmhmjcaaGreatDoorW.PrintWords Go.Proofs.YtafkbhnhmhmjcaaGreatDoorW.PrintLast Go.Proofs.YtafkbhnhmhmjcaaGreatDoorW.PrintMore Go.Proofs.YtafkbhnhmhmjcaaGreatDoor.PRun Go.Proofs.YtafkbhnhmhmjcaaGreatDoor.DrawRun
theorem make_n {x : Int} (h : 0 ≤ x ∧ x < 3) : wrap64 (1199 + x) = 1199 + x := by
  unfold wrap64
  omega
theorem make_lo {x : Int} (h : 0 ≤ x ∧ x < 3) : 0 ≤ wrap64 (1199 + x) := by rw [make_n h]; omega
theorem make_hi {x : Int} (h : 0 ≤ x ∧ x < 3) : (wrap64 (1199 + x)).toNat * 4 ≤ 281474976710656 := by rw [make_n h]; omega
theorem make_len {x : Int} (h : 0 ≤ x ∧ x < 3) : (List.replicate (wrap64 (1199 + x)).toNat z43).length ≤ 1201 := by rw [make_n h, List.length_replicate]; omega
theorem make_cb {n : Nat} : ∀ c, c ∈ List.replicate n z43 → CB c := by
  intro c hc
  rw [(List.mem_replicate.mp hc).2]
  exact ⟨by show RP 0; unfold RP; omega, by show RB 0; unfold RB; omega⟩
set_option maxHeartbeats 8000000 in
set_option maxRecDepth 100000 in
theorem DrawTraceText.any (w : World) (A0 : Option Addr) (c0 : Nat) (l : List Int) (hr : Kd.C (Kd.int .u8) w A0 l.length l) (hc0 : l.length ≤ c0) (hl : l.length ≤ 1048576) : Calls Tryz.prog 5 #[.slice A0 l.length c0] w fun e w1 => ∃ v tr, e = .returned v ∧ (Kd.R k43 43 w1 w.heap.size (fun _ => True) v tr ∧ (∀ c, c ∈ tr → CB c) ∧ tr.length ≤ 1201) ∧ Below w.heap.size w w1 := by
  have HR := zA hr
  have HC := zA hc0
  have HLL := zA hl
  have HB0 := zA (Below.refl w.heap.size w)
  have HW := zA (Nat.le_refl w.heap.size)
  clear hr hc0 hl
  go_enter Tryz.func5, Tryz.ntmps5
  go_wp2_with (first
    | (go_at_call 11; refine (l01New.cur w A0 c0 l HR.out HC.out HLL.out _ HB0.out).mono ?_; rintro e w1 ⟨gc, rfl, hcu_, hb0_, hb_⟩; replace HB0 := zA (below_step HB0.out hb_); have HCU := zA hcu_; clear hcu_ hb0_ hb_)
    | (go_at_call 12; refine (l01Once.cur w _ gc 20 HCU.out HB0.out).mono ?_; rintro e w1 ⟨x_, rfl, hcu_, hb0_, hk_⟩; replace HCU := zA (hcu_); replace HB0 := zA (hb0_); clear hcu_ hb0_ hk_)
    | (go_at_call 13; refine (l01Below.cur w _ gc 3 HCU.out HB0.out).mono ?_; rintro e w1 ⟨n_, rfl, hx_, hcu_, hb0_, hk_⟩; have HX := zA (hx_.1 (by decide)); clear hx_; replace HCU := zA (hcu_); replace HB0 := zA (hb0_); clear hcu_ hb0_ hk_)
    | ((with_reducible refine gate_dst (N := 11) rfl ?_); refine Kd.R_make k43 _ 43 rfl (N := 11) rfl 24 _ _ rfl (wrap64 (1199 + n_)) rfl rfl Tryz.underlying24 (.agg #[.int .u16 0, .int .u8 0, .bool false]) 4 info43 rfl (by decide) (by decide) z43 (ok := fun _ => True) (okp := fun _ => True) ?hz (fun _ hk => hk) trivial (make_lo HX.out) (make_hi HX.out) (Below.refl _ _) (Nat.le_refl _) ?_; (case hz => exact k43_mkM _ _ _ z43); intro v1 w1 ho_ hb_ hg_ hnew_; clear hg_ hnew_; have HT := zA (Kd.R_lower ho_ HB0.out.size); have HTT := zA (make_cb (n := (wrap64 (1199 + n_)).toNat)); have HTL := zA (make_len HX.out); replace HCU := zA (HCU.out.below_ hb_); replace HB0 := zA (below_step HB0.out hb_); clear ho_ hb_)
    | (go_at_call 14; refine (l08Trace.cur w _ gc HCU.out HB0.out).mono ?_; rintro e w1 ⟨v, tr, rfl, ht_, hcu_, hb0_, hk_⟩; have HT := zA (Kd.R_lower ht_.1 HB0.out.size); have HTT := zA ht_.2.1; have HTL := zA (Nat.le_trans ht_.2.2 (by decide : 400 ≤ 1201)); clear ht_; replace HCU := zA (hcu_); replace HB0 := zA (hb0_); clear hcu_ hb0_ hk_)
    | ((with_reducible refine gate_ret ?_); refine bodyPost_ret (results_tmp rfl _ _ _) rfl ?_; exact ⟨_, _, rfl, ⟨HT.out, HTT.out, HTL.out⟩, HB0.out⟩))
end Go.Proofs.YtafkbhnhmhmjcaaGreatDoor.Weak
end
section
namespace Go.Proofs.YtafkbhnhmhmjcaaGreatDoor.Str
open Go.RowKit Go.Proofs.YtafkbhnhmhmjcaaGreatDoor.Plain Go.Proofs.YtafkbhnhmhmjcaaGreatDoorW.PrintWords Go.Proofs.YtafkbhnhmhmjcaaGreatDoorW.PrintLast Go.Proofs.YtafkbhnhmhmjcaaGreatDoorW.PrintMore
def S (l : List UInt8) : ByteArray := ⟨l.toArray⟩
theorem S_data (s : ByteArray) : S s.data.toList = s := by cases s; simp [S]
theorem S_size (l : List UInt8) : (S l).size = l.length := by simp [S, ByteArray.size]
theorem S_append (a b : List UInt8) : S a ++ S b = S (a ++ b) := by
  apply ByteArray.ext
  simp [S]
theorem S_toList (l : List UInt8) : (S l).toList = l := by
  rw [Lib.toList_data]; simp [S]
theorem S_extract (l : List UInt8) (a b : Nat) : (S l).extract a b = S ((l.drop a).take (b - a)) := by
  apply ByteArray.ext
  simp [S, ByteArray.data_extract]
theorem bt_S (l : List UInt8) (i : Nat) (h : i < l.length) : bt (S l) (i : Int) = (l[i].toNat : Int) := by
  unfold bt
  have h' : ((i : Int)).toNat < (S l).size := by rw [S_size]; simpa using h
  rw [dif_pos h']
  rfl
end Go.Proofs.YtafkbhnhmhmjcaaGreatDoor.Str
end
