import Derived.Test.YtafkbhnhmhmjcaaSVMyLoop
import Derived.Test.YtafkbhnhmhmjcaaSVMyMach
import Derived.Test.YtafkbhnhmhmjcaaSVMyTrace
import Derived.WalkSpells
import Derived.Test.YtafkbhnhmhmjcaaSVPRunx0
section
set_option linter.unusedVariables false
set_option linter.unusedSimpArgs false
namespace Go.Proofs.Ytafkbhnhmhmjcaa.Weak
open Go.RowKit Go.Proofs.YtafkbhnhmhmjcaaW.PrintWords Go.Proofs.YtafkbhnhmhmjcaaW.PrintLast Go.Proofs.YtafkbhnhmhmjcaaW.PrintMore Go.Proofs.Ytafkbhnhmhmjcaa.PRun Go.Proofs.Ytafkbhnhmhmjcaa.DrawRun
set_option maxHeartbeats 8000000 in
set_option maxRecDepth 100000 in
theorem l08Trace.cur (w0 w : World) (gc : Nat) (hc : Cur w0 w gc) (hB : Below w0.heap.size w0 w) : Calls Try.prog 18 #[.pointer (some ⟨gc, 0, none⟩)] w fun e w1 => ∃ v tr, e = .returned v ∧ (Kd.R k55 55 w1 w.heap.size (fun _ => True) v tr ∧ (∀ c, c ∈ tr → CB c) ∧ tr.length ≤ 400) ∧ Drew w0 w w1 gc := by
  have HCU := Aside0.mk hc
  have HB0 := Aside0.mk hB
  have HW := Aside0.mk hB.size
  have HK := Aside0.mk (KeepBut.refl w gc none)
  clear hc hB
  go_enter Try.func18, Try.ntmps18
  go_wp2_with (first
    | (go_at_call 13; refine (l07Machine.any w0 _ gc HCU.out HB0.out).mono ?_; rintro e w1 ⟨ds_, vm, mem, rfl, hds_, hm_, hok_, hmb_, hcu_, hb0_, hk_⟩; have HM := Aside0.mk (Kd.R_lower hm_ HK.out.1); have HMK := Aside0.mk hok_; have HMB := Aside0.mk hmb_; clear hm_ hok_ hmb_; have n0_ := Aside0.mk (hcu_); have n1_ := Aside0.mk (hb0_); have n2_ := Aside0.mk (KeepBut.trans HK.out hk_ (.inl rfl)); clear HCU HB0 HK; have HCU := n0_; have HB0 := n1_; have HK := n2_; clear n0_ n1_ n2_; clear hcu_ hb0_ hk_; obtain ⟨Am, cm, rfl⟩ := Kd.R_slice HM.out)
    | ((with_reducible refine gate_dst (N := 3) rfl ?_); refine c_alloc rfl rfl rfl ?_; intro g hg_ w1 hc_ hb_; have GC := Aside0.mk (by rw [← hg_]; exact HK.out.1 : w.heap.size ≤ g); have n0_ := Aside0.mk (Kd.R_below HM.out hb_); have n1_ := Aside0.mk (HCU.out.below_ hb_); have n2_ := Aside0.mk (below_step HB0.out hb_); have n3_ := Aside0.mk (keep_below_ HK.out hb_); clear HM HCU HB0 HK; have HM := n0_; have HCU := n1_; have HB0 := n2_; have HK := n3_; clear n0_ n1_ n2_ n3_; have BC := Aside0.mk hc_; clear hb_ hc_ hg_)
    | ((with_reducible refine gate_dst (N := 4) rfl ?_); refine box_event ?hg (N := 4) ?hd (cs := #[.slice none 0 0]) (t := 30) ?hr ?_; (case hd => rfl); (case hg => rfl); (case hr => first | (go_simp; done) | (go_simp; rfl)); intro g4 hg_ w1 hc_ hb_; have G4 := Aside0.mk (by rw [hg_]; exact HK.out.1 : w.heap.size ≤ g4); have n0_ := Aside0.mk (BC.out.below_ hb_); have n1_ := Aside0.mk (Kd.R_below HM.out hb_); have n2_ := Aside0.mk (HCU.out.below_ hb_); have n3_ := Aside0.mk (below_step HB0.out hb_); have n4_ := Aside0.mk (keep_below_ HK.out hb_); clear BC HM HCU HB0 HK; have BC := n0_; have HM := n1_; have HCU := n2_; have HB0 := n3_; have HK := n4_; clear n0_ n1_ n2_ n3_ n4_; have BM := Aside0.mk hc_; clear hb_ hc_ hg_)
    | ((with_reducible refine gate_st (t := 28) rfl ?_); first | (refine c_stC rfl rfl rfl rfl (by assumption) BC.out ?_; intro w1 hc_ hk_ hb_; have n0_ := Aside0.mk (hc_); have n1_ := Aside0.mk ((hk_ _ (BC.out.ne_of BM.out (by decide))).trans BM.out); have n2_ := Aside0.mk (R_other HM.out (BC.out.choose_spec.1) (by decide) hk_); have n3_ := Aside0.mk (HCU.out.other (HCU.out.ne (BC.out.choose_spec.1) (by decide)) hk_); have n4_ := Aside0.mk (hb_ _ _ (Nat.le_trans HW.out GC.out) HB0.out); have n5_ := Aside0.mk (keep_own_ HK.out GC.out (hb_ 0 _ (Nat.zero_le _) (Below.refl _ _)) hk_); clear BC BM HM HCU HB0 HK; have BC := n0_; have BM := n1_; have HM := n2_; have HCU := n3_; have HB0 := n4_; have HK := n5_; clear n0_ n1_ n2_ n3_ n4_ n5_; clear hc_ hk_ hb_))
    | ((with_reducible refine gate_st (t := 30) rfl ?_); first | (refine r_stEv rfl rfl rfl rfl (by rfl) BM.out ?_; intro w1 hc_ hk_ hb_; have n0_ := Aside0.mk (hc_); have n1_ := Aside0.mk (BC.out.other (BC.out.ne_of BM.out (by decide)).symm hk_); have n2_ := Aside0.mk (R_other HM.out (BM.out) (by decide) hk_); have n3_ := Aside0.mk (HCU.out.other (HCU.out.ne (BM.out) (by decide)) hk_); have n4_ := Aside0.mk (hb_ _ _ (Nat.le_trans HW.out G4.out) HB0.out); have n5_ := Aside0.mk (keep_own_ HK.out G4.out (hb_ 0 _ (Nat.zero_le _) (Below.refl _ _)) hk_); clear BM BC HM HCU HB0 HK; have BM := n0_; have BC := n1_; have HM := n2_; have HCU := n3_; have HB0 := n4_; have HK := n5_; clear n0_ n1_ n2_ n3_ n4_ n5_; clear hc_ hk_ hb_))
    | ((with_reducible refine gate_region (id := 2) ?_)
       obtain ⟨cs0, hbc, hcc⟩ := BC.out
       have HCC := Aside0.mk hcc
       obtain ⟨Ac, X0, Y0, S0, P0, e0, e1, e2, e3, e4, e5, rfl, hA0, hX0, hY0, hS0, hP0⟩ := hcc
       refine start_k (n := 10) (S := fun w' => w'.heap[g]? = some (.cells #[.int .u8 Ac, .int .u8 X0, .int .u8 Y0, .int .u8 S0, .int .u16 P0, .bool e0, .bool e1, .bool e2, .bool e3, .bool e4, .bool e5] 28 (0, 0)) ∧ w'.heap[g4]? = some (.cells #[.slice Am mem.length cm] 30 (0, 0))) (ds := []) #[false, false, false, false, false, false, false, false, false, false] (by kernel_rfl) rfl rfl ⟨hbc, BM.out⟩ (fun w1 he hs => by rw [he]; exact hs) ?_
       intro w1 hHeld hb_
       have n0_ := Aside0.mk (blk_below BM.out hb_); have n1_ := Aside0.mk (BC.out.below_ hb_); have n2_ := Aside0.mk (Kd.R_below HM.out hb_); have n3_ := Aside0.mk (HCU.out.below_ hb_); have n4_ := Aside0.mk (below_step HB0.out hb_); have n5_ := Aside0.mk (keep_below_ HK.out hb_); clear BM BC HM HCU HB0 HK; have BM := n0_; have BC := n1_; have HM := n2_; have HCU := n3_; have HB0 := n4_; have HK := n5_; clear n0_ n1_ n2_ n3_ n4_ n5_
       clear hb_
       refine take_ (i := 0) (N := some 12) (v := ?_) (a' := ?_) #[true, false, false, false, false, false, false, false, false, false] rfl rfl (by kernel_rfl) (fun _ _ _ h => h) (Or.inl ⟨by rfl, ?_⟩) hHeld ?_ ?_
       rotate_left
       · rintro w' ⟨s0, sb⟩
         refine (c_runC (x := .tmp 3) ?_ ?_ s0 HCC.out).trans ?_
         · rfl
         · rfl
         · rfl
       rotate_left
       · simp only [Act.put, List.setIfInBounds_toArray, List.set_cons_zero, List.set_cons_succ, i64_w, i32_w]
         rfl
       refine take_ (i := 1) (N := some 13) (v := ?_) (a' := ?_) #[true, true, false, false, false, false, false, false, false, false] rfl rfl (by kernel_rfl) (fun _ _ _ h => h) (Or.inl ⟨by rfl, ?_⟩) hHeld ?_ ?_
       rotate_left
       · rintro w' ⟨s0, sb⟩
         have t0 : w'.cell? ⟨g4, 0, none⟩ = some (.slice Am mem.length cm) := (blk_cell sb 0).trans rfl
         go_simp
         with_reducible rfl
       rotate_left
       · simp only [Act.put, List.setIfInBounds_toArray, List.set_cons_zero, List.set_cons_succ, i64_w, i32_w]
         rfl
       refine pure_ (i := 2) (N := some 14) (v := ?_) (a' := ?_) #[true, true, true, false, false, false, false, false, false, false] rfl rfl (by kernel_rfl) (fun _ _ _ h => h) (Or.inl ⟨by rfl, ?_⟩) ?_ ?_
       rotate_left
       · intro w'
         go_simp
         with_reducible rfl
       rotate_left
       · simp only [Act.put, List.setIfInBounds_toArray, List.set_cons_zero, List.set_cons_succ, i64_w, i32_w]
         rfl
       refine pure_ (i := 4) (N := some 16) (v := ?_) (a' := ?_) #[true, true, true, false, true, false, false, false, false, false] rfl rfl (by kernel_rfl) (fun _ _ _ h => h) (Or.inl ⟨by rfl, ?_⟩) ?_ ?_
       rotate_left
       · intro w'
         go_simp
         with_reducible rfl
       rotate_left
       · simp only [Act.put, List.setIfInBounds_toArray, List.set_cons_zero, List.set_cons_succ, i64_w, i32_w]
         rfl
       refine one_ (i := 3) (N := some 15) #[true, true, true, true, true, false, false, false, false, false] rfl rfl (by kernel_rfl) (by decide) (fun K hK => ?_)
       refine goes_ Try.func15 (by kernel_rfl) rfl #[.pointer (some ⟨gc, 0, none⟩)] (by rfl) rfl rfl (by (try simp only [List.map_toArray, List.map_cons, List.map_nil]); first | done | rfl) ?_
       refine (l07Events.cur w0 _ gc HCU.out HB0.out).mono ?_
       rintro e w1 ⟨ve, ev, rfl, hev_, hcu_, hb0_, hk_⟩
       refine ⟨_, rfl, ?_⟩
       replace hHeld := And.intro (raw_keep hHeld.1 HCU.out (by decide) hk_) (raw_keep hHeld.2 HCU.out (by decide) hk_)
       have HEV := Aside0.mk (Kd.R_lower hev_.1 HK.out.1)
       have HEL := Aside0.mk hev_.2
       have n0_ := Aside0.mk (raw_keep BM.out HCU.out (by decide) hk_); have n1_ := Aside0.mk (BC.out.keep HCU.out hk_); have n2_ := Aside0.mk (R_keep HM.out HCU.out (by decide) hk_); have n3_ := Aside0.mk (hcu_); have n4_ := Aside0.mk (hb0_); have n5_ := Aside0.mk (KeepBut.trans HK.out hk_ (.inl rfl)); clear BM BC HM HCU HB0 HK; have BM := n0_; have BC := n1_; have HM := n2_; have HCU := n3_; have HB0 := n4_; have HK := n5_; clear n0_ n1_ n2_ n3_ n4_ n5_
       clear hcu_ hb0_ hk_ hev_
       obtain ⟨Ae, ce, rfl⟩ := Kd.R_slice HEV.out
       refine hK.out _ _ hHeld (fun h_ => ?_)
       clear hK K h_
       refine norm_ (a' := ?_) ?_ ?_
       rotate_left
       · show Act.put _ (some 15) _ = _
         simp only [Act.put, List.setIfInBounds_toArray, List.set_cons_zero, List.set_cons_succ, i64_w, i32_w]
         rfl
       refine one_ (i := 5) (N := some 17) #[true, true, true, true, true, true, false, false, false, false] rfl rfl (by kernel_rfl) (by decide) (fun K hK => ?_)
       refine goes_ Try.func16 (by kernel_rfl) rfl #[.pointer (some ⟨gc, 0, none⟩), .int .i64 20] (by rfl) rfl rfl (by (try simp only [List.map_toArray, List.map_cons, List.map_nil]); first | done | rfl) ?_
       refine (l01Below.cur w0 _ gc 20 HCU.out HB0.out).mono ?_
       rintro e w1 ⟨x_, rfl, hx_, hcu_, hb0_, hk_⟩
       refine ⟨_, rfl, ?_⟩
       replace hHeld := And.intro (raw_keep hHeld.1 HCU.out (by decide) hk_) (raw_keep hHeld.2 HCU.out (by decide) hk_)
       have n0_ := Aside0.mk (raw_keep BM.out HCU.out (by decide) hk_); have n1_ := Aside0.mk (BC.out.keep HCU.out hk_); have n2_ := Aside0.mk (R_keep HM.out HCU.out (by decide) hk_); have n3_ := Aside0.mk (R_keep HEV.out HCU.out (by decide) hk_); have n4_ := Aside0.mk (hcu_); have n5_ := Aside0.mk (hb0_); have n6_ := Aside0.mk (KeepBut.trans HK.out hk_ (.inl rfl)); clear BM BC HM HEV HCU HB0 HK; have BM := n0_; have BC := n1_; have HM := n2_; have HEV := n3_; have HCU := n4_; have HB0 := n5_; have HK := n6_; clear n0_ n1_ n2_ n3_ n4_ n5_ n6_
       clear hcu_ hb0_ hk_
       refine hK.out _ _ hHeld (fun h_ => ?_)
       clear hK K h_
       refine norm_ (a' := ?_) ?_ ?_
       rotate_left
       · show Act.put _ (some 17) _ = _
         simp only [Act.put, List.setIfInBounds_toArray, List.set_cons_zero, List.set_cons_succ, i64_w, i32_w]
         rfl
       obtain ⟨N, hw, hN_⟩ := n_of hx_
       have HN := Aside0.mk hN_
       clear hx_ hN_
       have hw2 := True.intro
       have k1 := True.intro
       have k2 := True.intro
       refine pure_ (i := 6) (N := some 18) (v := .int .i64 (N : Int)) (a' := ?_) #[true, true, true, true, true, true, true, false, false, false] rfl rfl (by kernel_rfl) (fun _ _ _ h => h) (Or.inl ⟨by rfl, ?_⟩) ?_ ?_
       · intro w'
         go_simp
         first | done | rfl | (simp only [i64_w, hw, hw2]; done) | (simp [hw, hw2, k1, k2]; done)
       rotate_left
       · simp only [Act.put, List.setIfInBounds_toArray, List.set_cons_zero, List.set_cons_succ, i64_w, i32_w]
         rfl
       clear hw hw2 k1 k2
       refine one_ (i := 7) (N := some 19) #[true, true, true, true, true, true, true, true, false, false] rfl rfl (by kernel_rfl) (by decide) (fun K hK => ?_)
       refine goes_ Try.func14 (by kernel_rfl) rfl #[.agg #[.int .u8 Ac, .int .u8 X0, .int .u8 Y0, .int .u8 S0, .int .u16 P0, .bool e0, .bool e1, .bool e2, .bool e3, .bool e4, .bool e5], .agg #[.slice Am mem.length cm], .slice Ae ev.length ce, .int .i64 (N : Int)] (by rfl) rfl rfl (by (try simp only [List.map_toArray, List.map_cons, List.map_nil]); first | done | rfl) ?_
       refine (Run.any _ _ _ _ _ _ _ _ _ _ _ _ Am cm mem Ae ce ev N HCC.out (Kd.R_reads' HM.out).2.2 (Kd.R_reads' HM.out).2.1 HMK.out HMB.out (Kd.R_reads' HEV.out).2.2 (Kd.R_reads' HEV.out).2.1 (by have := HEL.out; omega) (by have := HN.out; omega)).mono ?_
       rintro e w1 ⟨A, X, Y, S, p, f0, f1, f2, f3, f4, f5, vm, vt, vs, vc, j, rfl, hrun_, hb_⟩
       refine ⟨_, rfl, ?_⟩
       replace hHeld := And.intro (blk_below hHeld.1 hb_) (blk_below hHeld.2 hb_)
       have HRU := Aside0.mk (hrun_.lower HK.out.1)
       have n0_ := Aside0.mk (blk_below BM.out hb_); have n1_ := Aside0.mk (BC.out.below_ hb_); have n2_ := Aside0.mk (Kd.R_below HM.out hb_); have n3_ := Aside0.mk (Kd.R_below HEV.out hb_); have n4_ := Aside0.mk (HCU.out.below_ hb_); have n5_ := Aside0.mk (below_step HB0.out hb_); have n6_ := Aside0.mk (keep_below_ HK.out hb_); clear BM BC HM HEV HCU HB0 HK; have BM := n0_; have BC := n1_; have HM := n2_; have HEV := n3_; have HCU := n4_; have HB0 := n5_; have HK := n6_; clear n0_ n1_ n2_ n3_ n4_ n5_ n6_
       clear hrun_ hb_
       refine hK.out _ _ hHeld (fun h_ => ?_)
       clear hK K h_
       refine norm_ (a' := ?_) ?_ ?_
       rotate_left
       · show Act.put _ (some 19) _ = _
         simp only [Act.put, List.setIfInBounds_toArray, List.set_cons_zero, List.set_cons_succ, i64_w, i32_w]
         rfl
       obtain ⟨Am2, nm2, cm2, At, nt, ct, As2, ns2, cs2, Ak2, nk2, ck2, rfl, rfl, rfl, rfl, hnt_⟩ := HRU.out.forms
       clear hnt_
       refine pure_ (i := 8) (N := some 20) (v := .slice At nt ct) (a' := ?_) #[true, true, true, true, true, true, true, true, true, false] rfl rfl (by kernel_rfl) (fun _ _ _ h => h) (Or.inl ⟨by rfl, ?_⟩) ?_ ?_
       · intro w'
         kernel_rfl
       rotate_left
       · simp only [Act.put, List.setIfInBounds_toArray, List.set_cons_zero, List.set_cons_succ, i64_w, i32_w]
         rfl
       refine pure_ (i := 9) (N := some 5) (v := ?_) (a' := ?_) #[true, true, true, true, true, true, true, true, true, true] rfl rfl (by kernel_rfl) (fun _ _ _ h => h) (Or.inl ⟨by rfl, ?_⟩) ?_ ?_
       rotate_left
       · intro w'
         go_simp
         with_reducible rfl
       rotate_left
       · simp only [Act.put, List.setIfInBounds_toArray, List.set_cons_zero, List.set_cons_succ, i64_w, i32_w]
         rfl
       refine done_ (by kernel_rfl) ?_
       clear hHeld
       obtain ⟨-, _, tr, _, _, -, -, -, ht_, htt_, -, -, -, hl_, -⟩ := HRU.out
       have hl2_ := len400 hl_ HN.out
       have HT := Aside0.mk ht_
       have HTT := Aside0.mk htt_
       have HTL := Aside0.mk hl2_
       clear ht_ htt_ hl_ hl2_ hbc hds_ HRU BC BM HM HMK HMB HEV HEL HCC hA0 hX0 hY0 hS0 hP0 GC G4 HN
       obtain ⟨rfl, -⟩ := Kd.R_reads' HT.out
       rcases Nat.eq_zero_or_pos tr.length with hz | hz
       have c1 := dec0 hz
       have c1b := dec0b hz
       clear hz
       rotate_left
       have c1 := dec1 hz
       have c1b : decide (0 < tr.length) = true := decide_eq_true hz
       have HP := Aside0.mk hz
       obtain ⟨gs, ct, heq_, hgs_, -⟩ := Kd.R_form HT.out hz
       injection heq_ with q1_ q2_ q3_
       subst q1_ q3_
       have GG := Aside0.mk hgs_
       clear hz q2_ hgs_
       all_goals (go_step; go_step; go_step; go_step))
    | (go_at_call 24; refine (l01Once.cur w0 _ gc 4 HCU.out HB0.out).mono ?_; rintro e w1 ⟨x_, rfl, hcu_, hb0_, hk_⟩; have n0_ := Aside0.mk (R_keep HT.out HCU.out (by decide) hk_); have n1_ := Aside0.mk (hcu_); have n2_ := Aside0.mk (hb0_); have n3_ := Aside0.mk (KeepBut.trans HK.out hk_ (.inl rfl)); clear HT HCU HB0 HK; have HT := n0_; have HCU := n1_; have HB0 := n2_; have HK := n3_; clear n0_ n1_ n2_ n3_; clear hcu_ hb0_ hk_)
    | (go_at_call 16; (with_reducible refine gate_below3 ?_); refine (l01Below.cur w0 _ gc 3 HCU.out HB0.out).mono ?_; rintro e w1 ⟨y_, rfl, hy_, hcu_, hb0_, hk_⟩; clear hy_; have n0_ := Aside0.mk (R_keep HT.out HCU.out (by decide) hk_); have n1_ := Aside0.mk (hcu_); have n2_ := Aside0.mk (hb0_); have n3_ := Aside0.mk (KeepBut.trans HK.out hk_ (.inl rfl)); clear HT HCU HB0 HK; have HT := n0_; have HCU := n1_; have HB0 := n2_; have HK := n3_; clear n0_ n1_ n2_ n3_; clear hcu_ hb0_ hk_)
    | (go_at_call 16; refine (l01Below.cur w0 _ gc (tr.length : Int) HCU.out HB0.out).mono ?_; rintro e w1 ⟨x_, rfl, hx_, hcu_, hb0_, hk_⟩; obtain ⟨u, rfl, hu_⟩ := below_nat hx_ HP.out; have HU := Aside0.mk hu_; have z1 : (u < tr.length) = True := eq_true HU.out; clear hx_ hu_; have n0_ := Aside0.mk (R_keep HT.out HCU.out (by decide) hk_); have n1_ := Aside0.mk (hcu_); have n2_ := Aside0.mk (hb0_); have n3_ := Aside0.mk (KeepBut.trans HK.out hk_ (.inl rfl)); clear HT HCU HB0 HK; have HT := n0_; have HCU := n1_; have HB0 := n2_; have HK := n3_; clear n0_ n1_ n2_ n3_; clear hcu_ hb0_ hk_)
    | (go_at_call 33; refine (l02Byte.cur w0 _ gc HCU.out HB0.out).mono ?_; rintro e w1 ⟨b_, rfl, hrb_, hcu_, hb0_, hk_⟩; have HRB := Aside0.mk hrb_; clear hrb_; have n0_ := Aside0.mk (R_keep HT.out HCU.out (by decide) hk_); have n1_ := Aside0.mk (hcu_); have n2_ := Aside0.mk (hb0_); have n3_ := Aside0.mk (KeepBut.trans HK.out hk_ (.inl rfl)); clear HT HCU HB0 HK; have HT := n0_; have HCU := n1_; have HB0 := n2_; have HK := n3_; clear n0_ n1_ n2_ n3_; clear hcu_ hb0_ hk_)
    | ((with_reducible refine gate_st (t := 5) rfl ?_); refine cyc_st1 rfl rfl (i := u) (p := u * 3 + 1) rfl rfl rfl HRB.out HT.out HU.out GG.out HW.out HCU.out HB0.out HK.out HTT.out HTL.out ?_; intro w1 tr2 ht_ hl_ htt_ hcu_ hb0_ hk_; clear HT HCU HB0 HK HTT HTL HP; have HT := Aside0.mk ht_; have HTT := Aside0.mk htt_; have HTL := Aside0.mk hl_; have HCU := Aside0.mk hcu_; have HB0 := Aside0.mk hb0_; have HK := Aside0.mk hk_; clear ht_ htt_ hl_ hcu_ hb0_ hk_)
    | ((with_reducible refine gate_st (t := 4) rfl ?_); refine cyc_st2 rfl rfl (i := u) (p := u * 3 + 2) rfl rfl rfl HT.out HU.out GG.out HW.out HCU.out HB0.out HK.out HTT.out HTL.out ?_; intro w1 tr2 ht_ hl_ htt_ hcu_ hb0_ hk_; clear HT HCU HB0 HK HTT HTL HP; have HT := Aside0.mk ht_; have HTT := Aside0.mk htt_; have HTL := Aside0.mk hl_; have HCU := Aside0.mk hcu_; have HB0 := Aside0.mk hb0_; have HK := Aside0.mk hk_; clear ht_ htt_ hl_ hcu_ hb0_ hk_)
    | ((with_reducible refine gate_load (t := 4) rfl ?_); refine cyc_ld2 (i := u) (p := u * 3 + 2) HT.out HU.out rfl rfl rfl rfl ?_; intro _)
    | ((with_reducible refine gate_region (id := 8) ?_)
       obtain ⟨cells, hblk_⟩ := cyc_blk HT.out HP.out
       have HC0 := Aside0.mk ((blk_cell hblk_ (u * 3)).symm.trans (cyc_cell HT.out u HU.out 0 (by decide)))
       have hw := True.intro
       have hw2 := True.intro
       have k1 := True.intro
       have k2 := True.intro
       refine start_k (n := 15) (S := fun w' => w'.heap[gs]? = some (.cells cells 55 (0, 0))) (ds := [14]) #[false, false, false, false, false, false, false, false, false, false, false, false, false, false, false] (by kernel_rfl) rfl rfl hblk_ (fun w1 he hs => by rw [he]; exact hs) ?_
       intro w1 hHeld hb_
       have n0_ := Aside0.mk (Kd.R_below HT.out hb_); have n1_ := Aside0.mk (HCU.out.below_ hb_); have n2_ := Aside0.mk (below_step HB0.out hb_); have n3_ := Aside0.mk (keep_below_ HK.out hb_); clear HT HCU HB0 HK; have HT := n0_; have HCU := n1_; have HB0 := n2_; have HK := n3_; clear n0_ n1_ n2_ n3_
       clear hb_
       refine pure_ (i := 0) (N := some 46) (v := .slice (some ⟨gs, 0, none⟩) tr.length ct) (a' := ?_) #[true, false, false, false, false, false, false, false, false, false, false, false, false, false, false] rfl rfl (by kernel_rfl) (fun _ _ _ h => h) (Or.inl ⟨by rfl, ?_⟩) ?_ ?_
       · intro w'
         go_simp
         first | done | rfl | (simp only [i64_w, hw, hw2]; done) | (simp [hw, hw2, k1, k2]; done)
       rotate_left
       · simp only [Act.put, List.setIfInBounds_toArray, List.set_cons_zero, List.set_cons_succ, i64_w, i32_w]
         rfl
       refine pure_ (i := 1) (N := some 47) (v := .int .i64 (u : Int)) (a' := ?_) #[true, true, false, false, false, false, false, false, false, false, false, false, false, false, false] rfl rfl (by kernel_rfl) (fun _ _ _ h => h) (Or.inl ⟨by rfl, ?_⟩) ?_ ?_
       · intro w'
         go_simp
         first | done | rfl | (simp only [i64_w, hw, hw2]; done) | (simp [hw, hw2, k1, k2]; done)
       rotate_left
       · simp only [Act.put, List.setIfInBounds_toArray, List.set_cons_zero, List.set_cons_succ, i64_w, i32_w]
         rfl
       refine pure_ (i := 2) (N := some 48) (v := .slice (some ⟨gs, 0, none⟩) tr.length ct) (a' := ?_) #[true, true, true, false, false, false, false, false, false, false, false, false, false, false, false] rfl rfl (by kernel_rfl) (fun _ _ _ h => h) (Or.inl ⟨by rfl, ?_⟩) ?_ ?_
       · intro w'
         go_simp
         first | done | rfl | (simp only [i64_w, hw, hw2]; done) | (simp [hw, hw2, k1, k2]; done)
       rotate_left
       · simp only [Act.put, List.setIfInBounds_toArray, List.set_cons_zero, List.set_cons_succ, i64_w, i32_w]
         rfl
       refine pure_ (i := 3) (N := some 49) (v := .int .i64 (u : Int)) (a' := ?_) #[true, true, true, true, false, false, false, false, false, false, false, false, false, false, false] rfl rfl (by kernel_rfl) (fun _ _ _ h => h) (Or.inl ⟨by rfl, ?_⟩) ?_ ?_
       · intro w'
         go_simp
         first | done | rfl | (simp only [i64_w, hw, hw2]; done) | (simp [hw, hw2, k1, k2]; done)
       rotate_left
       · simp only [Act.put, List.setIfInBounds_toArray, List.set_cons_zero, List.set_cons_succ, i64_w, i32_w]
         rfl
       refine pure_ (i := 4) (N := some 50) (v := .pointer (some ⟨gs, u * 3, none⟩)) (a' := ?_) #[true, true, true, true, true, false, false, false, false, false, false, false, false, false, false] rfl rfl (by kernel_rfl) (fun _ _ _ h => h) (Or.inl ⟨by rfl, ?_⟩) ?_ ?_
       · intro w'
         go_simp
         first | done | rfl | (simp only [i64_w, hw, hw2]; done) | (simp [hw, hw2, k1, k2]; done)
       rotate_left
       · simp only [Act.put, List.setIfInBounds_toArray, List.set_cons_zero, List.set_cons_succ, i64_w, i32_w]
         rfl
       refine pure_ (i := 5) (N := some 51) (v := .pointer (some ⟨gs, u * 3, none⟩)) (a' := ?_) #[true, true, true, true, true, true, false, false, false, false, false, false, false, false, false] rfl rfl (by kernel_rfl) (fun _ _ _ h => h) (Or.inl ⟨by rfl, ?_⟩) ?_ ?_
       · intro w'
         go_simp
         first | done | rfl | (simp only [i64_w, hw, hw2]; done) | (simp [hw, hw2, k1, k2]; done)
       rotate_left
       · simp only [Act.put, List.setIfInBounds_toArray, List.set_cons_zero, List.set_cons_succ, i64_w, i32_w]
         rfl
       refine take_ (i := 6) (N := some 52) (v := .int .u16 (tr.getD u z55).f0) (a' := ?_) #[true, true, true, true, true, true, true, false, false, false, false, false, false, false, false] rfl rfl (by kernel_rfl) (fun _ _ _ h => h) (Or.inl ⟨by rfl, ?_⟩) hHeld ?_ ?_
       · rintro w' s0
         have t0 : w'.cell? ⟨gs, u * 3, none⟩ = some (.int .u16 (tr.getD u z55).f0) := (blk_cell s0 (u * 3)).trans HC0.out
         go_simp
         first | done | rfl | (simp only [i64_w, hw, hw2]; done) | (simp [hw, hw2, k1, k2]; done)
       rotate_left
       · simp only [Act.put, List.setIfInBounds_toArray, List.set_cons_zero, List.set_cons_succ, i64_w, i32_w]
         rfl
       refine pure_ (i := 7) (N := some 53) (v := ?_) (a' := ?_) #[true, true, true, true, true, true, true, true, false, false, false, false, false, false, false] rfl rfl (by kernel_rfl) (fun _ _ _ h => h) (Or.inl ⟨by rfl, ?_⟩) ?_ ?_
       rotate_left
       · intro w'
         go_simp
         with_reducible rfl
       rotate_left
       · simp only [Act.put, List.setIfInBounds_toArray, List.set_cons_zero, List.set_cons_succ, i64_w, i32_w]
         rfl
       refine one_ (i := 8) (N := some 54) #[true, true, true, true, true, true, true, true, true, false, false, false, false, false, false] rfl rfl (by kernel_rfl) (by decide) (fun K hK => ?_)
       refine Kd.R_lit_step (Kd.int .i64) _ 3 (by rfl) (N := 54) rfl (xs := [1, 256, 65535]) (inner := [.int .i64 1, .int .i64 256, .int .i64 65535]) (ok := fun _ => True) (okp := fun _ => True) ?hr (reps_ints .i64 _ _ _ [1, 256, 65535]) (fun _ hk => hk) trivial (Below.refl _ _) (Nat.le_refl _) (by simp) ?_
       case hr => first | (go_simp; done) | (go_simp; rfl)
       intro v0 w1 ho_ hb_ hg_ hnew_
       clear hg_ hnew_
       have HO := Aside0.mk ho_
       replace hHeld := blk_below hHeld hb_
       have n0_ := Aside0.mk (Kd.R_below HT.out hb_); have n1_ := Aside0.mk (HCU.out.below_ hb_); have n2_ := Aside0.mk (below_step HB0.out hb_); have n3_ := Aside0.mk (keep_below_ HK.out hb_); clear HT HCU HB0 HK; have HT := n0_; have HCU := n1_; have HB0 := n2_; have HK := n3_; clear n0_ n1_ n2_ n3_
       clear ho_ hb_
       refine hK.out _ _ hHeld (fun h_ => ?_)
       clear hK K h_
       refine norm_ (a' := ?_) ?_ ?_
       rotate_left
       · show Act.put _ (some 54) _ = _
         simp only [Act.put, List.setIfInBounds_toArray, List.set_cons_zero, List.set_cons_succ, i64_w, i32_w]
         rfl
       refine one_ (i := 9) (N := some 55) #[true, true, true, true, true, true, true, true, true, true, false, false, false, false, false] rfl rfl (by kernel_rfl) (by decide) (fun K hK => ?_)
       refine goes_ Try.func22 (by kernel_rfl) rfl #[.pointer (some ⟨gc, 0, none⟩), v0] (by rfl) rfl rfl (by (try simp only [List.map_toArray, List.map_cons, List.map_nil]); first | done | rfl) ?_
       refine (l01PickInt.cur w0 _ gc _ (by decide) HO.out HCU.out HB0.out).mono ?_
       rintro e w1 ⟨y2_, rfl, hy_, hcu_, hb0_, hk_⟩
       refine ⟨_, rfl, ?_⟩
       replace hHeld := raw_keep hHeld HCU.out (by decide) hk_
       have n0_ := Aside0.mk (R_keep HT.out HCU.out (by decide) hk_); have n1_ := Aside0.mk (hcu_); have n2_ := Aside0.mk (hb0_); have n3_ := Aside0.mk (KeepBut.trans HK.out hk_ (.inl rfl)); clear HT HCU HB0 HK; have HT := n0_; have HCU := n1_; have HB0 := n2_; have HK := n3_; clear n0_ n1_ n2_ n3_
       clear hcu_ hb0_ hk_ hy_ HO
       refine hK.out _ _ hHeld (fun h_ => ?_)
       clear hK K h_
       refine norm_ (a' := ?_) ?_ ?_
       rotate_left
       · show Act.put _ (some 55) _ = _
         simp only [Act.put, List.setIfInBounds_toArray, List.set_cons_zero, List.set_cons_succ, i64_w, i32_w]
         rfl
       refine pure_ (i := 10) (N := some 56) (v := ?_) (a' := ?_) #[true, true, true, true, true, true, true, true, true, true, true, false, false, false, false] rfl rfl (by kernel_rfl) (fun _ _ _ h => h) (Or.inl ⟨by rfl, ?_⟩) ?_ ?_
       rotate_left
       · intro w'
         go_simp
         with_reducible rfl
       rotate_left
       · simp only [Act.put, List.setIfInBounds_toArray, List.set_cons_zero, List.set_cons_succ, i64_w, i32_w]
         rfl
       refine pure_ (i := 11) (N := some 57) (v := ?_) (a' := ?_) #[true, true, true, true, true, true, true, true, true, true, true, true, false, false, false] rfl rfl (by kernel_rfl) (fun _ _ _ h => h) (Or.inl ⟨by rfl, ?_⟩) ?_ ?_
       rotate_left
       · intro w'
         go_simp
         with_reducible rfl
       rotate_left
       · simp only [Act.put, List.setIfInBounds_toArray, List.set_cons_zero, List.set_cons_succ, i64_w, i32_w]
         rfl
       refine pure_ (i := 12) (N := some 58) (v := .pointer (some ⟨gs, u * 3, none⟩)) (a' := ?_) #[true, true, true, true, true, true, true, true, true, true, true, true, true, false, false] rfl rfl (by kernel_rfl) (fun _ _ _ h => h) (Or.inl ⟨by rfl, ?_⟩) ?_ ?_
       · intro w'
         go_simp
         first | done | rfl | (simp only [i64_w, hw, hw2]; done) | (simp [hw, hw2, k1, k2]; done)
       rotate_left
       · simp only [Act.put, List.setIfInBounds_toArray, List.set_cons_zero, List.set_cons_succ, i64_w, i32_w]
         rfl
       refine pure_ (i := 13) (N := some 59) (v := .pointer (some ⟨gs, u * 3, none⟩)) (a' := ?_) #[true, true, true, true, true, true, true, true, true, true, true, true, true, true, false] rfl rfl (by kernel_rfl) (fun _ _ _ h => h) (Or.inl ⟨by rfl, ?_⟩) ?_ ?_
       · intro w'
         go_simp
         first | done | rfl | (simp only [i64_w, hw, hw2]; done) | (simp [hw, hw2, k1, k2]; done)
       rotate_left
       · simp only [Act.put, List.setIfInBounds_toArray, List.set_cons_zero, List.set_cons_succ, i64_w, i32_w]
         rfl
       refine last_ (i := 14) (N := none) #[true, true, true, true, true, true, true, true, true, true, true, true, true, true, true] rfl rfl (by kernel_rfl) (by decide) (fun K hK => ?_)
       refine cyc_step0 (by rfl) rfl (i := u) (p := u * 3) rfl rfl rfl rfl (by first | assumption | exact RP_mod _ | exact RP_wrap _ | (unfold RP; omega)) HT.out HU.out GG.out HW.out HCU.out HB0.out HK.out HTT.out HTL.out ?_
       intro w1 tr2 ht_ hl_ htt_ hcu_ hb0_ hk_
       refine hK.out _ _ ?_
       clear hK K hHeld HC0 hw hw2 k1 k2
       clear HT HCU HB0 HK HTT HTL HP; have HT := Aside0.mk ht_; have HTT := Aside0.mk htt_; have HTL := Aside0.mk hl_; have HCU := Aside0.mk hcu_; have HB0 := Aside0.mk hb0_; have HK := Aside0.mk hk_; clear ht_ htt_ hl_ hcu_ hb0_ hk_
       refine done_ (by kernel_rfl) ?_)
    | ((with_reducible refine gate_ret ?_); refine bodyPost_ret (results_tmp rfl _ _ _) rfl ?_; exact ⟨_, _, rfl, ⟨HT.out, HTT.out, HTL.out⟩, HCU.out, HB0.out, HK.out⟩))
end Go.Proofs.Ytafkbhnhmhmjcaa.Weak
end
section
set_option linter.unusedVariables false
set_option linter.unusedSimpArgs false
namespace Go.Proofs.Ytafkbhnhmhmjcaa.Weak
open Go.RowKit Go.Proofs.YtafkbhnhmhmjcaaW.PrintWords Go.Proofs.YtafkbhnhmhmjcaaW.PrintLast Go.Proofs.YtafkbhnhmhmjcaaW.PrintMore Go.Proofs.Ytafkbhnhmhmjcaa.PRun Go.Proofs.Ytafkbhnhmhmjcaa.DrawRun
set_option maxHeartbeats 8000000 in
set_option maxRecDepth 100000 in
theorem DrawWindow.any (w : World) (A0 : Option Addr) (c0 : Nat) (l : List Int) (hr : Kd.C (Kd.int .u8) w A0 l.length l) (hc0 : l.length ≤ c0) (hl : l.length ≤ 1048576) : Calls Try.prog 8 #[.slice A0 l.length c0] w fun e w1 => ∃ v tr x y, e = .returned (.tuple #[v, .int .i64 x, .int .i64 y]) ∧ (Kd.R k55 55 w1 w.heap.size (fun _ => True) v tr ∧ tr.length ≤ 400) ∧ Below w.heap.size w w1 := by
  have HR := Aside0.mk hr
  have HC := Aside0.mk hc0
  have HLL := Aside0.mk hl
  have HB0 := Aside0.mk (Below.refl w.heap.size w)
  have HW := Aside0.mk (Nat.le_refl w.heap.size)
  clear hr hc0 hl
  go_enter Try.func8, Try.ntmps8
  go_wp2_with (first
    | (go_at_call 12; refine (l01New.cur w A0 c0 l HR.out HC.out HLL.out _ HB0.out).mono ?_; rintro e w1 ⟨gc, rfl, hcu_, hb0_, hb_⟩; have n0_ := Aside0.mk (below_step HB0.out hb_); clear HB0; have HB0 := n0_; clear n0_; have HCU := Aside0.mk hcu_; clear hcu_ hb0_ hb_)
    | (go_at_call 18; refine (l08Trace.cur w _ gc HCU.out HB0.out).mono ?_; rintro e w1 ⟨v, tr, rfl, ht_, hcu_, hb0_, hk_⟩; have HT := Aside0.mk (Kd.R_lower ht_.1 HB0.out.size); have HTL := Aside0.mk ht_.2.2; clear ht_; have n0_ := Aside0.mk (hcu_); have n1_ := Aside0.mk (hb0_); clear HCU HB0; have HCU := n0_; have HB0 := n1_; clear n0_ n1_; clear hcu_ hb0_ hk_; obtain ⟨At, ct, rfl⟩ := Kd.R_slice HT.out)
    | (go_at_call 16; refine (l01Below.cur w _ gc _ HCU.out HB0.out).mono ?_; rintro e w1 ⟨x_, rfl, hx_, hcu_, hb0_, hk_⟩; clear hx_; have n0_ := Aside0.mk (R_keep HT.out HCU.out (by decide) hk_); have n1_ := Aside0.mk (hcu_); have n2_ := Aside0.mk (hb0_); clear HT HCU HB0; have HT := n0_; have HCU := n1_; have HB0 := n2_; clear n0_ n1_ n2_; clear hcu_ hb0_ hk_)
    | ((with_reducible refine gate_ret ?_); refine bodyPost_ret (results_list rfl (by simp) (.tmp (.tmp (.tmp .nil)))) rfl ?_; exact ⟨_, tr, _, _, rfl, ⟨HT.out, HTL.out⟩, HB0.out⟩))
end Go.Proofs.Ytafkbhnhmhmjcaa.Weak
end
section
set_option linter.unusedVariables false
namespace Go.Proofs.Ytafkbhnhmhmjcaa.PRun
open Go.RowKit Go.Proofs.YtafkbhnhmhmjcaaW.PrintWords Go.Proofs.YtafkbhnhmhmjcaaW.PrintLast Go.Proofs.YtafkbhnhmhmjcaaW.PrintMore
attribute [local go_sem] max2_int min2_int max_two min_two
theorem part_reads {w : World} {ad : Addr} {l : List S55} {a n : Nat} (h : Kd.C k55 w (some ad) l.length l) (hn : a + n ≤ l.length) : Kd.C k55 w (some (ad.add (a * 3))) n ((l.drop a).take n) := by
  obtain ⟨h1, h2, h3⟩ := h
  refine ⟨by simp; omega, by omega, fun hp => ⟨_, rfl, ?_⟩⟩
  intro j p hj
  obtain ⟨ad', e, hc⟩ := h3 (by omega)
  cases e
  have hjn : j < n := by
    have := (List.getElem?_eq_some_iff.1 hj).1
    simp at this; omega
  rw [List.getElem?_take_of_lt hjn, List.getElem?_drop] at hj
  obtain ⟨c, hc1, hc2, hc3⟩ := hc (a + j) p hj
  refine ⟨c, hc1, hc2, fun i u hu => ?_⟩
  rw [add_add]
  have := hc3 i u hu
  rw [show (a * 3 + (j * k55.sz + i)) = ((a + j) * k55.sz + i) by rw [show k55.sz = 3 from rfl, Nat.add_mul]; omega]
  exact this
set_option maxHeartbeats 2000000 in
set_option maxRecDepth 100000 in
theorem clone_calls (ad : Addr) (n c0 : Nat) (l0 : List S55) (w : World) (hr0 : Kd.C k55 w (some ad) n l0) (hb : n ≤ 8000000000) :
    Calls Try.prog 19 #[.slice (some ad) n c0] w fun e w' => ∃ v0_ : Value, e = .returned v0_ ∧ Kd.R k55 55 w' w.heap.size (fun _ => True) v0_ l0 ∧ Below w.heap.size w w' := by
  have HB := Aside0.mk (Below.refl w.heap.size w)
  have HR := Aside0.mk hr0
  have HL := Aside0.mk hb
  clear hr0 hb
  have heq : ∀ (w : World) (a : Option Addr) (n c n' c' : Nat), (binOp .eql 31 (.slice a n c) (.slice none n' c')).run Try.prog w = .ok (.bool a.isNone) w := fun w a n c n' c' => Lib.run_eql_slice_nil w _ _ a n c n' c' Try.underlying31
  go_enter Try.func19, Try.ntmps19
  go_wp2_with (first | ((with_reducible refine gate_dst (N := 5) rfl ?_); refine Kd.R_lit k55 _ 55 ?hg (N := 5) ?hd (xs := ([] : List (S55))) (inner := []) (ok := fun _ => True) (okp := fun _ => True) ?hr ?hp (fun _ hk => hk) trivial (Below.refl _ _) (Nat.le_refl _) (by simp) ?_; (case hd => rfl); (case hg => rfl); (case hr => first | (go_simp; done) | (go_simp; rfl)); (case hp => exact (Reps.none _ _)); intro v102 w4 ho5 hb hg_ hnew_; clear hg_ hnew_; have n0_ := Aside0.mk (Kd.R_lower ho5 (below_size (by repeat (first | (with_reducible first | exact HB.out | apply below_alloc | apply pw_below_drewN | apply below_drew1) | exact HB.out)))); have n1_ := Aside0.mk (below_step (by repeat (first | (with_reducible first | exact HB.out | apply below_alloc | apply pw_below_drewN | apply below_drew1) | exact HB.out)) hb); have n2_ := Aside0.mk (Kd.C_below HR.out (show Below w.heap.size w w4 from n1_.out)); clear HB HR; have HO := n0_; have HB := n1_; have HR := n2_; clear n0_ n1_ n2_; clear hb ho5) | ((with_reducible refine gate_dst (N := 7) rfl ?_); refine Kd.R_append_rows (Rr := fun x cs => k55.K w4 x cs) (w0 := w) k55 w.heap.size rfl _ _ 31 55 (.agg #[.int .u16 0, .int .u8 0, .bool false]) 4 rfl Try.underlying31 (by kernel_rfl) (by rfl) (by decide) (by decide) v102 [] l0 (some ad) n c0 (fun _ => True) (fun _ => False) rfl rfl HO.out HR.out (fun x cs hK => by rw [k55_open hK]; exact k55_mkM _ _ _ x) (fun _ hk => hk.elim) (fun _ _ => trivial) HB.out HB.out.size (by have := HL.out; simp; omega) ?_; intro v1 w1 HO1 HB1 _ _; have HO2 := Aside0.mk HO1; have HB2 := Aside0.mk HB1; clear HO1 HB1))
  try go_wp2
  go_ret
  exact ⟨_, rfl, by simpa using HO2.out, HB2.out⟩
def impl_Window.f (l : List S55) (x y : Int) : Option (List S55) := if mx 0 x ≥ mn y (l.length : Int) then some [] else if l.length ≤ 8000000000 then some ((l.drop (mx 0 x).toNat).take ((mn y (l.length : Int)) - mx 0 x).toNat) else none
set_option maxHeartbeats 2000000 in
set_option maxRecDepth 100000 in
theorem impl_Window.calls (A0 : Option Addr) (c0 : Nat) (l0 : List S55) (a1 a2 : Int) (r : List S55) (w : World) (hr0 : Kd.C k55 w A0 l0.length l0) (hc0 : l0.length ≤ c0) (h : impl_Window.f l0 a1 a2 = some r) :
    Calls Try.prog 9 #[.slice A0 l0.length c0, .int .i64 a1, .int .i64 a2] w fun e w' => ∃ v0_ : Value, e = .returned v0_ ∧ Kd.R k55 55 w' w.heap.size (fun _ => True) v0_ r ∧ Below w.heap.size w w' := by
  unfold impl_Window.f at h
  have mx1 : (if 0 < a1 then a1 else 0) = mx 0 a1 := rfl
  have mn1 : (if (l0.length : Int) < a2 then (l0.length : Int) else a2) = mn a2 (l0.length : Int) := rfl
  have n1 : 0 ≤ mx 0 a1 := by unfold mx; split <;> omega
  have n2 : mn a2 (l0.length : Int) ≤ (l0.length : Int) := by unfold mn; split <;> omega
  generalize mx 0 a1 = x at mx1 n1 h
  generalize mn a2 (l0.length : Int) = y at mn1 n2 h
  by_cases hxy : x ≥ y
  · rw [if_pos hxy] at h
    obtain rfl := Option.some.inj h
    have c1 : decide (y ≤ x) = true := decide_eq_true hxy
    clear h
    go_enter Try.func9, Try.ntmps9
    go_wp2
    go_ret
    exact ⟨_, rfl, Kd.R_nil _ _ _ _ _, Below.refl _ _⟩
  · rw [if_neg hxy] at h
    by_cases hl : l0.length ≤ 8000000000
    · rw [if_pos hl] at h
      obtain rfl := Option.some.inj h
      have c1 : decide (y ≤ x) = false := decide_eq_false hxy
      clear h
      obtain ⟨xn, rfl⟩ : ∃ xn : Nat, x = (xn : Int) := ⟨x.toNat, by omega⟩
      obtain ⟨yn, rfl⟩ : ∃ yn : Nat, y = (yn : Int) := ⟨y.toNat, by omega⟩
      have b1 : xn < yn := by omega
      have b2 : yn ≤ l0.length := by omega
      have b3 : yn ≤ c0 := by omega
      have b4 : xn ≠ c0 := by omega
      obtain ⟨ad, rfl⟩ : ∃ ad, A0 = some ad := by
        obtain ⟨_, _, h3⟩ := hr0
        obtain ⟨ad, e, _⟩ := h3 (by omega)
        exact ⟨ad, e⟩
      have HC := Aside0.mk (part_reads (a := xn) (n := yn - xn) hr0 (by omega))
      clear hr0 hxy
      go_enter Try.func9, Try.ntmps9
      go_wp2_with (fail)
      refine (clone_calls (ad.add (xn * 3)) (yn - xn) (c0 - xn) _ _ HC.out (by omega)).mono ?_
      rintro e w1 ⟨v0, rfl, HO, HB⟩
      have HO2 := Aside0.mk HO
      have HB2 := Aside0.mk HB
      clear HO HB
      go_wp2
      go_ret
      refine ⟨_, rfl, ?_, HB2.out⟩
      have e1 : ((xn : Int)).toNat = xn := by omega
      have e2 : ((yn : Int) - (xn : Int)).toNat = yn - xn := by omega
      rw [e1, e2]
      exact HO2.out
    · rw [if_neg hl] at h
      exact absurd h (by simp)
end Go.Proofs.Ytafkbhnhmhmjcaa.PRun
end
