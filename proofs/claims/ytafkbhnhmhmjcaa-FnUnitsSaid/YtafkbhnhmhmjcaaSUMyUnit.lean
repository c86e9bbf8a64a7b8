import Derived.Test.YtafkbhnhmhmjcaaSUMyLoop
import Derived.Test.YtafkbhnhmhmjcaaSUMyMach
set_option linter.unusedVariables false
set_option linter.unusedSimpArgs false
namespace Go.Proofs.Ytafkbhnhmhmjcaa.Weak
open Go.RowKit Go.Proofs.YtafkbhnhmhmjcaaW.PrintWords Go.Proofs.YtafkbhnhmhmjcaaW.PrintLast Go.Proofs.YtafkbhnhmhmjcaaW.PrintMore Go.Proofs.Ytafkbhnhmhmjcaa.PRun Go.Proofs.Ytafkbhnhmhmjcaa.DrawRun
set_option maxHeartbeats 8000000 in
set_option maxRecDepth 100000 in
theorem DrawUnitAt.any (w : World) (A0 : Option Addr) (c0 : Nat) (l : List Int) (hr : Kd.C (Kd.int .u8) w A0 l.length l) (hc0 : l.length ≤ c0) (hl : l.length ≤ 1048576) : Calls Try.prog 6 #[.slice A0 l.length c0] w fun e w1 => UnitDrawn w e w1 := by
  have HR := Aside0.mk hr
  have HC := Aside0.mk hc0
  have HLL := Aside0.mk hl
  have HB0 := Aside0.mk (Below.refl w.heap.size w)
  have HW := Aside0.mk (Nat.le_refl w.heap.size)
  clear hr hc0 hl
  go_enter Try.func6, Try.ntmps6
  go_wp2_with (first
    | ((with_reducible refine gate_dst (N := 2) rfl ?_); refine box_event ?hg (N := 2) ?hd (cs := SLit 0 0 0 0 0 false false false false false false (.slice none 0 0) (.slice none 0 0) (.slice none 0 0) (.slice none 0 0) false) (t := 35) ?hr ?_; (case hd => rfl); (case hg => rfl); (case hr => first | (go_simp; done) | (go_simp; rfl)); intro g2 hg_ w1 hc_ hb_; have G2 := Aside0.mk (by rw [hg_]; exact HB0.out.size : w.heap.size ≤ g2); have n0_ := Aside0.mk (below_step HB0.out hb_); clear HB0; have HB0 := n0_; clear n0_; have B2 := Aside0.mk hc_; clear hb_ hc_ hg_)
    | (go_at_call 12; refine (l01New.cur w A0 c0 l HR.out HC.out HLL.out _ HB0.out).mono ?_; rintro e w1 ⟨gc, rfl, hcu_, hb0_, hb_⟩; have n0_ := Aside0.mk (blk_below B2.out hb_); have n1_ := Aside0.mk (below_step HB0.out hb_); clear B2 HB0; have B2 := n0_; have HB0 := n1_; clear n0_ n1_; have HCU := Aside0.mk hcu_; clear hcu_ hb0_ hb_)
    | (go_at_call 13; refine (l07Machine.any w _ gc HCU.out HB0.out).mono ?_; rintro e w1 ⟨ds_, vm, mem, rfl, hds_, hm_, hok_, hmb_, hcu_, hb0_, hk_⟩; have HM := Aside0.mk (Kd.R_lower hm_ HB0.out.size); have HMK := Aside0.mk hok_; have HMB := Aside0.mk hmb_; clear hm_ hok_ hmb_; have n0_ := Aside0.mk (raw_keep B2.out HCU.out (by decide) hk_); have n1_ := Aside0.mk (hcu_); have n2_ := Aside0.mk (hb0_); clear B2 HCU HB0; have B2 := n0_; have HCU := n1_; have HB0 := n2_; clear n0_ n1_ n2_; clear hcu_ hb0_ hk_; obtain ⟨Am, cm, rfl⟩ := Kd.R_slice HM.out)
    | ((with_reducible refine gate_dst (N := 5) rfl ?_); refine c_alloc rfl rfl rfl ?_; intro g hg_ w1 hc_ hb_; have GC := Aside0.mk (by rw [← hg_]; exact HB0.out.size : w.heap.size ≤ g); have n0_ := Aside0.mk (blk_below B2.out hb_); have n1_ := Aside0.mk (Kd.R_below HM.out hb_); have n2_ := Aside0.mk (HCU.out.below_ hb_); have n3_ := Aside0.mk (below_step HB0.out hb_); clear B2 HM HCU HB0; have B2 := n0_; have HM := n1_; have HCU := n2_; have HB0 := n3_; clear n0_ n1_ n2_ n3_; have BC := Aside0.mk hc_; clear hb_ hc_ hg_)
    | ((with_reducible refine gate_dst (N := 6) rfl ?_); refine box_event ?hg (N := 6) ?hd (cs := #[.slice none 0 0]) (t := 30) ?hr ?_; (case hd => rfl); (case hg => rfl); (case hr => first | (go_simp; done) | (go_simp; rfl)); intro g4 hg_ w1 hc_ hb_; have G4 := Aside0.mk (by rw [hg_]; exact HB0.out.size : w.heap.size ≤ g4); have n0_ := Aside0.mk (blk_below B2.out hb_); have n1_ := Aside0.mk (BC.out.below_ hb_); have n2_ := Aside0.mk (Kd.R_below HM.out hb_); have n3_ := Aside0.mk (HCU.out.below_ hb_); have n4_ := Aside0.mk (below_step HB0.out hb_); clear B2 BC HM HCU HB0; have B2 := n0_; have BC := n1_; have HM := n2_; have HCU := n3_; have HB0 := n4_; clear n0_ n1_ n2_ n3_ n4_; have BM := Aside0.mk hc_; clear hb_ hc_ hg_)
    | ((with_reducible refine gate_st (t := 28) rfl ?_); first | (refine c_stC rfl rfl rfl rfl (by assumption) BC.out ?_; intro w1 hc_ hk_ hb_; have n0_ := Aside0.mk (hc_); have n1_ := Aside0.mk ((hk_ _ (BC.out.ne_of B2.out (by decide))).trans B2.out); have n2_ := Aside0.mk ((hk_ _ (BC.out.ne_of BM.out (by decide))).trans BM.out); have n3_ := Aside0.mk (R_other HM.out (BC.out.choose_spec.1) (by decide) hk_); have n4_ := Aside0.mk (HCU.out.other (HCU.out.ne (BC.out.choose_spec.1) (by decide)) hk_); have n5_ := Aside0.mk (hb_ _ _ (Nat.le_trans HW.out GC.out) HB0.out); clear BC B2 BM HM HCU HB0; have BC := n0_; have B2 := n1_; have BM := n2_; have HM := n3_; have HCU := n4_; have HB0 := n5_; clear n0_ n1_ n2_ n3_ n4_ n5_; clear hc_ hk_ hb_))
    | ((with_reducible refine gate_st (t := 30) rfl ?_); first | (refine r_stEv rfl rfl rfl rfl (by rfl) BM.out ?_; intro w1 hc_ hk_ hb_; have n0_ := Aside0.mk (hc_); have n1_ := Aside0.mk ((hk_ _ (raw_ne B2.out BM.out (by decide))).trans B2.out); have n2_ := Aside0.mk (BC.out.other (BC.out.ne_of BM.out (by decide)).symm hk_); have n3_ := Aside0.mk (R_other HM.out (BM.out) (by decide) hk_); have n4_ := Aside0.mk (HCU.out.other (HCU.out.ne (BM.out) (by decide)) hk_); have n5_ := Aside0.mk (hb_ _ _ (Nat.le_trans HW.out G4.out) HB0.out); clear BM B2 BC HM HCU HB0; have BM := n0_; have B2 := n1_; have BC := n2_; have HM := n3_; have HCU := n4_; have HB0 := n5_; clear n0_ n1_ n2_ n3_ n4_ n5_; clear hc_ hk_ hb_))
    | ((with_reducible refine gate_region (id := 3) ?_)
       obtain ⟨cs0, hbc, hcc⟩ := BC.out
       have HCC := Aside0.mk hcc
       obtain ⟨Ac, X0, Y0, S0, P0, e0, e1, e2, e3, e4, e5, rfl, hA0, hX0, hY0, hS0, hP0⟩ := hcc
       refine start_k (n := 7) (S := fun w' => w'.heap[g]? = some (.cells #[.int .u8 Ac, .int .u8 X0, .int .u8 Y0, .int .u8 S0, .int .u16 P0, .bool e0, .bool e1, .bool e2, .bool e3, .bool e4, .bool e5] 28 (0, 0)) ∧ w'.heap[g4]? = some (.cells #[.slice Am mem.length cm] 30 (0, 0))) (ds := [6]) #[false, false, false, false, false, false, false] (by kernel_rfl) rfl rfl ⟨hbc, BM.out⟩ (fun w1 he hs => by rw [he]; exact hs) ?_
       intro w1 hHeld hb_
       have n0_ := Aside0.mk (blk_below B2.out hb_); have n1_ := Aside0.mk (blk_below BM.out hb_); have n2_ := Aside0.mk (BC.out.below_ hb_); have n3_ := Aside0.mk (Kd.R_below HM.out hb_); have n4_ := Aside0.mk (HCU.out.below_ hb_); have n5_ := Aside0.mk (below_step HB0.out hb_); clear B2 BM BC HM HCU HB0; have B2 := n0_; have BM := n1_; have BC := n2_; have HM := n3_; have HCU := n4_; have HB0 := n5_; clear n0_ n1_ n2_ n3_ n4_ n5_
       clear hb_
       refine take_ (i := 0) (N := some 15) (v := ?_) (a' := ?_) #[true, false, false, false, false, false, false] rfl rfl (by kernel_rfl) (fun _ _ _ h => h) (Or.inl ⟨by rfl, ?_⟩) hHeld ?_ ?_
       rotate_left
       · rintro w' ⟨s0, sb⟩
         refine (c_runC (x := .tmp 5) ?_ ?_ s0 HCC.out).trans ?_
         · rfl
         · rfl
         · rfl
       rotate_left
       · simp only [Act.put, List.setIfInBounds_toArray, List.set_cons_zero, List.set_cons_succ, i64_w, i32_w]
         rfl
       refine take_ (i := 1) (N := some 16) (v := ?_) (a' := ?_) #[true, true, false, false, false, false, false] rfl rfl (by kernel_rfl) (fun _ _ _ h => h) (Or.inl ⟨by rfl, ?_⟩) hHeld ?_ ?_
       rotate_left
       · rintro w' ⟨s0, sb⟩
         have t0 : w'.cell? ⟨g4, 0, none⟩ = some (.slice Am mem.length cm) := (blk_cell sb 0).trans rfl
         go_simp
         with_reducible rfl
       rotate_left
       · simp only [Act.put, List.setIfInBounds_toArray, List.set_cons_zero, List.set_cons_succ, i64_w, i32_w]
         rfl
       refine pure_ (i := 2) (N := some 17) (v := ?_) (a' := ?_) #[true, true, true, false, false, false, false] rfl rfl (by kernel_rfl) (fun _ _ _ h => h) (Or.inl ⟨by rfl, ?_⟩) ?_ ?_
       rotate_left
       · intro w'
         go_simp
         with_reducible rfl
       rotate_left
       · simp only [Act.put, List.setIfInBounds_toArray, List.set_cons_zero, List.set_cons_succ, i64_w, i32_w]
         rfl
       refine join_ (σ := Value × Array Value × Nat) 1 #[true, true, true, true, true, true, false] (fun s => [(18, s.1), (19, .agg s.2.1), (7, .pointer (some ⟨s.2.2, 0, none⟩))]) (fun s w' => (∃ A X Y S p f0 f1 f2 f3 f4 f5 vm vt vs vc j ln, s.2.1 = SLit A X Y S p f0 f1 f2 f3 f4 f5 vm vt vs vc j ∧ RunIs w w' ln 12 A X Y S p vm vt vs vc) ∧ (w'.heap[g2]? = some (.cells (SLit 0 0 0 0 0 false false false false false false (.slice none 0 0) (.slice none 0 0) (.slice none 0 0) (.slice none 0 0) false) 35 (0, 0)) ∧ w'.heap[s.2.2]? = some (.cells (SLit 0 0 0 0 0 false false false false false false (.slice none 0 0) (.slice none 0 0) (.slice none 0 0) (.slice none 0 0) false) 35 (0, 0)) ∧ g2 ≠ s.2.2 ∧ w.heap.size ≤ s.2.2) ∧ Cur w w' gc ∧ Below w.heap.size w w') ?_ ?_
       rotate_left
       · intro hC
         refine two_ (i := 3) (j := 5) (Ni := some 18) (Nj := some 7) #[true, true, true, true, false, false, false] #[true, true, true, false, false, true, false] rfl rfl rfl rfl (by kernel_rfl) (by decide) (by decide) (fun K hK => ?_) (fun K hK => ?_)
         · skip
           refine goes_ Try.func15 (by kernel_rfl) rfl #[.pointer (some ⟨gc, 0, none⟩)] (by rfl) rfl rfl (by (try simp only [List.map_toArray, List.map_cons, List.map_nil]); first | done | rfl) ?_
           refine (l07Events.cur w _ gc HCU.out HB0.out).mono ?_
           rintro e w1 ⟨ve, ev, rfl, hev_, hcu_, hb0_, hk_⟩
           refine ⟨_, rfl, ?_⟩
           replace hHeld := And.intro (raw_keep hHeld.1 HCU.out (by decide) hk_) (raw_keep hHeld.2 HCU.out (by decide) hk_)
           have HEV := Aside0.mk (Kd.R_lower hev_.1 HB0.out.size)
           have HEL := Aside0.mk hev_.2
           have n0_ := Aside0.mk (raw_keep B2.out HCU.out (by decide) hk_); have n1_ := Aside0.mk (raw_keep BM.out HCU.out (by decide) hk_); have n2_ := Aside0.mk (BC.out.keep HCU.out hk_); have n3_ := Aside0.mk (R_keep HM.out HCU.out (by decide) hk_); have n4_ := Aside0.mk (hcu_); have n5_ := Aside0.mk (hb0_); clear B2 BM BC HM HCU HB0; have B2 := n0_; have BM := n1_; have BC := n2_; have HM := n3_; have HCU := n4_; have HB0 := n5_; clear n0_ n1_ n2_ n3_ n4_ n5_
           clear hcu_ hb0_ hk_ hev_
           obtain ⟨Ae, ce, rfl⟩ := Kd.R_slice HEV.out
           refine hK.out _ _ hHeld (fun _ => ?_)
           clear hK K
           refine norm_ (a' := ?_) ?_ ?_
           rotate_left
           · show Act.put _ (some 18) _ = _
             simp only [Act.put, List.setIfInBounds_toArray, List.set_cons_zero, List.set_cons_succ, i64_w, i32_w]
             rfl
           refine two_ (i := 4) (j := 5) (Ni := some 19) (Nj := some 7) #[true, true, true, true, true, false, false] #[true, true, true, true, false, true, false] rfl rfl rfl rfl (by kernel_rfl) (by decide) (by decide) (fun K hK => ?_) (fun K hK => ?_)
           · skip
             refine goes_ Try.func14 (by kernel_rfl) rfl #[.agg #[.int .u8 Ac, .int .u8 X0, .int .u8 Y0, .int .u8 S0, .int .u16 P0, .bool e0, .bool e1, .bool e2, .bool e3, .bool e4, .bool e5], .agg #[.slice Am mem.length cm], .slice Ae ev.length ce, .int .i64 ((12 : Nat) : Int)] (by rfl) rfl rfl (by (try simp only [List.map_toArray, List.map_cons, List.map_nil]); first | done | rfl) ?_
             refine (Run.any _ _ _ _ _ _ _ _ _ _ _ _ Am cm mem Ae ce ev 12 HCC.out (Kd.R_reads' HM.out).2.2 (Kd.R_reads' HM.out).2.1 HMK.out HMB.out (Kd.R_reads' HEV.out).2.2 (Kd.R_reads' HEV.out).2.1 (by have := HEL.out; omega) (by decide)).mono ?_
             rintro e w1 ⟨A, X, Y, S, p, f0, f1, f2, f3, f4, f5, vm, vt, vs, vc, j, rfl, hrun_, hb_⟩
             refine ⟨_, rfl, ?_⟩
             replace hHeld := And.intro (blk_below hHeld.1 hb_) (blk_below hHeld.2 hb_)
             have HRU := Aside0.mk (hrun_.lower HB0.out.size)
             have n0_ := Aside0.mk (blk_below B2.out hb_); have n1_ := Aside0.mk (blk_below BM.out hb_); have n2_ := Aside0.mk (BC.out.below_ hb_); have n3_ := Aside0.mk (Kd.R_below HM.out hb_); have n4_ := Aside0.mk (Kd.R_below HEV.out hb_); have n5_ := Aside0.mk (HCU.out.below_ hb_); have n6_ := Aside0.mk (below_step HB0.out hb_); clear B2 BM BC HM HEV HCU HB0; have B2 := n0_; have BM := n1_; have BC := n2_; have HM := n3_; have HEV := n4_; have HCU := n5_; have HB0 := n6_; clear n0_ n1_ n2_ n3_ n4_ n5_ n6_
             clear hrun_ hb_
             refine hK.out _ _ hHeld (fun _ => ?_)
             clear hK K
             refine norm_ (a' := ?_) ?_ ?_
             rotate_left
             · show Act.put _ (some 19) _ = _
               simp only [Act.put, List.setIfInBounds_toArray, List.set_cons_zero, List.set_cons_succ, i64_w, i32_w]
               rfl
             refine one_ (i := 5) (N := some 7) #[true, true, true, true, true, true, false] rfl rfl (by kernel_rfl) (by decide) (fun K hK => ?_)
             refine box_step (by rfl) (N := 7) rfl (cs := SLit 0 0 0 0 0 false false false false false false (.slice none 0 0) (.slice none 0 0) (.slice none 0 0) (.slice none 0 0) false) (t := 35) ?hr ?_
             case hr => first | (go_simp; done) | (go_simp; rfl)
             intro g7 hg7 w1 hc_ hb_
             have G7 := Aside0.mk (by rw [hg7]; exact HB0.out.size : w.heap.size ≤ g7)
             have N27 := Aside0.mk (by have := blk_lt B2.out; omega : g2 ≠ g7)
             replace hHeld := And.intro (blk_below hHeld.1 hb_) (blk_below hHeld.2 hb_)
             have n0_ := Aside0.mk (blk_below B2.out hb_); have n1_ := Aside0.mk (blk_below BM.out hb_); have n2_ := Aside0.mk (BC.out.below_ hb_); have n3_ := Aside0.mk (Kd.R_below HM.out hb_); have n4_ := Aside0.mk (Kd.R_below HEV.out hb_); have n5_ := Aside0.mk (HRU.out.below_ hb_); have n6_ := Aside0.mk (HCU.out.below_ hb_); have n7_ := Aside0.mk (below_step HB0.out hb_); clear B2 BM BC HM HEV HRU HCU HB0; have B2 := n0_; have BM := n1_; have BC := n2_; have HM := n3_; have HEV := n4_; have HRU := n5_; have HCU := n6_; have HB0 := n7_; clear n0_ n1_ n2_ n3_ n4_ n5_ n6_ n7_
             have B7 := Aside0.mk hc_
             clear hc_ hb_ hg7
             refine hK.out _ _ hHeld (fun _ => ?_)
             clear hK K
             refine norm_ (a' := ?_) ?_ ?_
             rotate_left
             · show Act.put _ (some 7) _ = _
               simp only [Act.put, List.setIfInBounds_toArray, List.set_cons_zero, List.set_cons_succ, i64_w, i32_w]
               rfl
             exact norm_ rfl (hC (.slice Ae ev.length ce, SLit A X Y S p f0 f1 f2 f3 f4 f5 vm vt vs vc j, g7) _ ⟨⟨A, X, Y, S, p, f0, f1, f2, f3, f4, f5, vm, vt, vs, vc, j, _, rfl, HRU.out⟩, ⟨B2.out, B7.out, N27.out, G7.out⟩, HCU.out, HB0.out⟩)
           · skip
             refine box_step (by rfl) (N := 7) rfl (cs := SLit 0 0 0 0 0 false false false false false false (.slice none 0 0) (.slice none 0 0) (.slice none 0 0) (.slice none 0 0) false) (t := 35) ?hr ?_
             case hr => first | (go_simp; done) | (go_simp; rfl)
             intro g7 hg7 w1 hc_ hb_
             have G7 := Aside0.mk (by rw [hg7]; exact HB0.out.size : w.heap.size ≤ g7)
             have N27 := Aside0.mk (by have := blk_lt B2.out; omega : g2 ≠ g7)
             replace hHeld := And.intro (blk_below hHeld.1 hb_) (blk_below hHeld.2 hb_)
             have n0_ := Aside0.mk (blk_below B2.out hb_); have n1_ := Aside0.mk (blk_below BM.out hb_); have n2_ := Aside0.mk (BC.out.below_ hb_); have n3_ := Aside0.mk (Kd.R_below HM.out hb_); have n4_ := Aside0.mk (Kd.R_below HEV.out hb_); have n5_ := Aside0.mk (HCU.out.below_ hb_); have n6_ := Aside0.mk (below_step HB0.out hb_); clear B2 BM BC HM HEV HCU HB0; have B2 := n0_; have BM := n1_; have BC := n2_; have HM := n3_; have HEV := n4_; have HCU := n5_; have HB0 := n6_; clear n0_ n1_ n2_ n3_ n4_ n5_ n6_
             have B7 := Aside0.mk hc_
             clear hc_ hb_ hg7
             refine hK.out _ _ hHeld (fun _ => ?_)
             clear hK K
             refine norm_ (a' := ?_) ?_ ?_
             rotate_left
             · show Act.put _ (some 7) _ = _
               simp only [Act.put, List.setIfInBounds_toArray, List.set_cons_zero, List.set_cons_succ, i64_w, i32_w]
               rfl
             refine one_ (i := 4) (N := some 19) #[true, true, true, true, true, true, false] rfl rfl (by kernel_rfl) (by decide) (fun K hK => ?_)
             refine goes_ Try.func14 (by kernel_rfl) rfl #[.agg #[.int .u8 Ac, .int .u8 X0, .int .u8 Y0, .int .u8 S0, .int .u16 P0, .bool e0, .bool e1, .bool e2, .bool e3, .bool e4, .bool e5], .agg #[.slice Am mem.length cm], .slice Ae ev.length ce, .int .i64 ((12 : Nat) : Int)] (by rfl) rfl rfl (by (try simp only [List.map_toArray, List.map_cons, List.map_nil]); first | done | rfl) ?_
             refine (Run.any _ _ _ _ _ _ _ _ _ _ _ _ Am cm mem Ae ce ev 12 HCC.out (Kd.R_reads' HM.out).2.2 (Kd.R_reads' HM.out).2.1 HMK.out HMB.out (Kd.R_reads' HEV.out).2.2 (Kd.R_reads' HEV.out).2.1 (by have := HEL.out; omega) (by decide)).mono ?_
             rintro e w1 ⟨A, X, Y, S, p, f0, f1, f2, f3, f4, f5, vm, vt, vs, vc, j, rfl, hrun_, hb_⟩
             refine ⟨_, rfl, ?_⟩
             replace hHeld := And.intro (blk_below hHeld.1 hb_) (blk_below hHeld.2 hb_)
             have HRU := Aside0.mk (hrun_.lower HB0.out.size)
             have n0_ := Aside0.mk (blk_below B2.out hb_); have n1_ := Aside0.mk (blk_below BM.out hb_); have n2_ := Aside0.mk (blk_below B7.out hb_); have n3_ := Aside0.mk (BC.out.below_ hb_); have n4_ := Aside0.mk (Kd.R_below HM.out hb_); have n5_ := Aside0.mk (Kd.R_below HEV.out hb_); have n6_ := Aside0.mk (HCU.out.below_ hb_); have n7_ := Aside0.mk (below_step HB0.out hb_); clear B2 BM B7 BC HM HEV HCU HB0; have B2 := n0_; have BM := n1_; have B7 := n2_; have BC := n3_; have HM := n4_; have HEV := n5_; have HCU := n6_; have HB0 := n7_; clear n0_ n1_ n2_ n3_ n4_ n5_ n6_ n7_
             clear hrun_ hb_
             refine hK.out _ _ hHeld (fun _ => ?_)
             clear hK K
             refine norm_ (a' := ?_) ?_ ?_
             rotate_left
             · show Act.put _ (some 19) _ = _
               simp only [Act.put, List.setIfInBounds_toArray, List.set_cons_zero, List.set_cons_succ, i64_w, i32_w]
               rfl
             exact norm_ rfl (hC (.slice Ae ev.length ce, SLit A X Y S p f0 f1 f2 f3 f4 f5 vm vt vs vc j, g7) _ ⟨⟨A, X, Y, S, p, f0, f1, f2, f3, f4, f5, vm, vt, vs, vc, j, _, rfl, HRU.out⟩, ⟨B2.out, B7.out, N27.out, G7.out⟩, HCU.out, HB0.out⟩)
         · skip
           refine box_step (by rfl) (N := 7) rfl (cs := SLit 0 0 0 0 0 false false false false false false (.slice none 0 0) (.slice none 0 0) (.slice none 0 0) (.slice none 0 0) false) (t := 35) ?hr ?_
           case hr => first | (go_simp; done) | (go_simp; rfl)
           intro g7 hg7 w1 hc_ hb_
           have G7 := Aside0.mk (by rw [hg7]; exact HB0.out.size : w.heap.size ≤ g7)
           have N27 := Aside0.mk (by have := blk_lt B2.out; omega : g2 ≠ g7)
           replace hHeld := And.intro (blk_below hHeld.1 hb_) (blk_below hHeld.2 hb_)
           have n0_ := Aside0.mk (blk_below B2.out hb_); have n1_ := Aside0.mk (blk_below BM.out hb_); have n2_ := Aside0.mk (BC.out.below_ hb_); have n3_ := Aside0.mk (Kd.R_below HM.out hb_); have n4_ := Aside0.mk (HCU.out.below_ hb_); have n5_ := Aside0.mk (below_step HB0.out hb_); clear B2 BM BC HM HCU HB0; have B2 := n0_; have BM := n1_; have BC := n2_; have HM := n3_; have HCU := n4_; have HB0 := n5_; clear n0_ n1_ n2_ n3_ n4_ n5_
           have B7 := Aside0.mk hc_
           clear hc_ hb_ hg7
           refine hK.out _ _ hHeld (fun _ => ?_)
           clear hK K
           refine norm_ (a' := ?_) ?_ ?_
           rotate_left
           · show Act.put _ (some 7) _ = _
             simp only [Act.put, List.setIfInBounds_toArray, List.set_cons_zero, List.set_cons_succ, i64_w, i32_w]
             rfl
           refine one_ (i := 3) (N := some 18) #[true, true, true, true, false, true, false] rfl rfl (by kernel_rfl) (by decide) (fun K hK => ?_)
           refine goes_ Try.func15 (by kernel_rfl) rfl #[.pointer (some ⟨gc, 0, none⟩)] (by rfl) rfl rfl (by (try simp only [List.map_toArray, List.map_cons, List.map_nil]); first | done | rfl) ?_
           refine (l07Events.cur w _ gc HCU.out HB0.out).mono ?_
           rintro e w1 ⟨ve, ev, rfl, hev_, hcu_, hb0_, hk_⟩
           refine ⟨_, rfl, ?_⟩
           replace hHeld := And.intro (raw_keep hHeld.1 HCU.out (by decide) hk_) (raw_keep hHeld.2 HCU.out (by decide) hk_)
           have HEV := Aside0.mk (Kd.R_lower hev_.1 HB0.out.size)
           have HEL := Aside0.mk hev_.2
           have n0_ := Aside0.mk (raw_keep B2.out HCU.out (by decide) hk_); have n1_ := Aside0.mk (raw_keep BM.out HCU.out (by decide) hk_); have n2_ := Aside0.mk (raw_keep B7.out HCU.out (by decide) hk_); have n3_ := Aside0.mk (BC.out.keep HCU.out hk_); have n4_ := Aside0.mk (R_keep HM.out HCU.out (by decide) hk_); have n5_ := Aside0.mk (hcu_); have n6_ := Aside0.mk (hb0_); clear B2 BM B7 BC HM HCU HB0; have B2 := n0_; have BM := n1_; have B7 := n2_; have BC := n3_; have HM := n4_; have HCU := n5_; have HB0 := n6_; clear n0_ n1_ n2_ n3_ n4_ n5_ n6_
           clear hcu_ hb0_ hk_ hev_
           obtain ⟨Ae, ce, rfl⟩ := Kd.R_slice HEV.out
           refine hK.out _ _ hHeld (fun _ => ?_)
           clear hK K
           refine norm_ (a' := ?_) ?_ ?_
           rotate_left
           · show Act.put _ (some 18) _ = _
             simp only [Act.put, List.setIfInBounds_toArray, List.set_cons_zero, List.set_cons_succ, i64_w, i32_w]
             rfl
           refine one_ (i := 4) (N := some 19) #[true, true, true, true, true, true, false] rfl rfl (by kernel_rfl) (by decide) (fun K hK => ?_)
           refine goes_ Try.func14 (by kernel_rfl) rfl #[.agg #[.int .u8 Ac, .int .u8 X0, .int .u8 Y0, .int .u8 S0, .int .u16 P0, .bool e0, .bool e1, .bool e2, .bool e3, .bool e4, .bool e5], .agg #[.slice Am mem.length cm], .slice Ae ev.length ce, .int .i64 ((12 : Nat) : Int)] (by rfl) rfl rfl (by (try simp only [List.map_toArray, List.map_cons, List.map_nil]); first | done | rfl) ?_
           refine (Run.any _ _ _ _ _ _ _ _ _ _ _ _ Am cm mem Ae ce ev 12 HCC.out (Kd.R_reads' HM.out).2.2 (Kd.R_reads' HM.out).2.1 HMK.out HMB.out (Kd.R_reads' HEV.out).2.2 (Kd.R_reads' HEV.out).2.1 (by have := HEL.out; omega) (by decide)).mono ?_
           rintro e w1 ⟨A, X, Y, S, p, f0, f1, f2, f3, f4, f5, vm, vt, vs, vc, j, rfl, hrun_, hb_⟩
           refine ⟨_, rfl, ?_⟩
           replace hHeld := And.intro (blk_below hHeld.1 hb_) (blk_below hHeld.2 hb_)
           have HRU := Aside0.mk (hrun_.lower HB0.out.size)
           have n0_ := Aside0.mk (blk_below B2.out hb_); have n1_ := Aside0.mk (blk_below BM.out hb_); have n2_ := Aside0.mk (blk_below B7.out hb_); have n3_ := Aside0.mk (BC.out.below_ hb_); have n4_ := Aside0.mk (Kd.R_below HM.out hb_); have n5_ := Aside0.mk (Kd.R_below HEV.out hb_); have n6_ := Aside0.mk (HCU.out.below_ hb_); have n7_ := Aside0.mk (below_step HB0.out hb_); clear B2 BM B7 BC HM HEV HCU HB0; have B2 := n0_; have BM := n1_; have B7 := n2_; have BC := n3_; have HM := n4_; have HEV := n5_; have HCU := n6_; have HB0 := n7_; clear n0_ n1_ n2_ n3_ n4_ n5_ n6_ n7_
           clear hrun_ hb_
           refine hK.out _ _ hHeld (fun _ => ?_)
           clear hK K
           refine norm_ (a' := ?_) ?_ ?_
           rotate_left
           · show Act.put _ (some 19) _ = _
             simp only [Act.put, List.setIfInBounds_toArray, List.set_cons_zero, List.set_cons_succ, i64_w, i32_w]
             rfl
           exact norm_ rfl (hC (.slice Ae ev.length ce, SLit A X Y S p f0 f1 f2 f3 f4 f5 vm vt vs vc j, g7) _ ⟨⟨A, X, Y, S, p, f0, f1, f2, f3, f4, f5, vm, vt, vs, vc, j, _, rfl, HRU.out⟩, ⟨B2.out, B7.out, N27.out, G7.out⟩, HCU.out, HB0.out⟩)
       · rintro ⟨ve, cs_, g7⟩ w1 ⟨⟨A, X, Y, S, p, f0, f1, f2, f3, f4, f5, vm, vt, vs, vc, j, ln, hcs_, hru_⟩, ⟨b2_, b7_, n27_, g7_⟩, hcu_, hb_⟩
         simp only at hcs_ b7_ n27_ g7_
         subst hcs_
         clear B2 BC BM HM HCU HB0 hHeld
         have B2 := Aside0.mk b2_
         have B7 := Aside0.mk b7_
         have N27 := Aside0.mk n27_
         have G7 := Aside0.mk g7_
         have HRU := Aside0.mk hru_
         have HCU := Aside0.mk hcu_
         have HB0 := Aside0.mk hb_
         clear b2_ b7_ n27_ g7_ hru_ hcu_ hb_
         obtain ⟨Am, nm, cm, At, nt, ct, As, ns, cs, Ak, nk, ck, rfl, rfl, rfl, rfl, hnt_⟩ := HRU.out.forms
         have HNT := Aside0.mk hnt_
         clear hnt_
         refine norm_ (a' := ?_) ?_ ?_
         rotate_left
         · show putAll _ _ = _
           simp only [putAll]
           simp only [Act.put, List.setIfInBounds_toArray, List.set_cons_zero, List.set_cons_succ, i64_w, i32_w]
           rfl
         refine last_ (i := 6) (N := none) #[true, true, true, true, true, true, true] rfl rfl (by kernel_rfl) (by decide) (fun K hK => ?_)
         refine s_stStep (by rfl) rfl (x := .tmp 7) (y := .tmp 19) (g := g7) (cs := SLit A X Y S p f0 f1 f2 f3 f4 f5 (.slice Am nm cm) (.slice At nt ct) (.slice As ns cs) (.slice Ak nk ck) j) rfl rfl rfl (by rfl) (slit_one rfl rfl rfl rfl) B7.out (by rfl) ?_
         intro w1 hc_ hk_ hb_
         refine hK.out _ _ ?_
         clear hK K
         have n0_ := Aside0.mk (hc_); have n1_ := Aside0.mk ((hk_ _ N27.out).trans B2.out); have n2_ := Aside0.mk (HRU.out.other (B7.out) hk_); have n3_ := Aside0.mk (HCU.out.other (HCU.out.ne (B7.out) (by decide)) hk_); have n4_ := Aside0.mk (hb_ _ _ (Nat.le_trans HW.out G7.out) HB0.out); clear B7 B2 HRU HCU HB0; have B7 := n0_; have B2 := n1_; have HRU := n2_; have HCU := n3_; have HB0 := n4_; clear n0_ n1_ n2_ n3_ n4_
         clear hc_ hk_ hb_
         refine done_ (by kernel_rfl) ?_
         go_step
         go_step
         go_step
         refine start_k (n := 10) (S := fun w' => w'.heap[g7]? = some (.cells (SLit A X Y S p f0 f1 f2 f3 f4 f5 (.slice Am nm cm) (.slice At nt ct) (.slice As ns cs) (.slice Ak nk ck) j) 35 (0, 0))) (ds := []) #[false, false, false, false, false, false, false, false, false, false] (by kernel_rfl) rfl rfl B7.out (fun w1 he hs => by rw [he]; exact hs) ?_
         intro w1 hHeld hb_
         have n0_ := Aside0.mk (blk_below B2.out hb_); have n1_ := Aside0.mk (blk_below B7.out hb_); have n2_ := Aside0.mk (HRU.out.below_ hb_); have n3_ := Aside0.mk (HCU.out.below_ hb_); have n4_ := Aside0.mk (below_step HB0.out hb_); clear B2 B7 HRU HCU HB0; have B2 := n0_; have B7 := n1_; have HRU := n2_; have HCU := n3_; have HB0 := n4_; clear n0_ n1_ n2_ n3_ n4_
         clear hb_
         refine take_ (i := 0) (N := some 20) (v := ?_) (a' := ?_) #[true, false, false, false, false, false, false, false, false, false] rfl rfl (by kernel_rfl) (fun _ _ _ h => h) (Or.inl ⟨by rfl, ?_⟩) hHeld ?_ ?_
         rotate_left
         · intro w' s0
           refine (s_runLd (x := .tmp 7) ?_ ?_ s0).trans ?_
           · rfl
           · rfl
           · rfl
         rotate_left
         · simp only [Act.put, List.setIfInBounds_toArray, List.set_cons_zero, List.set_cons_succ, i64_w, i32_w]
           rfl
         refine pure_ (i := 1) (N := some 21) (v := ?_) (a' := ?_) #[true, true, false, false, false, false, false, false, false, false] rfl rfl (by kernel_rfl) (fun _ _ _ h => h) (Or.inl ⟨by rfl, ?_⟩) ?_ ?_
         rotate_left
         · intro w'
           go_simp
           with_reducible rfl
         rotate_left
         · simp only [Act.put, List.setIfInBounds_toArray, List.set_cons_zero, List.set_cons_succ, i64_w, i32_w]
           rfl
         refine pure_ (i := 2) (N := some 22) (v := ?_) (a' := ?_) #[true, true, true, false, false, false, false, false, false, false] rfl rfl (by kernel_rfl) (fun _ _ _ h => h) (Or.inl ⟨by rfl, ?_⟩) ?_ ?_
         rotate_left
         · intro w'
           go_simp
           with_reducible rfl
         rotate_left
         · simp only [Act.put, List.setIfInBounds_toArray, List.set_cons_zero, List.set_cons_succ, i64_w, i32_w]
           rfl
         refine take_ (i := 3) (N := some 23) (v := ?_) (a' := ?_) #[true, true, true, true, false, false, false, false, false, false] rfl rfl (by kernel_rfl) (fun _ _ _ h => h) (Or.inl ⟨by rfl, ?_⟩) hHeld ?_ ?_
         rotate_left
         · rintro w' s0
           have t0 : w'.cell? ⟨g7, 12, none⟩ = some (.slice At nt ct) := (blk_cell s0 12).trans rfl
           go_simp
           with_reducible rfl
         rotate_left
         · simp only [Act.put, List.setIfInBounds_toArray, List.set_cons_zero, List.set_cons_succ, i64_w, i32_w]
           rfl
         refine pure_ (i := 4) (N := some 24) (v := ?_) (a' := ?_) #[true, true, true, true, true, false, false, false, false, false] rfl rfl (by kernel_rfl) (fun _ _ _ h => h) (Or.inl ⟨by rfl, ?_⟩) ?_ ?_
         rotate_left
         · intro w'
           go_simp
           with_reducible rfl
         rotate_left
         · simp only [Act.put, List.setIfInBounds_toArray, List.set_cons_zero, List.set_cons_succ, i64_w, i32_w]
           rfl
         refine pure_ (i := 5) (N := some 25) (v := ?_) (a' := ?_) #[true, true, true, true, true, true, false, false, false, false] rfl rfl (by kernel_rfl) (fun _ _ _ h => h) (Or.inl ⟨by rfl, ?_⟩) ?_ ?_
         rotate_left
         · intro w'
           go_simp
           with_reducible rfl
         rotate_left
         · simp only [Act.put, List.setIfInBounds_toArray, List.set_cons_zero, List.set_cons_succ, i64_w, i32_w]
           rfl
         refine one_ (i := 6) (N := some 26) #[true, true, true, true, true, true, true, false, false, false] rfl rfl (by kernel_rfl) (by decide) (fun K hK => ?_)
         refine goes_ Try.func16 (by kernel_rfl) rfl #[.pointer (some ⟨gc, 0, none⟩), .int .i64 _] (by rfl) rfl rfl (by (try simp only [List.map_toArray, List.map_cons, List.map_nil]); first | done | rfl) ?_
         refine (l01Below.cur w _ gc _ HCU.out HB0.out).mono ?_
         rintro e w1 ⟨x_, rfl, hx_, hcu_, hb0_, hk_⟩
         refine ⟨_, rfl, ?_⟩
         replace hHeld := raw_keep hHeld HCU.out (by decide) hk_
         have n0_ := Aside0.mk (raw_keep B2.out HCU.out (by decide) hk_); have n1_ := Aside0.mk (raw_keep B7.out HCU.out (by decide) hk_); have n2_ := Aside0.mk (HRU.out.keep HCU.out hk_); have n3_ := Aside0.mk (hcu_); have n4_ := Aside0.mk (hb0_); clear B2 B7 HRU HCU HB0; have B2 := n0_; have B7 := n1_; have HRU := n2_; have HCU := n3_; have HB0 := n4_; clear n0_ n1_ n2_ n3_ n4_
         have HX := Aside0.mk hx_
         clear hcu_ hb0_ hk_ hx_
         refine hK.out _ _ hHeld (fun _ => ?_)
         clear hK K
         refine norm_ (a' := ?_) ?_ ?_
         rotate_left
         · show Act.put _ (some 26) _ = _
           simp only [Act.put, List.setIfInBounds_toArray, List.set_cons_zero, List.set_cons_succ, i64_w, i32_w]
           rfl
         have hxr_ : wrap64 (x_ - 1) = x_ - 1 := Plain.w64 (by have := HX.out; omega) (by have h1 := HX.out; have h2 := HNT.out; rw [Plain.w64 (by omega) (by omega)] at h1; omega)
         refine pure_ (i := 7) (N := some 27) (v := ?_) (a' := ?_) #[true, true, true, true, true, true, true, true, false, false] rfl rfl (by kernel_rfl) (fun _ _ _ h => h) (Or.inl ⟨by rfl, ?_⟩) ?_ ?_
         rotate_left
         · intro w'
           go_simp
           with_reducible rfl
         rotate_left
         · simp only [Act.put, List.setIfInBounds_toArray, List.set_cons_zero, List.set_cons_succ, i64_w, i32_w]
           rfl
         refine one_ (i := 8) (N := none) #[true, true, true, true, true, true, true, true, true, false] rfl rfl (by kernel_rfl) (by decide) (fun K hK => ?_)
         refine s_stStep (by rfl) rfl (x := .tmp 2) (y := .tmp 20) (g := g2) (cs := SLit A X Y S p f0 f1 f2 f3 f4 f5 (.slice Am nm cm) (.slice At nt ct) (.slice As ns cs) (.slice Ak nk ck) j) rfl rfl rfl (by rfl) (slit_one rfl rfl rfl rfl) B2.out (by rfl) ?_
         intro w1 hc_ hk_ hb_
         replace hHeld := (hk_ _ N27.out.symm).trans hHeld
         have n0_ := Aside0.mk (hc_); have n1_ := Aside0.mk ((hk_ _ N27.out.symm).trans B7.out); have n2_ := Aside0.mk (HRU.out.other (B2.out) hk_); have n3_ := Aside0.mk (HCU.out.other (HCU.out.ne (B2.out) (by decide)) hk_); have n4_ := Aside0.mk (hb_ _ _ (Nat.le_trans HW.out G2.out) HB0.out); clear B2 B7 HRU HCU HB0; have B2 := n0_; have B7 := n1_; have HRU := n2_; have HCU := n3_; have HB0 := n4_; clear n0_ n1_ n2_ n3_ n4_
         clear hc_ hk_ hb_
         refine hK.out _ _ hHeld (fun _ => ?_)
         clear hK K
         refine pure_ (i := 9) (N := some 3) (v := ?_) (a' := ?_) #[true, true, true, true, true, true, true, true, true, true] rfl rfl (by kernel_rfl) (fun _ _ _ h => h) (Or.inl ⟨by rfl, ?_⟩) ?_ ?_
         rotate_left
         · intro w'
           go_simp
           with_reducible rfl
         rotate_left
         · simp only [Act.put, List.setIfInBounds_toArray, List.set_cons_zero, List.set_cons_succ, i64_w, i32_w]
           rfl
         refine done_ (by kernel_rfl) ?_
         clear hHeld
         repeat (first | ((with_reducible refine gate_ret ?_); refine unit_ret rfl rfl rfl rfl B2.out HRU.out (by have h1 := HX.out; have h2 := HNT.out; rw [Plain.w64 (by omega) (by omega)] at h1; omega) HB0.out) | go_step)))
end Go.Proofs.Ytafkbhnhmhmjcaa.Weak
