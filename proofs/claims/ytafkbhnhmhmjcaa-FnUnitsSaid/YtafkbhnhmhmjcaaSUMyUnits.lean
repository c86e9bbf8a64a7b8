import Derived.Test.YtafkbhnhmhmjcaaSUMyUnit
import Derived.Test.YtafkbhnhmhmjcaaSUPureRunUnits
set_option linter.unusedVariables false
set_option linter.unusedSimpArgs false
namespace Go.Proofs.Ytafkbhnhmhmjcaa.Weak
open Go.RowKit Go.Proofs.YtafkbhnhmhmjcaaW.PrintWords Go.Proofs.YtafkbhnhmhmjcaaW.PrintLast Go.Proofs.YtafkbhnhmhmjcaaW.PrintMore Go.Proofs.Ytafkbhnhmhmjcaa.PRun Go.Proofs.Ytafkbhnhmhmjcaa.DrawRun
set_option maxHeartbeats 8000000 in
set_option maxRecDepth 100000 in
theorem FnUnits.big (A0 : Option Addr) (c0 : Nat) (l : List Int) (w : World) (hr : Kd.C (Kd.int .u8) w A0 l.length l) (hc0 : l.length ≤ c0) (hl : ¬ l.length ≤ 1048576) : Calls Try.prog 3 #[.slice A0 l.length c0] w fun e w1 => e = .returned (.bool true) ∧ Below w.heap.size w w1 := by
  have HR := Aside0.mk hr
  have HC := Aside0.mk hc0
  have HLL := Aside0.mk hl
  have HB0 := Aside0.mk (Below.refl w.heap.size w)
  have HW := Aside0.mk (Nat.le_refl w.heap.size)
  clear hr hc0 hl
  go_enter Try.func3, Try.ntmps3
  go_wp2_with (first
    | (go_at_call 5; refine (laws_big.calls A0 c0 l true _ (Kd.C_below HR.out HB0.out) HC.out (big_big HLL.out)).mono ?_; rintro e w1 ⟨rfl, hd_⟩; have hb_ := hd_.below; have n0_ := Aside0.mk (below_step HB0.out hb_); clear HB0; have HB0 := n0_; clear n0_; clear hb_ hd_)
    | ((with_reducible refine gate_ret ?_); refine bodyPost_ret (results_tmp rfl _ _ _) rfl ?_; exact ⟨rfl, HB0.out⟩))
set_option maxHeartbeats 8000000 in
set_option maxRecDepth 100000 in
theorem FnUnits.small (A0 : Option Addr) (c0 : Nat) (l : List Int) (w : World) (hr : Kd.C (Kd.int .u8) w A0 l.length l) (hc0 : l.length ≤ c0) (hl : l.length ≤ 1048576) : Calls Try.prog 3 #[.slice A0 l.length c0] w fun e w1 => e = .returned (.bool true) ∧ Below w.heap.size w w1 := by
  have HR := Aside0.mk hr
  have HC := Aside0.mk hc0
  have HLL := Aside0.mk hl
  have HB0 := Aside0.mk (Below.refl w.heap.size w)
  have HW := Aside0.mk (Nat.le_refl w.heap.size)
  clear hr hc0 hl
  go_enter Try.func3, Try.ntmps3
  go_wp2_with (first
    | (go_at_call 5; refine (laws_big.calls A0 c0 l false _ (Kd.C_below HR.out HB0.out) HC.out (big_small HLL.out)).mono ?_; rintro e w1 ⟨rfl, hd_⟩; have hb_ := hd_.below; have n0_ := Aside0.mk (below_step HB0.out hb_); clear HB0; have HB0 := n0_; clear n0_; clear hb_ hd_)
    | (go_at_call 6; refine (DrawUnitAt.any _ A0 c0 l (Kd.C_below HR.out HB0.out) HC.out HLL.out).mono ?_; rintro e w1 ⟨A, X, Y, S, p, f0, f1, f2, f3, f4, f5, vm, vt, vs, vc, j, ln, i, rfl, hru_, hi_, hb_⟩; obtain ⟨_, mem, tr, st, cp, hm_, rfl, _, ht_, _, hs_, hp_, hst_, hl1_, hl2_, _⟩ := hru_; have HM := Aside0.mk (Kd.R_lower hm_ HB0.out.size); have HT := Aside0.mk (Kd.R_lower ht_ HB0.out.size); have HS := Aside0.mk (Kd.R_lower hs_ HB0.out.size); have HP := Aside0.mk (Kd.R_lower hp_ HB0.out.size); have HST := Aside0.mk hst_; have HI := Aside0.mk hi_; have HL1 := Aside0.mk hl1_; have HL2 := Aside0.mk hl2_; clear hm_ ht_ hs_ hp_ hst_ hi_ hl1_ hl2_; have n0_ := Aside0.mk (below_step HB0.out hb_); clear HB0; have HB0 := n0_; clear n0_; clear hb_; obtain ⟨Am, cm, rfl⟩ := Kd.R_slice HM.out; obtain ⟨At, ct, rfl⟩ := Kd.R_slice HT.out; obtain ⟨As, cs, rfl⟩ := Kd.R_slice HS.out; obtain ⟨Ak, ck, rfl⟩ := Kd.R_slice HP.out)
    | ((with_reducible refine gate_dst (N := 3) rfl ?_); refine box_event ?hg (N := 3) ?hd (cs := SLit 0 0 0 0 0 false false false false false false (.slice none 0 0) (.slice none 0 0) (.slice none 0 0) (.slice none 0 0) false) (t := 35) ?hr ?_; (case hd => rfl); (case hg => rfl); (case hr => first | (go_simp; done) | (go_simp; rfl)); intro g3 hg_ w1 hc_ hb_; have G3 := Aside0.mk (by rw [hg_]; exact HB0.out.size : w.heap.size ≤ g3); have n0_ := Aside0.mk (Kd.R_below HM.out hb_); have n1_ := Aside0.mk (Kd.R_below HT.out hb_); have n2_ := Aside0.mk (Kd.R_below HS.out hb_); have n3_ := Aside0.mk (Kd.R_below HP.out hb_); have n4_ := Aside0.mk (below_step HB0.out hb_); clear HM HT HS HP HB0; have HM := n0_; have HT := n1_; have HS := n2_; have HP := n3_; have HB0 := n4_; clear n0_ n1_ n2_ n3_ n4_; have B3 := Aside0.mk hc_; clear hb_ hc_ hg_)
    | ((with_reducible refine gate_st (t := 35) rfl ?_); first | (refine s_stEv rfl (g := g3) (cs := SLit A X Y S p f0 f1 f2 f3 f4 f5 (.slice Am mem.length cm) (.slice At tr.length ct) (.slice As st.length cs) (.slice Ak cp.length ck) j) rfl rfl rfl (by rfl) (slit_one rfl rfl rfl rfl) B3.out (by rfl) ?_; intro w1 hc_ hk_ hb_; have n0_ := Aside0.mk (hc_); have n1_ := Aside0.mk (R_other HM.out (B3.out) (by decide) hk_); have n2_ := Aside0.mk (R_other HT.out (B3.out) (by decide) hk_); have n3_ := Aside0.mk (R_other HS.out (B3.out) (by decide) hk_); have n4_ := Aside0.mk (R_other HP.out (B3.out) (by decide) hk_); have n5_ := Aside0.mk (hb_ _ _ (Nat.le_trans HW.out G3.out) HB0.out); clear B3 HM HT HS HP HB0; have B3 := n0_; have HM := n1_; have HT := n2_; have HS := n3_; have HP := n4_; have HB0 := n5_; clear n0_ n1_ n2_ n3_ n4_ n5_; clear hc_ hk_ hb_))
    | ((with_reducible refine gate_load (t := 35) rfl ?_); first | (refine Kd.event_run rfl (s_runLd rfl rfl B3.out) ?_)))
  by_cases hi : 0 ≤ i ∧ i < (tr.length : Int)
  rotate_left
  · skip
    refine (UnitAt.at _ A X Y S p f0 f1 f2 f3 f4 f5 j Am At As Ak cm ct cs ck mem tr st cp HM.out HT.out HS.out HP.out (by have := HL1.out; omega) (by have := HL2.out; omega) i (-1) (if_neg hi)).mono ?_
    rintro e w1 ⟨rfl, hb_⟩
    have n0_ := Aside0.mk (blk_below B3.out hb_); have n1_ := Aside0.mk (Kd.R_below HM.out hb_); have n2_ := Aside0.mk (Kd.R_below HT.out hb_); have n3_ := Aside0.mk (Kd.R_below HS.out hb_); have n4_ := Aside0.mk (Kd.R_below HP.out hb_); have n5_ := Aside0.mk (below_step HB0.out hb_); clear B3 HM HT HS HP HB0; have B3 := n0_; have HM := n1_; have HT := n2_; have HS := n3_; have HP := n4_; have HB0 := n5_; clear n0_ n1_ n2_ n3_ n4_ n5_
    clear hb_
    have hcT : w1.cell? ⟨g3, 12, none⟩ = some (.slice At tr.length ct) := (blk_cell B3.out 12).trans rfl
    by_cases h0 : i < 0
    · have c1 : decide (i < 0) = true := decide_eq_true h0
      clear hi h0
      go_wp2_with (first | ((with_reducible refine gate_ret ?_); refine bodyPost_ret (results_tmp rfl _ _ _) rfl ?_; exact ⟨rfl, HB0.out⟩))
    · have c1 : decide (i < 0) = false := decide_eq_false h0
      have c2 : decide ((tr.length : Int) ≤ i) = true := decide_eq_true (by omega)
      clear hi h0
      go_wp2_with (first | ((with_reducible refine gate_ret ?_); refine bodyPost_ret (results_tmp rfl _ _ _) rfl ?_; exact ⟨rfl, HB0.out⟩))
  obtain ⟨u, e1, h2, h3, h4, h5, h6, e2⟩ := units_law HST.out i hi.1 hi.2
  refine (UnitAt.at _ A X Y S p f0 f1 f2 f3 f4 f5 j Am At As Ak cm ct cs ck mem tr st cp HM.out HT.out HS.out HP.out (by have := HL1.out; omega) (by have := HL2.out; omega) i (u : Int) ((if_pos hi).trans e1)).mono ?_
  rintro e w1 ⟨rfl, hb_⟩
  have n0_ := Aside0.mk (blk_below B3.out hb_); have n1_ := Aside0.mk (Kd.R_below HM.out hb_); have n2_ := Aside0.mk (Kd.R_below HT.out hb_); have n3_ := Aside0.mk (Kd.R_below HS.out hb_); have n4_ := Aside0.mk (Kd.R_below HP.out hb_); have n5_ := Aside0.mk (below_step HB0.out hb_); clear B3 HM HT HS HP HB0; have B3 := n0_; have HM := n1_; have HT := n2_; have HS := n3_; have HP := n4_; have HB0 := n5_; clear n0_ n1_ n2_ n3_ n4_ n5_
  clear hb_
  have hcT : w1.cell? ⟨g3, 12, none⟩ = some (.slice At tr.length ct) := (blk_cell B3.out 12).trans rfl
  obtain ⟨gs, cap, heq_, _, _, cells, hgs_⟩ := Kd.R_form HS.out (by omega)
  injection heq_ with q1_ q2_ q3_
  subst q1_ q3_
  clear q2_
  have HG := Aside0.mk hgs_
  clear hgs_
  have hxu : w1.cell? ⟨gs, u, none⟩ = some (.int .i64 (rd st (u : Int))) := (Kd.R_celln 0 HS.out (u : Int) (by omega) (by omega)).1
  have c1 : decide (i < 0) = false := decide_eq_false (by omega)
  have c2 : decide ((tr.length : Int) ≤ i) = false := decide_eq_false (by omega)
  have c3 : decide ((u : Int) < 0) = false := decide_eq_false (by omega)
  have c4 : decide ((st.length : Int) ≤ (u : Int)) = false := decide_eq_false (by omega)
  have c4b : decide (st.length ≤ u) = false := decide_eq_false (by omega)
  have c5 : decide (i < rd st (u : Int)) = false := decide_eq_false (by omega)
  have z1 : (u < st.length) = True := eq_true h2
  have HE := Aside0.mk (And.intro e1 (And.intro h2 (And.intro h3 (And.intro h4 (And.intro h5 (And.intro h6 (And.intro e2 hi)))))))
  clear e1 h3 h4 h5 h6 e2 hi
  have hcS : w1.cell? ⟨g3, 13, none⟩ = some (.slice (some ⟨gs, 0, none⟩) st.length cs) := (blk_cell B3.out 13).trans rfl
  go_wp2_with (first
    | ((with_reducible refine gate_region (id := 9) ?_)
       have HCU_ := Aside0.mk ((blk_cell HG.out u).symm.trans hxu)
       have e1 := HE.out.1
       have h2 := HE.out.2.1
       have h3 := HE.out.2.2.1
       have h4 := HE.out.2.2.2.1
       have h5 := HE.out.2.2.2.2.1
       have h6 := HE.out.2.2.2.2.2.1
       have e2 := HE.out.2.2.2.2.2.2.1
       have hw : wrap64 ((u : Int) + 1) = (u : Int) + 1 := w64_succ h2 HL2.out
       have hw2 := w64_len HL2.out
       rcases h4 with h4 | ⟨h4, h7⟩
       · have k1 := succ_len h4
         have k2 := k1
         refine start_k (n := 28) (S := fun w' => w'.heap[g3]? = some (.cells (SLit A X Y S p f0 f1 f2 f3 f4 f5 (.slice Am mem.length cm) (.slice At tr.length ct) (.slice (some ⟨gs, 0, none⟩) st.length cs) (.slice Ak cp.length ck) j) 35 (0, 0)) ∧ w'.heap[gs]? = some (.cells cells 3 (0, 0))) (ds := []) #[false, false, false, false, false, false, false, false, false, false, false, false, false, false, false, false, false, false, false, false, false, false, false, false, false, false, false, false] (by kernel_rfl) rfl rfl ⟨B3.out, HG.out⟩ (fun w1 he hs => by rw [he]; exact hs) ?_
         intro w1 hHeld hb_
         have n0_ := Aside0.mk (blk_below B3.out hb_); have n1_ := Aside0.mk (blk_below HG.out hb_); have n2_ := Aside0.mk (Kd.R_below HM.out hb_); have n3_ := Aside0.mk (Kd.R_below HT.out hb_); have n4_ := Aside0.mk (Kd.R_below HS.out hb_); have n5_ := Aside0.mk (Kd.R_below HP.out hb_); have n6_ := Aside0.mk (below_step HB0.out hb_); clear B3 HG HM HT HS HP HB0; have B3 := n0_; have HG := n1_; have HM := n2_; have HT := n3_; have HS := n4_; have HP := n5_; have HB0 := n6_; clear n0_ n1_ n2_ n3_ n4_ n5_ n6_
         clear hb_
         refine pure_ (i := 0) (N := some 45) (v := .int .i64 (u : Int)) (a' := ?_) #[true, false, false, false, false, false, false, false, false, false, false, false, false, false, false, false, false, false, false, false, false, false, false, false, false, false, false, false] rfl rfl (by kernel_rfl) (fun _ _ _ h => h) (Or.inl ⟨by rfl, ?_⟩) ?_ ?_
         · intro w'
           go_simp
           first | done | rfl | (simp only [i64_w, hw, hw2]; done) | (simp [hw, hw2, k1, k2]; done)
         rotate_left
         · simp only [Act.put, List.setIfInBounds_toArray, List.set_cons_zero, List.set_cons_succ, i64_w, i32_w]
           rfl
         refine pure_ (i := 1) (N := some 46) (v := .int .i64 ((u : Int) + 1)) (a' := ?_) #[true, true, false, false, false, false, false, false, false, false, false, false, false, false, false, false, false, false, false, false, false, false, false, false, false, false, false, false] rfl rfl (by kernel_rfl) (fun _ _ _ h => h) (Or.inl ⟨by rfl, ?_⟩) ?_ ?_
         · intro w'
           go_simp
           first | done | rfl | (simp only [i64_w, hw, hw2]; done) | (simp [hw, hw2, k1, k2]; done)
         rotate_left
         · simp only [Act.put, List.setIfInBounds_toArray, List.set_cons_zero, List.set_cons_succ, i64_w, i32_w]
           rfl
         refine pure_ (i := 2) (N := some 47) (v := .pointer (some ⟨g3, 13, none⟩)) (a' := ?_) #[true, true, true, false, false, false, false, false, false, false, false, false, false, false, false, false, false, false, false, false, false, false, false, false, false, false, false, false] rfl rfl (by kernel_rfl) (fun _ _ _ h => h) (Or.inl ⟨by rfl, ?_⟩) ?_ ?_
         · intro w'
           go_simp
           first | done | rfl | (simp only [i64_w, hw, hw2]; done) | (simp [hw, hw2, k1, k2]; done)
         rotate_left
         · simp only [Act.put, List.setIfInBounds_toArray, List.set_cons_zero, List.set_cons_succ, i64_w, i32_w]
           rfl
         refine take_ (i := 3) (N := some 48) (v := .slice (some ⟨gs, 0, none⟩) st.length cs) (a' := ?_) #[true, true, true, true, false, false, false, false, false, false, false, false, false, false, false, false, false, false, false, false, false, false, false, false, false, false, false, false] rfl rfl (by kernel_rfl) (fun _ _ _ h => h) (Or.inl ⟨by rfl, ?_⟩) hHeld ?_ ?_
         · rintro w' ⟨s0, sb⟩
           have t0 : w'.cell? ⟨g3, 13, none⟩ = some (.slice (some ⟨gs, 0, none⟩) st.length cs) := (blk_cell s0 13).trans rfl
           go_simp
           first | done | rfl | (simp only [i64_w, hw, hw2]; done) | (simp [hw, hw2, k1, k2]; done)
         rotate_left
         · simp only [Act.put, List.setIfInBounds_toArray, List.set_cons_zero, List.set_cons_succ, i64_w, i32_w]
           rfl
         refine pure_ (i := 4) (N := some 49) (v := .int .i64 (st.length : Int)) (a' := ?_) #[true, true, true, true, true, false, false, false, false, false, false, false, false, false, false, false, false, false, false, false, false, false, false, false, false, false, false, false] rfl rfl (by kernel_rfl) (fun _ _ _ h => h) (Or.inl ⟨by rfl, ?_⟩) ?_ ?_
         · intro w'
           go_simp
           first | done | rfl | (simp only [i64_w, hw, hw2]; done) | (simp [hw, hw2, k1, k2]; done)
         rotate_left
         · simp only [Act.put, List.setIfInBounds_toArray, List.set_cons_zero, List.set_cons_succ, i64_w, i32_w]
           rfl
         refine pure_ (i := 5) (N := some 50) (v := .bool true) (a' := ?_) #[true, true, true, true, true, true, false, false, false, false, false, false, false, false, false, false, false, false, false, false, false, false, false, false, false, false, false, false] rfl rfl (by kernel_rfl) (fun _ _ _ h => h) (Or.inl ⟨by rfl, ?_⟩) ?_ ?_
         · intro w'
           go_simp
           first | done | rfl | (simp only [i64_w, hw, hw2]; done) | (simp [hw, hw2, k1, k2]; done)
         rotate_left
         · simp only [Act.put, List.setIfInBounds_toArray, List.set_cons_zero, List.set_cons_succ, i64_w, i32_w]
           rfl
         refine pure_ (i := 6) (N := some 51) (v := .bool true) (a' := ?_) #[true, true, true, true, true, true, true, false, false, false, false, false, false, false, false, false, false, false, false, false, false, false, false, false, false, false, false, false] rfl rfl (by kernel_rfl) (fun _ _ _ h => h) (Or.inl ⟨by rfl, ?_⟩) ?_ ?_
         · intro w'
           go_simp
           first | done | rfl | (simp only [i64_w, hw, hw2]; done) | (simp [hw, hw2, k1, k2]; done)
         rotate_left
         · simp only [Act.put, List.setIfInBounds_toArray, List.set_cons_zero, List.set_cons_succ, i64_w, i32_w]
           rfl
         refine pure_ (i := 7) (N := some 52) (v := undef) (a' := ?_) #[true, true, true, true, true, true, true, true, false, false, false, false, false, false, false, false, false, false, false, false, false, false, false, false, false, false, false, false] rfl rfl (by kernel_rfl) (fun _ _ _ h => h) (Or.inr ⟨by rfl, rfl⟩) ?_ ?_
         rotate_left
         · simp only [Act.put, List.setIfInBounds_toArray, List.set_cons_zero, List.set_cons_succ, i64_w, i32_w]
           rfl
         refine pure_ (i := 8) (N := some 53) (v := undef) (a' := ?_) #[true, true, true, true, true, true, true, true, true, false, false, false, false, false, false, false, false, false, false, false, false, false, false, false, false, false, false, false] rfl rfl (by kernel_rfl) (fun _ _ _ h => h) (Or.inr ⟨by rfl, rfl⟩) ?_ ?_
         rotate_left
         · simp only [Act.put, List.setIfInBounds_toArray, List.set_cons_zero, List.set_cons_succ, i64_w, i32_w]
           rfl
         refine pure_ (i := 9) (N := some 54) (v := undef) (a' := ?_) #[true, true, true, true, true, true, true, true, true, true, false, false, false, false, false, false, false, false, false, false, false, false, false, false, false, false, false, false] rfl rfl (by kernel_rfl) (fun _ _ _ h => h) (Or.inr ⟨by rfl, rfl⟩) ?_ ?_
         rotate_left
         · simp only [Act.put, List.setIfInBounds_toArray, List.set_cons_zero, List.set_cons_succ, i64_w, i32_w]
           rfl
         refine pure_ (i := 10) (N := some 55) (v := undef) (a' := ?_) #[true, true, true, true, true, true, true, true, true, true, true, false, false, false, false, false, false, false, false, false, false, false, false, false, false, false, false, false] rfl rfl (by kernel_rfl) (fun _ _ _ h => h) (Or.inr ⟨by rfl, rfl⟩) ?_ ?_
         rotate_left
         · simp only [Act.put, List.setIfInBounds_toArray, List.set_cons_zero, List.set_cons_succ, i64_w, i32_w]
           rfl
         refine pure_ (i := 11) (N := some 56) (v := undef) (a' := ?_) #[true, true, true, true, true, true, true, true, true, true, true, true, false, false, false, false, false, false, false, false, false, false, false, false, false, false, false, false] rfl rfl (by kernel_rfl) (fun _ _ _ h => h) (Or.inr ⟨by rfl, rfl⟩) ?_ ?_
         rotate_left
         · simp only [Act.put, List.setIfInBounds_toArray, List.set_cons_zero, List.set_cons_succ, i64_w, i32_w]
           rfl
         refine pure_ (i := 12) (N := some 57) (v := undef) (a' := ?_) #[true, true, true, true, true, true, true, true, true, true, true, true, true, false, false, false, false, false, false, false, false, false, false, false, false, false, false, false] rfl rfl (by kernel_rfl) (fun _ _ _ h => h) (Or.inr ⟨by rfl, rfl⟩) ?_ ?_
         rotate_left
         · simp only [Act.put, List.setIfInBounds_toArray, List.set_cons_zero, List.set_cons_succ, i64_w, i32_w]
           rfl
         refine pure_ (i := 13) (N := some 58) (v := undef) (a' := ?_) #[true, true, true, true, true, true, true, true, true, true, true, true, true, true, false, false, false, false, false, false, false, false, false, false, false, false, false, false] rfl rfl (by kernel_rfl) (fun _ _ _ h => h) (Or.inr ⟨by rfl, rfl⟩) ?_ ?_
         rotate_left
         · simp only [Act.put, List.setIfInBounds_toArray, List.set_cons_zero, List.set_cons_succ, i64_w, i32_w]
           rfl
         refine pure_ (i := 14) (N := some 59) (v := undef) (a' := ?_) #[true, true, true, true, true, true, true, true, true, true, true, true, true, true, true, false, false, false, false, false, false, false, false, false, false, false, false, false] rfl rfl (by kernel_rfl) (fun _ _ _ h => h) (Or.inr ⟨by rfl, rfl⟩) ?_ ?_
         rotate_left
         · simp only [Act.put, List.setIfInBounds_toArray, List.set_cons_zero, List.set_cons_succ, i64_w, i32_w]
           rfl
         refine pure_ (i := 15) (N := some 60) (v := .bool true) (a' := ?_) #[true, true, true, true, true, true, true, true, true, true, true, true, true, true, true, true, false, false, false, false, false, false, false, false, false, false, false, false] rfl rfl (by kernel_rfl) (fun _ _ _ h => h) (Or.inl ⟨by rfl, ?_⟩) ?_ ?_
         · intro w'
           go_simp
           first | done | rfl | (simp only [i64_w, hw, hw2]; done) | (simp [hw, hw2, k1, k2]; done)
         rotate_left
         · simp only [Act.put, List.setIfInBounds_toArray, List.set_cons_zero, List.set_cons_succ, i64_w, i32_w]
           rfl
         refine pure_ (i := 16) (N := some 61) (v := .bool true) (a' := ?_) #[true, true, true, true, true, true, true, true, true, true, true, true, true, true, true, true, true, false, false, false, false, false, false, false, false, false, false, false] rfl rfl (by kernel_rfl) (fun _ _ _ h => h) (Or.inl ⟨by rfl, ?_⟩) ?_ ?_
         · intro w'
           go_simp
           first | done | rfl | (simp only [i64_w, hw, hw2]; done) | (simp [hw, hw2, k1, k2]; done)
         rotate_left
         · simp only [Act.put, List.setIfInBounds_toArray, List.set_cons_zero, List.set_cons_succ, i64_w, i32_w]
           rfl
         refine take_ (i := 17) (N := some 62) (v := ?_) (a' := ?_) #[true, true, true, true, true, true, true, true, true, true, true, true, true, true, true, true, true, true, false, false, false, false, false, false, false, false, false, false] rfl rfl (by kernel_rfl) (fun _ _ _ h => h) (Or.inl ⟨by rfl, ?_⟩) hHeld ?_ ?_
         rotate_left
         · rintro w' ⟨s0, sb⟩
           refine (s_runLd (x := .tmp 3) ?_ ?_ s0).trans ?_
           · rfl
           · rfl
           · rfl
         rotate_left
         · simp only [Act.put, List.setIfInBounds_toArray, List.set_cons_zero, List.set_cons_succ, i64_w, i32_w]
           rfl
         refine pure_ (i := 18) (N := some 63) (v := .pointer (some ⟨g3, 13, none⟩)) (a' := ?_) #[true, true, true, true, true, true, true, true, true, true, true, true, true, true, true, true, true, true, true, false, false, false, false, false, false, false, false, false] rfl rfl (by kernel_rfl) (fun _ _ _ h => h) (Or.inl ⟨by rfl, ?_⟩) ?_ ?_
         · intro w'
           go_simp
           first | done | rfl | (simp only [i64_w, hw, hw2]; done) | (simp [hw, hw2, k1, k2]; done)
         rotate_left
         · simp only [Act.put, List.setIfInBounds_toArray, List.set_cons_zero, List.set_cons_succ, i64_w, i32_w]
           rfl
         refine take_ (i := 19) (N := some 64) (v := .slice (some ⟨gs, 0, none⟩) st.length cs) (a' := ?_) #[true, true, true, true, true, true, true, true, true, true, true, true, true, true, true, true, true, true, true, true, false, false, false, false, false, false, false, false] rfl rfl (by kernel_rfl) (fun _ _ _ h => h) (Or.inl ⟨by rfl, ?_⟩) hHeld ?_ ?_
         · rintro w' ⟨s0, sb⟩
           have t0 : w'.cell? ⟨g3, 13, none⟩ = some (.slice (some ⟨gs, 0, none⟩) st.length cs) := (blk_cell s0 13).trans rfl
           go_simp
           first | done | rfl | (simp only [i64_w, hw, hw2]; done) | (simp [hw, hw2, k1, k2]; done)
         rotate_left
         · simp only [Act.put, List.setIfInBounds_toArray, List.set_cons_zero, List.set_cons_succ, i64_w, i32_w]
           rfl
         refine pure_ (i := 20) (N := some 65) (v := .int .i64 (u : Int)) (a' := ?_) #[true, true, true, true, true, true, true, true, true, true, true, true, true, true, true, true, true, true, true, true, true, false, false, false, false, false, false, false] rfl rfl (by kernel_rfl) (fun _ _ _ h => h) (Or.inl ⟨by rfl, ?_⟩) ?_ ?_
         · intro w'
           go_simp
           first | done | rfl | (simp only [i64_w, hw, hw2]; done) | (simp [hw, hw2, k1, k2]; done)
         rotate_left
         · simp only [Act.put, List.setIfInBounds_toArray, List.set_cons_zero, List.set_cons_succ, i64_w, i32_w]
           rfl
         refine pure_ (i := 21) (N := some 66) (v := .pointer (some ⟨gs, u, none⟩)) (a' := ?_) #[true, true, true, true, true, true, true, true, true, true, true, true, true, true, true, true, true, true, true, true, true, true, false, false, false, false, false, false] rfl rfl (by kernel_rfl) (fun _ _ _ h => h) (Or.inl ⟨by rfl, ?_⟩) ?_ ?_
         · intro w'
           go_simp
           first | done | rfl | (simp only [i64_w, hw, hw2]; done) | (simp [hw, hw2, k1, k2]; done)
         rotate_left
         · simp only [Act.put, List.setIfInBounds_toArray, List.set_cons_zero, List.set_cons_succ, i64_w, i32_w]
           rfl
         refine take_ (i := 22) (N := some 67) (v := .int .i64 (rd st (u : Int))) (a' := ?_) #[true, true, true, true, true, true, true, true, true, true, true, true, true, true, true, true, true, true, true, true, true, true, true, false, false, false, false, false] rfl rfl (by kernel_rfl) (fun _ _ _ h => h) (Or.inl ⟨by rfl, ?_⟩) hHeld ?_ ?_
         · rintro w' ⟨s0, sb⟩
           have t0 : w'.cell? ⟨gs, u, none⟩ = some (.int .i64 (rd st (u : Int))) := (blk_cell sb u).trans HCU_.out
           go_simp
           first | done | rfl | (simp only [i64_w, hw, hw2]; done) | (simp [hw, hw2, k1, k2]; done)
         rotate_left
         · simp only [Act.put, List.setIfInBounds_toArray, List.set_cons_zero, List.set_cons_succ, i64_w, i32_w]
           rfl
         refine pure_ (i := 24) (N := some 69) (v := .int .i64 (u : Int)) (a' := ?_) #[true, true, true, true, true, true, true, true, true, true, true, true, true, true, true, true, true, true, true, true, true, true, true, false, true, false, false, false] rfl rfl (by kernel_rfl) (fun _ _ _ h => h) (Or.inl ⟨by rfl, ?_⟩) ?_ ?_
         · intro w'
           go_simp
           first | done | rfl | (simp only [i64_w, hw, hw2]; done) | (simp [hw, hw2, k1, k2]; done)
         rotate_left
         · simp only [Act.put, List.setIfInBounds_toArray, List.set_cons_zero, List.set_cons_succ, i64_w, i32_w]
           rfl
         refine one_ (i := 23) (N := some 68) #[true, true, true, true, true, true, true, true, true, true, true, true, true, true, true, true, true, true, true, true, true, true, true, true, true, false, false, false] rfl rfl (by kernel_rfl) (by decide) (fun K hK => ?_)
         refine goes_ Try.func7 (by kernel_rfl) rfl #[.agg (SLit A X Y S p f0 f1 f2 f3 f4 f5 (.slice Am mem.length cm) (.slice At tr.length ct) (.slice (some ⟨gs, 0, none⟩) st.length cs) (.slice Ak cp.length ck) j), .int .i64 (rd st (u : Int))] (by rfl) rfl rfl (by (try simp only [List.map_toArray, List.map_cons, List.map_nil]); first | done | rfl) ?_
         refine (UnitAt.at _ A X Y S p f0 f1 f2 f3 f4 f5 j Am At _ Ak cm ct cs ck mem tr st cp HM.out HT.out HS.out HP.out (Nat.le_trans HL1.out (by decide)) (Nat.le_trans HL2.out (by decide)) (rd st (u : Int)) (u : Int) ((if_pos ⟨h5, h6⟩).trans e2)).mono ?_
         rintro e w1 ⟨rfl, hb_⟩
         refine ⟨_, rfl, ?_⟩
         replace hHeld := And.intro (blk_below hHeld.1 hb_) (blk_below hHeld.2 hb_)
         have n0_ := Aside0.mk (blk_below B3.out hb_); have n1_ := Aside0.mk (blk_below HG.out hb_); have n2_ := Aside0.mk (Kd.R_below HM.out hb_); have n3_ := Aside0.mk (Kd.R_below HT.out hb_); have n4_ := Aside0.mk (Kd.R_below HS.out hb_); have n5_ := Aside0.mk (Kd.R_below HP.out hb_); have n6_ := Aside0.mk (below_step HB0.out hb_); clear B3 HG HM HT HS HP HB0; have B3 := n0_; have HG := n1_; have HM := n2_; have HT := n3_; have HS := n4_; have HP := n5_; have HB0 := n6_; clear n0_ n1_ n2_ n3_ n4_ n5_ n6_
         clear hb_
         refine hK.out _ _ hHeld (fun _ => ?_)
         clear hK K
         refine norm_ (a' := ?_) ?_ ?_
         rotate_left
         · show Act.put _ (some 68) _ = _
           simp only [Act.put, List.setIfInBounds_toArray, List.set_cons_zero, List.set_cons_succ, i64_w, i32_w]
           rfl
         refine pure_ (i := 25) (N := some 70) (v := .bool true) (a' := ?_) #[true, true, true, true, true, true, true, true, true, true, true, true, true, true, true, true, true, true, true, true, true, true, true, true, true, true, false, false] rfl rfl (by kernel_rfl) (fun _ _ _ h => h) (Or.inl ⟨by rfl, ?_⟩) ?_ ?_
         · intro w'
           go_simp
           first | done | rfl | (simp only [i64_w, hw, hw2]; done) | (simp [hw, hw2, k1, k2]; done)
         rotate_left
         · simp only [Act.put, List.setIfInBounds_toArray, List.set_cons_zero, List.set_cons_succ, i64_w, i32_w]
           rfl
         refine pure_ (i := 26) (N := some 71) (v := .bool true) (a' := ?_) #[true, true, true, true, true, true, true, true, true, true, true, true, true, true, true, true, true, true, true, true, true, true, true, true, true, true, true, false] rfl rfl (by kernel_rfl) (fun _ _ _ h => h) (Or.inl ⟨by rfl, ?_⟩) ?_ ?_
         · intro w'
           go_simp
           first | done | rfl | (simp only [i64_w, hw, hw2]; done) | (simp [hw, hw2, k1, k2]; done)
         rotate_left
         · simp only [Act.put, List.setIfInBounds_toArray, List.set_cons_zero, List.set_cons_succ, i64_w, i32_w]
           rfl
         refine pure_ (i := 27) (N := some 2) (v := .bool true) (a' := ?_) #[true, true, true, true, true, true, true, true, true, true, true, true, true, true, true, true, true, true, true, true, true, true, true, true, true, true, true, true] rfl rfl (by kernel_rfl) (fun _ _ _ h => h) (Or.inl ⟨by rfl, ?_⟩) ?_ ?_
         · intro w'
           go_simp
           first | done | rfl | (simp only [i64_w, hw, hw2]; done) | (simp [hw, hw2, k1, k2]; done)
         rotate_left
         · simp only [Act.put, List.setIfInBounds_toArray, List.set_cons_zero, List.set_cons_succ, i64_w, i32_w]
           rfl
         refine done_ (by kernel_rfl) ?_
         clear hHeld
         repeat (first | ((with_reducible refine gate_ret ?_); refine bodyPost_ret (results_tmp rfl _ _ _) rfl ?_; exact ⟨rfl, HB0.out⟩) | go_step)
       · have k1 := succ_ne h4
         have k2 : i < rd st ((u : Int) + 1) := h7
         have z2 : (u + 1 < st.length) = True := eq_true h4
         have z3 : (0 ≤ (u : Int) + 1) = True := eq_true (succ_in h4).1
         have z4 : ((u : Int) + 1 < (st.length : Int)) = True := eq_true (succ_in h4).2
         have z5 := succ_nat u
         have HCV_ := Aside0.mk ((blk_cell HG.out (u + 1)).symm.trans ((Kd.R_celln 0 HS.out ((u : Int) + 1) (succ_in h4).1 (succ_in h4).2).1))
         refine start_k (n := 28) (S := fun w' => w'.heap[g3]? = some (.cells (SLit A X Y S p f0 f1 f2 f3 f4 f5 (.slice Am mem.length cm) (.slice At tr.length ct) (.slice (some ⟨gs, 0, none⟩) st.length cs) (.slice Ak cp.length ck) j) 35 (0, 0)) ∧ w'.heap[gs]? = some (.cells cells 3 (0, 0))) (ds := []) #[false, false, false, false, false, false, false, false, false, false, false, false, false, false, false, false, false, false, false, false, false, false, false, false, false, false, false, false] (by kernel_rfl) rfl rfl ⟨B3.out, HG.out⟩ (fun w1 he hs => by rw [he]; exact hs) ?_
         intro w1 hHeld hb_
         have n0_ := Aside0.mk (blk_below B3.out hb_); have n1_ := Aside0.mk (blk_below HG.out hb_); have n2_ := Aside0.mk (Kd.R_below HM.out hb_); have n3_ := Aside0.mk (Kd.R_below HT.out hb_); have n4_ := Aside0.mk (Kd.R_below HS.out hb_); have n5_ := Aside0.mk (Kd.R_below HP.out hb_); have n6_ := Aside0.mk (below_step HB0.out hb_); clear B3 HG HM HT HS HP HB0; have B3 := n0_; have HG := n1_; have HM := n2_; have HT := n3_; have HS := n4_; have HP := n5_; have HB0 := n6_; clear n0_ n1_ n2_ n3_ n4_ n5_ n6_
         clear hb_
         refine pure_ (i := 0) (N := some 45) (v := .int .i64 (u : Int)) (a' := ?_) #[true, false, false, false, false, false, false, false, false, false, false, false, false, false, false, false, false, false, false, false, false, false, false, false, false, false, false, false] rfl rfl (by kernel_rfl) (fun _ _ _ h => h) (Or.inl ⟨by rfl, ?_⟩) ?_ ?_
         · intro w'
           go_simp
           first | done | rfl | (simp only [i64_w, hw, hw2]; done) | (simp [hw, hw2, k1, k2]; done)
         rotate_left
         · simp only [Act.put, List.setIfInBounds_toArray, List.set_cons_zero, List.set_cons_succ, i64_w, i32_w]
           rfl
         refine pure_ (i := 1) (N := some 46) (v := .int .i64 ((u : Int) + 1)) (a' := ?_) #[true, true, false, false, false, false, false, false, false, false, false, false, false, false, false, false, false, false, false, false, false, false, false, false, false, false, false, false] rfl rfl (by kernel_rfl) (fun _ _ _ h => h) (Or.inl ⟨by rfl, ?_⟩) ?_ ?_
         · intro w'
           go_simp
           first | done | rfl | (simp only [i64_w, hw, hw2]; done) | (simp [hw, hw2, k1, k2]; done)
         rotate_left
         · simp only [Act.put, List.setIfInBounds_toArray, List.set_cons_zero, List.set_cons_succ, i64_w, i32_w]
           rfl
         refine pure_ (i := 2) (N := some 47) (v := .pointer (some ⟨g3, 13, none⟩)) (a' := ?_) #[true, true, true, false, false, false, false, false, false, false, false, false, false, false, false, false, false, false, false, false, false, false, false, false, false, false, false, false] rfl rfl (by kernel_rfl) (fun _ _ _ h => h) (Or.inl ⟨by rfl, ?_⟩) ?_ ?_
         · intro w'
           go_simp
           first | done | rfl | (simp only [i64_w, hw, hw2]; done) | (simp [hw, hw2, k1, k2]; done)
         rotate_left
         · simp only [Act.put, List.setIfInBounds_toArray, List.set_cons_zero, List.set_cons_succ, i64_w, i32_w]
           rfl
         refine take_ (i := 3) (N := some 48) (v := .slice (some ⟨gs, 0, none⟩) st.length cs) (a' := ?_) #[true, true, true, true, false, false, false, false, false, false, false, false, false, false, false, false, false, false, false, false, false, false, false, false, false, false, false, false] rfl rfl (by kernel_rfl) (fun _ _ _ h => h) (Or.inl ⟨by rfl, ?_⟩) hHeld ?_ ?_
         · rintro w' ⟨s0, sb⟩
           have t0 : w'.cell? ⟨g3, 13, none⟩ = some (.slice (some ⟨gs, 0, none⟩) st.length cs) := (blk_cell s0 13).trans rfl
           go_simp
           first | done | rfl | (simp only [i64_w, hw, hw2]; done) | (simp [hw, hw2, k1, k2]; done)
         rotate_left
         · simp only [Act.put, List.setIfInBounds_toArray, List.set_cons_zero, List.set_cons_succ, i64_w, i32_w]
           rfl
         refine pure_ (i := 4) (N := some 49) (v := .int .i64 (st.length : Int)) (a' := ?_) #[true, true, true, true, true, false, false, false, false, false, false, false, false, false, false, false, false, false, false, false, false, false, false, false, false, false, false, false] rfl rfl (by kernel_rfl) (fun _ _ _ h => h) (Or.inl ⟨by rfl, ?_⟩) ?_ ?_
         · intro w'
           go_simp
           first | done | rfl | (simp only [i64_w, hw, hw2]; done) | (simp [hw, hw2, k1, k2]; done)
         rotate_left
         · simp only [Act.put, List.setIfInBounds_toArray, List.set_cons_zero, List.set_cons_succ, i64_w, i32_w]
           rfl
         refine pure_ (i := 5) (N := some 50) (v := .bool false) (a' := ?_) #[true, true, true, true, true, true, false, false, false, false, false, false, false, false, false, false, false, false, false, false, false, false, false, false, false, false, false, false] rfl rfl (by kernel_rfl) (fun _ _ _ h => h) (Or.inl ⟨by rfl, ?_⟩) ?_ ?_
         · intro w'
           go_simp
           first | done | rfl | (simp only [i64_w, hw, hw2]; done) | (simp [hw, hw2, k1, k2]; done)
         rotate_left
         · simp only [Act.put, List.setIfInBounds_toArray, List.set_cons_zero, List.set_cons_succ, i64_w, i32_w]
           rfl
         refine pure_ (i := 6) (N := some 51) (v := .bool false) (a' := ?_) #[true, true, true, true, true, true, true, false, false, false, false, false, false, false, false, false, false, false, false, false, false, false, false, false, false, false, false, false] rfl rfl (by kernel_rfl) (fun _ _ _ h => h) (Or.inl ⟨by rfl, ?_⟩) ?_ ?_
         · intro w'
           go_simp
           first | done | rfl | (simp only [i64_w, hw, hw2]; done) | (simp [hw, hw2, k1, k2]; done)
         rotate_left
         · simp only [Act.put, List.setIfInBounds_toArray, List.set_cons_zero, List.set_cons_succ, i64_w, i32_w]
           rfl
         refine pure_ (i := 7) (N := some 52) (v := .pointer (some ⟨g3, 13, none⟩)) (a' := ?_) #[true, true, true, true, true, true, true, true, false, false, false, false, false, false, false, false, false, false, false, false, false, false, false, false, false, false, false, false] rfl rfl (by kernel_rfl) (fun _ _ _ h => h) (Or.inl ⟨by rfl, ?_⟩) ?_ ?_
         · intro w'
           go_simp
           first | done | rfl | (simp only [i64_w, hw, hw2]; done) | (simp [hw, hw2, k1, k2]; done)
         rotate_left
         · simp only [Act.put, List.setIfInBounds_toArray, List.set_cons_zero, List.set_cons_succ, i64_w, i32_w]
           rfl
         refine take_ (i := 8) (N := some 53) (v := .slice (some ⟨gs, 0, none⟩) st.length cs) (a' := ?_) #[true, true, true, true, true, true, true, true, true, false, false, false, false, false, false, false, false, false, false, false, false, false, false, false, false, false, false, false] rfl rfl (by kernel_rfl) (fun _ _ _ h => h) (Or.inl ⟨by rfl, ?_⟩) hHeld ?_ ?_
         · rintro w' ⟨s0, sb⟩
           have t0 : w'.cell? ⟨g3, 13, none⟩ = some (.slice (some ⟨gs, 0, none⟩) st.length cs) := (blk_cell s0 13).trans rfl
           go_simp
           first | done | rfl | (simp only [i64_w, hw, hw2]; done) | (simp [hw, hw2, k1, k2]; done)
         rotate_left
         · simp only [Act.put, List.setIfInBounds_toArray, List.set_cons_zero, List.set_cons_succ, i64_w, i32_w]
           rfl
         refine pure_ (i := 9) (N := some 54) (v := .int .i64 (u : Int)) (a' := ?_) #[true, true, true, true, true, true, true, true, true, true, false, false, false, false, false, false, false, false, false, false, false, false, false, false, false, false, false, false] rfl rfl (by kernel_rfl) (fun _ _ _ h => h) (Or.inl ⟨by rfl, ?_⟩) ?_ ?_
         · intro w'
           go_simp
           first | done | rfl | (simp only [i64_w, hw, hw2]; done) | (simp [hw, hw2, k1, k2]; done)
         rotate_left
         · simp only [Act.put, List.setIfInBounds_toArray, List.set_cons_zero, List.set_cons_succ, i64_w, i32_w]
           rfl
         refine pure_ (i := 10) (N := some 55) (v := .int .i64 ((u : Int) + 1)) (a' := ?_) #[true, true, true, true, true, true, true, true, true, true, true, false, false, false, false, false, false, false, false, false, false, false, false, false, false, false, false, false] rfl rfl (by kernel_rfl) (fun _ _ _ h => h) (Or.inl ⟨by rfl, ?_⟩) ?_ ?_
         · intro w'
           go_simp
           first | done | rfl | (simp only [i64_w, hw, hw2]; done) | (simp [hw, hw2, k1, k2]; done)
         rotate_left
         · simp only [Act.put, List.setIfInBounds_toArray, List.set_cons_zero, List.set_cons_succ, i64_w, i32_w]
           rfl
         refine pure_ (i := 11) (N := some 56) (v := .pointer (some ⟨gs, u + 1, none⟩)) (a' := ?_) #[true, true, true, true, true, true, true, true, true, true, true, true, false, false, false, false, false, false, false, false, false, false, false, false, false, false, false, false] rfl rfl (by kernel_rfl) (fun _ _ _ h => h) (Or.inl ⟨by rfl, ?_⟩) ?_ ?_
         · intro w'
           go_simp
           first | done | rfl | (simp only [i64_w, hw, hw2]; done) | (simp [hw, hw2, k1, k2]; done)
         rotate_left
         · simp only [Act.put, List.setIfInBounds_toArray, List.set_cons_zero, List.set_cons_succ, i64_w, i32_w]
           rfl
         refine take_ (i := 12) (N := some 57) (v := .int .i64 (rd st ((u : Int) + 1))) (a' := ?_) #[true, true, true, true, true, true, true, true, true, true, true, true, true, false, false, false, false, false, false, false, false, false, false, false, false, false, false, false] rfl rfl (by kernel_rfl) (fun _ _ _ h => h) (Or.inl ⟨by rfl, ?_⟩) hHeld ?_ ?_
         · rintro w' ⟨s0, sb⟩
           have t0 : w'.cell? ⟨gs, u + 1, none⟩ = some (.int .i64 (rd st ((u : Int) + 1))) := (blk_cell sb (u + 1)).trans HCV_.out
           go_simp
           first | done | rfl | (simp only [i64_w, hw, hw2]; done) | (simp [hw, hw2, k1, k2]; done)
         rotate_left
         · simp only [Act.put, List.setIfInBounds_toArray, List.set_cons_zero, List.set_cons_succ, i64_w, i32_w]
           rfl
         refine pure_ (i := 13) (N := some 58) (v := .int .i64 i) (a' := ?_) #[true, true, true, true, true, true, true, true, true, true, true, true, true, true, false, false, false, false, false, false, false, false, false, false, false, false, false, false] rfl rfl (by kernel_rfl) (fun _ _ _ h => h) (Or.inl ⟨by rfl, ?_⟩) ?_ ?_
         · intro w'
           go_simp
           first | done | rfl | (simp only [i64_w, hw, hw2]; done) | (simp [hw, hw2, k1, k2]; done)
         rotate_left
         · simp only [Act.put, List.setIfInBounds_toArray, List.set_cons_zero, List.set_cons_succ, i64_w, i32_w]
           rfl
         refine pure_ (i := 14) (N := some 59) (v := .bool true) (a' := ?_) #[true, true, true, true, true, true, true, true, true, true, true, true, true, true, true, false, false, false, false, false, false, false, false, false, false, false, false, false] rfl rfl (by kernel_rfl) (fun _ _ _ h => h) (Or.inl ⟨by rfl, ?_⟩) ?_ ?_
         · intro w'
           go_simp
           first | done | rfl | (simp only [i64_w, hw, hw2]; done) | (simp [hw, hw2, k1, k2]; done)
         rotate_left
         · simp only [Act.put, List.setIfInBounds_toArray, List.set_cons_zero, List.set_cons_succ, i64_w, i32_w]
           rfl
         refine pure_ (i := 15) (N := some 60) (v := .bool true) (a' := ?_) #[true, true, true, true, true, true, true, true, true, true, true, true, true, true, true, true, false, false, false, false, false, false, false, false, false, false, false, false] rfl rfl (by kernel_rfl) (fun _ _ _ h => h) (Or.inl ⟨by rfl, ?_⟩) ?_ ?_
         · intro w'
           go_simp
           first | done | rfl | (simp only [i64_w, hw, hw2]; done) | (simp [hw, hw2, k1, k2]; done)
         rotate_left
         · simp only [Act.put, List.setIfInBounds_toArray, List.set_cons_zero, List.set_cons_succ, i64_w, i32_w]
           rfl
         refine pure_ (i := 16) (N := some 61) (v := .bool true) (a' := ?_) #[true, true, true, true, true, true, true, true, true, true, true, true, true, true, true, true, true, false, false, false, false, false, false, false, false, false, false, false] rfl rfl (by kernel_rfl) (fun _ _ _ h => h) (Or.inl ⟨by rfl, ?_⟩) ?_ ?_
         · intro w'
           go_simp
           first | done | rfl | (simp only [i64_w, hw, hw2]; done) | (simp [hw, hw2, k1, k2]; done)
         rotate_left
         · simp only [Act.put, List.setIfInBounds_toArray, List.set_cons_zero, List.set_cons_succ, i64_w, i32_w]
           rfl
         refine take_ (i := 17) (N := some 62) (v := ?_) (a' := ?_) #[true, true, true, true, true, true, true, true, true, true, true, true, true, true, true, true, true, true, false, false, false, false, false, false, false, false, false, false] rfl rfl (by kernel_rfl) (fun _ _ _ h => h) (Or.inl ⟨by rfl, ?_⟩) hHeld ?_ ?_
         rotate_left
         · rintro w' ⟨s0, sb⟩
           refine (s_runLd (x := .tmp 3) ?_ ?_ s0).trans ?_
           · rfl
           · rfl
           · rfl
         rotate_left
         · simp only [Act.put, List.setIfInBounds_toArray, List.set_cons_zero, List.set_cons_succ, i64_w, i32_w]
           rfl
         refine pure_ (i := 18) (N := some 63) (v := .pointer (some ⟨g3, 13, none⟩)) (a' := ?_) #[true, true, true, true, true, true, true, true, true, true, true, true, true, true, true, true, true, true, true, false, false, false, false, false, false, false, false, false] rfl rfl (by kernel_rfl) (fun _ _ _ h => h) (Or.inl ⟨by rfl, ?_⟩) ?_ ?_
         · intro w'
           go_simp
           first | done | rfl | (simp only [i64_w, hw, hw2]; done) | (simp [hw, hw2, k1, k2]; done)
         rotate_left
         · simp only [Act.put, List.setIfInBounds_toArray, List.set_cons_zero, List.set_cons_succ, i64_w, i32_w]
           rfl
         refine take_ (i := 19) (N := some 64) (v := .slice (some ⟨gs, 0, none⟩) st.length cs) (a' := ?_) #[true, true, true, true, true, true, true, true, true, true, true, true, true, true, true, true, true, true, true, true, false, false, false, false, false, false, false, false] rfl rfl (by kernel_rfl) (fun _ _ _ h => h) (Or.inl ⟨by rfl, ?_⟩) hHeld ?_ ?_
         · rintro w' ⟨s0, sb⟩
           have t0 : w'.cell? ⟨g3, 13, none⟩ = some (.slice (some ⟨gs, 0, none⟩) st.length cs) := (blk_cell s0 13).trans rfl
           go_simp
           first | done | rfl | (simp only [i64_w, hw, hw2]; done) | (simp [hw, hw2, k1, k2]; done)
         rotate_left
         · simp only [Act.put, List.setIfInBounds_toArray, List.set_cons_zero, List.set_cons_succ, i64_w, i32_w]
           rfl
         refine pure_ (i := 20) (N := some 65) (v := .int .i64 (u : Int)) (a' := ?_) #[true, true, true, true, true, true, true, true, true, true, true, true, true, true, true, true, true, true, true, true, true, false, false, false, false, false, false, false] rfl rfl (by kernel_rfl) (fun _ _ _ h => h) (Or.inl ⟨by rfl, ?_⟩) ?_ ?_
         · intro w'
           go_simp
           first | done | rfl | (simp only [i64_w, hw, hw2]; done) | (simp [hw, hw2, k1, k2]; done)
         rotate_left
         · simp only [Act.put, List.setIfInBounds_toArray, List.set_cons_zero, List.set_cons_succ, i64_w, i32_w]
           rfl
         refine pure_ (i := 21) (N := some 66) (v := .pointer (some ⟨gs, u, none⟩)) (a' := ?_) #[true, true, true, true, true, true, true, true, true, true, true, true, true, true, true, true, true, true, true, true, true, true, false, false, false, false, false, false] rfl rfl (by kernel_rfl) (fun _ _ _ h => h) (Or.inl ⟨by rfl, ?_⟩) ?_ ?_
         · intro w'
           go_simp
           first | done | rfl | (simp only [i64_w, hw, hw2]; done) | (simp [hw, hw2, k1, k2]; done)
         rotate_left
         · simp only [Act.put, List.setIfInBounds_toArray, List.set_cons_zero, List.set_cons_succ, i64_w, i32_w]
           rfl
         refine take_ (i := 22) (N := some 67) (v := .int .i64 (rd st (u : Int))) (a' := ?_) #[true, true, true, true, true, true, true, true, true, true, true, true, true, true, true, true, true, true, true, true, true, true, true, false, false, false, false, false] rfl rfl (by kernel_rfl) (fun _ _ _ h => h) (Or.inl ⟨by rfl, ?_⟩) hHeld ?_ ?_
         · rintro w' ⟨s0, sb⟩
           have t0 : w'.cell? ⟨gs, u, none⟩ = some (.int .i64 (rd st (u : Int))) := (blk_cell sb u).trans HCU_.out
           go_simp
           first | done | rfl | (simp only [i64_w, hw, hw2]; done) | (simp [hw, hw2, k1, k2]; done)
         rotate_left
         · simp only [Act.put, List.setIfInBounds_toArray, List.set_cons_zero, List.set_cons_succ, i64_w, i32_w]
           rfl
         refine pure_ (i := 24) (N := some 69) (v := .int .i64 (u : Int)) (a' := ?_) #[true, true, true, true, true, true, true, true, true, true, true, true, true, true, true, true, true, true, true, true, true, true, true, false, true, false, false, false] rfl rfl (by kernel_rfl) (fun _ _ _ h => h) (Or.inl ⟨by rfl, ?_⟩) ?_ ?_
         · intro w'
           go_simp
           first | done | rfl | (simp only [i64_w, hw, hw2]; done) | (simp [hw, hw2, k1, k2]; done)
         rotate_left
         · simp only [Act.put, List.setIfInBounds_toArray, List.set_cons_zero, List.set_cons_succ, i64_w, i32_w]
           rfl
         refine one_ (i := 23) (N := some 68) #[true, true, true, true, true, true, true, true, true, true, true, true, true, true, true, true, true, true, true, true, true, true, true, true, true, false, false, false] rfl rfl (by kernel_rfl) (by decide) (fun K hK => ?_)
         refine goes_ Try.func7 (by kernel_rfl) rfl #[.agg (SLit A X Y S p f0 f1 f2 f3 f4 f5 (.slice Am mem.length cm) (.slice At tr.length ct) (.slice (some ⟨gs, 0, none⟩) st.length cs) (.slice Ak cp.length ck) j), .int .i64 (rd st (u : Int))] (by rfl) rfl rfl (by (try simp only [List.map_toArray, List.map_cons, List.map_nil]); first | done | rfl) ?_
         refine (UnitAt.at _ A X Y S p f0 f1 f2 f3 f4 f5 j Am At _ Ak cm ct cs ck mem tr st cp HM.out HT.out HS.out HP.out (Nat.le_trans HL1.out (by decide)) (Nat.le_trans HL2.out (by decide)) (rd st (u : Int)) (u : Int) ((if_pos ⟨h5, h6⟩).trans e2)).mono ?_
         rintro e w1 ⟨rfl, hb_⟩
         refine ⟨_, rfl, ?_⟩
         replace hHeld := And.intro (blk_below hHeld.1 hb_) (blk_below hHeld.2 hb_)
         have n0_ := Aside0.mk (blk_below B3.out hb_); have n1_ := Aside0.mk (blk_below HG.out hb_); have n2_ := Aside0.mk (Kd.R_below HM.out hb_); have n3_ := Aside0.mk (Kd.R_below HT.out hb_); have n4_ := Aside0.mk (Kd.R_below HS.out hb_); have n5_ := Aside0.mk (Kd.R_below HP.out hb_); have n6_ := Aside0.mk (below_step HB0.out hb_); clear B3 HG HM HT HS HP HB0; have B3 := n0_; have HG := n1_; have HM := n2_; have HT := n3_; have HS := n4_; have HP := n5_; have HB0 := n6_; clear n0_ n1_ n2_ n3_ n4_ n5_ n6_
         clear hb_
         refine hK.out _ _ hHeld (fun _ => ?_)
         clear hK K
         refine norm_ (a' := ?_) ?_ ?_
         rotate_left
         · show Act.put _ (some 68) _ = _
           simp only [Act.put, List.setIfInBounds_toArray, List.set_cons_zero, List.set_cons_succ, i64_w, i32_w]
           rfl
         refine pure_ (i := 25) (N := some 70) (v := .bool true) (a' := ?_) #[true, true, true, true, true, true, true, true, true, true, true, true, true, true, true, true, true, true, true, true, true, true, true, true, true, true, false, false] rfl rfl (by kernel_rfl) (fun _ _ _ h => h) (Or.inl ⟨by rfl, ?_⟩) ?_ ?_
         · intro w'
           go_simp
           first | done | rfl | (simp only [i64_w, hw, hw2]; done) | (simp [hw, hw2, k1, k2]; done)
         rotate_left
         · simp only [Act.put, List.setIfInBounds_toArray, List.set_cons_zero, List.set_cons_succ, i64_w, i32_w]
           rfl
         refine pure_ (i := 26) (N := some 71) (v := .bool true) (a' := ?_) #[true, true, true, true, true, true, true, true, true, true, true, true, true, true, true, true, true, true, true, true, true, true, true, true, true, true, true, false] rfl rfl (by kernel_rfl) (fun _ _ _ h => h) (Or.inl ⟨by rfl, ?_⟩) ?_ ?_
         · intro w'
           go_simp
           first | done | rfl | (simp only [i64_w, hw, hw2]; done) | (simp [hw, hw2, k1, k2]; done)
         rotate_left
         · simp only [Act.put, List.setIfInBounds_toArray, List.set_cons_zero, List.set_cons_succ, i64_w, i32_w]
           rfl
         refine pure_ (i := 27) (N := some 2) (v := .bool true) (a' := ?_) #[true, true, true, true, true, true, true, true, true, true, true, true, true, true, true, true, true, true, true, true, true, true, true, true, true, true, true, true] rfl rfl (by kernel_rfl) (fun _ _ _ h => h) (Or.inl ⟨by rfl, ?_⟩) ?_ ?_
         · intro w'
           go_simp
           first | done | rfl | (simp only [i64_w, hw, hw2]; done) | (simp [hw, hw2, k1, k2]; done)
         rotate_left
         · simp only [Act.put, List.setIfInBounds_toArray, List.set_cons_zero, List.set_cons_succ, i64_w, i32_w]
           rfl
         refine done_ (by kernel_rfl) ?_
         clear hHeld
         repeat (first | ((with_reducible refine gate_ret ?_); refine bodyPost_ret (results_tmp rfl _ _ _) rfl ?_; exact ⟨rfl, HB0.out⟩) | go_step)))
end Go.Proofs.Ytafkbhnhmhmjcaa.Weak
