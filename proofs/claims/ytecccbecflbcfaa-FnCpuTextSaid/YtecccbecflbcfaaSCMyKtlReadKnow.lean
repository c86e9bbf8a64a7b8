import Derived.Test.YtecccbecflbcfaaSCPKtlx0
import Derived.Test.YtecccbecflbcfaaSCPKtlx19
import Derived.Test.YtecccbecflbcfaaSCPKtlx20
import Derived.Test.YtecccbecflbcfaaSCMyKtlKnowText
import Derived.StillTailTactics
import Derived.Test.YtecccbecflbcfaaSCMyFields
set_option linter.unusedVariables false
set_option linter.unusedSimpArgs false
namespace Go.Proofs.Ytecccbecflbcfaa.PKtl
open Go.RowKit Go.Proofs.Ytecccbecflbcfaa.Know Go.Proofs.YtecccbecflbcfaaW.PrintWords Go.Proofs.YtecccbecflbcfaaW.PrintLast Go.Proofs.YtecccbecflbcfaaW.PrintMore
def flagOf (s : ByteArray) (i : Nat) : Int := if bt s ((28 + i : Nat) : Int) = 63 then -1 else if bt s ((28 + i : Nat) : Int) = bt (⟨#[78, 86, 68, 73, 90, 67]⟩ : ByteArray) (i : Int) then 1 else 0
def fAt (s : ByteArray) (i j : Nat) : Int := if j < i then flagOf s j else 0
def impl_ReadKnow.f (k : Nat) (s : ByteArray) : Option (Int × Int × Int × Int × Int × Int × Int × Int × Int × Int × Int × Bool) := (impl_KnowText.f k (-1) (-1) (-1) (-1) (-1) (-1) (-1) (-1) (-1) (-1) (-1)).bind fun m => if m.size = 34 then (if s.size = 34 then (impl_ReadHex.f k (s.extract 2 4) 2).bind fun h0 => (impl_ReadHex.f k (s.extract 7 9) 2).bind fun h1 => (impl_ReadHex.f k (s.extract 12 14) 2).bind fun h2 => (impl_ReadHex.f k (s.extract 17 19) 2).bind fun h3 => (impl_ReadHex.f k (s.extract 23 27) 4).bind fun h4 => (impl_KnowText.f k h0 h1 h2 h3 h4 (flagOf s 0) (flagOf s 1) (flagOf s 2) (flagOf s 3) (flagOf s 4) (flagOf s 5)).bind fun t => if t.toList = s.toList then some (h0, h1, h2, h3, h4, (flagOf s 0), (flagOf s 1), (flagOf s 2), (flagOf s 3), (flagOf s 4), (flagOf s 5), true) else some (0, 0, 0, 0, 0, 0, 0, 0, 0, 0, 0, false) else some (0, 0, 0, 0, 0, 0, 0, 0, 0, 0, 0, false)) else none
theorem impl_ReadKnow.mono : ∀ a0 k, LeO (impl_ReadKnow.f k a0) (impl_ReadKnow.f (k + 1) a0) := by
  intro a0 k
  unfold impl_ReadKnow.f
  repeat' first
      | (with_reducible exact impl_ReadHex.mono _ _ _)
      | (with_reducible exact impl_KnowText.mono _ _ _ _ _ _ _ _ _ _ _ _)
      | (with_reducible exact LeO.refl _)
      | (with_reducible exact LeO.none _)
      | (with_reducible refine LeO.ite ?_ ?_)
      | (with_reducible refine LeO.bind ?_ (fun _ => ?_))
set_option maxHeartbeats 2000000 in
set_option maxRecDepth 100000 in
theorem impl_ReadKnow.calls (k : Nat) (s : ByteArray) (r0 r1 r2 r3 r4 r5 r6 r7 r8 r9 r10 : Int) (r11 : Bool) (w : World) (h : impl_ReadKnow.f k s = some (r0, r1, r2, r3, r4, r5, r6, r7, r8, r9, r10, r11)) : Calls Try.prog 38 #[.string s] w fun e w' => e = .returned (.tuple #[.agg #[.int .i64 r0, .int .i64 r1, .int .i64 r2, .int .i64 r3, .int .i64 r4, .int .i64 r5, .int .i64 r6, .int .i64 r7, .int .i64 r8, .int .i64 r9, .int .i64 r10], .bool r11]) ∧ Below w.heap.size w w' := by
  have HB := Aside0.mk (Below.refl w.heap.size w)
  have hu66 := Try.underlying66
  have hu23 := Try.underlying23
  unfold impl_ReadKnow.f at h
  obtain ⟨m, hm, h1⟩ := Option.bind_eq_some_iff.mp h
  have HM := Aside0.mk hm
  have HH := Aside0.mk h1
  clear hm h h1
  go_enter Try.func38, Try.ntmps38
  try go_wp2_with (first | ((with_reducible refine gate_dst (N := 2) rfl ?_); refine box_event ?hg (N := 2) ?hd (cs := #[.int .i64 0, .int .i64 0, .int .i64 0, .int .i64 0, .int .i64 0, .int .i64 0, .int .i64 0, .int .i64 0, .int .i64 0, .int .i64 0, .int .i64 0]) (t := 23) ?hr ?_; (case hd => rfl); (case hg => rfl); (case hr => first | (go_simp; done) | (go_simp; rfl)); intro gr hg v1_ hbox hb; have n0_ := Aside0.mk (below_step (by repeat (first | (with_reducible first | exact HB.out | apply below_alloc | apply pw_below_drewN | apply below_drew1) | exact HB.out)) hb); have n1_ := Aside0.mk (hbox); have n2_ := Aside0.mk ((by rw [hg]; exact (below_size (by repeat (first | (with_reducible first | exact HB.out | apply below_alloc | apply pw_below_drewN | apply below_drew1) | exact HB.out))) : w.heap.size ≤ gr)); clear HB; have HB := n0_; have Bgr := n1_; have Ggr := n2_; clear n0_ n1_ n2_; clear hb hbox hg))
  refine (impl_nothing.calls (-1) (-1) (-1) (-1) (-1) (-1) (-1) (-1) (-1) (-1) (-1) _ (by first | rfl | simp [impl_nothing.f])).mono ?_
  rintro e v2_ ⟨rfl, hb_⟩
  have mgr := Aside0.mk ((hb_.block gr (blk_lt Bgr.out)).trans Bgr.out)
  have mH := Aside0.mk (below_step HB.out hb_)
  clear HB Bgr hb_
  have HB := mH
  have Bgr := mgr
  clear mH mgr
  try go_wp2_with (fail)
  refine (impl_KnowText.calls k (-1) (-1) (-1) (-1) (-1) (-1) (-1) (-1) (-1) (-1) (-1) m _ HM.out).mono ?_
  rintro e v3_ ⟨rfl, hb_⟩
  have mgr := Aside0.mk ((hb_.block gr (blk_lt Bgr.out)).trans Bgr.out)
  have mH := Aside0.mk (below_step HB.out hb_)
  clear HB Bgr hb_
  have HB := mH
  have Bgr := mgr
  clear mH mgr
  have hh := HH.out
  clear HH HM
  by_cases hm : m.size = 34
  rotate_left
  · rw [if_neg hm] at hh; exact absurd hh (by simp)
  rw [if_pos hm] at hh
  by_cases hs : s.size = 34
  rotate_left
  · rw [if_neg hs] at hh
    simp only [Option.some.injEq, Prod.mk.injEq] at hh
    obtain ⟨rfl, rfl, rfl, rfl, rfl, rfl, rfl, rfl, rfl, rfl, rfl, rfl⟩ := hh
    have c1 : ((s.size : Int) == (m.size : Int)) = false := beq_eq_false_iff_ne.mpr (by omega)
    have c2 : ((s.size : Int) != (m.size : Int)) = true := bne_iff_ne.mpr (by omega)
    clear hs hm
    have hcgr0 : v3_.cell? ⟨gr, 0, none⟩ = some (.int .i64 0) := (blk_cell Bgr.out 0).trans rfl
    have hfgr0 := blk_frozen Bgr.out 0
    have hcgr1 : v3_.cell? ⟨gr, 1, none⟩ = some (.int .i64 0) := (blk_cell Bgr.out 1).trans rfl
    have hfgr1 := blk_frozen Bgr.out 1
    have hcgr2 : v3_.cell? ⟨gr, 2, none⟩ = some (.int .i64 0) := (blk_cell Bgr.out 2).trans rfl
    have hfgr2 := blk_frozen Bgr.out 2
    have hcgr3 : v3_.cell? ⟨gr, 3, none⟩ = some (.int .i64 0) := (blk_cell Bgr.out 3).trans rfl
    have hfgr3 := blk_frozen Bgr.out 3
    have hcgr4 : v3_.cell? ⟨gr, 4, none⟩ = some (.int .i64 0) := (blk_cell Bgr.out 4).trans rfl
    have hfgr4 := blk_frozen Bgr.out 4
    have hcgr5 : v3_.cell? ⟨gr, 5, none⟩ = some (.int .i64 0) := (blk_cell Bgr.out 5).trans rfl
    have hfgr5 := blk_frozen Bgr.out 5
    have hcgr6 : v3_.cell? ⟨gr, 6, none⟩ = some (.int .i64 0) := (blk_cell Bgr.out 6).trans rfl
    have hfgr6 := blk_frozen Bgr.out 6
    have hcgr7 : v3_.cell? ⟨gr, 7, none⟩ = some (.int .i64 0) := (blk_cell Bgr.out 7).trans rfl
    have hfgr7 := blk_frozen Bgr.out 7
    have hcgr8 : v3_.cell? ⟨gr, 8, none⟩ = some (.int .i64 0) := (blk_cell Bgr.out 8).trans rfl
    have hfgr8 := blk_frozen Bgr.out 8
    have hcgr9 : v3_.cell? ⟨gr, 9, none⟩ = some (.int .i64 0) := (blk_cell Bgr.out 9).trans rfl
    have hfgr9 := blk_frozen Bgr.out 9
    have hcgr10 : v3_.cell? ⟨gr, 10, none⟩ = some (.int .i64 0) := (blk_cell Bgr.out 10).trans rfl
    have hfgr10 := blk_frozen Bgr.out 10
    try go_wp2_with (fail)
    refine bodyPost_ret (results_ct rfl _ _ gr 23 #[.int .i64 0, .int .i64 0, .int .i64 0, .int .i64 0, .int .i64 0, .int .i64 0, .int .i64 0, .int .i64 0, .int .i64 0, .int .i64 0, .int .i64 0] (0, 0) _ rfl (by (with_reducible repeat (first | refine blk_drewN ?_ _ | refine blk_drew ?_ | refine blk_alloc ?_ _)); refine blk_put (cs := #[.int .i64 0, .int .i64 0, .int .i64 0, .int .i64 0, .int .i64 0, .int .i64 0, .int .i64 0, .int .i64 0, .int .i64 0, .int .i64 0, .int .i64 0]) ?_ 10 _ rfl; (with_reducible repeat (first | refine blk_drewN ?_ _ | refine blk_drew ?_ | refine blk_alloc ?_ _)); refine blk_put (cs := #[.int .i64 0, .int .i64 0, .int .i64 0, .int .i64 0, .int .i64 0, .int .i64 0, .int .i64 0, .int .i64 0, .int .i64 0, .int .i64 0, .int .i64 0]) ?_ 9 _ rfl; (with_reducible repeat (first | refine blk_drewN ?_ _ | refine blk_drew ?_ | refine blk_alloc ?_ _)); refine blk_put (cs := #[.int .i64 0, .int .i64 0, .int .i64 0, .int .i64 0, .int .i64 0, .int .i64 0, .int .i64 0, .int .i64 0, .int .i64 0, .int .i64 0, .int .i64 0]) ?_ 8 _ rfl; (with_reducible repeat (first | refine blk_drewN ?_ _ | refine blk_drew ?_ | refine blk_alloc ?_ _)); refine blk_put (cs := #[.int .i64 0, .int .i64 0, .int .i64 0, .int .i64 0, .int .i64 0, .int .i64 0, .int .i64 0, .int .i64 0, .int .i64 0, .int .i64 0, .int .i64 0]) ?_ 7 _ rfl; (with_reducible repeat (first | refine blk_drewN ?_ _ | refine blk_drew ?_ | refine blk_alloc ?_ _)); refine blk_put (cs := #[.int .i64 0, .int .i64 0, .int .i64 0, .int .i64 0, .int .i64 0, .int .i64 0, .int .i64 0, .int .i64 0, .int .i64 0, .int .i64 0, .int .i64 0]) ?_ 6 _ rfl; (with_reducible repeat (first | refine blk_drewN ?_ _ | refine blk_drew ?_ | refine blk_alloc ?_ _)); refine blk_put (cs := #[.int .i64 0, .int .i64 0, .int .i64 0, .int .i64 0, .int .i64 0, .int .i64 0, .int .i64 0, .int .i64 0, .int .i64 0, .int .i64 0, .int .i64 0]) ?_ 5 _ rfl; (with_reducible repeat (first | refine blk_drewN ?_ _ | refine blk_drew ?_ | refine blk_alloc ?_ _)); refine blk_put (cs := #[.int .i64 0, .int .i64 0, .int .i64 0, .int .i64 0, .int .i64 0, .int .i64 0, .int .i64 0, .int .i64 0, .int .i64 0, .int .i64 0, .int .i64 0]) ?_ 4 _ rfl; (with_reducible repeat (first | refine blk_drewN ?_ _ | refine blk_drew ?_ | refine blk_alloc ?_ _)); refine blk_put (cs := #[.int .i64 0, .int .i64 0, .int .i64 0, .int .i64 0, .int .i64 0, .int .i64 0, .int .i64 0, .int .i64 0, .int .i64 0, .int .i64 0, .int .i64 0]) ?_ 3 _ rfl; (with_reducible repeat (first | refine blk_drewN ?_ _ | refine blk_drew ?_ | refine blk_alloc ?_ _)); refine blk_put (cs := #[.int .i64 0, .int .i64 0, .int .i64 0, .int .i64 0, .int .i64 0, .int .i64 0, .int .i64 0, .int .i64 0, .int .i64 0, .int .i64 0, .int .i64 0]) ?_ 2 _ rfl; (with_reducible repeat (first | refine blk_drewN ?_ _ | refine blk_drew ?_ | refine blk_alloc ?_ _)); refine blk_put (cs := #[.int .i64 0, .int .i64 0, .int .i64 0, .int .i64 0, .int .i64 0, .int .i64 0, .int .i64 0, .int .i64 0, .int .i64 0, .int .i64 0, .int .i64 0]) ?_ 1 _ rfl; (with_reducible repeat (first | refine blk_drewN ?_ _ | refine blk_drew ?_ | refine blk_alloc ?_ _)); refine blk_put (cs := #[.int .i64 0, .int .i64 0, .int .i64 0, .int .i64 0, .int .i64 0, .int .i64 0, .int .i64 0, .int .i64 0, .int .i64 0, .int .i64 0, .int .i64 0]) ?_ 0 _ rfl; (with_reducible repeat (first | refine blk_drewN ?_ _ | refine blk_drew ?_ | refine blk_alloc ?_ _)); exact Bgr.out) Try.underlying23 rfl (by kernel_rfl)) rfl ?_
    exact ⟨by first | rfl | (simp; done) | simp [*], by repeat (first | (with_reducible first | exact HB.out | apply below_alloc | apply pw_below_drewN | apply below_drew1 | refine below_set ?_ Ggr.out) | exact HB.out)⟩
  rw [if_pos hs] at hh
  obtain ⟨h0, hx0, hh⟩ := Option.bind_eq_some_iff.mp hh
  have HX0 := Aside0.mk hx0
  clear hx0
  obtain ⟨h1, hx1, hh⟩ := Option.bind_eq_some_iff.mp hh
  have HX1 := Aside0.mk hx1
  clear hx1
  obtain ⟨h2, hx2, hh⟩ := Option.bind_eq_some_iff.mp hh
  have HX2 := Aside0.mk hx2
  clear hx2
  obtain ⟨h3, hx3, hh⟩ := Option.bind_eq_some_iff.mp hh
  have HX3 := Aside0.mk hx3
  clear hx3
  obtain ⟨h4, hx4, hh⟩ := Option.bind_eq_some_iff.mp hh
  have HX4 := Aside0.mk hx4
  clear hx4
  obtain ⟨t, ht, hh⟩ := Option.bind_eq_some_iff.mp hh
  have HT := Aside0.mk ht
  clear ht
  have HH := Aside0.mk hh
  clear hh
  have c1 : ((s.size : Int) == (m.size : Int)) = true := beq_iff_eq.mpr (by omega)
  have c2 : ((s.size : Int) != (m.size : Int)) = false := bne_eq_false_iff_eq.mpr (by omega)
  have l4 : 4 ≤ s.size := by omega
  have d4 : decide (4 ≤ (s.size : Int)) = true := decide_eq_true (by omega)
  have f4 : (4 ≤ (s.size : Int)) = True := eq_true (by omega)
  have l9 : 9 ≤ s.size := by omega
  have d9 : decide (9 ≤ (s.size : Int)) = true := decide_eq_true (by omega)
  have f9 : (9 ≤ (s.size : Int)) = True := eq_true (by omega)
  have l14 : 14 ≤ s.size := by omega
  have d14 : decide (14 ≤ (s.size : Int)) = true := decide_eq_true (by omega)
  have f14 : (14 ≤ (s.size : Int)) = True := eq_true (by omega)
  have l19 : 19 ≤ s.size := by omega
  have d19 : decide (19 ≤ (s.size : Int)) = true := decide_eq_true (by omega)
  have f19 : (19 ≤ (s.size : Int)) = True := eq_true (by omega)
  have l27 : 27 ≤ s.size := by omega
  have d27 : decide (27 ≤ (s.size : Int)) = true := decide_eq_true (by omega)
  have f27 : (27 ≤ (s.size : Int)) = True := eq_true (by omega)
  have HS := Aside0.mk hs
  clear hs hm
  try go_wp2_with (fail)
  have mgr := Aside0.mk (blk_drew Bgr.out)
  have mH := Aside0.mk (below_drew1 HB.out)
  clear HB Bgr
  have HB := mH
  have Bgr := mgr
  clear mH mgr
  refine start_ (n := 18) (S := fun w' => True) (ds := []) #[false, false, false, false, false, false, false, false, false, false, false, false, false, false, false, false, false, false] (by kernel_rfl) rfl rfl trivial (fun hHeld => ?_)
  generalize v3_.drew = v4_ at HB hHeld Bgr ⊢
  refine pure_ (i := 0) (N := some 18) (v := ?_) (a' := ?_) #[true, false, false, false, false, false, false, false, false, false, false, false, false, false, false, false, false, false] rfl rfl (by kernel_rfl) (fun _ _ _ h => h) (Or.inl ⟨by rfl, ?_⟩) ?_ ?_
  rotate_left
  · intro w'
    go_simp
    with_reducible rfl
  rotate_left
  · simp only [Act.put, List.setIfInBounds_toArray, List.set_cons_zero, List.set_cons_succ, i64_w, i32_w]
    rfl
  refine pure_ (i := 1) (N := some 19) (v := ?_) (a' := ?_) #[true, true, false, false, false, false, false, false, false, false, false, false, false, false, false, false, false, false] rfl rfl (by kernel_rfl) (fun _ _ _ h => h) (Or.inl ⟨by rfl, ?_⟩) ?_ ?_
  rotate_left
  · intro w'
    go_simp
    with_reducible rfl
  rotate_left
  · simp only [Act.put, List.setIfInBounds_toArray, List.set_cons_zero, List.set_cons_succ, i64_w, i32_w]
    rfl
  refine pure_ (i := 3) (N := some 21) (v := ?_) (a' := ?_) #[true, true, false, true, false, false, false, false, false, false, false, false, false, false, false, false, false, false] rfl rfl (by kernel_rfl) (fun _ _ _ h => h) (Or.inl ⟨by rfl, ?_⟩) ?_ ?_
  rotate_left
  · intro w'
    go_simp
    with_reducible rfl
  rotate_left
  · simp only [Act.put, List.setIfInBounds_toArray, List.set_cons_zero, List.set_cons_succ, i64_w, i32_w]
    rfl
  refine pure_ (i := 4) (N := some 22) (v := ?_) (a' := ?_) #[true, true, false, true, true, false, false, false, false, false, false, false, false, false, false, false, false, false] rfl rfl (by kernel_rfl) (fun _ _ _ h => h) (Or.inl ⟨by rfl, ?_⟩) ?_ ?_
  rotate_left
  · intro w'
    go_simp
    with_reducible rfl
  rotate_left
  · simp only [Act.put, List.setIfInBounds_toArray, List.set_cons_zero, List.set_cons_succ, i64_w, i32_w]
    rfl
  refine pure_ (i := 6) (N := some 24) (v := ?_) (a' := ?_) #[true, true, false, true, true, false, true, false, false, false, false, false, false, false, false, false, false, false] rfl rfl (by kernel_rfl) (fun _ _ _ h => h) (Or.inl ⟨by rfl, ?_⟩) ?_ ?_
  rotate_left
  · intro w'
    go_simp
    with_reducible rfl
  rotate_left
  · simp only [Act.put, List.setIfInBounds_toArray, List.set_cons_zero, List.set_cons_succ, i64_w, i32_w]
    rfl
  refine pure_ (i := 7) (N := some 25) (v := ?_) (a' := ?_) #[true, true, false, true, true, false, true, true, false, false, false, false, false, false, false, false, false, false] rfl rfl (by kernel_rfl) (fun _ _ _ h => h) (Or.inl ⟨by rfl, ?_⟩) ?_ ?_
  rotate_left
  · intro w'
    go_simp
    with_reducible rfl
  rotate_left
  · simp only [Act.put, List.setIfInBounds_toArray, List.set_cons_zero, List.set_cons_succ, i64_w, i32_w]
    rfl
  refine pure_ (i := 9) (N := some 27) (v := ?_) (a' := ?_) #[true, true, false, true, true, false, true, true, false, true, false, false, false, false, false, false, false, false] rfl rfl (by kernel_rfl) (fun _ _ _ h => h) (Or.inl ⟨by rfl, ?_⟩) ?_ ?_
  rotate_left
  · intro w'
    go_simp
    with_reducible rfl
  rotate_left
  · simp only [Act.put, List.setIfInBounds_toArray, List.set_cons_zero, List.set_cons_succ, i64_w, i32_w]
    rfl
  refine pure_ (i := 10) (N := some 28) (v := ?_) (a' := ?_) #[true, true, false, true, true, false, true, true, false, true, true, false, false, false, false, false, false, false] rfl rfl (by kernel_rfl) (fun _ _ _ h => h) (Or.inl ⟨by rfl, ?_⟩) ?_ ?_
  rotate_left
  · intro w'
    go_simp
    with_reducible rfl
  rotate_left
  · simp only [Act.put, List.setIfInBounds_toArray, List.set_cons_zero, List.set_cons_succ, i64_w, i32_w]
    rfl
  refine pure_ (i := 12) (N := some 30) (v := ?_) (a' := ?_) #[true, true, false, true, true, false, true, true, false, true, true, false, true, false, false, false, false, false] rfl rfl (by kernel_rfl) (fun _ _ _ h => h) (Or.inl ⟨by rfl, ?_⟩) ?_ ?_
  rotate_left
  · intro w'
    go_simp
    with_reducible rfl
  rotate_left
  · simp only [Act.put, List.setIfInBounds_toArray, List.set_cons_zero, List.set_cons_succ, i64_w, i32_w]
    rfl
  refine pure_ (i := 13) (N := some 31) (v := ?_) (a' := ?_) #[true, true, false, true, true, false, true, true, false, true, true, false, true, true, false, false, false, false] rfl rfl (by kernel_rfl) (fun _ _ _ h => h) (Or.inl ⟨by rfl, ?_⟩) ?_ ?_
  rotate_left
  · intro w'
    go_simp
    with_reducible rfl
  rotate_left
  · simp only [Act.put, List.setIfInBounds_toArray, List.set_cons_zero, List.set_cons_succ, i64_w, i32_w]
    rfl
  refine join_ (σ := Nat) 1 #[true, true, true, true, true, true, true, true, true, true, true, true, true, true, true, true, true, false] (fun s_ => [(20, .int .i64 h0), (23, .int .i64 h1), (26, .int .i64 h2), (29, .int .i64 h3), (32, .int .i64 h4), (33, .agg #[.int .i64 h0, .int .i64 h1, .int .i64 h2, .int .i64 h3, .int .i64 h4, .int .i64 0, .int .i64 0, .int .i64 0, .int .i64 0, .int .i64 0, .int .i64 0]), (5, .pointer (some ⟨s_, 0, none⟩))]) (fun s_ w' => (w'.heap[gr]? = some (.cells #[.int .i64 0, .int .i64 0, .int .i64 0, .int .i64 0, .int .i64 0, .int .i64 0, .int .i64 0, .int .i64 0, .int .i64 0, .int .i64 0, .int .i64 0] 23 (0, 0))) ∧ (w'.heap[s_]? = some (.cells #[.int .i64 0, .int .i64 0, .int .i64 0, .int .i64 0, .int .i64 0, .int .i64 0, .int .i64 0, .int .i64 0, .int .i64 0, .int .i64 0, .int .i64 0] 23 (0, 0))) ∧ (w.heap.size ≤ s_) ∧ (s_ ≠ gr) ∧ (Below w.heap.size w w')) ?_ ?_
  rotate_left
  · intro hCont
    refine two_ (i := 2) (j := 16) (Ni := some 20) (Nj := some 5) #[true, true, true, true, true, false, true, true, false, true, true, false, true, true, false, false, false, false] #[true, true, false, true, true, false, true, true, false, true, true, false, true, true, false, false, true, false] rfl rfl rfl rfl (by kernel_rfl) (by decide) (by decide) (fun K hK => ?_) (fun K hK => ?_)
    · skip
      refine goes_ Try.func60 (by kernel_rfl) rfl #[.string (s.extract 2 4), .int .i64 2] (by rfl) rfl rfl (by (try simp only [List.map_toArray, List.map_cons, List.map_nil]); first | done | rfl | (simp only [List.length_drop, List.length_take]; rfl)) ?_
      with_reducible refine (impl_ReadHex.calls k (s.extract 2 4) 2 h0 _ HX0.out).mono ?_
      rintro e w' ⟨rfl, ⟨nd, rfl⟩⟩
      refine ⟨_, rfl, ?_⟩
      refine hK.out _ _ trivial (fun hHeld => ?_)
      clear hK K
      refine norm_ (a' := ?_) ?_ ?_
      rotate_left
      · show Act.put _ (some 20) _ = _
        simp only [Act.put, List.setIfInBounds_toArray, List.set_cons_zero, List.set_cons_succ, i64_w, i32_w]
        rfl
      refine two_ (i := 5) (j := 16) (Ni := some 23) (Nj := some 5) #[true, true, true, true, true, true, true, true, false, true, true, false, true, true, false, false, false, false] #[true, true, true, true, true, false, true, true, false, true, true, false, true, true, false, false, true, false] rfl rfl rfl rfl (by kernel_rfl) (by decide) (by decide) (fun K hK => ?_) (fun K hK => ?_)
      · skip
        refine goes_ Try.func60 (by kernel_rfl) rfl #[.string (s.extract 7 9), .int .i64 2] (by rfl) rfl rfl (by (try simp only [List.map_toArray, List.map_cons, List.map_nil]); first | done | rfl | (simp only [List.length_drop, List.length_take]; rfl)) ?_
        with_reducible refine (impl_ReadHex.calls k (s.extract 7 9) 2 h1 _ HX1.out).mono ?_
        rintro e w' ⟨rfl, ⟨nd, rfl⟩⟩
        refine ⟨_, rfl, ?_⟩
        refine hK.out _ _ trivial (fun hHeld => ?_)
        clear hK K
        refine norm_ (a' := ?_) ?_ ?_
        rotate_left
        · show Act.put _ (some 23) _ = _
          simp only [Act.put, List.setIfInBounds_toArray, List.set_cons_zero, List.set_cons_succ, i64_w, i32_w]
          rfl
        refine two_ (i := 8) (j := 16) (Ni := some 26) (Nj := some 5) #[true, true, true, true, true, true, true, true, true, true, true, false, true, true, false, false, false, false] #[true, true, true, true, true, true, true, true, false, true, true, false, true, true, false, false, true, false] rfl rfl rfl rfl (by kernel_rfl) (by decide) (by decide) (fun K hK => ?_) (fun K hK => ?_)
        · skip
          refine goes_ Try.func60 (by kernel_rfl) rfl #[.string (s.extract 12 14), .int .i64 2] (by rfl) rfl rfl (by (try simp only [List.map_toArray, List.map_cons, List.map_nil]); first | done | rfl | (simp only [List.length_drop, List.length_take]; rfl)) ?_
          with_reducible refine (impl_ReadHex.calls k (s.extract 12 14) 2 h2 _ HX2.out).mono ?_
          rintro e w' ⟨rfl, ⟨nd, rfl⟩⟩
          refine ⟨_, rfl, ?_⟩
          refine hK.out _ _ trivial (fun hHeld => ?_)
          clear hK K
          refine norm_ (a' := ?_) ?_ ?_
          rotate_left
          · show Act.put _ (some 26) _ = _
            simp only [Act.put, List.setIfInBounds_toArray, List.set_cons_zero, List.set_cons_succ, i64_w, i32_w]
            rfl
          refine two_ (i := 11) (j := 16) (Ni := some 29) (Nj := some 5) #[true, true, true, true, true, true, true, true, true, true, true, true, true, true, false, false, false, false] #[true, true, true, true, true, true, true, true, true, true, true, false, true, true, false, false, true, false] rfl rfl rfl rfl (by kernel_rfl) (by decide) (by decide) (fun K hK => ?_) (fun K hK => ?_)
          · skip
            refine goes_ Try.func60 (by kernel_rfl) rfl #[.string (s.extract 17 19), .int .i64 2] (by rfl) rfl rfl (by (try simp only [List.map_toArray, List.map_cons, List.map_nil]); first | done | rfl | (simp only [List.length_drop, List.length_take]; rfl)) ?_
            with_reducible refine (impl_ReadHex.calls k (s.extract 17 19) 2 h3 _ HX3.out).mono ?_
            rintro e w' ⟨rfl, ⟨nd, rfl⟩⟩
            refine ⟨_, rfl, ?_⟩
            refine hK.out _ _ trivial (fun hHeld => ?_)
            clear hK K
            refine norm_ (a' := ?_) ?_ ?_
            rotate_left
            · show Act.put _ (some 29) _ = _
              simp only [Act.put, List.setIfInBounds_toArray, List.set_cons_zero, List.set_cons_succ, i64_w, i32_w]
              rfl
            refine two_ (i := 14) (j := 16) (Ni := some 32) (Nj := some 5) #[true, true, true, true, true, true, true, true, true, true, true, true, true, true, true, false, false, false] #[true, true, true, true, true, true, true, true, true, true, true, true, true, true, false, false, true, false] rfl rfl rfl rfl (by kernel_rfl) (by decide) (by decide) (fun K hK => ?_) (fun K hK => ?_)
            · skip
              refine goes_ Try.func60 (by kernel_rfl) rfl #[.string (s.extract 23 27), .int .i64 4] (by rfl) rfl rfl (by (try simp only [List.map_toArray, List.map_cons, List.map_nil]); first | done | rfl | (simp only [List.length_drop, List.length_take]; rfl)) ?_
              with_reducible refine (impl_ReadHex.calls k (s.extract 23 27) 4 h4 _ HX4.out).mono ?_
              rintro e w' ⟨rfl, ⟨nd, rfl⟩⟩
              refine ⟨_, rfl, ?_⟩
              refine hK.out _ _ trivial (fun hHeld => ?_)
              clear hK K
              refine norm_ (a' := ?_) ?_ ?_
              rotate_left
              · show Act.put _ (some 32) _ = _
                simp only [Act.put, List.setIfInBounds_toArray, List.set_cons_zero, List.set_cons_succ, i64_w, i32_w]
                rfl
              refine pure_ (i := 15) (N := some 33) (v := ?_) (a' := ?_) #[true, true, true, true, true, true, true, true, true, true, true, true, true, true, true, true, false, false] rfl rfl (by kernel_rfl) (fun _ _ _ h => h) (Or.inl ⟨by rfl, ?_⟩) ?_ ?_
              rotate_left
              · intro w'
                go_simp
                with_reducible rfl
              rotate_left
              · simp only [Act.put, List.setIfInBounds_toArray, List.set_cons_zero, List.set_cons_succ, i64_w, i32_w]
                rfl
              refine one_ (i := 16) (N := some 5) #[true, true, true, true, true, true, true, true, true, true, true, true, true, true, true, true, true, false] rfl rfl (by kernel_rfl) (by decide) (fun K hK => ?_)
              refine box_step ?hg (N := 5) ?hd (cs := #[.int .i64 0, .int .i64 0, .int .i64 0, .int .i64 0, .int .i64 0, .int .i64 0, .int .i64 0, .int .i64 0, .int .i64 0, .int .i64 0, .int .i64 0]) (t := 23) ?hr ?_; (case hd => rfl); (case hg => rfl); (case hr => first | (go_simp; done) | (go_simp; rfl))
              intro gb hg wz hbox hb
              have m0 := Aside0.mk (blk_below (g := gr) (o := .cells #[.int .i64 0, .int .i64 0, .int .i64 0, .int .i64 0, .int .i64 0, .int .i64 0, .int .i64 0, .int .i64 0, .int .i64 0, .int .i64 0, .int .i64 0] 23 (0, 0)) (by (with_reducible repeat (first | refine blk_drewN ?_ _ | refine blk_drew ?_ | refine blk_alloc ?_ _)); exact Bgr.out) hb)
              have m1 := Aside0.mk (below_step (by repeat (first | (with_reducible first | exact HB.out | apply below_alloc | apply pw_below_drewN | apply below_drew1) | exact HB.out)) hb)
              have m2 := Aside0.mk hbox
              have m3 := Aside0.mk ((by rw [hg]; exact (below_size (by repeat (first | (with_reducible first | exact HB.out | apply below_alloc | apply pw_below_drewN | apply below_drew1) | exact HB.out)))) : w.heap.size ≤ gb)
              have m4 := Aside0.mk ((by rw [hg]; exact Nat.ne_of_gt (blk_lt (g := gr) (o := .cells #[.int .i64 0, .int .i64 0, .int .i64 0, .int .i64 0, .int .i64 0, .int .i64 0, .int .i64 0, .int .i64 0, .int .i64 0, .int .i64 0, .int .i64 0] 23 (0, 0)) (by (with_reducible repeat (first | refine blk_drewN ?_ _ | refine blk_drew ?_ | refine blk_alloc ?_ _)); exact Bgr.out))) : gb ≠ gr)
              clear Bgr HB
              have Bgr := m0
              have HB := m1
              have Bgb := m2
              have Ggb := m3
              have NEgb_gr := m4
              clear m0 m1 m2 m3 m4 hb hbox hg
              refine hK.out _ _ trivial (fun hHeld => ?_)
              clear hK K
              refine norm_ (a' := ?_) ?_ ?_
              rotate_left
              · show Act.put _ (some 5) _ = _
                simp only [Act.put, List.setIfInBounds_toArray, List.set_cons_zero, List.set_cons_succ, i64_w, i32_w]
                rfl
              exact norm_ (by simp only [putAll, Act.put, List.setIfInBounds_toArray, List.set_cons_zero, List.set_cons_succ]) (hCont gb _ ⟨(by (with_reducible repeat (first | refine blk_drewN ?_ _ | refine blk_drew ?_ | refine blk_alloc ?_ _)); exact Bgr.out), (by (with_reducible repeat (first | refine blk_drewN ?_ _ | refine blk_drew ?_ | refine blk_alloc ?_ _)); exact Bgb.out), Ggb.out, NEgb_gr.out, by repeat (first | (with_reducible first | exact HB.out | apply below_alloc | apply pw_below_drewN | apply below_drew1) | exact HB.out)⟩)
            · skip
              refine box_step ?hg (N := 5) ?hd (cs := #[.int .i64 0, .int .i64 0, .int .i64 0, .int .i64 0, .int .i64 0, .int .i64 0, .int .i64 0, .int .i64 0, .int .i64 0, .int .i64 0, .int .i64 0]) (t := 23) ?hr ?_; (case hd => rfl); (case hg => rfl); (case hr => first | (go_simp; done) | (go_simp; rfl))
              intro gb hg wz hbox hb
              have m0 := Aside0.mk (blk_below (g := gr) (o := .cells #[.int .i64 0, .int .i64 0, .int .i64 0, .int .i64 0, .int .i64 0, .int .i64 0, .int .i64 0, .int .i64 0, .int .i64 0, .int .i64 0, .int .i64 0] 23 (0, 0)) (by (with_reducible repeat (first | refine blk_drewN ?_ _ | refine blk_drew ?_ | refine blk_alloc ?_ _)); exact Bgr.out) hb)
              have m1 := Aside0.mk (below_step (by repeat (first | (with_reducible first | exact HB.out | apply below_alloc | apply pw_below_drewN | apply below_drew1) | exact HB.out)) hb)
              have m2 := Aside0.mk hbox
              have m3 := Aside0.mk ((by rw [hg]; exact (below_size (by repeat (first | (with_reducible first | exact HB.out | apply below_alloc | apply pw_below_drewN | apply below_drew1) | exact HB.out)))) : w.heap.size ≤ gb)
              have m4 := Aside0.mk ((by rw [hg]; exact Nat.ne_of_gt (blk_lt (g := gr) (o := .cells #[.int .i64 0, .int .i64 0, .int .i64 0, .int .i64 0, .int .i64 0, .int .i64 0, .int .i64 0, .int .i64 0, .int .i64 0, .int .i64 0, .int .i64 0] 23 (0, 0)) (by (with_reducible repeat (first | refine blk_drewN ?_ _ | refine blk_drew ?_ | refine blk_alloc ?_ _)); exact Bgr.out))) : gb ≠ gr)
              clear Bgr HB
              have Bgr := m0
              have HB := m1
              have Bgb := m2
              have Ggb := m3
              have NEgb_gr := m4
              clear m0 m1 m2 m3 m4 hb hbox hg
              refine hK.out _ _ trivial (fun hHeld => ?_)
              clear hK K
              refine norm_ (a' := ?_) ?_ ?_
              rotate_left
              · show Act.put _ (some 5) _ = _
                simp only [Act.put, List.setIfInBounds_toArray, List.set_cons_zero, List.set_cons_succ, i64_w, i32_w]
                rfl
              refine one_ (i := 14) (N := some 32) #[true, true, true, true, true, true, true, true, true, true, true, true, true, true, true, false, true, false] rfl rfl (by kernel_rfl) (by decide) (fun K hK => ?_)
              refine goes_ Try.func60 (by kernel_rfl) rfl #[.string (s.extract 23 27), .int .i64 4] (by rfl) rfl rfl (by (try simp only [List.map_toArray, List.map_cons, List.map_nil]); first | done | rfl | (simp only [List.length_drop, List.length_take]; rfl)) ?_
              with_reducible refine (impl_ReadHex.calls k (s.extract 23 27) 4 h4 _ HX4.out).mono ?_
              rintro e w' ⟨rfl, ⟨nd, rfl⟩⟩
              refine ⟨_, rfl, ?_⟩
              refine hK.out _ _ trivial (fun hHeld => ?_)
              clear hK K
              refine norm_ (a' := ?_) ?_ ?_
              rotate_left
              · show Act.put _ (some 32) _ = _
                simp only [Act.put, List.setIfInBounds_toArray, List.set_cons_zero, List.set_cons_succ, i64_w, i32_w]
                rfl
              refine pure_ (i := 15) (N := some 33) (v := ?_) (a' := ?_) #[true, true, true, true, true, true, true, true, true, true, true, true, true, true, true, true, true, false] rfl rfl (by kernel_rfl) (fun _ _ _ h => h) (Or.inl ⟨by rfl, ?_⟩) ?_ ?_
              rotate_left
              · intro w'
                go_simp
                with_reducible rfl
              rotate_left
              · simp only [Act.put, List.setIfInBounds_toArray, List.set_cons_zero, List.set_cons_succ, i64_w, i32_w]
                rfl
              exact norm_ (by simp only [putAll, Act.put, List.setIfInBounds_toArray, List.set_cons_zero, List.set_cons_succ]) (hCont gb _ ⟨(by (with_reducible repeat (first | refine blk_drewN ?_ _ | refine blk_drew ?_ | refine blk_alloc ?_ _)); exact Bgr.out), (by (with_reducible repeat (first | refine blk_drewN ?_ _ | refine blk_drew ?_ | refine blk_alloc ?_ _)); exact Bgb.out), Ggb.out, NEgb_gr.out, by repeat (first | (with_reducible first | exact HB.out | apply below_alloc | apply pw_below_drewN | apply below_drew1) | exact HB.out)⟩)
          · skip
            refine box_step ?hg (N := 5) ?hd (cs := #[.int .i64 0, .int .i64 0, .int .i64 0, .int .i64 0, .int .i64 0, .int .i64 0, .int .i64 0, .int .i64 0, .int .i64 0, .int .i64 0, .int .i64 0]) (t := 23) ?hr ?_; (case hd => rfl); (case hg => rfl); (case hr => first | (go_simp; done) | (go_simp; rfl))
            intro gb hg wz hbox hb
            have m0 := Aside0.mk (blk_below (g := gr) (o := .cells #[.int .i64 0, .int .i64 0, .int .i64 0, .int .i64 0, .int .i64 0, .int .i64 0, .int .i64 0, .int .i64 0, .int .i64 0, .int .i64 0, .int .i64 0] 23 (0, 0)) (by (with_reducible repeat (first | refine blk_drewN ?_ _ | refine blk_drew ?_ | refine blk_alloc ?_ _)); exact Bgr.out) hb)
            have m1 := Aside0.mk (below_step (by repeat (first | (with_reducible first | exact HB.out | apply below_alloc | apply pw_below_drewN | apply below_drew1) | exact HB.out)) hb)
            have m2 := Aside0.mk hbox
            have m3 := Aside0.mk ((by rw [hg]; exact (below_size (by repeat (first | (with_reducible first | exact HB.out | apply below_alloc | apply pw_below_drewN | apply below_drew1) | exact HB.out)))) : w.heap.size ≤ gb)
            have m4 := Aside0.mk ((by rw [hg]; exact Nat.ne_of_gt (blk_lt (g := gr) (o := .cells #[.int .i64 0, .int .i64 0, .int .i64 0, .int .i64 0, .int .i64 0, .int .i64 0, .int .i64 0, .int .i64 0, .int .i64 0, .int .i64 0, .int .i64 0] 23 (0, 0)) (by (with_reducible repeat (first | refine blk_drewN ?_ _ | refine blk_drew ?_ | refine blk_alloc ?_ _)); exact Bgr.out))) : gb ≠ gr)
            clear Bgr HB
            have Bgr := m0
            have HB := m1
            have Bgb := m2
            have Ggb := m3
            have NEgb_gr := m4
            clear m0 m1 m2 m3 m4 hb hbox hg
            refine hK.out _ _ trivial (fun hHeld => ?_)
            clear hK K
            refine norm_ (a' := ?_) ?_ ?_
            rotate_left
            · show Act.put _ (some 5) _ = _
              simp only [Act.put, List.setIfInBounds_toArray, List.set_cons_zero, List.set_cons_succ, i64_w, i32_w]
              rfl
            refine one_ (i := 11) (N := some 29) #[true, true, true, true, true, true, true, true, true, true, true, true, true, true, false, false, true, false] rfl rfl (by kernel_rfl) (by decide) (fun K hK => ?_)
            refine goes_ Try.func60 (by kernel_rfl) rfl #[.string (s.extract 17 19), .int .i64 2] (by rfl) rfl rfl (by (try simp only [List.map_toArray, List.map_cons, List.map_nil]); first | done | rfl | (simp only [List.length_drop, List.length_take]; rfl)) ?_
            with_reducible refine (impl_ReadHex.calls k (s.extract 17 19) 2 h3 _ HX3.out).mono ?_
            rintro e w' ⟨rfl, ⟨nd, rfl⟩⟩
            refine ⟨_, rfl, ?_⟩
            refine hK.out _ _ trivial (fun hHeld => ?_)
            clear hK K
            refine norm_ (a' := ?_) ?_ ?_
            rotate_left
            · show Act.put _ (some 29) _ = _
              simp only [Act.put, List.setIfInBounds_toArray, List.set_cons_zero, List.set_cons_succ, i64_w, i32_w]
              rfl
            refine one_ (i := 14) (N := some 32) #[true, true, true, true, true, true, true, true, true, true, true, true, true, true, true, false, true, false] rfl rfl (by kernel_rfl) (by decide) (fun K hK => ?_)
            refine goes_ Try.func60 (by kernel_rfl) rfl #[.string (s.extract 23 27), .int .i64 4] (by rfl) rfl rfl (by (try simp only [List.map_toArray, List.map_cons, List.map_nil]); first | done | rfl | (simp only [List.length_drop, List.length_take]; rfl)) ?_
            with_reducible refine (impl_ReadHex.calls k (s.extract 23 27) 4 h4 _ HX4.out).mono ?_
            rintro e w' ⟨rfl, ⟨nd, rfl⟩⟩
            refine ⟨_, rfl, ?_⟩
            refine hK.out _ _ trivial (fun hHeld => ?_)
            clear hK K
            refine norm_ (a' := ?_) ?_ ?_
            rotate_left
            · show Act.put _ (some 32) _ = _
              simp only [Act.put, List.setIfInBounds_toArray, List.set_cons_zero, List.set_cons_succ, i64_w, i32_w]
              rfl
            refine pure_ (i := 15) (N := some 33) (v := ?_) (a' := ?_) #[true, true, true, true, true, true, true, true, true, true, true, true, true, true, true, true, true, false] rfl rfl (by kernel_rfl) (fun _ _ _ h => h) (Or.inl ⟨by rfl, ?_⟩) ?_ ?_
            rotate_left
            · intro w'
              go_simp
              with_reducible rfl
            rotate_left
            · simp only [Act.put, List.setIfInBounds_toArray, List.set_cons_zero, List.set_cons_succ, i64_w, i32_w]
              rfl
            exact norm_ (by simp only [putAll, Act.put, List.setIfInBounds_toArray, List.set_cons_zero, List.set_cons_succ]) (hCont gb _ ⟨(by (with_reducible repeat (first | refine blk_drewN ?_ _ | refine blk_drew ?_ | refine blk_alloc ?_ _)); exact Bgr.out), (by (with_reducible repeat (first | refine blk_drewN ?_ _ | refine blk_drew ?_ | refine blk_alloc ?_ _)); exact Bgb.out), Ggb.out, NEgb_gr.out, by repeat (first | (with_reducible first | exact HB.out | apply below_alloc | apply pw_below_drewN | apply below_drew1) | exact HB.out)⟩)
        · skip
          refine box_step ?hg (N := 5) ?hd (cs := #[.int .i64 0, .int .i64 0, .int .i64 0, .int .i64 0, .int .i64 0, .int .i64 0, .int .i64 0, .int .i64 0, .int .i64 0, .int .i64 0, .int .i64 0]) (t := 23) ?hr ?_; (case hd => rfl); (case hg => rfl); (case hr => first | (go_simp; done) | (go_simp; rfl))
          intro gb hg wz hbox hb
          have m0 := Aside0.mk (blk_below (g := gr) (o := .cells #[.int .i64 0, .int .i64 0, .int .i64 0, .int .i64 0, .int .i64 0, .int .i64 0, .int .i64 0, .int .i64 0, .int .i64 0, .int .i64 0, .int .i64 0] 23 (0, 0)) (by (with_reducible repeat (first | refine blk_drewN ?_ _ | refine blk_drew ?_ | refine blk_alloc ?_ _)); exact Bgr.out) hb)
          have m1 := Aside0.mk (below_step (by repeat (first | (with_reducible first | exact HB.out | apply below_alloc | apply pw_below_drewN | apply below_drew1) | exact HB.out)) hb)
          have m2 := Aside0.mk hbox
          have m3 := Aside0.mk ((by rw [hg]; exact (below_size (by repeat (first | (with_reducible first | exact HB.out | apply below_alloc | apply pw_below_drewN | apply below_drew1) | exact HB.out)))) : w.heap.size ≤ gb)
          have m4 := Aside0.mk ((by rw [hg]; exact Nat.ne_of_gt (blk_lt (g := gr) (o := .cells #[.int .i64 0, .int .i64 0, .int .i64 0, .int .i64 0, .int .i64 0, .int .i64 0, .int .i64 0, .int .i64 0, .int .i64 0, .int .i64 0, .int .i64 0] 23 (0, 0)) (by (with_reducible repeat (first | refine blk_drewN ?_ _ | refine blk_drew ?_ | refine blk_alloc ?_ _)); exact Bgr.out))) : gb ≠ gr)
          clear Bgr HB
          have Bgr := m0
          have HB := m1
          have Bgb := m2
          have Ggb := m3
          have NEgb_gr := m4
          clear m0 m1 m2 m3 m4 hb hbox hg
          refine hK.out _ _ trivial (fun hHeld => ?_)
          clear hK K
          refine norm_ (a' := ?_) ?_ ?_
          rotate_left
          · show Act.put _ (some 5) _ = _
            simp only [Act.put, List.setIfInBounds_toArray, List.set_cons_zero, List.set_cons_succ, i64_w, i32_w]
            rfl
          refine one_ (i := 8) (N := some 26) #[true, true, true, true, true, true, true, true, true, true, true, false, true, true, false, false, true, false] rfl rfl (by kernel_rfl) (by decide) (fun K hK => ?_)
          refine goes_ Try.func60 (by kernel_rfl) rfl #[.string (s.extract 12 14), .int .i64 2] (by rfl) rfl rfl (by (try simp only [List.map_toArray, List.map_cons, List.map_nil]); first | done | rfl | (simp only [List.length_drop, List.length_take]; rfl)) ?_
          with_reducible refine (impl_ReadHex.calls k (s.extract 12 14) 2 h2 _ HX2.out).mono ?_
          rintro e w' ⟨rfl, ⟨nd, rfl⟩⟩
          refine ⟨_, rfl, ?_⟩
          refine hK.out _ _ trivial (fun hHeld => ?_)
          clear hK K
          refine norm_ (a' := ?_) ?_ ?_
          rotate_left
          · show Act.put _ (some 26) _ = _
            simp only [Act.put, List.setIfInBounds_toArray, List.set_cons_zero, List.set_cons_succ, i64_w, i32_w]
            rfl
          refine one_ (i := 11) (N := some 29) #[true, true, true, true, true, true, true, true, true, true, true, true, true, true, false, false, true, false] rfl rfl (by kernel_rfl) (by decide) (fun K hK => ?_)
          refine goes_ Try.func60 (by kernel_rfl) rfl #[.string (s.extract 17 19), .int .i64 2] (by rfl) rfl rfl (by (try simp only [List.map_toArray, List.map_cons, List.map_nil]); first | done | rfl | (simp only [List.length_drop, List.length_take]; rfl)) ?_
          with_reducible refine (impl_ReadHex.calls k (s.extract 17 19) 2 h3 _ HX3.out).mono ?_
          rintro e w' ⟨rfl, ⟨nd, rfl⟩⟩
          refine ⟨_, rfl, ?_⟩
          refine hK.out _ _ trivial (fun hHeld => ?_)
          clear hK K
          refine norm_ (a' := ?_) ?_ ?_
          rotate_left
          · show Act.put _ (some 29) _ = _
            simp only [Act.put, List.setIfInBounds_toArray, List.set_cons_zero, List.set_cons_succ, i64_w, i32_w]
            rfl
          refine one_ (i := 14) (N := some 32) #[true, true, true, true, true, true, true, true, true, true, true, true, true, true, true, false, true, false] rfl rfl (by kernel_rfl) (by decide) (fun K hK => ?_)
          refine goes_ Try.func60 (by kernel_rfl) rfl #[.string (s.extract 23 27), .int .i64 4] (by rfl) rfl rfl (by (try simp only [List.map_toArray, List.map_cons, List.map_nil]); first | done | rfl | (simp only [List.length_drop, List.length_take]; rfl)) ?_
          with_reducible refine (impl_ReadHex.calls k (s.extract 23 27) 4 h4 _ HX4.out).mono ?_
          rintro e w' ⟨rfl, ⟨nd, rfl⟩⟩
          refine ⟨_, rfl, ?_⟩
          refine hK.out _ _ trivial (fun hHeld => ?_)
          clear hK K
          refine norm_ (a' := ?_) ?_ ?_
          rotate_left
          · show Act.put _ (some 32) _ = _
            simp only [Act.put, List.setIfInBounds_toArray, List.set_cons_zero, List.set_cons_succ, i64_w, i32_w]
            rfl
          refine pure_ (i := 15) (N := some 33) (v := ?_) (a' := ?_) #[true, true, true, true, true, true, true, true, true, true, true, true, true, true, true, true, true, false] rfl rfl (by kernel_rfl) (fun _ _ _ h => h) (Or.inl ⟨by rfl, ?_⟩) ?_ ?_
          rotate_left
          · intro w'
            go_simp
            with_reducible rfl
          rotate_left
          · simp only [Act.put, List.setIfInBounds_toArray, List.set_cons_zero, List.set_cons_succ, i64_w, i32_w]
            rfl
          exact norm_ (by simp only [putAll, Act.put, List.setIfInBounds_toArray, List.set_cons_zero, List.set_cons_succ]) (hCont gb _ ⟨(by (with_reducible repeat (first | refine blk_drewN ?_ _ | refine blk_drew ?_ | refine blk_alloc ?_ _)); exact Bgr.out), (by (with_reducible repeat (first | refine blk_drewN ?_ _ | refine blk_drew ?_ | refine blk_alloc ?_ _)); exact Bgb.out), Ggb.out, NEgb_gr.out, by repeat (first | (with_reducible first | exact HB.out | apply below_alloc | apply pw_below_drewN | apply below_drew1) | exact HB.out)⟩)
      · skip
        refine box_step ?hg (N := 5) ?hd (cs := #[.int .i64 0, .int .i64 0, .int .i64 0, .int .i64 0, .int .i64 0, .int .i64 0, .int .i64 0, .int .i64 0, .int .i64 0, .int .i64 0, .int .i64 0]) (t := 23) ?hr ?_; (case hd => rfl); (case hg => rfl); (case hr => first | (go_simp; done) | (go_simp; rfl))
        intro gb hg wz hbox hb
        have m0 := Aside0.mk (blk_below (g := gr) (o := .cells #[.int .i64 0, .int .i64 0, .int .i64 0, .int .i64 0, .int .i64 0, .int .i64 0, .int .i64 0, .int .i64 0, .int .i64 0, .int .i64 0, .int .i64 0] 23 (0, 0)) (by (with_reducible repeat (first | refine blk_drewN ?_ _ | refine blk_drew ?_ | refine blk_alloc ?_ _)); exact Bgr.out) hb)
        have m1 := Aside0.mk (below_step (by repeat (first | (with_reducible first | exact HB.out | apply below_alloc | apply pw_below_drewN | apply below_drew1) | exact HB.out)) hb)
        have m2 := Aside0.mk hbox
        have m3 := Aside0.mk ((by rw [hg]; exact (below_size (by repeat (first | (with_reducible first | exact HB.out | apply below_alloc | apply pw_below_drewN | apply below_drew1) | exact HB.out)))) : w.heap.size ≤ gb)
        have m4 := Aside0.mk ((by rw [hg]; exact Nat.ne_of_gt (blk_lt (g := gr) (o := .cells #[.int .i64 0, .int .i64 0, .int .i64 0, .int .i64 0, .int .i64 0, .int .i64 0, .int .i64 0, .int .i64 0, .int .i64 0, .int .i64 0, .int .i64 0] 23 (0, 0)) (by (with_reducible repeat (first | refine blk_drewN ?_ _ | refine blk_drew ?_ | refine blk_alloc ?_ _)); exact Bgr.out))) : gb ≠ gr)
        clear Bgr HB
        have Bgr := m0
        have HB := m1
        have Bgb := m2
        have Ggb := m3
        have NEgb_gr := m4
        clear m0 m1 m2 m3 m4 hb hbox hg
        refine hK.out _ _ trivial (fun hHeld => ?_)
        clear hK K
        refine norm_ (a' := ?_) ?_ ?_
        rotate_left
        · show Act.put _ (some 5) _ = _
          simp only [Act.put, List.setIfInBounds_toArray, List.set_cons_zero, List.set_cons_succ, i64_w, i32_w]
          rfl
        refine one_ (i := 5) (N := some 23) #[true, true, true, true, true, true, true, true, false, true, true, false, true, true, false, false, true, false] rfl rfl (by kernel_rfl) (by decide) (fun K hK => ?_)
        refine goes_ Try.func60 (by kernel_rfl) rfl #[.string (s.extract 7 9), .int .i64 2] (by rfl) rfl rfl (by (try simp only [List.map_toArray, List.map_cons, List.map_nil]); first | done | rfl | (simp only [List.length_drop, List.length_take]; rfl)) ?_
        with_reducible refine (impl_ReadHex.calls k (s.extract 7 9) 2 h1 _ HX1.out).mono ?_
        rintro e w' ⟨rfl, ⟨nd, rfl⟩⟩
        refine ⟨_, rfl, ?_⟩
        refine hK.out _ _ trivial (fun hHeld => ?_)
        clear hK K
        refine norm_ (a' := ?_) ?_ ?_
        rotate_left
        · show Act.put _ (some 23) _ = _
          simp only [Act.put, List.setIfInBounds_toArray, List.set_cons_zero, List.set_cons_succ, i64_w, i32_w]
          rfl
        refine one_ (i := 8) (N := some 26) #[true, true, true, true, true, true, true, true, true, true, true, false, true, true, false, false, true, false] rfl rfl (by kernel_rfl) (by decide) (fun K hK => ?_)
        refine goes_ Try.func60 (by kernel_rfl) rfl #[.string (s.extract 12 14), .int .i64 2] (by rfl) rfl rfl (by (try simp only [List.map_toArray, List.map_cons, List.map_nil]); first | done | rfl | (simp only [List.length_drop, List.length_take]; rfl)) ?_
        with_reducible refine (impl_ReadHex.calls k (s.extract 12 14) 2 h2 _ HX2.out).mono ?_
        rintro e w' ⟨rfl, ⟨nd, rfl⟩⟩
        refine ⟨_, rfl, ?_⟩
        refine hK.out _ _ trivial (fun hHeld => ?_)
        clear hK K
        refine norm_ (a' := ?_) ?_ ?_
        rotate_left
        · show Act.put _ (some 26) _ = _
          simp only [Act.put, List.setIfInBounds_toArray, List.set_cons_zero, List.set_cons_succ, i64_w, i32_w]
          rfl
        refine one_ (i := 11) (N := some 29) #[true, true, true, true, true, true, true, true, true, true, true, true, true, true, false, false, true, false] rfl rfl (by kernel_rfl) (by decide) (fun K hK => ?_)
        refine goes_ Try.func60 (by kernel_rfl) rfl #[.string (s.extract 17 19), .int .i64 2] (by rfl) rfl rfl (by (try simp only [List.map_toArray, List.map_cons, List.map_nil]); first | done | rfl | (simp only [List.length_drop, List.length_take]; rfl)) ?_
        with_reducible refine (impl_ReadHex.calls k (s.extract 17 19) 2 h3 _ HX3.out).mono ?_
        rintro e w' ⟨rfl, ⟨nd, rfl⟩⟩
        refine ⟨_, rfl, ?_⟩
        refine hK.out _ _ trivial (fun hHeld => ?_)
        clear hK K
        refine norm_ (a' := ?_) ?_ ?_
        rotate_left
        · show Act.put _ (some 29) _ = _
          simp only [Act.put, List.setIfInBounds_toArray, List.set_cons_zero, List.set_cons_succ, i64_w, i32_w]
          rfl
        refine one_ (i := 14) (N := some 32) #[true, true, true, true, true, true, true, true, true, true, true, true, true, true, true, false, true, false] rfl rfl (by kernel_rfl) (by decide) (fun K hK => ?_)
        refine goes_ Try.func60 (by kernel_rfl) rfl #[.string (s.extract 23 27), .int .i64 4] (by rfl) rfl rfl (by (try simp only [List.map_toArray, List.map_cons, List.map_nil]); first | done | rfl | (simp only [List.length_drop, List.length_take]; rfl)) ?_
        with_reducible refine (impl_ReadHex.calls k (s.extract 23 27) 4 h4 _ HX4.out).mono ?_
        rintro e w' ⟨rfl, ⟨nd, rfl⟩⟩
        refine ⟨_, rfl, ?_⟩
        refine hK.out _ _ trivial (fun hHeld => ?_)
        clear hK K
        refine norm_ (a' := ?_) ?_ ?_
        rotate_left
        · show Act.put _ (some 32) _ = _
          simp only [Act.put, List.setIfInBounds_toArray, List.set_cons_zero, List.set_cons_succ, i64_w, i32_w]
          rfl
        refine pure_ (i := 15) (N := some 33) (v := ?_) (a' := ?_) #[true, true, true, true, true, true, true, true, true, true, true, true, true, true, true, true, true, false] rfl rfl (by kernel_rfl) (fun _ _ _ h => h) (Or.inl ⟨by rfl, ?_⟩) ?_ ?_
        rotate_left
        · intro w'
          go_simp
          with_reducible rfl
        rotate_left
        · simp only [Act.put, List.setIfInBounds_toArray, List.set_cons_zero, List.set_cons_succ, i64_w, i32_w]
          rfl
        exact norm_ (by simp only [putAll, Act.put, List.setIfInBounds_toArray, List.set_cons_zero, List.set_cons_succ]) (hCont gb _ ⟨(by (with_reducible repeat (first | refine blk_drewN ?_ _ | refine blk_drew ?_ | refine blk_alloc ?_ _)); exact Bgr.out), (by (with_reducible repeat (first | refine blk_drewN ?_ _ | refine blk_drew ?_ | refine blk_alloc ?_ _)); exact Bgb.out), Ggb.out, NEgb_gr.out, by repeat (first | (with_reducible first | exact HB.out | apply below_alloc | apply pw_below_drewN | apply below_drew1) | exact HB.out)⟩)
    · skip
      refine box_step ?hg (N := 5) ?hd (cs := #[.int .i64 0, .int .i64 0, .int .i64 0, .int .i64 0, .int .i64 0, .int .i64 0, .int .i64 0, .int .i64 0, .int .i64 0, .int .i64 0, .int .i64 0]) (t := 23) ?hr ?_; (case hd => rfl); (case hg => rfl); (case hr => first | (go_simp; done) | (go_simp; rfl))
      intro gb hg wz hbox hb
      have m0 := Aside0.mk (blk_below (g := gr) (o := .cells #[.int .i64 0, .int .i64 0, .int .i64 0, .int .i64 0, .int .i64 0, .int .i64 0, .int .i64 0, .int .i64 0, .int .i64 0, .int .i64 0, .int .i64 0] 23 (0, 0)) (by (with_reducible repeat (first | refine blk_drewN ?_ _ | refine blk_drew ?_ | refine blk_alloc ?_ _)); exact Bgr.out) hb)
      have m1 := Aside0.mk (below_step (by repeat (first | (with_reducible first | exact HB.out | apply below_alloc | apply pw_below_drewN | apply below_drew1) | exact HB.out)) hb)
      have m2 := Aside0.mk hbox
      have m3 := Aside0.mk ((by rw [hg]; exact (below_size (by repeat (first | (with_reducible first | exact HB.out | apply below_alloc | apply pw_below_drewN | apply below_drew1) | exact HB.out)))) : w.heap.size ≤ gb)
      have m4 := Aside0.mk ((by rw [hg]; exact Nat.ne_of_gt (blk_lt (g := gr) (o := .cells #[.int .i64 0, .int .i64 0, .int .i64 0, .int .i64 0, .int .i64 0, .int .i64 0, .int .i64 0, .int .i64 0, .int .i64 0, .int .i64 0, .int .i64 0] 23 (0, 0)) (by (with_reducible repeat (first | refine blk_drewN ?_ _ | refine blk_drew ?_ | refine blk_alloc ?_ _)); exact Bgr.out))) : gb ≠ gr)
      clear Bgr HB
      have Bgr := m0
      have HB := m1
      have Bgb := m2
      have Ggb := m3
      have NEgb_gr := m4
      clear m0 m1 m2 m3 m4 hb hbox hg
      refine hK.out _ _ trivial (fun hHeld => ?_)
      clear hK K
      refine norm_ (a' := ?_) ?_ ?_
      rotate_left
      · show Act.put _ (some 5) _ = _
        simp only [Act.put, List.setIfInBounds_toArray, List.set_cons_zero, List.set_cons_succ, i64_w, i32_w]
        rfl
      refine one_ (i := 2) (N := some 20) #[true, true, true, true, true, false, true, true, false, true, true, false, true, true, false, false, true, false] rfl rfl (by kernel_rfl) (by decide) (fun K hK => ?_)
      refine goes_ Try.func60 (by kernel_rfl) rfl #[.string (s.extract 2 4), .int .i64 2] (by rfl) rfl rfl (by (try simp only [List.map_toArray, List.map_cons, List.map_nil]); first | done | rfl | (simp only [List.length_drop, List.length_take]; rfl)) ?_
      with_reducible refine (impl_ReadHex.calls k (s.extract 2 4) 2 h0 _ HX0.out).mono ?_
      rintro e w' ⟨rfl, ⟨nd, rfl⟩⟩
      refine ⟨_, rfl, ?_⟩
      refine hK.out _ _ trivial (fun hHeld => ?_)
      clear hK K
      refine norm_ (a' := ?_) ?_ ?_
      rotate_left
      · show Act.put _ (some 20) _ = _
        simp only [Act.put, List.setIfInBounds_toArray, List.set_cons_zero, List.set_cons_succ, i64_w, i32_w]
        rfl
      refine one_ (i := 5) (N := some 23) #[true, true, true, true, true, true, true, true, false, true, true, false, true, true, false, false, true, false] rfl rfl (by kernel_rfl) (by decide) (fun K hK => ?_)
      refine goes_ Try.func60 (by kernel_rfl) rfl #[.string (s.extract 7 9), .int .i64 2] (by rfl) rfl rfl (by (try simp only [List.map_toArray, List.map_cons, List.map_nil]); first | done | rfl | (simp only [List.length_drop, List.length_take]; rfl)) ?_
      with_reducible refine (impl_ReadHex.calls k (s.extract 7 9) 2 h1 _ HX1.out).mono ?_
      rintro e w' ⟨rfl, ⟨nd, rfl⟩⟩
      refine ⟨_, rfl, ?_⟩
      refine hK.out _ _ trivial (fun hHeld => ?_)
      clear hK K
      refine norm_ (a' := ?_) ?_ ?_
      rotate_left
      · show Act.put _ (some 23) _ = _
        simp only [Act.put, List.setIfInBounds_toArray, List.set_cons_zero, List.set_cons_succ, i64_w, i32_w]
        rfl
      refine one_ (i := 8) (N := some 26) #[true, true, true, true, true, true, true, true, true, true, true, false, true, true, false, false, true, false] rfl rfl (by kernel_rfl) (by decide) (fun K hK => ?_)
      refine goes_ Try.func60 (by kernel_rfl) rfl #[.string (s.extract 12 14), .int .i64 2] (by rfl) rfl rfl (by (try simp only [List.map_toArray, List.map_cons, List.map_nil]); first | done | rfl | (simp only [List.length_drop, List.length_take]; rfl)) ?_
      with_reducible refine (impl_ReadHex.calls k (s.extract 12 14) 2 h2 _ HX2.out).mono ?_
      rintro e w' ⟨rfl, ⟨nd, rfl⟩⟩
      refine ⟨_, rfl, ?_⟩
      refine hK.out _ _ trivial (fun hHeld => ?_)
      clear hK K
      refine norm_ (a' := ?_) ?_ ?_
      rotate_left
      · show Act.put _ (some 26) _ = _
        simp only [Act.put, List.setIfInBounds_toArray, List.set_cons_zero, List.set_cons_succ, i64_w, i32_w]
        rfl
      refine one_ (i := 11) (N := some 29) #[true, true, true, true, true, true, true, true, true, true, true, true, true, true, false, false, true, false] rfl rfl (by kernel_rfl) (by decide) (fun K hK => ?_)
      refine goes_ Try.func60 (by kernel_rfl) rfl #[.string (s.extract 17 19), .int .i64 2] (by rfl) rfl rfl (by (try simp only [List.map_toArray, List.map_cons, List.map_nil]); first | done | rfl | (simp only [List.length_drop, List.length_take]; rfl)) ?_
      with_reducible refine (impl_ReadHex.calls k (s.extract 17 19) 2 h3 _ HX3.out).mono ?_
      rintro e w' ⟨rfl, ⟨nd, rfl⟩⟩
      refine ⟨_, rfl, ?_⟩
      refine hK.out _ _ trivial (fun hHeld => ?_)
      clear hK K
      refine norm_ (a' := ?_) ?_ ?_
      rotate_left
      · show Act.put _ (some 29) _ = _
        simp only [Act.put, List.setIfInBounds_toArray, List.set_cons_zero, List.set_cons_succ, i64_w, i32_w]
        rfl
      refine one_ (i := 14) (N := some 32) #[true, true, true, true, true, true, true, true, true, true, true, true, true, true, true, false, true, false] rfl rfl (by kernel_rfl) (by decide) (fun K hK => ?_)
      refine goes_ Try.func60 (by kernel_rfl) rfl #[.string (s.extract 23 27), .int .i64 4] (by rfl) rfl rfl (by (try simp only [List.map_toArray, List.map_cons, List.map_nil]); first | done | rfl | (simp only [List.length_drop, List.length_take]; rfl)) ?_
      with_reducible refine (impl_ReadHex.calls k (s.extract 23 27) 4 h4 _ HX4.out).mono ?_
      rintro e w' ⟨rfl, ⟨nd, rfl⟩⟩
      refine ⟨_, rfl, ?_⟩
      refine hK.out _ _ trivial (fun hHeld => ?_)
      clear hK K
      refine norm_ (a' := ?_) ?_ ?_
      rotate_left
      · show Act.put _ (some 32) _ = _
        simp only [Act.put, List.setIfInBounds_toArray, List.set_cons_zero, List.set_cons_succ, i64_w, i32_w]
        rfl
      refine pure_ (i := 15) (N := some 33) (v := ?_) (a' := ?_) #[true, true, true, true, true, true, true, true, true, true, true, true, true, true, true, true, true, false] rfl rfl (by kernel_rfl) (fun _ _ _ h => h) (Or.inl ⟨by rfl, ?_⟩) ?_ ?_
      rotate_left
      · intro w'
        go_simp
        with_reducible rfl
      rotate_left
      · simp only [Act.put, List.setIfInBounds_toArray, List.set_cons_zero, List.set_cons_succ, i64_w, i32_w]
        rfl
      exact norm_ (by simp only [putAll, Act.put, List.setIfInBounds_toArray, List.set_cons_zero, List.set_cons_succ]) (hCont gb _ ⟨(by (with_reducible repeat (first | refine blk_drewN ?_ _ | refine blk_drew ?_ | refine blk_alloc ?_ _)); exact Bgr.out), (by (with_reducible repeat (first | refine blk_drewN ?_ _ | refine blk_drew ?_ | refine blk_alloc ?_ _)); exact Bgb.out), Ggb.out, NEgb_gr.out, by repeat (first | (with_reducible first | exact HB.out | apply below_alloc | apply pw_below_drewN | apply below_drew1) | exact HB.out)⟩)
  rintro gb wz ⟨h0_, h1_, h2_, h3_, h4_⟩
  clear Bgr HB
  have Bgr := Aside0.mk h0_
  have Bgb := Aside0.mk h1_
  have Ggb := Aside0.mk h2_
  have NEgb_gr := Aside0.mk h3_
  have HB := Aside0.mk h4_
  clear h0_ h1_ h2_ h3_ h4_
  have hHeld := trivial
  refine norm_ (a' := ?_) ?_ ?_
  rotate_left
  · simp only [putAll, Act.put, List.setIfInBounds_toArray, List.set_cons_zero, List.set_cons_succ]
    rfl
  refine one_ (i := 17) (N := none) #[true, true, true, true, true, true, true, true, true, true, true, true, true, true, true, true, true, true] rfl rfl (by kernel_rfl) (by decide) (fun K hK => ?_)
  have hcgb0 : wz.cell? ⟨gb, 0, none⟩ = some (.int .i64 0) := (blk_cell Bgb.out 0).trans rfl
  have hfgb0 := blk_frozen Bgb.out 0
  have hcgb1 : wz.cell? ⟨gb, 1, none⟩ = some (.int .i64 0) := (blk_cell Bgb.out 1).trans rfl
  have hfgb1 := blk_frozen Bgb.out 1
  have hcgb2 : wz.cell? ⟨gb, 2, none⟩ = some (.int .i64 0) := (blk_cell Bgb.out 2).trans rfl
  have hfgb2 := blk_frozen Bgb.out 2
  have hcgb3 : wz.cell? ⟨gb, 3, none⟩ = some (.int .i64 0) := (blk_cell Bgb.out 3).trans rfl
  have hfgb3 := blk_frozen Bgb.out 3
  have hcgb4 : wz.cell? ⟨gb, 4, none⟩ = some (.int .i64 0) := (blk_cell Bgb.out 4).trans rfl
  have hfgb4 := blk_frozen Bgb.out 4
  have hcgb5 : wz.cell? ⟨gb, 5, none⟩ = some (.int .i64 0) := (blk_cell Bgb.out 5).trans rfl
  have hfgb5 := blk_frozen Bgb.out 5
  have hcgb6 : wz.cell? ⟨gb, 6, none⟩ = some (.int .i64 0) := (blk_cell Bgb.out 6).trans rfl
  have hfgb6 := blk_frozen Bgb.out 6
  have hcgb7 : wz.cell? ⟨gb, 7, none⟩ = some (.int .i64 0) := (blk_cell Bgb.out 7).trans rfl
  have hfgb7 := blk_frozen Bgb.out 7
  have hcgb8 : wz.cell? ⟨gb, 8, none⟩ = some (.int .i64 0) := (blk_cell Bgb.out 8).trans rfl
  have hfgb8 := blk_frozen Bgb.out 8
  have hcgb9 : wz.cell? ⟨gb, 9, none⟩ = some (.int .i64 0) := (blk_cell Bgb.out 9).trans rfl
  have hfgb9 := blk_frozen Bgb.out 9
  have hcgb10 : wz.cell? ⟨gb, 10, none⟩ = some (.int .i64 0) := (blk_cell Bgb.out 10).trans rfl
  have hfgb10 := blk_frozen Bgb.out 10
  refine skip_ (w1 := ?_) (by rfl) rfl ?_ ?_
  rotate_left
  · go_simp
    rfl
  clear hcgb0 hfgb0 hcgb1 hfgb1 hcgb2 hfgb2 hcgb3 hfgb3 hcgb4 hfgb4 hcgb5 hfgb5 hcgb6 hfgb6 hcgb7 hfgb7 hcgb8 hfgb8 hcgb9 hfgb9 hcgb10 hfgb10
  refine hK.out _ _ trivial (fun hHeld => ?_)
  clear hK K
  refine done_ (by kernel_rfl) ?_
  have mgb := Aside0.mk (show ((((((((((((wz).setCell ⟨gb, 0, none⟩ (.int .i64 h0)).setCell ⟨gb, 1, none⟩ (.int .i64 h1)).setCell ⟨gb, 2, none⟩ (.int .i64 h2)).setCell ⟨gb, 3, none⟩ (.int .i64 h3)).setCell ⟨gb, 4, none⟩ (.int .i64 h4)).setCell ⟨gb, 5, none⟩ (.int .i64 0)).setCell ⟨gb, 6, none⟩ (.int .i64 0)).setCell ⟨gb, 7, none⟩ (.int .i64 0)).setCell ⟨gb, 8, none⟩ (.int .i64 0)).setCell ⟨gb, 9, none⟩ (.int .i64 0)).setCell ⟨gb, 10, none⟩ (.int .i64 0)).heap[gb]? = some (.cells #[.int .i64 h0, .int .i64 h1, .int .i64 h2, .int .i64 h3, .int .i64 h4, .int .i64 0, .int .i64 0, .int .i64 0, .int .i64 0, .int .i64 0, .int .i64 0] 23 (0, 0)) from (by refine blk_put (cs := #[.int .i64 h0, .int .i64 h1, .int .i64 h2, .int .i64 h3, .int .i64 h4, .int .i64 0, .int .i64 0, .int .i64 0, .int .i64 0, .int .i64 0, .int .i64 0]) ?_ 10 _ rfl; refine blk_put (cs := #[.int .i64 h0, .int .i64 h1, .int .i64 h2, .int .i64 h3, .int .i64 h4, .int .i64 0, .int .i64 0, .int .i64 0, .int .i64 0, .int .i64 0, .int .i64 0]) ?_ 9 _ rfl; refine blk_put (cs := #[.int .i64 h0, .int .i64 h1, .int .i64 h2, .int .i64 h3, .int .i64 h4, .int .i64 0, .int .i64 0, .int .i64 0, .int .i64 0, .int .i64 0, .int .i64 0]) ?_ 8 _ rfl; refine blk_put (cs := #[.int .i64 h0, .int .i64 h1, .int .i64 h2, .int .i64 h3, .int .i64 h4, .int .i64 0, .int .i64 0, .int .i64 0, .int .i64 0, .int .i64 0, .int .i64 0]) ?_ 7 _ rfl; refine blk_put (cs := #[.int .i64 h0, .int .i64 h1, .int .i64 h2, .int .i64 h3, .int .i64 h4, .int .i64 0, .int .i64 0, .int .i64 0, .int .i64 0, .int .i64 0, .int .i64 0]) ?_ 6 _ rfl; refine blk_put (cs := #[.int .i64 h0, .int .i64 h1, .int .i64 h2, .int .i64 h3, .int .i64 h4, .int .i64 0, .int .i64 0, .int .i64 0, .int .i64 0, .int .i64 0, .int .i64 0]) ?_ 5 _ rfl; refine blk_put (cs := #[.int .i64 h0, .int .i64 h1, .int .i64 h2, .int .i64 h3, .int .i64 0, .int .i64 0, .int .i64 0, .int .i64 0, .int .i64 0, .int .i64 0, .int .i64 0]) ?_ 4 _ rfl; refine blk_put (cs := #[.int .i64 h0, .int .i64 h1, .int .i64 h2, .int .i64 0, .int .i64 0, .int .i64 0, .int .i64 0, .int .i64 0, .int .i64 0, .int .i64 0, .int .i64 0]) ?_ 3 _ rfl; refine blk_put (cs := #[.int .i64 h0, .int .i64 h1, .int .i64 0, .int .i64 0, .int .i64 0, .int .i64 0, .int .i64 0, .int .i64 0, .int .i64 0, .int .i64 0, .int .i64 0]) ?_ 2 _ rfl; refine blk_put (cs := #[.int .i64 h0, .int .i64 0, .int .i64 0, .int .i64 0, .int .i64 0, .int .i64 0, .int .i64 0, .int .i64 0, .int .i64 0, .int .i64 0, .int .i64 0]) ?_ 1 _ rfl; refine blk_put (cs := #[.int .i64 0, .int .i64 0, .int .i64 0, .int .i64 0, .int .i64 0, .int .i64 0, .int .i64 0, .int .i64 0, .int .i64 0, .int .i64 0, .int .i64 0]) ?_ 0 _ rfl; exact Bgb.out))
  have ne_ : gr ≠ gb := by first | exact NEgb_gr.out.symm | exact NEgr_gb.out
  have mgr := Aside0.mk (blk_far (p := ⟨gb, 10, none⟩) (blk_far (p := ⟨gb, 9, none⟩) (blk_far (p := ⟨gb, 8, none⟩) (blk_far (p := ⟨gb, 7, none⟩) (blk_far (p := ⟨gb, 6, none⟩) (blk_far (p := ⟨gb, 5, none⟩) (blk_far (p := ⟨gb, 4, none⟩) (blk_far (p := ⟨gb, 3, none⟩) (blk_far (p := ⟨gb, 2, none⟩) (blk_far (p := ⟨gb, 1, none⟩) (blk_far (p := ⟨gb, 0, none⟩) Bgr.out ne_ (.int .i64 h0)) ne_ (.int .i64 h1)) ne_ (.int .i64 h2)) ne_ (.int .i64 h3)) ne_ (.int .i64 h4)) ne_ (.int .i64 0)) ne_ (.int .i64 0)) ne_ (.int .i64 0)) ne_ (.int .i64 0)) ne_ (.int .i64 0)) ne_ (.int .i64 0))
  clear ne_
  have mH := Aside0.mk (below_set (j := 10) (v := .int .i64 0) (below_set (j := 9) (v := .int .i64 0) (below_set (j := 8) (v := .int .i64 0) (below_set (j := 7) (v := .int .i64 0) (below_set (j := 6) (v := .int .i64 0) (below_set (j := 5) (v := .int .i64 0) (below_set (j := 4) (v := .int .i64 h4) (below_set (j := 3) (v := .int .i64 h3) (below_set (j := 2) (v := .int .i64 h2) (below_set (j := 1) (v := .int .i64 h1) (below_set (j := 0) (v := .int .i64 h0) HB.out Ggb.out) Ggb.out) Ggb.out) Ggb.out) Ggb.out) Ggb.out) Ggb.out) Ggb.out) Ggb.out) Ggb.out) Ggb.out)
  clear HB Bgb Bgr
  have HB := mH
  have Bgb := mgb
  have Bgr := mgr
  clear mH mgb mgr
  with_reducible generalize (((((((((((wz).setCell ⟨gb, 0, none⟩ (.int .i64 h0)).setCell ⟨gb, 1, none⟩ (.int .i64 h1)).setCell ⟨gb, 2, none⟩ (.int .i64 h2)).setCell ⟨gb, 3, none⟩ (.int .i64 h3)).setCell ⟨gb, 4, none⟩ (.int .i64 h4)).setCell ⟨gb, 5, none⟩ (.int .i64 0)).setCell ⟨gb, 6, none⟩ (.int .i64 0)).setCell ⟨gb, 7, none⟩ (.int .i64 0)).setCell ⟨gb, 8, none⟩ (.int .i64 0)).setCell ⟨gb, 9, none⟩ (.int .i64 0)).setCell ⟨gb, 10, none⟩ (.int .i64 0) = v5_ at HB Bgb Bgr ⊢
  try go_wp2_with (fail)
  refine (fields_calls gb _).mono ?_
  rintro e v6_ ⟨rfl, hb_⟩
  have mgr := Aside0.mk ((hb_.block gr (blk_lt Bgr.out)).trans Bgr.out)
  have mgb := Aside0.mk ((hb_.block gb (blk_lt Bgb.out)).trans Bgb.out)
  have mH := Aside0.mk (below_step HB.out hb_)
  clear HB Bgr Bgb hb_
  have HB := mH
  have Bgr := mgr
  have Bgb := mgb
  clear mH mgr mgb
  unfold ptrs
  try go_wp2_with (first | ((with_reducible refine gate_dst (N := 6) rfl ?_); refine box_event ?hg (N := 6) ?hd (cs := #[.pointer none, .pointer none, .pointer none, .pointer none, .pointer none, .pointer none, .pointer none, .pointer none, .pointer none, .pointer none, .pointer none]) (t := 66) ?hr ?_; (case hd => rfl); (case hg => rfl); (case hr => first | (go_simp; done) | (go_simp; rfl)); intro ga hg v7_ hbox hb; have mgr := Aside0.mk ((hb.block _ (blk_lt Bgr.out)).trans Bgr.out); have NEga_gr := Aside0.mk (show ga ≠ gr from by rw [hg]; exact Nat.ne_of_gt (blk_lt Bgr.out)); clear Bgr; have Bgr := mgr; clear mgr; have mgb := Aside0.mk ((hb.block _ (blk_lt Bgb.out)).trans Bgb.out); have NEga_gb := Aside0.mk (show ga ≠ gb from by rw [hg]; exact Nat.ne_of_gt (blk_lt Bgb.out)); clear Bgb; have Bgb := mgb; clear mgb; have n0_ := Aside0.mk (below_step (by repeat (first | (with_reducible first | exact HB.out | apply below_alloc | apply pw_below_drewN | apply below_drew1) | exact HB.out)) hb); have n1_ := Aside0.mk (hbox); have n2_ := Aside0.mk ((by rw [hg]; exact (below_size (by repeat (first | (with_reducible first | exact HB.out | apply below_alloc | apply pw_below_drewN | apply below_drew1) | exact HB.out))) : w.heap.size ≤ ga)); clear HB; have HB := n0_; have Bga := n1_; have Gga := n2_; clear n0_ n1_ n2_; clear hb hbox hg; have hcga0 : v7_.cell? ⟨ga, 0, none⟩ = some (.pointer none) := (blk_cell Bga.out 0).trans rfl; have hfga0 := blk_frozen Bga.out 0; have hcga1 : v7_.cell? ⟨ga, 1, none⟩ = some (.pointer none) := (blk_cell Bga.out 1).trans rfl; have hfga1 := blk_frozen Bga.out 1; have hcga2 : v7_.cell? ⟨ga, 2, none⟩ = some (.pointer none) := (blk_cell Bga.out 2).trans rfl; have hfga2 := blk_frozen Bga.out 2; have hcga3 : v7_.cell? ⟨ga, 3, none⟩ = some (.pointer none) := (blk_cell Bga.out 3).trans rfl; have hfga3 := blk_frozen Bga.out 3; have hcga4 : v7_.cell? ⟨ga, 4, none⟩ = some (.pointer none) := (blk_cell Bga.out 4).trans rfl; have hfga4 := blk_frozen Bga.out 4; have hcga5 : v7_.cell? ⟨ga, 5, none⟩ = some (.pointer none) := (blk_cell Bga.out 5).trans rfl; have hfga5 := blk_frozen Bga.out 5; have hcga6 : v7_.cell? ⟨ga, 6, none⟩ = some (.pointer none) := (blk_cell Bga.out 6).trans rfl; have hfga6 := blk_frozen Bga.out 6; have hcga7 : v7_.cell? ⟨ga, 7, none⟩ = some (.pointer none) := (blk_cell Bga.out 7).trans rfl; have hfga7 := blk_frozen Bga.out 7; have hcga8 : v7_.cell? ⟨ga, 8, none⟩ = some (.pointer none) := (blk_cell Bga.out 8).trans rfl; have hfga8 := blk_frozen Bga.out 8; have hcga9 : v7_.cell? ⟨ga, 9, none⟩ = some (.pointer none) := (blk_cell Bga.out 9).trans rfl; have hfga9 := blk_frozen Bga.out 9; have hcga10 : v7_.cell? ⟨ga, 10, none⟩ = some (.pointer none) := (blk_cell Bga.out 10).trans rfl; have hfga10 := blk_frozen Bga.out 10))
  clear hcga0 hfga0 hcga1 hfga1 hcga2 hfga2 hcga3 hfga3 hcga4 hfga4 hcga5 hfga5 hcga6 hfga6 hcga7 hfga7 hcga8 hfga8 hcga9 hfga9 hcga10 hfga10
  have mga := Aside0.mk (show ((((((((((((v7_).setCell ⟨ga, 0, none⟩ (.pointer (some ⟨gb, 0, none⟩))).setCell ⟨ga, 1, none⟩ (.pointer (some ⟨gb, 1, none⟩))).setCell ⟨ga, 2, none⟩ (.pointer (some ⟨gb, 2, none⟩))).setCell ⟨ga, 3, none⟩ (.pointer (some ⟨gb, 3, none⟩))).setCell ⟨ga, 4, none⟩ (.pointer (some ⟨gb, 4, none⟩))).setCell ⟨ga, 5, none⟩ (.pointer (some ⟨gb, 5, none⟩))).setCell ⟨ga, 6, none⟩ (.pointer (some ⟨gb, 6, none⟩))).setCell ⟨ga, 7, none⟩ (.pointer (some ⟨gb, 7, none⟩))).setCell ⟨ga, 8, none⟩ (.pointer (some ⟨gb, 8, none⟩))).setCell ⟨ga, 9, none⟩ (.pointer (some ⟨gb, 9, none⟩))).setCell ⟨ga, 10, none⟩ (.pointer (some ⟨gb, 10, none⟩))).heap[ga]? = some (.cells #[.pointer (some ⟨gb, 0, none⟩), .pointer (some ⟨gb, 1, none⟩), .pointer (some ⟨gb, 2, none⟩), .pointer (some ⟨gb, 3, none⟩), .pointer (some ⟨gb, 4, none⟩), .pointer (some ⟨gb, 5, none⟩), .pointer (some ⟨gb, 6, none⟩), .pointer (some ⟨gb, 7, none⟩), .pointer (some ⟨gb, 8, none⟩), .pointer (some ⟨gb, 9, none⟩), .pointer (some ⟨gb, 10, none⟩)] 66 (0, 0)) from (by refine blk_put (cs := #[.pointer (some ⟨gb, 0, none⟩), .pointer (some ⟨gb, 1, none⟩), .pointer (some ⟨gb, 2, none⟩), .pointer (some ⟨gb, 3, none⟩), .pointer (some ⟨gb, 4, none⟩), .pointer (some ⟨gb, 5, none⟩), .pointer (some ⟨gb, 6, none⟩), .pointer (some ⟨gb, 7, none⟩), .pointer (some ⟨gb, 8, none⟩), .pointer (some ⟨gb, 9, none⟩), .pointer none]) ?_ 10 _ rfl; refine blk_put (cs := #[.pointer (some ⟨gb, 0, none⟩), .pointer (some ⟨gb, 1, none⟩), .pointer (some ⟨gb, 2, none⟩), .pointer (some ⟨gb, 3, none⟩), .pointer (some ⟨gb, 4, none⟩), .pointer (some ⟨gb, 5, none⟩), .pointer (some ⟨gb, 6, none⟩), .pointer (some ⟨gb, 7, none⟩), .pointer (some ⟨gb, 8, none⟩), .pointer none, .pointer none]) ?_ 9 _ rfl; refine blk_put (cs := #[.pointer (some ⟨gb, 0, none⟩), .pointer (some ⟨gb, 1, none⟩), .pointer (some ⟨gb, 2, none⟩), .pointer (some ⟨gb, 3, none⟩), .pointer (some ⟨gb, 4, none⟩), .pointer (some ⟨gb, 5, none⟩), .pointer (some ⟨gb, 6, none⟩), .pointer (some ⟨gb, 7, none⟩), .pointer none, .pointer none, .pointer none]) ?_ 8 _ rfl; refine blk_put (cs := #[.pointer (some ⟨gb, 0, none⟩), .pointer (some ⟨gb, 1, none⟩), .pointer (some ⟨gb, 2, none⟩), .pointer (some ⟨gb, 3, none⟩), .pointer (some ⟨gb, 4, none⟩), .pointer (some ⟨gb, 5, none⟩), .pointer (some ⟨gb, 6, none⟩), .pointer none, .pointer none, .pointer none, .pointer none]) ?_ 7 _ rfl; refine blk_put (cs := #[.pointer (some ⟨gb, 0, none⟩), .pointer (some ⟨gb, 1, none⟩), .pointer (some ⟨gb, 2, none⟩), .pointer (some ⟨gb, 3, none⟩), .pointer (some ⟨gb, 4, none⟩), .pointer (some ⟨gb, 5, none⟩), .pointer none, .pointer none, .pointer none, .pointer none, .pointer none]) ?_ 6 _ rfl; refine blk_put (cs := #[.pointer (some ⟨gb, 0, none⟩), .pointer (some ⟨gb, 1, none⟩), .pointer (some ⟨gb, 2, none⟩), .pointer (some ⟨gb, 3, none⟩), .pointer (some ⟨gb, 4, none⟩), .pointer none, .pointer none, .pointer none, .pointer none, .pointer none, .pointer none]) ?_ 5 _ rfl; refine blk_put (cs := #[.pointer (some ⟨gb, 0, none⟩), .pointer (some ⟨gb, 1, none⟩), .pointer (some ⟨gb, 2, none⟩), .pointer (some ⟨gb, 3, none⟩), .pointer none, .pointer none, .pointer none, .pointer none, .pointer none, .pointer none, .pointer none]) ?_ 4 _ rfl; refine blk_put (cs := #[.pointer (some ⟨gb, 0, none⟩), .pointer (some ⟨gb, 1, none⟩), .pointer (some ⟨gb, 2, none⟩), .pointer none, .pointer none, .pointer none, .pointer none, .pointer none, .pointer none, .pointer none, .pointer none]) ?_ 3 _ rfl; refine blk_put (cs := #[.pointer (some ⟨gb, 0, none⟩), .pointer (some ⟨gb, 1, none⟩), .pointer none, .pointer none, .pointer none, .pointer none, .pointer none, .pointer none, .pointer none, .pointer none, .pointer none]) ?_ 2 _ rfl; refine blk_put (cs := #[.pointer (some ⟨gb, 0, none⟩), .pointer none, .pointer none, .pointer none, .pointer none, .pointer none, .pointer none, .pointer none, .pointer none, .pointer none, .pointer none]) ?_ 1 _ rfl; refine blk_put (cs := #[.pointer none, .pointer none, .pointer none, .pointer none, .pointer none, .pointer none, .pointer none, .pointer none, .pointer none, .pointer none, .pointer none]) ?_ 0 _ rfl; exact Bga.out))
  have ne_ : gr ≠ ga := by first | exact NEga_gr.out.symm | exact NEgr_ga.out
  have mgr := Aside0.mk (blk_far (p := ⟨ga, 10, none⟩) (blk_far (p := ⟨ga, 9, none⟩) (blk_far (p := ⟨ga, 8, none⟩) (blk_far (p := ⟨ga, 7, none⟩) (blk_far (p := ⟨ga, 6, none⟩) (blk_far (p := ⟨ga, 5, none⟩) (blk_far (p := ⟨ga, 4, none⟩) (blk_far (p := ⟨ga, 3, none⟩) (blk_far (p := ⟨ga, 2, none⟩) (blk_far (p := ⟨ga, 1, none⟩) (blk_far (p := ⟨ga, 0, none⟩) Bgr.out ne_ (.pointer (some ⟨gb, 0, none⟩))) ne_ (.pointer (some ⟨gb, 1, none⟩))) ne_ (.pointer (some ⟨gb, 2, none⟩))) ne_ (.pointer (some ⟨gb, 3, none⟩))) ne_ (.pointer (some ⟨gb, 4, none⟩))) ne_ (.pointer (some ⟨gb, 5, none⟩))) ne_ (.pointer (some ⟨gb, 6, none⟩))) ne_ (.pointer (some ⟨gb, 7, none⟩))) ne_ (.pointer (some ⟨gb, 8, none⟩))) ne_ (.pointer (some ⟨gb, 9, none⟩))) ne_ (.pointer (some ⟨gb, 10, none⟩)))
  clear ne_
  have ne_ : gb ≠ ga := by first | exact NEga_gb.out.symm | exact NEgb_ga.out
  have mgb := Aside0.mk (blk_far (p := ⟨ga, 10, none⟩) (blk_far (p := ⟨ga, 9, none⟩) (blk_far (p := ⟨ga, 8, none⟩) (blk_far (p := ⟨ga, 7, none⟩) (blk_far (p := ⟨ga, 6, none⟩) (blk_far (p := ⟨ga, 5, none⟩) (blk_far (p := ⟨ga, 4, none⟩) (blk_far (p := ⟨ga, 3, none⟩) (blk_far (p := ⟨ga, 2, none⟩) (blk_far (p := ⟨ga, 1, none⟩) (blk_far (p := ⟨ga, 0, none⟩) Bgb.out ne_ (.pointer (some ⟨gb, 0, none⟩))) ne_ (.pointer (some ⟨gb, 1, none⟩))) ne_ (.pointer (some ⟨gb, 2, none⟩))) ne_ (.pointer (some ⟨gb, 3, none⟩))) ne_ (.pointer (some ⟨gb, 4, none⟩))) ne_ (.pointer (some ⟨gb, 5, none⟩))) ne_ (.pointer (some ⟨gb, 6, none⟩))) ne_ (.pointer (some ⟨gb, 7, none⟩))) ne_ (.pointer (some ⟨gb, 8, none⟩))) ne_ (.pointer (some ⟨gb, 9, none⟩))) ne_ (.pointer (some ⟨gb, 10, none⟩)))
  clear ne_
  have mH := Aside0.mk (below_set (j := 10) (v := .pointer (some ⟨gb, 10, none⟩)) (below_set (j := 9) (v := .pointer (some ⟨gb, 9, none⟩)) (below_set (j := 8) (v := .pointer (some ⟨gb, 8, none⟩)) (below_set (j := 7) (v := .pointer (some ⟨gb, 7, none⟩)) (below_set (j := 6) (v := .pointer (some ⟨gb, 6, none⟩)) (below_set (j := 5) (v := .pointer (some ⟨gb, 5, none⟩)) (below_set (j := 4) (v := .pointer (some ⟨gb, 4, none⟩)) (below_set (j := 3) (v := .pointer (some ⟨gb, 3, none⟩)) (below_set (j := 2) (v := .pointer (some ⟨gb, 2, none⟩)) (below_set (j := 1) (v := .pointer (some ⟨gb, 1, none⟩)) (below_set (j := 0) (v := .pointer (some ⟨gb, 0, none⟩)) HB.out Gga.out) Gga.out) Gga.out) Gga.out) Gga.out) Gga.out) Gga.out) Gga.out) Gga.out) Gga.out) Gga.out)
  clear HB Bga Bgr Bgb
  have HB := mH
  have Bga := mga
  have Bgr := mgr
  have Bgb := mgb
  clear mH mga mgr mgb
  with_reducible generalize (((((((((((v7_).setCell ⟨ga, 0, none⟩ (.pointer (some ⟨gb, 0, none⟩))).setCell ⟨ga, 1, none⟩ (.pointer (some ⟨gb, 1, none⟩))).setCell ⟨ga, 2, none⟩ (.pointer (some ⟨gb, 2, none⟩))).setCell ⟨ga, 3, none⟩ (.pointer (some ⟨gb, 3, none⟩))).setCell ⟨ga, 4, none⟩ (.pointer (some ⟨gb, 4, none⟩))).setCell ⟨ga, 5, none⟩ (.pointer (some ⟨gb, 5, none⟩))).setCell ⟨ga, 6, none⟩ (.pointer (some ⟨gb, 6, none⟩))).setCell ⟨ga, 7, none⟩ (.pointer (some ⟨gb, 7, none⟩))).setCell ⟨ga, 8, none⟩ (.pointer (some ⟨gb, 8, none⟩))).setCell ⟨ga, 9, none⟩ (.pointer (some ⟨gb, 9, none⟩))).setCell ⟨ga, 10, none⟩ (.pointer (some ⟨gb, 10, none⟩)) = v8_ at HB Bga Bgr Bgb ⊢
  have hcga0 : v8_.cell? ⟨ga, 0, none⟩ = some (.pointer (some ⟨gb, 0, none⟩)) := (blk_cell Bga.out 0).trans rfl
  have hfga0 := blk_frozen Bga.out 0
  have hcga1 : v8_.cell? ⟨ga, 1, none⟩ = some (.pointer (some ⟨gb, 1, none⟩)) := (blk_cell Bga.out 1).trans rfl
  have hfga1 := blk_frozen Bga.out 1
  have hcga2 : v8_.cell? ⟨ga, 2, none⟩ = some (.pointer (some ⟨gb, 2, none⟩)) := (blk_cell Bga.out 2).trans rfl
  have hfga2 := blk_frozen Bga.out 2
  have hcga3 : v8_.cell? ⟨ga, 3, none⟩ = some (.pointer (some ⟨gb, 3, none⟩)) := (blk_cell Bga.out 3).trans rfl
  have hfga3 := blk_frozen Bga.out 3
  have hcga4 : v8_.cell? ⟨ga, 4, none⟩ = some (.pointer (some ⟨gb, 4, none⟩)) := (blk_cell Bga.out 4).trans rfl
  have hfga4 := blk_frozen Bga.out 4
  have hcga5 : v8_.cell? ⟨ga, 5, none⟩ = some (.pointer (some ⟨gb, 5, none⟩)) := (blk_cell Bga.out 5).trans rfl
  have hfga5 := blk_frozen Bga.out 5
  have hcga6 : v8_.cell? ⟨ga, 6, none⟩ = some (.pointer (some ⟨gb, 6, none⟩)) := (blk_cell Bga.out 6).trans rfl
  have hfga6 := blk_frozen Bga.out 6
  have hcga7 : v8_.cell? ⟨ga, 7, none⟩ = some (.pointer (some ⟨gb, 7, none⟩)) := (blk_cell Bga.out 7).trans rfl
  have hfga7 := blk_frozen Bga.out 7
  have hcga8 : v8_.cell? ⟨ga, 8, none⟩ = some (.pointer (some ⟨gb, 8, none⟩)) := (blk_cell Bga.out 8).trans rfl
  have hfga8 := blk_frozen Bga.out 8
  have hcga9 : v8_.cell? ⟨ga, 9, none⟩ = some (.pointer (some ⟨gb, 9, none⟩)) := (blk_cell Bga.out 9).trans rfl
  have hfga9 := blk_frozen Bga.out 9
  have hcga10 : v8_.cell? ⟨ga, 10, none⟩ = some (.pointer (some ⟨gb, 10, none⟩)) := (blk_cell Bga.out 10).trans rfl
  have hfga10 := blk_frozen Bga.out 10
  try go_wp2_with (fail)
  clear hcga0 hfga0 hcga1 hfga1 hcga2 hfga2 hcga3 hfga3 hcga4 hfga4 hcga5 hfga5 hcga6 hfga6 hcga7 hfga7 hcga8 hfga8 hcga9 hfga9 hcga10 hfga10
  go_loopg [37] 8 (fun kq v37 w' => ∃ (i : Nat), v37 = .int .i64 (i : Int) ∧ Aside0 (kq + i = 8) ∧ Aside0 (i ≤ 6) ∧ Aside0 (w'.heap[gb]? = some (.cells #[.int .i64 h0, .int .i64 h1, .int .i64 h2, .int .i64 h3, .int .i64 h4, .int .i64 (fAt s i 0), .int .i64 (fAt s i 1), .int .i64 (fAt s i 2), .int .i64 (fAt s i 3), .int .i64 (fAt s i 4), .int .i64 (fAt s i 5)] 23 (0, 0))) ∧ Aside0 (w'.heap[gr]? = some (.cells #[.int .i64 0, .int .i64 0, .int .i64 0, .int .i64 0, .int .i64 0, .int .i64 0, .int .i64 0, .int .i64 0, .int .i64 0, .int .i64 0, .int .i64 0] 23 (0, 0))) ∧ Aside0 (w'.heap[ga]? = some (.cells #[.pointer (some ⟨gb, 0, none⟩), .pointer (some ⟨gb, 1, none⟩), .pointer (some ⟨gb, 2, none⟩), .pointer (some ⟨gb, 3, none⟩), .pointer (some ⟨gb, 4, none⟩), .pointer (some ⟨gb, 5, none⟩), .pointer (some ⟨gb, 6, none⟩), .pointer (some ⟨gb, 7, none⟩), .pointer (some ⟨gb, 8, none⟩), .pointer (some ⟨gb, 9, none⟩), .pointer (some ⟨gb, 10, none⟩)] 66 (0, 0))) ∧ Aside0 (Below w.heap.size w w'))
  case atStart => exact ⟨0, rfl, ⟨rfl⟩, ⟨by omega⟩, Bgb, Bgr, Bga, HB⟩
  case round =>
    clear Bgb Bga Bgr HB
    obtain ⟨i, rfl, HK, H6, Bgb0, Bgr, Bga, HB⟩ := hrel
    have h6 := H6.out
    clear H6
    have hs := HS.out
    rcases i with _|_|_|_|_|_|_|i
    · have Bgb : Aside0 (wr.heap[gb]? = some (.cells #[.int .i64 h0, .int .i64 h1, .int .i64 h2, .int .i64 h3, .int .i64 h4, .int .i64 0, .int .i64 0, .int .i64 0, .int .i64 0, .int .i64 0, .int .i64 0] 23 (0, 0))) := Bgb0
      clear Bgb0
      have hc1 : wr.cell? ⟨ga, 5, none⟩ = some (.pointer (some ⟨gb, 5, none⟩)) := (blk_cell Bga.out 5).trans rfl
      have hc2 : wr.cell? ⟨gb, 5, none⟩ = some (.int .i64 0) := (blk_cell Bgb.out 5).trans rfl
      have hf1 := blk_frozen Bga.out 5
      have hf2 := blk_frozen Bgb.out 5
      have l1 : 28 < s.size := by omega
      have l2 : decide (28 < (s.size : Int)) = true := decide_eq_true (by omega)
      have l3 : decide (28 < s.size) = true := decide_eq_true l1
      have l4 : (28 < (s.size : Int)) = True := eq_true (by omega)
      have hx1 : ∀ h : 28 < s.size, ((s[28]'h).toNat : Int) = bt s 28 := bt_at s 28
      have hx2 : ∀ h : 0 < (⟨#[78, 86, 68, 73, 90, 67]⟩ : ByteArray).size, (((⟨#[78, 86, 68, 73, 90, 67]⟩ : ByteArray)[0]'h).toNat : Int) = 78 := fun _ => rfl
      clear hs h6
      cases gk with
      | zero => exact absurd HK.out (by omega)
      | succ g1 =>
        have hFD : flagOf s 0 = if bt s 28 = 63 then -1 else if bt s 28 = 78 then 1 else 0 := rfl
        by_cases hq : bt s 28 = 63
        · have hfl : Aside0 (flagOf s 0 = -1) := ⟨by rw [hFD, if_pos hq]⟩
          clear hFD
          have e1 : (bt s 28 == 63) = true := beq_iff_eq.mpr hq
          clear hq
          try go_wp2_with (fail)
          go_roundg g1
          case measure => omega
          case rel => exact ⟨0 + 1, rfl, ⟨by have := HK.out; omega⟩, ⟨by omega⟩, (show Aside0 ((wr.setCell ⟨gb, 5, none⟩ (.int .i64 (-1))).heap[gb]? = some (.cells #[.int .i64 h0, .int .i64 h1, .int .i64 h2, .int .i64 h3, .int .i64 h4, .int .i64 (flagOf s 0), .int .i64 0, .int .i64 0, .int .i64 0, .int .i64 0, .int .i64 0] 23 (0, 0))) from ⟨by rw [hfl.out]; exact blk_put (cs := #[.int .i64 h0, .int .i64 h1, .int .i64 h2, .int .i64 h3, .int .i64 h4, .int .i64 0, .int .i64 0, .int .i64 0, .int .i64 0, .int .i64 0, .int .i64 0]) Bgb.out 5 _ rfl⟩), ⟨blk_far (p := ⟨gb, 5, none⟩) Bgr.out NEgb_gr.out.symm _⟩, ⟨blk_far (p := ⟨gb, 5, none⟩) Bga.out NEga_gb.out _⟩, ⟨below_set (j := 5) (v := .int .i64 (-1)) HB.out Ggb.out⟩⟩
        · have e1 : (bt s 28 == 63) = false := beq_eq_false_iff_ne.mpr hq
          by_cases hw : bt s 28 = 78
          · have hfl : Aside0 (flagOf s 0 = 1) := ⟨by rw [hFD, if_neg hq, if_pos hw]⟩
            clear hFD hq
            have e2 : (bt s 28 == 78) = true := beq_iff_eq.mpr hw
            have e3 : (bt s 28 == bt (⟨#[78, 86, 68, 73, 90, 67]⟩ : ByteArray) 0) = true := e2
            clear hw
            try go_wp2_with (fail)
            go_roundg g1
            case measure => omega
            case rel => exact ⟨0 + 1, rfl, ⟨by have := HK.out; omega⟩, ⟨by omega⟩, (show Aside0 ((wr.setCell ⟨gb, 5, none⟩ (.int .i64 (1))).heap[gb]? = some (.cells #[.int .i64 h0, .int .i64 h1, .int .i64 h2, .int .i64 h3, .int .i64 h4, .int .i64 (flagOf s 0), .int .i64 0, .int .i64 0, .int .i64 0, .int .i64 0, .int .i64 0] 23 (0, 0))) from ⟨by rw [hfl.out]; exact blk_put (cs := #[.int .i64 h0, .int .i64 h1, .int .i64 h2, .int .i64 h3, .int .i64 h4, .int .i64 0, .int .i64 0, .int .i64 0, .int .i64 0, .int .i64 0, .int .i64 0]) Bgb.out 5 _ rfl⟩), ⟨blk_far (p := ⟨gb, 5, none⟩) Bgr.out NEgb_gr.out.symm _⟩, ⟨blk_far (p := ⟨gb, 5, none⟩) Bga.out NEga_gb.out _⟩, ⟨below_set (j := 5) (v := .int .i64 (1)) HB.out Ggb.out⟩⟩
          · have hfl : Aside0 (flagOf s 0 = 0) := ⟨by rw [hFD, if_neg hq, if_neg hw]⟩
            clear hFD hq
            have e2 : (bt s 28 == 78) = false := beq_eq_false_iff_ne.mpr hw
            have e3 : (bt s 28 == bt (⟨#[78, 86, 68, 73, 90, 67]⟩ : ByteArray) 0) = false := e2
            clear hw
            try go_wp2_with (fail)
            go_roundg g1
            case measure => omega
            case rel => exact ⟨0 + 1, rfl, ⟨by have := HK.out; omega⟩, ⟨by omega⟩, (show Aside0 (wr.heap[gb]? = some (.cells #[.int .i64 h0, .int .i64 h1, .int .i64 h2, .int .i64 h3, .int .i64 h4, .int .i64 (flagOf s 0), .int .i64 0, .int .i64 0, .int .i64 0, .int .i64 0, .int .i64 0] 23 (0, 0))) from ⟨by rw [hfl.out]; exact Bgb.out⟩), ⟨Bgr.out⟩, ⟨Bga.out⟩, ⟨HB.out⟩⟩
    · have Bgb : Aside0 (wr.heap[gb]? = some (.cells #[.int .i64 h0, .int .i64 h1, .int .i64 h2, .int .i64 h3, .int .i64 h4, .int .i64 (flagOf s 0), .int .i64 0, .int .i64 0, .int .i64 0, .int .i64 0, .int .i64 0] 23 (0, 0))) := Bgb0
      clear Bgb0
      have hc1 : wr.cell? ⟨ga, 6, none⟩ = some (.pointer (some ⟨gb, 6, none⟩)) := (blk_cell Bga.out 6).trans rfl
      have hc2 : wr.cell? ⟨gb, 6, none⟩ = some (.int .i64 0) := (blk_cell Bgb.out 6).trans rfl
      have hf1 := blk_frozen Bga.out 6
      have hf2 := blk_frozen Bgb.out 6
      have l1 : 29 < s.size := by omega
      have l2 : decide (29 < (s.size : Int)) = true := decide_eq_true (by omega)
      have l3 : decide (29 < s.size) = true := decide_eq_true l1
      have l4 : (29 < (s.size : Int)) = True := eq_true (by omega)
      have hx1 : ∀ h : 29 < s.size, ((s[29]'h).toNat : Int) = bt s 29 := bt_at s 29
      have hx2 : ∀ h : 1 < (⟨#[78, 86, 68, 73, 90, 67]⟩ : ByteArray).size, (((⟨#[78, 86, 68, 73, 90, 67]⟩ : ByteArray)[1]'h).toNat : Int) = 86 := fun _ => rfl
      clear hs h6
      cases gk with
      | zero => exact absurd HK.out (by omega)
      | succ g1 =>
        have hFD : flagOf s 1 = if bt s 29 = 63 then -1 else if bt s 29 = 86 then 1 else 0 := rfl
        by_cases hq : bt s 29 = 63
        · have hfl : Aside0 (flagOf s 1 = -1) := ⟨by rw [hFD, if_pos hq]⟩
          clear hFD
          have e1 : (bt s 29 == 63) = true := beq_iff_eq.mpr hq
          clear hq
          try go_wp2_with (fail)
          go_roundg g1
          case measure => omega
          case rel => exact ⟨1 + 1, rfl, ⟨by have := HK.out; omega⟩, ⟨by omega⟩, (show Aside0 ((wr.setCell ⟨gb, 6, none⟩ (.int .i64 (-1))).heap[gb]? = some (.cells #[.int .i64 h0, .int .i64 h1, .int .i64 h2, .int .i64 h3, .int .i64 h4, .int .i64 (flagOf s 0), .int .i64 (flagOf s 1), .int .i64 0, .int .i64 0, .int .i64 0, .int .i64 0] 23 (0, 0))) from ⟨by rw [hfl.out]; exact blk_put (cs := #[.int .i64 h0, .int .i64 h1, .int .i64 h2, .int .i64 h3, .int .i64 h4, .int .i64 (flagOf s 0), .int .i64 0, .int .i64 0, .int .i64 0, .int .i64 0, .int .i64 0]) Bgb.out 6 _ rfl⟩), ⟨blk_far (p := ⟨gb, 6, none⟩) Bgr.out NEgb_gr.out.symm _⟩, ⟨blk_far (p := ⟨gb, 6, none⟩) Bga.out NEga_gb.out _⟩, ⟨below_set (j := 6) (v := .int .i64 (-1)) HB.out Ggb.out⟩⟩
        · have e1 : (bt s 29 == 63) = false := beq_eq_false_iff_ne.mpr hq
          by_cases hw : bt s 29 = 86
          · have hfl : Aside0 (flagOf s 1 = 1) := ⟨by rw [hFD, if_neg hq, if_pos hw]⟩
            clear hFD hq
            have e2 : (bt s 29 == 86) = true := beq_iff_eq.mpr hw
            have e3 : (bt s 29 == bt (⟨#[78, 86, 68, 73, 90, 67]⟩ : ByteArray) 1) = true := e2
            clear hw
            try go_wp2_with (fail)
            go_roundg g1
            case measure => omega
            case rel => exact ⟨1 + 1, rfl, ⟨by have := HK.out; omega⟩, ⟨by omega⟩, (show Aside0 ((wr.setCell ⟨gb, 6, none⟩ (.int .i64 (1))).heap[gb]? = some (.cells #[.int .i64 h0, .int .i64 h1, .int .i64 h2, .int .i64 h3, .int .i64 h4, .int .i64 (flagOf s 0), .int .i64 (flagOf s 1), .int .i64 0, .int .i64 0, .int .i64 0, .int .i64 0] 23 (0, 0))) from ⟨by rw [hfl.out]; exact blk_put (cs := #[.int .i64 h0, .int .i64 h1, .int .i64 h2, .int .i64 h3, .int .i64 h4, .int .i64 (flagOf s 0), .int .i64 0, .int .i64 0, .int .i64 0, .int .i64 0, .int .i64 0]) Bgb.out 6 _ rfl⟩), ⟨blk_far (p := ⟨gb, 6, none⟩) Bgr.out NEgb_gr.out.symm _⟩, ⟨blk_far (p := ⟨gb, 6, none⟩) Bga.out NEga_gb.out _⟩, ⟨below_set (j := 6) (v := .int .i64 (1)) HB.out Ggb.out⟩⟩
          · have hfl : Aside0 (flagOf s 1 = 0) := ⟨by rw [hFD, if_neg hq, if_neg hw]⟩
            clear hFD hq
            have e2 : (bt s 29 == 86) = false := beq_eq_false_iff_ne.mpr hw
            have e3 : (bt s 29 == bt (⟨#[78, 86, 68, 73, 90, 67]⟩ : ByteArray) 1) = false := e2
            clear hw
            try go_wp2_with (fail)
            go_roundg g1
            case measure => omega
            case rel => exact ⟨1 + 1, rfl, ⟨by have := HK.out; omega⟩, ⟨by omega⟩, (show Aside0 (wr.heap[gb]? = some (.cells #[.int .i64 h0, .int .i64 h1, .int .i64 h2, .int .i64 h3, .int .i64 h4, .int .i64 (flagOf s 0), .int .i64 (flagOf s 1), .int .i64 0, .int .i64 0, .int .i64 0, .int .i64 0] 23 (0, 0))) from ⟨by rw [hfl.out]; exact Bgb.out⟩), ⟨Bgr.out⟩, ⟨Bga.out⟩, ⟨HB.out⟩⟩
    · have Bgb : Aside0 (wr.heap[gb]? = some (.cells #[.int .i64 h0, .int .i64 h1, .int .i64 h2, .int .i64 h3, .int .i64 h4, .int .i64 (flagOf s 0), .int .i64 (flagOf s 1), .int .i64 0, .int .i64 0, .int .i64 0, .int .i64 0] 23 (0, 0))) := Bgb0
      clear Bgb0
      have hc1 : wr.cell? ⟨ga, 7, none⟩ = some (.pointer (some ⟨gb, 7, none⟩)) := (blk_cell Bga.out 7).trans rfl
      have hc2 : wr.cell? ⟨gb, 7, none⟩ = some (.int .i64 0) := (blk_cell Bgb.out 7).trans rfl
      have hf1 := blk_frozen Bga.out 7
      have hf2 := blk_frozen Bgb.out 7
      have l1 : 30 < s.size := by omega
      have l2 : decide (30 < (s.size : Int)) = true := decide_eq_true (by omega)
      have l3 : decide (30 < s.size) = true := decide_eq_true l1
      have l4 : (30 < (s.size : Int)) = True := eq_true (by omega)
      have hx1 : ∀ h : 30 < s.size, ((s[30]'h).toNat : Int) = bt s 30 := bt_at s 30
      have hx2 : ∀ h : 2 < (⟨#[78, 86, 68, 73, 90, 67]⟩ : ByteArray).size, (((⟨#[78, 86, 68, 73, 90, 67]⟩ : ByteArray)[2]'h).toNat : Int) = 68 := fun _ => rfl
      clear hs h6
      cases gk with
      | zero => exact absurd HK.out (by omega)
      | succ g1 =>
        have hFD : flagOf s 2 = if bt s 30 = 63 then -1 else if bt s 30 = 68 then 1 else 0 := rfl
        by_cases hq : bt s 30 = 63
        · have hfl : Aside0 (flagOf s 2 = -1) := ⟨by rw [hFD, if_pos hq]⟩
          clear hFD
          have e1 : (bt s 30 == 63) = true := beq_iff_eq.mpr hq
          clear hq
          try go_wp2_with (fail)
          go_roundg g1
          case measure => omega
          case rel => exact ⟨2 + 1, rfl, ⟨by have := HK.out; omega⟩, ⟨by omega⟩, (show Aside0 ((wr.setCell ⟨gb, 7, none⟩ (.int .i64 (-1))).heap[gb]? = some (.cells #[.int .i64 h0, .int .i64 h1, .int .i64 h2, .int .i64 h3, .int .i64 h4, .int .i64 (flagOf s 0), .int .i64 (flagOf s 1), .int .i64 (flagOf s 2), .int .i64 0, .int .i64 0, .int .i64 0] 23 (0, 0))) from ⟨by rw [hfl.out]; exact blk_put (cs := #[.int .i64 h0, .int .i64 h1, .int .i64 h2, .int .i64 h3, .int .i64 h4, .int .i64 (flagOf s 0), .int .i64 (flagOf s 1), .int .i64 0, .int .i64 0, .int .i64 0, .int .i64 0]) Bgb.out 7 _ rfl⟩), ⟨blk_far (p := ⟨gb, 7, none⟩) Bgr.out NEgb_gr.out.symm _⟩, ⟨blk_far (p := ⟨gb, 7, none⟩) Bga.out NEga_gb.out _⟩, ⟨below_set (j := 7) (v := .int .i64 (-1)) HB.out Ggb.out⟩⟩
        · have e1 : (bt s 30 == 63) = false := beq_eq_false_iff_ne.mpr hq
          by_cases hw : bt s 30 = 68
          · have hfl : Aside0 (flagOf s 2 = 1) := ⟨by rw [hFD, if_neg hq, if_pos hw]⟩
            clear hFD hq
            have e2 : (bt s 30 == 68) = true := beq_iff_eq.mpr hw
            have e3 : (bt s 30 == bt (⟨#[78, 86, 68, 73, 90, 67]⟩ : ByteArray) 2) = true := e2
            clear hw
            try go_wp2_with (fail)
            go_roundg g1
            case measure => omega
            case rel => exact ⟨2 + 1, rfl, ⟨by have := HK.out; omega⟩, ⟨by omega⟩, (show Aside0 ((wr.setCell ⟨gb, 7, none⟩ (.int .i64 (1))).heap[gb]? = some (.cells #[.int .i64 h0, .int .i64 h1, .int .i64 h2, .int .i64 h3, .int .i64 h4, .int .i64 (flagOf s 0), .int .i64 (flagOf s 1), .int .i64 (flagOf s 2), .int .i64 0, .int .i64 0, .int .i64 0] 23 (0, 0))) from ⟨by rw [hfl.out]; exact blk_put (cs := #[.int .i64 h0, .int .i64 h1, .int .i64 h2, .int .i64 h3, .int .i64 h4, .int .i64 (flagOf s 0), .int .i64 (flagOf s 1), .int .i64 0, .int .i64 0, .int .i64 0, .int .i64 0]) Bgb.out 7 _ rfl⟩), ⟨blk_far (p := ⟨gb, 7, none⟩) Bgr.out NEgb_gr.out.symm _⟩, ⟨blk_far (p := ⟨gb, 7, none⟩) Bga.out NEga_gb.out _⟩, ⟨below_set (j := 7) (v := .int .i64 (1)) HB.out Ggb.out⟩⟩
          · have hfl : Aside0 (flagOf s 2 = 0) := ⟨by rw [hFD, if_neg hq, if_neg hw]⟩
            clear hFD hq
            have e2 : (bt s 30 == 68) = false := beq_eq_false_iff_ne.mpr hw
            have e3 : (bt s 30 == bt (⟨#[78, 86, 68, 73, 90, 67]⟩ : ByteArray) 2) = false := e2
            clear hw
            try go_wp2_with (fail)
            go_roundg g1
            case measure => omega
            case rel => exact ⟨2 + 1, rfl, ⟨by have := HK.out; omega⟩, ⟨by omega⟩, (show Aside0 (wr.heap[gb]? = some (.cells #[.int .i64 h0, .int .i64 h1, .int .i64 h2, .int .i64 h3, .int .i64 h4, .int .i64 (flagOf s 0), .int .i64 (flagOf s 1), .int .i64 (flagOf s 2), .int .i64 0, .int .i64 0, .int .i64 0] 23 (0, 0))) from ⟨by rw [hfl.out]; exact Bgb.out⟩), ⟨Bgr.out⟩, ⟨Bga.out⟩, ⟨HB.out⟩⟩
    · have Bgb : Aside0 (wr.heap[gb]? = some (.cells #[.int .i64 h0, .int .i64 h1, .int .i64 h2, .int .i64 h3, .int .i64 h4, .int .i64 (flagOf s 0), .int .i64 (flagOf s 1), .int .i64 (flagOf s 2), .int .i64 0, .int .i64 0, .int .i64 0] 23 (0, 0))) := Bgb0
      clear Bgb0
      have hc1 : wr.cell? ⟨ga, 8, none⟩ = some (.pointer (some ⟨gb, 8, none⟩)) := (blk_cell Bga.out 8).trans rfl
      have hc2 : wr.cell? ⟨gb, 8, none⟩ = some (.int .i64 0) := (blk_cell Bgb.out 8).trans rfl
      have hf1 := blk_frozen Bga.out 8
      have hf2 := blk_frozen Bgb.out 8
      have l1 : 31 < s.size := by omega
      have l2 : decide (31 < (s.size : Int)) = true := decide_eq_true (by omega)
      have l3 : decide (31 < s.size) = true := decide_eq_true l1
      have l4 : (31 < (s.size : Int)) = True := eq_true (by omega)
      have hx1 : ∀ h : 31 < s.size, ((s[31]'h).toNat : Int) = bt s 31 := bt_at s 31
      have hx2 : ∀ h : 3 < (⟨#[78, 86, 68, 73, 90, 67]⟩ : ByteArray).size, (((⟨#[78, 86, 68, 73, 90, 67]⟩ : ByteArray)[3]'h).toNat : Int) = 73 := fun _ => rfl
      clear hs h6
      cases gk with
      | zero => exact absurd HK.out (by omega)
      | succ g1 =>
        have hFD : flagOf s 3 = if bt s 31 = 63 then -1 else if bt s 31 = 73 then 1 else 0 := rfl
        by_cases hq : bt s 31 = 63
        · have hfl : Aside0 (flagOf s 3 = -1) := ⟨by rw [hFD, if_pos hq]⟩
          clear hFD
          have e1 : (bt s 31 == 63) = true := beq_iff_eq.mpr hq
          clear hq
          try go_wp2_with (fail)
          go_roundg g1
          case measure => omega
          case rel => exact ⟨3 + 1, rfl, ⟨by have := HK.out; omega⟩, ⟨by omega⟩, (show Aside0 ((wr.setCell ⟨gb, 8, none⟩ (.int .i64 (-1))).heap[gb]? = some (.cells #[.int .i64 h0, .int .i64 h1, .int .i64 h2, .int .i64 h3, .int .i64 h4, .int .i64 (flagOf s 0), .int .i64 (flagOf s 1), .int .i64 (flagOf s 2), .int .i64 (flagOf s 3), .int .i64 0, .int .i64 0] 23 (0, 0))) from ⟨by rw [hfl.out]; exact blk_put (cs := #[.int .i64 h0, .int .i64 h1, .int .i64 h2, .int .i64 h3, .int .i64 h4, .int .i64 (flagOf s 0), .int .i64 (flagOf s 1), .int .i64 (flagOf s 2), .int .i64 0, .int .i64 0, .int .i64 0]) Bgb.out 8 _ rfl⟩), ⟨blk_far (p := ⟨gb, 8, none⟩) Bgr.out NEgb_gr.out.symm _⟩, ⟨blk_far (p := ⟨gb, 8, none⟩) Bga.out NEga_gb.out _⟩, ⟨below_set (j := 8) (v := .int .i64 (-1)) HB.out Ggb.out⟩⟩
        · have e1 : (bt s 31 == 63) = false := beq_eq_false_iff_ne.mpr hq
          by_cases hw : bt s 31 = 73
          · have hfl : Aside0 (flagOf s 3 = 1) := ⟨by rw [hFD, if_neg hq, if_pos hw]⟩
            clear hFD hq
            have e2 : (bt s 31 == 73) = true := beq_iff_eq.mpr hw
            have e3 : (bt s 31 == bt (⟨#[78, 86, 68, 73, 90, 67]⟩ : ByteArray) 3) = true := e2
            clear hw
            try go_wp2_with (fail)
            go_roundg g1
            case measure => omega
            case rel => exact ⟨3 + 1, rfl, ⟨by have := HK.out; omega⟩, ⟨by omega⟩, (show Aside0 ((wr.setCell ⟨gb, 8, none⟩ (.int .i64 (1))).heap[gb]? = some (.cells #[.int .i64 h0, .int .i64 h1, .int .i64 h2, .int .i64 h3, .int .i64 h4, .int .i64 (flagOf s 0), .int .i64 (flagOf s 1), .int .i64 (flagOf s 2), .int .i64 (flagOf s 3), .int .i64 0, .int .i64 0] 23 (0, 0))) from ⟨by rw [hfl.out]; exact blk_put (cs := #[.int .i64 h0, .int .i64 h1, .int .i64 h2, .int .i64 h3, .int .i64 h4, .int .i64 (flagOf s 0), .int .i64 (flagOf s 1), .int .i64 (flagOf s 2), .int .i64 0, .int .i64 0, .int .i64 0]) Bgb.out 8 _ rfl⟩), ⟨blk_far (p := ⟨gb, 8, none⟩) Bgr.out NEgb_gr.out.symm _⟩, ⟨blk_far (p := ⟨gb, 8, none⟩) Bga.out NEga_gb.out _⟩, ⟨below_set (j := 8) (v := .int .i64 (1)) HB.out Ggb.out⟩⟩
          · have hfl : Aside0 (flagOf s 3 = 0) := ⟨by rw [hFD, if_neg hq, if_neg hw]⟩
            clear hFD hq
            have e2 : (bt s 31 == 73) = false := beq_eq_false_iff_ne.mpr hw
            have e3 : (bt s 31 == bt (⟨#[78, 86, 68, 73, 90, 67]⟩ : ByteArray) 3) = false := e2
            clear hw
            try go_wp2_with (fail)
            go_roundg g1
            case measure => omega
            case rel => exact ⟨3 + 1, rfl, ⟨by have := HK.out; omega⟩, ⟨by omega⟩, (show Aside0 (wr.heap[gb]? = some (.cells #[.int .i64 h0, .int .i64 h1, .int .i64 h2, .int .i64 h3, .int .i64 h4, .int .i64 (flagOf s 0), .int .i64 (flagOf s 1), .int .i64 (flagOf s 2), .int .i64 (flagOf s 3), .int .i64 0, .int .i64 0] 23 (0, 0))) from ⟨by rw [hfl.out]; exact Bgb.out⟩), ⟨Bgr.out⟩, ⟨Bga.out⟩, ⟨HB.out⟩⟩
    · have Bgb : Aside0 (wr.heap[gb]? = some (.cells #[.int .i64 h0, .int .i64 h1, .int .i64 h2, .int .i64 h3, .int .i64 h4, .int .i64 (flagOf s 0), .int .i64 (flagOf s 1), .int .i64 (flagOf s 2), .int .i64 (flagOf s 3), .int .i64 0, .int .i64 0] 23 (0, 0))) := Bgb0
      clear Bgb0
      have hc1 : wr.cell? ⟨ga, 9, none⟩ = some (.pointer (some ⟨gb, 9, none⟩)) := (blk_cell Bga.out 9).trans rfl
      have hc2 : wr.cell? ⟨gb, 9, none⟩ = some (.int .i64 0) := (blk_cell Bgb.out 9).trans rfl
      have hf1 := blk_frozen Bga.out 9
      have hf2 := blk_frozen Bgb.out 9
      have l1 : 32 < s.size := by omega
      have l2 : decide (32 < (s.size : Int)) = true := decide_eq_true (by omega)
      have l3 : decide (32 < s.size) = true := decide_eq_true l1
      have l4 : (32 < (s.size : Int)) = True := eq_true (by omega)
      have hx1 : ∀ h : 32 < s.size, ((s[32]'h).toNat : Int) = bt s 32 := bt_at s 32
      have hx2 : ∀ h : 4 < (⟨#[78, 86, 68, 73, 90, 67]⟩ : ByteArray).size, (((⟨#[78, 86, 68, 73, 90, 67]⟩ : ByteArray)[4]'h).toNat : Int) = 90 := fun _ => rfl
      clear hs h6
      cases gk with
      | zero => exact absurd HK.out (by omega)
      | succ g1 =>
        have hFD : flagOf s 4 = if bt s 32 = 63 then -1 else if bt s 32 = 90 then 1 else 0 := rfl
        by_cases hq : bt s 32 = 63
        · have hfl : Aside0 (flagOf s 4 = -1) := ⟨by rw [hFD, if_pos hq]⟩
          clear hFD
          have e1 : (bt s 32 == 63) = true := beq_iff_eq.mpr hq
          clear hq
          try go_wp2_with (fail)
          go_roundg g1
          case measure => omega
          case rel => exact ⟨4 + 1, rfl, ⟨by have := HK.out; omega⟩, ⟨by omega⟩, (show Aside0 ((wr.setCell ⟨gb, 9, none⟩ (.int .i64 (-1))).heap[gb]? = some (.cells #[.int .i64 h0, .int .i64 h1, .int .i64 h2, .int .i64 h3, .int .i64 h4, .int .i64 (flagOf s 0), .int .i64 (flagOf s 1), .int .i64 (flagOf s 2), .int .i64 (flagOf s 3), .int .i64 (flagOf s 4), .int .i64 0] 23 (0, 0))) from ⟨by rw [hfl.out]; exact blk_put (cs := #[.int .i64 h0, .int .i64 h1, .int .i64 h2, .int .i64 h3, .int .i64 h4, .int .i64 (flagOf s 0), .int .i64 (flagOf s 1), .int .i64 (flagOf s 2), .int .i64 (flagOf s 3), .int .i64 0, .int .i64 0]) Bgb.out 9 _ rfl⟩), ⟨blk_far (p := ⟨gb, 9, none⟩) Bgr.out NEgb_gr.out.symm _⟩, ⟨blk_far (p := ⟨gb, 9, none⟩) Bga.out NEga_gb.out _⟩, ⟨below_set (j := 9) (v := .int .i64 (-1)) HB.out Ggb.out⟩⟩
        · have e1 : (bt s 32 == 63) = false := beq_eq_false_iff_ne.mpr hq
          by_cases hw : bt s 32 = 90
          · have hfl : Aside0 (flagOf s 4 = 1) := ⟨by rw [hFD, if_neg hq, if_pos hw]⟩
            clear hFD hq
            have e2 : (bt s 32 == 90) = true := beq_iff_eq.mpr hw
            have e3 : (bt s 32 == bt (⟨#[78, 86, 68, 73, 90, 67]⟩ : ByteArray) 4) = true := e2
            clear hw
            try go_wp2_with (fail)
            go_roundg g1
            case measure => omega
            case rel => exact ⟨4 + 1, rfl, ⟨by have := HK.out; omega⟩, ⟨by omega⟩, (show Aside0 ((wr.setCell ⟨gb, 9, none⟩ (.int .i64 (1))).heap[gb]? = some (.cells #[.int .i64 h0, .int .i64 h1, .int .i64 h2, .int .i64 h3, .int .i64 h4, .int .i64 (flagOf s 0), .int .i64 (flagOf s 1), .int .i64 (flagOf s 2), .int .i64 (flagOf s 3), .int .i64 (flagOf s 4), .int .i64 0] 23 (0, 0))) from ⟨by rw [hfl.out]; exact blk_put (cs := #[.int .i64 h0, .int .i64 h1, .int .i64 h2, .int .i64 h3, .int .i64 h4, .int .i64 (flagOf s 0), .int .i64 (flagOf s 1), .int .i64 (flagOf s 2), .int .i64 (flagOf s 3), .int .i64 0, .int .i64 0]) Bgb.out 9 _ rfl⟩), ⟨blk_far (p := ⟨gb, 9, none⟩) Bgr.out NEgb_gr.out.symm _⟩, ⟨blk_far (p := ⟨gb, 9, none⟩) Bga.out NEga_gb.out _⟩, ⟨below_set (j := 9) (v := .int .i64 (1)) HB.out Ggb.out⟩⟩
          · have hfl : Aside0 (flagOf s 4 = 0) := ⟨by rw [hFD, if_neg hq, if_neg hw]⟩
            clear hFD hq
            have e2 : (bt s 32 == 90) = false := beq_eq_false_iff_ne.mpr hw
            have e3 : (bt s 32 == bt (⟨#[78, 86, 68, 73, 90, 67]⟩ : ByteArray) 4) = false := e2
            clear hw
            try go_wp2_with (fail)
            go_roundg g1
            case measure => omega
            case rel => exact ⟨4 + 1, rfl, ⟨by have := HK.out; omega⟩, ⟨by omega⟩, (show Aside0 (wr.heap[gb]? = some (.cells #[.int .i64 h0, .int .i64 h1, .int .i64 h2, .int .i64 h3, .int .i64 h4, .int .i64 (flagOf s 0), .int .i64 (flagOf s 1), .int .i64 (flagOf s 2), .int .i64 (flagOf s 3), .int .i64 (flagOf s 4), .int .i64 0] 23 (0, 0))) from ⟨by rw [hfl.out]; exact Bgb.out⟩), ⟨Bgr.out⟩, ⟨Bga.out⟩, ⟨HB.out⟩⟩
    · have Bgb : Aside0 (wr.heap[gb]? = some (.cells #[.int .i64 h0, .int .i64 h1, .int .i64 h2, .int .i64 h3, .int .i64 h4, .int .i64 (flagOf s 0), .int .i64 (flagOf s 1), .int .i64 (flagOf s 2), .int .i64 (flagOf s 3), .int .i64 (flagOf s 4), .int .i64 0] 23 (0, 0))) := Bgb0
      clear Bgb0
      have hc1 : wr.cell? ⟨ga, 10, none⟩ = some (.pointer (some ⟨gb, 10, none⟩)) := (blk_cell Bga.out 10).trans rfl
      have hc2 : wr.cell? ⟨gb, 10, none⟩ = some (.int .i64 0) := (blk_cell Bgb.out 10).trans rfl
      have hf1 := blk_frozen Bga.out 10
      have hf2 := blk_frozen Bgb.out 10
      have l1 : 33 < s.size := by omega
      have l2 : decide (33 < (s.size : Int)) = true := decide_eq_true (by omega)
      have l3 : decide (33 < s.size) = true := decide_eq_true l1
      have l4 : (33 < (s.size : Int)) = True := eq_true (by omega)
      have hx1 : ∀ h : 33 < s.size, ((s[33]'h).toNat : Int) = bt s 33 := bt_at s 33
      have hx2 : ∀ h : 5 < (⟨#[78, 86, 68, 73, 90, 67]⟩ : ByteArray).size, (((⟨#[78, 86, 68, 73, 90, 67]⟩ : ByteArray)[5]'h).toNat : Int) = 67 := fun _ => rfl
      clear hs h6
      cases gk with
      | zero => exact absurd HK.out (by omega)
      | succ g1 =>
        have hFD : flagOf s 5 = if bt s 33 = 63 then -1 else if bt s 33 = 67 then 1 else 0 := rfl
        by_cases hq : bt s 33 = 63
        · have hfl : Aside0 (flagOf s 5 = -1) := ⟨by rw [hFD, if_pos hq]⟩
          clear hFD
          have e1 : (bt s 33 == 63) = true := beq_iff_eq.mpr hq
          clear hq
          try go_wp2_with (fail)
          go_roundg g1
          case measure => omega
          case rel => exact ⟨5 + 1, rfl, ⟨by have := HK.out; omega⟩, ⟨by omega⟩, (show Aside0 ((wr.setCell ⟨gb, 10, none⟩ (.int .i64 (-1))).heap[gb]? = some (.cells #[.int .i64 h0, .int .i64 h1, .int .i64 h2, .int .i64 h3, .int .i64 h4, .int .i64 (flagOf s 0), .int .i64 (flagOf s 1), .int .i64 (flagOf s 2), .int .i64 (flagOf s 3), .int .i64 (flagOf s 4), .int .i64 (flagOf s 5)] 23 (0, 0))) from ⟨by rw [hfl.out]; exact blk_put (cs := #[.int .i64 h0, .int .i64 h1, .int .i64 h2, .int .i64 h3, .int .i64 h4, .int .i64 (flagOf s 0), .int .i64 (flagOf s 1), .int .i64 (flagOf s 2), .int .i64 (flagOf s 3), .int .i64 (flagOf s 4), .int .i64 0]) Bgb.out 10 _ rfl⟩), ⟨blk_far (p := ⟨gb, 10, none⟩) Bgr.out NEgb_gr.out.symm _⟩, ⟨blk_far (p := ⟨gb, 10, none⟩) Bga.out NEga_gb.out _⟩, ⟨below_set (j := 10) (v := .int .i64 (-1)) HB.out Ggb.out⟩⟩
        · have e1 : (bt s 33 == 63) = false := beq_eq_false_iff_ne.mpr hq
          by_cases hw : bt s 33 = 67
          · have hfl : Aside0 (flagOf s 5 = 1) := ⟨by rw [hFD, if_neg hq, if_pos hw]⟩
            clear hFD hq
            have e2 : (bt s 33 == 67) = true := beq_iff_eq.mpr hw
            have e3 : (bt s 33 == bt (⟨#[78, 86, 68, 73, 90, 67]⟩ : ByteArray) 5) = true := e2
            clear hw
            try go_wp2_with (fail)
            go_roundg g1
            case measure => omega
            case rel => exact ⟨5 + 1, rfl, ⟨by have := HK.out; omega⟩, ⟨by omega⟩, (show Aside0 ((wr.setCell ⟨gb, 10, none⟩ (.int .i64 (1))).heap[gb]? = some (.cells #[.int .i64 h0, .int .i64 h1, .int .i64 h2, .int .i64 h3, .int .i64 h4, .int .i64 (flagOf s 0), .int .i64 (flagOf s 1), .int .i64 (flagOf s 2), .int .i64 (flagOf s 3), .int .i64 (flagOf s 4), .int .i64 (flagOf s 5)] 23 (0, 0))) from ⟨by rw [hfl.out]; exact blk_put (cs := #[.int .i64 h0, .int .i64 h1, .int .i64 h2, .int .i64 h3, .int .i64 h4, .int .i64 (flagOf s 0), .int .i64 (flagOf s 1), .int .i64 (flagOf s 2), .int .i64 (flagOf s 3), .int .i64 (flagOf s 4), .int .i64 0]) Bgb.out 10 _ rfl⟩), ⟨blk_far (p := ⟨gb, 10, none⟩) Bgr.out NEgb_gr.out.symm _⟩, ⟨blk_far (p := ⟨gb, 10, none⟩) Bga.out NEga_gb.out _⟩, ⟨below_set (j := 10) (v := .int .i64 (1)) HB.out Ggb.out⟩⟩
          · have hfl : Aside0 (flagOf s 5 = 0) := ⟨by rw [hFD, if_neg hq, if_neg hw]⟩
            clear hFD hq
            have e2 : (bt s 33 == 67) = false := beq_eq_false_iff_ne.mpr hw
            have e3 : (bt s 33 == bt (⟨#[78, 86, 68, 73, 90, 67]⟩ : ByteArray) 5) = false := e2
            clear hw
            try go_wp2_with (fail)
            go_roundg g1
            case measure => omega
            case rel => exact ⟨5 + 1, rfl, ⟨by have := HK.out; omega⟩, ⟨by omega⟩, (show Aside0 (wr.heap[gb]? = some (.cells #[.int .i64 h0, .int .i64 h1, .int .i64 h2, .int .i64 h3, .int .i64 h4, .int .i64 (flagOf s 0), .int .i64 (flagOf s 1), .int .i64 (flagOf s 2), .int .i64 (flagOf s 3), .int .i64 (flagOf s 4), .int .i64 (flagOf s 5)] 23 (0, 0))) from ⟨by rw [hfl.out]; exact Bgb.out⟩), ⟨Bgr.out⟩, ⟨Bga.out⟩, ⟨HB.out⟩⟩
    · have Bgb : Aside0 (wr.heap[gb]? = some (.cells #[.int .i64 h0, .int .i64 h1, .int .i64 h2, .int .i64 h3, .int .i64 h4, .int .i64 (flagOf s 0), .int .i64 (flagOf s 1), .int .i64 (flagOf s 2), .int .i64 (flagOf s 3), .int .i64 (flagOf s 4), .int .i64 (flagOf s 5)] 23 (0, 0))) := Bgb0
      clear Bgb0
      clear h6 hs
      have hcgb0 : wr.cell? ⟨gb, 0, none⟩ = some (.int .i64 h0) := (blk_cell Bgb.out 0).trans rfl
      have hfgb0 := blk_frozen Bgb.out 0
      have hcgb1 : wr.cell? ⟨gb, 1, none⟩ = some (.int .i64 h1) := (blk_cell Bgb.out 1).trans rfl
      have hfgb1 := blk_frozen Bgb.out 1
      have hcgb2 : wr.cell? ⟨gb, 2, none⟩ = some (.int .i64 h2) := (blk_cell Bgb.out 2).trans rfl
      have hfgb2 := blk_frozen Bgb.out 2
      have hcgb3 : wr.cell? ⟨gb, 3, none⟩ = some (.int .i64 h3) := (blk_cell Bgb.out 3).trans rfl
      have hfgb3 := blk_frozen Bgb.out 3
      have hcgb4 : wr.cell? ⟨gb, 4, none⟩ = some (.int .i64 h4) := (blk_cell Bgb.out 4).trans rfl
      have hfgb4 := blk_frozen Bgb.out 4
      have hcgb5 : wr.cell? ⟨gb, 5, none⟩ = some (.int .i64 (flagOf s 0)) := (blk_cell Bgb.out 5).trans rfl
      have hfgb5 := blk_frozen Bgb.out 5
      have hcgb6 : wr.cell? ⟨gb, 6, none⟩ = some (.int .i64 (flagOf s 1)) := (blk_cell Bgb.out 6).trans rfl
      have hfgb6 := blk_frozen Bgb.out 6
      have hcgb7 : wr.cell? ⟨gb, 7, none⟩ = some (.int .i64 (flagOf s 2)) := (blk_cell Bgb.out 7).trans rfl
      have hfgb7 := blk_frozen Bgb.out 7
      have hcgb8 : wr.cell? ⟨gb, 8, none⟩ = some (.int .i64 (flagOf s 3)) := (blk_cell Bgb.out 8).trans rfl
      have hfgb8 := blk_frozen Bgb.out 8
      have hcgb9 : wr.cell? ⟨gb, 9, none⟩ = some (.int .i64 (flagOf s 4)) := (blk_cell Bgb.out 9).trans rfl
      have hfgb9 := blk_frozen Bgb.out 9
      have hcgb10 : wr.cell? ⟨gb, 10, none⟩ = some (.int .i64 (flagOf s 5)) := (blk_cell Bgb.out 10).trans rfl
      have hfgb10 := blk_frozen Bgb.out 10
      try go_wp2_with (fail)
      refine (impl_KnowText.calls k h0 h1 h2 h3 h4 (flagOf s 0) (flagOf s 1) (flagOf s 2) (flagOf s 3) (flagOf s 4) (flagOf s 5) t _ HT.out).mono ?_
      rintro e v9_ ⟨rfl, hb_⟩
      clear hcgb0 hfgb0 hcgb1 hfgb1 hcgb2 hfgb2 hcgb3 hfgb3 hcgb4 hfgb4 hcgb5 hfgb5 hcgb6 hfgb6 hcgb7 hfgb7 hcgb8 hfgb8 hcgb9 hfgb9 hcgb10 hfgb10
      have mgr := Aside0.mk ((hb_.block gr (blk_lt Bgr.out)).trans Bgr.out)
      have mgb := Aside0.mk ((hb_.block gb (blk_lt Bgb.out)).trans Bgb.out)
      have mga := Aside0.mk ((hb_.block ga (blk_lt Bga.out)).trans Bga.out)
      have mH := Aside0.mk (below_step HB.out hb_)
      clear HB Bgr Bgb Bga hb_
      have HB := mH
      have Bgr := mgr
      have Bgb := mgb
      have Bga := mga
      clear mH mgr mgb mga
      have hcgr0 : v9_.cell? ⟨gr, 0, none⟩ = some (.int .i64 0) := (blk_cell Bgr.out 0).trans rfl
      have hfgr0 := blk_frozen Bgr.out 0
      have hcgr1 : v9_.cell? ⟨gr, 1, none⟩ = some (.int .i64 0) := (blk_cell Bgr.out 1).trans rfl
      have hfgr1 := blk_frozen Bgr.out 1
      have hcgr2 : v9_.cell? ⟨gr, 2, none⟩ = some (.int .i64 0) := (blk_cell Bgr.out 2).trans rfl
      have hfgr2 := blk_frozen Bgr.out 2
      have hcgr3 : v9_.cell? ⟨gr, 3, none⟩ = some (.int .i64 0) := (blk_cell Bgr.out 3).trans rfl
      have hfgr3 := blk_frozen Bgr.out 3
      have hcgr4 : v9_.cell? ⟨gr, 4, none⟩ = some (.int .i64 0) := (blk_cell Bgr.out 4).trans rfl
      have hfgr4 := blk_frozen Bgr.out 4
      have hcgr5 : v9_.cell? ⟨gr, 5, none⟩ = some (.int .i64 0) := (blk_cell Bgr.out 5).trans rfl
      have hfgr5 := blk_frozen Bgr.out 5
      have hcgr6 : v9_.cell? ⟨gr, 6, none⟩ = some (.int .i64 0) := (blk_cell Bgr.out 6).trans rfl
      have hfgr6 := blk_frozen Bgr.out 6
      have hcgr7 : v9_.cell? ⟨gr, 7, none⟩ = some (.int .i64 0) := (blk_cell Bgr.out 7).trans rfl
      have hfgr7 := blk_frozen Bgr.out 7
      have hcgr8 : v9_.cell? ⟨gr, 8, none⟩ = some (.int .i64 0) := (blk_cell Bgr.out 8).trans rfl
      have hfgr8 := blk_frozen Bgr.out 8
      have hcgr9 : v9_.cell? ⟨gr, 9, none⟩ = some (.int .i64 0) := (blk_cell Bgr.out 9).trans rfl
      have hfgr9 := blk_frozen Bgr.out 9
      have hcgr10 : v9_.cell? ⟨gr, 10, none⟩ = some (.int .i64 0) := (blk_cell Bgr.out 10).trans rfl
      have hfgr10 := blk_frozen Bgr.out 10
      have hcgb0 : v9_.cell? ⟨gb, 0, none⟩ = some (.int .i64 h0) := (blk_cell Bgb.out 0).trans rfl
      have hfgb0 := blk_frozen Bgb.out 0
      have hcgb1 : v9_.cell? ⟨gb, 1, none⟩ = some (.int .i64 h1) := (blk_cell Bgb.out 1).trans rfl
      have hfgb1 := blk_frozen Bgb.out 1
      have hcgb2 : v9_.cell? ⟨gb, 2, none⟩ = some (.int .i64 h2) := (blk_cell Bgb.out 2).trans rfl
      have hfgb2 := blk_frozen Bgb.out 2
      have hcgb3 : v9_.cell? ⟨gb, 3, none⟩ = some (.int .i64 h3) := (blk_cell Bgb.out 3).trans rfl
      have hfgb3 := blk_frozen Bgb.out 3
      have hcgb4 : v9_.cell? ⟨gb, 4, none⟩ = some (.int .i64 h4) := (blk_cell Bgb.out 4).trans rfl
      have hfgb4 := blk_frozen Bgb.out 4
      have hcgb5 : v9_.cell? ⟨gb, 5, none⟩ = some (.int .i64 (flagOf s 0)) := (blk_cell Bgb.out 5).trans rfl
      have hfgb5 := blk_frozen Bgb.out 5
      have hcgb6 : v9_.cell? ⟨gb, 6, none⟩ = some (.int .i64 (flagOf s 1)) := (blk_cell Bgb.out 6).trans rfl
      have hfgb6 := blk_frozen Bgb.out 6
      have hcgb7 : v9_.cell? ⟨gb, 7, none⟩ = some (.int .i64 (flagOf s 2)) := (blk_cell Bgb.out 7).trans rfl
      have hfgb7 := blk_frozen Bgb.out 7
      have hcgb8 : v9_.cell? ⟨gb, 8, none⟩ = some (.int .i64 (flagOf s 3)) := (blk_cell Bgb.out 8).trans rfl
      have hfgb8 := blk_frozen Bgb.out 8
      have hcgb9 : v9_.cell? ⟨gb, 9, none⟩ = some (.int .i64 (flagOf s 4)) := (blk_cell Bgb.out 9).trans rfl
      have hfgb9 := blk_frozen Bgb.out 9
      have hcgb10 : v9_.cell? ⟨gb, 10, none⟩ = some (.int .i64 (flagOf s 5)) := (blk_cell Bgb.out 10).trans rfl
      have hfgb10 := blk_frozen Bgb.out 10
      by_cases he : t.toList = s.toList
      · have e1 : (t.toList == s.toList) = true := beq_iff_eq.mpr he
        have e2 : (t.toList != s.toList) = false := bne_eq_false_iff_eq.mpr he
        rw [if_pos he] at HH
        have hh := HH.out
        simp only [Option.some.injEq, Prod.mk.injEq] at hh
        obtain ⟨rfl, rfl, rfl, rfl, rfl, rfl, rfl, rfl, rfl, rfl, rfl, rfl⟩ := hh
        clear HH he
        try go_wp2_with (fail)
        refine bodyPost_ret (results_ct rfl _ _ gr 23 #[.int .i64 h0, .int .i64 h1, .int .i64 h2, .int .i64 h3, .int .i64 h4, .int .i64 (flagOf s 0), .int .i64 (flagOf s 1), .int .i64 (flagOf s 2), .int .i64 (flagOf s 3), .int .i64 (flagOf s 4), .int .i64 (flagOf s 5)] (0, 0) _ rfl (by (with_reducible repeat (first | refine blk_drewN ?_ _ | refine blk_drew ?_ | refine blk_alloc ?_ _)); refine blk_put (cs := #[.int .i64 h0, .int .i64 h1, .int .i64 h2, .int .i64 h3, .int .i64 h4, .int .i64 (flagOf s 0), .int .i64 (flagOf s 1), .int .i64 (flagOf s 2), .int .i64 (flagOf s 3), .int .i64 (flagOf s 4), .int .i64 0]) ?_ 10 _ rfl; (with_reducible repeat (first | refine blk_drewN ?_ _ | refine blk_drew ?_ | refine blk_alloc ?_ _)); refine blk_put (cs := #[.int .i64 h0, .int .i64 h1, .int .i64 h2, .int .i64 h3, .int .i64 h4, .int .i64 (flagOf s 0), .int .i64 (flagOf s 1), .int .i64 (flagOf s 2), .int .i64 (flagOf s 3), .int .i64 0, .int .i64 0]) ?_ 9 _ rfl; (with_reducible repeat (first | refine blk_drewN ?_ _ | refine blk_drew ?_ | refine blk_alloc ?_ _)); refine blk_put (cs := #[.int .i64 h0, .int .i64 h1, .int .i64 h2, .int .i64 h3, .int .i64 h4, .int .i64 (flagOf s 0), .int .i64 (flagOf s 1), .int .i64 (flagOf s 2), .int .i64 0, .int .i64 0, .int .i64 0]) ?_ 8 _ rfl; (with_reducible repeat (first | refine blk_drewN ?_ _ | refine blk_drew ?_ | refine blk_alloc ?_ _)); refine blk_put (cs := #[.int .i64 h0, .int .i64 h1, .int .i64 h2, .int .i64 h3, .int .i64 h4, .int .i64 (flagOf s 0), .int .i64 (flagOf s 1), .int .i64 0, .int .i64 0, .int .i64 0, .int .i64 0]) ?_ 7 _ rfl; (with_reducible repeat (first | refine blk_drewN ?_ _ | refine blk_drew ?_ | refine blk_alloc ?_ _)); refine blk_put (cs := #[.int .i64 h0, .int .i64 h1, .int .i64 h2, .int .i64 h3, .int .i64 h4, .int .i64 (flagOf s 0), .int .i64 0, .int .i64 0, .int .i64 0, .int .i64 0, .int .i64 0]) ?_ 6 _ rfl; (with_reducible repeat (first | refine blk_drewN ?_ _ | refine blk_drew ?_ | refine blk_alloc ?_ _)); refine blk_put (cs := #[.int .i64 h0, .int .i64 h1, .int .i64 h2, .int .i64 h3, .int .i64 h4, .int .i64 0, .int .i64 0, .int .i64 0, .int .i64 0, .int .i64 0, .int .i64 0]) ?_ 5 _ rfl; (with_reducible repeat (first | refine blk_drewN ?_ _ | refine blk_drew ?_ | refine blk_alloc ?_ _)); refine blk_put (cs := #[.int .i64 h0, .int .i64 h1, .int .i64 h2, .int .i64 h3, .int .i64 0, .int .i64 0, .int .i64 0, .int .i64 0, .int .i64 0, .int .i64 0, .int .i64 0]) ?_ 4 _ rfl; (with_reducible repeat (first | refine blk_drewN ?_ _ | refine blk_drew ?_ | refine blk_alloc ?_ _)); refine blk_put (cs := #[.int .i64 h0, .int .i64 h1, .int .i64 h2, .int .i64 0, .int .i64 0, .int .i64 0, .int .i64 0, .int .i64 0, .int .i64 0, .int .i64 0, .int .i64 0]) ?_ 3 _ rfl; (with_reducible repeat (first | refine blk_drewN ?_ _ | refine blk_drew ?_ | refine blk_alloc ?_ _)); refine blk_put (cs := #[.int .i64 h0, .int .i64 h1, .int .i64 0, .int .i64 0, .int .i64 0, .int .i64 0, .int .i64 0, .int .i64 0, .int .i64 0, .int .i64 0, .int .i64 0]) ?_ 2 _ rfl; (with_reducible repeat (first | refine blk_drewN ?_ _ | refine blk_drew ?_ | refine blk_alloc ?_ _)); refine blk_put (cs := #[.int .i64 h0, .int .i64 0, .int .i64 0, .int .i64 0, .int .i64 0, .int .i64 0, .int .i64 0, .int .i64 0, .int .i64 0, .int .i64 0, .int .i64 0]) ?_ 1 _ rfl; (with_reducible repeat (first | refine blk_drewN ?_ _ | refine blk_drew ?_ | refine blk_alloc ?_ _)); refine blk_put (cs := #[.int .i64 0, .int .i64 0, .int .i64 0, .int .i64 0, .int .i64 0, .int .i64 0, .int .i64 0, .int .i64 0, .int .i64 0, .int .i64 0, .int .i64 0]) ?_ 0 _ rfl; (with_reducible repeat (first | refine blk_drewN ?_ _ | refine blk_drew ?_ | refine blk_alloc ?_ _)); exact Bgr.out) Try.underlying23 rfl (by kernel_rfl)) rfl ?_
        exact ⟨by first | rfl | (simp; done) | simp [*], by repeat (first | (with_reducible first | exact HB.out | apply below_alloc | apply pw_below_drewN | apply below_drew1 | refine below_set ?_ Ggr.out | refine below_set ?_ Ggb.out | refine below_set ?_ Gga.out) | exact HB.out)⟩
      · have e1 : (t.toList == s.toList) = false := beq_eq_false_iff_ne.mpr he
        have e2 : (t.toList != s.toList) = true := bne_iff_ne.mpr he
        rw [if_neg he] at HH
        have hh := HH.out
        simp only [Option.some.injEq, Prod.mk.injEq] at hh
        obtain ⟨rfl, rfl, rfl, rfl, rfl, rfl, rfl, rfl, rfl, rfl, rfl, rfl⟩ := hh
        clear HH he
        try go_wp2_with (fail)
        refine bodyPost_ret (results_ct rfl _ _ gr 23 #[.int .i64 0, .int .i64 0, .int .i64 0, .int .i64 0, .int .i64 0, .int .i64 0, .int .i64 0, .int .i64 0, .int .i64 0, .int .i64 0, .int .i64 0] (0, 0) _ rfl (by (with_reducible repeat (first | refine blk_drewN ?_ _ | refine blk_drew ?_ | refine blk_alloc ?_ _)); refine blk_put (cs := #[.int .i64 0, .int .i64 0, .int .i64 0, .int .i64 0, .int .i64 0, .int .i64 0, .int .i64 0, .int .i64 0, .int .i64 0, .int .i64 0, .int .i64 0]) ?_ 10 _ rfl; (with_reducible repeat (first | refine blk_drewN ?_ _ | refine blk_drew ?_ | refine blk_alloc ?_ _)); refine blk_put (cs := #[.int .i64 0, .int .i64 0, .int .i64 0, .int .i64 0, .int .i64 0, .int .i64 0, .int .i64 0, .int .i64 0, .int .i64 0, .int .i64 0, .int .i64 0]) ?_ 9 _ rfl; (with_reducible repeat (first | refine blk_drewN ?_ _ | refine blk_drew ?_ | refine blk_alloc ?_ _)); refine blk_put (cs := #[.int .i64 0, .int .i64 0, .int .i64 0, .int .i64 0, .int .i64 0, .int .i64 0, .int .i64 0, .int .i64 0, .int .i64 0, .int .i64 0, .int .i64 0]) ?_ 8 _ rfl; (with_reducible repeat (first | refine blk_drewN ?_ _ | refine blk_drew ?_ | refine blk_alloc ?_ _)); refine blk_put (cs := #[.int .i64 0, .int .i64 0, .int .i64 0, .int .i64 0, .int .i64 0, .int .i64 0, .int .i64 0, .int .i64 0, .int .i64 0, .int .i64 0, .int .i64 0]) ?_ 7 _ rfl; (with_reducible repeat (first | refine blk_drewN ?_ _ | refine blk_drew ?_ | refine blk_alloc ?_ _)); refine blk_put (cs := #[.int .i64 0, .int .i64 0, .int .i64 0, .int .i64 0, .int .i64 0, .int .i64 0, .int .i64 0, .int .i64 0, .int .i64 0, .int .i64 0, .int .i64 0]) ?_ 6 _ rfl; (with_reducible repeat (first | refine blk_drewN ?_ _ | refine blk_drew ?_ | refine blk_alloc ?_ _)); refine blk_put (cs := #[.int .i64 0, .int .i64 0, .int .i64 0, .int .i64 0, .int .i64 0, .int .i64 0, .int .i64 0, .int .i64 0, .int .i64 0, .int .i64 0, .int .i64 0]) ?_ 5 _ rfl; (with_reducible repeat (first | refine blk_drewN ?_ _ | refine blk_drew ?_ | refine blk_alloc ?_ _)); refine blk_put (cs := #[.int .i64 0, .int .i64 0, .int .i64 0, .int .i64 0, .int .i64 0, .int .i64 0, .int .i64 0, .int .i64 0, .int .i64 0, .int .i64 0, .int .i64 0]) ?_ 4 _ rfl; (with_reducible repeat (first | refine blk_drewN ?_ _ | refine blk_drew ?_ | refine blk_alloc ?_ _)); refine blk_put (cs := #[.int .i64 0, .int .i64 0, .int .i64 0, .int .i64 0, .int .i64 0, .int .i64 0, .int .i64 0, .int .i64 0, .int .i64 0, .int .i64 0, .int .i64 0]) ?_ 3 _ rfl; (with_reducible repeat (first | refine blk_drewN ?_ _ | refine blk_drew ?_ | refine blk_alloc ?_ _)); refine blk_put (cs := #[.int .i64 0, .int .i64 0, .int .i64 0, .int .i64 0, .int .i64 0, .int .i64 0, .int .i64 0, .int .i64 0, .int .i64 0, .int .i64 0, .int .i64 0]) ?_ 2 _ rfl; (with_reducible repeat (first | refine blk_drewN ?_ _ | refine blk_drew ?_ | refine blk_alloc ?_ _)); refine blk_put (cs := #[.int .i64 0, .int .i64 0, .int .i64 0, .int .i64 0, .int .i64 0, .int .i64 0, .int .i64 0, .int .i64 0, .int .i64 0, .int .i64 0, .int .i64 0]) ?_ 1 _ rfl; (with_reducible repeat (first | refine blk_drewN ?_ _ | refine blk_drew ?_ | refine blk_alloc ?_ _)); refine blk_put (cs := #[.int .i64 0, .int .i64 0, .int .i64 0, .int .i64 0, .int .i64 0, .int .i64 0, .int .i64 0, .int .i64 0, .int .i64 0, .int .i64 0, .int .i64 0]) ?_ 0 _ rfl; (with_reducible repeat (first | refine blk_drewN ?_ _ | refine blk_drew ?_ | refine blk_alloc ?_ _)); exact Bgr.out) Try.underlying23 rfl (by kernel_rfl)) rfl ?_
        exact ⟨by first | rfl | (simp; done) | simp [*], by repeat (first | (with_reducible first | exact HB.out | apply below_alloc | apply pw_below_drewN | apply below_drew1 | refine below_set ?_ Ggr.out | refine below_set ?_ Ggb.out | refine below_set ?_ Gga.out) | exact HB.out)⟩
    · omega
end Go.Proofs.Ytecccbecflbcfaa.PKtl
