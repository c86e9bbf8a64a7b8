import Derived.Test.YtecccbecflbcfaaSCPKtlx0
import Derived.Test.YtecccbecflbcfaaSCPKtlx8
import Derived.Test.YtecccbecflbcfaaSCMyKtlKnowOk
import Derived.StillTailTactics
import Derived.Test.YtecccbecflbcfaaSCMyFields
set_option linter.unusedVariables false
set_option linter.unusedSimpArgs false
namespace Go.Proofs.Ytecccbecflbcfaa.PKtl
open Go.RowKit Go.Proofs.Ytecccbecflbcfaa.Know Go.Proofs.YtecccbecflbcfaaW.PrintWords Go.Proofs.YtecccbecflbcfaaW.PrintLast Go.Proofs.YtecccbecflbcfaaW.PrintMore
def markB (i : Nat) (x : Int) : ByteArray := if x = -1 then ⟨#[63]⟩ else if x = 0 then ⟨#[45]⟩ else (⟨#[78, 86, 68, 73, 90, 67]⟩ : ByteArray).extract i (i + 1)
def marksUp (l : List Int) (out : ByteArray) : Nat → ByteArray
  | 0 => out
  | n + 1 => marksUp l out n ++ markB n (pAt l (5 + n))
theorem markB_size (i : Nat) (x : Int) : (markB i x).size ≤ 1 := by
  unfold markB
  split
  · exact Nat.le_refl 1
  · split
    · exact Nat.le_refl 1
    · rw [ByteArray.size_extract]; omega
theorem marksUp_size (l : List Int) (out : ByteArray) (n : Nat) : (marksUp l out n).size ≤ out.size + n := by
  induction n with
  | zero => exact Nat.le_refl _
  | succ n ih => have := markB_size n (pAt l (5 + n)); simp only [marksUp, ByteArray.size_append]; omega
def headB (d0 d1 d2 d3 d4 : ByteArray) : ByteArray := (((((((((((⟨#[65, 61]⟩ : ByteArray) ++ d0) ++ (⟨#[32, 88, 61]⟩ : ByteArray)) ++ d1) ++ (⟨#[32, 89, 61]⟩ : ByteArray)) ++ d2) ++ (⟨#[32, 83, 61]⟩ : ByteArray)) ++ d3) ++ (⟨#[32, 80, 67, 61]⟩ : ByteArray)) ++ d4) ++ (⟨#[32]⟩ : ByteArray))
def impl_KnowText.f (k : Nat) (k0 k1 k2 k3 k4 k5 k6 k7 k8 k9 k10 : Int) : Option ByteArray := if (List.range 11).all (okAt (ints k0 k1 k2 k3 k4 k5 k6 k7 k8 k9 k10)) = true then (impl_digitsOf.f k k0 2).bind fun d0 => (impl_digitsOf.f k k1 2).bind fun d1 => (impl_digitsOf.f k k2 2).bind fun d2 => (impl_digitsOf.f k k3 2).bind fun d3 => (impl_digitsOf.f k k4 4).bind fun d4 => if d0.size ≤ 100 ∧ d1.size ≤ 100 ∧ d2.size ≤ 100 ∧ d3.size ≤ 100 ∧ d4.size ≤ 100 then some (marksUp (ints k0 k1 k2 k3 k4 k5 k6 k7 k8 k9 k10) (headB d0 d1 d2 d3 d4) 6) else none else some ⟨#[]⟩
theorem impl_KnowText.mono : ∀ k0 k1 k2 k3 k4 k5 k6 k7 k8 k9 k10 k, LeO (impl_KnowText.f k k0 k1 k2 k3 k4 k5 k6 k7 k8 k9 k10) (impl_KnowText.f (k + 1) k0 k1 k2 k3 k4 k5 k6 k7 k8 k9 k10) := by
  intro k0 k1 k2 k3 k4 k5 k6 k7 k8 k9 k10 k
  unfold impl_KnowText.f
  repeat' first
      | (with_reducible exact impl_digitsOf.mono _ _ _)
      | (with_reducible exact LeO.refl _)
      | (with_reducible refine LeO.ite ?_ ?_)
      | (with_reducible refine LeO.bind ?_ (fun _ => ?_))
set_option maxHeartbeats 2000000 in
set_option maxRecDepth 100000 in
theorem impl_KnowText.calls (k : Nat) (k0 k1 k2 k3 k4 k5 k6 k7 k8 k9 k10 : Int) (r : ByteArray) (w : World) (h : impl_KnowText.f k k0 k1 k2 k3 k4 k5 k6 k7 k8 k9 k10 = some r) : Calls Try.prog 33 #[.agg #[.int .i64 k0, .int .i64 k1, .int .i64 k2, .int .i64 k3, .int .i64 k4, .int .i64 k5, .int .i64 k6, .int .i64 k7, .int .i64 k8, .int .i64 k9, .int .i64 k10]] w fun e w' => e = .returned (.string r) ∧ Below w.heap.size w w' := by
  have HB := Aside0.mk (Below.refl w.heap.size w)
  have hu66 := Try.underlying66
  have hu23 := Try.underlying23
  go_enter Try.func33, Try.ntmps33
  try go_wp2_with (first | ((with_reducible refine gate_dst (N := 1) rfl ?_); refine box_event ?hg (N := 1) ?hd (cs := #[.int .i64 k0, .int .i64 k1, .int .i64 k2, .int .i64 k3, .int .i64 k4, .int .i64 k5, .int .i64 k6, .int .i64 k7, .int .i64 k8, .int .i64 k9, .int .i64 k10]) (t := 23) ?hr ?_; (case hd => rfl); (case hg => rfl); (case hr => first | (go_simp; done) | (go_simp; rfl)); intro gb hg v1_ hbox hb; have n0_ := Aside0.mk (below_step (by repeat (first | (with_reducible first | exact HB.out | apply below_alloc | apply pw_below_drewN | apply below_drew1) | exact HB.out)) hb); have n1_ := Aside0.mk (hbox); have n2_ := Aside0.mk ((by rw [hg]; exact (below_size (by repeat (first | (with_reducible first | exact HB.out | apply below_alloc | apply pw_below_drewN | apply below_drew1) | exact HB.out))) : w.heap.size ≤ gb)); clear HB; have HB := n0_; have Bgb := n1_; have Ggb := n2_; clear n0_ n1_ n2_; clear hb hbox hg; have hcgb0 : v1_.cell? ⟨gb, 0, none⟩ = some (.int .i64 k0) := (blk_cell Bgb.out 0).trans rfl; have hfgb0 := blk_frozen Bgb.out 0; have hcgb1 : v1_.cell? ⟨gb, 1, none⟩ = some (.int .i64 k1) := (blk_cell Bgb.out 1).trans rfl; have hfgb1 := blk_frozen Bgb.out 1; have hcgb2 : v1_.cell? ⟨gb, 2, none⟩ = some (.int .i64 k2) := (blk_cell Bgb.out 2).trans rfl; have hfgb2 := blk_frozen Bgb.out 2; have hcgb3 : v1_.cell? ⟨gb, 3, none⟩ = some (.int .i64 k3) := (blk_cell Bgb.out 3).trans rfl; have hfgb3 := blk_frozen Bgb.out 3; have hcgb4 : v1_.cell? ⟨gb, 4, none⟩ = some (.int .i64 k4) := (blk_cell Bgb.out 4).trans rfl; have hfgb4 := blk_frozen Bgb.out 4; have hcgb5 : v1_.cell? ⟨gb, 5, none⟩ = some (.int .i64 k5) := (blk_cell Bgb.out 5).trans rfl; have hfgb5 := blk_frozen Bgb.out 5; have hcgb6 : v1_.cell? ⟨gb, 6, none⟩ = some (.int .i64 k6) := (blk_cell Bgb.out 6).trans rfl; have hfgb6 := blk_frozen Bgb.out 6; have hcgb7 : v1_.cell? ⟨gb, 7, none⟩ = some (.int .i64 k7) := (blk_cell Bgb.out 7).trans rfl; have hfgb7 := blk_frozen Bgb.out 7; have hcgb8 : v1_.cell? ⟨gb, 8, none⟩ = some (.int .i64 k8) := (blk_cell Bgb.out 8).trans rfl; have hfgb8 := blk_frozen Bgb.out 8; have hcgb9 : v1_.cell? ⟨gb, 9, none⟩ = some (.int .i64 k9) := (blk_cell Bgb.out 9).trans rfl; have hfgb9 := blk_frozen Bgb.out 9; have hcgb10 : v1_.cell? ⟨gb, 10, none⟩ = some (.int .i64 k10) := (blk_cell Bgb.out 10).trans rfl; have hfgb10 := blk_frozen Bgb.out 10))
  unfold impl_KnowText.f at h
  refine (impl_KnowOk.calls k0 k1 k2 k3 k4 k5 k6 k7 k8 k9 k10 ((List.range 11).all (okAt (ints k0 k1 k2 k3 k4 k5 k6 k7 k8 k9 k10))) _ rfl).mono ?_
  rintro e v2_ ⟨rfl, hb_⟩
  clear hcgb0 hfgb0 hcgb1 hfgb1 hcgb2 hfgb2 hcgb3 hfgb3 hcgb4 hfgb4 hcgb5 hfgb5 hcgb6 hfgb6 hcgb7 hfgb7 hcgb8 hfgb8 hcgb9 hfgb9 hcgb10 hfgb10
  have mgb := Aside0.mk ((hb_.block gb (blk_lt Bgb.out)).trans Bgb.out)
  have mH := Aside0.mk (below_step HB.out hb_)
  clear HB Bgb hb_
  have HB := mH
  have Bgb := mgb
  clear mH mgb
  have hcgb0 : v2_.cell? ⟨gb, 0, none⟩ = some (.int .i64 k0) := (blk_cell Bgb.out 0).trans rfl
  have hfgb0 := blk_frozen Bgb.out 0
  have hcgb1 : v2_.cell? ⟨gb, 1, none⟩ = some (.int .i64 k1) := (blk_cell Bgb.out 1).trans rfl
  have hfgb1 := blk_frozen Bgb.out 1
  have hcgb2 : v2_.cell? ⟨gb, 2, none⟩ = some (.int .i64 k2) := (blk_cell Bgb.out 2).trans rfl
  have hfgb2 := blk_frozen Bgb.out 2
  have hcgb3 : v2_.cell? ⟨gb, 3, none⟩ = some (.int .i64 k3) := (blk_cell Bgb.out 3).trans rfl
  have hfgb3 := blk_frozen Bgb.out 3
  have hcgb4 : v2_.cell? ⟨gb, 4, none⟩ = some (.int .i64 k4) := (blk_cell Bgb.out 4).trans rfl
  have hfgb4 := blk_frozen Bgb.out 4
  have hcgb5 : v2_.cell? ⟨gb, 5, none⟩ = some (.int .i64 k5) := (blk_cell Bgb.out 5).trans rfl
  have hfgb5 := blk_frozen Bgb.out 5
  have hcgb6 : v2_.cell? ⟨gb, 6, none⟩ = some (.int .i64 k6) := (blk_cell Bgb.out 6).trans rfl
  have hfgb6 := blk_frozen Bgb.out 6
  have hcgb7 : v2_.cell? ⟨gb, 7, none⟩ = some (.int .i64 k7) := (blk_cell Bgb.out 7).trans rfl
  have hfgb7 := blk_frozen Bgb.out 7
  have hcgb8 : v2_.cell? ⟨gb, 8, none⟩ = some (.int .i64 k8) := (blk_cell Bgb.out 8).trans rfl
  have hfgb8 := blk_frozen Bgb.out 8
  have hcgb9 : v2_.cell? ⟨gb, 9, none⟩ = some (.int .i64 k9) := (blk_cell Bgb.out 9).trans rfl
  have hfgb9 := blk_frozen Bgb.out 9
  have hcgb10 : v2_.cell? ⟨gb, 10, none⟩ = some (.int .i64 k10) := (blk_cell Bgb.out 10).trans rfl
  have hfgb10 := blk_frozen Bgb.out 10
  cases hall : (List.range 11).all (okAt (ints k0 k1 k2 k3 k4 k5 k6 k7 k8 k9 k10)) with
  | false =>
    rw [hall] at h
    simp only [Bool.false_eq_true, if_false, Option.some.injEq] at h
    subst h
    clear hall
    try go_wp2_with (fail)
    go_ret
    exact ⟨rfl, by repeat (first | (with_reducible first | exact HB.out | apply below_alloc | apply pw_below_drewN | apply below_drew1 | refine below_set ?_ Ggb.out) | exact HB.out)⟩
  | true =>
    rw [hall] at h
    simp only [if_true] at h
    clear hall
    obtain ⟨d0, hd0, h⟩ := Option.bind_eq_some_iff.mp h
    have HD0 := Aside0.mk hd0
    clear hd0
    obtain ⟨d1, hd1, h⟩ := Option.bind_eq_some_iff.mp h
    have HD1 := Aside0.mk hd1
    clear hd1
    obtain ⟨d2, hd2, h⟩ := Option.bind_eq_some_iff.mp h
    have HD2 := Aside0.mk hd2
    clear hd2
    obtain ⟨d3, hd3, h⟩ := Option.bind_eq_some_iff.mp h
    have HD3 := Aside0.mk hd3
    clear hd3
    obtain ⟨d4, hd4, h⟩ := Option.bind_eq_some_iff.mp h
    have HD4 := Aside0.mk hd4
    clear hd4
    split at h
    case isFalse => exact absurd h (by simp)
    rename_i hsz
    obtain ⟨z0, z1, z2, z3, z4⟩ := hsz
    have hr := Aside0.mk (Option.some.inj h)
    clear h
    try go_wp2_with (fail)
    clear hcgb0 hfgb0 hcgb1 hfgb1 hcgb2 hfgb2 hcgb3 hfgb3 hcgb4 hfgb4 hcgb5 hfgb5 hcgb6 hfgb6 hcgb7 hfgb7 hcgb8 hfgb8 hcgb9 hfgb9 hcgb10 hfgb10
    have mgb := Aside0.mk (blk_drew Bgb.out)
    have mH := Aside0.mk (below_drew1 HB.out)
    clear HB Bgb
    have HB := mH
    have Bgb := mgb
    clear mH mgb
    refine start_ (n := 26) (S := fun w' => w'.cell? ⟨gb, 0, none⟩ = some (.int .i64 k0) ∧ w'.cell? ⟨gb, 1, none⟩ = some (.int .i64 k1) ∧ w'.cell? ⟨gb, 2, none⟩ = some (.int .i64 k2) ∧ w'.cell? ⟨gb, 3, none⟩ = some (.int .i64 k3) ∧ w'.cell? ⟨gb, 4, none⟩ = some (.int .i64 k4)) (ds := []) #[false, false, false, false, false, false, false, false, false, false, false, false, false, false, false, false, false, false, false, false, false, false, false, false, false, false] (by kernel_rfl) rfl rfl ⟨(blk_cell Bgb.out 0).trans rfl, (blk_cell Bgb.out 1).trans rfl, (blk_cell Bgb.out 2).trans rfl, (blk_cell Bgb.out 3).trans rfl, (blk_cell Bgb.out 4).trans rfl⟩ (fun hHeld => ?_)
    generalize v2_.drew = v3_ at HB hHeld Bgb ⊢
    refine take_ (i := 0) (N := some 10) (v := ?_) (a' := ?_) #[true, false, false, false, false, false, false, false, false, false, false, false, false, false, false, false, false, false, false, false, false, false, false, false, false, false] rfl rfl (by kernel_rfl) (fun _ _ _ h => h) (Or.inl ⟨by rfl, ?_⟩) hHeld ?_ ?_
    rotate_left
    · rintro w' ⟨s0, s1, s2, s3, s4⟩
      go_simp
      with_reducible rfl
    rotate_left
    · simp only [Act.put, List.setIfInBounds_toArray, List.set_cons_zero, List.set_cons_succ, i64_w, i32_w]
      rfl
    refine take_ (i := 1) (N := some 11) (v := ?_) (a' := ?_) #[true, true, false, false, false, false, false, false, false, false, false, false, false, false, false, false, false, false, false, false, false, false, false, false, false, false] rfl rfl (by kernel_rfl) (fun _ _ _ h => h) (Or.inl ⟨by rfl, ?_⟩) hHeld ?_ ?_
    rotate_left
    · rintro w' ⟨s0, s1, s2, s3, s4⟩
      go_simp
      with_reducible rfl
    rotate_left
    · simp only [Act.put, List.setIfInBounds_toArray, List.set_cons_zero, List.set_cons_succ, i64_w, i32_w]
      rfl
    refine take_ (i := 5) (N := some 15) (v := ?_) (a' := ?_) #[true, true, false, false, false, true, false, false, false, false, false, false, false, false, false, false, false, false, false, false, false, false, false, false, false, false] rfl rfl (by kernel_rfl) (fun _ _ _ h => h) (Or.inl ⟨by rfl, ?_⟩) hHeld ?_ ?_
    rotate_left
    · rintro w' ⟨s0, s1, s2, s3, s4⟩
      go_simp
      with_reducible rfl
    rotate_left
    · simp only [Act.put, List.setIfInBounds_toArray, List.set_cons_zero, List.set_cons_succ, i64_w, i32_w]
      rfl
    refine take_ (i := 6) (N := some 16) (v := ?_) (a' := ?_) #[true, true, false, false, false, true, true, false, false, false, false, false, false, false, false, false, false, false, false, false, false, false, false, false, false, false] rfl rfl (by kernel_rfl) (fun _ _ _ h => h) (Or.inl ⟨by rfl, ?_⟩) hHeld ?_ ?_
    rotate_left
    · rintro w' ⟨s0, s1, s2, s3, s4⟩
      go_simp
      with_reducible rfl
    rotate_left
    · simp only [Act.put, List.setIfInBounds_toArray, List.set_cons_zero, List.set_cons_succ, i64_w, i32_w]
      rfl
    refine take_ (i := 10) (N := some 20) (v := ?_) (a' := ?_) #[true, true, false, false, false, true, true, false, false, false, true, false, false, false, false, false, false, false, false, false, false, false, false, false, false, false] rfl rfl (by kernel_rfl) (fun _ _ _ h => h) (Or.inl ⟨by rfl, ?_⟩) hHeld ?_ ?_
    rotate_left
    · rintro w' ⟨s0, s1, s2, s3, s4⟩
      go_simp
      with_reducible rfl
    rotate_left
    · simp only [Act.put, List.setIfInBounds_toArray, List.set_cons_zero, List.set_cons_succ, i64_w, i32_w]
      rfl
    refine take_ (i := 11) (N := some 21) (v := ?_) (a' := ?_) #[true, true, false, false, false, true, true, false, false, false, true, true, false, false, false, false, false, false, false, false, false, false, false, false, false, false] rfl rfl (by kernel_rfl) (fun _ _ _ h => h) (Or.inl ⟨by rfl, ?_⟩) hHeld ?_ ?_
    rotate_left
    · rintro w' ⟨s0, s1, s2, s3, s4⟩
      go_simp
      with_reducible rfl
    rotate_left
    · simp only [Act.put, List.setIfInBounds_toArray, List.set_cons_zero, List.set_cons_succ, i64_w, i32_w]
      rfl
    refine take_ (i := 15) (N := some 25) (v := ?_) (a' := ?_) #[true, true, false, false, false, true, true, false, false, false, true, true, false, false, false, true, false, false, false, false, false, false, false, false, false, false] rfl rfl (by kernel_rfl) (fun _ _ _ h => h) (Or.inl ⟨by rfl, ?_⟩) hHeld ?_ ?_
    rotate_left
    · rintro w' ⟨s0, s1, s2, s3, s4⟩
      go_simp
      with_reducible rfl
    rotate_left
    · simp only [Act.put, List.setIfInBounds_toArray, List.set_cons_zero, List.set_cons_succ, i64_w, i32_w]
      rfl
    refine take_ (i := 16) (N := some 26) (v := ?_) (a' := ?_) #[true, true, false, false, false, true, true, false, false, false, true, true, false, false, false, true, true, false, false, false, false, false, false, false, false, false] rfl rfl (by kernel_rfl) (fun _ _ _ h => h) (Or.inl ⟨by rfl, ?_⟩) hHeld ?_ ?_
    rotate_left
    · rintro w' ⟨s0, s1, s2, s3, s4⟩
      go_simp
      with_reducible rfl
    rotate_left
    · simp only [Act.put, List.setIfInBounds_toArray, List.set_cons_zero, List.set_cons_succ, i64_w, i32_w]
      rfl
    refine take_ (i := 20) (N := some 30) (v := ?_) (a' := ?_) #[true, true, false, false, false, true, true, false, false, false, true, true, false, false, false, true, true, false, false, false, true, false, false, false, false, false] rfl rfl (by kernel_rfl) (fun _ _ _ h => h) (Or.inl ⟨by rfl, ?_⟩) hHeld ?_ ?_
    rotate_left
    · rintro w' ⟨s0, s1, s2, s3, s4⟩
      go_simp
      with_reducible rfl
    rotate_left
    · simp only [Act.put, List.setIfInBounds_toArray, List.set_cons_zero, List.set_cons_succ, i64_w, i32_w]
      rfl
    refine take_ (i := 21) (N := some 31) (v := ?_) (a' := ?_) #[true, true, false, false, false, true, true, false, false, false, true, true, false, false, false, true, true, false, false, false, true, true, false, false, false, false] rfl rfl (by kernel_rfl) (fun _ _ _ h => h) (Or.inl ⟨by rfl, ?_⟩) hHeld ?_ ?_
    rotate_left
    · rintro w' ⟨s0, s1, s2, s3, s4⟩
      go_simp
      with_reducible rfl
    rotate_left
    · simp only [Act.put, List.setIfInBounds_toArray, List.set_cons_zero, List.set_cons_succ, i64_w, i32_w]
      rfl
    refine one_ (i := 2) (N := some 12) #[true, true, true, false, false, true, true, false, false, false, true, true, false, false, false, true, true, false, false, false, true, true, false, false, false, false] rfl rfl (by kernel_rfl) (by decide) (fun K hK => ?_)
    refine goes_ Try.func55 (by kernel_rfl) rfl #[.int .i64 k0, .int .i64 2] (by rfl) rfl rfl (by (try simp only [List.map_toArray, List.map_cons, List.map_nil]); first | done | rfl | (simp only [List.length_drop, List.length_take]; rfl)) ?_
    with_reducible refine (impl_digitsOf.calls k k0 2 d0 _ HD0.out).mono ?_
    rintro e v4_ ⟨rfl, hb_⟩
    refine ⟨_, rfl, ?_⟩
    have mgb := Aside0.mk ((hb_.block gb (blk_lt Bgb.out)).trans Bgb.out)
    have mH := Aside0.mk (below_step HB.out hb_)
    clear HB Bgb hb_
    have HB := mH
    have Bgb := mgb
    clear mH mgb
    clear hHeld
    have hHeld : v4_.cell? ⟨gb, 0, none⟩ = some (.int .i64 k0) ∧ v4_.cell? ⟨gb, 1, none⟩ = some (.int .i64 k1) ∧ v4_.cell? ⟨gb, 2, none⟩ = some (.int .i64 k2) ∧ v4_.cell? ⟨gb, 3, none⟩ = some (.int .i64 k3) ∧ v4_.cell? ⟨gb, 4, none⟩ = some (.int .i64 k4) := ⟨(blk_cell Bgb.out 0).trans rfl, (blk_cell Bgb.out 1).trans rfl, (blk_cell Bgb.out 2).trans rfl, (blk_cell Bgb.out 3).trans rfl, (blk_cell Bgb.out 4).trans rfl⟩
    refine hK.out _ _ hHeld (fun _ => ?_)
    clear hK K
    refine norm_ (a' := ?_) ?_ ?_
    rotate_left
    · show Act.put _ (some 12) _ = _
      simp only [Act.put, List.setIfInBounds_toArray, List.set_cons_zero, List.set_cons_succ, i64_w, i32_w]
      rfl
    have sa00 : (9223372036854775807 < 2 + d0.size) = False := eq_false (by omega)
    have sb00 : decide (2 + d0.size ≤ 9223372036854775807) = true := decide_eq_true (by omega)
    have sa01 : (9223372036854775807 < 2 + d0.size + 3) = False := eq_false (by omega)
    have sb01 : decide (2 + d0.size + 3 ≤ 9223372036854775807) = true := decide_eq_true (by omega)
    refine pure_ (i := 3) (N := some 13) (v := ?_) (a' := ?_) #[true, true, true, true, false, true, true, false, false, false, true, true, false, false, false, true, true, false, false, false, true, true, false, false, false, false] rfl rfl (by kernel_rfl) (fun _ _ _ h => h) (Or.inl ⟨by rfl, ?_⟩) ?_ ?_
    rotate_left
    · intro w'
      go_simp
      with_reducible rfl
    rotate_left
    · simp only [Act.put, List.setIfInBounds_toArray, List.set_cons_zero, List.set_cons_succ, i64_w, i32_w]
      rfl
    refine pure_ (i := 4) (N := some 14) (v := ?_) (a' := ?_) #[true, true, true, true, true, true, true, false, false, false, true, true, false, false, false, true, true, false, false, false, true, true, false, false, false, false] rfl rfl (by kernel_rfl) (fun _ _ _ h => h) (Or.inl ⟨by rfl, ?_⟩) ?_ ?_
    rotate_left
    · intro w'
      go_simp
      with_reducible rfl
    rotate_left
    · simp only [Act.put, List.setIfInBounds_toArray, List.set_cons_zero, List.set_cons_succ, i64_w, i32_w]
      rfl
    refine one_ (i := 7) (N := some 17) #[true, true, true, true, true, true, true, true, false, false, true, true, false, false, false, true, true, false, false, false, true, true, false, false, false, false] rfl rfl (by kernel_rfl) (by decide) (fun K hK => ?_)
    refine goes_ Try.func55 (by kernel_rfl) rfl #[.int .i64 k1, .int .i64 2] (by rfl) rfl rfl (by (try simp only [List.map_toArray, List.map_cons, List.map_nil]); first | done | rfl | (simp only [List.length_drop, List.length_take]; rfl)) ?_
    with_reducible refine (impl_digitsOf.calls k k1 2 d1 _ HD1.out).mono ?_
    rintro e v5_ ⟨rfl, hb_⟩
    refine ⟨_, rfl, ?_⟩
    have mgb := Aside0.mk ((hb_.block gb (blk_lt Bgb.out)).trans Bgb.out)
    have mH := Aside0.mk (below_step HB.out hb_)
    clear HB Bgb hb_
    have HB := mH
    have Bgb := mgb
    clear mH mgb
    clear hHeld
    have hHeld : v5_.cell? ⟨gb, 0, none⟩ = some (.int .i64 k0) ∧ v5_.cell? ⟨gb, 1, none⟩ = some (.int .i64 k1) ∧ v5_.cell? ⟨gb, 2, none⟩ = some (.int .i64 k2) ∧ v5_.cell? ⟨gb, 3, none⟩ = some (.int .i64 k3) ∧ v5_.cell? ⟨gb, 4, none⟩ = some (.int .i64 k4) := ⟨(blk_cell Bgb.out 0).trans rfl, (blk_cell Bgb.out 1).trans rfl, (blk_cell Bgb.out 2).trans rfl, (blk_cell Bgb.out 3).trans rfl, (blk_cell Bgb.out 4).trans rfl⟩
    refine hK.out _ _ hHeld (fun _ => ?_)
    clear hK K
    refine norm_ (a' := ?_) ?_ ?_
    rotate_left
    · show Act.put _ (some 17) _ = _
      simp only [Act.put, List.setIfInBounds_toArray, List.set_cons_zero, List.set_cons_succ, i64_w, i32_w]
      rfl
    have sa10 : (9223372036854775807 < 2 + d0.size + 3 + d1.size) = False := eq_false (by omega)
    have sb10 : decide (2 + d0.size + 3 + d1.size ≤ 9223372036854775807) = true := decide_eq_true (by omega)
    have sa11 : (9223372036854775807 < 2 + d0.size + 3 + d1.size + 3) = False := eq_false (by omega)
    have sb11 : decide (2 + d0.size + 3 + d1.size + 3 ≤ 9223372036854775807) = true := decide_eq_true (by omega)
    refine pure_ (i := 8) (N := some 18) (v := ?_) (a' := ?_) #[true, true, true, true, true, true, true, true, true, false, true, true, false, false, false, true, true, false, false, false, true, true, false, false, false, false] rfl rfl (by kernel_rfl) (fun _ _ _ h => h) (Or.inl ⟨by rfl, ?_⟩) ?_ ?_
    rotate_left
    · intro w'
      go_simp
      with_reducible rfl
    rotate_left
    · simp only [Act.put, List.setIfInBounds_toArray, List.set_cons_zero, List.set_cons_succ, i64_w, i32_w]
      rfl
    refine pure_ (i := 9) (N := some 19) (v := ?_) (a' := ?_) #[true, true, true, true, true, true, true, true, true, true, true, true, false, false, false, true, true, false, false, false, true, true, false, false, false, false] rfl rfl (by kernel_rfl) (fun _ _ _ h => h) (Or.inl ⟨by rfl, ?_⟩) ?_ ?_
    rotate_left
    · intro w'
      go_simp
      with_reducible rfl
    rotate_left
    · simp only [Act.put, List.setIfInBounds_toArray, List.set_cons_zero, List.set_cons_succ, i64_w, i32_w]
      rfl
    refine one_ (i := 12) (N := some 22) #[true, true, true, true, true, true, true, true, true, true, true, true, true, false, false, true, true, false, false, false, true, true, false, false, false, false] rfl rfl (by kernel_rfl) (by decide) (fun K hK => ?_)
    refine goes_ Try.func55 (by kernel_rfl) rfl #[.int .i64 k2, .int .i64 2] (by rfl) rfl rfl (by (try simp only [List.map_toArray, List.map_cons, List.map_nil]); first | done | rfl | (simp only [List.length_drop, List.length_take]; rfl)) ?_
    with_reducible refine (impl_digitsOf.calls k k2 2 d2 _ HD2.out).mono ?_
    rintro e v6_ ⟨rfl, hb_⟩
    refine ⟨_, rfl, ?_⟩
    have mgb := Aside0.mk ((hb_.block gb (blk_lt Bgb.out)).trans Bgb.out)
    have mH := Aside0.mk (below_step HB.out hb_)
    clear HB Bgb hb_
    have HB := mH
    have Bgb := mgb
    clear mH mgb
    clear hHeld
    have hHeld : v6_.cell? ⟨gb, 0, none⟩ = some (.int .i64 k0) ∧ v6_.cell? ⟨gb, 1, none⟩ = some (.int .i64 k1) ∧ v6_.cell? ⟨gb, 2, none⟩ = some (.int .i64 k2) ∧ v6_.cell? ⟨gb, 3, none⟩ = some (.int .i64 k3) ∧ v6_.cell? ⟨gb, 4, none⟩ = some (.int .i64 k4) := ⟨(blk_cell Bgb.out 0).trans rfl, (blk_cell Bgb.out 1).trans rfl, (blk_cell Bgb.out 2).trans rfl, (blk_cell Bgb.out 3).trans rfl, (blk_cell Bgb.out 4).trans rfl⟩
    refine hK.out _ _ hHeld (fun _ => ?_)
    clear hK K
    refine norm_ (a' := ?_) ?_ ?_
    rotate_left
    · show Act.put _ (some 22) _ = _
      simp only [Act.put, List.setIfInBounds_toArray, List.set_cons_zero, List.set_cons_succ, i64_w, i32_w]
      rfl
    have sa20 : (9223372036854775807 < 2 + d0.size + 3 + d1.size + 3 + d2.size) = False := eq_false (by omega)
    have sb20 : decide (2 + d0.size + 3 + d1.size + 3 + d2.size ≤ 9223372036854775807) = true := decide_eq_true (by omega)
    have sa21 : (9223372036854775807 < 2 + d0.size + 3 + d1.size + 3 + d2.size + 3) = False := eq_false (by omega)
    have sb21 : decide (2 + d0.size + 3 + d1.size + 3 + d2.size + 3 ≤ 9223372036854775807) = true := decide_eq_true (by omega)
    refine pure_ (i := 13) (N := some 23) (v := ?_) (a' := ?_) #[true, true, true, true, true, true, true, true, true, true, true, true, true, true, false, true, true, false, false, false, true, true, false, false, false, false] rfl rfl (by kernel_rfl) (fun _ _ _ h => h) (Or.inl ⟨by rfl, ?_⟩) ?_ ?_
    rotate_left
    · intro w'
      go_simp
      with_reducible rfl
    rotate_left
    · simp only [Act.put, List.setIfInBounds_toArray, List.set_cons_zero, List.set_cons_succ, i64_w, i32_w]
      rfl
    refine pure_ (i := 14) (N := some 24) (v := ?_) (a' := ?_) #[true, true, true, true, true, true, true, true, true, true, true, true, true, true, true, true, true, false, false, false, true, true, false, false, false, false] rfl rfl (by kernel_rfl) (fun _ _ _ h => h) (Or.inl ⟨by rfl, ?_⟩) ?_ ?_
    rotate_left
    · intro w'
      go_simp
      with_reducible rfl
    rotate_left
    · simp only [Act.put, List.setIfInBounds_toArray, List.set_cons_zero, List.set_cons_succ, i64_w, i32_w]
      rfl
    refine one_ (i := 17) (N := some 27) #[true, true, true, true, true, true, true, true, true, true, true, true, true, true, true, true, true, true, false, false, true, true, false, false, false, false] rfl rfl (by kernel_rfl) (by decide) (fun K hK => ?_)
    refine goes_ Try.func55 (by kernel_rfl) rfl #[.int .i64 k3, .int .i64 2] (by rfl) rfl rfl (by (try simp only [List.map_toArray, List.map_cons, List.map_nil]); first | done | rfl | (simp only [List.length_drop, List.length_take]; rfl)) ?_
    with_reducible refine (impl_digitsOf.calls k k3 2 d3 _ HD3.out).mono ?_
    rintro e v7_ ⟨rfl, hb_⟩
    refine ⟨_, rfl, ?_⟩
    have mgb := Aside0.mk ((hb_.block gb (blk_lt Bgb.out)).trans Bgb.out)
    have mH := Aside0.mk (below_step HB.out hb_)
    clear HB Bgb hb_
    have HB := mH
    have Bgb := mgb
    clear mH mgb
    clear hHeld
    have hHeld : v7_.cell? ⟨gb, 0, none⟩ = some (.int .i64 k0) ∧ v7_.cell? ⟨gb, 1, none⟩ = some (.int .i64 k1) ∧ v7_.cell? ⟨gb, 2, none⟩ = some (.int .i64 k2) ∧ v7_.cell? ⟨gb, 3, none⟩ = some (.int .i64 k3) ∧ v7_.cell? ⟨gb, 4, none⟩ = some (.int .i64 k4) := ⟨(blk_cell Bgb.out 0).trans rfl, (blk_cell Bgb.out 1).trans rfl, (blk_cell Bgb.out 2).trans rfl, (blk_cell Bgb.out 3).trans rfl, (blk_cell Bgb.out 4).trans rfl⟩
    refine hK.out _ _ hHeld (fun _ => ?_)
    clear hK K
    refine norm_ (a' := ?_) ?_ ?_
    rotate_left
    · show Act.put _ (some 27) _ = _
      simp only [Act.put, List.setIfInBounds_toArray, List.set_cons_zero, List.set_cons_succ, i64_w, i32_w]
      rfl
    have sa30 : (9223372036854775807 < 2 + d0.size + 3 + d1.size + 3 + d2.size + 3 + d3.size) = False := eq_false (by omega)
    have sb30 : decide (2 + d0.size + 3 + d1.size + 3 + d2.size + 3 + d3.size ≤ 9223372036854775807) = true := decide_eq_true (by omega)
    have sa31 : (9223372036854775807 < 2 + d0.size + 3 + d1.size + 3 + d2.size + 3 + d3.size + 4) = False := eq_false (by omega)
    have sb31 : decide (2 + d0.size + 3 + d1.size + 3 + d2.size + 3 + d3.size + 4 ≤ 9223372036854775807) = true := decide_eq_true (by omega)
    refine pure_ (i := 18) (N := some 28) (v := ?_) (a' := ?_) #[true, true, true, true, true, true, true, true, true, true, true, true, true, true, true, true, true, true, true, false, true, true, false, false, false, false] rfl rfl (by kernel_rfl) (fun _ _ _ h => h) (Or.inl ⟨by rfl, ?_⟩) ?_ ?_
    rotate_left
    · intro w'
      go_simp
      with_reducible rfl
    rotate_left
    · simp only [Act.put, List.setIfInBounds_toArray, List.set_cons_zero, List.set_cons_succ, i64_w, i32_w]
      rfl
    refine pure_ (i := 19) (N := some 29) (v := ?_) (a' := ?_) #[true, true, true, true, true, true, true, true, true, true, true, true, true, true, true, true, true, true, true, true, true, true, false, false, false, false] rfl rfl (by kernel_rfl) (fun _ _ _ h => h) (Or.inl ⟨by rfl, ?_⟩) ?_ ?_
    rotate_left
    · intro w'
      go_simp
      with_reducible rfl
    rotate_left
    · simp only [Act.put, List.setIfInBounds_toArray, List.set_cons_zero, List.set_cons_succ, i64_w, i32_w]
      rfl
    refine one_ (i := 22) (N := some 32) #[true, true, true, true, true, true, true, true, true, true, true, true, true, true, true, true, true, true, true, true, true, true, true, false, false, false] rfl rfl (by kernel_rfl) (by decide) (fun K hK => ?_)
    refine goes_ Try.func55 (by kernel_rfl) rfl #[.int .i64 k4, .int .i64 4] (by rfl) rfl rfl (by (try simp only [List.map_toArray, List.map_cons, List.map_nil]); first | done | rfl | (simp only [List.length_drop, List.length_take]; rfl)) ?_
    with_reducible refine (impl_digitsOf.calls k k4 4 d4 _ HD4.out).mono ?_
    rintro e v8_ ⟨rfl, hb_⟩
    refine ⟨_, rfl, ?_⟩
    have mgb := Aside0.mk ((hb_.block gb (blk_lt Bgb.out)).trans Bgb.out)
    have mH := Aside0.mk (below_step HB.out hb_)
    clear HB Bgb hb_
    have HB := mH
    have Bgb := mgb
    clear mH mgb
    clear hHeld
    have hHeld : v8_.cell? ⟨gb, 0, none⟩ = some (.int .i64 k0) ∧ v8_.cell? ⟨gb, 1, none⟩ = some (.int .i64 k1) ∧ v8_.cell? ⟨gb, 2, none⟩ = some (.int .i64 k2) ∧ v8_.cell? ⟨gb, 3, none⟩ = some (.int .i64 k3) ∧ v8_.cell? ⟨gb, 4, none⟩ = some (.int .i64 k4) := ⟨(blk_cell Bgb.out 0).trans rfl, (blk_cell Bgb.out 1).trans rfl, (blk_cell Bgb.out 2).trans rfl, (blk_cell Bgb.out 3).trans rfl, (blk_cell Bgb.out 4).trans rfl⟩
    refine hK.out _ _ hHeld (fun _ => ?_)
    clear hK K
    refine norm_ (a' := ?_) ?_ ?_
    rotate_left
    · show Act.put _ (some 32) _ = _
      simp only [Act.put, List.setIfInBounds_toArray, List.set_cons_zero, List.set_cons_succ, i64_w, i32_w]
      rfl
    have sa40 : (9223372036854775807 < 2 + d0.size + 3 + d1.size + 3 + d2.size + 3 + d3.size + 4 + d4.size) = False := eq_false (by omega)
    have sb40 : decide (2 + d0.size + 3 + d1.size + 3 + d2.size + 3 + d3.size + 4 + d4.size ≤ 9223372036854775807) = true := decide_eq_true (by omega)
    have sa41 : (9223372036854775807 < 2 + d0.size + 3 + d1.size + 3 + d2.size + 3 + d3.size + 4 + d4.size + 1) = False := eq_false (by omega)
    have sb41 : decide (2 + d0.size + 3 + d1.size + 3 + d2.size + 3 + d3.size + 4 + d4.size + 1 ≤ 9223372036854775807) = true := decide_eq_true (by omega)
    refine pure_ (i := 23) (N := some 33) (v := ?_) (a' := ?_) #[true, true, true, true, true, true, true, true, true, true, true, true, true, true, true, true, true, true, true, true, true, true, true, true, false, false] rfl rfl (by kernel_rfl) (fun _ _ _ h => h) (Or.inl ⟨by rfl, ?_⟩) ?_ ?_
    rotate_left
    · intro w'
      go_simp
      with_reducible rfl
    rotate_left
    · simp only [Act.put, List.setIfInBounds_toArray, List.set_cons_zero, List.set_cons_succ, i64_w, i32_w]
      rfl
    refine pure_ (i := 24) (N := some 34) (v := ?_) (a' := ?_) #[true, true, true, true, true, true, true, true, true, true, true, true, true, true, true, true, true, true, true, true, true, true, true, true, true, false] rfl rfl (by kernel_rfl) (fun _ _ _ h => h) (Or.inl ⟨by rfl, ?_⟩) ?_ ?_
    rotate_left
    · intro w'
      go_simp
      with_reducible rfl
    rotate_left
    · simp only [Act.put, List.setIfInBounds_toArray, List.set_cons_zero, List.set_cons_succ, i64_w, i32_w]
      rfl
    refine pure_ (i := 25) (N := some 3) (v := ?_) (a' := ?_) #[true, true, true, true, true, true, true, true, true, true, true, true, true, true, true, true, true, true, true, true, true, true, true, true, true, true] rfl rfl (by kernel_rfl) (fun _ _ _ h => h) (Or.inl ⟨by rfl, ?_⟩) ?_ ?_
    rotate_left
    · intro w'
      go_simp
      with_reducible rfl
    rotate_left
    · simp only [Act.put, List.setIfInBounds_toArray, List.set_cons_zero, List.set_cons_succ, i64_w, i32_w]
      rfl
    refine done_ (by kernel_rfl) ?_
    clear hHeld
    try go_wp2_with (fail)
    have hHs : (headB d0 d1 d2 d3 d4).size ≤ 516 := by
      have e0 : (⟨#[65, 61]⟩ : ByteArray).size = 2 := rfl
      have e1 : (⟨#[32, 88, 61]⟩ : ByteArray).size = 3 := rfl
      have e2 : (⟨#[32, 89, 61]⟩ : ByteArray).size = 3 := rfl
      have e3 : (⟨#[32, 83, 61]⟩ : ByteArray).size = 3 := rfl
      have e4 : (⟨#[32, 80, 67, 61]⟩ : ByteArray).size = 4 := rfl
      have e5 : (⟨#[32]⟩ : ByteArray).size = 1 := rfl
      simp only [headB, ByteArray.size_append]
      omega
    generalize hHd : (((((((((((⟨#[65, 61]⟩ : ByteArray) ++ d0) ++ (⟨#[32, 88, 61]⟩ : ByteArray)) ++ d1) ++ (⟨#[32, 89, 61]⟩ : ByteArray)) ++ d2) ++ (⟨#[32, 83, 61]⟩ : ByteArray)) ++ d3) ++ (⟨#[32, 80, 67, 61]⟩ : ByteArray)) ++ d4) ++ (⟨#[32]⟩ : ByteArray)) = H at *
    replace hHs : H.size ≤ 516 := by rw [← hHd]; exact hHs
    replace hr := Aside0.mk ((by rw [← hHd]; exact hr.out) : marksUp (ints k0 k1 k2 k3 k4 k5 k6 k7 k8 k9 k10) H 6 = r)
    clear hHd
    clear HD0 z0 HD1 z1 HD2 z2 HD3 z3 HD4 z4
    try clear sa00 sb00 sa01 sb01 sa10 sb10 sa11 sb11 sa20 sb20 sa21 sb21 sa30 sb30 sa31 sb31 sa40 sb40 sa41 sb41
    refine (fields_calls gb _).mono ?_
    rintro e v9_ ⟨rfl, hb_⟩
    have mgb := Aside0.mk ((hb_.block gb (blk_lt Bgb.out)).trans Bgb.out)
    have mH := Aside0.mk (below_step HB.out hb_)
    clear HB Bgb hb_
    have HB := mH
    have Bgb := mgb
    clear mH mgb
    unfold ptrs
    try go_wp2_with (first | ((with_reducible refine gate_dst (N := 4) rfl ?_); refine box_event ?hg (N := 4) ?hd (cs := #[.pointer none, .pointer none, .pointer none, .pointer none, .pointer none, .pointer none, .pointer none, .pointer none, .pointer none, .pointer none, .pointer none]) (t := 66) ?hr ?_; (case hd => rfl); (case hg => rfl); (case hr => first | (go_simp; done) | (go_simp; rfl)); intro ga hg v10_ hbox hb; have mgb := Aside0.mk ((hb.block _ (blk_lt Bgb.out)).trans Bgb.out); have NEga_gb := Aside0.mk (show ga ≠ gb from by rw [hg]; exact Nat.ne_of_gt (blk_lt Bgb.out)); clear Bgb; have Bgb := mgb; clear mgb; have n0_ := Aside0.mk (below_step (by repeat (first | (with_reducible first | exact HB.out | apply below_alloc | apply pw_below_drewN | apply below_drew1) | exact HB.out)) hb); have n1_ := Aside0.mk (hbox); have n2_ := Aside0.mk ((by rw [hg]; exact (below_size (by repeat (first | (with_reducible first | exact HB.out | apply below_alloc | apply pw_below_drewN | apply below_drew1) | exact HB.out))) : w.heap.size ≤ ga)); clear HB; have HB := n0_; have Bga := n1_; have Gga := n2_; clear n0_ n1_ n2_; clear hb hbox hg; have hcga0 : v10_.cell? ⟨ga, 0, none⟩ = some (.pointer none) := (blk_cell Bga.out 0).trans rfl; have hfga0 := blk_frozen Bga.out 0; have hcga1 : v10_.cell? ⟨ga, 1, none⟩ = some (.pointer none) := (blk_cell Bga.out 1).trans rfl; have hfga1 := blk_frozen Bga.out 1; have hcga2 : v10_.cell? ⟨ga, 2, none⟩ = some (.pointer none) := (blk_cell Bga.out 2).trans rfl; have hfga2 := blk_frozen Bga.out 2; have hcga3 : v10_.cell? ⟨ga, 3, none⟩ = some (.pointer none) := (blk_cell Bga.out 3).trans rfl; have hfga3 := blk_frozen Bga.out 3; have hcga4 : v10_.cell? ⟨ga, 4, none⟩ = some (.pointer none) := (blk_cell Bga.out 4).trans rfl; have hfga4 := blk_frozen Bga.out 4; have hcga5 : v10_.cell? ⟨ga, 5, none⟩ = some (.pointer none) := (blk_cell Bga.out 5).trans rfl; have hfga5 := blk_frozen Bga.out 5; have hcga6 : v10_.cell? ⟨ga, 6, none⟩ = some (.pointer none) := (blk_cell Bga.out 6).trans rfl; have hfga6 := blk_frozen Bga.out 6; have hcga7 : v10_.cell? ⟨ga, 7, none⟩ = some (.pointer none) := (blk_cell Bga.out 7).trans rfl; have hfga7 := blk_frozen Bga.out 7; have hcga8 : v10_.cell? ⟨ga, 8, none⟩ = some (.pointer none) := (blk_cell Bga.out 8).trans rfl; have hfga8 := blk_frozen Bga.out 8; have hcga9 : v10_.cell? ⟨ga, 9, none⟩ = some (.pointer none) := (blk_cell Bga.out 9).trans rfl; have hfga9 := blk_frozen Bga.out 9; have hcga10 : v10_.cell? ⟨ga, 10, none⟩ = some (.pointer none) := (blk_cell Bga.out 10).trans rfl; have hfga10 := blk_frozen Bga.out 10))
    clear hcga0 hfga0 hcga1 hfga1 hcga2 hfga2 hcga3 hfga3 hcga4 hfga4 hcga5 hfga5 hcga6 hfga6 hcga7 hfga7 hcga8 hfga8 hcga9 hfga9 hcga10 hfga10
    have mga := Aside0.mk (show ((((((((((((v10_).setCell ⟨ga, 0, none⟩ (.pointer (some ⟨gb, 0, none⟩))).setCell ⟨ga, 1, none⟩ (.pointer (some ⟨gb, 1, none⟩))).setCell ⟨ga, 2, none⟩ (.pointer (some ⟨gb, 2, none⟩))).setCell ⟨ga, 3, none⟩ (.pointer (some ⟨gb, 3, none⟩))).setCell ⟨ga, 4, none⟩ (.pointer (some ⟨gb, 4, none⟩))).setCell ⟨ga, 5, none⟩ (.pointer (some ⟨gb, 5, none⟩))).setCell ⟨ga, 6, none⟩ (.pointer (some ⟨gb, 6, none⟩))).setCell ⟨ga, 7, none⟩ (.pointer (some ⟨gb, 7, none⟩))).setCell ⟨ga, 8, none⟩ (.pointer (some ⟨gb, 8, none⟩))).setCell ⟨ga, 9, none⟩ (.pointer (some ⟨gb, 9, none⟩))).setCell ⟨ga, 10, none⟩ (.pointer (some ⟨gb, 10, none⟩))).heap[ga]? = some (.cells #[.pointer (some ⟨gb, 0, none⟩), .pointer (some ⟨gb, 1, none⟩), .pointer (some ⟨gb, 2, none⟩), .pointer (some ⟨gb, 3, none⟩), .pointer (some ⟨gb, 4, none⟩), .pointer (some ⟨gb, 5, none⟩), .pointer (some ⟨gb, 6, none⟩), .pointer (some ⟨gb, 7, none⟩), .pointer (some ⟨gb, 8, none⟩), .pointer (some ⟨gb, 9, none⟩), .pointer (some ⟨gb, 10, none⟩)] 66 (0, 0)) from (by refine blk_put (cs := #[.pointer (some ⟨gb, 0, none⟩), .pointer (some ⟨gb, 1, none⟩), .pointer (some ⟨gb, 2, none⟩), .pointer (some ⟨gb, 3, none⟩), .pointer (some ⟨gb, 4, none⟩), .pointer (some ⟨gb, 5, none⟩), .pointer (some ⟨gb, 6, none⟩), .pointer (some ⟨gb, 7, none⟩), .pointer (some ⟨gb, 8, none⟩), .pointer (some ⟨gb, 9, none⟩), .pointer none]) ?_ 10 _ rfl; refine blk_put (cs := #[.pointer (some ⟨gb, 0, none⟩), .pointer (some ⟨gb, 1, none⟩), .pointer (some ⟨gb, 2, none⟩), .pointer (some ⟨gb, 3, none⟩), .pointer (some ⟨gb, 4, none⟩), .pointer (some ⟨gb, 5, none⟩), .pointer (some ⟨gb, 6, none⟩), .pointer (some ⟨gb, 7, none⟩), .pointer (some ⟨gb, 8, none⟩), .pointer none, .pointer none]) ?_ 9 _ rfl; refine blk_put (cs := #[.pointer (some ⟨gb, 0, none⟩), .pointer (some ⟨gb, 1, none⟩), .pointer (some ⟨gb, 2, none⟩), .pointer (some ⟨gb, 3, none⟩), .pointer (some ⟨gb, 4, none⟩), .pointer (some ⟨gb, 5, none⟩), .pointer (some ⟨gb, 6, none⟩), .pointer (some ⟨gb, 7, none⟩), .pointer none, .pointer none, .pointer none]) ?_ 8 _ rfl; refine blk_put (cs := #[.pointer (some ⟨gb, 0, none⟩), .pointer (some ⟨gb, 1, none⟩), .pointer (some ⟨gb, 2, none⟩), .pointer (some ⟨gb, 3, none⟩), .pointer (some ⟨gb, 4, none⟩), .pointer (some ⟨gb, 5, none⟩), .pointer (some ⟨gb, 6, none⟩), .pointer none, .pointer none, .pointer none, .pointer none]) ?_ 7 _ rfl; refine blk_put (cs := #[.pointer (some ⟨gb, 0, none⟩), .pointer (some ⟨gb, 1, none⟩), .pointer (some ⟨gb, 2, none⟩), .pointer (some ⟨gb, 3, none⟩), .pointer (some ⟨gb, 4, none⟩), .pointer (some ⟨gb, 5, none⟩), .pointer none, .pointer none, .pointer none, .pointer none, .pointer none]) ?_ 6 _ rfl; refine blk_put (cs := #[.pointer (some ⟨gb, 0, none⟩), .pointer (some ⟨gb, 1, none⟩), .pointer (some ⟨gb, 2, none⟩), .pointer (some ⟨gb, 3, none⟩), .pointer (some ⟨gb, 4, none⟩), .pointer none, .pointer none, .pointer none, .pointer none, .pointer none, .pointer none]) ?_ 5 _ rfl; refine blk_put (cs := #[.pointer (some ⟨gb, 0, none⟩), .pointer (some ⟨gb, 1, none⟩), .pointer (some ⟨gb, 2, none⟩), .pointer (some ⟨gb, 3, none⟩), .pointer none, .pointer none, .pointer none, .pointer none, .pointer none, .pointer none, .pointer none]) ?_ 4 _ rfl; refine blk_put (cs := #[.pointer (some ⟨gb, 0, none⟩), .pointer (some ⟨gb, 1, none⟩), .pointer (some ⟨gb, 2, none⟩), .pointer none, .pointer none, .pointer none, .pointer none, .pointer none, .pointer none, .pointer none, .pointer none]) ?_ 3 _ rfl; refine blk_put (cs := #[.pointer (some ⟨gb, 0, none⟩), .pointer (some ⟨gb, 1, none⟩), .pointer none, .pointer none, .pointer none, .pointer none, .pointer none, .pointer none, .pointer none, .pointer none, .pointer none]) ?_ 2 _ rfl; refine blk_put (cs := #[.pointer (some ⟨gb, 0, none⟩), .pointer none, .pointer none, .pointer none, .pointer none, .pointer none, .pointer none, .pointer none, .pointer none, .pointer none, .pointer none]) ?_ 1 _ rfl; refine blk_put (cs := #[.pointer none, .pointer none, .pointer none, .pointer none, .pointer none, .pointer none, .pointer none, .pointer none, .pointer none, .pointer none, .pointer none]) ?_ 0 _ rfl; exact Bga.out))
    have ne_ : gb ≠ ga := by first | exact NEga_gb.out.symm | exact NEgb_ga.out
    have mgb := Aside0.mk (blk_far (p := ⟨ga, 10, none⟩) (blk_far (p := ⟨ga, 9, none⟩) (blk_far (p := ⟨ga, 8, none⟩) (blk_far (p := ⟨ga, 7, none⟩) (blk_far (p := ⟨ga, 6, none⟩) (blk_far (p := ⟨ga, 5, none⟩) (blk_far (p := ⟨ga, 4, none⟩) (blk_far (p := ⟨ga, 3, none⟩) (blk_far (p := ⟨ga, 2, none⟩) (blk_far (p := ⟨ga, 1, none⟩) (blk_far (p := ⟨ga, 0, none⟩) Bgb.out ne_ (.pointer (some ⟨gb, 0, none⟩))) ne_ (.pointer (some ⟨gb, 1, none⟩))) ne_ (.pointer (some ⟨gb, 2, none⟩))) ne_ (.pointer (some ⟨gb, 3, none⟩))) ne_ (.pointer (some ⟨gb, 4, none⟩))) ne_ (.pointer (some ⟨gb, 5, none⟩))) ne_ (.pointer (some ⟨gb, 6, none⟩))) ne_ (.pointer (some ⟨gb, 7, none⟩))) ne_ (.pointer (some ⟨gb, 8, none⟩))) ne_ (.pointer (some ⟨gb, 9, none⟩))) ne_ (.pointer (some ⟨gb, 10, none⟩)))
    clear ne_
    have mH := Aside0.mk (below_set (j := 10) (v := .pointer (some ⟨gb, 10, none⟩)) (below_set (j := 9) (v := .pointer (some ⟨gb, 9, none⟩)) (below_set (j := 8) (v := .pointer (some ⟨gb, 8, none⟩)) (below_set (j := 7) (v := .pointer (some ⟨gb, 7, none⟩)) (below_set (j := 6) (v := .pointer (some ⟨gb, 6, none⟩)) (below_set (j := 5) (v := .pointer (some ⟨gb, 5, none⟩)) (below_set (j := 4) (v := .pointer (some ⟨gb, 4, none⟩)) (below_set (j := 3) (v := .pointer (some ⟨gb, 3, none⟩)) (below_set (j := 2) (v := .pointer (some ⟨gb, 2, none⟩)) (below_set (j := 1) (v := .pointer (some ⟨gb, 1, none⟩)) (below_set (j := 0) (v := .pointer (some ⟨gb, 0, none⟩)) HB.out Gga.out) Gga.out) Gga.out) Gga.out) Gga.out) Gga.out) Gga.out) Gga.out) Gga.out) Gga.out) Gga.out)
    clear HB Bga Bgb
    have HB := mH
    have Bga := mga
    have Bgb := mgb
    clear mH mga mgb
    with_reducible generalize (((((((((((v10_).setCell ⟨ga, 0, none⟩ (.pointer (some ⟨gb, 0, none⟩))).setCell ⟨ga, 1, none⟩ (.pointer (some ⟨gb, 1, none⟩))).setCell ⟨ga, 2, none⟩ (.pointer (some ⟨gb, 2, none⟩))).setCell ⟨ga, 3, none⟩ (.pointer (some ⟨gb, 3, none⟩))).setCell ⟨ga, 4, none⟩ (.pointer (some ⟨gb, 4, none⟩))).setCell ⟨ga, 5, none⟩ (.pointer (some ⟨gb, 5, none⟩))).setCell ⟨ga, 6, none⟩ (.pointer (some ⟨gb, 6, none⟩))).setCell ⟨ga, 7, none⟩ (.pointer (some ⟨gb, 7, none⟩))).setCell ⟨ga, 8, none⟩ (.pointer (some ⟨gb, 8, none⟩))).setCell ⟨ga, 9, none⟩ (.pointer (some ⟨gb, 9, none⟩))).setCell ⟨ga, 10, none⟩ (.pointer (some ⟨gb, 10, none⟩)) = v11_ at HB Bga Bgb ⊢
    have hcga0 : v11_.cell? ⟨ga, 0, none⟩ = some (.pointer (some ⟨gb, 0, none⟩)) := (blk_cell Bga.out 0).trans rfl
    have hfga0 := blk_frozen Bga.out 0
    have hcga1 : v11_.cell? ⟨ga, 1, none⟩ = some (.pointer (some ⟨gb, 1, none⟩)) := (blk_cell Bga.out 1).trans rfl
    have hfga1 := blk_frozen Bga.out 1
    have hcga2 : v11_.cell? ⟨ga, 2, none⟩ = some (.pointer (some ⟨gb, 2, none⟩)) := (blk_cell Bga.out 2).trans rfl
    have hfga2 := blk_frozen Bga.out 2
    have hcga3 : v11_.cell? ⟨ga, 3, none⟩ = some (.pointer (some ⟨gb, 3, none⟩)) := (blk_cell Bga.out 3).trans rfl
    have hfga3 := blk_frozen Bga.out 3
    have hcga4 : v11_.cell? ⟨ga, 4, none⟩ = some (.pointer (some ⟨gb, 4, none⟩)) := (blk_cell Bga.out 4).trans rfl
    have hfga4 := blk_frozen Bga.out 4
    have hcga5 : v11_.cell? ⟨ga, 5, none⟩ = some (.pointer (some ⟨gb, 5, none⟩)) := (blk_cell Bga.out 5).trans rfl
    have hfga5 := blk_frozen Bga.out 5
    have hcga6 : v11_.cell? ⟨ga, 6, none⟩ = some (.pointer (some ⟨gb, 6, none⟩)) := (blk_cell Bga.out 6).trans rfl
    have hfga6 := blk_frozen Bga.out 6
    have hcga7 : v11_.cell? ⟨ga, 7, none⟩ = some (.pointer (some ⟨gb, 7, none⟩)) := (blk_cell Bga.out 7).trans rfl
    have hfga7 := blk_frozen Bga.out 7
    have hcga8 : v11_.cell? ⟨ga, 8, none⟩ = some (.pointer (some ⟨gb, 8, none⟩)) := (blk_cell Bga.out 8).trans rfl
    have hfga8 := blk_frozen Bga.out 8
    have hcga9 : v11_.cell? ⟨ga, 9, none⟩ = some (.pointer (some ⟨gb, 9, none⟩)) := (blk_cell Bga.out 9).trans rfl
    have hfga9 := blk_frozen Bga.out 9
    have hcga10 : v11_.cell? ⟨ga, 10, none⟩ = some (.pointer (some ⟨gb, 10, none⟩)) := (blk_cell Bga.out 10).trans rfl
    have hfga10 := blk_frozen Bga.out 10
    try go_wp2_with (fail)
    clear hcga0 hfga0 hcga1 hfga1 hcga2 hfga2 hcga3 hfga3 hcga4 hfga4 hcga5 hfga5 hcga6 hfga6 hcga7 hfga7 hcga8 hfga8 hcga9 hfga9 hcga10 hfga10
    go_loopg [3, 38] 8 (fun kq v3 v38 w' => ∃ (i : Nat), v3 = .string (marksUp (ints k0 k1 k2 k3 k4 k5 k6 k7 k8 k9 k10) H i) ∧ v38 = .int .i64 (i : Int) ∧ Aside0 (kq + i = 8) ∧ Aside0 (i ≤ 6) ∧ Aside0 (w'.heap[gb]? = some (.cells #[.int .i64 k0, .int .i64 k1, .int .i64 k2, .int .i64 k3, .int .i64 k4, .int .i64 k5, .int .i64 k6, .int .i64 k7, .int .i64 k8, .int .i64 k9, .int .i64 k10] 23 (0, 0))) ∧ Aside0 (w'.heap[ga]? = some (.cells #[.pointer (some ⟨gb, 0, none⟩), .pointer (some ⟨gb, 1, none⟩), .pointer (some ⟨gb, 2, none⟩), .pointer (some ⟨gb, 3, none⟩), .pointer (some ⟨gb, 4, none⟩), .pointer (some ⟨gb, 5, none⟩), .pointer (some ⟨gb, 6, none⟩), .pointer (some ⟨gb, 7, none⟩), .pointer (some ⟨gb, 8, none⟩), .pointer (some ⟨gb, 9, none⟩), .pointer (some ⟨gb, 10, none⟩)] 66 (0, 0))) ∧ Aside0 (Below w.heap.size w w'))
    case atStart => exact ⟨0, rfl, rfl, ⟨rfl⟩, ⟨by omega⟩, Bgb, Bga, HB⟩
    case round =>
      clear Bgb Bga HB
      obtain ⟨i, rfl, rfl, HK, H6, Bgb, Bga, HB⟩ := hrel
      have h6 := H6.out
      clear H6
      have hus := marksUp_size (ints k0 k1 k2 k3 k4 k5 k6 k7 k8 k9 k10) H
      rcases i with _|_|_|_|_|_|_|i
      · have hu : (marksUp (ints k0 k1 k2 k3 k4 k5 k6 k7 k8 k9 k10) H 0).size ≤ 522 := by have := hus 0; omega
        clear h6 hus
        have hM : marksUp (ints k0 k1 k2 k3 k4 k5 k6 k7 k8 k9 k10) H (0 + 1) = marksUp (ints k0 k1 k2 k3 k4 k5 k6 k7 k8 k9 k10) H 0 ++ markB 0 k5 := rfl
        generalize marksUp (ints k0 k1 k2 k3 k4 k5 k6 k7 k8 k9 k10) H 0 = u at hu hM ⊢
        have HM := Aside0.mk hM
        clear hM
        have hc1 : wr.cell? ⟨ga, 5, none⟩ = some (.pointer (some ⟨gb, 5, none⟩)) := (blk_cell Bga.out 5).trans rfl
        have hc2 : wr.cell? ⟨gb, 5, none⟩ = some (.int .i64 k5) := (blk_cell Bgb.out 5).trans rfl
        have hf1 := blk_frozen Bga.out 5
        have hf2 := blk_frozen Bgb.out 5
        have z1 : u.size + 1 ≤ 9223372036854775807 := by omega
        have z2 : (9223372036854775807 < u.size + 1) = False := eq_false (by omega)
        have z3 : decide (u.size + 1 ≤ 9223372036854775807) = true := decide_eq_true z1
        cases gk with
        | zero => exact absurd HK.out (by omega)
        | succ g1 =>
          by_cases hm : k5 = -1
          · subst hm
            try go_wp2_with (fail)
            go_roundg g1
            case measure => omega
            case rel => exact ⟨0 + 1, congrArg Value.string (by rw [HM.out]; unfold markB; rfl), rfl, ⟨by have := HK.out; omega⟩, ⟨by omega⟩, ⟨Bgb.out⟩, ⟨Bga.out⟩, ⟨by repeat (first | (with_reducible first | exact HB.out | apply below_alloc | apply pw_below_drewN | apply below_drew1 | refine below_set ?_ Ggb.out | refine below_set ?_ Gga.out) | exact HB.out)⟩⟩
          · have e1 : (k5 == -1) = false := beq_eq_false_iff_ne.mpr hm
            by_cases h0 : k5 = 0
            · subst h0
              try go_wp2_with (fail)
              go_roundg g1
              case measure => omega
              case rel => exact ⟨0 + 1, congrArg Value.string (by rw [HM.out]; unfold markB; rfl), rfl, ⟨by have := HK.out; omega⟩, ⟨by omega⟩, ⟨Bgb.out⟩, ⟨Bga.out⟩, ⟨by repeat (first | (with_reducible first | exact HB.out | apply below_alloc | apply pw_below_drewN | apply below_drew1 | refine below_set ?_ Ggb.out | refine below_set ?_ Gga.out) | exact HB.out)⟩⟩
            · have e2 : (k5 == 0) = false := beq_eq_false_iff_ne.mpr h0
              try go_wp2_with (fail)
              go_roundg g1
              case measure => omega
              case rel => exact ⟨0 + 1, congrArg Value.string (by rw [HM.out]; unfold markB; rw [if_neg hm, if_neg h0]), rfl, ⟨by have := HK.out; omega⟩, ⟨by omega⟩, ⟨Bgb.out⟩, ⟨Bga.out⟩, ⟨by repeat (first | (with_reducible first | exact HB.out | apply below_alloc | apply pw_below_drewN | apply below_drew1 | refine below_set ?_ Ggb.out | refine below_set ?_ Gga.out) | exact HB.out)⟩⟩
      · have hu : (marksUp (ints k0 k1 k2 k3 k4 k5 k6 k7 k8 k9 k10) H 1).size ≤ 522 := by have := hus 1; omega
        clear h6 hus
        have hM : marksUp (ints k0 k1 k2 k3 k4 k5 k6 k7 k8 k9 k10) H (1 + 1) = marksUp (ints k0 k1 k2 k3 k4 k5 k6 k7 k8 k9 k10) H 1 ++ markB 1 k6 := rfl
        generalize marksUp (ints k0 k1 k2 k3 k4 k5 k6 k7 k8 k9 k10) H 1 = u at hu hM ⊢
        have HM := Aside0.mk hM
        clear hM
        have hc1 : wr.cell? ⟨ga, 6, none⟩ = some (.pointer (some ⟨gb, 6, none⟩)) := (blk_cell Bga.out 6).trans rfl
        have hc2 : wr.cell? ⟨gb, 6, none⟩ = some (.int .i64 k6) := (blk_cell Bgb.out 6).trans rfl
        have hf1 := blk_frozen Bga.out 6
        have hf2 := blk_frozen Bgb.out 6
        have z1 : u.size + 1 ≤ 9223372036854775807 := by omega
        have z2 : (9223372036854775807 < u.size + 1) = False := eq_false (by omega)
        have z3 : decide (u.size + 1 ≤ 9223372036854775807) = true := decide_eq_true z1
        cases gk with
        | zero => exact absurd HK.out (by omega)
        | succ g1 =>
          by_cases hm : k6 = -1
          · subst hm
            try go_wp2_with (fail)
            go_roundg g1
            case measure => omega
            case rel => exact ⟨1 + 1, congrArg Value.string (by rw [HM.out]; unfold markB; rfl), rfl, ⟨by have := HK.out; omega⟩, ⟨by omega⟩, ⟨Bgb.out⟩, ⟨Bga.out⟩, ⟨by repeat (first | (with_reducible first | exact HB.out | apply below_alloc | apply pw_below_drewN | apply below_drew1 | refine below_set ?_ Ggb.out | refine below_set ?_ Gga.out) | exact HB.out)⟩⟩
          · have e1 : (k6 == -1) = false := beq_eq_false_iff_ne.mpr hm
            by_cases h0 : k6 = 0
            · subst h0
              try go_wp2_with (fail)
              go_roundg g1
              case measure => omega
              case rel => exact ⟨1 + 1, congrArg Value.string (by rw [HM.out]; unfold markB; rfl), rfl, ⟨by have := HK.out; omega⟩, ⟨by omega⟩, ⟨Bgb.out⟩, ⟨Bga.out⟩, ⟨by repeat (first | (with_reducible first | exact HB.out | apply below_alloc | apply pw_below_drewN | apply below_drew1 | refine below_set ?_ Ggb.out | refine below_set ?_ Gga.out) | exact HB.out)⟩⟩
            · have e2 : (k6 == 0) = false := beq_eq_false_iff_ne.mpr h0
              try go_wp2_with (fail)
              go_roundg g1
              case measure => omega
              case rel => exact ⟨1 + 1, congrArg Value.string (by rw [HM.out]; unfold markB; rw [if_neg hm, if_neg h0]), rfl, ⟨by have := HK.out; omega⟩, ⟨by omega⟩, ⟨Bgb.out⟩, ⟨Bga.out⟩, ⟨by repeat (first | (with_reducible first | exact HB.out | apply below_alloc | apply pw_below_drewN | apply below_drew1 | refine below_set ?_ Ggb.out | refine below_set ?_ Gga.out) | exact HB.out)⟩⟩
      · have hu : (marksUp (ints k0 k1 k2 k3 k4 k5 k6 k7 k8 k9 k10) H 2).size ≤ 522 := by have := hus 2; omega
        clear h6 hus
        have hM : marksUp (ints k0 k1 k2 k3 k4 k5 k6 k7 k8 k9 k10) H (2 + 1) = marksUp (ints k0 k1 k2 k3 k4 k5 k6 k7 k8 k9 k10) H 2 ++ markB 2 k7 := rfl
        generalize marksUp (ints k0 k1 k2 k3 k4 k5 k6 k7 k8 k9 k10) H 2 = u at hu hM ⊢
        have HM := Aside0.mk hM
        clear hM
        have hc1 : wr.cell? ⟨ga, 7, none⟩ = some (.pointer (some ⟨gb, 7, none⟩)) := (blk_cell Bga.out 7).trans rfl
        have hc2 : wr.cell? ⟨gb, 7, none⟩ = some (.int .i64 k7) := (blk_cell Bgb.out 7).trans rfl
        have hf1 := blk_frozen Bga.out 7
        have hf2 := blk_frozen Bgb.out 7
        have z1 : u.size + 1 ≤ 9223372036854775807 := by omega
        have z2 : (9223372036854775807 < u.size + 1) = False := eq_false (by omega)
        have z3 : decide (u.size + 1 ≤ 9223372036854775807) = true := decide_eq_true z1
        cases gk with
        | zero => exact absurd HK.out (by omega)
        | succ g1 =>
          by_cases hm : k7 = -1
          · subst hm
            try go_wp2_with (fail)
            go_roundg g1
            case measure => omega
            case rel => exact ⟨2 + 1, congrArg Value.string (by rw [HM.out]; unfold markB; rfl), rfl, ⟨by have := HK.out; omega⟩, ⟨by omega⟩, ⟨Bgb.out⟩, ⟨Bga.out⟩, ⟨by repeat (first | (with_reducible first | exact HB.out | apply below_alloc | apply pw_below_drewN | apply below_drew1 | refine below_set ?_ Ggb.out | refine below_set ?_ Gga.out) | exact HB.out)⟩⟩
          · have e1 : (k7 == -1) = false := beq_eq_false_iff_ne.mpr hm
            by_cases h0 : k7 = 0
            · subst h0
              try go_wp2_with (fail)
              go_roundg g1
              case measure => omega
              case rel => exact ⟨2 + 1, congrArg Value.string (by rw [HM.out]; unfold markB; rfl), rfl, ⟨by have := HK.out; omega⟩, ⟨by omega⟩, ⟨Bgb.out⟩, ⟨Bga.out⟩, ⟨by repeat (first | (with_reducible first | exact HB.out | apply below_alloc | apply pw_below_drewN | apply below_drew1 | refine below_set ?_ Ggb.out | refine below_set ?_ Gga.out) | exact HB.out)⟩⟩
            · have e2 : (k7 == 0) = false := beq_eq_false_iff_ne.mpr h0
              try go_wp2_with (fail)
              go_roundg g1
              case measure => omega
              case rel => exact ⟨2 + 1, congrArg Value.string (by rw [HM.out]; unfold markB; rw [if_neg hm, if_neg h0]), rfl, ⟨by have := HK.out; omega⟩, ⟨by omega⟩, ⟨Bgb.out⟩, ⟨Bga.out⟩, ⟨by repeat (first | (with_reducible first | exact HB.out | apply below_alloc | apply pw_below_drewN | apply below_drew1 | refine below_set ?_ Ggb.out | refine below_set ?_ Gga.out) | exact HB.out)⟩⟩
      · have hu : (marksUp (ints k0 k1 k2 k3 k4 k5 k6 k7 k8 k9 k10) H 3).size ≤ 522 := by have := hus 3; omega
        clear h6 hus
        have hM : marksUp (ints k0 k1 k2 k3 k4 k5 k6 k7 k8 k9 k10) H (3 + 1) = marksUp (ints k0 k1 k2 k3 k4 k5 k6 k7 k8 k9 k10) H 3 ++ markB 3 k8 := rfl
        generalize marksUp (ints k0 k1 k2 k3 k4 k5 k6 k7 k8 k9 k10) H 3 = u at hu hM ⊢
        have HM := Aside0.mk hM
        clear hM
        have hc1 : wr.cell? ⟨ga, 8, none⟩ = some (.pointer (some ⟨gb, 8, none⟩)) := (blk_cell Bga.out 8).trans rfl
        have hc2 : wr.cell? ⟨gb, 8, none⟩ = some (.int .i64 k8) := (blk_cell Bgb.out 8).trans rfl
        have hf1 := blk_frozen Bga.out 8
        have hf2 := blk_frozen Bgb.out 8
        have z1 : u.size + 1 ≤ 9223372036854775807 := by omega
        have z2 : (9223372036854775807 < u.size + 1) = False := eq_false (by omega)
        have z3 : decide (u.size + 1 ≤ 9223372036854775807) = true := decide_eq_true z1
        cases gk with
        | zero => exact absurd HK.out (by omega)
        | succ g1 =>
          by_cases hm : k8 = -1
          · subst hm
            try go_wp2_with (fail)
            go_roundg g1
            case measure => omega
            case rel => exact ⟨3 + 1, congrArg Value.string (by rw [HM.out]; unfold markB; rfl), rfl, ⟨by have := HK.out; omega⟩, ⟨by omega⟩, ⟨Bgb.out⟩, ⟨Bga.out⟩, ⟨by repeat (first | (with_reducible first | exact HB.out | apply below_alloc | apply pw_below_drewN | apply below_drew1 | refine below_set ?_ Ggb.out | refine below_set ?_ Gga.out) | exact HB.out)⟩⟩
          · have e1 : (k8 == -1) = false := beq_eq_false_iff_ne.mpr hm
            by_cases h0 : k8 = 0
            · subst h0
              try go_wp2_with (fail)
              go_roundg g1
              case measure => omega
              case rel => exact ⟨3 + 1, congrArg Value.string (by rw [HM.out]; unfold markB; rfl), rfl, ⟨by have := HK.out; omega⟩, ⟨by omega⟩, ⟨Bgb.out⟩, ⟨Bga.out⟩, ⟨by repeat (first | (with_reducible first | exact HB.out | apply below_alloc | apply pw_below_drewN | apply below_drew1 | refine below_set ?_ Ggb.out | refine below_set ?_ Gga.out) | exact HB.out)⟩⟩
            · have e2 : (k8 == 0) = false := beq_eq_false_iff_ne.mpr h0
              try go_wp2_with (fail)
              go_roundg g1
              case measure => omega
              case rel => exact ⟨3 + 1, congrArg Value.string (by rw [HM.out]; unfold markB; rw [if_neg hm, if_neg h0]), rfl, ⟨by have := HK.out; omega⟩, ⟨by omega⟩, ⟨Bgb.out⟩, ⟨Bga.out⟩, ⟨by repeat (first | (with_reducible first | exact HB.out | apply below_alloc | apply pw_below_drewN | apply below_drew1 | refine below_set ?_ Ggb.out | refine below_set ?_ Gga.out) | exact HB.out)⟩⟩
      · have hu : (marksUp (ints k0 k1 k2 k3 k4 k5 k6 k7 k8 k9 k10) H 4).size ≤ 522 := by have := hus 4; omega
        clear h6 hus
        have hM : marksUp (ints k0 k1 k2 k3 k4 k5 k6 k7 k8 k9 k10) H (4 + 1) = marksUp (ints k0 k1 k2 k3 k4 k5 k6 k7 k8 k9 k10) H 4 ++ markB 4 k9 := rfl
        generalize marksUp (ints k0 k1 k2 k3 k4 k5 k6 k7 k8 k9 k10) H 4 = u at hu hM ⊢
        have HM := Aside0.mk hM
        clear hM
        have hc1 : wr.cell? ⟨ga, 9, none⟩ = some (.pointer (some ⟨gb, 9, none⟩)) := (blk_cell Bga.out 9).trans rfl
        have hc2 : wr.cell? ⟨gb, 9, none⟩ = some (.int .i64 k9) := (blk_cell Bgb.out 9).trans rfl
        have hf1 := blk_frozen Bga.out 9
        have hf2 := blk_frozen Bgb.out 9
        have z1 : u.size + 1 ≤ 9223372036854775807 := by omega
        have z2 : (9223372036854775807 < u.size + 1) = False := eq_false (by omega)
        have z3 : decide (u.size + 1 ≤ 9223372036854775807) = true := decide_eq_true z1
        cases gk with
        | zero => exact absurd HK.out (by omega)
        | succ g1 =>
          by_cases hm : k9 = -1
          · subst hm
            try go_wp2_with (fail)
            go_roundg g1
            case measure => omega
            case rel => exact ⟨4 + 1, congrArg Value.string (by rw [HM.out]; unfold markB; rfl), rfl, ⟨by have := HK.out; omega⟩, ⟨by omega⟩, ⟨Bgb.out⟩, ⟨Bga.out⟩, ⟨by repeat (first | (with_reducible first | exact HB.out | apply below_alloc | apply pw_below_drewN | apply below_drew1 | refine below_set ?_ Ggb.out | refine below_set ?_ Gga.out) | exact HB.out)⟩⟩
          · have e1 : (k9 == -1) = false := beq_eq_false_iff_ne.mpr hm
            by_cases h0 : k9 = 0
            · subst h0
              try go_wp2_with (fail)
              go_roundg g1
              case measure => omega
              case rel => exact ⟨4 + 1, congrArg Value.string (by rw [HM.out]; unfold markB; rfl), rfl, ⟨by have := HK.out; omega⟩, ⟨by omega⟩, ⟨Bgb.out⟩, ⟨Bga.out⟩, ⟨by repeat (first | (with_reducible first | exact HB.out | apply below_alloc | apply pw_below_drewN | apply below_drew1 | refine below_set ?_ Ggb.out | refine below_set ?_ Gga.out) | exact HB.out)⟩⟩
            · have e2 : (k9 == 0) = false := beq_eq_false_iff_ne.mpr h0
              try go_wp2_with (fail)
              go_roundg g1
              case measure => omega
              case rel => exact ⟨4 + 1, congrArg Value.string (by rw [HM.out]; unfold markB; rw [if_neg hm, if_neg h0]), rfl, ⟨by have := HK.out; omega⟩, ⟨by omega⟩, ⟨Bgb.out⟩, ⟨Bga.out⟩, ⟨by repeat (first | (with_reducible first | exact HB.out | apply below_alloc | apply pw_below_drewN | apply below_drew1 | refine below_set ?_ Ggb.out | refine below_set ?_ Gga.out) | exact HB.out)⟩⟩
      · have hu : (marksUp (ints k0 k1 k2 k3 k4 k5 k6 k7 k8 k9 k10) H 5).size ≤ 522 := by have := hus 5; omega
        clear h6 hus
        have hM : marksUp (ints k0 k1 k2 k3 k4 k5 k6 k7 k8 k9 k10) H (5 + 1) = marksUp (ints k0 k1 k2 k3 k4 k5 k6 k7 k8 k9 k10) H 5 ++ markB 5 k10 := rfl
        generalize marksUp (ints k0 k1 k2 k3 k4 k5 k6 k7 k8 k9 k10) H 5 = u at hu hM ⊢
        have HM := Aside0.mk hM
        clear hM
        have hc1 : wr.cell? ⟨ga, 10, none⟩ = some (.pointer (some ⟨gb, 10, none⟩)) := (blk_cell Bga.out 10).trans rfl
        have hc2 : wr.cell? ⟨gb, 10, none⟩ = some (.int .i64 k10) := (blk_cell Bgb.out 10).trans rfl
        have hf1 := blk_frozen Bga.out 10
        have hf2 := blk_frozen Bgb.out 10
        have z1 : u.size + 1 ≤ 9223372036854775807 := by omega
        have z2 : (9223372036854775807 < u.size + 1) = False := eq_false (by omega)
        have z3 : decide (u.size + 1 ≤ 9223372036854775807) = true := decide_eq_true z1
        cases gk with
        | zero => exact absurd HK.out (by omega)
        | succ g1 =>
          by_cases hm : k10 = -1
          · subst hm
            try go_wp2_with (fail)
            go_roundg g1
            case measure => omega
            case rel => exact ⟨5 + 1, congrArg Value.string (by rw [HM.out]; unfold markB; rfl), rfl, ⟨by have := HK.out; omega⟩, ⟨by omega⟩, ⟨Bgb.out⟩, ⟨Bga.out⟩, ⟨by repeat (first | (with_reducible first | exact HB.out | apply below_alloc | apply pw_below_drewN | apply below_drew1 | refine below_set ?_ Ggb.out | refine below_set ?_ Gga.out) | exact HB.out)⟩⟩
          · have e1 : (k10 == -1) = false := beq_eq_false_iff_ne.mpr hm
            by_cases h0 : k10 = 0
            · subst h0
              try go_wp2_with (fail)
              go_roundg g1
              case measure => omega
              case rel => exact ⟨5 + 1, congrArg Value.string (by rw [HM.out]; unfold markB; rfl), rfl, ⟨by have := HK.out; omega⟩, ⟨by omega⟩, ⟨Bgb.out⟩, ⟨Bga.out⟩, ⟨by repeat (first | (with_reducible first | exact HB.out | apply below_alloc | apply pw_below_drewN | apply below_drew1 | refine below_set ?_ Ggb.out | refine below_set ?_ Gga.out) | exact HB.out)⟩⟩
            · have e2 : (k10 == 0) = false := beq_eq_false_iff_ne.mpr h0
              try go_wp2_with (fail)
              go_roundg g1
              case measure => omega
              case rel => exact ⟨5 + 1, congrArg Value.string (by rw [HM.out]; unfold markB; rw [if_neg hm, if_neg h0]), rfl, ⟨by have := HK.out; omega⟩, ⟨by omega⟩, ⟨Bgb.out⟩, ⟨Bga.out⟩, ⟨by repeat (first | (with_reducible first | exact HB.out | apply below_alloc | apply pw_below_drewN | apply below_drew1 | refine below_set ?_ Ggb.out | refine below_set ?_ Gga.out) | exact HB.out)⟩⟩
      · clear h6 hus
        have hr2 := hr.out
        subst hr2
        try go_wp2_with (fail)
        go_ret
        exact ⟨rfl, by repeat (first | (with_reducible first | exact HB.out | apply below_alloc | apply pw_below_drewN | apply below_drew1 | refine below_set ?_ Ggb.out | refine below_set ?_ Gga.out) | exact HB.out)⟩
      · omega
end Go.Proofs.Ytecccbecflbcfaa.PKtl
