import Derived.Test.YtecccbecflbcfaaSKPKtlx0
import Derived.Test.YtecccbecflbcfaaSKPKtlx6
import Derived.Test.YtecccbecflbcfaaSKMyKtlKnowOk
import Derived.StillTailTactics
import Derived.Test.YtecccbecflbcfaaSKMyFields
set_option linter.unusedVariables false
namespace Go.Proofs.Ytecccbecflbcfaa.PKtl
open Go.RowKit Go.Proofs.Ytecccbecflbcfaa.Know Go.Proofs.YtecccbecflbcfaaW.PrintWords Go.Proofs.YtecccbecflbcfaaW.PrintLast Go.Proofs.YtecccbecflbcfaaW.PrintMore
def bitsAt (i : Nat) : Int := if i < 4 then 8 else if i = 4 then 16 else 1
def knownUp (l : List Int) : Nat → Int
  | 0 => 0
  | n + 1 => if 0 ≤ pAt l n then knownUp l n + bitsAt n else knownUp l n
theorem knownUp_bound (l : List Int) (n : Nat) : 0 ≤ knownUp l n ∧ knownUp l n ≤ 16 * n := by
  induction n with
  | zero => exact ⟨Int.le_refl _, Int.le_refl _⟩
  | succ n ih =>
    have hb : 0 ≤ bitsAt n ∧ bitsAt n ≤ 16 := by unfold bitsAt; (repeat' split) <;> omega
    simp only [knownUp]
    have : ((n + 1 : Nat) : Int) = n + 1 := by omega
    split <;> omega
def impl_Known.f (k0 k1 k2 k3 k4 k5 k6 k7 k8 k9 k10 : Int) : Option Int := (impl_KnowOk.f k0 k1 k2 k3 k4 k5 k6 k7 k8 k9 k10).bind fun t => if t = true then some (knownUp (ints k0 k1 k2 k3 k4 k5 k6 k7 k8 k9 k10) 11) else some (-1)
set_option maxHeartbeats 2000000 in
set_option maxRecDepth 100000 in
theorem impl_Known.calls (k0 k1 k2 k3 k4 k5 k6 k7 k8 k9 k10 : Int) (r : Int) (w : World) (h : impl_Known.f k0 k1 k2 k3 k4 k5 k6 k7 k8 k9 k10 = some r) : Calls Try.prog 27 #[.agg #[.int .i64 k0, .int .i64 k1, .int .i64 k2, .int .i64 k3, .int .i64 k4, .int .i64 k5, .int .i64 k6, .int .i64 k7, .int .i64 k8, .int .i64 k9, .int .i64 k10]] w fun e w' => e = .returned (.int .i64 r) ∧ Below w.heap.size w w' := by
  have HB := Aside0.mk (Below.refl w.heap.size w)
  have hu66 := Try.underlying66
  have hu23 := Try.underlying23
  obtain ⟨t, ht, h⟩ := Option.bind_eq_some_iff.mp h
  go_enter Try.func27, Try.ntmps27
  try go_wp2_with (first | (((with_reducible refine gate_dst (N := 1) rfl ?_); refine box_event ?hg (N := 1) ?hd (cs := #[.int .i64 k0, .int .i64 k1, .int .i64 k2, .int .i64 k3, .int .i64 k4, .int .i64 k5, .int .i64 k6, .int .i64 k7, .int .i64 k8, .int .i64 k9, .int .i64 k10]) (t := 23) ?hr ?_; (case hd => rfl); (case hg => rfl); (case hr => first | (go_simp; done) | (go_simp; rfl)); intro gb hg w8 hbox hb; have n0_ := Aside0.mk (below_step (by repeat (first | (with_reducible first | exact HB.out | apply below_alloc | apply pw_below_drewN | apply below_drew1) | exact HB.out)) hb); have n1_ := Aside0.mk (hbox); have n2_ := Aside0.mk ((by rw [hg]; exact (below_size (by repeat (first | (with_reducible first | exact HB.out | apply below_alloc | apply pw_below_drewN | apply below_drew1) | exact HB.out))) : w.heap.size ≤ gb)); clear HB; have HB := n0_; have Bgb := n1_; have Ggb := n2_; clear n0_ n1_ n2_; clear hb hbox hg; have hcgb0 : w8.cell? ⟨gb, 0, none⟩ = some (.int .i64 k0) := (blk_cell Bgb.out 0).trans rfl; have hcgb1 : w8.cell? ⟨gb, 1, none⟩ = some (.int .i64 k1) := (blk_cell Bgb.out 1).trans rfl; have hcgb2 : w8.cell? ⟨gb, 2, none⟩ = some (.int .i64 k2) := (blk_cell Bgb.out 2).trans rfl; have hcgb3 : w8.cell? ⟨gb, 3, none⟩ = some (.int .i64 k3) := (blk_cell Bgb.out 3).trans rfl; have hcgb4 : w8.cell? ⟨gb, 4, none⟩ = some (.int .i64 k4) := (blk_cell Bgb.out 4).trans rfl; have hcgb5 : w8.cell? ⟨gb, 5, none⟩ = some (.int .i64 k5) := (blk_cell Bgb.out 5).trans rfl; have hcgb6 : w8.cell? ⟨gb, 6, none⟩ = some (.int .i64 k6) := (blk_cell Bgb.out 6).trans rfl; have hcgb7 : w8.cell? ⟨gb, 7, none⟩ = some (.int .i64 k7) := (blk_cell Bgb.out 7).trans rfl; have hcgb8 : w8.cell? ⟨gb, 8, none⟩ = some (.int .i64 k8) := (blk_cell Bgb.out 8).trans rfl; have hcgb9 : w8.cell? ⟨gb, 9, none⟩ = some (.int .i64 k9) := (blk_cell Bgb.out 9).trans rfl; have hcgb10 : w8.cell? ⟨gb, 10, none⟩ = some (.int .i64 k10) := (blk_cell Bgb.out 10).trans rfl)))
  refine (impl_KnowOk.calls k0 k1 k2 k3 k4 k5 k6 k7 k8 k9 k10 t w8 ht).mono ?_
  rintro e w9 ⟨rfl, hb9⟩
  clear hcgb0 hcgb1 hcgb2 hcgb3 hcgb4 hcgb5 hcgb6 hcgb7 hcgb8 hcgb9 hcgb10
  have mgb := Aside0.mk ((hb9.block gb (lt_size Bgb.out)).trans Bgb.out)
  have mH := Aside0.mk (below_step HB.out hb9)
  clear HB Bgb hb9
  have HB := mH
  have Bgb := mgb
  clear mH mgb
  cases t with
  | false =>
    have hr : r = -1 := (Option.some.inj h).symm
    subst hr
    go_wp2
    go_ret
    exact ⟨rfl, by repeat (first | (with_reducible first | exact HB.out | apply below_alloc | apply pw_below_drewN | apply below_drew1) | exact HB.out)⟩
  | true =>
    have hr : r = knownUp (ints k0 k1 k2 k3 k4 k5 k6 k7 k8 k9 k10) 11 := (Option.some.inj h).symm
    clear h
    try go_wp2_with (fail)
    refine (fields_calls gb w9).mono ?_
    rintro e wa ⟨rfl, hba⟩
    have mgb := Aside0.mk ((hba.block gb (lt_size Bgb.out)).trans Bgb.out)
    have mH := Aside0.mk (below_step HB.out hba)
    clear HB Bgb hba
    have HB := mH
    have Bgb := mgb
    clear mH mgb
    try go_wp2_with (fail)
    go_loopg [3, 10] 12 (fun kq v3 v10 w' => ∃ (i : Nat), v3 = .int .i64 (knownUp (ints k0 k1 k2 k3 k4 k5 k6 k7 k8 k9 k10) i) ∧ v10 = .int .i64 (i : Int) ∧ Aside0 (kq + i = 12) ∧ Aside0 (i ≤ 11) ∧ Aside0 (w'.heap[gb]? = some (.cells #[.int .i64 k0, .int .i64 k1, .int .i64 k2, .int .i64 k3, .int .i64 k4, .int .i64 k5, .int .i64 k6, .int .i64 k7, .int .i64 k8, .int .i64 k9, .int .i64 k10] 23)) ∧ Aside0 (Below w.heap.size w w'))
    case atStart => exact ⟨0, rfl, rfl, ⟨rfl⟩, ⟨by omega⟩, Bgb, HB⟩
    case round =>
      clear Bgb HB
      obtain ⟨i, rfl, rfl, HK, H11, Bgb, HB⟩ := hrel
      by_cases hi : i < 11
      · have ci : decide ((i : Int) < 11) = true := decide_eq_true (by omega)
        have p1 : 0 ≤ (i : Int) := by omega
        have hx := idx_run gb i hi
        have hc : wr.cell? ⟨gb, i, none⟩ = some (.int .i64 (pAt (ints k0 k1 k2 k3 k4 k5 k6 k7 k8 k9 k10) i)) := (blk_cell Bgb.out i).trans (ints_at k0 k1 k2 k3 k4 k5 k6 k7 k8 k9 k10 i hi)
        have hf := blk_frozen Bgb.out i
        have hkb := knownUp_bound (ints k0 k1 k2 k3 k4 k5 k6 k7 k8 k9 k10) i
        have hU : knownUp (ints k0 k1 k2 k3 k4 k5 k6 k7 k8 k9 k10) (i + 1) = if 0 ≤ pAt (ints k0 k1 k2 k3 k4 k5 k6 k7 k8 k9 k10) i then knownUp (ints k0 k1 k2 k3 k4 k5 k6 k7 k8 k9 k10) i + bitsAt i else knownUp (ints k0 k1 k2 k3 k4 k5 k6 k7 k8 k9 k10) i := rfl
        have hB : impl_bitsOf.f (i : Int) = some (bitsAt i) := by
          simp only [impl_bitsOf.f, bitsAt]
          rcases i with _|_|_|_|_|_|_|_|_|_|_|i <;> first | (simp; done) | omega
        have hb16 : 0 ≤ bitsAt i ∧ bitsAt i ≤ 16 := by unfold bitsAt; (repeat' split) <;> omega
        have hS : ∀ z, z = bitsAt i → (wrap64 (knownUp (ints k0 k1 k2 k3 k4 k5 k6 k7 k8 k9 k10) i + z)) = knownUp (ints k0 k1 k2 k3 k4 k5 k6 k7 k8 k9 k10) i + bitsAt i := by
          intro z hz; subst hz; unfold wrap64; omega
        have HS := Aside0.mk hS
        have HUU := Aside0.mk hU
        clear hkb hb16 hS hU
        generalize hx' : pAt (ints k0 k1 k2 k3 k4 k5 k6 k7 k8 k9 k10) i = x at hc HUU
        generalize knownUp (ints k0 k1 k2 k3 k4 k5 k6 k7 k8 k9 k10) i = u at HS HUU ⊢
        cases gk with
        | zero => have := HK.out; omega
        | succ g1 =>
          by_cases h0 : 0 ≤ x
          · have c0 : decide (0 ≤ x) = true := decide_eq_true h0
            have hn : knownUp (ints k0 k1 k2 k3 k4 k5 k6 k7 k8 k9 k10) (i + 1) = u + bitsAt i := by rw [HUU.out, if_pos h0]
            try go_wp2_with (fail)
            refine (impl_bitsOf.calls (i : Int) _ _ hB).mono ?_
            rintro e w' ⟨rfl, ⟨nd, rfl⟩⟩
            try go_wp2_with (fail)
            go_roundg g1
            case measure => omega
            case rel => exact ⟨i + 1, by rw [hn]; first | rfl | exact congrArg _ (HS.out _ rfl), rfl, ⟨by have := HK.out; omega⟩, ⟨by omega⟩, ⟨Bgb.out⟩, ⟨by repeat (first | (with_reducible first | exact HB.out | apply below_alloc | apply pw_below_drewN | apply below_drew1) | exact HB.out)⟩⟩
          · have c0 : decide (0 ≤ x) = false := decide_eq_false h0
            have hn : knownUp (ints k0 k1 k2 k3 k4 k5 k6 k7 k8 k9 k10) (i + 1) = u := by rw [HUU.out, if_neg h0]
            try go_wp2_with (fail)
            go_roundg g1
            case measure => omega
            case rel => exact ⟨i + 1, by rw [hn], rfl, ⟨by have := HK.out; omega⟩, ⟨by omega⟩, ⟨Bgb.out⟩, ⟨by repeat (first | (with_reducible first | exact HB.out | apply below_alloc | apply pw_below_drewN | apply below_drew1) | exact HB.out)⟩⟩
      · have ci : decide ((i : Int) < 11) = false := decide_eq_false (by omega)
        have hi11 : i = 11 := by have := H11.out; omega
        subst hi11
        subst hr
        go_wp2
        go_ret
        exact ⟨rfl, by repeat (first | (with_reducible first | exact HB.out | apply below_alloc | apply pw_below_drewN | apply below_drew1) | exact HB.out)⟩
end Go.Proofs.Ytecccbecflbcfaa.PKtl
