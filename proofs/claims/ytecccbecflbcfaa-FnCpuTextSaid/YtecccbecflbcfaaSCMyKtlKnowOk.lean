import Derived.Test.YtecccbecflbcfaaSCPKtlx0
import Derived.Test.YtecccbecflbcfaaSCPKtlx6
import Derived.StillTailTactics
import Derived.Test.YtecccbecflbcfaaSCMyFields
set_option linter.unusedVariables false
namespace Go.Proofs.Ytecccbecflbcfaa.PKtl
open Go.RowKit Go.Proofs.Ytecccbecflbcfaa.Know Go.Proofs.YtecccbecflbcfaaW.PrintWords Go.Proofs.YtecccbecflbcfaaW.PrintLast Go.Proofs.YtecccbecflbcfaaW.PrintMore
theorem within_and (x l : Int) (b : Bool) (h : (decide (-1 ≤ x) && decide (x ≤ l)) = b) : impl_within.f x (-1) l = some b := by
  subst h
  simp only [impl_within.f]
  by_cases hx : x ≥ -1
  · rw [if_pos hx]; simp [hx]
  · rw [if_neg hx]; have : ¬ (-1 ≤ x) := hx; simp [this]
def impl_KnowOk.f (k0 k1 k2 k3 k4 k5 k6 k7 k8 k9 k10 : Int) : Option Bool := some ((List.range 11).all (okAt (ints k0 k1 k2 k3 k4 k5 k6 k7 k8 k9 k10)))
set_option maxHeartbeats 2000000 in
set_option maxRecDepth 100000 in
theorem impl_KnowOk.calls (k0 k1 k2 k3 k4 k5 k6 k7 k8 k9 k10 : Int) (r : Bool) (w : World) (h : impl_KnowOk.f k0 k1 k2 k3 k4 k5 k6 k7 k8 k9 k10 = some r) : Calls Try.prog 20 #[.agg #[.int .i64 k0, .int .i64 k1, .int .i64 k2, .int .i64 k3, .int .i64 k4, .int .i64 k5, .int .i64 k6, .int .i64 k7, .int .i64 k8, .int .i64 k9, .int .i64 k10]] w fun e w' => e = .returned (.bool r) ∧ Below w.heap.size w w' := by
  have HB := Aside0.mk (Below.refl w.heap.size w)
  have hu66 := Try.underlying66
  have hu23 := Try.underlying23
  go_enter Try.func20, Try.ntmps20
  try go_wp2_with (first | (((with_reducible refine gate_dst (N := 1) rfl ?_); refine box_event ?hg (N := 1) ?hd (cs := #[.int .i64 k0, .int .i64 k1, .int .i64 k2, .int .i64 k3, .int .i64 k4, .int .i64 k5, .int .i64 k6, .int .i64 k7, .int .i64 k8, .int .i64 k9, .int .i64 k10]) (t := 23) ?hr ?_; (case hd => rfl); (case hg => rfl); (case hr => first | (go_simp; done) | (go_simp; rfl)); intro gb hg w8 hbox hb; have n0_ := Aside0.mk (below_step (by repeat (first | (with_reducible first | exact HB.out | apply below_alloc | apply pw_below_drewN | apply below_drew1) | exact HB.out)) hb); have n1_ := Aside0.mk (hbox); have n2_ := Aside0.mk ((by rw [hg]; exact (below_size (by repeat (first | (with_reducible first | exact HB.out | apply below_alloc | apply pw_below_drewN | apply below_drew1) | exact HB.out))) : w.heap.size ≤ gb)); clear HB; have HB := n0_; have Bgb := n1_; have Ggb := n2_; clear n0_ n1_ n2_; clear hb hbox hg)))
  refine (fields_calls gb w8).mono ?_
  rintro e w9 ⟨rfl, hb9⟩
  have BK := Aside0.mk ((hb9.block gb (by have := Bgb.out; exact (Array.getElem?_eq_some_iff.mp this).1)).trans Bgb.out)
  have HB9 := Aside0.mk (below_step HB.out hb9)
  clear HB Bgb hb9
  go_wp2
  go_loopg [6] 12 (fun kq v6 w' => ∃ (i : Nat), v6 = .int .i64 (i : Int) ∧ Aside0 (kq + i = 12) ∧ Aside0 (okUp (ints k0 k1 k2 k3 k4 k5 k6 k7 k8 k9 k10) i) ∧ Aside0 (w'.heap[gb]? = some (.cells #[.int .i64 k0, .int .i64 k1, .int .i64 k2, .int .i64 k3, .int .i64 k4, .int .i64 k5, .int .i64 k6, .int .i64 k7, .int .i64 k8, .int .i64 k9, .int .i64 k10] 23)) ∧ Aside0 (Below w.heap.size w w'))
  case atStart => exact ⟨0, rfl, ⟨rfl⟩, ⟨fun j hj => absurd hj (Nat.not_lt_zero j)⟩, ⟨BK.out⟩, HB9⟩
  case round =>
    clear BK HB9
    obtain ⟨i, rfl, HK, HU, BK, HB⟩ := hrel
    by_cases hi : i < 11
    · have ci : decide ((i : Int) < 11) = true := decide_eq_true (by omega)
      have hp := ptrs_at gb i hi
      have p1 : 0 ≤ (i : Int) := by omega
      have hx := idx_run gb i hi
      have hc : wr.cell? ⟨gb, i, none⟩ = some (.int .i64 (pAt (ints k0 k1 k2 k3 k4 k5 k6 k7 k8 k9 k10) i)) := (blk_cell BK.out i).trans (ints_at k0 k1 k2 k3 k4 k5 k6 k7 k8 k9 k10 i hi)
      have hf := blk_frozen BK.out i
      have hcls : impl_bitsOf.f (i : Int) = some 8 ∧ lim i = 255 ∨ impl_bitsOf.f (i : Int) = some 16 ∧ lim i = 65535 ∨ impl_bitsOf.f (i : Int) = some 1 ∧ lim i = 1 := by
        simp only [impl_bitsOf.f, lim]
        rcases i with _|_|_|_|_|_|_|_|_|_|_|i <;> first | (simp; done) | omega
      generalize hb : okAt (ints k0 k1 k2 k3 k4 k5 k6 k7 k8 k9 k10) i = bb
      have step : ∀ n m : Int, impl_bitsOf.f (i : Int) = some n → lim i = m → impl_within.f (pAt (ints k0 k1 k2 k3 k4 k5 k6 k7 k8 k9 k10) i) (-1) m = some bb := fun n m _ hL => within_and _ _ _ (by rw [← hb, okAt, hL])
      cases bb with
      | false =>
        have hr : r = false := by
          have h' := Option.some.inj h
          rw [← h']
          exact all_false _ i hi hb
        subst hr
        rcases hcls with ⟨hB, hL⟩ | ⟨hB, hL⟩ | ⟨hB, hL⟩
        · have hW := step _ _ hB hL
          go_wp2
          go_quiet (first | exact Calls.quiet_of ((impl_bitsOf.calls (i : Int) 8 _ hB).mono (fun _ _ h => ⟨h.1, h.2.out⟩)) | exact Calls.quiet_of ((impl_within.calls _ (-1) 255 false _ hW).mono (fun _ _ h => ⟨h.1, h.2.out⟩)))
          go_wp2
          go_ret
          exact ⟨rfl, by repeat (first | (with_reducible first | exact HB.out | apply below_alloc | apply pw_below_drewN | apply below_drew1) | exact HB.out)⟩
        · have hW := step _ _ hB hL
          go_wp2
          go_quiet (first | exact Calls.quiet_of ((impl_bitsOf.calls (i : Int) 16 _ hB).mono (fun _ _ h => ⟨h.1, h.2.out⟩)) | exact Calls.quiet_of ((impl_within.calls _ (-1) 65535 false _ hW).mono (fun _ _ h => ⟨h.1, h.2.out⟩)))
          go_wp2
          go_ret
          exact ⟨rfl, by repeat (first | (with_reducible first | exact HB.out | apply below_alloc | apply pw_below_drewN | apply below_drew1) | exact HB.out)⟩
        · have hW := step _ _ hB hL
          go_wp2
          go_quiet (first | exact Calls.quiet_of ((impl_bitsOf.calls (i : Int) 1 _ hB).mono (fun _ _ h => ⟨h.1, h.2.out⟩)) | exact Calls.quiet_of ((impl_within.calls _ (-1) 1 false _ hW).mono (fun _ _ h => ⟨h.1, h.2.out⟩)))
          go_wp2
          go_ret
          exact ⟨rfl, by repeat (first | (with_reducible first | exact HB.out | apply below_alloc | apply pw_below_drewN | apply below_drew1) | exact HB.out)⟩
      | true =>
        cases gk with
        | zero => have := HK.out; omega
        | succ g1 =>
          have hU : okUp (ints k0 k1 k2 k3 k4 k5 k6 k7 k8 k9 k10) (i + 1) := by
            intro j hj
            by_cases hji : j < i
            · exact HU.out j hji
            · have : j = i := by omega
              subst this; exact hb
          rcases hcls with ⟨hB, hL⟩ | ⟨hB, hL⟩ | ⟨hB, hL⟩
          · have hW := step _ _ hB hL
            go_wp2
            go_quiet (first | exact Calls.quiet_of ((impl_bitsOf.calls (i : Int) 8 _ hB).mono (fun _ _ h => ⟨h.1, h.2.out⟩)) | exact Calls.quiet_of ((impl_within.calls _ (-1) 255 true _ hW).mono (fun _ _ h => ⟨h.1, h.2.out⟩)))
            go_wp2
            go_roundg g1
            case measure => omega
            case rel => exact ⟨i + 1, rfl, ⟨by have := HK.out; omega⟩, ⟨hU⟩, ⟨BK.out⟩, ⟨by repeat (first | (with_reducible first | exact HB.out | apply below_alloc | apply pw_below_drewN | apply below_drew1) | exact HB.out)⟩⟩
          · have hW := step _ _ hB hL
            go_wp2
            go_quiet (first | exact Calls.quiet_of ((impl_bitsOf.calls (i : Int) 16 _ hB).mono (fun _ _ h => ⟨h.1, h.2.out⟩)) | exact Calls.quiet_of ((impl_within.calls _ (-1) 65535 true _ hW).mono (fun _ _ h => ⟨h.1, h.2.out⟩)))
            go_wp2
            go_roundg g1
            case measure => omega
            case rel => exact ⟨i + 1, rfl, ⟨by have := HK.out; omega⟩, ⟨hU⟩, ⟨BK.out⟩, ⟨by repeat (first | (with_reducible first | exact HB.out | apply below_alloc | apply pw_below_drewN | apply below_drew1) | exact HB.out)⟩⟩
          · have hW := step _ _ hB hL
            go_wp2
            go_quiet (first | exact Calls.quiet_of ((impl_bitsOf.calls (i : Int) 1 _ hB).mono (fun _ _ h => ⟨h.1, h.2.out⟩)) | exact Calls.quiet_of ((impl_within.calls _ (-1) 1 true _ hW).mono (fun _ _ h => ⟨h.1, h.2.out⟩)))
            go_wp2
            go_roundg g1
            case measure => omega
            case rel => exact ⟨i + 1, rfl, ⟨by have := HK.out; omega⟩, ⟨hU⟩, ⟨BK.out⟩, ⟨by repeat (first | (with_reducible first | exact HB.out | apply below_alloc | apply pw_below_drewN | apply below_drew1) | exact HB.out)⟩⟩
    · have ci : decide ((i : Int) < 11) = false := decide_eq_false (by omega)
      have hr : r = true := by
        have h' := Option.some.inj h
        rw [← h']
        exact all_true _ (fun j hj => HU.out j (by omega))
      subst hr
      go_wp2
      go_ret
      exact ⟨rfl, by repeat (first | (with_reducible first | exact HB.out | apply below_alloc | apply pw_below_drewN | apply below_drew1) | exact HB.out)⟩
end Go.Proofs.Ytecccbecflbcfaa.PKtl
