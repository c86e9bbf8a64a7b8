import Derived.Test.YtecccbecflbcfaaSLPDuox0
import Derived.StillTailTactics
import Derived.Test.YtecccbecflbcfaaSLMyFields
set_option linter.unusedVariables false
namespace Go.Proofs.Ytecccbecflbcfaa.PDuo
open Go.RowKit Go.Proofs.Ytecccbecflbcfaa.Know Go.Proofs.YtecccbecflbcfaaW.PrintWords Go.Proofs.YtecccbecflbcfaaW.PrintLast Go.Proofs.YtecccbecflbcfaaW.PrintMore
def lessAt (a b : List Int) (i : Nat) : Bool := !(decide (pAt a i ≥ 0) && (pAt a i != pAt b i))
def impl_less.f (a0 a1 a2 a3 a4 a5 a6 a7 a8 a9 a10 b0 b1 b2 b3 b4 b5 b6 b7 b8 b9 b10 : Int) : Option Bool := some ((List.range 11).all (lessAt (ints a0 a1 a2 a3 a4 a5 a6 a7 a8 a9 a10) (ints b0 b1 b2 b3 b4 b5 b6 b7 b8 b9 b10)))
set_option maxHeartbeats 2000000 in
set_option maxRecDepth 100000 in
theorem impl_less.calls (a0 a1 a2 a3 a4 a5 a6 a7 a8 a9 a10 b0 b1 b2 b3 b4 b5 b6 b7 b8 b9 b10 : Int) (r : Bool) (w : World) (h : impl_less.f a0 a1 a2 a3 a4 a5 a6 a7 a8 a9 a10 b0 b1 b2 b3 b4 b5 b6 b7 b8 b9 b10 = some r) : Calls Try.prog 50 #[.agg #[.int .i64 a0, .int .i64 a1, .int .i64 a2, .int .i64 a3, .int .i64 a4, .int .i64 a5, .int .i64 a6, .int .i64 a7, .int .i64 a8, .int .i64 a9, .int .i64 a10], .agg #[.int .i64 b0, .int .i64 b1, .int .i64 b2, .int .i64 b3, .int .i64 b4, .int .i64 b5, .int .i64 b6, .int .i64 b7, .int .i64 b8, .int .i64 b9, .int .i64 b10]] w fun e w' => e = .returned (.bool r) ∧ Below w.heap.size w w' := by
  have HB := Aside0.mk (Below.refl w.heap.size w)
  have hu66 := Try.underlying66
  have hu23 := Try.underlying23
  go_enter Try.func50, Try.ntmps50
  try go_wp2_with (first | (((with_reducible refine gate_dst (N := 2) rfl ?_); refine box_event ?hg (N := 2) ?hd (cs := #[.int .i64 a0, .int .i64 a1, .int .i64 a2, .int .i64 a3, .int .i64 a4, .int .i64 a5, .int .i64 a6, .int .i64 a7, .int .i64 a8, .int .i64 a9, .int .i64 a10]) (t := 23) ?hr ?_; (case hd => rfl); (case hg => rfl); (case hr => first | (go_simp; done) | (go_simp; rfl)); intro ga hg w8 hbox hb; have n0_ := Aside0.mk (below_step (by repeat (first | (with_reducible first | exact HB.out | apply below_alloc | apply pw_below_drewN | apply below_drew1) | exact HB.out)) hb); have n1_ := Aside0.mk (hbox); have n2_ := Aside0.mk ((by rw [hg]; exact (below_size (by repeat (first | (with_reducible first | exact HB.out | apply below_alloc | apply pw_below_drewN | apply below_drew1) | exact HB.out))) : w.heap.size ≤ ga)); clear HB; have HB := n0_; have Bga := n1_; have Gga := n2_; clear n0_ n1_ n2_; clear hb hbox hg)) | (((with_reducible refine gate_dst (N := 3) rfl ?_); refine box_event ?hg (N := 3) ?hd (cs := #[.int .i64 b0, .int .i64 b1, .int .i64 b2, .int .i64 b3, .int .i64 b4, .int .i64 b5, .int .i64 b6, .int .i64 b7, .int .i64 b8, .int .i64 b9, .int .i64 b10]) (t := 23) ?hr ?_; (case hd => rfl); (case hg => rfl); (case hr => first | (go_simp; done) | (go_simp; rfl)); intro gb hg w9 hbox hb; have mBga := Aside0.mk ((hb.block _ (lt_size Bga.out)).trans Bga.out); clear Bga; have Bga := mBga; clear mBga; have n0_ := Aside0.mk (below_step (by repeat (first | (with_reducible first | exact HB.out | apply below_alloc | apply pw_below_drewN | apply below_drew1) | exact HB.out)) hb); have n1_ := Aside0.mk (hbox); have n2_ := Aside0.mk ((by rw [hg]; exact (below_size (by repeat (first | (with_reducible first | exact HB.out | apply below_alloc | apply pw_below_drewN | apply below_drew1) | exact HB.out))) : w.heap.size ≤ gb)); clear HB; have HB := n0_; have Bgb := n1_; have Ggb := n2_; clear n0_ n1_ n2_; clear hb hbox hg)))
  refine (fields_calls gb w9).mono ?_
  rintro e wa ⟨rfl, hba⟩
  have mA := Aside0.mk ((hba.block ga (lt_size Bga.out)).trans Bga.out)
  have mB := Aside0.mk ((hba.block gb (lt_size Bgb.out)).trans Bgb.out)
  have mH := Aside0.mk (below_step HB.out hba)
  clear HB Bga Bgb hba
  have HB := mH
  have Bga := mA
  have Bgb := mB
  clear mA mB mH
  have hst := run_storeCells_new (P := Try.prog) wa 66 #[.pointer none, .pointer none, .pointer none, .pointer none, .pointer none, .pointer none, .pointer none, .pointer none, .pointer none, .pointer none, .pointer none] (ptrs gb) (by kernel_rfl) rfl (by kernel_rfl)
  try go_wp2_with (fail)
  clear hst
  have hal := below_alloc (Below.refl wa.heap.size wa) (.cells (ptrs gb) 66)
  have hbl := below_alloc HB.out (.cells (ptrs gb) 66)
  have mA := Aside0.mk ((hal.block ga (lt_size Bga.out)).trans Bga.out)
  have mB := Aside0.mk ((hal.block gb (lt_size Bgb.out)).trans Bgb.out)
  have mC := Aside0.mk (heap_alloc_new wa (.cells (ptrs gb) 66))
  have mH := Aside0.mk hbl
  clear HB Bga Bgb hal hbl
  have HB := mH
  have Bga := mA
  have Bgb := mB
  have Bgc := mC
  clear mA mB mC mH
  generalize wa.alloc (.cells (ptrs gb) 66) = wb at HB Bga Bgb Bgc ⊢
  generalize wa.heap.size = gc at Bgc ⊢
  refine (fields_calls ga wb).mono ?_
  rintro e wc ⟨rfl, hbc⟩
  have mA := Aside0.mk ((hbc.block ga (lt_size Bga.out)).trans Bga.out)
  have mB := Aside0.mk ((hbc.block gb (lt_size Bgb.out)).trans Bgb.out)
  have mC := Aside0.mk ((hbc.block gc (lt_size Bgc.out)).trans Bgc.out)
  have mH := Aside0.mk (below_step HB.out hbc)
  clear HB Bga Bgb Bgc hbc
  have HB := mH
  have Bga := mA
  have Bgb := mB
  have Bgc := mC
  clear mA mB mC mH
  go_wp2
  go_loopg [10] 12 (fun kq v10 w' => ∃ (i : Nat), v10 = .int .i64 (i : Int) ∧ Aside0 (kq + i = 12) ∧ Aside0 (∀ j, j < i → lessAt (ints a0 a1 a2 a3 a4 a5 a6 a7 a8 a9 a10) (ints b0 b1 b2 b3 b4 b5 b6 b7 b8 b9 b10) j = true) ∧ Aside0 (w'.heap[ga]? = some (.cells #[.int .i64 a0, .int .i64 a1, .int .i64 a2, .int .i64 a3, .int .i64 a4, .int .i64 a5, .int .i64 a6, .int .i64 a7, .int .i64 a8, .int .i64 a9, .int .i64 a10] 23)) ∧ Aside0 (w'.heap[gb]? = some (.cells #[.int .i64 b0, .int .i64 b1, .int .i64 b2, .int .i64 b3, .int .i64 b4, .int .i64 b5, .int .i64 b6, .int .i64 b7, .int .i64 b8, .int .i64 b9, .int .i64 b10] 23)) ∧ Aside0 (w'.heap[gc]? = some (.cells (ptrs gb) 66)) ∧ Aside0 (Below w.heap.size w w'))
  case atStart => exact ⟨0, rfl, ⟨rfl⟩, ⟨fun j hj => absurd hj (Nat.not_lt_zero j)⟩, Bga, Bgb, Bgc, HB⟩
  case round =>
    clear Bga Bgb Bgc HB
    obtain ⟨i, rfl, HK, HU, Bga, Bgb, Bgc, HB⟩ := hrel
    by_cases hi : i < 11
    · have ci : decide ((i : Int) < 11) = true := decide_eq_true (by omega)
      have p1 : 0 ≤ (i : Int) := by omega
      have p2 : (i : Int) < 11 := by omega
      have hx := idx_run ga i hi
      have hca : wr.cell? ⟨ga, i, none⟩ = some (.int .i64 (pAt (ints a0 a1 a2 a3 a4 a5 a6 a7 a8 a9 a10) i)) := (blk_cell Bga.out i).trans (ints_at a0 a1 a2 a3 a4 a5 a6 a7 a8 a9 a10 i hi)
      have hcb : wr.cell? ⟨gb, i, none⟩ = some (.int .i64 (pAt (ints b0 b1 b2 b3 b4 b5 b6 b7 b8 b9 b10) i)) := (blk_cell Bgb.out i).trans (ints_at b0 b1 b2 b3 b4 b5 b6 b7 b8 b9 b10 i hi)
      have hcc : wr.cell? ⟨gc, i, none⟩ = some (.pointer (some ⟨gb, i, none⟩)) := (blk_cell Bgc.out i).trans (ptrs_at gb i hi)
      have hL : lessAt (ints a0 a1 a2 a3 a4 a5 a6 a7 a8 a9 a10) (ints b0 b1 b2 b3 b4 b5 b6 b7 b8 b9 b10) i = !(decide (pAt (ints a0 a1 a2 a3 a4 a5 a6 a7 a8 a9 a10) i ≥ 0) && (pAt (ints a0 a1 a2 a3 a4 a5 a6 a7 a8 a9 a10) i != pAt (ints b0 b1 b2 b3 b4 b5 b6 b7 b8 b9 b10) i)) := rfl
      generalize pAt (ints a0 a1 a2 a3 a4 a5 a6 a7 a8 a9 a10) i = x at hca hL
      generalize pAt (ints b0 b1 b2 b3 b4 b5 b6 b7 b8 b9 b10) i = y at hcb hL
      by_cases h0 : 0 ≤ x
      · have c0 : decide (0 ≤ x) = true := decide_eq_true h0
        by_cases he : x = y
        · have c1 : (x == y) = true := beq_iff_eq.mpr he
          have c2 : (x != y) = false := bne_eq_false_iff_eq.mpr he
          have hT : lessAt (ints a0 a1 a2 a3 a4 a5 a6 a7 a8 a9 a10) (ints b0 b1 b2 b3 b4 b5 b6 b7 b8 b9 b10) i = true := by rw [hL, c2]; simp
          clear he
          cases gk with
          | zero => have := HK.out; omega
          | succ g1 =>
            have hU : ∀ j, j < i + 1 → lessAt (ints a0 a1 a2 a3 a4 a5 a6 a7 a8 a9 a10) (ints b0 b1 b2 b3 b4 b5 b6 b7 b8 b9 b10) j = true := by
              intro j hj
              by_cases hji : j < i
              · exact HU.out j hji
              · have : j = i := by omega
                subst this; exact hT
            go_wp2
            go_quiet (fail)
            go_wp2
            go_roundg g1
            case measure => omega
            case rel => exact ⟨i + 1, rfl, ⟨by have := HK.out; omega⟩, ⟨hU⟩, ⟨Bga.out⟩, ⟨Bgb.out⟩, ⟨Bgc.out⟩, ⟨by repeat (first | (with_reducible first | exact HB.out | apply below_alloc | apply pw_below_drewN | apply below_drew1) | exact HB.out)⟩⟩
        · have c1 : (x == y) = false := beq_eq_false_iff_ne.mpr he
          have c2 : (x != y) = true := bne_iff_ne.mpr he
          have hF : lessAt (ints a0 a1 a2 a3 a4 a5 a6 a7 a8 a9 a10) (ints b0 b1 b2 b3 b4 b5 b6 b7 b8 b9 b10) i = false := by rw [hL, c2]; simp [h0]
          have hr : r = false := by
            have h' := Option.some.inj h
            rw [← h']
            exact all_no _ i hi hF
          subst hr
          go_wp2
          go_quiet (fail)
          go_wp2
          go_ret
          exact ⟨rfl, by repeat (first | (with_reducible first | exact HB.out | apply below_alloc | apply pw_below_drewN | apply below_drew1) | exact HB.out)⟩
      · have c0 : decide (0 ≤ x) = false := decide_eq_false h0
        have hT : lessAt (ints a0 a1 a2 a3 a4 a5 a6 a7 a8 a9 a10) (ints b0 b1 b2 b3 b4 b5 b6 b7 b8 b9 b10) i = true := by rw [hL]; simp [h0]
        cases gk with
        | zero => have := HK.out; omega
        | succ g1 =>
          have hU : ∀ j, j < i + 1 → lessAt (ints a0 a1 a2 a3 a4 a5 a6 a7 a8 a9 a10) (ints b0 b1 b2 b3 b4 b5 b6 b7 b8 b9 b10) j = true := by
            intro j hj
            by_cases hji : j < i
            · exact HU.out j hji
            · have : j = i := by omega
              subst this; exact hT
          go_wp2
          go_quiet (fail)
          go_wp2
          go_roundg g1
          case measure => omega
          case rel => exact ⟨i + 1, rfl, ⟨by have := HK.out; omega⟩, ⟨hU⟩, ⟨Bga.out⟩, ⟨Bgb.out⟩, ⟨Bgc.out⟩, ⟨by repeat (first | (with_reducible first | exact HB.out | apply below_alloc | apply pw_below_drewN | apply below_drew1) | exact HB.out)⟩⟩
    · have ci : decide ((i : Int) < 11) = false := decide_eq_false (by omega)
      have hr : r = true := by
        have h' := Option.some.inj h
        rw [← h']
        exact all_yes _ (fun j hj => HU.out j (by omega))
      subst hr
      go_wp2
      go_ret
      exact ⟨rfl, by repeat (first | (with_reducible first | exact HB.out | apply below_alloc | apply pw_below_drewN | apply below_drew1) | exact HB.out)⟩
end Go.Proofs.Ytecccbecflbcfaa.PDuo
