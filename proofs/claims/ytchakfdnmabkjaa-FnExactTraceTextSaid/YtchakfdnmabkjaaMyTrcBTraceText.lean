/- The contract of loop.example/g00693/impl.TraceText. -/
import Derived.Test.YtchakfdnmabkjaaPTrcx0
import Derived.Test.YtchakfdnmabkjaaPTrcx4
import Derived.StillTailTactics
import Derived.Test.YtchakfdnmabkjaaMyBuilder
set_option linter.unusedVariables false
namespace Go.Proofs.Ytchakfdnmabkjaa.PTrc
open Go.RowKit Go.Proofs.YtchakfdnmabkjaaW.PrintWords Go.Proofs.YtchakfdnmabkjaaW.PrintLast Go.Proofs.YtchakfdnmabkjaaW.PrintMore
attribute [local go_sem] Go.Proofs.Ytchakfdnmabkjaa.Cell2.cell_set_off Go.Proofs.Ytchakfdnmabkjaa.Cell2.set_drewN Go.Proofs.Ytchakfdnmabkjaa.Cell2.not_beq_bool
def impl_TraceText.l0 : Nat → List S30 → List UInt8 → Int → Option (List UInt8)
  | 0, _, _, _ => none
  | k + 1, x0, x3, x4 => if x4 < (x0.length : Int) then (if 0 ≤ x4 then ((impl_CycText.f k ((rd_T30 x0 x4).f0) ((rd_T30 x0 x4).f1) ((rd_T30 x0 x4).f2)).bind fun t => (if t.size ≤ 1000 then (if x3.length ≤ 2000000 then (impl_TraceText.l0 k x0 (x3 ++ (t ++ (⟨#[10]⟩ : ByteArray)).data.toList) (x4 + 1)) else (none)) else (none))) else (none)) else (some x3)
def impl_TraceText.f (k : Nat) (l0 : List S30) : Option (ByteArray) := if (l0.length : Int) > 1200 then (some (⟨#[]⟩ : ByteArray)) else ((impl_TraceText.l0 k l0 [] 0).bind fun b => some (⟨b.toArray⟩ : ByteArray))
theorem impl_TraceText.mono_l : ∀ k, (∀ y0 y1 y2, LeO (impl_TraceText.l0 k y0 y1 y2) (impl_TraceText.l0 (k + 1) y0 y1 y2))
  | 0 => fun _ _ _ r h => by simp [impl_TraceText.l0] at h
  | k + 1 => by
    have ih0 := impl_TraceText.mono_l k
    intro y0 y1 y2
    unfold impl_TraceText.l0
    repeat' first
      | (with_reducible exact ih0 _ _ _)
      | (with_reducible exact impl_CycText.mono _ _ _ _)
      | (with_reducible exact LeO.refl _)
      | (with_reducible exact LeO.none _)
      | (with_reducible refine LeO.ite ?_ ?_)
      | (with_reducible refine LeO.bind ?_ (fun _ => ?_))
theorem impl_TraceText.mono : ∀ a0 k, LeO (impl_TraceText.f k a0) (impl_TraceText.f (k + 1) a0) := by
  intro a0 k
  have ih0 := impl_TraceText.mono_l k
  unfold impl_TraceText.f
  repeat' first
      | (with_reducible exact ih0 _ _ _)
      | (with_reducible exact LeO.refl _)
      | (with_reducible refine LeO.ite ?_ ?_)
      | (with_reducible refine LeO.bind ?_ (fun _ => ?_))
theorem cells_of_text (t : ByteArray) (acc : List UInt8) : Lib.byteCells acc ++ Lib.strCells t = Lib.byteCells (acc ++ t.data.toList) := by
  simp [Lib.byteCells, Lib.strCells]
set_option maxHeartbeats 2000000 in
set_option maxRecDepth 100000 in
theorem impl_TraceText.calls (k : Nat) (A0 : Option Addr) (c0 : Nat) (l0 : List S30) (r : ByteArray) (w : World) (hr0 : Kd.C k30 w A0 l0.length l0) (hc0 : l0.length ≤ c0) (h : impl_TraceText.f k l0 = some r) :
    Calls Try.prog 27 #[.slice A0 l0.length c0] w fun e w' => e = .returned (.string r) ∧ Below w.heap.size w w' := by
  have HR0 := Aside0.mk hr0
  have HC0 := Aside0.mk hc0
  clear hr0 hc0
  unfold impl_TraceText.f at h
  by_cases hs : (l0.length : Int) > 1200
  · rw [if_pos hs] at h
    obtain rfl := Option.some.inj h
    have c1 : decide (1200 < (l0.length : Int)) = true := decide_eq_true hs
    have c2 : decide (1200 < l0.length) = true := decide_eq_true (by omega)
    clear hs h
    go_enter Try.func27, Try.ntmps27
    go_wp2
    go_ret
    exact ⟨rfl, Below.refl _ _⟩
  rw [if_neg hs] at h
  obtain ⟨b, hb, h⟩ := Option.bind_eq_some_iff.mp h
  have HR := Aside0.mk (Option.some.inj h)
  clear h
  have H := Aside0.mk hb
  clear hb
  have c1 : decide (1200 < (l0.length : Int)) = false := decide_eq_false hs
  have c2 : decide (1200 < l0.length) = false := decide_eq_false (by omega)
  have hl0 : l0.length ≤ 1200 := by omega
  clear hs
  have HB := Aside0.mk (Below.refl w.heap.size w)
  have hu30 := Try.underlying30
  have hu57 := Try.underlying57
  go_enter Try.func27, Try.ntmps27
  try go_wp2_with (first | ((with_reducible refine gate_dst (N := 3) rfl ?_); refine box_event ?hg (N := 3) ?hd (cs := #[.pointer none, .slice none 0 0]) (t := 57) ?hr ?_; (case hd => rfl); (case hg => rfl); (case hr => first | (go_simp; done) | (go_simp; rfl)); intro gB hg v1_ hbox hb; have n0_ := Aside0.mk (below_step (by repeat (first | (with_reducible first | exact HB.out | apply below_alloc | apply pw_below_drewN | apply below_drew1) | exact HB.out)) hb); have n1_ := Aside0.mk (hbox); have n2_ := Aside0.mk ((by rw [hg]; exact (below_size (by repeat (first | (with_reducible first | exact HB.out | apply below_alloc | apply pw_below_drewN | apply below_drew1) | exact HB.out))) : w.heap.size ≤ gB)); clear HB; have HB := n0_; have BgB := n1_; have GgB := n2_; clear n0_ n1_ n2_; clear hb hbox hg; have hcgB0 : v1_.cell? ⟨gB, 0, none⟩ = some (.pointer none) := (blk_cell BgB.out 0).trans rfl; have hfgB0 := blk_frozen BgB.out 0; have hcgB1 : v1_.cell? ⟨gB, 1, none⟩ = some (.slice none 0 0) := (blk_cell BgB.out 1).trans rfl; have hfgB1 := blk_frozen BgB.out 1))
  clear hcgB0 hfgB0 hcgB1 hfgB1
  have mgB := Aside0.mk (show (((v1_).setCell ⟨gB, 0, none⟩ (.pointer none)).setCell ⟨gB, 1, none⟩ (.slice none 0 0)).heap[gB]? = some (.cells #[.pointer none, .slice none 0 0] 57 (0, 0)) from (by refine blk_put (cs := #[.pointer none, .slice none 0 0]) ?_ 1 _ rfl; refine blk_put (cs := #[.pointer none, .slice none 0 0]) ?_ 0 _ rfl; exact BgB.out))
  have mH := Aside0.mk (below_set (j := 1) (v := .slice none 0 0) (below_set (j := 0) (v := .pointer none) HB.out GgB.out) GgB.out)
  clear HB BgB
  have HB := mH
  have BgB := mgB
  clear mH mgB
  with_reducible generalize ((v1_).setCell ⟨gB, 0, none⟩ (.pointer none)).setCell ⟨gB, 1, none⟩ (.slice none 0 0) = v2_ at HB BgB ⊢
  have HBd := Aside0.mk (Bld.fresh (B := w.heap.size) GgB.out BgB.out)
  clear BgB
  go_loopg [12] k (fun kq v12 w' => ∃ (x3 : List UInt8) (x4 : Int), v12 = .int .i64 x4 ∧ Aside0 (impl_TraceText.l0 kq l0 x3 x4 = some b) ∧ Aside0 (kq ≤ k) ∧ Aside0 (Lib.IsBuilderF 57 5 w.heap.size gB (Lib.byteCells x3) w') ∧ Aside0 (Below w.heap.size w w'))
  case atStart => exact ⟨[], 0, rfl, H, ⟨Nat.le_refl _⟩, HBd, HB⟩
  case round =>
    clear H HBd HB
    obtain ⟨x3, x4, rfl, HA, HK, HBd, HB⟩ := hrel
    cases gk with
    | zero => exact absurd HA.out (by simp [impl_TraceText.l0])
    | succ k1 =>
      have H := HA.out
      clear HA
      simp only [impl_TraceText.l0] at H
      by_cases c5 : x4 < (l0.length : Int)
      · rw [if_pos c5] at H
        by_cases c6 : 0 ≤ x4
        · rw [if_pos c6] at H
          obtain ⟨t, ht, H⟩ := Option.bind_eq_some_iff.mp H
          have HT := Aside0.mk ht
          clear ht
          by_cases c8 : t.size ≤ 1000
          rotate_left
          · rw [if_neg c8] at H; exact absurd H (by simp)
          by_cases c9 : x3.length ≤ 2000000
          rotate_left
          · rw [if_pos c8, if_neg c9] at H; exact absurd H (by simp)
          rw [if_pos c8, if_pos c9] at H
          have H1 := Aside0.mk H
          clear H
          obtain ⟨ad, ead, hx0, hx1, hx2⟩ := at_T30 HR0.out x4 c6 c5
          cases ead
          replace hx0 := (HB.out.cell (World.block_lt_of_cell? w _ hx0)).trans hx0
          replace hx1 := (HB.out.cell (World.block_lt_of_cell? w _ hx1)).trans hx1
          replace hx2 := (HB.out.cell (World.block_lt_of_cell? w _ hx2)).trans hx2
          have c5b : decide (x4 < (l0.length : Int)) = true := decide_eq_true c5
          have s0 : (t.size + 1 ≤ 9223372036854775807) = True := eq_true (by omega)
          have s1 : decide (t.size + 1 ≤ 9223372036854775807) = true := decide_eq_true (by omega)
          have s2 : (9223372036854775807 < t.size + 1) = False := eq_false (by omega)
          have hbnd : x4 ≤ 1200 := by omega
          have HW := Aside0.mk (Below.refl wr.heap.size wr)
          try go_wp2_with (first | ((with_reducible refine gate_dst (N := 5) rfl ?_); refine box_event ?hg (N := 5) ?hd (cs := #[.int .u16 0, .int .u8 0, .bool false]) (t := 30) ?hr ?_; (case hd => rfl); (case hg => rfl); (case hr => first | (go_simp; done) | (go_simp; rfl)); intro gc hg v1_ hbox hb; have hw_ := Aside0.mk (below_step HW.out hb); have G2gc := Aside0.mk (show wr.heap.size ≤ gc from Nat.le_of_eq hg.symm); have n0_ := Aside0.mk (below_step (by repeat (first | (with_reducible first | exact HB.out | apply below_alloc | apply pw_below_drewN | apply below_drew1) | exact HB.out)) hb); have n1_ := Aside0.mk (hbox); have n2_ := Aside0.mk ((by rw [hg]; exact (below_size (by repeat (first | (with_reducible first | exact HB.out | apply below_alloc | apply pw_below_drewN | apply below_drew1) | exact HB.out))) : w.heap.size ≤ gc)); clear HB; have HB := n0_; have Bgc := n1_; have Ggc := n2_; clear n0_ n1_ n2_; clear HW; have HW := hw_; clear hw_; clear hb hbox hg; have hcgc0 : v1_.cell? ⟨gc, 0, none⟩ = some (.int .u16 0) := (blk_cell Bgc.out 0).trans rfl; have hfgc0 := blk_frozen Bgc.out 0; have hcgc1 : v1_.cell? ⟨gc, 1, none⟩ = some (.int .u8 0) := (blk_cell Bgc.out 1).trans rfl; have hfgc1 := blk_frozen Bgc.out 1; have hcgc2 : v1_.cell? ⟨gc, 2, none⟩ = some (.bool false) := (blk_cell Bgc.out 2).trans rfl; have hfgc2 := blk_frozen Bgc.out 2))
          clear hx0 hx1 hx2
          clear hcgc0 hfgc0 hcgc1 hfgc1 hcgc2 hfgc2
          have hw_ := Aside0.mk (below_set (j := 2) (v := .bool (rd_T30 l0 x4).f2) (below_set (j := 1) (v := .int .u8 (rd_T30 l0 x4).f1) (below_set (j := 0) (v := .int .u16 (rd_T30 l0 x4).f0) HW.out G2gc.out) G2gc.out) G2gc.out)
          clear HW
          have HW := hw_
          clear hw_
          have mgc := Aside0.mk (show ((((v1_).setCell ⟨gc, 0, none⟩ (.int .u16 (rd_T30 l0 x4).f0)).setCell ⟨gc, 1, none⟩ (.int .u8 (rd_T30 l0 x4).f1)).setCell ⟨gc, 2, none⟩ (.bool (rd_T30 l0 x4).f2)).heap[gc]? = some (.cells #[.int .u16 (rd_T30 l0 x4).f0, .int .u8 (rd_T30 l0 x4).f1, .bool (rd_T30 l0 x4).f2] 30 (0, 0)) from (by refine blk_put (cs := #[.int .u16 (rd_T30 l0 x4).f0, .int .u8 (rd_T30 l0 x4).f1, .bool false]) ?_ 2 _ rfl; refine blk_put (cs := #[.int .u16 (rd_T30 l0 x4).f0, .int .u8 0, .bool false]) ?_ 1 _ rfl; refine blk_put (cs := #[.int .u16 0, .int .u8 0, .bool false]) ?_ 0 _ rfl; exact Bgc.out))
          have mH := Aside0.mk (below_set (j := 2) (v := .bool (rd_T30 l0 x4).f2) (below_set (j := 1) (v := .int .u8 (rd_T30 l0 x4).f1) (below_set (j := 0) (v := .int .u16 (rd_T30 l0 x4).f0) HB.out Ggc.out) Ggc.out) Ggc.out)
          clear HB Bgc
          have HB := mH
          have Bgc := mgc
          clear mH mgc
          with_reducible generalize (((v1_).setCell ⟨gc, 0, none⟩ (.int .u16 (rd_T30 l0 x4).f0)).setCell ⟨gc, 1, none⟩ (.int .u8 (rd_T30 l0 x4).f1)).setCell ⟨gc, 2, none⟩ (.bool (rd_T30 l0 x4).f2) = v2_ at HB HW Bgc ⊢
          refine (impl_CycText.calls k1 (rd_T30 l0 x4).f0 (rd_T30 l0 x4).f1 (rd_T30 l0 x4).f2 t _ HT.out).mono ?_
          rintro e v3_ ⟨rfl, hb_⟩
          have hw_ := Aside0.mk (below_step HW.out hb_)
          clear HW
          have HW := hw_
          clear hw_
          have mgc := Aside0.mk ((hb_.block gc (blk_lt Bgc.out)).trans Bgc.out)
          have mH := Aside0.mk (below_step HB.out hb_)
          clear HB Bgc hb_
          have HB := mH
          have Bgc := mgc
          clear mH mgc
          try go_wp2_with (fail)
          have hle := HB.out.size
          have h0 := (Lib.byteCells_length x3)
          have hlen : (Lib.byteCells x3).length + (t ++ (⟨#[10]⟩ : ByteArray)).size ≤ 140737488355328 := by rw [h0, ByteArray.size_append]; show x3.length + (t.size + 1) ≤ _; omega
          refine (Bld.write w.heap.size gB (Lib.byteCells x3) (t ++ (⟨#[10]⟩ : ByteArray)) _ (Bld.keeps HBd.out HW.out) hlen hle).mono ?_
          rintro e w9 ⟨rfl, hbd, hb9⟩
          have HB2 := Aside0.mk (HB.out.trans hb9)
          have HD2 := Aside0.mk hbd
          clear hbd hb9 HB hle h0 hlen
          try go_wp2_with (fail)
          rw [cells_of_text] at HD2
          go_roundg k1
          case measure => omega
          case rel => exact ⟨_, x4 + 1, rfl, H1, ⟨by have := HK.out; omega⟩, ⟨.inr HD2.out⟩, HB2⟩
        · rw [if_neg c6] at H; exact absurd H (by simp)
      · rw [if_neg c5] at H
        obtain rfl := Option.some.inj H
        have c5b : decide (x4 < (l0.length : Int)) = false := decide_eq_false c5
        clear c5 H
        try go_wp2_with (fail)
        refine (Try.Builder_String_any_f w.heap.size gB x3 _ HBd.out HB.out.size).mono ?_
        rintro e w9 ⟨rfl, _, hb9⟩
        have HB2 := Aside0.mk (HB.out.trans hb9)
        clear hb9 HB
        go_wp2
        go_ret
        exact ⟨by rw [← HR.out]; rfl, HB2.out⟩
end Go.Proofs.Ytchakfdnmabkjaa.PTrc
