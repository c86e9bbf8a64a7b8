import Derived.Test.YtecccbecflbcfaaSCPKtlx0
import Derived.Lib.SlBytesConst
import Derived.Laws.BytesArg
set_option linter.unusedVariables false
namespace Go.Proofs.Ytecccbecflbcfaa.PKtl
open Go.RowKit Go.Proofs.YtecccbecflbcfaaW.PrintWords Go.Proofs.YtecccbecflbcfaaW.PrintLast Go.Proofs.YtecccbecflbcfaaW.PrintMore
attribute [local go_sem] Go.Proofs.Ytecccbecflbcfaa.Cell2.cell_set_off Go.Proofs.Ytecccbecflbcfaa.Cell2.set_drewN Go.Proofs.Ytecccbecflbcfaa.Cell2.not_beq_bool
def letter (i : Nat) : Int := [78, 86, 68, 73, 90, 67].getD i 0
def flagAt (l : List Bool) (i : Nat) : Bool := l.getD i false
def flagRow (l : List Bool) (n : Nat) : List Int := (List.range 6).map fun j => if j < n ∧ flagAt l j = false then 45 else letter j
def rowV (l : List Bool) (n : Nat) : Array Value := ((flagRow l n).map (Value.int .u8)).toArray
theorem row_len (l : List Bool) (n : Nat) : (flagRow l n).length = 6 := by simp [flagRow]
theorem rowV_at (l : List Bool) (n i : Nat) (h : i < 6) : (rowV l n)[i]? = some (.int .u8 ((flagRow l n).getD i 0)) := by
  simp [rowV, row_len, h]
theorem row_at (l : List Bool) (n i : Nat) (h : i < 6) : (flagRow l n).getD i 0 = if i < n ∧ flagAt l i = false then 45 else letter i := by
  simp [flagRow, h]
theorem rowV_set (l : List Bool) (i : Nat) (h : i < 6) (hf : flagAt l i = false) : (rowV l i).setIfInBounds i (.int .u8 45) = rowV l (i + 1) := by
  apply Array.ext_getElem?
  intro j
  rw [Array.getElem?_setIfInBounds]
  by_cases hj : j < 6
  · rw [rowV_at l (i + 1) j hj, row_at l (i + 1) j hj, rowV_at l i j hj, row_at l i j hj]
    by_cases e : i = j
    · subst e
      rw [if_pos rfl, if_pos (by simp [rowV, row_len]; exact h), if_pos ⟨by omega, hf⟩]
    · rw [if_neg e]
      have : (j < i ∧ flagAt l j = false) ↔ (j < i + 1 ∧ flagAt l j = false) := ⟨fun h => ⟨by omega, h.2⟩, fun h => ⟨by omega, h.2⟩⟩
      simp only [this]
  · have h1 : (rowV l (i + 1))[j]? = none := by simp [rowV, row_len]; omega
    have h2 : (rowV l i)[j]? = none := by simp [rowV, row_len]; omega
    rw [h1, h2]
    by_cases e : i = j
    · omega
    · rw [if_neg e]
theorem rowV_keep (l : List Bool) (i : Nat) (hf : flagAt l i = true) : rowV l i = rowV l (i + 1) := by
  unfold rowV flagRow
  congr 2
  apply List.map_congr_left
  intro j _
  by_cases e : j = i
  · subst e; simp [hf]
  · have : (j < i ∧ flagAt l j = false) ↔ (j < i + 1 ∧ flagAt l j = false) := ⟨fun h => ⟨by omega, h.2⟩, fun h => ⟨by omega, h.2⟩⟩
    simp only [this]
def bools (l : List Bool) : Array Value := (l.map Value.bool).toArray
theorem bools_at (l : List Bool) (i : Nat) (h : i < l.length) : (bools l)[i]? = some (.bool (flagAt l i)) := by
  simp [bools, flagAt, h]
theorem heap_alloc_size_ (w : World) (o : Obj) : (w.alloc o).heap.size = w.heap.size + 1 := by
  show (w.heap.push o).size = _
  exact Array.size_push ..
theorem al_cell (w : World) (g : Nat) (o0 : Obj) (h : w.heap[g]? = some o0) (o : Obj) (j : Nat) : (w.alloc o).cell? ⟨g, j, none⟩ = w.cell? ⟨g, j, none⟩ := by
  have := heap_alloc_old w o (blk_lt h)
  simp only [World.cell?, this]
theorem al_free (w : World) (g : Nat) (o0 : Obj) (h : w.heap[g]? = some o0) (o : Obj) (j : Nat) : (w.alloc o).frozen? ⟨g, j, none⟩ = w.frozen? ⟨g, j, none⟩ := by
  have := heap_alloc_old w o (blk_lt h)
  simp only [World.frozen?, this]
theorem cell_row {w : World} {g : Nat} {cs : Array Value} {t : TypeId} {fr : Nat × Nat} (h : w.heap[g]? = some (.cells cs t fr)) (i : Nat) : w.cell? ⟨g, i, none⟩ = cs[i]? := cell_of_row w g i cs t fr h
theorem free_row {w : World} {g : Nat} {cs : Array Value} {t : TypeId} (h : w.heap[g]? = some (.cells cs t (6, 7))) (i : Nat) (hi : i < 6) : w.frozen? ⟨g, i, none⟩ = false := by
  simp [World.frozen?, h]; omega
theorem set_row {w : World} {g : Nat} {cs cs' : Array Value} {t : TypeId} {fr : Nat × Nat} (h : w.heap[g]? = some (.cells cs t fr)) (i : Nat) (u : Value) (e : cs.setIfInBounds i u = cs') : (w.setCell ⟨g, i, none⟩ u).heap[g]? = some (.cells cs' t fr) := by
  simp [World.setCell, Array.getElem?_modify, h, ← e]
theorem far_row {w : World} {g b i : Nat} {o : Obj} (h : w.heap[g]? = some o) (hne : g ≠ b) (u : Value) : (w.setCell ⟨b, i, none⟩ u).heap[g]? = some o := (Below.heap_setCell w ⟨b, i, none⟩ u g hne).trans h
set_option maxHeartbeats 2000000 in
set_option maxRecDepth 100000 in
theorem impl_flagsText.calls_ (b0 b1 b2 b3 b4 b5 : Bool) (w : World) : Calls Try.prog 62 #[.agg #[.bool b0, .bool b1, .bool b2, .bool b3, .bool b4, .bool b5]] w fun e w' => e = .returned (.string (strOfNums (flagRow [b0, b1, b2, b3, b4, b5] 6))) ∧ Below w.heap.size w w' := by
  have HB := Aside0.mk (Below.refl w.heap.size w)
  have hu := Try.underlying38
  have kc := fun (w : World) (C : Array Value) (n c : Nat) => Lib.run_convert_bytes_const (P := Try.prog) w 49 5 C n c Try.underlying49 Try.underlying5
  go_enter Try.func62, Try.ntmps62
  try go_wp2_with (first | ((with_reducible refine gate_dst (N := 1) rfl ?_); refine box_event ?hg (N := 1) ?hd (cs := #[.bool b0, .bool b1, .bool b2, .bool b3, .bool b4, .bool b5]) (t := 38) ?hr ?_; (case hd => rfl); (case hg => rfl); (case hr => first | (go_simp; done) | (go_simp; rfl)); intro gf hg v1_ hbox hb; have n0_ := Aside0.mk (below_step (by repeat (first | (with_reducible first | exact HB.out | apply below_alloc | apply pw_below_drewN | apply below_drew1) | exact HB.out)) hb); have n1_ := Aside0.mk (hbox); have n2_ := Aside0.mk ((by rw [hg]; exact (below_size (by repeat (first | (with_reducible first | exact HB.out | apply below_alloc | apply pw_below_drewN | apply below_drew1) | exact HB.out))) : w.heap.size ≤ gf)); clear HB; have HB := n0_; have Bgf := n1_; have Ggf := n2_; clear n0_ n1_ n2_; clear hb hbox hg; have hcgf0 : v1_.cell? ⟨gf, 0, none⟩ = some (.bool b0) := (blk_cell Bgf.out 0).trans rfl; have hfgf0 := blk_frozen Bgf.out 0; have hcgf1 : v1_.cell? ⟨gf, 1, none⟩ = some (.bool b1) := (blk_cell Bgf.out 1).trans rfl; have hfgf1 := blk_frozen Bgf.out 1; have hcgf2 : v1_.cell? ⟨gf, 2, none⟩ = some (.bool b2) := (blk_cell Bgf.out 2).trans rfl; have hfgf2 := blk_frozen Bgf.out 2; have hcgf3 : v1_.cell? ⟨gf, 3, none⟩ = some (.bool b3) := (blk_cell Bgf.out 3).trans rfl; have hfgf3 := blk_frozen Bgf.out 3; have hcgf4 : v1_.cell? ⟨gf, 4, none⟩ = some (.bool b4) := (blk_cell Bgf.out 4).trans rfl; have hfgf4 := blk_frozen Bgf.out 4; have hcgf5 : v1_.cell? ⟨gf, 5, none⟩ = some (.bool b5) := (blk_cell Bgf.out 5).trans rfl; have hfgf5 := blk_frozen Bgf.out 5; have hal : ∀ (o_ : Obj) (j_ : Nat), (v1_.alloc o_).cell? ⟨gf, j_, none⟩ = v1_.cell? ⟨gf, j_, none⟩ := fun o_ j_ => al_cell v1_ gf _ Bgf.out o_ j_; have hal2 : ∀ (o_ : Obj) (j_ : Nat), (v1_.alloc o_).frozen? ⟨gf, j_, none⟩ = v1_.frozen? ⟨gf, j_, none⟩ := fun o_ j_ => al_free v1_ gf _ Bgf.out o_ j_))
  clear hcgf0 hfgf0 hcgf1 hfgf1 hcgf2 hfgf2 hcgf3 hfgf3 hcgf4 hfgf4 hcgf5 hfgf5
  have m6 : ((v1_.alloc (.cells #[.int .u8 78, .int .u8 86, .int .u8 68, .int .u8 73, .int .u8 90, .int .u8 67] 5 (6, 7))).alloc (.cells #[.bool b0, .bool b1, .bool b2, .bool b3, .bool b4, .bool b5] 4)).heap[v1_.heap.size]? = some (.cells (rowV [b0, b1, b2, b3, b4, b5] 0) 5 (6, 7)) := by
    rw [heap_alloc_old _ _ (by rw [heap_alloc_size_]; omega), heap_alloc_new]
    rfl
  have m7 : ((v1_.alloc (.cells #[.int .u8 78, .int .u8 86, .int .u8 68, .int .u8 73, .int .u8 90, .int .u8 67] 5 (6, 7))).alloc (.cells #[.bool b0, .bool b1, .bool b2, .bool b3, .bool b4, .bool b5] 4)).heap[v1_.heap.size + 1]? = some (.cells (bools [b0, b1, b2, b3, b4, b5]) 4 (0, 0)) := by
    have := heap_alloc_new (v1_.alloc (.cells #[.int .u8 78, .int .u8 86, .int .u8 68, .int .u8 73, .int .u8 90, .int .u8 67] 5 (6, 7))) (.cells #[.bool b0, .bool b1, .bool b2, .bool b3, .bool b4, .bool b5] 4)
    rw [heap_alloc_size_] at this
    exact this
  have mG : w.heap.size ≤ v1_.heap.size := HB.out.size
  have mB := below_alloc (below_alloc HB.out (.cells #[.int .u8 78, .int .u8 86, .int .u8 68, .int .u8 73, .int .u8 90, .int .u8 67] 5 (6, 7))) (.cells #[.bool b0, .bool b1, .bool b2, .bool b3, .bool b4, .bool b5] 4)
  have mN : v1_.heap.size + 1 ≠ v1_.heap.size := by omega
  have B6 := Aside0.mk m6
  have B7 := Aside0.mk m7
  have GG := Aside0.mk mG
  have NN := Aside0.mk mN
  clear HB Bgf hal hal2 kc
  have HB := Aside0.mk mB
  clear m6 m7 mG mB mN
  generalize ((v1_.alloc (.cells #[.int .u8 78, .int .u8 86, .int .u8 68, .int .u8 73, .int .u8 90, .int .u8 67] 5 (6, 7))).alloc (.cells #[.bool b0, .bool b1, .bool b2, .bool b3, .bool b4, .bool b5] 4)) = v2_ at B6 B7 HB ⊢
  generalize v1_.heap.size + 1 = gn at B7 NN ⊢
  generalize v1_.heap.size = gm at B6 GG NN ⊢
  obtain ⟨l, hl⟩ : ∃ l : List Bool, l = [b0, b1, b2, b3, b4, b5] := ⟨_, rfl⟩
  have hlen : l.length = 6 := by rw [hl]; rfl
  rw [← hl] at B6 B7
  have HL := Aside0.mk hl
  clear hl
  go_loopg [22] 7 (fun kq v22 w' => ∃ (i : Nat), v22 = .int .i64 (i : Int) ∧ Aside0 (kq + i = 7) ∧ Aside0 (i ≤ 6) ∧ Aside0 (w'.heap[gm]? = some (.cells (rowV l i) 5 (6, 7))) ∧ Aside0 (w'.heap[gn]? = some (.cells (bools l) 4 (0, 0))) ∧ Aside0 (Below w.heap.size w w'))
  case atStart => exact ⟨0, rfl, ⟨rfl⟩, ⟨by omega⟩, B6, B7, HB⟩
  case round =>
    clear B6 B7 HB
    obtain ⟨i, rfl, HK, H6, B6, B7, HB⟩ := hrel
    by_cases hi : i < 6
    · have ci : decide ((i : Int) < 6) = true := decide_eq_true (by omega)
      have p1 : 0 ≤ (i : Int) := by omega
      have p2 : (i : Int) < 6 := by omega
      have hc : wr.cell? ⟨gn, i, none⟩ = some (.bool (flagAt l i)) := (cell_row B7.out i).trans (bools_at l i (by omega))
      have hm : wr.cell? ⟨gm, i, none⟩ = some (.int .u8 ((flagRow l i).getD i 0)) := (cell_row B6.out i).trans (rowV_at l i i hi)
      have hf : wr.frozen? ⟨gm, i, none⟩ = false := free_row B6.out i hi
      generalize (flagRow l i).getD i 0 = x at hm
      generalize hb : flagAt l i = q at hc
      have HBQ := Aside0.mk hb
      clear hb
      cases gk with
      | zero => have := HK.out; omega
      | succ g1 =>
        cases q with
        | true =>
          have hk := rowV_keep l i HBQ.out
          have K6 := Aside0.mk (hk ▸ B6.out)
          clear hk
          try go_wp2_with (fail)
          go_roundg g1
          case measure => omega
          case rel => exact ⟨i + 1, by first | rfl | simp, ⟨by have := HK.out; omega⟩, ⟨by omega⟩, K6, B7, HB⟩
        | false =>
          have hs := rowV_set l i hi HBQ.out
          have K6 := Aside0.mk (set_row B6.out i (.int .u8 45) hs)
          have K7 := Aside0.mk (far_row (b := gm) (i := i) B7.out NN.out (.int .u8 45))
          have KB := Aside0.mk (below_set (j := i) (v := .int .u8 45) HB.out GG.out)
          clear hs
          try go_wp2_with (fail)
          go_roundg g1
          case measure => omega
          case rel => exact ⟨i + 1, by first | rfl | simp, ⟨by have := HK.out; omega⟩, ⟨by omega⟩, K6, K7, KB⟩
    · have ci : decide ((i : Int) < 6) = false := decide_eq_false (by omega)
      have hi6 : i = 6 := by have := H6.out; omega
      subst hi6
      have hcv := run_convert_bytes_arg (P := Try.prog) (w := wr) 49 5 Try.underlying49 Try.underlying5 gm 0 6 6 (flagRow l 6) (row_len l 6) (fun j hj => by rw [Nat.zero_add]; exact (cell_row B6.out j).trans (rowV_at l 6 j hj)) 9 Try.underlying9
      have HF := Aside0.mk (show flagRow l 6 = flagRow [b0, b1, b2, b3, b4, b5] 6 by rw [HL.out])
      generalize flagRow l 6 = z at hcv HF
      go_wp2
      go_ret
      exact ⟨by rw [← HF.out]; rfl, HB.out⟩
def impl_flagsText.f (b0 b1 b2 b3 b4 b5 : Bool) : Option ByteArray := some (strOfNums (flagRow [b0, b1, b2, b3, b4, b5] 6))
theorem impl_flagsText.calls (b0 b1 b2 b3 b4 b5 : Bool) (r : ByteArray) (w : World) (h : impl_flagsText.f b0 b1 b2 b3 b4 b5 = some r) : Calls Try.prog 62 #[.agg #[.bool b0, .bool b1, .bool b2, .bool b3, .bool b4, .bool b5]] w fun e w' => e = .returned (.string r) ∧ Below w.heap.size w w' := by
  obtain rfl := Option.some.inj h
  exact impl_flagsText.calls_ b0 b1 b2 b3 b4 b5 w
end Go.Proofs.Ytecccbecflbcfaa.PKtl
