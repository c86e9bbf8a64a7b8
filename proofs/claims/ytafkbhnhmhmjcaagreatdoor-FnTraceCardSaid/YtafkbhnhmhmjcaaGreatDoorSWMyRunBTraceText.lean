import Derived.Test.YtafkbhnhmhmjcaaGreatDoorSWPRunx0
import Derived.Test.YtafkbhnhmhmjcaaGreatDoorSWMyRunXIndexByte
import Derived.Laws.Externs
import Derived.Lib.FrozenHead
import Derived.Test.YtafkbhnhmhmjcaaGreatDoorSWWMore
import Derived.StillTailTactics
import Derived.Test.YtafkbhnhmhmjcaaGreatDoorSWPureRunCycL
section
set_option linter.unusedVariables false
namespace Go.Proofs.YtafkbhnhmhmjcaaGreatDoor.PRun
open Go.RowKit Go.Proofs.YtafkbhnhmhmjcaaGreatDoorW.PrintWords Go.Proofs.YtafkbhnhmhmjcaaGreatDoorW.PrintLast Go.Proofs.YtafkbhnhmhmjcaaGreatDoorW.PrintMore
theorem spot_none {w : World} {ad : Addr} {v : Value} (h : w.cell? ad = some v) : ad.spot = none := by
  unfold World.cell? at h
  split at h
  · split at h
    · exact absurd h (by simp)
    · rename_i hs; simpa using hs
  · exact absurd h (by simp)
theorem add_at {ad : Addr} (h : ad.spot = none) (j : Nat) : ad.add j = ⟨ad.block, ad.off + j, none⟩ := by
  obtain ⟨b, o, s⟩ := ad
  simp only at h
  subst h
  unfold Addr.add
  split
  · rename_i h0; subst h0; rfl
  · rfl
def strings_Join.f (l0 : List ByteArray) (a1 : ByteArray) : Option ByteArray := if l0.length ≤ 1000000 then (if (Lib.join (l0.map (·.data.toList)) a1.data.toList).length ≤ 140737488355328 then some ⟨(Lib.join (l0.map (·.data.toList)) a1.data.toList).toArray⟩ else none) else none
theorem strings_Join.calls (A0 : Option Addr) (c0 : Nat) (l0 : List ByteArray) (a1 : ByteArray) (r : ByteArray) (w : World) (hr0 : Kd.C Kd.string w A0 l0.length l0) (hc0 : l0.length ≤ c0) (h : strings_Join.f l0 a1 = some r) :
    Calls Tryz.prog 22 #[.slice A0 l0.length c0, .string a1] w fun e w' => e = .returned (.string r) ∧ Below w.heap.size w w' := by
  unfold strings_Join.f at h
  by_cases h1 : l0.length ≤ 1000000
  · rw [if_pos h1] at h
    by_cases h2 : (Lib.join (l0.map (·.data.toList)) a1.data.toList).length ≤ 140737488355328
    · rw [if_pos h2] at h
      obtain rfl := Option.some.inj h
      cases l0 with
      | nil => exact (Tryz.strings_Join_none A0 c0 a1 w).mono fun e w' ⟨he, hw⟩ => ⟨he, hw ▸ Below.refl _ _⟩
      | cons x t =>
        obtain ⟨g1, g2, g3⟩ := hr0
        obtain ⟨ad, rfl, hc⟩ := g3 (by simp)
        have cell : ∀ j y, (x :: t)[j]? = some y → w.cell? (ad.add j) = some (.string y) := by
          intro j y hj
          obtain ⟨c, _, hK, hcell⟩ := hc j y hj
          have hcs : c = [.string y] := hK
          subst hcs
          have := hcell 0 (.string y) rfl
          rw [show j * Kd.string.sz + 0 = j from by show j * 1 + 0 = j; omega] at this
          exact this
        have h0 := cell 0 x rfl
        have hs : ad.spot = none := by
          have : ad.add 0 = ad := by unfold Addr.add; rw [if_pos rfl]
          rw [this] at h0
          exact spot_none h0
        have hb : ad.block < w.heap.size := by
          rw [add_at hs] at h0
          have hlt := World.block_lt_of_cell? w _ h0
          exact hlt
        have hcells : ∀ (j : Nat) y, (x :: t)[j]? = some y → w.cell? ⟨ad.block, ad.off + j, none⟩ = some (.string y) := fun j y hj => by rw [← add_at hs]; exact cell j y hj
        have e : (⟨ad.block, ad.off, none⟩ : Addr) = ad := by
          obtain ⟨b, o, s⟩ := ad
          simp only at hs
          subst hs
          rfl
        have := Tryz.strings_Join ad.block ad.off c0 (x :: t) a1 w hcells hb (by omega) hc0 h2
        rw [e] at this
        exact this
    · rw [if_neg h2] at h; exact absurd h (by simp)
  · rw [if_neg h1] at h; exact absurd h (by simp)
end Go.Proofs.YtafkbhnhmhmjcaaGreatDoor.PRun
end
section
set_option linter.unusedVariables false
namespace Go.Proofs.YtafkbhnhmhmjcaaGreatDoor.Bld
open Go.RowKit Go.Shelf
theorem szB : (Tryz.prog.info? 40).map (·.size) = some 2 := by kernel_rfl
theorem liesB : liesAt Tryz.prog Tryz.prog.depth 40 (2 / Tryz.prog.cellsOf 40) 0 40 1 = true := by kernel_rfl
theorem infoB : (Tryz.prog.info? 5).map (fun i => (i.zero, i.size, i.bytes)) = some (some (.int .u8 0), 1, 1) := by kernel_rfl
set_option maxHeartbeats 1000000 in
set_option maxRecDepth 100000 in
theorem check_fresh (b : Nat) (w : World) (h0 : w.cell? ⟨b, 0, none⟩ = some (.pointer none)) (hsh : w.shape? b = some (40, 2)) (hfz : w.frozen? ⟨b, 0, none⟩ = false) :
    Calls Tryz.prog 30 #[.pointer (some ⟨b, 0, none⟩)] w fun e w' => e = .returned (.tuple #[]) ∧ w' = w.setCell ⟨b, 0, none⟩ (.pointer (some ⟨b, 0, none⟩)) := by
  obtain ⟨j, hj, hjs⟩ := Option.map_eq_some_iff.1 szB
  go_enter Tryz.func30, Tryz.ntmps30
  go_wp2
  rw [Lib.run_to_unsafe w ⟨b, 0, none⟩ Tryz.underlying38 Tryz.underlying98 hj (by rw [hjs]; decide) hsh (Nat.zero_lt_succ 1)]
  simp only [Result.andThen]
  rw [Oper.upon_value]
  go_wp2
  rw [run_callFunc_extern Tryz.func47 (by kernel_rfl) (by kernel_rfl) (by kernel_rfl) (e := Extern.AbiNoEscape.same) (by kernel_rfl)]
  rw [Lib.run_noEscape]
  simp only [Result.andThen]
  rw [Oper.upon_value]
  go_wp2
  rw [Lib.run_from_unsafe w ⟨b, 0, none⟩ Tryz.underlying98 Tryz.underlying38 hj hsh liesB]
  simp only [Result.andThen]
  rw [Oper.upon_value]
  go_wp2
  go_end0
  exact ⟨rfl, rfl⟩
set_option maxHeartbeats 1000000 in
set_option maxRecDepth 100000 in
theorem check_used (b : Nat) (w : World) (h0 : w.cell? ⟨b, 0, none⟩ = some (.pointer (some ⟨b, 0, none⟩))) :
    Calls Tryz.prog 30 #[.pointer (some ⟨b, 0, none⟩)] w fun e w' => e = .returned (.tuple #[]) ∧ w' = w := by
  obtain ⟨j, hj, _⟩ := Option.map_eq_some_iff.1 szB
  go_enter Tryz.func30, Tryz.ntmps30
  go_wp2
  rw [Lib.run_neq_ptr_same w _ Tryz.underlying38 hj]
  go_wp2
  go_end0
  exact ⟨rfl, rfl⟩
theorem check (B b : Nat) (bs : List Value) (w : World) (h : Lib.IsBuilderF 40 5 B b bs w) :
    Calls Tryz.prog 30 #[.pointer (some ⟨b, 0, none⟩)] w fun e w' => e = .returned (.tuple #[]) ∧ (Lib.BuilderAtF 40 5 B b (.pointer (some ⟨b, 0, none⟩)) bs w' ∧ Below B w w') := by
  rcases h with h | h
  · refine (check_fresh b w h.cell0 h.shape h.frozen0).mono ?_
    rintro e w' ⟨rfl, rfl⟩
    exact ⟨rfl, h.used _, (Below.refl B w).setCell (p := ⟨b, 0, none⟩) h.1 _⟩
  · refine (check_used b w h.cell0).mono ?_
    rintro e w' ⟨rfl, rfl⟩
    exact ⟨rfl, h, Below.refl B _⟩
set_option maxHeartbeats 2000000 in
set_option maxRecDepth 100000 in
theorem write (B b : Nat) (bs : List Value) (s : ByteArray) (w : World) (h : Lib.IsBuilderF 40 5 B b bs w) (hlen : bs.length + s.size ≤ 140737488355328) (hBw : B ≤ w.heap.size) :
    Calls Tryz.prog 15 #[.pointer (some ⟨b, 0, none⟩), .string s] w fun e w' => e = .returned (.tuple #[.int .i64 s.size, .nilIface]) ∧ (Lib.BuilderAtF 40 5 B b (.pointer (some ⟨b, 0, none⟩)) (bs ++ Lib.strCells s) w' ∧ Below B w w') := by
  obtain ⟨i0, hi, hz0, hz1, hz2⟩ := info_parts infoB
  go_enter Tryz.func15, Tryz.ntmps15
  go_wp2_with (go_at_call 30; refine (check B b bs _ h).mono ?_)
  rintro e w1 ⟨rfl, h1, hb1⟩
  obtain ⟨hB, v, hbk, hown, hne⟩ := h1
  have c0 : w1.cell? ⟨b, 0, none⟩ = some (.pointer (some ⟨b, 0, none⟩)) := by rw [Lib.cell_of_heap hbk]; rfl
  have c1 : w1.cell? ⟨b, 1, none⟩ = some v := by rw [Lib.cell_of_heap hbk]; rfl
  go_wp2_with (at_builtin; refine Lib.wpList_append_own_stringF _ rfl _ _ 22 9 rfl B 5 i0 Tryz.underlying22 Tryz.underlying9 hi hz0 hz1 hz2 _ _ _ rfl hown s rfl ?c3 ?c4 ?c5 ?_)
  case c3 => unfold maxLen; omega
  case c4 => omega
  case c5 => have := hb1.size; omega
  intro v' w2 hown' hgrow _
  have hlt : b < w1.heap.size := (Array.getElem?_eq_some_iff.mp hbk).1
  have hb2 : w2.heap[b]? = some (.cells #[.pointer (some ⟨b, 0, none⟩), v] 40 (0, 0)) := by
    rw [hgrow.block b hlt (fun e => hne e.symm)]
    exact hbk
  have d0 : w2.cell? ⟨b, 0, none⟩ = some (.pointer (some ⟨b, 0, none⟩)) := by rw [Lib.cell_of_heap hb2]; rfl
  have d1 : w2.cell? ⟨b, 1, none⟩ = some v := by rw [Lib.cell_of_heap hb2]; rfl
  have f1 : w2.frozen? ⟨b, 1, none⟩ = false := Lib.frozen_of_heap hb2 1
  obtain ⟨ao, n', cap, rfl⟩ : ∃ ao n' cap, v' = .slice ao n' cap := by
    rcases hown'.2 with ⟨hv, _⟩ | ⟨g, cap, cur, fz, hv, _⟩
    · exact ⟨_, _, _, hv⟩
    · exact ⟨_, _, _, hv⟩
  go_wp2
  go_ret2
  refine ⟨rfl, ?_, ?_⟩
  · exact Lib.BuilderAtF.put (T := 40) (e := 5) hB hb2 (bs' := bs ++ Lib.strCells s) (by simpa [Lib.strCells_length] using hown') (by decide)
  · exact (hb1.grown hgrow (by have := hb1.size; omega) (fun k hk => (hown.lt k hk).1)).setCell (p := ⟨b, 1, none⟩) hB _
theorem fresh {B b : Nat} {w : World} (hB : B ≤ b) (h : w.heap[b]? = some (.cells #[.pointer none, .slice none 0 0] 40 (0, 0))) : Lib.IsBuilderF 40 5 B b (Lib.byteCells []) w :=
  .inl ⟨hB, .slice none 0 0, h, ⟨by simp [Lib.byteCells], .inl ⟨rfl, rfl⟩⟩, by simp [Value.ownBlock]⟩
theorem keeps {B b : Nat} {bs : List Value} {w w' : World} (h : Lib.IsBuilderF 40 5 B b bs w) (hb : Below w.heap.size w w') : Lib.IsBuilderF 40 5 B b bs w' := by
  have key : ∀ p, Lib.BuilderAtF 40 5 B b p bs w → Lib.BuilderAtF 40 5 B b p bs w' := by
    intro p hp
    have hlt := hp.lt
    obtain ⟨hB, v, hbk, hown, hne⟩ := hp
    refine ⟨hB, v, (hb.block b hlt).trans hbk, ?_, hne⟩
    obtain ⟨h1, h2⟩ := hown
    refine ⟨h1, ?_⟩
    rcases h2 with h2 | ⟨g, cap, cur, fz, hv, hg, hh, r⟩
    · exact .inl h2
    · exact .inr ⟨g, cap, cur, fz, hv, hg, (hb.block g (Array.getElem?_eq_some_iff.mp hh).1).trans hh, r⟩
  exact h.imp (key _) (key _)
end Go.Proofs.YtafkbhnhmhmjcaaGreatDoor.Bld
end
section
set_option linter.unusedVariables false
namespace Go.Proofs.YtafkbhnhmhmjcaaGreatDoor.PRun
open Go.RowKit Go.Proofs.YtafkbhnhmhmjcaaGreatDoorW.PrintWords Go.Proofs.YtafkbhnhmhmjcaaGreatDoorW.PrintLast Go.Proofs.YtafkbhnhmhmjcaaGreatDoorW.PrintMore
attribute [local go_sem] Go.Proofs.YtafkbhnhmhmjcaaGreatDoor.Cell2.cell_set_off Go.Proofs.YtafkbhnhmhmjcaaGreatDoor.Cell2.set_drewN Go.Proofs.YtafkbhnhmhmjcaaGreatDoor.Cell2.not_beq_bool
def impl_TraceText.l0 : Nat → List S43 → List UInt8 → Int → Option (List UInt8)
  | 0, _, _, _ => none
  | k + 1, x0, x3, x4 => if x4 < (x0.length : Int) then (if 0 ≤ x4 then ((impl_CycText.f k ((rd_T43 x0 x4).f0) ((rd_T43 x0 x4).f1) ((rd_T43 x0 x4).f2)).bind fun t => (if t.size ≤ 1000 then (if x3.length ≤ 2000000 then (impl_TraceText.l0 k x0 (x3 ++ (t ++ (⟨#[10]⟩ : ByteArray)).data.toList) (x4 + 1)) else (none)) else (none))) else (none)) else (some x3)
def impl_TraceText.f (k : Nat) (l0 : List S43) : Option (ByteArray) := if (l0.length : Int) > 1200 then (some (⟨#[]⟩ : ByteArray)) else ((impl_TraceText.l0 k l0 [] 0).bind fun b => some (⟨b.toArray⟩ : ByteArray))
theorem impl_TraceText.mono_l : ∀ k, (∀ y0 y1 y2, LeO (impl_TraceText.l0 k y0 y1 y2) (impl_TraceText.l0 (k + 1) y0 y1 y2))
  | 0 => fun _ _ _ r h => by simp [impl_TraceText.l0] at h
  | k + 1 => by
    have ih0 := impl_TraceText.mono_l k
    intro y0 y1 y2
    unfold impl_TraceText.l0
    repeat' first
      | (with_reducible exact ih0 _ _ _)
      | (with_reducible exact impl_CycText.mono _ _ _ _)
      | (with_reducible exact LeO.refl _)
      | (with_reducible exact LeO.none _)
      | (with_reducible refine LeO.ite ?_ ?_)
      | (with_reducible refine LeO.bind ?_ (fun _ => ?_))
theorem impl_TraceText.mono : ∀ a0 k, LeO (impl_TraceText.f k a0) (impl_TraceText.f (k + 1) a0) := by
  intro a0 k
  have ih0 := impl_TraceText.mono_l k
  unfold impl_TraceText.f
  repeat' first
      | (with_reducible exact ih0 _ _ _)
      | (with_reducible exact LeO.refl _)
      | (with_reducible refine LeO.ite ?_ ?_)
      | (with_reducible refine LeO.bind ?_ (fun _ => ?_))
theorem cells_of_text (t : ByteArray) (acc : List UInt8) : Lib.byteCells acc ++ Lib.strCells t = Lib.byteCells (acc ++ t.data.toList) := by
  simp [Lib.byteCells, Lib.strCells]
set_option maxHeartbeats 2000000 in
set_option maxRecDepth 100000 in
theorem impl_TraceText.calls (k : Nat) (A0 : Option Addr) (c0 : Nat) (l0 : List S43) (r : ByteArray) (w : World) (hr0 : Kd.C k43 w A0 l0.length l0) (hc0 : l0.length ≤ c0) (h : impl_TraceText.f k l0 = some r) :
    Calls Tryz.prog 6 #[.slice A0 l0.length c0] w fun e w' => e = .returned (.string r) ∧ Below w.heap.size w w' := by
  have HR0 := zA hr0
  have HC0 := zA hc0
  clear hr0 hc0
  unfold impl_TraceText.f at h
  by_cases hs : (l0.length : Int) > 1200
  · rw [if_pos hs] at h
    obtain rfl := Option.some.inj h
    have c1 : decide (1200 < (l0.length : Int)) = true := decide_eq_true hs
    have c2 : decide (1200 < l0.length) = true := decide_eq_true (by omega)
    clear hs h
    go_enter Tryz.func6, Tryz.ntmps6
    go_wp2
    go_ret
    exact ⟨rfl, Below.refl _ _⟩
  rw [if_neg hs] at h
  obtain ⟨b, hb, h⟩ := Option.bind_eq_some_iff.mp h
  have HR := zA (Option.some.inj h)
  clear h
  have H := zA hb
  clear hb
  have c1 : decide (1200 < (l0.length : Int)) = false := decide_eq_false hs
  have c2 : decide (1200 < l0.length) = false := decide_eq_false (by omega)
  have hl0 : l0.length ≤ 1200 := by omega
  clear hs
  have HB := zA (Below.refl w.heap.size w)
  have hu30 := Tryz.underlying43
  have hu57 := Tryz.underlying40
  go_enter Tryz.func6, Tryz.ntmps6
  try go_wp2_with (first | ((with_reducible refine gate_dst (N := 3) rfl ?_); refine box_event ?hg (N := 3) ?hd (cs := #[.pointer none, .slice none 0 0]) (t := 40) ?hr ?_; (case hd => rfl); (case hg => rfl); (case hr => first | (go_simp; done) | (go_simp; rfl)); intro gB hg v1_ hbox hb; have BgB := zA (hbox); have GgB := zA ((by rw [hg]; exact (below_size (by repeat (first | (with_reducible first | exact HB.out | apply below_alloc | apply pw_below_drewN | apply below_drew1) | exact HB.out))) : w.heap.size ≤ gB)); replace HB := zA (below_step (by repeat (first | (with_reducible first | exact HB.out | apply below_alloc | apply pw_below_drewN | apply below_drew1) | exact HB.out)) hb); clear hb hbox hg; have hcgB0 : v1_.cell? ⟨gB, 0, none⟩ = some (.pointer none) := (blk_cell BgB.out 0).trans rfl; have hfgB0 := blk_frozen BgB.out 0; have hcgB1 : v1_.cell? ⟨gB, 1, none⟩ = some (.slice none 0 0) := (blk_cell BgB.out 1).trans rfl; have hfgB1 := blk_frozen BgB.out 1))
  clear hcgB0 hfgB0 hcgB1 hfgB1
  have mgB := zA (show (((v1_).setCell ⟨gB, 0, none⟩ (.pointer none)).setCell ⟨gB, 1, none⟩ (.slice none 0 0)).heap[gB]? = some (.cells #[.pointer none, .slice none 0 0] 40 (0, 0)) from (by refine blk_put (cs := #[.pointer none, .slice none 0 0]) ?_ 1 _ rfl; refine blk_put (cs := #[.pointer none, .slice none 0 0]) ?_ 0 _ rfl; exact BgB.out))
  have mH := zA (below_set (j := 1) (v := .slice none 0 0) (below_set (j := 0) (v := .pointer none) HB.out GgB.out) GgB.out)
  clear HB BgB
  have HB := mH
  have BgB := mgB
  clear mH mgB
  with_reducible generalize ((v1_).setCell ⟨gB, 0, none⟩ (.pointer none)).setCell ⟨gB, 1, none⟩ (.slice none 0 0) = v2_ at HB BgB ⊢
  have HBd := zA (Bld.fresh (B := w.heap.size) GgB.out BgB.out)
  clear BgB
  go_loopg [12] k (fun kq v12 w' => ∃ (x3 : List UInt8) (x4 : Int), v12 = .int .i64 x4 ∧ Aside0 (impl_TraceText.l0 kq l0 x3 x4 = some b) ∧ Aside0 (kq ≤ k) ∧ Aside0 (Lib.IsBuilderF 40 5 w.heap.size gB (Lib.byteCells x3) w') ∧ Aside0 (Below w.heap.size w w'))
  case atStart => exact ⟨[], 0, rfl, H, ⟨Nat.le_refl _⟩, HBd, HB⟩
  case round =>
    clear H HBd HB
    obtain ⟨x3, x4, rfl, HA, HK, HBd, HB⟩ := hrel
    cases gk with
    | zero => exact absurd HA.out (by simp [impl_TraceText.l0])
    | succ k1 =>
      have H := HA.out
      clear HA
      simp only [impl_TraceText.l0] at H
      by_cases c5 : x4 < (l0.length : Int)
      · rw [if_pos c5] at H
        by_cases c6 : 0 ≤ x4
        · rw [if_pos c6] at H
          obtain ⟨t, ht, H⟩ := Option.bind_eq_some_iff.mp H
          have HT := zA ht
          clear ht
          by_cases c8 : t.size ≤ 1000
          rotate_left
          · rw [if_neg c8] at H; exact absurd H (by simp)
          by_cases c9 : x3.length ≤ 2000000
          rotate_left
          · rw [if_pos c8, if_neg c9] at H; exact absurd H (by simp)
          rw [if_pos c8, if_pos c9] at H
          have H1 := zA H
          clear H
          obtain ⟨ad, ead, hx0, hx1, hx2⟩ := at_T43 HR0.out x4 c6 c5
          cases ead
          replace hx0 := (HB.out.cell (World.block_lt_of_cell? w _ hx0)).trans hx0
          replace hx1 := (HB.out.cell (World.block_lt_of_cell? w _ hx1)).trans hx1
          replace hx2 := (HB.out.cell (World.block_lt_of_cell? w _ hx2)).trans hx2
          have c5b : decide (x4 < (l0.length : Int)) = true := decide_eq_true c5
          have s0 : (t.size + 1 ≤ 9223372036854775807) = True := eq_true (by omega)
          have s1 : decide (t.size + 1 ≤ 9223372036854775807) = true := decide_eq_true (by omega)
          have s2 : (9223372036854775807 < t.size + 1) = False := eq_false (by omega)
          have hbnd : x4 ≤ 1200 := by omega
          have HW := zA (Below.refl wr.heap.size wr)
          try go_wp2_with (first | ((with_reducible refine gate_dst (N := 5) rfl ?_); refine box_event ?hg (N := 5) ?hd (cs := #[.int .u16 0, .int .u8 0, .bool false]) (t := 43) ?hr ?_; (case hd => rfl); (case hg => rfl); (case hr => first | (go_simp; done) | (go_simp; rfl)); intro gc hg v1_ hbox hb; have hw_ := zA (below_step HW.out hb); have G2gc := zA (show wr.heap.size ≤ gc from Nat.le_of_eq hg.symm); have Bgc := zA (hbox); have Ggc := zA ((by rw [hg]; exact (below_size (by repeat (first | (with_reducible first | exact HB.out | apply below_alloc | apply pw_below_drewN | apply below_drew1) | exact HB.out))) : w.heap.size ≤ gc)); replace HB := zA (below_step (by repeat (first | (with_reducible first | exact HB.out | apply below_alloc | apply pw_below_drewN | apply below_drew1) | exact HB.out)) hb); clear HW; have HW := hw_; clear hw_ hb hbox hg; have hcgc0 : v1_.cell? ⟨gc, 0, none⟩ = some (.int .u16 0) := (blk_cell Bgc.out 0).trans rfl; have hfgc0 := blk_frozen Bgc.out 0; have hcgc1 : v1_.cell? ⟨gc, 1, none⟩ = some (.int .u8 0) := (blk_cell Bgc.out 1).trans rfl; have hfgc1 := blk_frozen Bgc.out 1; have hcgc2 : v1_.cell? ⟨gc, 2, none⟩ = some (.bool false) := (blk_cell Bgc.out 2).trans rfl; have hfgc2 := blk_frozen Bgc.out 2))
          clear hx0 hx1 hx2 hcgc0 hfgc0 hcgc1 hfgc1 hcgc2 hfgc2
          have hw_ := zA (below_set (j := 2) (v := .bool (rd_T43 l0 x4).f2) (below_set (j := 1) (v := .int .u8 (rd_T43 l0 x4).f1) (below_set (j := 0) (v := .int .u16 (rd_T43 l0 x4).f0) HW.out G2gc.out) G2gc.out) G2gc.out)
          clear HW
          have HW := hw_
          clear hw_
          have mgc := zA (show ((((v1_).setCell ⟨gc, 0, none⟩ (.int .u16 (rd_T43 l0 x4).f0)).setCell ⟨gc, 1, none⟩ (.int .u8 (rd_T43 l0 x4).f1)).setCell ⟨gc, 2, none⟩ (.bool (rd_T43 l0 x4).f2)).heap[gc]? = some (.cells #[.int .u16 (rd_T43 l0 x4).f0, .int .u8 (rd_T43 l0 x4).f1, .bool (rd_T43 l0 x4).f2] 43 (0, 0)) from (by refine blk_put (cs := #[.int .u16 (rd_T43 l0 x4).f0, .int .u8 (rd_T43 l0 x4).f1, .bool false]) ?_ 2 _ rfl; refine blk_put (cs := #[.int .u16 (rd_T43 l0 x4).f0, .int .u8 0, .bool false]) ?_ 1 _ rfl; refine blk_put (cs := #[.int .u16 0, .int .u8 0, .bool false]) ?_ 0 _ rfl; exact Bgc.out))
          have mH := zA (below_set (j := 2) (v := .bool (rd_T43 l0 x4).f2) (below_set (j := 1) (v := .int .u8 (rd_T43 l0 x4).f1) (below_set (j := 0) (v := .int .u16 (rd_T43 l0 x4).f0) HB.out Ggc.out) Ggc.out) Ggc.out)
          clear HB Bgc
          have HB := mH
          have Bgc := mgc
          clear mH mgc
          with_reducible generalize (((v1_).setCell ⟨gc, 0, none⟩ (.int .u16 (rd_T43 l0 x4).f0)).setCell ⟨gc, 1, none⟩ (.int .u8 (rd_T43 l0 x4).f1)).setCell ⟨gc, 2, none⟩ (.bool (rd_T43 l0 x4).f2) = v2_ at HB HW Bgc ⊢
          refine (impl_CycText.calls k1 (rd_T43 l0 x4).f0 (rd_T43 l0 x4).f1 (rd_T43 l0 x4).f2 t _ HT.out).mono ?_
          rintro e v3_ ⟨rfl, hb_⟩
          have hw_ := zA (below_step HW.out hb_)
          clear HW
          have HW := hw_
          clear hw_
          have mgc := zA ((hb_.block gc (blk_lt Bgc.out)).trans Bgc.out)
          have mH := zA (below_step HB.out hb_)
          clear HB Bgc hb_
          have HB := mH
          have Bgc := mgc
          clear mH mgc
          try go_wp2_with (fail)
          have hle := HB.out.size
          have h0 := (Lib.byteCells_length x3)
          have hlen : (Lib.byteCells x3).length + (t ++ (⟨#[10]⟩ : ByteArray)).size ≤ 140737488355328 := by rw [h0, ByteArray.size_append]; show x3.length + (t.size + 1) ≤ _; omega
          refine (Bld.write w.heap.size gB (Lib.byteCells x3) (t ++ (⟨#[10]⟩ : ByteArray)) _ (Bld.keeps HBd.out HW.out) hlen hle).mono ?_
          rintro e w9 ⟨rfl, hbd, hb9⟩
          have HB2 := zA (HB.out.trans hb9)
          have HD2 := zA hbd
          clear hbd hb9 HB hle h0 hlen
          try go_wp2_with (fail)
          rw [cells_of_text] at HD2
          go_roundg k1
          case measure => omega
          case rel => exact ⟨_, x4 + 1, rfl, H1, ⟨by have := HK.out; omega⟩, ⟨.inr HD2.out⟩, HB2⟩
        · rw [if_neg c6] at H; exact absurd H (by simp)
      · rw [if_neg c5] at H
        obtain rfl := Option.some.inj H
        have c5b : decide (x4 < (l0.length : Int)) = false := decide_eq_false c5
        clear c5 H
        try go_wp2_with (fail)
        refine (Tryz.Builder_String_any_f w.heap.size gB x3 _ HBd.out HB.out.size).mono ?_
        rintro e w9 ⟨rfl, _, hb9⟩
        have HB2 := zA (HB.out.trans hb9)
        clear hb9 HB
        go_wp2
        go_ret
        exact ⟨by rw [← HR.out]; rfl, HB2.out⟩
end Go.Proofs.YtafkbhnhmhmjcaaGreatDoor.PRun
end
