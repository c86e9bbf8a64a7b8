import Derived.Test.YtecccbecflbcfaaProg
import Derived.Below
import Derived.Deep.Draws
import Derived.Deep.AppendLies
import Derived.Maps.AppendAt
import Derived.OwnWalk
import Derived.Laws.BytesArg
import Derived.Laws.MakeOwn
import Derived.Laws.OwnMore
import Derived.Deep.OwnRows
import Derived.Tactics
import Derived.Lib.ConvBytes
import Derived.Laws.Slices
import Derived.WalkKit
import Derived.KernelRfl
import Derived.RowKit3
import Derived.Deep.LoopGhost
import Derived.Deep.QuietTactic
import Derived.BigQuiet
import Derived.WideLaws
import Derived.Deep.DeepCutAuto
import Derived.Deep.CutBlock
import Derived.Deep.RegionHeld3
import Derived.Laws.Rows
import Derived.Lib.AppendStr
import Derived.ArgAppend
import Derived.Laws.IdiomCopy
import Derived.OrdersHeld
import Derived.Laws.BitsLemmas
import Derived.RowKit
import Derived.Test.YtecccbecflbcfaaSCMyCell2
import Derived.Test.YtecccbecflbcfaaSCWWords
import Derived.Test.YtecccbecflbcfaaSCWLast
import Derived.Test.YtecccbecflbcfaaSCWTab
import Derived.Test.YtecccbecflbcfaaSCWApart
import Derived.Test.YtecccbecflbcfaaSCWFoot
import Derived.Test.YtecccbecflbcfaaSCWKept
import Derived.Test.YtecccbecflbcfaaSCWShare
import Derived.Test.YtecccbecflbcfaaSCWN
import Derived.Test.YtecccbecflbcfaaSCWEqStruct
import Derived.Test.YtecccbecflbcfaaSCWRepsOne
import Derived.Test.YtecccbecflbcfaaSCWMore
import Derived.StillTailTactics
import Derived.Deep.WholeRow
namespace Go.Proofs.Ytecccbecflbcfaa.Know
open Go.RowKit Go.Proofs.YtecccbecflbcfaaW.PrintWords Go.Proofs.YtecccbecflbcfaaW.PrintLast Go.Proofs.YtecccbecflbcfaaW.PrintMore
def ptrs (b : Nat) : Array Value := #[.pointer (some ⟨b, 0, none⟩), .pointer (some ⟨b, 1, none⟩), .pointer (some ⟨b, 2, none⟩), .pointer (some ⟨b, 3, none⟩), .pointer (some ⟨b, 4, none⟩), .pointer (some ⟨b, 5, none⟩), .pointer (some ⟨b, 6, none⟩), .pointer (some ⟨b, 7, none⟩), .pointer (some ⟨b, 8, none⟩), .pointer (some ⟨b, 9, none⟩), .pointer (some ⟨b, 10, none⟩)]
set_option maxHeartbeats 2000000 in
set_option maxRecDepth 100000 in
theorem fields_calls (b : Nat) (w : World) : Calls Try.prog 48 #[.pointer (some ⟨b, 0, none⟩)] w fun e w' => e = .returned (.agg (ptrs b)) ∧ Below w.heap.size w w' := by
  have HB := Aside0.mk (Below.refl w.heap.size w)
  have hu66 := Try.underlying66
  go_enter Try.func48, Try.ntmps48
  try go_wp2_with (first | ((with_reducible refine gate_dst (N := 2) rfl ?_); refine box_event ?hg (N := 2) ?hd (cs := #[.pointer none, .pointer none, .pointer none, .pointer none, .pointer none, .pointer none, .pointer none, .pointer none, .pointer none, .pointer none, .pointer none]) (t := 66) ?hr ?_; (case hd => rfl); (case hg => rfl); (case hr => first | (go_simp; done) | (go_simp; rfl)); intro gb221 hg w8 hbox hb; have n0_ := Aside0.mk (below_step (by repeat (first | (with_reducible first | exact HB.out | apply below_alloc | apply pw_below_drewN | apply below_drew1) | exact HB.out)) hb); have n1_ := Aside0.mk (hbox); have n2_ := Aside0.mk ((by rw [hg]; exact (below_size (by repeat (first | (with_reducible first | exact HB.out | apply below_alloc | apply pw_below_drewN | apply below_drew1) | exact HB.out))) : w.heap.size ≤ gb221)); clear HB; have HB := n0_; have BK221 := n1_; have GW221 := n2_; clear n0_ n1_ n2_; clear hb hbox hg))
  try go_wp2
  go_still_tail 34, (by kernel_rfl)
  have n0_ := Aside0.mk (blk_drew BK221.out)
  have n3_ := Aside0.mk (below_drew1 HB.out)
  clear BK221 HB
  have BK221 := n0_
  have HB := n3_
  clear n0_ n3_
  show wpList Try.prog _ _ _ _ w8.drew
  generalize w8.drew = w9 at BK221 HB ⊢
  have hs0 : w9.cell? ⟨gb221, 0, none⟩ = some (.pointer none) := (blk_cell BK221.out 0).trans rfl
  have hfs0 := blk_frozen BK221.out 0
  have hs1 : w9.cell? ⟨gb221, 1, none⟩ = some (.pointer none) := (blk_cell BK221.out 1).trans rfl
  have hfs1 := blk_frozen BK221.out 1
  have hs2 : w9.cell? ⟨gb221, 2, none⟩ = some (.pointer none) := (blk_cell BK221.out 2).trans rfl
  have hfs2 := blk_frozen BK221.out 2
  have hs3 : w9.cell? ⟨gb221, 3, none⟩ = some (.pointer none) := (blk_cell BK221.out 3).trans rfl
  have hfs3 := blk_frozen BK221.out 3
  have hs4 : w9.cell? ⟨gb221, 4, none⟩ = some (.pointer none) := (blk_cell BK221.out 4).trans rfl
  have hfs4 := blk_frozen BK221.out 4
  have hs5 : w9.cell? ⟨gb221, 5, none⟩ = some (.pointer none) := (blk_cell BK221.out 5).trans rfl
  have hfs5 := blk_frozen BK221.out 5
  have hs6 : w9.cell? ⟨gb221, 6, none⟩ = some (.pointer none) := (blk_cell BK221.out 6).trans rfl
  have hfs6 := blk_frozen BK221.out 6
  have hs7 : w9.cell? ⟨gb221, 7, none⟩ = some (.pointer none) := (blk_cell BK221.out 7).trans rfl
  have hfs7 := blk_frozen BK221.out 7
  have hs8 : w9.cell? ⟨gb221, 8, none⟩ = some (.pointer none) := (blk_cell BK221.out 8).trans rfl
  have hfs8 := blk_frozen BK221.out 8
  have hs9 : w9.cell? ⟨gb221, 9, none⟩ = some (.pointer none) := (blk_cell BK221.out 9).trans rfl
  have hfs9 := blk_frozen BK221.out 9
  have hs10 : w9.cell? ⟨gb221, 10, none⟩ = some (.pointer none) := (blk_cell BK221.out 10).trans rfl
  have hfs10 := blk_frozen BK221.out 10
  go_wp2
  refine bodyPost_ret (results_cell_row rfl _ _ gb221 66 (ptrs b) (0, 0) _ rfl (by
    (with_reducible repeat (first | refine blk_drewN ?_ _ | refine blk_drew ?_ | refine blk_alloc ?_ _))
    refine blk_put (cs := #[.pointer (some ⟨b, 0, none⟩), .pointer (some ⟨b, 1, none⟩), .pointer (some ⟨b, 2, none⟩), .pointer (some ⟨b, 3, none⟩), .pointer (some ⟨b, 4, none⟩), .pointer (some ⟨b, 5, none⟩), .pointer (some ⟨b, 6, none⟩), .pointer (some ⟨b, 7, none⟩), .pointer (some ⟨b, 8, none⟩), .pointer (some ⟨b, 9, none⟩), .pointer none]) ?_ 10 _ rfl
    refine blk_put (cs := #[.pointer (some ⟨b, 0, none⟩), .pointer (some ⟨b, 1, none⟩), .pointer (some ⟨b, 2, none⟩), .pointer (some ⟨b, 3, none⟩), .pointer (some ⟨b, 4, none⟩), .pointer (some ⟨b, 5, none⟩), .pointer (some ⟨b, 6, none⟩), .pointer (some ⟨b, 7, none⟩), .pointer (some ⟨b, 8, none⟩), .pointer none, .pointer none]) ?_ 9 _ rfl
    refine blk_put (cs := #[.pointer (some ⟨b, 0, none⟩), .pointer (some ⟨b, 1, none⟩), .pointer (some ⟨b, 2, none⟩), .pointer (some ⟨b, 3, none⟩), .pointer (some ⟨b, 4, none⟩), .pointer (some ⟨b, 5, none⟩), .pointer (some ⟨b, 6, none⟩), .pointer (some ⟨b, 7, none⟩), .pointer none, .pointer none, .pointer none]) ?_ 8 _ rfl
    refine blk_put (cs := #[.pointer (some ⟨b, 0, none⟩), .pointer (some ⟨b, 1, none⟩), .pointer (some ⟨b, 2, none⟩), .pointer (some ⟨b, 3, none⟩), .pointer (some ⟨b, 4, none⟩), .pointer (some ⟨b, 5, none⟩), .pointer (some ⟨b, 6, none⟩), .pointer none, .pointer none, .pointer none, .pointer none]) ?_ 7 _ rfl
    refine blk_put (cs := #[.pointer (some ⟨b, 0, none⟩), .pointer (some ⟨b, 1, none⟩), .pointer (some ⟨b, 2, none⟩), .pointer (some ⟨b, 3, none⟩), .pointer (some ⟨b, 4, none⟩), .pointer (some ⟨b, 5, none⟩), .pointer none, .pointer none, .pointer none, .pointer none, .pointer none]) ?_ 6 _ rfl
    refine blk_put (cs := #[.pointer (some ⟨b, 0, none⟩), .pointer (some ⟨b, 1, none⟩), .pointer (some ⟨b, 2, none⟩), .pointer (some ⟨b, 3, none⟩), .pointer (some ⟨b, 4, none⟩), .pointer none, .pointer none, .pointer none, .pointer none, .pointer none, .pointer none]) ?_ 5 _ rfl
    refine blk_put (cs := #[.pointer (some ⟨b, 0, none⟩), .pointer (some ⟨b, 1, none⟩), .pointer (some ⟨b, 2, none⟩), .pointer (some ⟨b, 3, none⟩), .pointer none, .pointer none, .pointer none, .pointer none, .pointer none, .pointer none, .pointer none]) ?_ 4 _ rfl
    refine blk_put (cs := #[.pointer (some ⟨b, 0, none⟩), .pointer (some ⟨b, 1, none⟩), .pointer (some ⟨b, 2, none⟩), .pointer none, .pointer none, .pointer none, .pointer none, .pointer none, .pointer none, .pointer none, .pointer none]) ?_ 3 _ rfl
    refine blk_put (cs := #[.pointer (some ⟨b, 0, none⟩), .pointer (some ⟨b, 1, none⟩), .pointer none, .pointer none, .pointer none, .pointer none, .pointer none, .pointer none, .pointer none, .pointer none, .pointer none]) ?_ 2 _ rfl
    refine blk_put (cs := #[.pointer (some ⟨b, 0, none⟩), .pointer none, .pointer none, .pointer none, .pointer none, .pointer none, .pointer none, .pointer none, .pointer none, .pointer none, .pointer none]) ?_ 1 _ rfl
    refine blk_put (cs := #[.pointer none, .pointer none, .pointer none, .pointer none, .pointer none, .pointer none, .pointer none, .pointer none, .pointer none, .pointer none, .pointer none]) ?_ 0 _ rfl
    exact BK221.out) Try.underlying66 rfl (by kernel_rfl)) rfl ?_
  exact ⟨rfl, by repeat (first | (with_reducible first | exact HB.out | apply below_alloc | apply pw_below_drewN | apply below_drew1 | refine below_set ?_ GW221.out) | exact HB.out)⟩
def ints (k0 k1 k2 k3 k4 k5 k6 k7 k8 k9 k10 : Int) : List Int := [k0, k1, k2, k3, k4, k5, k6, k7, k8, k9, k10]
def pAt (l : List Int) (i : Nat) : Int := l.getD i 0
def lim (i : Nat) : Int := if i < 4 then 255 else if i = 4 then 65535 else 1
def okAt (l : List Int) (i : Nat) : Bool := decide (-1 ≤ pAt l i) && decide (pAt l i ≤ lim i)
def okUp (l : List Int) (n : Nat) : Prop := ∀ j, j < n → okAt l j = true
theorem ptrs_at (b i : Nat) (h : i < 11) : (ptrs b)[i]? = some (.pointer (some ⟨b, i, none⟩)) := by
  rcases i with _|_|_|_|_|_|_|_|_|_|_|i <;> first | rfl | omega
theorem all_true (l : List Int) (h : okUp l 11) : (List.range 11).all (okAt l) = true := by
  rw [List.all_eq_true]
  intro j hj
  exact h j (List.mem_range.1 hj)
theorem all_false (l : List Int) (i : Nat) (hi : i < 11) (h : okAt l i = false) : (List.range 11).all (okAt l) = false := by
  cases hc : (List.range 11).all (okAt l)
  · rfl
  · rw [List.all_eq_true] at hc
    rw [hc i (List.mem_range.2 hi)] at h
    exact absurd h (by simp)
set_option maxRecDepth 100000 in
theorem idx_run (b i : Nat) (h : i < 11) (w : World) : Sem.run Try.prog (Instr.index 66 (Value.agg (ptrs b)) (Value.int .i64 (i : Int))) w = .ok (.pointer (some ⟨b, i, none⟩)) w := by
  rcases i with _|_|_|_|_|_|_|_|_|_|_|i <;> first | rfl | omega
theorem ints_at (k0 k1 k2 k3 k4 k5 k6 k7 k8 k9 k10 : Int) (i : Nat) (h : i < 11) : (#[.int .i64 k0, .int .i64 k1, .int .i64 k2, .int .i64 k3, .int .i64 k4, .int .i64 k5, .int .i64 k6, .int .i64 k7, .int .i64 k8, .int .i64 k9, .int .i64 k10] : Array Value)[i]? = some (.int .i64 (pAt (ints k0 k1 k2 k3 k4 k5 k6 k7 k8 k9 k10) i)) := by
  rcases i with _|_|_|_|_|_|_|_|_|_|_|i <;> first | rfl | omega
end Go.Proofs.Ytecccbecflbcfaa.Know
