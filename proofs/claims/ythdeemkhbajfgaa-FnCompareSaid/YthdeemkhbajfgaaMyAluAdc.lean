/- The contract of loop.example/g00693/impl.Adc. -/
import Derived.Test.YthdeemkhbajfgaaPAlux0
import Derived.Test.YthdeemkhbajfgaaPAlux4
import Derived.StillTailTactics
import Derived.Test.YthdeemkhbajfgaaMyAlu
set_option linter.unusedVariables false
namespace Go.Proofs.Ythdeemkhbajfgaa.PAlu
open Go.RowKit Go.Proofs.Ythdeemkhbajfgaa.Alu Go.Proofs.YthdeemkhbajfgaaW.PrintWords Go.Proofs.YthdeemkhbajfgaaW.PrintLast Go.Proofs.YthdeemkhbajfgaaW.PrintMore
attribute [local go_sem] Go.Proofs.Ythdeemkhbajfgaa.Cell2.cell_set_off Go.Proofs.Ythdeemkhbajfgaa.Cell2.set_drewN Go.Proofs.Ythdeemkhbajfgaa.Cell2.not_beq_bool
theorem has_hi (x : Int) (x0 : 0 ≤ x) (x1 : x ≤ 255) : impl_has.f x 7 = some (hi x) :=
  byt (P := fun x => impl_has.f x 7 = some (hi x)) (by decide +kernel) x0 x1
theorem hi_mod (x : Int) : hi (x % 256) = hi x := by unfold hi; rw [show x % 256 % 256 = x % 256 by omega]
theorem one_tc (c : Bool) : impl_one.f c = some (tc c) := by cases c <;> decide +kernel

set_option maxHeartbeats 2000000 in
set_option maxRecDepth 100000 in
theorem impl_Adc.bin_ (a b : Int) (f0 f1 f3 f4 f5 : Bool) (w : World) (a0 : 0 ≤ a) (a1 : a ≤ 255) (b0 : 0 ≤ b) (b1 : b ≤ 255) (r1 : Int) (r2 r3 r4 r5 r6 r7 : Bool) (hr : bin a b (tc f5) false f3 = (r1, r2, r3, r4, r5, r6, r7)) : Calls Try.prog 59 #[.int .u8 a, .int .u8 b, .agg #[.bool f0, .bool f1, .bool false, .bool f3, .bool f4, .bool f5]] w fun e w' => e = .returned (.tuple #[.int .u8 r1, .agg #[.bool r2, .bool r3, .bool r4, .bool r5, .bool r6, .bool r7]]) ∧ Below w.heap.size w w' := by
  simp only [bin, Prod.mk.injEq] at hr
  obtain ⟨h1, h2, h3, rfl, rfl, h6, h7⟩ := hr
  obtain ⟨t0, t1⟩ := tc01 f5
  have H1 := Aside0.mk (one_tc f5)
  generalize tc f5 = t at t0 t1 H1 h1 h2 h3 h6 h7
  have s0 : 0 ≤ a + b + t := by omega
  have s1 : a + b + t ≤ 511 := by omega
  generalize hs : a + b + t = s at s0 s1 h1 h2 h3 h6 h7
  have HS := Aside0.mk hs
  clear hs
  have m0 : 0 ≤ s % 256 := by omega
  have m1 : s % 256 ≤ 255 := by omega
  have HN : Aside0 (impl_NZ.f (s % 256) f0 f1 false f3 f4 f5 = some (hi s, f1, false, f3, (s % 256 == 0), f5)) := ⟨by simp only [impl_NZ.f, has_hi _ m0 m1, hi_mod, Option.bind_some]⟩
  have HA := Aside0.mk (has_hi a a0 a1)
  have HBB := Aside0.mk (has_hi b b0 b1)
  have HM := Aside0.mk (has_hi _ m0 m1)
  rw [hi_mod] at HM
  simp only [ov] at h3
  generalize hi s = n7 at h2 h3 HM HN
  generalize hi a = a7 at h3 HA
  generalize hi b = b7 at h3 HBB
  generalize (s % 256 == 0) = zz at h6 HN
  have H1' := Aside0.mk h1
  clear h1
  subst h2
  subst h6
  have H7 := Aside0.mk h7
  clear h7
  have H3 := Aside0.mk h3
  clear h3
  have HB := Aside0.mk (Below.refl w.heap.size w)
  have hu24 := Try.underlying40
  go_enter Try.func59, Try.ntmps59
  try go_wp2_with (first | ((with_reducible refine gate_dst (N := 5) rfl ?_); refine box_event ?hg (N := 5) ?hd (cs := #[.bool f0, .bool f1, .bool false, .bool f3, .bool f4, .bool f5]) (t := 40) ?hr ?_; (case hd => rfl); (case hg => rfl); (case hr => first | (go_simp; done) | (go_simp; rfl)); intro gf hg v1_ hbox hb; have n0_ := Aside0.mk (below_step (by repeat (first | (with_reducible first | exact HB.out | apply below_alloc | apply pw_below_drewN | apply below_drew1) | exact HB.out)) hb); have n1_ := Aside0.mk (hbox); have n2_ := Aside0.mk ((by rw [hg]; exact (below_size (by repeat (first | (with_reducible first | exact HB.out | apply below_alloc | apply pw_below_drewN | apply below_drew1) | exact HB.out))) : w.heap.size ≤ gf)); clear HB; have HB := n0_; have Bgf := n1_; have Ggf := n2_; clear n0_ n1_ n2_; clear hb hbox hg) | ((with_reducible refine gate_dst (N := 7) rfl ?_); refine box_event ?hg (N := 7) ?hd (cs := #[.bool false, .bool false, .bool false, .bool false, .bool false, .bool false]) (t := 40) ?hr ?_; (case hd => rfl); (case hg => rfl); (case hr => first | (go_simp; done) | (go_simp; rfl)); intro gr hg v2_ hbox hb; have mgf := Aside0.mk ((hb.block _ (blk_lt Bgf.out)).trans Bgf.out); have NEgr_gf := Aside0.mk (show gr ≠ gf from by rw [hg]; exact Nat.ne_of_gt (blk_lt Bgf.out)); clear Bgf; have Bgf := mgf; clear mgf; have n0_ := Aside0.mk (below_step (by repeat (first | (with_reducible first | exact HB.out | apply below_alloc | apply pw_below_drewN | apply below_drew1) | exact HB.out)) hb); have n1_ := Aside0.mk (hbox); have n2_ := Aside0.mk ((by rw [hg]; exact (below_size (by repeat (first | (with_reducible first | exact HB.out | apply below_alloc | apply pw_below_drewN | apply below_drew1) | exact HB.out))) : w.heap.size ≤ gr)); clear HB; have HB := n0_; have Bgr := n1_; have Ggr := n2_; clear n0_ n1_ n2_; clear hb hbox hg; have hcgf0 : v2_.cell? ⟨gf, 0, none⟩ = some (.bool f0) := (blk_cell Bgf.out 0).trans rfl; have hfgf0 := blk_frozen Bgf.out 0; have hcgf1 : v2_.cell? ⟨gf, 1, none⟩ = some (.bool f1) := (blk_cell Bgf.out 1).trans rfl; have hfgf1 := blk_frozen Bgf.out 1; have hcgf2 : v2_.cell? ⟨gf, 2, none⟩ = some (.bool false) := (blk_cell Bgf.out 2).trans rfl; have hfgf2 := blk_frozen Bgf.out 2; have hcgf3 : v2_.cell? ⟨gf, 3, none⟩ = some (.bool f3) := (blk_cell Bgf.out 3).trans rfl; have hfgf3 := blk_frozen Bgf.out 3; have hcgf4 : v2_.cell? ⟨gf, 4, none⟩ = some (.bool f4) := (blk_cell Bgf.out 4).trans rfl; have hfgf4 := blk_frozen Bgf.out 4; have hcgf5 : v2_.cell? ⟨gf, 5, none⟩ = some (.bool f5) := (blk_cell Bgf.out 5).trans rfl; have hfgf5 := blk_frozen Bgf.out 5))
  refine (impl_one.calls f5 t _ H1.out).mono ?_
  rintro e v3_ ⟨rfl, hd_⟩
  have hb_ := hd_.below
  clear hd_
  clear hcgf0 hfgf0 hcgf1 hfgf1 hcgf2 hfgf2 hcgf3 hfgf3 hcgf4 hfgf4 hcgf5 hfgf5
  have mgf := Aside0.mk ((hb_.block gf (blk_lt Bgf.out)).trans Bgf.out)
  have mgr := Aside0.mk ((hb_.block gr (blk_lt Bgr.out)).trans Bgr.out)
  have mH := Aside0.mk (below_step HB.out hb_)
  clear HB Bgf Bgr hb_
  have HB := mH
  have Bgf := mgf
  have Bgr := mgr
  clear mH mgf mgr
  have hcgf0 : v3_.cell? ⟨gf, 0, none⟩ = some (.bool f0) := (blk_cell Bgf.out 0).trans rfl
  have hfgf0 := blk_frozen Bgf.out 0
  have hcgf1 : v3_.cell? ⟨gf, 1, none⟩ = some (.bool f1) := (blk_cell Bgf.out 1).trans rfl
  have hfgf1 := blk_frozen Bgf.out 1
  have hcgf2 : v3_.cell? ⟨gf, 2, none⟩ = some (.bool false) := (blk_cell Bgf.out 2).trans rfl
  have hfgf2 := blk_frozen Bgf.out 2
  have hcgf3 : v3_.cell? ⟨gf, 3, none⟩ = some (.bool f3) := (blk_cell Bgf.out 3).trans rfl
  have hfgf3 := blk_frozen Bgf.out 3
  have hcgf4 : v3_.cell? ⟨gf, 4, none⟩ = some (.bool f4) := (blk_cell Bgf.out 4).trans rfl
  have hfgf4 := blk_frozen Bgf.out 4
  have hcgf5 : v3_.cell? ⟨gf, 5, none⟩ = some (.bool f5) := (blk_cell Bgf.out 5).trans rfl
  have hfgf5 := blk_frozen Bgf.out 5
  try go_wp2_with (fail)
  rw [HS.out]
  refine (impl_NZ.calls (s % 256) f0 f1 false f3 f4 f5 _ _ _ _ _ _ _ HN.out).mono ?_
  rintro e v4_ ⟨rfl, hb_⟩
  clear hcgf0 hfgf0 hcgf1 hfgf1 hcgf2 hfgf2 hcgf3 hfgf3 hcgf4 hfgf4 hcgf5 hfgf5
  have mgf := Aside0.mk ((hb_.block gf (blk_lt Bgf.out)).trans Bgf.out)
  have mgr := Aside0.mk ((hb_.block gr (blk_lt Bgr.out)).trans Bgr.out)
  have mH := Aside0.mk (below_step HB.out hb_)
  clear HB Bgf Bgr hb_
  have HB := mH
  have Bgf := mgf
  have Bgr := mgr
  clear mH mgf mgr
  try go_wp2_with (first | ((with_reducible refine gate_dst (N := 9) rfl ?_); refine box_event ?hg (N := 9) ?hd (cs := #[.bool false, .bool false, .bool false, .bool false, .bool false, .bool false]) (t := 40) ?hr ?_; (case hd => rfl); (case hg => rfl); (case hr => first | (go_simp; done) | (go_simp; rfl)); intro gg hg v5_ hbox hb; have mgf := Aside0.mk ((hb.block _ (blk_lt Bgf.out)).trans Bgf.out); have NEgg_gf := Aside0.mk (show gg ≠ gf from by rw [hg]; exact Nat.ne_of_gt (blk_lt Bgf.out)); clear Bgf; have Bgf := mgf; clear mgf; have mgr := Aside0.mk ((hb.block _ (blk_lt Bgr.out)).trans Bgr.out); have NEgg_gr := Aside0.mk (show gg ≠ gr from by rw [hg]; exact Nat.ne_of_gt (blk_lt Bgr.out)); clear Bgr; have Bgr := mgr; clear mgr; have n0_ := Aside0.mk (below_step (by repeat (first | (with_reducible first | exact HB.out | apply below_alloc | apply pw_below_drewN | apply below_drew1) | exact HB.out)) hb); have n1_ := Aside0.mk (hbox); have n2_ := Aside0.mk ((by rw [hg]; exact (below_size (by repeat (first | (with_reducible first | exact HB.out | apply below_alloc | apply pw_below_drewN | apply below_drew1) | exact HB.out))) : w.heap.size ≤ gg)); clear HB; have HB := n0_; have Bgg := n1_; have Ggg := n2_; clear n0_ n1_ n2_; clear hb hbox hg; have hcgg0 : v5_.cell? ⟨gg, 0, none⟩ = some (.bool false) := (blk_cell Bgg.out 0).trans rfl; have hfgg0 := blk_frozen Bgg.out 0; have hcgg1 : v5_.cell? ⟨gg, 1, none⟩ = some (.bool false) := (blk_cell Bgg.out 1).trans rfl; have hfgg1 := blk_frozen Bgg.out 1; have hcgg2 : v5_.cell? ⟨gg, 2, none⟩ = some (.bool false) := (blk_cell Bgg.out 2).trans rfl; have hfgg2 := blk_frozen Bgg.out 2; have hcgg3 : v5_.cell? ⟨gg, 3, none⟩ = some (.bool false) := (blk_cell Bgg.out 3).trans rfl; have hfgg3 := blk_frozen Bgg.out 3; have hcgg4 : v5_.cell? ⟨gg, 4, none⟩ = some (.bool false) := (blk_cell Bgg.out 4).trans rfl; have hfgg4 := blk_frozen Bgg.out 4; have hcgg5 : v5_.cell? ⟨gg, 5, none⟩ = some (.bool false) := (blk_cell Bgg.out 5).trans rfl; have hfgg5 := blk_frozen Bgg.out 5))
  clear hcgg0 hfgg0 hcgg1 hfgg1 hcgg2 hfgg2 hcgg3 hfgg3 hcgg4 hfgg4 hcgg5 hfgg5
  have mgg := Aside0.mk (show ((((((((v5_).setCell ⟨gg, 0, none⟩ (.bool n7)).setCell ⟨gg, 1, none⟩ (.bool f1)).setCell ⟨gg, 2, none⟩ (.bool false)).setCell ⟨gg, 3, none⟩ (.bool f3)).setCell ⟨gg, 4, none⟩ (.bool zz)).setCell ⟨gg, 5, none⟩ (.bool f5)).setCell ⟨gg, 5, none⟩ (.bool (decide (255 < s)))).heap[gg]? = some (.cells #[.bool n7, .bool f1, .bool false, .bool f3, .bool zz, .bool (decide (255 < s))] 40 (0, 0)) from (by refine blk_put (cs := #[.bool n7, .bool f1, .bool false, .bool f3, .bool zz, .bool f5]) ?_ 5 _ rfl; refine blk_put (cs := #[.bool n7, .bool f1, .bool false, .bool f3, .bool zz, .bool false]) ?_ 5 _ rfl; refine blk_put (cs := #[.bool n7, .bool f1, .bool false, .bool f3, .bool false, .bool false]) ?_ 4 _ rfl; refine blk_put (cs := #[.bool n7, .bool f1, .bool false, .bool false, .bool false, .bool false]) ?_ 3 _ rfl; refine blk_put (cs := #[.bool n7, .bool f1, .bool false, .bool false, .bool false, .bool false]) ?_ 2 _ rfl; refine blk_put (cs := #[.bool n7, .bool false, .bool false, .bool false, .bool false, .bool false]) ?_ 1 _ rfl; refine blk_put (cs := #[.bool false, .bool false, .bool false, .bool false, .bool false, .bool false]) ?_ 0 _ rfl; exact Bgg.out))
  have ne_ : gf ≠ gg := by first | exact NEgg_gf.out.symm | exact NEgf_gg.out
  have mgf := Aside0.mk (blk_far (p := ⟨gg, 5, none⟩) (blk_far (p := ⟨gg, 5, none⟩) (blk_far (p := ⟨gg, 4, none⟩) (blk_far (p := ⟨gg, 3, none⟩) (blk_far (p := ⟨gg, 2, none⟩) (blk_far (p := ⟨gg, 1, none⟩) (blk_far (p := ⟨gg, 0, none⟩) Bgf.out ne_ (.bool n7)) ne_ (.bool f1)) ne_ (.bool false)) ne_ (.bool f3)) ne_ (.bool zz)) ne_ (.bool f5)) ne_ (.bool (decide (255 < s))))
  clear ne_
  have ne_ : gr ≠ gg := by first | exact NEgg_gr.out.symm | exact NEgr_gg.out
  have mgr := Aside0.mk (blk_far (p := ⟨gg, 5, none⟩) (blk_far (p := ⟨gg, 5, none⟩) (blk_far (p := ⟨gg, 4, none⟩) (blk_far (p := ⟨gg, 3, none⟩) (blk_far (p := ⟨gg, 2, none⟩) (blk_far (p := ⟨gg, 1, none⟩) (blk_far (p := ⟨gg, 0, none⟩) Bgr.out ne_ (.bool n7)) ne_ (.bool f1)) ne_ (.bool false)) ne_ (.bool f3)) ne_ (.bool zz)) ne_ (.bool f5)) ne_ (.bool (decide (255 < s))))
  clear ne_
  have mH := Aside0.mk (below_set (j := 5) (v := .bool (decide (255 < s))) (below_set (j := 5) (v := .bool f5) (below_set (j := 4) (v := .bool zz) (below_set (j := 3) (v := .bool f3) (below_set (j := 2) (v := .bool false) (below_set (j := 1) (v := .bool f1) (below_set (j := 0) (v := .bool n7) HB.out Ggg.out) Ggg.out) Ggg.out) Ggg.out) Ggg.out) Ggg.out) Ggg.out)
  clear HB Bgg Bgf Bgr
  have HB := mH
  have Bgg := mgg
  have Bgf := mgf
  have Bgr := mgr
  clear mH mgg mgf mgr
  with_reducible generalize (((((((v5_).setCell ⟨gg, 0, none⟩ (.bool n7)).setCell ⟨gg, 1, none⟩ (.bool f1)).setCell ⟨gg, 2, none⟩ (.bool false)).setCell ⟨gg, 3, none⟩ (.bool f3)).setCell ⟨gg, 4, none⟩ (.bool zz)).setCell ⟨gg, 5, none⟩ (.bool f5)).setCell ⟨gg, 5, none⟩ (.bool (decide (255 < s))) = v6_ at HB Bgg Bgf Bgr ⊢
  refine (impl_has.calls a 7 a7 _ HA.out).mono ?_
  rintro e v7_ ⟨rfl, hd_⟩
  have hb_ := hd_.below
  clear hd_
  have mgf := Aside0.mk ((hb_.block gf (blk_lt Bgf.out)).trans Bgf.out)
  have mgr := Aside0.mk ((hb_.block gr (blk_lt Bgr.out)).trans Bgr.out)
  have mgg := Aside0.mk ((hb_.block gg (blk_lt Bgg.out)).trans Bgg.out)
  have mH := Aside0.mk (below_step HB.out hb_)
  clear HB Bgf Bgr Bgg hb_
  have HB := mH
  have Bgf := mgf
  have Bgr := mgr
  have Bgg := mgg
  clear mH mgf mgr mgg
  try go_wp2_with (fail)
  refine (impl_has.calls b 7 b7 _ HBB.out).mono ?_
  rintro e v8_ ⟨rfl, hd_⟩
  have hb_ := hd_.below
  clear hd_
  have mgf := Aside0.mk ((hb_.block gf (blk_lt Bgf.out)).trans Bgf.out)
  have mgr := Aside0.mk ((hb_.block gr (blk_lt Bgr.out)).trans Bgr.out)
  have mgg := Aside0.mk ((hb_.block gg (blk_lt Bgg.out)).trans Bgg.out)
  have mH := Aside0.mk (below_step HB.out hb_)
  clear HB Bgf Bgr Bgg hb_
  have HB := mH
  have Bgf := mgf
  have Bgr := mgr
  have Bgg := mgg
  clear mH mgf mgr mgg
  cases hq : (a7 == b7) with
  | false =>
    have h3 : false = r3 := by rw [← H3.out, hq]; rfl
    subst h3
    have hcgg0 : v8_.cell? ⟨gg, 0, none⟩ = some (.bool n7) := (blk_cell Bgg.out 0).trans rfl
    have hfgg0 := blk_frozen Bgg.out 0
    have hcgg1 : v8_.cell? ⟨gg, 1, none⟩ = some (.bool f1) := (blk_cell Bgg.out 1).trans rfl
    have hfgg1 := blk_frozen Bgg.out 1
    have hcgg2 : v8_.cell? ⟨gg, 2, none⟩ = some (.bool false) := (blk_cell Bgg.out 2).trans rfl
    have hfgg2 := blk_frozen Bgg.out 2
    have hcgg3 : v8_.cell? ⟨gg, 3, none⟩ = some (.bool f3) := (blk_cell Bgg.out 3).trans rfl
    have hfgg3 := blk_frozen Bgg.out 3
    have hcgg4 : v8_.cell? ⟨gg, 4, none⟩ = some (.bool zz) := (blk_cell Bgg.out 4).trans rfl
    have hfgg4 := blk_frozen Bgg.out 4
    have hcgg5 : v8_.cell? ⟨gg, 5, none⟩ = some (.bool (decide (255 < s))) := (blk_cell Bgg.out 5).trans rfl
    have hfgg5 := blk_frozen Bgg.out 5
    try go_wp2_with (fail)
    clear hcgg0 hfgg0 hcgg1 hfgg1 hcgg2 hfgg2 hcgg3 hfgg3 hcgg4 hfgg4 hcgg5 hfgg5
    have mgg := Aside0.mk (show ((v8_).setCell ⟨gg, 1, none⟩ (.bool false)).heap[gg]? = some (.cells #[.bool n7, .bool false, .bool false, .bool f3, .bool zz, .bool (decide (255 < s))] 40 (0, 0)) from (by refine blk_put (cs := #[.bool n7, .bool f1, .bool false, .bool f3, .bool zz, .bool (decide (255 < s))]) ?_ 1 _ rfl; exact Bgg.out))
    have ne_ : gf ≠ gg := by first | exact NEgg_gf.out.symm | exact NEgf_gg.out
    have mgf := Aside0.mk (blk_far (p := ⟨gg, 1, none⟩) Bgf.out ne_ (.bool false))
    clear ne_
    have ne_ : gr ≠ gg := by first | exact NEgg_gr.out.symm | exact NEgr_gg.out
    have mgr := Aside0.mk (blk_far (p := ⟨gg, 1, none⟩) Bgr.out ne_ (.bool false))
    clear ne_
    have mH := Aside0.mk (below_set (j := 1) (v := .bool false) HB.out Ggg.out)
    clear HB Bgg Bgf Bgr
    have HB := mH
    have Bgg := mgg
    have Bgf := mgf
    have Bgr := mgr
    clear mH mgg mgf mgr
    with_reducible generalize (v8_).setCell ⟨gg, 1, none⟩ (.bool false) = v9_ at HB Bgg Bgf Bgr ⊢
    have hcgg0 : v9_.cell? ⟨gg, 0, none⟩ = some (.bool n7) := (blk_cell Bgg.out 0).trans rfl
    have hfgg0 := blk_frozen Bgg.out 0
    have hcgg1 : v9_.cell? ⟨gg, 1, none⟩ = some (.bool false) := (blk_cell Bgg.out 1).trans rfl
    have hfgg1 := blk_frozen Bgg.out 1
    have hcgg2 : v9_.cell? ⟨gg, 2, none⟩ = some (.bool false) := (blk_cell Bgg.out 2).trans rfl
    have hfgg2 := blk_frozen Bgg.out 2
    have hcgg3 : v9_.cell? ⟨gg, 3, none⟩ = some (.bool f3) := (blk_cell Bgg.out 3).trans rfl
    have hfgg3 := blk_frozen Bgg.out 3
    have hcgg4 : v9_.cell? ⟨gg, 4, none⟩ = some (.bool zz) := (blk_cell Bgg.out 4).trans rfl
    have hfgg4 := blk_frozen Bgg.out 4
    have hcgg5 : v9_.cell? ⟨gg, 5, none⟩ = some (.bool (decide (255 < s))) := (blk_cell Bgg.out 5).trans rfl
    have hfgg5 := blk_frozen Bgg.out 5
    go_still_tail 4, (by kernel_rfl)
    clear hcgg0 hfgg0 hcgg1 hfgg1 hcgg2 hfgg2 hcgg3 hfgg3 hcgg4 hfgg4 hcgg5 hfgg5
    have mgf := Aside0.mk (blk_drew Bgf.out)
    have mgr := Aside0.mk (blk_drew Bgr.out)
    have mgg := Aside0.mk (blk_drew Bgg.out)
    have mH := Aside0.mk (below_drew1 HB.out)
    clear HB Bgf Bgr Bgg
    have HB := mH
    have Bgf := mgf
    have Bgr := mgr
    have Bgg := mgg
    clear mH mgf mgr mgg
    show wpList Try.prog _ _ _ _ v9_.drew
    generalize v9_.drew = v10_ at HB Bgf Bgr Bgg ⊢
    have hcgg0 : v10_.cell? ⟨gg, 0, none⟩ = some (.bool n7) := (blk_cell Bgg.out 0).trans rfl
    have hfgg0 := blk_frozen Bgg.out 0
    have hcgg1 : v10_.cell? ⟨gg, 1, none⟩ = some (.bool false) := (blk_cell Bgg.out 1).trans rfl
    have hfgg1 := blk_frozen Bgg.out 1
    have hcgg2 : v10_.cell? ⟨gg, 2, none⟩ = some (.bool false) := (blk_cell Bgg.out 2).trans rfl
    have hfgg2 := blk_frozen Bgg.out 2
    have hcgg3 : v10_.cell? ⟨gg, 3, none⟩ = some (.bool f3) := (blk_cell Bgg.out 3).trans rfl
    have hfgg3 := blk_frozen Bgg.out 3
    have hcgg4 : v10_.cell? ⟨gg, 4, none⟩ = some (.bool zz) := (blk_cell Bgg.out 4).trans rfl
    have hfgg4 := blk_frozen Bgg.out 4
    have hcgg5 : v10_.cell? ⟨gg, 5, none⟩ = some (.bool (decide (255 < s))) := (blk_cell Bgg.out 5).trans rfl
    have hfgg5 := blk_frozen Bgg.out 5
    have hcgr0 : v10_.cell? ⟨gr, 0, none⟩ = some (.bool false) := (blk_cell Bgr.out 0).trans rfl
    have hfgr0 := blk_frozen Bgr.out 0
    have hcgr1 : v10_.cell? ⟨gr, 1, none⟩ = some (.bool false) := (blk_cell Bgr.out 1).trans rfl
    have hfgr1 := blk_frozen Bgr.out 1
    have hcgr2 : v10_.cell? ⟨gr, 2, none⟩ = some (.bool false) := (blk_cell Bgr.out 2).trans rfl
    have hfgr2 := blk_frozen Bgr.out 2
    have hcgr3 : v10_.cell? ⟨gr, 3, none⟩ = some (.bool false) := (blk_cell Bgr.out 3).trans rfl
    have hfgr3 := blk_frozen Bgr.out 3
    have hcgr4 : v10_.cell? ⟨gr, 4, none⟩ = some (.bool false) := (blk_cell Bgr.out 4).trans rfl
    have hfgr4 := blk_frozen Bgr.out 4
    have hcgr5 : v10_.cell? ⟨gr, 5, none⟩ = some (.bool false) := (blk_cell Bgr.out 5).trans rfl
    have hfgr5 := blk_frozen Bgr.out 5
    try go_wp2_with (fail)
    refine bodyPost_ret (results_tc rfl _ _ gr 40 #[.bool n7, .bool false, .bool false, .bool f3, .bool zz, .bool (decide (255 < s))] (0, 0) _ rfl (by (with_reducible repeat (first | refine blk_drewN ?_ _ | refine blk_drew ?_ | refine blk_alloc ?_ _)); refine blk_put (cs := #[.bool n7, .bool false, .bool false, .bool f3, .bool zz, .bool false]) ?_ 5 _ rfl; (with_reducible repeat (first | refine blk_drewN ?_ _ | refine blk_drew ?_ | refine blk_alloc ?_ _)); refine blk_put (cs := #[.bool n7, .bool false, .bool false, .bool f3, .bool false, .bool false]) ?_ 4 _ rfl; (with_reducible repeat (first | refine blk_drewN ?_ _ | refine blk_drew ?_ | refine blk_alloc ?_ _)); refine blk_put (cs := #[.bool n7, .bool false, .bool false, .bool false, .bool false, .bool false]) ?_ 3 _ rfl; (with_reducible repeat (first | refine blk_drewN ?_ _ | refine blk_drew ?_ | refine blk_alloc ?_ _)); refine blk_put (cs := #[.bool n7, .bool false, .bool false, .bool false, .bool false, .bool false]) ?_ 2 _ rfl; (with_reducible repeat (first | refine blk_drewN ?_ _ | refine blk_drew ?_ | refine blk_alloc ?_ _)); refine blk_put (cs := #[.bool n7, .bool false, .bool false, .bool false, .bool false, .bool false]) ?_ 1 _ rfl; (with_reducible repeat (first | refine blk_drewN ?_ _ | refine blk_drew ?_ | refine blk_alloc ?_ _)); refine blk_put (cs := #[.bool false, .bool false, .bool false, .bool false, .bool false, .bool false]) ?_ 0 _ rfl; (with_reducible repeat (first | refine blk_drewN ?_ _ | refine blk_drew ?_ | refine blk_alloc ?_ _)); exact Bgr.out) Try.underlying40 rfl (by kernel_rfl)) rfl ?_
    have e1_ := H1'.out
    have e2_ := H7.out
    subst e1_
    subst e2_
    exact ⟨by first | rfl | simp, by repeat (first | (with_reducible first | exact HB.out | apply below_alloc | apply pw_below_drewN | apply below_drew1 | refine below_set ?_ Ggf.out | refine below_set ?_ Ggr.out | refine below_set ?_ Ggg.out) | exact HB.out)⟩
  | true =>
    have h3 : (n7 != a7) = r3 := by rw [← H3.out, hq]; rfl
    subst h3
    try go_wp2_with (fail)
    refine (impl_has.calls (s % 256) 7 n7 _ HM.out).mono ?_
    rintro e v11_ ⟨rfl, hd_⟩
    have hb_ := hd_.below
    clear hd_
    have mgf := Aside0.mk ((hb_.block gf (blk_lt Bgf.out)).trans Bgf.out)
    have mgr := Aside0.mk ((hb_.block gr (blk_lt Bgr.out)).trans Bgr.out)
    have mgg := Aside0.mk ((hb_.block gg (blk_lt Bgg.out)).trans Bgg.out)
    have mH := Aside0.mk (below_step HB.out hb_)
    clear HB Bgf Bgr Bgg hb_
    have HB := mH
    have Bgf := mgf
    have Bgr := mgr
    have Bgg := mgg
    clear mH mgf mgr mgg
    try go_wp2_with (fail)
    refine (impl_has.calls a 7 a7 _ HA.out).mono ?_
    rintro e v12_ ⟨rfl, hd_⟩
    have hb_ := hd_.below
    clear hd_
    have mgf := Aside0.mk ((hb_.block gf (blk_lt Bgf.out)).trans Bgf.out)
    have mgr := Aside0.mk ((hb_.block gr (blk_lt Bgr.out)).trans Bgr.out)
    have mgg := Aside0.mk ((hb_.block gg (blk_lt Bgg.out)).trans Bgg.out)
    have mH := Aside0.mk (below_step HB.out hb_)
    clear HB Bgf Bgr Bgg hb_
    have HB := mH
    have Bgf := mgf
    have Bgr := mgr
    have Bgg := mgg
    clear mH mgf mgr mgg
    have hcgg0 : v12_.cell? ⟨gg, 0, none⟩ = some (.bool n7) := (blk_cell Bgg.out 0).trans rfl
    have hfgg0 := blk_frozen Bgg.out 0
    have hcgg1 : v12_.cell? ⟨gg, 1, none⟩ = some (.bool f1) := (blk_cell Bgg.out 1).trans rfl
    have hfgg1 := blk_frozen Bgg.out 1
    have hcgg2 : v12_.cell? ⟨gg, 2, none⟩ = some (.bool false) := (blk_cell Bgg.out 2).trans rfl
    have hfgg2 := blk_frozen Bgg.out 2
    have hcgg3 : v12_.cell? ⟨gg, 3, none⟩ = some (.bool f3) := (blk_cell Bgg.out 3).trans rfl
    have hfgg3 := blk_frozen Bgg.out 3
    have hcgg4 : v12_.cell? ⟨gg, 4, none⟩ = some (.bool zz) := (blk_cell Bgg.out 4).trans rfl
    have hfgg4 := blk_frozen Bgg.out 4
    have hcgg5 : v12_.cell? ⟨gg, 5, none⟩ = some (.bool (decide (255 < s))) := (blk_cell Bgg.out 5).trans rfl
    have hfgg5 := blk_frozen Bgg.out 5
    try go_wp2_with (fail)
    clear hcgg0 hfgg0 hcgg1 hfgg1 hcgg2 hfgg2 hcgg3 hfgg3 hcgg4 hfgg4 hcgg5 hfgg5
    have mgg := Aside0.mk (show ((v12_).setCell ⟨gg, 1, none⟩ (.bool (n7 != a7))).heap[gg]? = some (.cells #[.bool n7, .bool (n7 != a7), .bool false, .bool f3, .bool zz, .bool (decide (255 < s))] 40 (0, 0)) from (by refine blk_put (cs := #[.bool n7, .bool f1, .bool false, .bool f3, .bool zz, .bool (decide (255 < s))]) ?_ 1 _ rfl; exact Bgg.out))
    have ne_ : gf ≠ gg := by first | exact NEgg_gf.out.symm | exact NEgf_gg.out
    have mgf := Aside0.mk (blk_far (p := ⟨gg, 1, none⟩) Bgf.out ne_ (.bool (n7 != a7)))
    clear ne_
    have ne_ : gr ≠ gg := by first | exact NEgg_gr.out.symm | exact NEgr_gg.out
    have mgr := Aside0.mk (blk_far (p := ⟨gg, 1, none⟩) Bgr.out ne_ (.bool (n7 != a7)))
    clear ne_
    have mH := Aside0.mk (below_set (j := 1) (v := .bool (n7 != a7)) HB.out Ggg.out)
    clear HB Bgg Bgf Bgr
    have HB := mH
    have Bgg := mgg
    have Bgf := mgf
    have Bgr := mgr
    clear mH mgg mgf mgr
    with_reducible generalize (v12_).setCell ⟨gg, 1, none⟩ (.bool (n7 != a7)) = v13_ at HB Bgg Bgf Bgr ⊢
    have hcgg0 : v13_.cell? ⟨gg, 0, none⟩ = some (.bool n7) := (blk_cell Bgg.out 0).trans rfl
    have hfgg0 := blk_frozen Bgg.out 0
    have hcgg1 : v13_.cell? ⟨gg, 1, none⟩ = some (.bool (n7 != a7)) := (blk_cell Bgg.out 1).trans rfl
    have hfgg1 := blk_frozen Bgg.out 1
    have hcgg2 : v13_.cell? ⟨gg, 2, none⟩ = some (.bool false) := (blk_cell Bgg.out 2).trans rfl
    have hfgg2 := blk_frozen Bgg.out 2
    have hcgg3 : v13_.cell? ⟨gg, 3, none⟩ = some (.bool f3) := (blk_cell Bgg.out 3).trans rfl
    have hfgg3 := blk_frozen Bgg.out 3
    have hcgg4 : v13_.cell? ⟨gg, 4, none⟩ = some (.bool zz) := (blk_cell Bgg.out 4).trans rfl
    have hfgg4 := blk_frozen Bgg.out 4
    have hcgg5 : v13_.cell? ⟨gg, 5, none⟩ = some (.bool (decide (255 < s))) := (blk_cell Bgg.out 5).trans rfl
    have hfgg5 := blk_frozen Bgg.out 5
    go_still_tail 4, (by kernel_rfl)
    clear hcgg0 hfgg0 hcgg1 hfgg1 hcgg2 hfgg2 hcgg3 hfgg3 hcgg4 hfgg4 hcgg5 hfgg5
    have mgf := Aside0.mk (blk_drew Bgf.out)
    have mgr := Aside0.mk (blk_drew Bgr.out)
    have mgg := Aside0.mk (blk_drew Bgg.out)
    have mH := Aside0.mk (below_drew1 HB.out)
    clear HB Bgf Bgr Bgg
    have HB := mH
    have Bgf := mgf
    have Bgr := mgr
    have Bgg := mgg
    clear mH mgf mgr mgg
    show wpList Try.prog _ _ _ _ v13_.drew
    generalize v13_.drew = v14_ at HB Bgf Bgr Bgg ⊢
    have hcgg0 : v14_.cell? ⟨gg, 0, none⟩ = some (.bool n7) := (blk_cell Bgg.out 0).trans rfl
    have hfgg0 := blk_frozen Bgg.out 0
    have hcgg1 : v14_.cell? ⟨gg, 1, none⟩ = some (.bool (n7 != a7)) := (blk_cell Bgg.out 1).trans rfl
    have hfgg1 := blk_frozen Bgg.out 1
    have hcgg2 : v14_.cell? ⟨gg, 2, none⟩ = some (.bool false) := (blk_cell Bgg.out 2).trans rfl
    have hfgg2 := blk_frozen Bgg.out 2
    have hcgg3 : v14_.cell? ⟨gg, 3, none⟩ = some (.bool f3) := (blk_cell Bgg.out 3).trans rfl
    have hfgg3 := blk_frozen Bgg.out 3
    have hcgg4 : v14_.cell? ⟨gg, 4, none⟩ = some (.bool zz) := (blk_cell Bgg.out 4).trans rfl
    have hfgg4 := blk_frozen Bgg.out 4
    have hcgg5 : v14_.cell? ⟨gg, 5, none⟩ = some (.bool (decide (255 < s))) := (blk_cell Bgg.out 5).trans rfl
    have hfgg5 := blk_frozen Bgg.out 5
    have hcgr0 : v14_.cell? ⟨gr, 0, none⟩ = some (.bool false) := (blk_cell Bgr.out 0).trans rfl
    have hfgr0 := blk_frozen Bgr.out 0
    have hcgr1 : v14_.cell? ⟨gr, 1, none⟩ = some (.bool false) := (blk_cell Bgr.out 1).trans rfl
    have hfgr1 := blk_frozen Bgr.out 1
    have hcgr2 : v14_.cell? ⟨gr, 2, none⟩ = some (.bool false) := (blk_cell Bgr.out 2).trans rfl
    have hfgr2 := blk_frozen Bgr.out 2
    have hcgr3 : v14_.cell? ⟨gr, 3, none⟩ = some (.bool false) := (blk_cell Bgr.out 3).trans rfl
    have hfgr3 := blk_frozen Bgr.out 3
    have hcgr4 : v14_.cell? ⟨gr, 4, none⟩ = some (.bool false) := (blk_cell Bgr.out 4).trans rfl
    have hfgr4 := blk_frozen Bgr.out 4
    have hcgr5 : v14_.cell? ⟨gr, 5, none⟩ = some (.bool false) := (blk_cell Bgr.out 5).trans rfl
    have hfgr5 := blk_frozen Bgr.out 5
    try go_wp2_with (fail)
    refine bodyPost_ret (results_tc rfl _ _ gr 40 #[.bool n7, .bool (n7 != a7), .bool false, .bool f3, .bool zz, .bool (decide (255 < s))] (0, 0) _ rfl (by (with_reducible repeat (first | refine blk_drewN ?_ _ | refine blk_drew ?_ | refine blk_alloc ?_ _)); refine blk_put (cs := #[.bool n7, .bool (n7 != a7), .bool false, .bool f3, .bool zz, .bool false]) ?_ 5 _ rfl; (with_reducible repeat (first | refine blk_drewN ?_ _ | refine blk_drew ?_ | refine blk_alloc ?_ _)); refine blk_put (cs := #[.bool n7, .bool (n7 != a7), .bool false, .bool f3, .bool false, .bool false]) ?_ 4 _ rfl; (with_reducible repeat (first | refine blk_drewN ?_ _ | refine blk_drew ?_ | refine blk_alloc ?_ _)); refine blk_put (cs := #[.bool n7, .bool (n7 != a7), .bool false, .bool false, .bool false, .bool false]) ?_ 3 _ rfl; (with_reducible repeat (first | refine blk_drewN ?_ _ | refine blk_drew ?_ | refine blk_alloc ?_ _)); refine blk_put (cs := #[.bool n7, .bool (n7 != a7), .bool false, .bool false, .bool false, .bool false]) ?_ 2 _ rfl; (with_reducible repeat (first | refine blk_drewN ?_ _ | refine blk_drew ?_ | refine blk_alloc ?_ _)); refine blk_put (cs := #[.bool n7, .bool false, .bool false, .bool false, .bool false, .bool false]) ?_ 1 _ rfl; (with_reducible repeat (first | refine blk_drewN ?_ _ | refine blk_drew ?_ | refine blk_alloc ?_ _)); refine blk_put (cs := #[.bool false, .bool false, .bool false, .bool false, .bool false, .bool false]) ?_ 0 _ rfl; (with_reducible repeat (first | refine blk_drewN ?_ _ | refine blk_drew ?_ | refine blk_alloc ?_ _)); exact Bgr.out) Try.underlying40 rfl (by kernel_rfl)) rfl ?_
    have e1_ := H1'.out
    have e2_ := H7.out
    subst e1_
    subst e2_
    exact ⟨by first | rfl | simp, by repeat (first | (with_reducible first | exact HB.out | apply below_alloc | apply pw_below_drewN | apply below_drew1 | refine below_set ?_ Ggf.out | refine below_set ?_ Ggr.out | refine below_set ?_ Ggg.out) | exact HB.out)⟩
set_option maxHeartbeats 2000000 in
set_option maxRecDepth 100000 in
theorem impl_Adc.dec_cc (a b : Int) (f0 f1 f3 f4 f5 : Bool) (w : World) (a0 : 0 ≤ a) (a1 : a ≤ 255) (b0 : 0 ≤ b) (b1 : b ≤ 255) (r1 : Int) (r2 r3 r4 r5 r6 r7 : Bool) (c10 : 10 ≤ a % 16 + b % 16 + tc f5) (c160 : 160 ≤ sumH a b (tc f5)) (hr : dec a b (tc f5) f3 = (r1, r2, r3, r4, r5, r6, r7)) : Calls Try.prog 59 #[.int .u8 a, .int .u8 b, .agg #[.bool f0, .bool f1, .bool true, .bool f3, .bool f4, .bool f5]] w fun e w' => e = .returned (.tuple #[.int .u8 r1, .agg #[.bool r2, .bool r3, .bool r4, .bool r5, .bool r6, .bool r7]]) ∧ Below w.heap.size w w' := by
  simp only [dec, Prod.mk.injEq] at hr
  obtain ⟨h1, h2, h3, rfl, rfl, h6, h7⟩ := hr
  obtain ⟨t0, t1⟩ := tc01 f5
  have H1 := Aside0.mk (one_tc f5)
  generalize tc f5 = t at t0 t1 H1 h1 h2 h3 h6 h7 c10 c160
  have H6 : Aside0 (((a + b + t) % 256 == 0) = r6) := ⟨h6⟩
  clear h6
  have s0 : 0 ≤ a + b + t := by omega
  have s1 : a + b + t ≤ 511 := by omega
  have HA := Aside0.mk (has_hi a a0 a1)
  have HBB := Aside0.mk (has_hi b b0 b1)
  have q1 := and15 a0 a1
  have q2 := and15 b0 b1
  have q3 := and240 a0 a1
  have q4 := and240 b0 b1
  have x1 : 0 ≤ a % 16 := by omega
  have x2 : a % 16 ≤ 15 := by omega
  have x3 : 0 ≤ b % 16 := by omega
  have x4 : b % 16 ≤ 15 := by omega
  have x5 : 0 ≤ a - a % 16 := by omega
  have x6 : a - a % 16 ≤ 240 := by omega
  have x7 : 0 ≤ b - b % 16 := by omega
  have x8 : b - b % 16 ≤ 240 := by omega
  generalize hh : sumH a b t = h at h1 h2 h3 h7 c160
  simp only [sumH, sumL] at hh
  generalize a - a % 16 = ah at q3 hh x5 x6
  generalize b - b % 16 = bh at q4 hh x7 x8
  generalize a % 16 = al at q1 hh x1 x2 c10
  generalize b % 16 = bl at q2 hh x3 x4 c10
  have HS : ∃ s, Aside0 (a + b + t = s) := ⟨_, ⟨rfl⟩⟩
  have d10 : decide (10 ≤ al + bl + t) = true := decide_eq_true c10
  rw [low, if_pos c10] at hh
  have q5 := and15i (a := al + bl + t + 6) (by omega) (by omega)
  have l0 : 0 ≤ (al + bl + t + 6) % 16 := by omega
  have l1 : (al + bl + t + 6) % 16 ≤ 15 := by omega
  generalize (al + bl + t + 6) % 16 = lm at q5 hh l0 l1
  have d160 : decide (160 ≤ h) = true := decide_eq_true c160
  rw [top, if_pos c160] at h1 h7
  have g0 : 0 ≤ h := by omega
  have g1 : h ≤ 511 := by omega
  have m0 : 0 ≤ h % 256 := by omega
  have m1 : h % 256 ≤ 255 := by omega
  have HM := Aside0.mk (has_hi _ m0 m1)
  rw [hi_mod] at HM
  simp only [ov] at h3
  generalize hi h = hn at h2 h3 HM
  generalize hi a = a7 at h3 HA
  generalize hi b = b7 at h3 HBB
  have H1' := Aside0.mk h1
  have HH := Aside0.mk hh
  subst h2
  have H7 := Aside0.mk h7
  have H3 := Aside0.mk h3
  clear h1 hh h7 h3 c10 c160 HS
  have HB := Aside0.mk (Below.refl w.heap.size w)
  have hu24 := Try.underlying40
  go_enter Try.func59, Try.ntmps59
  try go_wp2_with (first | ((with_reducible refine gate_dst (N := 5) rfl ?_); refine box_event ?hg (N := 5) ?hd (cs := #[.bool f0, .bool f1, .bool true, .bool f3, .bool f4, .bool f5]) (t := 40) ?hr ?_; (case hd => rfl); (case hg => rfl); (case hr => first | (go_simp; done) | (go_simp; rfl)); intro gf hg v1_ hbox hb; have n0_ := Aside0.mk (below_step (by repeat (first | (with_reducible first | exact HB.out | apply below_alloc | apply pw_below_drewN | apply below_drew1) | exact HB.out)) hb); have n1_ := Aside0.mk (hbox); have n2_ := Aside0.mk ((by rw [hg]; exact (below_size (by repeat (first | (with_reducible first | exact HB.out | apply below_alloc | apply pw_below_drewN | apply below_drew1) | exact HB.out))) : w.heap.size ≤ gf)); clear HB; have HB := n0_; have Bgf := n1_; have Ggf := n2_; clear n0_ n1_ n2_; clear hb hbox hg) | ((with_reducible refine gate_dst (N := 7) rfl ?_); refine box_event ?hg (N := 7) ?hd (cs := #[.bool false, .bool false, .bool false, .bool false, .bool false, .bool false]) (t := 40) ?hr ?_; (case hd => rfl); (case hg => rfl); (case hr => first | (go_simp; done) | (go_simp; rfl)); intro gr hg v2_ hbox hb; have mgf := Aside0.mk ((hb.block _ (blk_lt Bgf.out)).trans Bgf.out); have NEgr_gf := Aside0.mk (show gr ≠ gf from by rw [hg]; exact Nat.ne_of_gt (blk_lt Bgf.out)); clear Bgf; have Bgf := mgf; clear mgf; have n0_ := Aside0.mk (below_step (by repeat (first | (with_reducible first | exact HB.out | apply below_alloc | apply pw_below_drewN | apply below_drew1) | exact HB.out)) hb); have n1_ := Aside0.mk (hbox); have n2_ := Aside0.mk ((by rw [hg]; exact (below_size (by repeat (first | (with_reducible first | exact HB.out | apply below_alloc | apply pw_below_drewN | apply below_drew1) | exact HB.out))) : w.heap.size ≤ gr)); clear HB; have HB := n0_; have Bgr := n1_; have Ggr := n2_; clear n0_ n1_ n2_; clear hb hbox hg; have hcgf0 : v2_.cell? ⟨gf, 0, none⟩ = some (.bool f0) := (blk_cell Bgf.out 0).trans rfl; have hfgf0 := blk_frozen Bgf.out 0; have hcgf1 : v2_.cell? ⟨gf, 1, none⟩ = some (.bool f1) := (blk_cell Bgf.out 1).trans rfl; have hfgf1 := blk_frozen Bgf.out 1; have hcgf2 : v2_.cell? ⟨gf, 2, none⟩ = some (.bool true) := (blk_cell Bgf.out 2).trans rfl; have hfgf2 := blk_frozen Bgf.out 2; have hcgf3 : v2_.cell? ⟨gf, 3, none⟩ = some (.bool f3) := (blk_cell Bgf.out 3).trans rfl; have hfgf3 := blk_frozen Bgf.out 3; have hcgf4 : v2_.cell? ⟨gf, 4, none⟩ = some (.bool f4) := (blk_cell Bgf.out 4).trans rfl; have hfgf4 := blk_frozen Bgf.out 4; have hcgf5 : v2_.cell? ⟨gf, 5, none⟩ = some (.bool f5) := (blk_cell Bgf.out 5).trans rfl; have hfgf5 := blk_frozen Bgf.out 5))
  refine (impl_one.calls f5 t _ H1.out).mono ?_
  rintro e v3_ ⟨rfl, hd_⟩
  have hb_ := hd_.below
  clear hd_
  clear hcgf0 hfgf0 hcgf1 hfgf1 hcgf2 hfgf2 hcgf3 hfgf3 hcgf4 hfgf4 hcgf5 hfgf5
  have mgf := Aside0.mk ((hb_.block gf (blk_lt Bgf.out)).trans Bgf.out)
  have mgr := Aside0.mk ((hb_.block gr (blk_lt Bgr.out)).trans Bgr.out)
  have mH := Aside0.mk (below_step HB.out hb_)
  clear HB Bgf Bgr hb_
  have HB := mH
  have Bgf := mgf
  have Bgr := mgr
  clear mH mgf mgr
  have hcgf0 : v3_.cell? ⟨gf, 0, none⟩ = some (.bool f0) := (blk_cell Bgf.out 0).trans rfl
  have hfgf0 := blk_frozen Bgf.out 0
  have hcgf1 : v3_.cell? ⟨gf, 1, none⟩ = some (.bool f1) := (blk_cell Bgf.out 1).trans rfl
  have hfgf1 := blk_frozen Bgf.out 1
  have hcgf2 : v3_.cell? ⟨gf, 2, none⟩ = some (.bool true) := (blk_cell Bgf.out 2).trans rfl
  have hfgf2 := blk_frozen Bgf.out 2
  have hcgf3 : v3_.cell? ⟨gf, 3, none⟩ = some (.bool f3) := (blk_cell Bgf.out 3).trans rfl
  have hfgf3 := blk_frozen Bgf.out 3
  have hcgf4 : v3_.cell? ⟨gf, 4, none⟩ = some (.bool f4) := (blk_cell Bgf.out 4).trans rfl
  have hfgf4 := blk_frozen Bgf.out 4
  have hcgf5 : v3_.cell? ⟨gf, 5, none⟩ = some (.bool f5) := (blk_cell Bgf.out 5).trans rfl
  have hfgf5 := blk_frozen Bgf.out 5
  try go_wp2_with (fail)
  refine (impl_one.calls f5 t _ H1.out).mono ?_
  rintro e v4_ ⟨rfl, hd_⟩
  have hb_ := hd_.below
  clear hd_
  clear hcgf0 hfgf0 hcgf1 hfgf1 hcgf2 hfgf2 hcgf3 hfgf3 hcgf4 hfgf4 hcgf5 hfgf5
  have mgf := Aside0.mk ((hb_.block gf (blk_lt Bgf.out)).trans Bgf.out)
  have mgr := Aside0.mk ((hb_.block gr (blk_lt Bgr.out)).trans Bgr.out)
  have mH := Aside0.mk (below_step HB.out hb_)
  clear HB Bgf Bgr hb_
  have HB := mH
  have Bgf := mgf
  have Bgr := mgr
  clear mH mgf mgr
  try go_wp2_with (fail)
  rw [HH.out]
  refine (impl_has.calls (h % 256) 7 hn _ HM.out).mono ?_
  rintro e v5_ ⟨rfl, hd_⟩
  have hb_ := hd_.below
  clear hd_
  have mgf := Aside0.mk ((hb_.block gf (blk_lt Bgf.out)).trans Bgf.out)
  have mgr := Aside0.mk ((hb_.block gr (blk_lt Bgr.out)).trans Bgr.out)
  have mH := Aside0.mk (below_step HB.out hb_)
  clear HB Bgf Bgr hb_
  have HB := mH
  have Bgf := mgf
  have Bgr := mgr
  clear mH mgf mgr
  have hcgf0 : v5_.cell? ⟨gf, 0, none⟩ = some (.bool f0) := (blk_cell Bgf.out 0).trans rfl
  have hfgf0 := blk_frozen Bgf.out 0
  have hcgf1 : v5_.cell? ⟨gf, 1, none⟩ = some (.bool f1) := (blk_cell Bgf.out 1).trans rfl
  have hfgf1 := blk_frozen Bgf.out 1
  have hcgf2 : v5_.cell? ⟨gf, 2, none⟩ = some (.bool true) := (blk_cell Bgf.out 2).trans rfl
  have hfgf2 := blk_frozen Bgf.out 2
  have hcgf3 : v5_.cell? ⟨gf, 3, none⟩ = some (.bool f3) := (blk_cell Bgf.out 3).trans rfl
  have hfgf3 := blk_frozen Bgf.out 3
  have hcgf4 : v5_.cell? ⟨gf, 4, none⟩ = some (.bool f4) := (blk_cell Bgf.out 4).trans rfl
  have hfgf4 := blk_frozen Bgf.out 4
  have hcgf5 : v5_.cell? ⟨gf, 5, none⟩ = some (.bool f5) := (blk_cell Bgf.out 5).trans rfl
  have hfgf5 := blk_frozen Bgf.out 5
  try go_wp2_with (fail)
  clear hcgf0 hfgf0 hcgf1 hfgf1 hcgf2 hfgf2 hcgf3 hfgf3 hcgf4 hfgf4 hcgf5 hfgf5
  have mgf := Aside0.mk (show ((v5_).setCell ⟨gf, 0, none⟩ (.bool hn)).heap[gf]? = some (.cells #[.bool hn, .bool f1, .bool true, .bool f3, .bool f4, .bool f5] 40 (0, 0)) from (by refine blk_put (cs := #[.bool f0, .bool f1, .bool true, .bool f3, .bool f4, .bool f5]) ?_ 0 _ rfl; exact Bgf.out))
  have ne_ : gr ≠ gf := by first | exact NEgf_gr.out.symm | exact NEgr_gf.out
  have mgr := Aside0.mk (blk_far (p := ⟨gf, 0, none⟩) Bgr.out ne_ (.bool hn))
  clear ne_
  have mH := Aside0.mk (below_set (j := 0) (v := .bool hn) HB.out Ggf.out)
  clear HB Bgf Bgr
  have HB := mH
  have Bgf := mgf
  have Bgr := mgr
  clear mH mgf mgr
  with_reducible generalize (v5_).setCell ⟨gf, 0, none⟩ (.bool hn) = v6_ at HB Bgf Bgr ⊢
  refine (impl_has.calls a 7 a7 _ HA.out).mono ?_
  rintro e v7_ ⟨rfl, hd_⟩
  have hb_ := hd_.below
  clear hd_
  have mgf := Aside0.mk ((hb_.block gf (blk_lt Bgf.out)).trans Bgf.out)
  have mgr := Aside0.mk ((hb_.block gr (blk_lt Bgr.out)).trans Bgr.out)
  have mH := Aside0.mk (below_step HB.out hb_)
  clear HB Bgf Bgr hb_
  have HB := mH
  have Bgf := mgf
  have Bgr := mgr
  clear mH mgf mgr
  try go_wp2_with (fail)
  refine (impl_has.calls b 7 b7 _ HBB.out).mono ?_
  rintro e v8_ ⟨rfl, hd_⟩
  have hb_ := hd_.below
  clear hd_
  have mgf := Aside0.mk ((hb_.block gf (blk_lt Bgf.out)).trans Bgf.out)
  have mgr := Aside0.mk ((hb_.block gr (blk_lt Bgr.out)).trans Bgr.out)
  have mH := Aside0.mk (below_step HB.out hb_)
  clear HB Bgf Bgr hb_
  have HB := mH
  have Bgf := mgf
  have Bgr := mgr
  clear mH mgf mgr
  cases hq : (a7 == b7) with
  | false =>
    have h3 : false = r3 := by rw [← H3.out, hq]; rfl
    subst h3
    have hcgf0 : v8_.cell? ⟨gf, 0, none⟩ = some (.bool hn) := (blk_cell Bgf.out 0).trans rfl
    have hfgf0 := blk_frozen Bgf.out 0
    have hcgf1 : v8_.cell? ⟨gf, 1, none⟩ = some (.bool f1) := (blk_cell Bgf.out 1).trans rfl
    have hfgf1 := blk_frozen Bgf.out 1
    have hcgf2 : v8_.cell? ⟨gf, 2, none⟩ = some (.bool true) := (blk_cell Bgf.out 2).trans rfl
    have hfgf2 := blk_frozen Bgf.out 2
    have hcgf3 : v8_.cell? ⟨gf, 3, none⟩ = some (.bool f3) := (blk_cell Bgf.out 3).trans rfl
    have hfgf3 := blk_frozen Bgf.out 3
    have hcgf4 : v8_.cell? ⟨gf, 4, none⟩ = some (.bool f4) := (blk_cell Bgf.out 4).trans rfl
    have hfgf4 := blk_frozen Bgf.out 4
    have hcgf5 : v8_.cell? ⟨gf, 5, none⟩ = some (.bool f5) := (blk_cell Bgf.out 5).trans rfl
    have hfgf5 := blk_frozen Bgf.out 5
    have hcgr0 : v8_.cell? ⟨gr, 0, none⟩ = some (.bool false) := (blk_cell Bgr.out 0).trans rfl
    have hfgr0 := blk_frozen Bgr.out 0
    have hcgr1 : v8_.cell? ⟨gr, 1, none⟩ = some (.bool false) := (blk_cell Bgr.out 1).trans rfl
    have hfgr1 := blk_frozen Bgr.out 1
    have hcgr2 : v8_.cell? ⟨gr, 2, none⟩ = some (.bool false) := (blk_cell Bgr.out 2).trans rfl
    have hfgr2 := blk_frozen Bgr.out 2
    have hcgr3 : v8_.cell? ⟨gr, 3, none⟩ = some (.bool false) := (blk_cell Bgr.out 3).trans rfl
    have hfgr3 := blk_frozen Bgr.out 3
    have hcgr4 : v8_.cell? ⟨gr, 4, none⟩ = some (.bool false) := (blk_cell Bgr.out 4).trans rfl
    have hfgr4 := blk_frozen Bgr.out 4
    have hcgr5 : v8_.cell? ⟨gr, 5, none⟩ = some (.bool false) := (blk_cell Bgr.out 5).trans rfl
    have hfgr5 := blk_frozen Bgr.out 5
    try go_wp2_with (fail)
    clear hcgf0 hfgf0 hcgf1 hfgf1 hcgf2 hfgf2 hcgf3 hfgf3 hcgf4 hfgf4 hcgf5 hfgf5 hcgr0 hfgr0 hcgr1 hfgr1 hcgr2 hfgr2 hcgr3 hfgr3 hcgr4 hfgr4 hcgr5 hfgr5
    have mgf := Aside0.mk (show ((((v8_).setCell ⟨gf, 1, none⟩ (.bool false)).setCell ⟨gf, 5, none⟩ (.bool (decide (255 < h + 96)))).setCell ⟨gf, 4, none⟩ (.bool ((a + b + t) % 256 == 0))).heap[gf]? = some (.cells #[.bool hn, .bool false, .bool true, .bool f3, .bool ((a + b + t) % 256 == 0), .bool (decide (255 < h + 96))] 40 (0, 0)) from (by refine blk_put (cs := #[.bool hn, .bool false, .bool true, .bool f3, .bool f4, .bool (decide (255 < h + 96))]) ?_ 4 _ rfl; refine blk_put (cs := #[.bool hn, .bool false, .bool true, .bool f3, .bool f4, .bool f5]) ?_ 5 _ rfl; refine blk_put (cs := #[.bool hn, .bool f1, .bool true, .bool f3, .bool f4, .bool f5]) ?_ 1 _ rfl; exact Bgf.out))
    have ne_ : gr ≠ gf := by first | exact NEgf_gr.out.symm | exact NEgr_gf.out
    have mgr := Aside0.mk (blk_far (p := ⟨gf, 4, none⟩) (blk_far (p := ⟨gf, 5, none⟩) (blk_far (p := ⟨gf, 1, none⟩) Bgr.out ne_ (.bool false)) ne_ (.bool (decide (255 < h + 96)))) ne_ (.bool ((a + b + t) % 256 == 0)))
    clear ne_
    have mH := Aside0.mk (below_set (j := 4) (v := .bool ((a + b + t) % 256 == 0)) (below_set (j := 5) (v := .bool (decide (255 < h + 96))) (below_set (j := 1) (v := .bool false) HB.out Ggf.out) Ggf.out) Ggf.out)
    clear HB Bgf Bgr
    have HB := mH
    have Bgf := mgf
    have Bgr := mgr
    clear mH mgf mgr
    with_reducible generalize (((v8_).setCell ⟨gf, 1, none⟩ (.bool false)).setCell ⟨gf, 5, none⟩ (.bool (decide (255 < h + 96)))).setCell ⟨gf, 4, none⟩ (.bool ((a + b + t) % 256 == 0)) = v9_ at HB Bgf Bgr ⊢
    have hcgf0 : v9_.cell? ⟨gf, 0, none⟩ = some (.bool hn) := (blk_cell Bgf.out 0).trans rfl
    have hfgf0 := blk_frozen Bgf.out 0
    have hcgf1 : v9_.cell? ⟨gf, 1, none⟩ = some (.bool false) := (blk_cell Bgf.out 1).trans rfl
    have hfgf1 := blk_frozen Bgf.out 1
    have hcgf2 : v9_.cell? ⟨gf, 2, none⟩ = some (.bool true) := (blk_cell Bgf.out 2).trans rfl
    have hfgf2 := blk_frozen Bgf.out 2
    have hcgf3 : v9_.cell? ⟨gf, 3, none⟩ = some (.bool f3) := (blk_cell Bgf.out 3).trans rfl
    have hfgf3 := blk_frozen Bgf.out 3
    have hcgf4 : v9_.cell? ⟨gf, 4, none⟩ = some (.bool ((a + b + t) % 256 == 0)) := (blk_cell Bgf.out 4).trans rfl
    have hfgf4 := blk_frozen Bgf.out 4
    have hcgf5 : v9_.cell? ⟨gf, 5, none⟩ = some (.bool (decide (255 < h + 96))) := (blk_cell Bgf.out 5).trans rfl
    have hfgf5 := blk_frozen Bgf.out 5
    go_still_tail 4, (by kernel_rfl)
    clear hcgf0 hfgf0 hcgf1 hfgf1 hcgf2 hfgf2 hcgf3 hfgf3 hcgf4 hfgf4 hcgf5 hfgf5
    have mgf := Aside0.mk (blk_drew Bgf.out)
    have mgr := Aside0.mk (blk_drew Bgr.out)
    have mH := Aside0.mk (below_drew1 HB.out)
    clear HB Bgf Bgr
    have HB := mH
    have Bgf := mgf
    have Bgr := mgr
    clear mH mgf mgr
    show wpList Try.prog _ _ _ _ v9_.drew
    generalize v9_.drew = v10_ at HB Bgf Bgr ⊢
    have hcgf0 : v10_.cell? ⟨gf, 0, none⟩ = some (.bool hn) := (blk_cell Bgf.out 0).trans rfl
    have hfgf0 := blk_frozen Bgf.out 0
    have hcgf1 : v10_.cell? ⟨gf, 1, none⟩ = some (.bool false) := (blk_cell Bgf.out 1).trans rfl
    have hfgf1 := blk_frozen Bgf.out 1
    have hcgf2 : v10_.cell? ⟨gf, 2, none⟩ = some (.bool true) := (blk_cell Bgf.out 2).trans rfl
    have hfgf2 := blk_frozen Bgf.out 2
    have hcgf3 : v10_.cell? ⟨gf, 3, none⟩ = some (.bool f3) := (blk_cell Bgf.out 3).trans rfl
    have hfgf3 := blk_frozen Bgf.out 3
    have hcgf4 : v10_.cell? ⟨gf, 4, none⟩ = some (.bool ((a + b + t) % 256 == 0)) := (blk_cell Bgf.out 4).trans rfl
    have hfgf4 := blk_frozen Bgf.out 4
    have hcgf5 : v10_.cell? ⟨gf, 5, none⟩ = some (.bool (decide (255 < h + 96))) := (blk_cell Bgf.out 5).trans rfl
    have hfgf5 := blk_frozen Bgf.out 5
    have hcgr0 : v10_.cell? ⟨gr, 0, none⟩ = some (.bool false) := (blk_cell Bgr.out 0).trans rfl
    have hfgr0 := blk_frozen Bgr.out 0
    have hcgr1 : v10_.cell? ⟨gr, 1, none⟩ = some (.bool false) := (blk_cell Bgr.out 1).trans rfl
    have hfgr1 := blk_frozen Bgr.out 1
    have hcgr2 : v10_.cell? ⟨gr, 2, none⟩ = some (.bool false) := (blk_cell Bgr.out 2).trans rfl
    have hfgr2 := blk_frozen Bgr.out 2
    have hcgr3 : v10_.cell? ⟨gr, 3, none⟩ = some (.bool false) := (blk_cell Bgr.out 3).trans rfl
    have hfgr3 := blk_frozen Bgr.out 3
    have hcgr4 : v10_.cell? ⟨gr, 4, none⟩ = some (.bool false) := (blk_cell Bgr.out 4).trans rfl
    have hfgr4 := blk_frozen Bgr.out 4
    have hcgr5 : v10_.cell? ⟨gr, 5, none⟩ = some (.bool false) := (blk_cell Bgr.out 5).trans rfl
    have hfgr5 := blk_frozen Bgr.out 5
    try go_wp2_with (fail)
    refine bodyPost_ret (results_tc rfl _ _ gr 40 #[.bool hn, .bool false, .bool true, .bool f3, .bool ((a + b + t) % 256 == 0), .bool (decide (255 < h + 96))] (0, 0) _ rfl (by (with_reducible repeat (first | refine blk_drewN ?_ _ | refine blk_drew ?_ | refine blk_alloc ?_ _)); refine blk_put (cs := #[.bool hn, .bool false, .bool true, .bool f3, .bool ((a + b + t) % 256 == 0), .bool false]) ?_ 5 _ rfl; (with_reducible repeat (first | refine blk_drewN ?_ _ | refine blk_drew ?_ | refine blk_alloc ?_ _)); refine blk_put (cs := #[.bool hn, .bool false, .bool true, .bool f3, .bool false, .bool false]) ?_ 4 _ rfl; (with_reducible repeat (first | refine blk_drewN ?_ _ | refine blk_drew ?_ | refine blk_alloc ?_ _)); refine blk_put (cs := #[.bool hn, .bool false, .bool true, .bool false, .bool false, .bool false]) ?_ 3 _ rfl; (with_reducible repeat (first | refine blk_drewN ?_ _ | refine blk_drew ?_ | refine blk_alloc ?_ _)); refine blk_put (cs := #[.bool hn, .bool false, .bool false, .bool false, .bool false, .bool false]) ?_ 2 _ rfl; (with_reducible repeat (first | refine blk_drewN ?_ _ | refine blk_drew ?_ | refine blk_alloc ?_ _)); refine blk_put (cs := #[.bool hn, .bool false, .bool false, .bool false, .bool false, .bool false]) ?_ 1 _ rfl; (with_reducible repeat (first | refine blk_drewN ?_ _ | refine blk_drew ?_ | refine blk_alloc ?_ _)); refine blk_put (cs := #[.bool false, .bool false, .bool false, .bool false, .bool false, .bool false]) ?_ 0 _ rfl; (with_reducible repeat (first | refine blk_drewN ?_ _ | refine blk_drew ?_ | refine blk_alloc ?_ _)); exact Bgr.out) Try.underlying40 rfl (by kernel_rfl)) rfl ?_
    have e1_ := H1'.out
    have e2_ := H7.out
    have e3_ := H6.out
    subst e1_
    subst e2_
    subst e3_
    exact ⟨by first | rfl | simp, by repeat (first | (with_reducible first | exact HB.out | apply below_alloc | apply pw_below_drewN | apply below_drew1 | refine below_set ?_ Ggf.out | refine below_set ?_ Ggr.out) | exact HB.out)⟩
  | true =>
    have h3 : (hn != a7) = r3 := by rw [← H3.out, hq]; rfl
    subst h3
    try go_wp2_with (fail)
    refine (impl_has.calls (h % 256) 7 hn _ HM.out).mono ?_
    rintro e v11_ ⟨rfl, hd_⟩
    have hb_ := hd_.below
    clear hd_
    have mgf := Aside0.mk ((hb_.block gf (blk_lt Bgf.out)).trans Bgf.out)
    have mgr := Aside0.mk ((hb_.block gr (blk_lt Bgr.out)).trans Bgr.out)
    have mH := Aside0.mk (below_step HB.out hb_)
    clear HB Bgf Bgr hb_
    have HB := mH
    have Bgf := mgf
    have Bgr := mgr
    clear mH mgf mgr
    try go_wp2_with (fail)
    refine (impl_has.calls a 7 a7 _ HA.out).mono ?_
    rintro e v12_ ⟨rfl, hd_⟩
    have hb_ := hd_.below
    clear hd_
    have mgf := Aside0.mk ((hb_.block gf (blk_lt Bgf.out)).trans Bgf.out)
    have mgr := Aside0.mk ((hb_.block gr (blk_lt Bgr.out)).trans Bgr.out)
    have mH := Aside0.mk (below_step HB.out hb_)
    clear HB Bgf Bgr hb_
    have HB := mH
    have Bgf := mgf
    have Bgr := mgr
    clear mH mgf mgr
    have hcgf0 : v12_.cell? ⟨gf, 0, none⟩ = some (.bool hn) := (blk_cell Bgf.out 0).trans rfl
    have hfgf0 := blk_frozen Bgf.out 0
    have hcgf1 : v12_.cell? ⟨gf, 1, none⟩ = some (.bool f1) := (blk_cell Bgf.out 1).trans rfl
    have hfgf1 := blk_frozen Bgf.out 1
    have hcgf2 : v12_.cell? ⟨gf, 2, none⟩ = some (.bool true) := (blk_cell Bgf.out 2).trans rfl
    have hfgf2 := blk_frozen Bgf.out 2
    have hcgf3 : v12_.cell? ⟨gf, 3, none⟩ = some (.bool f3) := (blk_cell Bgf.out 3).trans rfl
    have hfgf3 := blk_frozen Bgf.out 3
    have hcgf4 : v12_.cell? ⟨gf, 4, none⟩ = some (.bool f4) := (blk_cell Bgf.out 4).trans rfl
    have hfgf4 := blk_frozen Bgf.out 4
    have hcgf5 : v12_.cell? ⟨gf, 5, none⟩ = some (.bool f5) := (blk_cell Bgf.out 5).trans rfl
    have hfgf5 := blk_frozen Bgf.out 5
    have hcgr0 : v12_.cell? ⟨gr, 0, none⟩ = some (.bool false) := (blk_cell Bgr.out 0).trans rfl
    have hfgr0 := blk_frozen Bgr.out 0
    have hcgr1 : v12_.cell? ⟨gr, 1, none⟩ = some (.bool false) := (blk_cell Bgr.out 1).trans rfl
    have hfgr1 := blk_frozen Bgr.out 1
    have hcgr2 : v12_.cell? ⟨gr, 2, none⟩ = some (.bool false) := (blk_cell Bgr.out 2).trans rfl
    have hfgr2 := blk_frozen Bgr.out 2
    have hcgr3 : v12_.cell? ⟨gr, 3, none⟩ = some (.bool false) := (blk_cell Bgr.out 3).trans rfl
    have hfgr3 := blk_frozen Bgr.out 3
    have hcgr4 : v12_.cell? ⟨gr, 4, none⟩ = some (.bool false) := (blk_cell Bgr.out 4).trans rfl
    have hfgr4 := blk_frozen Bgr.out 4
    have hcgr5 : v12_.cell? ⟨gr, 5, none⟩ = some (.bool false) := (blk_cell Bgr.out 5).trans rfl
    have hfgr5 := blk_frozen Bgr.out 5
    try go_wp2_with (fail)
    clear hcgf0 hfgf0 hcgf1 hfgf1 hcgf2 hfgf2 hcgf3 hfgf3 hcgf4 hfgf4 hcgf5 hfgf5 hcgr0 hfgr0 hcgr1 hfgr1 hcgr2 hfgr2 hcgr3 hfgr3 hcgr4 hfgr4 hcgr5 hfgr5
    have mgf := Aside0.mk (show ((((v12_).setCell ⟨gf, 1, none⟩ (.bool (hn != a7))).setCell ⟨gf, 5, none⟩ (.bool (decide (255 < h + 96)))).setCell ⟨gf, 4, none⟩ (.bool ((a + b + t) % 256 == 0))).heap[gf]? = some (.cells #[.bool hn, .bool (hn != a7), .bool true, .bool f3, .bool ((a + b + t) % 256 == 0), .bool (decide (255 < h + 96))] 40 (0, 0)) from (by refine blk_put (cs := #[.bool hn, .bool (hn != a7), .bool true, .bool f3, .bool f4, .bool (decide (255 < h + 96))]) ?_ 4 _ rfl; refine blk_put (cs := #[.bool hn, .bool (hn != a7), .bool true, .bool f3, .bool f4, .bool f5]) ?_ 5 _ rfl; refine blk_put (cs := #[.bool hn, .bool f1, .bool true, .bool f3, .bool f4, .bool f5]) ?_ 1 _ rfl; exact Bgf.out))
    have ne_ : gr ≠ gf := by first | exact NEgf_gr.out.symm | exact NEgr_gf.out
    have mgr := Aside0.mk (blk_far (p := ⟨gf, 4, none⟩) (blk_far (p := ⟨gf, 5, none⟩) (blk_far (p := ⟨gf, 1, none⟩) Bgr.out ne_ (.bool (hn != a7))) ne_ (.bool (decide (255 < h + 96)))) ne_ (.bool ((a + b + t) % 256 == 0)))
    clear ne_
    have mH := Aside0.mk (below_set (j := 4) (v := .bool ((a + b + t) % 256 == 0)) (below_set (j := 5) (v := .bool (decide (255 < h + 96))) (below_set (j := 1) (v := .bool (hn != a7)) HB.out Ggf.out) Ggf.out) Ggf.out)
    clear HB Bgf Bgr
    have HB := mH
    have Bgf := mgf
    have Bgr := mgr
    clear mH mgf mgr
    with_reducible generalize (((v12_).setCell ⟨gf, 1, none⟩ (.bool (hn != a7))).setCell ⟨gf, 5, none⟩ (.bool (decide (255 < h + 96)))).setCell ⟨gf, 4, none⟩ (.bool ((a + b + t) % 256 == 0)) = v13_ at HB Bgf Bgr ⊢
    have hcgf0 : v13_.cell? ⟨gf, 0, none⟩ = some (.bool hn) := (blk_cell Bgf.out 0).trans rfl
    have hfgf0 := blk_frozen Bgf.out 0
    have hcgf1 : v13_.cell? ⟨gf, 1, none⟩ = some (.bool (hn != a7)) := (blk_cell Bgf.out 1).trans rfl
    have hfgf1 := blk_frozen Bgf.out 1
    have hcgf2 : v13_.cell? ⟨gf, 2, none⟩ = some (.bool true) := (blk_cell Bgf.out 2).trans rfl
    have hfgf2 := blk_frozen Bgf.out 2
    have hcgf3 : v13_.cell? ⟨gf, 3, none⟩ = some (.bool f3) := (blk_cell Bgf.out 3).trans rfl
    have hfgf3 := blk_frozen Bgf.out 3
    have hcgf4 : v13_.cell? ⟨gf, 4, none⟩ = some (.bool ((a + b + t) % 256 == 0)) := (blk_cell Bgf.out 4).trans rfl
    have hfgf4 := blk_frozen Bgf.out 4
    have hcgf5 : v13_.cell? ⟨gf, 5, none⟩ = some (.bool (decide (255 < h + 96))) := (blk_cell Bgf.out 5).trans rfl
    have hfgf5 := blk_frozen Bgf.out 5
    go_still_tail 4, (by kernel_rfl)
    clear hcgf0 hfgf0 hcgf1 hfgf1 hcgf2 hfgf2 hcgf3 hfgf3 hcgf4 hfgf4 hcgf5 hfgf5
    have mgf := Aside0.mk (blk_drew Bgf.out)
    have mgr := Aside0.mk (blk_drew Bgr.out)
    have mH := Aside0.mk (below_drew1 HB.out)
    clear HB Bgf Bgr
    have HB := mH
    have Bgf := mgf
    have Bgr := mgr
    clear mH mgf mgr
    show wpList Try.prog _ _ _ _ v13_.drew
    generalize v13_.drew = v14_ at HB Bgf Bgr ⊢
    have hcgf0 : v14_.cell? ⟨gf, 0, none⟩ = some (.bool hn) := (blk_cell Bgf.out 0).trans rfl
    have hfgf0 := blk_frozen Bgf.out 0
    have hcgf1 : v14_.cell? ⟨gf, 1, none⟩ = some (.bool (hn != a7)) := (blk_cell Bgf.out 1).trans rfl
    have hfgf1 := blk_frozen Bgf.out 1
    have hcgf2 : v14_.cell? ⟨gf, 2, none⟩ = some (.bool true) := (blk_cell Bgf.out 2).trans rfl
    have hfgf2 := blk_frozen Bgf.out 2
    have hcgf3 : v14_.cell? ⟨gf, 3, none⟩ = some (.bool f3) := (blk_cell Bgf.out 3).trans rfl
    have hfgf3 := blk_frozen Bgf.out 3
    have hcgf4 : v14_.cell? ⟨gf, 4, none⟩ = some (.bool ((a + b + t) % 256 == 0)) := (blk_cell Bgf.out 4).trans rfl
    have hfgf4 := blk_frozen Bgf.out 4
    have hcgf5 : v14_.cell? ⟨gf, 5, none⟩ = some (.bool (decide (255 < h + 96))) := (blk_cell Bgf.out 5).trans rfl
    have hfgf5 := blk_frozen Bgf.out 5
    have hcgr0 : v14_.cell? ⟨gr, 0, none⟩ = some (.bool false) := (blk_cell Bgr.out 0).trans rfl
    have hfgr0 := blk_frozen Bgr.out 0
    have hcgr1 : v14_.cell? ⟨gr, 1, none⟩ = some (.bool false) := (blk_cell Bgr.out 1).trans rfl
    have hfgr1 := blk_frozen Bgr.out 1
    have hcgr2 : v14_.cell? ⟨gr, 2, none⟩ = some (.bool false) := (blk_cell Bgr.out 2).trans rfl
    have hfgr2 := blk_frozen Bgr.out 2
    have hcgr3 : v14_.cell? ⟨gr, 3, none⟩ = some (.bool false) := (blk_cell Bgr.out 3).trans rfl
    have hfgr3 := blk_frozen Bgr.out 3
    have hcgr4 : v14_.cell? ⟨gr, 4, none⟩ = some (.bool false) := (blk_cell Bgr.out 4).trans rfl
    have hfgr4 := blk_frozen Bgr.out 4
    have hcgr5 : v14_.cell? ⟨gr, 5, none⟩ = some (.bool false) := (blk_cell Bgr.out 5).trans rfl
    have hfgr5 := blk_frozen Bgr.out 5
    try go_wp2_with (fail)
    refine bodyPost_ret (results_tc rfl _ _ gr 40 #[.bool hn, .bool (hn != a7), .bool true, .bool f3, .bool ((a + b + t) % 256 == 0), .bool (decide (255 < h + 96))] (0, 0) _ rfl (by (with_reducible repeat (first | refine blk_drewN ?_ _ | refine blk_drew ?_ | refine blk_alloc ?_ _)); refine blk_put (cs := #[.bool hn, .bool (hn != a7), .bool true, .bool f3, .bool ((a + b + t) % 256 == 0), .bool false]) ?_ 5 _ rfl; (with_reducible repeat (first | refine blk_drewN ?_ _ | refine blk_drew ?_ | refine blk_alloc ?_ _)); refine blk_put (cs := #[.bool hn, .bool (hn != a7), .bool true, .bool f3, .bool false, .bool false]) ?_ 4 _ rfl; (with_reducible repeat (first | refine blk_drewN ?_ _ | refine blk_drew ?_ | refine blk_alloc ?_ _)); refine blk_put (cs := #[.bool hn, .bool (hn != a7), .bool true, .bool false, .bool false, .bool false]) ?_ 3 _ rfl; (with_reducible repeat (first | refine blk_drewN ?_ _ | refine blk_drew ?_ | refine blk_alloc ?_ _)); refine blk_put (cs := #[.bool hn, .bool (hn != a7), .bool false, .bool false, .bool false, .bool false]) ?_ 2 _ rfl; (with_reducible repeat (first | refine blk_drewN ?_ _ | refine blk_drew ?_ | refine blk_alloc ?_ _)); refine blk_put (cs := #[.bool hn, .bool false, .bool false, .bool false, .bool false, .bool false]) ?_ 1 _ rfl; (with_reducible repeat (first | refine blk_drewN ?_ _ | refine blk_drew ?_ | refine blk_alloc ?_ _)); refine blk_put (cs := #[.bool false, .bool false, .bool false, .bool false, .bool false, .bool false]) ?_ 0 _ rfl; (with_reducible repeat (first | refine blk_drewN ?_ _ | refine blk_drew ?_ | refine blk_alloc ?_ _)); exact Bgr.out) Try.underlying40 rfl (by kernel_rfl)) rfl ?_
    have e1_ := H1'.out
    have e2_ := H7.out
    have e3_ := H6.out
    subst e1_
    subst e2_
    subst e3_
    exact ⟨by first | rfl | simp, by repeat (first | (with_reducible first | exact HB.out | apply below_alloc | apply pw_below_drewN | apply below_drew1 | refine below_set ?_ Ggf.out | refine below_set ?_ Ggr.out) | exact HB.out)⟩
set_option maxHeartbeats 2000000 in
set_option maxRecDepth 100000 in
theorem impl_Adc.dec_cn (a b : Int) (f0 f1 f3 f4 f5 : Bool) (w : World) (a0 : 0 ≤ a) (a1 : a ≤ 255) (b0 : 0 ≤ b) (b1 : b ≤ 255) (r1 : Int) (r2 r3 r4 r5 r6 r7 : Bool) (c10 : 10 ≤ a % 16 + b % 16 + tc f5) (c160 : ¬ 160 ≤ sumH a b (tc f5)) (hr : dec a b (tc f5) f3 = (r1, r2, r3, r4, r5, r6, r7)) : Calls Try.prog 59 #[.int .u8 a, .int .u8 b, .agg #[.bool f0, .bool f1, .bool true, .bool f3, .bool f4, .bool f5]] w fun e w' => e = .returned (.tuple #[.int .u8 r1, .agg #[.bool r2, .bool r3, .bool r4, .bool r5, .bool r6, .bool r7]]) ∧ Below w.heap.size w w' := by
  simp only [dec, Prod.mk.injEq] at hr
  obtain ⟨h1, h2, h3, rfl, rfl, h6, h7⟩ := hr
  obtain ⟨t0, t1⟩ := tc01 f5
  have H1 := Aside0.mk (one_tc f5)
  generalize tc f5 = t at t0 t1 H1 h1 h2 h3 h6 h7 c10 c160
  have H6 : Aside0 (((a + b + t) % 256 == 0) = r6) := ⟨h6⟩
  clear h6
  have s0 : 0 ≤ a + b + t := by omega
  have s1 : a + b + t ≤ 511 := by omega
  have HA := Aside0.mk (has_hi a a0 a1)
  have HBB := Aside0.mk (has_hi b b0 b1)
  have q1 := and15 a0 a1
  have q2 := and15 b0 b1
  have q3 := and240 a0 a1
  have q4 := and240 b0 b1
  have x1 : 0 ≤ a % 16 := by omega
  have x2 : a % 16 ≤ 15 := by omega
  have x3 : 0 ≤ b % 16 := by omega
  have x4 : b % 16 ≤ 15 := by omega
  have x5 : 0 ≤ a - a % 16 := by omega
  have x6 : a - a % 16 ≤ 240 := by omega
  have x7 : 0 ≤ b - b % 16 := by omega
  have x8 : b - b % 16 ≤ 240 := by omega
  generalize hh : sumH a b t = h at h1 h2 h3 h7 c160
  simp only [sumH, sumL] at hh
  generalize a - a % 16 = ah at q3 hh x5 x6
  generalize b - b % 16 = bh at q4 hh x7 x8
  generalize a % 16 = al at q1 hh x1 x2 c10
  generalize b % 16 = bl at q2 hh x3 x4 c10
  have HS : ∃ s, Aside0 (a + b + t = s) := ⟨_, ⟨rfl⟩⟩
  have d10 : decide (10 ≤ al + bl + t) = true := decide_eq_true c10
  rw [low, if_pos c10] at hh
  have q5 := and15i (a := al + bl + t + 6) (by omega) (by omega)
  have l0 : 0 ≤ (al + bl + t + 6) % 16 := by omega
  have l1 : (al + bl + t + 6) % 16 ≤ 15 := by omega
  generalize (al + bl + t + 6) % 16 = lm at q5 hh l0 l1
  have d160 : decide (160 ≤ h) = false := decide_eq_false c160
  rw [top, if_neg c160] at h1 h7
  have g0 : 0 ≤ h := by omega
  have g1 : h ≤ 511 := by omega
  have m0 : 0 ≤ h % 256 := by omega
  have m1 : h % 256 ≤ 255 := by omega
  have HM := Aside0.mk (has_hi _ m0 m1)
  rw [hi_mod] at HM
  simp only [ov] at h3
  generalize hi h = hn at h2 h3 HM
  generalize hi a = a7 at h3 HA
  generalize hi b = b7 at h3 HBB
  have H1' := Aside0.mk h1
  have HH := Aside0.mk hh
  subst h2
  have H7 := Aside0.mk h7
  have H3 := Aside0.mk h3
  clear h1 hh h7 h3 c10 c160 HS
  have HB := Aside0.mk (Below.refl w.heap.size w)
  have hu24 := Try.underlying40
  go_enter Try.func59, Try.ntmps59
  try go_wp2_with (first | ((with_reducible refine gate_dst (N := 5) rfl ?_); refine box_event ?hg (N := 5) ?hd (cs := #[.bool f0, .bool f1, .bool true, .bool f3, .bool f4, .bool f5]) (t := 40) ?hr ?_; (case hd => rfl); (case hg => rfl); (case hr => first | (go_simp; done) | (go_simp; rfl)); intro gf hg v1_ hbox hb; have n0_ := Aside0.mk (below_step (by repeat (first | (with_reducible first | exact HB.out | apply below_alloc | apply pw_below_drewN | apply below_drew1) | exact HB.out)) hb); have n1_ := Aside0.mk (hbox); have n2_ := Aside0.mk ((by rw [hg]; exact (below_size (by repeat (first | (with_reducible first | exact HB.out | apply below_alloc | apply pw_below_drewN | apply below_drew1) | exact HB.out))) : w.heap.size ≤ gf)); clear HB; have HB := n0_; have Bgf := n1_; have Ggf := n2_; clear n0_ n1_ n2_; clear hb hbox hg) | ((with_reducible refine gate_dst (N := 7) rfl ?_); refine box_event ?hg (N := 7) ?hd (cs := #[.bool false, .bool false, .bool false, .bool false, .bool false, .bool false]) (t := 40) ?hr ?_; (case hd => rfl); (case hg => rfl); (case hr => first | (go_simp; done) | (go_simp; rfl)); intro gr hg v2_ hbox hb; have mgf := Aside0.mk ((hb.block _ (blk_lt Bgf.out)).trans Bgf.out); have NEgr_gf := Aside0.mk (show gr ≠ gf from by rw [hg]; exact Nat.ne_of_gt (blk_lt Bgf.out)); clear Bgf; have Bgf := mgf; clear mgf; have n0_ := Aside0.mk (below_step (by repeat (first | (with_reducible first | exact HB.out | apply below_alloc | apply pw_below_drewN | apply below_drew1) | exact HB.out)) hb); have n1_ := Aside0.mk (hbox); have n2_ := Aside0.mk ((by rw [hg]; exact (below_size (by repeat (first | (with_reducible first | exact HB.out | apply below_alloc | apply pw_below_drewN | apply below_drew1) | exact HB.out))) : w.heap.size ≤ gr)); clear HB; have HB := n0_; have Bgr := n1_; have Ggr := n2_; clear n0_ n1_ n2_; clear hb hbox hg; have hcgf0 : v2_.cell? ⟨gf, 0, none⟩ = some (.bool f0) := (blk_cell Bgf.out 0).trans rfl; have hfgf0 := blk_frozen Bgf.out 0; have hcgf1 : v2_.cell? ⟨gf, 1, none⟩ = some (.bool f1) := (blk_cell Bgf.out 1).trans rfl; have hfgf1 := blk_frozen Bgf.out 1; have hcgf2 : v2_.cell? ⟨gf, 2, none⟩ = some (.bool true) := (blk_cell Bgf.out 2).trans rfl; have hfgf2 := blk_frozen Bgf.out 2; have hcgf3 : v2_.cell? ⟨gf, 3, none⟩ = some (.bool f3) := (blk_cell Bgf.out 3).trans rfl; have hfgf3 := blk_frozen Bgf.out 3; have hcgf4 : v2_.cell? ⟨gf, 4, none⟩ = some (.bool f4) := (blk_cell Bgf.out 4).trans rfl; have hfgf4 := blk_frozen Bgf.out 4; have hcgf5 : v2_.cell? ⟨gf, 5, none⟩ = some (.bool f5) := (blk_cell Bgf.out 5).trans rfl; have hfgf5 := blk_frozen Bgf.out 5))
  refine (impl_one.calls f5 t _ H1.out).mono ?_
  rintro e v3_ ⟨rfl, hd_⟩
  have hb_ := hd_.below
  clear hd_
  clear hcgf0 hfgf0 hcgf1 hfgf1 hcgf2 hfgf2 hcgf3 hfgf3 hcgf4 hfgf4 hcgf5 hfgf5
  have mgf := Aside0.mk ((hb_.block gf (blk_lt Bgf.out)).trans Bgf.out)
  have mgr := Aside0.mk ((hb_.block gr (blk_lt Bgr.out)).trans Bgr.out)
  have mH := Aside0.mk (below_step HB.out hb_)
  clear HB Bgf Bgr hb_
  have HB := mH
  have Bgf := mgf
  have Bgr := mgr
  clear mH mgf mgr
  have hcgf0 : v3_.cell? ⟨gf, 0, none⟩ = some (.bool f0) := (blk_cell Bgf.out 0).trans rfl
  have hfgf0 := blk_frozen Bgf.out 0
  have hcgf1 : v3_.cell? ⟨gf, 1, none⟩ = some (.bool f1) := (blk_cell Bgf.out 1).trans rfl
  have hfgf1 := blk_frozen Bgf.out 1
  have hcgf2 : v3_.cell? ⟨gf, 2, none⟩ = some (.bool true) := (blk_cell Bgf.out 2).trans rfl
  have hfgf2 := blk_frozen Bgf.out 2
  have hcgf3 : v3_.cell? ⟨gf, 3, none⟩ = some (.bool f3) := (blk_cell Bgf.out 3).trans rfl
  have hfgf3 := blk_frozen Bgf.out 3
  have hcgf4 : v3_.cell? ⟨gf, 4, none⟩ = some (.bool f4) := (blk_cell Bgf.out 4).trans rfl
  have hfgf4 := blk_frozen Bgf.out 4
  have hcgf5 : v3_.cell? ⟨gf, 5, none⟩ = some (.bool f5) := (blk_cell Bgf.out 5).trans rfl
  have hfgf5 := blk_frozen Bgf.out 5
  try go_wp2_with (fail)
  refine (impl_one.calls f5 t _ H1.out).mono ?_
  rintro e v4_ ⟨rfl, hd_⟩
  have hb_ := hd_.below
  clear hd_
  clear hcgf0 hfgf0 hcgf1 hfgf1 hcgf2 hfgf2 hcgf3 hfgf3 hcgf4 hfgf4 hcgf5 hfgf5
  have mgf := Aside0.mk ((hb_.block gf (blk_lt Bgf.out)).trans Bgf.out)
  have mgr := Aside0.mk ((hb_.block gr (blk_lt Bgr.out)).trans Bgr.out)
  have mH := Aside0.mk (below_step HB.out hb_)
  clear HB Bgf Bgr hb_
  have HB := mH
  have Bgf := mgf
  have Bgr := mgr
  clear mH mgf mgr
  try go_wp2_with (fail)
  rw [HH.out]
  refine (impl_has.calls (h % 256) 7 hn _ HM.out).mono ?_
  rintro e v5_ ⟨rfl, hd_⟩
  have hb_ := hd_.below
  clear hd_
  have mgf := Aside0.mk ((hb_.block gf (blk_lt Bgf.out)).trans Bgf.out)
  have mgr := Aside0.mk ((hb_.block gr (blk_lt Bgr.out)).trans Bgr.out)
  have mH := Aside0.mk (below_step HB.out hb_)
  clear HB Bgf Bgr hb_
  have HB := mH
  have Bgf := mgf
  have Bgr := mgr
  clear mH mgf mgr
  have hcgf0 : v5_.cell? ⟨gf, 0, none⟩ = some (.bool f0) := (blk_cell Bgf.out 0).trans rfl
  have hfgf0 := blk_frozen Bgf.out 0
  have hcgf1 : v5_.cell? ⟨gf, 1, none⟩ = some (.bool f1) := (blk_cell Bgf.out 1).trans rfl
  have hfgf1 := blk_frozen Bgf.out 1
  have hcgf2 : v5_.cell? ⟨gf, 2, none⟩ = some (.bool true) := (blk_cell Bgf.out 2).trans rfl
  have hfgf2 := blk_frozen Bgf.out 2
  have hcgf3 : v5_.cell? ⟨gf, 3, none⟩ = some (.bool f3) := (blk_cell Bgf.out 3).trans rfl
  have hfgf3 := blk_frozen Bgf.out 3
  have hcgf4 : v5_.cell? ⟨gf, 4, none⟩ = some (.bool f4) := (blk_cell Bgf.out 4).trans rfl
  have hfgf4 := blk_frozen Bgf.out 4
  have hcgf5 : v5_.cell? ⟨gf, 5, none⟩ = some (.bool f5) := (blk_cell Bgf.out 5).trans rfl
  have hfgf5 := blk_frozen Bgf.out 5
  try go_wp2_with (fail)
  clear hcgf0 hfgf0 hcgf1 hfgf1 hcgf2 hfgf2 hcgf3 hfgf3 hcgf4 hfgf4 hcgf5 hfgf5
  have mgf := Aside0.mk (show ((v5_).setCell ⟨gf, 0, none⟩ (.bool hn)).heap[gf]? = some (.cells #[.bool hn, .bool f1, .bool true, .bool f3, .bool f4, .bool f5] 40 (0, 0)) from (by refine blk_put (cs := #[.bool f0, .bool f1, .bool true, .bool f3, .bool f4, .bool f5]) ?_ 0 _ rfl; exact Bgf.out))
  have ne_ : gr ≠ gf := by first | exact NEgf_gr.out.symm | exact NEgr_gf.out
  have mgr := Aside0.mk (blk_far (p := ⟨gf, 0, none⟩) Bgr.out ne_ (.bool hn))
  clear ne_
  have mH := Aside0.mk (below_set (j := 0) (v := .bool hn) HB.out Ggf.out)
  clear HB Bgf Bgr
  have HB := mH
  have Bgf := mgf
  have Bgr := mgr
  clear mH mgf mgr
  with_reducible generalize (v5_).setCell ⟨gf, 0, none⟩ (.bool hn) = v6_ at HB Bgf Bgr ⊢
  refine (impl_has.calls a 7 a7 _ HA.out).mono ?_
  rintro e v7_ ⟨rfl, hd_⟩
  have hb_ := hd_.below
  clear hd_
  have mgf := Aside0.mk ((hb_.block gf (blk_lt Bgf.out)).trans Bgf.out)
  have mgr := Aside0.mk ((hb_.block gr (blk_lt Bgr.out)).trans Bgr.out)
  have mH := Aside0.mk (below_step HB.out hb_)
  clear HB Bgf Bgr hb_
  have HB := mH
  have Bgf := mgf
  have Bgr := mgr
  clear mH mgf mgr
  try go_wp2_with (fail)
  refine (impl_has.calls b 7 b7 _ HBB.out).mono ?_
  rintro e v8_ ⟨rfl, hd_⟩
  have hb_ := hd_.below
  clear hd_
  have mgf := Aside0.mk ((hb_.block gf (blk_lt Bgf.out)).trans Bgf.out)
  have mgr := Aside0.mk ((hb_.block gr (blk_lt Bgr.out)).trans Bgr.out)
  have mH := Aside0.mk (below_step HB.out hb_)
  clear HB Bgf Bgr hb_
  have HB := mH
  have Bgf := mgf
  have Bgr := mgr
  clear mH mgf mgr
  cases hq : (a7 == b7) with
  | false =>
    have h3 : false = r3 := by rw [← H3.out, hq]; rfl
    subst h3
    have hcgf0 : v8_.cell? ⟨gf, 0, none⟩ = some (.bool hn) := (blk_cell Bgf.out 0).trans rfl
    have hfgf0 := blk_frozen Bgf.out 0
    have hcgf1 : v8_.cell? ⟨gf, 1, none⟩ = some (.bool f1) := (blk_cell Bgf.out 1).trans rfl
    have hfgf1 := blk_frozen Bgf.out 1
    have hcgf2 : v8_.cell? ⟨gf, 2, none⟩ = some (.bool true) := (blk_cell Bgf.out 2).trans rfl
    have hfgf2 := blk_frozen Bgf.out 2
    have hcgf3 : v8_.cell? ⟨gf, 3, none⟩ = some (.bool f3) := (blk_cell Bgf.out 3).trans rfl
    have hfgf3 := blk_frozen Bgf.out 3
    have hcgf4 : v8_.cell? ⟨gf, 4, none⟩ = some (.bool f4) := (blk_cell Bgf.out 4).trans rfl
    have hfgf4 := blk_frozen Bgf.out 4
    have hcgf5 : v8_.cell? ⟨gf, 5, none⟩ = some (.bool f5) := (blk_cell Bgf.out 5).trans rfl
    have hfgf5 := blk_frozen Bgf.out 5
    have hcgr0 : v8_.cell? ⟨gr, 0, none⟩ = some (.bool false) := (blk_cell Bgr.out 0).trans rfl
    have hfgr0 := blk_frozen Bgr.out 0
    have hcgr1 : v8_.cell? ⟨gr, 1, none⟩ = some (.bool false) := (blk_cell Bgr.out 1).trans rfl
    have hfgr1 := blk_frozen Bgr.out 1
    have hcgr2 : v8_.cell? ⟨gr, 2, none⟩ = some (.bool false) := (blk_cell Bgr.out 2).trans rfl
    have hfgr2 := blk_frozen Bgr.out 2
    have hcgr3 : v8_.cell? ⟨gr, 3, none⟩ = some (.bool false) := (blk_cell Bgr.out 3).trans rfl
    have hfgr3 := blk_frozen Bgr.out 3
    have hcgr4 : v8_.cell? ⟨gr, 4, none⟩ = some (.bool false) := (blk_cell Bgr.out 4).trans rfl
    have hfgr4 := blk_frozen Bgr.out 4
    have hcgr5 : v8_.cell? ⟨gr, 5, none⟩ = some (.bool false) := (blk_cell Bgr.out 5).trans rfl
    have hfgr5 := blk_frozen Bgr.out 5
    try go_wp2_with (fail)
    clear hcgf0 hfgf0 hcgf1 hfgf1 hcgf2 hfgf2 hcgf3 hfgf3 hcgf4 hfgf4 hcgf5 hfgf5 hcgr0 hfgr0 hcgr1 hfgr1 hcgr2 hfgr2 hcgr3 hfgr3 hcgr4 hfgr4 hcgr5 hfgr5
    have mgf := Aside0.mk (show ((((v8_).setCell ⟨gf, 1, none⟩ (.bool false)).setCell ⟨gf, 5, none⟩ (.bool (decide (255 < h)))).setCell ⟨gf, 4, none⟩ (.bool ((a + b + t) % 256 == 0))).heap[gf]? = some (.cells #[.bool hn, .bool false, .bool true, .bool f3, .bool ((a + b + t) % 256 == 0), .bool (decide (255 < h))] 40 (0, 0)) from (by refine blk_put (cs := #[.bool hn, .bool false, .bool true, .bool f3, .bool f4, .bool (decide (255 < h))]) ?_ 4 _ rfl; refine blk_put (cs := #[.bool hn, .bool false, .bool true, .bool f3, .bool f4, .bool f5]) ?_ 5 _ rfl; refine blk_put (cs := #[.bool hn, .bool f1, .bool true, .bool f3, .bool f4, .bool f5]) ?_ 1 _ rfl; exact Bgf.out))
    have ne_ : gr ≠ gf := by first | exact NEgf_gr.out.symm | exact NEgr_gf.out
    have mgr := Aside0.mk (blk_far (p := ⟨gf, 4, none⟩) (blk_far (p := ⟨gf, 5, none⟩) (blk_far (p := ⟨gf, 1, none⟩) Bgr.out ne_ (.bool false)) ne_ (.bool (decide (255 < h)))) ne_ (.bool ((a + b + t) % 256 == 0)))
    clear ne_
    have mH := Aside0.mk (below_set (j := 4) (v := .bool ((a + b + t) % 256 == 0)) (below_set (j := 5) (v := .bool (decide (255 < h))) (below_set (j := 1) (v := .bool false) HB.out Ggf.out) Ggf.out) Ggf.out)
    clear HB Bgf Bgr
    have HB := mH
    have Bgf := mgf
    have Bgr := mgr
    clear mH mgf mgr
    with_reducible generalize (((v8_).setCell ⟨gf, 1, none⟩ (.bool false)).setCell ⟨gf, 5, none⟩ (.bool (decide (255 < h)))).setCell ⟨gf, 4, none⟩ (.bool ((a + b + t) % 256 == 0)) = v9_ at HB Bgf Bgr ⊢
    have hcgf0 : v9_.cell? ⟨gf, 0, none⟩ = some (.bool hn) := (blk_cell Bgf.out 0).trans rfl
    have hfgf0 := blk_frozen Bgf.out 0
    have hcgf1 : v9_.cell? ⟨gf, 1, none⟩ = some (.bool false) := (blk_cell Bgf.out 1).trans rfl
    have hfgf1 := blk_frozen Bgf.out 1
    have hcgf2 : v9_.cell? ⟨gf, 2, none⟩ = some (.bool true) := (blk_cell Bgf.out 2).trans rfl
    have hfgf2 := blk_frozen Bgf.out 2
    have hcgf3 : v9_.cell? ⟨gf, 3, none⟩ = some (.bool f3) := (blk_cell Bgf.out 3).trans rfl
    have hfgf3 := blk_frozen Bgf.out 3
    have hcgf4 : v9_.cell? ⟨gf, 4, none⟩ = some (.bool ((a + b + t) % 256 == 0)) := (blk_cell Bgf.out 4).trans rfl
    have hfgf4 := blk_frozen Bgf.out 4
    have hcgf5 : v9_.cell? ⟨gf, 5, none⟩ = some (.bool (decide (255 < h))) := (blk_cell Bgf.out 5).trans rfl
    have hfgf5 := blk_frozen Bgf.out 5
    go_still_tail 4, (by kernel_rfl)
    clear hcgf0 hfgf0 hcgf1 hfgf1 hcgf2 hfgf2 hcgf3 hfgf3 hcgf4 hfgf4 hcgf5 hfgf5
    have mgf := Aside0.mk (blk_drew Bgf.out)
    have mgr := Aside0.mk (blk_drew Bgr.out)
    have mH := Aside0.mk (below_drew1 HB.out)
    clear HB Bgf Bgr
    have HB := mH
    have Bgf := mgf
    have Bgr := mgr
    clear mH mgf mgr
    show wpList Try.prog _ _ _ _ v9_.drew
    generalize v9_.drew = v10_ at HB Bgf Bgr ⊢
    have hcgf0 : v10_.cell? ⟨gf, 0, none⟩ = some (.bool hn) := (blk_cell Bgf.out 0).trans rfl
    have hfgf0 := blk_frozen Bgf.out 0
    have hcgf1 : v10_.cell? ⟨gf, 1, none⟩ = some (.bool false) := (blk_cell Bgf.out 1).trans rfl
    have hfgf1 := blk_frozen Bgf.out 1
    have hcgf2 : v10_.cell? ⟨gf, 2, none⟩ = some (.bool true) := (blk_cell Bgf.out 2).trans rfl
    have hfgf2 := blk_frozen Bgf.out 2
    have hcgf3 : v10_.cell? ⟨gf, 3, none⟩ = some (.bool f3) := (blk_cell Bgf.out 3).trans rfl
    have hfgf3 := blk_frozen Bgf.out 3
    have hcgf4 : v10_.cell? ⟨gf, 4, none⟩ = some (.bool ((a + b + t) % 256 == 0)) := (blk_cell Bgf.out 4).trans rfl
    have hfgf4 := blk_frozen Bgf.out 4
    have hcgf5 : v10_.cell? ⟨gf, 5, none⟩ = some (.bool (decide (255 < h))) := (blk_cell Bgf.out 5).trans rfl
    have hfgf5 := blk_frozen Bgf.out 5
    have hcgr0 : v10_.cell? ⟨gr, 0, none⟩ = some (.bool false) := (blk_cell Bgr.out 0).trans rfl
    have hfgr0 := blk_frozen Bgr.out 0
    have hcgr1 : v10_.cell? ⟨gr, 1, none⟩ = some (.bool false) := (blk_cell Bgr.out 1).trans rfl
    have hfgr1 := blk_frozen Bgr.out 1
    have hcgr2 : v10_.cell? ⟨gr, 2, none⟩ = some (.bool false) := (blk_cell Bgr.out 2).trans rfl
    have hfgr2 := blk_frozen Bgr.out 2
    have hcgr3 : v10_.cell? ⟨gr, 3, none⟩ = some (.bool false) := (blk_cell Bgr.out 3).trans rfl
    have hfgr3 := blk_frozen Bgr.out 3
    have hcgr4 : v10_.cell? ⟨gr, 4, none⟩ = some (.bool false) := (blk_cell Bgr.out 4).trans rfl
    have hfgr4 := blk_frozen Bgr.out 4
    have hcgr5 : v10_.cell? ⟨gr, 5, none⟩ = some (.bool false) := (blk_cell Bgr.out 5).trans rfl
    have hfgr5 := blk_frozen Bgr.out 5
    try go_wp2_with (fail)
    refine bodyPost_ret (results_tc rfl _ _ gr 40 #[.bool hn, .bool false, .bool true, .bool f3, .bool ((a + b + t) % 256 == 0), .bool (decide (255 < h))] (0, 0) _ rfl (by (with_reducible repeat (first | refine blk_drewN ?_ _ | refine blk_drew ?_ | refine blk_alloc ?_ _)); refine blk_put (cs := #[.bool hn, .bool false, .bool true, .bool f3, .bool ((a + b + t) % 256 == 0), .bool false]) ?_ 5 _ rfl; (with_reducible repeat (first | refine blk_drewN ?_ _ | refine blk_drew ?_ | refine blk_alloc ?_ _)); refine blk_put (cs := #[.bool hn, .bool false, .bool true, .bool f3, .bool false, .bool false]) ?_ 4 _ rfl; (with_reducible repeat (first | refine blk_drewN ?_ _ | refine blk_drew ?_ | refine blk_alloc ?_ _)); refine blk_put (cs := #[.bool hn, .bool false, .bool true, .bool false, .bool false, .bool false]) ?_ 3 _ rfl; (with_reducible repeat (first | refine blk_drewN ?_ _ | refine blk_drew ?_ | refine blk_alloc ?_ _)); refine blk_put (cs := #[.bool hn, .bool false, .bool false, .bool false, .bool false, .bool false]) ?_ 2 _ rfl; (with_reducible repeat (first | refine blk_drewN ?_ _ | refine blk_drew ?_ | refine blk_alloc ?_ _)); refine blk_put (cs := #[.bool hn, .bool false, .bool false, .bool false, .bool false, .bool false]) ?_ 1 _ rfl; (with_reducible repeat (first | refine blk_drewN ?_ _ | refine blk_drew ?_ | refine blk_alloc ?_ _)); refine blk_put (cs := #[.bool false, .bool false, .bool false, .bool false, .bool false, .bool false]) ?_ 0 _ rfl; (with_reducible repeat (first | refine blk_drewN ?_ _ | refine blk_drew ?_ | refine blk_alloc ?_ _)); exact Bgr.out) Try.underlying40 rfl (by kernel_rfl)) rfl ?_
    have e1_ := H1'.out
    have e2_ := H7.out
    have e3_ := H6.out
    subst e1_
    subst e2_
    subst e3_
    exact ⟨by first | rfl | simp, by repeat (first | (with_reducible first | exact HB.out | apply below_alloc | apply pw_below_drewN | apply below_drew1 | refine below_set ?_ Ggf.out | refine below_set ?_ Ggr.out) | exact HB.out)⟩
  | true =>
    have h3 : (hn != a7) = r3 := by rw [← H3.out, hq]; rfl
    subst h3
    try go_wp2_with (fail)
    refine (impl_has.calls (h % 256) 7 hn _ HM.out).mono ?_
    rintro e v11_ ⟨rfl, hd_⟩
    have hb_ := hd_.below
    clear hd_
    have mgf := Aside0.mk ((hb_.block gf (blk_lt Bgf.out)).trans Bgf.out)
    have mgr := Aside0.mk ((hb_.block gr (blk_lt Bgr.out)).trans Bgr.out)
    have mH := Aside0.mk (below_step HB.out hb_)
    clear HB Bgf Bgr hb_
    have HB := mH
    have Bgf := mgf
    have Bgr := mgr
    clear mH mgf mgr
    try go_wp2_with (fail)
    refine (impl_has.calls a 7 a7 _ HA.out).mono ?_
    rintro e v12_ ⟨rfl, hd_⟩
    have hb_ := hd_.below
    clear hd_
    have mgf := Aside0.mk ((hb_.block gf (blk_lt Bgf.out)).trans Bgf.out)
    have mgr := Aside0.mk ((hb_.block gr (blk_lt Bgr.out)).trans Bgr.out)
    have mH := Aside0.mk (below_step HB.out hb_)
    clear HB Bgf Bgr hb_
    have HB := mH
    have Bgf := mgf
    have Bgr := mgr
    clear mH mgf mgr
    have hcgf0 : v12_.cell? ⟨gf, 0, none⟩ = some (.bool hn) := (blk_cell Bgf.out 0).trans rfl
    have hfgf0 := blk_frozen Bgf.out 0
    have hcgf1 : v12_.cell? ⟨gf, 1, none⟩ = some (.bool f1) := (blk_cell Bgf.out 1).trans rfl
    have hfgf1 := blk_frozen Bgf.out 1
    have hcgf2 : v12_.cell? ⟨gf, 2, none⟩ = some (.bool true) := (blk_cell Bgf.out 2).trans rfl
    have hfgf2 := blk_frozen Bgf.out 2
    have hcgf3 : v12_.cell? ⟨gf, 3, none⟩ = some (.bool f3) := (blk_cell Bgf.out 3).trans rfl
    have hfgf3 := blk_frozen Bgf.out 3
    have hcgf4 : v12_.cell? ⟨gf, 4, none⟩ = some (.bool f4) := (blk_cell Bgf.out 4).trans rfl
    have hfgf4 := blk_frozen Bgf.out 4
    have hcgf5 : v12_.cell? ⟨gf, 5, none⟩ = some (.bool f5) := (blk_cell Bgf.out 5).trans rfl
    have hfgf5 := blk_frozen Bgf.out 5
    have hcgr0 : v12_.cell? ⟨gr, 0, none⟩ = some (.bool false) := (blk_cell Bgr.out 0).trans rfl
    have hfgr0 := blk_frozen Bgr.out 0
    have hcgr1 : v12_.cell? ⟨gr, 1, none⟩ = some (.bool false) := (blk_cell Bgr.out 1).trans rfl
    have hfgr1 := blk_frozen Bgr.out 1
    have hcgr2 : v12_.cell? ⟨gr, 2, none⟩ = some (.bool false) := (blk_cell Bgr.out 2).trans rfl
    have hfgr2 := blk_frozen Bgr.out 2
    have hcgr3 : v12_.cell? ⟨gr, 3, none⟩ = some (.bool false) := (blk_cell Bgr.out 3).trans rfl
    have hfgr3 := blk_frozen Bgr.out 3
    have hcgr4 : v12_.cell? ⟨gr, 4, none⟩ = some (.bool false) := (blk_cell Bgr.out 4).trans rfl
    have hfgr4 := blk_frozen Bgr.out 4
    have hcgr5 : v12_.cell? ⟨gr, 5, none⟩ = some (.bool false) := (blk_cell Bgr.out 5).trans rfl
    have hfgr5 := blk_frozen Bgr.out 5
    try go_wp2_with (fail)
    clear hcgf0 hfgf0 hcgf1 hfgf1 hcgf2 hfgf2 hcgf3 hfgf3 hcgf4 hfgf4 hcgf5 hfgf5 hcgr0 hfgr0 hcgr1 hfgr1 hcgr2 hfgr2 hcgr3 hfgr3 hcgr4 hfgr4 hcgr5 hfgr5
    have mgf := Aside0.mk (show ((((v12_).setCell ⟨gf, 1, none⟩ (.bool (hn != a7))).setCell ⟨gf, 5, none⟩ (.bool (decide (255 < h)))).setCell ⟨gf, 4, none⟩ (.bool ((a + b + t) % 256 == 0))).heap[gf]? = some (.cells #[.bool hn, .bool (hn != a7), .bool true, .bool f3, .bool ((a + b + t) % 256 == 0), .bool (decide (255 < h))] 40 (0, 0)) from (by refine blk_put (cs := #[.bool hn, .bool (hn != a7), .bool true, .bool f3, .bool f4, .bool (decide (255 < h))]) ?_ 4 _ rfl; refine blk_put (cs := #[.bool hn, .bool (hn != a7), .bool true, .bool f3, .bool f4, .bool f5]) ?_ 5 _ rfl; refine blk_put (cs := #[.bool hn, .bool f1, .bool true, .bool f3, .bool f4, .bool f5]) ?_ 1 _ rfl; exact Bgf.out))
    have ne_ : gr ≠ gf := by first | exact NEgf_gr.out.symm | exact NEgr_gf.out
    have mgr := Aside0.mk (blk_far (p := ⟨gf, 4, none⟩) (blk_far (p := ⟨gf, 5, none⟩) (blk_far (p := ⟨gf, 1, none⟩) Bgr.out ne_ (.bool (hn != a7))) ne_ (.bool (decide (255 < h)))) ne_ (.bool ((a + b + t) % 256 == 0)))
    clear ne_
    have mH := Aside0.mk (below_set (j := 4) (v := .bool ((a + b + t) % 256 == 0)) (below_set (j := 5) (v := .bool (decide (255 < h))) (below_set (j := 1) (v := .bool (hn != a7)) HB.out Ggf.out) Ggf.out) Ggf.out)
    clear HB Bgf Bgr
    have HB := mH
    have Bgf := mgf
    have Bgr := mgr
    clear mH mgf mgr
    with_reducible generalize (((v12_).setCell ⟨gf, 1, none⟩ (.bool (hn != a7))).setCell ⟨gf, 5, none⟩ (.bool (decide (255 < h)))).setCell ⟨gf, 4, none⟩ (.bool ((a + b + t) % 256 == 0)) = v13_ at HB Bgf Bgr ⊢
    have hcgf0 : v13_.cell? ⟨gf, 0, none⟩ = some (.bool hn) := (blk_cell Bgf.out 0).trans rfl
    have hfgf0 := blk_frozen Bgf.out 0
    have hcgf1 : v13_.cell? ⟨gf, 1, none⟩ = some (.bool (hn != a7)) := (blk_cell Bgf.out 1).trans rfl
    have hfgf1 := blk_frozen Bgf.out 1
    have hcgf2 : v13_.cell? ⟨gf, 2, none⟩ = some (.bool true) := (blk_cell Bgf.out 2).trans rfl
    have hfgf2 := blk_frozen Bgf.out 2
    have hcgf3 : v13_.cell? ⟨gf, 3, none⟩ = some (.bool f3) := (blk_cell Bgf.out 3).trans rfl
    have hfgf3 := blk_frozen Bgf.out 3
    have hcgf4 : v13_.cell? ⟨gf, 4, none⟩ = some (.bool ((a + b + t) % 256 == 0)) := (blk_cell Bgf.out 4).trans rfl
    have hfgf4 := blk_frozen Bgf.out 4
    have hcgf5 : v13_.cell? ⟨gf, 5, none⟩ = some (.bool (decide (255 < h))) := (blk_cell Bgf.out 5).trans rfl
    have hfgf5 := blk_frozen Bgf.out 5
    go_still_tail 4, (by kernel_rfl)
    clear hcgf0 hfgf0 hcgf1 hfgf1 hcgf2 hfgf2 hcgf3 hfgf3 hcgf4 hfgf4 hcgf5 hfgf5
    have mgf := Aside0.mk (blk_drew Bgf.out)
    have mgr := Aside0.mk (blk_drew Bgr.out)
    have mH := Aside0.mk (below_drew1 HB.out)
    clear HB Bgf Bgr
    have HB := mH
    have Bgf := mgf
    have Bgr := mgr
    clear mH mgf mgr
    show wpList Try.prog _ _ _ _ v13_.drew
    generalize v13_.drew = v14_ at HB Bgf Bgr ⊢
    have hcgf0 : v14_.cell? ⟨gf, 0, none⟩ = some (.bool hn) := (blk_cell Bgf.out 0).trans rfl
    have hfgf0 := blk_frozen Bgf.out 0
    have hcgf1 : v14_.cell? ⟨gf, 1, none⟩ = some (.bool (hn != a7)) := (blk_cell Bgf.out 1).trans rfl
    have hfgf1 := blk_frozen Bgf.out 1
    have hcgf2 : v14_.cell? ⟨gf, 2, none⟩ = some (.bool true) := (blk_cell Bgf.out 2).trans rfl
    have hfgf2 := blk_frozen Bgf.out 2
    have hcgf3 : v14_.cell? ⟨gf, 3, none⟩ = some (.bool f3) := (blk_cell Bgf.out 3).trans rfl
    have hfgf3 := blk_frozen Bgf.out 3
    have hcgf4 : v14_.cell? ⟨gf, 4, none⟩ = some (.bool ((a + b + t) % 256 == 0)) := (blk_cell Bgf.out 4).trans rfl
    have hfgf4 := blk_frozen Bgf.out 4
    have hcgf5 : v14_.cell? ⟨gf, 5, none⟩ = some (.bool (decide (255 < h))) := (blk_cell Bgf.out 5).trans rfl
    have hfgf5 := blk_frozen Bgf.out 5
    have hcgr0 : v14_.cell? ⟨gr, 0, none⟩ = some (.bool false) := (blk_cell Bgr.out 0).trans rfl
    have hfgr0 := blk_frozen Bgr.out 0
    have hcgr1 : v14_.cell? ⟨gr, 1, none⟩ = some (.bool false) := (blk_cell Bgr.out 1).trans rfl
    have hfgr1 := blk_frozen Bgr.out 1
    have hcgr2 : v14_.cell? ⟨gr, 2, none⟩ = some (.bool false) := (blk_cell Bgr.out 2).trans rfl
    have hfgr2 := blk_frozen Bgr.out 2
    have hcgr3 : v14_.cell? ⟨gr, 3, none⟩ = some (.bool false) := (blk_cell Bgr.out 3).trans rfl
    have hfgr3 := blk_frozen Bgr.out 3
    have hcgr4 : v14_.cell? ⟨gr, 4, none⟩ = some (.bool false) := (blk_cell Bgr.out 4).trans rfl
    have hfgr4 := blk_frozen Bgr.out 4
    have hcgr5 : v14_.cell? ⟨gr, 5, none⟩ = some (.bool false) := (blk_cell Bgr.out 5).trans rfl
    have hfgr5 := blk_frozen Bgr.out 5
    try go_wp2_with (fail)
    refine bodyPost_ret (results_tc rfl _ _ gr 40 #[.bool hn, .bool (hn != a7), .bool true, .bool f3, .bool ((a + b + t) % 256 == 0), .bool (decide (255 < h))] (0, 0) _ rfl (by (with_reducible repeat (first | refine blk_drewN ?_ _ | refine blk_drew ?_ | refine blk_alloc ?_ _)); refine blk_put (cs := #[.bool hn, .bool (hn != a7), .bool true, .bool f3, .bool ((a + b + t) % 256 == 0), .bool false]) ?_ 5 _ rfl; (with_reducible repeat (first | refine blk_drewN ?_ _ | refine blk_drew ?_ | refine blk_alloc ?_ _)); refine blk_put (cs := #[.bool hn, .bool (hn != a7), .bool true, .bool f3, .bool false, .bool false]) ?_ 4 _ rfl; (with_reducible repeat (first | refine blk_drewN ?_ _ | refine blk_drew ?_ | refine blk_alloc ?_ _)); refine blk_put (cs := #[.bool hn, .bool (hn != a7), .bool true, .bool false, .bool false, .bool false]) ?_ 3 _ rfl; (with_reducible repeat (first | refine blk_drewN ?_ _ | refine blk_drew ?_ | refine blk_alloc ?_ _)); refine blk_put (cs := #[.bool hn, .bool (hn != a7), .bool false, .bool false, .bool false, .bool false]) ?_ 2 _ rfl; (with_reducible repeat (first | refine blk_drewN ?_ _ | refine blk_drew ?_ | refine blk_alloc ?_ _)); refine blk_put (cs := #[.bool hn, .bool false, .bool false, .bool false, .bool false, .bool false]) ?_ 1 _ rfl; (with_reducible repeat (first | refine blk_drewN ?_ _ | refine blk_drew ?_ | refine blk_alloc ?_ _)); refine blk_put (cs := #[.bool false, .bool false, .bool false, .bool false, .bool false, .bool false]) ?_ 0 _ rfl; (with_reducible repeat (first | refine blk_drewN ?_ _ | refine blk_drew ?_ | refine blk_alloc ?_ _)); exact Bgr.out) Try.underlying40 rfl (by kernel_rfl)) rfl ?_
    have e1_ := H1'.out
    have e2_ := H7.out
    have e3_ := H6.out
    subst e1_
    subst e2_
    subst e3_
    exact ⟨by first | rfl | simp, by repeat (first | (with_reducible first | exact HB.out | apply below_alloc | apply pw_below_drewN | apply below_drew1 | refine below_set ?_ Ggf.out | refine below_set ?_ Ggr.out) | exact HB.out)⟩
set_option maxHeartbeats 2000000 in
set_option maxRecDepth 100000 in
theorem impl_Adc.dec_nc (a b : Int) (f0 f1 f3 f4 f5 : Bool) (w : World) (a0 : 0 ≤ a) (a1 : a ≤ 255) (b0 : 0 ≤ b) (b1 : b ≤ 255) (r1 : Int) (r2 r3 r4 r5 r6 r7 : Bool) (c10 : ¬ 10 ≤ a % 16 + b % 16 + tc f5) (c160 : 160 ≤ sumH a b (tc f5)) (hr : dec a b (tc f5) f3 = (r1, r2, r3, r4, r5, r6, r7)) : Calls Try.prog 59 #[.int .u8 a, .int .u8 b, .agg #[.bool f0, .bool f1, .bool true, .bool f3, .bool f4, .bool f5]] w fun e w' => e = .returned (.tuple #[.int .u8 r1, .agg #[.bool r2, .bool r3, .bool r4, .bool r5, .bool r6, .bool r7]]) ∧ Below w.heap.size w w' := by
  simp only [dec, Prod.mk.injEq] at hr
  obtain ⟨h1, h2, h3, rfl, rfl, h6, h7⟩ := hr
  obtain ⟨t0, t1⟩ := tc01 f5
  have H1 := Aside0.mk (one_tc f5)
  generalize tc f5 = t at t0 t1 H1 h1 h2 h3 h6 h7 c10 c160
  have H6 : Aside0 (((a + b + t) % 256 == 0) = r6) := ⟨h6⟩
  clear h6
  have s0 : 0 ≤ a + b + t := by omega
  have s1 : a + b + t ≤ 511 := by omega
  have HA := Aside0.mk (has_hi a a0 a1)
  have HBB := Aside0.mk (has_hi b b0 b1)
  have q1 := and15 a0 a1
  have q2 := and15 b0 b1
  have q3 := and240 a0 a1
  have q4 := and240 b0 b1
  have x1 : 0 ≤ a % 16 := by omega
  have x2 : a % 16 ≤ 15 := by omega
  have x3 : 0 ≤ b % 16 := by omega
  have x4 : b % 16 ≤ 15 := by omega
  have x5 : 0 ≤ a - a % 16 := by omega
  have x6 : a - a % 16 ≤ 240 := by omega
  have x7 : 0 ≤ b - b % 16 := by omega
  have x8 : b - b % 16 ≤ 240 := by omega
  generalize hh : sumH a b t = h at h1 h2 h3 h7 c160
  simp only [sumH, sumL] at hh
  generalize a - a % 16 = ah at q3 hh x5 x6
  generalize b - b % 16 = bh at q4 hh x7 x8
  generalize a % 16 = al at q1 hh x1 x2 c10
  generalize b % 16 = bl at q2 hh x3 x4 c10
  have HS : ∃ s, Aside0 (a + b + t = s) := ⟨_, ⟨rfl⟩⟩
  have d10 : decide (10 ≤ al + bl + t) = false := decide_eq_false c10
  rw [low, if_neg c10] at hh
  have d160 : decide (160 ≤ h) = true := decide_eq_true c160
  rw [top, if_pos c160] at h1 h7
  have g0 : 0 ≤ h := by omega
  have g1 : h ≤ 511 := by omega
  have m0 : 0 ≤ h % 256 := by omega
  have m1 : h % 256 ≤ 255 := by omega
  have HM := Aside0.mk (has_hi _ m0 m1)
  rw [hi_mod] at HM
  simp only [ov] at h3
  generalize hi h = hn at h2 h3 HM
  generalize hi a = a7 at h3 HA
  generalize hi b = b7 at h3 HBB
  have H1' := Aside0.mk h1
  have HH := Aside0.mk hh
  subst h2
  have H7 := Aside0.mk h7
  have H3 := Aside0.mk h3
  clear h1 hh h7 h3 c10 c160 HS
  have HB := Aside0.mk (Below.refl w.heap.size w)
  have hu24 := Try.underlying40
  go_enter Try.func59, Try.ntmps59
  try go_wp2_with (first | ((with_reducible refine gate_dst (N := 5) rfl ?_); refine box_event ?hg (N := 5) ?hd (cs := #[.bool f0, .bool f1, .bool true, .bool f3, .bool f4, .bool f5]) (t := 40) ?hr ?_; (case hd => rfl); (case hg => rfl); (case hr => first | (go_simp; done) | (go_simp; rfl)); intro gf hg v1_ hbox hb; have n0_ := Aside0.mk (below_step (by repeat (first | (with_reducible first | exact HB.out | apply below_alloc | apply pw_below_drewN | apply below_drew1) | exact HB.out)) hb); have n1_ := Aside0.mk (hbox); have n2_ := Aside0.mk ((by rw [hg]; exact (below_size (by repeat (first | (with_reducible first | exact HB.out | apply below_alloc | apply pw_below_drewN | apply below_drew1) | exact HB.out))) : w.heap.size ≤ gf)); clear HB; have HB := n0_; have Bgf := n1_; have Ggf := n2_; clear n0_ n1_ n2_; clear hb hbox hg) | ((with_reducible refine gate_dst (N := 7) rfl ?_); refine box_event ?hg (N := 7) ?hd (cs := #[.bool false, .bool false, .bool false, .bool false, .bool false, .bool false]) (t := 40) ?hr ?_; (case hd => rfl); (case hg => rfl); (case hr => first | (go_simp; done) | (go_simp; rfl)); intro gr hg v2_ hbox hb; have mgf := Aside0.mk ((hb.block _ (blk_lt Bgf.out)).trans Bgf.out); have NEgr_gf := Aside0.mk (show gr ≠ gf from by rw [hg]; exact Nat.ne_of_gt (blk_lt Bgf.out)); clear Bgf; have Bgf := mgf; clear mgf; have n0_ := Aside0.mk (below_step (by repeat (first | (with_reducible first | exact HB.out | apply below_alloc | apply pw_below_drewN | apply below_drew1) | exact HB.out)) hb); have n1_ := Aside0.mk (hbox); have n2_ := Aside0.mk ((by rw [hg]; exact (below_size (by repeat (first | (with_reducible first | exact HB.out | apply below_alloc | apply pw_below_drewN | apply below_drew1) | exact HB.out))) : w.heap.size ≤ gr)); clear HB; have HB := n0_; have Bgr := n1_; have Ggr := n2_; clear n0_ n1_ n2_; clear hb hbox hg; have hcgf0 : v2_.cell? ⟨gf, 0, none⟩ = some (.bool f0) := (blk_cell Bgf.out 0).trans rfl; have hfgf0 := blk_frozen Bgf.out 0; have hcgf1 : v2_.cell? ⟨gf, 1, none⟩ = some (.bool f1) := (blk_cell Bgf.out 1).trans rfl; have hfgf1 := blk_frozen Bgf.out 1; have hcgf2 : v2_.cell? ⟨gf, 2, none⟩ = some (.bool true) := (blk_cell Bgf.out 2).trans rfl; have hfgf2 := blk_frozen Bgf.out 2; have hcgf3 : v2_.cell? ⟨gf, 3, none⟩ = some (.bool f3) := (blk_cell Bgf.out 3).trans rfl; have hfgf3 := blk_frozen Bgf.out 3; have hcgf4 : v2_.cell? ⟨gf, 4, none⟩ = some (.bool f4) := (blk_cell Bgf.out 4).trans rfl; have hfgf4 := blk_frozen Bgf.out 4; have hcgf5 : v2_.cell? ⟨gf, 5, none⟩ = some (.bool f5) := (blk_cell Bgf.out 5).trans rfl; have hfgf5 := blk_frozen Bgf.out 5))
  refine (impl_one.calls f5 t _ H1.out).mono ?_
  rintro e v3_ ⟨rfl, hd_⟩
  have hb_ := hd_.below
  clear hd_
  clear hcgf0 hfgf0 hcgf1 hfgf1 hcgf2 hfgf2 hcgf3 hfgf3 hcgf4 hfgf4 hcgf5 hfgf5
  have mgf := Aside0.mk ((hb_.block gf (blk_lt Bgf.out)).trans Bgf.out)
  have mgr := Aside0.mk ((hb_.block gr (blk_lt Bgr.out)).trans Bgr.out)
  have mH := Aside0.mk (below_step HB.out hb_)
  clear HB Bgf Bgr hb_
  have HB := mH
  have Bgf := mgf
  have Bgr := mgr
  clear mH mgf mgr
  have hcgf0 : v3_.cell? ⟨gf, 0, none⟩ = some (.bool f0) := (blk_cell Bgf.out 0).trans rfl
  have hfgf0 := blk_frozen Bgf.out 0
  have hcgf1 : v3_.cell? ⟨gf, 1, none⟩ = some (.bool f1) := (blk_cell Bgf.out 1).trans rfl
  have hfgf1 := blk_frozen Bgf.out 1
  have hcgf2 : v3_.cell? ⟨gf, 2, none⟩ = some (.bool true) := (blk_cell Bgf.out 2).trans rfl
  have hfgf2 := blk_frozen Bgf.out 2
  have hcgf3 : v3_.cell? ⟨gf, 3, none⟩ = some (.bool f3) := (blk_cell Bgf.out 3).trans rfl
  have hfgf3 := blk_frozen Bgf.out 3
  have hcgf4 : v3_.cell? ⟨gf, 4, none⟩ = some (.bool f4) := (blk_cell Bgf.out 4).trans rfl
  have hfgf4 := blk_frozen Bgf.out 4
  have hcgf5 : v3_.cell? ⟨gf, 5, none⟩ = some (.bool f5) := (blk_cell Bgf.out 5).trans rfl
  have hfgf5 := blk_frozen Bgf.out 5
  try go_wp2_with (fail)
  refine (impl_one.calls f5 t _ H1.out).mono ?_
  rintro e v4_ ⟨rfl, hd_⟩
  have hb_ := hd_.below
  clear hd_
  clear hcgf0 hfgf0 hcgf1 hfgf1 hcgf2 hfgf2 hcgf3 hfgf3 hcgf4 hfgf4 hcgf5 hfgf5
  have mgf := Aside0.mk ((hb_.block gf (blk_lt Bgf.out)).trans Bgf.out)
  have mgr := Aside0.mk ((hb_.block gr (blk_lt Bgr.out)).trans Bgr.out)
  have mH := Aside0.mk (below_step HB.out hb_)
  clear HB Bgf Bgr hb_
  have HB := mH
  have Bgf := mgf
  have Bgr := mgr
  clear mH mgf mgr
  try go_wp2_with (fail)
  rw [HH.out]
  refine (impl_has.calls (h % 256) 7 hn _ HM.out).mono ?_
  rintro e v5_ ⟨rfl, hd_⟩
  have hb_ := hd_.below
  clear hd_
  have mgf := Aside0.mk ((hb_.block gf (blk_lt Bgf.out)).trans Bgf.out)
  have mgr := Aside0.mk ((hb_.block gr (blk_lt Bgr.out)).trans Bgr.out)
  have mH := Aside0.mk (below_step HB.out hb_)
  clear HB Bgf Bgr hb_
  have HB := mH
  have Bgf := mgf
  have Bgr := mgr
  clear mH mgf mgr
  have hcgf0 : v5_.cell? ⟨gf, 0, none⟩ = some (.bool f0) := (blk_cell Bgf.out 0).trans rfl
  have hfgf0 := blk_frozen Bgf.out 0
  have hcgf1 : v5_.cell? ⟨gf, 1, none⟩ = some (.bool f1) := (blk_cell Bgf.out 1).trans rfl
  have hfgf1 := blk_frozen Bgf.out 1
  have hcgf2 : v5_.cell? ⟨gf, 2, none⟩ = some (.bool true) := (blk_cell Bgf.out 2).trans rfl
  have hfgf2 := blk_frozen Bgf.out 2
  have hcgf3 : v5_.cell? ⟨gf, 3, none⟩ = some (.bool f3) := (blk_cell Bgf.out 3).trans rfl
  have hfgf3 := blk_frozen Bgf.out 3
  have hcgf4 : v5_.cell? ⟨gf, 4, none⟩ = some (.bool f4) := (blk_cell Bgf.out 4).trans rfl
  have hfgf4 := blk_frozen Bgf.out 4
  have hcgf5 : v5_.cell? ⟨gf, 5, none⟩ = some (.bool f5) := (blk_cell Bgf.out 5).trans rfl
  have hfgf5 := blk_frozen Bgf.out 5
  try go_wp2_with (fail)
  clear hcgf0 hfgf0 hcgf1 hfgf1 hcgf2 hfgf2 hcgf3 hfgf3 hcgf4 hfgf4 hcgf5 hfgf5
  have mgf := Aside0.mk (show ((v5_).setCell ⟨gf, 0, none⟩ (.bool hn)).heap[gf]? = some (.cells #[.bool hn, .bool f1, .bool true, .bool f3, .bool f4, .bool f5] 40 (0, 0)) from (by refine blk_put (cs := #[.bool f0, .bool f1, .bool true, .bool f3, .bool f4, .bool f5]) ?_ 0 _ rfl; exact Bgf.out))
  have ne_ : gr ≠ gf := by first | exact NEgf_gr.out.symm | exact NEgr_gf.out
  have mgr := Aside0.mk (blk_far (p := ⟨gf, 0, none⟩) Bgr.out ne_ (.bool hn))
  clear ne_
  have mH := Aside0.mk (below_set (j := 0) (v := .bool hn) HB.out Ggf.out)
  clear HB Bgf Bgr
  have HB := mH
  have Bgf := mgf
  have Bgr := mgr
  clear mH mgf mgr
  with_reducible generalize (v5_).setCell ⟨gf, 0, none⟩ (.bool hn) = v6_ at HB Bgf Bgr ⊢
  refine (impl_has.calls a 7 a7 _ HA.out).mono ?_
  rintro e v7_ ⟨rfl, hd_⟩
  have hb_ := hd_.below
  clear hd_
  have mgf := Aside0.mk ((hb_.block gf (blk_lt Bgf.out)).trans Bgf.out)
  have mgr := Aside0.mk ((hb_.block gr (blk_lt Bgr.out)).trans Bgr.out)
  have mH := Aside0.mk (below_step HB.out hb_)
  clear HB Bgf Bgr hb_
  have HB := mH
  have Bgf := mgf
  have Bgr := mgr
  clear mH mgf mgr
  try go_wp2_with (fail)
  refine (impl_has.calls b 7 b7 _ HBB.out).mono ?_
  rintro e v8_ ⟨rfl, hd_⟩
  have hb_ := hd_.below
  clear hd_
  have mgf := Aside0.mk ((hb_.block gf (blk_lt Bgf.out)).trans Bgf.out)
  have mgr := Aside0.mk ((hb_.block gr (blk_lt Bgr.out)).trans Bgr.out)
  have mH := Aside0.mk (below_step HB.out hb_)
  clear HB Bgf Bgr hb_
  have HB := mH
  have Bgf := mgf
  have Bgr := mgr
  clear mH mgf mgr
  cases hq : (a7 == b7) with
  | false =>
    have h3 : false = r3 := by rw [← H3.out, hq]; rfl
    subst h3
    have hcgf0 : v8_.cell? ⟨gf, 0, none⟩ = some (.bool hn) := (blk_cell Bgf.out 0).trans rfl
    have hfgf0 := blk_frozen Bgf.out 0
    have hcgf1 : v8_.cell? ⟨gf, 1, none⟩ = some (.bool f1) := (blk_cell Bgf.out 1).trans rfl
    have hfgf1 := blk_frozen Bgf.out 1
    have hcgf2 : v8_.cell? ⟨gf, 2, none⟩ = some (.bool true) := (blk_cell Bgf.out 2).trans rfl
    have hfgf2 := blk_frozen Bgf.out 2
    have hcgf3 : v8_.cell? ⟨gf, 3, none⟩ = some (.bool f3) := (blk_cell Bgf.out 3).trans rfl
    have hfgf3 := blk_frozen Bgf.out 3
    have hcgf4 : v8_.cell? ⟨gf, 4, none⟩ = some (.bool f4) := (blk_cell Bgf.out 4).trans rfl
    have hfgf4 := blk_frozen Bgf.out 4
    have hcgf5 : v8_.cell? ⟨gf, 5, none⟩ = some (.bool f5) := (blk_cell Bgf.out 5).trans rfl
    have hfgf5 := blk_frozen Bgf.out 5
    have hcgr0 : v8_.cell? ⟨gr, 0, none⟩ = some (.bool false) := (blk_cell Bgr.out 0).trans rfl
    have hfgr0 := blk_frozen Bgr.out 0
    have hcgr1 : v8_.cell? ⟨gr, 1, none⟩ = some (.bool false) := (blk_cell Bgr.out 1).trans rfl
    have hfgr1 := blk_frozen Bgr.out 1
    have hcgr2 : v8_.cell? ⟨gr, 2, none⟩ = some (.bool false) := (blk_cell Bgr.out 2).trans rfl
    have hfgr2 := blk_frozen Bgr.out 2
    have hcgr3 : v8_.cell? ⟨gr, 3, none⟩ = some (.bool false) := (blk_cell Bgr.out 3).trans rfl
    have hfgr3 := blk_frozen Bgr.out 3
    have hcgr4 : v8_.cell? ⟨gr, 4, none⟩ = some (.bool false) := (blk_cell Bgr.out 4).trans rfl
    have hfgr4 := blk_frozen Bgr.out 4
    have hcgr5 : v8_.cell? ⟨gr, 5, none⟩ = some (.bool false) := (blk_cell Bgr.out 5).trans rfl
    have hfgr5 := blk_frozen Bgr.out 5
    try go_wp2_with (fail)
    clear hcgf0 hfgf0 hcgf1 hfgf1 hcgf2 hfgf2 hcgf3 hfgf3 hcgf4 hfgf4 hcgf5 hfgf5 hcgr0 hfgr0 hcgr1 hfgr1 hcgr2 hfgr2 hcgr3 hfgr3 hcgr4 hfgr4 hcgr5 hfgr5
    have mgf := Aside0.mk (show ((((v8_).setCell ⟨gf, 1, none⟩ (.bool false)).setCell ⟨gf, 5, none⟩ (.bool (decide (255 < h + 96)))).setCell ⟨gf, 4, none⟩ (.bool ((a + b + t) % 256 == 0))).heap[gf]? = some (.cells #[.bool hn, .bool false, .bool true, .bool f3, .bool ((a + b + t) % 256 == 0), .bool (decide (255 < h + 96))] 40 (0, 0)) from (by refine blk_put (cs := #[.bool hn, .bool false, .bool true, .bool f3, .bool f4, .bool (decide (255 < h + 96))]) ?_ 4 _ rfl; refine blk_put (cs := #[.bool hn, .bool false, .bool true, .bool f3, .bool f4, .bool f5]) ?_ 5 _ rfl; refine blk_put (cs := #[.bool hn, .bool f1, .bool true, .bool f3, .bool f4, .bool f5]) ?_ 1 _ rfl; exact Bgf.out))
    have ne_ : gr ≠ gf := by first | exact NEgf_gr.out.symm | exact NEgr_gf.out
    have mgr := Aside0.mk (blk_far (p := ⟨gf, 4, none⟩) (blk_far (p := ⟨gf, 5, none⟩) (blk_far (p := ⟨gf, 1, none⟩) Bgr.out ne_ (.bool false)) ne_ (.bool (decide (255 < h + 96)))) ne_ (.bool ((a + b + t) % 256 == 0)))
    clear ne_
    have mH := Aside0.mk (below_set (j := 4) (v := .bool ((a + b + t) % 256 == 0)) (below_set (j := 5) (v := .bool (decide (255 < h + 96))) (below_set (j := 1) (v := .bool false) HB.out Ggf.out) Ggf.out) Ggf.out)
    clear HB Bgf Bgr
    have HB := mH
    have Bgf := mgf
    have Bgr := mgr
    clear mH mgf mgr
    with_reducible generalize (((v8_).setCell ⟨gf, 1, none⟩ (.bool false)).setCell ⟨gf, 5, none⟩ (.bool (decide (255 < h + 96)))).setCell ⟨gf, 4, none⟩ (.bool ((a + b + t) % 256 == 0)) = v9_ at HB Bgf Bgr ⊢
    have hcgf0 : v9_.cell? ⟨gf, 0, none⟩ = some (.bool hn) := (blk_cell Bgf.out 0).trans rfl
    have hfgf0 := blk_frozen Bgf.out 0
    have hcgf1 : v9_.cell? ⟨gf, 1, none⟩ = some (.bool false) := (blk_cell Bgf.out 1).trans rfl
    have hfgf1 := blk_frozen Bgf.out 1
    have hcgf2 : v9_.cell? ⟨gf, 2, none⟩ = some (.bool true) := (blk_cell Bgf.out 2).trans rfl
    have hfgf2 := blk_frozen Bgf.out 2
    have hcgf3 : v9_.cell? ⟨gf, 3, none⟩ = some (.bool f3) := (blk_cell Bgf.out 3).trans rfl
    have hfgf3 := blk_frozen Bgf.out 3
    have hcgf4 : v9_.cell? ⟨gf, 4, none⟩ = some (.bool ((a + b + t) % 256 == 0)) := (blk_cell Bgf.out 4).trans rfl
    have hfgf4 := blk_frozen Bgf.out 4
    have hcgf5 : v9_.cell? ⟨gf, 5, none⟩ = some (.bool (decide (255 < h + 96))) := (blk_cell Bgf.out 5).trans rfl
    have hfgf5 := blk_frozen Bgf.out 5
    go_still_tail 4, (by kernel_rfl)
    clear hcgf0 hfgf0 hcgf1 hfgf1 hcgf2 hfgf2 hcgf3 hfgf3 hcgf4 hfgf4 hcgf5 hfgf5
    have mgf := Aside0.mk (blk_drew Bgf.out)
    have mgr := Aside0.mk (blk_drew Bgr.out)
    have mH := Aside0.mk (below_drew1 HB.out)
    clear HB Bgf Bgr
    have HB := mH
    have Bgf := mgf
    have Bgr := mgr
    clear mH mgf mgr
    show wpList Try.prog _ _ _ _ v9_.drew
    generalize v9_.drew = v10_ at HB Bgf Bgr ⊢
    have hcgf0 : v10_.cell? ⟨gf, 0, none⟩ = some (.bool hn) := (blk_cell Bgf.out 0).trans rfl
    have hfgf0 := blk_frozen Bgf.out 0
    have hcgf1 : v10_.cell? ⟨gf, 1, none⟩ = some (.bool false) := (blk_cell Bgf.out 1).trans rfl
    have hfgf1 := blk_frozen Bgf.out 1
    have hcgf2 : v10_.cell? ⟨gf, 2, none⟩ = some (.bool true) := (blk_cell Bgf.out 2).trans rfl
    have hfgf2 := blk_frozen Bgf.out 2
    have hcgf3 : v10_.cell? ⟨gf, 3, none⟩ = some (.bool f3) := (blk_cell Bgf.out 3).trans rfl
    have hfgf3 := blk_frozen Bgf.out 3
    have hcgf4 : v10_.cell? ⟨gf, 4, none⟩ = some (.bool ((a + b + t) % 256 == 0)) := (blk_cell Bgf.out 4).trans rfl
    have hfgf4 := blk_frozen Bgf.out 4
    have hcgf5 : v10_.cell? ⟨gf, 5, none⟩ = some (.bool (decide (255 < h + 96))) := (blk_cell Bgf.out 5).trans rfl
    have hfgf5 := blk_frozen Bgf.out 5
    have hcgr0 : v10_.cell? ⟨gr, 0, none⟩ = some (.bool false) := (blk_cell Bgr.out 0).trans rfl
    have hfgr0 := blk_frozen Bgr.out 0
    have hcgr1 : v10_.cell? ⟨gr, 1, none⟩ = some (.bool false) := (blk_cell Bgr.out 1).trans rfl
    have hfgr1 := blk_frozen Bgr.out 1
    have hcgr2 : v10_.cell? ⟨gr, 2, none⟩ = some (.bool false) := (blk_cell Bgr.out 2).trans rfl
    have hfgr2 := blk_frozen Bgr.out 2
    have hcgr3 : v10_.cell? ⟨gr, 3, none⟩ = some (.bool false) := (blk_cell Bgr.out 3).trans rfl
    have hfgr3 := blk_frozen Bgr.out 3
    have hcgr4 : v10_.cell? ⟨gr, 4, none⟩ = some (.bool false) := (blk_cell Bgr.out 4).trans rfl
    have hfgr4 := blk_frozen Bgr.out 4
    have hcgr5 : v10_.cell? ⟨gr, 5, none⟩ = some (.bool false) := (blk_cell Bgr.out 5).trans rfl
    have hfgr5 := blk_frozen Bgr.out 5
    try go_wp2_with (fail)
    refine bodyPost_ret (results_tc rfl _ _ gr 40 #[.bool hn, .bool false, .bool true, .bool f3, .bool ((a + b + t) % 256 == 0), .bool (decide (255 < h + 96))] (0, 0) _ rfl (by (with_reducible repeat (first | refine blk_drewN ?_ _ | refine blk_drew ?_ | refine blk_alloc ?_ _)); refine blk_put (cs := #[.bool hn, .bool false, .bool true, .bool f3, .bool ((a + b + t) % 256 == 0), .bool false]) ?_ 5 _ rfl; (with_reducible repeat (first | refine blk_drewN ?_ _ | refine blk_drew ?_ | refine blk_alloc ?_ _)); refine blk_put (cs := #[.bool hn, .bool false, .bool true, .bool f3, .bool false, .bool false]) ?_ 4 _ rfl; (with_reducible repeat (first | refine blk_drewN ?_ _ | refine blk_drew ?_ | refine blk_alloc ?_ _)); refine blk_put (cs := #[.bool hn, .bool false, .bool true, .bool false, .bool false, .bool false]) ?_ 3 _ rfl; (with_reducible repeat (first | refine blk_drewN ?_ _ | refine blk_drew ?_ | refine blk_alloc ?_ _)); refine blk_put (cs := #[.bool hn, .bool false, .bool false, .bool false, .bool false, .bool false]) ?_ 2 _ rfl; (with_reducible repeat (first | refine blk_drewN ?_ _ | refine blk_drew ?_ | refine blk_alloc ?_ _)); refine blk_put (cs := #[.bool hn, .bool false, .bool false, .bool false, .bool false, .bool false]) ?_ 1 _ rfl; (with_reducible repeat (first | refine blk_drewN ?_ _ | refine blk_drew ?_ | refine blk_alloc ?_ _)); refine blk_put (cs := #[.bool false, .bool false, .bool false, .bool false, .bool false, .bool false]) ?_ 0 _ rfl; (with_reducible repeat (first | refine blk_drewN ?_ _ | refine blk_drew ?_ | refine blk_alloc ?_ _)); exact Bgr.out) Try.underlying40 rfl (by kernel_rfl)) rfl ?_
    have e1_ := H1'.out
    have e2_ := H7.out
    have e3_ := H6.out
    subst e1_
    subst e2_
    subst e3_
    exact ⟨by first | rfl | simp, by repeat (first | (with_reducible first | exact HB.out | apply below_alloc | apply pw_below_drewN | apply below_drew1 | refine below_set ?_ Ggf.out | refine below_set ?_ Ggr.out) | exact HB.out)⟩
  | true =>
    have h3 : (hn != a7) = r3 := by rw [← H3.out, hq]; rfl
    subst h3
    try go_wp2_with (fail)
    refine (impl_has.calls (h % 256) 7 hn _ HM.out).mono ?_
    rintro e v11_ ⟨rfl, hd_⟩
    have hb_ := hd_.below
    clear hd_
    have mgf := Aside0.mk ((hb_.block gf (blk_lt Bgf.out)).trans Bgf.out)
    have mgr := Aside0.mk ((hb_.block gr (blk_lt Bgr.out)).trans Bgr.out)
    have mH := Aside0.mk (below_step HB.out hb_)
    clear HB Bgf Bgr hb_
    have HB := mH
    have Bgf := mgf
    have Bgr := mgr
    clear mH mgf mgr
    try go_wp2_with (fail)
    refine (impl_has.calls a 7 a7 _ HA.out).mono ?_
    rintro e v12_ ⟨rfl, hd_⟩
    have hb_ := hd_.below
    clear hd_
    have mgf := Aside0.mk ((hb_.block gf (blk_lt Bgf.out)).trans Bgf.out)
    have mgr := Aside0.mk ((hb_.block gr (blk_lt Bgr.out)).trans Bgr.out)
    have mH := Aside0.mk (below_step HB.out hb_)
    clear HB Bgf Bgr hb_
    have HB := mH
    have Bgf := mgf
    have Bgr := mgr
    clear mH mgf mgr
    have hcgf0 : v12_.cell? ⟨gf, 0, none⟩ = some (.bool hn) := (blk_cell Bgf.out 0).trans rfl
    have hfgf0 := blk_frozen Bgf.out 0
    have hcgf1 : v12_.cell? ⟨gf, 1, none⟩ = some (.bool f1) := (blk_cell Bgf.out 1).trans rfl
    have hfgf1 := blk_frozen Bgf.out 1
    have hcgf2 : v12_.cell? ⟨gf, 2, none⟩ = some (.bool true) := (blk_cell Bgf.out 2).trans rfl
    have hfgf2 := blk_frozen Bgf.out 2
    have hcgf3 : v12_.cell? ⟨gf, 3, none⟩ = some (.bool f3) := (blk_cell Bgf.out 3).trans rfl
    have hfgf3 := blk_frozen Bgf.out 3
    have hcgf4 : v12_.cell? ⟨gf, 4, none⟩ = some (.bool f4) := (blk_cell Bgf.out 4).trans rfl
    have hfgf4 := blk_frozen Bgf.out 4
    have hcgf5 : v12_.cell? ⟨gf, 5, none⟩ = some (.bool f5) := (blk_cell Bgf.out 5).trans rfl
    have hfgf5 := blk_frozen Bgf.out 5
    have hcgr0 : v12_.cell? ⟨gr, 0, none⟩ = some (.bool false) := (blk_cell Bgr.out 0).trans rfl
    have hfgr0 := blk_frozen Bgr.out 0
    have hcgr1 : v12_.cell? ⟨gr, 1, none⟩ = some (.bool false) := (blk_cell Bgr.out 1).trans rfl
    have hfgr1 := blk_frozen Bgr.out 1
    have hcgr2 : v12_.cell? ⟨gr, 2, none⟩ = some (.bool false) := (blk_cell Bgr.out 2).trans rfl
    have hfgr2 := blk_frozen Bgr.out 2
    have hcgr3 : v12_.cell? ⟨gr, 3, none⟩ = some (.bool false) := (blk_cell Bgr.out 3).trans rfl
    have hfgr3 := blk_frozen Bgr.out 3
    have hcgr4 : v12_.cell? ⟨gr, 4, none⟩ = some (.bool false) := (blk_cell Bgr.out 4).trans rfl
    have hfgr4 := blk_frozen Bgr.out 4
    have hcgr5 : v12_.cell? ⟨gr, 5, none⟩ = some (.bool false) := (blk_cell Bgr.out 5).trans rfl
    have hfgr5 := blk_frozen Bgr.out 5
    try go_wp2_with (fail)
    clear hcgf0 hfgf0 hcgf1 hfgf1 hcgf2 hfgf2 hcgf3 hfgf3 hcgf4 hfgf4 hcgf5 hfgf5 hcgr0 hfgr0 hcgr1 hfgr1 hcgr2 hfgr2 hcgr3 hfgr3 hcgr4 hfgr4 hcgr5 hfgr5
    have mgf := Aside0.mk (show ((((v12_).setCell ⟨gf, 1, none⟩ (.bool (hn != a7))).setCell ⟨gf, 5, none⟩ (.bool (decide (255 < h + 96)))).setCell ⟨gf, 4, none⟩ (.bool ((a + b + t) % 256 == 0))).heap[gf]? = some (.cells #[.bool hn, .bool (hn != a7), .bool true, .bool f3, .bool ((a + b + t) % 256 == 0), .bool (decide (255 < h + 96))] 40 (0, 0)) from (by refine blk_put (cs := #[.bool hn, .bool (hn != a7), .bool true, .bool f3, .bool f4, .bool (decide (255 < h + 96))]) ?_ 4 _ rfl; refine blk_put (cs := #[.bool hn, .bool (hn != a7), .bool true, .bool f3, .bool f4, .bool f5]) ?_ 5 _ rfl; refine blk_put (cs := #[.bool hn, .bool f1, .bool true, .bool f3, .bool f4, .bool f5]) ?_ 1 _ rfl; exact Bgf.out))
    have ne_ : gr ≠ gf := by first | exact NEgf_gr.out.symm | exact NEgr_gf.out
    have mgr := Aside0.mk (blk_far (p := ⟨gf, 4, none⟩) (blk_far (p := ⟨gf, 5, none⟩) (blk_far (p := ⟨gf, 1, none⟩) Bgr.out ne_ (.bool (hn != a7))) ne_ (.bool (decide (255 < h + 96)))) ne_ (.bool ((a + b + t) % 256 == 0)))
    clear ne_
    have mH := Aside0.mk (below_set (j := 4) (v := .bool ((a + b + t) % 256 == 0)) (below_set (j := 5) (v := .bool (decide (255 < h + 96))) (below_set (j := 1) (v := .bool (hn != a7)) HB.out Ggf.out) Ggf.out) Ggf.out)
    clear HB Bgf Bgr
    have HB := mH
    have Bgf := mgf
    have Bgr := mgr
    clear mH mgf mgr
    with_reducible generalize (((v12_).setCell ⟨gf, 1, none⟩ (.bool (hn != a7))).setCell ⟨gf, 5, none⟩ (.bool (decide (255 < h + 96)))).setCell ⟨gf, 4, none⟩ (.bool ((a + b + t) % 256 == 0)) = v13_ at HB Bgf Bgr ⊢
    have hcgf0 : v13_.cell? ⟨gf, 0, none⟩ = some (.bool hn) := (blk_cell Bgf.out 0).trans rfl
    have hfgf0 := blk_frozen Bgf.out 0
    have hcgf1 : v13_.cell? ⟨gf, 1, none⟩ = some (.bool (hn != a7)) := (blk_cell Bgf.out 1).trans rfl
    have hfgf1 := blk_frozen Bgf.out 1
    have hcgf2 : v13_.cell? ⟨gf, 2, none⟩ = some (.bool true) := (blk_cell Bgf.out 2).trans rfl
    have hfgf2 := blk_frozen Bgf.out 2
    have hcgf3 : v13_.cell? ⟨gf, 3, none⟩ = some (.bool f3) := (blk_cell Bgf.out 3).trans rfl
    have hfgf3 := blk_frozen Bgf.out 3
    have hcgf4 : v13_.cell? ⟨gf, 4, none⟩ = some (.bool ((a + b + t) % 256 == 0)) := (blk_cell Bgf.out 4).trans rfl
    have hfgf4 := blk_frozen Bgf.out 4
    have hcgf5 : v13_.cell? ⟨gf, 5, none⟩ = some (.bool (decide (255 < h + 96))) := (blk_cell Bgf.out 5).trans rfl
    have hfgf5 := blk_frozen Bgf.out 5
    go_still_tail 4, (by kernel_rfl)
    clear hcgf0 hfgf0 hcgf1 hfgf1 hcgf2 hfgf2 hcgf3 hfgf3 hcgf4 hfgf4 hcgf5 hfgf5
    have mgf := Aside0.mk (blk_drew Bgf.out)
    have mgr := Aside0.mk (blk_drew Bgr.out)
    have mH := Aside0.mk (below_drew1 HB.out)
    clear HB Bgf Bgr
    have HB := mH
    have Bgf := mgf
    have Bgr := mgr
    clear mH mgf mgr
    show wpList Try.prog _ _ _ _ v13_.drew
    generalize v13_.drew = v14_ at HB Bgf Bgr ⊢
    have hcgf0 : v14_.cell? ⟨gf, 0, none⟩ = some (.bool hn) := (blk_cell Bgf.out 0).trans rfl
    have hfgf0 := blk_frozen Bgf.out 0
    have hcgf1 : v14_.cell? ⟨gf, 1, none⟩ = some (.bool (hn != a7)) := (blk_cell Bgf.out 1).trans rfl
    have hfgf1 := blk_frozen Bgf.out 1
    have hcgf2 : v14_.cell? ⟨gf, 2, none⟩ = some (.bool true) := (blk_cell Bgf.out 2).trans rfl
    have hfgf2 := blk_frozen Bgf.out 2
    have hcgf3 : v14_.cell? ⟨gf, 3, none⟩ = some (.bool f3) := (blk_cell Bgf.out 3).trans rfl
    have hfgf3 := blk_frozen Bgf.out 3
    have hcgf4 : v14_.cell? ⟨gf, 4, none⟩ = some (.bool ((a + b + t) % 256 == 0)) := (blk_cell Bgf.out 4).trans rfl
    have hfgf4 := blk_frozen Bgf.out 4
    have hcgf5 : v14_.cell? ⟨gf, 5, none⟩ = some (.bool (decide (255 < h + 96))) := (blk_cell Bgf.out 5).trans rfl
    have hfgf5 := blk_frozen Bgf.out 5
    have hcgr0 : v14_.cell? ⟨gr, 0, none⟩ = some (.bool false) := (blk_cell Bgr.out 0).trans rfl
    have hfgr0 := blk_frozen Bgr.out 0
    have hcgr1 : v14_.cell? ⟨gr, 1, none⟩ = some (.bool false) := (blk_cell Bgr.out 1).trans rfl
    have hfgr1 := blk_frozen Bgr.out 1
    have hcgr2 : v14_.cell? ⟨gr, 2, none⟩ = some (.bool false) := (blk_cell Bgr.out 2).trans rfl
    have hfgr2 := blk_frozen Bgr.out 2
    have hcgr3 : v14_.cell? ⟨gr, 3, none⟩ = some (.bool false) := (blk_cell Bgr.out 3).trans rfl
    have hfgr3 := blk_frozen Bgr.out 3
    have hcgr4 : v14_.cell? ⟨gr, 4, none⟩ = some (.bool false) := (blk_cell Bgr.out 4).trans rfl
    have hfgr4 := blk_frozen Bgr.out 4
    have hcgr5 : v14_.cell? ⟨gr, 5, none⟩ = some (.bool false) := (blk_cell Bgr.out 5).trans rfl
    have hfgr5 := blk_frozen Bgr.out 5
    try go_wp2_with (fail)
    refine bodyPost_ret (results_tc rfl _ _ gr 40 #[.bool hn, .bool (hn != a7), .bool true, .bool f3, .bool ((a + b + t) % 256 == 0), .bool (decide (255 < h + 96))] (0, 0) _ rfl (by (with_reducible repeat (first | refine blk_drewN ?_ _ | refine blk_drew ?_ | refine blk_alloc ?_ _)); refine blk_put (cs := #[.bool hn, .bool (hn != a7), .bool true, .bool f3, .bool ((a + b + t) % 256 == 0), .bool false]) ?_ 5 _ rfl; (with_reducible repeat (first | refine blk_drewN ?_ _ | refine blk_drew ?_ | refine blk_alloc ?_ _)); refine blk_put (cs := #[.bool hn, .bool (hn != a7), .bool true, .bool f3, .bool false, .bool false]) ?_ 4 _ rfl; (with_reducible repeat (first | refine blk_drewN ?_ _ | refine blk_drew ?_ | refine blk_alloc ?_ _)); refine blk_put (cs := #[.bool hn, .bool (hn != a7), .bool true, .bool false, .bool false, .bool false]) ?_ 3 _ rfl; (with_reducible repeat (first | refine blk_drewN ?_ _ | refine blk_drew ?_ | refine blk_alloc ?_ _)); refine blk_put (cs := #[.bool hn, .bool (hn != a7), .bool false, .bool false, .bool false, .bool false]) ?_ 2 _ rfl; (with_reducible repeat (first | refine blk_drewN ?_ _ | refine blk_drew ?_ | refine blk_alloc ?_ _)); refine blk_put (cs := #[.bool hn, .bool false, .bool false, .bool false, .bool false, .bool false]) ?_ 1 _ rfl; (with_reducible repeat (first | refine blk_drewN ?_ _ | refine blk_drew ?_ | refine blk_alloc ?_ _)); refine blk_put (cs := #[.bool false, .bool false, .bool false, .bool false, .bool false, .bool false]) ?_ 0 _ rfl; (with_reducible repeat (first | refine blk_drewN ?_ _ | refine blk_drew ?_ | refine blk_alloc ?_ _)); exact Bgr.out) Try.underlying40 rfl (by kernel_rfl)) rfl ?_
    have e1_ := H1'.out
    have e2_ := H7.out
    have e3_ := H6.out
    subst e1_
    subst e2_
    subst e3_
    exact ⟨by first | rfl | simp, by repeat (first | (with_reducible first | exact HB.out | apply below_alloc | apply pw_below_drewN | apply below_drew1 | refine below_set ?_ Ggf.out | refine below_set ?_ Ggr.out) | exact HB.out)⟩
set_option maxHeartbeats 2000000 in
set_option maxRecDepth 100000 in
theorem impl_Adc.dec_nn (a b : Int) (f0 f1 f3 f4 f5 : Bool) (w : World) (a0 : 0 ≤ a) (a1 : a ≤ 255) (b0 : 0 ≤ b) (b1 : b ≤ 255) (r1 : Int) (r2 r3 r4 r5 r6 r7 : Bool) (c10 : ¬ 10 ≤ a % 16 + b % 16 + tc f5) (c160 : ¬ 160 ≤ sumH a b (tc f5)) (hr : dec a b (tc f5) f3 = (r1, r2, r3, r4, r5, r6, r7)) : Calls Try.prog 59 #[.int .u8 a, .int .u8 b, .agg #[.bool f0, .bool f1, .bool true, .bool f3, .bool f4, .bool f5]] w fun e w' => e = .returned (.tuple #[.int .u8 r1, .agg #[.bool r2, .bool r3, .bool r4, .bool r5, .bool r6, .bool r7]]) ∧ Below w.heap.size w w' := by
  simp only [dec, Prod.mk.injEq] at hr
  obtain ⟨h1, h2, h3, rfl, rfl, h6, h7⟩ := hr
  obtain ⟨t0, t1⟩ := tc01 f5
  have H1 := Aside0.mk (one_tc f5)
  generalize tc f5 = t at t0 t1 H1 h1 h2 h3 h6 h7 c10 c160
  have H6 : Aside0 (((a + b + t) % 256 == 0) = r6) := ⟨h6⟩
  clear h6
  have s0 : 0 ≤ a + b + t := by omega
  have s1 : a + b + t ≤ 511 := by omega
  have HA := Aside0.mk (has_hi a a0 a1)
  have HBB := Aside0.mk (has_hi b b0 b1)
  have q1 := and15 a0 a1
  have q2 := and15 b0 b1
  have q3 := and240 a0 a1
  have q4 := and240 b0 b1
  have x1 : 0 ≤ a % 16 := by omega
  have x2 : a % 16 ≤ 15 := by omega
  have x3 : 0 ≤ b % 16 := by omega
  have x4 : b % 16 ≤ 15 := by omega
  have x5 : 0 ≤ a - a % 16 := by omega
  have x6 : a - a % 16 ≤ 240 := by omega
  have x7 : 0 ≤ b - b % 16 := by omega
  have x8 : b - b % 16 ≤ 240 := by omega
  generalize hh : sumH a b t = h at h1 h2 h3 h7 c160
  simp only [sumH, sumL] at hh
  generalize a - a % 16 = ah at q3 hh x5 x6
  generalize b - b % 16 = bh at q4 hh x7 x8
  generalize a % 16 = al at q1 hh x1 x2 c10
  generalize b % 16 = bl at q2 hh x3 x4 c10
  have HS : ∃ s, Aside0 (a + b + t = s) := ⟨_, ⟨rfl⟩⟩
  have d10 : decide (10 ≤ al + bl + t) = false := decide_eq_false c10
  rw [low, if_neg c10] at hh
  have d160 : decide (160 ≤ h) = false := decide_eq_false c160
  rw [top, if_neg c160] at h1 h7
  have g0 : 0 ≤ h := by omega
  have g1 : h ≤ 511 := by omega
  have m0 : 0 ≤ h % 256 := by omega
  have m1 : h % 256 ≤ 255 := by omega
  have HM := Aside0.mk (has_hi _ m0 m1)
  rw [hi_mod] at HM
  simp only [ov] at h3
  generalize hi h = hn at h2 h3 HM
  generalize hi a = a7 at h3 HA
  generalize hi b = b7 at h3 HBB
  have H1' := Aside0.mk h1
  have HH := Aside0.mk hh
  subst h2
  have H7 := Aside0.mk h7
  have H3 := Aside0.mk h3
  clear h1 hh h7 h3 c10 c160 HS
  have HB := Aside0.mk (Below.refl w.heap.size w)
  have hu24 := Try.underlying40
  go_enter Try.func59, Try.ntmps59
  try go_wp2_with (first | ((with_reducible refine gate_dst (N := 5) rfl ?_); refine box_event ?hg (N := 5) ?hd (cs := #[.bool f0, .bool f1, .bool true, .bool f3, .bool f4, .bool f5]) (t := 40) ?hr ?_; (case hd => rfl); (case hg => rfl); (case hr => first | (go_simp; done) | (go_simp; rfl)); intro gf hg v1_ hbox hb; have n0_ := Aside0.mk (below_step (by repeat (first | (with_reducible first | exact HB.out | apply below_alloc | apply pw_below_drewN | apply below_drew1) | exact HB.out)) hb); have n1_ := Aside0.mk (hbox); have n2_ := Aside0.mk ((by rw [hg]; exact (below_size (by repeat (first | (with_reducible first | exact HB.out | apply below_alloc | apply pw_below_drewN | apply below_drew1) | exact HB.out))) : w.heap.size ≤ gf)); clear HB; have HB := n0_; have Bgf := n1_; have Ggf := n2_; clear n0_ n1_ n2_; clear hb hbox hg) | ((with_reducible refine gate_dst (N := 7) rfl ?_); refine box_event ?hg (N := 7) ?hd (cs := #[.bool false, .bool false, .bool false, .bool false, .bool false, .bool false]) (t := 40) ?hr ?_; (case hd => rfl); (case hg => rfl); (case hr => first | (go_simp; done) | (go_simp; rfl)); intro gr hg v2_ hbox hb; have mgf := Aside0.mk ((hb.block _ (blk_lt Bgf.out)).trans Bgf.out); have NEgr_gf := Aside0.mk (show gr ≠ gf from by rw [hg]; exact Nat.ne_of_gt (blk_lt Bgf.out)); clear Bgf; have Bgf := mgf; clear mgf; have n0_ := Aside0.mk (below_step (by repeat (first | (with_reducible first | exact HB.out | apply below_alloc | apply pw_below_drewN | apply below_drew1) | exact HB.out)) hb); have n1_ := Aside0.mk (hbox); have n2_ := Aside0.mk ((by rw [hg]; exact (below_size (by repeat (first | (with_reducible first | exact HB.out | apply below_alloc | apply pw_below_drewN | apply below_drew1) | exact HB.out))) : w.heap.size ≤ gr)); clear HB; have HB := n0_; have Bgr := n1_; have Ggr := n2_; clear n0_ n1_ n2_; clear hb hbox hg; have hcgf0 : v2_.cell? ⟨gf, 0, none⟩ = some (.bool f0) := (blk_cell Bgf.out 0).trans rfl; have hfgf0 := blk_frozen Bgf.out 0; have hcgf1 : v2_.cell? ⟨gf, 1, none⟩ = some (.bool f1) := (blk_cell Bgf.out 1).trans rfl; have hfgf1 := blk_frozen Bgf.out 1; have hcgf2 : v2_.cell? ⟨gf, 2, none⟩ = some (.bool true) := (blk_cell Bgf.out 2).trans rfl; have hfgf2 := blk_frozen Bgf.out 2; have hcgf3 : v2_.cell? ⟨gf, 3, none⟩ = some (.bool f3) := (blk_cell Bgf.out 3).trans rfl; have hfgf3 := blk_frozen Bgf.out 3; have hcgf4 : v2_.cell? ⟨gf, 4, none⟩ = some (.bool f4) := (blk_cell Bgf.out 4).trans rfl; have hfgf4 := blk_frozen Bgf.out 4; have hcgf5 : v2_.cell? ⟨gf, 5, none⟩ = some (.bool f5) := (blk_cell Bgf.out 5).trans rfl; have hfgf5 := blk_frozen Bgf.out 5))
  refine (impl_one.calls f5 t _ H1.out).mono ?_
  rintro e v3_ ⟨rfl, hd_⟩
  have hb_ := hd_.below
  clear hd_
  clear hcgf0 hfgf0 hcgf1 hfgf1 hcgf2 hfgf2 hcgf3 hfgf3 hcgf4 hfgf4 hcgf5 hfgf5
  have mgf := Aside0.mk ((hb_.block gf (blk_lt Bgf.out)).trans Bgf.out)
  have mgr := Aside0.mk ((hb_.block gr (blk_lt Bgr.out)).trans Bgr.out)
  have mH := Aside0.mk (below_step HB.out hb_)
  clear HB Bgf Bgr hb_
  have HB := mH
  have Bgf := mgf
  have Bgr := mgr
  clear mH mgf mgr
  have hcgf0 : v3_.cell? ⟨gf, 0, none⟩ = some (.bool f0) := (blk_cell Bgf.out 0).trans rfl
  have hfgf0 := blk_frozen Bgf.out 0
  have hcgf1 : v3_.cell? ⟨gf, 1, none⟩ = some (.bool f1) := (blk_cell Bgf.out 1).trans rfl
  have hfgf1 := blk_frozen Bgf.out 1
  have hcgf2 : v3_.cell? ⟨gf, 2, none⟩ = some (.bool true) := (blk_cell Bgf.out 2).trans rfl
  have hfgf2 := blk_frozen Bgf.out 2
  have hcgf3 : v3_.cell? ⟨gf, 3, none⟩ = some (.bool f3) := (blk_cell Bgf.out 3).trans rfl
  have hfgf3 := blk_frozen Bgf.out 3
  have hcgf4 : v3_.cell? ⟨gf, 4, none⟩ = some (.bool f4) := (blk_cell Bgf.out 4).trans rfl
  have hfgf4 := blk_frozen Bgf.out 4
  have hcgf5 : v3_.cell? ⟨gf, 5, none⟩ = some (.bool f5) := (blk_cell Bgf.out 5).trans rfl
  have hfgf5 := blk_frozen Bgf.out 5
  try go_wp2_with (fail)
  refine (impl_one.calls f5 t _ H1.out).mono ?_
  rintro e v4_ ⟨rfl, hd_⟩
  have hb_ := hd_.below
  clear hd_
  clear hcgf0 hfgf0 hcgf1 hfgf1 hcgf2 hfgf2 hcgf3 hfgf3 hcgf4 hfgf4 hcgf5 hfgf5
  have mgf := Aside0.mk ((hb_.block gf (blk_lt Bgf.out)).trans Bgf.out)
  have mgr := Aside0.mk ((hb_.block gr (blk_lt Bgr.out)).trans Bgr.out)
  have mH := Aside0.mk (below_step HB.out hb_)
  clear HB Bgf Bgr hb_
  have HB := mH
  have Bgf := mgf
  have Bgr := mgr
  clear mH mgf mgr
  try go_wp2_with (fail)
  rw [HH.out]
  refine (impl_has.calls (h % 256) 7 hn _ HM.out).mono ?_
  rintro e v5_ ⟨rfl, hd_⟩
  have hb_ := hd_.below
  clear hd_
  have mgf := Aside0.mk ((hb_.block gf (blk_lt Bgf.out)).trans Bgf.out)
  have mgr := Aside0.mk ((hb_.block gr (blk_lt Bgr.out)).trans Bgr.out)
  have mH := Aside0.mk (below_step HB.out hb_)
  clear HB Bgf Bgr hb_
  have HB := mH
  have Bgf := mgf
  have Bgr := mgr
  clear mH mgf mgr
  have hcgf0 : v5_.cell? ⟨gf, 0, none⟩ = some (.bool f0) := (blk_cell Bgf.out 0).trans rfl
  have hfgf0 := blk_frozen Bgf.out 0
  have hcgf1 : v5_.cell? ⟨gf, 1, none⟩ = some (.bool f1) := (blk_cell Bgf.out 1).trans rfl
  have hfgf1 := blk_frozen Bgf.out 1
  have hcgf2 : v5_.cell? ⟨gf, 2, none⟩ = some (.bool true) := (blk_cell Bgf.out 2).trans rfl
  have hfgf2 := blk_frozen Bgf.out 2
  have hcgf3 : v5_.cell? ⟨gf, 3, none⟩ = some (.bool f3) := (blk_cell Bgf.out 3).trans rfl
  have hfgf3 := blk_frozen Bgf.out 3
  have hcgf4 : v5_.cell? ⟨gf, 4, none⟩ = some (.bool f4) := (blk_cell Bgf.out 4).trans rfl
  have hfgf4 := blk_frozen Bgf.out 4
  have hcgf5 : v5_.cell? ⟨gf, 5, none⟩ = some (.bool f5) := (blk_cell Bgf.out 5).trans rfl
  have hfgf5 := blk_frozen Bgf.out 5
  try go_wp2_with (fail)
  clear hcgf0 hfgf0 hcgf1 hfgf1 hcgf2 hfgf2 hcgf3 hfgf3 hcgf4 hfgf4 hcgf5 hfgf5
  have mgf := Aside0.mk (show ((v5_).setCell ⟨gf, 0, none⟩ (.bool hn)).heap[gf]? = some (.cells #[.bool hn, .bool f1, .bool true, .bool f3, .bool f4, .bool f5] 40 (0, 0)) from (by refine blk_put (cs := #[.bool f0, .bool f1, .bool true, .bool f3, .bool f4, .bool f5]) ?_ 0 _ rfl; exact Bgf.out))
  have ne_ : gr ≠ gf := by first | exact NEgf_gr.out.symm | exact NEgr_gf.out
  have mgr := Aside0.mk (blk_far (p := ⟨gf, 0, none⟩) Bgr.out ne_ (.bool hn))
  clear ne_
  have mH := Aside0.mk (below_set (j := 0) (v := .bool hn) HB.out Ggf.out)
  clear HB Bgf Bgr
  have HB := mH
  have Bgf := mgf
  have Bgr := mgr
  clear mH mgf mgr
  with_reducible generalize (v5_).setCell ⟨gf, 0, none⟩ (.bool hn) = v6_ at HB Bgf Bgr ⊢
  refine (impl_has.calls a 7 a7 _ HA.out).mono ?_
  rintro e v7_ ⟨rfl, hd_⟩
  have hb_ := hd_.below
  clear hd_
  have mgf := Aside0.mk ((hb_.block gf (blk_lt Bgf.out)).trans Bgf.out)
  have mgr := Aside0.mk ((hb_.block gr (blk_lt Bgr.out)).trans Bgr.out)
  have mH := Aside0.mk (below_step HB.out hb_)
  clear HB Bgf Bgr hb_
  have HB := mH
  have Bgf := mgf
  have Bgr := mgr
  clear mH mgf mgr
  try go_wp2_with (fail)
  refine (impl_has.calls b 7 b7 _ HBB.out).mono ?_
  rintro e v8_ ⟨rfl, hd_⟩
  have hb_ := hd_.below
  clear hd_
  have mgf := Aside0.mk ((hb_.block gf (blk_lt Bgf.out)).trans Bgf.out)
  have mgr := Aside0.mk ((hb_.block gr (blk_lt Bgr.out)).trans Bgr.out)
  have mH := Aside0.mk (below_step HB.out hb_)
  clear HB Bgf Bgr hb_
  have HB := mH
  have Bgf := mgf
  have Bgr := mgr
  clear mH mgf mgr
  cases hq : (a7 == b7) with
  | false =>
    have h3 : false = r3 := by rw [← H3.out, hq]; rfl
    subst h3
    have hcgf0 : v8_.cell? ⟨gf, 0, none⟩ = some (.bool hn) := (blk_cell Bgf.out 0).trans rfl
    have hfgf0 := blk_frozen Bgf.out 0
    have hcgf1 : v8_.cell? ⟨gf, 1, none⟩ = some (.bool f1) := (blk_cell Bgf.out 1).trans rfl
    have hfgf1 := blk_frozen Bgf.out 1
    have hcgf2 : v8_.cell? ⟨gf, 2, none⟩ = some (.bool true) := (blk_cell Bgf.out 2).trans rfl
    have hfgf2 := blk_frozen Bgf.out 2
    have hcgf3 : v8_.cell? ⟨gf, 3, none⟩ = some (.bool f3) := (blk_cell Bgf.out 3).trans rfl
    have hfgf3 := blk_frozen Bgf.out 3
    have hcgf4 : v8_.cell? ⟨gf, 4, none⟩ = some (.bool f4) := (blk_cell Bgf.out 4).trans rfl
    have hfgf4 := blk_frozen Bgf.out 4
    have hcgf5 : v8_.cell? ⟨gf, 5, none⟩ = some (.bool f5) := (blk_cell Bgf.out 5).trans rfl
    have hfgf5 := blk_frozen Bgf.out 5
    have hcgr0 : v8_.cell? ⟨gr, 0, none⟩ = some (.bool false) := (blk_cell Bgr.out 0).trans rfl
    have hfgr0 := blk_frozen Bgr.out 0
    have hcgr1 : v8_.cell? ⟨gr, 1, none⟩ = some (.bool false) := (blk_cell Bgr.out 1).trans rfl
    have hfgr1 := blk_frozen Bgr.out 1
    have hcgr2 : v8_.cell? ⟨gr, 2, none⟩ = some (.bool false) := (blk_cell Bgr.out 2).trans rfl
    have hfgr2 := blk_frozen Bgr.out 2
    have hcgr3 : v8_.cell? ⟨gr, 3, none⟩ = some (.bool false) := (blk_cell Bgr.out 3).trans rfl
    have hfgr3 := blk_frozen Bgr.out 3
    have hcgr4 : v8_.cell? ⟨gr, 4, none⟩ = some (.bool false) := (blk_cell Bgr.out 4).trans rfl
    have hfgr4 := blk_frozen Bgr.out 4
    have hcgr5 : v8_.cell? ⟨gr, 5, none⟩ = some (.bool false) := (blk_cell Bgr.out 5).trans rfl
    have hfgr5 := blk_frozen Bgr.out 5
    try go_wp2_with (fail)
    clear hcgf0 hfgf0 hcgf1 hfgf1 hcgf2 hfgf2 hcgf3 hfgf3 hcgf4 hfgf4 hcgf5 hfgf5 hcgr0 hfgr0 hcgr1 hfgr1 hcgr2 hfgr2 hcgr3 hfgr3 hcgr4 hfgr4 hcgr5 hfgr5
    have mgf := Aside0.mk (show ((((v8_).setCell ⟨gf, 1, none⟩ (.bool false)).setCell ⟨gf, 5, none⟩ (.bool (decide (255 < h)))).setCell ⟨gf, 4, none⟩ (.bool ((a + b + t) % 256 == 0))).heap[gf]? = some (.cells #[.bool hn, .bool false, .bool true, .bool f3, .bool ((a + b + t) % 256 == 0), .bool (decide (255 < h))] 40 (0, 0)) from (by refine blk_put (cs := #[.bool hn, .bool false, .bool true, .bool f3, .bool f4, .bool (decide (255 < h))]) ?_ 4 _ rfl; refine blk_put (cs := #[.bool hn, .bool false, .bool true, .bool f3, .bool f4, .bool f5]) ?_ 5 _ rfl; refine blk_put (cs := #[.bool hn, .bool f1, .bool true, .bool f3, .bool f4, .bool f5]) ?_ 1 _ rfl; exact Bgf.out))
    have ne_ : gr ≠ gf := by first | exact NEgf_gr.out.symm | exact NEgr_gf.out
    have mgr := Aside0.mk (blk_far (p := ⟨gf, 4, none⟩) (blk_far (p := ⟨gf, 5, none⟩) (blk_far (p := ⟨gf, 1, none⟩) Bgr.out ne_ (.bool false)) ne_ (.bool (decide (255 < h)))) ne_ (.bool ((a + b + t) % 256 == 0)))
    clear ne_
    have mH := Aside0.mk (below_set (j := 4) (v := .bool ((a + b + t) % 256 == 0)) (below_set (j := 5) (v := .bool (decide (255 < h))) (below_set (j := 1) (v := .bool false) HB.out Ggf.out) Ggf.out) Ggf.out)
    clear HB Bgf Bgr
    have HB := mH
    have Bgf := mgf
    have Bgr := mgr
    clear mH mgf mgr
    with_reducible generalize (((v8_).setCell ⟨gf, 1, none⟩ (.bool false)).setCell ⟨gf, 5, none⟩ (.bool (decide (255 < h)))).setCell ⟨gf, 4, none⟩ (.bool ((a + b + t) % 256 == 0)) = v9_ at HB Bgf Bgr ⊢
    have hcgf0 : v9_.cell? ⟨gf, 0, none⟩ = some (.bool hn) := (blk_cell Bgf.out 0).trans rfl
    have hfgf0 := blk_frozen Bgf.out 0
    have hcgf1 : v9_.cell? ⟨gf, 1, none⟩ = some (.bool false) := (blk_cell Bgf.out 1).trans rfl
    have hfgf1 := blk_frozen Bgf.out 1
    have hcgf2 : v9_.cell? ⟨gf, 2, none⟩ = some (.bool true) := (blk_cell Bgf.out 2).trans rfl
    have hfgf2 := blk_frozen Bgf.out 2
    have hcgf3 : v9_.cell? ⟨gf, 3, none⟩ = some (.bool f3) := (blk_cell Bgf.out 3).trans rfl
    have hfgf3 := blk_frozen Bgf.out 3
    have hcgf4 : v9_.cell? ⟨gf, 4, none⟩ = some (.bool ((a + b + t) % 256 == 0)) := (blk_cell Bgf.out 4).trans rfl
    have hfgf4 := blk_frozen Bgf.out 4
    have hcgf5 : v9_.cell? ⟨gf, 5, none⟩ = some (.bool (decide (255 < h))) := (blk_cell Bgf.out 5).trans rfl
    have hfgf5 := blk_frozen Bgf.out 5
    go_still_tail 4, (by kernel_rfl)
    clear hcgf0 hfgf0 hcgf1 hfgf1 hcgf2 hfgf2 hcgf3 hfgf3 hcgf4 hfgf4 hcgf5 hfgf5
    have mgf := Aside0.mk (blk_drew Bgf.out)
    have mgr := Aside0.mk (blk_drew Bgr.out)
    have mH := Aside0.mk (below_drew1 HB.out)
    clear HB Bgf Bgr
    have HB := mH
    have Bgf := mgf
    have Bgr := mgr
    clear mH mgf mgr
    show wpList Try.prog _ _ _ _ v9_.drew
    generalize v9_.drew = v10_ at HB Bgf Bgr ⊢
    have hcgf0 : v10_.cell? ⟨gf, 0, none⟩ = some (.bool hn) := (blk_cell Bgf.out 0).trans rfl
    have hfgf0 := blk_frozen Bgf.out 0
    have hcgf1 : v10_.cell? ⟨gf, 1, none⟩ = some (.bool false) := (blk_cell Bgf.out 1).trans rfl
    have hfgf1 := blk_frozen Bgf.out 1
    have hcgf2 : v10_.cell? ⟨gf, 2, none⟩ = some (.bool true) := (blk_cell Bgf.out 2).trans rfl
    have hfgf2 := blk_frozen Bgf.out 2
    have hcgf3 : v10_.cell? ⟨gf, 3, none⟩ = some (.bool f3) := (blk_cell Bgf.out 3).trans rfl
    have hfgf3 := blk_frozen Bgf.out 3
    have hcgf4 : v10_.cell? ⟨gf, 4, none⟩ = some (.bool ((a + b + t) % 256 == 0)) := (blk_cell Bgf.out 4).trans rfl
    have hfgf4 := blk_frozen Bgf.out 4
    have hcgf5 : v10_.cell? ⟨gf, 5, none⟩ = some (.bool (decide (255 < h))) := (blk_cell Bgf.out 5).trans rfl
    have hfgf5 := blk_frozen Bgf.out 5
    have hcgr0 : v10_.cell? ⟨gr, 0, none⟩ = some (.bool false) := (blk_cell Bgr.out 0).trans rfl
    have hfgr0 := blk_frozen Bgr.out 0
    have hcgr1 : v10_.cell? ⟨gr, 1, none⟩ = some (.bool false) := (blk_cell Bgr.out 1).trans rfl
    have hfgr1 := blk_frozen Bgr.out 1
    have hcgr2 : v10_.cell? ⟨gr, 2, none⟩ = some (.bool false) := (blk_cell Bgr.out 2).trans rfl
    have hfgr2 := blk_frozen Bgr.out 2
    have hcgr3 : v10_.cell? ⟨gr, 3, none⟩ = some (.bool false) := (blk_cell Bgr.out 3).trans rfl
    have hfgr3 := blk_frozen Bgr.out 3
    have hcgr4 : v10_.cell? ⟨gr, 4, none⟩ = some (.bool false) := (blk_cell Bgr.out 4).trans rfl
    have hfgr4 := blk_frozen Bgr.out 4
    have hcgr5 : v10_.cell? ⟨gr, 5, none⟩ = some (.bool false) := (blk_cell Bgr.out 5).trans rfl
    have hfgr5 := blk_frozen Bgr.out 5
    try go_wp2_with (fail)
    refine bodyPost_ret (results_tc rfl _ _ gr 40 #[.bool hn, .bool false, .bool true, .bool f3, .bool ((a + b + t) % 256 == 0), .bool (decide (255 < h))] (0, 0) _ rfl (by (with_reducible repeat (first | refine blk_drewN ?_ _ | refine blk_drew ?_ | refine blk_alloc ?_ _)); refine blk_put (cs := #[.bool hn, .bool false, .bool true, .bool f3, .bool ((a + b + t) % 256 == 0), .bool false]) ?_ 5 _ rfl; (with_reducible repeat (first | refine blk_drewN ?_ _ | refine blk_drew ?_ | refine blk_alloc ?_ _)); refine blk_put (cs := #[.bool hn, .bool false, .bool true, .bool f3, .bool false, .bool false]) ?_ 4 _ rfl; (with_reducible repeat (first | refine blk_drewN ?_ _ | refine blk_drew ?_ | refine blk_alloc ?_ _)); refine blk_put (cs := #[.bool hn, .bool false, .bool true, .bool false, .bool false, .bool false]) ?_ 3 _ rfl; (with_reducible repeat (first | refine blk_drewN ?_ _ | refine blk_drew ?_ | refine blk_alloc ?_ _)); refine blk_put (cs := #[.bool hn, .bool false, .bool false, .bool false, .bool false, .bool false]) ?_ 2 _ rfl; (with_reducible repeat (first | refine blk_drewN ?_ _ | refine blk_drew ?_ | refine blk_alloc ?_ _)); refine blk_put (cs := #[.bool hn, .bool false, .bool false, .bool false, .bool false, .bool false]) ?_ 1 _ rfl; (with_reducible repeat (first | refine blk_drewN ?_ _ | refine blk_drew ?_ | refine blk_alloc ?_ _)); refine blk_put (cs := #[.bool false, .bool false, .bool false, .bool false, .bool false, .bool false]) ?_ 0 _ rfl; (with_reducible repeat (first | refine blk_drewN ?_ _ | refine blk_drew ?_ | refine blk_alloc ?_ _)); exact Bgr.out) Try.underlying40 rfl (by kernel_rfl)) rfl ?_
    have e1_ := H1'.out
    have e2_ := H7.out
    have e3_ := H6.out
    subst e1_
    subst e2_
    subst e3_
    exact ⟨by first | rfl | simp, by repeat (first | (with_reducible first | exact HB.out | apply below_alloc | apply pw_below_drewN | apply below_drew1 | refine below_set ?_ Ggf.out | refine below_set ?_ Ggr.out) | exact HB.out)⟩
  | true =>
    have h3 : (hn != a7) = r3 := by rw [← H3.out, hq]; rfl
    subst h3
    try go_wp2_with (fail)
    refine (impl_has.calls (h % 256) 7 hn _ HM.out).mono ?_
    rintro e v11_ ⟨rfl, hd_⟩
    have hb_ := hd_.below
    clear hd_
    have mgf := Aside0.mk ((hb_.block gf (blk_lt Bgf.out)).trans Bgf.out)
    have mgr := Aside0.mk ((hb_.block gr (blk_lt Bgr.out)).trans Bgr.out)
    have mH := Aside0.mk (below_step HB.out hb_)
    clear HB Bgf Bgr hb_
    have HB := mH
    have Bgf := mgf
    have Bgr := mgr
    clear mH mgf mgr
    try go_wp2_with (fail)
    refine (impl_has.calls a 7 a7 _ HA.out).mono ?_
    rintro e v12_ ⟨rfl, hd_⟩
    have hb_ := hd_.below
    clear hd_
    have mgf := Aside0.mk ((hb_.block gf (blk_lt Bgf.out)).trans Bgf.out)
    have mgr := Aside0.mk ((hb_.block gr (blk_lt Bgr.out)).trans Bgr.out)
    have mH := Aside0.mk (below_step HB.out hb_)
    clear HB Bgf Bgr hb_
    have HB := mH
    have Bgf := mgf
    have Bgr := mgr
    clear mH mgf mgr
    have hcgf0 : v12_.cell? ⟨gf, 0, none⟩ = some (.bool hn) := (blk_cell Bgf.out 0).trans rfl
    have hfgf0 := blk_frozen Bgf.out 0
    have hcgf1 : v12_.cell? ⟨gf, 1, none⟩ = some (.bool f1) := (blk_cell Bgf.out 1).trans rfl
    have hfgf1 := blk_frozen Bgf.out 1
    have hcgf2 : v12_.cell? ⟨gf, 2, none⟩ = some (.bool true) := (blk_cell Bgf.out 2).trans rfl
    have hfgf2 := blk_frozen Bgf.out 2
    have hcgf3 : v12_.cell? ⟨gf, 3, none⟩ = some (.bool f3) := (blk_cell Bgf.out 3).trans rfl
    have hfgf3 := blk_frozen Bgf.out 3
    have hcgf4 : v12_.cell? ⟨gf, 4, none⟩ = some (.bool f4) := (blk_cell Bgf.out 4).trans rfl
    have hfgf4 := blk_frozen Bgf.out 4
    have hcgf5 : v12_.cell? ⟨gf, 5, none⟩ = some (.bool f5) := (blk_cell Bgf.out 5).trans rfl
    have hfgf5 := blk_frozen Bgf.out 5
    have hcgr0 : v12_.cell? ⟨gr, 0, none⟩ = some (.bool false) := (blk_cell Bgr.out 0).trans rfl
    have hfgr0 := blk_frozen Bgr.out 0
    have hcgr1 : v12_.cell? ⟨gr, 1, none⟩ = some (.bool false) := (blk_cell Bgr.out 1).trans rfl
    have hfgr1 := blk_frozen Bgr.out 1
    have hcgr2 : v12_.cell? ⟨gr, 2, none⟩ = some (.bool false) := (blk_cell Bgr.out 2).trans rfl
    have hfgr2 := blk_frozen Bgr.out 2
    have hcgr3 : v12_.cell? ⟨gr, 3, none⟩ = some (.bool false) := (blk_cell Bgr.out 3).trans rfl
    have hfgr3 := blk_frozen Bgr.out 3
    have hcgr4 : v12_.cell? ⟨gr, 4, none⟩ = some (.bool false) := (blk_cell Bgr.out 4).trans rfl
    have hfgr4 := blk_frozen Bgr.out 4
    have hcgr5 : v12_.cell? ⟨gr, 5, none⟩ = some (.bool false) := (blk_cell Bgr.out 5).trans rfl
    have hfgr5 := blk_frozen Bgr.out 5
    try go_wp2_with (fail)
    clear hcgf0 hfgf0 hcgf1 hfgf1 hcgf2 hfgf2 hcgf3 hfgf3 hcgf4 hfgf4 hcgf5 hfgf5 hcgr0 hfgr0 hcgr1 hfgr1 hcgr2 hfgr2 hcgr3 hfgr3 hcgr4 hfgr4 hcgr5 hfgr5
    have mgf := Aside0.mk (show ((((v12_).setCell ⟨gf, 1, none⟩ (.bool (hn != a7))).setCell ⟨gf, 5, none⟩ (.bool (decide (255 < h)))).setCell ⟨gf, 4, none⟩ (.bool ((a + b + t) % 256 == 0))).heap[gf]? = some (.cells #[.bool hn, .bool (hn != a7), .bool true, .bool f3, .bool ((a + b + t) % 256 == 0), .bool (decide (255 < h))] 40 (0, 0)) from (by refine blk_put (cs := #[.bool hn, .bool (hn != a7), .bool true, .bool f3, .bool f4, .bool (decide (255 < h))]) ?_ 4 _ rfl; refine blk_put (cs := #[.bool hn, .bool (hn != a7), .bool true, .bool f3, .bool f4, .bool f5]) ?_ 5 _ rfl; refine blk_put (cs := #[.bool hn, .bool f1, .bool true, .bool f3, .bool f4, .bool f5]) ?_ 1 _ rfl; exact Bgf.out))
    have ne_ : gr ≠ gf := by first | exact NEgf_gr.out.symm | exact NEgr_gf.out
    have mgr := Aside0.mk (blk_far (p := ⟨gf, 4, none⟩) (blk_far (p := ⟨gf, 5, none⟩) (blk_far (p := ⟨gf, 1, none⟩) Bgr.out ne_ (.bool (hn != a7))) ne_ (.bool (decide (255 < h)))) ne_ (.bool ((a + b + t) % 256 == 0)))
    clear ne_
    have mH := Aside0.mk (below_set (j := 4) (v := .bool ((a + b + t) % 256 == 0)) (below_set (j := 5) (v := .bool (decide (255 < h))) (below_set (j := 1) (v := .bool (hn != a7)) HB.out Ggf.out) Ggf.out) Ggf.out)
    clear HB Bgf Bgr
    have HB := mH
    have Bgf := mgf
    have Bgr := mgr
    clear mH mgf mgr
    with_reducible generalize (((v12_).setCell ⟨gf, 1, none⟩ (.bool (hn != a7))).setCell ⟨gf, 5, none⟩ (.bool (decide (255 < h)))).setCell ⟨gf, 4, none⟩ (.bool ((a + b + t) % 256 == 0)) = v13_ at HB Bgf Bgr ⊢
    have hcgf0 : v13_.cell? ⟨gf, 0, none⟩ = some (.bool hn) := (blk_cell Bgf.out 0).trans rfl
    have hfgf0 := blk_frozen Bgf.out 0
    have hcgf1 : v13_.cell? ⟨gf, 1, none⟩ = some (.bool (hn != a7)) := (blk_cell Bgf.out 1).trans rfl
    have hfgf1 := blk_frozen Bgf.out 1
    have hcgf2 : v13_.cell? ⟨gf, 2, none⟩ = some (.bool true) := (blk_cell Bgf.out 2).trans rfl
    have hfgf2 := blk_frozen Bgf.out 2
    have hcgf3 : v13_.cell? ⟨gf, 3, none⟩ = some (.bool f3) := (blk_cell Bgf.out 3).trans rfl
    have hfgf3 := blk_frozen Bgf.out 3
    have hcgf4 : v13_.cell? ⟨gf, 4, none⟩ = some (.bool ((a + b + t) % 256 == 0)) := (blk_cell Bgf.out 4).trans rfl
    have hfgf4 := blk_frozen Bgf.out 4
    have hcgf5 : v13_.cell? ⟨gf, 5, none⟩ = some (.bool (decide (255 < h))) := (blk_cell Bgf.out 5).trans rfl
    have hfgf5 := blk_frozen Bgf.out 5
    go_still_tail 4, (by kernel_rfl)
    clear hcgf0 hfgf0 hcgf1 hfgf1 hcgf2 hfgf2 hcgf3 hfgf3 hcgf4 hfgf4 hcgf5 hfgf5
    have mgf := Aside0.mk (blk_drew Bgf.out)
    have mgr := Aside0.mk (blk_drew Bgr.out)
    have mH := Aside0.mk (below_drew1 HB.out)
    clear HB Bgf Bgr
    have HB := mH
    have Bgf := mgf
    have Bgr := mgr
    clear mH mgf mgr
    show wpList Try.prog _ _ _ _ v13_.drew
    generalize v13_.drew = v14_ at HB Bgf Bgr ⊢
    have hcgf0 : v14_.cell? ⟨gf, 0, none⟩ = some (.bool hn) := (blk_cell Bgf.out 0).trans rfl
    have hfgf0 := blk_frozen Bgf.out 0
    have hcgf1 : v14_.cell? ⟨gf, 1, none⟩ = some (.bool (hn != a7)) := (blk_cell Bgf.out 1).trans rfl
    have hfgf1 := blk_frozen Bgf.out 1
    have hcgf2 : v14_.cell? ⟨gf, 2, none⟩ = some (.bool true) := (blk_cell Bgf.out 2).trans rfl
    have hfgf2 := blk_frozen Bgf.out 2
    have hcgf3 : v14_.cell? ⟨gf, 3, none⟩ = some (.bool f3) := (blk_cell Bgf.out 3).trans rfl
    have hfgf3 := blk_frozen Bgf.out 3
    have hcgf4 : v14_.cell? ⟨gf, 4, none⟩ = some (.bool ((a + b + t) % 256 == 0)) := (blk_cell Bgf.out 4).trans rfl
    have hfgf4 := blk_frozen Bgf.out 4
    have hcgf5 : v14_.cell? ⟨gf, 5, none⟩ = some (.bool (decide (255 < h))) := (blk_cell Bgf.out 5).trans rfl
    have hfgf5 := blk_frozen Bgf.out 5
    have hcgr0 : v14_.cell? ⟨gr, 0, none⟩ = some (.bool false) := (blk_cell Bgr.out 0).trans rfl
    have hfgr0 := blk_frozen Bgr.out 0
    have hcgr1 : v14_.cell? ⟨gr, 1, none⟩ = some (.bool false) := (blk_cell Bgr.out 1).trans rfl
    have hfgr1 := blk_frozen Bgr.out 1
    have hcgr2 : v14_.cell? ⟨gr, 2, none⟩ = some (.bool false) := (blk_cell Bgr.out 2).trans rfl
    have hfgr2 := blk_frozen Bgr.out 2
    have hcgr3 : v14_.cell? ⟨gr, 3, none⟩ = some (.bool false) := (blk_cell Bgr.out 3).trans rfl
    have hfgr3 := blk_frozen Bgr.out 3
    have hcgr4 : v14_.cell? ⟨gr, 4, none⟩ = some (.bool false) := (blk_cell Bgr.out 4).trans rfl
    have hfgr4 := blk_frozen Bgr.out 4
    have hcgr5 : v14_.cell? ⟨gr, 5, none⟩ = some (.bool false) := (blk_cell Bgr.out 5).trans rfl
    have hfgr5 := blk_frozen Bgr.out 5
    try go_wp2_with (fail)
    refine bodyPost_ret (results_tc rfl _ _ gr 40 #[.bool hn, .bool (hn != a7), .bool true, .bool f3, .bool ((a + b + t) % 256 == 0), .bool (decide (255 < h))] (0, 0) _ rfl (by (with_reducible repeat (first | refine blk_drewN ?_ _ | refine blk_drew ?_ | refine blk_alloc ?_ _)); refine blk_put (cs := #[.bool hn, .bool (hn != a7), .bool true, .bool f3, .bool ((a + b + t) % 256 == 0), .bool false]) ?_ 5 _ rfl; (with_reducible repeat (first | refine blk_drewN ?_ _ | refine blk_drew ?_ | refine blk_alloc ?_ _)); refine blk_put (cs := #[.bool hn, .bool (hn != a7), .bool true, .bool f3, .bool false, .bool false]) ?_ 4 _ rfl; (with_reducible repeat (first | refine blk_drewN ?_ _ | refine blk_drew ?_ | refine blk_alloc ?_ _)); refine blk_put (cs := #[.bool hn, .bool (hn != a7), .bool true, .bool false, .bool false, .bool false]) ?_ 3 _ rfl; (with_reducible repeat (first | refine blk_drewN ?_ _ | refine blk_drew ?_ | refine blk_alloc ?_ _)); refine blk_put (cs := #[.bool hn, .bool (hn != a7), .bool false, .bool false, .bool false, .bool false]) ?_ 2 _ rfl; (with_reducible repeat (first | refine blk_drewN ?_ _ | refine blk_drew ?_ | refine blk_alloc ?_ _)); refine blk_put (cs := #[.bool hn, .bool false, .bool false, .bool false, .bool false, .bool false]) ?_ 1 _ rfl; (with_reducible repeat (first | refine blk_drewN ?_ _ | refine blk_drew ?_ | refine blk_alloc ?_ _)); refine blk_put (cs := #[.bool false, .bool false, .bool false, .bool false, .bool false, .bool false]) ?_ 0 _ rfl; (with_reducible repeat (first | refine blk_drewN ?_ _ | refine blk_drew ?_ | refine blk_alloc ?_ _)); exact Bgr.out) Try.underlying40 rfl (by kernel_rfl)) rfl ?_
    have e1_ := H1'.out
    have e2_ := H7.out
    have e3_ := H6.out
    subst e1_
    subst e2_
    subst e3_
    exact ⟨by first | rfl | simp, by repeat (first | (with_reducible first | exact HB.out | apply below_alloc | apply pw_below_drewN | apply below_drew1 | refine below_set ?_ Ggf.out | refine below_set ?_ Ggr.out) | exact HB.out)⟩
def impl_Adc.f (a b : Int) (f0 f1 f2 f3 f4 f5 : Bool) : Option (Int × Bool × Bool × Bool × Bool × Bool × Bool) := if byteOk a b = true then some (adc a b f2 f3 f5) else none
theorem impl_Adc.calls (a b : Int) (f0 f1 f2 f3 f4 f5 : Bool) (r1 : Int) (r2 r3 r4 r5 r6 r7 : Bool) (w : World) (h : impl_Adc.f a b f0 f1 f2 f3 f4 f5 = some (r1, r2, r3, r4, r5, r6, r7)) : Calls Try.prog 59 #[.int .u8 a, .int .u8 b, .agg #[.bool f0, .bool f1, .bool f2, .bool f3, .bool f4, .bool f5]] w fun e w' => e = .returned (.tuple #[.int .u8 r1, .agg #[.bool r2, .bool r3, .bool r4, .bool r5, .bool r6, .bool r7]]) ∧ Below w.heap.size w w' := by
  unfold impl_Adc.f at h
  cases ho : byteOk a b with
  | false => rw [ho] at h; exact absurd h (by simp)
  | true =>
    rw [ho, if_pos rfl] at h
    obtain ⟨a0, a1, b0, b1⟩ := byteOk_of ho
    have h' := Option.some.inj h
    unfold adc at h'
    cases f2 with
    | false => exact impl_Adc.bin_ a b f0 f1 f3 f4 f5 w a0 a1 b0 b1 r1 r2 r3 r4 r5 r6 r7 h'
    | true =>
      rw [if_pos rfl] at h'
      by_cases c10 : 10 ≤ a % 16 + b % 16 + tc f5 <;> by_cases c160 : 160 ≤ sumH a b (tc f5)
      · exact impl_Adc.dec_cc a b f0 f1 f3 f4 f5 w a0 a1 b0 b1 r1 r2 r3 r4 r5 r6 r7 c10 c160 h'
      · exact impl_Adc.dec_cn a b f0 f1 f3 f4 f5 w a0 a1 b0 b1 r1 r2 r3 r4 r5 r6 r7 c10 c160 h'
      · exact impl_Adc.dec_nc a b f0 f1 f3 f4 f5 w a0 a1 b0 b1 r1 r2 r3 r4 r5 r6 r7 c10 c160 h'
      · exact impl_Adc.dec_nn a b f0 f1 f3 f4 f5 w a0 a1 b0 b1 r1 r2 r3 r4 r5 r6 r7 c10 c160 h'
end Go.Proofs.Ythdeemkhbajfgaa.PAlu
