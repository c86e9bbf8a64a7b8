/- The contract of loop.example/g00693/impl.Sbc. -/
import Derived.Test.YthdeemkhbajfgaaPAlux0
import Derived.Test.YthdeemkhbajfgaaPAlux4
import Derived.Test.YthdeemkhbajfgaaMyAluAdc
import Derived.StillTailTactics
import Derived.Test.YthdeemkhbajfgaaMyAlu
set_option linter.unusedVariables false
namespace Go.Proofs.Ythdeemkhbajfgaa.PAlu
open Go.RowKit Go.Proofs.Ythdeemkhbajfgaa.Alu Go.Proofs.YthdeemkhbajfgaaW.PrintWords Go.Proofs.YthdeemkhbajfgaaW.PrintLast Go.Proofs.YthdeemkhbajfgaaW.PrintMore
attribute [local go_sem] Go.Proofs.Ythdeemkhbajfgaa.Cell2.cell_set_off Go.Proofs.Ythdeemkhbajfgaa.Cell2.set_drewN Go.Proofs.Ythdeemkhbajfgaa.Cell2.not_beq_bool
theorem one_tc2 (c : Bool) : impl_one.f c = some (tc c) := by cases c <;> decide +kernel
set_option maxHeartbeats 2000000 in
set_option maxRecDepth 100000 in
theorem impl_Sbc.bin_ (a b : Int) (f0 f1 f3 f4 f5 : Bool) (w : World) (a0 : 0 ≤ a) (a1 : a ≤ 255) (b0 : 0 ≤ b) (b1 : b ≤ 255) (r1 : Int) (r2 r3 r4 r5 r6 r7 : Bool) (hr : sbc a b false f3 f5 = (r1, r2, r3, r4, r5, r6, r7)) : Calls Try.prog 60 #[.int .u8 a, .int .u8 b, .agg #[.bool f0, .bool f1, .bool false, .bool f3, .bool f4, .bool f5]] w fun e w' => e = .returned (.tuple #[.int .u8 r1, .agg #[.bool r2, .bool r3, .bool r4, .bool r5, .bool r6, .bool r7]]) ∧ Below w.heap.size w w' := by
  simp only [sbc, bin, Prod.mk.injEq] at hr
  obtain ⟨h1, h2, h3, rfl, rfl, h6, h7⟩ := hr
  have y0 : 0 ≤ 255 - b := by omega
  have y1 : 255 - b ≤ 255 := by omega
  have yn : Go.bits .xor .u8 IntKind.u8.max b = 255 - b := not8 b0 b1
  obtain ⟨q1, hq⟩ : ∃ q1, bin a (255 - b) (tc f5) false f3 = (q1, r2, r3, false, f3, r6, r7) := ⟨(a + (255 - b) + tc f5) % 256, by simp only [bin, h2, h3, h6, h7]⟩
  have HP : Aside0 (impl_Adc.f a (255 - b) f0 f1 false f3 f4 f5 = some (q1, r2, r3, false, f3, r6, r7)) := ⟨by
    unfold impl_Adc.f
    rw [if_pos (byteOk_mk a0 a1 (by omega) (by omega))]
    exact congrArg some hq⟩
  have H1' : Aside0 (q1 = r1) := ⟨by simp only [bin, Prod.mk.injEq] at hq; rw [← hq.1, ← h1]; rfl⟩
  clear hq h1 h2 h3 h6 h7
  have HB := Aside0.mk (Below.refl w.heap.size w)
  have hu24 := Try.underlying40
  go_enter Try.func60, Try.ntmps60
  try go_wp2_with (first | ((with_reducible refine gate_dst (N := 5) rfl ?_); refine box_event ?hg (N := 5) ?hd (cs := #[.bool f0, .bool f1, .bool false, .bool f3, .bool f4, .bool f5]) (t := 40) ?hr ?_; (case hd => rfl); (case hg => rfl); (case hr => first | (go_simp; done) | (go_simp; rfl)); intro gf hg v1_ hbox hb; have n0_ := Aside0.mk (below_step (by repeat (first | (with_reducible first | exact HB.out | apply below_alloc | apply pw_below_drewN | apply below_drew1) | exact HB.out)) hb); have n1_ := Aside0.mk (hbox); have n2_ := Aside0.mk ((by rw [hg]; exact (below_size (by repeat (first | (with_reducible first | exact HB.out | apply below_alloc | apply pw_below_drewN | apply below_drew1) | exact HB.out))) : w.heap.size ≤ gf)); clear HB; have HB := n0_; have Bgf := n1_; have Ggf := n2_; clear n0_ n1_ n2_; clear hb hbox hg) | ((with_reducible refine gate_dst (N := 7) rfl ?_); refine box_event ?hg (N := 7) ?hd (cs := #[.bool false, .bool false, .bool false, .bool false, .bool false, .bool false]) (t := 40) ?hr ?_; (case hd => rfl); (case hg => rfl); (case hr => first | (go_simp; done) | (go_simp; rfl)); intro gr hg v2_ hbox hb; have mgf := Aside0.mk ((hb.block _ (blk_lt Bgf.out)).trans Bgf.out); have NEgr_gf := Aside0.mk (show gr ≠ gf from by rw [hg]; exact Nat.ne_of_gt (blk_lt Bgf.out)); clear Bgf; have Bgf := mgf; clear mgf; have n0_ := Aside0.mk (below_step (by repeat (first | (with_reducible first | exact HB.out | apply below_alloc | apply pw_below_drewN | apply below_drew1) | exact HB.out)) hb); have n1_ := Aside0.mk (hbox); have n2_ := Aside0.mk ((by rw [hg]; exact (below_size (by repeat (first | (with_reducible first | exact HB.out | apply below_alloc | apply pw_below_drewN | apply below_drew1) | exact HB.out))) : w.heap.size ≤ gr)); clear HB; have HB := n0_; have Bgr := n1_; have Ggr := n2_; clear n0_ n1_ n2_; clear hb hbox hg; have hcgf0 : v2_.cell? ⟨gf, 0, none⟩ = some (.bool f0) := (blk_cell Bgf.out 0).trans rfl; have hfgf0 := blk_frozen Bgf.out 0; have hcgf1 : v2_.cell? ⟨gf, 1, none⟩ = some (.bool f1) := (blk_cell Bgf.out 1).trans rfl; have hfgf1 := blk_frozen Bgf.out 1; have hcgf2 : v2_.cell? ⟨gf, 2, none⟩ = some (.bool false) := (blk_cell Bgf.out 2).trans rfl; have hfgf2 := blk_frozen Bgf.out 2; have hcgf3 : v2_.cell? ⟨gf, 3, none⟩ = some (.bool f3) := (blk_cell Bgf.out 3).trans rfl; have hfgf3 := blk_frozen Bgf.out 3; have hcgf4 : v2_.cell? ⟨gf, 4, none⟩ = some (.bool f4) := (blk_cell Bgf.out 4).trans rfl; have hfgf4 := blk_frozen Bgf.out 4; have hcgf5 : v2_.cell? ⟨gf, 5, none⟩ = some (.bool f5) := (blk_cell Bgf.out 5).trans rfl; have hfgf5 := blk_frozen Bgf.out 5) | ((with_reducible refine gate_dst (N := 8) rfl ?_); refine box_event ?hg (N := 8) ?hd (cs := #[.bool false, .bool false, .bool false, .bool false, .bool false, .bool false]) (t := 40) ?hr ?_; (case hd => rfl); (case hg => rfl); (case hr => first | (go_simp; done) | (go_simp; rfl)); intro gp hg v3_ hbox hb; clear hcgf0 hfgf0 hcgf1 hfgf1 hcgf2 hfgf2 hcgf3 hfgf3 hcgf4 hfgf4 hcgf5 hfgf5; have mgf := Aside0.mk ((hb.block _ (blk_lt Bgf.out)).trans Bgf.out); have NEgp_gf := Aside0.mk (show gp ≠ gf from by rw [hg]; exact Nat.ne_of_gt (blk_lt Bgf.out)); clear Bgf; have Bgf := mgf; clear mgf; have mgr := Aside0.mk ((hb.block _ (blk_lt Bgr.out)).trans Bgr.out); have NEgp_gr := Aside0.mk (show gp ≠ gr from by rw [hg]; exact Nat.ne_of_gt (blk_lt Bgr.out)); clear Bgr; have Bgr := mgr; clear mgr; have n0_ := Aside0.mk (below_step (by repeat (first | (with_reducible first | exact HB.out | apply below_alloc | apply pw_below_drewN | apply below_drew1) | exact HB.out)) hb); have n1_ := Aside0.mk (hbox); have n2_ := Aside0.mk ((by rw [hg]; exact (below_size (by repeat (first | (with_reducible first | exact HB.out | apply below_alloc | apply pw_below_drewN | apply below_drew1) | exact HB.out))) : w.heap.size ≤ gp)); clear HB; have HB := n0_; have Bgp := n1_; have Ggp := n2_; clear n0_ n1_ n2_; clear hb hbox hg; have hcgf0 : v3_.cell? ⟨gf, 0, none⟩ = some (.bool f0) := (blk_cell Bgf.out 0).trans rfl; have hfgf0 := blk_frozen Bgf.out 0; have hcgf1 : v3_.cell? ⟨gf, 1, none⟩ = some (.bool f1) := (blk_cell Bgf.out 1).trans rfl; have hfgf1 := blk_frozen Bgf.out 1; have hcgf2 : v3_.cell? ⟨gf, 2, none⟩ = some (.bool false) := (blk_cell Bgf.out 2).trans rfl; have hfgf2 := blk_frozen Bgf.out 2; have hcgf3 : v3_.cell? ⟨gf, 3, none⟩ = some (.bool f3) := (blk_cell Bgf.out 3).trans rfl; have hfgf3 := blk_frozen Bgf.out 3; have hcgf4 : v3_.cell? ⟨gf, 4, none⟩ = some (.bool f4) := (blk_cell Bgf.out 4).trans rfl; have hfgf4 := blk_frozen Bgf.out 4; have hcgf5 : v3_.cell? ⟨gf, 5, none⟩ = some (.bool f5) := (blk_cell Bgf.out 5).trans rfl; have hfgf5 := blk_frozen Bgf.out 5; have hcgp0 : v3_.cell? ⟨gp, 0, none⟩ = some (.bool false) := (blk_cell Bgp.out 0).trans rfl; have hfgp0 := blk_frozen Bgp.out 0; have hcgp1 : v3_.cell? ⟨gp, 1, none⟩ = some (.bool false) := (blk_cell Bgp.out 1).trans rfl; have hfgp1 := blk_frozen Bgp.out 1; have hcgp2 : v3_.cell? ⟨gp, 2, none⟩ = some (.bool false) := (blk_cell Bgp.out 2).trans rfl; have hfgp2 := blk_frozen Bgp.out 2; have hcgp3 : v3_.cell? ⟨gp, 3, none⟩ = some (.bool false) := (blk_cell Bgp.out 3).trans rfl; have hfgp3 := blk_frozen Bgp.out 3; have hcgp4 : v3_.cell? ⟨gp, 4, none⟩ = some (.bool false) := (blk_cell Bgp.out 4).trans rfl; have hfgp4 := blk_frozen Bgp.out 4; have hcgp5 : v3_.cell? ⟨gp, 5, none⟩ = some (.bool false) := (blk_cell Bgp.out 5).trans rfl; have hfgp5 := blk_frozen Bgp.out 5))
  clear hcgf0 hfgf0 hcgf1 hfgf1 hcgf2 hfgf2 hcgf3 hfgf3 hcgf4 hfgf4 hcgf5 hfgf5 hcgp0 hfgp0 hcgp1 hfgp1 hcgp2 hfgp2 hcgp3 hfgp3 hcgp4 hfgp4 hcgp5 hfgp5
  have mgp := Aside0.mk (show ((((((((v3_).setCell ⟨gp, 0, none⟩ (.bool f0)).setCell ⟨gp, 1, none⟩ (.bool f1)).setCell ⟨gp, 2, none⟩ (.bool false)).setCell ⟨gp, 3, none⟩ (.bool f3)).setCell ⟨gp, 4, none⟩ (.bool f4)).setCell ⟨gp, 5, none⟩ (.bool f5)).setCell ⟨gp, 2, none⟩ (.bool false)).heap[gp]? = some (.cells #[.bool f0, .bool f1, .bool false, .bool f3, .bool f4, .bool f5] 40 (0, 0)) from (by refine blk_put (cs := #[.bool f0, .bool f1, .bool false, .bool f3, .bool f4, .bool f5]) ?_ 2 _ rfl; refine blk_put (cs := #[.bool f0, .bool f1, .bool false, .bool f3, .bool f4, .bool false]) ?_ 5 _ rfl; refine blk_put (cs := #[.bool f0, .bool f1, .bool false, .bool f3, .bool false, .bool false]) ?_ 4 _ rfl; refine blk_put (cs := #[.bool f0, .bool f1, .bool false, .bool false, .bool false, .bool false]) ?_ 3 _ rfl; refine blk_put (cs := #[.bool f0, .bool f1, .bool false, .bool false, .bool false, .bool false]) ?_ 2 _ rfl; refine blk_put (cs := #[.bool f0, .bool false, .bool false, .bool false, .bool false, .bool false]) ?_ 1 _ rfl; refine blk_put (cs := #[.bool false, .bool false, .bool false, .bool false, .bool false, .bool false]) ?_ 0 _ rfl; exact Bgp.out))
  have ne_ : gf ≠ gp := by first | exact NEgp_gf.out.symm | exact NEgf_gp.out
  have mgf := Aside0.mk (blk_far (p := ⟨gp, 2, none⟩) (blk_far (p := ⟨gp, 5, none⟩) (blk_far (p := ⟨gp, 4, none⟩) (blk_far (p := ⟨gp, 3, none⟩) (blk_far (p := ⟨gp, 2, none⟩) (blk_far (p := ⟨gp, 1, none⟩) (blk_far (p := ⟨gp, 0, none⟩) Bgf.out ne_ (.bool f0)) ne_ (.bool f1)) ne_ (.bool false)) ne_ (.bool f3)) ne_ (.bool f4)) ne_ (.bool f5)) ne_ (.bool false))
  clear ne_
  have ne_ : gr ≠ gp := by first | exact NEgp_gr.out.symm | exact NEgr_gp.out
  have mgr := Aside0.mk (blk_far (p := ⟨gp, 2, none⟩) (blk_far (p := ⟨gp, 5, none⟩) (blk_far (p := ⟨gp, 4, none⟩) (blk_far (p := ⟨gp, 3, none⟩) (blk_far (p := ⟨gp, 2, none⟩) (blk_far (p := ⟨gp, 1, none⟩) (blk_far (p := ⟨gp, 0, none⟩) Bgr.out ne_ (.bool f0)) ne_ (.bool f1)) ne_ (.bool false)) ne_ (.bool f3)) ne_ (.bool f4)) ne_ (.bool f5)) ne_ (.bool false))
  clear ne_
  have mH := Aside0.mk (below_set (j := 2) (v := .bool false) (below_set (j := 5) (v := .bool f5) (below_set (j := 4) (v := .bool f4) (below_set (j := 3) (v := .bool f3) (below_set (j := 2) (v := .bool false) (below_set (j := 1) (v := .bool f1) (below_set (j := 0) (v := .bool f0) HB.out Ggp.out) Ggp.out) Ggp.out) Ggp.out) Ggp.out) Ggp.out) Ggp.out)
  clear HB Bgp Bgf Bgr
  have HB := mH
  have Bgp := mgp
  have Bgf := mgf
  have Bgr := mgr
  clear mH mgp mgf mgr
  with_reducible generalize (((((((v3_).setCell ⟨gp, 0, none⟩ (.bool f0)).setCell ⟨gp, 1, none⟩ (.bool f1)).setCell ⟨gp, 2, none⟩ (.bool false)).setCell ⟨gp, 3, none⟩ (.bool f3)).setCell ⟨gp, 4, none⟩ (.bool f4)).setCell ⟨gp, 5, none⟩ (.bool f5)).setCell ⟨gp, 2, none⟩ (.bool false) = v4_ at HB Bgp Bgf Bgr ⊢
  refine (impl_Adc.calls a (255 - b) f0 f1 false f3 f4 f5 _ _ _ _ _ _ _ _ HP.out).mono ?_
  rintro e v5_ ⟨rfl, hb_⟩
  have mgf := Aside0.mk ((hb_.block gf (blk_lt Bgf.out)).trans Bgf.out)
  have mgr := Aside0.mk ((hb_.block gr (blk_lt Bgr.out)).trans Bgr.out)
  have mgp := Aside0.mk ((hb_.block gp (blk_lt Bgp.out)).trans Bgp.out)
  have mH := Aside0.mk (below_step HB.out hb_)
  clear HB Bgf Bgr Bgp hb_
  have HB := mH
  have Bgf := mgf
  have Bgr := mgr
  have Bgp := mgp
  clear mH mgf mgr mgp
  have hcgf0 : v5_.cell? ⟨gf, 0, none⟩ = some (.bool f0) := (blk_cell Bgf.out 0).trans rfl
  have hfgf0 := blk_frozen Bgf.out 0
  have hcgf1 : v5_.cell? ⟨gf, 1, none⟩ = some (.bool f1) := (blk_cell Bgf.out 1).trans rfl
  have hfgf1 := blk_frozen Bgf.out 1
  have hcgf2 : v5_.cell? ⟨gf, 2, none⟩ = some (.bool false) := (blk_cell Bgf.out 2).trans rfl
  have hfgf2 := blk_frozen Bgf.out 2
  have hcgf3 : v5_.cell? ⟨gf, 3, none⟩ = some (.bool f3) := (blk_cell Bgf.out 3).trans rfl
  have hfgf3 := blk_frozen Bgf.out 3
  have hcgf4 : v5_.cell? ⟨gf, 4, none⟩ = some (.bool f4) := (blk_cell Bgf.out 4).trans rfl
  have hfgf4 := blk_frozen Bgf.out 4
  have hcgf5 : v5_.cell? ⟨gf, 5, none⟩ = some (.bool f5) := (blk_cell Bgf.out 5).trans rfl
  have hfgf5 := blk_frozen Bgf.out 5
  try go_wp2_with (first | ((with_reducible refine gate_dst (N := 10) rfl ?_); refine box_event ?hg (N := 10) ?hd (cs := #[.bool false, .bool false, .bool false, .bool false, .bool false, .bool false]) (t := 40) ?hr ?_; (case hd => rfl); (case hg => rfl); (case hr => first | (go_simp; done) | (go_simp; rfl)); intro gg hg v6_ hbox hb; clear hcgf0 hfgf0 hcgf1 hfgf1 hcgf2 hfgf2 hcgf3 hfgf3 hcgf4 hfgf4 hcgf5 hfgf5; have mgf := Aside0.mk ((hb.block _ (blk_lt Bgf.out)).trans Bgf.out); have NEgg_gf := Aside0.mk (show gg ≠ gf from by rw [hg]; exact Nat.ne_of_gt (blk_lt Bgf.out)); clear Bgf; have Bgf := mgf; clear mgf; have mgr := Aside0.mk ((hb.block _ (blk_lt Bgr.out)).trans Bgr.out); have NEgg_gr := Aside0.mk (show gg ≠ gr from by rw [hg]; exact Nat.ne_of_gt (blk_lt Bgr.out)); clear Bgr; have Bgr := mgr; clear mgr; have mgp := Aside0.mk ((hb.block _ (blk_lt Bgp.out)).trans Bgp.out); have NEgg_gp := Aside0.mk (show gg ≠ gp from by rw [hg]; exact Nat.ne_of_gt (blk_lt Bgp.out)); clear Bgp; have Bgp := mgp; clear mgp; have n0_ := Aside0.mk (below_step (by repeat (first | (with_reducible first | exact HB.out | apply below_alloc | apply pw_below_drewN | apply below_drew1) | exact HB.out)) hb); have n1_ := Aside0.mk (hbox); have n2_ := Aside0.mk ((by rw [hg]; exact (below_size (by repeat (first | (with_reducible first | exact HB.out | apply below_alloc | apply pw_below_drewN | apply below_drew1) | exact HB.out))) : w.heap.size ≤ gg)); clear HB; have HB := n0_; have Bgg := n1_; have Ggg := n2_; clear n0_ n1_ n2_; clear hb hbox hg; have hcgf0 : v6_.cell? ⟨gf, 0, none⟩ = some (.bool f0) := (blk_cell Bgf.out 0).trans rfl; have hfgf0 := blk_frozen Bgf.out 0; have hcgf1 : v6_.cell? ⟨gf, 1, none⟩ = some (.bool f1) := (blk_cell Bgf.out 1).trans rfl; have hfgf1 := blk_frozen Bgf.out 1; have hcgf2 : v6_.cell? ⟨gf, 2, none⟩ = some (.bool false) := (blk_cell Bgf.out 2).trans rfl; have hfgf2 := blk_frozen Bgf.out 2; have hcgf3 : v6_.cell? ⟨gf, 3, none⟩ = some (.bool f3) := (blk_cell Bgf.out 3).trans rfl; have hfgf3 := blk_frozen Bgf.out 3; have hcgf4 : v6_.cell? ⟨gf, 4, none⟩ = some (.bool f4) := (blk_cell Bgf.out 4).trans rfl; have hfgf4 := blk_frozen Bgf.out 4; have hcgf5 : v6_.cell? ⟨gf, 5, none⟩ = some (.bool f5) := (blk_cell Bgf.out 5).trans rfl; have hfgf5 := blk_frozen Bgf.out 5; have hcgg0 : v6_.cell? ⟨gg, 0, none⟩ = some (.bool false) := (blk_cell Bgg.out 0).trans rfl; have hfgg0 := blk_frozen Bgg.out 0; have hcgg1 : v6_.cell? ⟨gg, 1, none⟩ = some (.bool false) := (blk_cell Bgg.out 1).trans rfl; have hfgg1 := blk_frozen Bgg.out 1; have hcgg2 : v6_.cell? ⟨gg, 2, none⟩ = some (.bool false) := (blk_cell Bgg.out 2).trans rfl; have hfgg2 := blk_frozen Bgg.out 2; have hcgg3 : v6_.cell? ⟨gg, 3, none⟩ = some (.bool false) := (blk_cell Bgg.out 3).trans rfl; have hfgg3 := blk_frozen Bgg.out 3; have hcgg4 : v6_.cell? ⟨gg, 4, none⟩ = some (.bool false) := (blk_cell Bgg.out 4).trans rfl; have hfgg4 := blk_frozen Bgg.out 4; have hcgg5 : v6_.cell? ⟨gg, 5, none⟩ = some (.bool false) := (blk_cell Bgg.out 5).trans rfl; have hfgg5 := blk_frozen Bgg.out 5; have hfargggf : ∀ (W_ : World) (i_ j_ : Nat) (v_ : Value), (W_.setCell ⟨gg, i_, none⟩ v_).cell? ⟨gf, j_, none⟩ = W_.cell? ⟨gf, j_, none⟩ := fun W_ i_ j_ v_ => World.cell?_setCell_other W_ ⟨gg, i_, none⟩ ⟨gf, j_, none⟩ v_ (fun e_ => absurd (congrArg Addr.block e_) (by first | exact NEgg_gf.out | exact NEgf_gg.out.symm))))
  clear hcgf0 hfgf0 hcgf1 hfgf1 hcgf2 hfgf2 hcgf3 hfgf3 hcgf4 hfgf4 hcgf5 hfgf5 hcgg0 hfgg0 hcgg1 hfgg1 hcgg2 hfgg2 hcgg3 hfgg3 hcgg4 hfgg4 hcgg5 hfgg5 hfargggf
  have mgg := Aside0.mk (show ((((((((v6_).setCell ⟨gg, 0, none⟩ (.bool r2)).setCell ⟨gg, 1, none⟩ (.bool r3)).setCell ⟨gg, 2, none⟩ (.bool false)).setCell ⟨gg, 3, none⟩ (.bool f3)).setCell ⟨gg, 4, none⟩ (.bool r6)).setCell ⟨gg, 5, none⟩ (.bool r7)).setCell ⟨gg, 2, none⟩ (.bool false)).heap[gg]? = some (.cells #[.bool r2, .bool r3, .bool false, .bool f3, .bool r6, .bool r7] 40 (0, 0)) from (by refine blk_put (cs := #[.bool r2, .bool r3, .bool false, .bool f3, .bool r6, .bool r7]) ?_ 2 _ rfl; refine blk_put (cs := #[.bool r2, .bool r3, .bool false, .bool f3, .bool r6, .bool false]) ?_ 5 _ rfl; refine blk_put (cs := #[.bool r2, .bool r3, .bool false, .bool f3, .bool false, .bool false]) ?_ 4 _ rfl; refine blk_put (cs := #[.bool r2, .bool r3, .bool false, .bool false, .bool false, .bool false]) ?_ 3 _ rfl; refine blk_put (cs := #[.bool r2, .bool r3, .bool false, .bool false, .bool false, .bool false]) ?_ 2 _ rfl; refine blk_put (cs := #[.bool r2, .bool false, .bool false, .bool false, .bool false, .bool false]) ?_ 1 _ rfl; refine blk_put (cs := #[.bool false, .bool false, .bool false, .bool false, .bool false, .bool false]) ?_ 0 _ rfl; exact Bgg.out))
  have ne_ : gf ≠ gg := by first | exact NEgg_gf.out.symm | exact NEgf_gg.out
  have mgf := Aside0.mk (blk_far (p := ⟨gg, 2, none⟩) (blk_far (p := ⟨gg, 5, none⟩) (blk_far (p := ⟨gg, 4, none⟩) (blk_far (p := ⟨gg, 3, none⟩) (blk_far (p := ⟨gg, 2, none⟩) (blk_far (p := ⟨gg, 1, none⟩) (blk_far (p := ⟨gg, 0, none⟩) Bgf.out ne_ (.bool r2)) ne_ (.bool r3)) ne_ (.bool false)) ne_ (.bool f3)) ne_ (.bool r6)) ne_ (.bool r7)) ne_ (.bool false))
  clear ne_
  have ne_ : gr ≠ gg := by first | exact NEgg_gr.out.symm | exact NEgr_gg.out
  have mgr := Aside0.mk (blk_far (p := ⟨gg, 2, none⟩) (blk_far (p := ⟨gg, 5, none⟩) (blk_far (p := ⟨gg, 4, none⟩) (blk_far (p := ⟨gg, 3, none⟩) (blk_far (p := ⟨gg, 2, none⟩) (blk_far (p := ⟨gg, 1, none⟩) (blk_far (p := ⟨gg, 0, none⟩) Bgr.out ne_ (.bool r2)) ne_ (.bool r3)) ne_ (.bool false)) ne_ (.bool f3)) ne_ (.bool r6)) ne_ (.bool r7)) ne_ (.bool false))
  clear ne_
  have ne_ : gp ≠ gg := by first | exact NEgg_gp.out.symm | exact NEgp_gg.out
  have mgp := Aside0.mk (blk_far (p := ⟨gg, 2, none⟩) (blk_far (p := ⟨gg, 5, none⟩) (blk_far (p := ⟨gg, 4, none⟩) (blk_far (p := ⟨gg, 3, none⟩) (blk_far (p := ⟨gg, 2, none⟩) (blk_far (p := ⟨gg, 1, none⟩) (blk_far (p := ⟨gg, 0, none⟩) Bgp.out ne_ (.bool r2)) ne_ (.bool r3)) ne_ (.bool false)) ne_ (.bool f3)) ne_ (.bool r6)) ne_ (.bool r7)) ne_ (.bool false))
  clear ne_
  have mH := Aside0.mk (below_set (j := 2) (v := .bool false) (below_set (j := 5) (v := .bool r7) (below_set (j := 4) (v := .bool r6) (below_set (j := 3) (v := .bool f3) (below_set (j := 2) (v := .bool false) (below_set (j := 1) (v := .bool r3) (below_set (j := 0) (v := .bool r2) HB.out Ggg.out) Ggg.out) Ggg.out) Ggg.out) Ggg.out) Ggg.out) Ggg.out)
  clear HB Bgg Bgf Bgr Bgp
  have HB := mH
  have Bgg := mgg
  have Bgf := mgf
  have Bgr := mgr
  have Bgp := mgp
  clear mH mgg mgf mgr mgp
  with_reducible generalize (((((((v6_).setCell ⟨gg, 0, none⟩ (.bool r2)).setCell ⟨gg, 1, none⟩ (.bool r3)).setCell ⟨gg, 2, none⟩ (.bool false)).setCell ⟨gg, 3, none⟩ (.bool f3)).setCell ⟨gg, 4, none⟩ (.bool r6)).setCell ⟨gg, 5, none⟩ (.bool r7)).setCell ⟨gg, 2, none⟩ (.bool false) = v7_ at HB Bgg Bgf Bgr Bgp ⊢
  have hcgg0 : v7_.cell? ⟨gg, 0, none⟩ = some (.bool r2) := (blk_cell Bgg.out 0).trans rfl
  have hfgg0 := blk_frozen Bgg.out 0
  have hcgg1 : v7_.cell? ⟨gg, 1, none⟩ = some (.bool r3) := (blk_cell Bgg.out 1).trans rfl
  have hfgg1 := blk_frozen Bgg.out 1
  have hcgg2 : v7_.cell? ⟨gg, 2, none⟩ = some (.bool false) := (blk_cell Bgg.out 2).trans rfl
  have hfgg2 := blk_frozen Bgg.out 2
  have hcgg3 : v7_.cell? ⟨gg, 3, none⟩ = some (.bool f3) := (blk_cell Bgg.out 3).trans rfl
  have hfgg3 := blk_frozen Bgg.out 3
  have hcgg4 : v7_.cell? ⟨gg, 4, none⟩ = some (.bool r6) := (blk_cell Bgg.out 4).trans rfl
  have hfgg4 := blk_frozen Bgg.out 4
  have hcgg5 : v7_.cell? ⟨gg, 5, none⟩ = some (.bool r7) := (blk_cell Bgg.out 5).trans rfl
  have hfgg5 := blk_frozen Bgg.out 5
  go_still_tail 3, (by kernel_rfl)
  clear hcgg0 hfgg0 hcgg1 hfgg1 hcgg2 hfgg2 hcgg3 hfgg3 hcgg4 hfgg4 hcgg5 hfgg5
  have mgf := Aside0.mk (blk_drew Bgf.out)
  have mgr := Aside0.mk (blk_drew Bgr.out)
  have mgp := Aside0.mk (blk_drew Bgp.out)
  have mgg := Aside0.mk (blk_drew Bgg.out)
  have mH := Aside0.mk (below_drew1 HB.out)
  clear HB Bgf Bgr Bgp Bgg
  have HB := mH
  have Bgf := mgf
  have Bgr := mgr
  have Bgp := mgp
  have Bgg := mgg
  clear mH mgf mgr mgp mgg
  show wpList Try.prog _ _ _ _ v7_.drew
  generalize v7_.drew = v8_ at HB Bgf Bgr Bgp Bgg ⊢
  have hcgg0 : v8_.cell? ⟨gg, 0, none⟩ = some (.bool r2) := (blk_cell Bgg.out 0).trans rfl
  have hfgg0 := blk_frozen Bgg.out 0
  have hcgg1 : v8_.cell? ⟨gg, 1, none⟩ = some (.bool r3) := (blk_cell Bgg.out 1).trans rfl
  have hfgg1 := blk_frozen Bgg.out 1
  have hcgg2 : v8_.cell? ⟨gg, 2, none⟩ = some (.bool false) := (blk_cell Bgg.out 2).trans rfl
  have hfgg2 := blk_frozen Bgg.out 2
  have hcgg3 : v8_.cell? ⟨gg, 3, none⟩ = some (.bool f3) := (blk_cell Bgg.out 3).trans rfl
  have hfgg3 := blk_frozen Bgg.out 3
  have hcgg4 : v8_.cell? ⟨gg, 4, none⟩ = some (.bool r6) := (blk_cell Bgg.out 4).trans rfl
  have hfgg4 := blk_frozen Bgg.out 4
  have hcgg5 : v8_.cell? ⟨gg, 5, none⟩ = some (.bool r7) := (blk_cell Bgg.out 5).trans rfl
  have hfgg5 := blk_frozen Bgg.out 5
  have hcgr0 : v8_.cell? ⟨gr, 0, none⟩ = some (.bool false) := (blk_cell Bgr.out 0).trans rfl
  have hfgr0 := blk_frozen Bgr.out 0
  have hcgr1 : v8_.cell? ⟨gr, 1, none⟩ = some (.bool false) := (blk_cell Bgr.out 1).trans rfl
  have hfgr1 := blk_frozen Bgr.out 1
  have hcgr2 : v8_.cell? ⟨gr, 2, none⟩ = some (.bool false) := (blk_cell Bgr.out 2).trans rfl
  have hfgr2 := blk_frozen Bgr.out 2
  have hcgr3 : v8_.cell? ⟨gr, 3, none⟩ = some (.bool false) := (blk_cell Bgr.out 3).trans rfl
  have hfgr3 := blk_frozen Bgr.out 3
  have hcgr4 : v8_.cell? ⟨gr, 4, none⟩ = some (.bool false) := (blk_cell Bgr.out 4).trans rfl
  have hfgr4 := blk_frozen Bgr.out 4
  have hcgr5 : v8_.cell? ⟨gr, 5, none⟩ = some (.bool false) := (blk_cell Bgr.out 5).trans rfl
  have hfgr5 := blk_frozen Bgr.out 5
  try go_wp2_with (fail)
  refine bodyPost_ret (results_tc rfl _ _ gr 40 #[.bool r2, .bool r3, .bool false, .bool f3, .bool r6, .bool r7] (0, 0) _ rfl (by (with_reducible repeat (first | refine blk_drewN ?_ _ | refine blk_drew ?_ | refine blk_alloc ?_ _)); refine blk_put (cs := #[.bool r2, .bool r3, .bool false, .bool f3, .bool r6, .bool false]) ?_ 5 _ rfl; (with_reducible repeat (first | refine blk_drewN ?_ _ | refine blk_drew ?_ | refine blk_alloc ?_ _)); refine blk_put (cs := #[.bool r2, .bool r3, .bool false, .bool f3, .bool false, .bool false]) ?_ 4 _ rfl; (with_reducible repeat (first | refine blk_drewN ?_ _ | refine blk_drew ?_ | refine blk_alloc ?_ _)); refine blk_put (cs := #[.bool r2, .bool r3, .bool false, .bool false, .bool false, .bool false]) ?_ 3 _ rfl; (with_reducible repeat (first | refine blk_drewN ?_ _ | refine blk_drew ?_ | refine blk_alloc ?_ _)); refine blk_put (cs := #[.bool r2, .bool r3, .bool false, .bool false, .bool false, .bool false]) ?_ 2 _ rfl; (with_reducible repeat (first | refine blk_drewN ?_ _ | refine blk_drew ?_ | refine blk_alloc ?_ _)); refine blk_put (cs := #[.bool r2, .bool false, .bool false, .bool false, .bool false, .bool false]) ?_ 1 _ rfl; (with_reducible repeat (first | refine blk_drewN ?_ _ | refine blk_drew ?_ | refine blk_alloc ?_ _)); refine blk_put (cs := #[.bool false, .bool false, .bool false, .bool false, .bool false, .bool false]) ?_ 0 _ rfl; (with_reducible repeat (first | refine blk_drewN ?_ _ | refine blk_drew ?_ | refine blk_alloc ?_ _)); exact Bgr.out) Try.underlying40 rfl (by kernel_rfl)) rfl ?_
  have e1_ := H1'.out
  subst e1_
  exact ⟨by first | rfl | (simp; done) | (simp [e4_]; done) | simp [*], by repeat (first | (with_reducible first | exact HB.out | apply below_alloc | apply pw_below_drewN | apply below_drew1 | refine below_set ?_ Ggf.out | refine below_set ?_ Ggr.out | refine below_set ?_ Ggp.out | refine below_set ?_ Ggg.out) | exact HB.out)⟩
set_option maxHeartbeats 2000000 in
set_option maxRecDepth 100000 in
theorem impl_Sbc.dec_cc (a b : Int) (f0 f1 f3 f4 f5 : Bool) (w : World) (a0 : 0 ≤ a) (a1 : a ≤ 255) (b0 : 0 ≤ b) (b1 : b ≤ 255) (r1 : Int) (r2 r3 r4 r5 r6 r7 : Bool) (c10 : a % 16 - b % 16 - 1 + tc f5 < 0) (c160 : difH a b (tc f5) < 0) (hr : sbc a b true f3 f5 = (r1, r2, r3, r4, r5, r6, r7)) : Calls Try.prog 60 #[.int .u8 a, .int .u8 b, .agg #[.bool f0, .bool f1, .bool true, .bool f3, .bool f4, .bool f5]] w fun e w' => e = .returned (.tuple #[.int .u8 r1, .agg #[.bool r2, .bool r3, .bool r4, .bool r5, .bool r6, .bool r7]]) ∧ Below w.heap.size w w' := by
  simp only [sbc, bin, Prod.mk.injEq, if_true] at hr
  obtain ⟨h1, h2, h3, rfl, rfl, h6, h7⟩ := hr
  have y0 : 0 ≤ 255 - b := by omega
  have y1 : 255 - b ≤ 255 := by omega
  have yn : Go.bits .xor .u8 IntKind.u8.max b = 255 - b := not8 b0 b1
  obtain ⟨q1, hq⟩ : ∃ q1, bin a (255 - b) (tc f5) false f3 = (q1, r2, r3, false, f3, r6, r7) := ⟨(a + (255 - b) + tc f5) % 256, by simp only [bin, h2, h3, h6, h7]⟩
  have HP : Aside0 (impl_Adc.f a (255 - b) f0 f1 false f3 f4 f5 = some (q1, r2, r3, false, f3, r6, r7)) := ⟨by
    unfold impl_Adc.f
    rw [if_pos (byteOk_mk a0 a1 (by omega) (by omega))]
    exact congrArg some hq⟩
  clear hq h2 h3 h6 h7
  obtain ⟨t0, t1⟩ := tc01 f5
  have HT := Aside0.mk (one_tc2 f5)
  generalize tc f5 = t at t0 t1 HT h1 c10 c160
  have q1 := and15 a0 a1
  have q2 := and15 b0 b1
  have q3 := and240 a0 a1
  have q4 := and240 b0 b1
  have x1 : 0 ≤ a % 16 := by omega
  have x2 : a % 16 ≤ 15 := by omega
  have x3 : 0 ≤ b % 16 := by omega
  have x4 : b % 16 ≤ 15 := by omega
  have x5 : 0 ≤ a - a % 16 := by omega
  have x6 : a - a % 16 ≤ 240 := by omega
  have x7 : 0 ≤ b - b % 16 := by omega
  have x8 : b - b % 16 ≤ 240 := by omega
  generalize hh : difH a b t = h at h1 c160
  simp only [difH, difL] at hh
  generalize a - a % 16 = ah at q3 hh x5 x6
  generalize b - b % 16 = bh at q4 hh x7 x8
  generalize a % 16 = al at q1 hh x1 x2 c10
  generalize b % 16 = bl at q2 hh x3 x4 c10
  have d10 : decide (al - bl - 1 + t < 0) = true := decide_eq_true c10
  rw [lowS, if_pos c10] at hh
  have q5 := and15i (a := al - bl - 1 + t - 6) (by omega) (by omega)
  have l0 : 0 ≤ (al - bl - 1 + t - 6) % 16 := by omega
  have l1 : (al - bl - 1 + t - 6) % 16 ≤ 15 := by omega
  generalize (al - bl - 1 + t - 6) % 16 = lm at q5 hh l0 l1
  have d160 : decide (h < 0) = true := decide_eq_true c160
  rw [topS, if_pos c160] at h1
  have g0 : -600 ≤ h := by omega
  have g1 : h ≤ 600 := by omega
  have d160 : decide (ah - bh + (lm - 16) < 0) = true := decide_eq_true (by omega)
  have H1' := Aside0.mk h1
  have HH := Aside0.mk hh
  clear h1 hh c10 c160
  have HB := Aside0.mk (Below.refl w.heap.size w)
  have hu24 := Try.underlying40
  go_enter Try.func60, Try.ntmps60
  try go_wp2_with (first | ((with_reducible refine gate_dst (N := 5) rfl ?_); refine box_event ?hg (N := 5) ?hd (cs := #[.bool f0, .bool f1, .bool true, .bool f3, .bool f4, .bool f5]) (t := 40) ?hr ?_; (case hd => rfl); (case hg => rfl); (case hr => first | (go_simp; done) | (go_simp; rfl)); intro gf hg v1_ hbox hb; have n0_ := Aside0.mk (below_step (by repeat (first | (with_reducible first | exact HB.out | apply below_alloc | apply pw_below_drewN | apply below_drew1) | exact HB.out)) hb); have n1_ := Aside0.mk (hbox); have n2_ := Aside0.mk ((by rw [hg]; exact (below_size (by repeat (first | (with_reducible first | exact HB.out | apply below_alloc | apply pw_below_drewN | apply below_drew1) | exact HB.out))) : w.heap.size ≤ gf)); clear HB; have HB := n0_; have Bgf := n1_; have Ggf := n2_; clear n0_ n1_ n2_; clear hb hbox hg) | ((with_reducible refine gate_dst (N := 7) rfl ?_); refine box_event ?hg (N := 7) ?hd (cs := #[.bool false, .bool false, .bool false, .bool false, .bool false, .bool false]) (t := 40) ?hr ?_; (case hd => rfl); (case hg => rfl); (case hr => first | (go_simp; done) | (go_simp; rfl)); intro gr hg v2_ hbox hb; have mgf := Aside0.mk ((hb.block _ (blk_lt Bgf.out)).trans Bgf.out); have NEgr_gf := Aside0.mk (show gr ≠ gf from by rw [hg]; exact Nat.ne_of_gt (blk_lt Bgf.out)); clear Bgf; have Bgf := mgf; clear mgf; have n0_ := Aside0.mk (below_step (by repeat (first | (with_reducible first | exact HB.out | apply below_alloc | apply pw_below_drewN | apply below_drew1) | exact HB.out)) hb); have n1_ := Aside0.mk (hbox); have n2_ := Aside0.mk ((by rw [hg]; exact (below_size (by repeat (first | (with_reducible first | exact HB.out | apply below_alloc | apply pw_below_drewN | apply below_drew1) | exact HB.out))) : w.heap.size ≤ gr)); clear HB; have HB := n0_; have Bgr := n1_; have Ggr := n2_; clear n0_ n1_ n2_; clear hb hbox hg; have hcgf0 : v2_.cell? ⟨gf, 0, none⟩ = some (.bool f0) := (blk_cell Bgf.out 0).trans rfl; have hfgf0 := blk_frozen Bgf.out 0; have hcgf1 : v2_.cell? ⟨gf, 1, none⟩ = some (.bool f1) := (blk_cell Bgf.out 1).trans rfl; have hfgf1 := blk_frozen Bgf.out 1; have hcgf2 : v2_.cell? ⟨gf, 2, none⟩ = some (.bool true) := (blk_cell Bgf.out 2).trans rfl; have hfgf2 := blk_frozen Bgf.out 2; have hcgf3 : v2_.cell? ⟨gf, 3, none⟩ = some (.bool f3) := (blk_cell Bgf.out 3).trans rfl; have hfgf3 := blk_frozen Bgf.out 3; have hcgf4 : v2_.cell? ⟨gf, 4, none⟩ = some (.bool f4) := (blk_cell Bgf.out 4).trans rfl; have hfgf4 := blk_frozen Bgf.out 4; have hcgf5 : v2_.cell? ⟨gf, 5, none⟩ = some (.bool f5) := (blk_cell Bgf.out 5).trans rfl; have hfgf5 := blk_frozen Bgf.out 5) | ((with_reducible refine gate_dst (N := 8) rfl ?_); refine box_event ?hg (N := 8) ?hd (cs := #[.bool false, .bool false, .bool false, .bool false, .bool false, .bool false]) (t := 40) ?hr ?_; (case hd => rfl); (case hg => rfl); (case hr => first | (go_simp; done) | (go_simp; rfl)); intro gp hg v3_ hbox hb; clear hcgf0 hfgf0 hcgf1 hfgf1 hcgf2 hfgf2 hcgf3 hfgf3 hcgf4 hfgf4 hcgf5 hfgf5; have mgf := Aside0.mk ((hb.block _ (blk_lt Bgf.out)).trans Bgf.out); have NEgp_gf := Aside0.mk (show gp ≠ gf from by rw [hg]; exact Nat.ne_of_gt (blk_lt Bgf.out)); clear Bgf; have Bgf := mgf; clear mgf; have mgr := Aside0.mk ((hb.block _ (blk_lt Bgr.out)).trans Bgr.out); have NEgp_gr := Aside0.mk (show gp ≠ gr from by rw [hg]; exact Nat.ne_of_gt (blk_lt Bgr.out)); clear Bgr; have Bgr := mgr; clear mgr; have n0_ := Aside0.mk (below_step (by repeat (first | (with_reducible first | exact HB.out | apply below_alloc | apply pw_below_drewN | apply below_drew1) | exact HB.out)) hb); have n1_ := Aside0.mk (hbox); have n2_ := Aside0.mk ((by rw [hg]; exact (below_size (by repeat (first | (with_reducible first | exact HB.out | apply below_alloc | apply pw_below_drewN | apply below_drew1) | exact HB.out))) : w.heap.size ≤ gp)); clear HB; have HB := n0_; have Bgp := n1_; have Ggp := n2_; clear n0_ n1_ n2_; clear hb hbox hg; have hcgf0 : v3_.cell? ⟨gf, 0, none⟩ = some (.bool f0) := (blk_cell Bgf.out 0).trans rfl; have hfgf0 := blk_frozen Bgf.out 0; have hcgf1 : v3_.cell? ⟨gf, 1, none⟩ = some (.bool f1) := (blk_cell Bgf.out 1).trans rfl; have hfgf1 := blk_frozen Bgf.out 1; have hcgf2 : v3_.cell? ⟨gf, 2, none⟩ = some (.bool true) := (blk_cell Bgf.out 2).trans rfl; have hfgf2 := blk_frozen Bgf.out 2; have hcgf3 : v3_.cell? ⟨gf, 3, none⟩ = some (.bool f3) := (blk_cell Bgf.out 3).trans rfl; have hfgf3 := blk_frozen Bgf.out 3; have hcgf4 : v3_.cell? ⟨gf, 4, none⟩ = some (.bool f4) := (blk_cell Bgf.out 4).trans rfl; have hfgf4 := blk_frozen Bgf.out 4; have hcgf5 : v3_.cell? ⟨gf, 5, none⟩ = some (.bool f5) := (blk_cell Bgf.out 5).trans rfl; have hfgf5 := blk_frozen Bgf.out 5; have hcgp0 : v3_.cell? ⟨gp, 0, none⟩ = some (.bool false) := (blk_cell Bgp.out 0).trans rfl; have hfgp0 := blk_frozen Bgp.out 0; have hcgp1 : v3_.cell? ⟨gp, 1, none⟩ = some (.bool false) := (blk_cell Bgp.out 1).trans rfl; have hfgp1 := blk_frozen Bgp.out 1; have hcgp2 : v3_.cell? ⟨gp, 2, none⟩ = some (.bool false) := (blk_cell Bgp.out 2).trans rfl; have hfgp2 := blk_frozen Bgp.out 2; have hcgp3 : v3_.cell? ⟨gp, 3, none⟩ = some (.bool false) := (blk_cell Bgp.out 3).trans rfl; have hfgp3 := blk_frozen Bgp.out 3; have hcgp4 : v3_.cell? ⟨gp, 4, none⟩ = some (.bool false) := (blk_cell Bgp.out 4).trans rfl; have hfgp4 := blk_frozen Bgp.out 4; have hcgp5 : v3_.cell? ⟨gp, 5, none⟩ = some (.bool false) := (blk_cell Bgp.out 5).trans rfl; have hfgp5 := blk_frozen Bgp.out 5))
  clear hcgf0 hfgf0 hcgf1 hfgf1 hcgf2 hfgf2 hcgf3 hfgf3 hcgf4 hfgf4 hcgf5 hfgf5 hcgp0 hfgp0 hcgp1 hfgp1 hcgp2 hfgp2 hcgp3 hfgp3 hcgp4 hfgp4 hcgp5 hfgp5
  have mgp := Aside0.mk (show ((((((((v3_).setCell ⟨gp, 0, none⟩ (.bool f0)).setCell ⟨gp, 1, none⟩ (.bool f1)).setCell ⟨gp, 2, none⟩ (.bool true)).setCell ⟨gp, 3, none⟩ (.bool f3)).setCell ⟨gp, 4, none⟩ (.bool f4)).setCell ⟨gp, 5, none⟩ (.bool f5)).setCell ⟨gp, 2, none⟩ (.bool false)).heap[gp]? = some (.cells #[.bool f0, .bool f1, .bool false, .bool f3, .bool f4, .bool f5] 40 (0, 0)) from (by refine blk_put (cs := #[.bool f0, .bool f1, .bool true, .bool f3, .bool f4, .bool f5]) ?_ 2 _ rfl; refine blk_put (cs := #[.bool f0, .bool f1, .bool true, .bool f3, .bool f4, .bool false]) ?_ 5 _ rfl; refine blk_put (cs := #[.bool f0, .bool f1, .bool true, .bool f3, .bool false, .bool false]) ?_ 4 _ rfl; refine blk_put (cs := #[.bool f0, .bool f1, .bool true, .bool false, .bool false, .bool false]) ?_ 3 _ rfl; refine blk_put (cs := #[.bool f0, .bool f1, .bool false, .bool false, .bool false, .bool false]) ?_ 2 _ rfl; refine blk_put (cs := #[.bool f0, .bool false, .bool false, .bool false, .bool false, .bool false]) ?_ 1 _ rfl; refine blk_put (cs := #[.bool false, .bool false, .bool false, .bool false, .bool false, .bool false]) ?_ 0 _ rfl; exact Bgp.out))
  have ne_ : gf ≠ gp := by first | exact NEgp_gf.out.symm | exact NEgf_gp.out
  have mgf := Aside0.mk (blk_far (p := ⟨gp, 2, none⟩) (blk_far (p := ⟨gp, 5, none⟩) (blk_far (p := ⟨gp, 4, none⟩) (blk_far (p := ⟨gp, 3, none⟩) (blk_far (p := ⟨gp, 2, none⟩) (blk_far (p := ⟨gp, 1, none⟩) (blk_far (p := ⟨gp, 0, none⟩) Bgf.out ne_ (.bool f0)) ne_ (.bool f1)) ne_ (.bool true)) ne_ (.bool f3)) ne_ (.bool f4)) ne_ (.bool f5)) ne_ (.bool false))
  clear ne_
  have ne_ : gr ≠ gp := by first | exact NEgp_gr.out.symm | exact NEgr_gp.out
  have mgr := Aside0.mk (blk_far (p := ⟨gp, 2, none⟩) (blk_far (p := ⟨gp, 5, none⟩) (blk_far (p := ⟨gp, 4, none⟩) (blk_far (p := ⟨gp, 3, none⟩) (blk_far (p := ⟨gp, 2, none⟩) (blk_far (p := ⟨gp, 1, none⟩) (blk_far (p := ⟨gp, 0, none⟩) Bgr.out ne_ (.bool f0)) ne_ (.bool f1)) ne_ (.bool true)) ne_ (.bool f3)) ne_ (.bool f4)) ne_ (.bool f5)) ne_ (.bool false))
  clear ne_
  have mH := Aside0.mk (below_set (j := 2) (v := .bool false) (below_set (j := 5) (v := .bool f5) (below_set (j := 4) (v := .bool f4) (below_set (j := 3) (v := .bool f3) (below_set (j := 2) (v := .bool true) (below_set (j := 1) (v := .bool f1) (below_set (j := 0) (v := .bool f0) HB.out Ggp.out) Ggp.out) Ggp.out) Ggp.out) Ggp.out) Ggp.out) Ggp.out)
  clear HB Bgp Bgf Bgr
  have HB := mH
  have Bgp := mgp
  have Bgf := mgf
  have Bgr := mgr
  clear mH mgp mgf mgr
  with_reducible generalize (((((((v3_).setCell ⟨gp, 0, none⟩ (.bool f0)).setCell ⟨gp, 1, none⟩ (.bool f1)).setCell ⟨gp, 2, none⟩ (.bool true)).setCell ⟨gp, 3, none⟩ (.bool f3)).setCell ⟨gp, 4, none⟩ (.bool f4)).setCell ⟨gp, 5, none⟩ (.bool f5)).setCell ⟨gp, 2, none⟩ (.bool false) = v4_ at HB Bgp Bgf Bgr ⊢
  refine (impl_Adc.calls a (255 - b) f0 f1 false f3 f4 f5 _ _ _ _ _ _ _ _ HP.out).mono ?_
  rintro e v5_ ⟨rfl, hb_⟩
  have mgf := Aside0.mk ((hb_.block gf (blk_lt Bgf.out)).trans Bgf.out)
  have mgr := Aside0.mk ((hb_.block gr (blk_lt Bgr.out)).trans Bgr.out)
  have mgp := Aside0.mk ((hb_.block gp (blk_lt Bgp.out)).trans Bgp.out)
  have mH := Aside0.mk (below_step HB.out hb_)
  clear HB Bgf Bgr Bgp hb_
  have HB := mH
  have Bgf := mgf
  have Bgr := mgr
  have Bgp := mgp
  clear mH mgf mgr mgp
  have hcgf0 : v5_.cell? ⟨gf, 0, none⟩ = some (.bool f0) := (blk_cell Bgf.out 0).trans rfl
  have hfgf0 := blk_frozen Bgf.out 0
  have hcgf1 : v5_.cell? ⟨gf, 1, none⟩ = some (.bool f1) := (blk_cell Bgf.out 1).trans rfl
  have hfgf1 := blk_frozen Bgf.out 1
  have hcgf2 : v5_.cell? ⟨gf, 2, none⟩ = some (.bool true) := (blk_cell Bgf.out 2).trans rfl
  have hfgf2 := blk_frozen Bgf.out 2
  have hcgf3 : v5_.cell? ⟨gf, 3, none⟩ = some (.bool f3) := (blk_cell Bgf.out 3).trans rfl
  have hfgf3 := blk_frozen Bgf.out 3
  have hcgf4 : v5_.cell? ⟨gf, 4, none⟩ = some (.bool f4) := (blk_cell Bgf.out 4).trans rfl
  have hfgf4 := blk_frozen Bgf.out 4
  have hcgf5 : v5_.cell? ⟨gf, 5, none⟩ = some (.bool f5) := (blk_cell Bgf.out 5).trans rfl
  have hfgf5 := blk_frozen Bgf.out 5
  try go_wp2_with (first | ((with_reducible refine gate_dst (N := 10) rfl ?_); refine box_event ?hg (N := 10) ?hd (cs := #[.bool false, .bool false, .bool false, .bool false, .bool false, .bool false]) (t := 40) ?hr ?_; (case hd => rfl); (case hg => rfl); (case hr => first | (go_simp; done) | (go_simp; rfl)); intro gg hg v6_ hbox hb; clear hcgf0 hfgf0 hcgf1 hfgf1 hcgf2 hfgf2 hcgf3 hfgf3 hcgf4 hfgf4 hcgf5 hfgf5; have mgf := Aside0.mk ((hb.block _ (blk_lt Bgf.out)).trans Bgf.out); have NEgg_gf := Aside0.mk (show gg ≠ gf from by rw [hg]; exact Nat.ne_of_gt (blk_lt Bgf.out)); clear Bgf; have Bgf := mgf; clear mgf; have mgr := Aside0.mk ((hb.block _ (blk_lt Bgr.out)).trans Bgr.out); have NEgg_gr := Aside0.mk (show gg ≠ gr from by rw [hg]; exact Nat.ne_of_gt (blk_lt Bgr.out)); clear Bgr; have Bgr := mgr; clear mgr; have mgp := Aside0.mk ((hb.block _ (blk_lt Bgp.out)).trans Bgp.out); have NEgg_gp := Aside0.mk (show gg ≠ gp from by rw [hg]; exact Nat.ne_of_gt (blk_lt Bgp.out)); clear Bgp; have Bgp := mgp; clear mgp; have n0_ := Aside0.mk (below_step (by repeat (first | (with_reducible first | exact HB.out | apply below_alloc | apply pw_below_drewN | apply below_drew1) | exact HB.out)) hb); have n1_ := Aside0.mk (hbox); have n2_ := Aside0.mk ((by rw [hg]; exact (below_size (by repeat (first | (with_reducible first | exact HB.out | apply below_alloc | apply pw_below_drewN | apply below_drew1) | exact HB.out))) : w.heap.size ≤ gg)); clear HB; have HB := n0_; have Bgg := n1_; have Ggg := n2_; clear n0_ n1_ n2_; clear hb hbox hg; have hcgf0 : v6_.cell? ⟨gf, 0, none⟩ = some (.bool f0) := (blk_cell Bgf.out 0).trans rfl; have hfgf0 := blk_frozen Bgf.out 0; have hcgf1 : v6_.cell? ⟨gf, 1, none⟩ = some (.bool f1) := (blk_cell Bgf.out 1).trans rfl; have hfgf1 := blk_frozen Bgf.out 1; have hcgf2 : v6_.cell? ⟨gf, 2, none⟩ = some (.bool true) := (blk_cell Bgf.out 2).trans rfl; have hfgf2 := blk_frozen Bgf.out 2; have hcgf3 : v6_.cell? ⟨gf, 3, none⟩ = some (.bool f3) := (blk_cell Bgf.out 3).trans rfl; have hfgf3 := blk_frozen Bgf.out 3; have hcgf4 : v6_.cell? ⟨gf, 4, none⟩ = some (.bool f4) := (blk_cell Bgf.out 4).trans rfl; have hfgf4 := blk_frozen Bgf.out 4; have hcgf5 : v6_.cell? ⟨gf, 5, none⟩ = some (.bool f5) := (blk_cell Bgf.out 5).trans rfl; have hfgf5 := blk_frozen Bgf.out 5; have hcgg0 : v6_.cell? ⟨gg, 0, none⟩ = some (.bool false) := (blk_cell Bgg.out 0).trans rfl; have hfgg0 := blk_frozen Bgg.out 0; have hcgg1 : v6_.cell? ⟨gg, 1, none⟩ = some (.bool false) := (blk_cell Bgg.out 1).trans rfl; have hfgg1 := blk_frozen Bgg.out 1; have hcgg2 : v6_.cell? ⟨gg, 2, none⟩ = some (.bool false) := (blk_cell Bgg.out 2).trans rfl; have hfgg2 := blk_frozen Bgg.out 2; have hcgg3 : v6_.cell? ⟨gg, 3, none⟩ = some (.bool false) := (blk_cell Bgg.out 3).trans rfl; have hfgg3 := blk_frozen Bgg.out 3; have hcgg4 : v6_.cell? ⟨gg, 4, none⟩ = some (.bool false) := (blk_cell Bgg.out 4).trans rfl; have hfgg4 := blk_frozen Bgg.out 4; have hcgg5 : v6_.cell? ⟨gg, 5, none⟩ = some (.bool false) := (blk_cell Bgg.out 5).trans rfl; have hfgg5 := blk_frozen Bgg.out 5; have hfargggf : ∀ (W_ : World) (i_ j_ : Nat) (v_ : Value), (W_.setCell ⟨gg, i_, none⟩ v_).cell? ⟨gf, j_, none⟩ = W_.cell? ⟨gf, j_, none⟩ := fun W_ i_ j_ v_ => World.cell?_setCell_other W_ ⟨gg, i_, none⟩ ⟨gf, j_, none⟩ v_ (fun e_ => absurd (congrArg Addr.block e_) (by first | exact NEgg_gf.out | exact NEgf_gg.out.symm))))
  clear hcgf0 hfgf0 hcgf1 hfgf1 hcgf2 hfgf2 hcgf3 hfgf3 hcgf4 hfgf4 hcgf5 hfgf5 hcgg0 hfgg0 hcgg1 hfgg1 hcgg2 hfgg2 hcgg3 hfgg3 hcgg4 hfgg4 hcgg5 hfgg5 hfargggf
  have mgg := Aside0.mk (show ((((((((v6_).setCell ⟨gg, 0, none⟩ (.bool r2)).setCell ⟨gg, 1, none⟩ (.bool r3)).setCell ⟨gg, 2, none⟩ (.bool false)).setCell ⟨gg, 3, none⟩ (.bool f3)).setCell ⟨gg, 4, none⟩ (.bool r6)).setCell ⟨gg, 5, none⟩ (.bool r7)).setCell ⟨gg, 2, none⟩ (.bool true)).heap[gg]? = some (.cells #[.bool r2, .bool r3, .bool true, .bool f3, .bool r6, .bool r7] 40 (0, 0)) from (by refine blk_put (cs := #[.bool r2, .bool r3, .bool false, .bool f3, .bool r6, .bool r7]) ?_ 2 _ rfl; refine blk_put (cs := #[.bool r2, .bool r3, .bool false, .bool f3, .bool r6, .bool false]) ?_ 5 _ rfl; refine blk_put (cs := #[.bool r2, .bool r3, .bool false, .bool f3, .bool false, .bool false]) ?_ 4 _ rfl; refine blk_put (cs := #[.bool r2, .bool r3, .bool false, .bool false, .bool false, .bool false]) ?_ 3 _ rfl; refine blk_put (cs := #[.bool r2, .bool r3, .bool false, .bool false, .bool false, .bool false]) ?_ 2 _ rfl; refine blk_put (cs := #[.bool r2, .bool false, .bool false, .bool false, .bool false, .bool false]) ?_ 1 _ rfl; refine blk_put (cs := #[.bool false, .bool false, .bool false, .bool false, .bool false, .bool false]) ?_ 0 _ rfl; exact Bgg.out))
  have ne_ : gf ≠ gg := by first | exact NEgg_gf.out.symm | exact NEgf_gg.out
  have mgf := Aside0.mk (blk_far (p := ⟨gg, 2, none⟩) (blk_far (p := ⟨gg, 5, none⟩) (blk_far (p := ⟨gg, 4, none⟩) (blk_far (p := ⟨gg, 3, none⟩) (blk_far (p := ⟨gg, 2, none⟩) (blk_far (p := ⟨gg, 1, none⟩) (blk_far (p := ⟨gg, 0, none⟩) Bgf.out ne_ (.bool r2)) ne_ (.bool r3)) ne_ (.bool false)) ne_ (.bool f3)) ne_ (.bool r6)) ne_ (.bool r7)) ne_ (.bool true))
  clear ne_
  have ne_ : gr ≠ gg := by first | exact NEgg_gr.out.symm | exact NEgr_gg.out
  have mgr := Aside0.mk (blk_far (p := ⟨gg, 2, none⟩) (blk_far (p := ⟨gg, 5, none⟩) (blk_far (p := ⟨gg, 4, none⟩) (blk_far (p := ⟨gg, 3, none⟩) (blk_far (p := ⟨gg, 2, none⟩) (blk_far (p := ⟨gg, 1, none⟩) (blk_far (p := ⟨gg, 0, none⟩) Bgr.out ne_ (.bool r2)) ne_ (.bool r3)) ne_ (.bool false)) ne_ (.bool f3)) ne_ (.bool r6)) ne_ (.bool r7)) ne_ (.bool true))
  clear ne_
  have ne_ : gp ≠ gg := by first | exact NEgg_gp.out.symm | exact NEgp_gg.out
  have mgp := Aside0.mk (blk_far (p := ⟨gg, 2, none⟩) (blk_far (p := ⟨gg, 5, none⟩) (blk_far (p := ⟨gg, 4, none⟩) (blk_far (p := ⟨gg, 3, none⟩) (blk_far (p := ⟨gg, 2, none⟩) (blk_far (p := ⟨gg, 1, none⟩) (blk_far (p := ⟨gg, 0, none⟩) Bgp.out ne_ (.bool r2)) ne_ (.bool r3)) ne_ (.bool false)) ne_ (.bool f3)) ne_ (.bool r6)) ne_ (.bool r7)) ne_ (.bool true))
  clear ne_
  have mH := Aside0.mk (below_set (j := 2) (v := .bool true) (below_set (j := 5) (v := .bool r7) (below_set (j := 4) (v := .bool r6) (below_set (j := 3) (v := .bool f3) (below_set (j := 2) (v := .bool false) (below_set (j := 1) (v := .bool r3) (below_set (j := 0) (v := .bool r2) HB.out Ggg.out) Ggg.out) Ggg.out) Ggg.out) Ggg.out) Ggg.out) Ggg.out)
  clear HB Bgg Bgf Bgr Bgp
  have HB := mH
  have Bgg := mgg
  have Bgf := mgf
  have Bgr := mgr
  have Bgp := mgp
  clear mH mgg mgf mgr mgp
  with_reducible generalize (((((((v6_).setCell ⟨gg, 0, none⟩ (.bool r2)).setCell ⟨gg, 1, none⟩ (.bool r3)).setCell ⟨gg, 2, none⟩ (.bool false)).setCell ⟨gg, 3, none⟩ (.bool f3)).setCell ⟨gg, 4, none⟩ (.bool r6)).setCell ⟨gg, 5, none⟩ (.bool r7)).setCell ⟨gg, 2, none⟩ (.bool true) = v7_ at HB Bgg Bgf Bgr Bgp ⊢
  refine (impl_one.calls f5 t _ HT.out).mono ?_
  rintro e v8_ ⟨rfl, hd_⟩
  have hb_ := hd_.below
  clear hd_
  have mgf := Aside0.mk ((hb_.block gf (blk_lt Bgf.out)).trans Bgf.out)
  have mgr := Aside0.mk ((hb_.block gr (blk_lt Bgr.out)).trans Bgr.out)
  have mgp := Aside0.mk ((hb_.block gp (blk_lt Bgp.out)).trans Bgp.out)
  have mgg := Aside0.mk ((hb_.block gg (blk_lt Bgg.out)).trans Bgg.out)
  have mH := Aside0.mk (below_step HB.out hb_)
  clear HB Bgf Bgr Bgp Bgg hb_
  have HB := mH
  have Bgf := mgf
  have Bgr := mgr
  have Bgp := mgp
  have Bgg := mgg
  clear mH mgf mgr mgp mgg
  have hcgg0 : v8_.cell? ⟨gg, 0, none⟩ = some (.bool r2) := (blk_cell Bgg.out 0).trans rfl
  have hfgg0 := blk_frozen Bgg.out 0
  have hcgg1 : v8_.cell? ⟨gg, 1, none⟩ = some (.bool r3) := (blk_cell Bgg.out 1).trans rfl
  have hfgg1 := blk_frozen Bgg.out 1
  have hcgg2 : v8_.cell? ⟨gg, 2, none⟩ = some (.bool true) := (blk_cell Bgg.out 2).trans rfl
  have hfgg2 := blk_frozen Bgg.out 2
  have hcgg3 : v8_.cell? ⟨gg, 3, none⟩ = some (.bool f3) := (blk_cell Bgg.out 3).trans rfl
  have hfgg3 := blk_frozen Bgg.out 3
  have hcgg4 : v8_.cell? ⟨gg, 4, none⟩ = some (.bool r6) := (blk_cell Bgg.out 4).trans rfl
  have hfgg4 := blk_frozen Bgg.out 4
  have hcgg5 : v8_.cell? ⟨gg, 5, none⟩ = some (.bool r7) := (blk_cell Bgg.out 5).trans rfl
  have hfgg5 := blk_frozen Bgg.out 5
  try go_wp2_with (fail)
  have hcgg0 : v8_.cell? ⟨gg, 0, none⟩ = some (.bool r2) := (blk_cell Bgg.out 0).trans rfl
  have hfgg0 := blk_frozen Bgg.out 0
  have hcgg1 : v8_.cell? ⟨gg, 1, none⟩ = some (.bool r3) := (blk_cell Bgg.out 1).trans rfl
  have hfgg1 := blk_frozen Bgg.out 1
  have hcgg2 : v8_.cell? ⟨gg, 2, none⟩ = some (.bool true) := (blk_cell Bgg.out 2).trans rfl
  have hfgg2 := blk_frozen Bgg.out 2
  have hcgg3 : v8_.cell? ⟨gg, 3, none⟩ = some (.bool f3) := (blk_cell Bgg.out 3).trans rfl
  have hfgg3 := blk_frozen Bgg.out 3
  have hcgg4 : v8_.cell? ⟨gg, 4, none⟩ = some (.bool r6) := (blk_cell Bgg.out 4).trans rfl
  have hfgg4 := blk_frozen Bgg.out 4
  have hcgg5 : v8_.cell? ⟨gg, 5, none⟩ = some (.bool r7) := (blk_cell Bgg.out 5).trans rfl
  have hfgg5 := blk_frozen Bgg.out 5
  go_still_tail 4, (by kernel_rfl)
  clear hcgg0 hfgg0 hcgg1 hfgg1 hcgg2 hfgg2 hcgg3 hfgg3 hcgg4 hfgg4 hcgg5 hfgg5
  have mgf := Aside0.mk (blk_drew Bgf.out)
  have mgr := Aside0.mk (blk_drew Bgr.out)
  have mgp := Aside0.mk (blk_drew Bgp.out)
  have mgg := Aside0.mk (blk_drew Bgg.out)
  have mH := Aside0.mk (below_drew1 HB.out)
  clear HB Bgf Bgr Bgp Bgg
  have HB := mH
  have Bgf := mgf
  have Bgr := mgr
  have Bgp := mgp
  have Bgg := mgg
  clear mH mgf mgr mgp mgg
  show wpList Try.prog _ _ _ _ v8_.drew
  generalize v8_.drew = v9_ at HB Bgf Bgr Bgp Bgg ⊢
  have hcgg0 : v9_.cell? ⟨gg, 0, none⟩ = some (.bool r2) := (blk_cell Bgg.out 0).trans rfl
  have hfgg0 := blk_frozen Bgg.out 0
  have hcgg1 : v9_.cell? ⟨gg, 1, none⟩ = some (.bool r3) := (blk_cell Bgg.out 1).trans rfl
  have hfgg1 := blk_frozen Bgg.out 1
  have hcgg2 : v9_.cell? ⟨gg, 2, none⟩ = some (.bool true) := (blk_cell Bgg.out 2).trans rfl
  have hfgg2 := blk_frozen Bgg.out 2
  have hcgg3 : v9_.cell? ⟨gg, 3, none⟩ = some (.bool f3) := (blk_cell Bgg.out 3).trans rfl
  have hfgg3 := blk_frozen Bgg.out 3
  have hcgg4 : v9_.cell? ⟨gg, 4, none⟩ = some (.bool r6) := (blk_cell Bgg.out 4).trans rfl
  have hfgg4 := blk_frozen Bgg.out 4
  have hcgg5 : v9_.cell? ⟨gg, 5, none⟩ = some (.bool r7) := (blk_cell Bgg.out 5).trans rfl
  have hfgg5 := blk_frozen Bgg.out 5
  have hcgr0 : v9_.cell? ⟨gr, 0, none⟩ = some (.bool false) := (blk_cell Bgr.out 0).trans rfl
  have hfgr0 := blk_frozen Bgr.out 0
  have hcgr1 : v9_.cell? ⟨gr, 1, none⟩ = some (.bool false) := (blk_cell Bgr.out 1).trans rfl
  have hfgr1 := blk_frozen Bgr.out 1
  have hcgr2 : v9_.cell? ⟨gr, 2, none⟩ = some (.bool false) := (blk_cell Bgr.out 2).trans rfl
  have hfgr2 := blk_frozen Bgr.out 2
  have hcgr3 : v9_.cell? ⟨gr, 3, none⟩ = some (.bool false) := (blk_cell Bgr.out 3).trans rfl
  have hfgr3 := blk_frozen Bgr.out 3
  have hcgr4 : v9_.cell? ⟨gr, 4, none⟩ = some (.bool false) := (blk_cell Bgr.out 4).trans rfl
  have hfgr4 := blk_frozen Bgr.out 4
  have hcgr5 : v9_.cell? ⟨gr, 5, none⟩ = some (.bool false) := (blk_cell Bgr.out 5).trans rfl
  have hfgr5 := blk_frozen Bgr.out 5
  try go_wp2_with (fail)
  refine bodyPost_ret (results_tc rfl _ _ gr 40 #[.bool r2, .bool r3, .bool true, .bool f3, .bool r6, .bool r7] (0, 0) _ rfl (by (with_reducible repeat (first | refine blk_drewN ?_ _ | refine blk_drew ?_ | refine blk_alloc ?_ _)); refine blk_put (cs := #[.bool r2, .bool r3, .bool true, .bool f3, .bool r6, .bool false]) ?_ 5 _ rfl; (with_reducible repeat (first | refine blk_drewN ?_ _ | refine blk_drew ?_ | refine blk_alloc ?_ _)); refine blk_put (cs := #[.bool r2, .bool r3, .bool true, .bool f3, .bool false, .bool false]) ?_ 4 _ rfl; (with_reducible repeat (first | refine blk_drewN ?_ _ | refine blk_drew ?_ | refine blk_alloc ?_ _)); refine blk_put (cs := #[.bool r2, .bool r3, .bool true, .bool false, .bool false, .bool false]) ?_ 3 _ rfl; (with_reducible repeat (first | refine blk_drewN ?_ _ | refine blk_drew ?_ | refine blk_alloc ?_ _)); refine blk_put (cs := #[.bool r2, .bool r3, .bool false, .bool false, .bool false, .bool false]) ?_ 2 _ rfl; (with_reducible repeat (first | refine blk_drewN ?_ _ | refine blk_drew ?_ | refine blk_alloc ?_ _)); refine blk_put (cs := #[.bool r2, .bool false, .bool false, .bool false, .bool false, .bool false]) ?_ 1 _ rfl; (with_reducible repeat (first | refine blk_drewN ?_ _ | refine blk_drew ?_ | refine blk_alloc ?_ _)); refine blk_put (cs := #[.bool false, .bool false, .bool false, .bool false, .bool false, .bool false]) ?_ 0 _ rfl; (with_reducible repeat (first | refine blk_drewN ?_ _ | refine blk_drew ?_ | refine blk_alloc ?_ _)); exact Bgr.out) Try.underlying40 rfl (by kernel_rfl)) rfl ?_
  have e1_ := H1'.out
  have e2_ := HH.out
  subst e1_
  subst e2_
  exact ⟨by first | rfl | (simp; done) | simp [*], by repeat (first | (with_reducible first | exact HB.out | apply below_alloc | apply pw_below_drewN | apply below_drew1 | refine below_set ?_ Ggf.out | refine below_set ?_ Ggr.out | refine below_set ?_ Ggp.out | refine below_set ?_ Ggg.out) | exact HB.out)⟩
set_option maxHeartbeats 2000000 in
set_option maxRecDepth 100000 in
theorem impl_Sbc.dec_cn (a b : Int) (f0 f1 f3 f4 f5 : Bool) (w : World) (a0 : 0 ≤ a) (a1 : a ≤ 255) (b0 : 0 ≤ b) (b1 : b ≤ 255) (r1 : Int) (r2 r3 r4 r5 r6 r7 : Bool) (c10 : a % 16 - b % 16 - 1 + tc f5 < 0) (c160 : ¬ difH a b (tc f5) < 0) (hr : sbc a b true f3 f5 = (r1, r2, r3, r4, r5, r6, r7)) : Calls Try.prog 60 #[.int .u8 a, .int .u8 b, .agg #[.bool f0, .bool f1, .bool true, .bool f3, .bool f4, .bool f5]] w fun e w' => e = .returned (.tuple #[.int .u8 r1, .agg #[.bool r2, .bool r3, .bool r4, .bool r5, .bool r6, .bool r7]]) ∧ Below w.heap.size w w' := by
  simp only [sbc, bin, Prod.mk.injEq, if_true] at hr
  obtain ⟨h1, h2, h3, rfl, rfl, h6, h7⟩ := hr
  have y0 : 0 ≤ 255 - b := by omega
  have y1 : 255 - b ≤ 255 := by omega
  have yn : Go.bits .xor .u8 IntKind.u8.max b = 255 - b := not8 b0 b1
  obtain ⟨q1, hq⟩ : ∃ q1, bin a (255 - b) (tc f5) false f3 = (q1, r2, r3, false, f3, r6, r7) := ⟨(a + (255 - b) + tc f5) % 256, by simp only [bin, h2, h3, h6, h7]⟩
  have HP : Aside0 (impl_Adc.f a (255 - b) f0 f1 false f3 f4 f5 = some (q1, r2, r3, false, f3, r6, r7)) := ⟨by
    unfold impl_Adc.f
    rw [if_pos (byteOk_mk a0 a1 (by omega) (by omega))]
    exact congrArg some hq⟩
  clear hq h2 h3 h6 h7
  obtain ⟨t0, t1⟩ := tc01 f5
  have HT := Aside0.mk (one_tc2 f5)
  generalize tc f5 = t at t0 t1 HT h1 c10 c160
  have q1 := and15 a0 a1
  have q2 := and15 b0 b1
  have q3 := and240 a0 a1
  have q4 := and240 b0 b1
  have x1 : 0 ≤ a % 16 := by omega
  have x2 : a % 16 ≤ 15 := by omega
  have x3 : 0 ≤ b % 16 := by omega
  have x4 : b % 16 ≤ 15 := by omega
  have x5 : 0 ≤ a - a % 16 := by omega
  have x6 : a - a % 16 ≤ 240 := by omega
  have x7 : 0 ≤ b - b % 16 := by omega
  have x8 : b - b % 16 ≤ 240 := by omega
  generalize hh : difH a b t = h at h1 c160
  simp only [difH, difL] at hh
  generalize a - a % 16 = ah at q3 hh x5 x6
  generalize b - b % 16 = bh at q4 hh x7 x8
  generalize a % 16 = al at q1 hh x1 x2 c10
  generalize b % 16 = bl at q2 hh x3 x4 c10
  have d10 : decide (al - bl - 1 + t < 0) = true := decide_eq_true c10
  rw [lowS, if_pos c10] at hh
  have q5 := and15i (a := al - bl - 1 + t - 6) (by omega) (by omega)
  have l0 : 0 ≤ (al - bl - 1 + t - 6) % 16 := by omega
  have l1 : (al - bl - 1 + t - 6) % 16 ≤ 15 := by omega
  generalize (al - bl - 1 + t - 6) % 16 = lm at q5 hh l0 l1
  have d160 : decide (h < 0) = false := decide_eq_false c160
  rw [topS, if_neg c160] at h1
  have g0 : -600 ≤ h := by omega
  have g1 : h ≤ 600 := by omega
  have d160 : decide (ah - bh + (lm - 16) < 0) = false := decide_eq_false (by omega)
  have H1' := Aside0.mk h1
  have HH := Aside0.mk hh
  clear h1 hh c10 c160
  have HB := Aside0.mk (Below.refl w.heap.size w)
  have hu24 := Try.underlying40
  go_enter Try.func60, Try.ntmps60
  try go_wp2_with (first | ((with_reducible refine gate_dst (N := 5) rfl ?_); refine box_event ?hg (N := 5) ?hd (cs := #[.bool f0, .bool f1, .bool true, .bool f3, .bool f4, .bool f5]) (t := 40) ?hr ?_; (case hd => rfl); (case hg => rfl); (case hr => first | (go_simp; done) | (go_simp; rfl)); intro gf hg v1_ hbox hb; have n0_ := Aside0.mk (below_step (by repeat (first | (with_reducible first | exact HB.out | apply below_alloc | apply pw_below_drewN | apply below_drew1) | exact HB.out)) hb); have n1_ := Aside0.mk (hbox); have n2_ := Aside0.mk ((by rw [hg]; exact (below_size (by repeat (first | (with_reducible first | exact HB.out | apply below_alloc | apply pw_below_drewN | apply below_drew1) | exact HB.out))) : w.heap.size ≤ gf)); clear HB; have HB := n0_; have Bgf := n1_; have Ggf := n2_; clear n0_ n1_ n2_; clear hb hbox hg) | ((with_reducible refine gate_dst (N := 7) rfl ?_); refine box_event ?hg (N := 7) ?hd (cs := #[.bool false, .bool false, .bool false, .bool false, .bool false, .bool false]) (t := 40) ?hr ?_; (case hd => rfl); (case hg => rfl); (case hr => first | (go_simp; done) | (go_simp; rfl)); intro gr hg v2_ hbox hb; have mgf := Aside0.mk ((hb.block _ (blk_lt Bgf.out)).trans Bgf.out); have NEgr_gf := Aside0.mk (show gr ≠ gf from by rw [hg]; exact Nat.ne_of_gt (blk_lt Bgf.out)); clear Bgf; have Bgf := mgf; clear mgf; have n0_ := Aside0.mk (below_step (by repeat (first | (with_reducible first | exact HB.out | apply below_alloc | apply pw_below_drewN | apply below_drew1) | exact HB.out)) hb); have n1_ := Aside0.mk (hbox); have n2_ := Aside0.mk ((by rw [hg]; exact (below_size (by repeat (first | (with_reducible first | exact HB.out | apply below_alloc | apply pw_below_drewN | apply below_drew1) | exact HB.out))) : w.heap.size ≤ gr)); clear HB; have HB := n0_; have Bgr := n1_; have Ggr := n2_; clear n0_ n1_ n2_; clear hb hbox hg; have hcgf0 : v2_.cell? ⟨gf, 0, none⟩ = some (.bool f0) := (blk_cell Bgf.out 0).trans rfl; have hfgf0 := blk_frozen Bgf.out 0; have hcgf1 : v2_.cell? ⟨gf, 1, none⟩ = some (.bool f1) := (blk_cell Bgf.out 1).trans rfl; have hfgf1 := blk_frozen Bgf.out 1; have hcgf2 : v2_.cell? ⟨gf, 2, none⟩ = some (.bool true) := (blk_cell Bgf.out 2).trans rfl; have hfgf2 := blk_frozen Bgf.out 2; have hcgf3 : v2_.cell? ⟨gf, 3, none⟩ = some (.bool f3) := (blk_cell Bgf.out 3).trans rfl; have hfgf3 := blk_frozen Bgf.out 3; have hcgf4 : v2_.cell? ⟨gf, 4, none⟩ = some (.bool f4) := (blk_cell Bgf.out 4).trans rfl; have hfgf4 := blk_frozen Bgf.out 4; have hcgf5 : v2_.cell? ⟨gf, 5, none⟩ = some (.bool f5) := (blk_cell Bgf.out 5).trans rfl; have hfgf5 := blk_frozen Bgf.out 5) | ((with_reducible refine gate_dst (N := 8) rfl ?_); refine box_event ?hg (N := 8) ?hd (cs := #[.bool false, .bool false, .bool false, .bool false, .bool false, .bool false]) (t := 40) ?hr ?_; (case hd => rfl); (case hg => rfl); (case hr => first | (go_simp; done) | (go_simp; rfl)); intro gp hg v3_ hbox hb; clear hcgf0 hfgf0 hcgf1 hfgf1 hcgf2 hfgf2 hcgf3 hfgf3 hcgf4 hfgf4 hcgf5 hfgf5; have mgf := Aside0.mk ((hb.block _ (blk_lt Bgf.out)).trans Bgf.out); have NEgp_gf := Aside0.mk (show gp ≠ gf from by rw [hg]; exact Nat.ne_of_gt (blk_lt Bgf.out)); clear Bgf; have Bgf := mgf; clear mgf; have mgr := Aside0.mk ((hb.block _ (blk_lt Bgr.out)).trans Bgr.out); have NEgp_gr := Aside0.mk (show gp ≠ gr from by rw [hg]; exact Nat.ne_of_gt (blk_lt Bgr.out)); clear Bgr; have Bgr := mgr; clear mgr; have n0_ := Aside0.mk (below_step (by repeat (first | (with_reducible first | exact HB.out | apply below_alloc | apply pw_below_drewN | apply below_drew1) | exact HB.out)) hb); have n1_ := Aside0.mk (hbox); have n2_ := Aside0.mk ((by rw [hg]; exact (below_size (by repeat (first | (with_reducible first | exact HB.out | apply below_alloc | apply pw_below_drewN | apply below_drew1) | exact HB.out))) : w.heap.size ≤ gp)); clear HB; have HB := n0_; have Bgp := n1_; have Ggp := n2_; clear n0_ n1_ n2_; clear hb hbox hg; have hcgf0 : v3_.cell? ⟨gf, 0, none⟩ = some (.bool f0) := (blk_cell Bgf.out 0).trans rfl; have hfgf0 := blk_frozen Bgf.out 0; have hcgf1 : v3_.cell? ⟨gf, 1, none⟩ = some (.bool f1) := (blk_cell Bgf.out 1).trans rfl; have hfgf1 := blk_frozen Bgf.out 1; have hcgf2 : v3_.cell? ⟨gf, 2, none⟩ = some (.bool true) := (blk_cell Bgf.out 2).trans rfl; have hfgf2 := blk_frozen Bgf.out 2; have hcgf3 : v3_.cell? ⟨gf, 3, none⟩ = some (.bool f3) := (blk_cell Bgf.out 3).trans rfl; have hfgf3 := blk_frozen Bgf.out 3; have hcgf4 : v3_.cell? ⟨gf, 4, none⟩ = some (.bool f4) := (blk_cell Bgf.out 4).trans rfl; have hfgf4 := blk_frozen Bgf.out 4; have hcgf5 : v3_.cell? ⟨gf, 5, none⟩ = some (.bool f5) := (blk_cell Bgf.out 5).trans rfl; have hfgf5 := blk_frozen Bgf.out 5; have hcgp0 : v3_.cell? ⟨gp, 0, none⟩ = some (.bool false) := (blk_cell Bgp.out 0).trans rfl; have hfgp0 := blk_frozen Bgp.out 0; have hcgp1 : v3_.cell? ⟨gp, 1, none⟩ = some (.bool false) := (blk_cell Bgp.out 1).trans rfl; have hfgp1 := blk_frozen Bgp.out 1; have hcgp2 : v3_.cell? ⟨gp, 2, none⟩ = some (.bool false) := (blk_cell Bgp.out 2).trans rfl; have hfgp2 := blk_frozen Bgp.out 2; have hcgp3 : v3_.cell? ⟨gp, 3, none⟩ = some (.bool false) := (blk_cell Bgp.out 3).trans rfl; have hfgp3 := blk_frozen Bgp.out 3; have hcgp4 : v3_.cell? ⟨gp, 4, none⟩ = some (.bool false) := (blk_cell Bgp.out 4).trans rfl; have hfgp4 := blk_frozen Bgp.out 4; have hcgp5 : v3_.cell? ⟨gp, 5, none⟩ = some (.bool false) := (blk_cell Bgp.out 5).trans rfl; have hfgp5 := blk_frozen Bgp.out 5))
  clear hcgf0 hfgf0 hcgf1 hfgf1 hcgf2 hfgf2 hcgf3 hfgf3 hcgf4 hfgf4 hcgf5 hfgf5 hcgp0 hfgp0 hcgp1 hfgp1 hcgp2 hfgp2 hcgp3 hfgp3 hcgp4 hfgp4 hcgp5 hfgp5
  have mgp := Aside0.mk (show ((((((((v3_).setCell ⟨gp, 0, none⟩ (.bool f0)).setCell ⟨gp, 1, none⟩ (.bool f1)).setCell ⟨gp, 2, none⟩ (.bool true)).setCell ⟨gp, 3, none⟩ (.bool f3)).setCell ⟨gp, 4, none⟩ (.bool f4)).setCell ⟨gp, 5, none⟩ (.bool f5)).setCell ⟨gp, 2, none⟩ (.bool false)).heap[gp]? = some (.cells #[.bool f0, .bool f1, .bool false, .bool f3, .bool f4, .bool f5] 40 (0, 0)) from (by refine blk_put (cs := #[.bool f0, .bool f1, .bool true, .bool f3, .bool f4, .bool f5]) ?_ 2 _ rfl; refine blk_put (cs := #[.bool f0, .bool f1, .bool true, .bool f3, .bool f4, .bool false]) ?_ 5 _ rfl; refine blk_put (cs := #[.bool f0, .bool f1, .bool true, .bool f3, .bool false, .bool false]) ?_ 4 _ rfl; refine blk_put (cs := #[.bool f0, .bool f1, .bool true, .bool false, .bool false, .bool false]) ?_ 3 _ rfl; refine blk_put (cs := #[.bool f0, .bool f1, .bool false, .bool false, .bool false, .bool false]) ?_ 2 _ rfl; refine blk_put (cs := #[.bool f0, .bool false, .bool false, .bool false, .bool false, .bool false]) ?_ 1 _ rfl; refine blk_put (cs := #[.bool false, .bool false, .bool false, .bool false, .bool false, .bool false]) ?_ 0 _ rfl; exact Bgp.out))
  have ne_ : gf ≠ gp := by first | exact NEgp_gf.out.symm | exact NEgf_gp.out
  have mgf := Aside0.mk (blk_far (p := ⟨gp, 2, none⟩) (blk_far (p := ⟨gp, 5, none⟩) (blk_far (p := ⟨gp, 4, none⟩) (blk_far (p := ⟨gp, 3, none⟩) (blk_far (p := ⟨gp, 2, none⟩) (blk_far (p := ⟨gp, 1, none⟩) (blk_far (p := ⟨gp, 0, none⟩) Bgf.out ne_ (.bool f0)) ne_ (.bool f1)) ne_ (.bool true)) ne_ (.bool f3)) ne_ (.bool f4)) ne_ (.bool f5)) ne_ (.bool false))
  clear ne_
  have ne_ : gr ≠ gp := by first | exact NEgp_gr.out.symm | exact NEgr_gp.out
  have mgr := Aside0.mk (blk_far (p := ⟨gp, 2, none⟩) (blk_far (p := ⟨gp, 5, none⟩) (blk_far (p := ⟨gp, 4, none⟩) (blk_far (p := ⟨gp, 3, none⟩) (blk_far (p := ⟨gp, 2, none⟩) (blk_far (p := ⟨gp, 1, none⟩) (blk_far (p := ⟨gp, 0, none⟩) Bgr.out ne_ (.bool f0)) ne_ (.bool f1)) ne_ (.bool true)) ne_ (.bool f3)) ne_ (.bool f4)) ne_ (.bool f5)) ne_ (.bool false))
  clear ne_
  have mH := Aside0.mk (below_set (j := 2) (v := .bool false) (below_set (j := 5) (v := .bool f5) (below_set (j := 4) (v := .bool f4) (below_set (j := 3) (v := .bool f3) (below_set (j := 2) (v := .bool true) (below_set (j := 1) (v := .bool f1) (below_set (j := 0) (v := .bool f0) HB.out Ggp.out) Ggp.out) Ggp.out) Ggp.out) Ggp.out) Ggp.out) Ggp.out)
  clear HB Bgp Bgf Bgr
  have HB := mH
  have Bgp := mgp
  have Bgf := mgf
  have Bgr := mgr
  clear mH mgp mgf mgr
  with_reducible generalize (((((((v3_).setCell ⟨gp, 0, none⟩ (.bool f0)).setCell ⟨gp, 1, none⟩ (.bool f1)).setCell ⟨gp, 2, none⟩ (.bool true)).setCell ⟨gp, 3, none⟩ (.bool f3)).setCell ⟨gp, 4, none⟩ (.bool f4)).setCell ⟨gp, 5, none⟩ (.bool f5)).setCell ⟨gp, 2, none⟩ (.bool false) = v4_ at HB Bgp Bgf Bgr ⊢
  refine (impl_Adc.calls a (255 - b) f0 f1 false f3 f4 f5 _ _ _ _ _ _ _ _ HP.out).mono ?_
  rintro e v5_ ⟨rfl, hb_⟩
  have mgf := Aside0.mk ((hb_.block gf (blk_lt Bgf.out)).trans Bgf.out)
  have mgr := Aside0.mk ((hb_.block gr (blk_lt Bgr.out)).trans Bgr.out)
  have mgp := Aside0.mk ((hb_.block gp (blk_lt Bgp.out)).trans Bgp.out)
  have mH := Aside0.mk (below_step HB.out hb_)
  clear HB Bgf Bgr Bgp hb_
  have HB := mH
  have Bgf := mgf
  have Bgr := mgr
  have Bgp := mgp
  clear mH mgf mgr mgp
  have hcgf0 : v5_.cell? ⟨gf, 0, none⟩ = some (.bool f0) := (blk_cell Bgf.out 0).trans rfl
  have hfgf0 := blk_frozen Bgf.out 0
  have hcgf1 : v5_.cell? ⟨gf, 1, none⟩ = some (.bool f1) := (blk_cell Bgf.out 1).trans rfl
  have hfgf1 := blk_frozen Bgf.out 1
  have hcgf2 : v5_.cell? ⟨gf, 2, none⟩ = some (.bool true) := (blk_cell Bgf.out 2).trans rfl
  have hfgf2 := blk_frozen Bgf.out 2
  have hcgf3 : v5_.cell? ⟨gf, 3, none⟩ = some (.bool f3) := (blk_cell Bgf.out 3).trans rfl
  have hfgf3 := blk_frozen Bgf.out 3
  have hcgf4 : v5_.cell? ⟨gf, 4, none⟩ = some (.bool f4) := (blk_cell Bgf.out 4).trans rfl
  have hfgf4 := blk_frozen Bgf.out 4
  have hcgf5 : v5_.cell? ⟨gf, 5, none⟩ = some (.bool f5) := (blk_cell Bgf.out 5).trans rfl
  have hfgf5 := blk_frozen Bgf.out 5
  try go_wp2_with (first | ((with_reducible refine gate_dst (N := 10) rfl ?_); refine box_event ?hg (N := 10) ?hd (cs := #[.bool false, .bool false, .bool false, .bool false, .bool false, .bool false]) (t := 40) ?hr ?_; (case hd => rfl); (case hg => rfl); (case hr => first | (go_simp; done) | (go_simp; rfl)); intro gg hg v6_ hbox hb; clear hcgf0 hfgf0 hcgf1 hfgf1 hcgf2 hfgf2 hcgf3 hfgf3 hcgf4 hfgf4 hcgf5 hfgf5; have mgf := Aside0.mk ((hb.block _ (blk_lt Bgf.out)).trans Bgf.out); have NEgg_gf := Aside0.mk (show gg ≠ gf from by rw [hg]; exact Nat.ne_of_gt (blk_lt Bgf.out)); clear Bgf; have Bgf := mgf; clear mgf; have mgr := Aside0.mk ((hb.block _ (blk_lt Bgr.out)).trans Bgr.out); have NEgg_gr := Aside0.mk (show gg ≠ gr from by rw [hg]; exact Nat.ne_of_gt (blk_lt Bgr.out)); clear Bgr; have Bgr := mgr; clear mgr; have mgp := Aside0.mk ((hb.block _ (blk_lt Bgp.out)).trans Bgp.out); have NEgg_gp := Aside0.mk (show gg ≠ gp from by rw [hg]; exact Nat.ne_of_gt (blk_lt Bgp.out)); clear Bgp; have Bgp := mgp; clear mgp; have n0_ := Aside0.mk (below_step (by repeat (first | (with_reducible first | exact HB.out | apply below_alloc | apply pw_below_drewN | apply below_drew1) | exact HB.out)) hb); have n1_ := Aside0.mk (hbox); have n2_ := Aside0.mk ((by rw [hg]; exact (below_size (by repeat (first | (with_reducible first | exact HB.out | apply below_alloc | apply pw_below_drewN | apply below_drew1) | exact HB.out))) : w.heap.size ≤ gg)); clear HB; have HB := n0_; have Bgg := n1_; have Ggg := n2_; clear n0_ n1_ n2_; clear hb hbox hg; have hcgf0 : v6_.cell? ⟨gf, 0, none⟩ = some (.bool f0) := (blk_cell Bgf.out 0).trans rfl; have hfgf0 := blk_frozen Bgf.out 0; have hcgf1 : v6_.cell? ⟨gf, 1, none⟩ = some (.bool f1) := (blk_cell Bgf.out 1).trans rfl; have hfgf1 := blk_frozen Bgf.out 1; have hcgf2 : v6_.cell? ⟨gf, 2, none⟩ = some (.bool true) := (blk_cell Bgf.out 2).trans rfl; have hfgf2 := blk_frozen Bgf.out 2; have hcgf3 : v6_.cell? ⟨gf, 3, none⟩ = some (.bool f3) := (blk_cell Bgf.out 3).trans rfl; have hfgf3 := blk_frozen Bgf.out 3; have hcgf4 : v6_.cell? ⟨gf, 4, none⟩ = some (.bool f4) := (blk_cell Bgf.out 4).trans rfl; have hfgf4 := blk_frozen Bgf.out 4; have hcgf5 : v6_.cell? ⟨gf, 5, none⟩ = some (.bool f5) := (blk_cell Bgf.out 5).trans rfl; have hfgf5 := blk_frozen Bgf.out 5; have hcgg0 : v6_.cell? ⟨gg, 0, none⟩ = some (.bool false) := (blk_cell Bgg.out 0).trans rfl; have hfgg0 := blk_frozen Bgg.out 0; have hcgg1 : v6_.cell? ⟨gg, 1, none⟩ = some (.bool false) := (blk_cell Bgg.out 1).trans rfl; have hfgg1 := blk_frozen Bgg.out 1; have hcgg2 : v6_.cell? ⟨gg, 2, none⟩ = some (.bool false) := (blk_cell Bgg.out 2).trans rfl; have hfgg2 := blk_frozen Bgg.out 2; have hcgg3 : v6_.cell? ⟨gg, 3, none⟩ = some (.bool false) := (blk_cell Bgg.out 3).trans rfl; have hfgg3 := blk_frozen Bgg.out 3; have hcgg4 : v6_.cell? ⟨gg, 4, none⟩ = some (.bool false) := (blk_cell Bgg.out 4).trans rfl; have hfgg4 := blk_frozen Bgg.out 4; have hcgg5 : v6_.cell? ⟨gg, 5, none⟩ = some (.bool false) := (blk_cell Bgg.out 5).trans rfl; have hfgg5 := blk_frozen Bgg.out 5; have hfargggf : ∀ (W_ : World) (i_ j_ : Nat) (v_ : Value), (W_.setCell ⟨gg, i_, none⟩ v_).cell? ⟨gf, j_, none⟩ = W_.cell? ⟨gf, j_, none⟩ := fun W_ i_ j_ v_ => World.cell?_setCell_other W_ ⟨gg, i_, none⟩ ⟨gf, j_, none⟩ v_ (fun e_ => absurd (congrArg Addr.block e_) (by first | exact NEgg_gf.out | exact NEgf_gg.out.symm))))
  clear hcgf0 hfgf0 hcgf1 hfgf1 hcgf2 hfgf2 hcgf3 hfgf3 hcgf4 hfgf4 hcgf5 hfgf5 hcgg0 hfgg0 hcgg1 hfgg1 hcgg2 hfgg2 hcgg3 hfgg3 hcgg4 hfgg4 hcgg5 hfgg5 hfargggf
  have mgg := Aside0.mk (show ((((((((v6_).setCell ⟨gg, 0, none⟩ (.bool r2)).setCell ⟨gg, 1, none⟩ (.bool r3)).setCell ⟨gg, 2, none⟩ (.bool false)).setCell ⟨gg, 3, none⟩ (.bool f3)).setCell ⟨gg, 4, none⟩ (.bool r6)).setCell ⟨gg, 5, none⟩ (.bool r7)).setCell ⟨gg, 2, none⟩ (.bool true)).heap[gg]? = some (.cells #[.bool r2, .bool r3, .bool true, .bool f3, .bool r6, .bool r7] 40 (0, 0)) from (by refine blk_put (cs := #[.bool r2, .bool r3, .bool false, .bool f3, .bool r6, .bool r7]) ?_ 2 _ rfl; refine blk_put (cs := #[.bool r2, .bool r3, .bool false, .bool f3, .bool r6, .bool false]) ?_ 5 _ rfl; refine blk_put (cs := #[.bool r2, .bool r3, .bool false, .bool f3, .bool false, .bool false]) ?_ 4 _ rfl; refine blk_put (cs := #[.bool r2, .bool r3, .bool false, .bool false, .bool false, .bool false]) ?_ 3 _ rfl; refine blk_put (cs := #[.bool r2, .bool r3, .bool false, .bool false, .bool false, .bool false]) ?_ 2 _ rfl; refine blk_put (cs := #[.bool r2, .bool false, .bool false, .bool false, .bool false, .bool false]) ?_ 1 _ rfl; refine blk_put (cs := #[.bool false, .bool false, .bool false, .bool false, .bool false, .bool false]) ?_ 0 _ rfl; exact Bgg.out))
  have ne_ : gf ≠ gg := by first | exact NEgg_gf.out.symm | exact NEgf_gg.out
  have mgf := Aside0.mk (blk_far (p := ⟨gg, 2, none⟩) (blk_far (p := ⟨gg, 5, none⟩) (blk_far (p := ⟨gg, 4, none⟩) (blk_far (p := ⟨gg, 3, none⟩) (blk_far (p := ⟨gg, 2, none⟩) (blk_far (p := ⟨gg, 1, none⟩) (blk_far (p := ⟨gg, 0, none⟩) Bgf.out ne_ (.bool r2)) ne_ (.bool r3)) ne_ (.bool false)) ne_ (.bool f3)) ne_ (.bool r6)) ne_ (.bool r7)) ne_ (.bool true))
  clear ne_
  have ne_ : gr ≠ gg := by first | exact NEgg_gr.out.symm | exact NEgr_gg.out
  have mgr := Aside0.mk (blk_far (p := ⟨gg, 2, none⟩) (blk_far (p := ⟨gg, 5, none⟩) (blk_far (p := ⟨gg, 4, none⟩) (blk_far (p := ⟨gg, 3, none⟩) (blk_far (p := ⟨gg, 2, none⟩) (blk_far (p := ⟨gg, 1, none⟩) (blk_far (p := ⟨gg, 0, none⟩) Bgr.out ne_ (.bool r2)) ne_ (.bool r3)) ne_ (.bool false)) ne_ (.bool f3)) ne_ (.bool r6)) ne_ (.bool r7)) ne_ (.bool true))
  clear ne_
  have ne_ : gp ≠ gg := by first | exact NEgg_gp.out.symm | exact NEgp_gg.out
  have mgp := Aside0.mk (blk_far (p := ⟨gg, 2, none⟩) (blk_far (p := ⟨gg, 5, none⟩) (blk_far (p := ⟨gg, 4, none⟩) (blk_far (p := ⟨gg, 3, none⟩) (blk_far (p := ⟨gg, 2, none⟩) (blk_far (p := ⟨gg, 1, none⟩) (blk_far (p := ⟨gg, 0, none⟩) Bgp.out ne_ (.bool r2)) ne_ (.bool r3)) ne_ (.bool false)) ne_ (.bool f3)) ne_ (.bool r6)) ne_ (.bool r7)) ne_ (.bool true))
  clear ne_
  have mH := Aside0.mk (below_set (j := 2) (v := .bool true) (below_set (j := 5) (v := .bool r7) (below_set (j := 4) (v := .bool r6) (below_set (j := 3) (v := .bool f3) (below_set (j := 2) (v := .bool false) (below_set (j := 1) (v := .bool r3) (below_set (j := 0) (v := .bool r2) HB.out Ggg.out) Ggg.out) Ggg.out) Ggg.out) Ggg.out) Ggg.out) Ggg.out)
  clear HB Bgg Bgf Bgr Bgp
  have HB := mH
  have Bgg := mgg
  have Bgf := mgf
  have Bgr := mgr
  have Bgp := mgp
  clear mH mgg mgf mgr mgp
  with_reducible generalize (((((((v6_).setCell ⟨gg, 0, none⟩ (.bool r2)).setCell ⟨gg, 1, none⟩ (.bool r3)).setCell ⟨gg, 2, none⟩ (.bool false)).setCell ⟨gg, 3, none⟩ (.bool f3)).setCell ⟨gg, 4, none⟩ (.bool r6)).setCell ⟨gg, 5, none⟩ (.bool r7)).setCell ⟨gg, 2, none⟩ (.bool true) = v7_ at HB Bgg Bgf Bgr Bgp ⊢
  refine (impl_one.calls f5 t _ HT.out).mono ?_
  rintro e v8_ ⟨rfl, hd_⟩
  have hb_ := hd_.below
  clear hd_
  have mgf := Aside0.mk ((hb_.block gf (blk_lt Bgf.out)).trans Bgf.out)
  have mgr := Aside0.mk ((hb_.block gr (blk_lt Bgr.out)).trans Bgr.out)
  have mgp := Aside0.mk ((hb_.block gp (blk_lt Bgp.out)).trans Bgp.out)
  have mgg := Aside0.mk ((hb_.block gg (blk_lt Bgg.out)).trans Bgg.out)
  have mH := Aside0.mk (below_step HB.out hb_)
  clear HB Bgf Bgr Bgp Bgg hb_
  have HB := mH
  have Bgf := mgf
  have Bgr := mgr
  have Bgp := mgp
  have Bgg := mgg
  clear mH mgf mgr mgp mgg
  have hcgg0 : v8_.cell? ⟨gg, 0, none⟩ = some (.bool r2) := (blk_cell Bgg.out 0).trans rfl
  have hfgg0 := blk_frozen Bgg.out 0
  have hcgg1 : v8_.cell? ⟨gg, 1, none⟩ = some (.bool r3) := (blk_cell Bgg.out 1).trans rfl
  have hfgg1 := blk_frozen Bgg.out 1
  have hcgg2 : v8_.cell? ⟨gg, 2, none⟩ = some (.bool true) := (blk_cell Bgg.out 2).trans rfl
  have hfgg2 := blk_frozen Bgg.out 2
  have hcgg3 : v8_.cell? ⟨gg, 3, none⟩ = some (.bool f3) := (blk_cell Bgg.out 3).trans rfl
  have hfgg3 := blk_frozen Bgg.out 3
  have hcgg4 : v8_.cell? ⟨gg, 4, none⟩ = some (.bool r6) := (blk_cell Bgg.out 4).trans rfl
  have hfgg4 := blk_frozen Bgg.out 4
  have hcgg5 : v8_.cell? ⟨gg, 5, none⟩ = some (.bool r7) := (blk_cell Bgg.out 5).trans rfl
  have hfgg5 := blk_frozen Bgg.out 5
  try go_wp2_with (fail)
  have hcgg0 : v8_.cell? ⟨gg, 0, none⟩ = some (.bool r2) := (blk_cell Bgg.out 0).trans rfl
  have hfgg0 := blk_frozen Bgg.out 0
  have hcgg1 : v8_.cell? ⟨gg, 1, none⟩ = some (.bool r3) := (blk_cell Bgg.out 1).trans rfl
  have hfgg1 := blk_frozen Bgg.out 1
  have hcgg2 : v8_.cell? ⟨gg, 2, none⟩ = some (.bool true) := (blk_cell Bgg.out 2).trans rfl
  have hfgg2 := blk_frozen Bgg.out 2
  have hcgg3 : v8_.cell? ⟨gg, 3, none⟩ = some (.bool f3) := (blk_cell Bgg.out 3).trans rfl
  have hfgg3 := blk_frozen Bgg.out 3
  have hcgg4 : v8_.cell? ⟨gg, 4, none⟩ = some (.bool r6) := (blk_cell Bgg.out 4).trans rfl
  have hfgg4 := blk_frozen Bgg.out 4
  have hcgg5 : v8_.cell? ⟨gg, 5, none⟩ = some (.bool r7) := (blk_cell Bgg.out 5).trans rfl
  have hfgg5 := blk_frozen Bgg.out 5
  go_still_tail 4, (by kernel_rfl)
  clear hcgg0 hfgg0 hcgg1 hfgg1 hcgg2 hfgg2 hcgg3 hfgg3 hcgg4 hfgg4 hcgg5 hfgg5
  have mgf := Aside0.mk (blk_drew Bgf.out)
  have mgr := Aside0.mk (blk_drew Bgr.out)
  have mgp := Aside0.mk (blk_drew Bgp.out)
  have mgg := Aside0.mk (blk_drew Bgg.out)
  have mH := Aside0.mk (below_drew1 HB.out)
  clear HB Bgf Bgr Bgp Bgg
  have HB := mH
  have Bgf := mgf
  have Bgr := mgr
  have Bgp := mgp
  have Bgg := mgg
  clear mH mgf mgr mgp mgg
  show wpList Try.prog _ _ _ _ v8_.drew
  generalize v8_.drew = v9_ at HB Bgf Bgr Bgp Bgg ⊢
  have hcgg0 : v9_.cell? ⟨gg, 0, none⟩ = some (.bool r2) := (blk_cell Bgg.out 0).trans rfl
  have hfgg0 := blk_frozen Bgg.out 0
  have hcgg1 : v9_.cell? ⟨gg, 1, none⟩ = some (.bool r3) := (blk_cell Bgg.out 1).trans rfl
  have hfgg1 := blk_frozen Bgg.out 1
  have hcgg2 : v9_.cell? ⟨gg, 2, none⟩ = some (.bool true) := (blk_cell Bgg.out 2).trans rfl
  have hfgg2 := blk_frozen Bgg.out 2
  have hcgg3 : v9_.cell? ⟨gg, 3, none⟩ = some (.bool f3) := (blk_cell Bgg.out 3).trans rfl
  have hfgg3 := blk_frozen Bgg.out 3
  have hcgg4 : v9_.cell? ⟨gg, 4, none⟩ = some (.bool r6) := (blk_cell Bgg.out 4).trans rfl
  have hfgg4 := blk_frozen Bgg.out 4
  have hcgg5 : v9_.cell? ⟨gg, 5, none⟩ = some (.bool r7) := (blk_cell Bgg.out 5).trans rfl
  have hfgg5 := blk_frozen Bgg.out 5
  have hcgr0 : v9_.cell? ⟨gr, 0, none⟩ = some (.bool false) := (blk_cell Bgr.out 0).trans rfl
  have hfgr0 := blk_frozen Bgr.out 0
  have hcgr1 : v9_.cell? ⟨gr, 1, none⟩ = some (.bool false) := (blk_cell Bgr.out 1).trans rfl
  have hfgr1 := blk_frozen Bgr.out 1
  have hcgr2 : v9_.cell? ⟨gr, 2, none⟩ = some (.bool false) := (blk_cell Bgr.out 2).trans rfl
  have hfgr2 := blk_frozen Bgr.out 2
  have hcgr3 : v9_.cell? ⟨gr, 3, none⟩ = some (.bool false) := (blk_cell Bgr.out 3).trans rfl
  have hfgr3 := blk_frozen Bgr.out 3
  have hcgr4 : v9_.cell? ⟨gr, 4, none⟩ = some (.bool false) := (blk_cell Bgr.out 4).trans rfl
  have hfgr4 := blk_frozen Bgr.out 4
  have hcgr5 : v9_.cell? ⟨gr, 5, none⟩ = some (.bool false) := (blk_cell Bgr.out 5).trans rfl
  have hfgr5 := blk_frozen Bgr.out 5
  try go_wp2_with (fail)
  refine bodyPost_ret (results_tc rfl _ _ gr 40 #[.bool r2, .bool r3, .bool true, .bool f3, .bool r6, .bool r7] (0, 0) _ rfl (by (with_reducible repeat (first | refine blk_drewN ?_ _ | refine blk_drew ?_ | refine blk_alloc ?_ _)); refine blk_put (cs := #[.bool r2, .bool r3, .bool true, .bool f3, .bool r6, .bool false]) ?_ 5 _ rfl; (with_reducible repeat (first | refine blk_drewN ?_ _ | refine blk_drew ?_ | refine blk_alloc ?_ _)); refine blk_put (cs := #[.bool r2, .bool r3, .bool true, .bool f3, .bool false, .bool false]) ?_ 4 _ rfl; (with_reducible repeat (first | refine blk_drewN ?_ _ | refine blk_drew ?_ | refine blk_alloc ?_ _)); refine blk_put (cs := #[.bool r2, .bool r3, .bool true, .bool false, .bool false, .bool false]) ?_ 3 _ rfl; (with_reducible repeat (first | refine blk_drewN ?_ _ | refine blk_drew ?_ | refine blk_alloc ?_ _)); refine blk_put (cs := #[.bool r2, .bool r3, .bool false, .bool false, .bool false, .bool false]) ?_ 2 _ rfl; (with_reducible repeat (first | refine blk_drewN ?_ _ | refine blk_drew ?_ | refine blk_alloc ?_ _)); refine blk_put (cs := #[.bool r2, .bool false, .bool false, .bool false, .bool false, .bool false]) ?_ 1 _ rfl; (with_reducible repeat (first | refine blk_drewN ?_ _ | refine blk_drew ?_ | refine blk_alloc ?_ _)); refine blk_put (cs := #[.bool false, .bool false, .bool false, .bool false, .bool false, .bool false]) ?_ 0 _ rfl; (with_reducible repeat (first | refine blk_drewN ?_ _ | refine blk_drew ?_ | refine blk_alloc ?_ _)); exact Bgr.out) Try.underlying40 rfl (by kernel_rfl)) rfl ?_
  have e1_ := H1'.out
  have e2_ := HH.out
  subst e1_
  subst e2_
  exact ⟨by first | rfl | (simp; done) | simp [*], by repeat (first | (with_reducible first | exact HB.out | apply below_alloc | apply pw_below_drewN | apply below_drew1 | refine below_set ?_ Ggf.out | refine below_set ?_ Ggr.out | refine below_set ?_ Ggp.out | refine below_set ?_ Ggg.out) | exact HB.out)⟩
set_option maxHeartbeats 2000000 in
set_option maxRecDepth 100000 in
theorem impl_Sbc.dec_nc (a b : Int) (f0 f1 f3 f4 f5 : Bool) (w : World) (a0 : 0 ≤ a) (a1 : a ≤ 255) (b0 : 0 ≤ b) (b1 : b ≤ 255) (r1 : Int) (r2 r3 r4 r5 r6 r7 : Bool) (c10 : ¬ a % 16 - b % 16 - 1 + tc f5 < 0) (c160 : difH a b (tc f5) < 0) (hr : sbc a b true f3 f5 = (r1, r2, r3, r4, r5, r6, r7)) : Calls Try.prog 60 #[.int .u8 a, .int .u8 b, .agg #[.bool f0, .bool f1, .bool true, .bool f3, .bool f4, .bool f5]] w fun e w' => e = .returned (.tuple #[.int .u8 r1, .agg #[.bool r2, .bool r3, .bool r4, .bool r5, .bool r6, .bool r7]]) ∧ Below w.heap.size w w' := by
  simp only [sbc, bin, Prod.mk.injEq, if_true] at hr
  obtain ⟨h1, h2, h3, rfl, rfl, h6, h7⟩ := hr
  have y0 : 0 ≤ 255 - b := by omega
  have y1 : 255 - b ≤ 255 := by omega
  have yn : Go.bits .xor .u8 IntKind.u8.max b = 255 - b := not8 b0 b1
  obtain ⟨q1, hq⟩ : ∃ q1, bin a (255 - b) (tc f5) false f3 = (q1, r2, r3, false, f3, r6, r7) := ⟨(a + (255 - b) + tc f5) % 256, by simp only [bin, h2, h3, h6, h7]⟩
  have HP : Aside0 (impl_Adc.f a (255 - b) f0 f1 false f3 f4 f5 = some (q1, r2, r3, false, f3, r6, r7)) := ⟨by
    unfold impl_Adc.f
    rw [if_pos (byteOk_mk a0 a1 (by omega) (by omega))]
    exact congrArg some hq⟩
  clear hq h2 h3 h6 h7
  obtain ⟨t0, t1⟩ := tc01 f5
  have HT := Aside0.mk (one_tc2 f5)
  generalize tc f5 = t at t0 t1 HT h1 c10 c160
  have q1 := and15 a0 a1
  have q2 := and15 b0 b1
  have q3 := and240 a0 a1
  have q4 := and240 b0 b1
  have x1 : 0 ≤ a % 16 := by omega
  have x2 : a % 16 ≤ 15 := by omega
  have x3 : 0 ≤ b % 16 := by omega
  have x4 : b % 16 ≤ 15 := by omega
  have x5 : 0 ≤ a - a % 16 := by omega
  have x6 : a - a % 16 ≤ 240 := by omega
  have x7 : 0 ≤ b - b % 16 := by omega
  have x8 : b - b % 16 ≤ 240 := by omega
  generalize hh : difH a b t = h at h1 c160
  simp only [difH, difL] at hh
  generalize a - a % 16 = ah at q3 hh x5 x6
  generalize b - b % 16 = bh at q4 hh x7 x8
  generalize a % 16 = al at q1 hh x1 x2 c10
  generalize b % 16 = bl at q2 hh x3 x4 c10
  have d10 : decide (al - bl - 1 + t < 0) = false := decide_eq_false c10
  rw [lowS, if_neg c10] at hh
  have d160 : decide (h < 0) = true := decide_eq_true c160
  rw [topS, if_pos c160] at h1
  have g0 : -600 ≤ h := by omega
  have g1 : h ≤ 600 := by omega
  have d160 : decide (ah - bh + (al - bl - 1 + t) < 0) = true := decide_eq_true (by omega)
  have H1' := Aside0.mk h1
  have HH := Aside0.mk hh
  clear h1 hh c10 c160
  have HB := Aside0.mk (Below.refl w.heap.size w)
  have hu24 := Try.underlying40
  go_enter Try.func60, Try.ntmps60
  try go_wp2_with (first | ((with_reducible refine gate_dst (N := 5) rfl ?_); refine box_event ?hg (N := 5) ?hd (cs := #[.bool f0, .bool f1, .bool true, .bool f3, .bool f4, .bool f5]) (t := 40) ?hr ?_; (case hd => rfl); (case hg => rfl); (case hr => first | (go_simp; done) | (go_simp; rfl)); intro gf hg v1_ hbox hb; have n0_ := Aside0.mk (below_step (by repeat (first | (with_reducible first | exact HB.out | apply below_alloc | apply pw_below_drewN | apply below_drew1) | exact HB.out)) hb); have n1_ := Aside0.mk (hbox); have n2_ := Aside0.mk ((by rw [hg]; exact (below_size (by repeat (first | (with_reducible first | exact HB.out | apply below_alloc | apply pw_below_drewN | apply below_drew1) | exact HB.out))) : w.heap.size ≤ gf)); clear HB; have HB := n0_; have Bgf := n1_; have Ggf := n2_; clear n0_ n1_ n2_; clear hb hbox hg) | ((with_reducible refine gate_dst (N := 7) rfl ?_); refine box_event ?hg (N := 7) ?hd (cs := #[.bool false, .bool false, .bool false, .bool false, .bool false, .bool false]) (t := 40) ?hr ?_; (case hd => rfl); (case hg => rfl); (case hr => first | (go_simp; done) | (go_simp; rfl)); intro gr hg v2_ hbox hb; have mgf := Aside0.mk ((hb.block _ (blk_lt Bgf.out)).trans Bgf.out); have NEgr_gf := Aside0.mk (show gr ≠ gf from by rw [hg]; exact Nat.ne_of_gt (blk_lt Bgf.out)); clear Bgf; have Bgf := mgf; clear mgf; have n0_ := Aside0.mk (below_step (by repeat (first | (with_reducible first | exact HB.out | apply below_alloc | apply pw_below_drewN | apply below_drew1) | exact HB.out)) hb); have n1_ := Aside0.mk (hbox); have n2_ := Aside0.mk ((by rw [hg]; exact (below_size (by repeat (first | (with_reducible first | exact HB.out | apply below_alloc | apply pw_below_drewN | apply below_drew1) | exact HB.out))) : w.heap.size ≤ gr)); clear HB; have HB := n0_; have Bgr := n1_; have Ggr := n2_; clear n0_ n1_ n2_; clear hb hbox hg; have hcgf0 : v2_.cell? ⟨gf, 0, none⟩ = some (.bool f0) := (blk_cell Bgf.out 0).trans rfl; have hfgf0 := blk_frozen Bgf.out 0; have hcgf1 : v2_.cell? ⟨gf, 1, none⟩ = some (.bool f1) := (blk_cell Bgf.out 1).trans rfl; have hfgf1 := blk_frozen Bgf.out 1; have hcgf2 : v2_.cell? ⟨gf, 2, none⟩ = some (.bool true) := (blk_cell Bgf.out 2).trans rfl; have hfgf2 := blk_frozen Bgf.out 2; have hcgf3 : v2_.cell? ⟨gf, 3, none⟩ = some (.bool f3) := (blk_cell Bgf.out 3).trans rfl; have hfgf3 := blk_frozen Bgf.out 3; have hcgf4 : v2_.cell? ⟨gf, 4, none⟩ = some (.bool f4) := (blk_cell Bgf.out 4).trans rfl; have hfgf4 := blk_frozen Bgf.out 4; have hcgf5 : v2_.cell? ⟨gf, 5, none⟩ = some (.bool f5) := (blk_cell Bgf.out 5).trans rfl; have hfgf5 := blk_frozen Bgf.out 5) | ((with_reducible refine gate_dst (N := 8) rfl ?_); refine box_event ?hg (N := 8) ?hd (cs := #[.bool false, .bool false, .bool false, .bool false, .bool false, .bool false]) (t := 40) ?hr ?_; (case hd => rfl); (case hg => rfl); (case hr => first | (go_simp; done) | (go_simp; rfl)); intro gp hg v3_ hbox hb; clear hcgf0 hfgf0 hcgf1 hfgf1 hcgf2 hfgf2 hcgf3 hfgf3 hcgf4 hfgf4 hcgf5 hfgf5; have mgf := Aside0.mk ((hb.block _ (blk_lt Bgf.out)).trans Bgf.out); have NEgp_gf := Aside0.mk (show gp ≠ gf from by rw [hg]; exact Nat.ne_of_gt (blk_lt Bgf.out)); clear Bgf; have Bgf := mgf; clear mgf; have mgr := Aside0.mk ((hb.block _ (blk_lt Bgr.out)).trans Bgr.out); have NEgp_gr := Aside0.mk (show gp ≠ gr from by rw [hg]; exact Nat.ne_of_gt (blk_lt Bgr.out)); clear Bgr; have Bgr := mgr; clear mgr; have n0_ := Aside0.mk (below_step (by repeat (first | (with_reducible first | exact HB.out | apply below_alloc | apply pw_below_drewN | apply below_drew1) | exact HB.out)) hb); have n1_ := Aside0.mk (hbox); have n2_ := Aside0.mk ((by rw [hg]; exact (below_size (by repeat (first | (with_reducible first | exact HB.out | apply below_alloc | apply pw_below_drewN | apply below_drew1) | exact HB.out))) : w.heap.size ≤ gp)); clear HB; have HB := n0_; have Bgp := n1_; have Ggp := n2_; clear n0_ n1_ n2_; clear hb hbox hg; have hcgf0 : v3_.cell? ⟨gf, 0, none⟩ = some (.bool f0) := (blk_cell Bgf.out 0).trans rfl; have hfgf0 := blk_frozen Bgf.out 0; have hcgf1 : v3_.cell? ⟨gf, 1, none⟩ = some (.bool f1) := (blk_cell Bgf.out 1).trans rfl; have hfgf1 := blk_frozen Bgf.out 1; have hcgf2 : v3_.cell? ⟨gf, 2, none⟩ = some (.bool true) := (blk_cell Bgf.out 2).trans rfl; have hfgf2 := blk_frozen Bgf.out 2; have hcgf3 : v3_.cell? ⟨gf, 3, none⟩ = some (.bool f3) := (blk_cell Bgf.out 3).trans rfl; have hfgf3 := blk_frozen Bgf.out 3; have hcgf4 : v3_.cell? ⟨gf, 4, none⟩ = some (.bool f4) := (blk_cell Bgf.out 4).trans rfl; have hfgf4 := blk_frozen Bgf.out 4; have hcgf5 : v3_.cell? ⟨gf, 5, none⟩ = some (.bool f5) := (blk_cell Bgf.out 5).trans rfl; have hfgf5 := blk_frozen Bgf.out 5; have hcgp0 : v3_.cell? ⟨gp, 0, none⟩ = some (.bool false) := (blk_cell Bgp.out 0).trans rfl; have hfgp0 := blk_frozen Bgp.out 0; have hcgp1 : v3_.cell? ⟨gp, 1, none⟩ = some (.bool false) := (blk_cell Bgp.out 1).trans rfl; have hfgp1 := blk_frozen Bgp.out 1; have hcgp2 : v3_.cell? ⟨gp, 2, none⟩ = some (.bool false) := (blk_cell Bgp.out 2).trans rfl; have hfgp2 := blk_frozen Bgp.out 2; have hcgp3 : v3_.cell? ⟨gp, 3, none⟩ = some (.bool false) := (blk_cell Bgp.out 3).trans rfl; have hfgp3 := blk_frozen Bgp.out 3; have hcgp4 : v3_.cell? ⟨gp, 4, none⟩ = some (.bool false) := (blk_cell Bgp.out 4).trans rfl; have hfgp4 := blk_frozen Bgp.out 4; have hcgp5 : v3_.cell? ⟨gp, 5, none⟩ = some (.bool false) := (blk_cell Bgp.out 5).trans rfl; have hfgp5 := blk_frozen Bgp.out 5))
  clear hcgf0 hfgf0 hcgf1 hfgf1 hcgf2 hfgf2 hcgf3 hfgf3 hcgf4 hfgf4 hcgf5 hfgf5 hcgp0 hfgp0 hcgp1 hfgp1 hcgp2 hfgp2 hcgp3 hfgp3 hcgp4 hfgp4 hcgp5 hfgp5
  have mgp := Aside0.mk (show ((((((((v3_).setCell ⟨gp, 0, none⟩ (.bool f0)).setCell ⟨gp, 1, none⟩ (.bool f1)).setCell ⟨gp, 2, none⟩ (.bool true)).setCell ⟨gp, 3, none⟩ (.bool f3)).setCell ⟨gp, 4, none⟩ (.bool f4)).setCell ⟨gp, 5, none⟩ (.bool f5)).setCell ⟨gp, 2, none⟩ (.bool false)).heap[gp]? = some (.cells #[.bool f0, .bool f1, .bool false, .bool f3, .bool f4, .bool f5] 40 (0, 0)) from (by refine blk_put (cs := #[.bool f0, .bool f1, .bool true, .bool f3, .bool f4, .bool f5]) ?_ 2 _ rfl; refine blk_put (cs := #[.bool f0, .bool f1, .bool true, .bool f3, .bool f4, .bool false]) ?_ 5 _ rfl; refine blk_put (cs := #[.bool f0, .bool f1, .bool true, .bool f3, .bool false, .bool false]) ?_ 4 _ rfl; refine blk_put (cs := #[.bool f0, .bool f1, .bool true, .bool false, .bool false, .bool false]) ?_ 3 _ rfl; refine blk_put (cs := #[.bool f0, .bool f1, .bool false, .bool false, .bool false, .bool false]) ?_ 2 _ rfl; refine blk_put (cs := #[.bool f0, .bool false, .bool false, .bool false, .bool false, .bool false]) ?_ 1 _ rfl; refine blk_put (cs := #[.bool false, .bool false, .bool false, .bool false, .bool false, .bool false]) ?_ 0 _ rfl; exact Bgp.out))
  have ne_ : gf ≠ gp := by first | exact NEgp_gf.out.symm | exact NEgf_gp.out
  have mgf := Aside0.mk (blk_far (p := ⟨gp, 2, none⟩) (blk_far (p := ⟨gp, 5, none⟩) (blk_far (p := ⟨gp, 4, none⟩) (blk_far (p := ⟨gp, 3, none⟩) (blk_far (p := ⟨gp, 2, none⟩) (blk_far (p := ⟨gp, 1, none⟩) (blk_far (p := ⟨gp, 0, none⟩) Bgf.out ne_ (.bool f0)) ne_ (.bool f1)) ne_ (.bool true)) ne_ (.bool f3)) ne_ (.bool f4)) ne_ (.bool f5)) ne_ (.bool false))
  clear ne_
  have ne_ : gr ≠ gp := by first | exact NEgp_gr.out.symm | exact NEgr_gp.out
  have mgr := Aside0.mk (blk_far (p := ⟨gp, 2, none⟩) (blk_far (p := ⟨gp, 5, none⟩) (blk_far (p := ⟨gp, 4, none⟩) (blk_far (p := ⟨gp, 3, none⟩) (blk_far (p := ⟨gp, 2, none⟩) (blk_far (p := ⟨gp, 1, none⟩) (blk_far (p := ⟨gp, 0, none⟩) Bgr.out ne_ (.bool f0)) ne_ (.bool f1)) ne_ (.bool true)) ne_ (.bool f3)) ne_ (.bool f4)) ne_ (.bool f5)) ne_ (.bool false))
  clear ne_
  have mH := Aside0.mk (below_set (j := 2) (v := .bool false) (below_set (j := 5) (v := .bool f5) (below_set (j := 4) (v := .bool f4) (below_set (j := 3) (v := .bool f3) (below_set (j := 2) (v := .bool true) (below_set (j := 1) (v := .bool f1) (below_set (j := 0) (v := .bool f0) HB.out Ggp.out) Ggp.out) Ggp.out) Ggp.out) Ggp.out) Ggp.out) Ggp.out)
  clear HB Bgp Bgf Bgr
  have HB := mH
  have Bgp := mgp
  have Bgf := mgf
  have Bgr := mgr
  clear mH mgp mgf mgr
  with_reducible generalize (((((((v3_).setCell ⟨gp, 0, none⟩ (.bool f0)).setCell ⟨gp, 1, none⟩ (.bool f1)).setCell ⟨gp, 2, none⟩ (.bool true)).setCell ⟨gp, 3, none⟩ (.bool f3)).setCell ⟨gp, 4, none⟩ (.bool f4)).setCell ⟨gp, 5, none⟩ (.bool f5)).setCell ⟨gp, 2, none⟩ (.bool false) = v4_ at HB Bgp Bgf Bgr ⊢
  refine (impl_Adc.calls a (255 - b) f0 f1 false f3 f4 f5 _ _ _ _ _ _ _ _ HP.out).mono ?_
  rintro e v5_ ⟨rfl, hb_⟩
  have mgf := Aside0.mk ((hb_.block gf (blk_lt Bgf.out)).trans Bgf.out)
  have mgr := Aside0.mk ((hb_.block gr (blk_lt Bgr.out)).trans Bgr.out)
  have mgp := Aside0.mk ((hb_.block gp (blk_lt Bgp.out)).trans Bgp.out)
  have mH := Aside0.mk (below_step HB.out hb_)
  clear HB Bgf Bgr Bgp hb_
  have HB := mH
  have Bgf := mgf
  have Bgr := mgr
  have Bgp := mgp
  clear mH mgf mgr mgp
  have hcgf0 : v5_.cell? ⟨gf, 0, none⟩ = some (.bool f0) := (blk_cell Bgf.out 0).trans rfl
  have hfgf0 := blk_frozen Bgf.out 0
  have hcgf1 : v5_.cell? ⟨gf, 1, none⟩ = some (.bool f1) := (blk_cell Bgf.out 1).trans rfl
  have hfgf1 := blk_frozen Bgf.out 1
  have hcgf2 : v5_.cell? ⟨gf, 2, none⟩ = some (.bool true) := (blk_cell Bgf.out 2).trans rfl
  have hfgf2 := blk_frozen Bgf.out 2
  have hcgf3 : v5_.cell? ⟨gf, 3, none⟩ = some (.bool f3) := (blk_cell Bgf.out 3).trans rfl
  have hfgf3 := blk_frozen Bgf.out 3
  have hcgf4 : v5_.cell? ⟨gf, 4, none⟩ = some (.bool f4) := (blk_cell Bgf.out 4).trans rfl
  have hfgf4 := blk_frozen Bgf.out 4
  have hcgf5 : v5_.cell? ⟨gf, 5, none⟩ = some (.bool f5) := (blk_cell Bgf.out 5).trans rfl
  have hfgf5 := blk_frozen Bgf.out 5
  try go_wp2_with (first | ((with_reducible refine gate_dst (N := 10) rfl ?_); refine box_event ?hg (N := 10) ?hd (cs := #[.bool false, .bool false, .bool false, .bool false, .bool false, .bool false]) (t := 40) ?hr ?_; (case hd => rfl); (case hg => rfl); (case hr => first | (go_simp; done) | (go_simp; rfl)); intro gg hg v6_ hbox hb; clear hcgf0 hfgf0 hcgf1 hfgf1 hcgf2 hfgf2 hcgf3 hfgf3 hcgf4 hfgf4 hcgf5 hfgf5; have mgf := Aside0.mk ((hb.block _ (blk_lt Bgf.out)).trans Bgf.out); have NEgg_gf := Aside0.mk (show gg ≠ gf from by rw [hg]; exact Nat.ne_of_gt (blk_lt Bgf.out)); clear Bgf; have Bgf := mgf; clear mgf; have mgr := Aside0.mk ((hb.block _ (blk_lt Bgr.out)).trans Bgr.out); have NEgg_gr := Aside0.mk (show gg ≠ gr from by rw [hg]; exact Nat.ne_of_gt (blk_lt Bgr.out)); clear Bgr; have Bgr := mgr; clear mgr; have mgp := Aside0.mk ((hb.block _ (blk_lt Bgp.out)).trans Bgp.out); have NEgg_gp := Aside0.mk (show gg ≠ gp from by rw [hg]; exact Nat.ne_of_gt (blk_lt Bgp.out)); clear Bgp; have Bgp := mgp; clear mgp; have n0_ := Aside0.mk (below_step (by repeat (first | (with_reducible first | exact HB.out | apply below_alloc | apply pw_below_drewN | apply below_drew1) | exact HB.out)) hb); have n1_ := Aside0.mk (hbox); have n2_ := Aside0.mk ((by rw [hg]; exact (below_size (by repeat (first | (with_reducible first | exact HB.out | apply below_alloc | apply pw_below_drewN | apply below_drew1) | exact HB.out))) : w.heap.size ≤ gg)); clear HB; have HB := n0_; have Bgg := n1_; have Ggg := n2_; clear n0_ n1_ n2_; clear hb hbox hg; have hcgf0 : v6_.cell? ⟨gf, 0, none⟩ = some (.bool f0) := (blk_cell Bgf.out 0).trans rfl; have hfgf0 := blk_frozen Bgf.out 0; have hcgf1 : v6_.cell? ⟨gf, 1, none⟩ = some (.bool f1) := (blk_cell Bgf.out 1).trans rfl; have hfgf1 := blk_frozen Bgf.out 1; have hcgf2 : v6_.cell? ⟨gf, 2, none⟩ = some (.bool true) := (blk_cell Bgf.out 2).trans rfl; have hfgf2 := blk_frozen Bgf.out 2; have hcgf3 : v6_.cell? ⟨gf, 3, none⟩ = some (.bool f3) := (blk_cell Bgf.out 3).trans rfl; have hfgf3 := blk_frozen Bgf.out 3; have hcgf4 : v6_.cell? ⟨gf, 4, none⟩ = some (.bool f4) := (blk_cell Bgf.out 4).trans rfl; have hfgf4 := blk_frozen Bgf.out 4; have hcgf5 : v6_.cell? ⟨gf, 5, none⟩ = some (.bool f5) := (blk_cell Bgf.out 5).trans rfl; have hfgf5 := blk_frozen Bgf.out 5; have hcgg0 : v6_.cell? ⟨gg, 0, none⟩ = some (.bool false) := (blk_cell Bgg.out 0).trans rfl; have hfgg0 := blk_frozen Bgg.out 0; have hcgg1 : v6_.cell? ⟨gg, 1, none⟩ = some (.bool false) := (blk_cell Bgg.out 1).trans rfl; have hfgg1 := blk_frozen Bgg.out 1; have hcgg2 : v6_.cell? ⟨gg, 2, none⟩ = some (.bool false) := (blk_cell Bgg.out 2).trans rfl; have hfgg2 := blk_frozen Bgg.out 2; have hcgg3 : v6_.cell? ⟨gg, 3, none⟩ = some (.bool false) := (blk_cell Bgg.out 3).trans rfl; have hfgg3 := blk_frozen Bgg.out 3; have hcgg4 : v6_.cell? ⟨gg, 4, none⟩ = some (.bool false) := (blk_cell Bgg.out 4).trans rfl; have hfgg4 := blk_frozen Bgg.out 4; have hcgg5 : v6_.cell? ⟨gg, 5, none⟩ = some (.bool false) := (blk_cell Bgg.out 5).trans rfl; have hfgg5 := blk_frozen Bgg.out 5; have hfargggf : ∀ (W_ : World) (i_ j_ : Nat) (v_ : Value), (W_.setCell ⟨gg, i_, none⟩ v_).cell? ⟨gf, j_, none⟩ = W_.cell? ⟨gf, j_, none⟩ := fun W_ i_ j_ v_ => World.cell?_setCell_other W_ ⟨gg, i_, none⟩ ⟨gf, j_, none⟩ v_ (fun e_ => absurd (congrArg Addr.block e_) (by first | exact NEgg_gf.out | exact NEgf_gg.out.symm))))
  clear hcgf0 hfgf0 hcgf1 hfgf1 hcgf2 hfgf2 hcgf3 hfgf3 hcgf4 hfgf4 hcgf5 hfgf5 hcgg0 hfgg0 hcgg1 hfgg1 hcgg2 hfgg2 hcgg3 hfgg3 hcgg4 hfgg4 hcgg5 hfgg5 hfargggf
  have mgg := Aside0.mk (show ((((((((v6_).setCell ⟨gg, 0, none⟩ (.bool r2)).setCell ⟨gg, 1, none⟩ (.bool r3)).setCell ⟨gg, 2, none⟩ (.bool false)).setCell ⟨gg, 3, none⟩ (.bool f3)).setCell ⟨gg, 4, none⟩ (.bool r6)).setCell ⟨gg, 5, none⟩ (.bool r7)).setCell ⟨gg, 2, none⟩ (.bool true)).heap[gg]? = some (.cells #[.bool r2, .bool r3, .bool true, .bool f3, .bool r6, .bool r7] 40 (0, 0)) from (by refine blk_put (cs := #[.bool r2, .bool r3, .bool false, .bool f3, .bool r6, .bool r7]) ?_ 2 _ rfl; refine blk_put (cs := #[.bool r2, .bool r3, .bool false, .bool f3, .bool r6, .bool false]) ?_ 5 _ rfl; refine blk_put (cs := #[.bool r2, .bool r3, .bool false, .bool f3, .bool false, .bool false]) ?_ 4 _ rfl; refine blk_put (cs := #[.bool r2, .bool r3, .bool false, .bool false, .bool false, .bool false]) ?_ 3 _ rfl; refine blk_put (cs := #[.bool r2, .bool r3, .bool false, .bool false, .bool false, .bool false]) ?_ 2 _ rfl; refine blk_put (cs := #[.bool r2, .bool false, .bool false, .bool false, .bool false, .bool false]) ?_ 1 _ rfl; refine blk_put (cs := #[.bool false, .bool false, .bool false, .bool false, .bool false, .bool false]) ?_ 0 _ rfl; exact Bgg.out))
  have ne_ : gf ≠ gg := by first | exact NEgg_gf.out.symm | exact NEgf_gg.out
  have mgf := Aside0.mk (blk_far (p := ⟨gg, 2, none⟩) (blk_far (p := ⟨gg, 5, none⟩) (blk_far (p := ⟨gg, 4, none⟩) (blk_far (p := ⟨gg, 3, none⟩) (blk_far (p := ⟨gg, 2, none⟩) (blk_far (p := ⟨gg, 1, none⟩) (blk_far (p := ⟨gg, 0, none⟩) Bgf.out ne_ (.bool r2)) ne_ (.bool r3)) ne_ (.bool false)) ne_ (.bool f3)) ne_ (.bool r6)) ne_ (.bool r7)) ne_ (.bool true))
  clear ne_
  have ne_ : gr ≠ gg := by first | exact NEgg_gr.out.symm | exact NEgr_gg.out
  have mgr := Aside0.mk (blk_far (p := ⟨gg, 2, none⟩) (blk_far (p := ⟨gg, 5, none⟩) (blk_far (p := ⟨gg, 4, none⟩) (blk_far (p := ⟨gg, 3, none⟩) (blk_far (p := ⟨gg, 2, none⟩) (blk_far (p := ⟨gg, 1, none⟩) (blk_far (p := ⟨gg, 0, none⟩) Bgr.out ne_ (.bool r2)) ne_ (.bool r3)) ne_ (.bool false)) ne_ (.bool f3)) ne_ (.bool r6)) ne_ (.bool r7)) ne_ (.bool true))
  clear ne_
  have ne_ : gp ≠ gg := by first | exact NEgg_gp.out.symm | exact NEgp_gg.out
  have mgp := Aside0.mk (blk_far (p := ⟨gg, 2, none⟩) (blk_far (p := ⟨gg, 5, none⟩) (blk_far (p := ⟨gg, 4, none⟩) (blk_far (p := ⟨gg, 3, none⟩) (blk_far (p := ⟨gg, 2, none⟩) (blk_far (p := ⟨gg, 1, none⟩) (blk_far (p := ⟨gg, 0, none⟩) Bgp.out ne_ (.bool r2)) ne_ (.bool r3)) ne_ (.bool false)) ne_ (.bool f3)) ne_ (.bool r6)) ne_ (.bool r7)) ne_ (.bool true))
  clear ne_
  have mH := Aside0.mk (below_set (j := 2) (v := .bool true) (below_set (j := 5) (v := .bool r7) (below_set (j := 4) (v := .bool r6) (below_set (j := 3) (v := .bool f3) (below_set (j := 2) (v := .bool false) (below_set (j := 1) (v := .bool r3) (below_set (j := 0) (v := .bool r2) HB.out Ggg.out) Ggg.out) Ggg.out) Ggg.out) Ggg.out) Ggg.out) Ggg.out)
  clear HB Bgg Bgf Bgr Bgp
  have HB := mH
  have Bgg := mgg
  have Bgf := mgf
  have Bgr := mgr
  have Bgp := mgp
  clear mH mgg mgf mgr mgp
  with_reducible generalize (((((((v6_).setCell ⟨gg, 0, none⟩ (.bool r2)).setCell ⟨gg, 1, none⟩ (.bool r3)).setCell ⟨gg, 2, none⟩ (.bool false)).setCell ⟨gg, 3, none⟩ (.bool f3)).setCell ⟨gg, 4, none⟩ (.bool r6)).setCell ⟨gg, 5, none⟩ (.bool r7)).setCell ⟨gg, 2, none⟩ (.bool true) = v7_ at HB Bgg Bgf Bgr Bgp ⊢
  refine (impl_one.calls f5 t _ HT.out).mono ?_
  rintro e v8_ ⟨rfl, hd_⟩
  have hb_ := hd_.below
  clear hd_
  have mgf := Aside0.mk ((hb_.block gf (blk_lt Bgf.out)).trans Bgf.out)
  have mgr := Aside0.mk ((hb_.block gr (blk_lt Bgr.out)).trans Bgr.out)
  have mgp := Aside0.mk ((hb_.block gp (blk_lt Bgp.out)).trans Bgp.out)
  have mgg := Aside0.mk ((hb_.block gg (blk_lt Bgg.out)).trans Bgg.out)
  have mH := Aside0.mk (below_step HB.out hb_)
  clear HB Bgf Bgr Bgp Bgg hb_
  have HB := mH
  have Bgf := mgf
  have Bgr := mgr
  have Bgp := mgp
  have Bgg := mgg
  clear mH mgf mgr mgp mgg
  have hcgg0 : v8_.cell? ⟨gg, 0, none⟩ = some (.bool r2) := (blk_cell Bgg.out 0).trans rfl
  have hfgg0 := blk_frozen Bgg.out 0
  have hcgg1 : v8_.cell? ⟨gg, 1, none⟩ = some (.bool r3) := (blk_cell Bgg.out 1).trans rfl
  have hfgg1 := blk_frozen Bgg.out 1
  have hcgg2 : v8_.cell? ⟨gg, 2, none⟩ = some (.bool true) := (blk_cell Bgg.out 2).trans rfl
  have hfgg2 := blk_frozen Bgg.out 2
  have hcgg3 : v8_.cell? ⟨gg, 3, none⟩ = some (.bool f3) := (blk_cell Bgg.out 3).trans rfl
  have hfgg3 := blk_frozen Bgg.out 3
  have hcgg4 : v8_.cell? ⟨gg, 4, none⟩ = some (.bool r6) := (blk_cell Bgg.out 4).trans rfl
  have hfgg4 := blk_frozen Bgg.out 4
  have hcgg5 : v8_.cell? ⟨gg, 5, none⟩ = some (.bool r7) := (blk_cell Bgg.out 5).trans rfl
  have hfgg5 := blk_frozen Bgg.out 5
  try go_wp2_with (fail)
  have hcgg0 : v8_.cell? ⟨gg, 0, none⟩ = some (.bool r2) := (blk_cell Bgg.out 0).trans rfl
  have hfgg0 := blk_frozen Bgg.out 0
  have hcgg1 : v8_.cell? ⟨gg, 1, none⟩ = some (.bool r3) := (blk_cell Bgg.out 1).trans rfl
  have hfgg1 := blk_frozen Bgg.out 1
  have hcgg2 : v8_.cell? ⟨gg, 2, none⟩ = some (.bool true) := (blk_cell Bgg.out 2).trans rfl
  have hfgg2 := blk_frozen Bgg.out 2
  have hcgg3 : v8_.cell? ⟨gg, 3, none⟩ = some (.bool f3) := (blk_cell Bgg.out 3).trans rfl
  have hfgg3 := blk_frozen Bgg.out 3
  have hcgg4 : v8_.cell? ⟨gg, 4, none⟩ = some (.bool r6) := (blk_cell Bgg.out 4).trans rfl
  have hfgg4 := blk_frozen Bgg.out 4
  have hcgg5 : v8_.cell? ⟨gg, 5, none⟩ = some (.bool r7) := (blk_cell Bgg.out 5).trans rfl
  have hfgg5 := blk_frozen Bgg.out 5
  go_still_tail 4, (by kernel_rfl)
  clear hcgg0 hfgg0 hcgg1 hfgg1 hcgg2 hfgg2 hcgg3 hfgg3 hcgg4 hfgg4 hcgg5 hfgg5
  have mgf := Aside0.mk (blk_drew Bgf.out)
  have mgr := Aside0.mk (blk_drew Bgr.out)
  have mgp := Aside0.mk (blk_drew Bgp.out)
  have mgg := Aside0.mk (blk_drew Bgg.out)
  have mH := Aside0.mk (below_drew1 HB.out)
  clear HB Bgf Bgr Bgp Bgg
  have HB := mH
  have Bgf := mgf
  have Bgr := mgr
  have Bgp := mgp
  have Bgg := mgg
  clear mH mgf mgr mgp mgg
  show wpList Try.prog _ _ _ _ v8_.drew
  generalize v8_.drew = v9_ at HB Bgf Bgr Bgp Bgg ⊢
  have hcgg0 : v9_.cell? ⟨gg, 0, none⟩ = some (.bool r2) := (blk_cell Bgg.out 0).trans rfl
  have hfgg0 := blk_frozen Bgg.out 0
  have hcgg1 : v9_.cell? ⟨gg, 1, none⟩ = some (.bool r3) := (blk_cell Bgg.out 1).trans rfl
  have hfgg1 := blk_frozen Bgg.out 1
  have hcgg2 : v9_.cell? ⟨gg, 2, none⟩ = some (.bool true) := (blk_cell Bgg.out 2).trans rfl
  have hfgg2 := blk_frozen Bgg.out 2
  have hcgg3 : v9_.cell? ⟨gg, 3, none⟩ = some (.bool f3) := (blk_cell Bgg.out 3).trans rfl
  have hfgg3 := blk_frozen Bgg.out 3
  have hcgg4 : v9_.cell? ⟨gg, 4, none⟩ = some (.bool r6) := (blk_cell Bgg.out 4).trans rfl
  have hfgg4 := blk_frozen Bgg.out 4
  have hcgg5 : v9_.cell? ⟨gg, 5, none⟩ = some (.bool r7) := (blk_cell Bgg.out 5).trans rfl
  have hfgg5 := blk_frozen Bgg.out 5
  have hcgr0 : v9_.cell? ⟨gr, 0, none⟩ = some (.bool false) := (blk_cell Bgr.out 0).trans rfl
  have hfgr0 := blk_frozen Bgr.out 0
  have hcgr1 : v9_.cell? ⟨gr, 1, none⟩ = some (.bool false) := (blk_cell Bgr.out 1).trans rfl
  have hfgr1 := blk_frozen Bgr.out 1
  have hcgr2 : v9_.cell? ⟨gr, 2, none⟩ = some (.bool false) := (blk_cell Bgr.out 2).trans rfl
  have hfgr2 := blk_frozen Bgr.out 2
  have hcgr3 : v9_.cell? ⟨gr, 3, none⟩ = some (.bool false) := (blk_cell Bgr.out 3).trans rfl
  have hfgr3 := blk_frozen Bgr.out 3
  have hcgr4 : v9_.cell? ⟨gr, 4, none⟩ = some (.bool false) := (blk_cell Bgr.out 4).trans rfl
  have hfgr4 := blk_frozen Bgr.out 4
  have hcgr5 : v9_.cell? ⟨gr, 5, none⟩ = some (.bool false) := (blk_cell Bgr.out 5).trans rfl
  have hfgr5 := blk_frozen Bgr.out 5
  try go_wp2_with (fail)
  refine bodyPost_ret (results_tc rfl _ _ gr 40 #[.bool r2, .bool r3, .bool true, .bool f3, .bool r6, .bool r7] (0, 0) _ rfl (by (with_reducible repeat (first | refine blk_drewN ?_ _ | refine blk_drew ?_ | refine blk_alloc ?_ _)); refine blk_put (cs := #[.bool r2, .bool r3, .bool true, .bool f3, .bool r6, .bool false]) ?_ 5 _ rfl; (with_reducible repeat (first | refine blk_drewN ?_ _ | refine blk_drew ?_ | refine blk_alloc ?_ _)); refine blk_put (cs := #[.bool r2, .bool r3, .bool true, .bool f3, .bool false, .bool false]) ?_ 4 _ rfl; (with_reducible repeat (first | refine blk_drewN ?_ _ | refine blk_drew ?_ | refine blk_alloc ?_ _)); refine blk_put (cs := #[.bool r2, .bool r3, .bool true, .bool false, .bool false, .bool false]) ?_ 3 _ rfl; (with_reducible repeat (first | refine blk_drewN ?_ _ | refine blk_drew ?_ | refine blk_alloc ?_ _)); refine blk_put (cs := #[.bool r2, .bool r3, .bool false, .bool false, .bool false, .bool false]) ?_ 2 _ rfl; (with_reducible repeat (first | refine blk_drewN ?_ _ | refine blk_drew ?_ | refine blk_alloc ?_ _)); refine blk_put (cs := #[.bool r2, .bool false, .bool false, .bool false, .bool false, .bool false]) ?_ 1 _ rfl; (with_reducible repeat (first | refine blk_drewN ?_ _ | refine blk_drew ?_ | refine blk_alloc ?_ _)); refine blk_put (cs := #[.bool false, .bool false, .bool false, .bool false, .bool false, .bool false]) ?_ 0 _ rfl; (with_reducible repeat (first | refine blk_drewN ?_ _ | refine blk_drew ?_ | refine blk_alloc ?_ _)); exact Bgr.out) Try.underlying40 rfl (by kernel_rfl)) rfl ?_
  have e1_ := H1'.out
  have e2_ := HH.out
  subst e1_
  subst e2_
  exact ⟨by first | rfl | (simp; done) | simp [*], by repeat (first | (with_reducible first | exact HB.out | apply below_alloc | apply pw_below_drewN | apply below_drew1 | refine below_set ?_ Ggf.out | refine below_set ?_ Ggr.out | refine below_set ?_ Ggp.out | refine below_set ?_ Ggg.out) | exact HB.out)⟩
set_option maxHeartbeats 2000000 in
set_option maxRecDepth 100000 in
theorem impl_Sbc.dec_nn (a b : Int) (f0 f1 f3 f4 f5 : Bool) (w : World) (a0 : 0 ≤ a) (a1 : a ≤ 255) (b0 : 0 ≤ b) (b1 : b ≤ 255) (r1 : Int) (r2 r3 r4 r5 r6 r7 : Bool) (c10 : ¬ a % 16 - b % 16 - 1 + tc f5 < 0) (c160 : ¬ difH a b (tc f5) < 0) (hr : sbc a b true f3 f5 = (r1, r2, r3, r4, r5, r6, r7)) : Calls Try.prog 60 #[.int .u8 a, .int .u8 b, .agg #[.bool f0, .bool f1, .bool true, .bool f3, .bool f4, .bool f5]] w fun e w' => e = .returned (.tuple #[.int .u8 r1, .agg #[.bool r2, .bool r3, .bool r4, .bool r5, .bool r6, .bool r7]]) ∧ Below w.heap.size w w' := by
  simp only [sbc, bin, Prod.mk.injEq, if_true] at hr
  obtain ⟨h1, h2, h3, rfl, rfl, h6, h7⟩ := hr
  have y0 : 0 ≤ 255 - b := by omega
  have y1 : 255 - b ≤ 255 := by omega
  have yn : Go.bits .xor .u8 IntKind.u8.max b = 255 - b := not8 b0 b1
  obtain ⟨q1, hq⟩ : ∃ q1, bin a (255 - b) (tc f5) false f3 = (q1, r2, r3, false, f3, r6, r7) := ⟨(a + (255 - b) + tc f5) % 256, by simp only [bin, h2, h3, h6, h7]⟩
  have HP : Aside0 (impl_Adc.f a (255 - b) f0 f1 false f3 f4 f5 = some (q1, r2, r3, false, f3, r6, r7)) := ⟨by
    unfold impl_Adc.f
    rw [if_pos (byteOk_mk a0 a1 (by omega) (by omega))]
    exact congrArg some hq⟩
  clear hq h2 h3 h6 h7
  obtain ⟨t0, t1⟩ := tc01 f5
  have HT := Aside0.mk (one_tc2 f5)
  generalize tc f5 = t at t0 t1 HT h1 c10 c160
  have q1 := and15 a0 a1
  have q2 := and15 b0 b1
  have q3 := and240 a0 a1
  have q4 := and240 b0 b1
  have x1 : 0 ≤ a % 16 := by omega
  have x2 : a % 16 ≤ 15 := by omega
  have x3 : 0 ≤ b % 16 := by omega
  have x4 : b % 16 ≤ 15 := by omega
  have x5 : 0 ≤ a - a % 16 := by omega
  have x6 : a - a % 16 ≤ 240 := by omega
  have x7 : 0 ≤ b - b % 16 := by omega
  have x8 : b - b % 16 ≤ 240 := by omega
  generalize hh : difH a b t = h at h1 c160
  simp only [difH, difL] at hh
  generalize a - a % 16 = ah at q3 hh x5 x6
  generalize b - b % 16 = bh at q4 hh x7 x8
  generalize a % 16 = al at q1 hh x1 x2 c10
  generalize b % 16 = bl at q2 hh x3 x4 c10
  have d10 : decide (al - bl - 1 + t < 0) = false := decide_eq_false c10
  rw [lowS, if_neg c10] at hh
  have d160 : decide (h < 0) = false := decide_eq_false c160
  rw [topS, if_neg c160] at h1
  have g0 : -600 ≤ h := by omega
  have g1 : h ≤ 600 := by omega
  have d160 : decide (ah - bh + (al - bl - 1 + t) < 0) = false := decide_eq_false (by omega)
  have H1' := Aside0.mk h1
  have HH := Aside0.mk hh
  clear h1 hh c10 c160
  have HB := Aside0.mk (Below.refl w.heap.size w)
  have hu24 := Try.underlying40
  go_enter Try.func60, Try.ntmps60
  try go_wp2_with (first | ((with_reducible refine gate_dst (N := 5) rfl ?_); refine box_event ?hg (N := 5) ?hd (cs := #[.bool f0, .bool f1, .bool true, .bool f3, .bool f4, .bool f5]) (t := 40) ?hr ?_; (case hd => rfl); (case hg => rfl); (case hr => first | (go_simp; done) | (go_simp; rfl)); intro gf hg v1_ hbox hb; have n0_ := Aside0.mk (below_step (by repeat (first | (with_reducible first | exact HB.out | apply below_alloc | apply pw_below_drewN | apply below_drew1) | exact HB.out)) hb); have n1_ := Aside0.mk (hbox); have n2_ := Aside0.mk ((by rw [hg]; exact (below_size (by repeat (first | (with_reducible first | exact HB.out | apply below_alloc | apply pw_below_drewN | apply below_drew1) | exact HB.out))) : w.heap.size ≤ gf)); clear HB; have HB := n0_; have Bgf := n1_; have Ggf := n2_; clear n0_ n1_ n2_; clear hb hbox hg) | ((with_reducible refine gate_dst (N := 7) rfl ?_); refine box_event ?hg (N := 7) ?hd (cs := #[.bool false, .bool false, .bool false, .bool false, .bool false, .bool false]) (t := 40) ?hr ?_; (case hd => rfl); (case hg => rfl); (case hr => first | (go_simp; done) | (go_simp; rfl)); intro gr hg v2_ hbox hb; have mgf := Aside0.mk ((hb.block _ (blk_lt Bgf.out)).trans Bgf.out); have NEgr_gf := Aside0.mk (show gr ≠ gf from by rw [hg]; exact Nat.ne_of_gt (blk_lt Bgf.out)); clear Bgf; have Bgf := mgf; clear mgf; have n0_ := Aside0.mk (below_step (by repeat (first | (with_reducible first | exact HB.out | apply below_alloc | apply pw_below_drewN | apply below_drew1) | exact HB.out)) hb); have n1_ := Aside0.mk (hbox); have n2_ := Aside0.mk ((by rw [hg]; exact (below_size (by repeat (first | (with_reducible first | exact HB.out | apply below_alloc | apply pw_below_drewN | apply below_drew1) | exact HB.out))) : w.heap.size ≤ gr)); clear HB; have HB := n0_; have Bgr := n1_; have Ggr := n2_; clear n0_ n1_ n2_; clear hb hbox hg; have hcgf0 : v2_.cell? ⟨gf, 0, none⟩ = some (.bool f0) := (blk_cell Bgf.out 0).trans rfl; have hfgf0 := blk_frozen Bgf.out 0; have hcgf1 : v2_.cell? ⟨gf, 1, none⟩ = some (.bool f1) := (blk_cell Bgf.out 1).trans rfl; have hfgf1 := blk_frozen Bgf.out 1; have hcgf2 : v2_.cell? ⟨gf, 2, none⟩ = some (.bool true) := (blk_cell Bgf.out 2).trans rfl; have hfgf2 := blk_frozen Bgf.out 2; have hcgf3 : v2_.cell? ⟨gf, 3, none⟩ = some (.bool f3) := (blk_cell Bgf.out 3).trans rfl; have hfgf3 := blk_frozen Bgf.out 3; have hcgf4 : v2_.cell? ⟨gf, 4, none⟩ = some (.bool f4) := (blk_cell Bgf.out 4).trans rfl; have hfgf4 := blk_frozen Bgf.out 4; have hcgf5 : v2_.cell? ⟨gf, 5, none⟩ = some (.bool f5) := (blk_cell Bgf.out 5).trans rfl; have hfgf5 := blk_frozen Bgf.out 5) | ((with_reducible refine gate_dst (N := 8) rfl ?_); refine box_event ?hg (N := 8) ?hd (cs := #[.bool false, .bool false, .bool false, .bool false, .bool false, .bool false]) (t := 40) ?hr ?_; (case hd => rfl); (case hg => rfl); (case hr => first | (go_simp; done) | (go_simp; rfl)); intro gp hg v3_ hbox hb; clear hcgf0 hfgf0 hcgf1 hfgf1 hcgf2 hfgf2 hcgf3 hfgf3 hcgf4 hfgf4 hcgf5 hfgf5; have mgf := Aside0.mk ((hb.block _ (blk_lt Bgf.out)).trans Bgf.out); have NEgp_gf := Aside0.mk (show gp ≠ gf from by rw [hg]; exact Nat.ne_of_gt (blk_lt Bgf.out)); clear Bgf; have Bgf := mgf; clear mgf; have mgr := Aside0.mk ((hb.block _ (blk_lt Bgr.out)).trans Bgr.out); have NEgp_gr := Aside0.mk (show gp ≠ gr from by rw [hg]; exact Nat.ne_of_gt (blk_lt Bgr.out)); clear Bgr; have Bgr := mgr; clear mgr; have n0_ := Aside0.mk (below_step (by repeat (first | (with_reducible first | exact HB.out | apply below_alloc | apply pw_below_drewN | apply below_drew1) | exact HB.out)) hb); have n1_ := Aside0.mk (hbox); have n2_ := Aside0.mk ((by rw [hg]; exact (below_size (by repeat (first | (with_reducible first | exact HB.out | apply below_alloc | apply pw_below_drewN | apply below_drew1) | exact HB.out))) : w.heap.size ≤ gp)); clear HB; have HB := n0_; have Bgp := n1_; have Ggp := n2_; clear n0_ n1_ n2_; clear hb hbox hg; have hcgf0 : v3_.cell? ⟨gf, 0, none⟩ = some (.bool f0) := (blk_cell Bgf.out 0).trans rfl; have hfgf0 := blk_frozen Bgf.out 0; have hcgf1 : v3_.cell? ⟨gf, 1, none⟩ = some (.bool f1) := (blk_cell Bgf.out 1).trans rfl; have hfgf1 := blk_frozen Bgf.out 1; have hcgf2 : v3_.cell? ⟨gf, 2, none⟩ = some (.bool true) := (blk_cell Bgf.out 2).trans rfl; have hfgf2 := blk_frozen Bgf.out 2; have hcgf3 : v3_.cell? ⟨gf, 3, none⟩ = some (.bool f3) := (blk_cell Bgf.out 3).trans rfl; have hfgf3 := blk_frozen Bgf.out 3; have hcgf4 : v3_.cell? ⟨gf, 4, none⟩ = some (.bool f4) := (blk_cell Bgf.out 4).trans rfl; have hfgf4 := blk_frozen Bgf.out 4; have hcgf5 : v3_.cell? ⟨gf, 5, none⟩ = some (.bool f5) := (blk_cell Bgf.out 5).trans rfl; have hfgf5 := blk_frozen Bgf.out 5; have hcgp0 : v3_.cell? ⟨gp, 0, none⟩ = some (.bool false) := (blk_cell Bgp.out 0).trans rfl; have hfgp0 := blk_frozen Bgp.out 0; have hcgp1 : v3_.cell? ⟨gp, 1, none⟩ = some (.bool false) := (blk_cell Bgp.out 1).trans rfl; have hfgp1 := blk_frozen Bgp.out 1; have hcgp2 : v3_.cell? ⟨gp, 2, none⟩ = some (.bool false) := (blk_cell Bgp.out 2).trans rfl; have hfgp2 := blk_frozen Bgp.out 2; have hcgp3 : v3_.cell? ⟨gp, 3, none⟩ = some (.bool false) := (blk_cell Bgp.out 3).trans rfl; have hfgp3 := blk_frozen Bgp.out 3; have hcgp4 : v3_.cell? ⟨gp, 4, none⟩ = some (.bool false) := (blk_cell Bgp.out 4).trans rfl; have hfgp4 := blk_frozen Bgp.out 4; have hcgp5 : v3_.cell? ⟨gp, 5, none⟩ = some (.bool false) := (blk_cell Bgp.out 5).trans rfl; have hfgp5 := blk_frozen Bgp.out 5))
  clear hcgf0 hfgf0 hcgf1 hfgf1 hcgf2 hfgf2 hcgf3 hfgf3 hcgf4 hfgf4 hcgf5 hfgf5 hcgp0 hfgp0 hcgp1 hfgp1 hcgp2 hfgp2 hcgp3 hfgp3 hcgp4 hfgp4 hcgp5 hfgp5
  have mgp := Aside0.mk (show ((((((((v3_).setCell ⟨gp, 0, none⟩ (.bool f0)).setCell ⟨gp, 1, none⟩ (.bool f1)).setCell ⟨gp, 2, none⟩ (.bool true)).setCell ⟨gp, 3, none⟩ (.bool f3)).setCell ⟨gp, 4, none⟩ (.bool f4)).setCell ⟨gp, 5, none⟩ (.bool f5)).setCell ⟨gp, 2, none⟩ (.bool false)).heap[gp]? = some (.cells #[.bool f0, .bool f1, .bool false, .bool f3, .bool f4, .bool f5] 40 (0, 0)) from (by refine blk_put (cs := #[.bool f0, .bool f1, .bool true, .bool f3, .bool f4, .bool f5]) ?_ 2 _ rfl; refine blk_put (cs := #[.bool f0, .bool f1, .bool true, .bool f3, .bool f4, .bool false]) ?_ 5 _ rfl; refine blk_put (cs := #[.bool f0, .bool f1, .bool true, .bool f3, .bool false, .bool false]) ?_ 4 _ rfl; refine blk_put (cs := #[.bool f0, .bool f1, .bool true, .bool false, .bool false, .bool false]) ?_ 3 _ rfl; refine blk_put (cs := #[.bool f0, .bool f1, .bool false, .bool false, .bool false, .bool false]) ?_ 2 _ rfl; refine blk_put (cs := #[.bool f0, .bool false, .bool false, .bool false, .bool false, .bool false]) ?_ 1 _ rfl; refine blk_put (cs := #[.bool false, .bool false, .bool false, .bool false, .bool false, .bool false]) ?_ 0 _ rfl; exact Bgp.out))
  have ne_ : gf ≠ gp := by first | exact NEgp_gf.out.symm | exact NEgf_gp.out
  have mgf := Aside0.mk (blk_far (p := ⟨gp, 2, none⟩) (blk_far (p := ⟨gp, 5, none⟩) (blk_far (p := ⟨gp, 4, none⟩) (blk_far (p := ⟨gp, 3, none⟩) (blk_far (p := ⟨gp, 2, none⟩) (blk_far (p := ⟨gp, 1, none⟩) (blk_far (p := ⟨gp, 0, none⟩) Bgf.out ne_ (.bool f0)) ne_ (.bool f1)) ne_ (.bool true)) ne_ (.bool f3)) ne_ (.bool f4)) ne_ (.bool f5)) ne_ (.bool false))
  clear ne_
  have ne_ : gr ≠ gp := by first | exact NEgp_gr.out.symm | exact NEgr_gp.out
  have mgr := Aside0.mk (blk_far (p := ⟨gp, 2, none⟩) (blk_far (p := ⟨gp, 5, none⟩) (blk_far (p := ⟨gp, 4, none⟩) (blk_far (p := ⟨gp, 3, none⟩) (blk_far (p := ⟨gp, 2, none⟩) (blk_far (p := ⟨gp, 1, none⟩) (blk_far (p := ⟨gp, 0, none⟩) Bgr.out ne_ (.bool f0)) ne_ (.bool f1)) ne_ (.bool true)) ne_ (.bool f3)) ne_ (.bool f4)) ne_ (.bool f5)) ne_ (.bool false))
  clear ne_
  have mH := Aside0.mk (below_set (j := 2) (v := .bool false) (below_set (j := 5) (v := .bool f5) (below_set (j := 4) (v := .bool f4) (below_set (j := 3) (v := .bool f3) (below_set (j := 2) (v := .bool true) (below_set (j := 1) (v := .bool f1) (below_set (j := 0) (v := .bool f0) HB.out Ggp.out) Ggp.out) Ggp.out) Ggp.out) Ggp.out) Ggp.out) Ggp.out)
  clear HB Bgp Bgf Bgr
  have HB := mH
  have Bgp := mgp
  have Bgf := mgf
  have Bgr := mgr
  clear mH mgp mgf mgr
  with_reducible generalize (((((((v3_).setCell ⟨gp, 0, none⟩ (.bool f0)).setCell ⟨gp, 1, none⟩ (.bool f1)).setCell ⟨gp, 2, none⟩ (.bool true)).setCell ⟨gp, 3, none⟩ (.bool f3)).setCell ⟨gp, 4, none⟩ (.bool f4)).setCell ⟨gp, 5, none⟩ (.bool f5)).setCell ⟨gp, 2, none⟩ (.bool false) = v4_ at HB Bgp Bgf Bgr ⊢
  refine (impl_Adc.calls a (255 - b) f0 f1 false f3 f4 f5 _ _ _ _ _ _ _ _ HP.out).mono ?_
  rintro e v5_ ⟨rfl, hb_⟩
  have mgf := Aside0.mk ((hb_.block gf (blk_lt Bgf.out)).trans Bgf.out)
  have mgr := Aside0.mk ((hb_.block gr (blk_lt Bgr.out)).trans Bgr.out)
  have mgp := Aside0.mk ((hb_.block gp (blk_lt Bgp.out)).trans Bgp.out)
  have mH := Aside0.mk (below_step HB.out hb_)
  clear HB Bgf Bgr Bgp hb_
  have HB := mH
  have Bgf := mgf
  have Bgr := mgr
  have Bgp := mgp
  clear mH mgf mgr mgp
  have hcgf0 : v5_.cell? ⟨gf, 0, none⟩ = some (.bool f0) := (blk_cell Bgf.out 0).trans rfl
  have hfgf0 := blk_frozen Bgf.out 0
  have hcgf1 : v5_.cell? ⟨gf, 1, none⟩ = some (.bool f1) := (blk_cell Bgf.out 1).trans rfl
  have hfgf1 := blk_frozen Bgf.out 1
  have hcgf2 : v5_.cell? ⟨gf, 2, none⟩ = some (.bool true) := (blk_cell Bgf.out 2).trans rfl
  have hfgf2 := blk_frozen Bgf.out 2
  have hcgf3 : v5_.cell? ⟨gf, 3, none⟩ = some (.bool f3) := (blk_cell Bgf.out 3).trans rfl
  have hfgf3 := blk_frozen Bgf.out 3
  have hcgf4 : v5_.cell? ⟨gf, 4, none⟩ = some (.bool f4) := (blk_cell Bgf.out 4).trans rfl
  have hfgf4 := blk_frozen Bgf.out 4
  have hcgf5 : v5_.cell? ⟨gf, 5, none⟩ = some (.bool f5) := (blk_cell Bgf.out 5).trans rfl
  have hfgf5 := blk_frozen Bgf.out 5
  try go_wp2_with (first | ((with_reducible refine gate_dst (N := 10) rfl ?_); refine box_event ?hg (N := 10) ?hd (cs := #[.bool false, .bool false, .bool false, .bool false, .bool false, .bool false]) (t := 40) ?hr ?_; (case hd => rfl); (case hg => rfl); (case hr => first | (go_simp; done) | (go_simp; rfl)); intro gg hg v6_ hbox hb; clear hcgf0 hfgf0 hcgf1 hfgf1 hcgf2 hfgf2 hcgf3 hfgf3 hcgf4 hfgf4 hcgf5 hfgf5; have mgf := Aside0.mk ((hb.block _ (blk_lt Bgf.out)).trans Bgf.out); have NEgg_gf := Aside0.mk (show gg ≠ gf from by rw [hg]; exact Nat.ne_of_gt (blk_lt Bgf.out)); clear Bgf; have Bgf := mgf; clear mgf; have mgr := Aside0.mk ((hb.block _ (blk_lt Bgr.out)).trans Bgr.out); have NEgg_gr := Aside0.mk (show gg ≠ gr from by rw [hg]; exact Nat.ne_of_gt (blk_lt Bgr.out)); clear Bgr; have Bgr := mgr; clear mgr; have mgp := Aside0.mk ((hb.block _ (blk_lt Bgp.out)).trans Bgp.out); have NEgg_gp := Aside0.mk (show gg ≠ gp from by rw [hg]; exact Nat.ne_of_gt (blk_lt Bgp.out)); clear Bgp; have Bgp := mgp; clear mgp; have n0_ := Aside0.mk (below_step (by repeat (first | (with_reducible first | exact HB.out | apply below_alloc | apply pw_below_drewN | apply below_drew1) | exact HB.out)) hb); have n1_ := Aside0.mk (hbox); have n2_ := Aside0.mk ((by rw [hg]; exact (below_size (by repeat (first | (with_reducible first | exact HB.out | apply below_alloc | apply pw_below_drewN | apply below_drew1) | exact HB.out))) : w.heap.size ≤ gg)); clear HB; have HB := n0_; have Bgg := n1_; have Ggg := n2_; clear n0_ n1_ n2_; clear hb hbox hg; have hcgf0 : v6_.cell? ⟨gf, 0, none⟩ = some (.bool f0) := (blk_cell Bgf.out 0).trans rfl; have hfgf0 := blk_frozen Bgf.out 0; have hcgf1 : v6_.cell? ⟨gf, 1, none⟩ = some (.bool f1) := (blk_cell Bgf.out 1).trans rfl; have hfgf1 := blk_frozen Bgf.out 1; have hcgf2 : v6_.cell? ⟨gf, 2, none⟩ = some (.bool true) := (blk_cell Bgf.out 2).trans rfl; have hfgf2 := blk_frozen Bgf.out 2; have hcgf3 : v6_.cell? ⟨gf, 3, none⟩ = some (.bool f3) := (blk_cell Bgf.out 3).trans rfl; have hfgf3 := blk_frozen Bgf.out 3; have hcgf4 : v6_.cell? ⟨gf, 4, none⟩ = some (.bool f4) := (blk_cell Bgf.out 4).trans rfl; have hfgf4 := blk_frozen Bgf.out 4; have hcgf5 : v6_.cell? ⟨gf, 5, none⟩ = some (.bool f5) := (blk_cell Bgf.out 5).trans rfl; have hfgf5 := blk_frozen Bgf.out 5; have hcgg0 : v6_.cell? ⟨gg, 0, none⟩ = some (.bool false) := (blk_cell Bgg.out 0).trans rfl; have hfgg0 := blk_frozen Bgg.out 0; have hcgg1 : v6_.cell? ⟨gg, 1, none⟩ = some (.bool false) := (blk_cell Bgg.out 1).trans rfl; have hfgg1 := blk_frozen Bgg.out 1; have hcgg2 : v6_.cell? ⟨gg, 2, none⟩ = some (.bool false) := (blk_cell Bgg.out 2).trans rfl; have hfgg2 := blk_frozen Bgg.out 2; have hcgg3 : v6_.cell? ⟨gg, 3, none⟩ = some (.bool false) := (blk_cell Bgg.out 3).trans rfl; have hfgg3 := blk_frozen Bgg.out 3; have hcgg4 : v6_.cell? ⟨gg, 4, none⟩ = some (.bool false) := (blk_cell Bgg.out 4).trans rfl; have hfgg4 := blk_frozen Bgg.out 4; have hcgg5 : v6_.cell? ⟨gg, 5, none⟩ = some (.bool false) := (blk_cell Bgg.out 5).trans rfl; have hfgg5 := blk_frozen Bgg.out 5; have hfargggf : ∀ (W_ : World) (i_ j_ : Nat) (v_ : Value), (W_.setCell ⟨gg, i_, none⟩ v_).cell? ⟨gf, j_, none⟩ = W_.cell? ⟨gf, j_, none⟩ := fun W_ i_ j_ v_ => World.cell?_setCell_other W_ ⟨gg, i_, none⟩ ⟨gf, j_, none⟩ v_ (fun e_ => absurd (congrArg Addr.block e_) (by first | exact NEgg_gf.out | exact NEgf_gg.out.symm))))
  clear hcgf0 hfgf0 hcgf1 hfgf1 hcgf2 hfgf2 hcgf3 hfgf3 hcgf4 hfgf4 hcgf5 hfgf5 hcgg0 hfgg0 hcgg1 hfgg1 hcgg2 hfgg2 hcgg3 hfgg3 hcgg4 hfgg4 hcgg5 hfgg5 hfargggf
  have mgg := Aside0.mk (show ((((((((v6_).setCell ⟨gg, 0, none⟩ (.bool r2)).setCell ⟨gg, 1, none⟩ (.bool r3)).setCell ⟨gg, 2, none⟩ (.bool false)).setCell ⟨gg, 3, none⟩ (.bool f3)).setCell ⟨gg, 4, none⟩ (.bool r6)).setCell ⟨gg, 5, none⟩ (.bool r7)).setCell ⟨gg, 2, none⟩ (.bool true)).heap[gg]? = some (.cells #[.bool r2, .bool r3, .bool true, .bool f3, .bool r6, .bool r7] 40 (0, 0)) from (by refine blk_put (cs := #[.bool r2, .bool r3, .bool false, .bool f3, .bool r6, .bool r7]) ?_ 2 _ rfl; refine blk_put (cs := #[.bool r2, .bool r3, .bool false, .bool f3, .bool r6, .bool false]) ?_ 5 _ rfl; refine blk_put (cs := #[.bool r2, .bool r3, .bool false, .bool f3, .bool false, .bool false]) ?_ 4 _ rfl; refine blk_put (cs := #[.bool r2, .bool r3, .bool false, .bool false, .bool false, .bool false]) ?_ 3 _ rfl; refine blk_put (cs := #[.bool r2, .bool r3, .bool false, .bool false, .bool false, .bool false]) ?_ 2 _ rfl; refine blk_put (cs := #[.bool r2, .bool false, .bool false, .bool false, .bool false, .bool false]) ?_ 1 _ rfl; refine blk_put (cs := #[.bool false, .bool false, .bool false, .bool false, .bool false, .bool false]) ?_ 0 _ rfl; exact Bgg.out))
  have ne_ : gf ≠ gg := by first | exact NEgg_gf.out.symm | exact NEgf_gg.out
  have mgf := Aside0.mk (blk_far (p := ⟨gg, 2, none⟩) (blk_far (p := ⟨gg, 5, none⟩) (blk_far (p := ⟨gg, 4, none⟩) (blk_far (p := ⟨gg, 3, none⟩) (blk_far (p := ⟨gg, 2, none⟩) (blk_far (p := ⟨gg, 1, none⟩) (blk_far (p := ⟨gg, 0, none⟩) Bgf.out ne_ (.bool r2)) ne_ (.bool r3)) ne_ (.bool false)) ne_ (.bool f3)) ne_ (.bool r6)) ne_ (.bool r7)) ne_ (.bool true))
  clear ne_
  have ne_ : gr ≠ gg := by first | exact NEgg_gr.out.symm | exact NEgr_gg.out
  have mgr := Aside0.mk (blk_far (p := ⟨gg, 2, none⟩) (blk_far (p := ⟨gg, 5, none⟩) (blk_far (p := ⟨gg, 4, none⟩) (blk_far (p := ⟨gg, 3, none⟩) (blk_far (p := ⟨gg, 2, none⟩) (blk_far (p := ⟨gg, 1, none⟩) (blk_far (p := ⟨gg, 0, none⟩) Bgr.out ne_ (.bool r2)) ne_ (.bool r3)) ne_ (.bool false)) ne_ (.bool f3)) ne_ (.bool r6)) ne_ (.bool r7)) ne_ (.bool true))
  clear ne_
  have ne_ : gp ≠ gg := by first | exact NEgg_gp.out.symm | exact NEgp_gg.out
  have mgp := Aside0.mk (blk_far (p := ⟨gg, 2, none⟩) (blk_far (p := ⟨gg, 5, none⟩) (blk_far (p := ⟨gg, 4, none⟩) (blk_far (p := ⟨gg, 3, none⟩) (blk_far (p := ⟨gg, 2, none⟩) (blk_far (p := ⟨gg, 1, none⟩) (blk_far (p := ⟨gg, 0, none⟩) Bgp.out ne_ (.bool r2)) ne_ (.bool r3)) ne_ (.bool false)) ne_ (.bool f3)) ne_ (.bool r6)) ne_ (.bool r7)) ne_ (.bool true))
  clear ne_
  have mH := Aside0.mk (below_set (j := 2) (v := .bool true) (below_set (j := 5) (v := .bool r7) (below_set (j := 4) (v := .bool r6) (below_set (j := 3) (v := .bool f3) (below_set (j := 2) (v := .bool false) (below_set (j := 1) (v := .bool r3) (below_set (j := 0) (v := .bool r2) HB.out Ggg.out) Ggg.out) Ggg.out) Ggg.out) Ggg.out) Ggg.out) Ggg.out)
  clear HB Bgg Bgf Bgr Bgp
  have HB := mH
  have Bgg := mgg
  have Bgf := mgf
  have Bgr := mgr
  have Bgp := mgp
  clear mH mgg mgf mgr mgp
  with_reducible generalize (((((((v6_).setCell ⟨gg, 0, none⟩ (.bool r2)).setCell ⟨gg, 1, none⟩ (.bool r3)).setCell ⟨gg, 2, none⟩ (.bool false)).setCell ⟨gg, 3, none⟩ (.bool f3)).setCell ⟨gg, 4, none⟩ (.bool r6)).setCell ⟨gg, 5, none⟩ (.bool r7)).setCell ⟨gg, 2, none⟩ (.bool true) = v7_ at HB Bgg Bgf Bgr Bgp ⊢
  refine (impl_one.calls f5 t _ HT.out).mono ?_
  rintro e v8_ ⟨rfl, hd_⟩
  have hb_ := hd_.below
  clear hd_
  have mgf := Aside0.mk ((hb_.block gf (blk_lt Bgf.out)).trans Bgf.out)
  have mgr := Aside0.mk ((hb_.block gr (blk_lt Bgr.out)).trans Bgr.out)
  have mgp := Aside0.mk ((hb_.block gp (blk_lt Bgp.out)).trans Bgp.out)
  have mgg := Aside0.mk ((hb_.block gg (blk_lt Bgg.out)).trans Bgg.out)
  have mH := Aside0.mk (below_step HB.out hb_)
  clear HB Bgf Bgr Bgp Bgg hb_
  have HB := mH
  have Bgf := mgf
  have Bgr := mgr
  have Bgp := mgp
  have Bgg := mgg
  clear mH mgf mgr mgp mgg
  have hcgg0 : v8_.cell? ⟨gg, 0, none⟩ = some (.bool r2) := (blk_cell Bgg.out 0).trans rfl
  have hfgg0 := blk_frozen Bgg.out 0
  have hcgg1 : v8_.cell? ⟨gg, 1, none⟩ = some (.bool r3) := (blk_cell Bgg.out 1).trans rfl
  have hfgg1 := blk_frozen Bgg.out 1
  have hcgg2 : v8_.cell? ⟨gg, 2, none⟩ = some (.bool true) := (blk_cell Bgg.out 2).trans rfl
  have hfgg2 := blk_frozen Bgg.out 2
  have hcgg3 : v8_.cell? ⟨gg, 3, none⟩ = some (.bool f3) := (blk_cell Bgg.out 3).trans rfl
  have hfgg3 := blk_frozen Bgg.out 3
  have hcgg4 : v8_.cell? ⟨gg, 4, none⟩ = some (.bool r6) := (blk_cell Bgg.out 4).trans rfl
  have hfgg4 := blk_frozen Bgg.out 4
  have hcgg5 : v8_.cell? ⟨gg, 5, none⟩ = some (.bool r7) := (blk_cell Bgg.out 5).trans rfl
  have hfgg5 := blk_frozen Bgg.out 5
  try go_wp2_with (fail)
  have hcgg0 : v8_.cell? ⟨gg, 0, none⟩ = some (.bool r2) := (blk_cell Bgg.out 0).trans rfl
  have hfgg0 := blk_frozen Bgg.out 0
  have hcgg1 : v8_.cell? ⟨gg, 1, none⟩ = some (.bool r3) := (blk_cell Bgg.out 1).trans rfl
  have hfgg1 := blk_frozen Bgg.out 1
  have hcgg2 : v8_.cell? ⟨gg, 2, none⟩ = some (.bool true) := (blk_cell Bgg.out 2).trans rfl
  have hfgg2 := blk_frozen Bgg.out 2
  have hcgg3 : v8_.cell? ⟨gg, 3, none⟩ = some (.bool f3) := (blk_cell Bgg.out 3).trans rfl
  have hfgg3 := blk_frozen Bgg.out 3
  have hcgg4 : v8_.cell? ⟨gg, 4, none⟩ = some (.bool r6) := (blk_cell Bgg.out 4).trans rfl
  have hfgg4 := blk_frozen Bgg.out 4
  have hcgg5 : v8_.cell? ⟨gg, 5, none⟩ = some (.bool r7) := (blk_cell Bgg.out 5).trans rfl
  have hfgg5 := blk_frozen Bgg.out 5
  go_still_tail 4, (by kernel_rfl)
  clear hcgg0 hfgg0 hcgg1 hfgg1 hcgg2 hfgg2 hcgg3 hfgg3 hcgg4 hfgg4 hcgg5 hfgg5
  have mgf := Aside0.mk (blk_drew Bgf.out)
  have mgr := Aside0.mk (blk_drew Bgr.out)
  have mgp := Aside0.mk (blk_drew Bgp.out)
  have mgg := Aside0.mk (blk_drew Bgg.out)
  have mH := Aside0.mk (below_drew1 HB.out)
  clear HB Bgf Bgr Bgp Bgg
  have HB := mH
  have Bgf := mgf
  have Bgr := mgr
  have Bgp := mgp
  have Bgg := mgg
  clear mH mgf mgr mgp mgg
  show wpList Try.prog _ _ _ _ v8_.drew
  generalize v8_.drew = v9_ at HB Bgf Bgr Bgp Bgg ⊢
  have hcgg0 : v9_.cell? ⟨gg, 0, none⟩ = some (.bool r2) := (blk_cell Bgg.out 0).trans rfl
  have hfgg0 := blk_frozen Bgg.out 0
  have hcgg1 : v9_.cell? ⟨gg, 1, none⟩ = some (.bool r3) := (blk_cell Bgg.out 1).trans rfl
  have hfgg1 := blk_frozen Bgg.out 1
  have hcgg2 : v9_.cell? ⟨gg, 2, none⟩ = some (.bool true) := (blk_cell Bgg.out 2).trans rfl
  have hfgg2 := blk_frozen Bgg.out 2
  have hcgg3 : v9_.cell? ⟨gg, 3, none⟩ = some (.bool f3) := (blk_cell Bgg.out 3).trans rfl
  have hfgg3 := blk_frozen Bgg.out 3
  have hcgg4 : v9_.cell? ⟨gg, 4, none⟩ = some (.bool r6) := (blk_cell Bgg.out 4).trans rfl
  have hfgg4 := blk_frozen Bgg.out 4
  have hcgg5 : v9_.cell? ⟨gg, 5, none⟩ = some (.bool r7) := (blk_cell Bgg.out 5).trans rfl
  have hfgg5 := blk_frozen Bgg.out 5
  have hcgr0 : v9_.cell? ⟨gr, 0, none⟩ = some (.bool false) := (blk_cell Bgr.out 0).trans rfl
  have hfgr0 := blk_frozen Bgr.out 0
  have hcgr1 : v9_.cell? ⟨gr, 1, none⟩ = some (.bool false) := (blk_cell Bgr.out 1).trans rfl
  have hfgr1 := blk_frozen Bgr.out 1
  have hcgr2 : v9_.cell? ⟨gr, 2, none⟩ = some (.bool false) := (blk_cell Bgr.out 2).trans rfl
  have hfgr2 := blk_frozen Bgr.out 2
  have hcgr3 : v9_.cell? ⟨gr, 3, none⟩ = some (.bool false) := (blk_cell Bgr.out 3).trans rfl
  have hfgr3 := blk_frozen Bgr.out 3
  have hcgr4 : v9_.cell? ⟨gr, 4, none⟩ = some (.bool false) := (blk_cell Bgr.out 4).trans rfl
  have hfgr4 := blk_frozen Bgr.out 4
  have hcgr5 : v9_.cell? ⟨gr, 5, none⟩ = some (.bool false) := (blk_cell Bgr.out 5).trans rfl
  have hfgr5 := blk_frozen Bgr.out 5
  try go_wp2_with (fail)
  refine bodyPost_ret (results_tc rfl _ _ gr 40 #[.bool r2, .bool r3, .bool true, .bool f3, .bool r6, .bool r7] (0, 0) _ rfl (by (with_reducible repeat (first | refine blk_drewN ?_ _ | refine blk_drew ?_ | refine blk_alloc ?_ _)); refine blk_put (cs := #[.bool r2, .bool r3, .bool true, .bool f3, .bool r6, .bool false]) ?_ 5 _ rfl; (with_reducible repeat (first | refine blk_drewN ?_ _ | refine blk_drew ?_ | refine blk_alloc ?_ _)); refine blk_put (cs := #[.bool r2, .bool r3, .bool true, .bool f3, .bool false, .bool false]) ?_ 4 _ rfl; (with_reducible repeat (first | refine blk_drewN ?_ _ | refine blk_drew ?_ | refine blk_alloc ?_ _)); refine blk_put (cs := #[.bool r2, .bool r3, .bool true, .bool false, .bool false, .bool false]) ?_ 3 _ rfl; (with_reducible repeat (first | refine blk_drewN ?_ _ | refine blk_drew ?_ | refine blk_alloc ?_ _)); refine blk_put (cs := #[.bool r2, .bool r3, .bool false, .bool false, .bool false, .bool false]) ?_ 2 _ rfl; (with_reducible repeat (first | refine blk_drewN ?_ _ | refine blk_drew ?_ | refine blk_alloc ?_ _)); refine blk_put (cs := #[.bool r2, .bool false, .bool false, .bool false, .bool false, .bool false]) ?_ 1 _ rfl; (with_reducible repeat (first | refine blk_drewN ?_ _ | refine blk_drew ?_ | refine blk_alloc ?_ _)); refine blk_put (cs := #[.bool false, .bool false, .bool false, .bool false, .bool false, .bool false]) ?_ 0 _ rfl; (with_reducible repeat (first | refine blk_drewN ?_ _ | refine blk_drew ?_ | refine blk_alloc ?_ _)); exact Bgr.out) Try.underlying40 rfl (by kernel_rfl)) rfl ?_
  have e1_ := H1'.out
  have e2_ := HH.out
  subst e1_
  subst e2_
  exact ⟨by first | rfl | (simp; done) | simp [*], by repeat (first | (with_reducible first | exact HB.out | apply below_alloc | apply pw_below_drewN | apply below_drew1 | refine below_set ?_ Ggf.out | refine below_set ?_ Ggr.out | refine below_set ?_ Ggp.out | refine below_set ?_ Ggg.out) | exact HB.out)⟩
def impl_Sbc.f (a b : Int) (f0 f1 f2 f3 f4 f5 : Bool) : Option (Int × Bool × Bool × Bool × Bool × Bool × Bool) := if byteOk a b = true then some (sbc a b f2 f3 f5) else none
theorem impl_Sbc.calls (a b : Int) (f0 f1 f2 f3 f4 f5 : Bool) (r1 : Int) (r2 r3 r4 r5 r6 r7 : Bool) (w : World) (h : impl_Sbc.f a b f0 f1 f2 f3 f4 f5 = some (r1, r2, r3, r4, r5, r6, r7)) : Calls Try.prog 60 #[.int .u8 a, .int .u8 b, .agg #[.bool f0, .bool f1, .bool f2, .bool f3, .bool f4, .bool f5]] w fun e w' => e = .returned (.tuple #[.int .u8 r1, .agg #[.bool r2, .bool r3, .bool r4, .bool r5, .bool r6, .bool r7]]) ∧ Below w.heap.size w w' := by
  unfold impl_Sbc.f at h
  cases ho : byteOk a b with
  | false => rw [ho] at h; exact absurd h (by simp)
  | true =>
    rw [ho, if_pos rfl] at h
    obtain ⟨a0, a1, b0, b1⟩ := byteOk_of ho
    have h' := Option.some.inj h
    cases f2 with
    | false => exact impl_Sbc.bin_ a b f0 f1 f3 f4 f5 w a0 a1 b0 b1 r1 r2 r3 r4 r5 r6 r7 h'
    | true =>
      by_cases c10 : a % 16 - b % 16 - 1 + tc f5 < 0 <;> by_cases c160 : difH a b (tc f5) < 0
      · exact impl_Sbc.dec_cc a b f0 f1 f3 f4 f5 w a0 a1 b0 b1 r1 r2 r3 r4 r5 r6 r7 c10 c160 h'
      · exact impl_Sbc.dec_cn a b f0 f1 f3 f4 f5 w a0 a1 b0 b1 r1 r2 r3 r4 r5 r6 r7 c10 c160 h'
      · exact impl_Sbc.dec_nc a b f0 f1 f3 f4 f5 w a0 a1 b0 b1 r1 r2 r3 r4 r5 r6 r7 c10 c160 h'
      · exact impl_Sbc.dec_nn a b f0 f1 f3 f4 f5 w a0 a1 b0 b1 r1 r2 r3 r4 r5 r6 r7 c10 c160 h'
end Go.Proofs.Ythdeemkhbajfgaa.PAlu
