import Derived.Test.YtafkbhnhmhmjcaaGreatDoorSWMyCpu
import Derived.Test.YtafkbhnhmhmjcaaGreatDoorSWMyStep
import Derived.Test.YtafkbhnhmhmjcaaGreatDoorSWMyLoops
import Derived.Test.YtafkbhnhmhmjcaaGreatDoorSWPureRunTot
import Derived.Test.YtafkbhnhmhmjcaaGreatDoorSWPRunx17
set_option linter.unusedVariables false
set_option linter.unusedSimpArgs false
namespace Go.Proofs.YtafkbhnhmhmjcaaGreatDoor.Weak
open Go.RowKit Go.Proofs.YtafkbhnhmhmjcaaGreatDoorW.PrintWords Go.Proofs.YtafkbhnhmhmjcaaGreatDoorW.PrintLast Go.Proofs.YtafkbhnhmhmjcaaGreatDoorW.PrintMore Go.Proofs.YtafkbhnhmhmjcaaGreatDoor.PRun Go.Proofs.YtafkbhnhmhmjcaaGreatDoor.DrawRun
inductive Starts : List Int → Nat → Prop
  | nil : Starts [] 0
  | snoc {st : List Int} {n m : Nat} (h : Starts st n) (hm : 0 < m) : Starts (st ++ [(n : Int)]) (n + m)
structure RunIs (w w1 : World) (ln N : Nat) (A X Y S p : Int) (vm vt vs vc : Value) : Prop where
  rb : RB A ∧ RB X ∧ RB Y ∧ RB S ∧ RP p
  rows : ∃ (mem : List Int) (tr : List S43) (st : List Int) (cp : List S64), Kd.R (Kd.int .u8) 5 w1 w.heap.size (fun _ => True) vm mem ∧ mem.length = ln ∧ (∀ x, x ∈ mem → RB x) ∧ Kd.R k43 43 w1 w.heap.size (fun _ => True) vt tr ∧ (∀ c, c ∈ tr → CB c) ∧
    Kd.R (Kd.int .i64) 3 w1 w.heap.size (fun _ => True) vs st ∧ Kd.R k64 64 w1 w.heap.size (fun _ => True) vc cp ∧ Starts st tr.length ∧ tr.length ≤ 20 * N ∧ st.length ≤ N ∧ cp.length ≤ N
def RunsTo (w : World) (ln N : Nat) (e : Ending) (w1 : World) : Prop := ∃ A X Y S p f0 f1 f2 f3 f4 f5 vm vt vs vc j, e = .returned (.agg (SLit A X Y S p f0 f1 f2 f3 f4 f5 vm vt vs vc j)) ∧ RunIs w w1 ln N A X Y S p vm vt vs vc ∧ Below w.heap.size w w1
theorem CC_lit {A X Y S p : Int} {f0 f1 f2 f3 f4 f5 : Bool} (h : CC #[.int .u8 A, .int .u8 X, .int .u8 Y, .int .u8 S, .int .u16 p, .bool f0, .bool f1, .bool f2, .bool f3, .bool f4, .bool f5]) : RB A ∧ RB X ∧ RB Y ∧ RB S ∧ RP p := by
  obtain ⟨a, x, y, s, q, g0, g1, g2, g3, g4, g5, he, h1, h2, h3, h4, h5⟩ := h
  simp only [Array.mk.injEq, List.cons.injEq, Value.int.injEq, Value.bool.injEq, and_true, true_and] at he
  obtain ⟨rfl, rfl, rfl, rfl, rfl, _⟩ := he
  exact ⟨h1, h2, h3, h4, h5⟩
theorem info64 : (Tryz.prog.info? 64).map (fun i => (i.zero, i.size, i.bytes)) = some (some (.agg #[.int .u8 0, .int .u8 0, .int .u8 0, .int .u8 0, .int .u16 0, .bool false, .bool false, .bool false, .bool false, .bool false, .bool false]), 11, 12) := by kernel_rfl
section
variable {o : Oper} {a : Act} {w : World}
theorem s_runSt {x y : Operand} (ho : o.op = .store 72 x y) {g : Nat} {cs old : Array Value} (hx : a.eval x = .pointer (some ⟨g, 0, none⟩)) (hy : a.eval y = .agg cs) (hsz : cs.size = 16) (hone : cs.all (·.oneCell') = true) (hb : w.heap[g]? = some (.cells old 72 (0, 0))) (ho16 : old.size = 16) :
    (execOp a.eval o).run Tryz.prog w = .ok .skip (w.setRow g cs) := by
  unfold execOp
  simp only [ho, hx, hy, Instr.storeAt, Instr.sureAddr, Sem.run_bind, Sem.run_pure, Result.andThen_ok, run_storeVar_row w g 72 72 old cs hb (by rw [hsz]; exact shot_info) (ho16.trans hsz.symm) hone]
theorem s_rowSt {g t : Nat} {cs old : Array Value} (hb : w.heap[g]? = some (.cells old t (0, 0))) : (w.setRow g cs).heap[g]? = some (.cells cs t (0, 0)) ∧ (∀ k, k ≠ g → (w.setRow g cs).heap[k]? = w.heap[k]?) ∧ (∀ B u, B ≤ g → Below B u w → Below B u (w.setRow g cs)) :=
  ⟨setRow_heap w g old cs t (0, 0) hb, fun k hk => setRow_other w g k cs hk, fun B a hB hb => ⟨hb.os, hb.tape, hb.output, by rw [setRow_size]; exact hb.size, fun k hk => by rw [setRow_other w g k cs (by omega)]; exact hb.block k hk⟩⟩
theorem s_stEv {Q : Exit → Act → World → Prop} {ops : Array Oper} {rest : List Oper} (hgd : o.guard = none) {x y : Operand} {g : Nat} {cs old : Array Value} (ho : o.op = .store 72 x y) (hx : a.eval x = .pointer (some ⟨g, 0, none⟩)) (hy : a.eval y = .agg cs) (hsz : cs.size = 16) (hone : cs.all (·.oneCell') = true) (hb : w.heap[g]? = some (.cells old 72 (0, 0))) (ho16 : old.size = 16)
    (h : ∀ w1, w1.heap[g]? = some (.cells cs 72 (0, 0)) → (∀ k, k ≠ g → w1.heap[k]? = w.heap[k]?) → (∀ B u, B ≤ g → Below B u w → Below B u w1) → wpList Tryz.prog ops Q rest (a.put o.dst undef) w1) : wpList Tryz.prog ops Q (o :: rest) a w :=
  event_skip hgd (s_runSt ho hx hy hsz hone hb ho16) (h _ (s_rowSt hb).1 (s_rowSt hb).2.1 (s_rowSt hb).2.2)
theorem s_stStep {Q : Exit → Act → World → Prop} {ops : Array Oper} {K : Act → World → Prop} {x y : Operand} (hw : Region.wanted o (yielded ops a.tmps) = true) (hN : o.dst = none) {g : Nat} {cs old : Array Value} (ho : o.op = .store 72 x y) (hx : a.eval x = .pointer (some ⟨g, 0, none⟩)) (hy : a.eval y = .agg cs) (hsz : cs.size = 16) (hone : cs.all (·.oneCell') = true) (hb : w.heap[g]? = some (.cells old 72 (0, 0))) (ho16 : old.size = 16)
    (h : ∀ w1, w1.heap[g]? = some (.cells cs 72 (0, 0)) → (∀ k, k ≠ g → w1.heap[k]? = w.heap[k]?) → (∀ B u, B ≤ g → Below B u w → Below B u w1) → K a w1) : if Region.wanted o (yielded ops a.tmps) = true then Oper.wp Tryz.prog o a w K Q else K (a.put none undef) w :=
  skip_ hw hN (s_runSt ho hx hy hsz hone hb ho16) (h _ (s_rowSt hb).1 (s_rowSt hb).2.1 (s_rowSt hb).2.2)
end
theorem Step.run (w : World) (Ac X0 Y0 S0 P0 : Int) (e0 e1 e2 e3 e4 e5 : Bool) (A0 : Option Addr) (c0 : Nat) (l : List Int) (jb : Bool) (hj : spec_Jams.f 3 l P0 = some jb) (hv : CC #[.int .u8 Ac, .int .u8 X0, .int .u8 Y0, .int .u8 S0, .int .u16 P0, .bool e0, .bool e1, .bool e2, .bool e3, .bool e4, .bool e5]) (hr : Kd.C (Kd.int .u8) w A0 l.length l) (hc0 : l.length ≤ c0) (hok : spec_RamOk.f l = some true) (hb : ∀ x, x ∈ l → RB x) : Calls Tryz.prog 46 #[.agg #[.int .u8 Ac, .int .u8 X0, .int .u8 Y0, .int .u8 S0, .int .u16 P0, .bool e0, .bool e1, .bool e2, .bool e3, .bool e4, .bool e5], .agg #[.slice A0 l.length c0]] w fun e w1 => Stepped w l.length (cond jb 0 1) e w1 := by
  exact Step.any w Ac X0 Y0 S0 P0 e0 e1 e2 e3 e4 e5 A0 c0 l jb hj (cond jb 0 1) (fun h => by rw [h]; rfl) (by cases jb <;> decide) hv hr hc0 hok hb
set_option maxHeartbeats 8000000 in
set_option maxRecDepth 100000 in
theorem Run.any (w : World) (Ac X0 Y0 S0 P0 : Int) (e0 e1 e2 e3 e4 e5 : Bool) (A0 : Option Addr) (c0 : Nat) (l : List Int) (Ae : Option Addr) (ce : Nat) (ev : List S97) (N : Nat) (hv : CC #[.int .u8 Ac, .int .u8 X0, .int .u8 Y0, .int .u8 S0, .int .u16 P0, .bool e0, .bool e1, .bool e2, .bool e3, .bool e4, .bool e5]) (hr : Kd.C (Kd.int .u8) w A0 l.length l) (hc0 : l.length ≤ c0) (hok : spec_RamOk.f l = some true) (hb : ∀ x, x ∈ l → RB x) (he : Kd.C k97 w Ae ev.length ev) (hce : ev.length ≤ ce) (hel : ev.length ≤ 16) (hn : N ≤ 100) : Calls Tryz.prog 26 #[.agg #[.int .u8 Ac, .int .u8 X0, .int .u8 Y0, .int .u8 S0, .int .u16 P0, .bool e0, .bool e1, .bool e2, .bool e3, .bool e4, .bool e5], .agg #[.slice A0 l.length c0], .slice Ae ev.length ce, .int .i64 (N : Int)] w fun e w1 => RunsTo w l.length N e w1 := by
  have HV := zA hv
  have HB := zA (Below.refl w.heap.size w)
  have HR := zA hr
  have HC := zA hc0
  have HK := zA hok
  have HQ := zA hb
  have HE := zA he
  have HCE := zA hce
  have HEL := zA hel
  have HN := zA hn
  have HL := zA (ram_len hok)
  have cE : decide (16 < (ev.length : Int)) = false := decide_eq_false (by omega)
  have cE2 : decide (16 < ev.length) = false := decide_eq_false (by omega)
  clear hv hr hc0 hok hb he hce hel hn
  go_enter Tryz.func26, Tryz.ntmps26
  go_wp2_with (first | ((with_reducible refine gate_dst (N := 4) rfl ?_); refine box_event ?hg (N := 4) ?hd (cs := #[.int .u8 Ac, .int .u8 X0, .int .u8 Y0, .int .u8 S0, .int .u16 P0, .bool e0, .bool e1, .bool e2, .bool e3, .bool e4, .bool e5]) (t := 64) ?hr ?_; (case hd => rfl); (case hg => rfl); (case hr => first | (go_simp; done) | (go_simp; rfl)); intro g hg_ w1 hc_ hb_; have GC := zA (by rw [hg_]; exact HB.out.size : w.heap.size ≤ g); replace HB := zA (below_step HB.out hb_); have BC := zA hc_; clear hb_ hc_ hg_) | ((with_reducible refine gate_dst (N := 5) rfl ?_); refine box_event ?hg (N := 5) ?hd (cs := #[.slice A0 l.length c0]) (t := 66) ?hr ?_; (case hd => rfl); (case hg => rfl); (case hr => first | (go_simp; done) | (go_simp; rfl)); intro g3 hg_ w1 hc_ hb_; have GM := zA (by rw [hg_]; exact HB.out.size : w.heap.size ≤ g3); replace BC := zA (blk_below BC.out hb_); replace HB := zA (below_step HB.out hb_); have BM := zA hc_; clear hb_ hc_ hg_) | ((with_reducible refine gate_dst (N := 8) rfl ?_); refine box_event ?hg (N := 8) ?hd (cs := SLit 0 0 0 0 0 false false false false false false (.slice none 0 0) (.slice none 0 0) (.slice none 0 0) (.slice none 0 0) false) (t := 72) ?hr ?_; (case hd => rfl); (case hg => rfl); (case hr => first | (go_simp; done) | (go_simp; rfl)); intro g8 hg_ w1 hc_ hb_; have G8 := zA (by rw [hg_]; exact HB.out.size : w.heap.size ≤ g8); replace BC := zA (blk_below BC.out hb_); replace BM := zA (blk_below BM.out hb_); replace HB := zA (below_step HB.out hb_); have B8 := zA hc_; clear hb_ hc_ hg_) | ((with_reducible refine gate_load (t := 66) rfl ?_); refine wpList_plain rfl fun _ hK_ => wp_load_row 66 _ rfl g3 rfl 66 _ (0, 0) _ BM.out Tryz.underlying66 rfl (by kernel_rfl) (hK_ _ _ ?_); clear hK_) | (go_at_call 41; refine (spec_RamOk.calls A0 c0 l true _ (Kd.C_below HR.out HB.out) HC.out HK.out).mono ?_; rintro e w1 ⟨rfl, hb_⟩; replace BC := zA (blk_below BC.out hb_); replace BM := zA (blk_below BM.out hb_); replace B8 := zA (blk_below B8.out hb_); replace HB := zA (below_step HB.out hb_); clear hb_) | (go_at_call 42; refine (spec_l01In.calls _ 0 120 true _ (in_some _ (by omega) (by have := HN.out; omega))).mono ?_; rintro e w1 ⟨rfl, hd_⟩; have hb_ := hd_.below; replace BC := zA (blk_below BC.out hb_); replace BM := zA (blk_below BM.out hb_); replace B8 := zA (blk_below B8.out hb_); replace HB := zA (below_step HB.out hb_); clear hb_ hd_))
  clear cE cE2
  refine start_k (n := 9) (S := fun w' => w'.heap[g]? = some (.cells #[.int .u8 Ac, .int .u8 X0, .int .u8 Y0, .int .u8 S0, .int .u16 P0, .bool e0, .bool e1, .bool e2, .bool e3, .bool e4, .bool e5] 64 (0, 0)) ∧ w'.heap[g3]? = some (.cells #[.slice A0 l.length c0] 66 (0, 0))) (ds := [8]) #[false, false, false, false, false, false, false, false, false] (by kernel_rfl) rfl rfl ⟨BC.out, BM.out⟩ (fun w1 he hs => by rw [he]; exact hs) ?_; intro w1 hHeld hb_
  replace BC := zA (blk_below BC.out hb_); replace BM := zA (blk_below BM.out hb_); replace B8 := zA (blk_below B8.out hb_); replace HB := zA (below_step HB.out hb_)
  clear hb_
  refine take_ (i := 0) (N := some 27) (v := ?_) (a' := ?_) #[true, false, false, false, false, false, false, false, false] rfl rfl (by kernel_rfl) (fun _ _ _ h => h) (Or.inl ⟨by rfl, ?_⟩) hHeld ?_ ?_
  rotate_left
  · rintro w' ⟨s0, sb⟩
    refine (c_runC (x := .tmp 4) ?_ ?_ s0 HV.out).trans ?_
    · rfl
    · rfl
    · rfl
  rotate_left
  · simp only [zP]
    rfl
  refine pure_ (i := 2) (N := some 29) (v := ?_) (a' := ?_) #[true, false, true, false, false, false, false, false, false] rfl rfl (by kernel_rfl) (fun _ _ _ h => h) (Or.inl ⟨by rfl, ?_⟩) ?_ ?_
  rotate_left
  · intro w'
    go_simp
    with_reducible rfl
  rotate_left
  · simp only [zP]
    rfl
  refine take_ (i := 3) (N := some 30) (v := ?_) (a' := ?_) #[true, false, true, true, false, false, false, false, false] rfl rfl (by kernel_rfl) (fun _ _ _ h => h) (Or.inl ⟨by rfl, ?_⟩) hHeld ?_ ?_
  rotate_left
  · rintro w' ⟨s0, sb⟩
    have t0 : w'.cell? ⟨g3, 0, none⟩ = some (.slice A0 l.length c0) := (blk_cell sb 0).trans rfl
    go_simp
    with_reducible rfl
  rotate_left
  · simp only [zP]
    rfl
  refine join_ (σ := Value × Option Addr × Nat × Nat) 1 #[true, true, true, true, true, true, true, true, false] (fun s => [(28, s.1), (31, .slice s.2.1 l.length s.2.2.1), (32, .agg #[.slice s.2.1 l.length s.2.2.1]), (33, .agg #[.int .u8 Ac, .int .u8 X0, .int .u8 Y0, .int .u8 S0, .int .u16 P0, .bool e0, .bool e1, .bool e2, .bool e3, .bool e4, .bool e5, .slice s.2.1 l.length s.2.2.1, .slice none 0 0, .slice none 0 0, .slice none 0 0, .bool false]), (9, .pointer (some ⟨s.2.2.2, 0, none⟩))]) (fun s w' => (w'.heap[g8]? = some (.cells (SLit 0 0 0 0 0 false false false false false false (.slice none 0 0) (.slice none 0 0) (.slice none 0 0) (.slice none 0 0) false) 72 (0, 0)) ∧ w'.heap[s.2.2.2]? = some (.cells (SLit 0 0 0 0 0 false false false false false false (.slice none 0 0) (.slice none 0 0) (.slice none 0 0) (.slice none 0 0) false) 72 (0, 0)) ∧ g8 ≠ s.2.2.2 ∧ w.heap.size ≤ s.2.2.2) ∧ Kd.R (Kd.int .u8) 5 w' w.heap.size (fun _ => True) (.slice s.2.1 l.length s.2.2.1) l ∧ Below w.heap.size w w') ?_ ?_
  rotate_left
  · intro hC
    refine two_ (i := 1) (j := 7) (Ni := some 28) (Nj := some 9) #[true, true, true, true, false, false, false, false, false] #[true, false, true, true, false, false, false, true, false] rfl rfl rfl rfl (by kernel_rfl) (by decide) (by decide) (fun K hK => ?_) (fun K hK => ?_)
    · skip
      refine Kd.R_lit_step (Kd.int .u8) _ 5 (by rfl) (N := 28) rfl (xs := []) (inner := []) (ok := fun _ => True) (okp := fun _ => True) ?hr ?hp (fun _ hk => hk) trivial (Below.refl _ _) (Nat.le_refl _) (by simp) ?_
      case hr => first | (go_simp; done) | (go_simp; rfl)
      case hp => exact (Reps.none _ _)
      intro v0 w1 ho_ hb_ hg_ hnew_
      clear hg_ hnew_
      have HO := zA (Kd.R_lower ho_ HB.out.size)
      replace hHeld := And.intro (blk_below hHeld.1 hb_) (blk_below hHeld.2 hb_)
      replace BC := zA (blk_below BC.out hb_); replace BM := zA (blk_below BM.out hb_); replace B8 := zA (blk_below B8.out hb_); replace HB := zA (below_step HB.out hb_)
      clear ho_ hb_
      refine hK.out _ _ hHeld (fun _ => ?_)
      clear hK K
      refine norm_ (a' := ?_) ?_ ?_
      rotate_left
      · show Act.put _ (some 28) _ = _
        simp only [zP]
        rfl
      refine two_ (i := 4) (j := 7) (Ni := some 31) (Nj := some 9) #[true, true, true, true, true, false, false, false, false] #[true, true, true, true, false, false, false, true, false] rfl rfl rfl rfl (by kernel_rfl) (by decide) (by decide) (fun K hK => ?_) (fun K hK => ?_)
      · skip
        refine Kd.R_append_rows_step (Kd.int .u8) (w0 := w) w.heap.size (by rfl) (.tmp 28) (.tmp 30) 22 5 (.int .u8 0) 1 rfl Tryz.underlying22 info5 rfl (by decide) (by omega) v0 [] l _ _ _ (fun _ => True) (fun _ => False) rfl rfl ?aO ?aR (fun _ _ h => h) (fun _ h => h.elim) ?aF ?aB ?aS ?aL ?_
        case aR => exact Kd.C_below HR.out HB.out
        case aB => exact HB.out
        case aF => exact (fun _ _ => trivial)
        case aO => exact HO.out
        case aS => exact HB.out.size
        case aL => have := HL.out; simp; omega
        intro v2 w1 ho_ hb_ hg_ hat_
        simp only [List.nil_append] at ho_
        replace hHeld := And.intro (raw_grown hHeld.1 hg_ HO.out (by decide)) (raw_grown hHeld.2 hg_ HO.out (by decide))
        replace BC := zA (raw_grown BC.out hg_ HO.out (by decide)); replace BM := zA (raw_grown BM.out hg_ HO.out (by decide)); replace B8 := zA (raw_grown B8.out hg_ HO.out (by decide)); replace HO := zA (ho_); replace HB := zA (hb_)
        clear ho_ hb_ hg_ hat_
        obtain ⟨A1, c1, rfl⟩ := Kd.R_slice HO.out
        refine hK.out _ _ hHeld (fun _ => ?_)
        clear hK K
        refine norm_ (a' := ?_) ?_ ?_
        rotate_left
        · show Act.put _ (some 31) _ = _
          simp only [zP]
          rfl
        refine pure_ (i := 5) (N := some 32) (v := ?_) (a' := ?_) #[true, true, true, true, true, true, false, false, false] rfl rfl (by kernel_rfl) (fun _ _ _ h => h) (Or.inl ⟨by rfl, ?_⟩) ?_ ?_
        rotate_left
        · intro w'
          go_simp
          with_reducible rfl
        rotate_left
        · simp only [zP]
          rfl
        refine pure_ (i := 6) (N := some 33) (v := ?_) (a' := ?_) #[true, true, true, true, true, true, true, false, false] rfl rfl (by kernel_rfl) (fun _ _ _ h => h) (Or.inl ⟨by rfl, ?_⟩) ?_ ?_
        rotate_left
        · intro w'
          go_simp
          with_reducible rfl
        rotate_left
        · simp only [zP]
          rfl
        refine one_ (i := 7) (N := some 9) #[true, true, true, true, true, true, true, true, false] rfl rfl (by kernel_rfl) (by decide) (fun K hK => ?_)
        refine box_step (by rfl) (N := 9) rfl (cs := SLit 0 0 0 0 0 false false false false false false (.slice none 0 0) (.slice none 0 0) (.slice none 0 0) (.slice none 0 0) false) (t := 72) ?hr ?_
        case hr => first | (go_simp; done) | (go_simp; rfl)
        intro g9 hg9 w1 hc_ hb_
        have G9 := zA (by rw [hg9]; exact HB.out.size : w.heap.size ≤ g9)
        have N89 := zA (by have := blk_lt B8.out; omega : g8 ≠ g9)
        have B9 := zA hc_
        replace hHeld := And.intro (blk_below hHeld.1 hb_) (blk_below hHeld.2 hb_)
        replace BC := zA (blk_below BC.out hb_); replace BM := zA (blk_below BM.out hb_); replace B8 := zA (blk_below B8.out hb_); replace HO := zA (Kd.R_below HO.out hb_); replace HB := zA (below_step HB.out hb_)
        clear hb_ hc_ hg9
        refine hK.out _ _ hHeld (fun _ => ?_)
        clear hK K
        refine norm_ (a' := ?_) ?_ ?_
        rotate_left
        · show Act.put _ (some 9) _ = _
          simp only [zP]
          rfl
        exact norm_ rfl (hC (v0, A1, c1, g9) _ ⟨⟨B8.out, B9.out, N89.out, G9.out⟩, HO.out, HB.out⟩)
      · skip
        refine box_step (by rfl) (N := 9) rfl (cs := SLit 0 0 0 0 0 false false false false false false (.slice none 0 0) (.slice none 0 0) (.slice none 0 0) (.slice none 0 0) false) (t := 72) ?hr ?_
        case hr => first | (go_simp; done) | (go_simp; rfl)
        intro g9 hg9 w1 hc_ hb_
        have G9 := zA (by rw [hg9]; exact HB.out.size : w.heap.size ≤ g9)
        have N89 := zA (by have := blk_lt B8.out; omega : g8 ≠ g9)
        have B9 := zA hc_
        replace hHeld := And.intro (blk_below hHeld.1 hb_) (blk_below hHeld.2 hb_)
        replace BC := zA (blk_below BC.out hb_); replace BM := zA (blk_below BM.out hb_); replace B8 := zA (blk_below B8.out hb_); replace HO := zA (Kd.R_below HO.out hb_); replace HB := zA (below_step HB.out hb_)
        clear hb_ hc_ hg9
        refine hK.out _ _ hHeld (fun _ => ?_)
        clear hK K
        refine norm_ (a' := ?_) ?_ ?_
        rotate_left
        · show Act.put _ (some 9) _ = _
          simp only [zP]
          rfl
        refine one_ (i := 4) (N := some 31) #[true, true, true, true, true, false, false, true, false] rfl rfl (by kernel_rfl) (by decide) (fun K hK => ?_)
        refine Kd.R_append_rows_step (Kd.int .u8) (w0 := w) w.heap.size (by rfl) (.tmp 28) (.tmp 30) 22 5 (.int .u8 0) 1 rfl Tryz.underlying22 info5 rfl (by decide) (by omega) v0 [] l _ _ _ (fun _ => True) (fun _ => False) rfl rfl ?aO ?aR (fun _ _ h => h) (fun _ h => h.elim) ?aF ?aB ?aS ?aL ?_
        case aR => exact Kd.C_below HR.out HB.out
        case aB => exact HB.out
        case aF => exact (fun _ _ => trivial)
        case aO => exact HO.out
        case aS => exact HB.out.size
        case aL => have := HL.out; simp; omega
        intro v2 w1 ho_ hb_ hg_ hat_
        simp only [List.nil_append] at ho_
        replace hHeld := And.intro (raw_grown hHeld.1 hg_ HO.out (by decide)) (raw_grown hHeld.2 hg_ HO.out (by decide))
        replace BC := zA (raw_grown BC.out hg_ HO.out (by decide)); replace BM := zA (raw_grown BM.out hg_ HO.out (by decide)); replace B8 := zA (raw_grown B8.out hg_ HO.out (by decide)); replace B9 := zA (raw_grown B9.out hg_ HO.out (by decide)); replace HO := zA (ho_); replace HB := zA (hb_)
        clear ho_ hb_ hg_ hat_
        obtain ⟨A1, c1, rfl⟩ := Kd.R_slice HO.out
        refine hK.out _ _ hHeld (fun _ => ?_)
        clear hK K
        refine norm_ (a' := ?_) ?_ ?_
        rotate_left
        · show Act.put _ (some 31) _ = _
          simp only [zP]
          rfl
        refine pure_ (i := 5) (N := some 32) (v := ?_) (a' := ?_) #[true, true, true, true, true, true, false, true, false] rfl rfl (by kernel_rfl) (fun _ _ _ h => h) (Or.inl ⟨by rfl, ?_⟩) ?_ ?_
        rotate_left
        · intro w'
          go_simp
          with_reducible rfl
        rotate_left
        · simp only [zP]
          rfl
        refine pure_ (i := 6) (N := some 33) (v := ?_) (a' := ?_) #[true, true, true, true, true, true, true, true, false] rfl rfl (by kernel_rfl) (fun _ _ _ h => h) (Or.inl ⟨by rfl, ?_⟩) ?_ ?_
        rotate_left
        · intro w'
          go_simp
          with_reducible rfl
        rotate_left
        · simp only [zP]
          rfl
        exact norm_ rfl (hC (v0, A1, c1, g9) _ ⟨⟨B8.out, B9.out, N89.out, G9.out⟩, HO.out, HB.out⟩)
    · skip
      refine box_step (by rfl) (N := 9) rfl (cs := SLit 0 0 0 0 0 false false false false false false (.slice none 0 0) (.slice none 0 0) (.slice none 0 0) (.slice none 0 0) false) (t := 72) ?hr ?_
      case hr => first | (go_simp; done) | (go_simp; rfl)
      intro g9 hg9 w1 hc_ hb_
      have G9 := zA (by rw [hg9]; exact HB.out.size : w.heap.size ≤ g9)
      have N89 := zA (by have := blk_lt B8.out; omega : g8 ≠ g9)
      have B9 := zA hc_
      replace hHeld := And.intro (blk_below hHeld.1 hb_) (blk_below hHeld.2 hb_)
      replace BC := zA (blk_below BC.out hb_); replace BM := zA (blk_below BM.out hb_); replace B8 := zA (blk_below B8.out hb_); replace HB := zA (below_step HB.out hb_)
      clear hb_ hc_ hg9
      refine hK.out _ _ hHeld (fun _ => ?_)
      clear hK K
      refine norm_ (a' := ?_) ?_ ?_
      rotate_left
      · show Act.put _ (some 9) _ = _
        simp only [zP]
        rfl
      refine one_ (i := 1) (N := some 28) #[true, true, true, true, false, false, false, true, false] rfl rfl (by kernel_rfl) (by decide) (fun K hK => ?_)
      refine Kd.R_lit_step (Kd.int .u8) _ 5 (by rfl) (N := 28) rfl (xs := []) (inner := []) (ok := fun _ => True) (okp := fun _ => True) ?hr ?hp (fun _ hk => hk) trivial (Below.refl _ _) (Nat.le_refl _) (by simp) ?_
      case hr => first | (go_simp; done) | (go_simp; rfl)
      case hp => exact (Reps.none _ _)
      intro v0 w1 ho_ hb_ hg_ hnew_
      clear hg_ hnew_
      have HO := zA (Kd.R_lower ho_ HB.out.size)
      replace hHeld := And.intro (blk_below hHeld.1 hb_) (blk_below hHeld.2 hb_)
      replace BC := zA (blk_below BC.out hb_); replace BM := zA (blk_below BM.out hb_); replace B8 := zA (blk_below B8.out hb_); replace B9 := zA (blk_below B9.out hb_); replace HB := zA (below_step HB.out hb_)
      clear ho_ hb_
      refine hK.out _ _ hHeld (fun _ => ?_)
      clear hK K
      refine norm_ (a' := ?_) ?_ ?_
      rotate_left
      · show Act.put _ (some 28) _ = _
        simp only [zP]
        rfl
      refine one_ (i := 4) (N := some 31) #[true, true, true, true, true, false, false, true, false] rfl rfl (by kernel_rfl) (by decide) (fun K hK => ?_)
      refine Kd.R_append_rows_step (Kd.int .u8) (w0 := w) w.heap.size (by rfl) (.tmp 28) (.tmp 30) 22 5 (.int .u8 0) 1 rfl Tryz.underlying22 info5 rfl (by decide) (by omega) v0 [] l _ _ _ (fun _ => True) (fun _ => False) rfl rfl ?aO ?aR (fun _ _ h => h) (fun _ h => h.elim) ?aF ?aB ?aS ?aL ?_
      case aR => exact Kd.C_below HR.out HB.out
      case aB => exact HB.out
      case aF => exact (fun _ _ => trivial)
      case aO => exact HO.out
      case aS => exact HB.out.size
      case aL => have := HL.out; simp; omega
      intro v2 w1 ho_ hb_ hg_ hat_
      simp only [List.nil_append] at ho_
      replace hHeld := And.intro (raw_grown hHeld.1 hg_ HO.out (by decide)) (raw_grown hHeld.2 hg_ HO.out (by decide))
      replace BC := zA (raw_grown BC.out hg_ HO.out (by decide)); replace BM := zA (raw_grown BM.out hg_ HO.out (by decide)); replace B8 := zA (raw_grown B8.out hg_ HO.out (by decide)); replace B9 := zA (raw_grown B9.out hg_ HO.out (by decide)); replace HO := zA (ho_); replace HB := zA (hb_)
      clear ho_ hb_ hg_ hat_
      obtain ⟨A1, c1, rfl⟩ := Kd.R_slice HO.out
      refine hK.out _ _ hHeld (fun _ => ?_)
      clear hK K
      refine norm_ (a' := ?_) ?_ ?_
      rotate_left
      · show Act.put _ (some 31) _ = _
        simp only [zP]
        rfl
      refine pure_ (i := 5) (N := some 32) (v := ?_) (a' := ?_) #[true, true, true, true, true, true, false, true, false] rfl rfl (by kernel_rfl) (fun _ _ _ h => h) (Or.inl ⟨by rfl, ?_⟩) ?_ ?_
      rotate_left
      · intro w'
        go_simp
        with_reducible rfl
      rotate_left
      · simp only [zP]
        rfl
      refine pure_ (i := 6) (N := some 33) (v := ?_) (a' := ?_) #[true, true, true, true, true, true, true, true, false] rfl rfl (by kernel_rfl) (fun _ _ _ h => h) (Or.inl ⟨by rfl, ?_⟩) ?_ ?_
      rotate_left
      · intro w'
        go_simp
        with_reducible rfl
      rotate_left
      · simp only [zP]
        rfl
      exact norm_ rfl (hC (v0, A1, c1, g9) _ ⟨⟨B8.out, B9.out, N89.out, G9.out⟩, HO.out, HB.out⟩)
  · rintro ⟨v0, Am, cm, g9⟩ w1 ⟨⟨b8_, b9_, n89_, g9_⟩, hm_, hb_⟩
    simp only at b9_ n89_ g9_ hm_
    clear B8 BC BM HB hHeld
    have B8 := zA b8_
    have B9 := zA b9_
    have N89 := zA n89_
    have G9 := zA g9_
    have HM := zA hm_
    have HB := zA hb_
    clear b8_ b9_ n89_ g9_ hm_ hb_
    refine norm_ (a' := ?_) ?_ ?_
    rotate_left
    · show putAll _ _ = _
      simp only [putAll]
      simp only [zP]
      rfl
    refine last_ (i := 8) (N := none) #[true, true, true, true, true, true, true, true, true] rfl rfl (by kernel_rfl) (by decide) (fun K hK => ?_)
    refine s_stStep (by rfl) rfl (x := .tmp 9) (y := .tmp 33) (g := g9) (cs := SLit Ac X0 Y0 S0 P0 e0 e1 e2 e3 e4 e5 (.slice Am l.length cm) (.slice none 0 0) (.slice none 0 0) (.slice none 0 0) false) rfl rfl rfl (by rfl) (by simp [SLit, Value.oneCell']) B9.out (by rfl) ?_
    intro w1 hc_ hk_ hb_
    refine hK.out _ _ ?_
    clear hK K
    replace B8 := zA ((hk_ _ N89.out).trans B8.out); replace HM := zA (R_other HM.out B9.out (by decide) hk_); replace B9 := zA (hc_); replace HB := zA (hb_ _ _ G9.out HB.out)
    clear hc_ hk_ hb_
    refine done_ (by kernel_rfl) ?_
    go_wp2
    go_loopg [10] (N + 1) (fun kq v10 w' => ∃ (kk : Nat) (A X Y S p : Int) (f0 f1 f2 f3 f4 f5 j : Bool) (vm vt vs vc : Value) (mem : List Int) (tr : List S43) (st : List Int) (cp : List S64), v10 = .int .i64 (kk : Int) ∧ Aside0 (kk ≤ N ∧ kq + kk = N + 1) ∧ Aside0 (RB A ∧ RB X ∧ RB Y ∧ RB S ∧ RP p) ∧ Aside0 (w'.heap[g9]? = some (.cells (SLit A X Y S p f0 f1 f2 f3 f4 f5 vm vt vs vc j) 72 (0, 0))) ∧ Aside0 (w'.heap[g8]? = some (.cells (SLit 0 0 0 0 0 false false false false false false (.slice none 0 0) (.slice none 0 0) (.slice none 0 0) (.slice none 0 0) false) 72 (0, 0))) ∧ Aside0 (Kd.R (Kd.int .u8) 5 w' w.heap.size (fun _ => True) vm mem) ∧ Aside0 (mem.length = l.length ∧ ∀ x, x ∈ mem → RB x) ∧ Aside0 (Kd.R k43 43 w' w.heap.size (fun _ => True) vt tr) ∧ Aside0 (∀ c, c ∈ tr → CB c) ∧ Aside0 (Kd.R (Kd.int .i64) 3 w' w.heap.size (fun _ => True) vs st) ∧ Aside0 (Kd.R k64 64 w' w.heap.size (fun _ => True) vc cp) ∧ Aside0 (Starts st tr.length ∧ tr.length ≤ 20 * kk ∧ st.length ≤ kk ∧ cp.length ≤ kk) ∧ Aside0 (Below w.heap.size w w'))
    case atStart =>
      obtain ⟨h1_, h2_, h3_, h4_, h5_⟩ := CC_lit HV.out
      exact ⟨0, Ac, X0, Y0, S0, P0, e0, e1, e2, e3, e4, e5, false, _, _, _, _, l, [], [], [], rfl, ⟨⟨Nat.zero_le _, rfl⟩⟩, ⟨⟨h1_, h2_, h3_, h4_, h5_⟩⟩, B9, B8, HM, ⟨⟨rfl, HQ.out⟩⟩, ⟨Kd.R_nil _ _ _ _ _⟩, ⟨by simp⟩, ⟨Kd.R_nil _ _ _ _ _⟩, ⟨Kd.R_nil _ _ _ _ _⟩, ⟨⟨Starts.nil, by simp, by simp, by simp⟩⟩, HB⟩
    case round =>
      clear B8 B9 HM HB
      obtain ⟨kk, A, X, Y, S, p, f0, f1, f2, f3, f4, f5, j, vm, vt, vs, vc, mem, tr, st, cp, rfl, HKK, HRB, B9, B8, HM, HMM, HT, HTT, HS, HK2, HST, HB⟩ := hrel
      obtain ⟨Am, cm, rfl⟩ := Kd.R_slice HM.out
      obtain ⟨At, ct, rfl⟩ := Kd.R_slice HT.out
      obtain ⟨As, cs, rfl⟩ := Kd.R_slice HS.out
      obtain ⟨Ak, ck, rfl⟩ := Kd.R_slice HK2.out
      have HN2 : (kk : Int) ≤ 100 := by have := HKK.out; have := HN.out; omega
      have hcJ : wr.cell? ⟨g9, 15, none⟩ = some (.bool j) := (blk_cell B9.out 15).trans rfl
      have HRL := zA ((⟨A, X, Y, S, p, f0, f1, f2, f3, f4, f5, rfl, HRB.out⟩) : CC #[.int .u8 A, .int .u8 X, .int .u8 Y, .int .u8 S, .int .u16 p, .bool f0, .bool f1, .bool f2, .bool f3, .bool f4, .bool f5])
      rcases Nat.lt_or_ge kk N with hkN | hkN
      rotate_left
      · have c1 : decide ((kk : Int) < (N : Int)) = false := decide_eq_false (by omega)
        have c1b : decide (kk < N) = false := decide_eq_false (by omega)
        go_wp2_with (first | ((with_reducible refine gate_load (t := 72) rfl ?_); refine wpList_plain rfl fun _ hK_ => wp_load_row 72 _ rfl g9 rfl 72 _ (0, 0) _ B9.out Tryz.underlying72 rfl (by kernel_rfl) (hK_ _ _ ?_); clear hK_) | ((with_reducible refine gate_st (t := 72) rfl ?_); refine s_stEv rfl (g := g8) (cs := (SLit A X Y S p f0 f1 f2 f3 f4 f5 (.slice Am mem.length cm) (.slice At tr.length ct) (.slice As st.length cs) (.slice Ak cp.length ck) j)) rfl rfl rfl (by rfl) (by simp [SLit, Value.oneCell']) B8.out (by rfl) ?_; intro w1 hc_ hk_ hb_; (try clear hcJ); (try clear hcI); clear B9; replace HM := zA (R_other HM.out B8.out (by decide) hk_); replace HT := zA (R_other HT.out B8.out (by decide) hk_); replace HS := zA (R_other HS.out B8.out (by decide) hk_); replace HK2 := zA (R_other HK2.out B8.out (by decide) hk_); replace B8 := zA (hc_); replace HB := zA (hb_ _ _ G8.out HB.out); clear hc_ hk_ hb_) | ((with_reducible refine gate_ret ?_); refine bodyPost_ret (results_cell_row rfl _ _ g8 72 (SLit A X Y S p f0 f1 f2 f3 f4 f5 (.slice Am mem.length cm) (.slice At tr.length ct) (.slice As st.length cs) (.slice Ak cp.length ck) j) (0, 0) _ rfl B8.out Tryz.underlying72 rfl (by kernel_rfl)) rfl ?_; exact ⟨A, X, Y, S, p, f0, f1, f2, f3, f4, f5, _, _, _, _, _, rfl, ⟨HRB.out, mem, tr, st, cp, HM.out, HMM.out.1, HMM.out.2, HT.out, HTT.out, HS.out, HK2.out, HST.out.1, by have := HST.out; have := HKK.out; omega, by have := HST.out; have := HKK.out; omega, by have := HST.out; have := HKK.out; omega⟩, HB.out⟩))
      have c1 : decide ((kk : Int) < (N : Int)) = true := decide_eq_true (by omega)
      have c1b : decide (kk < N) = true := decide_eq_true hkN
      cases j with
      | true =>
        go_wp2_with (first | ((with_reducible refine gate_load (t := 72) rfl ?_); refine wpList_plain rfl fun _ hK_ => wp_load_row 72 _ rfl g9 rfl 72 _ (0, 0) _ B9.out Tryz.underlying72 rfl (by kernel_rfl) (hK_ _ _ ?_); clear hK_) | ((with_reducible refine gate_st (t := 72) rfl ?_); refine s_stEv rfl (g := g8) (cs := (SLit A X Y S p f0 f1 f2 f3 f4 f5 (.slice Am mem.length cm) (.slice At tr.length ct) (.slice As st.length cs) (.slice Ak cp.length ck) true)) rfl rfl rfl (by rfl) (by simp [SLit, Value.oneCell']) B8.out (by rfl) ?_; intro w1 hc_ hk_ hb_; (try clear hcJ); (try clear hcI); clear B9; replace HM := zA (R_other HM.out B8.out (by decide) hk_); replace HT := zA (R_other HT.out B8.out (by decide) hk_); replace HS := zA (R_other HS.out B8.out (by decide) hk_); replace HK2 := zA (R_other HK2.out B8.out (by decide) hk_); replace B8 := zA (hc_); replace HB := zA (hb_ _ _ G8.out HB.out); clear hc_ hk_ hb_) | ((with_reducible refine gate_ret ?_); refine bodyPost_ret (results_cell_row rfl _ _ g8 72 (SLit A X Y S p f0 f1 f2 f3 f4 f5 (.slice Am mem.length cm) (.slice At tr.length ct) (.slice As st.length cs) (.slice Ak cp.length ck) true) (0, 0) _ rfl B8.out Tryz.underlying72 rfl (by kernel_rfl)) rfl ?_; exact ⟨A, X, Y, S, p, f0, f1, f2, f3, f4, f5, _, _, _, _, _, rfl, ⟨HRB.out, mem, tr, st, cp, HM.out, HMM.out.1, HMM.out.2, HT.out, HTT.out, HS.out, HK2.out, HST.out.1, by have := HST.out; have := HKK.out; omega, by have := HST.out; have := HKK.out; omega, by have := HST.out; have := HKK.out; omega⟩, HB.out⟩))
      | false =>
        go_wp2_with (first | ((with_reducible refine gate_dst (N := 11) rfl ?_); refine c_alloc rfl rfl rfl ?_; intro gq hgq w1 hc_ hb_; clear hcJ; have GB := zA (by rw [← hgq]; exact HB.out.size : w.heap.size ≤ gq); have HK2 := zA (Kd.R_mono (ok' := fun k => k ≠ gq) (Kd.R_bound HK2.out) (fun k hk => by rw [← hgq]; exact Nat.ne_of_lt hk.2.2.1)); replace B9 := zA (blk_below B9.out hb_); replace B8 := zA (blk_below B8.out hb_); replace HM := zA (Kd.R_below HM.out hb_); replace HT := zA (Kd.R_below HT.out hb_); replace HS := zA (Kd.R_below HS.out hb_); replace HK2 := zA (Kd.R_below HK2.out hb_); replace HB := zA (below_step HB.out hb_); have BB := zA hc_; clear hb_ hc_ hgq) | ((with_reducible refine gate_st (t := 64) rfl ?_); refine c_stC rfl rfl rfl rfl HRL.out BB.out ?_; intro w1 hc_ hk_ hb_; replace B9 := zA ((hk_ _ (BB.out.ne_of B9.out (by decide))).trans B9.out); replace B8 := zA ((hk_ _ (BB.out.ne_of B8.out (by decide))).trans B8.out); replace HM := zA (R_other HM.out (BB.out.choose_spec.1) (by decide) hk_); replace HT := zA (R_other HT.out (BB.out.choose_spec.1) (by decide) hk_); replace HS := zA (R_other HS.out (BB.out.choose_spec.1) (by decide) hk_); replace BB := zA (hc_); replace HK2 := zA (Kd.R_mono (ok' := fun _ => True) (Kd.R_step HK2.out (fun k ho _ => hk_ k ho)) (fun _ _ => trivial)); replace HB := zA (hb_ _ _ GB.out HB.out); clear hc_ hk_ hb_) | ((with_reducible refine gate_dst (N := 46) rfl ?_); refine Kd.R_lit k43 _ 43 ?hg (N := 46) ?hd (xs := []) (inner := []) (ok := fun _ => True) (okp := fun _ => True) ?hr ?hp (fun _ hk => hk) trivial (Below.refl _ _) (Nat.le_refl _) (by simp) ?_; (case hd => rfl); (case hg => rfl); (case hr => first | (go_simp; done) | (go_simp; rfl)); (case hp => exact (Reps.none _ _)); intro v0 w1 ho_ hb_ hg_ hnew_; clear hg_ hnew_ ho_; replace B9 := zA (blk_below B9.out hb_); replace B8 := zA (blk_below B8.out hb_); replace BB := zA (BB.out.below_ hb_); replace HM := zA (Kd.R_below HM.out hb_); replace HT := zA (Kd.R_below HT.out hb_); replace HS := zA (Kd.R_below HS.out hb_); replace HK2 := zA (Kd.R_below HK2.out hb_); replace HB := zA (below_step HB.out hb_); clear hb_) | ((with_reducible refine gate_load (t := 64) rfl ?_); first | (refine Kd.event_run (v := .agg #[.int .u8 _, .int .u8 _, .int .u8 _, .int .u8 _, .int .u16 _, .bool _, .bool _, .bool _, .bool _, .bool _, .bool _]) rfl (sh_ldC rfl rfl B9.out) ?_)))
        go_wp2_with (first | (go_at_call 43; obtain ⟨r_, hr_⟩ := asked_some ev (kk : Int) _ (by have := HEL.out; omega) 1001 (Nat.le_refl _); have HR_ := zA hr_; clear hr_; refine (spec_l07Asked.calls 1001 Ae ce ev _ _ r_ _ (Kd.C_below HE.out HB.out) HCE.out HR_.out).mono ?_; rintro e w1 ⟨rfl, hd_⟩; have hb_ := hd_.below; replace B9 := zA (blk_below B9.out hb_); replace B8 := zA (blk_below B8.out hb_); replace BB := zA (BB.out.below_ hb_); replace HM := zA (Kd.R_below HM.out hb_); replace HT := zA (Kd.R_below HT.out hb_); replace HS := zA (Kd.R_below HS.out hb_); replace HK2 := zA (Kd.R_below HK2.out hb_); replace HB := zA (below_step HB.out hb_); clear hb_ hd_ HR_; (try clear hcI); have hcI : w1.cell? ⟨g9, 8, none⟩ = some (.bool f3) := (blk_cell B9.out 8).trans rfl) | (go_at_call 44; (try clear hcI); refine (Serve.any _ _ _ _ _ _ _ _ _ _ _ _ Am cm mem _ HRL.out (Kd.R_reads' HM.out).2.2 (Kd.R_reads' HM.out).2.1 (ram_same HK.out HMM.out.1) HMM.out.2).mono ?_; rintro e w1 ⟨ds_, vm, mem, vl, log, rfl, hds_, hm_, hml_, hmb_, hl_, hlb_, hlo_, hhi_, hb_⟩; have HLR := zA (Kd.R_lower hl_ HB.out.size); have HLB := zA hlb_; have HLO := zA hlo_; have HHI := zA hhi_; have HM2 := zA (Kd.R_lower hm_ HB.out.size); have HMM2 := zA (p := mem.length = l.length ∧ ∀ x, x ∈ mem → RB x) ⟨hml_.trans HMM.out.1, hmb_⟩; clear hlb_ hlo_ hhi_ hl_ hm_ hml_ hmb_; replace B9 := zA (blk_below B9.out hb_); replace B8 := zA (blk_below B8.out hb_); replace BB := zA (BB.out.below_ hb_); replace HT := zA (Kd.R_below HT.out hb_); replace HS := zA (Kd.R_below HS.out hb_); replace HK2 := zA (Kd.R_below HK2.out hb_); replace HB := zA (below_step HB.out hb_); clear HM HMM HRL HRB; have HM := HM2; have HMM := HMM2; clear HM2 HMM2 hb_; have HRL := zA hds_; obtain ⟨A, X, Y, S, p, f0, f1, f2, f3, f4, f5, rfl, hrb_⟩ := hds_; have HRB := zA hrb_; clear hrb_; obtain ⟨Am, cm, rfl⟩ := Kd.R_slice HM.out; obtain ⟨Al, cl, rfl⟩ := Kd.R_slice HLR.out) | (go_at_call 45; (try clear hcI); obtain ⟨jv_, hj_⟩ := jams_some (ram_same HK.out HMM.out.1) HMM.out.2 p HRB.out.2.2.2.2; cases jv_ <;> (have HJ := zA hj_; clear hj_; refine (spec_Jams.calls 3 Am cm mem p _ _ (Kd.R_reads' HM.out).2.2 (Kd.R_reads' HM.out).2.1 HJ.out).mono ?_; rintro e w1 ⟨rfl, hb_⟩; replace B9 := zA (blk_below B9.out hb_); replace B8 := zA (blk_below B8.out hb_); replace BB := zA (BB.out.below_ hb_); replace HM := zA (Kd.R_below HM.out hb_); replace HT := zA (Kd.R_below HT.out hb_); replace HS := zA (Kd.R_below HS.out hb_); replace HK2 := zA (Kd.R_below HK2.out hb_); replace HB := zA (below_step HB.out hb_); clear hb_)) | (go_at_call 46; (try clear hcI); refine (Step.run _ _ _ _ _ _ _ _ _ _ _ _ Am cm mem _ HJ.out HRL.out (Kd.R_reads' HM.out).2.2 (Kd.R_reads' HM.out).2.1 (ram_same HK.out HMM.out.1) HMM.out.2).mono ?_; rintro e w1 ⟨ds_, vm, mem, vl, log, rfl, hds_, hm_, hml_, hmb_, hl_, hlb_, hlo_, hhi_, hb_⟩; have HLR := zA (Kd.R_lower hl_ HB.out.size); have HLB := zA hlb_; have HLO := zA hlo_; have HHI := zA hhi_; have HM2 := zA (Kd.R_lower hm_ HB.out.size); have HMM2 := zA (p := mem.length = l.length ∧ ∀ x, x ∈ mem → RB x) ⟨hml_.trans HMM.out.1, hmb_⟩; clear hlb_ hlo_ hhi_ hl_ hm_ hml_ hmb_; replace B9 := zA (blk_below B9.out hb_); replace B8 := zA (blk_below B8.out hb_); replace BB := zA (BB.out.below_ hb_); replace HT := zA (Kd.R_below HT.out hb_); replace HS := zA (Kd.R_below HS.out hb_); replace HK2 := zA (Kd.R_below HK2.out hb_); replace HB := zA (below_step HB.out hb_); clear HM HMM HRL HRB; have HM := HM2; have HMM := HMM2; clear HM2 HMM2 hb_; have HRL := zA hds_; obtain ⟨A, X, Y, S, p, f0, f1, f2, f3, f4, f5, rfl, hrb_⟩ := hds_; have HRB := zA hrb_; clear hrb_; obtain ⟨Am, cm, rfl⟩ := Kd.R_slice HM.out; obtain ⟨Al, cl, rfl⟩ := Kd.R_slice HLR.out) | ((with_reducible refine gate_load (t := 64) rfl ?_); first | (refine Kd.event_run (v := .agg #[.int .u8 _, .int .u8 _, .int .u8 _, .int .u8 _, .int .u16 _, .bool _, .bool _, .bool _, .bool _, .bool _, .bool _]) rfl (sh_ldC rfl rfl B9.out) ?_) | (refine c_ldC rfl rfl rfl BB.out ?_; rintro _ ⟨a_, x_, y_, s_, p_, g0_, g1_, g2_, g3_, g4_, g5_, rfl, _⟩)) | ((with_reducible refine gate_load (t := 66) rfl ?_); first | (refine Kd.event_run (v := .agg #[.slice _ _ _]) rfl (sh_ldR rfl rfl rfl B9.out) ?_)) | ((with_reducible refine gate_load (t := 41) rfl ?_); first | (refine Kd.event_run (v := .int .u16 _) rfl (sh_ldP rfl rfl B9.out) ?_)) | ((with_reducible refine gate_load (t := 24) rfl ?_); first | (refine Kd.event_run (v := .slice _ _ _) rfl (sh_ldT rfl rfl rfl B9.out) ?_)) | ((with_reducible refine gate_load (t := 69) rfl ?_); first | (refine Kd.event_run (v := .slice _ _ _) rfl (sh_ldS rfl rfl rfl B9.out) ?_)) | ((with_reducible refine gate_load (t := 70) rfl ?_); first | (refine Kd.event_run (v := .slice _ _ _) rfl (sh_ldK rfl rfl rfl B9.out) ?_)) | ((with_reducible refine gate_load (t := 4) rfl ?_); first | (refine Kd.event_run (v := .bool _) rfl (sh_ldJ rfl rfl B9.out) ?_)) | ((with_reducible refine gate_st (t := 64) rfl ?_); refine sh_stC rfl rfl rfl rfl B9.out ?_; intro w1 hc_ hk_ hb_; replace B8 := zA ((hk_ _ N89.out).trans B8.out); replace BB := zA (BB.out.other (BB.out.ne_of B9.out (by decide)).symm hk_); replace HM := zA (R_other HM.out B9.out (by decide) hk_); replace HT := zA (R_other HT.out B9.out (by decide) hk_); replace HS := zA (R_other HS.out B9.out (by decide) hk_); replace HK2 := zA (R_other HK2.out B9.out (by decide) hk_); replace HLR := zA (R_other HLR.out B9.out (by decide) hk_); replace B9 := zA (hc_); replace HB := zA (hb_ _ _ G9.out HB.out); clear hc_ hk_ hb_) | ((with_reducible refine gate_st (t := 66) rfl ?_); refine sh_stR rfl rfl rfl rfl B9.out ?_; intro w1 hc_ hk_ hb_; replace B8 := zA ((hk_ _ N89.out).trans B8.out); replace BB := zA (BB.out.other (BB.out.ne_of B9.out (by decide)).symm hk_); replace HM := zA (R_other HM.out B9.out (by decide) hk_); replace HT := zA (R_other HT.out B9.out (by decide) hk_); replace HS := zA (R_other HS.out B9.out (by decide) hk_); replace HK2 := zA (R_other HK2.out B9.out (by decide) hk_); replace HLR := zA (R_other HLR.out B9.out (by decide) hk_); replace B9 := zA (hc_); replace HB := zA (hb_ _ _ G9.out HB.out); clear hc_ hk_ hb_) | ((with_reducible refine gate_st (t := 4) rfl ?_); refine sh_stJ rfl rfl rfl rfl B9.out ?_; intro w1 hc_ hk_ hb_; replace B8 := zA ((hk_ _ N89.out).trans B8.out); replace BB := zA (BB.out.other (BB.out.ne_of B9.out (by decide)).symm hk_); replace HM := zA (R_other HM.out B9.out (by decide) hk_); replace HT := zA (R_other HT.out B9.out (by decide) hk_); replace HS := zA (R_other HS.out B9.out (by decide) hk_); replace HK2 := zA (R_other HK2.out B9.out (by decide) hk_); replace B9 := zA (hc_); replace HB := zA (hb_ _ _ G9.out HB.out); clear hc_ hk_ hb_) | ((with_reducible refine gate_st (t := 69) rfl ?_); refine sh_stS rfl rfl rfl rfl B9.out ?_; intro w1 hc_ hk_ hb_; replace B8 := zA ((hk_ _ N89.out).trans B8.out); replace BB := zA (BB.out.other (BB.out.ne_of B9.out (by decide)).symm hk_); replace HM := zA (R_other HM.out B9.out (by decide) hk_); replace HT := zA (R_other HT.out B9.out (by decide) hk_); replace HS := zA (R_other HS.out B9.out (by decide) hk_); replace HK2 := zA (R_other HK2.out B9.out (by decide) hk_); replace HLR := zA (R_other HLR.out B9.out (by decide) hk_); replace B9 := zA (hc_); replace HB := zA (hb_ _ _ G9.out HB.out); clear hc_ hk_ hb_) | ((with_reducible refine gate_st (t := 70) rfl ?_); refine sh_stK rfl rfl rfl rfl B9.out ?_; intro w1 hc_ hk_ hb_; replace B8 := zA ((hk_ _ N89.out).trans B8.out); replace HM := zA (R_other HM.out B9.out (by decide) hk_); replace HT := zA (R_other HT.out B9.out (by decide) hk_); replace HS := zA (R_other HS.out B9.out (by decide) hk_); replace HK2 := zA (R_other HK2.out B9.out (by decide) hk_); replace HLR := zA (R_other HLR.out B9.out (by decide) hk_); replace B9 := zA (hc_); replace HB := zA (hb_ _ _ G9.out HB.out); clear hc_ hk_ hb_) | ((with_reducible refine gate_st (t := 24) rfl ?_); refine sh_stT rfl rfl rfl rfl B9.out ?_; intro w1 hc_ hk_ hb_; replace B8 := zA ((hk_ _ N89.out).trans B8.out); replace HM := zA (R_other HM.out B9.out (by decide) hk_); replace HT := zA (R_other HT.out B9.out (by decide) hk_); replace HS := zA (R_other HS.out B9.out (by decide) hk_); replace HK2 := zA (R_other HK2.out B9.out (by decide) hk_); replace B9 := zA (hc_); replace HB := zA (hb_ _ _ G9.out HB.out); clear hc_ hk_ hb_) | ((with_reducible refine gate_builtin (b := .append) (xs := #[.tmp 105, .tmp 109]) rfl ?_); at_builtin; refine Kd.R_append (Kd.int .i64) (w0 := w) w.heap.size rfl (.tmp 105) (.tmp 109) 69 3 (.int .i64 0) 8 rfl Tryz.underlying69 info3 rfl (by decide) (by omega) (.slice As st.length cs) st (tr.length : Int) [.int .i64 (tr.length : Int)] (fun _ => True) (fun _ => False) rfl rfl ?aP (fun _ hk => hk.elim) ?aF ?aO ?aB ?aS ?aL ?_; (case aP => exact by first | rfl | exact ⟨_, rfl, rfl⟩); (case aB => exact HB.out); (case aF => exact (fun _ _ => trivial)); (case aO => exact HS.out); (case aS => exact HB.out.size); (case aL => have := HST.out; have := HKK.out; have := HN.out; omega); intro v1 w1 ho_ hb_ hg_ hat_; obtain ⟨As, cs, rfl⟩ := Kd.R_slice ho_; replace B9 := zA (raw_grown B9.out hg_ HS.out (by decide)); replace B8 := zA (raw_grown B8.out hg_ HS.out (by decide)); replace BB := zA (BB.out.grown hg_ HS.out (by decide)); replace HM := zA (Kd.R_over HM.out HS.out (by decide) hg_); replace HT := zA (Kd.R_over HT.out HS.out (by decide) hg_); replace HK2 := zA (Kd.R_over HK2.out HS.out (by decide) hg_); replace HLR := zA (Kd.R_over HLR.out HS.out (by decide) hg_); replace HS := zA (ho_); replace HB := zA (hb_); clear ho_ hb_ hg_ hat_) | ((with_reducible refine gate_builtin (b := .append) (xs := #[.tmp 113, .tmp 115]) rfl ?_); at_builtin; refine Kd.R_append k64 (w0 := w) w.heap.size rfl (.tmp 113) (.tmp 115) 70 64 (.agg #[.int .u8 0, .int .u8 0, .int .u8 0, .int .u8 0, .int .u16 0, .bool false, .bool false, .bool false, .bool false, .bool false, .bool false]) 12 rfl Tryz.underlying70 info64 rfl (by decide) (by omega) (.slice Ak cp.length ck) cp (⟨a_, x_, y_, s_, p_, ⟨g0_, g1_, g2_, g3_, g4_, g5_⟩⟩ : S64) [.int .u8 a_, .int .u8 x_, .int .u8 y_, .int .u8 s_, .int .u16 p_, .bool g0_, .bool g1_, .bool g2_, .bool g3_, .bool g4_, .bool g5_] (fun _ => True) (fun _ => False) rfl rfl ?aP (fun _ hk => hk.elim) ?aF ?aO ?aB ?aS ?aL ?_; (case aP => exact k64_mkM _ _ _ (⟨a_, x_, y_, s_, p_, ⟨g0_, g1_, g2_, g3_, g4_, g5_⟩⟩ : S64)); (case aB => exact HB.out); (case aF => exact (fun _ _ => trivial)); (case aO => exact HK2.out); (case aS => exact HB.out.size); (case aL => have := HST.out; have := HKK.out; have := HN.out; omega); intro v1 w1 ho_ hb_ hg_ hat_; obtain ⟨Ak, ck, rfl⟩ := Kd.R_slice ho_; replace B9 := zA (raw_grown B9.out hg_ HK2.out (by decide)); replace B8 := zA (raw_grown B8.out hg_ HK2.out (by decide)); replace HM := zA (Kd.R_over HM.out HK2.out (by decide) hg_); replace HT := zA (Kd.R_over HT.out HK2.out (by decide) hg_); replace HS := zA (Kd.R_over HS.out HK2.out (by decide) hg_); replace HLR := zA (Kd.R_over HLR.out HK2.out (by decide) hg_); replace HK2 := zA (ho_); replace HB := zA (hb_); clear ho_ hb_ hg_ hat_ BB) | ((with_reducible refine gate_builtin (b := .append) (xs := #[.tmp 119, .tmp 120]) rfl ?_); at_builtin; refine Kd.R_append_rows k43 (Rr := k43.K w1) (w0 := w) w.heap.size rfl (.tmp 119) (.tmp 120) 24 43 (.agg #[(.int .u16 0), (.int .u8 0), (.bool false)]) 4 rfl Tryz.underlying24 info43 rfl (by decide) (by omega) (.slice At tr.length ct) tr log _ _ _ (fun _ => True) (fun _ => False) rfl rfl ?aO ?aR (fun x cs_ h => by obtain rfl := k43_open h; exact k43_mkM _ _ _ x) (fun _ h => h.elim) ?aF ?aB ?aS ?aL ?_; (case aR => exact (Kd.R_reads' HLR.out).2.2); (case aB => exact HB.out); (case aF => exact (fun _ _ => trivial)); (case aO => exact HT.out); (case aS => exact HB.out.size); (case aL => have := HST.out; have := HKK.out; have := HN.out; have := HHI.out; omega); intro v1 w1 ho_ hb_ hg_ hat_; obtain ⟨At, ct, rfl⟩ := Kd.R_slice ho_; clear HLR; replace B9 := zA (raw_grown B9.out hg_ HT.out (by decide)); replace B8 := zA (raw_grown B8.out hg_ HT.out (by decide)); replace HM := zA (Kd.R_over HM.out HT.out (by decide) hg_); replace HS := zA (Kd.R_over HS.out HT.out (by decide) hg_); replace HK2 := zA (Kd.R_over HK2.out HT.out (by decide) hg_); replace HT := zA (ho_); replace HB := zA (hb_); clear ho_ hb_ hg_ hat_) | ((with_reducible refine gate_load (t := 72) rfl ?_); refine wpList_plain rfl fun _ hK_ => wp_load_row 72 _ rfl g9 rfl 72 _ (0, 0) _ B9.out Tryz.underlying72 rfl (by kernel_rfl) (hK_ _ _ ?_); clear hK_) | ((with_reducible refine gate_st (t := 72) rfl ?_); refine s_stEv rfl (g := g8) (cs := (SLit A X Y S p f0 f1 f2 f3 f4 f5 (.slice Am mem.length cm) (.slice At tr.length ct) (.slice As st.length cs) (.slice Ak cp.length ck) true)) rfl rfl rfl (by rfl) (by simp [SLit, Value.oneCell']) B8.out (by rfl) ?_; intro w1 hc_ hk_ hb_; (try clear hcJ); (try clear hcI); clear B9; replace HM := zA (R_other HM.out B8.out (by decide) hk_); replace HT := zA (R_other HT.out B8.out (by decide) hk_); replace HS := zA (R_other HS.out B8.out (by decide) hk_); replace HK2 := zA (R_other HK2.out B8.out (by decide) hk_); replace B8 := zA (hc_); replace HB := zA (hb_ _ _ G8.out HB.out); clear hc_ hk_ hb_) | ((with_reducible refine gate_ret ?_); refine bodyPost_ret (results_cell_row rfl _ _ g8 72 (SLit A X Y S p f0 f1 f2 f3 f4 f5 (.slice Am mem.length cm) (.slice At tr.length ct) (.slice As st.length cs) (.slice Ak cp.length ck) true) (0, 0) _ rfl B8.out Tryz.underlying72 rfl (by kernel_rfl)) rfl ?_; exact ⟨A, X, Y, S, p, f0, f1, f2, f3, f4, f5, _, _, _, _, _, rfl, ⟨HRB.out, mem, tr, st, cp, HM.out, HMM.out.1, HMM.out.2, HT.out, HTT.out, HS.out, HK2.out, HST.out.1, by have := HST.out; have := HKK.out; omega, by have := HST.out; have := HKK.out; omega, by have := HST.out; have := HKK.out; omega⟩, HB.out⟩) | ((with_reducible refine gate_handed ?_); have hlo_ : 1 ≤ log.length := HLO.out; have hkk_ := HKK.out; have hst_ := HST.out; have hhi_ := HHI.out; simp only [List.length_append, List.length_cons, List.length_nil, Nat.zero_add] at HT HS HK2; go_roundg (gk - 1); (case measure => omega); (case rel => exact ⟨kk + 1, A, X, Y, S, p, f0, f1, f2, f3, f4, f5, false, _, _, _, _, mem, tr ++ log, st ++ [(tr.length : Int)], _, rfl, ⟨by omega⟩, HRB, B9, B8, HM, HMM, HT, ⟨fun c hc => (List.mem_append.mp hc).elim (HTT.out c) (HLB.out c)⟩, HS, HK2, ⟨by rw [List.length_append]; exact hst_.1.snoc hlo_, by simp only [List.length_append]; omega, by simp only [List.length_append, List.length_cons, List.length_nil]; omega, by simp only [List.length_append, List.length_cons, List.length_nil]; omega⟩, HB⟩)))
end Go.Proofs.YtafkbhnhmhmjcaaGreatDoor.Weak
