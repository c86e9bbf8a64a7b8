import Derived.Test.YthdeemkhbajfgaaSUPUnitx0
import Derived.StillTailTactics
import Derived.Lib.Hide
set_option linter.unusedVariables false
set_option linter.unusedSimpArgs false
namespace Go.Proofs.Ythdeemkhbajfgaa.UnitLaw
open Go.RowKit Go.Proofs.YthdeemkhbajfgaaW.PrintWords Go.Proofs.YthdeemkhbajfgaaW.PrintLast Go.Proofs.YthdeemkhbajfgaaW.PrintMore
theorem info49 : (Try.prog.info? 49).map (·.size) = some 16 := by kernel_rfl
theorem info55 : (Try.prog.info? 55).map (·.size) = some 16 := by kernel_rfl
section
variable {Q : Exit → Act → World → Prop} {ops : Array Oper} {rest : List Oper} {o : Oper} {a : Act} {w : World}
theorem box_it {N : Tmp} (hg : o.guard = none) (hd : o.dst = some N) {t : TypeId} {x : Operand} (ho : o.op = .box t x) {cs : Array Value} (hx : a.eval x = .agg cs)
    (h : ∀ g, w.heap.size = g → ∀ w1, w1.heap[g]? = some (.cells cs t (0, 0)) → Below w.heap.size w w1 → wpList Try.prog ops Q rest (a.put o.dst (.pointer (some ⟨g, 0, none⟩))) w1) : wpList Try.prog ops Q (o :: rest) a w := by
  refine box_event hg hd (cs := cs) (t := t) ?_ (fun g hgg => h g hgg.symm)
  unfold execOp
  simp only [ho]
  simp [hx, Instr.box, newVar, newRow, Value.cells]
theorem load_it (hg : o.guard = none) {t : TypeId} {x : Operand} (ho : o.op = .load t x) {g : Nat} (hx : a.eval x = .pointer (some ⟨g, 0, none⟩)) {u : TypeId} {cs : Array Value} (hb : w.heap[g]? = some (.cells cs u (0, 0))) {fs : Array Field} (hu : Try.prog.underlying t = some (.struct fs)) (hi : (Try.prog.info? t).map (·.size) = some cs.size)
    (h : wpList Try.prog ops Q rest (a.put o.dst (.agg cs)) w) : wpList Try.prog ops Q (o :: rest) a w :=
  wpList_plain hg fun _ hK => wp_load_row t x ho g hx u cs (0, 0) _ hb hu rfl hi (hK _ _ h)
theorem load_run {t : TypeId} {x : Operand} (ho : o.op = .load t x) {g : Nat} (hx : a.eval x = .pointer (some ⟨g, 0, none⟩)) {u : TypeId} {cs : Array Value} (hb : w.heap[g]? = some (.cells cs u (0, 0))) {fs : Array Field} (hu : Try.prog.underlying t = some (.struct fs)) (hi : (Try.prog.info? t).map (·.size) = some cs.size) : (execOp a.eval o).run Try.prog w = .ok (.value (.agg cs)) w := by
  unfold execOp
  simp only [ho, hx, Instr.loadAt, Instr.sureAddr, Sem.run_bind, Sem.run_pure, Result.andThen_ok, run_loadVar_row w g u t cs (0, 0) _ hb hu rfl hi]
theorem store_it (hg : o.guard = none) {t : TypeId} {x y : Operand} (ho : o.op = .store t x y) {g : Nat} {cs : Array Value} (hx : a.eval x = .pointer (some ⟨g, 0, none⟩)) (hy : a.eval y = .agg cs) {u : TypeId} {old : Array Value} (hb : w.heap[g]? = some (.cells old u (0, 0))) (hi : (Try.prog.info? t).map (·.size) = some cs.size) (hs : old.size = cs.size) (h1 : cs.all (·.oneCell') = true)
    (h : ∀ w1, w1.heap[g]? = some (.cells cs u (0, 0)) → (∀ k, k ≠ g → w1.heap[k]? = w.heap[k]?) → (∀ B a, B ≤ g → Below B a w → Below B a w1) → wpList Try.prog ops Q rest (a.put o.dst undef) w1) : wpList Try.prog ops Q (o :: rest) a w :=
  wpList_plain hg fun _ hK => wp_store_row t x y ho g cs hx hy u old hb hi hs h1 (hK _ _ (h _ (setRow_heap w g old cs u (0, 0) hb) (fun k hk => setRow_other w g k cs hk)
    (fun B a hB hb => ⟨hb.os, hb.tape, hb.output, by rw [setRow_size]; exact hb.size, fun k hk => by rw [setRow_other w g k cs (by omega)]; exact hb.block k hk⟩)))
end
set_option maxHeartbeats 4000000 in
set_option maxRecDepth 100000 in
theorem large (cs : Array Value) (hs : cs.size = 16) (i t : Int) (ht : t < 0) (w : World)
    (hsz : ∀ w1, Below w.heap.size w w1 → Calls Try.prog 26 #[.agg cs, .int .i64 1048576] w1 fun e w2 => e = .returned (.int .i64 t) ∧ Below w1.heap.size w1 w2) :
    Calls Try.prog 6 #[.agg cs, .int .i64 i] w fun e w' => e = .returned (.bool true) ∧ Below w.heap.size w w' := by
  have c1 : decide (t < 0) = true := decide_eq_true ht
  have HS := Aside0.mk hs
  have HZ := Aside0.mk hsz
  clear ht hs hsz
  go_enter Try.func6, Try.ntmps6
  go_wp2_with (first | ((with_reducible refine gate_dst (N := 2) rfl ?_); refine box_it rfl rfl rfl rfl ?_; intro gA hgA w1 hbA hb1; have BA := Aside0.mk hbA; have HB := Aside0.mk hb1; clear hbA hb1) | ((with_reducible refine gate_dst (N := 9) rfl ?_); refine load_it rfl rfl rfl BA.out Try.underlying49 (info49.trans (congrArg some HS.out.symm)) ?_))
  refine (HZ.out _ HB.out).mono ?_
  rintro e w2 ⟨rfl, hb2⟩
  have HB2 := Aside0.mk (below_step HB.out hb2)
  clear HB hb2 BA
  go_wp2
  go_ret
  exact ⟨rfl, HB2.out⟩
set_option maxHeartbeats 4000000 in
set_option maxRecDepth 100000 in
theorem small (cs : Array Value) (hs : cs.size = 16) (i t g : Int) (ht : ¬ t < 0) (w : World) (Good : World → Array Value → Prop)
    (hG : ∀ w1 w2 ds, Good w1 ds → Below w1.heap.size w1 w2 → Good w2 ds) (hGs : ∀ w1 ds, Good w1 ds → ds.size = 16 ∧ ds.all (·.oneCell') = true)
    (hsz : ∀ w1, Below w.heap.size w w1 → Calls Try.prog 26 #[.agg cs, .int .i64 1048576] w1 fun e w2 => e = .returned (.int .i64 t) ∧ Below w1.heap.size w1 w2)
    (hto : ∀ w1, Below w.heap.size w w1 → Calls Try.prog 28 #[.agg cs] w1 fun e w2 => ∃ ds, e = .returned (.agg ds) ∧ Good w2 ds ∧ Below w1.heap.size w1 w2)
    (hsp : ∀ w1 ds, Good w1 ds → Calls Try.prog 27 #[.agg ds, .int .i64 i] w1 fun e w2 => e = .returned (.int .i64 g) ∧ Below w1.heap.size w1 w2)
    (him : ∀ w1 ds, Good w1 ds → Calls Try.prog 29 #[.agg ds, .int .i64 i] w1 fun e w2 => e = .returned (.int .i64 g) ∧ Below w1.heap.size w1 w2)
    (heq : ∀ w1 ds es, Good w1 ds → Good w1 es → Calls Try.prog 30 #[.agg ds, .agg es] w1 fun e w2 => e = .returned (.bool true) ∧ Below w1.heap.size w1 w2) :
    Calls Try.prog 6 #[.agg cs, .int .i64 i] w fun e w' => e = .returned (.bool true) ∧ Below w.heap.size w w' := by
  have c1 : decide (t < 0) = false := decide_eq_false ht
  have c2 : (g != g) = false := by simp
  have HS := Aside0.mk hs
  have HG := Aside0.mk hG
  have HGS := Aside0.mk hGs
  have HZ := Aside0.mk hsz
  have HT := Aside0.mk hto
  have HP := Aside0.mk hsp
  have HI := Aside0.mk him
  have HE := Aside0.mk heq
  clear ht hs hsz hG hGs hto hsp him heq
  go_enter Try.func6, Try.ntmps6
  go_wp2_with (first | ((with_reducible refine gate_dst (N := 2) rfl ?_); refine box_it rfl rfl rfl rfl ?_; intro gA hgA w1 hbA hb1; have BA := Aside0.mk hbA; have HB := Aside0.mk hb1; clear hbA hb1) | ((with_reducible refine gate_dst (N := 9) rfl ?_); refine load_it rfl rfl rfl BA.out Try.underlying49 (info49.trans (congrArg some HS.out.symm)) ?_))
  have GA : Aside0 (w.heap.size ≤ gA) := ⟨Nat.le_of_eq hgA⟩
  clear hgA
  refine (HZ.out _ HB.out).mono ?_
  rintro e w2 ⟨rfl, hb2⟩
  have m1 := Aside0.mk (below_step HB.out hb2)
  have m2 := Aside0.mk ((hb2.block gA (blk_lt BA.out)).trans BA.out)
  clear HB hb2 BA
  have HB := m1
  have BA := m2
  clear m1 m2
  go_wp2_with (first | ((with_reducible refine gate_dst (N := 14) rfl ?_); refine load_it rfl rfl rfl BA.out Try.underlying49 (info49.trans (congrArg some HS.out.symm)) ?_))
  refine (HT.out _ HB.out).mono ?_
  rintro e w3 ⟨d1, rfl, hg1, hb2⟩
  have m1 := Aside0.mk (below_step HB.out hb2)
  have m2 := Aside0.mk ((hb2.block gA (blk_lt BA.out)).trans BA.out)
  have D1 := Aside0.mk hg1
  clear HB hb2 BA hg1
  have HB := m1
  have BA := m2
  clear m1 m2
  go_wp2_with (fail)
  refine (HP.out _ _ D1.out).mono ?_
  rintro e w4 ⟨rfl, hb2⟩
  have m1 := Aside0.mk (below_step HB.out hb2)
  have m2 := Aside0.mk ((hb2.block gA (blk_lt BA.out)).trans BA.out)
  clear HB hb2 BA D1
  have HB := m1
  have BA := m2
  clear m1 m2
  go_wp2_with (first | ((with_reducible refine gate_dst (N := 18) rfl ?_); refine load_it rfl rfl rfl BA.out Try.underlying49 (info49.trans (congrArg some HS.out.symm)) ?_))
  refine (HT.out _ HB.out).mono ?_
  rintro e w5 ⟨d2, rfl, hg1, hb2⟩
  have m1 := Aside0.mk (below_step HB.out hb2)
  have m2 := Aside0.mk ((hb2.block gA (blk_lt BA.out)).trans BA.out)
  have D2 := Aside0.mk hg1
  clear HB hb2 BA hg1
  have HB := m1
  have BA := m2
  clear m1 m2
  have DS := Aside0.mk (HGS.out _ _ D2.out)
  go_wp2_with (first | ((with_reducible refine gate_dst (N := 7) rfl ?_); refine box_event ?hg (N := 7) ?hd (cs := #[.int .u8 0, .int .u8 0, .int .u8 0, .int .u8 0, .int .u16 0, .bool false, .bool false, .bool false, .bool false, .bool false, .bool false, .slice none 0 0, .slice none 0 0, .slice none 0 0, .slice none 0 0, .bool false]) (t := 55) ?hr ?_; (case hd => rfl); (case hg => rfl); (case hr => first | (go_simp; done) | (go_simp; rfl)); intro gB hgB w6 hbB hb6; have BB := Aside0.mk hbB; have H56 := Aside0.mk hb6; have GB := Aside0.mk (Nat.le_of_eq hgB.symm); clear hbB hb6 hgB; refine Hid.out ?_))
  refine Lib.hid ?_
  have m1 := Aside0.mk (below_step HB.out H56.out)
  have m2 := Aside0.mk ((H56.out.block gA (blk_lt BA.out)).trans BA.out)
  have NAB := Aside0.mk (show gA ≠ gB from Nat.ne_of_lt (Nat.lt_of_lt_of_le (blk_lt BA.out) GB.out))
  have NB := Aside0.mk (show w.heap.size ≤ gB from Nat.le_trans HB.out.size GB.out)
  clear HB BA
  have HB := m1
  have BA := m2
  clear m1 m2
  go_wp2_with (first | ((with_reducible refine gate_store (t := 55) (p := 7) rfl ?_); refine store_it rfl rfl rfl rfl BB.out (info55.trans (congrArg some DS.out.1.symm)) DS.out.1.symm DS.out.2 ?_; intro w7 hB7 hO7 hL7; have E7 := Aside0.mk hB7; have O7 := Aside0.mk hO7; have L7 := Aside0.mk hL7; clear hB7 hO7 hL7; refine Hid.out ?_))
  refine Lib.hid ?_
  have m1 := Aside0.mk (L7.out _ _ NB.out HB.out)
  have m2 := Aside0.mk ((O7.out gA NAB.out).trans BA.out)
  have m3 := Aside0.mk (HG.out _ _ _ D2.out (L7.out _ _ GB.out H56.out))
  clear HB BA BB D2 L7 O7 H56
  have HB := m1
  have BA := m2
  have D2 := m3
  have BB := E7
  clear m1 m2 m3 E7
  go_wp2_with (first | ((with_reducible refine gate_dst (N := 20) rfl ?_); refine load_it rfl rfl rfl BB.out Try.underlying55 (info55.trans (congrArg some DS.out.1.symm)) ?_))
  refine (HI.out _ _ D2.out).mono ?_
  rintro e w8 ⟨rfl, hb2⟩
  have m1 := Aside0.mk (below_step HB.out hb2)
  have m2 := Aside0.mk ((hb2.block gA (blk_lt BA.out)).trans BA.out)
  have m3 := Aside0.mk ((hb2.block gB (blk_lt BB.out)).trans BB.out)
  have m4 := Aside0.mk (HG.out _ _ _ D2.out hb2)
  clear HB hb2 BA BB D2
  have HB := m1
  have BA := m2
  have BB := m3
  have D2 := m4
  clear m1 m2 m3 m4
  go_upto_region 10 with (fail)
  have m1 := Aside0.mk (below_drew1 HB.out)
  have m2 := Aside0.mk (blk_drew BA.out)
  have m3 := Aside0.mk (blk_drew BB.out)
  have m4 := Aside0.mk (HG.out _ _ _ D2.out (below_drew1 (Below.refl _ _)))
  clear HB BA BB D2
  have HB := m1
  have BA := m2
  have BB := m3
  have D2 := m4
  clear m1 m2 m3 m4
  refine start_ (n := 5) (S := fun w' => w'.heap[gB]? = some (.cells d2 55 (0, 0)) ∧ w'.heap[gA]? = some (.cells cs 49 (0, 0))) (ds := []) #[false, false, false, false, false] (by kernel_rfl) rfl rfl ⟨BB.out, BA.out⟩ (fun hHeld => ?_)
  generalize w8.drew = w9 at HB BA BB D2 hHeld ⊢
  refine take_ (i := 0) (N := some 26) (v := ?_) (a' := ?_) #[true, false, false, false, false] rfl rfl (by kernel_rfl) (fun _ _ _ h => h) (Or.inl ⟨by rfl, ?_⟩) hHeld ?_ ?_
  rotate_left
  · rintro w' ⟨s0, s1⟩
    refine (load_run (x := .tmp 7) ?_ ?_ s0 Try.underlying55 (info55.trans (congrArg some DS.out.1.symm))).trans ?_
    · rfl
    · rfl
    · with_reducible rfl
  rotate_left
  · simp only [Act.put, List.setIfInBounds_toArray, List.set_cons_zero, List.set_cons_succ, i64_w, i32_w]
    rfl
  refine take_ (i := 1) (N := some 27) (v := ?_) (a' := ?_) #[true, true, false, false, false] rfl rfl (by kernel_rfl) (fun _ _ _ h => h) (Or.inl ⟨by rfl, ?_⟩) hHeld ?_ ?_
  rotate_left
  · rintro w' ⟨s0, s1⟩
    refine (load_run (x := .tmp 2) ?_ ?_ s1 Try.underlying49 (info49.trans (congrArg some HS.out.symm))).trans ?_
    · rfl
    · rfl
    · with_reducible rfl
  rotate_left
  · simp only [Act.put, List.setIfInBounds_toArray, List.set_cons_zero, List.set_cons_succ, i64_w, i32_w]
    rfl
  refine one_ (i := 2) (N := some 28) #[true, true, true, false, false] rfl rfl (by kernel_rfl) (by decide) (fun K hK => ?_)
  refine goes_ Try.func28 (by kernel_rfl) rfl #[.agg cs] (by rfl) rfl rfl (by (try simp only [List.map_toArray, List.map_cons, List.map_nil]); first | done | rfl) ?_
  refine (HT.out _ HB.out).mono ?_
  rintro e w10 ⟨d3, rfl, hg1, hb2⟩
  refine ⟨_, rfl, ?_⟩
  have m1 := Aside0.mk (below_step HB.out hb2)
  have m2 := Aside0.mk ((hb2.block gA (blk_lt BA.out)).trans BA.out)
  have m3 := Aside0.mk ((hb2.block gB (blk_lt BB.out)).trans BB.out)
  have m4 := Aside0.mk (HG.out _ _ _ D2.out hb2)
  have D3 := Aside0.mk hg1
  clear HB hb2 BA BB D2 hHeld hg1
  have HB := m1
  have BA := m2
  have BB := m3
  have D2 := m4
  clear m1 m2 m3 m4
  refine hK.out _ _ ⟨BB.out, BA.out⟩ (fun hHeld => ?_)
  clear hK K
  refine norm_ (a' := ?_) ?_ ?_
  rotate_left
  · show Act.put _ (some 28) _ = _
    simp only [Act.put, List.setIfInBounds_toArray, List.set_cons_zero, List.set_cons_succ, i64_w, i32_w]
    rfl
  refine one_ (i := 3) (N := some 29) #[true, true, true, true, false] rfl rfl (by kernel_rfl) (by decide) (fun K hK => ?_)
  refine goes_ Try.func30 (by kernel_rfl) rfl #[.agg d2, .agg d3] (by rfl) rfl rfl (by (try simp only [List.map_toArray, List.map_cons, List.map_nil]); first | done | rfl) ?_
  refine (HE.out _ _ _ D2.out D3.out).mono ?_
  rintro e w11 ⟨rfl, hb2⟩
  refine ⟨_, rfl, ?_⟩
  have m1 := Aside0.mk (below_step HB.out hb2)
  have m2 := Aside0.mk ((hb2.block gA (blk_lt BA.out)).trans BA.out)
  have m3 := Aside0.mk ((hb2.block gB (blk_lt BB.out)).trans BB.out)
  clear HB hb2 BA BB D2 D3 hHeld
  have HB := m1
  have BA := m2
  have BB := m3
  clear m1 m2 m3
  refine hK.out _ _ ⟨BB.out, BA.out⟩ (fun hHeld => ?_)
  clear hK K
  refine norm_ (a' := ?_) ?_ ?_
  rotate_left
  · show Act.put _ (some 29) _ = _
    simp only [Act.put, List.setIfInBounds_toArray, List.set_cons_zero, List.set_cons_succ, i64_w, i32_w]
    rfl
  refine pure_ (i := 4) (N := some 30) (v := ?_) (a' := ?_) #[true, true, true, true, true] rfl rfl (by kernel_rfl) (fun _ _ _ h => h) (Or.inl ⟨by rfl, ?_⟩) ?_ ?_
  rotate_left
  · intro w'
    go_simp
    with_reducible rfl
  rotate_left
  · simp only [Act.put, List.setIfInBounds_toArray, List.set_cons_zero, List.set_cons_succ, i64_w, i32_w]
    rfl
  refine done_ (by kernel_rfl) ?_
  clear hHeld
  go_wp2
  go_ret
  exact ⟨rfl, HB.out⟩
end Go.Proofs.Ythdeemkhbajfgaa.UnitLaw
