import Derived.Test.YtafkbhnhmhmjcaaGreatDoorSWMyCpu
set_option linter.unusedVariables false
set_option linter.unusedSimpArgs false
namespace Go.Proofs.YtafkbhnhmhmjcaaGreatDoor.Weak
open Go.RowKit Go.Proofs.YtafkbhnhmhmjcaaGreatDoorW.PrintWords Go.Proofs.YtafkbhnhmhmjcaaGreatDoorW.PrintLast Go.Proofs.YtafkbhnhmhmjcaaGreatDoorW.PrintMore
def Fls (w0 w : World) (gs : List Nat) : Prop := Below w0.heap.size w0 w ∧ ∀ g, g ∈ gs → w0.heap.size ≤ g ∧ FlagsAt w g
theorem Fls.nil (w : World) : Fls w w [] := ⟨Below.refl _ _, by simp⟩
theorem Fls.below_ {w0 w w1 : World} {gs : List Nat} (h : Fls w0 w gs) (hb : Below w.heap.size w w1) : Fls w0 w1 gs := ⟨below_step h.1 hb, fun g hg => ⟨(h.2 g hg).1, (h.2 g hg).2.below_ hb⟩⟩
theorem Fls.cons {w0 w w1 : World} {gs : List Nat} {cs : Array Value} (h : Fls w0 w gs) (hv : FC cs) (hc : w1.heap[w.heap.size]? = some (.cells cs 62 (0, 0))) (hb : Below w.heap.size w w1) : Fls w0 w1 (w.heap.size :: gs) :=
  ⟨below_step h.1 hb, fun g hg => by
    rcases List.mem_cons.mp hg with rfl | hg
    · exact ⟨h.1.size, cs, hc, hv⟩
    · exact (h.below_ hb).2 g hg⟩
theorem Fls.put {w0 w w1 : World} {gs : List Nat} {g : Nat} (h : Fls w0 w gs) (hg : g ∈ gs) (hc : FlagsAt w1 g) (hk : ∀ k, k ≠ g → w1.heap[k]? = w.heap[k]?) (hb : ∀ B u, B ≤ g → Below B u w → Below B u w1) : Fls w0 w1 gs :=
  ⟨hb _ _ (h.2 g hg).1 h.1, fun k hm => ⟨(h.2 k hm).1, by
    by_cases e : k = g
    · rw [e]; exact hc
    · exact (h.2 k hm).2.other e hk⟩⟩
theorem flags_cell {w : World} {g i : Nat} (h : FlagsAt w g) (hi : i < 6) : ∃ v, w.cell? ⟨g, i, none⟩ = some (.bool v) := by
  obtain ⟨cs, hb, f0, f1, f2, f3, f4, f5, rfl⟩ := h
  match i, hi with
  | 0, _ => exact ⟨f0, (blk_cell hb 0).trans rfl⟩
  | 1, _ => exact ⟨f1, (blk_cell hb 1).trans rfl⟩
  | 2, _ => exact ⟨f2, (blk_cell hb 2).trans rfl⟩
  | 3, _ => exact ⟨f3, (blk_cell hb 3).trans rfl⟩
  | 4, _ => exact ⟨f4, (blk_cell hb 4).trans rfl⟩
  | 5, _ => exact ⟨f5, (blk_cell hb 5).trans rfl⟩
section
variable {Q : Exit → Act → World → Prop} {ops : Array Oper} {rest : List Oper} {o : Oper} {a : Act} {w0 w : World} {gs : List Nat}
theorem fl_box {N : Tmp} (K : Fls w0 w gs) (hg : o.guard = none) (hd : o.dst = some N) {x : Operand} (ho : o.op = .box 62 x) {f0 f1 f2 f3 f4 f5 : Bool} (hx : a.eval x = .agg #[.bool f0, .bool f1, .bool f2, .bool f3, .bool f4, .bool f5])
    (h : ∀ g w1, Fls w0 w1 (g :: gs) → wpList Tryz.prog ops Q rest (a.put o.dst (.pointer (some ⟨g, 0, none⟩))) w1) : wpList Tryz.prog ops Q (o :: rest) a w := by
  refine box_event hg hd (cs := #[.bool f0, .bool f1, .bool f2, .bool f3, .bool f4, .bool f5]) (t := 62) ?_ (fun g hgg w1 hb1 hb2 => h g w1 (by subst hgg; exact K.cons ⟨_, _, _, _, _, _, rfl⟩ hb1 hb2))
  unfold execOp
  simp only [ho]
  simp [hx, Instr.box, newVar, newRow, Value.cells]
theorem fl_alloc {N : Tmp} (K : Fls w0 w gs) (hg : o.guard = none) (hd : o.dst = some N) (ho : o.op = .alloc 62)
    (h : ∀ g w1, Fls w0 w1 (g :: gs) → wpList Tryz.prog ops Q rest (a.put o.dst (.pointer (some ⟨g, 0, none⟩))) w1) : wpList Tryz.prog ops Q (o :: rest) a w := by
  refine box_event hg hd (cs := #[.bool false, .bool false, .bool false, .bool false, .bool false, .bool false]) (t := 62) ?_ (fun g hgg w1 hb1 hb2 => h g w1 (by subst hgg; exact K.cons ⟨_, _, _, _, _, _, rfl⟩ hb1 hb2))
  unfold execOp
  simp only [ho]
  go_simp
theorem fl_ld {g : Nat} (K : Fls w0 w gs) (hm : g ∈ gs) (hg : o.guard = none) {x : Operand} (ho : o.op = .load 62 x) (hx : a.eval x = .pointer (some ⟨g, 0, none⟩))
    (h : ∀ f0 f1 f2 f3 f4 f5 : Bool, wpList Tryz.prog ops Q rest (a.put o.dst (.agg #[.bool f0, .bool f1, .bool f2, .bool f3, .bool f4, .bool f5])) w) : wpList Tryz.prog ops Q (o :: rest) a w :=
  f_ld hg ho hx (K.2 g hm).2 (fun cs hc => by obtain ⟨f0, f1, f2, f3, f4, f5, rfl⟩ := hc; exact h _ _ _ _ _ _)
theorem fl_st {g : Nat} (K : Fls w0 w gs) (hm : g ∈ gs) (hg : o.guard = none) {x y : Operand} (ho : o.op = .store 62 x y) {f0 f1 f2 f3 f4 f5 : Bool} (hx : a.eval x = .pointer (some ⟨g, 0, none⟩)) (hy : a.eval y = .agg #[.bool f0, .bool f1, .bool f2, .bool f3, .bool f4, .bool f5])
    (h : ∀ w1, Fls w0 w1 gs → wpList Tryz.prog ops Q rest (a.put o.dst undef) w1) : wpList Tryz.prog ops Q (o :: rest) a w :=
  f_st hg ho hx hy ⟨_, _, _, _, _, _, rfl⟩ (K.2 g hm).2 (fun w1 h1 h2 h3 => h w1 (K.put hm h1 h2 h3))
theorem fl_ldb {g i : Nat} (K : Fls w0 w gs) (hm : g ∈ gs) (hg : o.guard = none) {x : Operand} (ho : o.op = .load 4 x) (hx : a.eval x = .pointer (some ⟨g, i, none⟩)) (hi : i < 6)
    (h : ∀ v : Bool, wpList Tryz.prog ops Q rest (a.put o.dst (.bool v)) w) : wpList Tryz.prog ops Q (o :: rest) a w := by
  obtain ⟨v, hc⟩ := flags_cell (K.2 g hm).2 hi
  have hrun : (execOp a.eval o).run Tryz.prog w = .ok (.value (.bool v)) w := by
    unfold execOp
    simp only [ho, hx]
    go_simp
  exact Kd.event_run hg hrun (h v)
theorem fl_stb {g i : Nat} {v : Bool} (K : Fls w0 w gs) (hm : g ∈ gs) (hg : o.guard = none) {x y : Operand} (ho : o.op = .store 4 x y) (hx : a.eval x = .pointer (some ⟨g, i, none⟩)) (hy : a.eval y = .bool v) (hi : i < 6)
    (h : ∀ w1, Fls w0 w1 gs → wpList Tryz.prog ops Q rest (a.put o.dst undef) w1) : wpList Tryz.prog ops Q (o :: rest) a w := by
  have hF := (K.2 g hm).2
  obtain ⟨u, hc⟩ := flags_cell hF hi
  obtain ⟨cs, hb, f0, f1, f2, f3, f4, f5, rfl⟩ := hF
  have hf := blk_frozen hb i
  have hrun : (execOp a.eval o).run Tryz.prog w = .ok .skip (w.setCell ⟨g, i, none⟩ (.bool v)) := by
    unfold execOp
    simp only [ho, hx, hy]
    go_simp
  refine event_skip hg hrun (h _ (K.put hm ⟨_, blk_put hb i (.bool v) rfl, ?_⟩ (fun k hk => Below.heap_setCell w _ _ k hk) (fun B u hB hb => hb.setCell hB _)))
  match i, hi with
  | 0, _ => exact ⟨v, f1, f2, f3, f4, f5, rfl⟩
  | 1, _ => exact ⟨f0, v, f2, f3, f4, f5, rfl⟩
  | 2, _ => exact ⟨f0, f1, v, f3, f4, f5, rfl⟩
  | 3, _ => exact ⟨f0, f1, f2, v, f4, f5, rfl⟩
  | 4, _ => exact ⟨f0, f1, f2, f3, v, f5, rfl⟩
  | 5, _ => exact ⟨f0, f1, f2, f3, f4, v, rfl⟩
end
theorem fl_ret {fn : Func} {R : Ending → World → Prop} {a : Act} {w0 w : World} {gs : List Nat} {p : Tmp} {g : Nat} (K : Fls w0 w gs) (hm : g ∈ gs) (hf : fn.results = #[.cell p 62]) (hp : a.tmps.getD p undef = .pointer (some ⟨g, 0, none⟩)) (hd : a.defers = [])
    (h : ∀ f0 f1 f2 f3 f4 f5 : Bool, R (.returned (.agg #[.bool f0, .bool f1, .bool f2, .bool f3, .bool f4, .bool f5])) w) : bodyPost Tryz.prog fn R .ret a w := by
  obtain ⟨cs, hb, hc⟩ := (K.2 g hm).2
  refine bodyPost_ret (results_cell_row hf _ _ g 62 cs (0, 0) _ hp hb Tryz.underlying62 rfl (by rw [hc.size]; exact flags_info)) hd ?_
  obtain ⟨f0, f1, f2, f3, f4, f5, rfl⟩ := hc
  exact h _ _ _ _ _ _
theorem fl_ret2 {fn : Func} {R : Ending → World → Prop} {a : Act} {w0 w : World} {gs : List Nat} {q p : Tmp} {g : Nat} {v : Int} (K : Fls w0 w gs) (hm : g ∈ gs) (hf : fn.results = [ResultVar.tmp q, .cell p 62].toArray) (hq : a.tmps.getD q undef = .int .u8 v) (hp : a.tmps.getD p undef = .pointer (some ⟨g, 0, none⟩)) (hd : a.defers = [])
    (h : ∀ f0 f1 f2 f3 f4 f5 : Bool, R (.returned (.tuple #[.int .u8 v, .agg #[.bool f0, .bool f1, .bool f2, .bool f3, .bool f4, .bool f5]])) w) : bodyPost Tryz.prog fn R .ret a w := by
  obtain ⟨cs, hb, hc⟩ := (K.2 g hm).2
  refine bodyPost_ret (results_list hf (by simp) (.tmp (.cell g 62 cs (0, 0) _ hp hb Tryz.underlying62 rfl (by rw [hc.size]; exact flags_info) .nil))) hd ?_
  obtain ⟨f0, f1, f2, f3, f4, f5, rfl⟩ := hc
  rw [hq]
  exact h _ _ _ _ _ _
theorem fl_run {o : Oper} {a : Act} {w : World} {x : Operand} {g : Nat} {f0 f1 f2 f3 f4 f5 : Bool} (ho : o.op = .load 62 x) (hx : a.eval x = .pointer (some ⟨g, 0, none⟩)) (hb : w.heap[g]? = some (.cells #[.bool f0, .bool f1, .bool f2, .bool f3, .bool f4, .bool f5] 62 (0, 0))) : (execOp a.eval o).run Tryz.prog w = .ok (.value (.agg #[.bool f0, .bool f1, .bool f2, .bool f3, .bool f4, .bool f5])) w := by
  unfold execOp
  simp only [ho, hx, Instr.loadAt, Instr.sureAddr, Sem.run_bind, Sem.run_pure, Result.andThen_ok, run_loadVar_row w g 62 62 _ (0, 0) _ hb Tryz.underlying62 rfl flags_info]
theorem fl_stStep {Q : Exit → Act → World → Prop} {ops : Array Oper} {K : Act → World → Prop} {o : Oper} {a : Act} {w0 w : World} {gs : List Nat} {g : Nat} {x y : Operand} {f0 f1 f2 f3 f4 f5 : Bool} (k : Fls w0 w gs) (hm : g ∈ gs) (hw : Region.wanted o (yielded ops a.tmps) = true) (hN : o.dst = none) (ho : o.op = .store 62 x y) (hx : a.eval x = .pointer (some ⟨g, 0, none⟩)) (hy : a.eval y = .agg #[.bool f0, .bool f1, .bool f2, .bool f3, .bool f4, .bool f5])
    (h : ∀ w1, Fls w0 w1 gs → K a w1) : if Region.wanted o (yielded ops a.tmps) = true then Oper.wp Tryz.prog o a w K Q else K (a.put none undef) w := by
  obtain ⟨old, hb, hold⟩ := (k.2 g hm).2
  have hv : FC #[.bool f0, .bool f1, .bool f2, .bool f3, .bool f4, .bool f5] := ⟨_, _, _, _, _, _, rfl⟩
  have hrun : (execOp a.eval o).run Tryz.prog w = .ok .skip (w.setRow g #[.bool f0, .bool f1, .bool f2, .bool f3, .bool f4, .bool f5]) := by
    unfold execOp
    simp only [ho, hx, hy, Instr.storeAt, Instr.sureAddr, Sem.run_bind, Sem.run_pure, Result.andThen_ok, run_storeVar_row w g 62 62 old _ hb flags_info (hold.size.trans hv.size.symm) hv.one]
  exact skip_ hw hN hrun (h _ (k.put hm ⟨_, setRow_heap w g old _ 62 (0, 0) hb, hv⟩ (fun k hk => setRow_other w g k _ hk)
    (fun B a hB hb => ⟨hb.os, hb.tape, hb.output, by rw [setRow_size]; exact hb.size, fun k hk => by rw [setRow_other w g k _ (by omega)]; exact hb.block k hk⟩)))
end Go.Proofs.YtafkbhnhmhmjcaaGreatDoor.Weak
