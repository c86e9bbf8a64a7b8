import Derived.Test.YtafkbhnhmhmjcaaSVMyRam
import Derived.OpenShut
import Derived.Test.YtafkbhnhmhmjcaaSVWMore
section
set_option linter.unusedVariables false
set_option linter.unusedSimpArgs false
namespace Go.Proofs.Ytafkbhnhmhmjcaa.Weak
open Go.RowKit Go.Proofs.YtafkbhnhmhmjcaaW.PrintWords Go.Proofs.YtafkbhnhmhmjcaaW.PrintLast Go.Proofs.YtafkbhnhmhmjcaaW.PrintMore Go.Proofs.Ytafkbhnhmhmjcaa.PRun
theorem R_other {α : Type} {d : Kd α} {e B g t : Nat} {w w1 : World} {v : Value} {xs : List α} {cs : Array Value} (h : Kd.R d e w B (fun _ => True) v xs) (hc : w.heap[g]? = some (.cells cs t (0, 0))) (ht : ∀ q, q ∈ e :: d.E → q ≠ t) (hk : ∀ k, k ≠ g → w1.heap[k]? = w.heap[k]?) : Kd.R d e w1 B (fun _ => True) v xs :=
  Kd.R_mono (Kd.R_step (Kd.R_types h hc ht) (fun k ho _ => hk k ho.2)) (fun _ h => h.1)
def SLit (A X Y S p : Int) (f0 f1 f2 f3 f4 f5 : Bool) (vm vt vs vc : Value) (j : Bool) : Array Value := #[.int .u8 A, .int .u8 X, .int .u8 Y, .int .u8 S, .int .u16 p, .bool f0, .bool f1, .bool f2, .bool f3, .bool f4, .bool f5, vm, vt, vs, vc, .bool j]
theorem shot_info : (Try.prog.info? 35).map (·.size) = some 16 := by kernel_rfl
section
variable {o : Oper} {a : Act} {w : World} {A X Y S p : Int} {f0 f1 f2 f3 f4 f5 j : Bool} {vm vt vs vc : Value} {g : Nat}
theorem sh_ldC {x : Operand} (ho : o.op = .load 28 x) (hx : a.eval x = .pointer (some ⟨g, 0, none⟩)) (hb : w.heap[g]? = some (.cells (SLit A X Y S p f0 f1 f2 f3 f4 f5 vm vt vs vc j) 35 (0, 0))) : (execOp a.eval o).run Try.prog w = .ok (.value (.agg #[.int .u8 A, .int .u8 X, .int .u8 Y, .int .u8 S, .int .u16 p, .bool f0, .bool f1, .bool f2, .bool f3, .bool f4, .bool f5])) w := by
  have h0 : w.cell? ⟨g, 0, none⟩ = some (.int .u8 A) := (blk_cell hb 0).trans rfl
  have h1 : w.cell? ⟨g, 1, none⟩ = some (.int .u8 X) := (blk_cell hb 1).trans rfl
  have h2 : w.cell? ⟨g, 2, none⟩ = some (.int .u8 Y) := (blk_cell hb 2).trans rfl
  have h3 : w.cell? ⟨g, 3, none⟩ = some (.int .u8 S) := (blk_cell hb 3).trans rfl
  have h4 : w.cell? ⟨g, 4, none⟩ = some (.int .u16 p) := (blk_cell hb 4).trans rfl
  have h5 : w.cell? ⟨g, 5, none⟩ = some (.bool f0) := (blk_cell hb 5).trans rfl
  have h6 : w.cell? ⟨g, 6, none⟩ = some (.bool f1) := (blk_cell hb 6).trans rfl
  have h7 : w.cell? ⟨g, 7, none⟩ = some (.bool f2) := (blk_cell hb 7).trans rfl
  have h8 : w.cell? ⟨g, 8, none⟩ = some (.bool f3) := (blk_cell hb 8).trans rfl
  have h9 : w.cell? ⟨g, 9, none⟩ = some (.bool f4) := (blk_cell hb 9).trans rfl
  have h10 : w.cell? ⟨g, 10, none⟩ = some (.bool f5) := (blk_cell hb 10).trans rfl
  unfold execOp
  simp only [ho, hx]
  go_simp
theorem sh_ldP {x : Operand} (ho : o.op = .load 24 x) (hx : a.eval x = .pointer (some ⟨g, 4, none⟩)) (hb : w.heap[g]? = some (.cells (SLit A X Y S p f0 f1 f2 f3 f4 f5 vm vt vs vc j) 35 (0, 0))) : (execOp a.eval o).run Try.prog w = .ok (.value (.int .u16 p)) w := by
  have h4 : w.cell? ⟨g, 4, none⟩ = some (.int .u16 p) := (blk_cell hb 4).trans rfl
  unfold execOp
  simp only [ho, hx]
  go_simp
theorem sh_ldJ {x : Operand} (ho : o.op = .load 4 x) (hx : a.eval x = .pointer (some ⟨g, 15, none⟩)) (hb : w.heap[g]? = some (.cells (SLit A X Y S p f0 f1 f2 f3 f4 f5 vm vt vs vc j) 35 (0, 0))) : (execOp a.eval o).run Try.prog w = .ok (.value (.bool j)) w := by
  have h15 : w.cell? ⟨g, 15, none⟩ = some (.bool j) := (blk_cell hb 15).trans rfl
  unfold execOp
  simp only [ho, hx]
  go_simp
theorem sh_ldR {x : Operand} (ho : o.op = .load 30 x) (hx : a.eval x = .pointer (some ⟨g, 11, none⟩)) {A0 : Option Addr} {n0 c0 : Nat} (hv : vm = .slice A0 n0 c0) (hb : w.heap[g]? = some (.cells (SLit A X Y S p f0 f1 f2 f3 f4 f5 vm vt vs vc j) 35 (0, 0))) : (execOp a.eval o).run Try.prog w = .ok (.value (.agg #[.slice A0 n0 c0])) w := by
  subst hv
  have h11 : w.cell? ⟨g, 11, none⟩ = some (.slice A0 n0 c0) := (blk_cell hb 11).trans rfl
  unfold execOp
  simp only [ho, hx]
  go_simp
theorem sh_ldT {x : Operand} (ho : o.op = .load 31 x) (hx : a.eval x = .pointer (some ⟨g, 12, none⟩)) {A0 : Option Addr} {n0 c0 : Nat} (hv : vt = .slice A0 n0 c0) (hb : w.heap[g]? = some (.cells (SLit A X Y S p f0 f1 f2 f3 f4 f5 vm vt vs vc j) 35 (0, 0))) : (execOp a.eval o).run Try.prog w = .ok (.value (.slice A0 n0 c0)) w := by
  subst hv
  have h12 : w.cell? ⟨g, 12, none⟩ = some (.slice A0 n0 c0) := (blk_cell hb 12).trans rfl
  unfold execOp
  simp only [ho, hx]
  go_simp
theorem sh_ldS {x : Operand} (ho : o.op = .load 32 x) (hx : a.eval x = .pointer (some ⟨g, 13, none⟩)) {A0 : Option Addr} {n0 c0 : Nat} (hv : vs = .slice A0 n0 c0) (hb : w.heap[g]? = some (.cells (SLit A X Y S p f0 f1 f2 f3 f4 f5 vm vt vs vc j) 35 (0, 0))) : (execOp a.eval o).run Try.prog w = .ok (.value (.slice A0 n0 c0)) w := by
  subst hv
  have h13 : w.cell? ⟨g, 13, none⟩ = some (.slice A0 n0 c0) := (blk_cell hb 13).trans rfl
  unfold execOp
  simp only [ho, hx]
  go_simp
theorem sh_ldK {x : Operand} (ho : o.op = .load 33 x) (hx : a.eval x = .pointer (some ⟨g, 14, none⟩)) {A0 : Option Addr} {n0 c0 : Nat} (hv : vc = .slice A0 n0 c0) (hb : w.heap[g]? = some (.cells (SLit A X Y S p f0 f1 f2 f3 f4 f5 vm vt vs vc j) 35 (0, 0))) : (execOp a.eval o).run Try.prog w = .ok (.value (.slice A0 n0 c0)) w := by
  subst hv
  have h14 : w.cell? ⟨g, 14, none⟩ = some (.slice A0 n0 c0) := (blk_cell hb 14).trans rfl
  unfold execOp
  simp only [ho, hx]
  go_simp
end
section
variable {Q : Exit → Act → World → Prop} {ops : Array Oper} {rest : List Oper} {o : Oper} {a : Act} {w : World} {A X Y S p : Int} {f0 f1 f2 f3 f4 f5 j : Bool} {vm vt vs vc : Value} {g : Nat}
set_option maxHeartbeats 4000000 in
theorem sh_stC (hgd : o.guard = none) {x y : Operand} {A' X' Y' S' p' : Int} {f0' f1' f2' f3' f4' f5' : Bool} (ho : o.op = .store 28 x y) (hx : a.eval x = .pointer (some ⟨g, 0, none⟩)) (hy : a.eval y = .agg #[.int .u8 A', .int .u8 X', .int .u8 Y', .int .u8 S', .int .u16 p', .bool f0', .bool f1', .bool f2', .bool f3', .bool f4', .bool f5']) (hb : w.heap[g]? = some (.cells (SLit A X Y S p f0 f1 f2 f3 f4 f5 vm vt vs vc j) 35 (0, 0)))
    (h : ∀ w1, w1.heap[g]? = some (.cells (SLit A' X' Y' S' p' f0' f1' f2' f3' f4' f5' vm vt vs vc j) 35 (0, 0)) → (∀ k, k ≠ g → w1.heap[k]? = w.heap[k]?) → (∀ B u, B ≤ g → Below B u w → Below B u w1) → wpList Try.prog ops Q rest (a.put o.dst undef) w1) : wpList Try.prog ops Q (o :: rest) a w := by
  have q0 := blk_frozen hb 0
  have q1 := blk_frozen hb 1
  have q2 := blk_frozen hb 2
  have q3 := blk_frozen hb 3
  have q4 := blk_frozen hb 4
  have q5 := blk_frozen hb 5
  have q6 := blk_frozen hb 6
  have q7 := blk_frozen hb 7
  have q8 := blk_frozen hb 8
  have q9 := blk_frozen hb 9
  have q10 := blk_frozen hb 10
  have h0 : w.cell? ⟨g, 0, none⟩ = some (.int .u8 A) := (blk_cell hb 0).trans rfl
  have h1 : w.cell? ⟨g, 1, none⟩ = some (.int .u8 X) := (blk_cell hb 1).trans rfl
  have h2 : w.cell? ⟨g, 2, none⟩ = some (.int .u8 Y) := (blk_cell hb 2).trans rfl
  have h3 : w.cell? ⟨g, 3, none⟩ = some (.int .u8 S) := (blk_cell hb 3).trans rfl
  have h4 : w.cell? ⟨g, 4, none⟩ = some (.int .u16 p) := (blk_cell hb 4).trans rfl
  have h5 : w.cell? ⟨g, 5, none⟩ = some (.bool f0) := (blk_cell hb 5).trans rfl
  have h6 : w.cell? ⟨g, 6, none⟩ = some (.bool f1) := (blk_cell hb 6).trans rfl
  have h7 : w.cell? ⟨g, 7, none⟩ = some (.bool f2) := (blk_cell hb 7).trans rfl
  have h8 : w.cell? ⟨g, 8, none⟩ = some (.bool f3) := (blk_cell hb 8).trans rfl
  have h9 : w.cell? ⟨g, 9, none⟩ = some (.bool f4) := (blk_cell hb 9).trans rfl
  have h10 : w.cell? ⟨g, 10, none⟩ = some (.bool f5) := (blk_cell hb 10).trans rfl
  have hrun : (execOp a.eval o).run Try.prog w = .ok .skip (((((((((((w.setCell ⟨g, 0, none⟩ (.int .u8 A')).setCell ⟨g, 1, none⟩ (.int .u8 X')).setCell ⟨g, 2, none⟩ (.int .u8 Y')).setCell ⟨g, 3, none⟩ (.int .u8 S')).setCell ⟨g, 4, none⟩ (.int .u16 p')).setCell ⟨g, 5, none⟩ (.bool f0')).setCell ⟨g, 6, none⟩ (.bool f1')).setCell ⟨g, 7, none⟩ (.bool f2')).setCell ⟨g, 8, none⟩ (.bool f3')).setCell ⟨g, 9, none⟩ (.bool f4')).setCell ⟨g, 10, none⟩ (.bool f5')) := by
    unfold execOp
    simp only [ho, hx, hy]
    go_simp
  have b0 : (w.setCell ⟨g, 0, none⟩ (.int .u8 A')).heap[g]? = some (.cells (SLit A' X Y S p f0 f1 f2 f3 f4 f5 vm vt vs vc j) 35 (0, 0)) := blk_put hb 0 _ rfl
  have b1 : ((w.setCell ⟨g, 0, none⟩ (.int .u8 A')).setCell ⟨g, 1, none⟩ (.int .u8 X')).heap[g]? = some (.cells (SLit A' X' Y S p f0 f1 f2 f3 f4 f5 vm vt vs vc j) 35 (0, 0)) := blk_put b0 1 _ rfl
  have b2 : (((w.setCell ⟨g, 0, none⟩ (.int .u8 A')).setCell ⟨g, 1, none⟩ (.int .u8 X')).setCell ⟨g, 2, none⟩ (.int .u8 Y')).heap[g]? = some (.cells (SLit A' X' Y' S p f0 f1 f2 f3 f4 f5 vm vt vs vc j) 35 (0, 0)) := blk_put b1 2 _ rfl
  have b3 : ((((w.setCell ⟨g, 0, none⟩ (.int .u8 A')).setCell ⟨g, 1, none⟩ (.int .u8 X')).setCell ⟨g, 2, none⟩ (.int .u8 Y')).setCell ⟨g, 3, none⟩ (.int .u8 S')).heap[g]? = some (.cells (SLit A' X' Y' S' p f0 f1 f2 f3 f4 f5 vm vt vs vc j) 35 (0, 0)) := blk_put b2 3 _ rfl
  have b4 : (((((w.setCell ⟨g, 0, none⟩ (.int .u8 A')).setCell ⟨g, 1, none⟩ (.int .u8 X')).setCell ⟨g, 2, none⟩ (.int .u8 Y')).setCell ⟨g, 3, none⟩ (.int .u8 S')).setCell ⟨g, 4, none⟩ (.int .u16 p')).heap[g]? = some (.cells (SLit A' X' Y' S' p' f0 f1 f2 f3 f4 f5 vm vt vs vc j) 35 (0, 0)) := blk_put b3 4 _ rfl
  have b5 : ((((((w.setCell ⟨g, 0, none⟩ (.int .u8 A')).setCell ⟨g, 1, none⟩ (.int .u8 X')).setCell ⟨g, 2, none⟩ (.int .u8 Y')).setCell ⟨g, 3, none⟩ (.int .u8 S')).setCell ⟨g, 4, none⟩ (.int .u16 p')).setCell ⟨g, 5, none⟩ (.bool f0')).heap[g]? = some (.cells (SLit A' X' Y' S' p' f0' f1 f2 f3 f4 f5 vm vt vs vc j) 35 (0, 0)) := blk_put b4 5 _ rfl
  have b6 : (((((((w.setCell ⟨g, 0, none⟩ (.int .u8 A')).setCell ⟨g, 1, none⟩ (.int .u8 X')).setCell ⟨g, 2, none⟩ (.int .u8 Y')).setCell ⟨g, 3, none⟩ (.int .u8 S')).setCell ⟨g, 4, none⟩ (.int .u16 p')).setCell ⟨g, 5, none⟩ (.bool f0')).setCell ⟨g, 6, none⟩ (.bool f1')).heap[g]? = some (.cells (SLit A' X' Y' S' p' f0' f1' f2 f3 f4 f5 vm vt vs vc j) 35 (0, 0)) := blk_put b5 6 _ rfl
  have b7 : ((((((((w.setCell ⟨g, 0, none⟩ (.int .u8 A')).setCell ⟨g, 1, none⟩ (.int .u8 X')).setCell ⟨g, 2, none⟩ (.int .u8 Y')).setCell ⟨g, 3, none⟩ (.int .u8 S')).setCell ⟨g, 4, none⟩ (.int .u16 p')).setCell ⟨g, 5, none⟩ (.bool f0')).setCell ⟨g, 6, none⟩ (.bool f1')).setCell ⟨g, 7, none⟩ (.bool f2')).heap[g]? = some (.cells (SLit A' X' Y' S' p' f0' f1' f2' f3 f4 f5 vm vt vs vc j) 35 (0, 0)) := blk_put b6 7 _ rfl
  have b8 : (((((((((w.setCell ⟨g, 0, none⟩ (.int .u8 A')).setCell ⟨g, 1, none⟩ (.int .u8 X')).setCell ⟨g, 2, none⟩ (.int .u8 Y')).setCell ⟨g, 3, none⟩ (.int .u8 S')).setCell ⟨g, 4, none⟩ (.int .u16 p')).setCell ⟨g, 5, none⟩ (.bool f0')).setCell ⟨g, 6, none⟩ (.bool f1')).setCell ⟨g, 7, none⟩ (.bool f2')).setCell ⟨g, 8, none⟩ (.bool f3')).heap[g]? = some (.cells (SLit A' X' Y' S' p' f0' f1' f2' f3' f4 f5 vm vt vs vc j) 35 (0, 0)) := blk_put b7 8 _ rfl
  have b9 : ((((((((((w.setCell ⟨g, 0, none⟩ (.int .u8 A')).setCell ⟨g, 1, none⟩ (.int .u8 X')).setCell ⟨g, 2, none⟩ (.int .u8 Y')).setCell ⟨g, 3, none⟩ (.int .u8 S')).setCell ⟨g, 4, none⟩ (.int .u16 p')).setCell ⟨g, 5, none⟩ (.bool f0')).setCell ⟨g, 6, none⟩ (.bool f1')).setCell ⟨g, 7, none⟩ (.bool f2')).setCell ⟨g, 8, none⟩ (.bool f3')).setCell ⟨g, 9, none⟩ (.bool f4')).heap[g]? = some (.cells (SLit A' X' Y' S' p' f0' f1' f2' f3' f4' f5 vm vt vs vc j) 35 (0, 0)) := blk_put b8 9 _ rfl
  have b10 : (((((((((((w.setCell ⟨g, 0, none⟩ (.int .u8 A')).setCell ⟨g, 1, none⟩ (.int .u8 X')).setCell ⟨g, 2, none⟩ (.int .u8 Y')).setCell ⟨g, 3, none⟩ (.int .u8 S')).setCell ⟨g, 4, none⟩ (.int .u16 p')).setCell ⟨g, 5, none⟩ (.bool f0')).setCell ⟨g, 6, none⟩ (.bool f1')).setCell ⟨g, 7, none⟩ (.bool f2')).setCell ⟨g, 8, none⟩ (.bool f3')).setCell ⟨g, 9, none⟩ (.bool f4')).setCell ⟨g, 10, none⟩ (.bool f5')).heap[g]? = some (.cells (SLit A' X' Y' S' p' f0' f1' f2' f3' f4' f5' vm vt vs vc j) 35 (0, 0)) := blk_put b9 10 _ rfl
  refine event_skip hgd hrun (h _ b10 (fun k hk => ?_) (fun B u hB hz => (((((((((((hz.setCell hB _).setCell hB _).setCell hB _).setCell hB _).setCell hB _).setCell hB _).setCell hB _).setCell hB _).setCell hB _).setCell hB _).setCell hB _)))
  simp only [Below.heap_setCell _ ⟨g, _, none⟩ _ k hk]
set_option maxHeartbeats 4000000 in
theorem sh_stJ (hgd : o.guard = none) {x y : Operand} {j' : Bool} (ho : o.op = .store 4 x y) (hx : a.eval x = .pointer (some ⟨g, 15, none⟩)) (hy : a.eval y = .bool j') (hb : w.heap[g]? = some (.cells (SLit A X Y S p f0 f1 f2 f3 f4 f5 vm vt vs vc j) 35 (0, 0)))
    (h : ∀ w1, w1.heap[g]? = some (.cells (SLit A X Y S p f0 f1 f2 f3 f4 f5 vm vt vs vc j') 35 (0, 0)) → (∀ k, k ≠ g → w1.heap[k]? = w.heap[k]?) → (∀ B u, B ≤ g → Below B u w → Below B u w1) → wpList Try.prog ops Q rest (a.put o.dst undef) w1) : wpList Try.prog ops Q (o :: rest) a w := by
  have q15 := blk_frozen hb 15
  have h15 : w.cell? ⟨g, 15, none⟩ = some (.bool j) := (blk_cell hb 15).trans rfl
  have hrun : (execOp a.eval o).run Try.prog w = .ok .skip (w.setCell ⟨g, 15, none⟩ (.bool j')) := by
    unfold execOp
    simp only [ho, hx, hy]
    go_simp
  have b0 : (w.setCell ⟨g, 15, none⟩ (.bool j')).heap[g]? = some (.cells (SLit A X Y S p f0 f1 f2 f3 f4 f5 vm vt vs vc j') 35 (0, 0)) := blk_put hb 15 _ rfl
  refine event_skip hgd hrun (h _ b0 (fun k hk => ?_) (fun B u hB hz => (hz.setCell hB _)))
  simp only [Below.heap_setCell _ ⟨g, _, none⟩ _ k hk]
set_option maxHeartbeats 4000000 in
theorem sh_stR (hgd : o.guard = none) {x y : Operand} {A0 : Option Addr} {n0 c0 : Nat} (ho : o.op = .store 30 x y) (hx : a.eval x = .pointer (some ⟨g, 11, none⟩)) (hy : a.eval y = .agg #[.slice A0 n0 c0]) (hb : w.heap[g]? = some (.cells (SLit A X Y S p f0 f1 f2 f3 f4 f5 vm vt vs vc j) 35 (0, 0)))
    (h : ∀ w1, w1.heap[g]? = some (.cells (SLit A X Y S p f0 f1 f2 f3 f4 f5 (.slice A0 n0 c0) vt vs vc j) 35 (0, 0)) → (∀ k, k ≠ g → w1.heap[k]? = w.heap[k]?) → (∀ B u, B ≤ g → Below B u w → Below B u w1) → wpList Try.prog ops Q rest (a.put o.dst undef) w1) : wpList Try.prog ops Q (o :: rest) a w := by
  have q11 := blk_frozen hb 11
  have h11 : w.cell? ⟨g, 11, none⟩ = some (vm) := (blk_cell hb 11).trans rfl
  have hrun : (execOp a.eval o).run Try.prog w = .ok .skip (w.setCell ⟨g, 11, none⟩ (.slice A0 n0 c0)) := by
    unfold execOp
    simp only [ho, hx, hy]
    go_simp
  have b0 : (w.setCell ⟨g, 11, none⟩ (.slice A0 n0 c0)).heap[g]? = some (.cells (SLit A X Y S p f0 f1 f2 f3 f4 f5 (.slice A0 n0 c0) vt vs vc j) 35 (0, 0)) := blk_put hb 11 _ rfl
  refine event_skip hgd hrun (h _ b0 (fun k hk => ?_) (fun B u hB hz => (hz.setCell hB _)))
  simp only [Below.heap_setCell _ ⟨g, _, none⟩ _ k hk]
set_option maxHeartbeats 4000000 in
theorem sh_stT (hgd : o.guard = none) {x y : Operand} {A0 : Option Addr} {n0 c0 : Nat} (ho : o.op = .store 31 x y) (hx : a.eval x = .pointer (some ⟨g, 12, none⟩)) (hy : a.eval y = .slice A0 n0 c0) (hb : w.heap[g]? = some (.cells (SLit A X Y S p f0 f1 f2 f3 f4 f5 vm vt vs vc j) 35 (0, 0)))
    (h : ∀ w1, w1.heap[g]? = some (.cells (SLit A X Y S p f0 f1 f2 f3 f4 f5 vm (.slice A0 n0 c0) vs vc j) 35 (0, 0)) → (∀ k, k ≠ g → w1.heap[k]? = w.heap[k]?) → (∀ B u, B ≤ g → Below B u w → Below B u w1) → wpList Try.prog ops Q rest (a.put o.dst undef) w1) : wpList Try.prog ops Q (o :: rest) a w := by
  have q12 := blk_frozen hb 12
  have h12 : w.cell? ⟨g, 12, none⟩ = some (vt) := (blk_cell hb 12).trans rfl
  have hrun : (execOp a.eval o).run Try.prog w = .ok .skip (w.setCell ⟨g, 12, none⟩ (.slice A0 n0 c0)) := by
    unfold execOp
    simp only [ho, hx, hy]
    go_simp
  have b0 : (w.setCell ⟨g, 12, none⟩ (.slice A0 n0 c0)).heap[g]? = some (.cells (SLit A X Y S p f0 f1 f2 f3 f4 f5 vm (.slice A0 n0 c0) vs vc j) 35 (0, 0)) := blk_put hb 12 _ rfl
  refine event_skip hgd hrun (h _ b0 (fun k hk => ?_) (fun B u hB hz => (hz.setCell hB _)))
  simp only [Below.heap_setCell _ ⟨g, _, none⟩ _ k hk]
set_option maxHeartbeats 4000000 in
theorem sh_stS (hgd : o.guard = none) {x y : Operand} {A0 : Option Addr} {n0 c0 : Nat} (ho : o.op = .store 32 x y) (hx : a.eval x = .pointer (some ⟨g, 13, none⟩)) (hy : a.eval y = .slice A0 n0 c0) (hb : w.heap[g]? = some (.cells (SLit A X Y S p f0 f1 f2 f3 f4 f5 vm vt vs vc j) 35 (0, 0)))
    (h : ∀ w1, w1.heap[g]? = some (.cells (SLit A X Y S p f0 f1 f2 f3 f4 f5 vm vt (.slice A0 n0 c0) vc j) 35 (0, 0)) → (∀ k, k ≠ g → w1.heap[k]? = w.heap[k]?) → (∀ B u, B ≤ g → Below B u w → Below B u w1) → wpList Try.prog ops Q rest (a.put o.dst undef) w1) : wpList Try.prog ops Q (o :: rest) a w := by
  have q13 := blk_frozen hb 13
  have h13 : w.cell? ⟨g, 13, none⟩ = some (vs) := (blk_cell hb 13).trans rfl
  have hrun : (execOp a.eval o).run Try.prog w = .ok .skip (w.setCell ⟨g, 13, none⟩ (.slice A0 n0 c0)) := by
    unfold execOp
    simp only [ho, hx, hy]
    go_simp
  have b0 : (w.setCell ⟨g, 13, none⟩ (.slice A0 n0 c0)).heap[g]? = some (.cells (SLit A X Y S p f0 f1 f2 f3 f4 f5 vm vt (.slice A0 n0 c0) vc j) 35 (0, 0)) := blk_put hb 13 _ rfl
  refine event_skip hgd hrun (h _ b0 (fun k hk => ?_) (fun B u hB hz => (hz.setCell hB _)))
  simp only [Below.heap_setCell _ ⟨g, _, none⟩ _ k hk]
set_option maxHeartbeats 4000000 in
theorem sh_stK (hgd : o.guard = none) {x y : Operand} {A0 : Option Addr} {n0 c0 : Nat} (ho : o.op = .store 33 x y) (hx : a.eval x = .pointer (some ⟨g, 14, none⟩)) (hy : a.eval y = .slice A0 n0 c0) (hb : w.heap[g]? = some (.cells (SLit A X Y S p f0 f1 f2 f3 f4 f5 vm vt vs vc j) 35 (0, 0)))
    (h : ∀ w1, w1.heap[g]? = some (.cells (SLit A X Y S p f0 f1 f2 f3 f4 f5 vm vt vs (.slice A0 n0 c0) j) 35 (0, 0)) → (∀ k, k ≠ g → w1.heap[k]? = w.heap[k]?) → (∀ B u, B ≤ g → Below B u w → Below B u w1) → wpList Try.prog ops Q rest (a.put o.dst undef) w1) : wpList Try.prog ops Q (o :: rest) a w := by
  have q14 := blk_frozen hb 14
  have h14 : w.cell? ⟨g, 14, none⟩ = some (vc) := (blk_cell hb 14).trans rfl
  have hrun : (execOp a.eval o).run Try.prog w = .ok .skip (w.setCell ⟨g, 14, none⟩ (.slice A0 n0 c0)) := by
    unfold execOp
    simp only [ho, hx, hy]
    go_simp
  have b0 : (w.setCell ⟨g, 14, none⟩ (.slice A0 n0 c0)).heap[g]? = some (.cells (SLit A X Y S p f0 f1 f2 f3 f4 f5 vm vt vs (.slice A0 n0 c0) j) 35 (0, 0)) := blk_put hb 14 _ rfl
  refine event_skip hgd hrun (h _ b0 (fun k hk => ?_) (fun B u hB hz => (hz.setCell hB _)))
  simp only [Below.heap_setCell _ ⟨g, _, none⟩ _ k hk]
end
end Go.Proofs.Ytafkbhnhmhmjcaa.Weak
end
section
namespace Go.Proofs.Ytafkbhnhmhmjcaa.Plain
open Go.RowKit Go.Proofs.YtafkbhnhmhmjcaaW.PrintWords Go.Proofs.YtafkbhnhmhmjcaaW.PrintLast Go.Proofs.YtafkbhnhmhmjcaaW.PrintMore
theorem loop_run {σ ρ : Type} (F : Nat → σ → Int → Option ρ) (S : Nat → σ) (n : Nat) (r : ρ) (step : ∀ k i : Nat, i < n → F (k + 1) (S i) (i : Int) = F k (S (i + 1)) ((i + 1 : Nat) : Int)) (stop : ∀ k : Nat, F (k + 1) (S n) (n : Int) = some r) :
    ∀ k, n < k → F k (S 0) 0 = some r := by
  have key : ∀ d i k : Nat, i + d = n → d < k → F k (S i) (i : Int) = some r := by
    intro d
    induction d with
    | zero =>
      intro i k hi hk
      obtain ⟨k, rfl⟩ : ∃ m, k = m + 1 := ⟨k - 1, by omega⟩
      obtain rfl : i = n := by omega
      exact stop k
    | succ d ih =>
      intro i k hi hk
      obtain ⟨k, rfl⟩ : ∃ m, k = m + 1 := ⟨k - 1, by omega⟩
      rw [step k i (by omega)]
      exact ih (i + 1) k (by omega) (by omega)
  intro k hk
  exact key n 0 k (by omega) hk
theorem w64 {x : Int} (h0 : -9223372036854775808 ≤ x) (h1 : x ≤ 9223372036854775807) : wrap64 x = x := by unfold wrap64; omega
theorem wsucc {i : Nat} (h : i < 9223372036854775807) : wrap64 ((i : Int) + 1) = ((i + 1 : Nat) : Int) := by unfold wrap64; omega
theorem getD_lt {α : Type} (l : List α) (d : α) (i : Nat) (h : i < l.length) : l.getD i d = l[i] := by
  rw [List.getD_eq_getElem?_getD, List.getElem?_eq_getElem h]; rfl
end Go.Proofs.Ytafkbhnhmhmjcaa.Plain
end
