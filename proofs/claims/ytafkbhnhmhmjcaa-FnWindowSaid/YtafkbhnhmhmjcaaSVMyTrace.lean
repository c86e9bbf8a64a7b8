import Derived.Test.YtafkbhnhmhmjcaaSVMyLoop
set_option linter.unusedVariables false
set_option linter.unusedSimpArgs false
namespace Go.Proofs.Ytafkbhnhmhmjcaa.Weak
open Go.RowKit Go.Proofs.YtafkbhnhmhmjcaaW.PrintWords Go.Proofs.YtafkbhnhmhmjcaaW.PrintLast Go.Proofs.YtafkbhnhmhmjcaaW.PrintMore Go.Proofs.Ytafkbhnhmhmjcaa.PRun
def cycCells (x : S55) : List Value := [.int .u16 x.f0, .int .u8 x.f1, .bool x.f2]
theorem set_part {α : Type} (l : List α) (i j f : Nat) (v : α) (hf : f < 3) (hne : i ≠ j) : ((l.set (i * 3 + f) v).drop (j * 3)).take 3 = (l.drop (j * 3)).take 3 := by
  apply List.ext_getElem?
  intro q
  by_cases hq : q < 3
  · rw [List.getElem?_take_of_lt hq, List.getElem?_take_of_lt hq, List.getElem?_drop, List.getElem?_drop, List.getElem?_set_ne (by omega)]
  · rw [List.getElem?_eq_none (by rw [List.length_take]; omega), List.getElem?_eq_none (by rw [List.length_take]; omega)]
theorem set_same {α : Type} (l : List α) (i f : Nat) (v : α) (hf : f < 3) (hl : i * 3 + 3 ≤ l.length) : ((l.set (i * 3 + f) v).drop (i * 3)).take 3 = ((l.drop (i * 3)).take 3).set f v := by
  apply List.ext_getElem?
  intro q
  by_cases hq : q < 3
  · rw [List.getElem?_take_of_lt hq, List.getElem?_drop]
    by_cases e : f = q
    · subst e
      rw [List.getElem?_set_self (by omega), List.getElem?_set_self (by simp; omega)]
    · rw [List.getElem?_set_ne (by omega), List.getElem?_set_ne e, List.getElem?_take_of_lt hq, List.getElem?_drop]
  · rw [List.getElem?_eq_none (by rw [List.length_take]; omega), List.getElem?_eq_none (by rw [List.length_set, List.length_take]; omega)]
theorem cyc_put {w : World} {B g n cap : Nat} {xs : List S55} (h : Kd.R k55 55 w B (fun _ => True) (.slice (some ⟨g, 0, none⟩) n cap) xs) (i : Nat) (hi : i < n) (f : Nat) (hf : f < 3) (v : Value) (x : S55) (hx : cycCells x = (cycCells (xs.getD i z55)).set f v) :
    Kd.R k55 55 (w.setCell ⟨g, i * 3 + f, none⟩ v) B (fun _ => True) (.slice (some ⟨g, 0, none⟩) n cap) (xs.set i x) := by
  obtain ⟨hn, _⟩ := Kd.R_reads' h
  obtain ⟨h0, inner, ho, hl, hr⟩ := h
  subst hn
  refine ⟨fun _ _ => trivial, inner.set (i * 3 + f) v, ?_, ?_, fun j p hj => ?_⟩
  · rw [List.length_set]; exact (ho.stored (i * 3 + f) v).1
  · rw [List.length_set, List.length_set]; exact hl
  · have hl3 : inner.length = xs.length * 3 := hl
    by_cases e : i = j
    · subst e
      rw [List.getElem?_set_self hi] at hj
      obtain rfl := Option.some.inj hj
      have h1 := k55_openM (hr i _ (List.getElem?_eq_getElem hi))
      have h2 : ((inner.drop (i * 3)).take 3) = cycCells (xs.getD i z55) := by
        rw [List.getD_eq_getElem?_getD, List.getElem?_eq_getElem hi]; exact h1
      show k55.M _ _ _ _ (((inner.set (i * 3 + f) v).drop (i * 3)).take 3)
      rw [set_same _ _ _ _ hf (by omega), h2, ← hx]
      exact k55_mkM _ _ _ _
    · rw [List.getElem?_set_ne e] at hj
      have h1 := hr j p hj
      have h2 := k55_openM h1
      show k55.M _ _ _ _ (((inner.set (i * 3 + f) v).drop (j * 3)).take 3)
      rw [set_part _ _ _ _ _ hf e]
      show k55.M _ _ _ _ ((inner.drop (j * k55.sz)).take k55.sz)
      rw [h2]
      exact k55_mkM _ _ _ _
theorem set_cb {xs : List S55} (h : ∀ c, c ∈ xs → CB c) (i : Nat) {x : S55} (hx : CB x) : ∀ c, c ∈ xs.set i x → CB c := fun c hc => (List.mem_or_eq_of_mem_set hc).elim (h c) (fun e => e ▸ hx)
theorem get_cb {xs : List S55} (h : ∀ c, c ∈ xs → CB c) (i : Nat) (hi : i < xs.length) : CB (xs.getD i z55) := by
  rw [List.getD_eq_getElem?_getD, List.getElem?_eq_getElem hi]
  exact h _ (List.getElem_mem _)
theorem cyc_cell {w : World} {B g n cap : Nat} {xs : List S55} (h : Kd.R k55 55 w B (fun _ => True) (.slice (some ⟨g, 0, none⟩) n cap) xs) (i : Nat) (hi : i < n) (f : Nat) (hf : f < 3) : w.cell? ⟨g, i * 3 + f, none⟩ = (cycCells (xs.getD i z55))[f]? := by
  obtain ⟨hn, hc, hr⟩ := Kd.R_reads' h
  obtain ⟨ad, c, e, hl, hK, hcell⟩ : ∃ ad c, some (⟨g, 0, none⟩ : Addr) = some ad ∧ c.length = 3 ∧ k55.K w (xs.getD i z55) c ∧ ∀ j u, c[j]? = some u → w.cell? (ad.add (i * 3 + j)) = some u := by
    have h1 := Kd.C_get hr z55 (i : Int) (by omega) (by omega)
    rw [Int.toNat_natCast] at h1
    exact h1
  obtain rfl := k55_open hK
  cases e
  have h2 := hcell f _ (List.getElem?_eq_getElem (show f < 3 from hf))
  rw [show (⟨g, 0, none⟩ : Addr).add (i * 3 + f) = ⟨g, i * 3 + f, none⟩ from by unfold Addr.add; split <;> simp_all] at h2
  exact h2.trans (List.getElem?_eq_getElem (show f < 3 from hf)).symm
theorem cyc_blk {w : World} {B g n cap : Nat} {xs : List S55} (h : Kd.R k55 55 w B (fun _ => True) (.slice (some ⟨g, 0, none⟩) n cap) xs) (hn : 0 < n) : ∃ cells, w.heap[g]? = some (.cells cells 55 (0, 0)) := by
  obtain ⟨hl, _⟩ := Kd.R_reads' h
  obtain ⟨g', cap', e, _, _, cells, hc⟩ := Kd.R_form h (by omega)
  cases e
  exact ⟨cells, hc⟩
section
variable {Q : Exit → Act → World → Prop} {ops : Array Oper} {rest : List Oper} {o : Oper} {a : Act} {w : World} {B g n cap i p : Nat} {xs : List S55}
theorem cyc_ld2 (h : Kd.R k55 55 w B (fun _ => True) (.slice (some ⟨g, 0, none⟩) n cap) xs) (hi : i < n) (hg : o.guard = none) {x : Operand} (ho : o.op = .load 4 x) (hx : a.eval x = .pointer (some ⟨g, p, none⟩)) (hp : p = i * 3 + 2)
    (k : ∀ v : Bool, wpList Try.prog ops Q rest (a.put o.dst (.bool v)) w) : wpList Try.prog ops Q (o :: rest) a w := by
  have hc : w.cell? ⟨g, p, none⟩ = some (.bool (xs.getD i z55).f2) := hp ▸ cyc_cell h i hi 2 (by decide)
  clear hp
  have hrun : (execOp a.eval o).run Try.prog w = .ok (.value (.bool (xs.getD i z55).f2)) w := by
    unfold execOp
    simp only [ho, hx]
    go_simp
  exact Kd.event_run hg hrun (k _)
theorem cyc_run0 (h : Kd.R k55 55 w B (fun _ => True) (.slice (some ⟨g, 0, none⟩) n cap) xs) (hi : i < n) {x y : Operand} (ho : o.op = .store 24 x y) {v : Int} (hp : p = i * 3 + 0) (hx : a.eval x = .pointer (some ⟨g, p, none⟩)) (hy : a.eval y = .int .u16 v) :
    (execOp a.eval o).run Try.prog w = .ok .skip (w.setCell ⟨g, p, none⟩ (.int .u16 v)) := by
  have hc : w.cell? ⟨g, p, none⟩ = some (.int .u16 (xs.getD i z55).f0) := hp ▸ cyc_cell h i hi 0 (by decide)
  clear hp
  obtain ⟨cells, hb⟩ := cyc_blk h (by omega)
  have hf := blk_frozen hb p
  unfold execOp
  simp only [ho, hx, hy]
  go_simp
theorem cyc_kept0 (h : Kd.R k55 55 w B (fun _ => True) (.slice (some ⟨g, 0, none⟩) n cap) xs) (hi : i < n) (v : Int) (hp : p = i * 3 + 0) : Kd.R k55 55 (w.setCell ⟨g, p, none⟩ (.int .u16 v)) B (fun _ => True) (.slice (some ⟨g, 0, none⟩) n cap) (xs.set i ⟨v, (xs.getD i z55).f1, (xs.getD i z55).f2⟩) := hp ▸ cyc_put h i hi 0 (by decide) _ _ rfl
theorem cyc_run1 (h : Kd.R k55 55 w B (fun _ => True) (.slice (some ⟨g, 0, none⟩) n cap) xs) (hi : i < n) {x y : Operand} (ho : o.op = .store 5 x y) {v : Int} (hp : p = i * 3 + 1) (hx : a.eval x = .pointer (some ⟨g, p, none⟩)) (hy : a.eval y = .int .u8 v) :
    (execOp a.eval o).run Try.prog w = .ok .skip (w.setCell ⟨g, p, none⟩ (.int .u8 v)) := by
  have hc : w.cell? ⟨g, p, none⟩ = some (.int .u8 (xs.getD i z55).f1) := hp ▸ cyc_cell h i hi 1 (by decide)
  clear hp
  obtain ⟨cells, hb⟩ := cyc_blk h (by omega)
  have hf := blk_frozen hb p
  unfold execOp
  simp only [ho, hx, hy]
  go_simp
theorem cyc_kept1 (h : Kd.R k55 55 w B (fun _ => True) (.slice (some ⟨g, 0, none⟩) n cap) xs) (hi : i < n) (v : Int) (hp : p = i * 3 + 1) : Kd.R k55 55 (w.setCell ⟨g, p, none⟩ (.int .u8 v)) B (fun _ => True) (.slice (some ⟨g, 0, none⟩) n cap) (xs.set i ⟨(xs.getD i z55).f0, v, (xs.getD i z55).f2⟩) := hp ▸ cyc_put h i hi 1 (by decide) _ _ rfl
theorem cyc_run2 (h : Kd.R k55 55 w B (fun _ => True) (.slice (some ⟨g, 0, none⟩) n cap) xs) (hi : i < n) {x y : Operand} (ho : o.op = .store 4 x y) {v : Bool} (hp : p = i * 3 + 2) (hx : a.eval x = .pointer (some ⟨g, p, none⟩)) (hy : a.eval y = .bool v) :
    (execOp a.eval o).run Try.prog w = .ok .skip (w.setCell ⟨g, p, none⟩ (.bool v)) := by
  have hc : w.cell? ⟨g, p, none⟩ = some (.bool (xs.getD i z55).f2) := hp ▸ cyc_cell h i hi 2 (by decide)
  clear hp
  obtain ⟨cells, hb⟩ := cyc_blk h (by omega)
  have hf := blk_frozen hb p
  unfold execOp
  simp only [ho, hx, hy]
  go_simp
theorem cyc_kept2 (h : Kd.R k55 55 w B (fun _ => True) (.slice (some ⟨g, 0, none⟩) n cap) xs) (hi : i < n) (v : Bool) (hp : p = i * 3 + 2) : Kd.R k55 55 (w.setCell ⟨g, p, none⟩ (.bool v)) B (fun _ => True) (.slice (some ⟨g, 0, none⟩) n cap) (xs.set i ⟨(xs.getD i z55).f0, (xs.getD i z55).f1, v⟩) := hp ▸ cyc_put h i hi 2 (by decide) _ _ rfl
theorem apart_sym {u v : Value} (h : Apart_ u v) : Apart_ v u := fun k h1 h2 => h k h2 h1
theorem R_cyc_grown {e B : Nat} {u v : Value} {xs : List S55} {w w1 : World} (h : Kd.R k55 e w B (fun _ => True) u xs) (hg : w.grownBy w1 v.ownBlock) (ha : Apart_ u v) : Kd.R k55 e w1 B (fun _ => True) u xs := by
  obtain ⟨h0, inner, ho, hr⟩ := h
  have h2 : Kd.R k55 e w B (fun k => u.ownBlock = some k) u xs := ⟨fun k hk => hk, inner, ho, hr.imp_ (fun p c hp => by rw [k55_openM hp]; exact k55_mkM _ _ _ p)⟩
  exact Kd.R_mono (Kd.R_grown h2 hg (fun k hk he => ha k hk he.symm)) (fun _ _ => trivial)
theorem gate_below3 {w : World} {R : Ending → World → Prop} {v : Value} (h : Calls Try.prog 16 #[v, .int .i64 3] w R) : Calls Try.prog 16 #[v, .int .i64 3] w R := h
theorem len400 {n N : Nat} (h : n ≤ 20 * N) (hN : N ≤ 20) : n ≤ 400 := by omega
theorem dec0 {n : Nat} (h : n = 0) : decide ((0 : Int) < (n : Int)) = false := decide_eq_false (by omega)
theorem dec0b {n : Nat} (h : n = 0) : decide (0 < n) = false := decide_eq_false (by omega)
theorem dec1 {n : Nat} (h : 0 < n) : decide ((0 : Int) < (n : Int)) = true := decide_eq_true (by omega)
theorem below_nat {x : Int} {n : Nat} (h : ((0 : Int) < (n : Int) → 0 ≤ x ∧ x < (n : Int)) ∧ 0 ≤ x) (hn : 0 < n) : ∃ u : Nat, x = (u : Int) ∧ u < n := ⟨x.toNat, by omega, by have := h.1 (by omega); omega⟩
theorem n_of {x : Int} (h : ((0 : Int) < 20 → 0 ≤ x ∧ x < 20) ∧ 0 ≤ x) : ∃ N : Nat, wrap64 (1 + x) = (N : Int) ∧ N ≤ 20 := ⟨(1 + x).toNat, by have h_ := h.1 (by decide); unfold wrap64; omega, by have h_ := h.1 (by decide); omega⟩
theorem cyc_moves {w : World} {B g n cap p : Nat} {xs : List S55} (h : Kd.R k55 55 w B (fun _ => True) (.slice (some ⟨g, 0, none⟩) n cap) xs) (hn : 0 < n) (v : Value) {w0 w' : World} {gc : Nat} (hB : w'.heap.size ≤ g) (hW : w0.heap.size ≤ w'.heap.size) (hc : Cur w0 w gc) (hb : Below w0.heap.size w0 w) (hk : KeepBut w' w gc none) :
    Cur w0 (w.setCell ⟨g, p, none⟩ v) gc ∧ Below w0.heap.size w0 (w.setCell ⟨g, p, none⟩ v) ∧ KeepBut w' (w.setCell ⟨g, p, none⟩ v) gc none := by
  obtain ⟨cells, hblk⟩ := cyc_blk h hn
  exact ⟨hc.other (hc.ne hblk (by decide)) (fun k hk => Below.heap_setCell w _ _ k hk), hb.setCell (Nat.le_trans hW hB) v, keep_own_ hk hB ((Below.refl 0 w).setCell (Nat.zero_le _) v) (fun k hk => Below.heap_setCell w _ _ k hk)⟩
theorem cyc_st1 (hgd : o.guard = none) {x y : Operand} (ho : o.op = .store 5 x y) {v : Int} (hx : a.eval x = .pointer (some ⟨g, p, none⟩)) (hy : a.eval y = .int .u8 v) (hp : p = i * 3 + 1) (hv : RB v) (h : Kd.R k55 55 w B (fun _ => True) (.slice (some ⟨g, 0, none⟩) n cap) xs) (hi : i < n) {w0 w2 : World} {gc m : Nat} (hB : w2.heap.size ≤ g) (hW : w0.heap.size ≤ w2.heap.size) (hc : Cur w0 w gc) (hb : Below w0.heap.size w0 w) (hk : KeepBut w2 w gc none) (hcb : ∀ c, c ∈ xs → CB c) (hl : xs.length ≤ m)
    (k : ∀ w1 ys, Kd.R k55 55 w1 B (fun _ => True) (.slice (some ⟨g, 0, none⟩) n cap) ys → ys.length ≤ m → (∀ c, c ∈ ys → CB c) → Cur w0 w1 gc → Below w0.heap.size w0 w1 → KeepBut w2 w1 gc none → wpList Try.prog ops Q rest (a.put o.dst undef) w1) : wpList Try.prog ops Q (o :: rest) a w := by
  obtain ⟨m1, m2, m3⟩ := cyc_moves (p := p) h (by omega) (.int .u8 v) hB hW hc hb hk
  have hq := get_cb hcb i (by have := (Kd.R_reads' h).1; omega)
  exact event_skip hgd (cyc_run1 h hi ho hp hx hy) (k _ _ (cyc_kept1 h hi v hp) (by rw [List.length_set]; exact hl) (set_cb hcb i ⟨hq.1, hv⟩) m1 m2 m3)
theorem cyc_st2 (hgd : o.guard = none) {x y : Operand} (ho : o.op = .store 4 x y) {v : Bool} (hx : a.eval x = .pointer (some ⟨g, p, none⟩)) (hy : a.eval y = .bool v) (hp : p = i * 3 + 2) (h : Kd.R k55 55 w B (fun _ => True) (.slice (some ⟨g, 0, none⟩) n cap) xs) (hi : i < n) {w0 w2 : World} {gc m : Nat} (hB : w2.heap.size ≤ g) (hW : w0.heap.size ≤ w2.heap.size) (hc : Cur w0 w gc) (hb : Below w0.heap.size w0 w) (hk : KeepBut w2 w gc none) (hcb : ∀ c, c ∈ xs → CB c) (hl : xs.length ≤ m)
    (k : ∀ w1 ys, Kd.R k55 55 w1 B (fun _ => True) (.slice (some ⟨g, 0, none⟩) n cap) ys → ys.length ≤ m → (∀ c, c ∈ ys → CB c) → Cur w0 w1 gc → Below w0.heap.size w0 w1 → KeepBut w2 w1 gc none → wpList Try.prog ops Q rest (a.put o.dst undef) w1) : wpList Try.prog ops Q (o :: rest) a w := by
  obtain ⟨m1, m2, m3⟩ := cyc_moves (p := p) h (by omega) (.bool v) hB hW hc hb hk
  have hq := get_cb hcb i (by have := (Kd.R_reads' h).1; omega)
  exact event_skip hgd (cyc_run2 h hi ho hp hx hy) (k _ _ (cyc_kept2 h hi v hp) (by rw [List.length_set]; exact hl) (set_cb hcb i ⟨hq.1, hq.2⟩) m1 m2 m3)
theorem cyc_step0 {K : Act → World → Prop} {x y : Operand} (hw : Region.wanted o (yielded ops a.tmps) = true) (hN : o.dst = none) (ho : o.op = .store 24 x y) {v : Int} (hx : a.eval x = .pointer (some ⟨g, p, none⟩)) (hy : a.eval y = .int .u16 v) (hp : p = i * 3 + 0) (hv : RP v) (h : Kd.R k55 55 w B (fun _ => True) (.slice (some ⟨g, 0, none⟩) n cap) xs) (hi : i < n) {w0 w2 : World} {gc m : Nat} (hB : w2.heap.size ≤ g) (hW : w0.heap.size ≤ w2.heap.size) (hc : Cur w0 w gc) (hb : Below w0.heap.size w0 w) (hk : KeepBut w2 w gc none) (hcb : ∀ c, c ∈ xs → CB c) (hl : xs.length ≤ m)
    (k : ∀ w1 ys, Kd.R k55 55 w1 B (fun _ => True) (.slice (some ⟨g, 0, none⟩) n cap) ys → ys.length ≤ m → (∀ c, c ∈ ys → CB c) → Cur w0 w1 gc → Below w0.heap.size w0 w1 → KeepBut w2 w1 gc none → K a w1) : if Region.wanted o (yielded ops a.tmps) = true then Oper.wp Try.prog o a w K Q else K (a.put none undef) w := by
  obtain ⟨m1, m2, m3⟩ := cyc_moves (p := p) h (by omega) (.int .u16 v) hB hW hc hb hk
  have hq := get_cb hcb i (by have := (Kd.R_reads' h).1; omega)
  exact skip_ hw hN (cyc_run0 h hi ho hp hx hy) (k _ _ (cyc_kept0 h hi v hp) (by rw [List.length_set]; exact hl) (set_cb hcb i ⟨hv, hq.2⟩) m1 m2 m3)
end
end Go.Proofs.Ytafkbhnhmhmjcaa.Weak
