import Derived.Test.YtafkbhnhmhmjcaaGreatDoorSWMyCpu
import Derived.Test.YtafkbhnhmhmjcaaGreatDoorSWPRunx3
set_option linter.unusedVariables false
set_option linter.unusedSimpArgs false
namespace Go.Proofs.YtafkbhnhmhmjcaaGreatDoor.Weak
open Go.RowKit Go.Proofs.YtafkbhnhmhmjcaaGreatDoorW.PrintWords Go.Proofs.YtafkbhnhmhmjcaaGreatDoorW.PrintLast Go.Proofs.YtafkbhnhmhmjcaaGreatDoorW.PrintMore Go.Proofs.YtafkbhnhmhmjcaaGreatDoor.PRun
theorem CpuAt.ne_of {w : World} {g g' : Nat} {cs : Array Value} {t : TypeId} (h : CpuAt w g) (hb : w.heap[g']? = some (.cells cs t (0, 0))) (ht : t ≠ 64) : g' ≠ g := by
  rintro rfl
  obtain ⟨ds, h1, _⟩ := h
  rw [hb] at h1
  injection h1 with h1
  injection h1 with _ h1
  exact ht h1
theorem FB.raw {B : Nat} {w w' : World} {g : Nat} {cs : Array Value} {t : TypeId} (h : FB B w w') (hb : w.heap[g]? = some (.cells cs t (0, 0))) (ht : t ≠ 112 ∧ t ≠ 5 ∧ t ≠ 43) : w'.heap[g]? = some (.cells cs t (0, 0)) :=
  (h.block g (blk_lt hb) (.inr ⟨cs, t, hb, ht⟩)).trans hb
theorem CpuAt.grown {α : Type} {d : Kd α} {e B : Nat} {ok : Nat → Prop} {xs : List α} {v : Value} {w w1 : World} {g : Nat} (h : CpuAt w g) (hg : w.grownBy w1 v.ownBlock) (ho : Kd.R d e w B ok v xs) (ht : e ≠ 64) : CpuAt w1 g := by
  obtain ⟨cs, h1, h2⟩ := h
  exact ⟨cs, (hg.block g (blk_lt h1) (Kd.R_ne ho h1 ht)).trans h1, h2⟩
theorem raw_grown {α : Type} {d : Kd α} {e B t : Nat} {ok : Nat → Prop} {xs : List α} {v : Value} {w w1 : World} {g : Nat} {cs : Array Value} (h : w.heap[g]? = some (.cells cs t (0, 0))) (hg : w.grownBy w1 v.ownBlock) (ho : Kd.R d e w B ok v xs) (ht : e ≠ t) : w1.heap[g]? = some (.cells cs t (0, 0)) :=
  (hg.block g (blk_lt h) (Kd.R_ne ho h ht)).trans h
theorem ram_len {l : List Int} (h : spec_RamOk.f l = some true) : 256 ≤ l.length ∧ l.length ≤ 4096 := by
  unfold spec_RamOk.f at h
  repeat' split at h
  all_goals first | omega | simp at h
theorem bus_new {w : World} {gb B : Nat} {v : Value} {l : List Int} (hc : w.heap[gb]? = some (.cells #[v, .slice none 0 0] 112 (0, 0))) (hB : B ≤ gb) (ho : Kd.R (Kd.int .u8) 5 w B (fun _ => True) v l) (hb : ∀ x, x ∈ l → RB x) : Bus w gb B l.length 0 :=
  ⟨v, .slice none 0 0, l, [], hc, hB, ho, rfl, hb, Kd.R_nil _ _ _ _ _, rfl, by simp⟩
theorem raw_ne {w : World} {g g' : Nat} {cs ds : Array Value} {t u : TypeId} (h : w.heap[g]? = some (.cells cs t (0, 0))) (h' : w.heap[g']? = some (.cells ds u (0, 0))) (ht : t ≠ u) : g ≠ g' := by
  rintro rfl
  rw [h] at h'
  injection h' with h'
  injection h' with _ h'
  exact ht h'
def BusX (w : World) (gb B : Nat) (vm vl : Value) (mem : List Int) (log : List S43) : Prop := w.heap[gb]? = some (.cells #[vm, vl] 112 (0, 0)) ∧ B ≤ gb ∧ Kd.R (Kd.int .u8) 5 w B (fun _ => True) vm mem ∧ Kd.R k43 43 w B (fun _ => True) vl log
theorem Bus.open_ {w : World} {gb B ln n : Nat} (h : Bus w gb B ln n) : ∃ Am cm Al cl mem log, BusX w gb B (.slice Am mem.length cm) (.slice Al log.length cl) mem log ∧ mem.length = ln ∧ (∀ x, x ∈ mem → RB x) ∧ log.length = n ∧ (∀ c, c ∈ log → CB c) := by
  obtain ⟨vm, vl, mem, log, h1, h2, h3, h4, h5, h6, h7, h8⟩ := h
  obtain ⟨Am, cm, rfl⟩ := Kd.R_slice h3
  obtain ⟨Al, cl, rfl⟩ := Kd.R_slice h6
  exact ⟨Am, cm, Al, cl, mem, log, ⟨h1, h2, h3, h6⟩, h4, h5, h7, h8⟩
theorem BusX.below_ {w w' : World} {gb B : Nat} {vm vl : Value} {mem : List Int} {log : List S43} (h : BusX w gb B vm vl mem log) (hb : Below w.heap.size w w') : BusX w' gb B vm vl mem log :=
  ⟨blk_below h.1 hb, h.2.1, Kd.R_below h.2.2.1 hb, Kd.R_below h.2.2.2 hb⟩
theorem BusX.other {w w1 : World} {gb B g t : Nat} {vm vl : Value} {mem : List Int} {log : List S43} {cs : Array Value} (h : BusX w gb B vm vl mem log) (hc : w.heap[g]? = some (.cells cs t (0, 0))) (ht : t ≠ 112 ∧ t ≠ 5 ∧ t ≠ 43) (hk : ∀ k, k ≠ g → w1.heap[k]? = w.heap[k]?) : BusX w1 gb B vm vl mem log := by
  obtain ⟨h1, h2, h3, h6⟩ := h
  refine ⟨(hk gb ?_).trans h1, h2, ?_, ?_⟩
  · rintro rfl
    rw [h1] at hc
    injection hc with hc
    injection hc with _ hc
    exact ht.1 hc.symm
  · refine Kd.R_mono (Kd.R_step (Kd.R_types h3 hc ?_) (fun k ho _ => hk k ho.2)) (fun _ h => h.1)
    intro q hq
    have : q = 5 := by simpa [Kd.int, Kd.scalar] using hq
    rw [this]; exact ht.2.1.symm
  · refine Kd.R_mono (Kd.R_step (Kd.R_types h6 hc ?_) (fun k ho _ => hk k ho.2)) (fun _ h => h.1)
    intro q hq
    have : q = 43 := by simpa [k43, Kd.iso, Kd.pair, Kd.int, Kd.bool, Kd.scalar] using hq
    rw [this]; exact ht.2.2.symm
theorem ram_info : (Tryz.prog.info? 66).map (·.size) = some 1 := by kernel_rfl
section
variable {o : Oper} {a : Act} {w : World}
theorem r_runSt {x y : Operand} (ho : o.op = .store 66 x y) {g : Nat} {v u : Value} (hx : a.eval x = .pointer (some ⟨g, 0, none⟩)) (hy : a.eval y = .agg #[v]) (hv : v.oneCell' = true) (hb : w.heap[g]? = some (.cells #[u] 66 (0, 0))) :
    (execOp a.eval o).run Tryz.prog w = .ok .skip (w.setRow g #[v]) := by
  unfold execOp
  simp only [ho, hx, hy, Instr.storeAt, Instr.sureAddr, Sem.run_bind, Sem.run_pure, Result.andThen_ok, run_storeVar_row w g 66 66 #[u] #[v] hb ram_info rfl (by simpa using hv)]
theorem r_rowSt {g : Nat} {v u : Value} (hb : w.heap[g]? = some (.cells #[u] 66 (0, 0))) : (w.setRow g #[v]).heap[g]? = some (.cells #[v] 66 (0, 0)) ∧ (∀ k, k ≠ g → (w.setRow g #[v]).heap[k]? = w.heap[k]?) ∧ (∀ B u, B ≤ g → Below B u w → Below B u (w.setRow g #[v])) :=
  ⟨setRow_heap w g #[u] #[v] 66 (0, 0) hb, fun k hk => setRow_other w g k _ hk, fun B a hB hb => ⟨hb.os, hb.tape, hb.output, by rw [setRow_size]; exact hb.size, fun k hk => by rw [setRow_other w g k _ (by omega)]; exact hb.block k hk⟩⟩
theorem r_stStep {Q : Exit → Act → World → Prop} {ops : Array Oper} {K : Act → World → Prop} {x y : Operand} (hw : Region.wanted o (yielded ops a.tmps) = true) (hN : o.dst = none) (ho : o.op = .store 66 x y) {g : Nat} {v u : Value} (hx : a.eval x = .pointer (some ⟨g, 0, none⟩)) (hy : a.eval y = .agg #[v]) (hv : v.oneCell' = true) (hb : w.heap[g]? = some (.cells #[u] 66 (0, 0)))
    (h : ∀ w1, w1.heap[g]? = some (.cells #[v] 66 (0, 0)) → (∀ k, k ≠ g → w1.heap[k]? = w.heap[k]?) → (∀ B u, B ≤ g → Below B u w → Below B u w1) → K a w1) : if Region.wanted o (yielded ops a.tmps) = true then Oper.wp Tryz.prog o a w K Q else K (a.put none undef) w :=
  skip_ hw hN (r_runSt ho hx hy hv hb) (h _ (r_rowSt hb).1 (r_rowSt hb).2.1 (r_rowSt hb).2.2)
end
def Stepped (w : World) (ln lo : Nat) (e : Ending) (w1 : World) : Prop := ∃ ds vm mem vl log, e = .returned (.tuple #[.agg ds, .agg #[vm], vl]) ∧ CC ds ∧ Kd.R (Kd.int .u8) 5 w1 w.heap.size (fun _ => True) vm mem ∧ mem.length = ln ∧ (∀ x, x ∈ mem → RB x) ∧
  Kd.R k43 43 w1 w.heap.size (fun _ => True) vl log ∧ (∀ c, c ∈ log → CB c) ∧ lo ≤ log.length ∧ log.length ≤ 20 ∧ Below w.heap.size w w1
theorem stepped_ret {fn : Func} {a : Act} {w w1 : World} {p q t : Tmp} {gr g5 gb ln lo : Nat} {vm vl : Value} {mem : List Int} {log : List S43} (hf : fn.results = [ResultVar.cell p 64, .cell q 66, .tmp t].toArray) (hp : a.tmps.getD p undef = .pointer (some ⟨gr, 0, none⟩)) (hq : a.tmps.getD q undef = .pointer (some ⟨g5, 0, none⟩)) (ht : a.tmps.getD t undef = vl) (hd : a.defers = [])
    (hb : CpuAt w1 gr) (hr : w1.heap[g5]? = some (.cells #[vm] 66 (0, 0))) (hx : BusX w1 gb w.heap.size vm vl mem log) (hm : mem.length = ln) (hmb : ∀ x, x ∈ mem → RB x) (hlb : ∀ c, c ∈ log → CB c) (hlo : lo ≤ log.length) (hhi : log.length ≤ 20) (hw : Below w.heap.size w w1) :
    bodyPost Tryz.prog fn (Stepped w ln lo) .ret a w1 := by
  obtain ⟨cs, hb, hc⟩ := hb
  refine bodyPost_ret (results_list hf (by simp) (.cell gr 64 cs (0, 0) _ hp hb Tryz.underlying64 rfl (by rw [hc.size]; exact cpu_info) (.cell g5 66 #[vm] (0, 0) _ hq hr Tryz.underlying66 rfl ram_info (.tmp .nil)))) hd ?_
  rw [ht]
  exact ⟨cs, vm, mem, vl, log, rfl, hc, hx.2.2.1, hm, hmb, hx.2.2.2, hlb, hlo, hhi, hw⟩
theorem row_other {w w1 : World} {B g t : Nat} {v : Value} {xs : List S43} {cs : Array Value} (h : Kd.R k43 43 w B (fun _ => True) v xs) (hc : w.heap[g]? = some (.cells cs t (0, 0))) (ht : t ≠ 43) (hk : ∀ k, k ≠ g → w1.heap[k]? = w.heap[k]?) : Kd.R k43 43 w1 B (fun _ => True) v xs := by
  refine Kd.R_mono (Kd.R_step (Kd.R_types h hc ?_) (fun k ho _ => hk k ho.2)) (fun _ h => h.1)
  intro q hq
  have : q = 43 := by simpa [k43, Kd.iso, Kd.pair, Kd.int, Kd.bool, Kd.scalar] using hq
  rw [this]; exact ht.symm
theorem stepped_row {fn : Func} {a : Act} {w w1 : World} {p q t : Tmp} {gr g5 ln lo : Nat} {vm vl : Value} {mem : List Int} {log : List S43} (hf : fn.results = [ResultVar.cell p 64, .cell q 66, .tmp t].toArray) (hp : a.tmps.getD p undef = .pointer (some ⟨gr, 0, none⟩)) (hq : a.tmps.getD q undef = .pointer (some ⟨g5, 0, none⟩)) (ht : a.tmps.getD t undef = vl) (hd : a.defers = [])
    (hb : CpuAt w1 gr) (hr : w1.heap[g5]? = some (.cells #[vm] 66 (0, 0))) (h3 : Kd.R (Kd.int .u8) 5 w1 w.heap.size (fun _ => True) vm mem) (h6 : Kd.R k43 43 w1 w.heap.size (fun _ => True) vl log) (hm : mem.length = ln) (hmb : ∀ x, x ∈ mem → RB x) (hlb : ∀ c, c ∈ log → CB c) (hlo : lo ≤ log.length) (hhi : log.length ≤ 20) (hw : Below w.heap.size w w1) :
    bodyPost Tryz.prog fn (Stepped w ln lo) .ret a w1 := by
  obtain ⟨cs, hb, hc⟩ := hb
  refine bodyPost_ret (results_list hf (by simp) (.cell gr 64 cs (0, 0) _ hp hb Tryz.underlying64 rfl (by rw [hc.size]; exact cpu_info) (.cell g5 66 #[vm] (0, 0) _ hq hr Tryz.underlying66 rfl ram_info (.tmp .nil)))) hd ?_
  rw [ht]
  exact ⟨cs, vm, mem, vl, log, rfl, hc, h3, hm, hmb, h6, hlb, hlo, hhi, hw⟩
end Go.Proofs.YtafkbhnhmhmjcaaGreatDoor.Weak
