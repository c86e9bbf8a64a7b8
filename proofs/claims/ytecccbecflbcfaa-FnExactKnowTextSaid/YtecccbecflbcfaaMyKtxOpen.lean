/- How the arguments of the laws' functions are opened: what lies in memory is a number, a bool, a struct or a row of them. -/
import Derived.Test.YtecccbecflbcfaaPKtxx0
import Derived.WalkKit
import Derived.ProofKit
import Derived.OpenShut
import Derived.Below
import Derived.ChangeArms
import Derived.WideShapes
import Derived.Deep.Slices
import Derived.DataReads
namespace Go.Proofs.Ytecccbecflbcfaa.PKtx
open Go.ChangeShapes Go.WideShapes Go.ChangeAt Go.RowKit Go.Deep Go.Proofs.YtecccbecflbcfaaW.PrintWords Go.Proofs.YtecccbecflbcfaaW.PrintLast
set_option linter.unusedVariables false
set_option linter.unusedSimpArgs false
theorem below_draws_ (B : Nat) (w : World) (n : Nat) : Below B w (w.drewN n) := ⟨rfl, rfl, rfl, Nat.le_refl _, fun _ _ => rfl⟩
theorem cells_Know : Try.prog.cellsOf 27 = 11 := by kernel_rfl
theorem cells_int : Try.prog.cellsOf 3 = 1 := by kernel_rfl
section
variable {H : Type} {enc : TypeId × Value → H} {w : World} {base : Nat} {spare : Nat → Bool} {held : Bool}
theorem open_row {α : Type} {d : Kd α} {Wf : α → Prop} {P : Program} {t e : TypeId} (ht : P.underlying t = some (.slice e)) (hC : P.cellsOf e = d.sz)
    (hE : ∀ {fuel : Nat} {cs : List Value} {x : DataW H × List MemPlace}, DataW.trod enc P w base spare held fuel e cs = some x → ∃ a, d.K w a cs ∧ Wf a) {fuel : Nat} {cs : List Value} {x : DataW H × List MemPlace}
    (h : DataW.trod enc P w base spare held fuel t cs = some x) : ∃ (A : Option Addr) (c : Nat) (l : List α), cs = [.slice A l.length c] ∧ (Kd.C d w A l.length l ∧ l.length ≤ c ∧ l.length ≤ maxLen ∧ ∀ x ∈ l, Wf x) := by
  rcases open_slice ht h with ⟨rfl, _⟩ | ⟨a, len, cap, m, n, D, Pl, rfl, _, hl, hm, hmm, _, hi⟩
  · exact ⟨none, 0, [], rfl, Kd.C_nil d w, Nat.le_refl _, by simp, fun x hx => by cases hx⟩
  · have hlm : len ≤ m := by rw [hmm]; split <;> omega
    have step : ∀ k, k ≤ len → ∃ l : List α, l.length = k ∧ (∀ j p, l[j]? = some p → Wf p ∧ ∃ c, c.length = d.sz ∧ d.K w p c ∧ ∀ i u, c[i]? = some u → w.cell? (a.add (j * d.sz + i)) = some u) := by
      intro k
      induction k with
      | zero => exact fun _ => ⟨[], rfl, fun j p hj => by simp at hj⟩
      | succ k ih =>
        intro hk
        obtain ⟨l, hl1, hl2⟩ := ih (by omega)
        obtain ⟨cs', hc, ht'⟩ := hi k (by omega)
        obtain ⟨p, hp, hw⟩ := hE ht'
        obtain ⟨_, hcl, hat⟩ := World.cells?_some hc
        refine ⟨l ++ [p], by simp [hl1], fun j q hj => ?_⟩
        rcases Nat.lt_or_ge j k with hjk | hjk
        · rw [List.getElem?_append_left (by omega)] at hj
          exact hl2 j q hj
        · have hjl : j < (l ++ [p]).length := (List.getElem?_eq_some_iff.1 hj).1
          obtain rfl : j = k := by simp [hl1] at hjl; omega
          rw [List.getElem?_append_right (by omega)] at hj
          simp [hl1] at hj
          subst hj
          refine ⟨hw, cs', hcl.trans hC, hp, fun i u hu => ?_⟩
          have hil : i < cs'.length := (List.getElem?_eq_some_iff.1 hu).1
          have h1 := hat i (by omega)
          rw [hC, Go.Deep.add_add] at h1
          rw [h1]; exact hu
    obtain ⟨l, hl1, hl2⟩ := step len (Nat.le_refl _)
    have hml : maxLen = 9223372036854775807 := rfl
    subst hl1
    refine ⟨some a, cap, l, rfl, ⟨rfl, by omega, fun _ => ⟨a, rfl, fun j p hj => (hl2 j p hj).2⟩⟩, hl, by omega, fun x hx => ?_⟩
    obtain ⟨j, hj⟩ := List.getElem?_of_mem hx
    exact (hl2 j x hj).1
set_option maxRecDepth 100000 in
set_option maxHeartbeats 1000000 in
theorem open_Know {fuel : Nat} {cs : List Value} {x : DataW H × List MemPlace} (h : DataW.trod enc Try.prog w base spare held fuel 27 cs = some x) :
    ∃ (a0 : Int) (a1 : Int) (a2 : Int) (a3 : Int) (a4 : Int) (a5 : Int) (a6 : Int) (a7 : Int) (a8 : Int) (a9 : Int) (a10 : Int), cs = [.int .i64 a0, .int .i64 a1, .int .i64 a2, .int .i64 a3, .int .i64 a4, .int .i64 a5, .int .i64 a6, .int .i64 a7, .int .i64 a8, .int .i64 a9, .int .i64 a10] ∧ (Lit.int .i64 a0).wf = true ∧ (Lit.int .i64 a1).wf = true ∧ (Lit.int .i64 a2).wf = true ∧ (Lit.int .i64 a3).wf = true ∧ (Lit.int .i64 a4).wf = true ∧ (Lit.int .i64 a5).wf = true ∧ (Lit.int .i64 a6).wf = true ∧ (Lit.int .i64 a7).wf = true ∧ (Lit.int .i64 a8).wf = true ∧ (Lit.int .i64 a9).wf = true ∧ (Lit.int .i64 a10).wf = true := by
  obtain ⟨xs, n, _, _, hlen, hsz, hf⟩ := DataW.trod_struct Try.underlying27 h
  rw [cells_Know] at hlen
  match cs, hlen with
  | [e0, e1, e2, e3, e4, e5, e6, e7, e8, e9, e10], _ =>
  match xs, hsz with
  | [y0, y1, y2, y3, y4, y5, y6, y7, y8, y9, y10], _ =>
  have h0 : DataW.trod enc Try.prog w base spare held n 3 [e0] = some y0 := by
    have := hf 0 _ rfl
    simpa [cells_int] using this
  obtain ⟨b0, q0, _, w0⟩ := DataW.trod_int Try.underlying3 h0
  have h1 : DataW.trod enc Try.prog w base spare held n 3 [e1] = some y1 := by
    have := hf 1 _ rfl
    simpa [cells_int] using this
  obtain ⟨b1, q1, _, w1⟩ := DataW.trod_int Try.underlying3 h1
  have h2 : DataW.trod enc Try.prog w base spare held n 3 [e2] = some y2 := by
    have := hf 2 _ rfl
    simpa [cells_int] using this
  obtain ⟨b2, q2, _, w2⟩ := DataW.trod_int Try.underlying3 h2
  have h3 : DataW.trod enc Try.prog w base spare held n 3 [e3] = some y3 := by
    have := hf 3 _ rfl
    simpa [cells_int] using this
  obtain ⟨b3, q3, _, w3⟩ := DataW.trod_int Try.underlying3 h3
  have h4 : DataW.trod enc Try.prog w base spare held n 3 [e4] = some y4 := by
    have := hf 4 _ rfl
    simpa [cells_int] using this
  obtain ⟨b4, q4, _, w4⟩ := DataW.trod_int Try.underlying3 h4
  have h5 : DataW.trod enc Try.prog w base spare held n 3 [e5] = some y5 := by
    have := hf 5 _ rfl
    simpa [cells_int] using this
  obtain ⟨b5, q5, _, w5⟩ := DataW.trod_int Try.underlying3 h5
  have h6 : DataW.trod enc Try.prog w base spare held n 3 [e6] = some y6 := by
    have := hf 6 _ rfl
    simpa [cells_int] using this
  obtain ⟨b6, q6, _, w6⟩ := DataW.trod_int Try.underlying3 h6
  have h7 : DataW.trod enc Try.prog w base spare held n 3 [e7] = some y7 := by
    have := hf 7 _ rfl
    simpa [cells_int] using this
  obtain ⟨b7, q7, _, w7⟩ := DataW.trod_int Try.underlying3 h7
  have h8 : DataW.trod enc Try.prog w base spare held n 3 [e8] = some y8 := by
    have := hf 8 _ rfl
    simpa [cells_int] using this
  obtain ⟨b8, q8, _, w8⟩ := DataW.trod_int Try.underlying3 h8
  have h9 : DataW.trod enc Try.prog w base spare held n 3 [e9] = some y9 := by
    have := hf 9 _ rfl
    simpa [cells_int] using this
  obtain ⟨b9, q9, _, w9⟩ := DataW.trod_int Try.underlying3 h9
  have h10 : DataW.trod enc Try.prog w base spare held n 3 [e10] = some y10 := by
    have := hf 10 _ rfl
    simpa [cells_int] using this
  obtain ⟨b10, q10, _, w10⟩ := DataW.trod_int Try.underlying3 h10
  simp only [List.cons.injEq, and_true] at q0 q1 q2 q3 q4 q5 q6 q7 q8 q9 q10
  subst q0
  subst q1
  subst q2
  subst q3
  subst q4
  subst q5
  subst q6
  subst q7
  subst q8
  subst q9
  subst q10
  exact ⟨b0, b1, b2, b3, b4, b5, b6, b7, b8, b9, b10, rfl, w0, w1, w2, w3, w4, w5, w6, w7, w8, w9, w10⟩
end
end Go.Proofs.Ytecccbecflbcfaa.PKtx
