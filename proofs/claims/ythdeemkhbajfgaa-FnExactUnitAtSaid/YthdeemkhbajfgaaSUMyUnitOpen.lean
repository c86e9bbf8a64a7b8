import Derived.Test.YthdeemkhbajfgaaSUPUnitx0
import Derived.WalkKit
import Derived.ProofKit
import Derived.OpenShut
import Derived.Below
import Derived.ChangeArms
import Derived.WideShapes
import Derived.Deep.Slices
import Derived.DataReads
namespace Go.Proofs.Ythdeemkhbajfgaa.PUnit
open Go.ChangeShapes Go.WideShapes Go.ChangeAt Go.RowKit Go.Deep Go.Proofs.YthdeemkhbajfgaaW.PrintWords Go.Proofs.YthdeemkhbajfgaaW.PrintLast
set_option linter.unusedVariables false
set_option linter.unusedSimpArgs false
theorem cells_Cpu : Try.prog.cellsOf 38 = 11 := by kernel_rfl
theorem cells_Cyc : Try.prog.cellsOf 102 = 3 := by kernel_rfl
theorem cells_Flags : Try.prog.cellsOf 36 = 6 := by kernel_rfl
theorem cells_Ram : Try.prog.cellsOf 24 = 1 := by kernel_rfl
theorem cells_Shot : Try.prog.cellsOf 49 = 16 := by kernel_rfl
theorem cells_sl_Cpu : Try.prog.cellsOf 47 = 1 := by kernel_rfl
theorem cells_sl_Cyc : Try.prog.cellsOf 45 = 1 := by kernel_rfl
theorem cells_sl_int : Try.prog.cellsOf 46 = 1 := by kernel_rfl
theorem cells_sl_uint8 : Try.prog.cellsOf 22 = 1 := by kernel_rfl
theorem cells_bool : Try.prog.cellsOf 4 = 1 := by kernel_rfl
theorem cells_int : Try.prog.cellsOf 3 = 1 := by kernel_rfl
theorem cells_uint16 : Try.prog.cellsOf 34 = 1 := by kernel_rfl
theorem cells_uint8 : Try.prog.cellsOf 5 = 1 := by kernel_rfl
section
variable {H : Type} {enc : TypeId × Value → H} {w : World} {base : Nat} {spare : Nat → Bool} {held : Bool}
theorem open_row {α : Type} {d : Kd α} {Wf : α → Prop} {P : Program} {t e : TypeId} (ht : P.underlying t = some (.slice e)) (hC : P.cellsOf e = d.sz)
    (hE : ∀ {fuel : Nat} {cs : List Value} {x : DataW H × List MemPlace}, DataW.trod enc P w base spare held fuel e cs = some x → ∃ a, d.K w a cs ∧ Wf a) {fuel : Nat} {cs : List Value} {x : DataW H × List MemPlace}
    (h : DataW.trod enc P w base spare held fuel t cs = some x) : ∃ (A : Option Addr) (c : Nat) (l : List α), cs = [.slice A l.length c] ∧ (Kd.C d w A l.length l ∧ l.length ≤ c ∧ l.length ≤ maxLen ∧ ∀ x ∈ l, Wf x) := by
  rcases open_slice ht h with ⟨rfl, _⟩ | ⟨a, len, cap, m, n, D, Pl, rfl, _, hl, hm, hmm, _, hi⟩
  · exact ⟨none, 0, [], rfl, Kd.C_nil d w, Nat.le_refl _, by simp, fun x hx => by cases hx⟩
  · have hlm : len ≤ m := by rw [hmm]; split <;> omega
    have step : ∀ k, k ≤ len → ∃ l : List α, l.length = k ∧ (∀ j p, l[j]? = some p → Wf p ∧ ∃ c, c.length = d.sz ∧ d.K w p c ∧ ∀ i u, c[i]? = some u → w.cell? (a.add (j * d.sz + i)) = some u) := by
      intro k
      induction k with
      | zero => exact fun _ => ⟨[], rfl, fun j p hj => by simp at hj⟩
      | succ k ih =>
        intro hk
        obtain ⟨l, hl1, hl2⟩ := ih (by omega)
        obtain ⟨cs', hc, ht'⟩ := hi k (by omega)
        obtain ⟨p, hp, hw⟩ := hE ht'
        obtain ⟨_, hcl, hat⟩ := World.cells?_some hc
        refine ⟨l ++ [p], by simp [hl1], fun j q hj => ?_⟩
        rcases Nat.lt_or_ge j k with hjk | hjk
        · rw [List.getElem?_append_left (by omega)] at hj
          exact hl2 j q hj
        · have hjl : j < (l ++ [p]).length := (List.getElem?_eq_some_iff.1 hj).1
          obtain rfl : j = k := by simp [hl1] at hjl; omega
          rw [List.getElem?_append_right (by omega)] at hj
          simp [hl1] at hj
          subst hj
          refine ⟨hw, cs', hcl.trans hC, hp, fun i u hu => ?_⟩
          have hil : i < cs'.length := (List.getElem?_eq_some_iff.1 hu).1
          have h1 := hat i (by omega)
          rw [hC, Go.Deep.add_add] at h1
          rw [h1]; exact hu
    obtain ⟨l, hl1, hl2⟩ := step len (Nat.le_refl _)
    have hml : maxLen = 9223372036854775807 := rfl
    subst hl1
    refine ⟨some a, cap, l, rfl, ⟨rfl, by omega, fun _ => ⟨a, rfl, fun j p hj => (hl2 j p hj).2⟩⟩, hl, by omega, fun x hx => ?_⟩
    obtain ⟨j, hj⟩ := List.getElem?_of_mem hx
    exact (hl2 j x hj).1
set_option maxRecDepth 100000 in
set_option maxHeartbeats 1000000 in
theorem open_Flags {fuel : Nat} {cs : List Value} {x : DataW H × List MemPlace} (h : DataW.trod enc Try.prog w base spare held fuel 36 cs = some x) :
    ∃ (a0 : Bool) (a1 : Bool) (a2 : Bool) (a3 : Bool) (a4 : Bool) (a5 : Bool), cs = [.bool a0, .bool a1, .bool a2, .bool a3, .bool a4, .bool a5] := by
  obtain ⟨xs, n, _, _, hlen, hsz, hf⟩ := DataW.trod_struct Try.underlying36 h
  rw [cells_Flags] at hlen
  match cs, hlen with
  | [e0, e1, e2, e3, e4, e5], _ =>
  match xs, hsz with
  | [y0, y1, y2, y3, y4, y5], _ =>
  have h0 : DataW.trod enc Try.prog w base spare held n 4 [e0] = some y0 := by
    have := hf 0 _ rfl
    simpa [cells_bool] using this
  obtain ⟨b0, q0, _⟩ := DataW.trod_bool Try.underlying4 h0
  have h1 : DataW.trod enc Try.prog w base spare held n 4 [e1] = some y1 := by
    have := hf 1 _ rfl
    simpa [cells_bool] using this
  obtain ⟨b1, q1, _⟩ := DataW.trod_bool Try.underlying4 h1
  have h2 : DataW.trod enc Try.prog w base spare held n 4 [e2] = some y2 := by
    have := hf 2 _ rfl
    simpa [cells_bool] using this
  obtain ⟨b2, q2, _⟩ := DataW.trod_bool Try.underlying4 h2
  have h3 : DataW.trod enc Try.prog w base spare held n 4 [e3] = some y3 := by
    have := hf 3 _ rfl
    simpa [cells_bool] using this
  obtain ⟨b3, q3, _⟩ := DataW.trod_bool Try.underlying4 h3
  have h4 : DataW.trod enc Try.prog w base spare held n 4 [e4] = some y4 := by
    have := hf 4 _ rfl
    simpa [cells_bool] using this
  obtain ⟨b4, q4, _⟩ := DataW.trod_bool Try.underlying4 h4
  have h5 : DataW.trod enc Try.prog w base spare held n 4 [e5] = some y5 := by
    have := hf 5 _ rfl
    simpa [cells_bool] using this
  obtain ⟨b5, q5, _⟩ := DataW.trod_bool Try.underlying4 h5
  simp only [List.cons.injEq, and_true] at q0 q1 q2 q3 q4 q5
  subst q0
  subst q1
  subst q2
  subst q3
  subst q4
  subst q5
  exact ⟨b0, b1, b2, b3, b4, b5, rfl⟩
set_option maxRecDepth 100000 in
set_option maxHeartbeats 1000000 in
theorem open_Cpu {fuel : Nat} {cs : List Value} {x : DataW H × List MemPlace} (h : DataW.trod enc Try.prog w base spare held fuel 38 cs = some x) :
    ∃ (a0 : Int) (a1 : Int) (a2 : Int) (a3 : Int) (a4 : Int) (a5 : Bool) (a6 : Bool) (a7 : Bool) (a8 : Bool) (a9 : Bool) (a10 : Bool), cs = [.int .u8 a0, .int .u8 a1, .int .u8 a2, .int .u8 a3, .int .u16 a4, .bool a5, .bool a6, .bool a7, .bool a8, .bool a9, .bool a10] ∧ (Lit.int .u8 a0).wf = true ∧ (Lit.int .u8 a1).wf = true ∧ (Lit.int .u8 a2).wf = true ∧ (Lit.int .u8 a3).wf = true ∧ (Lit.int .u16 a4).wf = true := by
  obtain ⟨xs, n, _, _, hlen, hsz, hf⟩ := DataW.trod_struct Try.underlying38 h
  rw [cells_Cpu] at hlen
  match cs, hlen with
  | [e0, e1, e2, e3, e4, e5, e6, e7, e8, e9, e10], _ =>
  match xs, hsz with
  | [y0, y1, y2, y3, y4, y5], _ =>
  have h0 : DataW.trod enc Try.prog w base spare held n 5 [e0] = some y0 := by
    have := hf 0 _ rfl
    simpa [cells_uint8] using this
  obtain ⟨b0, q0, _, w0⟩ := DataW.trod_int Try.underlying5 h0
  have h1 : DataW.trod enc Try.prog w base spare held n 5 [e1] = some y1 := by
    have := hf 1 _ rfl
    simpa [cells_uint8] using this
  obtain ⟨b1, q1, _, w1⟩ := DataW.trod_int Try.underlying5 h1
  have h2 : DataW.trod enc Try.prog w base spare held n 5 [e2] = some y2 := by
    have := hf 2 _ rfl
    simpa [cells_uint8] using this
  obtain ⟨b2, q2, _, w2⟩ := DataW.trod_int Try.underlying5 h2
  have h3 : DataW.trod enc Try.prog w base spare held n 5 [e3] = some y3 := by
    have := hf 3 _ rfl
    simpa [cells_uint8] using this
  obtain ⟨b3, q3, _, w3⟩ := DataW.trod_int Try.underlying5 h3
  have h4 : DataW.trod enc Try.prog w base spare held n 34 [e4] = some y4 := by
    have := hf 4 _ rfl
    simpa [cells_uint16] using this
  obtain ⟨b4, q4, _, w4⟩ := DataW.trod_int Try.underlying34 h4
  have h5 : DataW.trod enc Try.prog w base spare held n 36 [e5, e6, e7, e8, e9, e10] = some y5 := by
    have := hf 5 _ rfl
    simpa [cells_Flags] using this
  obtain ⟨b5, b6, b7, b8, b9, b10, q5⟩ := open_Flags h5
  simp only [List.cons.injEq, and_true] at q0 q1 q2 q3 q4 q5
  subst q0
  subst q1
  subst q2
  subst q3
  subst q4
  obtain ⟨rfl, rfl, rfl, rfl, rfl, rfl⟩ := q5
  exact ⟨b0, b1, b2, b3, b4, b5, b6, b7, b8, b9, b10, rfl, w0, w1, w2, w3, w4⟩
theorem el_uint8 {fuel : Nat} {cs : List Value} {x : DataW H × List MemPlace} (h : DataW.trod enc Try.prog w base spare held fuel 5 cs = some x) : ∃ a : Int, (Kd.int .u8).K w a cs ∧ (Lit.int .u8 a).wf = true := by
  obtain ⟨b, rfl, _, hb⟩ := DataW.trod_int Try.underlying5 h
  exact ⟨b, rfl, hb⟩
theorem open_sl_uint8 {fuel : Nat} {cs : List Value} {x : DataW H × List MemPlace} (h : DataW.trod enc Try.prog w base spare held fuel 22 cs = some x) :
    ∃ (A : Option Addr) (c : Nat) (l : List (Int)), cs = [.slice A l.length c] ∧ (Kd.C (Kd.int .u8) w A l.length l ∧ l.length ≤ c ∧ l.length ≤ maxLen ∧ ∀ x ∈ l, (Lit.int .u8 x).wf = true) :=
  open_row (Wf := fun x => (Lit.int .u8 x).wf = true) Try.underlying22 cells_uint8 (fun h => el_uint8 h) h
set_option maxRecDepth 100000 in
set_option maxHeartbeats 1000000 in
theorem open_Ram {fuel : Nat} {cs : List Value} {x : DataW H × List MemPlace} (h : DataW.trod enc Try.prog w base spare held fuel 24 cs = some x) :
    ∃ (A0 : Option Addr) (c0 : Nat) (l0 : List (Int)), cs = [.slice A0 l0.length c0] ∧ (Kd.C (Kd.int .u8) w A0 l0.length l0 ∧ l0.length ≤ c0 ∧ l0.length ≤ maxLen ∧ ∀ x ∈ l0, (Lit.int .u8 x).wf = true) := by
  obtain ⟨xs, n, _, _, hlen, hsz, hf⟩ := DataW.trod_struct Try.underlying24 h
  rw [cells_Ram] at hlen
  match cs, hlen with
  | [e0], _ =>
  match xs, hsz with
  | [y0], _ =>
  have h0 : DataW.trod enc Try.prog w base spare held n 22 [e0] = some y0 := by
    have := hf 0 _ rfl
    simpa [cells_sl_uint8] using this
  obtain ⟨bA0, bc0, b0, q0, w0⟩ := open_sl_uint8 h0
  simp only [List.cons.injEq, and_true] at q0
  subst q0
  exact ⟨bA0, bc0, b0, rfl, w0⟩
set_option maxRecDepth 100000 in
set_option maxHeartbeats 1000000 in
theorem open_Cyc {fuel : Nat} {cs : List Value} {x : DataW H × List MemPlace} (h : DataW.trod enc Try.prog w base spare held fuel 102 cs = some x) :
    ∃ (a0 : Int) (a1 : Int) (a2 : Bool), cs = [.int .u16 a0, .int .u8 a1, .bool a2] ∧ (Lit.int .u16 a0).wf = true ∧ (Lit.int .u8 a1).wf = true := by
  obtain ⟨xs, n, _, _, hlen, hsz, hf⟩ := DataW.trod_struct Try.underlying102 h
  rw [cells_Cyc] at hlen
  match cs, hlen with
  | [e0, e1, e2], _ =>
  match xs, hsz with
  | [y0, y1, y2], _ =>
  have h0 : DataW.trod enc Try.prog w base spare held n 34 [e0] = some y0 := by
    have := hf 0 _ rfl
    simpa [cells_uint16] using this
  obtain ⟨b0, q0, _, w0⟩ := DataW.trod_int Try.underlying34 h0
  have h1 : DataW.trod enc Try.prog w base spare held n 5 [e1] = some y1 := by
    have := hf 1 _ rfl
    simpa [cells_uint8] using this
  obtain ⟨b1, q1, _, w1⟩ := DataW.trod_int Try.underlying5 h1
  have h2 : DataW.trod enc Try.prog w base spare held n 4 [e2] = some y2 := by
    have := hf 2 _ rfl
    simpa [cells_bool] using this
  obtain ⟨b2, q2, _⟩ := DataW.trod_bool Try.underlying4 h2
  simp only [List.cons.injEq, and_true] at q0 q1 q2
  subst q0
  subst q1
  subst q2
  exact ⟨b0, b1, b2, rfl, w0, w1⟩
def Wf_Cyc (x : S102) : Prop := (Lit.int .u16 x.f0).wf = true ∧ (Lit.int .u8 x.f1).wf = true
theorem el_Cyc {fuel : Nat} {cs : List Value} {x : DataW H × List MemPlace} (h : DataW.trod enc Try.prog w base spare held fuel 102 cs = some x) : ∃ a : S102, k102.K w a cs ∧ Wf_Cyc a := by
  obtain ⟨a0, a1, a2, rfl, w0, w1⟩ := open_Cyc h
  exact ⟨⟨a0, a1, a2⟩, k102_mk w _, ⟨w0, w1⟩⟩
theorem open_sl_Cyc {fuel : Nat} {cs : List Value} {x : DataW H × List MemPlace} (h : DataW.trod enc Try.prog w base spare held fuel 45 cs = some x) :
    ∃ (A : Option Addr) (c : Nat) (l : List (S102)), cs = [.slice A l.length c] ∧ (Kd.C k102 w A l.length l ∧ l.length ≤ c ∧ l.length ≤ maxLen ∧ ∀ x ∈ l, Wf_Cyc x) :=
  open_row (Wf := fun x => Wf_Cyc x) Try.underlying45 cells_Cyc (fun h => el_Cyc h) h
theorem el_int {fuel : Nat} {cs : List Value} {x : DataW H × List MemPlace} (h : DataW.trod enc Try.prog w base spare held fuel 3 cs = some x) : ∃ a : Int, (Kd.int .i64).K w a cs ∧ (Lit.int .i64 a).wf = true := by
  obtain ⟨b, rfl, _, hb⟩ := DataW.trod_int Try.underlying3 h
  exact ⟨b, rfl, hb⟩
theorem open_sl_int {fuel : Nat} {cs : List Value} {x : DataW H × List MemPlace} (h : DataW.trod enc Try.prog w base spare held fuel 46 cs = some x) :
    ∃ (A : Option Addr) (c : Nat) (l : List (Int)), cs = [.slice A l.length c] ∧ (Kd.C (Kd.int .i64) w A l.length l ∧ l.length ≤ c ∧ l.length ≤ maxLen ∧ ∀ x ∈ l, (Lit.int .i64 x).wf = true) :=
  open_row (Wf := fun x => (Lit.int .i64 x).wf = true) Try.underlying46 cells_int (fun h => el_int h) h
def Wf_Cpu (x : S38) : Prop := (Lit.int .u8 x.f0).wf = true ∧ (Lit.int .u8 x.f1).wf = true ∧ (Lit.int .u8 x.f2).wf = true ∧ (Lit.int .u8 x.f3).wf = true ∧ (Lit.int .u16 x.f4).wf = true
theorem el_Cpu {fuel : Nat} {cs : List Value} {x : DataW H × List MemPlace} (h : DataW.trod enc Try.prog w base spare held fuel 38 cs = some x) : ∃ a : S38, k38.K w a cs ∧ Wf_Cpu a := by
  obtain ⟨a0, a1, a2, a3, a4, a5, a6, a7, a8, a9, a10, rfl, w0, w1, w2, w3, w4⟩ := open_Cpu h
  exact ⟨⟨a0, a1, a2, a3, a4, ⟨a5, a6, a7, a8, a9, a10⟩⟩, k38_mk w _, ⟨w0, w1, w2, w3, w4⟩⟩
theorem open_sl_Cpu {fuel : Nat} {cs : List Value} {x : DataW H × List MemPlace} (h : DataW.trod enc Try.prog w base spare held fuel 47 cs = some x) :
    ∃ (A : Option Addr) (c : Nat) (l : List (S38)), cs = [.slice A l.length c] ∧ (Kd.C k38 w A l.length l ∧ l.length ≤ c ∧ l.length ≤ maxLen ∧ ∀ x ∈ l, Wf_Cpu x) :=
  open_row (Wf := fun x => Wf_Cpu x) Try.underlying47 cells_Cpu (fun h => el_Cpu h) h
set_option maxRecDepth 100000 in
set_option maxHeartbeats 1000000 in
theorem open_Shot {fuel : Nat} {cs : List Value} {x : DataW H × List MemPlace} (h : DataW.trod enc Try.prog w base spare held fuel 49 cs = some x) :
    ∃ (a0 : Int) (a1 : Int) (a2 : Int) (a3 : Int) (a4 : Int) (a5 : Bool) (a6 : Bool) (a7 : Bool) (a8 : Bool) (a9 : Bool) (a10 : Bool) (A11 : Option Addr) (c11 : Nat) (l11 : List (Int)) (A12 : Option Addr) (c12 : Nat) (l12 : List (S102)) (A13 : Option Addr) (c13 : Nat) (l13 : List (Int)) (A14 : Option Addr) (c14 : Nat) (l14 : List (S38)) (a15 : Bool), cs = [.int .u8 a0, .int .u8 a1, .int .u8 a2, .int .u8 a3, .int .u16 a4, .bool a5, .bool a6, .bool a7, .bool a8, .bool a9, .bool a10, .slice A11 l11.length c11, .slice A12 l12.length c12, .slice A13 l13.length c13, .slice A14 l14.length c14, .bool a15] ∧ (Lit.int .u8 a0).wf = true ∧ (Lit.int .u8 a1).wf = true ∧ (Lit.int .u8 a2).wf = true ∧ (Lit.int .u8 a3).wf = true ∧ (Lit.int .u16 a4).wf = true ∧ (Kd.C (Kd.int .u8) w A11 l11.length l11 ∧ l11.length ≤ c11 ∧ l11.length ≤ maxLen ∧ ∀ x ∈ l11, (Lit.int .u8 x).wf = true) ∧ (Kd.C k102 w A12 l12.length l12 ∧ l12.length ≤ c12 ∧ l12.length ≤ maxLen ∧ ∀ x ∈ l12, Wf_Cyc x) ∧ (Kd.C (Kd.int .i64) w A13 l13.length l13 ∧ l13.length ≤ c13 ∧ l13.length ≤ maxLen ∧ ∀ x ∈ l13, (Lit.int .i64 x).wf = true) ∧ (Kd.C k38 w A14 l14.length l14 ∧ l14.length ≤ c14 ∧ l14.length ≤ maxLen ∧ ∀ x ∈ l14, Wf_Cpu x) := by
  obtain ⟨xs, n, _, _, hlen, hsz, hf⟩ := DataW.trod_struct Try.underlying49 h
  rw [cells_Shot] at hlen
  match cs, hlen with
  | [e0, e1, e2, e3, e4, e5, e6, e7, e8, e9, e10, e11, e12, e13, e14, e15], _ =>
  match xs, hsz with
  | [y0, y1, y2, y3, y4, y5], _ =>
  have h0 : DataW.trod enc Try.prog w base spare held n 38 [e0, e1, e2, e3, e4, e5, e6, e7, e8, e9, e10] = some y0 := by
    have := hf 0 _ rfl
    simpa [cells_Cpu] using this
  obtain ⟨b0, b1, b2, b3, b4, b5, b6, b7, b8, b9, b10, q0, w0, w1, w2, w3, w4⟩ := open_Cpu h0
  have h1 : DataW.trod enc Try.prog w base spare held n 24 [e11] = some y1 := by
    have := hf 1 _ rfl
    simpa [cells_Ram] using this
  obtain ⟨bA11, bc11, b11, q1, w11⟩ := open_Ram h1
  have h2 : DataW.trod enc Try.prog w base spare held n 45 [e12] = some y2 := by
    have := hf 2 _ rfl
    simpa [cells_sl_Cyc] using this
  obtain ⟨bA12, bc12, b12, q2, w12⟩ := open_sl_Cyc h2
  have h3 : DataW.trod enc Try.prog w base spare held n 46 [e13] = some y3 := by
    have := hf 3 _ rfl
    simpa [cells_sl_int] using this
  obtain ⟨bA13, bc13, b13, q3, w13⟩ := open_sl_int h3
  have h4 : DataW.trod enc Try.prog w base spare held n 47 [e14] = some y4 := by
    have := hf 4 _ rfl
    simpa [cells_sl_Cpu] using this
  obtain ⟨bA14, bc14, b14, q4, w14⟩ := open_sl_Cpu h4
  have h5 : DataW.trod enc Try.prog w base spare held n 4 [e15] = some y5 := by
    have := hf 5 _ rfl
    simpa [cells_bool] using this
  obtain ⟨b15, q5, _⟩ := DataW.trod_bool Try.underlying4 h5
  simp only [List.cons.injEq, and_true] at q0 q1 q2 q3 q4 q5
  obtain ⟨rfl, rfl, rfl, rfl, rfl, rfl, rfl, rfl, rfl, rfl, rfl⟩ := q0
  subst q1
  subst q2
  subst q3
  subst q4
  subst q5
  exact ⟨b0, b1, b2, b3, b4, b5, b6, b7, b8, b9, b10, bA11, bc11, b11, bA12, bc12, b12, bA13, bc13, b13, bA14, bc14, b14, b15, rfl, w0, w1, w2, w3, w4, w11, w12, w13, w14⟩
end
end Go.Proofs.Ythdeemkhbajfgaa.PUnit
