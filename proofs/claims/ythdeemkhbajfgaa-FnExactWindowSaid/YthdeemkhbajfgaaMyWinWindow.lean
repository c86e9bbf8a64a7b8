/- The contract of loop.example/g00693/impl.Window. -/
import Derived.Test.YthdeemkhbajfgaaPWinx0
import Derived.WalkSpells
set_option linter.unusedVariables false
namespace Go.Proofs.Ythdeemkhbajfgaa.PWin
open Go.RowKit Go.Proofs.YthdeemkhbajfgaaW.PrintWords Go.Proofs.YthdeemkhbajfgaaW.PrintLast Go.Proofs.YthdeemkhbajfgaaW.PrintMore
attribute [local go_sem] max2_int min2_int max_two min_two
/-- A part of a row is read where the row is. -/
theorem part_reads {w : World} {ad : Addr} {l : List S100} {a n : Nat} (h : Kd.C k100 w (some ad) l.length l) (hn : a + n ≤ l.length) : Kd.C k100 w (some (ad.add (a * 3))) n ((l.drop a).take n) := by
  obtain ⟨h1, h2, h3⟩ := h
  refine ⟨by simp; omega, by omega, fun hp => ⟨_, rfl, ?_⟩⟩
  intro j p hj
  obtain ⟨ad', e, hc⟩ := h3 (by omega)
  cases e
  have hjn : j < n := by
    have := (List.getElem?_eq_some_iff.1 hj).1
    simp at this; omega
  rw [List.getElem?_take_of_lt hjn, List.getElem?_drop] at hj
  obtain ⟨c, hc1, hc2, hc3⟩ := hc (a + j) p hj
  refine ⟨c, hc1, hc2, fun i u hu => ?_⟩
  rw [add_add]
  have := hc3 i u hu
  rw [show (a * 3 + (j * k100.sz + i)) = ((a + j) * k100.sz + i) by rw [show k100.sz = 3 from rfl, Nat.add_mul]; omega]
  exact this
set_option maxHeartbeats 2000000 in
set_option maxRecDepth 100000 in
theorem clone_calls (ad : Addr) (n c0 : Nat) (l0 : List S100) (w : World) (hr0 : Kd.C k100 w (some ad) n l0) (hb : n ≤ 8000000000) :
    Calls Try.prog 81 #[.slice (some ad) n c0] w fun e w' => ∃ v0_ : Value, e = .returned v0_ ∧ Kd.R k100 100 w' w.heap.size (fun _ => True) v0_ l0 ∧ Below w.heap.size w w' := by
  have HB := Aside0.mk (Below.refl w.heap.size w)
  have HR := Aside0.mk hr0
  have HL := Aside0.mk hb
  clear hr0 hb
  have heq : ∀ (w : World) (a : Option Addr) (n c n' c' : Nat), (binOp .eql 52 (.slice a n c) (.slice none n' c')).run Try.prog w = .ok (.bool a.isNone) w := fun w a n c n' c' => Lib.run_eql_slice_nil w _ _ a n c n' c' Try.underlying52
  go_enter Try.func81, Try.ntmps81
  go_wp2_with (first | ((with_reducible refine gate_dst (N := 5) rfl ?_); refine Kd.R_lit k100 _ 100 ?hg (N := 5) ?hd (xs := ([] : List (S100))) (inner := []) (ok := fun _ => True) (okp := fun _ => True) ?hr ?hp (fun _ hk => hk) trivial (Below.refl _ _) (Nat.le_refl _) (by simp) ?_; (case hd => rfl); (case hg => rfl); (case hr => first | (go_simp; done) | (go_simp; rfl)); (case hp => exact (Reps.none _ _)); intro v102 w4 ho5 hb hg_ hnew_; clear hg_ hnew_; have n0_ := Aside0.mk (Kd.R_lower ho5 (below_size (by repeat (first | (with_reducible first | exact HB.out | apply below_alloc | apply pw_below_drewN | apply below_drew1) | exact HB.out)))); have n1_ := Aside0.mk (below_step (by repeat (first | (with_reducible first | exact HB.out | apply below_alloc | apply pw_below_drewN | apply below_drew1) | exact HB.out)) hb); have n2_ := Aside0.mk (Kd.C_below HR.out (show Below w.heap.size w w4 from n1_.out)); clear HB HR; have HO := n0_; have HB := n1_; have HR := n2_; clear n0_ n1_ n2_; clear hb ho5) | ((with_reducible refine gate_dst (N := 7) rfl ?_); refine Kd.R_append_rows (Rr := fun x cs => k100.K w4 x cs) (w0 := w) k100 w.heap.size rfl _ _ 52 100 (.agg #[.int .u16 0, .int .u8 0, .bool false]) 4 rfl Try.underlying52 (by kernel_rfl) (by rfl) (by decide) (by decide) v102 [] l0 (some ad) n c0 (fun _ => True) (fun _ => False) rfl rfl HO.out HR.out (fun x cs hK => by rw [k100_open hK]; exact k100_mkM _ _ _ x) (fun _ hk => hk.elim) (fun _ _ => trivial) HB.out HB.out.size (by have := HL.out; simp; omega) ?_; intro v1 w1 HO1 HB1 _ _; have HO2 := Aside0.mk HO1; have HB2 := Aside0.mk HB1; clear HO1 HB1))
  try go_wp2
  go_ret
  exact ⟨_, rfl, by simpa using HO2.out, HB2.out⟩
def impl_Window.f (l : List S100) (x y : Int) : Option (List S100) := if mx 0 x ≥ mn y (l.length : Int) then some [] else if l.length ≤ 8000000000 then some ((l.drop (mx 0 x).toNat).take ((mn y (l.length : Int)) - mx 0 x).toNat) else none
set_option maxHeartbeats 2000000 in
set_option maxRecDepth 100000 in
theorem impl_Window.calls (A0 : Option Addr) (c0 : Nat) (l0 : List S100) (a1 a2 : Int) (r : List S100) (w : World) (hr0 : Kd.C k100 w A0 l0.length l0) (hc0 : l0.length ≤ c0) (h : impl_Window.f l0 a1 a2 = some r) :
    Calls Try.prog 34 #[.slice A0 l0.length c0, .int .i64 a1, .int .i64 a2] w fun e w' => ∃ v0_ : Value, e = .returned v0_ ∧ Kd.R k100 100 w' w.heap.size (fun _ => True) v0_ r ∧ Below w.heap.size w w' := by
  unfold impl_Window.f at h
  have mx1 : (if 0 < a1 then a1 else 0) = mx 0 a1 := rfl
  have mn1 : (if (l0.length : Int) < a2 then (l0.length : Int) else a2) = mn a2 (l0.length : Int) := rfl
  have n1 : 0 ≤ mx 0 a1 := by unfold mx; split <;> omega
  have n2 : mn a2 (l0.length : Int) ≤ (l0.length : Int) := by unfold mn; split <;> omega
  generalize mx 0 a1 = x at mx1 n1 h
  generalize mn a2 (l0.length : Int) = y at mn1 n2 h
  by_cases hxy : x ≥ y
  · rw [if_pos hxy] at h
    obtain rfl := Option.some.inj h
    have c1 : decide (y ≤ x) = true := decide_eq_true hxy
    clear h
    go_enter Try.func34, Try.ntmps34
    go_wp2
    go_ret
    exact ⟨_, rfl, Kd.R_nil _ _ _ _ _, Below.refl _ _⟩
  · rw [if_neg hxy] at h
    by_cases hl : l0.length ≤ 8000000000
    · rw [if_pos hl] at h
      obtain rfl := Option.some.inj h
      have c1 : decide (y ≤ x) = false := decide_eq_false hxy
      clear h
      obtain ⟨xn, rfl⟩ : ∃ xn : Nat, x = (xn : Int) := ⟨x.toNat, by omega⟩
      obtain ⟨yn, rfl⟩ : ∃ yn : Nat, y = (yn : Int) := ⟨y.toNat, by omega⟩
      have b1 : xn < yn := by omega
      have b2 : yn ≤ l0.length := by omega
      have b3 : yn ≤ c0 := by omega
      have b4 : xn ≠ c0 := by omega
      obtain ⟨ad, rfl⟩ : ∃ ad, A0 = some ad := by
        obtain ⟨_, _, h3⟩ := hr0
        obtain ⟨ad, e, _⟩ := h3 (by omega)
        exact ⟨ad, e⟩
      have HC := Aside0.mk (part_reads (a := xn) (n := yn - xn) hr0 (by omega))
      clear hr0 hxy
      go_enter Try.func34, Try.ntmps34
      go_wp2_with (fail)
      refine (clone_calls (ad.add (xn * 3)) (yn - xn) (c0 - xn) _ _ HC.out (by omega)).mono ?_
      rintro e w1 ⟨v0, rfl, HO, HB⟩
      have HO2 := Aside0.mk HO
      have HB2 := Aside0.mk HB
      clear HO HB
      go_wp2
      go_ret
      refine ⟨_, rfl, ?_, HB2.out⟩
      have e1 : ((xn : Int)).toNat = xn := by omega
      have e2 : ((yn : Int) - (xn : Int)).toNat = yn - xn := by omega
      rw [e1, e2]
      exact HO2.out
    · rw [if_neg hl] at h
      exact absurd h (by simp)
end Go.Proofs.Ythdeemkhbajfgaa.PWin
