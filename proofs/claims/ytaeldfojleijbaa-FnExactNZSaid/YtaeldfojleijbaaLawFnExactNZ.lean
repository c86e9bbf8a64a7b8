/- The law FnExactNZ holds: for every input its Go function returns true and leaves its arguments as they were. No condition. -/
import Derived.Test.YtaeldfojleijbaaRows
import Derived.Test.YtaeldfojleijbaaPFnExactNZx1
import Derived.Test.YtaeldfojleijbaaPureFnExactNZ
import Derived.WalkKit
import Derived.ProofKit
import Derived.OpenShut
import Derived.ShutString
import Derived.ChangeOld
import Derived.Below
import Derived.SizedLaws
import Derived.Carry
import Derived.ChangeArms
import Derived.WideShapes
namespace Go.Proofs.Ytaeldfojleijbaa.fnExactNZ
open Go.ChangeShapes Go.WideShapes Go.ChangeAt Go.RowKit
open Go.ChangeMaps (open_string shut_string)
set_option linter.unusedVariables false
set_option linter.unusedSimpArgs false
theorem own : ownKnob Try.prog.godebug = none := by kernel_rfl
theorem laidOut : laidOutB Try.prog = true := by kernel_rfl
theorem cells_Flags : Try.prog.cellsOf 28 = 6 := by kernel_rfl
theorem cells_bool : Try.prog.cellsOf 4 = 1 := by kernel_rfl
theorem below_draws_ (B : Nat) (w : World) (n : Nat) : Below B w (w.drewN n) := ⟨rfl, rfl, rfl, Nat.le_refl _, fun _ _ => rfl⟩
section
variable {H : Type} {enc : TypeId × Value → H} {w : World} {base : Nat} {spare : Nat → Bool} {held : Bool}
theorem open_Flags {fuel : Nat} {cs : List Value} {x : DataW H × List MemPlace} (h : DataW.trod enc Try.prog w base spare held fuel 28 cs = some x) :
    ∃ (a0 : Bool) (a1 : Bool) (a2 : Bool) (a3 : Bool) (a4 : Bool) (a5 : Bool), cs = [.bool a0, .bool a1, .bool a2, .bool a3, .bool a4, .bool a5] := by
  obtain ⟨xs, n, _, _, hlen, hsz, hf⟩ := DataW.trod_struct Try.underlying28 h
  rw [cells_Flags] at hlen
  match cs, hlen with
  | [c0, c1, c2, c3, c4, c5], _ =>
  match xs, hsz with
  | [y0, y1, y2, y3, y4, y5], _ =>
  have h0 : DataW.trod enc Try.prog w base spare held n 4 [c0] = some y0 := by
    have := hf 0 _ rfl
    simpa [cells_bool] using this
  obtain ⟨b0, e0, _⟩ := DataW.trod_bool Try.underlying4 h0
  have h1 : DataW.trod enc Try.prog w base spare held n 4 [c1] = some y1 := by
    have := hf 1 _ rfl
    simpa [cells_bool] using this
  obtain ⟨b1, e1, _⟩ := DataW.trod_bool Try.underlying4 h1
  have h2 : DataW.trod enc Try.prog w base spare held n 4 [c2] = some y2 := by
    have := hf 2 _ rfl
    simpa [cells_bool] using this
  obtain ⟨b2, e2, _⟩ := DataW.trod_bool Try.underlying4 h2
  have h3 : DataW.trod enc Try.prog w base spare held n 4 [c3] = some y3 := by
    have := hf 3 _ rfl
    simpa [cells_bool] using this
  obtain ⟨b3, e3, _⟩ := DataW.trod_bool Try.underlying4 h3
  have h4 : DataW.trod enc Try.prog w base spare held n 4 [c4] = some y4 := by
    have := hf 4 _ rfl
    simpa [cells_bool] using this
  obtain ⟨b4, e4, _⟩ := DataW.trod_bool Try.underlying4 h4
  have h5 : DataW.trod enc Try.prog w base spare held n 4 [c5] = some y5 := by
    have := hf 5 _ rfl
    simpa [cells_bool] using this
  obtain ⟨b5, e5, _⟩ := DataW.trod_bool Try.underlying4 h5
  simp only [List.cons.injEq, and_true] at e0 e1 e2 e3 e4 e5
  subst e0
  subst e1
  subst e2
  subst e3
  subst e4
  subst e5
  exact ⟨_, _, _, _, _, _, rfl⟩
end
set_option maxRecDepth 100000 in
set_option maxHeartbeats 1000000 in
theorem lifted (os : Os) (started : os.Started) (H : Type) (enc : TypeId × Value → H) :
    ReturnsInHanded {} Try.checked os 6 .any (Rows.fnExactNZSpec.pre6 enc Try.prog Try.f6 Rows.fnExactNZRow.domain false) (Rows.fnExactNZSpec.post enc Try.prog Try.f6 false true false false) := by
  refine returnsInHanded_of_change_sized (C := Try.checked) own started (by kernel_rfl) Try.func6
    (ChangeSpec.witness6 (enc := enc) (C := Try.checked) false ⟨#[], #[.int .u8 0, .agg #[.bool false, .bool false, .bool false, .bool false, .bool false, .bool false]], []⟩ 8 (by kernel_rfl) (by kernel_rfl) (by kernel_rfl) (by kernel_rfl)) ?_
  intro W base args ds gs before hval0 hW hcnd hsz0 _
  have hval : ∀ (j : Nat) t v, Try.f6.params[j]? = some t → args[j]? = some v → Value.okWide Try.prog W .any base t v := hval0
  have hW' := hW
  obtain ⟨p, q, hA0, hV, rfl, hfz, hnd⟩ := hW
  have hA : DataW.TrodAll enc Try.prog W 0 (fun _ => true) true Try.f6.params.toList args.toList ds p := hA0
  rw [Try.params6] at hA hval
  obtain ⟨v0, vs0, d0, ds0, p0, q0, hargs, rfl, rfl, h0, r0⟩ := trodAll_cons hA
  obtain ⟨v1, vs1, d1, ds1, p1, q1, rfl, rfl, rfl, h1, r1⟩ := trodAll_cons r0
  obtain ⟨rfl, rfl, rfl⟩ := trodAll_nil r1
  obtain rfl : args = #[v0, v1] := by cases args; simp_all
  obtain ⟨rfl, rfl⟩ := trodVars_none hV
  have hlt0 : ∀ x ∈ p0, x.block < W.heap.size := fun x hx => hW'.lt x (by simp [hx])
  have hk0 := h0
  obtain ⟨a0, rfl, rfl, rfl, w0⟩ := open_int Try.underlying5 (hval 0 5 v0 rfl rfl) h0
  have hlt1 : ∀ x ∈ p1, x.block < W.heap.size := fun x hx => hW'.lt x (by simp [hx])
  have hk1 := h1
  obtain ⟨cs1, rfl, _⟩ := okWide_struct Try.underlying28 (hval 1 28 v1 rfl rfl)
  obtain ⟨fuel1, hf1⟩ := h1
  obtain ⟨s1_0, s1_1, s1_2, s1_3, s1_4, s1_5, ec1⟩ := open_Flags hf1
  obtain rfl : cs1 = #[.bool s1_0, .bool s1_1, .bool s1_2, .bool s1_3, .bool s1_4, .bool s1_5] := by
    have e : cs1.toList = [.bool s1_0, .bool s1_1, .bool s1_2, .bool s1_3, .bool s1_4, .bool s1_5] := by simpa [Value.cells] using ec1
    exact Array.toList_inj.1 (by simpa using e)
  clear hA0 hval0 hsz0
  refine (PFnExactNZ.laws_FnExactNZ.calls a0 s1_0 s1_1 s1_2 s1_3 s1_4 s1_5 true W (Pure.FnExactNZ a0 s1_0 s1_1 s1_2 s1_3 s1_4 s1_5 w0)).mono fun e W' ⟨he, bel0⟩ => ?_
  have bel : Below W.heap.size W W' := by first | exact bel0 | (obtain ⟨nd, rfl⟩ := bel0; exact below_draws_ _ _ _)
  subst he
  exact ⟨_, rfl, _, _, _, [], _, [], hW', trodAll_mk1 (shut_bool Try.underlying4 _), (trodAll_cons_mk (Below.trod laidOut (by kernel_rfl) (of_decide_eq_true (by kernel_rfl)) hk0 bel hlt0) (trodAll_cons_mk (Below.trod laidOut (by kernel_rfl) (of_decide_eq_true (by kernel_rfl)) hk1 bel hlt1) trodAll_mk0)), rfl, bel.frame _, fun h => by cases h⟩
theorem over : Rows.fnExactNZRow.holds Try.pinned (OpenSpec.ofChange Rows.fnExactNZSpec) :=
  OpenClaim.holds_of_wide 6 Try.f6 rfl rfl rfl rfl rfl rfl rfl ⟨rfl, rfl, rfl, rfl, rfl⟩ rfl rfl rfl rfl rfl (by kernel_rfl) Try.func6 (by kernel_rfl)
    (of_decide_eq_true (by kernel_rfl)) (by unfold Func.isWrapper; first | (rw [if_pos (by decide +kernel)]; kernel_rfl) | (rw [if_neg (by decide +kernel)]; exact ⟨rfl, rfl⟩))
    (fun os started H enc _ => lifted os started H enc)
theorem proved : Rows.FnExactNZSaid := over
#print axioms proved
end Go.Proofs.Ytaeldfojleijbaa.fnExactNZ
namespace Go.Proofs.Ytaeldfojleijbaa
theorem fnExactNZ_holds : Rows.FnExactNZSaid := fnExactNZ.proved
end Go.Proofs.Ytaeldfojleijbaa
