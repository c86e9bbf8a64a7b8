import Derived.Handed
import Derived.ShapedOpen
import Derived.HandedShaped
import Derived.Test.YtafkbhnhmhmjcaaGreatDoorSWMyRunXIndexByte
import Derived.Lib.SplitLaws
import Derived.Test.YtafkbhnhmhmjcaaGreatDoorSWPRunx0
section
set_option linter.unusedVariables false
namespace Go.Proofs.YtafkbhnhmhmjcaaGreatDoor.Tabs
open Go.RowKit
def MaxL (w : World) : Prop := ∃ m, w.cell? ⟨0, 0, none⟩ = some (.int .i64 m)
theorem MaxL.on {w w' : World} (h : MaxL w) (hb : Below w.heap.size w w') : MaxL w' := by
  obtain ⟨m, h0⟩ := h
  exact ⟨m, (hb.cell (World.block_lt_of_cell? w _ h0)).trans h0⟩
theorem maxl_of_shape {w : World} (h : w.ShapedOpen Tryz.prog) : MaxL w := Tryz.laysM219.s1_3 w h
variable {H : Type} {enc : TypeId × Value → H}
theorem handed_shaped {a : Assume} {C : Checked} {os : Os} {f : FuncId} {fn : Func} {s : ChangeSpec} {conds : List PathCond} {apart fresh handsOn again : Bool} {X : World → Array Value → Prop}
    (hX : ∀ (w w' : World) (args : Array Value), w.heap = w'.heap → X w args → X w' args)
    (own : ownKnob C.prog.godebug = none) (started : os.Started) (noInit : C.prog.inits.idxOf? f = none) (hfn : C.prog.funcs[f]? = some fn)
    (witness : ∃ (w : World) (tape : Tape) (i : Input), w.os = os ∧ (w.forCall tape i).Shaped C.prog ∧ i.vars = [] ∧ Input.okWide C.prog (w.forCall tape i) .any w.heap.size f i ∧
      ((s.pre enc C.prog fn conds apart (w.forCall tape i).memory i.args ∧ X (w.forCall tape i).memory i.args) ∧ sizedMet enc C.prog fn (OpenSpec.ofChange s) apart (w.forCall tape i).memory i.args) ∧ a.holds C.prog (lone (Frame.enter C.prog f i.args .normal) [] (w.forCall tape i)))
    (contract : ∀ (W : World) (base : Nat) (args : Array Value) (ds gs : List (DataW H)) (before : List MemPlace),
      (∀ (j : Nat) t v, fn.params[j]? = some t → args[j]? = some v → Value.okWide C.prog W .any base t v) →
      DataW.Whole enc C.prog fn.params.toList s.vars apart W args.toList ds gs before →
      conds.all (PathCond.test C.prog ⟨fn.params.toList, ds, s.plain.varTypes C.prog, gs⟩) = true →
      (DataW.weightsEach C.prog (fn.params.toList ++ s.plain.varTypes C.prog) (ds ++ gs)).all (· ≤ reachBytes) = true → X W args → W.ShapedOpen C.prog →
      a.holds C.prog (lone (Frame.enter C.prog f args .normal) [] W) →
      Calls C.prog f args W fun e W' => ∃ v, e = .returned v ∧ s.post enc C.prog fn apart fresh handsOn again W args v W') :
    ReturnsInHanded a C os f .any (fun w args => (s.pre enc C.prog fn conds apart w args ∧ X w args) ∧ sizedMet enc C.prog fn (OpenSpec.ofChange s) apart w args) (s.post enc C.prog fn apart fresh handsOn again) := by
  refine returnsInHanded_of_calls own started noInit witness ?_
  rintro w tape i - hsh - ⟨-, -, -, fn2, hfn2, -, -, -, -, hval⟩ ⟨⟨⟨ds, gs, before, hw, hc⟩, hx⟩, hz⟩ hholds
  obtain rfl : fn2 = fn := Option.some.inj (hfn2.symm.trans hfn)
  have key := contract (w.forCall tape i) w.heap.size i.args ds gs before hval (hw.of_heap (w' := w.forCall tape i) (by rfl)) hc (hz.weights hw) (hX _ _ _ (by rfl) hx) hsh hholds
  refine key.mono ?_
  rintro e W' ⟨v, rfl, hp⟩
  exact ChangeSpec.post_blind hp
end Go.Proofs.YtafkbhnhmhmjcaaGreatDoor.Tabs
end
section
set_option linter.unusedVariables false
namespace Go.Proofs.YtafkbhnhmhmjcaaGreatDoor.PRun
open Go.RowKit Go.Proofs.YtafkbhnhmhmjcaaGreatDoorW.PrintWords Go.Proofs.YtafkbhnhmhmjcaaGreatDoorW.PrintLast Go.Proofs.YtafkbhnhmhmjcaaGreatDoorW.PrintMore Go.Proofs.YtafkbhnhmhmjcaaGreatDoor.Tabs
def nlB : ByteArray := ⟨#[10]⟩
def pieces (s : ByteArray) : List ByteArray := Lib.splitB nlB 0 (Lib.countB s nlB) s
theorem pieces_length (s : ByteArray) : (pieces s).length = Lib.countB s nlB + 1 := Lib.splitB_all nlB (by decide) 0 _ s rfl
def linesOf (s : ByteArray) : List ByteArray := if (rdOf (⟨#[]⟩ : ByteArray) (pieces s) ((Lib.countB s nlB : Nat) : Int)).toList = [] then (pieces s).take (Lib.countB s nlB) else pieces s
def impl_Lines.f (s : ByteArray) : Option (List ByteArray) := if s.size ≤ 1048576 then some (linesOf s) else none
theorem heap_new (w : World) (o : Obj) : (w.alloc o).heap[w.heap.size]? = some o := by
  unfold World.alloc
  exact Array.getElem?_push_size
theorem row_pieces (w : World) (xs : List ByteArray) (hm : xs.length ≤ maxLen) : Kd.R Kd.string 9 (w.alloc (.cells (xs.map Value.string).toArray 9)) w.heap.size (fun _ => True) (.slice (some ⟨w.heap.size, 0, none⟩) xs.length xs.length) xs :=
  Kd.R_of_own ⟨by simp [encs], Or.inr ⟨w.heap.size, xs.length, (xs.map Value.string).toArray, rfl, Nat.le_refl _, (heap_new w _), Nat.le_refl _, hm, by simp, by simp [encs, List.take_of_length_le]⟩⟩ (fun _ _ => trivial)
set_option maxHeartbeats 4000000 in
set_option maxRecDepth 100000 in
theorem impl_Lines.calls (s : ByteArray) (r : List ByteArray) (w : World) (HM : Aside0 (MaxL w)) (h : impl_Lines.f s = some r) : Calls Tryz.prog 19 #[.string s] w fun e w' => ∃ v0_ : Value, e = .returned (v0_) ∧ Kd.R Kd.string 9 w' w.heap.size (fun _ => True) v0_ r ∧ Below w.heap.size w w' := by
  unfold impl_Lines.f at h
  by_cases hs : s.size ≤ 1048576
  rotate_left
  · rw [if_neg hs] at h
    exact absurd h (by simp)
  rw [if_pos hs] at h
  have HR := zA (Option.some.inj h)
  have HS := zA hs
  clear hs h
  obtain ⟨m, hm0⟩ := HM.out
  have HM0 := zA hm0
  clear hm0
  have hn := pieces_length s
  have hc := Lib.countB_le nlB (by decide) s.size s (Nat.le_refl _)
  unfold linesOf at HR
  obtain ⟨ps, hps⟩ : ∃ ps, pieces s = ps := ⟨_, rfl⟩
  obtain ⟨n, hnn⟩ : ∃ n, Lib.countB s nlB = n := ⟨_, rfl⟩
  rw [hps, hnn] at hn HR
  rw [hnn] at hc
  have HN := zA hn
  have HP := zA hps
  have HC := zA hnn
  have hle : n ≤ 1048576 := Nat.le_trans hc HS.out
  clear hn hps hnn hc
  go_enter Tryz.func19, Tryz.ntmps19
  go_wp2_with (fail)
  refine (Tryz.strings_Split s nlB m w (by have := HS.out; omega) HM0.out (by decide)).mono ?_
  rintro e w1 ⟨rfl, rfl⟩
  have hrow := row_pieces w ps (by rw [HN.out]; have : maxLen = 9223372036854775807 := rfl; omega)
  have e1 : Lib.splitB nlB 0 (Lib.countB s nlB) s = ps := HP.out
  rw [e1, HC.out]
  clear e1
  rw [HN.out] at hrow
  have HB := zA (below_alloc (Below.refl w.heap.size w) (.cells (ps.map Value.string).toArray 9))
  have hB : w.heap.size = w.heap.size := rfl
  generalize w.alloc (.cells (ps.map Value.string).toArray 9) = w1 at hrow HB ⊢
  have HO := zA hrow
  obtain ⟨hx0, hf0⟩ := Kd.R_celln (⟨#[]⟩ : ByteArray) hrow ((n : Nat) : Int) (by omega) (by omega)
  clear hrow hB
  have hx1 := hx0
  rw [Int.toNat_natCast] at hx1
  have hf1 := hf0
  rw [Int.toNat_natCast] at hf1
  have q1 : (0 ≤ ((n : Nat) : Int)) = True := eq_true (by omega)
  have q2 : (((n : Nat) : Int) < ((n + 1 : Nat) : Int)) = True := eq_true (by omega)
  have q3 : wrap64 (((n + 1 : Nat) : Int) - 1) = ((n : Nat) : Int) := by unfold wrap64; omega
  obtain ⟨x, hx⟩ : ∃ x, rdOf (⟨#[]⟩ : ByteArray) ps ((n : Nat) : Int) = x := ⟨_, rfl⟩
  rw [hx] at hx0 hx1 HR
  clear hx
  by_cases he : x.toList = []
  · have hr : r = ps.take n := by rw [← HR.out, if_pos he]
    have c1 : (x.toList == ([] : List UInt8)) = true := beq_iff_eq.mpr he
    have c2 : (x.toList).isEmpty = true := List.isEmpty_iff.mpr he
    clear he
    have HE := zA hr
    clear hr
    go_wp2_with (fail)
    go_ret
    exact ⟨_, rfl, by rw [HE.out]; exact Kd.R_take HO.out (by rw [HN.out]; omega), HB.out⟩
  · have hr : r = ps := by rw [← HR.out, if_neg he]
    have c1 : (x.toList == ([] : List UInt8)) = false := beq_eq_false_iff_ne.mpr he
    have c2 : (x.toList).isEmpty = false := Bool.eq_false_iff.mpr (fun h_ => he (List.isEmpty_iff.mp h_))
    clear he
    have HE := zA hr
    clear hr
    go_wp2_with (fail)
    go_ret
    exact ⟨_, rfl, by rw [HE.out]; exact HO.out, HB.out⟩
end Go.Proofs.YtafkbhnhmhmjcaaGreatDoor.PRun
end
