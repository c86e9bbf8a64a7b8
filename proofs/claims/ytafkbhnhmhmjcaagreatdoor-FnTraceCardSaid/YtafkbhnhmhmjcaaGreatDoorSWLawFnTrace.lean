import Derived.Test.YtafkbhnhmhmjcaaGreatDoorRows
import Derived.WalkKit
import Derived.ProofKit
import Derived.OpenShut
import Derived.ShutString
import Derived.ChangeOld
import Derived.Below
import Derived.SizedLaws
import Derived.Carry
import Derived.ChangeArms
import Derived.WideShapes
import Derived.Test.YtafkbhnhmhmjcaaGreatDoorTie
import Derived.Test.YtafkbhnhmhmjcaaGreatDoorCards
import Derived.Lay
import Derived.SevenTiedAt
import Derived.MakeChecks
import Derived.Test.YtafkbhnhmhmjcaaGreatDoorSWMyRunOpen
import Derived.Test.YtafkbhnhmhmjcaaGreatDoorSWMyRunXLines
namespace Go.Proofs.YtafkbhnhmhmjcaaGreatDoor.fnTrace
open Go.ChangeShapes Go.WideShapes Go.ChangeAt Go.RowKit Go.Proofs.YtafkbhnhmhmjcaaGreatDoor.PRun Go.Proofs.YtafkbhnhmhmjcaaGreatDoorW.PrintWords
open Go.ChangeMaps (open_string shut_string)
set_option linter.unusedVariables false
set_option linter.unusedSimpArgs false
theorem own : ownKnob Tryz.prog.godebug = none := by kernel_rfl
theorem laidOut : laidOutB Tryz.prog = true := by kernel_rfl
theorem below_drawn {W w' : World} (h : Drawn0 W w') : Below W.heap.size W w' := by obtain ⟨nd, rfl⟩ := h; exact ⟨rfl, rfl, rfl, Nat.le_refl _, fun _ _ => rfl⟩
set_option maxRecDepth 100000 in
set_option maxHeartbeats 1000000 in
theorem lifted (os : Os) (started : os.Started) (H : Type) (enc : TypeId × Value → H) :
    ReturnsInHanded {} Tryz.checked os 3 .any (fun w args => (Rows.fnTraceSpec.pre enc Tryz.prog Tryz.f3 Rows.fnTraceRow.domain false w args ∧ laidMetH Tryz.prog Rows.fnTraceRow.laid w) ∧ sizedMet enc Tryz.prog Tryz.f3 (OpenSpec.ofChange Rows.fnTraceSpec) false w args) (Rows.fnTraceSpec.post enc Tryz.prog Tryz.f3 false true false false) := by
  refine Tabs.handed_shaped (C := Tryz.checked) (X := (fun w _ => laidMetH Tryz.prog Rows.fnTraceRow.laid w)) (fun _ _ _ hh h => h.of_heap hh) own started (by kernel_rfl) Tryz.func3
    (ChangeSpec.witness_shaped (enc := enc) (C := Tryz.checked) (os := os) (X := (fun w _ => laidMetH Tryz.prog Rows.fnTraceRow.laid w)) false (World.laidAll Tryz.prog os Rows.fnTraceRow.laid) #[.slice none 0 0] 8 (World.laidAll_os _ _ _)
      (World.shaped_of_ZipB (by kernel_rfl) (by kernel_rfl)) (by kernel_rfl) (by kernel_rfl) (by kernel_rfl)
      (by rw [MakeChecks.laidMetH_plain _ _ _ (by kernel_rfl)]; exact laidMet_laidAll _ (by kernel_rfl) (by kernel_rfl))) ?_
  intro W base args ds gs before hval0 hW hcnd hsz0 hL hsh _
  have hsz : (DataW.weightsEach Tryz.prog (Tryz.f3.params.toList ++ Rows.fnTraceSpec.plain.varTypes Tryz.prog) (ds ++ gs)).all (· ≤ reachBytes) = true := hsz0
  have hval : ∀ (j : Nat) t v, Tryz.f3.params[j]? = some t → args[j]? = some v → Value.okWide Tryz.prog W .any base t v := hval0
  rw [MakeChecks.laidMetH_plain _ _ _ (by kernel_rfl)] at hL
  have HM : Aside0 (Tabs.MaxL W) := ⟨Tabs.maxl_of_shape hsh⟩
  have hW' := hW
  obtain ⟨p, q, hA0, hV, rfl, hfz, hnd⟩ := hW
  have hA : DataW.TrodAll enc Tryz.prog W 0 (fun _ => true) true Tryz.f3.params.toList args.toList ds p := hA0
  rw [Tryz.params3] at hA hval hsz
  obtain ⟨v0, vs0, d0, ds0, p0, q0, hargs, rfl, rfl, h0, r0⟩ := trodAll_cons hA
  obtain ⟨rfl, rfl, rfl⟩ := trodAll_nil r0
  obtain rfl : args = #[v0] := by cases args; simp_all
  obtain ⟨rfl, rfl⟩ := trodVars_none hV
  have hlt0 : ∀ x ∈ p0, x.block < W.heap.size := fun x hx => hW'.lt x (by simp [hx])
  have hk0 := h0
  obtain ⟨b0_, len0, cap0, rfl⟩ := okWide_slice Tryz.underlying22 (hval 0 22 v0 rfl rfl)
  obtain ⟨fuel0, hf0⟩ := h0
  obtain ⟨A0_0, c0_0, l0_0, ec0, w0_0⟩ := open_sl_uint8 hf0
  simp [Value.cells] at ec0
  obtain ⟨rfl, rfl, rfl⟩ := ec0
  clear hA0 hval0 hsz0 hsz
  have hlaw : Calls Tryz.prog 3 #[.slice b0_ l0_0.length cap0] W fun e w1 => e = .returned (.bool true) ∧ Below W.heap.size W w1 := by
    by_cases hl : l0_0.length ≤ 1048576
    · exact Weak.FnTrace.small b0_ cap0 l0_0 W HM w0_0.1 w0_0.2.1 hl
    · exact Weak.FnTrace.big b0_ cap0 l0_0 W HM w0_0.1 w0_0.2.1 hl
  refine hlaw.mono fun e W' ⟨he, bel0⟩ => ?_
  have bel : Below W.heap.size W W' := by first | exact bel0 | exact below_drawn bel0
  subst he
  exact ⟨_, rfl, _, _, _, [], _, [], hW', trodAll_mk1 (shut_bool Tryz.underlying4 _), (trodAll_cons_mk (Below.trod laidOut (by kernel_rfl) (of_decide_eq_true (by kernel_rfl)) hk0 bel hlt0) trodAll_mk0), rfl, bel.frame _, fun h => by cases h⟩
theorem over : Rows.fnTraceRow.holds Tryz.pinned (OpenSpec.ofChange Rows.fnTraceSpec) :=
  OpenClaim.holds_of_wide 3 Tryz.f3 rfl rfl rfl rfl rfl rfl rfl ⟨rfl, rfl, rfl, rfl, rfl⟩ rfl rfl rfl rfl rfl (by kernel_rfl) Tryz.func3 (by kernel_rfl)
    (of_decide_eq_true (by kernel_rfl)) (by unfold Func.isWrapper; first | (rw [if_pos (by decide +kernel)]; kernel_rfl) | (rw [if_neg (by decide +kernel)]; exact ⟨rfl, rfl⟩))
    (fun os started H enc _ => lifted os started H enc)
theorem proved : Rows.FnTraceSaid := over
theorem card : Rows.FnTraceCardSaid :=
  Claim7.holds_tied_plain_at .later [] [.data, .pinned] true (true, "236ddfda1822392aa409e5dbabb3dbad517aba789fc62d24da0d1dd169da681d") false over (fun _ h => by cases h) (by kernel_rfl) (fun _ h => by cases h) fnTrace_row_tie rfl ⟨rfl, rfl⟩ (by kernel_rfl) rfl
    (fun f fn hf hfn => by
      obtain rfl : f = 3 := Option.some.inj ((show Tryz.prog.funcNamed "loop.example/g00693/laws.FnTrace" = some 3 by kernel_rfl).symm.trans hf) |>.symm
      obtain rfl : fn = Tryz.f3 := (Option.some.inj (Tryz.func3.symm.trans hfn)).symm
      exact ⟨by kernel_rfl, fun j t ht => by
        rw [Tryz.params3] at ht
        have hm : t ∈ [22] := by simpa using Array.mem_of_getElem? ht
        have hall : ([22].all fun u => !Tryz.prog.wantsStandIn u) = true := by kernel_rfl
        exact (show Tryz.prog.wantsStandIn t = false by simpa using List.all_eq_true.1 hall t hm)⟩)
    (by kernel_rfl)
#print axioms card
end Go.Proofs.YtafkbhnhmhmjcaaGreatDoor.fnTrace
namespace Go.Proofs.YtafkbhnhmhmjcaaGreatDoor
theorem fnTrace_card : Rows.FnTraceCardSaid := fnTrace.card
end Go.Proofs.YtafkbhnhmhmjcaaGreatDoor
