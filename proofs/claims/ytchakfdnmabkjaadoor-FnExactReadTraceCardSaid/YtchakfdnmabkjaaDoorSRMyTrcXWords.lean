import Derived.Test.YtchakfdnmabkjaaDoorSRPTrcx0
import Derived.Test.YtchakfdnmabkjaaDoorSRMyShelf
set_option linter.unusedVariables false
namespace Go.Proofs.YtchakfdnmabkjaaDoor.PTrc
open Go.RowKit Go.Proofs.YtchakfdnmabkjaaDoorW.PrintWords Go.Proofs.YtchakfdnmabkjaaDoorW.PrintLast Go.Proofs.YtchakfdnmabkjaaDoorW.PrintMore
def blankB (x : Nat) : Bool := x == 32 || x == 9
set_option maxHeartbeats 2000000 in
theorem words1_calls (x : Nat) (w : World) : Calls Tryd.prog 45 #[.int .i32 x] w fun e w' => e = .returned (.bool (blankB x)) ∧ w' = w := by
  by_cases h1 : x = 32
  · subst h1
    go_enter Tryd.func45, Tryd.ntmps45
    go_wp2
    go_ret
    exact ⟨by first | rfl | simp [blankB], rfl⟩
  · have c1 : ((x : Int) == 32) = false := beq_eq_false_iff_ne.mpr (by omega)
    by_cases h2 : x = 9
    · subst h2
      go_enter Tryd.func45, Tryd.ntmps45
      go_wp2
      go_ret
      exact ⟨by first | rfl | simp [blankB], rfl⟩
    · have c2 : ((x : Int) == 9) = false := beq_eq_false_iff_ne.mpr (by omega)
      have hb : blankB x = false := by simp [blankB, h1, h2]
      have HB := Aside0.mk hb
      clear hb h1 h2
      go_enter Tryd.func45, Tryd.ntmps45
      go_wp2
      go_ret
      exact ⟨by rw [HB.out]; rfl, rfl⟩
def impl_Words.f (s : ByteArray) : Option (List ByteArray) := if s.size ≤ 4294967296 then some (Lib.goFieldsP blankB s) else none
set_option maxHeartbeats 2000000 in
theorem impl_Words.calls (s : ByteArray) (r : List ByteArray) (w : World) (h : impl_Words.f s = some r) : Calls Tryd.prog 24 #[.string s] w fun e w' => ∃ v0_ : Value, e = .returned (v0_) ∧ Kd.R Kd.string 9 w' w.heap.size (fun _ => True) v0_ r ∧ Below w.heap.size w w' := by
  unfold impl_Words.f at h
  by_cases hs : s.size ≤ 4294967296
  · rw [if_pos hs] at h
    obtain rfl := Option.some.inj h
    have eg : ∀ args w, (callFunc 45 args).run Tryd.prog w = .ok (.enter 45 args) w := enters_of Tryd.func45 (by kernel_rfl) rfl
    have hp : PredGrows Tryd.prog 45 #[] blankB w := fun W x _ _ => (words1_calls x W).mono fun e w' ⟨he, hw⟩ => ⟨he, hw ▸ Below.refl _ _⟩
    have HP := Aside0.mk hp
    have EG := Aside0.mk eg
    have HS := Aside0.mk hs
    clear hp eg hs h
    go_enter Tryd.func24, Tryd.ntmps24
    go_wp2_with (fail)
    refine (Tryd.strings_FieldsFunc_grows 45 #[] EG.out blankB s w HS.out HP.out).mono ?_
    rintro e w1 ⟨A, rfl, hA, hown, hb⟩
    have HO := Aside0.mk hown
    have HB := Aside0.mk hb
    clear hown hb
    go_wp2
    go_ret
    exact ⟨_, rfl, Kd.R_of_own HO.out (fun _ _ => trivial), HB.out⟩
  · rw [if_neg hs] at h
    exact absurd h (by simp)
end Go.Proofs.YtchakfdnmabkjaaDoor.PTrc
