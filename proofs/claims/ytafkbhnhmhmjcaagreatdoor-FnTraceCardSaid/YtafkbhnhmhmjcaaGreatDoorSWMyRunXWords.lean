import Derived.Test.YtafkbhnhmhmjcaaGreatDoorSWPRunx0
import Derived.Test.YtafkbhnhmhmjcaaGreatDoorSWMyRunXIndexByte
set_option linter.unusedVariables false
namespace Go.Proofs.YtafkbhnhmhmjcaaGreatDoor.PRun
open Go.RowKit Go.Proofs.YtafkbhnhmhmjcaaGreatDoorW.PrintWords Go.Proofs.YtafkbhnhmhmjcaaGreatDoorW.PrintLast Go.Proofs.YtafkbhnhmhmjcaaGreatDoorW.PrintMore
def blankB (x : Nat) : Bool := x == 32 || x == 9
set_option maxHeartbeats 2000000 in
theorem words1_calls (x : Nat) (w : World) : Calls Tryz.prog 34 #[.int .i32 x] w fun e w' => e = .returned (.bool (blankB x)) ∧ w' = w := by
  by_cases h1 : x = 32
  · subst h1
    go_enter Tryz.func34, Tryz.ntmps34
    go_wp2
    go_ret
    exact ⟨by first | rfl | simp [blankB], rfl⟩
  · have c1 : ((x : Int) == 32) = false := beq_eq_false_iff_ne.mpr (by omega)
    by_cases h2 : x = 9
    · subst h2
      go_enter Tryz.func34, Tryz.ntmps34
      go_wp2
      go_ret
      exact ⟨by first | rfl | simp [blankB], rfl⟩
    · have c2 : ((x : Int) == 9) = false := beq_eq_false_iff_ne.mpr (by omega)
      have hb : blankB x = false := by simp [blankB, h1, h2]
      have HB := zA hb
      clear hb h1 h2
      go_enter Tryz.func34, Tryz.ntmps34
      go_wp2
      go_ret
      exact ⟨by rw [HB.out]; rfl, rfl⟩
def impl_Words.f (s : ByteArray) : Option (List ByteArray) := if s.size ≤ 4294967296 then some (Lib.goFieldsP blankB s) else none
set_option maxHeartbeats 2000000 in
theorem impl_Words.calls (s : ByteArray) (r : List ByteArray) (w : World) (h : impl_Words.f s = some r) : Calls Tryz.prog 20 #[.string s] w fun e w' => ∃ v0_ : Value, e = .returned (v0_) ∧ Kd.R Kd.string 9 w' w.heap.size (fun _ => True) v0_ r ∧ Below w.heap.size w w' := by
  unfold impl_Words.f at h
  by_cases hs : s.size ≤ 4294967296
  · rw [if_pos hs] at h
    obtain rfl := Option.some.inj h
    have eg : ∀ args w, (callFunc 34 args).run Tryz.prog w = .ok (.enter 34 args) w := enters_of Tryz.func34 (by kernel_rfl) rfl
    have hp : PredGrows Tryz.prog 34 #[] blankB w := fun W x _ _ => (words1_calls x W).mono fun e w' ⟨he, hw⟩ => ⟨he, hw ▸ Below.refl _ _⟩
    have HP := zA hp
    have EG := zA eg
    have HS := zA hs
    clear hp eg hs h
    go_enter Tryz.func20, Tryz.ntmps20
    go_wp2_with (fail)
    refine (Tryz.strings_FieldsFunc_grows 34 #[] EG.out blankB s w HS.out HP.out).mono ?_
    rintro e w1 ⟨A, rfl, hA, hown, hb⟩
    have HO := zA hown
    have HB := zA hb
    clear hown hb
    go_wp2
    go_ret
    exact ⟨_, rfl, Kd.R_of_own HO.out (fun _ _ => trivial), HB.out⟩
  · rw [if_neg hs] at h
    exact absurd h (by simp)
end Go.Proofs.YtafkbhnhmhmjcaaGreatDoor.PRun
