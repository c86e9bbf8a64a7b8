import Derived.StillTailTactics
import Derived.Handy
import Derived.Test.YtafkbhnhmhmjcaaSVPRunx0
import Derived.Test.YtafkbhnhmhmjcaaSVMyCpu
namespace Go.Proofs.Ytafkbhnhmhmjcaa.PRun
open Go.RowKit Go.Proofs.YtafkbhnhmhmjcaaW.PrintWords Go.Proofs.YtafkbhnhmhmjcaaW.PrintLast Go.Proofs.YtafkbhnhmhmjcaaW.PrintMore
attribute [local go_sem] max2_int min2_int max_two min_two max_three min_three max_four min_four   -- for this text's walks alone
attribute [local go_sem] Go.Proofs.Ytafkbhnhmhmjcaa.Cell2.cell_set_off Go.Proofs.Ytafkbhnhmhmjcaa.Cell2.set_drewN Go.Proofs.Ytafkbhnhmhmjcaa.Cell2.not_beq_bool
set_option linter.unusedVariables false
set_option linter.unusedSimpArgs false
def spec_l03Two.j0 : Nat → Int → Int → ByteArray → Bool → Option (ByteArray × Int)
  | 0, _, _, _, _ => none
  | k + 1, x0, x1, x5, x6 => if x1 = 0 then (if x0 = 5 then (some (x5, 2)) else (some ((⟨#[]⟩ : ByteArray), 0))) else (if x1 = 1 then (some (x5, 3)) else (if x1 = 2 then (if x0 < 4 then (some (x5, 1)) else ((some (([(⟨#[84, 88, 65]⟩ : ByteArray), (⟨#[84, 65, 88]⟩ : ByteArray), (⟨#[68, 69, 88]⟩ : ByteArray), (⟨#[78, 79, 80]⟩ : ByteArray)] : List ByteArray) : List ByteArray)).bind fun y214 => (if 0 ≤ (wrap64 (x0 - 4)) then (if (wrap64 (x0 - 4)) < (y214.length : Int) then (some (rdOf ByteArray.empty y214 (wrap64 (x0 - 4)), 0)) else (none)) else (none)))) else (if x1 = 3 then (some (x5, 6)) else (if x1 = 5 then (if x6 = true then (some (x5, 5)) else (some (x5, 4))) else (if x1 = 6 then (if x6 = true then ((some (([(⟨#[84, 88, 83]⟩ : ByteArray), (⟨#[84, 83, 88]⟩ : ByteArray)] : List ByteArray) : List ByteArray)).bind fun y218 => (if 0 ≤ (wrap64 (x0 - 4)) then (if (wrap64 (x0 - 4)) < (y218.length : Int) then (some (rdOf ByteArray.empty y218 (wrap64 (x0 - 4)), 0)) else (none)) else (none))) else (some ((⟨#[]⟩ : ByteArray), 0))) else (if x1 = 7 then (if x0 = 4 then (some ((⟨#[]⟩ : ByteArray), 0)) else (if x0 = 5 then (some (x5, 8)) else (some (x5, 7)))) else (some ((⟨#[]⟩ : ByteArray), 0))))))))
def spec_l03Two.f (k : Nat) (a0 : Int) (a1 : Int) : Option (ByteArray × Int) := (some (([(⟨#[65, 83, 76]⟩ : ByteArray), (⟨#[82, 79, 76]⟩ : ByteArray), (⟨#[76, 83, 82]⟩ : ByteArray), (⟨#[82, 79, 82]⟩ : ByteArray), (⟨#[83, 84, 88]⟩ : ByteArray), (⟨#[76, 68, 88]⟩ : ByteArray), (⟨#[68, 69, 67]⟩ : ByteArray), (⟨#[73, 78, 67]⟩ : ByteArray)] : List ByteArray) : List ByteArray)).bind fun y210 => (if 0 ≤ a0 then (if a0 < (y210.length : Int) then (if a0 = 4 then (spec_l03Two.j0 k a0 a1 (rdOf ByteArray.empty y210 a0) true) else (spec_l03Two.j0 k a0 a1 (rdOf ByteArray.empty y210 a0) (a0 == 5))) else (none)) else (none))
theorem spec_l03Two.mono_l : ∀ k, (∀ y0 y1 y2 y3, LeO (spec_l03Two.j0 k y0 y1 y2 y3) (spec_l03Two.j0 (k + 1) y0 y1 y2 y3))
  | 0 => fun _ _ _ _ r h => by simp [spec_l03Two.j0] at h
  | k + 1 => by
    have ih0 := spec_l03Two.mono_l k
    · intro y0 y1 y2 y3
      unfold spec_l03Two.j0
      repeat' first
      | (with_reducible exact ih0 _ _ _ _)
      | (with_reducible exact LeO.refl _)
      | (with_reducible exact LeO.none _)
      | (with_reducible refine LeO.ite ?_ ?_)
      | (with_reducible refine LeO.bind ?_ (fun _ => ?_))
      | exact ih0 _ _ _ _
      | exact LeO.none _
      | refine LeO.ite ?_ ?_
      | refine LeO.bind ?_ (fun _ => ?_)
theorem spec_l03Two.mono : ∀ a0 a1 k, LeO (spec_l03Two.f k a0 a1) (spec_l03Two.f (k + 1) a0 a1) := by
  intro a0 a1 k
  have ih0 := spec_l03Two.mono_l k
  unfold spec_l03Two.f
  repeat' first
      | (with_reducible exact ih0 _ _ _ _)
      | (with_reducible exact LeO.refl _)
      | (with_reducible exact LeO.none _)
      | (with_reducible refine LeO.ite ?_ ?_)
      | (with_reducible refine LeO.bind ?_ (fun _ => ?_))
      | exact ih0 _ _ _ _
      | exact LeO.none _
      | refine LeO.ite ?_ ?_
      | refine LeO.bind ?_ (fun _ => ?_)
set_option maxHeartbeats 8000000 in
set_option maxRecDepth 100000 in
theorem spec_l03Two.calls (k : Nat) (a0 : Int) (a1 : Int) (r1 : ByteArray) (r2 : Int) (w : World) (h : spec_l03Two.f k a0 a1 = some (r1, r2)) :
    Calls Try.prog 68 #[.int .i64 a0, .int .i64 a1] w fun e w' => e = .returned (.agg #[.string r1, .int .i64 r2]) ∧ Below w.heap.size w w' := by
  obtain ⟨h0, h7⟩ : 0 ≤ a0 ∧ a0 < 8 := by
    unfold spec_l03Two.f at h
    by_cases h0 : 0 ≤ a0
    · by_cases h7 : a0 < 8
      · exact ⟨h0, h7⟩
      · simp [h0, h7] at h
    · simp [h0] at h
  rcases (by omega : a0 = 0 ∨ a0 = 1 ∨ a0 = 2 ∨ a0 = 3 ∨ a0 = 4 ∨ a0 = 5 ∨ a0 = 6 ∨ a0 = 7) with rfl | rfl | rfl | rfl | rfl | rfl | rfl | rfl
  all_goals
    have H := Aside0.mk h
    clear h h0 h7
    go_enter Try.func68, Try.ntmps68
    go_wp2_with (((with_reducible refine Weak.gate_ret ?_); have h := H.out; rcases k with _ | k <;> simp [spec_l03Two.f, spec_l03Two.j0, rdOf, wrap64] at h; (try simp only [← @beq_iff_eq Int _ _ a1, *, if_true, if_false, Bool.false_eq_true, Option.some.injEq, Prod.mk.injEq] at h); obtain ⟨rfl, rfl⟩ := h; refine bodyPost_ret (by simp [results, Try.results68, go_sem]; try rfl) rfl ⟨rfl, ?_⟩; go_grown))
end Go.Proofs.Ytafkbhnhmhmjcaa.PRun
