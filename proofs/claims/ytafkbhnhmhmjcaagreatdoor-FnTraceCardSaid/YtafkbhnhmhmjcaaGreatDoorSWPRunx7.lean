import Derived.StillTailTactics
import Derived.Handy
import Derived.Test.YtafkbhnhmhmjcaaGreatDoorSWPRunx0
import Derived.Test.YtafkbhnhmhmjcaaGreatDoorSWMyCpu
namespace Go.Proofs.YtafkbhnhmhmjcaaGreatDoor.PRun
open Go.RowKit Go.Proofs.YtafkbhnhmhmjcaaGreatDoorW.PrintWords Go.Proofs.YtafkbhnhmhmjcaaGreatDoorW.PrintLast Go.Proofs.YtafkbhnhmhmjcaaGreatDoorW.PrintMore
attribute [local go_sem] max2_int min2_int max_two min_two max_three min_three max_four min_four   -- for this text's walks alone
attribute [local go_sem] Go.Proofs.YtafkbhnhmhmjcaaGreatDoor.Cell2.cell_set_off Go.Proofs.YtafkbhnhmhmjcaaGreatDoor.Cell2.set_drewN Go.Proofs.YtafkbhnhmhmjcaaGreatDoor.Cell2.not_beq_bool
set_option linter.unusedVariables false
set_option linter.unusedSimpArgs false
def spec_l03Zero.f (a0 : Int) (a1 : Int) : Option (ByteArray × Int) := (some (([(⟨#[]⟩ : ByteArray), (⟨#[]⟩ : ByteArray), (⟨#[]⟩ : ByteArray), (⟨#[]⟩ : ByteArray), (⟨#[83, 84, 89]⟩ : ByteArray), (⟨#[76, 68, 89]⟩ : ByteArray), (⟨#[67, 80, 89]⟩ : ByteArray), (⟨#[67, 80, 88]⟩ : ByteArray)] : List ByteArray) : List ByteArray)).bind fun y168 => (if 0 ≤ a0 then (if a0 < (y168.length : Int) then (if a1 = 0 then ((some (([0, 6, 0, 0, 0, 2, 2, 2] : List Int) : List Int)).bind fun y172 => ((some (([(⟨#[66, 82, 75]⟩ : ByteArray), (⟨#[74, 83, 82]⟩ : ByteArray), (⟨#[82, 84, 73]⟩ : ByteArray), (⟨#[82, 84, 83]⟩ : ByteArray), (⟨#[]⟩ : ByteArray), (⟨#[76, 68, 89]⟩ : ByteArray), (⟨#[67, 80, 89]⟩ : ByteArray), (⟨#[67, 80, 88]⟩ : ByteArray)] : List ByteArray) : List ByteArray)).bind fun y175 => (if a0 < (y175.length : Int) then (if a0 < (y172.length : Int) then (some (rdOf ByteArray.empty y175 a0, rd y172 a0)) else (none)) else (none)))) else (if a1 = 1 then (if a0 = 1 then (some ((⟨#[66, 73, 84]⟩ : ByteArray), 3)) else (some (rdOf ByteArray.empty y168 a0, 3))) else (if a1 = 2 then ((some (([(⟨#[80, 72, 80]⟩ : ByteArray), (⟨#[80, 76, 80]⟩ : ByteArray), (⟨#[80, 72, 65]⟩ : ByteArray), (⟨#[80, 76, 65]⟩ : ByteArray), (⟨#[68, 69, 89]⟩ : ByteArray), (⟨#[84, 65, 89]⟩ : ByteArray), (⟨#[73, 78, 89]⟩ : ByteArray), (⟨#[73, 78, 88]⟩ : ByteArray)] : List ByteArray) : List ByteArray)).bind fun y180 => (if a0 < (y180.length : Int) then (some (rdOf ByteArray.empty y180 a0, 0)) else (none))) else (if a1 = 3 then (if a0 = 1 then (some ((⟨#[66, 73, 84]⟩ : ByteArray), 6)) else (if a0 = 2 then (some ((⟨#[74, 77, 80]⟩ : ByteArray), 6)) else (if a0 = 3 then (some ((⟨#[74, 77, 80]⟩ : ByteArray), 9)) else (some (rdOf ByteArray.empty y168 a0, 6))))) else (if a1 = 4 then ((some (([(⟨#[66, 80, 76]⟩ : ByteArray), (⟨#[66, 77, 73]⟩ : ByteArray), (⟨#[66, 86, 67]⟩ : ByteArray), (⟨#[66, 86, 83]⟩ : ByteArray), (⟨#[66, 67, 67]⟩ : ByteArray), (⟨#[66, 67, 83]⟩ : ByteArray), (⟨#[66, 78, 69]⟩ : ByteArray), (⟨#[66, 69, 81]⟩ : ByteArray)] : List ByteArray) : List ByteArray)).bind fun y184 => (if a0 < (y184.length : Int) then (some (rdOf ByteArray.empty y184 a0, 12)) else (none))) else (if a1 = 5 then (if a0 = 4 then (some (rdOf ByteArray.empty y168 a0, 4)) else (if a0 = 5 then (some (rdOf ByteArray.empty y168 a0, 4)) else (some ((⟨#[]⟩ : ByteArray), 0)))) else (if a1 = 6 then ((some (([(⟨#[67, 76, 67]⟩ : ByteArray), (⟨#[83, 69, 67]⟩ : ByteArray), (⟨#[67, 76, 73]⟩ : ByteArray), (⟨#[83, 69, 73]⟩ : ByteArray), (⟨#[84, 89, 65]⟩ : ByteArray), (⟨#[67, 76, 86]⟩ : ByteArray), (⟨#[67, 76, 68]⟩ : ByteArray), (⟨#[83, 69, 68]⟩ : ByteArray)] : List ByteArray) : List ByteArray)).bind fun y188 => (if a0 < (y188.length : Int) then (some (rdOf ByteArray.empty y188 a0, 0)) else (none))) else (if a1 = 7 then (if a0 = 5 then (some (rdOf ByteArray.empty y168 a0, 7)) else (some ((⟨#[]⟩ : ByteArray), 0))) else (some ((⟨#[]⟩ : ByteArray), 0)))))))))) else (none)) else (none))
def spec_l03Zero.T5 : Bool × List (List Nat × List Nat) := (true, [([], []), ([], []), ([0, 1], [0, 1]), ([2], [2]), ([], []), ([], []), ([4, 5], [4, 5]), ([6], [6]), ([3, 7], [3, 7]), ([8, 0, 1, 2, 3, 4, 5, 6, 7, 8], [8])])
def spec_l03Zero.B5 : List Nat := [0, 0, 3, 7, 0, 0, 48, 112, 255, 511]
theorem spec_l03Zero.tab5 : rtab .any (opsOf Tryz.f94 5) = spec_l03Zero.T5 := by kernel_rfl
theorem spec_l03Zero.bits5 : waitsOk spec_l03Zero.T5.2 spec_l03Zero.B5 = true := by kernel_rfl
set_option maxHeartbeats 8000000 in
set_option maxRecDepth 100000 in
theorem spec_l03Zero.calls (a0 : Int) (a1 : Int) (r1 : ByteArray) (r2 : Int) (w : World) (h : spec_l03Zero.f a0 a1 = some (r1, r2)) :
    Calls Tryz.prog 94 #[.int .i64 a0, .int .i64 a1] w fun e w' => e = .returned (.agg #[.string r1, .int .i64 r2]) ∧ Below w.heap.size w w' := by
  by_cases c5n : a1 = 0
  rotate_left
  · obtain ⟨h0, h7⟩ : 0 ≤ a0 ∧ a0 < 8 := by
      unfold spec_l03Zero.f at h
      by_cases h0 : 0 ≤ a0
      · by_cases h7 : a0 < 8
        · exact ⟨h0, h7⟩
        · simp [h0, h7] at h
      · simp [h0] at h
    rcases (by omega : a0 = 0 ∨ a0 = 1 ∨ a0 = 2 ∨ a0 = 3 ∨ a0 = 4 ∨ a0 = 5 ∨ a0 = 6 ∨ a0 = 7) with rfl | rfl | rfl | rfl | rfl | rfl | rfl | rfl
    all_goals
      have H := zA h
      have c5b0 : (a1 == 0) = false := beq_eq_false_iff_ne.mpr c5n
      clear h h0 h7
      go_enter Tryz.func94, Tryz.ntmps94
      go_wp2_with (((with_reducible refine Weak.gate_ret ?_); have h := H.out; simp [spec_l03Zero.f, rdOf, c5n] at h; (try simp only [← @beq_iff_eq Int _ _ a1, *, if_true, if_false, Bool.false_eq_true, Option.some.injEq, Prod.mk.injEq] at h); obtain ⟨rfl, rfl⟩ := h; refine bodyPost_ret (by simp [results, Tryz.results94, go_sem]; try rfl) rfl ⟨rfl, ?_⟩; go_grown))
  have hu130 := Tryz.underlying130
  have HB := zA (Below.refl w.heap.size w)
  have H : ((some (([(⟨#[]⟩ : ByteArray), (⟨#[]⟩ : ByteArray), (⟨#[]⟩ : ByteArray), (⟨#[]⟩ : ByteArray), (⟨#[83, 84, 89]⟩ : ByteArray), (⟨#[76, 68, 89]⟩ : ByteArray), (⟨#[67, 80, 89]⟩ : ByteArray), (⟨#[67, 80, 88]⟩ : ByteArray)] : List ByteArray) : List ByteArray)).bind fun y168 => (if 0 ≤ a0 then (if a0 < (y168.length : Int) then (if a1 = 0 then ((some (([0, 6, 0, 0, 0, 2, 2, 2] : List Int) : List Int)).bind fun y172 => ((some (([(⟨#[66, 82, 75]⟩ : ByteArray), (⟨#[74, 83, 82]⟩ : ByteArray), (⟨#[82, 84, 73]⟩ : ByteArray), (⟨#[82, 84, 83]⟩ : ByteArray), (⟨#[]⟩ : ByteArray), (⟨#[76, 68, 89]⟩ : ByteArray), (⟨#[67, 80, 89]⟩ : ByteArray), (⟨#[67, 80, 88]⟩ : ByteArray)] : List ByteArray) : List ByteArray)).bind fun y175 => (if a0 < (y175.length : Int) then (if a0 < (y172.length : Int) then (some (rdOf ByteArray.empty y175 a0, rd y172 a0)) else (none)) else (none)))) else (if a1 = 1 then (if a0 = 1 then (some ((⟨#[66, 73, 84]⟩ : ByteArray), 3)) else (some (rdOf ByteArray.empty y168 a0, 3))) else (if a1 = 2 then ((some (([(⟨#[80, 72, 80]⟩ : ByteArray), (⟨#[80, 76, 80]⟩ : ByteArray), (⟨#[80, 72, 65]⟩ : ByteArray), (⟨#[80, 76, 65]⟩ : ByteArray), (⟨#[68, 69, 89]⟩ : ByteArray), (⟨#[84, 65, 89]⟩ : ByteArray), (⟨#[73, 78, 89]⟩ : ByteArray), (⟨#[73, 78, 88]⟩ : ByteArray)] : List ByteArray) : List ByteArray)).bind fun y180 => (if a0 < (y180.length : Int) then (some (rdOf ByteArray.empty y180 a0, 0)) else (none))) else (if a1 = 3 then (if a0 = 1 then (some ((⟨#[66, 73, 84]⟩ : ByteArray), 6)) else (if a0 = 2 then (some ((⟨#[74, 77, 80]⟩ : ByteArray), 6)) else (if a0 = 3 then (some ((⟨#[74, 77, 80]⟩ : ByteArray), 9)) else (some (rdOf ByteArray.empty y168 a0, 6))))) else (if a1 = 4 then ((some (([(⟨#[66, 80, 76]⟩ : ByteArray), (⟨#[66, 77, 73]⟩ : ByteArray), (⟨#[66, 86, 67]⟩ : ByteArray), (⟨#[66, 86, 83]⟩ : ByteArray), (⟨#[66, 67, 67]⟩ : ByteArray), (⟨#[66, 67, 83]⟩ : ByteArray), (⟨#[66, 78, 69]⟩ : ByteArray), (⟨#[66, 69, 81]⟩ : ByteArray)] : List ByteArray) : List ByteArray)).bind fun y184 => (if a0 < (y184.length : Int) then (some (rdOf ByteArray.empty y184 a0, 12)) else (none))) else (if a1 = 5 then (if a0 = 4 then (some (rdOf ByteArray.empty y168 a0, 4)) else (if a0 = 5 then (some (rdOf ByteArray.empty y168 a0, 4)) else (some ((⟨#[]⟩ : ByteArray), 0)))) else (if a1 = 6 then ((some (([(⟨#[67, 76, 67]⟩ : ByteArray), (⟨#[83, 69, 67]⟩ : ByteArray), (⟨#[67, 76, 73]⟩ : ByteArray), (⟨#[83, 69, 73]⟩ : ByteArray), (⟨#[84, 89, 65]⟩ : ByteArray), (⟨#[67, 76, 86]⟩ : ByteArray), (⟨#[67, 76, 68]⟩ : ByteArray), (⟨#[83, 69, 68]⟩ : ByteArray)] : List ByteArray) : List ByteArray)).bind fun y188 => (if a0 < (y188.length : Int) then (some (rdOf ByteArray.empty y188 a0, 0)) else (none))) else (if a1 = 7 then (if a0 = 5 then (some (rdOf ByteArray.empty y168 a0, 7)) else (some ((⟨#[]⟩ : ByteArray), 0))) else (some ((⟨#[]⟩ : ByteArray), 0)))))))))) else (none)) else (none))) = some (r1, r2) := h
  clear h
  obtain ⟨y168, hy168⟩ : ∃ y_ : List ByteArray, y_ = (([(⟨#[]⟩ : ByteArray), (⟨#[]⟩ : ByteArray), (⟨#[]⟩ : ByteArray), (⟨#[]⟩ : ByteArray), (⟨#[83, 84, 89]⟩ : ByteArray), (⟨#[76, 68, 89]⟩ : ByteArray), (⟨#[67, 80, 89]⟩ : ByteArray), (⟨#[67, 80, 88]⟩ : ByteArray)] : List ByteArray)) := ⟨_, rfl⟩
  replace H : (if 0 ≤ a0 then (if a0 < (y168.length : Int) then (if a1 = 0 then ((some (([0, 6, 0, 0, 0, 2, 2, 2] : List Int) : List Int)).bind fun y172 => ((some (([(⟨#[66, 82, 75]⟩ : ByteArray), (⟨#[74, 83, 82]⟩ : ByteArray), (⟨#[82, 84, 73]⟩ : ByteArray), (⟨#[82, 84, 83]⟩ : ByteArray), (⟨#[]⟩ : ByteArray), (⟨#[76, 68, 89]⟩ : ByteArray), (⟨#[67, 80, 89]⟩ : ByteArray), (⟨#[67, 80, 88]⟩ : ByteArray)] : List ByteArray) : List ByteArray)).bind fun y175 => (if a0 < (y175.length : Int) then (if a0 < (y172.length : Int) then (some (rdOf ByteArray.empty y175 a0, rd y172 a0)) else (none)) else (none)))) else (if a1 = 1 then (if a0 = 1 then (some ((⟨#[66, 73, 84]⟩ : ByteArray), 3)) else (some (rdOf ByteArray.empty y168 a0, 3))) else (if a1 = 2 then ((some (([(⟨#[80, 72, 80]⟩ : ByteArray), (⟨#[80, 76, 80]⟩ : ByteArray), (⟨#[80, 72, 65]⟩ : ByteArray), (⟨#[80, 76, 65]⟩ : ByteArray), (⟨#[68, 69, 89]⟩ : ByteArray), (⟨#[84, 65, 89]⟩ : ByteArray), (⟨#[73, 78, 89]⟩ : ByteArray), (⟨#[73, 78, 88]⟩ : ByteArray)] : List ByteArray) : List ByteArray)).bind fun y180 => (if a0 < (y180.length : Int) then (some (rdOf ByteArray.empty y180 a0, 0)) else (none))) else (if a1 = 3 then (if a0 = 1 then (some ((⟨#[66, 73, 84]⟩ : ByteArray), 6)) else (if a0 = 2 then (some ((⟨#[74, 77, 80]⟩ : ByteArray), 6)) else (if a0 = 3 then (some ((⟨#[74, 77, 80]⟩ : ByteArray), 9)) else (some (rdOf ByteArray.empty y168 a0, 6))))) else (if a1 = 4 then ((some (([(⟨#[66, 80, 76]⟩ : ByteArray), (⟨#[66, 77, 73]⟩ : ByteArray), (⟨#[66, 86, 67]⟩ : ByteArray), (⟨#[66, 86, 83]⟩ : ByteArray), (⟨#[66, 67, 67]⟩ : ByteArray), (⟨#[66, 67, 83]⟩ : ByteArray), (⟨#[66, 78, 69]⟩ : ByteArray), (⟨#[66, 69, 81]⟩ : ByteArray)] : List ByteArray) : List ByteArray)).bind fun y184 => (if a0 < (y184.length : Int) then (some (rdOf ByteArray.empty y184 a0, 12)) else (none))) else (if a1 = 5 then (if a0 = 4 then (some (rdOf ByteArray.empty y168 a0, 4)) else (if a0 = 5 then (some (rdOf ByteArray.empty y168 a0, 4)) else (some ((⟨#[]⟩ : ByteArray), 0)))) else (if a1 = 6 then ((some (([(⟨#[67, 76, 67]⟩ : ByteArray), (⟨#[83, 69, 67]⟩ : ByteArray), (⟨#[67, 76, 73]⟩ : ByteArray), (⟨#[83, 69, 73]⟩ : ByteArray), (⟨#[84, 89, 65]⟩ : ByteArray), (⟨#[67, 76, 86]⟩ : ByteArray), (⟨#[67, 76, 68]⟩ : ByteArray), (⟨#[83, 69, 68]⟩ : ByteArray)] : List ByteArray) : List ByteArray)).bind fun y188 => (if a0 < (y188.length : Int) then (some (rdOf ByteArray.empty y188 a0, 0)) else (none))) else (if a1 = 7 then (if a0 = 5 then (some (rdOf ByteArray.empty y168 a0, 7)) else (some ((⟨#[]⟩ : ByteArray), 0))) else (some ((⟨#[]⟩ : ByteArray), 0)))))))))) else (none)) else (none)) = some (r1, r2) := by first | (rw [hy168]; with_reducible exact H) | (have H2_ := (Option.bind_some _ _).symm.trans H; rw [hy168]; with_reducible exact H2_) | (have H2_ := (Option.bind_some _ _).symm.trans H; with_reducible exact H2_) | with_reducible exact H | (rw [hy168]; exact H) | exact H
  have Ny168 := zA hy168
  clear hy168
  by_cases c3 : 0 ≤ a0
  · rw [if_pos c3] at H
    have c3b0 : decide (0 ≤ a0) = true := decide_eq_true c3
    clear c3
    by_cases c4 : a0 < (y168.length : Int)
    · rw [if_pos c4] at H
      have c4b0 : decide (a0 < (y168.length : Int)) = true := decide_eq_true c4
      clear c4
      by_cases c5 : a1 = 0
      · rw [if_pos c5] at H
        have c5b0 : (a1 == 0) = true := beq_iff_eq.mpr c5
        have c5b1 : (a1 != 0) = false := bne_eq_false_iff_eq.mpr c5
        clear c5
        obtain ⟨y172, hy172⟩ : ∃ y_ : List Int, y_ = (([0, 6, 0, 0, 0, 2, 2, 2] : List Int)) := ⟨_, rfl⟩
        replace H : ((some (([(⟨#[66, 82, 75]⟩ : ByteArray), (⟨#[74, 83, 82]⟩ : ByteArray), (⟨#[82, 84, 73]⟩ : ByteArray), (⟨#[82, 84, 83]⟩ : ByteArray), (⟨#[]⟩ : ByteArray), (⟨#[76, 68, 89]⟩ : ByteArray), (⟨#[67, 80, 89]⟩ : ByteArray), (⟨#[67, 80, 88]⟩ : ByteArray)] : List ByteArray) : List ByteArray)).bind fun y175 => (if a0 < (y175.length : Int) then (if a0 < (y172.length : Int) then (some (rdOf ByteArray.empty y175 a0, rd y172 a0)) else (none)) else (none))) = some (r1, r2) := by first | (rw [hy172]; with_reducible exact H) | (have H2_ := (Option.bind_some _ _).symm.trans H; rw [hy172]; with_reducible exact H2_) | (have H2_ := (Option.bind_some _ _).symm.trans H; with_reducible exact H2_) | with_reducible exact H | (rw [hy172]; exact H) | exact H
        have Ny172 := zA hy172
        clear hy172
        obtain ⟨y175, hy175⟩ : ∃ y_ : List ByteArray, y_ = (([(⟨#[66, 82, 75]⟩ : ByteArray), (⟨#[74, 83, 82]⟩ : ByteArray), (⟨#[82, 84, 73]⟩ : ByteArray), (⟨#[82, 84, 83]⟩ : ByteArray), (⟨#[]⟩ : ByteArray), (⟨#[76, 68, 89]⟩ : ByteArray), (⟨#[67, 80, 89]⟩ : ByteArray), (⟨#[67, 80, 88]⟩ : ByteArray)] : List ByteArray)) := ⟨_, rfl⟩
        replace H : (if a0 < (y175.length : Int) then (if a0 < (y172.length : Int) then (some (rdOf ByteArray.empty y175 a0, rd y172 a0)) else (none)) else (none)) = some (r1, r2) := by first | (rw [hy175]; with_reducible exact H) | (have H2_ := (Option.bind_some _ _).symm.trans H; rw [hy175]; with_reducible exact H2_) | (have H2_ := (Option.bind_some _ _).symm.trans H; with_reducible exact H2_) | with_reducible exact H | (rw [hy175]; exact H) | exact H
        have Ny175 := zA hy175
        clear hy175
        by_cases c6 : a0 < (y175.length : Int)
        · rw [if_pos c6] at H
          have c6b0 : decide (a0 < (y175.length : Int)) = true := decide_eq_true c6
          clear c6
          by_cases c7 : a0 < (y172.length : Int)
          · rw [if_pos c7] at H
            have c7b0 : decide (a0 < (y172.length : Int)) = true := decide_eq_true c7
            clear c7
            simp only [Option.some.injEq, Prod.mk.injEq] at H
            obtain ⟨rfl, rfl⟩ := H
            go_enter Tryz.func94, Tryz.ntmps94
            try go_wp2_with (first | ((with_reducible refine gate_dst (N := 4) rfl ?_); refine box_event ?hg (N := 4) ?hd (cs := #[.string (⟨#[]⟩ : ByteArray), .int .i64 0]) (t := 130) ?hr ?_; (case hd => rfl); (case hg => rfl); (case hr => first | (go_simp; done) | (go_simp; rfl)); intro gb167 hg w8 hbox hb; have BK167 := zA (hbox); have GW167 := zA ((by rw [hg]; exact (below_size (by repeat (first | (with_reducible first | exact HB.out | apply below_alloc | apply pw_below_drewN | apply below_drew1) | exact HB.out))) : w.heap.size ≤ gb167)); have GE167 := zA ((by rw [hg]; exact (below_size (by repeat (first | (with_reducible first | exact HB.out | apply below_alloc | apply pw_below_drewN | apply below_drew1) | exact HB.out))) : w.heap.size ≤ gb167)); replace HB := zA (below_step (by repeat (first | (with_reducible first | exact HB.out | apply below_alloc | apply pw_below_drewN | apply below_drew1) | exact HB.out)) hb); clear hb hbox hg) | ((with_reducible refine gate_dst (N := 7) rfl ?_); refine Kd.R_lit Kd.string _ 9 ?hg (N := 7) ?hd (xs := ([(⟨#[]⟩ : ByteArray), (⟨#[]⟩ : ByteArray), (⟨#[]⟩ : ByteArray), (⟨#[]⟩ : ByteArray), (⟨#[83, 84, 89]⟩ : ByteArray), (⟨#[76, 68, 89]⟩ : ByteArray), (⟨#[67, 80, 89]⟩ : ByteArray), (⟨#[67, 80, 88]⟩ : ByteArray)] : List ByteArray)) (inner := [.string (⟨#[]⟩ : ByteArray), .string (⟨#[]⟩ : ByteArray), .string (⟨#[]⟩ : ByteArray), .string (⟨#[]⟩ : ByteArray), .string (⟨#[83, 84, 89]⟩ : ByteArray), .string (⟨#[76, 68, 89]⟩ : ByteArray), .string (⟨#[67, 80, 89]⟩ : ByteArray), .string (⟨#[67, 80, 88]⟩ : ByteArray)]) (ok := fun _ => True) (okp := fun _ => True) ?hr ?hp (fun _ hk => hk) trivial (Below.refl _ _) (Nat.le_refl _) (by simp) ?_; (case hd => rfl); (case hg => rfl); (case hr => first | (go_simp; done) | (go_simp; rfl)); (case hp => exact (Reps.one (show Kd.M Kd.string _ _ _ (⟨#[]⟩ : ByteArray) [.string (⟨#[]⟩ : ByteArray)] from rfl) (Reps.one (show Kd.M Kd.string _ _ _ (⟨#[]⟩ : ByteArray) [.string (⟨#[]⟩ : ByteArray)] from rfl) (Reps.one (show Kd.M Kd.string _ _ _ (⟨#[]⟩ : ByteArray) [.string (⟨#[]⟩ : ByteArray)] from rfl) (Reps.one (show Kd.M Kd.string _ _ _ (⟨#[]⟩ : ByteArray) [.string (⟨#[]⟩ : ByteArray)] from rfl) (Reps.one (show Kd.M Kd.string _ _ _ (⟨#[83, 84, 89]⟩ : ByteArray) [.string (⟨#[83, 84, 89]⟩ : ByteArray)] from rfl) (Reps.one (show Kd.M Kd.string _ _ _ (⟨#[76, 68, 89]⟩ : ByteArray) [.string (⟨#[76, 68, 89]⟩ : ByteArray)] from rfl) (Reps.one (show Kd.M Kd.string _ _ _ (⟨#[67, 80, 89]⟩ : ByteArray) [.string (⟨#[67, 80, 89]⟩ : ByteArray)] from rfl) (Reps.one (show Kd.M Kd.string _ _ _ (⟨#[67, 80, 88]⟩ : ByteArray) [.string (⟨#[67, 80, 88]⟩ : ByteArray)] from rfl) (Reps.none _ _)))))))))); intro v169 w9 ho10 hb hg_ hnew_; clear hg_ hnew_; (first | rw [← Ny168.out] at ho10 | (simp only [Int.reduceToNat] at ho10; rw [← Ny168.out] at ho10)); have HO170 := zA (Kd.R_lower ho10 (below_size (by repeat (first | (with_reducible first | exact HB.out | apply below_alloc | apply pw_below_drewN | apply below_drew1 | refine below_set ?_ GE167.out) | exact HB.out)))); replace BK167 := zA (blk_below (g := gb167) (o := .cells #[.string (⟨#[]⟩ : ByteArray), .int .i64 0] 130 (0, 0)) (by (with_reducible repeat (first | refine blk_drewN ?_ _ | refine blk_drew ?_ | refine blk_alloc ?_ _)); exact BK167.out) hb); replace HB := zA (below_step (by repeat (first | (with_reducible first | exact HB.out | apply below_alloc | apply pw_below_drewN | apply below_drew1 | refine below_set ?_ GE167.out) | exact HB.out)) hb); clear hb ho10; obtain ⟨Ao11, co11, eo11⟩ := Kd.R_slice HO170.out; subst eo11; have p171 : 0 ≤ (a0 : Int) := of_decide_eq_true (by first | (with_reducible assumption) | assumption); have q171 : a0 < (y168.length : Int) := of_decide_eq_true (by first | (with_reducible assumption) | assumption); obtain ⟨ad171, e171, hx171_0⟩ := Kd.at_string (Kd.R_reads' HO170.out).2.2 a0 p171 q171; cases e171; replace p171 := eq_true p171; replace q171 := eq_true q171) | ((with_reducible refine gate_dst (N := 14) rfl ?_); refine Kd.R_lit (Kd.int .i64) _ 3 ?hg (N := 14) ?hd (xs := ([0, 6, 0, 0, 0, 2, 2, 2] : List Int)) (inner := [.int .i64 0, .int .i64 6, .int .i64 0, .int .i64 0, .int .i64 0, .int .i64 2, .int .i64 2, .int .i64 2]) (ok := fun _ => True) (okp := fun _ => True) ?hr ?hp (fun _ hk => hk) trivial (Below.refl _ _) (Nat.le_refl _) (by simp) ?_; (case hd => rfl); (case hg => rfl); (case hr => first | (go_simp; done) | (go_simp; rfl)); (case hp => exact (Reps.one (show Kd.M (Kd.int .i64) _ _ _ 0 [.int .i64 0] from rfl) (Reps.one (show Kd.M (Kd.int .i64) _ _ _ 6 [.int .i64 6] from rfl) (Reps.one (show Kd.M (Kd.int .i64) _ _ _ 0 [.int .i64 0] from rfl) (Reps.one (show Kd.M (Kd.int .i64) _ _ _ 0 [.int .i64 0] from rfl) (Reps.one (show Kd.M (Kd.int .i64) _ _ _ 0 [.int .i64 0] from rfl) (Reps.one (show Kd.M (Kd.int .i64) _ _ _ 2 [.int .i64 2] from rfl) (Reps.one (show Kd.M (Kd.int .i64) _ _ _ 2 [.int .i64 2] from rfl) (Reps.one (show Kd.M (Kd.int .i64) _ _ _ 2 [.int .i64 2] from rfl) (Reps.none _ _)))))))))); intro v173 w12 ho13 hb hg_ hnew_; clear hg_ hnew_; (first | rw [← Ny172.out] at ho13 | (simp only [Int.reduceToNat] at ho13; rw [← Ny172.out] at ho13)); replace HO170 := zA (Kd.R_below (by (with_reducible repeat (first | apply Kd.R_alloc | apply Kd.R_drewN | apply Kd.R_drew)); exact HO170.out) hb); have HO174 := zA (Kd.R_lower ho13 (below_size (by repeat (first | (with_reducible first | exact HB.out | apply below_alloc | apply pw_below_drewN | apply below_drew1 | refine below_set ?_ GE167.out) | exact HB.out)))); replace BK167 := zA (blk_below (g := gb167) (o := .cells #[.string (⟨#[]⟩ : ByteArray), .int .i64 0] 130 (0, 0)) (by (with_reducible repeat (first | refine blk_drewN ?_ _ | refine blk_drew ?_ | refine blk_alloc ?_ _)); exact BK167.out) hb); replace HB := zA (below_step (by repeat (first | (with_reducible first | exact HB.out | apply below_alloc | apply pw_below_drewN | apply below_drew1 | refine below_set ?_ GE167.out) | exact HB.out)) hb); clear hb ho13))
            have pi178 : (0 ≤ (a0 : Int)) = True := eq_true (of_decide_eq_true (by first | (with_reducible assumption) | assumption))
            have qi178 : (a0 < (y175.length : Int)) = True := eq_true (of_decide_eq_true (by first | (with_reducible assumption) | assumption))
            replace HO170 := zA (Kd.R_drew HO170.out)
            replace HO174 := zA (Kd.R_drew HO174.out)
            replace BK167 := zA (blk_drew BK167.out)
            replace HB := zA (below_drew1 HB.out)
            obtain ⟨Ao15, co15, eo15⟩ := Kd.R_slice HO174.out
            (first | subst eo15 | (injection eo15 with f1_ f2_ f3_; have f4_ := f1_.symm; have f5_ := f3_.symm; clear f1_ f2_ f3_; subst f4_; subst f5_))
            have p179 : 0 ≤ (a0 : Int) := of_decide_eq_true (by first | (with_reducible assumption) | assumption)
            have q179 : a0 < (y172.length : Int) := of_decide_eq_true (by first | (with_reducible assumption) | assumption)
            obtain ⟨ad179, e179, hx179_0⟩ := Kd.at_int (Kd.R_reads' HO174.out).2.2 a0 p179 q179
            cases e179
            replace p179 := eq_true p179
            replace q179 := eq_true q179
            refine start_ (n := 10) (S := fun w' => w'.cell? (ad179.add (a0).toNat) = some (.int .i64 (rd y172 a0))) (ds := []) #[false, false, false, false, false, false, false, false, false, false] (by kernel_rfl) rfl rfl (hx179_0) (fun hHeld => ?_); refine with_tabW spec_l03Zero.tab5 spec_l03Zero.bits5 (fun HT_ HW_ => ?_)
            generalize w12.drew = w14 at HO170 HO174 BK167 HB hx179_0 hHeld ⊢
            refine pure_ (i := 1) (N := some 16) (v := ?_) (a' := ?_) #[false, true, false, false, false, false, false, false, false, false] rfl rfl (any_of HT_.out (by kernel_rfl)) (fun _ _ _ h => h) (Or.inl ⟨by rfl, ?_⟩) ?_ ?_
            rotate_left
            · intro w'
              go_simp
              with_reducible rfl
            rotate_left
            · simp only [zP]
              rfl
            refine pure_ (i := 4) (N := some 19) (v := ?_) (a' := ?_) #[false, true, false, false, true, false, false, false, false, false] rfl rfl (any_of HT_.out (by kernel_rfl)) (fun _ _ _ h => h) (Or.inl ⟨by rfl, ?_⟩) ?_ ?_
            rotate_left
            · intro w'
              go_simp
              with_reducible rfl
            rotate_left
            · simp only [zP]
              rfl
            refine pure_ (i := 5) (N := some 20) (v := ?_) (a' := ?_) #[false, true, false, false, true, true, false, false, false, false] rfl rfl (any_of HT_.out (by kernel_rfl)) (fun _ _ _ h => h) (Or.inl ⟨by rfl, ?_⟩) ?_ ?_
            rotate_left
            · intro w'
              go_simp
              with_reducible rfl
            rotate_left
            · simp only [zP]
              rfl
            refine pure_ (i := 6) (N := some 21) (v := ?_) (a' := ?_) #[false, true, false, false, true, true, true, false, false, false] rfl rfl (any_of HT_.out (by kernel_rfl)) (fun _ _ _ h => h) (Or.inl ⟨by rfl, ?_⟩) ?_ ?_
            rotate_left
            · intro w'
              go_simp
              with_reducible rfl
            rotate_left
            · simp only [zP]
              rfl
            refine take_ (i := 7) (N := some 22) (v := ?_) (a' := ?_) #[false, true, false, false, true, true, true, true, false, false] rfl rfl (take_ofW HT_.out HW_.out (by kernel_rfl)) (fun _ _ _ h => h) (Or.inl ⟨by rfl, ?_⟩) hHeld ?_ ?_
            rotate_left
            · intro w' s0
              go_simp
              with_reducible rfl
            rotate_left
            · simp only [zP]
              rfl
            refine one_ (i := 0) (N := some 15) #[true, true, false, false, true, true, true, true, false, false] rfl rfl (one_of HT_.out (by kernel_rfl)) (by decide) (fun K hK => ?_)
            refine Kd.R_lit_step Kd.string _ 9 ?hg (N := 15) ?hd (xs := ([(⟨#[66, 82, 75]⟩ : ByteArray), (⟨#[74, 83, 82]⟩ : ByteArray), (⟨#[82, 84, 73]⟩ : ByteArray), (⟨#[82, 84, 83]⟩ : ByteArray), (⟨#[]⟩ : ByteArray), (⟨#[76, 68, 89]⟩ : ByteArray), (⟨#[67, 80, 89]⟩ : ByteArray), (⟨#[67, 80, 88]⟩ : ByteArray)] : List ByteArray)) (inner := [.string (⟨#[66, 82, 75]⟩ : ByteArray), .string (⟨#[74, 83, 82]⟩ : ByteArray), .string (⟨#[82, 84, 73]⟩ : ByteArray), .string (⟨#[82, 84, 83]⟩ : ByteArray), .string (⟨#[]⟩ : ByteArray), .string (⟨#[76, 68, 89]⟩ : ByteArray), .string (⟨#[67, 80, 89]⟩ : ByteArray), .string (⟨#[67, 80, 88]⟩ : ByteArray)]) (ok := fun _ => True) (okp := fun _ => True) ?hr ?hp (fun _ hk => hk) trivial (Below.refl _ _) (Nat.le_refl _) (by simp) ?_; (case hd => rfl); (case hg => rfl); (case hr => first | (go_simp; done) | (go_simp; rfl)); (case hp => exact (Reps.one (show Kd.M Kd.string _ _ _ (⟨#[66, 82, 75]⟩ : ByteArray) [.string (⟨#[66, 82, 75]⟩ : ByteArray)] from rfl) (Reps.one (show Kd.M Kd.string _ _ _ (⟨#[74, 83, 82]⟩ : ByteArray) [.string (⟨#[74, 83, 82]⟩ : ByteArray)] from rfl) (Reps.one (show Kd.M Kd.string _ _ _ (⟨#[82, 84, 73]⟩ : ByteArray) [.string (⟨#[82, 84, 73]⟩ : ByteArray)] from rfl) (Reps.one (show Kd.M Kd.string _ _ _ (⟨#[82, 84, 83]⟩ : ByteArray) [.string (⟨#[82, 84, 83]⟩ : ByteArray)] from rfl) (Reps.one (show Kd.M Kd.string _ _ _ (⟨#[]⟩ : ByteArray) [.string (⟨#[]⟩ : ByteArray)] from rfl) (Reps.one (show Kd.M Kd.string _ _ _ (⟨#[76, 68, 89]⟩ : ByteArray) [.string (⟨#[76, 68, 89]⟩ : ByteArray)] from rfl) (Reps.one (show Kd.M Kd.string _ _ _ (⟨#[67, 80, 89]⟩ : ByteArray) [.string (⟨#[67, 80, 89]⟩ : ByteArray)] from rfl) (Reps.one (show Kd.M Kd.string _ _ _ (⟨#[67, 80, 88]⟩ : ByteArray) [.string (⟨#[67, 80, 88]⟩ : ByteArray)] from rfl) (Reps.none _ _))))))))))
            intro v176 w16 ho17 hb hg_ hnew_
            have HS0_ := (hb.cell (World.block_lt_of_cell? _ _ (hHeld))).trans (hHeld)
            clear hg_ hnew_
            (first | rw [← Ny175.out] at ho17 | (simp only [Int.reduceToNat] at ho17; rw [← Ny175.out] at ho17))
            replace HO174 := zA (Kd.R_below (by (with_reducible repeat (first | apply Kd.R_alloc | apply Kd.R_drewN | apply Kd.R_drew)); exact HO174.out) hb)
            have HO177 := zA (Kd.R_lower (Kd.R_new' ho17 (Kd.R_lt (by (with_reducible repeat (first | apply Kd.R_alloc | apply Kd.R_drewN | apply Kd.R_drew)); exact HO170.out))) (below_size (by repeat (first | (with_reducible first | exact HB.out | apply below_alloc | apply pw_below_drewN | apply below_drew1 | refine below_set ?_ GE167.out) | exact HB.out))))
            replace HO170 := zA (Kd.R_elder' (by (with_reducible repeat (first | apply Kd.R_alloc | apply Kd.R_drewN | apply Kd.R_drew)); exact HO170.out) (Kd.R_base ho17) hb)
            replace BK167 := zA (blk_below (g := gb167) (o := .cells #[.string (⟨#[]⟩ : ByteArray), .int .i64 0] 130 (0, 0)) (by (with_reducible repeat (first | refine blk_drewN ?_ _ | refine blk_drew ?_ | refine blk_alloc ?_ _)); exact BK167.out) hb)
            replace HB := zA (below_step (by repeat (first | (with_reducible first | exact HB.out | apply below_alloc | apply pw_below_drewN | apply below_drew1 | refine below_set ?_ GE167.out) | exact HB.out)) hb)
            clear hb ho17
            obtain ⟨Ao18, co18, eo18⟩ := Kd.R_slice HO177.out
            subst eo18
            obtain ⟨ado18, fo18, _⟩ := Kd.at_string (Kd.R_reads' HO177.out).2.2 0 (by decide) (by rw [Ny175.out]; simp)
            cases fo18
            refine hK.out _ _ (HS0_) (fun hHeld => ?_)
            clear hK K
            refine norm_ (a' := ?_) ?_ ?_
            rotate_left
            · show Act.put _ (some 15) _ = _
              simp only [zP]
              rfl
            refine pure_ (i := 2) (N := some 17) (v := ?_) (a' := ?_) #[true, true, true, false, true, true, true, true, false, false] rfl rfl (any_of HT_.out (by kernel_rfl)) (fun _ _ _ h => h) (Or.inl ⟨by rfl, ?_⟩) ?_ ?_
            rotate_left
            · intro w'
              go_simp
              with_reducible rfl
            rotate_left
            · simp only [zP]
              rfl
            refine one_ (i := 3) (N := some 18) #[true, true, true, true, true, true, true, true, false, false] rfl rfl (one_of HT_.out (by kernel_rfl)) (by decide) (fun K hK => ?_)
            (have p178 : 0 ≤ (a0 : Int) := of_decide_eq_true (by first | (with_reducible assumption) | assumption); have q178 : a0 < (y175.length : Int) := of_decide_eq_true (by first | (with_reducible assumption) | assumption); obtain ⟨ad178, e178, hx178_0⟩ := Kd.at_string (Kd.R_reads' HO177.out).2.2 a0 p178 q178; obtain rfl : ado18 = ad178 := (by injection e178))
            refine value_ (w1 := ?_) (v := ?_) (by rfl) rfl ?_ ?_
            rotate_left 2
            · go_simp
              constructor
              · rfl
              · rfl
            clear hx178_0
            refine hK.out _ _ (hHeld) (fun hHeld => ?_)
            clear hK K
            refine norm_ (a' := ?_) ?_ ?_
            rotate_left
            · show Act.put _ (some 18) _ = _
              simp only [zP]
              rfl
            refine pure_ (i := 8) (N := some 23) (v := ?_) (a' := ?_) #[true, true, true, true, true, true, true, true, true, false] rfl rfl (any_of HT_.out (by kernel_rfl)) (fun _ _ _ h => h) (Or.inl ⟨by rfl, ?_⟩) ?_ ?_
            rotate_left
            · intro w'
              go_simp
              with_reducible rfl
            rotate_left
            · simp only [zP]
              rfl
            refine one_ (i := 9) (N := none) #[true, true, true, true, true, true, true, true, true, true] rfl rfl (one_of HT_.out (by kernel_rfl)) (by decide) (fun K hK => ?_)
            have hs19 : w16.cell? ⟨gb167, 0, none⟩ = some (.string (⟨#[]⟩ : ByteArray)) := (blk_cell BK167.out 0).trans rfl
            have hfs19 := blk_frozen BK167.out 0
            have hs20 : w16.cell? ⟨gb167, 1, none⟩ = some (.int .i64 0) := (blk_cell BK167.out 1).trans rfl
            have hfs20 := blk_frozen BK167.out 1
            refine skip_ (w1 := ?_) (by rfl) rfl ?_ ?_
            rotate_left
            · go_simp
              rfl
            refine hK.out _ _ (((cell_far (p := ⟨gb167, _, none⟩) (by first | exact Kd.own_blk (Kd.R_ne HO174.out BK167.out (by decide)) | (rw [add_block]; exact Kd.own_blk (Kd.R_ne HO174.out BK167.out (by decide))) | (show (Addr.add _ _).block ≠ _; rw [add_block]; exact Kd.own_blk (Kd.R_ne HO174.out BK167.out (by decide))) | (dsimp only; exact Kd.own_blk (Kd.R_ne HO174.out BK167.out (by decide)))) _).trans (((cell_far (p := ⟨gb167, _, none⟩) (by first | exact Kd.own_blk (Kd.R_ne HO174.out BK167.out (by decide)) | (rw [add_block]; exact Kd.own_blk (Kd.R_ne HO174.out BK167.out (by decide))) | (show (Addr.add _ _).block ≠ _; rw [add_block]; exact Kd.own_blk (Kd.R_ne HO174.out BK167.out (by decide))) | (dsimp only; exact Kd.own_blk (Kd.R_ne HO174.out BK167.out (by decide)))) _).trans (hHeld))))) (fun hHeld => ?_)
            clear hK K
            refine done_ (done_of HT_.out (by kernel_rfl)) ?_
            try go_wp2
            refine bodyPost_ret (results_cell_row rfl _ _ gb167 130 #[.string (rdOf ByteArray.empty y175 a0), .int .i64 (rd y172 a0)] (0, 0) _ rfl (by (with_reducible repeat (first | refine blk_drewN ?_ _ | refine blk_drew ?_ | refine blk_alloc ?_ _)); refine blk_put (cs := #[.string (rdOf ByteArray.empty y175 a0), .int .i64 0]) ?_ 1 _ rfl; (with_reducible repeat (first | refine blk_drewN ?_ _ | refine blk_drew ?_ | refine blk_alloc ?_ _)); refine blk_put (cs := #[.string (⟨#[]⟩ : ByteArray), .int .i64 0]) ?_ 0 _ rfl; (with_reducible repeat (first | refine blk_drewN ?_ _ | refine blk_drew ?_ | refine blk_alloc ?_ _)); exact BK167.out) Tryz.underlying130 rfl (by kernel_rfl)) rfl ?_
            exact ⟨by first | rfl | (simp [errW_none, errW_some] <;> rfl) | (simp [*, errW_none, errW_some] <;> rfl), by repeat (first | (with_reducible first | exact HB.out | apply below_alloc | apply pw_below_drewN | apply below_drew1 | refine below_set ?_ GE167.out) | exact HB.out)⟩
          · rw [if_neg c7] at H
            exact absurd H (by simp)
        · rw [if_neg c6] at H
          exact absurd H (by simp)
      · exact absurd c5n c5
    · rw [if_neg c4] at H
      exact absurd H (by simp)
  · rw [if_neg c3] at H
    exact absurd H (by simp)
end Go.Proofs.YtafkbhnhmhmjcaaGreatDoor.PRun
