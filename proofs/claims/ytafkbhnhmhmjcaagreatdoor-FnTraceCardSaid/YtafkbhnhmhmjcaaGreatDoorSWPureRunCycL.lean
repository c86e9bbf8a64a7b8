import Derived.Test.YtafkbhnhmhmjcaaGreatDoorSWPRunx0
import Derived.Test.YtafkbhnhmhmjcaaGreatDoorSWPRunx2
import Derived.Test.YtafkbhnhmhmjcaaGreatDoorSWPRunx3
import Derived.Laws.BytesArg
import Derived.Test.YtafkbhnhmhmjcaaGreatDoorSWMyStr
section
namespace Go.Proofs.YtafkbhnhmhmjcaaGreatDoor.PRun
open Go.RowKit Go.Proofs.YtafkbhnhmhmjcaaGreatDoorW.PrintWords Go.Proofs.YtafkbhnhmhmjcaaGreatDoorW.PrintLast Go.Proofs.YtafkbhnhmhmjcaaGreatDoorW.PrintMore
attribute [local go_sem] max2_int min2_int max_two min_two max_three min_three max_four min_four   -- for this text's walks alone
attribute [local go_sem] Go.Proofs.YtafkbhnhmhmjcaaGreatDoor.Cell2.cell_set_off Go.Proofs.YtafkbhnhmhmjcaaGreatDoor.Cell2.set_drewN Go.Proofs.YtafkbhnhmhmjcaaGreatDoor.Cell2.not_beq_bool
set_option linter.unusedVariables false
set_option linter.unusedSimpArgs false
def impl_within.f (a0 : Int) (a1 : Int) (a2 : Int) : Option (Bool) := if a0 ≥ a1 then (some (decide (a0 ≤ a2))) else (some false)
set_option maxHeartbeats 8000000 in
set_option maxRecDepth 100000 in
theorem impl_within.calls (a0 : Int) (a1 : Int) (a2 : Int) (r : Bool) (w : World) (h : impl_within.f a0 a1 a2 = some r) :
    Calls Tryz.prog 48 #[.int .i64 a0, .int .i64 a1, .int .i64 a2] w fun e w' => e = .returned (.bool r) ∧ Drawn0 w w' := by
  have H : (if a0 ≥ a1 then (some (decide (a0 ≤ a2))) else (some false)) = some r := h
  clear h
  by_cases c4 : a0 ≥ a1
  · rw [if_pos c4] at H
    have c4b0 : decide (a1 ≤ a0) = true := decide_eq_true c4
    clear c4
    obtain rfl := Option.some.inj H
    go_enter Tryz.func48, Tryz.ntmps48
    go_wp2
    go_ret
    exact ⟨by first | rfl | (simp; done) | (simp [*]; done), by repeat (first | exact Drawn0.refl _ | apply Drawn0.step)⟩
  · rw [if_neg c4] at H
    have c4b0 : decide (a1 ≤ a0) = false := decide_eq_false c4
    clear c4
    obtain rfl := Option.some.inj H
    go_enter Tryz.func48, Tryz.ntmps48
    go_wp2
    go_ret
    exact ⟨by first | rfl | (simp; done) | (simp [*]; done), by repeat (first | exact Drawn0.refl _ | apply Drawn0.step)⟩

mutual
def impl_HexText.j0 : Nat → Int → Int → Bool → Option (ByteArray)
  | 0, _, _, _ => none
  | k + 1, x0, x1, x13 => if x13 = true then (some (⟨#[]⟩ : ByteArray)) else (if 0 ≤ x1 then (if (x1 : Int).toNat ≤ 281474976710656 then (impl_HexText.l0 k x0 (List.replicate (x1 : Int).toNat 0) (wrap64 (x1 - 1))) else (none)) else (none))
def impl_HexText.l0 : Nat → Int → List Int → Int → Option (ByteArray)
  | 0, _, _, _ => none
  | k + 1, x0, x5, x6 => if x6 ≥ 0 then (if 0 ≤ (Int.tmod x0 16) then (if (Int.tmod x0 16) < 16 then (if 0 ≤ x6 then (if x6 < (x5.length : Int) then (impl_HexText.l0 k (wrap64 (Int.tdiv x0 16)) (x5.set (x6 : Int).toNat (bt (⟨#[48, 49, 50, 51, 52, 53, 54, 55, 56, 57, 65, 66, 67, 68, 69, 70]⟩ : ByteArray) (Int.tmod x0 16))) (wrap64 (x6 - 1))) else (none)) else (none)) else (none)) else (none)) else (some (strOfNums x5))
end
def impl_HexText.f (k : Nat) (a0 : Int) (a1 : Int) : Option (ByteArray) := if a0 < 0 then (impl_HexText.j0 k a0 a1 true) else ((impl_within.f a1 1 8).bind fun t901 => (impl_HexText.j0 k a0 a1 (!t901)))
theorem impl_HexText.mono_l : ∀ k, (∀ y0 y1 y2, LeO (impl_HexText.j0 k y0 y1 y2) (impl_HexText.j0 (k + 1) y0 y1 y2)) ∧ (∀ y0 y1 y2, LeO (impl_HexText.l0 k y0 y1 y2) (impl_HexText.l0 (k + 1) y0 y1 y2))
  | 0 => ⟨fun _ _ _ r h => by simp [impl_HexText.j0] at h, fun _ _ _ r h => by simp [impl_HexText.l0] at h⟩
  | k + 1 => by
    obtain ⟨ih0, ih1⟩ := impl_HexText.mono_l k
    refine ⟨?_, ?_⟩
    · intro y0 y1 y2
      unfold impl_HexText.j0
      repeat' first
      | (with_reducible exact ih0 _ _ _)
      | (with_reducible exact ih1 _ _ _)
      | (with_reducible exact LeO.refl _)
      | (with_reducible exact LeO.none _)
      | (with_reducible refine LeO.ite ?_ ?_)
      | (with_reducible refine LeO.bind ?_ (fun _ => ?_))
      | exact ih0 _ _ _
      | exact ih1 _ _ _
      | exact LeO.none _
      | refine LeO.ite ?_ ?_
      | refine LeO.bind ?_ (fun _ => ?_)
    · intro y0 y1 y2
      unfold impl_HexText.l0
      repeat' first
      | (with_reducible exact ih0 _ _ _)
      | (with_reducible exact ih1 _ _ _)
      | (with_reducible exact LeO.refl _)
      | (with_reducible exact LeO.none _)
      | (with_reducible refine LeO.ite ?_ ?_)
      | (with_reducible refine LeO.bind ?_ (fun _ => ?_))
      | exact ih0 _ _ _
      | exact ih1 _ _ _
      | exact LeO.none _
      | refine LeO.ite ?_ ?_
      | refine LeO.bind ?_ (fun _ => ?_)
theorem impl_HexText.mono : ∀ a0 a1 k, LeO (impl_HexText.f k a0 a1) (impl_HexText.f (k + 1) a0 a1) := by
  intro a0 a1 k
  obtain ⟨ih0, ih1⟩ := impl_HexText.mono_l k
  unfold impl_HexText.f
  repeat' first
      | (with_reducible exact ih0 _ _ _)
      | (with_reducible exact ih1 _ _ _)
      | (with_reducible exact LeO.refl _)
      | (with_reducible exact LeO.none _)
      | (with_reducible refine LeO.ite ?_ ?_)
      | (with_reducible refine LeO.bind ?_ (fun _ => ?_))
      | exact ih0 _ _ _
      | exact ih1 _ _ _
      | exact LeO.none _
      | refine LeO.ite ?_ ?_
      | refine LeO.bind ?_ (fun _ => ?_)
set_option maxHeartbeats 8000000 in
set_option maxRecDepth 100000 in
theorem impl_HexText.calls (k : Nat) (a0 : Int) (a1 : Int) (r : ByteArray) (w : World) (h : impl_HexText.f k a0 a1 = some r) :
    Calls Tryz.prog 31 #[.int .i64 a0, .int .i64 a1] w fun e w' => e = .returned (.string r) ∧ Below w.heap.size w w' := by
  have HB := zA (Below.refl w.heap.size w)
  have H : (if a0 < 0 then (impl_HexText.j0 k a0 a1 true) else ((impl_within.f a1 1 8).bind fun t901 => (impl_HexText.j0 k a0 a1 (!t901)))) = some r := h
  clear h
  have HC3 := zA H
  clear H
  go_enter Tryz.func31, Tryz.ntmps31
  go_upto_region 1 with (fail)
  go_cut [13] (fun v13 wc => ∃ (kq : Nat) (x13_2 : Bool), v13 = .bool x13_2 ∧ Aside0 (impl_HexText.j0 kq a0 a1 x13_2 = some r) ∧ Aside0 (kq ≤ k) ∧ Aside0 (Below w.heap.size w wc))
  case first =>
    have H := HC3.out
    clear HC3
    by_cases c4 : a0 < 0
    · rw [if_pos c4] at H
      have c4b0 : decide (a0 < 0) = true := decide_eq_true c4
      clear c4
      (first | rw [c4b0] | (simp only [i64_w, i32_w]; rw [c4b0]) | skip)
      have H' := zA H
      clear H
      go_wp2
      go_meet
      case rel => exact ⟨_, (true), (by first | rfl | (simp; done) | (simp [*]; done)), H', ⟨by first | omega | exact Nat.le_refl _⟩, ⟨by repeat (first | (with_reducible first | exact HB.out | apply below_alloc | apply pw_below_drewN | apply below_drew1) | exact HB.out)⟩⟩
    · rw [if_neg c4] at H
      have c4b0 : decide (a0 < 0) = false := decide_eq_false c4
      clear c4
      (first | rw [c4b0] | (simp only [i64_w, i32_w]; rw [c4b0]) | skip)
      replace H := Option.bind_eq_some_iff.mp H
      obtain ⟨t901, A50, H⟩ := H
      replace H : (impl_HexText.j0 k a0 a1 (!t901)) = some r := H
      have A5 := zA A50
      clear A50
      have H' := zA H
      clear H
      go_wp2_with (first | (go_at_call 48; (with_reducible refine (impl_within.calls a1 1 8 t901 _ A5.out).mono ?_); rintro e w' ⟨rfl, ⟨nd, rfl⟩⟩))
      go_meet
      case rel => exact ⟨_, (!t901), (by first | rfl | (simp; done) | (simp [*]; done)), H', ⟨by first | omega | exact Nat.le_refl _⟩, ⟨by repeat (first | (with_reducible first | exact HB.out | apply below_alloc | apply pw_below_drewN | apply below_drew1) | exact HB.out)⟩⟩
  case rest =>
    clear HC3
    try clear p2
    try clear c3
    try clear c4
    try clear c4b0
    obtain ⟨kq, x13_2, rfl, HA, HJ2, HB⟩ := hcut
    cases kq with
    | zero => exact absurd HA.out (by simp [impl_HexText.j0])
    | succ kj2 =>
      have H := HA.out
      clear HA
      simp only [impl_HexText.j0] at H
      by_cases c6 : x13_2 = true
      · subst c6
        have H1 : (some (⟨#[]⟩ : ByteArray)) = some r := by rw [if_pos rfl] at H; exact H
        clear H
        have H := H1
        clear H1
        obtain rfl := Option.some.inj H
        go_wp2
        go_ret
        exact ⟨by first | rfl | (simp [errW_none, errW_some] <;> rfl) | (simp [*, errW_none, errW_some] <;> rfl), by repeat (first | (with_reducible first | exact HB.out | apply below_alloc | apply pw_below_drewN | apply below_drew1) | exact HB.out)⟩
      · replace c6 := Bool.eq_false_iff.mpr c6
        subst c6
        have H1 : (if 0 ≤ a1 then (if (a1 : Int).toNat ≤ 281474976710656 then (impl_HexText.l0 kj2 a0 (List.replicate (a1 : Int).toNat 0) (wrap64 (a1 - 1))) else (none)) else (none)) = some r := by rw [if_neg (show ¬ (false = true) by decide)] at H; exact H
        clear H
        have H := H1
        clear H1
        by_cases c7 : 0 ≤ a1
        · rw [if_pos c7] at H
          have c7b0 := eq_true c7
          have c7b1 : decide (0 ≤ a1) = true := decide_eq_true c7
          clear c7
          by_cases c8 : (a1 : Int).toNat ≤ 281474976710656
          · rw [if_pos c8] at H
            have c8b0 := eq_true c8
            have c8b1 : decide ((a1 : Int).toNat ≤ 281474976710656) = true := decide_eq_true c8
            clear c8
            obtain ⟨y902, hy902⟩ : ∃ y_ : List Int, y_ = (List.replicate (a1 : Int).toNat 0) := ⟨_, rfl⟩
            replace H : (impl_HexText.l0 kj2 a0 y902 (wrap64 (a1 - 1))) = some r := by first | (rw [hy902]; with_reducible exact H) | (have H2_ := (Option.bind_some _ _).symm.trans H; rw [hy902]; with_reducible exact H2_) | (have H2_ := (Option.bind_some _ _).symm.trans H; with_reducible exact H2_) | with_reducible exact H | (rw [hy902]; exact H) | exact H
            have Ny902 := zA hy902
            clear hy902
            have H' := zA H
            clear H
            go_wp2_with (first | ((with_reducible refine gate_dst (N := 15) rfl ?_); refine Kd.R_make (Kd.int .u8) _ 5 rfl (N := 15) rfl 22 _ _ rfl a1 rfl rfl Tryz.underlying22 (.int .u8 0) 1 info5 rfl (by decide) (by omega) 0 (ok := fun _ => True) (okp := fun _ => True) rfl (fun _ hk => hk) trivial (of_decide_eq_true (by first | (with_reducible assumption) | assumption)) (Nat.le_trans (Nat.mul_le_mul_right _ (of_decide_eq_true (by first | (with_reducible assumption) | assumption) : a1.toNat ≤ 281474976710656)) (by omega)) (Below.refl _ _) (Nat.le_refl _) ?_; intro v903 w9 ho10 hb hg_ hnew_; clear hg_ hnew_; (first | rw [← Ny902.out] at ho10 | (simp only [Int.reduceToNat] at ho10; rw [← Ny902.out] at ho10)); have HO904 := zA (Kd.R_lower ho10 (below_size (by repeat (first | (with_reducible first | exact HB.out | apply below_alloc | apply pw_below_drewN | apply below_drew1) | exact HB.out)))); replace HB := zA (below_step (by repeat (first | (with_reducible first | exact HB.out | apply below_alloc | apply pw_below_drewN | apply below_drew1) | exact HB.out)) hb); clear hb ho10))
            go_loopg [0, 6] kj2 (fun kq v0 v6 w' => ∃ (x0_2 : Int) (x5_2 : List Int) (x6_2 : Int), v0 = .int .i64 x0_2 ∧ v6 = .int .i64 x6_2 ∧ Aside0 (impl_HexText.l0 kq x0_2 x5_2 x6_2 = some r) ∧ Aside0 (kq ≤ kj2) ∧ Aside0 (Kd.R (Kd.int .u8) 5 w' w.heap.size (fun _ => True) v903 x5_2) ∧ Aside0 (Below w.heap.size w w'))
            case atStart => exact ⟨(a0), (y902), (wrap64 (a1 - 1)), (by first | rfl | (simp; done) | (simp [*]; done)), (by first | rfl | (simp; done) | (simp [*]; done)), H', ⟨Nat.le_refl _⟩, ⟨by (with_reducible repeat (first | apply Kd.R_alloc | apply Kd.R_drewN | apply Kd.R_drew)); exact HO904.out⟩, ⟨by repeat (first | (with_reducible first | exact HB.out | apply below_alloc | apply pw_below_drewN | apply below_drew1) | exact HB.out)⟩⟩
            case round =>
              clear H'
              try clear p2
              try clear c3
              try clear c4
              try clear c4b0
              try clear c6
              try clear p6
              try clear c7
              try clear c7b0
              try clear c7b1
              try clear c8
              try clear c8b0
              try clear c8b1
              try clear p2
              obtain ⟨x0_2, x5_2, x6_2, rfl, rfl, HA, HK2, HO_5, HB⟩ := hrel
              cases gk with
              | zero => exact absurd HA.out (by simp [impl_HexText.l0])
              | succ k2 =>
                have H := HA.out
                clear HA
                simp only [impl_HexText.l0] at H
                by_cases c11 : x6_2 ≥ 0
                · rw [if_pos c11] at H
                  have c11b0 : decide (0 ≤ x6_2) = true := decide_eq_true c11
                  clear c11
                  obtain ⟨ji12, hji12⟩ : ∃ j_ : Int, (Int.tmod x0_2 16) = j_ := ⟨_, rfl⟩
                  replace H : (if 0 ≤ (ji12) then (if (ji12) < 16 then (if 0 ≤ x6_2 then (if x6_2 < (x5_2.length : Int) then (impl_HexText.l0 k2 (wrap64 (Int.tdiv x0_2 16)) (x5_2.set (x6_2 : Int).toNat (bt (⟨#[48, 49, 50, 51, 52, 53, 54, 55, 56, 57, 65, 66, 67, 68, 69, 70]⟩ : ByteArray) (ji12))) (wrap64 (x6_2 - 1))) else (none)) else (none)) else (none)) else (none)) = some r := by first | (rw [hji12] at H; exact H) | (simp only [hji12] at H ⊢; exact H)
                  by_cases c13 : 0 ≤ (ji12)
                  · rw [if_pos c13] at H
                    have c13b0 : decide (0 ≤ (ji12)) = true := decide_eq_true c13
                    clear c13
                    by_cases c14 : (ji12) < 16
                    · rw [if_pos c14] at H
                      have c14b0 : decide ((ji12) < 16) = true := decide_eq_true c14
                      clear c14
                      by_cases c16 : 0 ≤ x6_2
                      · rw [if_pos c16] at H
                        have c16b0 : decide (0 ≤ x6_2) = true := decide_eq_true c16
                        clear c16
                        by_cases c17 : x6_2 < (x5_2.length : Int)
                        · rw [if_pos c17] at H
                          have c17b0 : decide (x6_2 < (x5_2.length : Int)) = true := decide_eq_true c17
                          clear c17
                          obtain ⟨y905, hy905⟩ : ∃ y_ : List Int, y_ = (x5_2.set (x6_2 : Int).toNat (bt (⟨#[48, 49, 50, 51, 52, 53, 54, 55, 56, 57, 65, 66, 67, 68, 69, 70]⟩ : ByteArray) (ji12))) := ⟨_, rfl⟩
                          replace H : (impl_HexText.l0 k2 (wrap64 (Int.tdiv x0_2 16)) y905 (wrap64 (x6_2 - 1))) = some r := by first | (rw [hy905]; with_reducible exact H) | (have H2_ := (Option.bind_some _ _).symm.trans H; rw [hy905]; with_reducible exact H2_) | (have H2_ := (Option.bind_some _ _).symm.trans H; with_reducible exact H2_) | with_reducible exact H | (rw [hy905]; exact H) | exact H
                          have Ny905 := zA hy905
                          clear hy905
                          have H' := zA H
                          clear H
                          have p15 : 0 ≤ ((ji12) : Int) := of_decide_eq_true (by first | (with_reducible assumption) | assumption)
                          have q15 : (ji12) < (16 : Int) := of_decide_eq_true (by first | (with_reducible assumption) | assumption)
                          have hx15 := bt_at (⟨#[48, 49, 50, 51, 52, 53, 54, 55, 56, 57, 65, 66, 67, 68, 69, 70]⟩ : ByteArray) (ji12)
                          replace p15 := eq_true p15
                          replace q15 := eq_true q15
                          have p18 : 0 ≤ (x6_2 : Int) := of_decide_eq_true (by first | (with_reducible assumption) | assumption)
                          have q18 : (x6_2 : Int) < ((x5_2.length : Int) : Int) := of_decide_eq_true (by first | (with_reducible assumption) | assumption)
                          obtain ⟨go18, co18, eo18, gb18, gl18, cl18, HG18⟩ := Kd.R_form HO_5.out (by omega)
                          (first | cases eo18 | (injection eo18 with ea_ en_ ec_; (first | subst ea_ | (injection ea_ with ea_; subst ea_)); subst ec_; clear en_))
                          have GB18 := zA gb18
                          have GG18 := zA HG18
                          clear gb18 gl18 HG18
                          obtain ⟨hx18_0, hf18_0⟩ := Kd.R_celln 0 HO_5.out (x6_2 : Int) p18 q18
                          replace p18 := eq_true p18
                          replace q18 := eq_true q18
                          have HP19 := Kd.R_putg HO_5.out (x6_2 : Int) (bt (⟨#[48, 49, 50, 51, 52, 53, 54, 55, 56, 57, 65, 66, 67, 68, 69, 70]⟩ : ByteArray) (ji12))
                          go_wp2_with (first | ((with_reducible refine gate_store (t := 5) (p := 27) rfl ?_); refine store_event (t := 5) (p := 27) (v := ?vo_w20) (w1 := (wr.setCell ⟨go18, (x6_2 : Int).toNat, none⟩ (.int .u8 (bt (⟨#[48, 49, 50, 51, 52, 53, 54, 55, 56, 57, 65, 66, 67, 68, 69, 70]⟩ : ByteArray) (ji12))))) ?hg ?ho ?hn ?hr ?_; (case ho => rfl); (case hg => rfl); (case hn => rfl); (case hr => first | (go_simp; done) | (go_simp; rfl)); intro w20 hw; have hg : wr.grownBy w20 (some go18) := (by rw [hw]; exact HP19.2); have hp_ : Kd.R (Kd.int .u8) 5 w20 w.heap.size (fun _ => True) (.slice (some ⟨go18, 0, none⟩) x5_2.length co18) y905 := (by rw [hw, Ny905.out]; exact HP19.1); clear HP19; replace HO_5 := zA (hp_); replace HB := zA ((by rw [hw]; exact below_set (HB.out) GB18.out : Below w.heap.size w w20)); clear hg hw hp_))
                          go_roundg k2
                          case measure => have := HJ2.out; have := HK2.out; omega
                          case rel => exact ⟨(wrap64 (Int.tdiv x0_2 16)), (y905), (wrap64 (x6_2 - 1)), (by first | rfl | (simp; done) | (simp [*]; done)), (by first | rfl | (simp; done) | (simp [*]; done)), H', ⟨by have := HJ2.out; have := HK2.out; omega⟩, ⟨by (with_reducible repeat (first | apply Kd.R_alloc | apply Kd.R_drewN | apply Kd.R_drew)); exact HO_5.out⟩, ⟨by repeat (first | (with_reducible first | exact HB.out | apply below_alloc | apply pw_below_drewN | apply below_drew1) | exact HB.out)⟩⟩
                        · rw [if_neg c17] at H
                          exact absurd H (by simp)
                      · rw [if_neg c16] at H
                        exact absurd H (by simp)
                    · rw [if_neg c14] at H
                      exact absurd H (by simp)
                  · rw [if_neg c13] at H
                    exact absurd H (by simp)
                · rw [if_neg c11] at H
                  have c11b0 : decide (0 ≤ x6_2) = false := decide_eq_false c11
                  clear c11
                  obtain rfl := Option.some.inj H
                  have hcv21 := own_string (P := Tryz.prog) Tryz.underlying22 Tryz.underlying5 Tryz.underlying9 (Kd.own_of_R HO_5.out)
                  go_wp2
                  go_ret
                  exact ⟨by first | rfl | (simp [errW_none, errW_some] <;> rfl) | (simp [*, errW_none, errW_some] <;> rfl), by repeat (first | (with_reducible first | exact HB.out | apply below_alloc | apply pw_below_drewN | apply below_drew1) | exact HB.out)⟩
          · rw [if_neg c8] at H
            exact absurd H (by simp)
        · rw [if_neg c7] at H
          exact absurd H (by simp)
end Go.Proofs.YtafkbhnhmhmjcaaGreatDoor.PRun
end
section
namespace Go.Proofs.YtafkbhnhmhmjcaaGreatDoor.HexRun
open Go.RowKit Go.Proofs.YtafkbhnhmhmjcaaGreatDoor.PRun Go.Proofs.YtafkbhnhmhmjcaaGreatDoor.Plain Go.Proofs.YtafkbhnhmhmjcaaGreatDoor.Str Go.Proofs.YtafkbhnhmhmjcaaGreatDoorW.PrintWords Go.Proofs.YtafkbhnhmhmjcaaGreatDoorW.PrintLast
def dig (n : Nat) : UInt8 := if n < 10 then UInt8.ofNat (48 + n) else UInt8.ofNat (55 + n)
def hexL (n : Nat) : Nat → List UInt8
  | 0 => []
  | i + 1 => dig (n / 16 ^ i % 16) :: hexL n i
theorem hexL_length (n i : Nat) : (hexL n i).length = i := by induction i with
  | zero => rfl
  | succ i ih => simp [hexL, ih]
theorem bt_dig (m : Nat) (h : m < 16) : bt (⟨#[48, 49, 50, 51, 52, 53, 54, 55, 56, 57, 65, 66, 67, 68, 69, 70]⟩ : ByteArray) (m : Int) = ((dig m).toNat : Int) := by
  have key : ∀ m, (h : m < 16) → (([48, 49, 50, 51, 52, 53, 54, 55, 56, 57, 65, 66, 67, 68, 69, 70] : List UInt8)[m]'h).toNat = (dig m).toNat := by decide
  rw [show (⟨#[48, 49, 50, 51, 52, 53, 54, 55, 56, 57, 65, 66, 67, 68, 69, 70]⟩ : ByteArray) = S [48, 49, 50, 51, 52, 53, 54, 55, 56, 57, 65, 66, 67, 68, 69, 70] from rfl, bt_S _ _ h, key m h]
theorem step16 (n i : Nat) (h : n ≤ 9223372036854775807) : Int.tmod ((n / 16 ^ i : Nat) : Int) 16 = ((n / 16 ^ i % 16 : Nat) : Int) ∧ wrap64 (Int.tdiv ((n / 16 ^ i : Nat) : Int) 16) = ((n / 16 ^ (i + 1) : Nat) : Int) := by
  have hle : n / 16 ^ i ≤ n := Nat.div_le_self _ _
  rw [Nat.pow_succ, ← Nat.div_div_eq_div_mul]
  generalize n / 16 ^ i = m at *
  constructor
  · rw [Int.tmod_eq_emod_of_nonneg (by omega)]; rfl
  · rw [Int.tdiv_eq_ediv_of_nonneg (by omega), w64 (by omega) (by omega)]; omega
def row (n d i : Nat) : List Int := List.replicate (d - i) 0 ++ (hexL n i).map fun b => (b.toNat : Int)
theorem row_length (n d i : Nat) (h : i ≤ d) : (row n d i).length = d := by simp [row, hexL_length]; omega
theorem row_set (n d i : Nat) (h : i < d) : (row n d i).set (d - 1 - i) ((dig (n / 16 ^ i % 16)).toNat : Int) = row n d (i + 1) := by
  simp only [row, hexL, List.map_cons]
  rw [List.set_append_left _ _ (by simp; omega)]
  have : List.replicate (d - i) (0 : Int) = List.replicate (d - (i + 1)) 0 ++ [0] := by
    rw [← List.replicate_succ', show d - (i + 1) + 1 = d - i by omega]
  rw [this, List.set_append_right _ _ (by simp; omega)]
  simp only [List.length_replicate, show d - 1 - i - (d - (i + 1)) = 0 by omega, List.set_cons_zero, List.append_assoc, List.singleton_append]
theorem strOf_hex (l : List UInt8) : strOfNums (l.map fun b => (b.toNat : Int)) = S l := by
  unfold strOfNums S
  congr 2
  rw [List.map_map]
  exact (List.map_congr_left (fun b _ => by simp)).trans (List.map_id l)
theorem implHex_eq (n : Nat) (hn : n ≤ 9223372036854775807) (d : Nat) (hd : 1 ≤ d) (hd8 : d ≤ 8) (k : Nat) (hk : d + 1 < k) : impl_HexText.f k (n : Int) (d : Int) = some (S (hexL n d)) := by
  obtain ⟨k, rfl⟩ : ∃ m, k = m + 1 := ⟨k - 1, by omega⟩
  have hin : impl_within.f (d : Int) 1 8 = some true := by simp only [impl_within.f]; rw [if_pos (by omega), decide_eq_true (by omega)]
  simp only [impl_HexText.f]
  rw [if_neg (by omega), hin]
  simp only [Option.bind_some, impl_HexText.j0, Bool.not_true, Bool.false_eq_true, if_false, Int.toNat_natCast]
  rw [if_pos (by omega), if_pos (by omega), w64 (by omega) (by omega)]
  have := loop_run (fun k (s : Int × List Int × Int) _ => impl_HexText.l0 k s.1 s.2.1 s.2.2) (fun i => (((n / 16 ^ i : Nat) : Int), row n d i, (d : Int) - 1 - (i : Int))) d (S (hexL n d)) ?_ ?_ k (by omega)
  · simpa [row, hexL] using this
  · intro k i hi
    obtain ⟨h1, h2⟩ := step16 n i hn
    have hlt : n / 16 ^ i % 16 < 16 := Nat.mod_lt _ (by omega)
    have hl := row_length n d i (by omega)
    simp only [impl_HexText.l0, h1, h2, bt_dig _ hlt]
    rw [if_pos (by omega), if_pos (by omega), if_pos (by omega), if_pos (by omega), if_pos (by omega), show ((d : Int) - 1 - (i : Int)).toNat = d - 1 - i by omega, row_set n d i hi, w64 (by omega) (by omega)]
    congr 1
    omega
  · intro k
    simp only [impl_HexText.l0]
    rw [if_neg (by omega)]
    simp only [row, Nat.sub_self, List.replicate_zero, List.nil_append, strOf_hex]
end Go.Proofs.YtafkbhnhmhmjcaaGreatDoor.HexRun
end
section
namespace Go.Proofs.YtafkbhnhmhmjcaaGreatDoor.PRun
open Go.RowKit Go.Proofs.YtafkbhnhmhmjcaaGreatDoorW.PrintWords Go.Proofs.YtafkbhnhmhmjcaaGreatDoorW.PrintLast Go.Proofs.YtafkbhnhmhmjcaaGreatDoorW.PrintMore
attribute [local go_sem] max2_int min2_int max_two min_two max_three min_three max_four min_four   -- for this text's walks alone
attribute [local go_sem] Go.Proofs.YtafkbhnhmhmjcaaGreatDoor.Cell2.cell_set_off Go.Proofs.YtafkbhnhmhmjcaaGreatDoor.Cell2.set_drewN Go.Proofs.YtafkbhnhmhmjcaaGreatDoor.Cell2.not_beq_bool
set_option linter.unusedVariables false
set_option linter.unusedSimpArgs false
def impl_CycText.f (k : Nat) (a0_0 : Int) (a0_1 : Int) (a0_2 : Bool) : Option (ByteArray) := (impl_HexText.f k (wrap64 (a0_0)) 4).bind fun t907 => (if t907.size + 1 ≤ 9223372036854775807 then ((impl_HexText.f k (wrap64 (a0_1)) 2).bind fun t908 => (if (t907 ++ (⟨#[32]⟩ : ByteArray)).size + t908.size ≤ 9223372036854775807 then (if a0_2 = true then (if ((t907 ++ (⟨#[32]⟩ : ByteArray)) ++ t908).size + 2 ≤ 9223372036854775807 then (some (((t907 ++ (⟨#[32]⟩ : ByteArray)) ++ t908) ++ (⟨#[32, 119]⟩ : ByteArray))) else (none)) else (if ((t907 ++ (⟨#[32]⟩ : ByteArray)) ++ t908).size + 2 ≤ 9223372036854775807 then (some (((t907 ++ (⟨#[32]⟩ : ByteArray)) ++ t908) ++ (⟨#[32, 114]⟩ : ByteArray))) else (none))) else (none))) else (none))
theorem impl_CycText.mono : ∀ a0 a1 a2 k, LeO (impl_CycText.f k a0 a1 a2) (impl_CycText.f (k + 1) a0 a1 a2) := by
  intro a0 a1 a2 k
  unfold impl_CycText.f
  repeat' first
      | (with_reducible exact impl_HexText.mono _ _ _)
      | (with_reducible exact LeO.refl _)
      | (with_reducible exact LeO.none _)
      | (with_reducible refine LeO.ite ?_ ?_)
      | (with_reducible refine LeO.bind ?_ (fun _ => ?_))
      | exact impl_HexText.mono _ _ _
      | exact LeO.none _
      | refine LeO.ite ?_ ?_
      | refine LeO.bind ?_ (fun _ => ?_)
def impl_CycText.T1 : Bool × List (List Nat × List Nat) := (true, [([], []), ([0], [0]), ([1], [1]), ([2], [2]), ([3], [3]), ([], []), ([5], [5]), ([6], [6]), ([7, 3], [7]), ([4, 8], [4, 8]), ([9, 8, 0, 1, 2, 3, 4, 5, 6, 7, 8, 9], [9])])
def impl_CycText.B1 : List Nat := [0, 1, 3, 7, 15, 0, 32, 96, 239, 511, 1023]
theorem impl_CycText.tab1 : rtab .any (opsOf Tryz.f16 1) = impl_CycText.T1 := by kernel_rfl
theorem impl_CycText.bits1 : waitsOk impl_CycText.T1.2 impl_CycText.B1 = true := by kernel_rfl
set_option maxHeartbeats 8000000 in
set_option maxRecDepth 100000 in
theorem impl_CycText.calls (k : Nat) (a0_0 : Int) (a0_1 : Int) (a0_2 : Bool) (r : ByteArray) (w : World) (h : impl_CycText.f k a0_0 a0_1 a0_2 = some r) :
    Calls Tryz.prog 16 #[.agg #[.int .u16 a0_0, .int .u8 a0_1, .bool a0_2]] w fun e w' => e = .returned (.string r) ∧ Below w.heap.size w w' := by
  have hu43 := Tryz.underlying43
  have HB := zA (Below.refl w.heap.size w)
  have H : ((impl_HexText.f k (wrap64 (a0_0)) 4).bind fun t907 => (if t907.size + 1 ≤ 9223372036854775807 then ((impl_HexText.f k (wrap64 (a0_1)) 2).bind fun t908 => (if (t907 ++ (⟨#[32]⟩ : ByteArray)).size + t908.size ≤ 9223372036854775807 then (if a0_2 = true then (if ((t907 ++ (⟨#[32]⟩ : ByteArray)) ++ t908).size + 2 ≤ 9223372036854775807 then (some (((t907 ++ (⟨#[32]⟩ : ByteArray)) ++ t908) ++ (⟨#[32, 119]⟩ : ByteArray))) else (none)) else (if ((t907 ++ (⟨#[32]⟩ : ByteArray)) ++ t908).size + 2 ≤ 9223372036854775807 then (some (((t907 ++ (⟨#[32]⟩ : ByteArray)) ++ t908) ++ (⟨#[32, 114]⟩ : ByteArray))) else (none))) else (none))) else (none))) = some r := h
  clear h
  replace H := Option.bind_eq_some_iff.mp H
  obtain ⟨t907, A20, H⟩ := H
  replace H : (if t907.size + 1 ≤ 9223372036854775807 then ((impl_HexText.f k (wrap64 (a0_1)) 2).bind fun t908 => (if (t907 ++ (⟨#[32]⟩ : ByteArray)).size + t908.size ≤ 9223372036854775807 then (if a0_2 = true then (if ((t907 ++ (⟨#[32]⟩ : ByteArray)) ++ t908).size + 2 ≤ 9223372036854775807 then (some (((t907 ++ (⟨#[32]⟩ : ByteArray)) ++ t908) ++ (⟨#[32, 119]⟩ : ByteArray))) else (none)) else (if ((t907 ++ (⟨#[32]⟩ : ByteArray)) ++ t908).size + 2 ≤ 9223372036854775807 then (some (((t907 ++ (⟨#[32]⟩ : ByteArray)) ++ t908) ++ (⟨#[32, 114]⟩ : ByteArray))) else (none))) else (none))) else (none)) = some r := H
  have A2 := zA A20
  clear A20
  by_cases c3 : t907.size + 1 ≤ 9223372036854775807
  · rw [if_pos c3] at H
    have c3b0 := eq_true c3
    have c3b1 : decide (t907.size + 1 ≤ 9223372036854775807) = true := decide_eq_true c3
    try have c3b2 : (9223372036854775807 < t907.size + 1) = False := eq_false (Nat.not_lt.2 c3)
    replace H := Option.bind_eq_some_iff.mp H
    obtain ⟨t908, A40, H⟩ := H
    replace H : (if (t907 ++ (⟨#[32]⟩ : ByteArray)).size + t908.size ≤ 9223372036854775807 then (if a0_2 = true then (if ((t907 ++ (⟨#[32]⟩ : ByteArray)) ++ t908).size + 2 ≤ 9223372036854775807 then (some (((t907 ++ (⟨#[32]⟩ : ByteArray)) ++ t908) ++ (⟨#[32, 119]⟩ : ByteArray))) else (none)) else (if ((t907 ++ (⟨#[32]⟩ : ByteArray)) ++ t908).size + 2 ≤ 9223372036854775807 then (some (((t907 ++ (⟨#[32]⟩ : ByteArray)) ++ t908) ++ (⟨#[32, 114]⟩ : ByteArray))) else (none))) else (none)) = some r := H
    have A4 := zA A40
    clear A40
    by_cases c5 : (t907 ++ (⟨#[32]⟩ : ByteArray)).size + t908.size ≤ 9223372036854775807
    · rw [if_pos c5] at H
      have c5b0 := eq_true c5
      have c5b1 : decide ((t907 ++ (⟨#[32]⟩ : ByteArray)).size + t908.size ≤ 9223372036854775807) = true := decide_eq_true c5
      try have c5b2 : (9223372036854775807 < (t907 ++ (⟨#[32]⟩ : ByteArray)).size + t908.size) = False := eq_false (Nat.not_lt.2 c5)
      try have c5b4 : (9223372036854775807 < t907.size + 1 + t908.size) = False := eq_false (Nat.not_lt.2 (by have h_ := of_decide_eq_true c5b1; simp only [ByteArray.size_append] at h_; have e0_ : ((⟨#[32]⟩ : ByteArray)).size = 1 := rfl; omega))
      by_cases c6 : a0_2 = true
      · subst c6
        have H1 : (if ((t907 ++ (⟨#[32]⟩ : ByteArray)) ++ t908).size + 2 ≤ 9223372036854775807 then (some (((t907 ++ (⟨#[32]⟩ : ByteArray)) ++ t908) ++ (⟨#[32, 119]⟩ : ByteArray))) else (none)) = some r := by rw [if_pos rfl] at H; exact H
        clear H
        have H := H1
        clear H1
        by_cases c7 : ((t907 ++ (⟨#[32]⟩ : ByteArray)) ++ t908).size + 2 ≤ 9223372036854775807
        · rw [if_pos c7] at H
          have c7b0 := eq_true c7
          have c7b1 : decide (((t907 ++ (⟨#[32]⟩ : ByteArray)) ++ t908).size + 2 ≤ 9223372036854775807) = true := decide_eq_true c7
          try have c7b2 : (9223372036854775807 < ((t907 ++ (⟨#[32]⟩ : ByteArray)) ++ t908).size + 2) = False := eq_false (Nat.not_lt.2 c7)
          try have c7b4 : (9223372036854775807 < t907.size + 1 + t908.size + 2) = False := eq_false (Nat.not_lt.2 (by have h_ := of_decide_eq_true c7b1; simp only [ByteArray.size_append] at h_; have e0_ : ((⟨#[32]⟩ : ByteArray)).size = 1 := rfl; omega))
          obtain rfl := Option.some.inj H
          go_enter Tryz.func16, Tryz.ntmps16
          try go_wp2_with (first | ((with_reducible refine gate_dst (N := 1) rfl ?_); refine box_event ?hg (N := 1) ?hd (cs := #[.int .u16 a0_0, .int .u8 a0_1, .bool true]) (t := 43) ?hr ?_; (case hd => rfl); (case hg => rfl); (case hr => first | (go_simp; done) | (go_simp; rfl)); intro gb906 hg w8 hbox hb; have BK906 := zA (hbox); have GW906 := zA ((by rw [hg]; exact (below_size (by repeat (first | (with_reducible first | exact HB.out | apply below_alloc | apply pw_below_drewN | apply below_drew1) | exact HB.out))) : w.heap.size ≤ gb906)); have GE906 := zA ((by rw [hg]; exact (below_size (by repeat (first | (with_reducible first | exact HB.out | apply below_alloc | apply pw_below_drewN | apply below_drew1) | exact HB.out))) : w.heap.size ≤ gb906)); replace HB := zA (below_step (by repeat (first | (with_reducible first | exact HB.out | apply below_alloc | apply pw_below_drewN | apply below_drew1) | exact HB.out)) hb); clear hb hbox hg))
          replace BK906 := zA (blk_drew BK906.out)
          replace HB := zA (below_drew1 HB.out)
          refine start_ (n := 11) (S := fun w' => w'.cell? ⟨gb906, 0, none⟩ = some (.int .u16 a0_0) ∧ w'.cell? ⟨gb906, 1, none⟩ = some (.int .u8 a0_1) ∧ w'.cell? ⟨gb906, 2, none⟩ = some (.bool true)) (ds := []) #[false, false, false, false, false, false, false, false, false, false, false] (by kernel_rfl) rfl rfl ⟨(blk_cell BK906.out 0).trans rfl, (blk_cell BK906.out 1).trans rfl, (blk_cell BK906.out 2).trans rfl⟩ (fun hHeld => ?_); refine with_tabW impl_CycText.tab1 impl_CycText.bits1 (fun HT_ HW_ => ?_)
          generalize w8.drew = w9 at BK906 HB hHeld ⊢
          refine pure_ (i := 0) (N := some 4) (v := ?_) (a' := ?_) #[true, false, false, false, false, false, false, false, false, false, false] rfl rfl (any_of HT_.out (by kernel_rfl)) (fun _ _ _ h => h) (Or.inl ⟨by rfl, ?_⟩) ?_ ?_
          rotate_left
          · intro w'
            go_simp
            with_reducible rfl
          rotate_left
          · simp only [zP]
            rfl
          refine pure_ (i := 5) (N := some 9) (v := ?_) (a' := ?_) #[true, false, false, false, false, true, false, false, false, false, false] rfl rfl (any_of HT_.out (by kernel_rfl)) (fun _ _ _ h => h) (Or.inl ⟨by rfl, ?_⟩) ?_ ?_
          rotate_left
          · intro w'
            go_simp
            with_reducible rfl
          rotate_left
          · simp only [zP]
            rfl
          refine take_ (i := 1) (N := some 5) (v := ?_) (a' := ?_) #[true, true, false, false, false, true, false, false, false, false, false] rfl rfl (take_ofW HT_.out HW_.out (by kernel_rfl)) (fun _ _ _ h => h) (Or.inl ⟨by rfl, ?_⟩) hHeld ?_ ?_
          rotate_left
          · rintro w' ⟨s0, s1, s2⟩
            go_simp
            with_reducible rfl
          rotate_left
          · simp only [zP]
            rfl
          refine pure_ (i := 2) (N := some 6) (v := ?_) (a' := ?_) #[true, true, true, false, false, true, false, false, false, false, false] rfl rfl (any_of HT_.out (by kernel_rfl)) (fun _ _ _ h => h) (Or.inl ⟨by rfl, ?_⟩) ?_ ?_
          rotate_left
          · intro w'
            go_simp
            with_reducible rfl
          rotate_left
          · simp only [zP]
            rfl
          refine take_ (i := 6) (N := some 10) (v := ?_) (a' := ?_) #[true, true, true, false, false, true, true, false, false, false, false] rfl rfl (take_ofW HT_.out HW_.out (by kernel_rfl)) (fun _ _ _ h => h) (Or.inl ⟨by rfl, ?_⟩) hHeld ?_ ?_
          rotate_left
          · rintro w' ⟨s0, s1, s2⟩
            go_simp
            with_reducible rfl
          rotate_left
          · simp only [zP]
            rfl
          refine pure_ (i := 7) (N := some 11) (v := ?_) (a' := ?_) #[true, true, true, false, false, true, true, true, false, false, false] rfl rfl (any_of HT_.out (by kernel_rfl)) (fun _ _ _ h => h) (Or.inl ⟨by rfl, ?_⟩) ?_ ?_
          rotate_left
          · intro w'
            go_simp
            with_reducible rfl
          rotate_left
          · simp only [zP]
            rfl
          refine one_ (i := 3) (N := some 7) #[true, true, true, true, false, true, true, true, false, false, false] rfl rfl (one_of HT_.out (by kernel_rfl)) (by decide) (fun K hK => ?_)
          refine goes_ Tryz.func31 (by kernel_rfl) rfl #[.int .i64 (wrap64 (a0_0)), .int .i64 4] (by rfl) rfl rfl (by (try simp only [List.map_toArray, List.map_cons, List.map_nil]); first | done | rfl | (simp only [List.length_drop, List.length_take]; rfl)) ?_
          with_reducible refine (impl_HexText.calls k (wrap64 (a0_0)) 4 t907 _ A2.out).mono ?_
          rintro e w10 ⟨rfl, hb⟩
          refine ⟨_, rfl, ?_⟩
          replace BK906 := zA (blk_below (g := gb906) (o := .cells #[.int .u16 a0_0, .int .u8 a0_1, .bool true] 43 (0, 0)) (by (with_reducible repeat (first | refine blk_drewN ?_ _ | refine blk_drew ?_ | refine blk_alloc ?_ _)); exact BK906.out) hb)
          replace HB := zA (below_step (by repeat (first | (with_reducible first | exact HB.out | apply below_alloc | apply pw_below_drewN | apply below_drew1 | refine below_set ?_ GE906.out) | exact HB.out)) hb)
          (try clear hb)
          (try clear hb2)
          (try clear hk)
          (try clear hi)
          refine hK.out _ _ ⟨(blk_cell BK906.out 0).trans rfl, (blk_cell BK906.out 1).trans rfl, (blk_cell BK906.out 2).trans rfl⟩ (fun hHeld => ?_)
          clear hK K
          refine norm_ (a' := ?_) ?_ ?_
          rotate_left
          · show Act.put _ (some 7) _ = _
            simp only [zP]
            rfl
          refine pure_ (i := 4) (N := some 8) (v := ?_) (a' := ?_) #[true, true, true, true, true, true, true, true, false, false, false] rfl rfl (any_of HT_.out (by kernel_rfl)) (fun _ _ _ h => h) (Or.inl ⟨by rfl, ?_⟩) ?_ ?_
          rotate_left
          · intro w'
            go_simp
            with_reducible rfl
          rotate_left
          · simp only [zP]
            rfl
          refine one_ (i := 8) (N := some 12) #[true, true, true, true, true, true, true, true, true, false, false] rfl rfl (one_of HT_.out (by kernel_rfl)) (by decide) (fun K hK => ?_)
          refine goes_ Tryz.func31 (by kernel_rfl) rfl #[.int .i64 (wrap64 (a0_1)), .int .i64 2] (by rfl) rfl rfl (by (try simp only [List.map_toArray, List.map_cons, List.map_nil]); first | done | rfl | (simp only [List.length_drop, List.length_take]; rfl)) ?_
          with_reducible refine (impl_HexText.calls k (wrap64 (a0_1)) 2 t908 _ A4.out).mono ?_
          rintro e w11 ⟨rfl, hb⟩
          refine ⟨_, rfl, ?_⟩
          replace BK906 := zA (blk_below (g := gb906) (o := .cells #[.int .u16 a0_0, .int .u8 a0_1, .bool true] 43 (0, 0)) (by (with_reducible repeat (first | refine blk_drewN ?_ _ | refine blk_drew ?_ | refine blk_alloc ?_ _)); exact BK906.out) hb)
          replace HB := zA (below_step (by repeat (first | (with_reducible first | exact HB.out | apply below_alloc | apply pw_below_drewN | apply below_drew1 | refine below_set ?_ GE906.out) | exact HB.out)) hb)
          (try clear hb)
          (try clear hb2)
          (try clear hk)
          (try clear hi)
          refine hK.out _ _ ⟨(blk_cell BK906.out 0).trans rfl, (blk_cell BK906.out 1).trans rfl, (blk_cell BK906.out 2).trans rfl⟩ (fun hHeld => ?_)
          clear hK K
          refine norm_ (a' := ?_) ?_ ?_
          rotate_left
          · show Act.put _ (some 12) _ = _
            simp only [zP]
            rfl
          refine pure_ (i := 9) (N := some 13) (v := ?_) (a' := ?_) #[true, true, true, true, true, true, true, true, true, true, false] rfl rfl (any_of HT_.out (by kernel_rfl)) (fun _ _ _ h => h) (Or.inl ⟨by rfl, ?_⟩) ?_ ?_
          rotate_left
          · intro w'
            go_simp
            with_reducible rfl
          rotate_left
          · simp only [zP]
            rfl
          refine pure_ (i := 10) (N := some 3) (v := ?_) (a' := ?_) #[true, true, true, true, true, true, true, true, true, true, true] rfl rfl (any_of HT_.out (by kernel_rfl)) (fun _ _ _ h => h) (Or.inl ⟨by rfl, ?_⟩) ?_ ?_
          rotate_left
          · intro w'
            go_simp
            with_reducible rfl
          rotate_left
          · simp only [zP]
            rfl
          refine done_ (done_of HT_.out (by kernel_rfl)) ?_
          have hcz12_0 : w11.cell? ⟨gb906, 0, none⟩ = some (.int .u16 a0_0) := (blk_cell BK906.out 0).trans rfl
          have hcz12_1 : w11.cell? ⟨gb906, 1, none⟩ = some (.int .u8 a0_1) := (blk_cell BK906.out 1).trans rfl
          have hcz12_2 : w11.cell? ⟨gb906, 2, none⟩ = some (.bool true) := (blk_cell BK906.out 2).trans rfl
          have hfz12_0 := blk_frozen BK906.out 0
          have hfz12_1 := blk_frozen BK906.out 1
          have hfz12_2 := blk_frozen BK906.out 2
          try go_wp2
          go_ret
          exact ⟨by first | rfl | (simp [errW_none, errW_some] <;> rfl) | (simp [*, errW_none, errW_some] <;> rfl), by repeat (first | (with_reducible first | exact HB.out | apply below_alloc | apply pw_below_drewN | apply below_drew1 | refine below_set ?_ GE906.out) | exact HB.out)⟩
        · rw [if_neg c7] at H
          exact absurd H (by simp)
      · replace c6 := Bool.eq_false_iff.mpr c6
        subst c6
        have H1 : (if ((t907 ++ (⟨#[32]⟩ : ByteArray)) ++ t908).size + 2 ≤ 9223372036854775807 then (some (((t907 ++ (⟨#[32]⟩ : ByteArray)) ++ t908) ++ (⟨#[32, 114]⟩ : ByteArray))) else (none)) = some r := by rw [if_neg (show ¬ (false = true) by decide)] at H; exact H
        clear H
        have H := H1
        clear H1
        by_cases c13 : ((t907 ++ (⟨#[32]⟩ : ByteArray)) ++ t908).size + 2 ≤ 9223372036854775807
        · rw [if_pos c13] at H
          have c13b0 := eq_true c13
          have c13b1 : decide (((t907 ++ (⟨#[32]⟩ : ByteArray)) ++ t908).size + 2 ≤ 9223372036854775807) = true := decide_eq_true c13
          try have c13b2 : (9223372036854775807 < ((t907 ++ (⟨#[32]⟩ : ByteArray)) ++ t908).size + 2) = False := eq_false (Nat.not_lt.2 c13)
          try have c13b4 : (9223372036854775807 < t907.size + 1 + t908.size + 2) = False := eq_false (Nat.not_lt.2 (by have h_ := of_decide_eq_true c13b1; simp only [ByteArray.size_append] at h_; have e0_ : ((⟨#[32]⟩ : ByteArray)).size = 1 := rfl; omega))
          obtain rfl := Option.some.inj H
          go_enter Tryz.func16, Tryz.ntmps16
          try go_wp2_with (first | ((with_reducible refine gate_dst (N := 1) rfl ?_); refine box_event ?hg (N := 1) ?hd (cs := #[.int .u16 a0_0, .int .u8 a0_1, .bool false]) (t := 43) ?hr ?_; (case hd => rfl); (case hg => rfl); (case hr => first | (go_simp; done) | (go_simp; rfl)); intro gb906 hg w14 hbox hb; have BK906 := zA (hbox); have GW906 := zA ((by rw [hg]; exact (below_size (by repeat (first | (with_reducible first | exact HB.out | apply below_alloc | apply pw_below_drewN | apply below_drew1) | exact HB.out))) : w.heap.size ≤ gb906)); have GE906 := zA ((by rw [hg]; exact (below_size (by repeat (first | (with_reducible first | exact HB.out | apply below_alloc | apply pw_below_drewN | apply below_drew1) | exact HB.out))) : w.heap.size ≤ gb906)); replace HB := zA (below_step (by repeat (first | (with_reducible first | exact HB.out | apply below_alloc | apply pw_below_drewN | apply below_drew1) | exact HB.out)) hb); clear hb hbox hg))
          replace BK906 := zA (blk_drew BK906.out)
          replace HB := zA (below_drew1 HB.out)
          refine start_ (n := 11) (S := fun w' => w'.cell? ⟨gb906, 0, none⟩ = some (.int .u16 a0_0) ∧ w'.cell? ⟨gb906, 1, none⟩ = some (.int .u8 a0_1) ∧ w'.cell? ⟨gb906, 2, none⟩ = some (.bool false)) (ds := []) #[false, false, false, false, false, false, false, false, false, false, false] (by kernel_rfl) rfl rfl ⟨(blk_cell BK906.out 0).trans rfl, (blk_cell BK906.out 1).trans rfl, (blk_cell BK906.out 2).trans rfl⟩ (fun hHeld => ?_); refine with_tabW impl_CycText.tab1 impl_CycText.bits1 (fun HT_ HW_ => ?_)
          generalize w14.drew = w15 at BK906 HB hHeld ⊢
          refine pure_ (i := 0) (N := some 4) (v := ?_) (a' := ?_) #[true, false, false, false, false, false, false, false, false, false, false] rfl rfl (any_of HT_.out (by kernel_rfl)) (fun _ _ _ h => h) (Or.inl ⟨by rfl, ?_⟩) ?_ ?_
          rotate_left
          · intro w'
            go_simp
            with_reducible rfl
          rotate_left
          · simp only [zP]
            rfl
          refine pure_ (i := 5) (N := some 9) (v := ?_) (a' := ?_) #[true, false, false, false, false, true, false, false, false, false, false] rfl rfl (any_of HT_.out (by kernel_rfl)) (fun _ _ _ h => h) (Or.inl ⟨by rfl, ?_⟩) ?_ ?_
          rotate_left
          · intro w'
            go_simp
            with_reducible rfl
          rotate_left
          · simp only [zP]
            rfl
          refine take_ (i := 1) (N := some 5) (v := ?_) (a' := ?_) #[true, true, false, false, false, true, false, false, false, false, false] rfl rfl (take_ofW HT_.out HW_.out (by kernel_rfl)) (fun _ _ _ h => h) (Or.inl ⟨by rfl, ?_⟩) hHeld ?_ ?_
          rotate_left
          · rintro w' ⟨s0, s1, s2⟩
            go_simp
            with_reducible rfl
          rotate_left
          · simp only [zP]
            rfl
          refine pure_ (i := 2) (N := some 6) (v := ?_) (a' := ?_) #[true, true, true, false, false, true, false, false, false, false, false] rfl rfl (any_of HT_.out (by kernel_rfl)) (fun _ _ _ h => h) (Or.inl ⟨by rfl, ?_⟩) ?_ ?_
          rotate_left
          · intro w'
            go_simp
            with_reducible rfl
          rotate_left
          · simp only [zP]
            rfl
          refine take_ (i := 6) (N := some 10) (v := ?_) (a' := ?_) #[true, true, true, false, false, true, true, false, false, false, false] rfl rfl (take_ofW HT_.out HW_.out (by kernel_rfl)) (fun _ _ _ h => h) (Or.inl ⟨by rfl, ?_⟩) hHeld ?_ ?_
          rotate_left
          · rintro w' ⟨s0, s1, s2⟩
            go_simp
            with_reducible rfl
          rotate_left
          · simp only [zP]
            rfl
          refine pure_ (i := 7) (N := some 11) (v := ?_) (a' := ?_) #[true, true, true, false, false, true, true, true, false, false, false] rfl rfl (any_of HT_.out (by kernel_rfl)) (fun _ _ _ h => h) (Or.inl ⟨by rfl, ?_⟩) ?_ ?_
          rotate_left
          · intro w'
            go_simp
            with_reducible rfl
          rotate_left
          · simp only [zP]
            rfl
          refine one_ (i := 3) (N := some 7) #[true, true, true, true, false, true, true, true, false, false, false] rfl rfl (one_of HT_.out (by kernel_rfl)) (by decide) (fun K hK => ?_)
          refine goes_ Tryz.func31 (by kernel_rfl) rfl #[.int .i64 (wrap64 (a0_0)), .int .i64 4] (by rfl) rfl rfl (by (try simp only [List.map_toArray, List.map_cons, List.map_nil]); first | done | rfl | (simp only [List.length_drop, List.length_take]; rfl)) ?_
          with_reducible refine (impl_HexText.calls k (wrap64 (a0_0)) 4 t907 _ A2.out).mono ?_
          rintro e w16 ⟨rfl, hb⟩
          refine ⟨_, rfl, ?_⟩
          replace BK906 := zA (blk_below (g := gb906) (o := .cells #[.int .u16 a0_0, .int .u8 a0_1, .bool false] 43 (0, 0)) (by (with_reducible repeat (first | refine blk_drewN ?_ _ | refine blk_drew ?_ | refine blk_alloc ?_ _)); exact BK906.out) hb)
          replace HB := zA (below_step (by repeat (first | (with_reducible first | exact HB.out | apply below_alloc | apply pw_below_drewN | apply below_drew1 | refine below_set ?_ GE906.out) | exact HB.out)) hb)
          (try clear hb)
          (try clear hb2)
          (try clear hk)
          (try clear hi)
          refine hK.out _ _ ⟨(blk_cell BK906.out 0).trans rfl, (blk_cell BK906.out 1).trans rfl, (blk_cell BK906.out 2).trans rfl⟩ (fun hHeld => ?_)
          clear hK K
          refine norm_ (a' := ?_) ?_ ?_
          rotate_left
          · show Act.put _ (some 7) _ = _
            simp only [zP]
            rfl
          refine pure_ (i := 4) (N := some 8) (v := ?_) (a' := ?_) #[true, true, true, true, true, true, true, true, false, false, false] rfl rfl (any_of HT_.out (by kernel_rfl)) (fun _ _ _ h => h) (Or.inl ⟨by rfl, ?_⟩) ?_ ?_
          rotate_left
          · intro w'
            go_simp
            with_reducible rfl
          rotate_left
          · simp only [zP]
            rfl
          refine one_ (i := 8) (N := some 12) #[true, true, true, true, true, true, true, true, true, false, false] rfl rfl (one_of HT_.out (by kernel_rfl)) (by decide) (fun K hK => ?_)
          refine goes_ Tryz.func31 (by kernel_rfl) rfl #[.int .i64 (wrap64 (a0_1)), .int .i64 2] (by rfl) rfl rfl (by (try simp only [List.map_toArray, List.map_cons, List.map_nil]); first | done | rfl | (simp only [List.length_drop, List.length_take]; rfl)) ?_
          with_reducible refine (impl_HexText.calls k (wrap64 (a0_1)) 2 t908 _ A4.out).mono ?_
          rintro e w17 ⟨rfl, hb⟩
          refine ⟨_, rfl, ?_⟩
          replace BK906 := zA (blk_below (g := gb906) (o := .cells #[.int .u16 a0_0, .int .u8 a0_1, .bool false] 43 (0, 0)) (by (with_reducible repeat (first | refine blk_drewN ?_ _ | refine blk_drew ?_ | refine blk_alloc ?_ _)); exact BK906.out) hb)
          replace HB := zA (below_step (by repeat (first | (with_reducible first | exact HB.out | apply below_alloc | apply pw_below_drewN | apply below_drew1 | refine below_set ?_ GE906.out) | exact HB.out)) hb)
          (try clear hb)
          (try clear hb2)
          (try clear hk)
          (try clear hi)
          refine hK.out _ _ ⟨(blk_cell BK906.out 0).trans rfl, (blk_cell BK906.out 1).trans rfl, (blk_cell BK906.out 2).trans rfl⟩ (fun hHeld => ?_)
          clear hK K
          refine norm_ (a' := ?_) ?_ ?_
          rotate_left
          · show Act.put _ (some 12) _ = _
            simp only [zP]
            rfl
          refine pure_ (i := 9) (N := some 13) (v := ?_) (a' := ?_) #[true, true, true, true, true, true, true, true, true, true, false] rfl rfl (any_of HT_.out (by kernel_rfl)) (fun _ _ _ h => h) (Or.inl ⟨by rfl, ?_⟩) ?_ ?_
          rotate_left
          · intro w'
            go_simp
            with_reducible rfl
          rotate_left
          · simp only [zP]
            rfl
          refine pure_ (i := 10) (N := some 3) (v := ?_) (a' := ?_) #[true, true, true, true, true, true, true, true, true, true, true] rfl rfl (any_of HT_.out (by kernel_rfl)) (fun _ _ _ h => h) (Or.inl ⟨by rfl, ?_⟩) ?_ ?_
          rotate_left
          · intro w'
            go_simp
            with_reducible rfl
          rotate_left
          · simp only [zP]
            rfl
          refine done_ (done_of HT_.out (by kernel_rfl)) ?_
          have hcz18_0 : w17.cell? ⟨gb906, 0, none⟩ = some (.int .u16 a0_0) := (blk_cell BK906.out 0).trans rfl
          have hcz18_1 : w17.cell? ⟨gb906, 1, none⟩ = some (.int .u8 a0_1) := (blk_cell BK906.out 1).trans rfl
          have hcz18_2 : w17.cell? ⟨gb906, 2, none⟩ = some (.bool false) := (blk_cell BK906.out 2).trans rfl
          have hfz18_0 := blk_frozen BK906.out 0
          have hfz18_1 := blk_frozen BK906.out 1
          have hfz18_2 := blk_frozen BK906.out 2
          try go_wp2
          go_ret
          exact ⟨by first | rfl | (simp [errW_none, errW_some] <;> rfl) | (simp [*, errW_none, errW_some] <;> rfl), by repeat (first | (with_reducible first | exact HB.out | apply below_alloc | apply pw_below_drewN | apply below_drew1 | refine below_set ?_ GE906.out) | exact HB.out)⟩
        · rw [if_neg c13] at H
          exact absurd H (by simp)
    · rw [if_neg c5] at H
      exact absurd H (by simp)
  · rw [if_neg c3] at H
    exact absurd H (by simp)
end Go.Proofs.YtafkbhnhmhmjcaaGreatDoor.PRun
end
section
namespace Go.Proofs.YtafkbhnhmhmjcaaGreatDoor.CycLRun
open Go.RowKit Go.Proofs.YtafkbhnhmhmjcaaGreatDoor.PRun Go.Proofs.YtafkbhnhmhmjcaaGreatDoor.Plain Go.Proofs.YtafkbhnhmhmjcaaGreatDoor.Str Go.Proofs.YtafkbhnhmhmjcaaGreatDoor.HexRun Go.Proofs.YtafkbhnhmhmjcaaGreatDoorW.PrintWords Go.Proofs.YtafkbhnhmhmjcaaGreatDoorW.PrintLast
def cycL (x y : Nat) (q : Bool) : List UInt8 := hexL x 4 ++ [32] ++ hexL y 2 ++ [32, if q = true then 119 else 114]
theorem cycL_length (x y : Nat) (q : Bool) : (cycL x y q).length = 9 := by simp [cycL, hexL_length]
theorem implCyc_eq (x y : Nat) (hx : x ≤ 65535) (hy : y ≤ 255) (q : Bool) (k : Nat) (hk : 10 < k) : impl_CycText.f k (x : Int) (y : Int) q = some (S (cycL x y q)) := by
  have p := implHex_eq x (by omega) 4 (by omega) (by omega) k (by omega)
  have p2 := implHex_eq y (by omega) 2 (by omega) (by omega) k (by omega)
  have w1 : wrap64 (x : Int) = x := w64 (by omega) (by omega)
  have w2 : wrap64 (y : Int) = y := w64 (by omega) (by omega)
  have e : (⟨#[32]⟩ : ByteArray) = S [32] := rfl
  have l1 := hexL_length x 4
  have l2 := hexL_length y 2
  have s1 : (S (hexL x 4)).size + 1 ≤ 9223372036854775807 := by rw [S_size]; omega
  have s2 : (S (hexL x 4 ++ [32])).size + (S (hexL y 2)).size ≤ 9223372036854775807 := by rw [S_size, S_size]; simp; omega
  have s3 : (S (hexL x 4 ++ [32] ++ hexL y 2)).size + 2 ≤ 9223372036854775807 := by rw [S_size]; simp; omega
  have f1 : (⟨#[32, 119]⟩ : ByteArray) = S [32, 119] := rfl
  have f2 : (⟨#[32, 114]⟩ : ByteArray) = S [32, 114] := rfl
  rw [show ((4 : Nat) : Int) = 4 from rfl] at p
  rw [show ((2 : Nat) : Int) = 2 from rfl] at p2
  cases q <;> simp only [impl_CycText.f, w1, w2, p, p2, e, f1, f2, S_append, Option.bind_some, if_pos s1, if_pos s2, if_pos s3, if_true, Bool.false_eq_true, if_false, cycL]
theorem cut_addr (x y : Nat) (q : Bool) : (S (cycL x y q)).extract 0 4 = S (hexL x 4) := by
  rw [S_extract]; rfl
theorem cut_data (x y : Nat) (q : Bool) : (S (cycL x y q)).extract 5 7 = S (hexL y 2) := by
  rw [S_extract]; rfl
theorem bt_last (x y : Nat) (q : Bool) : (bt (S (cycL x y q)) 8 == 119) = q := by
  have := bt_S (cycL x y q) 8 (by rw [cycL_length]; omega)
  rw [show ((8 : Nat) : Int) = 8 from rfl] at this
  rw [this]
  cases q <;> rfl
end Go.Proofs.YtafkbhnhmhmjcaaGreatDoor.CycLRun
end
