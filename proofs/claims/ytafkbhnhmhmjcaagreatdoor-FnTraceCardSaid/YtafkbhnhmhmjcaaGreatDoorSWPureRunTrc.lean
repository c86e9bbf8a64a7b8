import Derived.Test.YtafkbhnhmhmjcaaGreatDoorSWPRunx0
import Derived.Test.YtafkbhnhmhmjcaaGreatDoorSWPRunx1
import Derived.Laws.BitsLemmas
import Derived.Laws.BitsAllLaws
import Derived.Test.YtafkbhnhmhmjcaaGreatDoorSWMyLoops
import Derived.Test.YtafkbhnhmhmjcaaGreatDoorSWPureRunCycL
import Derived.Test.YtafkbhnhmhmjcaaGreatDoorSWPureRunRound
import Derived.Test.YtafkbhnhmhmjcaaGreatDoorSWPureRunBack
import Derived.Test.YtafkbhnhmhmjcaaGreatDoorSWMyRunBTraceText
import Derived.Test.YtafkbhnhmhmjcaaGreatDoorSWPRunx37
import Derived.Test.YtafkbhnhmhmjcaaGreatDoorSWPRunx39
import Derived.Test.YtafkbhnhmhmjcaaGreatDoorSWPRunx40
section
namespace Go.Proofs.YtafkbhnhmhmjcaaGreatDoor.PRun
open Go.RowKit Go.Proofs.YtafkbhnhmhmjcaaGreatDoorW.PrintWords Go.Proofs.YtafkbhnhmhmjcaaGreatDoorW.PrintLast Go.Proofs.YtafkbhnhmhmjcaaGreatDoorW.PrintMore
attribute [local go_sem] max2_int min2_int max_two min_two max_three min_three max_four min_four   -- for this text's walks alone
attribute [local go_sem] Go.Proofs.YtafkbhnhmhmjcaaGreatDoor.Cell2.cell_set_off Go.Proofs.YtafkbhnhmhmjcaaGreatDoor.Cell2.set_drewN Go.Proofs.YtafkbhnhmhmjcaaGreatDoor.Cell2.not_beq_bool
set_option linter.unusedVariables false
set_option linter.unusedSimpArgs false
attribute [local go_sem high] eqA43
def laws_sameCycs.l0 : Nat → List (S43) → List (S43) → Int → Option (Bool)
  | 0, _, _, _ => none
  | k + 1, x0, x1, x5 => if x5 < (x0.length : Int) then (if 0 ≤ x5 then (if x5 < (x1.length : Int) then (if (!(((rd_T43 x0 x5).f0) == ((rd_T43 x1 x5).f0)) || (!(((rd_T43 x0 x5).f1) == ((rd_T43 x1 x5).f1)) || (!(((rd_T43 x0 x5).f2) == ((rd_T43 x1 x5).f2))))) = true then (some false) else (laws_sameCycs.l0 k x0 x1 (wrap64 (x5 + 1)))) else (none)) else (none)) else (some true)
def laws_sameCycs.f (k : Nat) (l0 : List (S43)) (l1 : List (S43)) : Option (Bool) := if (l0.length : Int) = (l1.length : Int) then (laws_sameCycs.l0 k l0 l1 0) else (some false)
theorem laws_sameCycs.mono_l : ∀ k, (∀ y0 y1 y2, LeO (laws_sameCycs.l0 k y0 y1 y2) (laws_sameCycs.l0 (k + 1) y0 y1 y2))
  | 0 => fun _ _ _ r h => by simp [laws_sameCycs.l0] at h
  | k + 1 => by
    have ih0 := laws_sameCycs.mono_l k
    · intro y0 y1 y2
      unfold laws_sameCycs.l0
      repeat' first
      | (with_reducible exact ih0 _ _ _)
      | (with_reducible exact LeO.refl _)
      | (with_reducible exact LeO.none _)
      | (with_reducible refine LeO.ite ?_ ?_)
      | (with_reducible refine LeO.bind ?_ (fun _ => ?_))
      | exact ih0 _ _ _
      | exact LeO.none _
      | refine LeO.ite ?_ ?_
      | refine LeO.bind ?_ (fun _ => ?_)
theorem laws_sameCycs.mono : ∀ a0 a1 k, LeO (laws_sameCycs.f k a0 a1) (laws_sameCycs.f (k + 1) a0 a1) := by
  intro a0 a1 k
  have ih0 := laws_sameCycs.mono_l k
  unfold laws_sameCycs.f
  repeat' first
      | (with_reducible exact ih0 _ _ _)
      | (with_reducible exact LeO.refl _)
      | (with_reducible exact LeO.none _)
      | (with_reducible refine LeO.ite ?_ ?_)
      | (with_reducible refine LeO.bind ?_ (fun _ => ?_))
      | exact ih0 _ _ _
      | exact LeO.none _
      | refine LeO.ite ?_ ?_
      | refine LeO.bind ?_ (fun _ => ?_)
set_option maxHeartbeats 8000000 in
set_option maxRecDepth 100000 in
theorem laws_sameCycs.calls (k : Nat) (A0 : Option Addr) (c0 : Nat) (l0 : List (S43)) (A1 : Option Addr) (c1 : Nat) (l1 : List (S43)) (r : Bool) (w : World) (hr0 : Kd.C k43 w A0 l0.length l0) (hc0 : l0.length ≤ c0) (hr1 : Kd.C k43 w A1 l1.length l1) (hc1 : l1.length ≤ c1) (h : laws_sameCycs.f k l0 l1 = some r) :
    Calls Tryz.prog 10 #[.slice A0 l0.length c0, .slice A1 l1.length c1] w fun e w' => e = .returned (.bool r) ∧ Drawn0 w w' := by
  have hu43 := Tryz.underlying43
  have HR0 := zA hr0
  have HC0 := zA hc0
  clear hr0 hc0
  have HR1 := zA hr1
  have HC1 := zA hc1
  clear hr1 hc1
  have H : (if (l0.length : Int) = (l1.length : Int) then (laws_sameCycs.l0 k l0 l1 0) else (some false)) = some r := h
  clear h
  by_cases c3 : (l0.length : Int) = (l1.length : Int)
  · rw [if_pos c3] at H
    have c3b0 : ((l0.length : Int) == (l1.length : Int)) = true := beq_iff_eq.mpr c3
    have c3b1 : ((l0.length : Int) != (l1.length : Int)) = false := bne_eq_false_iff_eq.mpr c3
    have c3b2 : (l0.length == l1.length) = true := by first | simpa using c3 | (simp at c3 ⊢; omega)
    clear c3
    have H' := zA H
    clear H
    go_enter Tryz.func10, Tryz.ntmps10
    go_wp2
    repeat (go_quiet (fail); try go_wp2)
    go_loopg [5] k (fun kq v5 w' => ∃ (x5_1 : Int), v5 = .int .i64 x5_1 ∧ Aside0 (laws_sameCycs.l0 kq l0 l1 x5_1 = some r) ∧ Aside0 (kq ≤ k) ∧ Drawn0 w w')
    case atStart => exact ⟨(0), (by first | rfl | (simp; done) | (simp [*]; done)), H', ⟨Nat.le_refl _⟩, by repeat (first | exact Drawn0.refl _ | apply Drawn0.step)⟩
    case round =>
      clear H'
      try clear c1
      try clear p2
      try clear c3
      try clear c3b0
      try clear c3b1
      try clear c3b2
      obtain ⟨x5_1, rfl, HA, HK1, ⟨m1, rfl⟩⟩ := hrel
      cases gk with
      | zero => exact absurd HA.out (by simp [laws_sameCycs.l0])
      | succ k1 =>
        have H := HA.out
        clear HA
        simp only [laws_sameCycs.l0] at H
        by_cases c4 : x5_1 < (l0.length : Int)
        · rw [if_pos c4] at H
          have c4b0 : decide (x5_1 < (l0.length : Int)) = true := decide_eq_true c4
          clear c4
          by_cases c5 : 0 ≤ x5_1
          · rw [if_pos c5] at H
            have c5b0 : decide (0 ≤ x5_1) = true := decide_eq_true c5
            clear c5
            by_cases c6 : x5_1 < (l1.length : Int)
            · rw [if_pos c6] at H
              have c6b0 : decide (x5_1 < (l1.length : Int)) = true := decide_eq_true c6
              clear c6
              by_cases c7 : (!(((rd_T43 l0 x5_1).f0) == ((rd_T43 l1 x5_1).f0)) || (!(((rd_T43 l0 x5_1).f1) == ((rd_T43 l1 x5_1).f1)) || (!(((rd_T43 l0 x5_1).f2) == ((rd_T43 l1 x5_1).f2))))) = true
              · rw [if_pos c7] at H
                have c7b0 : (!(((rd_T43 l0 x5_1).f0) == ((rd_T43 l1 x5_1).f0)) || (!(((rd_T43 l0 x5_1).f1) == ((rd_T43 l1 x5_1).f1)) || (((rd_T43 l0 x5_1).f2) != ((rd_T43 l1 x5_1).f2)))) = true := c7
                clear c7
                obtain rfl := Option.some.inj H
                have p961 : 0 ≤ (x5_1 : Int) := of_decide_eq_true (by first | (with_reducible assumption) | assumption)
                have q961 : x5_1 < (l0.length : Int) := of_decide_eq_true (by first | (with_reducible assumption) | assumption)
                obtain ⟨ad961, e961, hx961_0, hx961_1, hx961_2⟩ := at_T43 HR0.out x5_1 p961 q961
                cases e961
                replace p961 := eq_true p961
                replace q961 := eq_true q961
                have p962 : 0 ≤ (x5_1 : Int) := of_decide_eq_true (by first | (with_reducible assumption) | assumption)
                have q962 : x5_1 < (l1.length : Int) := of_decide_eq_true (by first | (with_reducible assumption) | assumption)
                obtain ⟨ad962, e962, hx962_0, hx962_1, hx962_2⟩ := at_T43 HR1.out x5_1 p962 q962
                cases e962
                replace p962 := eq_true p962
                replace q962 := eq_true q962
                go_wp2
                repeat (go_quiet (fail); try go_wp2)
                go_ret
                exact ⟨by first | rfl | (simp; done) | (simp [*]; done), by repeat (first | exact Drawn0.refl _ | apply Drawn0.step)⟩
              · rw [if_neg c7] at H
                have c7b0 : (!(((rd_T43 l0 x5_1).f0) == ((rd_T43 l1 x5_1).f0)) || (!(((rd_T43 l0 x5_1).f1) == ((rd_T43 l1 x5_1).f1)) || (((rd_T43 l0 x5_1).f2) != ((rd_T43 l1 x5_1).f2)))) = false := (Bool.not_eq_true _).mp c7
                clear c7
                have H' := zA H
                clear H
                have p961 : 0 ≤ (x5_1 : Int) := of_decide_eq_true (by first | (with_reducible assumption) | assumption)
                have q961 : x5_1 < (l0.length : Int) := of_decide_eq_true (by first | (with_reducible assumption) | assumption)
                obtain ⟨ad961, e961, hx961_0, hx961_1, hx961_2⟩ := at_T43 HR0.out x5_1 p961 q961
                cases e961
                replace p961 := eq_true p961
                replace q961 := eq_true q961
                have p962 : 0 ≤ (x5_1 : Int) := of_decide_eq_true (by first | (with_reducible assumption) | assumption)
                have q962 : x5_1 < (l1.length : Int) := of_decide_eq_true (by first | (with_reducible assumption) | assumption)
                obtain ⟨ad962, e962, hx962_0, hx962_1, hx962_2⟩ := at_T43 HR1.out x5_1 p962 q962
                cases e962
                replace p962 := eq_true p962
                replace q962 := eq_true q962
                go_wp2
                repeat (go_quiet (fail); try go_wp2)
                go_roundg k1
                case measure => have := HK1.out; omega
                case rel => exact ⟨(wrap64 (x5_1 + 1)), (by first | rfl | (simp; done) | (simp [*]; done)), H', ⟨by have := HK1.out; omega⟩, by repeat (first | exact Drawn0.refl _ | apply Drawn0.step)⟩
            · rw [if_neg c6] at H
              exact absurd H (by simp)
          · rw [if_neg c5] at H
            exact absurd H (by simp)
        · rw [if_neg c4] at H
          have c4b0 : decide (x5_1 < (l0.length : Int)) = false := decide_eq_false c4
          clear c4
          obtain rfl := Option.some.inj H
          go_wp2
          repeat (go_quiet (fail); try go_wp2)
          go_ret
          exact ⟨by first | rfl | (simp; done) | (simp [*]; done), by repeat (first | exact Drawn0.refl _ | apply Drawn0.step)⟩
  · rw [if_neg c3] at H
    have c3b0 : ((l0.length : Int) == (l1.length : Int)) = false := beq_eq_false_iff_ne.mpr c3
    have c3b1 : ((l0.length : Int) != (l1.length : Int)) = true := bne_iff_ne.mpr c3
    have c3b2 : (l0.length == l1.length) = false := by first | simpa using c3 | (simp at c3 ⊢; omega)
    obtain rfl := Option.some.inj H
    go_enter Tryz.func10, Tryz.ntmps10
    go_wp2
    repeat (go_quiet (fail); try go_wp2)
    go_ret
    exact ⟨by first | rfl | (simp; done) | (simp [*]; done), by repeat (first | exact Drawn0.refl _ | apply Drawn0.step)⟩
end Go.Proofs.YtafkbhnhmhmjcaaGreatDoor.PRun
end
section
namespace Go.Proofs.YtafkbhnhmhmjcaaGreatDoor.Trc
open Go.RowKit Go.Proofs.YtafkbhnhmhmjcaaGreatDoor.PRun Go.Proofs.YtafkbhnhmhmjcaaGreatDoor.Plain Go.Proofs.YtafkbhnhmhmjcaaGreatDoor.Str Go.Proofs.YtafkbhnhmhmjcaaGreatDoor.HexRun Go.Proofs.YtafkbhnhmhmjcaaGreatDoor.CycLRun Go.Proofs.YtafkbhnhmhmjcaaGreatDoor.ReadRun Go.Proofs.YtafkbhnhmhmjcaaGreatDoor.WordRun Go.Proofs.YtafkbhnhmhmjcaaGreatDoor.LinesRun Go.Proofs.YtafkbhnhmhmjcaaGreatDoor.BackRun Go.Proofs.YtafkbhnhmhmjcaaGreatDoorW.PrintWords Go.Proofs.YtafkbhnhmhmjcaaGreatDoorW.PrintLast Go.Proofs.YtafkbhnhmhmjcaaGreatDoorW.PrintMore
abbrev Cy := S43
theorem rdC_nat (l : List Cy) (i : Nat) (h : i < l.length) : rd_T43 l (i : Int) = l[i] := getD_lt l z43 i h
theorem same_refl (l : List Cy) (h : l.length ≤ 2097152) (k : Nat) (hk : l.length < k) : laws_sameCycs.f k l l = some true := by
  unfold laws_sameCycs.f
  rw [if_pos rfl]
  refine loop_run (fun k (_ : Unit) i => laws_sameCycs.l0 k l l i) (fun _ => ()) l.length true ?_ ?_ k hk
  · intro k i hi
    simp only [laws_sameCycs.l0]
    rw [if_pos (by omega), if_pos (by omega), if_pos (by omega)]
    simp [wsucc (show i < 9223372036854775807 by omega)]
  · intro k
    simp only [laws_sameCycs.l0]
    rw [if_neg (by omega)]
def cyT (c : Cy) : List UInt8 := cycL c.f0.toNat c.f1.toNat c.f2
def lineL (c : Cy) : List UInt8 := cyT c ++ [10]
def Fine (c : Cy) : Prop := 0 ≤ c.f0 ∧ c.f0 ≤ 65535 ∧ 0 ≤ c.f1 ∧ c.f1 ≤ 255
theorem line_length (c : Cy) : (lineL c).length = 10 := by simp [lineL, cyT, cycL_length]
theorem lines_take (l : List Cy) (i : Nat) (h : i < l.length) : (l.take (i + 1)).flatMap lineL = (l.take i).flatMap lineL ++ lineL l[i] := by
  rw [List.take_succ_eq_append_getElem h, List.flatMap_append]; simp
theorem lines_length (l : List Cy) : (l.flatMap lineL).length = 10 * l.length := by
  induction l with
  | nil => rfl
  | cons c l ih => simp only [List.flatMap_cons, List.length_append, ih, line_length, List.length_cons]; omega
theorem lines_take_length (l : List Cy) (i : Nat) (h : i ≤ l.length) : ((l.take i).flatMap lineL).length = 10 * i := by
  rw [lines_length, List.length_take]; omega
theorem S_bytes (l : List UInt8) : (S l).data.toList = l := by simp [S]
theorem impl_text (l : List Cy) (hl : l.length ≤ 1200) (hw : ∀ c ∈ l, Fine c) (k : Nat) (hk : 1300 < k) : impl_TraceText.f k l = some (S (l.flatMap lineL)) := by
  simp only [impl_TraceText.f]
  rw [if_neg (by omega)]
  obtain ⟨k, rfl⟩ : ∃ j, k = j + 12 := ⟨k - 12, by omega⟩
  have := loop_run (fun k x i => impl_TraceText.l0 (k + 12) l x i) (fun i => (l.take i).flatMap lineL) l.length (l.flatMap lineL) ?_ ?_ k (by omega)
  · have h2 : impl_TraceText.l0 (k + 12) l [] 0 = some (l.flatMap lineL) := this
    rw [h2]; rfl
  · intro k i hi
    have hf := lines_take l i hi
    have hlen := lines_take_length l i (by omega)
    obtain ⟨w0, w1, w2, w3⟩ := hw _ (List.getElem_mem hi)
    have hc := implCyc_eq (l[i]).f0.toNat (l[i]).f1.toNat (by omega) (by omega) (l[i]).f2 (k + 12) (by omega)
    rw [Int.toNat_of_nonneg w0, Int.toNat_of_nonneg w2] at hc
    have hz : (S (cycL (l[i]).f0.toNat (l[i]).f1.toNat (l[i]).f2)).size = 9 := by rw [S_size, cycL_length]
    have e : (⟨#[10]⟩ : ByteArray) = S [10] := rfl
    show impl_TraceText.l0 (k + 12 + 1) l ((l.take i).flatMap lineL) (i : Int) = impl_TraceText.l0 (k + 12) l ((l.take (i + 1)).flatMap lineL) ((i + 1 : Nat) : Int)
    simp only [impl_TraceText.l0]
    rw [if_pos (by omega), if_pos (by omega), rdC_nat _ _ hi, hc]
    simp only [Option.bind_some]
    rw [if_pos (by rw [hz]; omega), if_pos (by rw [hlen]; omega), hf, e, S_append, S_bytes, show (i : Int) + 1 = ((i + 1 : Nat) : Int) by omega]
    rfl
  · intro k
    show impl_TraceText.l0 (k + 12 + 1) l _ _ = _
    simp only [impl_TraceText.l0]
    rw [if_neg (by omega), List.take_length]
theorem impl_text_big (l : List Cy) (hl : ¬ l.length ≤ 1200) (k : Nat) : impl_TraceText.f k l = some (⟨#[]⟩ : ByteArray) := by
  simp only [impl_TraceText.f]
  rw [if_pos (by omega)]
theorem readCyc_cyc (x y : Nat) (hx : x ≤ 65535) (hy : y ≤ 255) (q : Bool) (k : Nat) (hk : 20 < k) : impl_ReadCyc.f k (S (cycL x y q)) = some ((x : Int), (y : Int), q, true) := by
  have hs : ((S (cycL x y q)).size : Int) = 9 := by rw [S_size, cycL_length]; rfl
  have a2 : ∀ k, 10 < k → impl_ReadHex.f k ((S (cycL x y q)).extract 0 4) 4 = some (x : Int) := fun k hk => by rw [cut_addr]; exact round_hex x 4 (by omega) (by omega) (by omega) k hk
  have d2 : ∀ k, 10 < k → impl_ReadHex.f k ((S (cycL x y q)).extract 5 7) 2 = some (y : Int) := fun k hk => by rw [cut_data]; exact round_hex y 2 (by omega) (by omega) (by omega) k hk
  have t1 : (0 : Nat) ≤ 4 := by omega
  have t2 : (4 : Int) ≤ ((S (cycL x y q)).size : Int) := by omega
  have t3 : (5 : Nat) ≤ 7 := by omega
  have t4 : (7 : Int) ≤ ((S (cycL x y q)).size : Int) := by omega
  have t5 : (8 : Int) < ((S (cycL x y q)).size : Int) := by omega
  have mx' : mx 0 (x : Int) = (x : Int) := by unfold mx; split <;> omega
  have my' : mx 0 (y : Int) = (y : Int) := by unfold mx; split <;> omega
  have e1 : IntKind.u16.wrap (x : Int) = (x : Int) := by rw [IntKind.wrap_u16]; omega
  have e2 : (y : Int) % 256 = (y : Int) := by omega
  simp only [impl_ReadCyc.f, a2 k (by omega), d2 k (by omega), Option.bind_some, mx', my', e1, e2, implCyc_eq x y hx hy _ k (by omega)]
  rw [if_pos hs, if_pos t1, if_pos t2, if_pos t3, if_pos t4, if_pos t5, bt_last, if_pos rfl]
theorem dig_bl (m : Nat) (h : m < 16) : bl (dig m) = false := by
  have key : ∀ m, m < 16 → bl (dig m) = false := by decide
  exact key m h
theorem dig_nl (m : Nat) (h : m < 16) : dig m ≠ 10 := by
  have key : ∀ m, m < 16 → dig m ≠ 10 := by decide
  exact key m h
theorem hexL_all {P : UInt8 → Prop} (hP : ∀ m, m < 16 → P (dig m)) (n : Nat) : ∀ i c, c ∈ hexL n i → P c
  | 0, c, hc => by simp [hexL] at hc
  | i + 1, c, hc => by
    simp only [hexL] at hc
    rcases List.mem_cons.mp hc with rfl | hc
    · exact hP _ (Nat.mod_lt _ (by decide))
    · exact hexL_all hP n i c hc
theorem words_cyc (x y : Nat) (q : Bool) : W [] (cycL x y q) = [hexL x 4, hexL y 2, [if q = true then 119 else 114]] := by
  have e : cycL x y q = hexL x 4 ++ 32 :: (hexL y 2 ++ 32 :: [if q = true then 119 else 114]) := by unfold cycL; simp
  have n4 : ([] ++ hexL x 4) ≠ [] := by intro h; have := congrArg List.length h; simp [hexL_length] at this
  have n2 : ([] ++ hexL y 2) ≠ [] := by intro h; have := congrArg List.length h; simp [hexL_length] at this
  rw [e, W_whole _ _ _ (hexL_all (P := fun c => bl c = false) dig_bl x 4) n4, W_whole _ _ _ (hexL_all (P := fun c => bl c = false) dig_bl y 2) n2]
  cases q <;> rfl
theorem join_cyc (x y : Nat) (q : Bool) : Lib.join [hexL x 4, hexL y 2, [if q = true then 119 else 114]] [32] = cycL x y q := by
  unfold cycL
  simp [Lib.join_cons, Lib.joinTail]
theorem go_line : ∀ (w cur r : List UInt8), (∀ c ∈ w, c ≠ 10) → go cur (w ++ 10 :: r) = (cur ++ w) :: go [] r
  | [], cur, r, _ => by simp [go]
  | c :: w, cur, r, h => by
    have hc : c ≠ 10 := h c (by simp)
    simp only [List.cons_append, go, if_neg hc]
    rw [go_line w (cur ++ [c]) r (fun d hd => h d (by simp [hd]))]
    simp
theorem cyc_nl (x y : Nat) (q : Bool) : ∀ c ∈ cycL x y q, c ≠ 10 := by
  intro c hc
  unfold cycL at hc
  simp only [List.mem_append, List.mem_cons, List.not_mem_nil, or_false] at hc
  rcases hc with ((hc | rfl) | hc) | rfl | rfl
  · exact hexL_all (P := fun c => c ≠ 10) dig_nl x 4 c hc
  · decide
  · exact hexL_all (P := fun c => c ≠ 10) dig_nl y 2 c hc
  · decide
  · cases q <;> decide
theorem lines_text : ∀ l : List Cy, lines (l.flatMap lineL) = l.map cyT
  | [] => by rw [lines_go]; rfl
  | c :: l => by
    have ih := lines_text l
    rw [lines_go] at ih ⊢
    have e : (c :: l).flatMap lineL = cyT c ++ 10 :: l.flatMap lineL := by simp [lineL]
    rw [e, go_line _ _ _ (show ∀ d ∈ cyT c, d ≠ 10 from cyc_nl _ _ _), ih]
    rfl
theorem rd_S (ws : List (List UInt8)) (i : Nat) (h : i < ws.length) : rdOf ByteArray.empty (ws.map S) (i : Int) = S ws[i] := by
  show (ws.map S).getD ((i : Int)).toNat ByteArray.empty = _
  rw [Int.toNat_natCast, getD_lt _ _ _ (by simpa using h), List.getElem_map]
theorem read_back (l : List Cy) (hl : l.length ≤ 1200) (hw : ∀ c ∈ l, Fine c) (k : Nat) (hk : 1300 < k) : impl_ReadTrace.f k (S (l.flatMap lineL)) = some (l, 0) := by
  have hz : (S (l.flatMap lineL)).size = 10 * l.length := by rw [S_size, lines_length]
  have e2 : impl_Lines.f (S (l.flatMap lineL)) = some ((l.map cyT).map S) := by
    unfold impl_Lines.f
    rw [if_pos (by omega), linesOf_eq, lines_text]
  simp only [impl_ReadTrace.f, e2, Option.bind_some]
  rw [if_neg (by omega)]
  have hlen : ((l.map cyT).map S).length = l.length := by simp
  obtain ⟨k, rfl⟩ : ∃ j, k = j + 30 := ⟨k - 30, by omega⟩
  have := loop_run (fun k x i => impl_ReadTrace.l0 (k + 30) x ((l.map cyT).map S) (((l.map cyT).map S).length : Int) i) (fun i => l.take i) l.length (l, (0 : Int)) ?_ ?_ k (by omega)
  · exact this
  · intro k i hi
    obtain ⟨w0, w1, w2, w3⟩ := hw _ (List.getElem_mem hi)
    have hr : rdOf ByteArray.empty ((l.map cyT).map S) (i : Int) = S (cycL (l[i]).f0.toNat (l[i]).f1.toNat (l[i]).f2) := by
      rw [rd_S _ _ (by simpa using hi), List.getElem_map]; rfl
    have hwd : impl_Words.f (S (cycL (l[i]).f0.toNat (l[i]).f1.toNat (l[i]).f2)) = some ([hexL (l[i]).f0.toNat 4, hexL (l[i]).f1.toNat 2, [if (l[i]).f2 = true then 119 else 114]].map S) := by
      rw [impl_words _ (by rw [S_size, cycL_length]; omega), words_W, words_cyc]
    have hj : strings_Join.f ([hexL (l[i]).f0.toNat 4, hexL (l[i]).f1.toNat 2, [if (l[i]).f2 = true then 119 else 114]].map S) (⟨#[32]⟩ : ByteArray) = some (S (cycL (l[i]).f0.toNat (l[i]).f1.toNat (l[i]).f2)) := by
      have em : ([hexL (l[i]).f0.toNat 4, hexL (l[i]).f1.toNat 2, [if (l[i]).f2 = true then 119 else 114]].map S).map (·.data.toList) = [hexL (l[i]).f0.toNat 4, hexL (l[i]).f1.toNat 2, [if (l[i]).f2 = true then 119 else 114]] := by simp [S]
      have e32 : (⟨#[32]⟩ : ByteArray).data.toList = [32] := rfl
      unfold strings_Join.f
      rw [em, e32, join_cyc, if_pos (by simp), if_pos (by rw [cycL_length]; omega)]
      rfl
    obtain ⟨m, hm⟩ : ∃ m, m = k + 30 := ⟨_, rfl⟩
    have hc := readCyc_cyc (l[i]).f0.toNat (l[i]).f1.toNat (by omega) (by omega) (l[i]).f2 m (by omega)
    rw [Int.toNat_of_nonneg w0, Int.toNat_of_nonneg w2] at hc
    show impl_ReadTrace.l0 (k + 30 + 1) (l.take i) _ _ (i : Int) = impl_ReadTrace.l0 (k + 30) (l.take (i + 1)) _ _ ((i + 1 : Nat) : Int)
    rw [← hm]
    simp only [impl_ReadTrace.l0]
    rw [if_pos (by omega), if_pos (by omega), if_pos (by omega), hr, hwd]
    simp only [Option.bind_some]
    rw [if_neg (by simp), hj]
    simp only [Option.bind_some, hc, if_true]
    rw [if_neg (by rw [List.length_take]; omega), if_pos (by rw [List.length_take]; omega), wsucc (by omega), List.take_succ_eq_append_getElem hi]
  · intro k
    show impl_ReadTrace.l0 (k + 30 + 1) (l.take l.length) _ _ _ = _
    obtain ⟨m, hm⟩ : ∃ m, m = k + 30 := ⟨_, rfl⟩
    rw [← hm]
    simp only [impl_ReadTrace.l0]
    rw [if_neg (by omega), List.take_length]
def pk (c : Cy) : List Int := [c.f0 % 256, c.f0 / 256 % 256, c.f1, if c.f2 = true then 1 else 0]
theorem bit_eq (b : Bool) : impl_bit.f b 0 = some (if b = true then 1 else 0) := by cases b <;> decide +kernel
theorem flat_len (l : List Cy) : (l.flatMap pk).length = 4 * l.length := by
  induction l with
  | nil => rfl
  | cons c l ih => simp only [List.flatMap_cons, List.length_append, ih, List.length_cons]; simp [pk]; omega
theorem flat_take (l : List Cy) (i : Nat) (h : i < l.length) : (l.take (i + 1)).flatMap pk = (l.take i).flatMap pk ++ pk l[i] := by
  rw [List.take_succ_eq_append_getElem h, List.flatMap_append]; simp
theorem flat_take_len (l : List Cy) (i : Nat) (h : i ≤ l.length) : ((l.take i).flatMap pk).length = 4 * i := by
  rw [flat_len, List.length_take]; omega
theorem pack_eq (l : List Cy) (h : l.length ≤ 1200) (k : Nat) (hk : l.length < k) : impl_PackTrace.f k l = some (l.flatMap pk) := by
  simp only [impl_PackTrace.f]
  rw [if_neg (by omega)]
  have := loop_run (fun k x i => impl_PackTrace.l0 k x l (l.length : Int) i) (fun i => (l.take i).flatMap pk) l.length (l.flatMap pk) ?_ ?_ k hk
  · simpa using this
  · intro k i hi
    have hf := flat_take l i hi
    have hlen := flat_take_len l i (by omega)
    simp only [impl_PackTrace.l0]
    rw [if_pos (by omega), if_pos (by omega), if_pos (by omega), rdC_nat _ _ hi, bit_eq]
    simp only [Option.bind_some, List.length_cons, List.length_nil]
    rw [if_pos (by omega), wsucc (by omega), hf]
    rfl
  · intro k
    simp only [impl_PackTrace.l0]
    rw [if_neg (by omega), List.take_length]
theorem pack_big (l : List Cy) (h : ¬ l.length ≤ 1200) (k : Nat) : impl_PackTrace.f k l = some [] := by
  simp only [impl_PackTrace.f]
  rw [if_pos (by omega)]
theorem flat_get : ∀ (l : List Cy) (j t : Nat) (hj : j < l.length), t < 4 → (l.flatMap pk)[4 * j + t]? = (pk l[j])[t]?
  | [], j, t, hj, _ => by simp at hj
  | c :: l, 0, t, hj, ht => by
    rw [List.flatMap_cons, Nat.mul_zero, Nat.zero_add, List.getElem?_append_left (by simp [pk]; omega)]
    rfl
  | c :: l, j + 1, t, hj, ht => by
    rw [List.flatMap_cons, List.getElem?_append_right (by simp [pk]; omega)]
    have e : 4 * (j + 1) + t - (pk c).length = 4 * j + t := by simp [pk]; omega
    rw [e, flat_get l j t (by simpa using hj) ht]
    rfl
theorem flat_rd (l : List Cy) (j t : Nat) (hj : j < l.length) (ht : t < 4) : rd (l.flatMap pk) ((4 * j + t : Nat) : Int) = (pk l[j]).getD t 0 := by
  unfold rd
  rw [Int.toNat_natCast, List.getD_eq_getElem?_getD, List.getD_eq_getElem?_getD, flat_get l j t hj ht]
theorem wraps_u16 (n : Int) (h₀ : 0 ≤ n) (h₁ : n < 2 ^ 16) : IntKind.u16.wrap n = n := by rw [IntKind.wrap_u16]; omega
theorem word_eq {a b : Int} (a0 : 0 ≤ a) (a1 : a ≤ 255) (b0 : 0 ≤ b) (b1 : b ≤ 255) : impl_wordOf.f a b = some (b * 256 + a) := by
  unfold impl_wordOf.f
  rw [wraps_u16 b (by omega) (by omega), wraps_u16 (b * 256) (by omega) (by omega), wraps_u16 a (by omega) (by omega)]
  have : Go.bits .or .u16 (b * 256) a = b * 256 + a := bits_join .u16 16 (by decide) wraps_u16 8 (b * 256) a (by omega) (by omega) (by omega) (by omega) (by omega) (by omega)
  rw [this]
theorem unpack_run (l : List Cy) (h : l.length ≤ 1200) (hw : ∀ c ∈ l, Fine c) : ∀ (d j k : Nat), j + d = l.length → d < k → impl_UnpackTrace.l0 k (l.flatMap pk) (l.take j) ((4 * j : Nat) : Int) = some (l, true) := by
  intro d
  induction d with
  | zero =>
    intro j k hj hk
    obtain ⟨k, rfl⟩ : ∃ m, k = m + 1 := ⟨k - 1, by omega⟩
    have hn := flat_len l
    simp only [impl_UnpackTrace.l0]
    rw [if_neg (by omega), List.take_of_length_le (by omega)]
  | succ d ih =>
    intro j k hj hk
    obtain ⟨k, rfl⟩ : ∃ m, k = m + 1 := ⟨k - 1, by omega⟩
    have hn := flat_len l
    have hjl : j < l.length := by omega
    obtain ⟨w0, w1, w2, w3⟩ := hw _ (List.getElem_mem hjl)
    have e1 : wrap64 (((4 * j : Nat) : Int) + 1) = ((4 * j + 1 : Nat) : Int) := by rw [w64 (by omega) (by omega)]; omega
    have e2 : wrap64 (((4 * j : Nat) : Int) + 2) = ((4 * j + 2 : Nat) : Int) := by rw [w64 (by omega) (by omega)]; omega
    have e3 : wrap64 (((4 * j : Nat) : Int) + 3) = ((4 * j + 3 : Nat) : Int) := by rw [w64 (by omega) (by omega)]; omega
    have e4 : wrap64 (((4 * j : Nat) : Int) + 4) = ((4 * (j + 1) : Nat) : Int) := by rw [w64 (by omega) (by omega)]; omega
    have r0 := flat_rd l j 0 hjl (by omega)
    have r1 := flat_rd l j 1 hjl (by omega)
    have r2 := flat_rd l j 2 hjl (by omega)
    have r3 := flat_rd l j 3 hjl (by omega)
    rw [Nat.add_zero] at r0
    simp only [pk, List.getD_cons_zero, List.getD_cons_succ] at r0 r1 r2 r3
    have hwd := word_eq (a := (l[j]).f0 % 256) (b := (l[j]).f0 / 256 % 256) (by omega) (by omega) (by omega) (by omega)
    simp only [impl_UnpackTrace.l0, e1, e2, e3, e4, r0, r1, r2, r3, hwd, Option.bind_some]
    rw [if_pos (by omega), if_pos (by omega), if_pos (by omega), if_neg (by split <;> omega), if_pos (by omega), if_pos (by omega), if_pos (by omega), if_pos (by omega), if_pos (by omega), if_pos (by rw [List.length_take]; omega)]
    have ec : (⟨(l[j]).f0 / 256 % 256 * 256 + (l[j]).f0 % 256, (l[j]).f1, ((if (l[j]).f2 = true then (1 : Int) else 0) == 1)⟩ : Cy) = l[j] := by
      have h0 : (l[j]).f0 / 256 % 256 * 256 + (l[j]).f0 % 256 = (l[j]).f0 := by omega
      have hb2 : ((if (l[j]).f2 = true then (1 : Int) else 0) == 1) = (l[j]).f2 := by cases (l[j]).f2 <;> rfl
      rw [h0, hb2]
    rw [ec, ← List.take_succ_eq_append_getElem hjl]
    exact ih (j + 1) k (by omega) (by omega)
theorem unpack_back (l : List Cy) (h : l.length ≤ 1200) (hw : ∀ c ∈ l, Fine c) (k : Nat) (hk : 1300 < k) : impl_UnpackTrace.f k (l.flatMap pk) = some (l, true) := by
  obtain ⟨k, rfl⟩ : ∃ m, k = m + 1 := ⟨k - 1, by omega⟩
  have hn := flat_len l
  have h2 := unpack_run l h hw l.length 0 k (by omega) (by omega)
  simp only [impl_UnpackTrace.f, if_pos (show ((l.flatMap pk).length : Int) % 4 = 0 by omega), decide_eq_false (show ¬ ((l.flatMap pk).length : Int) > 4800 by omega), impl_UnpackTrace.j0, Bool.false_eq_true, if_false]
  simpa using h2
end Go.Proofs.YtafkbhnhmhmjcaaGreatDoor.Trc
end
