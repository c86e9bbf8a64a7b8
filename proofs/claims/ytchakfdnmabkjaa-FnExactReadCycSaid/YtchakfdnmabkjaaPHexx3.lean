/- Functions of the program as plain Lean functions, each with a proof that the machine's call comes to it; written for this seat's claims by a program of mine. -/
import Derived.Test.YtchakfdnmabkjaaPHexx0
import Derived.Test.YtchakfdnmabkjaaPHexx2
namespace Go.Proofs.Ytchakfdnmabkjaa.PHex
open Go.RowKit Go.Proofs.YtchakfdnmabkjaaW.PrintWords Go.Proofs.YtchakfdnmabkjaaW.PrintLast Go.Proofs.YtchakfdnmabkjaaW.PrintMore
attribute [local go_sem] max2_int min2_int max_two min_two max_three min_three max_four min_four   -- for this text's walks alone
attribute [local go_sem] Go.Proofs.Ytchakfdnmabkjaa.Cell2.cell_set_off Go.Proofs.Ytchakfdnmabkjaa.Cell2.set_drewN Go.Proofs.Ytchakfdnmabkjaa.Cell2.not_beq_bool
set_option linter.unusedVariables false
set_option linter.unusedSimpArgs false

/-! ### spec_CycText: function 13 -/
def spec_CycText.f (k : Nat) (a0_0 : Int) (a0_1 : Int) (a0_2 : Bool) : Option (ByteArray) := if a0_2 = true then ((spec_HexText.f k (wrap64 (a0_0)) 4).bind fun t111 => (if t111.size + 1 ≤ 9223372036854775807 then ((spec_HexText.f k (wrap64 (a0_1)) 2).bind fun t112 => (if (t111 ++ (⟨#[32]⟩ : ByteArray)).size + t112.size ≤ 9223372036854775807 then (if ((t111 ++ (⟨#[32]⟩ : ByteArray)) ++ t112).size + 2 ≤ 9223372036854775807 then (some (((t111 ++ (⟨#[32]⟩ : ByteArray)) ++ t112) ++ (⟨#[32, 119]⟩ : ByteArray))) else (none)) else (none))) else (none))) else ((spec_HexText.f k (wrap64 (a0_0)) 4).bind fun t113 => (if t113.size + 1 ≤ 9223372036854775807 then ((spec_HexText.f k (wrap64 (a0_1)) 2).bind fun t114 => (if (t113 ++ (⟨#[32]⟩ : ByteArray)).size + t114.size ≤ 9223372036854775807 then (if ((t113 ++ (⟨#[32]⟩ : ByteArray)) ++ t114).size + 2 ≤ 9223372036854775807 then (some (((t113 ++ (⟨#[32]⟩ : ByteArray)) ++ t114) ++ (⟨#[32, 114]⟩ : ByteArray))) else (none)) else (none))) else (none)))
theorem spec_CycText.mono : ∀ a0 a1 a2 k, LeO (spec_CycText.f k a0 a1 a2) (spec_CycText.f (k + 1) a0 a1 a2) := by
  intro a0 a1 a2 k
  unfold spec_CycText.f
  repeat' first
      | (with_reducible exact spec_HexText.mono _ _ _)
      | (with_reducible exact LeO.refl _)
      | (with_reducible exact LeO.none _)
      | (with_reducible refine LeO.ite ?_ ?_)
      | (with_reducible refine LeO.bind ?_ (fun _ => ?_))
      | exact spec_HexText.mono _ _ _
      | exact LeO.none _
      | refine LeO.ite ?_ ?_
      | refine LeO.bind ?_ (fun _ => ?_)
set_option maxHeartbeats 8000000 in
set_option maxRecDepth 100000 in
theorem spec_CycText.calls (k : Nat) (a0_0 : Int) (a0_1 : Int) (a0_2 : Bool) (r : ByteArray) (w : World) (h : spec_CycText.f k a0_0 a0_1 a0_2 = some r) :
    Calls Try.prog 13 #[.agg #[.int .u16 a0_0, .int .u8 a0_1, .bool a0_2]] w fun e w' => e = .returned (.string r) ∧ Below w.heap.size w w' := by
  have hu30 := Try.underlying30
  have HB := Aside0.mk (Below.refl w.heap.size w)
  have H : (if a0_2 = true then ((spec_HexText.f k (wrap64 (a0_0)) 4).bind fun t111 => (if t111.size + 1 ≤ 9223372036854775807 then ((spec_HexText.f k (wrap64 (a0_1)) 2).bind fun t112 => (if (t111 ++ (⟨#[32]⟩ : ByteArray)).size + t112.size ≤ 9223372036854775807 then (if ((t111 ++ (⟨#[32]⟩ : ByteArray)) ++ t112).size + 2 ≤ 9223372036854775807 then (some (((t111 ++ (⟨#[32]⟩ : ByteArray)) ++ t112) ++ (⟨#[32, 119]⟩ : ByteArray))) else (none)) else (none))) else (none))) else ((spec_HexText.f k (wrap64 (a0_0)) 4).bind fun t113 => (if t113.size + 1 ≤ 9223372036854775807 then ((spec_HexText.f k (wrap64 (a0_1)) 2).bind fun t114 => (if (t113 ++ (⟨#[32]⟩ : ByteArray)).size + t114.size ≤ 9223372036854775807 then (if ((t113 ++ (⟨#[32]⟩ : ByteArray)) ++ t114).size + 2 ≤ 9223372036854775807 then (some (((t113 ++ (⟨#[32]⟩ : ByteArray)) ++ t114) ++ (⟨#[32, 114]⟩ : ByteArray))) else (none)) else (none))) else (none)))) = some r := h
  clear h
  by_cases c2 : a0_2 = true
  · subst c2
    have H1 : ((spec_HexText.f k (wrap64 (a0_0)) 4).bind fun t111 => (if t111.size + 1 ≤ 9223372036854775807 then ((spec_HexText.f k (wrap64 (a0_1)) 2).bind fun t112 => (if (t111 ++ (⟨#[32]⟩ : ByteArray)).size + t112.size ≤ 9223372036854775807 then (if ((t111 ++ (⟨#[32]⟩ : ByteArray)) ++ t112).size + 2 ≤ 9223372036854775807 then (some (((t111 ++ (⟨#[32]⟩ : ByteArray)) ++ t112) ++ (⟨#[32, 119]⟩ : ByteArray))) else (none)) else (none))) else (none))) = some r := by rw [if_pos rfl] at H; exact H
    clear H
    have H := H1
    clear H1
    replace H := Option.bind_eq_some_iff.mp H
    obtain ⟨t111, A30, H⟩ := H
    replace H : (if t111.size + 1 ≤ 9223372036854775807 then ((spec_HexText.f k (wrap64 (a0_1)) 2).bind fun t112 => (if (t111 ++ (⟨#[32]⟩ : ByteArray)).size + t112.size ≤ 9223372036854775807 then (if ((t111 ++ (⟨#[32]⟩ : ByteArray)) ++ t112).size + 2 ≤ 9223372036854775807 then (some (((t111 ++ (⟨#[32]⟩ : ByteArray)) ++ t112) ++ (⟨#[32, 119]⟩ : ByteArray))) else (none)) else (none))) else (none)) = some r := H
    have A3 := Aside0.mk A30
    clear A30
    by_cases c4 : t111.size + 1 ≤ 9223372036854775807
    · rw [if_pos c4] at H
      have c4b0 := eq_true c4
      have c4b1 : decide (t111.size + 1 ≤ 9223372036854775807) = true := decide_eq_true c4
      try have c4b2 : (9223372036854775807 < t111.size + 1) = False := eq_false (Nat.not_lt.2 c4)
      replace H := Option.bind_eq_some_iff.mp H
      obtain ⟨t112, A50, H⟩ := H
      replace H : (if (t111 ++ (⟨#[32]⟩ : ByteArray)).size + t112.size ≤ 9223372036854775807 then (if ((t111 ++ (⟨#[32]⟩ : ByteArray)) ++ t112).size + 2 ≤ 9223372036854775807 then (some (((t111 ++ (⟨#[32]⟩ : ByteArray)) ++ t112) ++ (⟨#[32, 119]⟩ : ByteArray))) else (none)) else (none)) = some r := H
      have A5 := Aside0.mk A50
      clear A50
      by_cases c6 : (t111 ++ (⟨#[32]⟩ : ByteArray)).size + t112.size ≤ 9223372036854775807
      · rw [if_pos c6] at H
        have c6b0 := eq_true c6
        have c6b1 : decide ((t111 ++ (⟨#[32]⟩ : ByteArray)).size + t112.size ≤ 9223372036854775807) = true := decide_eq_true c6
        try have c6b2 : (9223372036854775807 < (t111 ++ (⟨#[32]⟩ : ByteArray)).size + t112.size) = False := eq_false (Nat.not_lt.2 c6)
        try have c6b4 : (9223372036854775807 < t111.size + 1 + t112.size) = False := eq_false (Nat.not_lt.2 (by have h_ := of_decide_eq_true c6b1; simp only [ByteArray.size_append] at h_; have e0_ : ((⟨#[32]⟩ : ByteArray)).size = 1 := rfl; omega))
        by_cases c7 : ((t111 ++ (⟨#[32]⟩ : ByteArray)) ++ t112).size + 2 ≤ 9223372036854775807
        · rw [if_pos c7] at H
          have c7b0 := eq_true c7
          have c7b1 : decide (((t111 ++ (⟨#[32]⟩ : ByteArray)) ++ t112).size + 2 ≤ 9223372036854775807) = true := decide_eq_true c7
          try have c7b2 : (9223372036854775807 < ((t111 ++ (⟨#[32]⟩ : ByteArray)) ++ t112).size + 2) = False := eq_false (Nat.not_lt.2 c7)
          try have c7b4 : (9223372036854775807 < t111.size + 1 + t112.size + 2) = False := eq_false (Nat.not_lt.2 (by have h_ := of_decide_eq_true c7b1; simp only [ByteArray.size_append] at h_; have e0_ : ((⟨#[32]⟩ : ByteArray)).size = 1 := rfl; omega))
          obtain rfl := Option.some.inj H
          go_enter Try.func13, Try.ntmps13
          go_wp2_with (first | ((with_reducible refine gate_dst (N := 1) rfl ?_); refine box_event ?hg (N := 1) ?hd (cs := #[.int .u16 a0_0, .int .u8 a0_1, .bool true]) (t := 30) ?hr ?_; (case hd => rfl); (case hg => rfl); (case hr => first | (go_simp; done) | (go_simp; rfl)); intro gb110 hg w8 hbox hb; have n0_ := Aside0.mk (below_step (by repeat (first | (with_reducible first | exact HB.out | apply below_alloc | apply pw_below_drewN | apply below_drew1) | exact HB.out)) hb); have n1_ := Aside0.mk (hbox); have n2_ := Aside0.mk ((by rw [hg]; exact (below_size (by repeat (first | (with_reducible first | exact HB.out | apply below_alloc | apply pw_below_drewN | apply below_drew1) | exact HB.out))) : w.heap.size ≤ gb110)); have n3_ := Aside0.mk ((by rw [hg]; exact (below_size (by repeat (first | (with_reducible first | exact HB.out | apply below_alloc | apply pw_below_drewN | apply below_drew1) | exact HB.out))) : w.heap.size ≤ gb110)); clear HB; have HB := n0_; have BK110 := n1_; have GW110 := n2_; have GE110 := n3_; clear n0_ n1_ n2_ n3_; clear hb hbox hg; have hcz9_0 : w8.cell? ⟨gb110, 0, none⟩ = some (.int .u16 a0_0) := (blk_cell BK110.out 0).trans rfl; have hcz9_1 : w8.cell? ⟨gb110, 1, none⟩ = some (.int .u8 a0_1) := (blk_cell BK110.out 1).trans rfl; have hcz9_2 : w8.cell? ⟨gb110, 2, none⟩ = some (.bool true) := (blk_cell BK110.out 2).trans rfl; have hfz9_0 := blk_frozen BK110.out 0; have hfz9_1 := blk_frozen BK110.out 1; have hfz9_2 := blk_frozen BK110.out 2) | (go_at_call 9; (with_reducible refine (spec_HexText.calls k (wrap64 (a0_0)) 4 t111 _ A3.out).mono ?_); rintro e w' ⟨rfl, ⟨nd, rfl⟩⟩; (try first | exact ⟨rfl, _, World.drewN_drewN _ _ _⟩ | exact ⟨rfl, _, Eq.trans (World.drewN_drewN _ _ _) (congrArg (World.drewN _) (Nat.add_assoc _ _ _))⟩)) | (go_at_call 9; (with_reducible refine (spec_HexText.calls k (wrap64 (a0_1)) 2 t112 _ A5.out).mono ?_); rintro e w' ⟨rfl, ⟨nd, rfl⟩⟩; (try first | exact ⟨rfl, _, World.drewN_drewN _ _ _⟩ | exact ⟨rfl, _, Eq.trans (World.drewN_drewN _ _ _) (congrArg (World.drewN _) (Nat.add_assoc _ _ _))⟩)))
          repeat (go_quiet (first | ((with_reducible refine gate_dst (N := 1) rfl ?_); refine box_event ?hg (N := 1) ?hd (cs := #[.int .u16 a0_0, .int .u8 a0_1, .bool true]) (t := 30) ?hr ?_; (case hd => rfl); (case hg => rfl); (case hr => first | (go_simp; done) | (go_simp; rfl)); intro gb110 hg w8 hbox hb; have n0_ := Aside0.mk (below_step (by repeat (first | (with_reducible first | exact HB.out | apply below_alloc | apply pw_below_drewN | apply below_drew1) | exact HB.out)) hb); have n1_ := Aside0.mk (hbox); have n2_ := Aside0.mk ((by rw [hg]; exact (below_size (by repeat (first | (with_reducible first | exact HB.out | apply below_alloc | apply pw_below_drewN | apply below_drew1) | exact HB.out))) : w.heap.size ≤ gb110)); have n3_ := Aside0.mk ((by rw [hg]; exact (below_size (by repeat (first | (with_reducible first | exact HB.out | apply below_alloc | apply pw_below_drewN | apply below_drew1) | exact HB.out))) : w.heap.size ≤ gb110)); clear HB; have HB := n0_; have BK110 := n1_; have GW110 := n2_; have GE110 := n3_; clear n0_ n1_ n2_ n3_; clear hb hbox hg; have hcz9_0 : w8.cell? ⟨gb110, 0, none⟩ = some (.int .u16 a0_0) := (blk_cell BK110.out 0).trans rfl; have hcz9_1 : w8.cell? ⟨gb110, 1, none⟩ = some (.int .u8 a0_1) := (blk_cell BK110.out 1).trans rfl; have hcz9_2 : w8.cell? ⟨gb110, 2, none⟩ = some (.bool true) := (blk_cell BK110.out 2).trans rfl; have hfz9_0 := blk_frozen BK110.out 0; have hfz9_1 := blk_frozen BK110.out 1; have hfz9_2 := blk_frozen BK110.out 2) | (go_at_call 9; (try simp only [show ∀ n : Int, IntKind.i64.wrap n = wrap64 n from fun n => IntKind.wrap_i64 n]); (with_reducible refine (spec_HexText.calls k (wrap64 (a0_0)) 4 t111 _ A3.out).mono ?_); rintro e w' ⟨rfl, ⟨nd, rfl⟩⟩; (try first | exact ⟨rfl, _, World.drewN_drewN _ _ _⟩ | exact ⟨rfl, _, Eq.trans (World.drewN_drewN _ _ _) (congrArg (World.drewN _) (Nat.add_assoc _ _ _))⟩)) | (go_at_call 9; (try simp only [show ∀ n : Int, IntKind.i64.wrap n = wrap64 n from fun n => IntKind.wrap_i64 n]); (with_reducible refine (spec_HexText.calls k (wrap64 (a0_1)) 2 t112 _ A5.out).mono ?_); rintro e w' ⟨rfl, ⟨nd, rfl⟩⟩; (try first | exact ⟨rfl, _, World.drewN_drewN _ _ _⟩ | exact ⟨rfl, _, Eq.trans (World.drewN_drewN _ _ _) (congrArg (World.drewN _) (Nat.add_assoc _ _ _))⟩))); try go_wp2_with (first | ((with_reducible refine gate_dst (N := 1) rfl ?_); refine box_event ?hg (N := 1) ?hd (cs := #[.int .u16 a0_0, .int .u8 a0_1, .bool true]) (t := 30) ?hr ?_; (case hd => rfl); (case hg => rfl); (case hr => first | (go_simp; done) | (go_simp; rfl)); intro gb110 hg w8 hbox hb; have n0_ := Aside0.mk (below_step (by repeat (first | (with_reducible first | exact HB.out | apply below_alloc | apply pw_below_drewN | apply below_drew1) | exact HB.out)) hb); have n1_ := Aside0.mk (hbox); have n2_ := Aside0.mk ((by rw [hg]; exact (below_size (by repeat (first | (with_reducible first | exact HB.out | apply below_alloc | apply pw_below_drewN | apply below_drew1) | exact HB.out))) : w.heap.size ≤ gb110)); have n3_ := Aside0.mk ((by rw [hg]; exact (below_size (by repeat (first | (with_reducible first | exact HB.out | apply below_alloc | apply pw_below_drewN | apply below_drew1) | exact HB.out))) : w.heap.size ≤ gb110)); clear HB; have HB := n0_; have BK110 := n1_; have GW110 := n2_; have GE110 := n3_; clear n0_ n1_ n2_ n3_; clear hb hbox hg; have hcz9_0 : w8.cell? ⟨gb110, 0, none⟩ = some (.int .u16 a0_0) := (blk_cell BK110.out 0).trans rfl; have hcz9_1 : w8.cell? ⟨gb110, 1, none⟩ = some (.int .u8 a0_1) := (blk_cell BK110.out 1).trans rfl; have hcz9_2 : w8.cell? ⟨gb110, 2, none⟩ = some (.bool true) := (blk_cell BK110.out 2).trans rfl; have hfz9_0 := blk_frozen BK110.out 0; have hfz9_1 := blk_frozen BK110.out 1; have hfz9_2 := blk_frozen BK110.out 2) | (go_at_call 9; (try simp only [show ∀ n : Int, IntKind.i64.wrap n = wrap64 n from fun n => IntKind.wrap_i64 n]); (with_reducible refine (spec_HexText.calls k (wrap64 (a0_0)) 4 t111 _ A3.out).mono ?_); rintro e w' ⟨rfl, ⟨nd, rfl⟩⟩; (try first | exact ⟨rfl, _, World.drewN_drewN _ _ _⟩ | exact ⟨rfl, _, Eq.trans (World.drewN_drewN _ _ _) (congrArg (World.drewN _) (Nat.add_assoc _ _ _))⟩)) | (go_at_call 9; (try simp only [show ∀ n : Int, IntKind.i64.wrap n = wrap64 n from fun n => IntKind.wrap_i64 n]); (with_reducible refine (spec_HexText.calls k (wrap64 (a0_1)) 2 t112 _ A5.out).mono ?_); rintro e w' ⟨rfl, ⟨nd, rfl⟩⟩; (try first | exact ⟨rfl, _, World.drewN_drewN _ _ _⟩ | exact ⟨rfl, _, Eq.trans (World.drewN_drewN _ _ _) (congrArg (World.drewN _) (Nat.add_assoc _ _ _))⟩))))
          go_ret
          exact ⟨by first | rfl | (simp [errW_none, errW_some] <;> rfl) | (simp [*, errW_none, errW_some] <;> rfl), by repeat (first | (with_reducible first | exact HB.out | apply below_alloc | apply pw_below_drewN | apply below_drew1 | refine below_set ?_ GE110.out) | exact HB.out)⟩
        · rw [if_neg c7] at H
          exact absurd H (by simp)
      · rw [if_neg c6] at H
        exact absurd H (by simp)
    · rw [if_neg c4] at H
      exact absurd H (by simp)
  · replace c2 := Bool.eq_false_iff.mpr c2
    subst c2
    have H1 : ((spec_HexText.f k (wrap64 (a0_0)) 4).bind fun t113 => (if t113.size + 1 ≤ 9223372036854775807 then ((spec_HexText.f k (wrap64 (a0_1)) 2).bind fun t114 => (if (t113 ++ (⟨#[32]⟩ : ByteArray)).size + t114.size ≤ 9223372036854775807 then (if ((t113 ++ (⟨#[32]⟩ : ByteArray)) ++ t114).size + 2 ≤ 9223372036854775807 then (some (((t113 ++ (⟨#[32]⟩ : ByteArray)) ++ t114) ++ (⟨#[32, 114]⟩ : ByteArray))) else (none)) else (none))) else (none))) = some r := by rw [if_neg (show ¬ (false = true) by decide)] at H; exact H
    clear H
    have H := H1
    clear H1
    replace H := Option.bind_eq_some_iff.mp H
    obtain ⟨t113, A100, H⟩ := H
    replace H : (if t113.size + 1 ≤ 9223372036854775807 then ((spec_HexText.f k (wrap64 (a0_1)) 2).bind fun t114 => (if (t113 ++ (⟨#[32]⟩ : ByteArray)).size + t114.size ≤ 9223372036854775807 then (if ((t113 ++ (⟨#[32]⟩ : ByteArray)) ++ t114).size + 2 ≤ 9223372036854775807 then (some (((t113 ++ (⟨#[32]⟩ : ByteArray)) ++ t114) ++ (⟨#[32, 114]⟩ : ByteArray))) else (none)) else (none))) else (none)) = some r := H
    have A10 := Aside0.mk A100
    clear A100
    by_cases c11 : t113.size + 1 ≤ 9223372036854775807
    · rw [if_pos c11] at H
      have c11b0 := eq_true c11
      have c11b1 : decide (t113.size + 1 ≤ 9223372036854775807) = true := decide_eq_true c11
      try have c11b2 : (9223372036854775807 < t113.size + 1) = False := eq_false (Nat.not_lt.2 c11)
      replace H := Option.bind_eq_some_iff.mp H
      obtain ⟨t114, A120, H⟩ := H
      replace H : (if (t113 ++ (⟨#[32]⟩ : ByteArray)).size + t114.size ≤ 9223372036854775807 then (if ((t113 ++ (⟨#[32]⟩ : ByteArray)) ++ t114).size + 2 ≤ 9223372036854775807 then (some (((t113 ++ (⟨#[32]⟩ : ByteArray)) ++ t114) ++ (⟨#[32, 114]⟩ : ByteArray))) else (none)) else (none)) = some r := H
      have A12 := Aside0.mk A120
      clear A120
      by_cases c13 : (t113 ++ (⟨#[32]⟩ : ByteArray)).size + t114.size ≤ 9223372036854775807
      · rw [if_pos c13] at H
        have c13b0 := eq_true c13
        have c13b1 : decide ((t113 ++ (⟨#[32]⟩ : ByteArray)).size + t114.size ≤ 9223372036854775807) = true := decide_eq_true c13
        try have c13b2 : (9223372036854775807 < (t113 ++ (⟨#[32]⟩ : ByteArray)).size + t114.size) = False := eq_false (Nat.not_lt.2 c13)
        try have c13b4 : (9223372036854775807 < t113.size + 1 + t114.size) = False := eq_false (Nat.not_lt.2 (by have h_ := of_decide_eq_true c13b1; simp only [ByteArray.size_append] at h_; have e0_ : ((⟨#[32]⟩ : ByteArray)).size = 1 := rfl; omega))
        by_cases c14 : ((t113 ++ (⟨#[32]⟩ : ByteArray)) ++ t114).size + 2 ≤ 9223372036854775807
        · rw [if_pos c14] at H
          have c14b0 := eq_true c14
          have c14b1 : decide (((t113 ++ (⟨#[32]⟩ : ByteArray)) ++ t114).size + 2 ≤ 9223372036854775807) = true := decide_eq_true c14
          try have c14b2 : (9223372036854775807 < ((t113 ++ (⟨#[32]⟩ : ByteArray)) ++ t114).size + 2) = False := eq_false (Nat.not_lt.2 c14)
          try have c14b4 : (9223372036854775807 < t113.size + 1 + t114.size + 2) = False := eq_false (Nat.not_lt.2 (by have h_ := of_decide_eq_true c14b1; simp only [ByteArray.size_append] at h_; have e0_ : ((⟨#[32]⟩ : ByteArray)).size = 1 := rfl; omega))
          obtain rfl := Option.some.inj H
          go_enter Try.func13, Try.ntmps13
          go_wp2_with (first | ((with_reducible refine gate_dst (N := 1) rfl ?_); refine box_event ?hg (N := 1) ?hd (cs := #[.int .u16 a0_0, .int .u8 a0_1, .bool false]) (t := 30) ?hr ?_; (case hd => rfl); (case hg => rfl); (case hr => first | (go_simp; done) | (go_simp; rfl)); intro gb110 hg w15 hbox hb; have n0_ := Aside0.mk (below_step (by repeat (first | (with_reducible first | exact HB.out | apply below_alloc | apply pw_below_drewN | apply below_drew1) | exact HB.out)) hb); have n1_ := Aside0.mk (hbox); have n2_ := Aside0.mk ((by rw [hg]; exact (below_size (by repeat (first | (with_reducible first | exact HB.out | apply below_alloc | apply pw_below_drewN | apply below_drew1) | exact HB.out))) : w.heap.size ≤ gb110)); have n3_ := Aside0.mk ((by rw [hg]; exact (below_size (by repeat (first | (with_reducible first | exact HB.out | apply below_alloc | apply pw_below_drewN | apply below_drew1) | exact HB.out))) : w.heap.size ≤ gb110)); clear HB; have HB := n0_; have BK110 := n1_; have GW110 := n2_; have GE110 := n3_; clear n0_ n1_ n2_ n3_; clear hb hbox hg; have hcz16_0 : w15.cell? ⟨gb110, 0, none⟩ = some (.int .u16 a0_0) := (blk_cell BK110.out 0).trans rfl; have hcz16_1 : w15.cell? ⟨gb110, 1, none⟩ = some (.int .u8 a0_1) := (blk_cell BK110.out 1).trans rfl; have hcz16_2 : w15.cell? ⟨gb110, 2, none⟩ = some (.bool false) := (blk_cell BK110.out 2).trans rfl; have hfz16_0 := blk_frozen BK110.out 0; have hfz16_1 := blk_frozen BK110.out 1; have hfz16_2 := blk_frozen BK110.out 2) | (go_at_call 9; (with_reducible refine (spec_HexText.calls k (wrap64 (a0_0)) 4 t113 _ A10.out).mono ?_); rintro e w' ⟨rfl, ⟨nd, rfl⟩⟩; (try first | exact ⟨rfl, _, World.drewN_drewN _ _ _⟩ | exact ⟨rfl, _, Eq.trans (World.drewN_drewN _ _ _) (congrArg (World.drewN _) (Nat.add_assoc _ _ _))⟩)) | (go_at_call 9; (with_reducible refine (spec_HexText.calls k (wrap64 (a0_1)) 2 t114 _ A12.out).mono ?_); rintro e w' ⟨rfl, ⟨nd, rfl⟩⟩; (try first | exact ⟨rfl, _, World.drewN_drewN _ _ _⟩ | exact ⟨rfl, _, Eq.trans (World.drewN_drewN _ _ _) (congrArg (World.drewN _) (Nat.add_assoc _ _ _))⟩)))
          repeat (go_quiet (first | ((with_reducible refine gate_dst (N := 1) rfl ?_); refine box_event ?hg (N := 1) ?hd (cs := #[.int .u16 a0_0, .int .u8 a0_1, .bool false]) (t := 30) ?hr ?_; (case hd => rfl); (case hg => rfl); (case hr => first | (go_simp; done) | (go_simp; rfl)); intro gb110 hg w15 hbox hb; have n0_ := Aside0.mk (below_step (by repeat (first | (with_reducible first | exact HB.out | apply below_alloc | apply pw_below_drewN | apply below_drew1) | exact HB.out)) hb); have n1_ := Aside0.mk (hbox); have n2_ := Aside0.mk ((by rw [hg]; exact (below_size (by repeat (first | (with_reducible first | exact HB.out | apply below_alloc | apply pw_below_drewN | apply below_drew1) | exact HB.out))) : w.heap.size ≤ gb110)); have n3_ := Aside0.mk ((by rw [hg]; exact (below_size (by repeat (first | (with_reducible first | exact HB.out | apply below_alloc | apply pw_below_drewN | apply below_drew1) | exact HB.out))) : w.heap.size ≤ gb110)); clear HB; have HB := n0_; have BK110 := n1_; have GW110 := n2_; have GE110 := n3_; clear n0_ n1_ n2_ n3_; clear hb hbox hg; have hcz16_0 : w15.cell? ⟨gb110, 0, none⟩ = some (.int .u16 a0_0) := (blk_cell BK110.out 0).trans rfl; have hcz16_1 : w15.cell? ⟨gb110, 1, none⟩ = some (.int .u8 a0_1) := (blk_cell BK110.out 1).trans rfl; have hcz16_2 : w15.cell? ⟨gb110, 2, none⟩ = some (.bool false) := (blk_cell BK110.out 2).trans rfl; have hfz16_0 := blk_frozen BK110.out 0; have hfz16_1 := blk_frozen BK110.out 1; have hfz16_2 := blk_frozen BK110.out 2) | (go_at_call 9; (try simp only [show ∀ n : Int, IntKind.i64.wrap n = wrap64 n from fun n => IntKind.wrap_i64 n]); (with_reducible refine (spec_HexText.calls k (wrap64 (a0_0)) 4 t113 _ A10.out).mono ?_); rintro e w' ⟨rfl, ⟨nd, rfl⟩⟩; (try first | exact ⟨rfl, _, World.drewN_drewN _ _ _⟩ | exact ⟨rfl, _, Eq.trans (World.drewN_drewN _ _ _) (congrArg (World.drewN _) (Nat.add_assoc _ _ _))⟩)) | (go_at_call 9; (try simp only [show ∀ n : Int, IntKind.i64.wrap n = wrap64 n from fun n => IntKind.wrap_i64 n]); (with_reducible refine (spec_HexText.calls k (wrap64 (a0_1)) 2 t114 _ A12.out).mono ?_); rintro e w' ⟨rfl, ⟨nd, rfl⟩⟩; (try first | exact ⟨rfl, _, World.drewN_drewN _ _ _⟩ | exact ⟨rfl, _, Eq.trans (World.drewN_drewN _ _ _) (congrArg (World.drewN _) (Nat.add_assoc _ _ _))⟩))); try go_wp2_with (first | ((with_reducible refine gate_dst (N := 1) rfl ?_); refine box_event ?hg (N := 1) ?hd (cs := #[.int .u16 a0_0, .int .u8 a0_1, .bool false]) (t := 30) ?hr ?_; (case hd => rfl); (case hg => rfl); (case hr => first | (go_simp; done) | (go_simp; rfl)); intro gb110 hg w15 hbox hb; have n0_ := Aside0.mk (below_step (by repeat (first | (with_reducible first | exact HB.out | apply below_alloc | apply pw_below_drewN | apply below_drew1) | exact HB.out)) hb); have n1_ := Aside0.mk (hbox); have n2_ := Aside0.mk ((by rw [hg]; exact (below_size (by repeat (first | (with_reducible first | exact HB.out | apply below_alloc | apply pw_below_drewN | apply below_drew1) | exact HB.out))) : w.heap.size ≤ gb110)); have n3_ := Aside0.mk ((by rw [hg]; exact (below_size (by repeat (first | (with_reducible first | exact HB.out | apply below_alloc | apply pw_below_drewN | apply below_drew1) | exact HB.out))) : w.heap.size ≤ gb110)); clear HB; have HB := n0_; have BK110 := n1_; have GW110 := n2_; have GE110 := n3_; clear n0_ n1_ n2_ n3_; clear hb hbox hg; have hcz16_0 : w15.cell? ⟨gb110, 0, none⟩ = some (.int .u16 a0_0) := (blk_cell BK110.out 0).trans rfl; have hcz16_1 : w15.cell? ⟨gb110, 1, none⟩ = some (.int .u8 a0_1) := (blk_cell BK110.out 1).trans rfl; have hcz16_2 : w15.cell? ⟨gb110, 2, none⟩ = some (.bool false) := (blk_cell BK110.out 2).trans rfl; have hfz16_0 := blk_frozen BK110.out 0; have hfz16_1 := blk_frozen BK110.out 1; have hfz16_2 := blk_frozen BK110.out 2) | (go_at_call 9; (try simp only [show ∀ n : Int, IntKind.i64.wrap n = wrap64 n from fun n => IntKind.wrap_i64 n]); (with_reducible refine (spec_HexText.calls k (wrap64 (a0_0)) 4 t113 _ A10.out).mono ?_); rintro e w' ⟨rfl, ⟨nd, rfl⟩⟩; (try first | exact ⟨rfl, _, World.drewN_drewN _ _ _⟩ | exact ⟨rfl, _, Eq.trans (World.drewN_drewN _ _ _) (congrArg (World.drewN _) (Nat.add_assoc _ _ _))⟩)) | (go_at_call 9; (try simp only [show ∀ n : Int, IntKind.i64.wrap n = wrap64 n from fun n => IntKind.wrap_i64 n]); (with_reducible refine (spec_HexText.calls k (wrap64 (a0_1)) 2 t114 _ A12.out).mono ?_); rintro e w' ⟨rfl, ⟨nd, rfl⟩⟩; (try first | exact ⟨rfl, _, World.drewN_drewN _ _ _⟩ | exact ⟨rfl, _, Eq.trans (World.drewN_drewN _ _ _) (congrArg (World.drewN _) (Nat.add_assoc _ _ _))⟩))))
          go_ret
          exact ⟨by first | rfl | (simp [errW_none, errW_some] <;> rfl) | (simp [*, errW_none, errW_some] <;> rfl), by repeat (first | (with_reducible first | exact HB.out | apply below_alloc | apply pw_below_drewN | apply below_drew1 | refine below_set ?_ GE110.out) | exact HB.out)⟩
        · rw [if_neg c14] at H
          exact absurd H (by simp)
      · rw [if_neg c13] at H
        exact absurd H (by simp)
    · rw [if_neg c11] at H
      exact absurd H (by simp)

end Go.Proofs.Ytchakfdnmabkjaa.PHex
