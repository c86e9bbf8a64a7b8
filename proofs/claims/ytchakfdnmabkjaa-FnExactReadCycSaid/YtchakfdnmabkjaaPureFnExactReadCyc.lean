/- The plain side of FnExactReadCyc: the program's function and the reference's come to the same. -/
import Derived.Test.YtchakfdnmabkjaaPureHexCyc
import Derived.Test.YtchakfdnmabkjaaPHexx8
namespace Go.Proofs.Ytchakfdnmabkjaa.Pure
open Go.RowKit Go.Proofs.Ytchakfdnmabkjaa.PHex Go.Proofs.Ytchakfdnmabkjaa.Plain Go.Proofs.Ytchakfdnmabkjaa.Str Go.Proofs.Ytchakfdnmabkjaa.HexHex Go.Proofs.Ytchakfdnmabkjaa.ReadHex Go.Proofs.Ytchakfdnmabkjaa.CycHex Go.Proofs.YtchakfdnmabkjaaW.PrintWords Go.Proofs.YtchakfdnmabkjaaW.PrintLast
theorem readCyc_both (s : ByteArray) : ∃ r : Int × Int × Bool × Bool, (∀ k, 20 < k → spec_ReadCyc.f k s = some r) ∧ (∀ k, 20 < k → impl_ReadCyc.f k s = some r) := by
  by_cases hs : (s.size : Int) = 9
  · obtain ⟨a, a1, a2, a3, a4⟩ := readHex_both (s.extract 0 4) 4
    obtain ⟨d, d1, d2, d3, d4⟩ := readHex_both (s.extract 5 7) 2
    have a5 : a < 65536 := a4 4 rfl
    have d5 : d < 256 := d4 2 rfl
    have t1 : (0 : Nat) ≤ 4 := by omega
    have t2 : (4 : Int) ≤ (s.size : Int) := by omega
    have t3 : (5 : Nat) ≤ 7 := by omega
    have t4 : (7 : Int) ≤ (s.size : Int) := by omega
    have t5 : (8 : Int) < (s.size : Int) := by omega
    -- what both come to, where both numbers are there
    have hI : ∀ k, 20 < k → ∀ x y : Nat, mx 0 a = (x : Int) → mx 0 d = (y : Int) → impl_ReadCyc.f k s = if (S (cycL x y (bt s 8 == 119))).toList = s.toList then some ((x : Int), (y : Int), (bt s 8 == 119), true) else some (0, 0, false, false) := by
      intro k hk x y hx hy
      have bx : x ≤ 65535 := by unfold mx at hx; split at hx <;> omega
      have by_ : y ≤ 255 := by unfold mx at hy; split at hy <;> omega
      have e1 : IntKind.u16.wrap (x : Int) = (x : Int) := by rw [IntKind.wrap_u16]; omega
      have e2 : (y : Int) % 256 = (y : Int) := by omega
      simp only [impl_ReadCyc.f, a2 k (by omega), d2 k (by omega), Option.bind_some, hx, hy, e1, e2, implCyc_eq x y bx by_ _ k (by omega)]
      rw [if_pos hs, if_pos t1, if_pos t2, if_pos t3, if_pos t4, if_pos t5]
    by_cases ha : a < 0
    · refine ⟨(0, 0, false, false), ?_, ?_⟩
      · intro k hk
        obtain ⟨k, rfl⟩ : ∃ j, k = j + 1 := ⟨k - 1, by omega⟩
        simp only [spec_ReadCyc.f, a1 (k + 1) (by omega), d1 (k + 1) (by omega), Option.bind_some]
        rw [if_pos hs, if_pos t1, if_pos t2, if_pos t3, if_pos t4, if_pos ha]
        simp only [spec_ReadCyc.j0, if_true]
      · intro k hk
        have hx : mx 0 a = ((0 : Nat) : Int) := by unfold mx; split <;> omega
        obtain ⟨y, hy⟩ : ∃ y : Nat, mx 0 d = (y : Int) := ⟨(mx 0 d).toNat, by unfold mx; split <;> omega⟩
        rw [hI k hk 0 y hx hy]
        refine if_neg (fun e => ?_)
        have es := S_of e
        have := a2 11 (by omega)
        rw [es, cut_addr] at this
        have h0 := round_hex 0 4 (by omega) (by omega) (by decide) 11 (by omega)
        rw [show ((4 : Nat) : Int) = 4 from rfl, this] at h0
        have := Option.some.inj h0
        omega
    · by_cases hd : d < 0
      · refine ⟨(0, 0, false, false), ?_, ?_⟩
        · intro k hk
          obtain ⟨k, rfl⟩ : ∃ j, k = j + 1 := ⟨k - 1, by omega⟩
          simp only [spec_ReadCyc.f, a1 (k + 1) (by omega), d1 (k + 1) (by omega), Option.bind_some]
          rw [if_pos hs, if_pos t1, if_pos t2, if_pos t3, if_pos t4, if_neg ha, decide_eq_true hd]
          simp only [spec_ReadCyc.j0, if_true]
        · intro k hk
          have hy : mx 0 d = ((0 : Nat) : Int) := by unfold mx; split <;> omega
          obtain ⟨x, hx⟩ : ∃ x : Nat, mx 0 a = (x : Int) := ⟨(mx 0 a).toNat, by unfold mx; split <;> omega⟩
          rw [hI k hk x 0 hx hy]
          refine if_neg (fun e => ?_)
          have es := S_of e
          have := d2 11 (by omega)
          rw [es, cut_data] at this
          have h0 := round_hex 0 2 (by omega) (by omega) (by decide) 11 (by omega)
          rw [show ((2 : Nat) : Int) = 2 from rfl, this] at h0
          have := Option.some.inj h0
          omega
      · obtain ⟨x, rfl⟩ : ∃ x : Nat, a = (x : Int) := ⟨a.toNat, by omega⟩
        obtain ⟨y, rfl⟩ : ∃ y : Nat, d = (y : Int) := ⟨d.toNat, by omega⟩
        have hx : mx 0 (x : Int) = (x : Int) := by unfold mx; split <;> omega
        have hy : mx 0 (y : Int) = (y : Int) := by unfold mx; split <;> omega
        have e1 : IntKind.u16.wrap (x : Int) = (x : Int) := by rw [IntKind.wrap_u16]; omega
        have e2 : (y : Int) % 256 = (y : Int) := by omega
        have hS : ∀ k, 20 < k → spec_ReadCyc.f k s = if (S (cycL x y (bt s 8 == 119))).toList = s.toList then some ((x : Int), (y : Int), (bt s 8 == 119), true) else some (0, 0, false, false) := by
          intro k hk
          obtain ⟨k, rfl⟩ : ∃ j, k = j + 1 := ⟨k - 1, by omega⟩
          simp only [spec_ReadCyc.f, a1 (k + 1) (by omega), d1 (k + 1) (by omega), Option.bind_some]
          rw [if_pos hs, if_pos t1, if_pos t2, if_pos t3, if_pos t4, if_neg ha, decide_eq_false hd]
          simp only [spec_ReadCyc.j0, Bool.false_eq_true, if_false, e1, e2, specCyc_eq x y (by omega) (by omega) _ k (by omega), Option.bind_some]
          rw [if_pos t5]
        by_cases he : (S (cycL x y (bt s 8 == 119))).toList = s.toList
        · exact ⟨_, fun k hk => (hS k hk).trans (if_pos he), fun k hk => (hI k hk x y hx hy).trans (if_pos he)⟩
        · exact ⟨_, fun k hk => (hS k hk).trans (if_neg he), fun k hk => (hI k hk x y hx hy).trans (if_neg he)⟩
  · refine ⟨(0, 0, false, false), ?_, ?_⟩
    · intro k hk
      simp only [spec_ReadCyc.f]
      rw [if_neg hs]
    · intro k hk
      simp only [impl_ReadCyc.f]
      rw [if_neg hs]
theorem FnExactReadCyc : ∀ (a0 : ByteArray), a0.size ≤ 140737488351232 → ∃ k, laws_FnExactReadCyc.f k a0 = some true := by
  intro s _
  obtain ⟨⟨r1, r2, r3, r4⟩, h1, h2⟩ := readCyc_both s
  refine ⟨21, ?_⟩
  simp only [laws_FnExactReadCyc.f, h1 21 (by omega), h2 21 (by omega), Option.bind_some, laws_eqCyc.f]
  by_cases hs : (s.size : Int) > 1048576
  · rw [if_pos hs]
  · rw [if_neg hs]
    simp
end Go.Proofs.Ytchakfdnmabkjaa.Pure
