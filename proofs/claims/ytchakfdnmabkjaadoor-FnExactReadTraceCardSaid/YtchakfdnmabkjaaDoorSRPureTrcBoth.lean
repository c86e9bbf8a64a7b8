import Derived.Test.YtchakfdnmabkjaaDoorSRPureTrcCyc
import Derived.Test.YtchakfdnmabkjaaDoorSRPTrcx11
import Derived.Test.YtchakfdnmabkjaaDoorSRPTrcx4
namespace Go.Proofs.YtchakfdnmabkjaaDoor.CycTrc
open Go.RowKit Go.Proofs.YtchakfdnmabkjaaDoor.PTrc Go.Proofs.YtchakfdnmabkjaaDoor.Plain Go.Proofs.YtchakfdnmabkjaaDoor.Str Go.Proofs.YtchakfdnmabkjaaDoor.HexTrc Go.Proofs.YtchakfdnmabkjaaDoor.ReadTrc Go.Proofs.YtchakfdnmabkjaaDoorW.PrintWords Go.Proofs.YtchakfdnmabkjaaDoorW.PrintLast
theorem readCyc_both (s : ByteArray) : ∃ r : Int × Int × Bool × Bool, (∀ k, 20 < k → spec_ReadCyc.f k s = some r) ∧ (∀ k, 20 < k → impl_ReadCyc.f k s = some r) ∧ (r.2.2.2 = true → ∃ (x y : Nat) (q : Bool), x ≤ 65535 ∧ y ≤ 255 ∧ s = S (cycL x y q) ∧ r = ((x : Int), (y : Int), q, true)) := by
  by_cases hs : (s.size : Int) = 9
  · obtain ⟨a, a1, a2, a3, a4⟩ := readHex_both (s.extract 0 4) 4
    obtain ⟨d, d1, d2, d3, d4⟩ := readHex_both (s.extract 5 7) 2
    have a5 : a < 65536 := a4 4 rfl
    have d5 : d < 256 := d4 2 rfl
    have t1 : (0 : Nat) ≤ 4 := by omega
    have t2 : (4 : Int) ≤ (s.size : Int) := by omega
    have t3 : (5 : Nat) ≤ 7 := by omega
    have t4 : (7 : Int) ≤ (s.size : Int) := by omega
    have t5 : (8 : Int) < (s.size : Int) := by omega
    have hI : ∀ k, 20 < k → ∀ x y : Nat, mx 0 a = (x : Int) → mx 0 d = (y : Int) → impl_ReadCyc.f k s = if (S (cycL x y (bt s 8 == 119))).toList = s.toList then some ((x : Int), (y : Int), (bt s 8 == 119), true) else some (0, 0, false, false) := by
      intro k hk x y hx hy
      have bx : x ≤ 65535 := by unfold mx at hx; split at hx <;> omega
      have by_ : y ≤ 255 := by unfold mx at hy; split at hy <;> omega
      have e1 : IntKind.u16.wrap (x : Int) = (x : Int) := by rw [IntKind.wrap_u16]; omega
      have e2 : (y : Int) % 256 = (y : Int) := by omega
      simp only [impl_ReadCyc.f, a2 k (by omega), d2 k (by omega), Option.bind_some, hx, hy, e1, e2, implCyc_eq x y bx by_ _ k (by omega)]
      rw [if_pos hs, if_pos t1, if_pos t2, if_pos t3, if_pos t4, if_pos t5]
    by_cases ha : a < 0
    · refine ⟨(0, 0, false, false), ?_, ?_, fun h => absurd h (by decide)⟩
      · intro k hk
        obtain ⟨k, rfl⟩ : ∃ j, k = j + 1 := ⟨k - 1, by omega⟩
        simp only [spec_ReadCyc.f, a1 (k + 1) (by omega), d1 (k + 1) (by omega), Option.bind_some]
        rw [if_pos hs, if_pos t1, if_pos t2, if_pos t3, if_pos t4, if_pos ha]
        simp only [spec_ReadCyc.j0, if_true]
      · intro k hk
        have hx : mx 0 a = ((0 : Nat) : Int) := by unfold mx; split <;> omega
        obtain ⟨y, hy⟩ : ∃ y : Nat, mx 0 d = (y : Int) := ⟨(mx 0 d).toNat, by unfold mx; split <;> omega⟩
        rw [hI k hk 0 y hx hy]
        refine if_neg (fun e => ?_)
        have es := S_of e
        have := a2 11 (by omega)
        rw [es, cut_addr] at this
        have h0 := round_hex 0 4 (by omega) (by omega) (by decide) 11 (by omega)
        rw [show ((4 : Nat) : Int) = 4 from rfl, this] at h0
        have := Option.some.inj h0
        omega
    · by_cases hd : d < 0
      · refine ⟨(0, 0, false, false), ?_, ?_, fun h => absurd h (by decide)⟩
        · intro k hk
          obtain ⟨k, rfl⟩ : ∃ j, k = j + 1 := ⟨k - 1, by omega⟩
          simp only [spec_ReadCyc.f, a1 (k + 1) (by omega), d1 (k + 1) (by omega), Option.bind_some]
          rw [if_pos hs, if_pos t1, if_pos t2, if_pos t3, if_pos t4, if_neg ha, decide_eq_true hd]
          simp only [spec_ReadCyc.j0, if_true]
        · intro k hk
          have hy : mx 0 d = ((0 : Nat) : Int) := by unfold mx; split <;> omega
          obtain ⟨x, hx⟩ : ∃ x : Nat, mx 0 a = (x : Int) := ⟨(mx 0 a).toNat, by unfold mx; split <;> omega⟩
          rw [hI k hk x 0 hx hy]
          refine if_neg (fun e => ?_)
          have es := S_of e
          have := d2 11 (by omega)
          rw [es, cut_data] at this
          have h0 := round_hex 0 2 (by omega) (by omega) (by decide) 11 (by omega)
          rw [show ((2 : Nat) : Int) = 2 from rfl, this] at h0
          have := Option.some.inj h0
          omega
      · obtain ⟨x, rfl⟩ : ∃ x : Nat, a = (x : Int) := ⟨a.toNat, by omega⟩
        obtain ⟨y, rfl⟩ : ∃ y : Nat, d = (y : Int) := ⟨d.toNat, by omega⟩
        have hx : mx 0 (x : Int) = (x : Int) := by unfold mx; split <;> omega
        have hy : mx 0 (y : Int) = (y : Int) := by unfold mx; split <;> omega
        have e1 : IntKind.u16.wrap (x : Int) = (x : Int) := by rw [IntKind.wrap_u16]; omega
        have e2 : (y : Int) % 256 = (y : Int) := by omega
        have hS : ∀ k, 20 < k → spec_ReadCyc.f k s = if (S (cycL x y (bt s 8 == 119))).toList = s.toList then some ((x : Int), (y : Int), (bt s 8 == 119), true) else some (0, 0, false, false) := by
          intro k hk
          obtain ⟨k, rfl⟩ : ∃ j, k = j + 1 := ⟨k - 1, by omega⟩
          simp only [spec_ReadCyc.f, a1 (k + 1) (by omega), d1 (k + 1) (by omega), Option.bind_some]
          rw [if_pos hs, if_pos t1, if_pos t2, if_pos t3, if_pos t4, if_neg ha, decide_eq_false hd]
          simp only [spec_ReadCyc.j0, Bool.false_eq_true, if_false, e1, e2, specCyc_eq x y (by omega) (by omega) _ k (by omega), Option.bind_some]
          rw [if_pos t5]
        by_cases he : (S (cycL x y (bt s 8 == 119))).toList = s.toList
        · exact ⟨_, fun k hk => (hS k hk).trans (if_pos he), fun k hk => (hI k hk x y hx hy).trans (if_pos he), fun _ => ⟨x, y, _, by omega, by omega, S_of he, rfl⟩⟩
        · exact ⟨_, fun k hk => (hS k hk).trans (if_neg he), fun k hk => (hI k hk x y hx hy).trans (if_neg he), fun h => absurd h (by simp)⟩
  · refine ⟨(0, 0, false, false), ?_, ?_, fun h => absurd h (by decide)⟩
    · intro k hk
      simp only [spec_ReadCyc.f]
      rw [if_neg hs]
    · intro k hk
      simp only [impl_ReadCyc.f]
      rw [if_neg hs]
end Go.Proofs.YtchakfdnmabkjaaDoor.CycTrc
