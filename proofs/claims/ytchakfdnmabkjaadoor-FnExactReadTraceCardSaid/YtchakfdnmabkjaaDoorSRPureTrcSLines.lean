import Derived.Test.YtchakfdnmabkjaaDoorSRPureTrcLines
import Derived.Test.YtchakfdnmabkjaaDoorSRPTrcx1
namespace Go.Proofs.YtchakfdnmabkjaaDoor.LinesTrc
open Go.RowKit Go.Proofs.YtchakfdnmabkjaaDoor.PTrc Go.Proofs.YtchakfdnmabkjaaDoor.Plain Go.Proofs.YtchakfdnmabkjaaDoor.Str Go.Proofs.YtchakfdnmabkjaaDoorW.PrintWords Go.Proofs.YtchakfdnmabkjaaDoorW.PrintLast
theorem specLines_run (l : List UInt8) (hl : l.length ≤ 1048576) : ∀ (r : List UInt8) (acc : List ByteArray) (a i k : Nat), l.drop i = r → i + r.length = l.length → a ≤ i → acc.length ≤ i → r.length < k →
    spec_Lines.l0 k (S l) acc (a : Int) (i : Int) = some (acc ++ (go ((l.drop a).take (i - a)) r).map S)
  | r, acc, a, i, 0, _, _, _, _, hk => absurd hk (Nat.not_lt_zero _)
  | [], acc, a, i, k + 1, hr, hi, ha, hc, hk => by
    have hi' : i = l.length := by simpa using hi
    simp only [spec_Lines.l0, S_size]
    rw [if_neg (by omega)]
    have hlen : ((l.drop a).take (i - a)).length = i - a := by simp; omega
    by_cases hal : a < l.length
    · rw [if_pos (by omega), if_pos (by omega), if_pos (by omega), if_pos (by omega), Int.toNat_natCast, S_extract]
      have hne : (l.drop a).take (i - a) ≠ [] := by
        intro e; rw [e] at hlen; simp at hlen; omega
      simp only [go, if_neg hne]
      rw [hi']
      rfl
    · rw [if_neg (by omega)]
      have hnil : (l.drop a).take (i - a) = [] := by
        apply List.eq_nil_of_length_eq_zero; omega
      simp [go, hnil]
  | c :: r, acc, a, i, k + 1, hr, hi, ha, hc, hk => by
    have hil : i < l.length := by simp at hi; omega
    have hb : l[i] = c := by
      have := congrArg (·[0]?) hr
      simpa [List.getElem?_eq_getElem hil] using this
    have hr' : l.drop (i + 1) = r := by rw [← List.drop_drop, hr]; rfl
    simp only [spec_Lines.l0, S_size]
    rw [if_pos (by omega), if_pos (by omega), bt_S l i hil, hb, wsucc (by omega)]
    by_cases h10 : c = 10
    · subst h10
      rw [if_pos (by decide), if_pos (by omega), if_pos (by omega), if_pos (by omega), if_pos (by omega), Int.toNat_natCast, Int.toNat_natCast, S_extract,
        specLines_run l hl r _ (i + 1) (i + 1) k hr' (by simp at hi; omega) (Nat.le_refl _) (by simp; omega) (by simp at hk; omega)]
      simp [go]
    · have hne : ¬ ((c.toNat : Int) = 10) := by
        intro e
        apply h10
        have : c.toNat = 10 := by omega
        exact UInt8.toNat_inj.mp this
      have hseg : (l.drop a).take (i + 1 - a) = (l.drop a).take (i - a) ++ [c] := by
        rw [show i + 1 - a = (i - a) + 1 by omega, List.take_add_one, List.getElem?_drop, show a + (i - a) = i by omega, List.getElem?_eq_getElem hil, hb]
        rfl
      rw [if_neg hne, specLines_run l hl r acc a (i + 1) k hr' (by simp at hi; omega) (by omega) (by omega) (by simp at hk; omega), hseg]
      simp only [go, if_neg h10]
theorem specLines_eq (l : List UInt8) (hl : l.length ≤ 1048576) (k : Nat) (hk : l.length < k) : spec_Lines.f k (S l) = some (linesOf (S l)) := by
  have h := specLines_run l hl l [] 0 0 k rfl (by simp) (Nat.le_refl _) (Nat.le_refl _) hk
  unfold spec_Lines.f
  have e0 : ((0 : Nat) : Int) = 0 := rfl
  rw [e0] at h
  rw [h, linesOf_eq, lines_go]
  simp
end Go.Proofs.YtchakfdnmabkjaaDoor.LinesTrc
