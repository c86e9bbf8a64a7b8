import Derived.Test.YtchakfdnmabkjaaDoorSRPureTrcWords
import Derived.Test.YtchakfdnmabkjaaDoorSRPureTrcLines
namespace Go.Proofs.YtchakfdnmabkjaaDoor.BackTrc
open Go.RowKit Go.Proofs.YtchakfdnmabkjaaDoor.PTrc Go.Proofs.YtchakfdnmabkjaaDoor.Plain Go.Proofs.YtchakfdnmabkjaaDoor.Str Go.Proofs.YtchakfdnmabkjaaDoor.WordTrc Go.Proofs.YtchakfdnmabkjaaDoor.LinesTrc Go.Proofs.YtchakfdnmabkjaaDoorW.PrintWords Go.Proofs.YtchakfdnmabkjaaDoorW.PrintLast
def bl (c : UInt8) : Bool := blankB c.toNat
def W (cur : List UInt8) : List UInt8 → List (List UInt8)
  | [] => if cur = [] then [] else [cur]
  | c :: r => if bl c = true then (if cur = [] then W [] r else cur :: W [] r) else W (cur ++ [c]) r
theorem byteAt_S (l : List UInt8) (i : Nat) (h : i < l.length) : blankB (byteAt (S l) i) = bl l[i] := by
  have h1 := bt_byteAt (S l) i (by rw [S_size]; exact h)
  rw [bt_S l i h] at h1
  have : byteAt (S l) i = l[i].toNat := by omega
  rw [this]; rfl
theorem spans_W (l : List UInt8) : ∀ (r : List UInt8) (pos : Nat) (n : Nat), l.drop pos = r → n = r.length → pos + n = l.length →
    ((spans (S l) n pos none).map fun x => (S l).extract x.1 x.2) = (W [] r).map S ∧ ∀ a, a < pos → ((spans (S l) n pos (some a)).map fun x => (S l).extract x.1 x.2) = (W ((l.drop a).take (pos - a)) r).map S
  | [], pos, n, hr, hn, hp => by
    subst hn
    refine ⟨rfl, fun a ha => ?_⟩
    have hlen : ((l.drop a).take (pos - a)).length = pos - a := by simp at hp ⊢; omega
    have hne : (l.drop a).take (pos - a) ≠ [] := by
      intro e; rw [e] at hlen; simp at hlen; omega
    simp only [List.length_nil, spans, W, if_neg hne, List.map_cons, List.map_nil, S_extract]
  | c :: r, pos, n, hr, hn, hp => by
    subst hn
    have hil : pos < l.length := by simp at hp; omega
    have hb : l[pos] = c := by
      have := congrArg (·[0]?) hr
      simpa [List.getElem?_eq_getElem hil] using this
    have hr' : l.drop (pos + 1) = r := by rw [← List.drop_drop, hr]; rfl
    have hbl := byteAt_S l pos hil
    rw [hb] at hbl
    obtain ⟨ih0, ih1⟩ := spans_W l r (pos + 1) r.length hr' rfl (by simp at hp; omega)
    have hseg : ∀ a, a < pos + 1 → (l.drop a).take (pos + 1 - a) = (l.drop a).take (pos - a) ++ [c] := by
      intro a ha
      rw [show pos + 1 - a = (pos - a) + 1 by omega, List.take_add_one, List.getElem?_drop, show a + (pos - a) = pos by omega, List.getElem?_eq_getElem hil, hb]
      rfl
    refine ⟨?_, fun a ha => ?_⟩
    · simp only [List.length_cons, spans, W, hbl]
      by_cases h : bl c = true
      · rw [if_pos h, if_pos h, if_pos trivial]; exact ih0
      · rw [if_neg h, if_neg h, ih1 pos (by omega), hseg pos (by omega)]
        simp
    · have hlen : ((l.drop a).take (pos - a)).length = pos - a := by simp; omega
      have hne : (l.drop a).take (pos - a) ≠ [] := by
        intro e; rw [e] at hlen; simp at hlen; omega
      simp only [List.length_cons, spans, W, hbl]
      by_cases h : bl c = true
      · rw [if_pos h, if_pos h, if_neg hne, List.map_cons, List.map_cons, ih0, S_extract]
      · rw [if_neg h, if_neg h, ih1 a (by omega), hseg a (by omega)]
theorem words_W (l : List UInt8) : wordsOf (S l) = (W [] l).map S := by
  unfold wordsOf
  rw [S_size]
  exact (spans_W l l 0 l.length rfl rfl (by simp)).1
def J (c : UInt8) : List (List UInt8) → List UInt8
  | [] => []
  | w :: t => w ++ c :: J c t
theorem J_length : ∀ (l cur : List UInt8), (J 32 (W cur l)).length ≤ cur.length + l.length + 1
  | [], cur => by simp only [W]; split <;> simp [J]
  | c :: r, cur => by
    simp only [W]
    split
    · split
      · have := J_length r []; simp at this ⊢; omega
      · have := J_length r []; simp [J] at this ⊢; omega
    · have := J_length r (cur ++ [c]); simp at this ⊢; omega
theorem J_take (c : UInt8) : ∀ (ws : List (List UInt8)) (i : Nat), (J c (ws.take i)).length ≤ (J c ws).length
  | [], i => by simp [J]
  | w :: t, 0 => by simp [J]
  | w :: t, i + 1 => by
    have := J_take c t i
    simp only [List.take_succ_cons, J, List.length_append, List.length_cons]; omega
theorem J_snoc (c : UInt8) : ∀ (ws : List (List UInt8)) (i : Nat) (h : i < ws.length), J c (ws.take (i + 1)) = J c (ws.take i) ++ (ws[i] ++ [c])
  | [], i, h => absurd h (Nat.not_lt_zero _)
  | w :: t, 0, h => by simp [J]
  | w :: t, i + 1, h => by
    simp only [List.take_succ_cons, J, List.getElem_cons_succ]
    rw [J_snoc c t i (by simpa using h)]
    simp
theorem J_part (c : UInt8) (ws : List (List UInt8)) (i : Nat) (h : i < ws.length) : (J c (ws.take i)).length + ws[i].length + 1 ≤ (J c ws).length := by
  have h1 := J_take c ws (i + 1)
  rw [J_snoc c ws i h] at h1
  simp at h1; omega
theorem go_J : ∀ (r cur : List UInt8), J 10 (go cur r) = cur ++ r ∨ (J 10 (go cur r) = cur ++ r ++ [10] ∧ cur ++ r ≠ [])
  | [], cur => by
    simp only [go]
    by_cases h : cur = []
    · rw [if_pos h]; left; simp [J, h]
    · rw [if_neg h]; right; simp [J, h]
  | c :: r, cur => by
    simp only [go]
    by_cases h : c = 10
    · rw [if_pos h, h]
      rcases go_J r [] with e | ⟨e, _⟩
      · left; simp only [J, e]; simp
      · right; simp only [J, e]; simp
    · rw [if_neg h]
      rcases go_J r (cur ++ [c]) with e | ⟨e, _⟩
      · left; rw [e]; simp
      · right; rw [e]; simp
theorem lines_J (l : List UInt8) : J 10 (lines l) = l ∨ (J 10 (lines l) = l ++ [10] ∧ l ≠ []) := by
  rw [lines_go]; simpa using go_J l []
theorem lines_J_length (l : List UInt8) : (J 10 (lines l)).length ≤ l.length + 1 := by
  rcases lines_J l with e | ⟨e, _⟩ <;> rw [e] <;> simp
end Go.Proofs.YtchakfdnmabkjaaDoor.BackTrc
