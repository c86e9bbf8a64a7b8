/- Words with blanks between are those words again; lines with newlines behind are the text, but for a newline at its end. -/
import Derived.Test.YtchakfdnmabkjaaDoorPureWrdWords
import Derived.Test.YtchakfdnmabkjaaDoorPureWrdLines
namespace Go.Proofs.YtchakfdnmabkjaaDoor.BackWrd
open Go.RowKit Go.Proofs.YtchakfdnmabkjaaDoor.PWrd Go.Proofs.YtchakfdnmabkjaaDoor.Plain Go.Proofs.YtchakfdnmabkjaaDoor.Str Go.Proofs.YtchakfdnmabkjaaDoor.WordWrd Go.Proofs.YtchakfdnmabkjaaDoor.LinesWrd Go.Proofs.YtchakfdnmabkjaaDoorW.PrintWords Go.Proofs.YtchakfdnmabkjaaDoorW.PrintLast

def bl (c : UInt8) : Bool := blankB c.toNat
/-- The words: the open one, and what is left. -/
def W (cur : List UInt8) : List UInt8 → List (List UInt8)
  | [] => if cur = [] then [] else [cur]
  | c :: r => if bl c = true then (if cur = [] then W [] r else cur :: W [] r) else W (cur ++ [c]) r
theorem byteAt_S (l : List UInt8) (i : Nat) (h : i < l.length) : blankB (byteAt (S l) i) = bl l[i] := by
  have h1 := bt_byteAt (S l) i (by rw [S_size]; exact h)
  rw [bt_S l i h] at h1
  have : byteAt (S l) i = l[i].toNat := by omega
  rw [this]; rfl
theorem spans_W (l : List UInt8) : ∀ (r : List UInt8) (pos : Nat) (n : Nat), l.drop pos = r → n = r.length → pos + n = l.length →
    ((spans (S l) n pos none).map fun x => (S l).extract x.1 x.2) = (W [] r).map S ∧ ∀ a, a < pos → ((spans (S l) n pos (some a)).map fun x => (S l).extract x.1 x.2) = (W ((l.drop a).take (pos - a)) r).map S
  | [], pos, n, hr, hn, hp => by
    subst hn
    refine ⟨rfl, fun a ha => ?_⟩
    have hlen : ((l.drop a).take (pos - a)).length = pos - a := by simp at hp ⊢; omega
    have hne : (l.drop a).take (pos - a) ≠ [] := by
      intro e; rw [e] at hlen; simp at hlen; omega
    simp only [List.length_nil, spans, W, if_neg hne, List.map_cons, List.map_nil, S_extract]
  | c :: r, pos, n, hr, hn, hp => by
    subst hn
    have hil : pos < l.length := by simp at hp; omega
    have hb : l[pos] = c := by
      have := congrArg (·[0]?) hr
      simpa [List.getElem?_eq_getElem hil] using this
    have hr' : l.drop (pos + 1) = r := by rw [← List.drop_drop, hr]; rfl
    have hbl := byteAt_S l pos hil
    rw [hb] at hbl
    obtain ⟨ih0, ih1⟩ := spans_W l r (pos + 1) r.length hr' rfl (by simp at hp; omega)
    have hseg : ∀ a, a < pos + 1 → (l.drop a).take (pos + 1 - a) = (l.drop a).take (pos - a) ++ [c] := by
      intro a ha
      rw [show pos + 1 - a = (pos - a) + 1 by omega, List.take_add_one, List.getElem?_drop, show a + (pos - a) = pos by omega, List.getElem?_eq_getElem hil, hb]
      rfl
    refine ⟨?_, fun a ha => ?_⟩
    · simp only [List.length_cons, spans, W, hbl]
      by_cases h : bl c = true
      · rw [if_pos h, if_pos h, if_pos trivial]; exact ih0
      · rw [if_neg h, if_neg h, ih1 pos (by omega), hseg pos (by omega)]
        simp
    · have hlen : ((l.drop a).take (pos - a)).length = pos - a := by simp; omega
      have hne : (l.drop a).take (pos - a) ≠ [] := by
        intro e; rw [e] at hlen; simp at hlen; omega
      simp only [List.length_cons, spans, W, hbl]
      by_cases h : bl c = true
      · rw [if_pos h, if_pos h, if_neg hne, List.map_cons, List.map_cons, ih0, S_extract]
      · rw [if_neg h, if_neg h, ih1 a (by omega), hseg a (by omega)]
theorem words_W (l : List UInt8) : wordsOf (S l) = (W [] l).map S := by
  unfold wordsOf
  rw [S_size]
  exact (spans_W l l 0 l.length rfl rfl (by simp)).1
/-- With a blank behind each. -/
def J (c : UInt8) : List (List UInt8) → List UInt8
  | [] => []
  | w :: t => w ++ c :: J c t
theorem W_whole : ∀ (w cur rest : List UInt8), (∀ c ∈ w, bl c = false) → cur ++ w ≠ [] → W cur (w ++ 32 :: rest) = (cur ++ w) :: W [] rest
  | [], cur, rest, _, hne => by
    have hc : cur ≠ [] := by simpa using hne
    have h32 : bl 32 = true := by decide
    simp only [List.nil_append, W, if_pos h32, if_neg hc, List.append_nil]
  | c :: w, cur, rest, h, hne => by
    have hc : bl c = false := h c (by simp)
    simp only [List.cons_append, W, hc, Bool.false_eq_true, if_false]
    rw [W_whole w (cur ++ [c]) rest (fun d hd => h d (by simp [hd])) (by simp)]
    simp
theorem W_words : ∀ (l cur : List UInt8), (∀ c ∈ cur, bl c = false) → ∀ w ∈ W cur l, w ≠ [] ∧ ∀ c ∈ w, bl c = false
  | [], cur, hc, w, hw => by
    simp only [W] at hw
    split at hw
    · cases hw
    · rename_i h
      obtain rfl : w = cur := by simpa using hw
      exact ⟨h, hc⟩
  | c :: r, cur, hc, w, hw => by
    simp only [W] at hw
    split at hw
    · split at hw
      · exact W_words r [] (by simp) w hw
      · rename_i h
        rcases List.mem_cons.mp hw with rfl | hw
        · exact ⟨h, hc⟩
        · exact W_words r [] (by simp) w hw
    · rename_i h
      refine W_words r (cur ++ [c]) ?_ w hw
      intro d hd
      rcases List.mem_append.mp hd with h1 | h1
      · exact hc d h1
      · obtain rfl : d = c := by simpa using h1
        simpa using h
theorem W_J : ∀ ws : List (List UInt8), (∀ w ∈ ws, w ≠ [] ∧ ∀ c ∈ w, bl c = false) → W [] (J 32 ws) = ws
  | [], _ => rfl
  | w :: t, h => by
    obtain ⟨h1, h2⟩ := h w (by simp)
    simp only [J]
    rw [W_whole w [] _ h2 (by simpa using h1), W_J t (fun v hv => h v (by simp [hv]))]
    rfl
theorem words_back (l : List UInt8) : wordsOf (S (J 32 (W [] l))) = wordsOf (S l) := by
  rw [words_W, words_W, W_J _ (W_words l [] (by simp))]
theorem J_length : ∀ (l cur : List UInt8), (J 32 (W cur l)).length ≤ cur.length + l.length + 1
  | [], cur => by simp only [W]; split <;> simp [J]
  | c :: r, cur => by
    simp only [W]
    split
    · split
      · have := J_length r []; simp at this ⊢; omega
      · have := J_length r []; simp [J] at this ⊢; omega
    · have := J_length r (cur ++ [c]); simp at this ⊢; omega
theorem J_take (c : UInt8) : ∀ (ws : List (List UInt8)) (i : Nat), (J c (ws.take i)).length ≤ (J c ws).length
  | [], i => by simp [J]
  | w :: t, 0 => by simp [J]
  | w :: t, i + 1 => by
    have := J_take c t i
    simp only [List.take_succ_cons, J, List.length_append, List.length_cons]; omega
theorem J_snoc (c : UInt8) : ∀ (ws : List (List UInt8)) (i : Nat) (h : i < ws.length), J c (ws.take (i + 1)) = J c (ws.take i) ++ (ws[i] ++ [c])
  | [], i, h => absurd h (Nat.not_lt_zero _)
  | w :: t, 0, h => by simp [J]
  | w :: t, i + 1, h => by
    simp only [List.take_succ_cons, J, List.getElem_cons_succ]
    rw [J_snoc c t i (by simpa using h)]
    simp
theorem J_part (c : UInt8) (ws : List (List UInt8)) (i : Nat) (h : i < ws.length) : (J c (ws.take i)).length + ws[i].length + 1 ≤ (J c ws).length := by
  have h1 := J_take c ws (i + 1)
  rw [J_snoc c ws i h] at h1
  simp at h1; omega
/-- Lines with newlines behind them. -/
theorem go_J : ∀ (r cur : List UInt8), J 10 (go cur r) = cur ++ r ∨ (J 10 (go cur r) = cur ++ r ++ [10] ∧ cur ++ r ≠ [])
  | [], cur => by
    simp only [go]
    by_cases h : cur = []
    · rw [if_pos h]; left; simp [J, h]
    · rw [if_neg h]; right; simp [J, h]
  | c :: r, cur => by
    simp only [go]
    by_cases h : c = 10
    · rw [if_pos h, h]
      rcases go_J r [] with e | ⟨e, _⟩
      · left; simp only [J, e]; simp
      · right; simp only [J, e]; simp
    · rw [if_neg h]
      rcases go_J r (cur ++ [c]) with e | ⟨e, _⟩
      · left; rw [e]; simp
      · right; rw [e]; simp
theorem lines_J (l : List UInt8) : J 10 (lines l) = l ∨ (J 10 (lines l) = l ++ [10] ∧ l ≠ []) := by
  rw [lines_go]; simpa using go_J l []
theorem lines_J_length (l : List UInt8) : (J 10 (lines l)).length ≤ l.length + 1 := by
  rcases lines_J l with e | ⟨e, _⟩ <;> rw [e] <;> simp
theorem loop_run2 {σ ρ : Type} (F : Nat → σ → Int → Option ρ) (St : Nat → σ) (n : Nat) (r : ρ) (K : Nat) (step : ∀ k i : Nat, i < n → F (k + 1) (St i) (i : Int) = F k (St (i + 1)) ((i + 1 : Nat) : Int)) (stop : ∀ k : Nat, K ≤ k → F (k + 1) (St n) (n : Int) = some r) :
    ∀ k, n + K < k → F k (St 0) 0 = some r := by
  have key : ∀ d i k : Nat, i + d = n → d + K < k → F k (St i) (i : Int) = some r := by
    intro d
    induction d with
    | zero =>
      intro i k hi hk
      obtain ⟨k, rfl⟩ : ∃ m, k = m + 1 := ⟨k - 1, by omega⟩
      obtain rfl : i = n := by omega
      exact stop k (by omega)
    | succ d ih =>
      intro i k hi hk
      obtain ⟨k, rfl⟩ : ∃ m, k = m + 1 := ⟨k - 1, by omega⟩
      rw [step k i (by omega)]
      exact ih (i + 1) k (by omega) (by omega)
  intro k hk
  exact key n 0 k (by omega) (by omega)
end Go.Proofs.YtchakfdnmabkjaaDoor.BackWrd
