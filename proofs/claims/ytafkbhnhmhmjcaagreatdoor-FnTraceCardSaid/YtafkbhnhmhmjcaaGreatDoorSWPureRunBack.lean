import Derived.Lib.IndexBytes
import Derived.Test.YtafkbhnhmhmjcaaGreatDoorSWMyStr
import Derived.Test.YtafkbhnhmhmjcaaGreatDoorSWMyRunXLines
import Derived.Test.YtafkbhnhmhmjcaaGreatDoorSWPureRunWords
section
namespace Go.Proofs.YtafkbhnhmhmjcaaGreatDoor.LinesRun
open Go.RowKit Go.Proofs.YtafkbhnhmhmjcaaGreatDoor.PRun Go.Proofs.YtafkbhnhmhmjcaaGreatDoor.Plain Go.Proofs.YtafkbhnhmhmjcaaGreatDoor.Str Go.Proofs.YtafkbhnhmhmjcaaGreatDoorW.PrintWords Go.Proofs.YtafkbhnhmhmjcaaGreatDoorW.PrintLast
def onto (cur : List UInt8) : List (List UInt8) → List (List UInt8)
  | [] => [cur]
  | h :: t => (cur ++ h) :: t
def segs : List UInt8 → List (List UInt8)
  | [] => [[]]
  | c :: r => if c = 10 then [] :: segs r else onto [c] (segs r)
theorem segs_ne (l : List UInt8) : segs l ≠ [] := by
  cases l with
  | nil => simp [segs]
  | cons c r =>
    simp only [segs]
    split
    · simp
    · cases segs r <;> simp [onto]
theorem split_other (c : UInt8) (hc : c ≠ 10) (r : List UInt8) (k : Nat) : Lib.splitK [10] 0 k (c :: r) = onto [c] (Lib.splitK [10] 0 k r) := by
  cases k with
  | zero => rfl
  | succ k =>
    have hx : Lib.index (c :: r) [10] = if Lib.index r [10] == -1 then -1 else Lib.index r [10] + 1 := by
      rw [Lib.index]
      have hp : ([10] : List UInt8).isPrefixOf (c :: r) = false := by simp [List.isPrefixOf, Ne.symm hc]
      rw [hp]; simp
    simp only [Lib.splitK]
    by_cases hm : Lib.index r [10] = -1
    · rw [hx, hm]; simp [onto]
    · have hge := Lib.index_ge r [10]
      obtain ⟨j, hj⟩ : ∃ j : Nat, Lib.index r [10] = j := ⟨(Lib.index r [10]).toNat, by omega⟩
      have e1 : (((j : Nat) : Int) == -1) = false := beq_eq_false_iff_ne.mpr (by omega)
      have e2 : (((j : Nat) : Int) + 1 == -1) = false := beq_eq_false_iff_ne.mpr (by omega)
      rw [hx, hj, e1]
      simp only [Bool.false_eq_true, if_false, e2, show (((j : Nat) : Int) + 1).toNat = j + 1 by omega, Int.toNat_natCast, Nat.add_zero, List.length_cons, List.length_nil, Nat.zero_add]
      rw [show j + 1 + 1 = (j + 1) + 1 from rfl]
      simp [onto]
theorem split_here (r : List UInt8) (k : Nat) : Lib.splitK [10] 0 (k + 1) (10 :: r) = [] :: Lib.splitK [10] 0 k r := by
  have hx : Lib.index (10 :: r) [10] = 0 := by
    rw [Lib.index]; simp [List.isPrefixOf]
  simp only [Lib.splitK]
  rw [hx]
  simp
theorem split_segs : ∀ l : List UInt8, Lib.splitK [10] 0 (Lib.count l [10]) l = segs l
  | [] => by rw [Lib.count_one]; rfl
  | c :: r => by
    simp only [segs]
    by_cases hc : c = 10
    · subst hc
      rw [if_pos rfl, Lib.count_cons_eq, Nat.add_comm 1, split_here, split_segs r]
    · rw [if_neg hc, Lib.count_cons_ne c 10 r hc, split_other c hc, split_segs r]
theorem pieces_segs (l : List UInt8) : pieces (S l) = (segs l).map S := by
  have h : (pieces (S l)).map (·.data.toList) = segs l := by
    unfold pieces
    rw [Lib.splitB_data]
    exact split_segs l
  rw [← h, List.map_map]
  exact ((List.map_congr_left (fun s _ => S_data s)).trans (List.map_id _)).symm
def trim : List (List UInt8) → List (List UInt8)
  | [] => []
  | [x] => if x = [] then [] else [x]
  | x :: y :: t => x :: trim (y :: t)
theorem trim_cons (x : List UInt8) (L : List (List UInt8)) (h : L ≠ []) : trim (x :: L) = x :: trim L := by
  cases L with
  | nil => exact absurd rfl h
  | cons y t => rfl
theorem trim_last : ∀ (L : List (List UInt8)) (n : Nat), L.length = n + 1 → trim L = if L.getD n [] = [] then L.take n else L
  | [], n, h => by simp at h
  | [x], n, h => by
    obtain rfl : n = 0 := by simpa using h.symm
    simp only [trim, List.getD_cons_zero]
    split <;> simp
  | x :: y :: t, n, h => by
    cases n with
    | zero => simp at h
    | succ n =>
      simp only [trim, List.getD_cons_succ, List.take_succ_cons]
      rw [trim_last (y :: t) n (by simpa using h)]
      split <;> simp
def lines (l : List UInt8) : List (List UInt8) := trim (segs l)
theorem linesOf_eq (l : List UInt8) : linesOf (S l) = (lines l).map S := by
  have hn := pieces_length (S l)
  unfold linesOf lines
  rw [pieces_segs] at hn ⊢
  generalize Lib.countB (S l) nlB = n at hn ⊢
  have hn' : (segs l).length = n + 1 := by simpa using hn
  generalize segs l = L at hn' ⊢
  rw [trim_last L n hn']
  have hr : (rdOf (⟨#[]⟩ : ByteArray) (L.map S) ((n : Nat) : Int)).toList = L.getD n [] := by
    show ((L.map S).getD ((n : Nat) : Int).toNat ⟨#[]⟩).toList = _
    rw [Int.toNat_natCast, List.getD_eq_getElem?_getD, List.getElem?_map, List.getD_eq_getElem?_getD]
    have hi : n < L.length := by omega
    rw [List.getElem?_eq_getElem hi]
    exact S_toList _
  rw [hr]
  split
  · rw [List.map_take]
  · rfl
def go (cur : List UInt8) : List UInt8 → List (List UInt8)
  | [] => if cur = [] then [] else [cur]
  | c :: r => if c = 10 then cur :: go [] r else go (cur ++ [c]) r
theorem onto_onto (a b : List UInt8) (L : List (List UInt8)) (h : L ≠ []) : onto a (onto b L) = onto (a ++ b) L := by
  cases L with
  | nil => exact absurd rfl h
  | cons x t => simp [onto]
theorem onto_nil (L : List (List UInt8)) (h : L ≠ []) : onto [] L = L := by
  cases L with
  | nil => exact absurd rfl h
  | cons x t => simp [onto]
theorem go_eq : ∀ (r cur : List UInt8), go cur r = trim (onto cur (segs r))
  | [], cur => by simp [go, segs, onto, trim]
  | c :: r, cur => by
    simp only [go, segs]
    by_cases hc : c = 10
    · rw [if_pos hc, if_pos hc, go_eq r []]
      rw [onto_nil _ (segs_ne r), show onto cur ([] :: segs r) = cur :: segs r by simp [onto], trim_cons _ _ (segs_ne r)]
    · rw [if_neg hc, if_neg hc, go_eq r (cur ++ [c]), onto_onto _ _ _ (segs_ne r)]
theorem lines_go (l : List UInt8) : lines l = go [] l := by
  rw [go_eq, onto_nil _ (segs_ne l)]; rfl
end Go.Proofs.YtafkbhnhmhmjcaaGreatDoor.LinesRun
end
section
namespace Go.Proofs.YtafkbhnhmhmjcaaGreatDoor.BackRun
open Go.RowKit Go.Proofs.YtafkbhnhmhmjcaaGreatDoor.PRun Go.Proofs.YtafkbhnhmhmjcaaGreatDoor.Plain Go.Proofs.YtafkbhnhmhmjcaaGreatDoor.Str Go.Proofs.YtafkbhnhmhmjcaaGreatDoor.WordRun Go.Proofs.YtafkbhnhmhmjcaaGreatDoor.LinesRun Go.Proofs.YtafkbhnhmhmjcaaGreatDoorW.PrintWords Go.Proofs.YtafkbhnhmhmjcaaGreatDoorW.PrintLast
def bl (c : UInt8) : Bool := blankB c.toNat
def W (cur : List UInt8) : List UInt8 → List (List UInt8)
  | [] => if cur = [] then [] else [cur]
  | c :: r => if bl c = true then (if cur = [] then W [] r else cur :: W [] r) else W (cur ++ [c]) r
theorem byteAt_S (l : List UInt8) (i : Nat) (h : i < l.length) : blankB (byteAt (S l) i) = bl l[i] := by
  have h1 := bt_byteAt (S l) i (by rw [S_size]; exact h)
  rw [bt_S l i h] at h1
  have : byteAt (S l) i = l[i].toNat := by omega
  rw [this]; rfl
theorem spans_W (l : List UInt8) : ∀ (r : List UInt8) (pos : Nat) (n : Nat), l.drop pos = r → n = r.length → pos + n = l.length →
    ((spans (S l) n pos none).map fun x => (S l).extract x.1 x.2) = (W [] r).map S ∧ ∀ a, a < pos → ((spans (S l) n pos (some a)).map fun x => (S l).extract x.1 x.2) = (W ((l.drop a).take (pos - a)) r).map S
  | [], pos, n, hr, hn, hp => by
    subst hn
    refine ⟨rfl, fun a ha => ?_⟩
    have hlen : ((l.drop a).take (pos - a)).length = pos - a := by simp at hp ⊢; omega
    have hne : (l.drop a).take (pos - a) ≠ [] := by
      intro e; rw [e] at hlen; simp at hlen; omega
    simp only [List.length_nil, spans, W, if_neg hne, List.map_cons, List.map_nil, S_extract]
  | c :: r, pos, n, hr, hn, hp => by
    subst hn
    have hil : pos < l.length := by simp at hp; omega
    have hb : l[pos] = c := by
      have := congrArg (·[0]?) hr
      simpa [List.getElem?_eq_getElem hil] using this
    have hr' : l.drop (pos + 1) = r := by rw [← List.drop_drop, hr]; rfl
    have hbl := byteAt_S l pos hil
    rw [hb] at hbl
    obtain ⟨ih0, ih1⟩ := spans_W l r (pos + 1) r.length hr' rfl (by simp at hp; omega)
    have hseg : ∀ a, a < pos + 1 → (l.drop a).take (pos + 1 - a) = (l.drop a).take (pos - a) ++ [c] := by
      intro a ha
      rw [show pos + 1 - a = (pos - a) + 1 by omega, List.take_add_one, List.getElem?_drop, show a + (pos - a) = pos by omega, List.getElem?_eq_getElem hil, hb]
      rfl
    refine ⟨?_, fun a ha => ?_⟩
    · simp only [List.length_cons, spans, W, hbl]
      by_cases h : bl c = true
      · rw [if_pos h, if_pos h, if_pos trivial]; exact ih0
      · rw [if_neg h, if_neg h, ih1 pos (by omega), hseg pos (by omega)]
        simp
    · have hlen : ((l.drop a).take (pos - a)).length = pos - a := by simp; omega
      have hne : (l.drop a).take (pos - a) ≠ [] := by
        intro e; rw [e] at hlen; simp at hlen; omega
      simp only [List.length_cons, spans, W, hbl]
      by_cases h : bl c = true
      · rw [if_pos h, if_pos h, if_neg hne, List.map_cons, List.map_cons, ih0, S_extract]
      · rw [if_neg h, if_neg h, ih1 a (by omega), hseg a (by omega)]
theorem words_W (l : List UInt8) : wordsOf (S l) = (W [] l).map S := by
  unfold wordsOf
  rw [S_size]
  exact (spans_W l l 0 l.length rfl rfl (by simp)).1
def J (c : UInt8) : List (List UInt8) → List UInt8
  | [] => []
  | w :: t => w ++ c :: J c t
theorem W_whole : ∀ (w cur rest : List UInt8), (∀ c ∈ w, bl c = false) → cur ++ w ≠ [] → W cur (w ++ 32 :: rest) = (cur ++ w) :: W [] rest
  | [], cur, rest, _, hne => by
    have hc : cur ≠ [] := by simpa using hne
    have h32 : bl 32 = true := by decide
    simp only [List.nil_append, W, if_pos h32, if_neg hc, List.append_nil]
  | c :: w, cur, rest, h, hne => by
    have hc : bl c = false := h c (by simp)
    simp only [List.cons_append, W, hc, Bool.false_eq_true, if_false]
    rw [W_whole w (cur ++ [c]) rest (fun d hd => h d (by simp [hd])) (by simp)]
    simp
end Go.Proofs.YtafkbhnhmhmjcaaGreatDoor.BackRun
end
