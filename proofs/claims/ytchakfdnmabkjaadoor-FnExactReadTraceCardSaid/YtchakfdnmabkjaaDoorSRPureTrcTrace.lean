import Derived.Test.YtchakfdnmabkjaaDoorSRPureTrcBoth
import Derived.Test.YtchakfdnmabkjaaDoorSRPureTrcBack
import Derived.Test.YtchakfdnmabkjaaDoorSRPureTrcSLines
import Derived.Test.YtchakfdnmabkjaaDoorSRMyTrcXJoin
import Derived.Test.YtchakfdnmabkjaaDoorSRPTrcx5
import Derived.Test.YtchakfdnmabkjaaDoorSRPTrcx13
namespace Go.Proofs.YtchakfdnmabkjaaDoor.RdTTrc
open Go.RowKit Go.Proofs.YtchakfdnmabkjaaDoor.PTrc Go.Proofs.YtchakfdnmabkjaaDoor.Plain Go.Proofs.YtchakfdnmabkjaaDoor.Str Go.Proofs.YtchakfdnmabkjaaDoor.HexTrc Go.Proofs.YtchakfdnmabkjaaDoor.CycTrc Go.Proofs.YtchakfdnmabkjaaDoor.WordTrc Go.Proofs.YtchakfdnmabkjaaDoor.LinesTrc Go.Proofs.YtchakfdnmabkjaaDoor.BackTrc Go.Proofs.YtchakfdnmabkjaaDoorW.PrintWords Go.Proofs.YtchakfdnmabkjaaDoorW.PrintLast Go.Proofs.YtchakfdnmabkjaaDoorW.PrintMore
theorem rd_S (ws : List (List UInt8)) (i : Nat) (h : i < ws.length) : rdOf ByteArray.empty (ws.map S) (i : Int) = S ws[i] := by
  show (ws.map S).getD ((i : Int)).toNat ByteArray.empty = _
  rw [Int.toNat_natCast, getD_lt _ _ _ (by simpa using h), List.getElem_map]
theorem join_J : ∀ ws : List (List UInt8), ws ≠ [] → J 32 ws = Lib.join ws [32] ++ [32]
  | [], h => absurd rfl h
  | [w], _ => by simp [J, Lib.join_one]
  | w :: y :: t, _ => by
    have h := join_J (y :: t) (by simp)
    rw [Lib.join_cons] at h
    simp only [J] at h ⊢
    rw [h, Lib.join_cons]
    simp [Lib.joinTail]
theorem count_J : ∀ ws : List (List UInt8), ws.length ≤ (J 32 ws).count 32
  | [] => by simp
  | w :: t => by
    have := count_J t
    simp only [J, List.count_append, List.count_cons_self, List.length_cons]; omega
theorem count_join (ws : List (List UInt8)) (h : ws ≠ []) : ws.length ≤ (Lib.join ws [32]).count 32 + 1 := by
  have := count_J ws
  rw [join_J ws h] at this
  simpa using this
theorem dig_ne (m : Nat) (h : m < 16) : dig m ≠ 32 := by
  have key : ∀ m, m < 16 → dig m ≠ 32 := by decide
  exact key m h
theorem hexL_count (n : Nat) : ∀ i, (hexL n i).count 32 = 0
  | 0 => rfl
  | i + 1 => by
    simp only [hexL]
    rw [List.count_cons_of_ne (dig_ne _ (Nat.mod_lt _ (by decide))), hexL_count n i]
theorem cycL_count (x y : Nat) (q : Bool) : (cycL x y q).count 32 = 2 := by
  unfold cycL
  simp only [List.count_append, hexL_count]
  cases q <;> decide
theorem join_size (l : List UInt8) : (Lib.join (W [] l) [32]).length ≤ l.length := by
  by_cases h : W [] l = []
  · rw [h]; simp [Lib.join_nil]
  · have := J_length l []
    rw [join_J _ h] at this
    simp at this; omega
theorem join_take (ws : List (List UInt8)) (i : Nat) (h : i < ws.length) (h0 : 0 < i) : Lib.join (ws.take (i + 1)) [32] = Lib.join (ws.take i) [32] ++ [32] ++ ws[i] := by
  have hn : ∀ j, 0 < j → 0 < ws.length → ws.take j ≠ [] := by
    intro j hj hl e
    have hh := congrArg List.length e
    rw [List.length_take, List.length_nil] at hh; omega
  have e := J_snoc 32 ws i h
  rw [join_J _ (hn (i + 1) (by omega) (by omega)), join_J _ (hn i h0 (by omega))] at e
  have e2 : Lib.join (ws.take (i + 1)) [32] ++ [32] = (Lib.join (ws.take i) [32] ++ [32] ++ ws[i]) ++ [32] := by rw [e]; simp
  exact List.append_cancel_right e2
theorem join_first (ws : List (List UInt8)) (h : 0 < ws.length) : Lib.join (ws.take 1) [32] = ws[0] := by
  cases ws with
  | nil => simp at h
  | cons w t => simp [Lib.join_one]
theorem join_part (ws : List (List UInt8)) (i : Nat) (B : Nat) (hB : (J 32 ws).length ≤ B) : (Lib.join (ws.take i) [32]).length ≤ B := by
  by_cases h : ws.take i = []
  · rw [h]; simp [Lib.join_nil]
  · have := J_take 32 ws i
    rw [join_J _ h] at this
    simp at this; omega
theorem inner (L : List ByteArray) (out : List S53) (i0 : Int) (ws : List (List UInt8)) (hB : (J 32 ws).length ≤ 100000) (hw : ws.length ≤ 100000) (r : List S53 × Int) (K : Nat)
    (hfin : ∀ k x9, K < k → spec_ReadTrace.j2 k L out i0 (ws.map S) (S (Lib.join (ws.take 4) [32])) x9 false = some r) :
    ∀ d i, i + d = min ws.length 4 → ∀ k, K + 2 * d + 1 < k → spec_ReadTrace.l1 k L out i0 (ws.map S) (S (Lib.join (ws.take i) [32])) (i : Int) = some r
  | 0, i, hi, 0, hk => absurd hk (Nat.not_lt_zero _)
  | 0, i, hi, k + 1, hk => by
    simp only [spec_ReadTrace.l1, List.length_map]
    have e : ws.take i = ws.take 4 := by
      by_cases h4 : ws.length ≤ 4
      · rw [List.take_of_length_le (by omega), List.take_of_length_le (by omega)]
      · rw [show i = 4 by omega]
    rw [e]
    by_cases hl : (i : Int) < (ws.length : Int)
    · rw [if_pos hl, decide_eq_false (by omega)]
      exact hfin k _ (by omega)
    · rw [if_neg hl]
      exact hfin k _ (by omega)
  | d + 1, i, hi, 0, hk => absurd hk (Nat.not_lt_zero _)
  | d + 1, i, hi, 1, hk => by omega
  | d + 1, i, hi, k + 2, hk => by
    have hil : i < ws.length := by omega
    have ih := inner L out i0 ws hB hw r K hfin d (i + 1) (by omega) k (by omega)
    have hp := join_part ws i 100000 hB
    have hwi := J_part 32 ws i hil
    simp only [spec_ReadTrace.l1, List.length_map]
    rw [if_pos (by omega), decide_eq_true (by omega)]
    simp only [spec_ReadTrace.j2, List.length_map, if_true]
    rw [rd_S ws i hil, wsucc (by omega)]
    by_cases h0 : 0 < i
    · rw [if_pos (by omega), if_pos (by rw [S_size]; omega), if_pos (by omega), if_pos (by omega), show (⟨#[32]⟩ : ByteArray) = S [32] from rfl, S_append, S_append, if_pos (by rw [S_size, S_size]; simp; omega)]
      rw [join_take ws i hil h0] at ih
      exact ih
    · obtain rfl : i = 0 := by omega
      rw [if_neg (by omega), if_pos (by omega), if_pos (by omega), if_pos (by rw [S_size, S_size]; simp [Lib.join_nil]; omega), S_append]
      rw [join_first ws hil] at ih
      simpa [Lib.join_nil] using ih
theorem texts (ws : List (List UInt8)) (hne : ws ≠ []) : ∃ q q2 : Int × Int × Bool × Bool, (∀ k, 20 < k → spec_ReadCyc.f k (S (Lib.join (ws.take 4) [32])) = some q) ∧ (∀ k, 20 < k → impl_ReadCyc.f k (S (Lib.join ws [32])) = some q2) ∧ (q = q2 ∨ (q.2.2.2 = false ∧ q2.2.2.2 = false)) := by
  obtain ⟨q, h1, h2, h3⟩ := readCyc_both (S (Lib.join (ws.take 4) [32]))
  obtain ⟨q2, g1, g2, g3⟩ := readCyc_both (S (Lib.join ws [32]))
  refine ⟨q, q2, h1, g2, ?_⟩
  by_cases h4 : ws.length ≤ 4
  · rw [List.take_of_length_le h4] at h1
    left
    exact Option.some.inj ((h1 21 (by omega)).symm.trans (g1 21 (by omega)))
  · right
    have no : ∀ (vs : List (List UInt8)) (p : Int × Int × Bool × Bool), vs ≠ [] → 4 ≤ vs.length → (p.2.2.2 = true → ∃ (x y : Nat) (q : Bool), x ≤ 65535 ∧ y ≤ 255 ∧ S (Lib.join vs [32]) = S (cycL x y q) ∧ p = ((x : Int), (y : Int), q, true)) → p.2.2.2 = false := by
      intro vs p hv hl hp
      cases hc : p.2.2.2 with
      | false => rfl
      | true =>
        obtain ⟨x, y, b, _, _, e, _⟩ := hp hc
        have e2 := S_inj e
        have c1 := count_join vs hv
        rw [e2, cycL_count] at c1
        omega
    exact ⟨no (ws.take 4) q (by intro e; have hh := congrArg List.length e; rw [List.length_take, List.length_nil] at hh; omega) (by simp; omega) h3, no ws q2 hne (by omega) g3⟩
theorem both_run (L : List (List UInt8)) (hL : L.length ≤ 20001) (hx : ∀ x ∈ L, x.length ≤ 20000) : ∀ (rest : List (List UInt8)) (i : Nat) (out : List S53), L.drop i = rest → i + rest.length = L.length → out.length ≤ 1200 →
    ∃ r : List S53 × Int, r.1.length ≤ 1200 ∧ (∀ k, 70000 + 20 * rest.length < k → spec_ReadTrace.l0 k (L.map S) out (i : Int) = some r) ∧ (∀ k, 70000 + 20 * rest.length < k → impl_ReadTrace.l0 k out (L.map S) (L.length : Int) (i : Int) = some r)
  | [], i, out, hr, hi, ho => by
    have hi' : i = L.length := by simpa using hi
    refine ⟨(out, 0), ho, fun k hk => ?_, fun k hk => ?_⟩
    · obtain ⟨k, rfl⟩ : ∃ j, k = j + 1 := ⟨k - 1, by omega⟩
      simp only [spec_ReadTrace.l0, List.length_map]
      rw [if_neg (by omega)]
    · obtain ⟨k, rfl⟩ : ∃ j, k = j + 1 := ⟨k - 1, by omega⟩
      simp only [impl_ReadTrace.l0]
      rw [if_neg (by omega)]
  | x :: rest, i, out, hr, hi, ho => by
    have hil : i < L.length := by simp at hi; omega
    have hxl : L[i] = x := by
      have := congrArg (·[0]?) hr
      simpa [List.getElem?_eq_getElem hil] using this
    have hr' : L.drop (i + 1) = rest := by rw [← List.drop_drop, hr]; rfl
    have hlen : x.length ≤ 20000 := by rw [← hxl]; exact hx _ (List.getElem_mem hil)
    have hw1 : ∀ k, 60002 < k → spec_Words.f k (S x) = some ((W [] x).map S) := fun k hk => by
      rw [spec_words (S x) (by rw [S_size]; omega) k (by rw [S_size]; omega), words_W]
    have hw2 : impl_Words.f (S x) = some ((W [] x).map S) := by
      rw [impl_words (S x) (by rw [S_size]; omega), words_W]
    have hJ := J_length x []
    have hwl : (W [] x).length ≤ x.length + 1 := by
      have := words_length (S x); rw [words_W, S_size, List.length_map] at this; exact this
    have ih := fun o ho => both_run L hL hx rest (i + 1) o hr' (by simp at hi; omega) ho
    by_cases hz : W [] x = []
    · obtain ⟨r, hr1, hr2, hr3⟩ := ih out ho
      refine ⟨r, hr1, fun k hk => ?_, fun k hk => ?_⟩
      · obtain ⟨k, rfl⟩ : ∃ j, k = j + 1 := ⟨k - 1, by omega⟩
        simp only [spec_ReadTrace.l0, List.length_map]
        rw [if_pos (by omega), if_pos (by omega), rd_S L i hil, hxl, hw1 k (by omega), hz]
        simp only [Option.bind_some, List.map_nil, List.length_nil]
        rw [if_pos (by rfl), wsucc (by omega)]
        exact hr2 k (by simp at hk; omega)
      · obtain ⟨k, rfl⟩ : ∃ j, k = j + 1 := ⟨k - 1, by omega⟩
        simp only [impl_ReadTrace.l0, List.length_map]
        rw [if_pos (by omega), if_pos (by omega), if_pos (by omega), rd_S L i hil, hxl, hw2, hz]
        simp only [Option.bind_some, List.map_nil, List.length_nil]
        rw [if_pos (by rfl), wsucc (by omega)]
        exact hr3 k (by simp at hk; omega)
    · have hwn : (W [] x).length ≠ 0 := by
        intro e; exact hz (List.length_eq_zero_iff.mp e)
      obtain ⟨q, q2, h1, h2, h3⟩ := texts (W [] x) hz
      have hj : strings_Join.f ((W [] x).map S) (⟨#[32]⟩ : ByteArray) = some (S (Lib.join (W [] x) [32])) := by
        have hs := join_size x
        have em : ((W [] x).map S).map (·.data.toList) = W [] x := by
          rw [List.map_map]; exact (List.map_congr_left (fun b _ => by simp [S])).trans (List.map_id _)
        have e32 : (⟨#[32]⟩ : ByteArray).data.toList = [32] := rfl
        unfold strings_Join.f
        rw [em, e32, if_pos (by rw [List.length_map]; omega), if_pos (by omega)]
        rfl
      have fin : ∃ r : List S53 × Int, r.1.length ≤ 1200 ∧
          (∀ k, 70000 + 20 * rest.length < k → (if q.2.2.2 = true then (if (out.length : Int) = 1200 then (some ((([] : List S53)), ((i + 1 : Nat) : Int))) else (if out.length < 35184372088832 then (spec_ReadTrace.l0 k (L.map S) (out ++ [(⟨q.1, q.2.1, q.2.2.1⟩ : S53)]) ((i + 1 : Nat) : Int)) else (none))) else (some ((([] : List S53)), ((i + 1 : Nat) : Int)))) = some r) ∧
          (∀ k, 70000 + 20 * rest.length < k → (if q2.2.2.2 = true then (if (out.length : Int) = 1200 then (some (([] : List S53), ((i + 1 : Nat) : Int))) else (if out.length < 35184372088832 then (impl_ReadTrace.l0 k (out ++ [(⟨q2.1, q2.2.1, q2.2.2.1⟩ : S53)]) (L.map S) (L.length : Int) ((i + 1 : Nat) : Int)) else (none))) else (some (([] : List S53), ((i + 1 : Nat) : Int)))) = some r) := by
        rcases h3 with rfl | ⟨hq, hq2⟩
        · by_cases hq : q.2.2.2 = true
          · by_cases hf : (out.length : Int) = 1200
            · exact ⟨([], ((i + 1 : Nat) : Int)), by simp, fun k _ => by rw [if_pos hq, if_pos hf], fun k _ => by rw [if_pos hq, if_pos hf]⟩
            · obtain ⟨r, hr1, hr2, hr3⟩ := ih (out ++ [⟨q.1, q.2.1, q.2.2.1⟩]) (by simp; omega)
              exact ⟨r, hr1, fun k hk => by rw [if_pos hq, if_neg hf, if_pos (by omega)]; exact hr2 k hk, fun k hk => by rw [if_pos hq, if_neg hf, if_pos (by omega)]; exact hr3 k hk⟩
          · exact ⟨([], ((i + 1 : Nat) : Int)), by simp, fun k _ => by rw [if_neg hq], fun k _ => by rw [if_neg hq]⟩
        · exact ⟨([], ((i + 1 : Nat) : Int)), by simp, fun k _ => by rw [if_neg (by rw [hq]; decide)], fun k _ => by rw [if_neg (by rw [hq2]; decide)]⟩
      obtain ⟨r, hr1, hr2, hr3⟩ := fin
      refine ⟨r, hr1, fun k hk => ?_, fun k hk => ?_⟩
      · obtain ⟨k, rfl⟩ : ∃ j, k = j + 1 := ⟨k - 1, by omega⟩
        simp only [spec_ReadTrace.l0, List.length_map]
        rw [if_pos (by omega), if_pos (by omega), rd_S L i hil, hxl, hw1 k (by omega)]
        simp only [Option.bind_some, List.length_map]
        rw [if_neg (by omega)]
        have hin := inner (L.map S) out (i : Int) (W [] x) (by simp at hJ; omega) (by omega) r (70000 + 20 * rest.length + 1) (fun k x9 hkk => by
          obtain ⟨k, rfl⟩ : ∃ j, k = j + 1 := ⟨k - 1, by omega⟩
          simp only [spec_ReadTrace.j2, Bool.false_eq_true, if_false]
          rw [h1 k (by omega), wsucc (by omega)]
          simp only [Option.bind_some]
          exact hr2 k (by omega)) (min (W [] x).length 4) 0 (by omega) k (by simp at hk; omega)
        simpa [Lib.join_nil, S] using hin
      · obtain ⟨k, rfl⟩ : ∃ j, k = j + 1 := ⟨k - 1, by omega⟩
        simp only [impl_ReadTrace.l0, List.length_map]
        rw [if_pos (by omega), if_pos (by omega), if_pos (by omega), rd_S L i hil, hxl, hw2]
        simp only [Option.bind_some, List.length_map]
        rw [if_neg (by omega), hj]
        simp only [Option.bind_some]
        rw [h2 k (by omega), wsucc (by omega)]
        simp only [Option.bind_some]
        exact hr3 k (by simp at hk; omega)
theorem line_size (l : List UInt8) : ∀ x ∈ lines l, x.length ≤ l.length := by
  intro x hx
  obtain ⟨i, hi, rfl⟩ := List.getElem_of_mem hx
  have h1 := J_part 10 (lines l) i hi
  have h2 := lines_J_length l
  omega
theorem readTrace_both (l : List UInt8) (hl : l.length ≤ 1048576) : ∃ r : List S53 × Int, r.1.length ≤ 1200 ∧ (∀ k, 1200000 < k → spec_ReadTrace.f k (S l) = some r) ∧ (∀ k, 1200000 < k → impl_ReadTrace.f k (S l) = some r) := by
  by_cases hb : ((S l).size : Int) > 20000
  · refine ⟨([], 1), by simp, fun k _ => ?_, fun k _ => ?_⟩
    · unfold spec_ReadTrace.f; rw [if_pos hb]
    · unfold impl_ReadTrace.f; rw [if_pos hb]
  · have hs : l.length ≤ 20000 := by rw [S_size] at hb; omega
    have hn : (lines l).length ≤ 20001 := by
      have := linesOf_length l; rw [linesOf_eq, List.length_map] at this; omega
    obtain ⟨r, hr1, hr2, hr3⟩ := both_run (lines l) hn (fun x hx => Nat.le_trans (line_size l x hx) hs) (lines l) 0 [] rfl (by simp) (by simp)
    refine ⟨r, hr1, fun k hk => ?_, fun k hk => ?_⟩
    · unfold spec_ReadTrace.f
      rw [if_neg hb, specLines_eq l hl k (by omega), linesOf_eq]
      simp only [Option.bind_some]
      exact hr2 k (by omega)
    · have e2 : impl_Lines.f (S l) = some ((lines l).map S) := by
        unfold impl_Lines.f
        rw [if_pos (by rw [S_size]; omega), linesOf_eq]
      unfold impl_ReadTrace.f
      rw [if_neg hb, e2]
      simp only [Option.bind_some, List.length_map]
      exact hr3 k (by omega)
end Go.Proofs.YtchakfdnmabkjaaDoor.RdTTrc
