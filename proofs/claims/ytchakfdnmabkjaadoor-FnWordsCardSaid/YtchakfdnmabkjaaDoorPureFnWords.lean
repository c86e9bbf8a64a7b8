/- The plain side of FnWords. -/
import Derived.Test.YtchakfdnmabkjaaDoorPureWrdBack
import Derived.Test.YtchakfdnmabkjaaDoorPureWrdDraw
import Derived.Test.YtchakfdnmabkjaaDoorPWrdx6
namespace Go.Proofs.YtchakfdnmabkjaaDoor.Pure
open Go.RowKit Go.Proofs.YtchakfdnmabkjaaDoor.PWrd Go.Proofs.YtchakfdnmabkjaaDoor.Plain Go.Proofs.YtchakfdnmabkjaaDoor.Str Go.Proofs.YtchakfdnmabkjaaDoor.WordWrd Go.Proofs.YtchakfdnmabkjaaDoor.LinesWrd Go.Proofs.YtchakfdnmabkjaaDoor.BackWrd Go.Proofs.YtchakfdnmabkjaaDoor.DrawWrd Go.Proofs.YtchakfdnmabkjaaDoorW.PrintWords Go.Proofs.YtchakfdnmabkjaaDoorW.PrintLast Go.Proofs.YtchakfdnmabkjaaDoorW.PrintMore

theorem same_refl (l : List ByteArray) (hl : l.length ≤ 2000000) (k : Nat) (hk : l.length < k) : laws_sameTexts.f k l l = some true := by
  refine (if_pos rfl).trans ?_
  refine loop_run (fun k (_ : Unit) i => laws_sameTexts.l0 k l l i) (fun _ => ()) l.length true ?_ ?_ k hk
  · intro k i hi
    simp only [laws_sameTexts.l0]
    rw [if_pos (by omega), if_pos (by omega), if_pos (by omega), if_pos trivial, wsucc (by omega)]
  · intro k
    simp only [laws_sameTexts.l0]
    rw [if_neg (by omega)]
theorem rd_S (ws : List (List UInt8)) (i : Nat) (h : i < ws.length) : rdOf ByteArray.empty (ws.map S) (i : Int) = S ws[i] := by
  show (ws.map S).getD ((i : Int)).toNat ByteArray.empty = _
  rw [Int.toNat_natCast, getD_lt _ _ _ (by simpa using h), List.getElem_map]
theorem last_some (L : List Int) (t u : List UInt8) (ht : t.length ≤ 20) (hu : u.length ≤ 20) (hd : ∀ k, 4001 < k → spec_DrawWords.f k L = some (S t)) (k : Nat) (hk : 6000 ≤ k) :
    laws_FnWords.l1 (k + 1) L ((W [] t).map S) (S (J 32 (W [] t))) (S u) ((lines u).map S) (S (J 10 (lines u))) (((lines u).map S).length : Int) = some true := by
  have e1 : impl_Words.f (S (J 32 (W [] t))) = some ((W [] t).map S) := by
    have hj := J_length t []
    rw [impl_words _ (by rw [S_size]; simp at hj; omega), words_back, words_W]
  have hwl : ((W [] t).map S).length ≤ 21 := by
    rw [← words_W]; have := words_length (S t); rw [S_size] at this; omega
  have e2 := hd k (by omega)
  have e3 : spec_Words.f k (S t) = some ((W [] t).map S) := by
    rw [spec_words (S t) (by rw [S_size]; omega) k (by rw [S_size]; omega), words_W]
  have e4 := same_refl ((W [] t).map S) (by omega) k (by omega)
  simp only [laws_FnWords.l1]
  rw [if_neg (by omega), e1]
  simp only [Option.bind_some, e4, if_true, e2, e3, S_toList]
  rcases lines_J u with e | ⟨e, hne⟩
  · rw [if_pos e]
  · rw [if_neg (by rw [e]; simp), if_pos (by rw [S_size]; omega), show (⟨#[10]⟩ : ByteArray) = S [10] from rfl, S_append, S_toList, if_pos e]
    simp [hne]
theorem FnWords : ∀ (l0_0 : List (Int)), l0_0.length ≤ maxLen → (∀ x ∈ l0_0, (Lit.int .u8 x).wf = true) → ∃ k, laws_FnWords.f k l0_0 = some true := by
  intro L hmax hb
  by_cases h : L.length ≤ 1048576
  · obtain ⟨t0, ht, hd⟩ := drawWords_some h
    obtain ⟨u0, hu, he⟩ := drawLines_some h
    obtain ⟨t, rfl⟩ : ∃ t, t0 = S t := ⟨t0.data.toList, (S_data t0).symm⟩
    obtain ⟨u, rfl⟩ : ∃ u, u0 = S u := ⟨u0.data.toList, (S_data u0).symm⟩
    rw [S_size] at ht hu
    have hwl : (W [] t).length ≤ 21 := by
      have := words_length (S t); rw [words_W, S_size, List.length_map] at this; omega
    have hll : (lines u).length ≤ 21 := by
      have := linesOf_length u; rw [linesOf_eq, List.length_map] at this; omega
    have hJ := J_length t []
    have hK := lines_J_length u
    -- the lines' loop
    have h1 : ∀ k, 6100 < k → laws_FnWords.l1 k L ((W [] t).map S) (S (J 32 (W [] t))) (S u) ((lines u).map S) (⟨#[]⟩ : ByteArray) 0 = some true := by
      intro k hk
      have := loop_run2 (fun k (x : ByteArray) i => laws_FnWords.l1 k L ((W [] t).map S) (S (J 32 (W [] t))) (S u) ((lines u).map S) x i) (fun i => S (J 10 ((lines u).take i))) (lines u).length true 6000 ?_ ?_ k (by omega)
      · exact this
      · intro k i hi
        have hp := J_part 10 (lines u) i hi
        simp only [laws_FnWords.l1]
        rw [if_pos (by rw [List.length_map]; omega), if_pos (by omega), rd_S _ i hi, S_append, S_size, S_size, S_size, if_pos (by omega), if_pos (by simp; omega), show (⟨#[10]⟩ : ByteArray) = S [10] from rfl, S_append, wsucc (by omega), J_snoc 10 (lines u) i hi, List.append_assoc]
      · intro k hk
        have := last_some L t u ht hu hd k hk
        rw [List.length_map] at this
        rw [List.take_length]
        exact this
    have h0 : laws_FnWords.l0 7000 L ((W [] t).map S) (⟨#[]⟩ : ByteArray) 0 = some true := by
      have := loop_run2 (fun k (x : ByteArray) i => laws_FnWords.l0 k L ((W [] t).map S) x i) (fun i => S (J 32 ((W [] t).take i))) (W [] t).length true 6200 ?_ ?_ 7000 (by omega)
      · exact this
      · intro k i hi
        have hp := J_part 32 (W [] t) i hi
        simp only [laws_FnWords.l0]
        rw [if_pos (by rw [List.length_map]; omega), if_pos (by omega), rd_S _ i hi, S_append, S_size, S_size, S_size, if_pos (by simp at hJ; omega), if_pos (by simp at hJ ⊢; omega), show (⟨#[32]⟩ : ByteArray) = S [32] from rfl, S_append, wsucc (by omega), J_snoc 32 (W [] t) i hi, List.append_assoc]
      · intro k hk
        have e2 : impl_Lines.f (S u) = some ((lines u).map S) := by
          unfold impl_Lines.f
          rw [if_pos (by rw [S_size]; omega), linesOf_eq]
        simp only [laws_FnWords.l0]
        rw [if_neg (by rw [List.length_map]; omega), he k (by omega)]
        simp only [Option.bind_some, e2]
        rw [List.take_length]
        exact h1 k (by omega)
    refine ⟨7000, ?_⟩
    simp only [laws_FnWords.f, big_small h, Option.bind_some]
    rw [if_neg (by decide), hd 7000 (by decide)]
    simp only [Option.bind_some]
    rw [impl_words (S t) (by rw [S_size]; omega), words_W]
    simp only [Option.bind_some]
    exact h0
  · refine ⟨0, ?_⟩
    simp only [laws_FnWords.f, big_big h, Option.bind_some]
    rw [if_pos trivial]
end Go.Proofs.YtchakfdnmabkjaaDoor.Pure
