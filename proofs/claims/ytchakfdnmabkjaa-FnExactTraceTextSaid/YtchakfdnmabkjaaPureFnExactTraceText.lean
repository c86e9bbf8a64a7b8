/- The plain side of FnExactTraceText: the program's text and the reference's are the same list of bytes, the argument stays. -/
import Derived.Test.YtchakfdnmabkjaaPureTrcCycL
import Derived.Test.YtchakfdnmabkjaaPureTrcCRows
import Derived.Test.YtchakfdnmabkjaaMyTrcBTraceText
import Derived.Test.YtchakfdnmabkjaaMyTrcOpen
import Derived.Test.YtchakfdnmabkjaaPTrcx7
import Derived.Test.YtchakfdnmabkjaaPTrcx7
namespace Go.Proofs.Ytchakfdnmabkjaa.Pure
open Go.RowKit Go.Proofs.Ytchakfdnmabkjaa.PTrc Go.Proofs.Ytchakfdnmabkjaa.Plain Go.Proofs.Ytchakfdnmabkjaa.Str Go.Proofs.Ytchakfdnmabkjaa.HexTrc Go.Proofs.Ytchakfdnmabkjaa.CycLTrc Go.Proofs.Ytchakfdnmabkjaa.CRowsTrc Go.Proofs.YtchakfdnmabkjaaW.PrintWords Go.Proofs.YtchakfdnmabkjaaW.PrintLast Go.Proofs.YtchakfdnmabkjaaW.PrintMore
/-- The line of a cycle. -/
def lineL (c : S30) : List UInt8 := cycL c.f0.toNat c.f1.toNat c.f2 ++ [10]
def Fine (c : S30) : Prop := 0 ≤ c.f0 ∧ c.f0 ≤ 65535 ∧ 0 ≤ c.f1 ∧ c.f1 ≤ 255
theorem line_length (c : S30) : (lineL c).length = 10 := by simp [lineL, cycL_length]
theorem lines_take (l : List S30) (i : Nat) (h : i < l.length) : (l.take (i + 1)).flatMap lineL = (l.take i).flatMap lineL ++ lineL l[i] := by
  rw [List.take_succ_eq_append_getElem h, List.flatMap_append]; simp
theorem lines_length (l : List S30) : (l.flatMap lineL).length = 10 * l.length := by
  induction l with
  | nil => rfl
  | cons c l ih => simp only [List.flatMap_cons, List.length_append, ih, line_length, List.length_cons]; omega
theorem lines_take_length (l : List S30) (i : Nat) (h : i ≤ l.length) : ((l.take i).flatMap lineL).length = 10 * i := by
  rw [lines_length, List.length_take]; omega
def nums (l : List UInt8) : List Int := l.map fun b => (b.toNat : Int)
theorem nums_str (l : List UInt8) : strOfNums (nums l) = S l := by
  unfold strOfNums S nums
  congr 2
  rw [List.map_map]
  exact (List.map_congr_left (fun b _ => by simp)).trans (List.map_id l)
theorem S_bytes (l : List UInt8) : (S l).data.toList = l := by simp [S]
theorem spec_text (l : List S30) (hl : l.length ≤ 1200) (hw : ∀ c ∈ l, Fine c) (k : Nat) (hk : 1300 < k) : spec_TraceText.f k l = some (S (l.flatMap lineL)) := by
  simp only [spec_TraceText.f]
  rw [if_neg (by omega)]
  obtain ⟨k, rfl⟩ : ∃ j, k = j + 12 := ⟨k - 12, by omega⟩
  have := loop_run (fun k x i => spec_TraceText.l0 (k + 12) l x i) (fun i => nums ((l.take i).flatMap lineL)) l.length (S (l.flatMap lineL)) ?_ ?_ k (by omega)
  · exact this
  · intro k i hi
    have hf := lines_take l i hi
    have hlen := lines_take_length l i (by omega)
    obtain ⟨w0, w1, w2, w3⟩ := hw _ (List.getElem_mem hi)
    have hc := specCyc_eq (l[i]).f0.toNat (l[i]).f1.toNat (by omega) (by omega) (l[i]).f2 (k + 12) (by omega)
    rw [Int.toNat_of_nonneg w0, Int.toNat_of_nonneg w2] at hc
    have hz : (S (cycL (l[i]).f0.toNat (l[i]).f1.toNat (l[i]).f2)).size = 9 := by rw [S_size, cycL_length]
    have e : (⟨#[10]⟩ : ByteArray) = S [10] := rfl
    show spec_TraceText.l0 (k + 12 + 1) l (nums ((l.take i).flatMap lineL)) (i : Int) = spec_TraceText.l0 (k + 12) l (nums ((l.take (i + 1)).flatMap lineL)) ((i + 1 : Nat) : Int)
    simp only [spec_TraceText.l0]
    rw [if_pos (by omega), if_pos (by omega), rdC_nat _ _ hi, hc]
    simp only [Option.bind_some]
    rw [if_pos (by rw [hz]; omega), if_pos (by rw [ByteArray.size_append, hz]; simp only [nums, List.length_map, hlen]; show 10 * i + (9 + 1) < _; omega), wsucc (by omega), hf, e, S_append]
    simp only [nums, List.map_append, bytesOf, S_bytes, lineL]
  · intro k
    show spec_TraceText.l0 (k + 12 + 1) l _ _ = _
    simp only [spec_TraceText.l0]
    rw [if_neg (by omega), List.take_length, nums_str]
theorem impl_text (l : List S30) (hl : l.length ≤ 1200) (hw : ∀ c ∈ l, Fine c) (k : Nat) (hk : 1300 < k) : impl_TraceText.f k l = some (S (l.flatMap lineL)) := by
  simp only [impl_TraceText.f]
  rw [if_neg (by omega)]
  obtain ⟨k, rfl⟩ : ∃ j, k = j + 12 := ⟨k - 12, by omega⟩
  have := loop_run (fun k x i => impl_TraceText.l0 (k + 12) l x i) (fun i => (l.take i).flatMap lineL) l.length (l.flatMap lineL) ?_ ?_ k (by omega)
  · have h2 : impl_TraceText.l0 (k + 12) l [] 0 = some (l.flatMap lineL) := this
    rw [h2]; rfl
  · intro k i hi
    have hf := lines_take l i hi
    have hlen := lines_take_length l i (by omega)
    obtain ⟨w0, w1, w2, w3⟩ := hw _ (List.getElem_mem hi)
    have hc := implCyc_eq (l[i]).f0.toNat (l[i]).f1.toNat (by omega) (by omega) (l[i]).f2 (k + 12) (by omega)
    rw [Int.toNat_of_nonneg w0, Int.toNat_of_nonneg w2] at hc
    have hz : (S (cycL (l[i]).f0.toNat (l[i]).f1.toNat (l[i]).f2)).size = 9 := by rw [S_size, cycL_length]
    have e : (⟨#[10]⟩ : ByteArray) = S [10] := rfl
    show impl_TraceText.l0 (k + 12 + 1) l ((l.take i).flatMap lineL) (i : Int) = impl_TraceText.l0 (k + 12) l ((l.take (i + 1)).flatMap lineL) ((i + 1 : Nat) : Int)
    simp only [impl_TraceText.l0]
    rw [if_pos (by omega), if_pos (by omega), rdC_nat _ _ hi, hc]
    simp only [Option.bind_some]
    rw [if_pos (by rw [hz]; omega), if_pos (by rw [hlen]; omega), hf, e, S_append, S_bytes, show (i : Int) + 1 = ((i + 1 : Nat) : Int) by omega]
    rfl
  · intro k
    show impl_TraceText.l0 (k + 12 + 1) l _ _ = _
    simp only [impl_TraceText.l0]
    rw [if_neg (by omega), List.take_length]
theorem FnExactTraceText : ∀ (l0_0 : List (S28)), l0_0.length ≤ maxLen → (∀ x ∈ l0_0, Wf_Cyc x) → ∃ k, laws_FnExactTraceText.f k l0_0 = some true := by
  intro l hm hw
  have hmx : maxLen = 9223372036854775807 := rfl
  by_cases h : l.length ≤ 1048576
  · have hwc : ∀ c ∈ l.map cv, Fine c := by
      intro c hc
      obtain ⟨x, hx, rfl⟩ := List.mem_map.1 hc
      obtain ⟨h1, h2⟩ := hw x hx
      have b1 := bounds_u16 h1
      have b2 := bounds_u8 h2
      exact ⟨by simp only [cv]; omega, by simp only [cv]; omega, by simp only [cv]; omega, by simp only [cv]; omega⟩
    refine ⟨1100000, ?_⟩
    have hs : laws_szCycS.f l 1048576 = some (1048576 - (l.length : Int)) := by
      simp only [laws_szCycS.f]
      rw [w64 (by omega) (by omega), if_neg (by omega)]
    have ht := toCycS_eq l (by omega) 1100000 (by omega)
    have he := eqCycS_refl (l.map cv) (by rw [List.length_map]; omega) 1100000 (by rw [List.length_map]; omega)
    have hlen : (l.map cv).length = l.length := List.length_map ..
    generalize l.map cv = m at ht he hwc hlen
    simp only [laws_FnExactTraceText.f, hs, Option.bind_some]
    rw [if_neg (by omega)]
    by_cases hb : m.length ≤ 1200
    · simp only [ht, he, spec_text m hb hwc 1100000 (by omega), impl_text m hb hwc 1100000 (by omega), Option.bind_some, if_true]
    · have e1 : spec_TraceText.f 1100000 m = some (⟨#[]⟩ : ByteArray) := if_pos (by omega)
      have e2 : impl_TraceText.f 1100000 m = some (⟨#[]⟩ : ByteArray) := if_pos (by omega)
      simp only [ht, he, e1, e2, Option.bind_some, if_true]
  · refine ⟨0, ?_⟩
    have hs : laws_szCycS.f l 1048576 = some (-1) := by
      simp only [laws_szCycS.f]
      rw [w64 (by omega) (by omega), if_pos (by omega)]
    simp only [laws_FnExactTraceText.f, hs, Option.bind_some]
    rw [if_pos (by omega)]
end Go.Proofs.Ytchakfdnmabkjaa.Pure
