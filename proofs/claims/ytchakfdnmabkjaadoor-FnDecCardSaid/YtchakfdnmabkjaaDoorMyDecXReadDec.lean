/- The contract of loop.example/g00693/impl.ReadDec. -/
import Derived.Test.YtchakfdnmabkjaaDoorPDecx0
import Derived.Test.YtchakfdnmabkjaaDoorPDecx4
import Derived.Test.YtchakfdnmabkjaaDoorMyDecXDecText
import Derived.Test.YtchakfdnmabkjaaDoorMyTabs
import Derived.Lib.AtoiAllCases
import Derived.Lib.AtoiErrMem
set_option linter.unusedVariables false
namespace Go.Proofs.YtchakfdnmabkjaaDoor.PDec
open Go.RowKit Go.Proofs.YtchakfdnmabkjaaDoorW.PrintWords Go.Proofs.YtchakfdnmabkjaaDoorW.PrintLast Go.Proofs.YtchakfdnmabkjaaDoorW.PrintMore Go.Proofs.YtchakfdnmabkjaaDoor.Tabs
/-- What the program's ReadDec answers: the number whose numeral the text is, if it lies in 0 .. 999999999. -/
def readDec (s : ByteArray) : Int := match Lib.atoiAll s.data.toList with
  | .ok v => if 0 ≤ v ∧ v ≤ 999999999 then (if (⟨(Lib.itoa v).toArray⟩ : ByteArray).toList = s.toList then v else -1) else -1
  | _ => -1
def impl_ReadDec.f (s : ByteArray) : Option Int := if s.size ≤ 281474976710656 then some (readDec s) else none
theorem within_dec (v : Int) (b : Bool) (h : (decide (0 ≤ v) && decide (v ≤ 999999999)) = b) : impl_within.f v 0 999999999 = some b := by
  subst h
  simp only [impl_within.f]
  by_cases hx : v ≥ 0
  · rw [if_pos hx]; simp [hx]
  · rw [if_neg hx]; have : ¬ (0 ≤ v) := hx; simp [this]
theorem dec_bounds {v : Int} (h : 0 ≤ v ∧ v ≤ 999999999) : -9223372036854775808 ≤ v ∧ v ≤ 9223372036854775807 := by omega
set_option maxHeartbeats 4000000 in
set_option maxRecDepth 100000 in
theorem impl_ReadDec.calls (s : ByteArray) (r : Int) (w : World) (HT : Aside0 (Pows w)) (HE : Aside0 (Errs w)) (h : impl_ReadDec.f s = some r) : Calls Tryd.prog 12 #[.string s] w fun e w' => e = .returned (.int .i64 r) ∧ Below w.heap.size w w' := by
  unfold impl_ReadDec.f at h
  by_cases hs : s.size ≤ 281474976710656
  rotate_left
  · rw [if_neg hs] at h
    exact absurd h (by simp)
  rw [if_pos hs] at h
  have HR := Aside0.mk (Option.some.inj h)
  have HS := Aside0.mk hs
  clear hs h
  cases ha : Lib.atoiAll s.data.toList with
  | «syntax» =>
    have hr : r = -1 := by rw [← HR.out]; simp only [readDec, ha]
    subst hr
    have HA := Aside0.mk ha
    clear ha
    obtain ⟨⟨tp, p, h0⟩, _⟩ := HE.out
    have H0 := Aside0.mk h0
    clear h0
    go_enter Tryd.func12, Tryd.ntmps12
    go_wp2_with (fail)
    refine (Tryd.strconv_Atoi_syntax s HS.out HA.out _ _ H0.out (Or.inr ⟨_, _, rfl⟩)).mono ?_
    rintro e W1 ⟨N, rfl, -, -, hb⟩
    have HB := Aside0.mk hb
    clear hb
    go_wp2
    go_ret
    exact ⟨rfl, HB.out⟩
  | range =>
    have hr : r = -1 := by rw [← HR.out]; simp only [readDec, ha]
    subst hr
    have HA := Aside0.mk ha
    clear ha
    obtain ⟨_, ⟨tp, p, h0⟩⟩ := HE.out
    have H0 := Aside0.mk h0
    clear h0
    go_enter Tryd.func12, Tryd.ntmps12
    go_wp2_with (fail)
    refine (Tryd.strconv_Atoi_range s HS.out HA.out _ _ H0.out (Or.inr ⟨_, _, rfl⟩)).mono ?_
    rintro e W1 ⟨N, rfl, -, -, hb⟩
    have HB := Aside0.mk hb
    clear hb
    go_wp2
    go_ret
    exact ⟨rfl, HB.out⟩
  | ok v =>
    have hr : r = if 0 ≤ v ∧ v ≤ 999999999 then (if (⟨(Lib.itoa v).toArray⟩ : ByteArray).toList = s.toList then v else -1) else -1 := by rw [← HR.out]; simp only [readDec, ha]
    have HR2 := Aside0.mk hr
    have HA := Aside0.mk ha
    clear ha hr HR
    go_enter Tryd.func12, Tryd.ntmps12
    go_wp2_with (fail)
    refine (Tryd.strconv_Atoi_ok s (by have := HS.out; omega) v HA.out _).mono ?_
    rintro e W1 ⟨rfl, hw⟩
    have HB : Aside0 (Below w.heap.size w W1) := ⟨by
      rcases hw with rfl | ⟨t, rfl⟩
      · exact Below.refl _ _
      · exact Lib.bytesWorld_below _ _ _⟩
    clear hw
    go_wp2_with (fail)
    by_cases hin : 0 ≤ v ∧ v ≤ 999999999
    · have HI := Aside0.mk hin
      have hwi := Aside0.mk (within_dec v true (by simp [hin]))
      clear hin
      refine (impl_within.calls v 0 999999999 true _ hwi.out).mono ?_
      rintro e w2 ⟨rfl, ⟨nd, rfl⟩⟩
      go_wp2_with (fail)
      have HB2 : Aside0 (Below w.heap.size w (W1.drewN nd)) := ⟨pw_below_drewN HB.out _⟩
      have HT2 := Aside0.mk (HT.out.on HB2.out)
      have hd : impl_DecText.f v = some ⟨(Lib.itoa v).toArray⟩ := by unfold impl_DecText.f; exact if_pos (dec_bounds HI.out)
      have HD := Aside0.mk hd
      clear hd
      refine (impl_DecText.calls v _ _ HT2 HD.out).mono ?_
      rintro e w3 ⟨rfl, hb3⟩
      have HB3 := Aside0.mk (below_step HB2.out hb3)
      clear hb3
      by_cases he : (⟨(Lib.itoa v).toArray⟩ : ByteArray).toList = s.toList
      · have hr : r = v := by rw [HR2.out, if_pos HI.out, if_pos he]
        subst hr
        have e1 : ((⟨(Lib.itoa r).toArray⟩ : ByteArray).toList == s.toList) = true := beq_iff_eq.mpr he
        have e2 : ((⟨(Lib.itoa r).toArray⟩ : ByteArray).toList != s.toList) = false := bne_eq_false_iff_eq.mpr he
        clear he
        generalize (⟨(Lib.itoa r).toArray⟩ : ByteArray) = t at e1 e2 ⊢
        go_wp2
        go_ret
        exact ⟨rfl, HB3.out⟩
      · have hr : r = -1 := by rw [HR2.out, if_pos HI.out, if_neg he]
        subst hr
        have e1 : ((⟨(Lib.itoa v).toArray⟩ : ByteArray).toList == s.toList) = false := beq_eq_false_iff_ne.mpr he
        have e2 : ((⟨(Lib.itoa v).toArray⟩ : ByteArray).toList != s.toList) = true := bne_iff_ne.mpr he
        clear he
        generalize (⟨(Lib.itoa v).toArray⟩ : ByteArray) = t at e1 e2 ⊢
        go_wp2
        go_ret
        exact ⟨rfl, HB3.out⟩
    · have hr : r = -1 := by rw [HR2.out, if_neg hin]
      subst hr
      have hwi := Aside0.mk (within_dec v false (by by_cases h0 : 0 ≤ v <;> simp [h0] <;> omega))
      clear hin
      refine (impl_within.calls v 0 999999999 false _ hwi.out).mono ?_
      rintro e w2 ⟨rfl, ⟨nd, rfl⟩⟩
      go_wp2
      go_ret
      exact ⟨rfl, pw_below_drewN HB.out _⟩
end Go.Proofs.YtchakfdnmabkjaaDoor.PDec
