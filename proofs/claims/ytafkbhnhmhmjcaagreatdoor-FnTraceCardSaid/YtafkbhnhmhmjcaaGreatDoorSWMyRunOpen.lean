import Derived.Test.YtafkbhnhmhmjcaaGreatDoorSWMyStr
import Derived.Test.YtafkbhnhmhmjcaaGreatDoorSWPureRunTrc
import Derived.WalkKit
import Derived.ProofKit
import Derived.OpenShut
import Derived.Below
import Derived.ChangeArms
import Derived.WideShapes
import Derived.Deep.Slices
import Derived.DataReads
import Derived.Test.YtafkbhnhmhmjcaaGreatDoorSWPRunx0
section
set_option linter.unusedVariables false
set_option linter.unusedSimpArgs false
namespace Go.Proofs.YtafkbhnhmhmjcaaGreatDoor.Weak
open Go.RowKit Go.Proofs.YtafkbhnhmhmjcaaGreatDoorW.PrintWords Go.Proofs.YtafkbhnhmhmjcaaGreatDoorW.PrintLast Go.Proofs.YtafkbhnhmhmjcaaGreatDoorW.PrintMore Go.Proofs.YtafkbhnhmhmjcaaGreatDoor.PRun Go.Proofs.YtafkbhnhmhmjcaaGreatDoor.DrawRun
theorem trc_cases {tr : List S43} (h : ∀ c, c ∈ tr → CB c) : (decide ((1200 : Int) < (tr.length : Int)) = true ∧ decide (1200 < tr.length) = true ∧ impl_TraceText.f 2000 tr = some (⟨#[]⟩ : ByteArray) ∧ impl_PackTrace.f 2000 tr = some []) ∨
    (∃ (tx : ByteArray) (bs : List Int), decide ((1200 : Int) < (tr.length : Int)) = false ∧ decide (1200 < tr.length) = false ∧ impl_TraceText.f 2000 tr = some tx ∧ impl_PackTrace.f 2000 tr = some bs ∧ impl_ReadTrace.f 2000 tx = some (tr, 0) ∧ impl_UnpackTrace.f 2000 bs = some (tr, true) ∧
      (wrap64 (4 * (tr.length : Int)) = 4 * (tr.length : Int) ∧ (((bs.length : Int) == 4 * (tr.length : Int)) = true) ∧ (((bs.length : Int) == wrap64 (4 * (tr.length : Int))) = true)) ∧ (bs.length == 4 * tr.length) = true ∧ decide ((20000 : Int) < (tx.size : Int)) = false ∧ decide (20000 < tx.size) = false) := by
  have h' : ∀ c, c ∈ tr → Trc.Fine c := fun c hc => ⟨(h c hc).1.1, (h c hc).1.2, (h c hc).2.1, (h c hc).2.2⟩
  by_cases hl : tr.length ≤ 1200
  · refine .inr ⟨_, _, decide_eq_false (by omega), decide_eq_false (by omega), Trc.impl_text tr hl h' 2000 (by decide), Trc.pack_eq tr hl 2000 (by omega), Trc.read_back tr hl h' 2000 (by decide), Trc.unpack_back tr hl h' 2000 (by decide), ?_, ?_, ?_, ?_⟩
    · have e := Trc.flat_len tr
      have ew : wrap64 (4 * (tr.length : Int)) = 4 * (tr.length : Int) := by unfold wrap64; omega
      refine ⟨ew, beq_iff_eq.mpr (by omega), beq_iff_eq.mpr (by rw [ew]; omega)⟩
    · exact beq_iff_eq.mpr (Trc.flat_len tr)
    · have e := Trc.lines_length tr
      exact decide_eq_false (by rw [Str.S_size, e]; omega)
    · have e := Trc.lines_length tr
      exact decide_eq_false (by rw [Str.S_size, e]; omega)
  · exact .inl ⟨decide_eq_true (by omega), decide_eq_true (by omega), Trc.impl_text_big tr hl 2000, Trc.pack_big tr hl 2000⟩
set_option maxHeartbeats 8000000 in
set_option maxRecDepth 100000 in
theorem FnTrace.big (A0 : Option Addr) (c0 : Nat) (l : List Int) (w : World) (HM : Aside0 (Tabs.MaxL w)) (hr : Kd.C (Kd.int .u8) w A0 l.length l) (hc0 : l.length ≤ c0) (hl : ¬ l.length ≤ 1048576) : Calls Tryz.prog 3 #[.slice A0 l.length c0] w fun e w1 => e = .returned (.bool true) ∧ Below w.heap.size w w1 := by
  have HR := zA hr
  have HC := zA hc0
  have HLL := zA hl
  have HB0 := zA (Below.refl w.heap.size w)
  clear hr hc0 hl
  go_enter Tryz.func3, Tryz.ntmps3
  go_wp2_with (first
    | (go_at_call 4; refine (laws_big.calls A0 c0 l true _ (Kd.C_below HR.out HB0.out) HC.out (big_big HLL.out)).mono ?_; rintro e w1 ⟨rfl, hd_⟩; have hb_ := hd_.below; replace HB0 := zA (below_step HB0.out hb_); clear hb_ hd_)
    | ((with_reducible refine gate_ret ?_); refine bodyPost_ret (results_tmp rfl _ _ _) rfl ?_; exact ⟨rfl, HB0.out⟩))
set_option maxHeartbeats 8000000 in
set_option maxRecDepth 100000 in
theorem FnTrace.small (A0 : Option Addr) (c0 : Nat) (l : List Int) (w : World) (HM : Aside0 (Tabs.MaxL w)) (hr : Kd.C (Kd.int .u8) w A0 l.length l) (hc0 : l.length ≤ c0) (hl : l.length ≤ 1048576) : Calls Tryz.prog 3 #[.slice A0 l.length c0] w fun e w1 => e = .returned (.bool true) ∧ Below w.heap.size w w1 := by
  have HR := zA hr
  have HC := zA hc0
  have HLL := zA hl
  have HB0 := zA (Below.refl w.heap.size w)
  clear hr hc0 hl
  go_enter Tryz.func3, Tryz.ntmps3
  go_wp2_with (first
    | (go_at_call 4; refine (laws_big.calls A0 c0 l false _ (Kd.C_below HR.out HB0.out) HC.out (big_small HLL.out)).mono ?_; rintro e w1 ⟨rfl, hd_⟩; have hb_ := hd_.below; replace HB0 := zA (below_step HB0.out hb_); clear hb_ hd_)
    | (go_at_call 5; refine (DrawTraceText.any _ A0 c0 l (Kd.C_below HR.out HB0.out) HC.out HLL.out).mono ?_; rintro e w1 ⟨v, tr, rfl, ht_, hb_⟩; have HT := zA (Kd.R_lower ht_.1 HB0.out.size); have HTT := zA ht_.2.1; have HTL := zA ht_.2.2; clear ht_; replace HB0 := zA (below_step HB0.out hb_); clear hb_; obtain ⟨At, ct, rfl⟩ := Kd.R_slice HT.out; rcases trc_cases HTT.out with ⟨c1, c1b, h1_, h2_⟩ | ⟨tx, bs, c1, c1b, h1_, h2_, h3_, h4_, h5_, h6_, c5, c6⟩; (have HTX := zA h1_; have HPK := zA h2_; clear h1_ h2_); rotate_left; (have HTX := zA h1_; have HPK := zA h2_; have HRD := zA h3_; have HUP := zA h4_; have hw4 := h5_.1; have c4 := h5_.2.1; have c4b := h5_.2.2; have c7 := h6_; clear h1_ h2_ h3_ h4_ h5_ h6_); rotate_left)
    | (go_at_call 6; refine (impl_TraceText.calls 2000 At ct tr _ _ (Kd.R_reads' HT.out).2.2 (Kd.R_reads' HT.out).2.1 HTX.out).mono ?_; rintro e w1 ⟨rfl, hb_⟩; (try (replace HT := zA (Kd.R_below HT.out hb_))); (try (replace HP := zA (Kd.R_below HP.out hb_))); (try (replace HU := zA (Kd.R_below HU.out hb_))); (try (replace HV := zA (Kd.R_below HV.out hb_))); replace HB0 := zA (below_step HB0.out hb_); clear hb_)
    | (go_at_call 7; refine (impl_PackTrace.calls 2000 At ct tr _ _ (Kd.R_reads' HT.out).2.2 (Kd.R_reads' HT.out).2.1 HPK.out).mono ?_; rintro e w1 ⟨v_, rfl, hr_, hb_⟩; have HP := zA (Kd.R_lower hr_ HB0.out.size); (try (replace HT := zA (Kd.R_below HT.out hb_))); skip; (try (replace HU := zA (Kd.R_below HU.out hb_))); (try (replace HV := zA (Kd.R_below HV.out hb_))); replace HB0 := zA (below_step HB0.out hb_); clear hr_ hb_; obtain ⟨Ap, cp, rfl⟩ := Kd.R_slice HP.out)
    | (go_at_call 8; refine (impl_ReadTrace.calls 2000 _ _ _ _ ⟨HM.out.on HB0.out⟩ HRD.out).mono ?_; rintro e w1 ⟨v_, rfl, hr_, hb_⟩; have HV := zA (Kd.R_lower hr_ HB0.out.size); (try (replace HT := zA (Kd.R_below HT.out hb_))); (try (replace HP := zA (Kd.R_below HP.out hb_))); (try (replace HU := zA (Kd.R_below HU.out hb_))); skip; replace HB0 := zA (below_step HB0.out hb_); clear hr_ hb_; obtain ⟨Av, cv, rfl⟩ := Kd.R_slice HV.out)
    | (go_at_call 9; refine (impl_UnpackTrace.calls 2000 Ap cp bs _ _ _ (Kd.R_reads' HP.out).2.2 (Kd.R_reads' HP.out).2.1 HUP.out).mono ?_; rintro e w1 ⟨v_, rfl, hr_, hb_⟩; have HU := zA (Kd.R_lower hr_ HB0.out.size); (try (replace HT := zA (Kd.R_below HT.out hb_))); (try (replace HP := zA (Kd.R_below HP.out hb_))); skip; (try (replace HV := zA (Kd.R_below HV.out hb_))); replace HB0 := zA (below_step HB0.out hb_); clear hr_ hb_; obtain ⟨Au, cu, rfl⟩ := Kd.R_slice HU.out)
    | (go_at_call 10; first | (have q_ := HU.out; clear q_; (refine (laws_sameCycs.calls 2000 Au cu tr At ct tr true _ (Kd.R_reads' HU.out).2.2 (Kd.R_reads' HU.out).2.1 (Kd.R_reads' HT.out).2.2 (Kd.R_reads' HT.out).2.1 (Trc.same_refl tr (Nat.le_trans HTL.out (by decide)) 2000 (Nat.lt_of_le_of_lt HTL.out (by decide)))).mono ?_; rintro e w1 ⟨rfl, hd_⟩; have hb_ := hd_.below; clear hd_ HU; (try (replace HT := zA (Kd.R_below HT.out hb_))); (try (replace HP := zA (Kd.R_below HP.out hb_))); (try (replace HU := zA (Kd.R_below HU.out hb_))); (try (replace HV := zA (Kd.R_below HV.out hb_))); replace HB0 := zA (below_step HB0.out hb_); clear hb_)) | (refine (laws_sameCycs.calls 2000 Av cv tr At ct tr true _ (Kd.R_reads' HV.out).2.2 (Kd.R_reads' HV.out).2.1 (Kd.R_reads' HT.out).2.2 (Kd.R_reads' HT.out).2.1 (Trc.same_refl tr (Nat.le_trans HTL.out (by decide)) 2000 (Nat.lt_of_le_of_lt HTL.out (by decide)))).mono ?_; rintro e w1 ⟨rfl, hd_⟩; have hb_ := hd_.below; clear hd_; (try (replace HT := zA (Kd.R_below HT.out hb_))); (try (replace HP := zA (Kd.R_below HP.out hb_))); (try (replace HU := zA (Kd.R_below HU.out hb_))); (try (replace HV := zA (Kd.R_below HV.out hb_))); replace HB0 := zA (below_step HB0.out hb_); clear hb_))
    | ((with_reducible refine gate_ret ?_); refine bodyPost_ret (results_tmp rfl _ _ _) rfl ?_; exact ⟨rfl, HB0.out⟩))
end Go.Proofs.YtafkbhnhmhmjcaaGreatDoor.Weak
end
section
namespace Go.Proofs.YtafkbhnhmhmjcaaGreatDoor.PRun
open Go.ChangeShapes Go.WideShapes Go.ChangeAt Go.RowKit Go.Deep Go.Proofs.YtafkbhnhmhmjcaaGreatDoorW.PrintWords Go.Proofs.YtafkbhnhmhmjcaaGreatDoorW.PrintLast
set_option linter.unusedVariables false
set_option linter.unusedSimpArgs false
theorem cells_uint8 : Tryz.prog.cellsOf 5 = 1 := by kernel_rfl
section
variable {H : Type} {enc : TypeId × Value → H} {w : World} {base : Nat} {spare : Nat → Bool} {held : Bool}
theorem open_row {α : Type} {d : Kd α} {Wf : α → Prop} {P : Program} {t e : TypeId} (ht : P.underlying t = some (.slice e)) (hC : P.cellsOf e = d.sz)
    (hE : ∀ {fuel : Nat} {cs : List Value} {x : DataW H × List MemPlace}, DataW.trod enc P w base spare held fuel e cs = some x → ∃ a, d.K w a cs ∧ Wf a) {fuel : Nat} {cs : List Value} {x : DataW H × List MemPlace}
    (h : DataW.trod enc P w base spare held fuel t cs = some x) : ∃ (A : Option Addr) (c : Nat) (l : List α), cs = [.slice A l.length c] ∧ (Kd.C d w A l.length l ∧ l.length ≤ c ∧ l.length ≤ maxLen ∧ ∀ x ∈ l, Wf x) := by
  rcases open_slice ht h with ⟨rfl, _⟩ | ⟨a, len, cap, m, n, D, Pl, rfl, _, hl, hm, hmm, _, hi⟩
  · exact ⟨none, 0, [], rfl, Kd.C_nil d w, Nat.le_refl _, by simp, fun x hx => by cases hx⟩
  · have hlm : len ≤ m := by rw [hmm]; split <;> omega
    have step : ∀ k, k ≤ len → ∃ l : List α, l.length = k ∧ (∀ j p, l[j]? = some p → Wf p ∧ ∃ c, c.length = d.sz ∧ d.K w p c ∧ ∀ i u, c[i]? = some u → w.cell? (a.add (j * d.sz + i)) = some u) := by
      intro k
      induction k with
      | zero => exact fun _ => ⟨[], rfl, fun j p hj => by simp at hj⟩
      | succ k ih =>
        intro hk
        obtain ⟨l, hl1, hl2⟩ := ih (by omega)
        obtain ⟨cs', hc, ht'⟩ := hi k (by omega)
        obtain ⟨p, hp, hw⟩ := hE ht'
        obtain ⟨_, hcl, hat⟩ := World.cells?_some hc
        refine ⟨l ++ [p], by simp [hl1], fun j q hj => ?_⟩
        rcases Nat.lt_or_ge j k with hjk | hjk
        · rw [List.getElem?_append_left (by omega)] at hj
          exact hl2 j q hj
        · have hjl : j < (l ++ [p]).length := (List.getElem?_eq_some_iff.1 hj).1
          obtain rfl : j = k := by simp [hl1] at hjl; omega
          rw [List.getElem?_append_right (by omega)] at hj
          simp [hl1] at hj
          subst hj
          refine ⟨hw, cs', hcl.trans hC, hp, fun i u hu => ?_⟩
          have hil : i < cs'.length := (List.getElem?_eq_some_iff.1 hu).1
          have h1 := hat i (by omega)
          rw [hC, Go.Deep.add_add] at h1
          rw [h1]; exact hu
    obtain ⟨l, hl1, hl2⟩ := step len (Nat.le_refl _)
    have hml : maxLen = 9223372036854775807 := rfl
    subst hl1
    refine ⟨some a, cap, l, rfl, ⟨rfl, by omega, fun _ => ⟨a, rfl, fun j p hj => (hl2 j p hj).2⟩⟩, hl, by omega, fun x hx => ?_⟩
    obtain ⟨j, hj⟩ := List.getElem?_of_mem hx
    exact (hl2 j x hj).1
theorem el_uint8 {fuel : Nat} {cs : List Value} {x : DataW H × List MemPlace} (h : DataW.trod enc Tryz.prog w base spare held fuel 5 cs = some x) : ∃ a : Int, (Kd.int .u8).K w a cs ∧ (Lit.int .u8 a).wf = true := by
  obtain ⟨b, rfl, _, hb⟩ := DataW.trod_int Tryz.underlying5 h
  exact ⟨b, rfl, hb⟩
theorem open_sl_uint8 {fuel : Nat} {cs : List Value} {x : DataW H × List MemPlace} (h : DataW.trod enc Tryz.prog w base spare held fuel 22 cs = some x) :
    ∃ (A : Option Addr) (c : Nat) (l : List (Int)), cs = [.slice A l.length c] ∧ (Kd.C (Kd.int .u8) w A l.length l ∧ l.length ≤ c ∧ l.length ≤ maxLen ∧ ∀ x ∈ l, (Lit.int .u8 x).wf = true) :=
  open_row (Wf := fun x => (Lit.int .u8 x).wf = true) Tryz.underlying22 cells_uint8 (fun h => el_uint8 h) h
end
end Go.Proofs.YtafkbhnhmhmjcaaGreatDoor.PRun
end
