import Derived.Test.YtafkbhnhmhmjcaaSVMyWin
import Derived.Test.YtafkbhnhmhmjcaaSVPureRunWin
import Derived.WalkKit
import Derived.ProofKit
import Derived.OpenShut
import Derived.Below
import Derived.ChangeArms
import Derived.WideShapes
import Derived.Deep.Slices
import Derived.DataReads
import Derived.Test.YtafkbhnhmhmjcaaSVPRunx0
section
set_option linter.unusedVariables false
set_option linter.unusedSimpArgs false
namespace Go.Proofs.Ytafkbhnhmhmjcaa.Weak
open Go.RowKit Go.Proofs.YtafkbhnhmhmjcaaW.PrintWords Go.Proofs.YtafkbhnhmhmjcaaW.PrintLast Go.Proofs.YtafkbhnhmhmjcaaW.PrintMore Go.Proofs.Ytafkbhnhmhmjcaa.PRun Go.Proofs.Ytafkbhnhmhmjcaa.DrawRun
set_option maxHeartbeats 8000000 in
set_option maxRecDepth 100000 in
theorem FnWindow.big (A0 : Option Addr) (c0 : Nat) (l : List Int) (w : World) (hr : Kd.C (Kd.int .u8) w A0 l.length l) (hc0 : l.length ≤ c0) (hl : ¬ l.length ≤ 1048576) : Calls Try.prog 4 #[.slice A0 l.length c0] w fun e w1 => e = .returned (.bool true) ∧ Below w.heap.size w w1 := by
  have HR := Aside0.mk hr
  have HC := Aside0.mk hc0
  have HLL := Aside0.mk hl
  have HB0 := Aside0.mk (Below.refl w.heap.size w)
  clear hr hc0 hl
  go_enter Try.func4, Try.ntmps4
  go_wp2_with (first
    | (go_at_call 5; refine (laws_big.calls A0 c0 l true _ (Kd.C_below HR.out HB0.out) HC.out (big_big HLL.out)).mono ?_; rintro e w1 ⟨rfl, hd_⟩; have hb_ := hd_.below; replace HB0 := Aside0.mk (below_step HB0.out hb_); clear hb_ hd_)
    | ((with_reducible refine gate_ret ?_); refine bodyPost_ret (results_tmp rfl _ _ _) rfl ?_; exact ⟨rfl, HB0.out⟩))
set_option maxHeartbeats 8000000 in
set_option maxRecDepth 100000 in
theorem FnWindow.small (A0 : Option Addr) (c0 : Nat) (l : List Int) (w : World) (hr : Kd.C (Kd.int .u8) w A0 l.length l) (hc0 : l.length ≤ c0) (hl : l.length ≤ 1048576) : Calls Try.prog 4 #[.slice A0 l.length c0] w fun e w1 => e = .returned (.bool true) ∧ Below w.heap.size w w1 := by
  have HR := Aside0.mk hr
  have HC := Aside0.mk hc0
  have HLL := Aside0.mk hl
  have HB0 := Aside0.mk (Below.refl w.heap.size w)
  clear hr hc0 hl
  go_enter Try.func4, Try.ntmps4
  go_wp2_with (first
    | (go_at_call 5; refine (laws_big.calls A0 c0 l false _ (Kd.C_below HR.out HB0.out) HC.out (big_small HLL.out)).mono ?_; rintro e w1 ⟨rfl, hd_⟩; have hb_ := hd_.below; replace HB0 := Aside0.mk (below_step HB0.out hb_); clear hb_ hd_)
    | (go_at_call 8; refine (DrawWindow.any _ A0 c0 l (Kd.C_below HR.out HB0.out) HC.out HLL.out).mono ?_; rintro e w1 ⟨v, tr, x, y, rfl, ht_, hb_⟩; have HT := Aside0.mk (Kd.R_lower ht_.1 HB0.out.size); have HTL := Aside0.mk ht_.2; clear ht_; replace HB0 := Aside0.mk (below_step HB0.out hb_); clear hb_; obtain ⟨At, ct, rfl⟩ := Kd.R_slice HT.out; obtain ⟨xs1, h1_⟩ : ∃ z, Win.cut tr 0 x = z := ⟨_, rfl⟩; obtain ⟨ys, h2_⟩ : ∃ z, Win.cut tr x y = z := ⟨_, rfl⟩; obtain ⟨zs, h3_⟩ : ∃ z, Win.cut tr y (tr.length : Int) = z := ⟨_, rfl⟩; have HX1 := Aside0.mk h1_; have HX2 := Aside0.mk h2_; have HX3 := Aside0.mk h3_; clear h1_ h2_ h3_; rcases Win.three x y with h_ | h_ | h_; (have c1 := decide_eq_true h_; clear h_); rotate_left; (have c1 := decide_eq_false h_.1; have c2 := decide_eq_true h_.2; have c3 := Win.nil1 HX2.out h_.2; have c3b := Win.nil2 HX2.out h_.2; have c3c := Win.nil3 HX2.out h_.2; clear h_); rotate_left; (have c1 := decide_eq_false h_.1; have c2 := decide_eq_false h_.2; have HE := Aside0.mk (Win.cut_eq HX1.out HX2.out HX3.out h_); clear h_); rotate_left)
    | (go_at_call 9; first | (have q_ := HO.out; clear q_; refine (impl_Window.calls At ct tr _ _ zs _ (Kd.R_reads' HT.out).2.2 (Kd.R_reads' HT.out).2.1 ((Win.cut_f tr (Nat.le_trans HTL.out (by decide)) _ _).trans (congrArg some HX3.out))).mono ?_; rintro e w1 ⟨v_, rfl, hr_, hb_⟩; have HPZ := Aside0.mk (apart_sym (apart_new HO.out hr_)); skip; have HZ := Aside0.mk (Kd.R_lower hr_ HB0.out.size); (try (replace HT := Aside0.mk (Kd.R_below HT.out hb_))); (try (replace HV := Aside0.mk (Kd.R_below HV.out hb_))); (try (replace HA := Aside0.mk (Kd.R_below HA.out hb_))); (try (replace HS := Aside0.mk (Kd.R_below HS.out hb_))); (try (replace HO := Aside0.mk (Kd.R_below HO.out hb_))); replace HB0 := Aside0.mk (below_step HB0.out hb_); clear hr_ hb_; obtain ⟨Az, cz, rfl⟩ := Kd.R_slice HZ.out) | (have q_ := HV.out; clear q_; refine (impl_Window.calls At ct tr _ _ xs1 _ (Kd.R_reads' HT.out).2.2 (Kd.R_reads' HT.out).2.1 ((Win.cut_f tr (Nat.le_trans HTL.out (by decide)) _ _).trans (congrArg some HX1.out))).mono ?_; rintro e w1 ⟨v_, rfl, hr_, hb_⟩; skip; have HA := Aside0.mk (Kd.R_lower hr_ HB0.out.size); (try (replace HT := Aside0.mk (Kd.R_below HT.out hb_))); (try (replace HV := Aside0.mk (Kd.R_below HV.out hb_))); (try (replace HS := Aside0.mk (Kd.R_below HS.out hb_))); (try (replace HO := Aside0.mk (Kd.R_below HO.out hb_))); (try (replace HZ := Aside0.mk (Kd.R_below HZ.out hb_))); replace HB0 := Aside0.mk (below_step HB0.out hb_); clear hr_ hb_; obtain ⟨Aa, ca, rfl⟩ := Kd.R_slice HA.out) | (refine (impl_Window.calls At ct tr _ _ ys _ (Kd.R_reads' HT.out).2.2 (Kd.R_reads' HT.out).2.1 ((Win.cut_f tr (Nat.le_trans HTL.out (by decide)) _ _).trans (congrArg some HX2.out))).mono ?_; rintro e w1 ⟨v_, rfl, hr_, hb_⟩; skip; have HV := Aside0.mk (Kd.R_lower hr_ HB0.out.size); (try (replace HT := Aside0.mk (Kd.R_below HT.out hb_))); (try (replace HA := Aside0.mk (Kd.R_below HA.out hb_))); (try (replace HS := Aside0.mk (Kd.R_below HS.out hb_))); (try (replace HO := Aside0.mk (Kd.R_below HO.out hb_))); (try (replace HZ := Aside0.mk (Kd.R_below HZ.out hb_))); replace HB0 := Aside0.mk (below_step HB0.out hb_); clear hr_ hb_; obtain ⟨Av, cv, rfl⟩ := Kd.R_slice HV.out))
    | (go_at_call 11; refine (spec_Window.calls 500 At ct tr _ _ ys _ (Kd.R_reads' HT.out).2.2 (Kd.R_reads' HT.out).2.1 ((Win.cut_spec tr (Nat.le_trans HTL.out (by decide)) _ _ 500 (Win.lt500 HTL.out)).trans (congrArg some HX2.out))).mono ?_; rintro e w1 ⟨v_, rfl, hr_, hb_⟩; have HS := Aside0.mk (Kd.R_lower hr_ HB0.out.size); (try (replace HT := Aside0.mk (Kd.R_below HT.out hb_))); (try (replace HV := Aside0.mk (Kd.R_below HV.out hb_))); (try (replace HA := Aside0.mk (Kd.R_below HA.out hb_))); (try (replace HO := Aside0.mk (Kd.R_below HO.out hb_))); (try (replace HZ := Aside0.mk (Kd.R_below HZ.out hb_))); replace HB0 := Aside0.mk (below_step HB0.out hb_); clear hr_ hb_; obtain ⟨As, cs, rfl⟩ := Kd.R_slice HS.out)
    | (go_at_call 10; first | (have q_ := HS.out; clear q_; refine (laws_sameCycs.calls 500 Av cv ys As cs ys true _ (Kd.R_reads' HV.out).2.2 (Kd.R_reads' HV.out).2.1 (Kd.R_reads' HS.out).2.2 (Kd.R_reads' HS.out).2.1 (Win.same_refl ys (Win.le_big (Win.cut_len2 HX2.out) HTL.out) 500 (Win.lt_five (Win.cut_len2 HX2.out) HTL.out))).mono ?_; rintro e w1 ⟨rfl, hd_⟩; have hb_ := hd_.below; clear hd_ HS; (try (replace HT := Aside0.mk (Kd.R_below HT.out hb_))); (try (replace HV := Aside0.mk (Kd.R_below HV.out hb_))); (try (replace HA := Aside0.mk (Kd.R_below HA.out hb_))); (try (replace HS := Aside0.mk (Kd.R_below HS.out hb_))); (try (replace HO := Aside0.mk (Kd.R_below HO.out hb_))); (try (replace HZ := Aside0.mk (Kd.R_below HZ.out hb_))); replace HB0 := Aside0.mk (below_step HB0.out hb_); clear hb_) | (refine (laws_sameCycs.calls 500 Ao co os At ct tr true _ (Kd.R_reads' HO.out).2.2 (Kd.R_reads' HO.out).2.1 (Kd.R_reads' HT.out).2.2 (Kd.R_reads' HT.out).2.1 (Win.same_eq (HOE.out.trans HE.out) HTL.out)).mono ?_; rintro e w1 ⟨rfl, hd_⟩; have hb_ := hd_.below; clear hd_; (try (replace HT := Aside0.mk (Kd.R_below HT.out hb_))); (try (replace HV := Aside0.mk (Kd.R_below HV.out hb_))); (try (replace HA := Aside0.mk (Kd.R_below HA.out hb_))); (try (replace HS := Aside0.mk (Kd.R_below HS.out hb_))); (try (replace HO := Aside0.mk (Kd.R_below HO.out hb_))); (try (replace HZ := Aside0.mk (Kd.R_below HZ.out hb_))); replace HB0 := Aside0.mk (below_step HB0.out hb_); clear hb_))
    | ((with_reducible refine gate_dst (N := 44) rfl ?_); refine Kd.R_lit k55 _ 55 ?hg (N := 44) ?hd (xs := []) (inner := []) (ok := fun _ => True) (okp := fun _ => True) ?hr ?hp (fun _ hk => hk) trivial (Below.refl _ _) (Nat.le_refl _) (by simp) ?_; (case hd => rfl); (case hg => rfl); (case hr => first | (go_simp; done) | (go_simp; rfl)); (case hp => exact (Reps.none _ _)); intro v0 w1 ho_ hb_ hg_ hnew_; clear hg_ hnew_; have HPT := Aside0.mk (apart_new HT.out ho_); have HPV := Aside0.mk (apart_new HV.out ho_); have HPA := Aside0.mk (apart_new HA.out ho_); have q_ := Aside0.mk (Kd.R_lower ho_ HB0.out.size); (try (replace HT := Aside0.mk (Kd.R_below HT.out hb_))); (try (replace HV := Aside0.mk (Kd.R_below HV.out hb_))); (try (replace HA := Aside0.mk (Kd.R_below HA.out hb_))); (try (replace HS := Aside0.mk (Kd.R_below HS.out hb_))); (try (replace HO := Aside0.mk (Kd.R_below HO.out hb_))); (try (replace HZ := Aside0.mk (Kd.R_below HZ.out hb_))); replace HB0 := Aside0.mk (below_step HB0.out hb_); clear hb_ ho_; obtain ⟨os, HOE, HO⟩ : ∃ os : List S55, Aside0 (os = []) ∧ Aside0 (Kd.R k55 55 w1 w.heap.size (fun _ => True) v0 os) := ⟨[], ⟨rfl⟩, q_⟩; clear q_; obtain ⟨Ao, co, rfl⟩ := Kd.R_slice HO.out)
    | ((with_reducible refine gate_builtin (b := .append) (xs := #[.tmp 44, .tmp 45]) rfl ?_); at_builtin; refine Kd.R_append_rows k55 (Rr := k55.K w1) (w0 := w) w.heap.size rfl (.tmp 44) (.tmp 45) 31 55 (.agg #[(.int .u16 0), (.int .u8 0), (.bool false)]) 4 rfl Try.underlying31 info55 rfl (by decide) (by omega) (.slice Ao os.length co) os xs1 _ _ _ (fun _ => True) (fun _ => False) rfl rfl ?aO ?aR (fun x cs_ h => by obtain rfl := k55_open h; exact k55_mkM _ _ _ x) (fun _ h => h.elim) ?aF ?aB ?aS ?aL ?_; (case aR => exact (Kd.R_reads' HA.out).2.2); (case aB => exact HB0.out); (case aF => exact (fun _ _ => trivial)); (case aO => exact HO.out); (case aS => exact HB0.out.size); (case aL => exact Win.room (Win.nil_len HOE.out) (Win.cut_four HX1.out HTL.out)); intro v1 w1 ho_ hb_ hg_ hat_; (try (have q_ := Aside0.mk (apart_step HT.out HPT.out hat_); replace HT := Aside0.mk (R_cyc_grown HT.out hg_ HPT.out); replace HPT := q_; clear q_)); (try (have q_ := Aside0.mk (apart_step HV.out HPV.out hat_); replace HV := Aside0.mk (R_cyc_grown HV.out hg_ HPV.out); replace HPV := q_; clear q_)); (try (have q_ := Aside0.mk (apart_step HA.out HPA.out hat_); replace HA := Aside0.mk (R_cyc_grown HA.out hg_ HPA.out); replace HPA := q_; clear q_)); (try (have q_ := Aside0.mk (apart_step HZ.out HPZ.out hat_); replace HZ := Aside0.mk (R_cyc_grown HZ.out hg_ HPZ.out); replace HPZ := q_; clear q_)); replace HB0 := Aside0.mk hb_; clear hb_ hg_ hat_ HO; obtain ⟨os2, HOE2, HO⟩ : ∃ o2 : List S55, Aside0 (o2 = os ++ xs1) ∧ Aside0 (Kd.R k55 55 w1 w.heap.size (fun _ => True) v1 o2) := ⟨_, ⟨rfl⟩, ⟨ho_⟩⟩; clear ho_; have HOE3 := Aside0.mk (HOE2.out.trans (by rw [HOE.out, List.nil_append] : _ = xs1)); clear HOE HOE2; obtain ⟨os, rfl⟩ : ∃ o3, o3 = os2 := ⟨_, rfl⟩; have HOE := HOE3; clear HOE3; obtain ⟨Ao, co, rfl⟩ := Kd.R_slice HO.out)
    | ((with_reducible refine gate_builtin (b := .append) (xs := #[.tmp 46, .tmp 47]) rfl ?_); at_builtin; refine Kd.R_append_rows k55 (Rr := k55.K w1) (w0 := w) w.heap.size rfl (.tmp 46) (.tmp 47) 31 55 (.agg #[(.int .u16 0), (.int .u8 0), (.bool false)]) 4 rfl Try.underlying31 info55 rfl (by decide) (by omega) (.slice Ao os.length co) os ys _ _ _ (fun _ => True) (fun _ => False) rfl rfl ?aO ?aR (fun x cs_ h => by obtain rfl := k55_open h; exact k55_mkM _ _ _ x) (fun _ h => h.elim) ?aF ?aB ?aS ?aL ?_; (case aR => exact (Kd.R_reads' HV.out).2.2); (case aB => exact HB0.out); (case aF => exact (fun _ _ => trivial)); (case aO => exact HO.out); (case aS => exact HB0.out.size); (case aL => exact Win.room (Win.eq_len HOE.out (Win.cut_four HX1.out HTL.out)) (Win.cut_four HX2.out HTL.out)); intro v1 w1 ho_ hb_ hg_ hat_; (try (have q_ := Aside0.mk (apart_step HT.out HPT.out hat_); replace HT := Aside0.mk (R_cyc_grown HT.out hg_ HPT.out); replace HPT := q_; clear q_)); (try (have q_ := Aside0.mk (apart_step HV.out HPV.out hat_); replace HV := Aside0.mk (R_cyc_grown HV.out hg_ HPV.out); replace HPV := q_; clear q_)); (try (have q_ := Aside0.mk (apart_step HA.out HPA.out hat_); replace HA := Aside0.mk (R_cyc_grown HA.out hg_ HPA.out); replace HPA := q_; clear q_)); (try (have q_ := Aside0.mk (apart_step HZ.out HPZ.out hat_); replace HZ := Aside0.mk (R_cyc_grown HZ.out hg_ HPZ.out); replace HPZ := q_; clear q_)); replace HB0 := Aside0.mk hb_; clear hb_ hg_ hat_ HO; obtain ⟨os2, HOE2, HO⟩ : ∃ o2 : List S55, Aside0 (o2 = os ++ ys) ∧ Aside0 (Kd.R k55 55 w1 w.heap.size (fun _ => True) v1 o2) := ⟨_, ⟨rfl⟩, ⟨ho_⟩⟩; clear ho_; have HOE3 := Aside0.mk (HOE2.out.trans (by rw [HOE.out] : _ = xs1 ++ ys)); clear HOE HOE2; obtain ⟨os, rfl⟩ : ∃ o3, o3 = os2 := ⟨_, rfl⟩; have HOE := HOE3; clear HOE3; obtain ⟨Ao, co, rfl⟩ := Kd.R_slice HO.out)
    | ((with_reducible refine gate_builtin (b := .append) (xs := #[.tmp 48, .tmp 53]) rfl ?_); at_builtin; refine Kd.R_append_rows k55 (Rr := k55.K w1) (w0 := w) w.heap.size rfl (.tmp 48) (.tmp 53) 31 55 (.agg #[(.int .u16 0), (.int .u8 0), (.bool false)]) 4 rfl Try.underlying31 info55 rfl (by decide) (by omega) (.slice Ao os.length co) os zs _ _ _ (fun _ => True) (fun _ => False) rfl rfl ?aO ?aR (fun x cs_ h => by obtain rfl := k55_open h; exact k55_mkM _ _ _ x) (fun _ h => h.elim) ?aF ?aB ?aS ?aL ?_; (case aR => exact (Kd.R_reads' HZ.out).2.2); (case aB => exact HB0.out); (case aF => exact (fun _ _ => trivial)); (case aO => exact HO.out); (case aS => exact HB0.out.size); (case aL => exact Win.room (Win.eq_len2 HOE.out (Win.cut_four HX1.out HTL.out) (Win.cut_four HX2.out HTL.out)) (Win.cut_four HX3.out HTL.out)); intro v1 w1 ho_ hb_ hg_ hat_; (try (have q_ := Aside0.mk (apart_step HT.out HPT.out hat_); replace HT := Aside0.mk (R_cyc_grown HT.out hg_ HPT.out); replace HPT := q_; clear q_)); (try (have q_ := Aside0.mk (apart_step HV.out HPV.out hat_); replace HV := Aside0.mk (R_cyc_grown HV.out hg_ HPV.out); replace HPV := q_; clear q_)); (try (have q_ := Aside0.mk (apart_step HA.out HPA.out hat_); replace HA := Aside0.mk (R_cyc_grown HA.out hg_ HPA.out); replace HPA := q_; clear q_)); (try (have q_ := Aside0.mk (apart_step HZ.out HPZ.out hat_); replace HZ := Aside0.mk (R_cyc_grown HZ.out hg_ HPZ.out); replace HPZ := q_; clear q_)); replace HB0 := Aside0.mk hb_; clear hb_ hg_ hat_ HO; obtain ⟨os2, HOE2, HO⟩ : ∃ o2 : List S55, Aside0 (o2 = os ++ zs) ∧ Aside0 (Kd.R k55 55 w1 w.heap.size (fun _ => True) v1 o2) := ⟨_, ⟨rfl⟩, ⟨ho_⟩⟩; clear ho_; have HOE3 := Aside0.mk (HOE2.out.trans (by rw [HOE.out] : _ = xs1 ++ ys ++ zs)); clear HOE HOE2; obtain ⟨os, rfl⟩ : ∃ o3, o3 = os2 := ⟨_, rfl⟩; have HOE := HOE3; clear HOE3; obtain ⟨Ao, co, rfl⟩ := Kd.R_slice HO.out)
    | ((with_reducible refine gate_ret ?_); refine bodyPost_ret (results_tmp rfl _ _ _) rfl ?_; exact ⟨rfl, HB0.out⟩))
end Go.Proofs.Ytafkbhnhmhmjcaa.Weak
end
section
namespace Go.Proofs.Ytafkbhnhmhmjcaa.PRun
open Go.ChangeShapes Go.WideShapes Go.ChangeAt Go.RowKit Go.Deep Go.Proofs.YtafkbhnhmhmjcaaW.PrintWords Go.Proofs.YtafkbhnhmhmjcaaW.PrintLast
set_option linter.unusedVariables false
set_option linter.unusedSimpArgs false
theorem cells_uint8 : Try.prog.cellsOf 5 = 1 := by kernel_rfl
section
variable {H : Type} {enc : TypeId × Value → H} {w : World} {base : Nat} {spare : Nat → Bool} {held : Bool}
theorem open_row {α : Type} {d : Kd α} {Wf : α → Prop} {P : Program} {t e : TypeId} (ht : P.underlying t = some (.slice e)) (hC : P.cellsOf e = d.sz)
    (hE : ∀ {fuel : Nat} {cs : List Value} {x : DataW H × List MemPlace}, DataW.trod enc P w base spare held fuel e cs = some x → ∃ a, d.K w a cs ∧ Wf a) {fuel : Nat} {cs : List Value} {x : DataW H × List MemPlace}
    (h : DataW.trod enc P w base spare held fuel t cs = some x) : ∃ (A : Option Addr) (c : Nat) (l : List α), cs = [.slice A l.length c] ∧ (Kd.C d w A l.length l ∧ l.length ≤ c ∧ l.length ≤ maxLen ∧ ∀ x ∈ l, Wf x) := by
  rcases open_slice ht h with ⟨rfl, _⟩ | ⟨a, len, cap, m, n, D, Pl, rfl, _, hl, hm, hmm, _, hi⟩
  · exact ⟨none, 0, [], rfl, Kd.C_nil d w, Nat.le_refl _, by simp, fun x hx => by cases hx⟩
  · have hlm : len ≤ m := by rw [hmm]; split <;> omega
    have step : ∀ k, k ≤ len → ∃ l : List α, l.length = k ∧ (∀ j p, l[j]? = some p → Wf p ∧ ∃ c, c.length = d.sz ∧ d.K w p c ∧ ∀ i u, c[i]? = some u → w.cell? (a.add (j * d.sz + i)) = some u) := by
      intro k
      induction k with
      | zero => exact fun _ => ⟨[], rfl, fun j p hj => by simp at hj⟩
      | succ k ih =>
        intro hk
        obtain ⟨l, hl1, hl2⟩ := ih (by omega)
        obtain ⟨cs', hc, ht'⟩ := hi k (by omega)
        obtain ⟨p, hp, hw⟩ := hE ht'
        obtain ⟨_, hcl, hat⟩ := World.cells?_some hc
        refine ⟨l ++ [p], by simp [hl1], fun j q hj => ?_⟩
        rcases Nat.lt_or_ge j k with hjk | hjk
        · rw [List.getElem?_append_left (by omega)] at hj
          exact hl2 j q hj
        · have hjl : j < (l ++ [p]).length := (List.getElem?_eq_some_iff.1 hj).1
          obtain rfl : j = k := by simp [hl1] at hjl; omega
          rw [List.getElem?_append_right (by omega)] at hj
          simp [hl1] at hj
          subst hj
          refine ⟨hw, cs', hcl.trans hC, hp, fun i u hu => ?_⟩
          have hil : i < cs'.length := (List.getElem?_eq_some_iff.1 hu).1
          have h1 := hat i (by omega)
          rw [hC, Go.Deep.add_add] at h1
          rw [h1]; exact hu
    obtain ⟨l, hl1, hl2⟩ := step len (Nat.le_refl _)
    have hml : maxLen = 9223372036854775807 := rfl
    subst hl1
    refine ⟨some a, cap, l, rfl, ⟨rfl, by omega, fun _ => ⟨a, rfl, fun j p hj => (hl2 j p hj).2⟩⟩, hl, by omega, fun x hx => ?_⟩
    obtain ⟨j, hj⟩ := List.getElem?_of_mem hx
    exact (hl2 j x hj).1
theorem el_uint8 {fuel : Nat} {cs : List Value} {x : DataW H × List MemPlace} (h : DataW.trod enc Try.prog w base spare held fuel 5 cs = some x) : ∃ a : Int, (Kd.int .u8).K w a cs ∧ (Lit.int .u8 a).wf = true := by
  obtain ⟨b, rfl, _, hb⟩ := DataW.trod_int Try.underlying5 h
  exact ⟨b, rfl, hb⟩
theorem open_sl_uint8 {fuel : Nat} {cs : List Value} {x : DataW H × List MemPlace} (h : DataW.trod enc Try.prog w base spare held fuel 22 cs = some x) :
    ∃ (A : Option Addr) (c : Nat) (l : List (Int)), cs = [.slice A l.length c] ∧ (Kd.C (Kd.int .u8) w A l.length l ∧ l.length ≤ c ∧ l.length ≤ maxLen ∧ ∀ x ∈ l, (Lit.int .u8 x).wf = true) :=
  open_row (Wf := fun x => (Lit.int .u8 x).wf = true) Try.underlying22 cells_uint8 (fun h => el_uint8 h) h
end
end Go.Proofs.Ytafkbhnhmhmjcaa.PRun
end
