/- The plain side of FnExactSbc: what the program's function and the reference's compute answers as the law says. -/
import Derived.Test.YtaeldfojleijbaaPSbcx8
import Derived.OpenShut
namespace Go.Proofs.Ytaeldfojleijbaa.Pure
open Go.RowKit Go.Proofs.Ytaeldfojleijbaa.PSbc Go.Proofs.YtaeldfojleijbaaW.PrintWords Go.Proofs.YtaeldfojleijbaaW.PrintLast

theorem u8n {a : Int} (h : (Lit.int .u8 a).wf = true) : ∃ n : Nat, n < 256 ∧ a = (n : Int) := by
  have := bounds_u8 h
  exact ⟨a.toNat, by omega, by omega⟩
theorem byt {P : Int → Prop} (h : ∀ n : Nat, n < 256 → P (n : Int)) {a : Int} (h0 : 0 ≤ a) (h1 : a ≤ 255) : P a := by
  have := h a.toNat (by omega)
  rwa [Int.toNat_of_nonneg h0] at this

theorem has7 {a : Int} (h0 : 0 ≤ a) (h1 : a ≤ 255) : impl_has.f a 7 = some (decide (a ≥ 128)) :=
  byt (P := fun a => impl_has.f a 7 = some (decide (a ≥ 128))) (by decide +kernel) h0 h1
theorem eqFlags_refl (b0 b1 b2 b3 b4 b5 : Bool) : laws_eqFlags.f b0 b1 b2 b3 b4 b5 b0 b1 b2 b3 b4 b5 = some true := by
  simp [laws_eqFlags.f]

theorem wrap64_small {x : Int} (h0 : -9223372036854775808 ≤ x) (h1 : x ≤ 9223372036854775807) : wrap64 x = x := by unfold wrap64; omega
theorem and15 {a : Int} (h0 : 0 ≤ a) (h1 : a ≤ 255) : 0 ≤ Go.bits .and .u8 a 15 ∧ Go.bits .and .u8 a 15 ≤ 15 :=
  byt (P := fun a => 0 ≤ Go.bits .and .u8 a 15 ∧ Go.bits .and .u8 a 15 ≤ 15) (by decide +kernel) h0 h1
theorem and240 {a : Int} (h0 : 0 ≤ a) (h1 : a ≤ 255) : 0 ≤ Go.bits .and .u8 a 240 ∧ Go.bits .and .u8 a 240 ≤ 240 :=
  byt (P := fun a => 0 ≤ Go.bits .and .u8 a 240 ∧ Go.bits .and .u8 a 240 ≤ 240) (by decide +kernel) h0 h1
theorem off {P : Int → Prop} (h : ∀ n : Nat, n < 2048 → P ((n : Int) - 1024)) {a : Int} (h0 : -1024 ≤ a) (h1 : a ≤ 1023) : P a := by
  have := h (a + 1024).toNat (by omega)
  rw [Int.toNat_of_nonneg (by omega)] at this
  simpa using this
theorem and255 {a : Int} (h0 : -1024 ≤ a) (h1 : a ≤ 1023) : Go.bits .and .i64 a 255 = a % 256 :=
  off (P := fun a => Go.bits .and .i64 a 255 = a % 256) (by decide +kernel) h0 h1
theorem and15i {a : Int} (h0 : -1024 ≤ a) (h1 : a ≤ 1023) : Go.bits .and .i64 a 15 = a % 16 :=
  off (P := fun a => Go.bits .and .i64 a 15 = a % 16) (by decide +kernel) h0 h1
theorem mod256 (x : Int) : x % 256 % 256 = x % 256 := by omega
theorem top_eq {x : Int} (h0 : 0 ≤ x) (h1 : x ≤ 1023) : (Int.tmod (wrap64 (Int.tdiv x 128)) 2 == 1) = decide (x % 256 ≥ 128) :=
  off (P := fun x => 0 ≤ x → (Int.tmod (wrap64 (Int.tdiv x 128)) 2 == 1) = decide (x % 256 ≥ 128)) (by decide +kernel) (by omega) h1 h0
theorem top01 {x : Int} (h0 : 0 ≤ x) (h1 : x ≤ 1023) : Int.tmod (wrap64 (Int.tdiv x 128)) 2 = if x % 256 ≥ 128 then 1 else 0 :=
  off (P := fun x => 0 ≤ x → Int.tmod (wrap64 (Int.tdiv x 128)) 2 = if x % 256 ≥ 128 then 1 else 0) (by decide +kernel) (by omega) h1 h0
theorem over_eq {a b x : Int} (a0 : 0 ≤ a) (a1 : a ≤ 255) (b0 : 0 ≤ b) (b1 : b ≤ 255) (x0 : 0 ≤ x) (x1 : x ≤ 1023) :
    spec_l02Over.f a b x = some ((decide (a ≥ 128) == decide (b ≥ 128)) && (decide (x % 256 ≥ 128) != decide (a ≥ 128))) := by
  simp only [spec_l02Over.f]
  rw [top01 a0 (by omega), top01 b0 (by omega), top01 x0 x1, show a % 256 = a by omega, show b % 256 = b by omega]
  by_cases ha : a ≥ 128 <;> by_cases hb : b ≥ 128 <;> by_cases hx : x % 256 ≥ 128 <;> simp [ha, hb, hx]
theorem one_eq (c : Bool) : impl_one.f c = some (if c = true then 1 else 0) := by cases c <;> decide +kernel
theorem l02Bit_eq (c : Bool) : spec_l02Bit.f c 1 = some (if c = true then 1 else 0) := by cases c <;> rfl
theorem c01 (c : Bool) : 0 ≤ (if c = true then (1 : Int) else 0) ∧ (if c = true then (1 : Int) else 0) ≤ 1 := by cases c <;> simp
theorem plain_eq {a b : Int} (a0 : 0 ≤ a) (a1 : a ≤ 255) (b0 : 0 ≤ b) (b1 : b ≤ 255) (n v d i z c : Bool) (t : Int) (ht : t = if c = true then (1 : Int) else 0) :
    spec_l02Plain.f a b n v d i z c = some ((a + b + t) % 256, decide ((a + b + t) % 256 ≥ 128), (decide (a ≥ 128) == decide (b ≥ 128)) && (decide ((a + b + t) % 256 ≥ 128) != decide (a ≥ 128)), d, i, ((a + b + t) % 256 == 0), decide (a + b + t > 255)) := by
  have ht' := c01 c
  rw [← ht] at ht'
  simp only [spec_l02Plain.f, l02Bit_eq, ← ht, Option.bind_some]
  simp (disch := omega) only [wrap64_small, and255, over_eq, Option.bind_some, spec_NZ.f, mod256]
theorem j0_eq (k : Nat) {a b x l : Int} (a0 : 0 ≤ a) (a1 : a ≤ 255) (b0 : 0 ≤ b) (b1 : b ≤ 255) (A B : Int) (hA : Go.bits .and .u8 a 240 = A) (hB : Go.bits .and .u8 b 240 = B) (A0 : 0 ≤ A) (A1 : A ≤ 240) (B0 : 0 ≤ B) (B1 : B ≤ 240) (l0 : 0 ≤ l) (l1 : l ≤ 31) (n v d i z c : Bool) (h : Int) (hh : h = A + B + l) (g : Int) (hg : g = if h ≥ 160 then h + 96 else h) :
    impl_Adc.j0 (k + 1) a b x l n v d i z c = some (g % 256, decide (h % 256 ≥ 128), (decide (a ≥ 128) == decide (b ≥ 128)) && (decide (h % 256 ≥ 128) != decide (a ≥ 128)), d, i, (x % 256 == 0), decide (g > 255)) := by
  simp only [impl_Adc.j0, hA, hB]
  simp (disch := omega) only [wrap64_small, has7, Option.bind_some, ← hh]
  by_cases e : h ≥ 160
  · rw [if_pos e] at hg
    subst hg
    by_cases ha : a ≥ 128 <;> by_cases hb : b ≥ 128 <;> simp [ha, hb, e]
  · rw [if_neg e] at hg
    subst hg
    by_cases ha : a ≥ 128 <;> by_cases hb : b ≥ 128 <;> simp [ha, hb, e]
theorem adc_some {a b : Int} (a0 : 0 ≤ a) (a1 : a ≤ 255) (b0 : 0 ≤ b) (b1 : b ≤ 255) (n v d i z c : Bool) : ∃ r, spec_Adc.f a b n v d i z c = some r ∧ ∀ k, impl_Adc.f (k + 1) a b n v d i z c = some r := by
  obtain ⟨p0, p1⟩ := and15 a0 a1
  obtain ⟨q0, q1⟩ := and15 b0 b1
  obtain ⟨A0, A1⟩ := and240 a0 a1
  obtain ⟨B0, B1⟩ := and240 b0 b1
  obtain ⟨t, ht⟩ : ∃ t : Int, t = if c = true then 1 else 0 := ⟨_, rfl⟩
  obtain ⟨t0, t1⟩ := c01 c
  rw [← ht] at t0 t1
  generalize hA : Go.bits .and .u8 a 240 = A at *
  generalize hB : Go.bits .and .u8 b 240 = B at *
  generalize hp : Go.bits .and .u8 a 15 = p at *
  generalize hq : Go.bits .and .u8 b 15 = q at *
  cases d with
  | false =>
    refine ⟨((a + b + t) % 256, decide ((a + b + t) % 256 ≥ 128), (decide (a ≥ 128) == decide (b ≥ 128)) && (decide ((a + b + t) % 256 ≥ 128) != decide (a ≥ 128)), false, i, ((a + b + t) % 256 == 0), decide (a + b + t > 255)), ?_, fun k => ?_⟩
    · simp [spec_Adc.f, plain_eq a0 a1 b0 b1 n v false i z c t ht]
    · simp only [impl_Adc.f, one_eq, ← ht, Option.bind_some]
      simp (disch := omega) only [wrap64_small, has7, Option.bind_some, impl_NZ.f]
      by_cases ha : a ≥ 128 <;> by_cases hb : b ≥ 128 <;> simp [ha, hb]
  | true =>
    simp only [spec_Adc.f, impl_Adc.f, plain_eq a0 a1 b0 b1 n v true i z c t ht, one_eq, l02Bit_eq, ← ht, Option.bind_some, hA, hB, hp, hq, if_true]
    simp (disch := omega) only [wrap64_small]
    by_cases e : p + q + t ≥ 10
    · have m0 : 0 ≤ (p + q + t + 6) % 16 := by omega
      have m1 : (p + q + t + 6) % 16 ≤ 15 := by omega
      simp only [if_pos e]
      simp (disch := omega) only [wrap64_small, and15i, over_eq, Option.bind_some, top_eq]
      simp only [j0_eq _ a0 a1 b0 b1 A B hA hB A0 A1 B0 B1 (l := (p + q + t + 6) % 16 + 16) (by omega) (by omega) n v true i z c _ rfl _ rfl]
      by_cases e2 : A + B + ((p + q + t + 6) % 16 + 16) ≥ 160
      · simp only [if_pos e2]
        simp (disch := omega) only [wrap64_small, and255, mod256]
        exact ⟨_, rfl, fun _ => rfl⟩
      · simp only [if_neg e2]
        simp (disch := omega) only [wrap64_small, and255, mod256]
        exact ⟨_, rfl, fun _ => rfl⟩
    · simp only [if_neg e]
      simp (disch := omega) only [wrap64_small, and15i, over_eq, Option.bind_some, top_eq]
      simp only [j0_eq _ a0 a1 b0 b1 A B hA hB A0 A1 B0 B1 (l := p + q + t) (by omega) (by omega) n v true i z c _ rfl _ rfl]
      by_cases e2 : A + B + (p + q + t) ≥ 160
      · simp only [if_pos e2]
        simp (disch := omega) only [wrap64_small, and255, mod256]
        exact ⟨_, rfl, fun _ => rfl⟩
      · simp only [if_neg e2]
        simp (disch := omega) only [wrap64_small, and255, mod256]
        exact ⟨_, rfl, fun _ => rfl⟩

theorem not8 {a : Int} (h0 : 0 ≤ a) (h1 : a ≤ 255) : Go.bits .xor .u8 255 a = (255 - a) % 256 :=
  byt (P := fun a => Go.bits .xor .u8 255 a = (255 - a) % 256) (by decide +kernel) h0 h1
theorem sbc_some {a b : Int} (a0 : 0 ≤ a) (a1 : a ≤ 255) (b0 : 0 ≤ b) (b1 : b ≤ 255) (n v d i z c : Bool) : ∃ r, spec_Sbc.f a b n v d i z c = some r ∧ ∀ k, impl_Sbc.f (k + 1) a b n v d i z c = some r := by
  obtain ⟨p0, p1⟩ := and15 a0 a1
  obtain ⟨q0, q1⟩ := and15 b0 b1
  obtain ⟨A0, A1⟩ := and240 a0 a1
  obtain ⟨B0, B1⟩ := and240 b0 b1
  obtain ⟨t, ht⟩ : ∃ t : Int, t = if c = true then 1 else 0 := ⟨_, rfl⟩
  obtain ⟨t0, t1⟩ := c01 c
  rw [← ht] at t0 t1
  have hn := not8 b0 b1
  have n0 : 0 ≤ (255 - b) % 256 := by omega
  have n1 : (255 - b) % 256 ≤ 255 := by omega
  obtain ⟨r, hr, hk⟩ := adc_some a0 a1 n0 n1 n v false i z c
  have hs : spec_l02Plain.f a ((255 - b) % 256) n v d i z c = some (r.1, r.2.1, r.2.2.1, d, r.2.2.2.2.1, r.2.2.2.2.2.1, r.2.2.2.2.2.2) := by
    have h1 : spec_Adc.f a ((255 - b) % 256) n v false i z c = some r := hr
    simp only [spec_Adc.f, plain_eq a0 a1 n0 n1 n v false i z c t ht, Option.bind_some] at h1
    rw [plain_eq a0 a1 n0 n1 n v d i z c t ht]
    simp at h1
    rw [← h1]
  generalize hA : Go.bits .and .u8 a 240 = A at *
  generalize hB : Go.bits .and .u8 b 240 = B at *
  generalize hp : Go.bits .and .u8 a 15 = p at *
  generalize hq : Go.bits .and .u8 b 15 = q at *
  simp only [spec_Sbc.f, impl_Sbc.f, hn, hs, hk, one_eq, l02Bit_eq, ← ht, Option.bind_some, hA, hB, hp, hq]
  cases d with
  | false => exact ⟨_, by simp only [Bool.false_eq_true, if_false], fun k => by simp only [Bool.false_eq_true, if_false]⟩
  | true =>
    simp only [if_true]
    simp (disch := omega) only [wrap64_small]
    by_cases e : p - q - 1 + t < 0
    · have m0 : 0 ≤ (p - q - 1 + t - 6) % 16 := by omega
      have m1 : (p - q - 1 + t - 6) % 16 ≤ 15 := by omega
      simp only [if_pos e]
      simp (disch := omega) only [wrap64_small, and15i]
      by_cases e2 : A - B + ((p - q - 1 + t - 6) % 16 - 16) < 0
      · simp only [if_pos e2]
        simp (disch := omega) only [wrap64_small, and255, mod256]
        exact ⟨_, rfl, fun _ => rfl⟩
      · simp only [if_neg e2]
        simp (disch := omega) only [wrap64_small, and255, mod256]
        exact ⟨_, rfl, fun _ => rfl⟩
    · simp only [if_neg e]
      by_cases e2 : A - B + (p - q - 1 + t) < 0
      · simp only [if_pos e2]
        simp (disch := omega) only [wrap64_small, and255, mod256]
        exact ⟨_, rfl, fun _ => rfl⟩
      · simp only [if_neg e2]
        simp (disch := omega) only [wrap64_small, and255, mod256]
        exact ⟨_, rfl, fun _ => rfl⟩

theorem FnExactSbc : ∀ (a0 : Int) (a1 : Int) (a2_0 : Bool) (a2_1 : Bool) (a2_2 : Bool) (a2_3 : Bool) (a2_4 : Bool) (a2_5 : Bool), (Lit.int .u8 a0).wf = true → (Lit.int .u8 a1).wf = true → ∃ k, laws_FnExactSbc.f k a0 a1 a2_0 a2_1 a2_2 a2_3 a2_4 a2_5 = some true := by
  intro a b b0 b1 b2 b3 b4 b5 ha hb
  have h1 := bounds_u8 hb
  have h2 := bounds_u8 ha
  obtain ⟨r, hs, hi⟩ := sbc_some h2.1 h2.2 h1.1 h1.2 b0 b1 b2 b3 b4 b5
  refine ⟨1, ?_⟩
  simp only [laws_FnExactSbc.f, laws_toFlags.f, Option.bind_some, hs, hi, eqFlags_refl, if_true]

end Go.Proofs.Ytaeldfojleijbaa.Pure
