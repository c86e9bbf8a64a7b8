import Derived.Test.YthdeemkhbajfgaaSUPUnitx0
import Derived.Test.YthdeemkhbajfgaaSUPUnitx2
import Derived.Test.YthdeemkhbajfgaaSUPUnitx3
import Derived.Test.YthdeemkhbajfgaaSUPUnitx8
import Derived.Test.YthdeemkhbajfgaaSUPUnitx9
import Derived.Test.YthdeemkhbajfgaaSUPUnitx16
import Derived.Test.YthdeemkhbajfgaaSUMyUnitLaw
namespace Go.Proofs.Ythdeemkhbajfgaa.PUnit
open Go.RowKit Go.Proofs.YthdeemkhbajfgaaW.PrintWords Go.Proofs.YthdeemkhbajfgaaW.PrintLast Go.Proofs.YthdeemkhbajfgaaW.PrintMore
attribute [local go_sem] max2_int min2_int max_two min_two max_three min_three max_four min_four   -- for this text's walks alone
attribute [local go_sem] Go.Proofs.Ythdeemkhbajfgaa.Cell2.cell_set_off Go.Proofs.Ythdeemkhbajfgaa.Cell2.set_drewN Go.Proofs.Ythdeemkhbajfgaa.Cell2.not_beq_bool
set_option linter.unusedVariables false
set_option linter.unusedSimpArgs false
def laws_FnExactUnitAt.f (k : Nat) (a0_0 : Int) (a0_1 : Int) (a0_2 : Int) (a0_3 : Int) (a0_4 : Int) (a0_5 : Bool) (a0_6 : Bool) (a0_7 : Bool) (a0_8 : Bool) (a0_9 : Bool) (a0_10 : Bool) (l0_11 : List Int) (l0_12 : List (S102)) (l0_13 : List Int) (l0_14 : List (S38)) (a0_15 : Bool) (a1 : Int) : Option (Bool) := (laws_szShot.f a0_0 a0_1 a0_2 a0_3 a0_4 a0_5 a0_6 a0_7 a0_8 a0_9 a0_10 l0_11 l0_12 l0_13 l0_14 a0_15 1048576).bind fun t223 => (if t223 < 0 then (some true) else ((laws_toShot.f k a0_0 a0_1 a0_2 a0_3 a0_4 a0_5 a0_6 a0_7 a0_8 a0_9 a0_10 l0_11 l0_12 l0_13 l0_14 a0_15).bind fun bt224 => ((spec_UnitAt.f k bt224.1 bt224.2.1 bt224.2.2.1 bt224.2.2.2.1 bt224.2.2.2.2.1 bt224.2.2.2.2.2.1 bt224.2.2.2.2.2.2.1 bt224.2.2.2.2.2.2.2.1 bt224.2.2.2.2.2.2.2.2.1 bt224.2.2.2.2.2.2.2.2.2.1 bt224.2.2.2.2.2.2.2.2.2.2.1 bt224.2.2.2.2.2.2.2.2.2.2.2.1 bt224.2.2.2.2.2.2.2.2.2.2.2.2.1 bt224.2.2.2.2.2.2.2.2.2.2.2.2.2.1 bt224.2.2.2.2.2.2.2.2.2.2.2.2.2.2.1 bt224.2.2.2.2.2.2.2.2.2.2.2.2.2.2.2 a1).bind fun t248 => ((laws_toShot.f k a0_0 a0_1 a0_2 a0_3 a0_4 a0_5 a0_6 a0_7 a0_8 a0_9 a0_10 l0_11 l0_12 l0_13 l0_14 a0_15).bind fun bt249 => ((impl_UnitAt.f k bt249.1 bt249.2.1 bt249.2.2.1 bt249.2.2.2.1 bt249.2.2.2.2.1 bt249.2.2.2.2.2.1 bt249.2.2.2.2.2.2.1 bt249.2.2.2.2.2.2.2.1 bt249.2.2.2.2.2.2.2.2.1 bt249.2.2.2.2.2.2.2.2.2.1 bt249.2.2.2.2.2.2.2.2.2.2.1 bt249.2.2.2.2.2.2.2.2.2.2.2.1 bt249.2.2.2.2.2.2.2.2.2.2.2.2.1 bt249.2.2.2.2.2.2.2.2.2.2.2.2.2.1 bt249.2.2.2.2.2.2.2.2.2.2.2.2.2.2.1 bt249.2.2.2.2.2.2.2.2.2.2.2.2.2.2.2 a1).bind fun t274 => (if t274 = t248 then ((laws_toShot.f k a0_0 a0_1 a0_2 a0_3 a0_4 a0_5 a0_6 a0_7 a0_8 a0_9 a0_10 l0_11 l0_12 l0_13 l0_14 a0_15).bind fun bt275 => ((laws_eqShot.f k bt249.1 bt249.2.1 bt249.2.2.1 bt249.2.2.2.1 bt249.2.2.2.2.1 bt249.2.2.2.2.2.1 bt249.2.2.2.2.2.2.1 bt249.2.2.2.2.2.2.2.1 bt249.2.2.2.2.2.2.2.2.1 bt249.2.2.2.2.2.2.2.2.2.1 bt249.2.2.2.2.2.2.2.2.2.2.1 bt249.2.2.2.2.2.2.2.2.2.2.2.1 bt249.2.2.2.2.2.2.2.2.2.2.2.2.1 bt249.2.2.2.2.2.2.2.2.2.2.2.2.2.1 bt249.2.2.2.2.2.2.2.2.2.2.2.2.2.2.1 bt249.2.2.2.2.2.2.2.2.2.2.2.2.2.2.2 bt275.1 bt275.2.1 bt275.2.2.1 bt275.2.2.2.1 bt275.2.2.2.2.1 bt275.2.2.2.2.2.1 bt275.2.2.2.2.2.2.1 bt275.2.2.2.2.2.2.2.1 bt275.2.2.2.2.2.2.2.2.1 bt275.2.2.2.2.2.2.2.2.2.1 bt275.2.2.2.2.2.2.2.2.2.2.1 bt275.2.2.2.2.2.2.2.2.2.2.2.1 bt275.2.2.2.2.2.2.2.2.2.2.2.2.1 bt275.2.2.2.2.2.2.2.2.2.2.2.2.2.1 bt275.2.2.2.2.2.2.2.2.2.2.2.2.2.2.1 bt275.2.2.2.2.2.2.2.2.2.2.2.2.2.2.2).bind fun t299 => (if t299 = true then (some true) else (some false)))) else (some false)))))))
set_option maxHeartbeats 2000000 in
set_option maxRecDepth 100000 in
theorem laws_FnExactUnitAt.calls (k : Nat) (a0_0 : Int) (a0_1 : Int) (a0_2 : Int) (a0_3 : Int) (a0_4 : Int) (a0_5 : Bool) (a0_6 : Bool) (a0_7 : Bool) (a0_8 : Bool) (a0_9 : Bool) (a0_10 : Bool) (A0_11 : Option Addr) (c0_11 : Nat) (l0_11 : List Int) (A0_12 : Option Addr) (c0_12 : Nat) (l0_12 : List (S102)) (A0_13 : Option Addr) (c0_13 : Nat) (l0_13 : List Int) (A0_14 : Option Addr) (c0_14 : Nat) (l0_14 : List (S38)) (a0_15 : Bool) (a1 : Int) (r : Bool) (hrt_ : Aside0 (r = true)) (w : World) (hr0_11 : Kd.C (Kd.int .u8) w A0_11 l0_11.length l0_11) (hc0_11 : l0_11.length ≤ c0_11) (hr0_12 : Kd.C k102 w A0_12 l0_12.length l0_12) (hc0_12 : l0_12.length ≤ c0_12) (hr0_13 : Kd.C (Kd.int .i64) w A0_13 l0_13.length l0_13) (hc0_13 : l0_13.length ≤ c0_13) (hr0_14 : Kd.C k38 w A0_14 l0_14.length l0_14) (hc0_14 : l0_14.length ≤ c0_14) (h : laws_FnExactUnitAt.f k a0_0 a0_1 a0_2 a0_3 a0_4 a0_5 a0_6 a0_7 a0_8 a0_9 a0_10 l0_11 l0_12 l0_13 l0_14 a0_15 a1 = some r) :
    Calls Try.prog 6 #[.agg #[.int .u8 a0_0, .int .u8 a0_1, .int .u8 a0_2, .int .u8 a0_3, .int .u16 a0_4, .bool a0_5, .bool a0_6, .bool a0_7, .bool a0_8, .bool a0_9, .bool a0_10, .slice A0_11 l0_11.length c0_11, .slice A0_12 l0_12.length c0_12, .slice A0_13 l0_13.length c0_13, .slice A0_14 l0_14.length c0_14, .bool a0_15], .int .i64 a1] w fun e w' => e = .returned (.bool r) ∧ Below w.heap.size w w' := by
  obtain rfl : r = true := hrt_.out
  simp only [laws_FnExactUnitAt.f] at h
  obtain ⟨z, hz, h1⟩ := Option.bind_eq_some_iff.mp h
  clear h
  have hsz : ∀ w1, Below w.heap.size w w1 → Calls Try.prog 26 #[.agg #[.int .u8 a0_0, .int .u8 a0_1, .int .u8 a0_2, .int .u8 a0_3, .int .u16 a0_4, .bool a0_5, .bool a0_6, .bool a0_7, .bool a0_8, .bool a0_9, .bool a0_10, .slice A0_11 l0_11.length c0_11, .slice A0_12 l0_12.length c0_12, .slice A0_13 l0_13.length c0_13, .slice A0_14 l0_14.length c0_14, .bool a0_15], .int .i64 1048576] w1 fun e w2 => e = .returned (.int .i64 z) ∧ Below w1.heap.size w1 w2 := fun w1 hb =>
    laws_szShot.calls a0_0 a0_1 a0_2 a0_3 a0_4 a0_5 a0_6 a0_7 a0_8 a0_9 a0_10 A0_11 c0_11 l0_11 A0_12 c0_12 l0_12 A0_13 c0_13 l0_13 A0_14 c0_14 l0_14 a0_15 1048576 z w1 (Kd.C_below hr0_11 hb) hc0_11 (Kd.C_below hr0_12 hb) hc0_12 (Kd.C_below hr0_13 hb) hc0_13 (Kd.C_below hr0_14 hb) hc0_14 hz
  by_cases c : z < 0
  · exact UnitLaw.large _ rfl a1 z c w hsz
  rw [if_neg c] at h1
  obtain ⟨⟨t0, t1, t2, t3, t4, t5, t6, t7, t8, t9, t10, t11, t12, t13, t14, t15⟩, ht, h2⟩ := Option.bind_eq_some_iff.mp h1
  clear h1
  simp only [ht, Option.bind_some] at h2
  obtain ⟨g, hg, h3⟩ := Option.bind_eq_some_iff.mp h2
  clear h2
  obtain ⟨g2, hg2, h4⟩ := Option.bind_eq_some_iff.mp h3
  clear h3
  by_cases cg : g2 = g
  rotate_left
  · rw [if_neg cg] at h4; exact absurd (Option.some.inj h4) (by decide)
  rw [if_pos cg] at h4
  subst cg
  obtain ⟨b, hbq, h5⟩ := Option.bind_eq_some_iff.mp h4
  cases b with
  | false => rw [if_neg (by decide)] at h5; exact absurd (Option.some.inj h5) (by decide)
  | true =>
  clear h4 h5
  refine UnitLaw.small _ rfl a1 z g2 c w (fun w1 ds => ∃ v11 v12 v13 v14 : Value, ds = #[.int .u8 t0, .int .u8 t1, .int .u8 t2, .int .u8 t3, .int .u16 t4, .bool t5, .bool t6, .bool t7, .bool t8, .bool t9, .bool t10, v11, v12, v13, v14, .bool t15] ∧ Kd.R (Kd.int .u8) 5 w1 0 (fun _ => True) v11 t11 ∧ Kd.R k100 100 w1 0 (fun _ => True) v12 t12 ∧ Kd.R (Kd.int .i64) 3 w1 0 (fun _ => True) v13 t13 ∧ Kd.R k42 42 w1 0 (fun _ => True) v14 t14) ?_ ?_ hsz ?_ ?_ ?_ ?_
  · rintro w1 w2 ds ⟨v11, v12, v13, v14, rfl, g11, g12, g13, g14⟩ hb
    exact ⟨v11, v12, v13, v14, rfl, Kd.R_below g11 hb, Kd.R_below g12 hb, Kd.R_below g13 hb, Kd.R_below g14 hb⟩
  · rintro w1 ds ⟨v11, v12, v13, v14, rfl, g11, g12, g13, g14⟩
    obtain ⟨A11, c11, rfl, q11, s11⟩ := Kd.R_reads g11
    obtain ⟨A12, c12, rfl, q12, s12⟩ := Kd.R_reads g12
    obtain ⟨A13, c13, rfl, q13, s13⟩ := Kd.R_reads g13
    obtain ⟨A14, c14, rfl, q14, s14⟩ := Kd.R_reads g14
    exact ⟨rfl, by first | (simp [Value.oneCell']; done) | (simp; done) | decide⟩
  · intro w1 hb
    refine (laws_toShot.calls k a0_0 a0_1 a0_2 a0_3 a0_4 a0_5 a0_6 a0_7 a0_8 a0_9 a0_10 A0_11 c0_11 l0_11 A0_12 c0_12 l0_12 A0_13 c0_13 l0_13 A0_14 c0_14 l0_14 a0_15 t0 t1 t2 t3 t4 t5 t6 t7 t8 t9 t10 t11 t12 t13 t14 t15 w1 (Kd.C_below hr0_11 hb) hc0_11 (Kd.C_below hr0_12 hb) hc0_12 (Kd.C_below hr0_13 hb) hc0_13 (Kd.C_below hr0_14 hb) hc0_14 ht).mono ?_
    rintro e w2 ⟨v11, v12, v13, v14, rfl, g11, g12, g13, g14, hb2⟩
    exact ⟨_, rfl, ⟨v11, v12, v13, v14, rfl, Kd.R_lower g11 (Nat.zero_le _), Kd.R_lower g12 (Nat.zero_le _), Kd.R_lower g13 (Nat.zero_le _), Kd.R_lower g14 (Nat.zero_le _)⟩, hb2⟩
  · rintro w1 ds ⟨v11, v12, v13, v14, rfl, g11, g12, g13, g14⟩
    obtain ⟨A11, c11, rfl, q11, s11⟩ := Kd.R_reads g11
    obtain ⟨A12, c12, rfl, q12, s12⟩ := Kd.R_reads g12
    obtain ⟨A13, c13, rfl, q13, s13⟩ := Kd.R_reads g13
    obtain ⟨A14, c14, rfl, q14, s14⟩ := Kd.R_reads g14
    exact spec_UnitAt.calls k t0 t1 t2 t3 t4 t5 t6 t7 t8 t9 t10 A11 c11 t11 A12 c12 t12 A13 c13 t13 A14 c14 t14 t15 a1 g2 w1 s11 q11 s12 q12 s13 q13 s14 q14 hg
  · rintro w1 ds ⟨v11, v12, v13, v14, rfl, g11, g12, g13, g14⟩
    obtain ⟨A11, c11, rfl, q11, s11⟩ := Kd.R_reads g11
    obtain ⟨A12, c12, rfl, q12, s12⟩ := Kd.R_reads g12
    obtain ⟨A13, c13, rfl, q13, s13⟩ := Kd.R_reads g13
    obtain ⟨A14, c14, rfl, q14, s14⟩ := Kd.R_reads g14
    exact impl_UnitAt.calls k t0 t1 t2 t3 t4 t5 t6 t7 t8 t9 t10 A11 c11 t11 A12 c12 t12 A13 c13 t13 A14 c14 t14 t15 a1 g2 w1 s11 q11 s12 q12 s13 q13 s14 q14 hg2
  · rintro w1 ds es ⟨v11, v12, v13, v14, rfl, g11, g12, g13, g14⟩ ⟨v21, v22, v23, v24, rfl, f11, f12, f13, f14⟩
    obtain ⟨A11, c11, rfl, q11, s11⟩ := Kd.R_reads g11
    obtain ⟨A12, c12, rfl, q12, s12⟩ := Kd.R_reads g12
    obtain ⟨A13, c13, rfl, q13, s13⟩ := Kd.R_reads g13
    obtain ⟨A14, c14, rfl, q14, s14⟩ := Kd.R_reads g14
    obtain ⟨B11, e11, rfl, p11, u11⟩ := Kd.R_reads f11
    obtain ⟨B12, e12, rfl, p12, u12⟩ := Kd.R_reads f12
    obtain ⟨B13, e13, rfl, p13, u13⟩ := Kd.R_reads f13
    obtain ⟨B14, e14, rfl, p14, u14⟩ := Kd.R_reads f14
    exact laws_eqShot.calls k t0 t1 t2 t3 t4 t5 t6 t7 t8 t9 t10 A11 c11 t11 A12 c12 t12 A13 c13 t13 A14 c14 t14 t15 t0 t1 t2 t3 t4 t5 t6 t7 t8 t9 t10 B11 e11 t11 B12 e12 t12 B13 e13 t13 B14 e14 t14 t15 true w1 s11 q11 s12 q12 s13 q13 s14 q14 u11 p11 u12 p12 u13 p13 u14 p14 hbq
end Go.Proofs.Ythdeemkhbajfgaa.PUnit
