import Derived.Test.YtecccbecflbcfaaSKPureKtlDraw
import Derived.Test.YtecccbecflbcfaaSKPKtlx18
import Derived.Test.YtecccbecflbcfaaSKPKtlx13
namespace Go.Proofs.Ytecccbecflbcfaa.DrawKtl
open Go.RowKit Go.Proofs.Ytecccbecflbcfaa.PKtl Go.Proofs.Ytecccbecflbcfaa.Plain Go.Proofs.YtecccbecflbcfaaW.PrintWords Go.Proofs.YtecccbecflbcfaaW.PrintLast Go.Proofs.YtecccbecflbcfaaW.PrintMore
theorem pc_some {l : List Int} {i : Int} (h : At l i) (s : Int) : ∃ x i' s' : Int, spec_l04Pc.f l i s = some (x, i', s') ∧ At l i' := by
  obtain ⟨x, i1, s1, e1, a1, _⟩ := below_some h s 65536
  obtain ⟨y, i2, s2, e2, a2, _⟩ := pick_some a1 s1 [0, 255, 512, 4096, 32768, 65535, 65530, x] (by simp)
  simp only [spec_l04Pc.f, e1, e2, Option.bind_some]
  exact ⟨_, _, _, rfl, a2⟩
theorem cpu_some {l : List Int} {i : Int} (h : At l i) (s : Int) : ∃ (c0 c1 c2 c3 c4 : Int) (d0 d1 d2 d3 d4 d5 : Bool) (i' s' : Int), spec_l05Cpu.f l i s = some (c0, c1, c2, c3, c4, d0, d1, d2, d3, d4, d5, i', s') ∧ At l i' := by
  obtain ⟨x1, i1, s1, e1, _, _, a1⟩ := l02Byte_some h s
  obtain ⟨x2, i2, s2, e2, _, _, a2⟩ := l02Byte_some a1 s1
  obtain ⟨x3, i3, s3, e3, _, _, a3⟩ := l02Byte_some a2 s2
  obtain ⟨x4, i4, s4, e4, a4, _⟩ := pick_some a3 s3 [255, 253, 0, 1, 200] (by decide)
  obtain ⟨x5, i5, s5, e5, a5⟩ := pc_some a4 s4
  obtain ⟨b0, b1, b2, b3, b4, b5, i6, s6, e6, a6⟩ := l02Flags_some a5 s5
  simp only [spec_l05Cpu.f, e1, e2, e3, e4, e5, e6, Option.bind_some]
  exact ⟨_, _, _, _, _, _, _, _, _, _, _, _, _, rfl, a6⟩
theorem of_some (m : List Int) (h : m.length = 11) : ∃ x0 x1 x2 x3 x4 x5 x6 x7 x8 x9 x10 : Int, spec_l09Of.f m = some (x0, x1, x2, x3, x4, x5, x6, x7, x8, x9, x10) := by
  refine ⟨rd m 0, rd m 1, rd m 2, rd m 3, rd m 4, rd m 5, rd m 6, rd m 7, rd m 8, rd m 9, rd m 10, ?_⟩
  simp [spec_l09Of.f, h]
theorem know_some (c0 c1 c2 c3 c4 : Int) (d0 d1 d2 d3 d4 d5 : Bool) : ∃ x0 x1 x2 x3 x4 x5 x6 x7 x8 x9 x10 : Int, spec_KnowOf.f c0 c1 c2 c3 c4 d0 d1 d2 d3 d4 d5 = some (x0, x1, x2, x3, x4, x5, x6, x7, x8, x9, x10) := by
  have hb : ∀ c : Bool, ∃ t : Int, spec_l02Bit.f c 1 = some t := fun c => by cases c <;> exact ⟨_, rfl⟩
  obtain ⟨t0, h0⟩ := hb d0
  obtain ⟨t1, h1⟩ := hb d1
  obtain ⟨t2, h2⟩ := hb d2
  obtain ⟨t3, h3⟩ := hb d3
  obtain ⟨t4, h4⟩ := hb d4
  obtain ⟨t5, h5⟩ := hb d5
  obtain ⟨x0, x1, x2, x3, x4, x5, x6, x7, x8, x9, x10, hx⟩ := of_some [wrap64 c0, wrap64 c1, wrap64 c2, wrap64 c3, wrap64 c4, t0, t1, t2, t3, t4, t5] rfl
  refine ⟨x0, x1, x2, x3, x4, x5, x6, x7, x8, x9, x10, ?_⟩
  simp only [spec_KnowOf.f, h0, h1, h2, h3, h4, h5, Option.bind_some, hx]
theorem part_run (l : List Int) (n : Int) : ∀ (d i : Nat) (m : List Int) (c s : Int), m.length = 11 → i + d = 11 → At l c → ∃ (x0 x1 x2 x3 x4 x5 x6 x7 x8 x9 x10 c' s' : Int), (∀ k, d < k → spec_l09Part.l0 k m n (i : Int) l c s = some (x0, x1, x2, x3, x4, x5, x6, x7, x8, x9, x10, c', s')) ∧ At l c'
  | 0, i, m, c, s, hm, hd, hc => by
    obtain ⟨x0, x1, x2, x3, x4, x5, x6, x7, x8, x9, x10, hx⟩ := of_some m hm
    refine ⟨x0, x1, x2, x3, x4, x5, x6, x7, x8, x9, x10, c, s, fun k hk => ?_, hc⟩
    obtain ⟨k, rfl⟩ : ∃ j, k = j + 1 := ⟨k - 1, by omega⟩
    simp only [spec_l09Part.l0, hm]
    refine (if_neg (by omega)).trans ?_
    simp only [hx, Option.bind_some]
  | d + 1, i, m, c, s, hm, hd, hc => by
    obtain ⟨x, c1, s1, e1, a1, _⟩ := below_some hc s 5
    by_cases hx : x ≥ n
    · obtain ⟨x0, x1, x2, x3, x4, x5, x6, x7, x8, x9, x10, c', s', hr, ha⟩ := part_run l n d (i + 1) (m.set i (-1)) c1 s1 (by simpa using hm) (by omega) a1
      refine ⟨x0, x1, x2, x3, x4, x5, x6, x7, x8, x9, x10, c', s', fun k hk => ?_, ha⟩
      obtain ⟨k, rfl⟩ : ∃ j, k = j + 1 := ⟨k - 1, by omega⟩
      simp only [spec_l09Part.l0, hm]
      refine (if_pos (by omega)).trans ?_
      simp only [e1, Option.bind_some]
      refine (if_pos hx).trans ((if_pos (by omega)).trans ?_)
      rw [wsucc (by omega), set_int]
      exact hr k (by omega)
    · obtain ⟨x0, x1, x2, x3, x4, x5, x6, x7, x8, x9, x10, c', s', hr, ha⟩ := part_run l n d (i + 1) m c1 s1 hm (by omega) a1
      refine ⟨x0, x1, x2, x3, x4, x5, x6, x7, x8, x9, x10, c', s', fun k hk => ?_, ha⟩
      obtain ⟨k, rfl⟩ : ∃ j, k = j + 1 := ⟨k - 1, by omega⟩
      simp only [spec_l09Part.l0, hm]
      refine (if_pos (by omega)).trans ?_
      simp only [e1, Option.bind_some]
      refine (if_neg hx).trans ?_
      rw [wsucc (by omega)]
      exact hr k (by omega)
theorem any_some {l : List Int} {i : Int} (h : At l i) (s : Int) (c0 c1 c2 c3 c4 : Int) (d0 d1 d2 d3 d4 d5 : Bool) : ∃ (x0 x1 x2 x3 x4 x5 x6 x7 x8 x9 x10 c' s' : Int), (∀ k, 12 < k → spec_l09Any.f k l i s c0 c1 c2 c3 c4 d0 d1 d2 d3 d4 d5 = some (x0, x1, x2, x3, x4, x5, x6, x7, x8, x9, x10, c', s')) ∧ At l c' := by
  obtain ⟨k0, k1, k2, k3, k4, k5, k6, k7, k8, k9, k10, hk⟩ := know_some c0 c1 c2 c3 c4 d0 d1 d2 d3 d4 d5
  obtain ⟨x, q1, s1, e1, a1, _⟩ := below_some h s 4
  obtain ⟨p0, p1, p2, p3, p4, p5, p6, p7, p8, p9, p10, q2, s2, hp, a2⟩ := part_run l (wrap64 (1 + x)) 11 0 [k0, k1, k2, k3, k4, k5, k6, k7, k8, k9, k10] q1 s1 rfl rfl a1
  have hpart : ∀ k, 12 < k → spec_l09Part.f k l i s c0 c1 c2 c3 c4 d0 d1 d2 d3 d4 d5 = some (p0, p1, p2, p3, p4, p5, p6, p7, p8, p9, p10, q2, s2) := by
    intro k hk'
    simp only [spec_l09Part.f, hk, spec_l09List.f, Option.bind_some, e1]
    exact hp k (by omega)
  obtain ⟨b, q3, s3, e3, a3⟩ := once_some a2 s2 4
  cases b with
  | false =>
    obtain ⟨x0, x1, x2, x3, x4, x5, x6, x7, x8, x9, x10, hx⟩ := of_some [p0, p1, p2, p3, p4, p5, p6, p7, p8, p9, p10] rfl
    refine ⟨x0, x1, x2, x3, x4, x5, x6, x7, x8, x9, x10, q3, s3, fun k hk => ?_, a3⟩
    simp only [spec_l09Any.f, hpart k hk, spec_l09List.f, Option.bind_some, e3, hx]
    simp
  | true =>
    obtain ⟨j, q4, s4, e4, a4, _, hj, hj0⟩ := below_some a3 s3 11
    obtain ⟨v, q5, s5, e5, a5, _⟩ := pick_some a4 s4 [0, 1, 2, 255, 256, -2, 65536, 65535] (by decide)
    obtain ⟨x0, x1, x2, x3, x4, x5, x6, x7, x8, x9, x10, hx⟩ := of_some ([p0, p1, p2, p3, p4, p5, p6, p7, p8, p9, p10].set j.toNat v) (by simp)
    have hj2 := hj (by omega)
    refine ⟨x0, x1, x2, x3, x4, x5, x6, x7, x8, x9, x10, q5, s5, fun k hk => ?_, a5⟩
    simp only [spec_l09Any.f, hpart k hk, spec_l09List.f, Option.bind_some, e3, if_true, e4, e5]
    refine (if_pos hj0).trans ((if_pos (by simpa using hj2.2)).trans ?_)
    simp only [hx, Option.bind_some]
end Go.Proofs.Ytecccbecflbcfaa.DrawKtl
