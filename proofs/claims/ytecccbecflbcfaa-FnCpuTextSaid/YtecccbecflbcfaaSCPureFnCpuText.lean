import Derived.Test.YtecccbecflbcfaaSCPureKtlCpu
import Derived.Test.YtecccbecflbcfaaSCPureKtlDraw
import Derived.Test.YtecccbecflbcfaaSCPKtlx0
import Derived.Test.YtecccbecflbcfaaSCPKtlx10
import Derived.Test.YtecccbecflbcfaaSCPKtlx11
import Derived.Test.YtecccbecflbcfaaSCPKtlx13
import Derived.Test.YtecccbecflbcfaaSCPKtlx24
import Derived.Test.YtecccbecflbcfaaSCPKtlx25
namespace Go.Proofs.Ytecccbecflbcfaa.Pure
open Go.RowKit Go.Proofs.Ytecccbecflbcfaa.PKtl Go.Proofs.Ytecccbecflbcfaa.Plain Go.Proofs.Ytecccbecflbcfaa.Str Go.Proofs.Ytecccbecflbcfaa.HexKtl Go.Proofs.Ytecccbecflbcfaa.Know Go.Proofs.YtecccbecflbcfaaW.PrintWords Go.Proofs.YtecccbecflbcfaaW.PrintLast Go.Proofs.YtecccbecflbcfaaW.PrintMore
open Go.Proofs.Ytecccbecflbcfaa.DrawKtl
theorem u16_rng (z : Int) : 0 ≤ IntKind.u16.wrap z ∧ IntKind.u16.wrap z ≤ 65535 := by
  have : IntKind.u16.wrap z = z % 65536 := by first | rfl | simp [IntKind.wrap]
  omega
theorem pc_bnd {l : List Int} {i : Int} (h : At l i) (s : Int) : ∃ x i' s' : Int, spec_l04Pc.f l i s = some (x, i', s') ∧ 0 ≤ x ∧ x ≤ 65535 ∧ At l i' := by
  obtain ⟨x, i1, s1, e1, a1, _⟩ := below_some h s 65536
  obtain ⟨y, i2, s2, e2, a2, _⟩ := pick_some a1 s1 [0, 255, 512, 4096, 32768, 65535, 65530, x] (by simp)
  simp only [spec_l04Pc.f, e1, e2, Option.bind_some]
  exact ⟨_, _, _, rfl, (u16_rng y).1, (u16_rng y).2, a2⟩
theorem cpu_bnd {l : List Int} {i : Int} (h : At l i) (s0 : Int) : ∃ (a x y s p : Nat) (b0 b1 b2 b3 b4 b5 : Bool) (i' s' : Int), spec_l05Cpu.f l i s0 = some ((a : Int), (x : Int), (y : Int), (s : Int), (p : Int), b0, b1, b2, b3, b4, b5, i', s') ∧ a ≤ 255 ∧ x ≤ 255 ∧ y ≤ 255 ∧ s ≤ 255 ∧ p ≤ 65535 := by
  obtain ⟨x1, i1, s1, e1, u1, v1, a1⟩ := l02Byte_some h s0
  obtain ⟨x2, i2, s2, e2, u2, v2, a2⟩ := l02Byte_some a1 s1
  obtain ⟨x3, i3, s3, e3, u3, v3, a3⟩ := l02Byte_some a2 s2
  obtain ⟨x4, i4, s4, e4, a4, _⟩ := pick_some a3 s3 [255, 253, 0, 1, 200] (by decide)
  obtain ⟨x5, i5, s5, e5, u5, v5, a5⟩ := pc_bnd a4 s4
  obtain ⟨b0, b1, b2, b3, b4, b5, i6, s6, e6, a6⟩ := l02Flags_some a5 s5
  refine ⟨x1.toNat, x2.toNat, x3.toNat, (x4 % 256).toNat, x5.toNat, b0, b1, b2, b3, b4, b5, i6, s6, ?_, by omega, by omega, by omega, by omega, by omega⟩
  rw [Int.toNat_of_nonneg u1, Int.toNat_of_nonneg u2, Int.toNat_of_nonneg u3, Int.toNat_of_nonneg (by omega), Int.toNat_of_nonneg u5]
  simp only [spec_l05Cpu.f, e1, e2, e3, e4, e5, e6, Option.bind_some]
theorem digC_nat (n d : Nat) : digC (n : Int) d = hexL n d := by
  unfold digC
  rw [if_neg (by omega), Int.toNat_natCast]
theorem cpu_ktext (a x y s p : Nat) (b0 b1 b2 b3 b4 b5 : Bool) : S (cpuL a x y s p (flagU b0 b1 b2 b3 b4 b5)) = ktext (a : Int) (x : Int) (y : Int) (s : Int) (p : Int) (if b0 = true then (1 : Int) else 0) (if b1 = true then (1 : Int) else 0) (if b2 = true then (1 : Int) else 0) (if b3 = true then (1 : Int) else 0) (if b4 = true then (1 : Int) else 0) (if b5 = true then (1 : Int) else 0) := by
  rw [ktext_S]
  unfold cpuL kl
  simp only [digC_nat]
  have hm : flagU b0 b1 b2 b3 b4 b5 = [mkU 0 (if b0 = true then (1 : Int) else 0), mkU 1 (if b1 = true then (1 : Int) else 0), mkU 2 (if b2 = true then (1 : Int) else 0), mkU 3 (if b3 = true then (1 : Int) else 0), mkU 4 (if b4 = true then (1 : Int) else 0), mkU 5 (if b5 = true then (1 : Int) else 0)] := by
    unfold flagU
    cases b0 <;> cases b1 <;> cases b2 <;> cases b3 <;> cases b4 <;> cases b5 <;> rfl
  rw [hm]
theorem cpu_all (a x y s p : Nat) (b0 b1 b2 b3 b4 b5 : Bool) (ha : a ≤ 255) (hx : x ≤ 255) (hy : y ≤ 255) (hs : s ≤ 255) (hp : p ≤ 65535) : (List.range 11).all (okAt (ints (a : Int) (x : Int) (y : Int) (s : Int) (p : Int) (if b0 = true then (1 : Int) else 0) (if b1 = true then (1 : Int) else 0) (if b2 = true then (1 : Int) else 0) (if b3 = true then (1 : Int) else 0) (if b4 = true then (1 : Int) else 0) (if b5 = true then (1 : Int) else 0))) = true := by
  refine List.all_eq_true.mpr (fun i hi => ?_)
  have hi := List.mem_range.1 hi
  have hb : ∀ b : Bool, -1 ≤ (if b = true then (1 : Int) else 0) ∧ (if b = true then (1 : Int) else 0) ≤ 1 := fun b => by cases b <;> decide
  rcases i with _|_|_|_|_|_|_|_|_|_|_|i
  · exact Bool.and_eq_true_iff.mpr ⟨decide_eq_true (show -1 ≤ (a : Int) by omega), decide_eq_true (show (a : Int) ≤ 255 by omega)⟩
  · exact Bool.and_eq_true_iff.mpr ⟨decide_eq_true (show -1 ≤ (x : Int) by omega), decide_eq_true (show (x : Int) ≤ 255 by omega)⟩
  · exact Bool.and_eq_true_iff.mpr ⟨decide_eq_true (show -1 ≤ (y : Int) by omega), decide_eq_true (show (y : Int) ≤ 255 by omega)⟩
  · exact Bool.and_eq_true_iff.mpr ⟨decide_eq_true (show -1 ≤ (s : Int) by omega), decide_eq_true (show (s : Int) ≤ 255 by omega)⟩
  · exact Bool.and_eq_true_iff.mpr ⟨decide_eq_true (show -1 ≤ (p : Int) by omega), decide_eq_true (show (p : Int) ≤ 65535 by omega)⟩
  · exact Bool.and_eq_true_iff.mpr ⟨decide_eq_true (hb b0).1, decide_eq_true (hb b0).2⟩
  · exact Bool.and_eq_true_iff.mpr ⟨decide_eq_true (hb b1).1, decide_eq_true (hb b1).2⟩
  · exact Bool.and_eq_true_iff.mpr ⟨decide_eq_true (hb b2).1, decide_eq_true (hb b2).2⟩
  · exact Bool.and_eq_true_iff.mpr ⟨decide_eq_true (hb b3).1, decide_eq_true (hb b3).2⟩
  · exact Bool.and_eq_true_iff.mpr ⟨decide_eq_true (hb b4).1, decide_eq_true (hb b4).2⟩
  · exact Bool.and_eq_true_iff.mpr ⟨decide_eq_true (hb b5).1, decide_eq_true (hb b5).2⟩
  · omega
theorem read_cpu (a x y s p : Nat) (b0 b1 b2 b3 b4 b5 : Bool) (ha : a ≤ 255) (hx : x ≤ 255) (hy : y ≤ 255) (hs : s ≤ 255) (hp : p ≤ 65535) (k : Nat) (hk : 20 < k) : impl_ReadCpu.f k (S (cpuL a x y s p (flagU b0 b1 b2 b3 b4 b5))) = some ((a : Int), (x : Int), (y : Int), (s : Int), (p : Int), b0, b1, b2, b3, b4, b5, true) := by
  have hr := read_ktext (a : Int) (x : Int) (y : Int) (s : Int) (p : Int) (if b0 = true then (1 : Int) else 0) (if b1 = true then (1 : Int) else 0) (if b2 = true then (1 : Int) else 0) (if b3 = true then (1 : Int) else 0) (if b4 = true then (1 : Int) else 0) (if b5 = true then (1 : Int) else 0) (cpu_all a x y s p b0 b1 b2 b3 b4 b5 ha hx hy hs hp) k (by omega)
  rw [← cpu_ktext] at hr
  have hc := impl_cpu a x y s p b0 b1 b2 b3 b4 b5 ha hx hy hs hp k hk
  have hb : ∀ b : Bool, ((if b = true then (1 : Int) else 0) == 1) = b := fun b => by cases b <;> rfl
  have m1 : (a : Int) % 256 = a := by omega
  have m2 : (x : Int) % 256 = x := by omega
  have m3 : (y : Int) % 256 = y := by omega
  have m4 : (s : Int) % 256 = s := by omega
  have m5 : IntKind.u16.wrap (p : Int) = p := by
    have : IntKind.u16.wrap (p : Int) = (p : Int) % 65536 := by first | rfl | simp [IntKind.wrap]
    omega
  unfold impl_ReadCpu.f
  rw [hr, Option.bind_some, if_pos rfl]
  simp only [hb, m1, m2, m3, m4, m5]
  rw [hc, Option.bind_some, if_pos rfl]
theorem fnct_ok (k : Nat) (l : List Int) (a x y s p : Int) (b0 b1 b2 b3 b4 b5 : Bool) (t : ByteArray) (hg : laws_big.f l = some false) (hd : spec_DrawCpuText.f k l = some (a, x, y, s, p, b0, b1, b2, b3, b4, b5)) (ht : impl_CpuText.f k a x y s p b0 b1 b2 b3 b4 b5 = some t) (hr : impl_ReadCpu.f k t = some (a, x, y, s, p, b0, b1, b2, b3, b4, b5, true)) : laws_FnCpuText.f k l = some true := by
  unfold laws_FnCpuText.f
  rw [hg, Option.bind_some, if_neg (by simp), hd, Option.bind_some, ht, Option.bind_some, hr, Option.bind_some, if_pos rfl]
  simp
theorem FnCpuText : ∀ (l0_0 : List (Int)), l0_0.length ≤ maxLen → (∀ x ∈ l0_0, (Lit.int .u8 x).wf = true) → ∃ k, laws_FnCpuText.f k l0_0 = some true := by
  intro l hm hw
  by_cases h : l.length ≤ 1048576
  · obtain ⟨s, hs⟩ := new_some l h
    have p0 : At l 0 := ⟨by omega, by omega, h⟩
    obtain ⟨a, x, y, s5, p, b0, b1, b2, b3, b4, b5, i1, s1, e1, h1, h2, h3, h4, h5⟩ := cpu_bnd p0 s
    obtain ⟨k, hk⟩ : ∃ k : Nat, 4100 < k := ⟨4101, by omega⟩
    have hd : spec_DrawCpuText.f k l = some ((a : Int), (x : Int), (y : Int), (s5 : Int), (p : Int), b0, b1, b2, b3, b4, b5) := by
      unfold spec_DrawCpuText.f
      rw [hs k (by omega), Option.bind_some]
      show (spec_l05Cpu.f l 0 s).bind _ = _
      rw [e1, Option.bind_some]
    exact ⟨k, fnct_ok k l a x y s5 p b0 b1 b2 b3 b4 b5 _ (big_small h) hd (impl_cpu a x y s5 p b0 b1 b2 b3 b4 b5 h1 h2 h3 h4 h5 k (by omega)) (read_cpu a x y s5 p b0 b1 b2 b3 b4 b5 h1 h2 h3 h4 h5 k (by omega))⟩
  · refine ⟨1, ?_⟩
    unfold laws_FnCpuText.f
    rw [big_big h, Option.bind_some, if_pos rfl]
end Go.Proofs.Ytecccbecflbcfaa.Pure
