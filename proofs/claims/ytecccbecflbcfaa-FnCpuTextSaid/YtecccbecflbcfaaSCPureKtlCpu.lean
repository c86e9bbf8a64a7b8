import Derived.Test.YtecccbecflbcfaaSCPureKtlRead
import Derived.Test.YtecccbecflbcfaaSCMyKtlFlagsText
import Derived.Test.YtecccbecflbcfaaSCMyKtlDJoin
import Derived.Test.YtecccbecflbcfaaSCPKtlx23
namespace Go.Proofs.Ytecccbecflbcfaa.Pure
open Go.RowKit Go.Proofs.Ytecccbecflbcfaa.PKtl Go.Proofs.Ytecccbecflbcfaa.Plain Go.Proofs.Ytecccbecflbcfaa.Str Go.Proofs.Ytecccbecflbcfaa.HexKtl Go.Proofs.Ytecccbecflbcfaa.Know Go.Proofs.YtecccbecflbcfaaW.PrintWords Go.Proofs.YtecccbecflbcfaaW.PrintLast Go.Proofs.YtecccbecflbcfaaW.PrintMore
def flagU (b0 b1 b2 b3 b4 b5 : Bool) : List UInt8 := [if b0 = true then 78 else 45, if b1 = true then 86 else 45, if b2 = true then 68 else 45, if b3 = true then 73 else 45, if b4 = true then 90 else 45, if b5 = true then 67 else 45]
theorem flagU_length (b0 b1 b2 b3 b4 b5 : Bool) : (flagU b0 b1 b2 b3 b4 b5).length = 6 := rfl
theorem impl_flags (b0 b1 b2 b3 b4 b5 : Bool) : impl_flagsText.f b0 b1 b2 b3 b4 b5 = some (S (flagU b0 b1 b2 b3 b4 b5)) := by
  cases b0 <;> cases b1 <;> cases b2 <;> cases b3 <;> cases b4 <;> cases b5 <;> rfl
def cpuL (a x y s p : Nat) (f : List UInt8) : List UInt8 := [65, 61] ++ hexL a 2 ++ [32, 88, 61] ++ hexL x 2 ++ [32, 89, 61] ++ hexL y 2 ++ [32, 83, 61] ++ hexL s 2 ++ [32, 80, 67, 61] ++ hexL p 4 ++ [32] ++ f
theorem hexI (v : Nat) (hv : v ≤ 65535) (d : Nat) (h1 : 1 ≤ d) (h8 : d ≤ 8) (k : Nat) (hk : 10 < k) : impl_HexText.f k (wrap64 (v : Int)) (d : Int) = some (S (hexL v d)) := by
  rw [w64 (by omega) (by omega)]; exact implHex_eq v (by omega) d h1 h8 k (by omega)
theorem cpu_f (k : Nat) (a x y s p : Int) (b0 b1 b2 b3 b4 b5 : Bool) : impl_CpuText.f k a x y s p b0 b1 b2 b3 b4 b5 = impl_CpuText.l0 k [] [a, x, y, s] 4 0 a x y s p b0 b1 b2 b3 b4 b5 := rfl
theorem cpu_last (k : Nat) (hk : 11 ≤ k) (W0 W1 W2 W3 : ByteArray) (vs : List Int) (z0 z1 z2 z3 : Int) (p : Nat) (hp : p ≤ 65535) (b0 b1 b2 b3 b4 b5 : Bool) : impl_CpuText.l0 (k + 1) [W0, W1, W2, W3] vs 4 4 z0 z1 z2 z3 (p : Int) b0 b1 b2 b3 b4 b5 = strings_Join.f [W0, W1, W2, W3, S ([80, 67, 61] ++ hexL p 4), S (flagU b0 b1 b2 b3 b4 b5)] (S [32]) := by
  have e5 := hexI p (by omega) 4 (by omega) (by omega) k (by omega)
  rw [show ((4 : Nat) : Int) = 4 from rfl] at e5
  have l5 := hexL_length p 4
  have f6 := impl_flags b0 b1 b2 b3 b4 b5
  have q2 : (⟨#[80, 67, 61]⟩ : ByteArray) = S [80, 67, 61] := rfl
  have q3 : (⟨#[32]⟩ : ByteArray) = S [32] := rfl
  generalize hexL p 4 = P at e5 l5 ⊢
  generalize S (flagU b0 b1 b2 b3 b4 b5) = F at f6 ⊢
  simp only [impl_CpuText.l0]
  rw [if_neg (by omega), e5]
  simp only [Option.bind_some]
  rw [if_pos (by rw [S_size, l5]; simp), f6, q2, S_append, q3]
  simp only [Option.bind_some, List.length_cons, List.length_nil]
  rw [if_pos (by omega)]
  have hh : ∀ r : Option ByteArray, (r.bind fun t => some t) = r := fun r => by cases r <;> rfl
  rw [hh]
  rfl
theorem cut4 (i : Nat) (c : UInt8) (h : (([65, 88, 89, 83] : List UInt8).drop i).take 1 = [c]) : (⟨#[65, 88, 89, 83]⟩ : ByteArray).extract ((i : Int)).toNat (((i + 1 : Nat) : Int)).toNat = S [c] := by
  rw [show (⟨#[65, 88, 89, 83]⟩ : ByteArray) = S [65, 88, 89, 83] from rfl, S_extract, Int.toNat_natCast, Int.toNat_natCast, show i + 1 - i = 1 by omega, h]
theorem cpu_step (k : Nat) (hk : 11 ≤ k) (ws : List ByteArray) (hws : ws.length ≤ 10) (vs : List Int) (hvs : vs.length = 4) (i : Nat) (hi : i < 4) (v : Nat) (hv : v ≤ 255) (hrd : rd vs (i : Int) = (v : Int)) (c : UInt8) (hcut : (⟨#[65, 88, 89, 83]⟩ : ByteArray).extract ((i : Int)).toNat (((i + 1 : Nat) : Int)).toNat = S [c]) (z0 z1 z2 z3 z4 : Int) (b0 b1 b2 b3 b4 b5 : Bool) :
    impl_CpuText.l0 (k + 1) ws vs 4 (i : Int) z0 z1 z2 z3 z4 b0 b1 b2 b3 b4 b5 = impl_CpuText.l0 k (ws ++ [S ([c] ++ [61] ++ hexL v 2)]) vs 4 ((i + 1 : Nat) : Int) z0 z1 z2 z3 z4 b0 b1 b2 b3 b4 b5 := by
  have q1 : (⟨#[61]⟩ : ByteArray) = S [61] := rfl
  have e1 := hexI v (by omega) 2 (by omega) (by omega) k (by omega)
  rw [show ((2 : Nat) : Int) = 2 from rfl] at e1
  have l1 := hexL_length v 2
  simp only [impl_CpuText.l0]
  rw [if_pos (by omega), if_pos (by omega), if_pos (by omega), wsucc (by omega), if_pos (by omega), if_pos (by omega), hcut, q1, S_append, if_pos (by rw [S_size]; simp), hrd, e1]
  simp only [Option.bind_some]
  rw [if_pos (by rw [S_size, S_size, l1]; simp), if_pos (by omega), S_append]
theorem cpu_stepI (k : Nat) (hk : 11 ≤ k) (ws : List ByteArray) (hws : ws.length ≤ 10) (vs : List Int) (hvs : vs.length = 4) (i1 i2 : Int) (i : Nat) (h1 : i1 = (i : Int)) (h2 : i2 = ((i + 1 : Nat) : Int)) (hi : i < 4) (v : Nat) (hv : v ≤ 255) (hrd : rd vs (i : Int) = (v : Int)) (c : UInt8) (hcut : (⟨#[65, 88, 89, 83]⟩ : ByteArray).extract ((i : Int)).toNat (((i + 1 : Nat) : Int)).toNat = S [c]) (z0 z1 z2 z3 z4 : Int) (b0 b1 b2 b3 b4 b5 : Bool) :
    impl_CpuText.l0 (k + 1) ws vs 4 i1 z0 z1 z2 z3 z4 b0 b1 b2 b3 b4 b5 = impl_CpuText.l0 k (ws ++ [S ([c] ++ [61] ++ hexL v 2)]) vs 4 i2 z0 z1 z2 z3 z4 b0 b1 b2 b3 b4 b5 := by
  rw [h1, h2]
  exact cpu_step k hk ws hws vs hvs i hi v hv hrd c hcut z0 z1 z2 z3 z4 b0 b1 b2 b3 b4 b5
theorem impl_cpu (a x y s p : Nat) (b0 b1 b2 b3 b4 b5 : Bool) (ha : a ≤ 255) (hx : x ≤ 255) (hy : y ≤ 255) (hs : s ≤ 255) (hp : p ≤ 65535) (k : Nat) (hk : 20 < k) : impl_CpuText.f k (a : Int) (x : Int) (y : Int) (s : Int) (p : Int) b0 b1 b2 b3 b4 b5 = some (S (cpuL a x y s p (flagU b0 b1 b2 b3 b4 b5))) := by
  obtain ⟨k, rfl⟩ : ∃ j, k = j + 1 + 1 + 1 + 1 + 1 := ⟨k - 5, by omega⟩
  have e1 := hexI a (by omega) 2 (by omega) (by omega) (k + 1 + 1 + 1 + 1) (by omega)
  have e2 := hexI x (by omega) 2 (by omega) (by omega) (k + 1 + 1 + 1) (by omega)
  have e3 := hexI y (by omega) 2 (by omega) (by omega) (k + 1 + 1) (by omega)
  have e4 := hexI s (by omega) 2 (by omega) (by omega) (k + 1) (by omega)
  have e5 := hexI p (by omega) 4 (by omega) (by omega) k (by omega)
  simp only [show ((2 : Nat) : Int) = 2 from rfl, show ((4 : Nat) : Int) = 4 from rfl] at e1 e2 e3 e4 e5
  have l1 := hexL_length a 2
  have l2 := hexL_length x 2
  have l3 := hexL_length y 2
  have l4 := hexL_length s 2
  have l5 := hexL_length p 4
  have l6 := flagU_length b0 b1 b2 b3 b4 b5
  have f6 := impl_flags b0 b1 b2 b3 b4 b5
  unfold cpuL
  have q1 : (⟨#[61]⟩ : ByteArray) = S [61] := rfl
  have q2 : (⟨#[80, 67, 61]⟩ : ByteArray) = S [80, 67, 61] := rfl
  have q3 : (⟨#[32]⟩ : ByteArray) = S [32] := rfl
  have hj : ∀ A X Y Z P F : List UInt8, A.length = 2 → X.length = 2 → Y.length = 2 → Z.length = 2 → P.length = 4 → F.length = 6 → strings_Join.f [S ([65] ++ [61] ++ A), S ([88] ++ [61] ++ X), S ([89] ++ [61] ++ Y), S ([83] ++ [61] ++ Z), S ([80, 67, 61] ++ P), S F] (S [32]) = some (S ([65, 61] ++ A ++ [32, 88, 61] ++ X ++ [32, 89, 61] ++ Y ++ [32, 83, 61] ++ Z ++ [32, 80, 67, 61] ++ P ++ [32] ++ F)) := by
    intro A X Y Z P F l1 l2 l3 l4 l5 l6
    have hd : ∀ l : List UInt8, (S l).data.toList = l := fun l => by simp [S]
    simp only [strings_Join.f, List.map_cons, List.map_nil, hd, Lib.join_cons, Lib.joinTail, List.length_cons, List.length_nil, Nat.reduceAdd, Nat.reduceLeDiff, if_true]
    rw [if_pos (by simp [l1, l2, l3, l4, l5, l6])]
    simp [S]
  rw [cpu_f]
  have s0 : impl_CpuText.l0 (k + 1 + 1 + 1 + 1 + 1) [] [(a : Int), (x : Int), (y : Int), (s : Int)] 4 0 (a : Int) (x : Int) (y : Int) (s : Int) (p : Int) b0 b1 b2 b3 b4 b5 = impl_CpuText.l0 (k + 1 + 1 + 1 + 1) [S ([65] ++ [61] ++ hexL a 2)] [(a : Int), (x : Int), (y : Int), (s : Int)] 4 1 (a : Int) (x : Int) (y : Int) (s : Int) (p : Int) b0 b1 b2 b3 b4 b5 := cpu_stepI _ (by omega) [] (by simp) _ rfl 0 1 0 rfl rfl (by omega) a ha rfl 65 (cut4 0 65 rfl) _ _ _ _ _ _ _ _ _ _ _
  have s1 : impl_CpuText.l0 (k + 1 + 1 + 1 + 1) [S ([65] ++ [61] ++ hexL a 2)] [(a : Int), (x : Int), (y : Int), (s : Int)] 4 1 (a : Int) (x : Int) (y : Int) (s : Int) (p : Int) b0 b1 b2 b3 b4 b5 = impl_CpuText.l0 (k + 1 + 1 + 1) [S ([65] ++ [61] ++ hexL a 2), S ([88] ++ [61] ++ hexL x 2)] [(a : Int), (x : Int), (y : Int), (s : Int)] 4 2 (a : Int) (x : Int) (y : Int) (s : Int) (p : Int) b0 b1 b2 b3 b4 b5 := cpu_stepI _ (by omega) [S ([65] ++ [61] ++ hexL a 2)] (by simp) _ rfl 1 2 1 rfl rfl (by omega) x hx rfl 88 (cut4 1 88 rfl) _ _ _ _ _ _ _ _ _ _ _
  have s2 : impl_CpuText.l0 (k + 1 + 1 + 1) [S ([65] ++ [61] ++ hexL a 2), S ([88] ++ [61] ++ hexL x 2)] [(a : Int), (x : Int), (y : Int), (s : Int)] 4 2 (a : Int) (x : Int) (y : Int) (s : Int) (p : Int) b0 b1 b2 b3 b4 b5 = impl_CpuText.l0 (k + 1 + 1) [S ([65] ++ [61] ++ hexL a 2), S ([88] ++ [61] ++ hexL x 2), S ([89] ++ [61] ++ hexL y 2)] [(a : Int), (x : Int), (y : Int), (s : Int)] 4 3 (a : Int) (x : Int) (y : Int) (s : Int) (p : Int) b0 b1 b2 b3 b4 b5 := cpu_stepI _ (by omega) [S ([65] ++ [61] ++ hexL a 2), S ([88] ++ [61] ++ hexL x 2)] (by simp) _ rfl 2 3 2 rfl rfl (by omega) y hy rfl 89 (cut4 2 89 rfl) _ _ _ _ _ _ _ _ _ _ _
  have s3 : impl_CpuText.l0 (k + 1 + 1) [S ([65] ++ [61] ++ hexL a 2), S ([88] ++ [61] ++ hexL x 2), S ([89] ++ [61] ++ hexL y 2)] [(a : Int), (x : Int), (y : Int), (s : Int)] 4 3 (a : Int) (x : Int) (y : Int) (s : Int) (p : Int) b0 b1 b2 b3 b4 b5 = impl_CpuText.l0 (k + 1) [S ([65] ++ [61] ++ hexL a 2), S ([88] ++ [61] ++ hexL x 2), S ([89] ++ [61] ++ hexL y 2), S ([83] ++ [61] ++ hexL s 2)] [(a : Int), (x : Int), (y : Int), (s : Int)] 4 4 (a : Int) (x : Int) (y : Int) (s : Int) (p : Int) b0 b1 b2 b3 b4 b5 := cpu_stepI _ (by omega) [S ([65] ++ [61] ++ hexL a 2), S ([88] ++ [61] ++ hexL x 2), S ([89] ++ [61] ++ hexL y 2)] (by simp) _ rfl 3 4 3 rfl rfl (by omega) s hs rfl 83 (cut4 3 83 rfl) _ _ _ _ _ _ _ _ _ _ _
  rw [s0, s1, s2, s3, cpu_last k (by omega) _ _ _ _ _ _ _ _ _ p hp, hj (hexL a 2) (hexL x 2) (hexL y 2) (hexL s 2) (hexL p 4) (flagU b0 b1 b2 b3 b4 b5) l1 l2 l3 l4 l5 l6]
end Go.Proofs.Ytecccbecflbcfaa.Pure
