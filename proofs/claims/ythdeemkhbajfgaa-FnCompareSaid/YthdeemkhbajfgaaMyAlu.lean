/- Sums and differences of bytes as plain numbers, and plain words for walks over them. -/
import Derived.Test.YthdeemkhbajfgaaProg
import Derived.Laws.BitsLemmas
import Derived.Test.YthdeemkhbajfgaaWMore
import Derived.Test.YthdeemkhbajfgaaMyCell2
namespace Go.Proofs.Ythdeemkhbajfgaa.Alu
open Go.RowKit Go.Proofs.YthdeemkhbajfgaaW.PrintWords Go.Proofs.YthdeemkhbajfgaaW.PrintLast Go.Proofs.YthdeemkhbajfgaaW.PrintMore
theorem lt_size {w : World} {b : Nat} {o : Obj} (h : w.heap[b]? = some o) : b < w.heap.size := (Array.getElem?_eq_some_iff.mp h).1
theorem byt {P : Int → Prop} (h : ∀ n : Nat, n < 256 → P (n : Int)) {a : Int} (h0 : 0 ≤ a) (h1 : a ≤ 255) : P a := by
  have := h a.toNat (by omega)
  rwa [Int.toNat_of_nonneg h0] at this
theorem off {P : Int → Prop} (h : ∀ n : Nat, n < 2048 → P ((n : Int) - 1024)) {a : Int} (h0 : -1024 ≤ a) (h1 : a ≤ 1023) : P a := by
  have := h (a + 1024).toNat (by omega)
  rw [Int.toNat_of_nonneg (by omega)] at this
  simpa using this
theorem and15 {a : Int} (h0 : 0 ≤ a) (h1 : a ≤ 255) : Go.bits .and .u8 a 15 = a % 16 :=
  byt (P := fun a => Go.bits .and .u8 a 15 = a % 16) (by decide +kernel) h0 h1
theorem and240 {a : Int} (h0 : 0 ≤ a) (h1 : a ≤ 255) : Go.bits .and .u8 a 240 = a - a % 16 :=
  byt (P := fun a => Go.bits .and .u8 a 240 = a - a % 16) (by decide +kernel) h0 h1
theorem and255 {a : Int} (h0 : -1024 ≤ a) (h1 : a ≤ 1023) : Go.bits .and .i64 a 255 = a % 256 :=
  off (P := fun a => Go.bits .and .i64 a 255 = a % 256) (by decide +kernel) h0 h1
theorem and15i {a : Int} (h0 : -1024 ≤ a) (h1 : a ≤ 1023) : Go.bits .and .i64 a 15 = a % 16 :=
  off (P := fun a => Go.bits .and .i64 a 15 = a % 16) (by decide +kernel) h0 h1
theorem not8 {a : Int} (h0 : 0 ≤ a) (h1 : a ≤ 255) : Go.bits .xor .u8 255 a = 255 - a :=
  byt (P := fun a => Go.bits .xor .u8 255 a = 255 - a) (by decide +kernel) h0 h1
theorem w64 {x : Int} (h0 : -9223372036854775808 ≤ x) (h1 : x ≤ 9223372036854775807) : wrap64 x = x := by unfold wrap64; omega
def tc (c : Bool) : Int := if c = true then 1 else 0
theorem tc01 (c : Bool) : 0 ≤ tc c ∧ tc c ≤ 1 := by cases c <;> simp [tc]
/-- The highest bit of a number's low byte. -/
def hi (x : Int) : Bool := decide (128 ≤ x % 256)
def ov (a b s : Int) : Bool := (hi a == hi b) && (hi s != hi a)
def low (l : Int) : Int := if 10 ≤ l then (l + 6) % 16 + 16 else l
def top (h : Int) : Int := if 160 ≤ h then h + 96 else h
def sumL (a b t : Int) : Int := a % 16 + b % 16 + t
def sumH (a b t : Int) : Int := (a - a % 16) + (b - b % 16) + low (sumL a b t)
def lowS (l : Int) : Int := if l < 0 then (l - 6) % 16 - 16 else l
def topS (h : Int) : Int := if h < 0 then h - 96 else h
def difL (a b t : Int) : Int := a % 16 - b % 16 - 1 + t
def difH (a b t : Int) : Int := (a - a % 16) - (b - b % 16) + lowS (difL a b t)
/-- A sum without D: byte, N, V, D as it was, I, Z, C. -/
def bin (a b t : Int) (d i : Bool) : Int × Bool × Bool × Bool × Bool × Bool × Bool := ((a + b + t) % 256, hi (a + b + t), ov a b (a + b + t), d, i, ((a + b + t) % 256 == 0), decide (255 < a + b + t))
def dec (a b t : Int) (i : Bool) : Int × Bool × Bool × Bool × Bool × Bool × Bool := (top (sumH a b t) % 256, hi (sumH a b t), ov a b (sumH a b t), true, i, ((a + b + t) % 256 == 0), decide (255 < top (sumH a b t)))
def adc (a b : Int) (d i c : Bool) : Int × Bool × Bool × Bool × Bool × Bool × Bool := if d = true then dec a b (tc c) i else bin a b (tc c) false i
def sbc (a b : Int) (d i c : Bool) : Int × Bool × Bool × Bool × Bool × Bool × Bool := ((if d = true then topS (difH a b (tc c)) % 256 else (a + (255 - b) + tc c) % 256), (bin a (255 - b) (tc c) d i).2)
def byteOk (a b : Int) : Bool := decide (0 ≤ a) && decide (a ≤ 255) && decide (0 ≤ b) && decide (b ≤ 255)
theorem byteOk_of {a b : Int} (h : byteOk a b = true) : 0 ≤ a ∧ a ≤ 255 ∧ 0 ≤ b ∧ b ≤ 255 := by
  simp only [byteOk, Bool.and_eq_true, decide_eq_true_eq] at h; omega
theorem byteOk_mk {a b : Int} (a0 : 0 ≤ a) (a1 : a ≤ 255) (b0 : 0 ≤ b) (b1 : b ≤ 255) : byteOk a b = true := by
  simp only [byteOk, Bool.and_eq_true, decide_eq_true_eq]; omega
end Go.Proofs.Ythdeemkhbajfgaa.Alu
