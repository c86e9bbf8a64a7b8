import Derived.Test.YtafkbhnhmhmjcaaGreatDoorSWMyRam
import Derived.Test.YtafkbhnhmhmjcaaGreatDoorSWPureRunTot
import Derived.Test.YtafkbhnhmhmjcaaGreatDoorSWMyRun
import Derived.Test.YtafkbhnhmhmjcaaGreatDoorSWWeak
import Derived.Test.YtafkbhnhmhmjcaaGreatDoorSWMyWk3
section
set_option linter.unusedVariables false
set_option linter.unusedSimpArgs false
namespace Go.Proofs.YtafkbhnhmhmjcaaGreatDoor.Weak
open Go.RowKit Go.Proofs.YtafkbhnhmhmjcaaGreatDoorW.PrintWords Go.Proofs.YtafkbhnhmhmjcaaGreatDoorW.PrintLast Go.Proofs.YtafkbhnhmhmjcaaGreatDoorW.PrintMore Go.Proofs.YtafkbhnhmhmjcaaGreatDoor.PRun Go.Proofs.YtafkbhnhmhmjcaaGreatDoor.DrawRun
def Cur (w0 w : World) (g : Nat) : Prop := ∃ l i s, IsS59 w0 w g l i s ∧ At l i
theorem Cur.blk {w0 w : World} {g : Nat} (h : Cur w0 w g) : ∃ cs, w.heap[g]? = some (.cells cs 59 (0, 0)) := by
  obtain ⟨l, i, s, ⟨A0, c0, hb, _⟩, _⟩ := h
  exact ⟨_, hb⟩
theorem Cur.below_ {w0 w w1 : World} {g : Nat} (h : Cur w0 w g) (hb : Below w.heap.size w w1) : Cur w0 w1 g := by
  obtain ⟨l, i, s, hi, ha⟩ := h
  exact ⟨l, i, s, hi.below hb, ha⟩
theorem Cur.other {w0 w w1 : World} {g b : Nat} (h : Cur w0 w g) (hne : g ≠ b) (hk : ∀ k, k ≠ b → w1.heap[k]? = w.heap[k]?) : Cur w0 w1 g := by
  obtain ⟨l, i, s, ⟨A0, c0, hb, hr⟩, ha⟩ := h
  exact ⟨l, i, s, ⟨A0, c0, (hk g hne).trans hb, hr⟩, ha⟩
theorem Cur.ne {w0 w : World} {g b t : Nat} {cs : Array Value} (h : Cur w0 w g) (hb : w.heap[b]? = some (.cells cs t (0, 0))) (ht : t ≠ 59) : g ≠ b := by
  obtain ⟨l, i, s, hi, ha⟩ := h
  exact hi.ne_blk hb ht
theorem Cur.grown {α : Type} {d : Kd α} {e B : Nat} {ok : Nat → Prop} {v : Value} {xs : List α} {w0 w w1 : World} {g : Nat} (h : Cur w0 w g) (ho : Kd.R d e w B ok v xs) (ht : e ≠ 59) (hg : w.grownBy w1 v.ownBlock) : Cur w0 w1 g := by
  obtain ⟨l, i, s, hi, ha⟩ := h
  exact ⟨l, i, s, hi.grown hg (hi.own_ne ho ht), ha⟩
theorem raw_keep {w0 w w1 : World} {g b t : Nat} {cs : Array Value} (h : w.heap[b]? = some (.cells cs t (0, 0))) (hc : Cur w0 w g) (ht : t ≠ 59) (hk : KeepBut w w1 g none) : w1.heap[b]? = some (.cells cs t (0, 0)) :=
  hk.blk h (hc.ne h ht).symm (by simp)
theorem CpuAt.keep {w0 w w1 : World} {g b : Nat} (h : CpuAt w b) (hc : Cur w0 w g) (hk : KeepBut w w1 g none) : CpuAt w1 b := by
  obtain ⟨cs, h1, h2⟩ := h
  exact ⟨cs, raw_keep h1 hc (by decide) hk, h2⟩
theorem R_keep {α : Type} {d : Kd α} {e B : Nat} {v : Value} {xs : List α} {w0 w w1 : World} {g : Nat} (h : Kd.R d e w B (fun _ => True) v xs) (hc : Cur w0 w g) (ht : ∀ q, q ∈ e :: d.E → q ≠ 59) (hk : KeepBut w w1 g none) : Kd.R d e w1 B (fun _ => True) v xs := by
  obtain ⟨cs, hb⟩ := hc.blk
  exact Kd.R_mono (Kd.R_step (Kd.R_types h hb ht) (fun k ho hlt => hk.2 k hlt ho.2 (by simp))) (fun _ h => h.1)
theorem keep_below_ {w w1 w2 : World} {g : Nat} (h : KeepBut w w1 g none) (hb : Below w1.heap.size w1 w2) : KeepBut w w2 g none := h.trans (KeepBut.of_below hb g none) (.inl rfl)
theorem keep_own_ {w w1 w2 : World} {g b : Nat} (h : KeepBut w w1 g none) (hb : w.heap.size ≤ b) (hs : Below 0 w1 w2) (hk : ∀ k, k ≠ b → w2.heap[k]? = w1.heap[k]?) : KeepBut w w2 g none :=
  ⟨Nat.le_trans h.1 hs.size, fun i hi hg hr => (hk i (by omega)).trans (h.2 i hi hg hr)⟩
theorem keep_low_ {w w1 w2 : World} {g : Nat} (h : KeepBut w w1 g none) (hb : Below w.heap.size w1 w2) : KeepBut w w2 g none :=
  ⟨Nat.le_trans h.1 hb.size, fun i hi hg hr => (hb.block i hi).trans (h.2 i hi hg hr)⟩
theorem below_low {w0 w w1 w2 : World} (h : Below w0.heap.size w0 w1) (hw : w0.heap.size ≤ w.heap.size) (hb : Below w.heap.size w1 w2) : Below w0.heap.size w0 w2 :=
  ⟨hb.os.trans h.os, hb.tape.trans h.tape, hb.output.trans h.output, Nat.le_trans h.size hb.size, fun k hk => (hb.block k (Nat.lt_of_lt_of_le hk hw)).trans (h.block k hk)⟩
def Drew (w0 w w1 : World) (g : Nat) : Prop := Cur w0 w1 g ∧ Below w0.heap.size w0 w1 ∧ KeepBut w w1 g none
theorem l01Below.cur (w0 w : World) (g : Nat) (n : Int) (hc : Cur w0 w g) (hB : Below w0.heap.size w0 w) :
    Calls Tryz.prog 13 #[.pointer (some ⟨g, 0, none⟩), .int .i64 n] w fun e w1 => ∃ x, e = .returned (.int .i64 x) ∧ ((0 < n → 0 ≤ x ∧ x < n) ∧ 0 ≤ x) ∧ Drew w0 w w1 g := by
  obtain ⟨l, i, s, hi, ha⟩ := hc
  obtain ⟨x, i1, s1, e1, a1, _, hx⟩ := below_some ha s n
  refine (spec_l01Below.calls g l i s n x i1 s1 w0 w hi hB e1).mono ?_
  rintro e w1 ⟨rfl, h1, h2, h3⟩
  exact ⟨x, rfl, hx, ⟨l, i1, s1, h1, a1⟩, h2, h3⟩
theorem l01Once.cur (w0 w : World) (g : Nat) (n : Int) (hc : Cur w0 w g) (hB : Below w0.heap.size w0 w) :
    Calls Tryz.prog 12 #[.pointer (some ⟨g, 0, none⟩), .int .i64 n] w fun e w1 => ∃ x, e = .returned (.bool x) ∧ Drew w0 w w1 g := by
  obtain ⟨l, i, s, hi, ha⟩ := hc
  obtain ⟨x, i1, s1, e1, a1⟩ := once_some ha s n
  refine (spec_l01Once.calls g l i s n x i1 s1 w0 w hi hB e1).mono ?_
  rintro e w1 ⟨rfl, h1, h2, h3⟩
  exact ⟨x, rfl, ⟨l, i1, s1, h1, a1⟩, h2, h3⟩
theorem l01PickInt.cur (w0 w : World) (g : Nat) {B : Nat} {v : Value} (xs : List Int) (hx : 0 < xs.length) (hr : Kd.R (Kd.int .i64) 3 w B (fun _ => True) v xs) (hc : Cur w0 w g) (hB : Below w0.heap.size w0 w) :
    Calls Tryz.prog 28 #[.pointer (some ⟨g, 0, none⟩), v] w fun e w1 => ∃ x, e = .returned (.int .i64 x) ∧ x ∈ xs ∧ Drew w0 w w1 g := by
  obtain ⟨l, i, s, hi, ha⟩ := hc
  obtain ⟨x, i1, s1, e1, a1, hm⟩ := pick_some ha s xs hx
  obtain ⟨A1, c1, rfl⟩ := Kd.R_slice hr
  refine (spec_l01PickInt.calls g l i s A1 c1 xs x i1 s1 w0 w hi hB (Kd.R_reads' hr).2.2 (Kd.R_reads' hr).2.1 (far_slice (IsS59.own_ne hi hr (by decide))) e1).mono ?_
  rintro e w1 ⟨rfl, h1, h2, h3⟩
  exact ⟨x, rfl, hm, ⟨l, i1, s1, h1, a1⟩, h2, h3⟩
theorem l01Byte.cur (w0 w : World) (g : Nat) (hc : Cur w0 w g) (hB : Below w0.heap.size w0 w) :
    Calls Tryz.prog 24 #[.pointer (some ⟨g, 0, none⟩)] w fun e w1 => ∃ x, e = .returned (.int .i64 x) ∧ Drew w0 w w1 g := by
  obtain ⟨l, i, s, hi, ha⟩ := hc
  obtain ⟨x, i1, s1, e1, _, _, a1⟩ := byte_some ha s
  refine (spec_l01Byte.calls g l i s x i1 s1 w0 w hi hB e1).mono ?_
  rintro e w1 ⟨rfl, h1, h2, h3⟩
  exact ⟨x, rfl, ⟨l, i1, s1, h1, a1⟩, h2, h3⟩
theorem FlagsAt.keep {w0 w w1 : World} {g b : Nat} (h : FlagsAt w b) (hc : Cur w0 w g) (hk : KeepBut w w1 g none) : FlagsAt w1 b := by
  obtain ⟨cs, h1, h2⟩ := h
  exact ⟨cs, raw_keep h1 hc (by decide) hk, h2⟩
theorem l02Byte.cur (w0 w : World) (g : Nat) (hc : Cur w0 w g) (hB : Below w0.heap.size w0 w) :
    Calls Tryz.prog 29 #[.pointer (some ⟨g, 0, none⟩)] w fun e w1 => ∃ x, e = .returned (.int .u8 x) ∧ RB x ∧ Drew w0 w w1 g := by
  obtain ⟨l, i, s, hi, ha⟩ := hc
  obtain ⟨x, i1, s1, e1, x0, x1, a1⟩ := l02Byte_some ha s
  refine (spec_l02Byte.calls g l i s x i1 s1 w0 w hi hB e1).mono ?_
  rintro e w1 ⟨rfl, h1, h2, h3⟩
  exact ⟨x, rfl, ⟨x0, x1⟩, ⟨l, i1, s1, h1, a1⟩, h2, h3⟩
theorem l05Ram.cur (w0 w : World) (g : Nat) (hc : Cur w0 w g) (hB : Below w0.heap.size w0 w) :
    Calls Tryz.prog 37 #[.pointer (some ⟨g, 0, none⟩)] w fun e w1 => ∃ v mem, e = .returned (.agg #[v]) ∧ (Kd.R (Kd.int .u8) 5 w1 w.heap.size (fun _ => True) v mem ∧ spec_RamOk.f mem = some true ∧ ∀ x, x ∈ mem → RB x) ∧ Drew w0 w w1 g := by
  obtain ⟨l, i, s, hi, ha⟩ := hc
  obtain ⟨r, i1, s1, e1, hok, hrb, a1⟩ := ram_some ha s 5000 (Nat.le_refl _)
  refine (spec_l05Ram.calls 5000 g l i s r i1 s1 w0 w hi hB e1).mono ?_
  rintro e w1 ⟨v, rfl, hr, h1, h2, h3⟩
  exact ⟨v, r, rfl, ⟨hr, hok, hrb⟩, ⟨l, i1, s1, h1, a1⟩, h2, h3⟩
theorem l03Code.cur (w0 w : World) (g : Nat) (hc : Cur w0 w g) (hB : Below w0.heap.size w0 w) :
    Calls Tryz.prog 56 #[.pointer (some ⟨g, 0, none⟩)] w fun e w1 => ∃ x, e = .returned (.int .u8 x) ∧ RB x ∧ Drew w0 w w1 g := by
  obtain ⟨l, i, s, hi, ha⟩ := hc
  obtain ⟨x, i1, s1, e1, x0, a1⟩ := code_some ha s 8 (Nat.le_refl _)
  refine (spec_l03Code.calls 8 g l i s x i1 s1 w0 w hi hB e1).mono ?_
  rintro e w1 ⟨rfl, h1, h2, h3⟩
  exact ⟨x, rfl, x0, ⟨l, i1, s1, h1, a1⟩, h2, h3⟩
theorem SizeOf.le3 (c : Int) (h : RB c) (w : World) : Calls Tryz.prog 58 #[.int .u8 c] w fun e w1 => ∃ s, e = .returned (.int .i64 s) ∧ s ≤ 3 ∧ Below w.heap.size w w1 := by
  obtain ⟨r, h3, hr⟩ := size_some c h
  exact (spec_SizeOf.calls 3 c r w (hr 3 (Nat.le_refl _))).mono fun _ _ h => ⟨r, h.1, h3, h.2⟩
theorem Fill.any (w : World) {B : Nat} {v v2 : Value} (mem : List Int) (a : Int) (l2 : List Int) (hr : Kd.R (Kd.int .u8) 5 w B (fun _ => True) v mem) (hok : spec_RamOk.f mem = some true) (hrb : ∀ x, x ∈ mem → RB x) (ha : RP a) (h2 : Kd.R (Kd.int .u8) 5 w B (fun _ => True) v2 l2) (hb : Bts 1024 l2) :
    Calls Tryz.prog 40 #[.agg #[v], .int .u16 a, v2] w fun e w1 => ∃ v1 r, e = .returned (.agg #[v1]) ∧ (Kd.R (Kd.int .u8) 5 w1 w.heap.size (fun _ => True) v1 r ∧ spec_RamOk.f r = some true ∧ ∀ x, x ∈ r → RB x) ∧ Below w.heap.size w w1 := by
  obtain ⟨A1, c1, rfl⟩ := Kd.R_slice hr
  obtain ⟨A2, c2, rfl⟩ := Kd.R_slice h2
  obtain ⟨r, e1, hl, hrr⟩ := fill_some hok hrb a ha l2 hb (l2.length + 2) (Nat.le_refl _)
  refine (spec_Fill.calls (l2.length + 2) A1 c1 mem a A2 c2 l2 r w (Kd.R_reads' hr).2.2 (Kd.R_reads' hr).2.1 (Kd.R_reads' h2).2.2 (Kd.R_reads' h2).2.1 e1).mono ?_
  rintro e w1 ⟨v1, rfl, hR, hbl⟩
  exact ⟨v1, r, rfl, ⟨hR, ram_same hok hl, hrr⟩, hbl⟩
def Apart_ (u v : Value) : Prop := ∀ k, u.ownBlock = some k → v.ownBlock = some k → False
theorem apart_new {α β : Type} {d : Kd α} {d' : Kd β} {e e' B : Nat} {ok ok' : Nat → Prop} {u v : Value} {xs : List α} {ys : List β} {W w1 : World} (h : Kd.R d e W B ok u xs) (h' : Kd.R d' e' w1 W.heap.size ok' v ys) : Apart_ u v := fun k h1 h2 => by
  have a := Kd.R_lt h k h1
  have b := Kd.R_base h' k h2
  omega
theorem apart_step {α : Type} {d : Kd α} {e B : Nat} {ok : Nat → Prop} {u v v1 : Value} {xs : List α} {W : World} (h : Kd.R d e W B ok u xs) (ha : Apart_ u v) (hat : v1.ownBlock = v.ownBlock ∨ ∃ b, v1.ownBlock = some b ∧ W.heap.size ≤ b) : Apart_ u v1 := fun k h1 h2 => by
  rcases hat with hat | ⟨b, hb, hle⟩
  · exact ha k h1 (hat ▸ h2)
  · have a := Kd.R_lt h k h1
    rw [hb] at h2
    injection h2 with h2
    omega
theorem R_int_grown {κ : IntKind} {e B : Nat} {u v : Value} {xs : List Int} {w w1 : World} (h : Kd.R (Kd.int κ) e w B (fun _ => True) u xs) (hg : w.grownBy w1 v.ownBlock) (ha : Apart_ u v) : Kd.R (Kd.int κ) e w1 B (fun _ => True) u xs := by
  obtain ⟨h0, inner, ho, hr⟩ := h
  have h2 : Kd.R (Kd.int κ) e w B (fun k => u.ownBlock = some k) u xs := ⟨fun k hk => hk, inner, ho, hr⟩
  exact Kd.R_mono (Kd.R_grown h2 hg (fun k hk he => ha k hk he.symm)) (fun _ _ => trivial)
theorem Bts.append {n m : Nat} {xs ys : List Int} (h : Bts n xs) (h' : Bts m ys) : Bts (n + m) (xs ++ ys) :=
  ⟨by have := h.1; have := h'.1; simp; omega, fun x hx => (List.mem_append.mp hx).elim (h.2 x) (h'.2 x)⟩
theorem Bts.of {xs : List Int} (h : ∀ x, x ∈ xs → RB x) : Bts xs.length xs := ⟨Nat.le_refl _, h⟩
theorem rb3 {a b c : Int} (ha : RB a) (hb : RB b) (hc : RB c) : Bts 3 [a, b, c] := ⟨Nat.le_refl _, by
  intro x hx
  simp only [List.mem_cons, List.not_mem_nil, or_false] at hx
  rcases hx with rfl | rfl | rfl <;> assumption⟩
theorem rb6 {a b c d e f : Int} (ha : RB a) (hb : RB b) (hc : RB c) (hd : RB d) (he : RB e) (hf : RB f) : Bts 6 [a, b, c, d, e, f] := ⟨Nat.le_refl _, by
  intro x hx
  simp only [List.mem_cons, List.not_mem_nil, or_false] at hx
  rcases hx with rfl | rfl | rfl | rfl | rfl | rfl <;> assumption⟩
theorem lit3_ {Q : Exit → Act → World → Prop} {ops : Array Oper} {rest : List Oper} {o : Oper} {a : Act} {W : World} (B : Nat) (hgd : o.guard = none) {N : Tmp} (hd : o.dst = some N) (hB : B ≤ W.heap.size)
    (hr : ∃ x1 x2 x3 : Int, (execOp a.eval o).run Tryz.prog W = .ok (.value (.slice (some ⟨W.heap.size, 0, none⟩) 3 3)) (W.alloc (.cells #[.int .u8 x1, .int .u8 x2, .int .u8 x3] 5)) ∧ RB x1 ∧ RB x2 ∧ RB x3)
    (h : ∀ v1 w1 xs, Kd.R (Kd.int .u8) 5 w1 B (fun _ => True) v1 xs → Bts 3 xs → Below W.heap.size W w1 → wpList Tryz.prog ops Q rest (a.put o.dst v1) w1) : wpList Tryz.prog ops Q (o :: rest) a W := by
  obtain ⟨x1, x2, x3, hr, rx1, rx2, rx3⟩ := hr
  exact Kd.R_lit (Kd.int .u8) (w0 := W) W.heap.size 5 hgd hd (xs := [x1, x2, x3]) (inner := [.int .u8 x1, .int .u8 x2, .int .u8 x3]) (ok := fun _ => True) (okp := fun _ => True) hr (Reps.one (show Kd.M (Kd.int .u8) _ _ _ x1 [.int .u8 x1] from rfl) (Reps.one (show Kd.M (Kd.int .u8) _ _ _ x2 [.int .u8 x2] from rfl) (Reps.one (show Kd.M (Kd.int .u8) _ _ _ x3 [.int .u8 x3] from rfl) (Reps.none _ _)))) (fun _ hk => hk) trivial (Below.refl _ _) (Nat.le_refl _) (by simp) (fun v1 w1 ho hb _ _ => h v1 w1 _ (Kd.R_lower ho hB) (rb3 rx1 rx2 rx3) hb)
theorem lit6_ {Q : Exit → Act → World → Prop} {ops : Array Oper} {rest : List Oper} {o : Oper} {a : Act} {W : World} (B : Nat) (hgd : o.guard = none) {N : Tmp} (hd : o.dst = some N) (hB : B ≤ W.heap.size)
    (hr : ∃ x1 x2 x3 x4 x5 x6 : Int, (execOp a.eval o).run Tryz.prog W = .ok (.value (.slice (some ⟨W.heap.size, 0, none⟩) 6 6)) (W.alloc (.cells #[.int .u8 x1, .int .u8 x2, .int .u8 x3, .int .u8 x4, .int .u8 x5, .int .u8 x6] 5)) ∧ RB x1 ∧ RB x2 ∧ RB x3 ∧ RB x4 ∧ RB x5 ∧ RB x6)
    (h : ∀ v1 w1 xs, Kd.R (Kd.int .u8) 5 w1 B (fun _ => True) v1 xs → Bts 6 xs → Below W.heap.size W w1 → wpList Tryz.prog ops Q rest (a.put o.dst v1) w1) : wpList Tryz.prog ops Q (o :: rest) a W := by
  obtain ⟨x1, x2, x3, x4, x5, x6, hr, rx1, rx2, rx3, rx4, rx5, rx6⟩ := hr
  exact Kd.R_lit (Kd.int .u8) (w0 := W) W.heap.size 5 hgd hd (xs := [x1, x2, x3, x4, x5, x6]) (inner := [.int .u8 x1, .int .u8 x2, .int .u8 x3, .int .u8 x4, .int .u8 x5, .int .u8 x6]) (ok := fun _ => True) (okp := fun _ => True) hr (Reps.one (show Kd.M (Kd.int .u8) _ _ _ x1 [.int .u8 x1] from rfl) (Reps.one (show Kd.M (Kd.int .u8) _ _ _ x2 [.int .u8 x2] from rfl) (Reps.one (show Kd.M (Kd.int .u8) _ _ _ x3 [.int .u8 x3] from rfl) (Reps.one (show Kd.M (Kd.int .u8) _ _ _ x4 [.int .u8 x4] from rfl) (Reps.one (show Kd.M (Kd.int .u8) _ _ _ x5 [.int .u8 x5] from rfl) (Reps.one (show Kd.M (Kd.int .u8) _ _ _ x6 [.int .u8 x6] from rfl) (Reps.none _ _))))))) (fun _ hk => hk) trivial (Below.refl _ _) (Nat.le_refl _) (by simp) (fun v1 w1 ho hb _ _ => h v1 w1 _ (Kd.R_lower ho hB) (rb6 rx1 rx2 rx3 rx4 rx5 rx6) hb)
theorem lit5_ {Q : Exit → Act → World → Prop} {ops : Array Oper} {rest : List Oper} {o : Oper} {a : Act} {W : World} (B : Nat) (hgd : o.guard = none) {N : Tmp} (hd : o.dst = some N) (hB : B ≤ W.heap.size)
    (hr : ∃ x1 x2 x3 x4 x5 : Int, (execOp a.eval o).run Tryz.prog W = .ok (.value (.slice (some ⟨W.heap.size, 0, none⟩) 5 5)) (W.alloc (.cells #[.int .i64 x1, .int .i64 x2, .int .i64 x3, .int .i64 x4, .int .i64 x5] 3)))
    (h : ∀ v1 w1 xs, Kd.R (Kd.int .i64) 3 w1 B (fun _ => True) v1 xs → 0 < xs.length → Below W.heap.size W w1 → wpList Tryz.prog ops Q rest (a.put o.dst v1) w1) : wpList Tryz.prog ops Q (o :: rest) a W := by
  obtain ⟨x1, x2, x3, x4, x5, hr⟩ := hr
  exact Kd.R_lit (Kd.int .i64) (w0 := W) W.heap.size 3 hgd hd (xs := [x1, x2, x3, x4, x5]) (inner := [.int .i64 x1, .int .i64 x2, .int .i64 x3, .int .i64 x4, .int .i64 x5]) (ok := fun _ => True) (okp := fun _ => True) hr (Reps.one (show Kd.M (Kd.int .i64) _ _ _ x1 [.int .i64 x1] from rfl) (Reps.one (show Kd.M (Kd.int .i64) _ _ _ x2 [.int .i64 x2] from rfl) (Reps.one (show Kd.M (Kd.int .i64) _ _ _ x3 [.int .i64 x3] from rfl) (Reps.one (show Kd.M (Kd.int .i64) _ _ _ x4 [.int .i64 x4] from rfl) (Reps.one (show Kd.M (Kd.int .i64) _ _ _ x5 [.int .i64 x5] from rfl) (Reps.none _ _)))))) (fun _ hk => hk) trivial (Below.refl _ _) (Nat.le_refl _) (by simp) (fun v1 w1 ho hb _ _ => h v1 w1 _ (Kd.R_lower ho hB) (by simp) hb)
theorem r_stEv {Q : Exit → Act → World → Prop} {ops : Array Oper} {rest : List Oper} {o : Oper} {a : Act} {w : World} (hgd : o.guard = none) {x y : Operand} (ho : o.op = .store 66 x y) {g : Nat} {v u : Value} (hx : a.eval x = .pointer (some ⟨g, 0, none⟩)) (hy : a.eval y = .agg #[v]) (hv : v.oneCell' = true) (hb : w.heap[g]? = some (.cells #[u] 66 (0, 0)))
    (h : ∀ w1, w1.heap[g]? = some (.cells #[v] 66 (0, 0)) → (∀ k, k ≠ g → w1.heap[k]? = w.heap[k]?) → (∀ B u, B ≤ g → Below B u w → Below B u w1) → wpList Tryz.prog ops Q rest (a.put o.dst undef) w1) : wpList Tryz.prog ops Q (o :: rest) a w :=
  event_skip hgd (r_runSt ho hx hy hv hb) (h _ (r_rowSt hb).1 (r_rowSt hb).2.1 (r_rowSt hb).2.2)
def Machined (w0 w : World) (g : Nat) (e : Ending) (w1 : World) : Prop := ∃ ds vm mem, e = .returned (.tuple #[.agg ds, .agg #[vm]]) ∧ CC ds ∧ Kd.R (Kd.int .u8) 5 w1 w.heap.size (fun _ => True) vm mem ∧ spec_RamOk.f mem = some true ∧ (∀ x, x ∈ mem → RB x) ∧ Drew w0 w w1 g
theorem machined_ret {fn : Func} {a : Act} {w0 w w1 : World} {p q : Tmp} {g gr g5 : Nat} {vm : Value} {mem : List Int} (hf : fn.results = [ResultVar.cell p 64, .cell q 66].toArray) (hp : a.tmps.getD p undef = .pointer (some ⟨gr, 0, none⟩)) (hq : a.tmps.getD q undef = .pointer (some ⟨g5, 0, none⟩)) (hd : a.defers = [])
    (hb : CpuAt w1 gr) (hr : w1.heap[g5]? = some (.cells #[vm] 66 (0, 0))) (hm : Kd.R (Kd.int .u8) 5 w1 w.heap.size (fun _ => True) vm mem) (hok : spec_RamOk.f mem = some true) (hmb : ∀ x, x ∈ mem → RB x) (hw : Drew w0 w w1 g) :
    bodyPost Tryz.prog fn (Machined w0 w g) .ret a w1 := by
  obtain ⟨cs, hb, hc⟩ := hb
  refine bodyPost_ret (results_list hf (by simp) (.cell gr 64 cs (0, 0) _ hp hb Tryz.underlying64 rfl (by rw [hc.size]; exact cpu_info) (.cell g5 66 #[vm] (0, 0) _ hq hr Tryz.underlying66 rfl ram_info .nil))) hd ?_
  exact ⟨cs, vm, mem, rfl, hc, hm, hok, hmb, hw⟩
theorem gate_met {J : Act → World → Prop} {a : Act} {w : World} (h : Met J a w) : Met J a w := h
theorem reps_ints (κ : IntKind) (w : World) (B : Nat) (ok : Nat → Prop) : ∀ ys : List Int, Reps ((Kd.int κ).M w B ok) (Kd.int κ).sz ys (ys.map (Value.int κ))
  | [] => Reps.none _ _
  | y :: ys => Reps.one (show Kd.M (Kd.int κ) w B ok y [.int κ y] from rfl) (reps_ints κ w B ok ys)
theorem litI_ {Q : Exit → Act → World → Prop} {ops : Array Oper} {rest : List Oper} {o : Oper} {a : Act} {W : World} (B : Nat) (ys : List Int) (hgd : o.guard = none) {N : Tmp} (hd : o.dst = some N) (hB : B ≤ W.heap.size) (hm : ys.length ≤ 100)
    (hr : (execOp a.eval o).run Tryz.prog W = .ok (.value (.slice (some ⟨W.heap.size, 0, none⟩) ys.length ys.length)) (W.alloc (.cells (ys.map (Value.int .i64)).toArray 3)))
    (h : ∀ v1 w1, Kd.R (Kd.int .i64) 3 w1 B (fun _ => True) v1 ys → Below W.heap.size W w1 → wpList Tryz.prog ops Q rest (a.put o.dst v1) w1) : wpList Tryz.prog ops Q (o :: rest) a W :=
  Kd.R_lit (Kd.int .i64) (w0 := W) W.heap.size 3 hgd hd (xs := ys) (inner := ys.map (Value.int .i64)) (ok := fun _ => True) (okp := fun _ => True) hr (reps_ints .i64 W W.heap.size (fun _ => True) ys) (fun _ hk => hk) trivial (Below.refl _ _) (Nat.le_refl _) (by omega) (fun v1 w1 ho hb _ _ => h v1 w1 (Kd.R_lower ho hB) hb)
end Go.Proofs.YtafkbhnhmhmjcaaGreatDoor.Weak
end
section
set_option linter.unusedVariables false
set_option linter.unusedSimpArgs false
namespace Go.Proofs.YtafkbhnhmhmjcaaGreatDoor.Weak
open Go.RowKit Go.Proofs.YtafkbhnhmhmjcaaGreatDoorW.PrintWords Go.Proofs.YtafkbhnhmhmjcaaGreatDoorW.PrintLast Go.Proofs.YtafkbhnhmhmjcaaGreatDoorW.PrintMore Go.Proofs.YtafkbhnhmhmjcaaGreatDoor.PRun Go.Proofs.YtafkbhnhmhmjcaaGreatDoor.DrawRun
section
variable {w w' w1 w2 : World} {ln N : Nat} {A X Y S p : Int} {vm vt vs vc : Value}
theorem RunIs.below_ (h : RunIs w w1 ln N A X Y S p vm vt vs vc) (hb : Below w1.heap.size w1 w2) : RunIs w w2 ln N A X Y S p vm vt vs vc := by
  obtain ⟨h0, mem, tr, st, cp, h1, h2, h3, h4, h5, h6, h7, h8⟩ := h
  exact ⟨h0, mem, tr, st, cp, Kd.R_below h1 hb, h2, h3, Kd.R_below h4 hb, h5, Kd.R_below h6 hb, Kd.R_below h7 hb, h8⟩
theorem RunIs.lower (h : RunIs w' w1 ln N A X Y S p vm vt vs vc) (hb : w.heap.size ≤ w'.heap.size) : RunIs w w1 ln N A X Y S p vm vt vs vc := by
  obtain ⟨h0, mem, tr, st, cp, h1, h2, h3, h4, h5, h6, h7, h8⟩ := h
  exact ⟨h0, mem, tr, st, cp, Kd.R_lower h1 hb, h2, h3, Kd.R_lower h4 hb, h5, Kd.R_lower h6 hb, Kd.R_lower h7 hb, h8⟩
theorem RunIs.keep {w0 : World} {g : Nat} (h : RunIs w w1 ln N A X Y S p vm vt vs vc) (hc : Cur w0 w1 g) (hk : KeepBut w1 w2 g none) : RunIs w w2 ln N A X Y S p vm vt vs vc := by
  obtain ⟨h0, mem, tr, st, cp, h1, h2, h3, h4, h5, h6, h7, h8⟩ := h
  exact ⟨h0, mem, tr, st, cp, R_keep h1 hc (by decide) hk, h2, h3, R_keep h4 hc (by decide) hk, h5, R_keep h6 hc (by decide) hk, R_keep h7 hc (by decide) hk, h8⟩
theorem RunIs.other {g : Nat} {cs : Array Value} (h : RunIs w w1 ln N A X Y S p vm vt vs vc) (hb : w1.heap[g]? = some (.cells cs 72 (0, 0))) (hk : ∀ k, k ≠ g → w2.heap[k]? = w1.heap[k]?) : RunIs w w2 ln N A X Y S p vm vt vs vc := by
  obtain ⟨h0, mem, tr, st, cp, h1, h2, h3, h4, h5, h6, h7, h8⟩ := h
  exact ⟨h0, mem, tr, st, cp, R_other h1 hb (by decide) hk, h2, h3, R_other h4 hb (by decide) hk, h5, R_other h6 hb (by decide) hk, R_other h7 hb (by decide) hk, h8⟩
theorem RunIs.forms (h : RunIs w w1 ln N A X Y S p vm vt vs vc) : ∃ Am nm cm At nt ct As ns cs Ak nk ck, vm = .slice Am nm cm ∧ vt = .slice At nt ct ∧ vs = .slice As ns cs ∧ vc = .slice Ak nk ck ∧ nt ≤ 20 * N := by
  obtain ⟨h0, mem, tr, st, cp, h1, h2, h3, h4, h5, h6, h7, h8, h9, _⟩ := h
  obtain ⟨Am, cm, rfl⟩ := Kd.R_slice h1
  obtain ⟨At, ct, rfl⟩ := Kd.R_slice h4
  obtain ⟨As, cs, rfl⟩ := Kd.R_slice h6
  obtain ⟨Ak, ck, rfl⟩ := Kd.R_slice h7
  exact ⟨_, _, _, _, _, _, _, _, _, _, _, _, rfl, rfl, rfl, rfl, h9⟩
end
theorem l01New.cur (w : World) (A0 : Option Addr) (c0 : Nat) (l : List Int) (hr : Kd.C (Kd.int .u8) w A0 l.length l) (hc0 : l.length ≤ c0) (hl : l.length ≤ 1048576) (w1 : World) (hB : Below w.heap.size w w1) :
    Calls Tryz.prog 11 #[.slice A0 l.length c0] w1 fun e w2 => ∃ g : Nat, e = .returned (.pointer (some ⟨g, 0, none⟩)) ∧ Cur w w2 g ∧ Below w.heap.size w w2 ∧ Below w1.heap.size w1 w2 := by
  obtain ⟨s, hs⟩ := new_some l hl
  refine (spec_l01New.calls 4002 A0 c0 l l 0 s w w1 hB hr hc0 (hs 4002 (by omega))).mono ?_
  rintro e w2 ⟨g, rfl, h1, h2, h3⟩
  exact ⟨g, rfl, ⟨l, 0, s, h1, by unfold At; omega⟩, h2, h3⟩
end Go.Proofs.YtafkbhnhmhmjcaaGreatDoor.Weak
end
section
set_option linter.unusedVariables false
set_option linter.unusedSimpArgs false
namespace Go.Proofs.YtafkbhnhmhmjcaaGreatDoor.Weak
open Go.RowKit Go.Proofs.YtafkbhnhmhmjcaaGreatDoorW.PrintWords Go.Proofs.YtafkbhnhmhmjcaaGreatDoorW.PrintLast Go.Proofs.YtafkbhnhmhmjcaaGreatDoorW.PrintMore Go.Proofs.YtafkbhnhmhmjcaaGreatDoor.PRun Go.Proofs.YtafkbhnhmhmjcaaGreatDoor.DrawRun
theorem below4 {x : Int} (h : ((0 : Int) < 4 → 0 ≤ x ∧ x < 4) ∧ 0 ≤ x) : ∃ n : Nat, x = (n : Int) ∧ n ≤ 3 := ⟨x.toNat, by omega, by have := h.1 (by decide); omega⟩
theorem fl_ret1 {fn : Func} {R : Ending → World → Prop} {a : Act} {w : World} {p : Tmp} {g : Nat} (hb : FlagsAt w g) (hf : fn.results = #[.cell p 62]) (hp : a.tmps.getD p undef = .pointer (some ⟨g, 0, none⟩)) (hd : a.defers = []) (h : ∀ f0 f1 f2 f3 f4 f5 : Bool, R (.returned (.agg #[.bool f0, .bool f1, .bool f2, .bool f3, .bool f4, .bool f5])) w) : bodyPost Tryz.prog fn R .ret a w := by
  obtain ⟨cs, hb, hc⟩ := hb
  refine bodyPost_ret (results_cell_row hf _ _ g 62 cs (0, 0) _ hp hb Tryz.underlying62 rfl (by rw [hc.size]; exact flags_info)) hd ?_
  obtain ⟨f0, f1, f2, f3, f4, f5, rfl⟩ := hc
  exact h _ _ _ _ _ _
set_option maxHeartbeats 8000000 in
set_option maxRecDepth 100000 in
theorem l04Pc.cur (w0 w : World) (gc : Nat) (hc : Cur w0 w gc) (hB : Below w0.heap.size w0 w) : Calls Tryz.prog 54 #[.pointer (some ⟨gc, 0, none⟩)] w fun e w1 => ∃ x, e = .returned (.int .u16 x) ∧ RP x ∧ Drew w0 w w1 gc := by
  have HCU := zA hc
  have HB0 := zA hB
  have HW := zA hB.size
  have HK := zA (KeepBut.refl w gc none)
  clear hc hB
  go_enter Tryz.func54, Tryz.ntmps54
  go_wp2_with (first
    | (go_at_call 13; refine (l01Below.cur w0 _ gc 65536 HCU.out HB0.out).mono ?_; rintro e w1 ⟨x_, rfl, hx_, hcu_, hb0_, hk_⟩; clear hx_; replace HCU := zA (hcu_); replace HB0 := zA (hb0_); replace HK := zA (KeepBut.trans HK.out hk_ (.inl rfl)); clear hcu_ hb0_ hk_)
    | ((with_reducible refine gate_dst (N := 6) rfl ?_); refine litI_ w.heap.size [0, 255, 512, 4096, 32768, 65535, 65530, x_] rfl (N := 6) rfl HK.out.1 (by simp) ?hr ?_; (case hr => first | (go_simp; done) | (go_simp; rfl)); intro v1 w1 ho_ hb_; have HP := zA ho_; replace HCU := zA (HCU.out.below_ hb_); replace HB0 := zA (below_step HB0.out hb_); replace HK := zA (keep_below_ HK.out hb_); clear ho_ hb_)
    | (go_at_call 28; refine (l01PickInt.cur w0 _ gc _ (by simp) HP.out HCU.out HB0.out).mono ?_; rintro e w1 ⟨y_, rfl, hy_, hcu_, hb0_, hk_⟩; clear hy_; replace HCU := zA (hcu_); replace HB0 := zA (hb0_); replace HK := zA (KeepBut.trans HK.out hk_ (.inl rfl)); clear HP hcu_ hb0_ hk_)
    | ((with_reducible refine gate_ret ?_); refine bodyPost_ret (results_tmp rfl _ _ _) rfl ?_; exact ⟨_, rfl, (by first | assumption | exact RP_mod _ | exact RP_wrap _ | (unfold RP; omega)), HCU.out, HB0.out, HK.out⟩))
set_option maxHeartbeats 8000000 in
set_option maxRecDepth 100000 in
theorem l02Flags.cur (w0 w : World) (gc : Nat) (hc : Cur w0 w gc) (hB : Below w0.heap.size w0 w) : Calls Tryz.prog 55 #[.pointer (some ⟨gc, 0, none⟩)] w fun e w1 => ∃ f0 f1 f2 f3 f4 f5 : Bool, e = .returned (.agg #[.bool f0, .bool f1, .bool f2, .bool f3, .bool f4, .bool f5]) ∧ Drew w0 w w1 gc := by
  have HCU := zA hc
  have HB0 := zA hB
  have HW := zA hB.size
  have HK := zA (KeepBut.refl w gc none)
  clear hc hB
  go_enter Tryz.func55, Tryz.ntmps55
  go_wp2_with (first
    | ((with_reducible refine gate_dst (N := 2) rfl ?_); refine f_alloc rfl rfl rfl ?_; intro gf hgf w1 hc_ hb_; have GF := zA (by rw [← hgf]; exact HK.out.1 : w.heap.size ≤ gf); replace HCU := zA (HCU.out.below_ hb_); replace HB0 := zA (below_step HB0.out hb_); replace HK := zA (keep_below_ HK.out hb_); have BF := zA hc_; clear hb_ hc_ hgf)
    | (go_at_call 24; refine (l01Byte.cur w0 _ gc HCU.out HB0.out).mono ?_; rintro e w1 ⟨x_, rfl, hcu_, hb0_, hk_⟩; replace BF := zA (BF.out.keep HCU.out hk_); replace HCU := zA (hcu_); replace HB0 := zA (hb0_); replace HK := zA (KeepBut.trans HK.out hk_ (.inl rfl)); clear hcu_ hb0_ hk_)
    | (go_at_call 73; refine (UnpackP.any _ (by first | assumption | exact RB_mod _ | exact RB_bits _ _ _ | exact RB_wrap _ | (unfold RB; omega)) _).mono ?_; rintro e w1 ⟨f0, f1, f2, f3, f4, f5, rfl, hb_⟩; replace BF := zA (BF.out.below_ hb_); replace HCU := zA (HCU.out.below_ hb_); replace HB0 := zA (below_step HB0.out hb_); replace HK := zA (keep_below_ HK.out hb_); clear hb_)
    | ((with_reducible refine gate_st (t := 62) rfl ?_); refine f_st rfl rfl rfl rfl ⟨_, _, _, _, _, _, rfl⟩ BF.out ?_; intro w1 hc_ hk_ hb_; replace HCU := zA (HCU.out.other (HCU.out.ne BF.out.choose_spec.1 (by decide)) hk_); replace HB0 := zA (hb_ _ _ (Nat.le_trans HW.out GF.out) HB0.out); replace HK := zA (keep_own_ HK.out GF.out (hb_ 0 _ (Nat.zero_le _) (Below.refl _ _)) hk_); replace BF := zA (hc_); clear hc_ hk_ hb_)
    | ((with_reducible refine gate_ret ?_); refine fl_ret1 BF.out rfl rfl rfl ?_; intro _ _ _ _ _ _; exact ⟨_, _, _, _, _, _, rfl, HCU.out, HB0.out, HK.out⟩))
set_option maxHeartbeats 8000000 in
set_option maxRecDepth 100000 in
theorem l05Cpu.cur (w0 w : World) (gc : Nat) (hc : Cur w0 w gc) (hB : Below w0.heap.size w0 w) : Calls Tryz.prog 38 #[.pointer (some ⟨gc, 0, none⟩)] w fun e w1 => ∃ cs, e = .returned (.agg cs) ∧ CC cs ∧ Drew w0 w w1 gc := by
  have HCU := zA hc
  have HB0 := zA hB
  have HW := zA hB.size
  have HK := zA (KeepBut.refl w gc none)
  clear hc hB
  go_enter Tryz.func38, Tryz.ntmps38
  go_wp2_with (first
    | ((with_reducible refine gate_dst (N := 2) rfl ?_); refine c_alloc rfl rfl rfl ?_; intro g hg_ w1 hc_ hb_; have GC := zA (by rw [← hg_]; exact HK.out.1 : w.heap.size ≤ g); replace HCU := zA (HCU.out.below_ hb_); replace HB0 := zA (below_step HB0.out hb_); replace HK := zA (keep_below_ HK.out hb_); have BC := zA hc_; clear hb_ hc_ hg_)
    | (go_at_call 29; refine (l02Byte.cur w0 _ gc HCU.out HB0.out).mono ?_; rintro e w1 ⟨_, rfl, hr_, hcu_, hb0_, hk_⟩; have HR_ := zA hr_; replace BC := zA (BC.out.keep HCU.out hk_); replace HCU := zA (hcu_); replace HB0 := zA (hb0_); replace HK := zA (KeepBut.trans HK.out hk_ (.inl rfl)); clear hr_ hcu_ hb0_ hk_)
    | ((with_reducible refine gate_dst (N := 10) rfl ?_); refine litI_ w.heap.size [255, 253, 0, 1, 200] rfl (N := 10) rfl HK.out.1 (by decide) ?hr ?_; (case hr => first | (go_simp; done) | (go_simp; rfl)); intro v1 w1 ho_ hb_; have HP := zA ho_; replace BC := zA (BC.out.below_ hb_); replace HCU := zA (HCU.out.below_ hb_); replace HB0 := zA (below_step HB0.out hb_); replace HK := zA (keep_below_ HK.out hb_); clear ho_ hb_)
    | (go_at_call 28; refine (l01PickInt.cur w0 _ gc _ (by simp) HP.out HCU.out HB0.out).mono ?_; rintro e w1 ⟨y_, rfl, hy_, hcu_, hb0_, hk_⟩; clear hy_; replace BC := zA (BC.out.keep HCU.out hk_); replace HCU := zA (hcu_); replace HB0 := zA (hb0_); replace HK := zA (KeepBut.trans HK.out hk_ (.inl rfl)); clear HP hcu_ hb0_ hk_)
    | (go_at_call 54; refine (l04Pc.cur w0 _ gc HCU.out HB0.out).mono ?_; rintro e w1 ⟨_, rfl, hr_, hcu_, hb0_, hk_⟩; have HRP := zA hr_; replace BC := zA (BC.out.keep HCU.out hk_); replace HCU := zA (hcu_); replace HB0 := zA (hb0_); replace HK := zA (KeepBut.trans HK.out hk_ (.inl rfl)); clear hr_ hcu_ hb0_ hk_)
    | (go_at_call 55; refine (l02Flags.cur w0 _ gc HCU.out HB0.out).mono ?_; rintro e w1 ⟨_, _, _, _, _, _, rfl, hcu_, hb0_, hk_⟩; replace BC := zA (BC.out.keep HCU.out hk_); replace HCU := zA (hcu_); replace HB0 := zA (hb0_); replace HK := zA (KeepBut.trans HK.out hk_ (.inl rfl)); clear hcu_ hb0_ hk_)
    | ((with_reducible refine gate_st (t := 64) rfl ?_); refine c_stC rfl rfl rfl rfl ⟨_, _, _, _, _, _, _, _, _, _, _, rfl, (by first | exact Aside0.out (by assumption) | exact RB_wrap _ | exact RB_mod _), (by first | exact Aside0.out (by assumption) | exact RB_wrap _ | exact RB_mod _), (by first | exact Aside0.out (by assumption) | exact RB_wrap _ | exact RB_mod _), (by first | exact Aside0.out (by assumption) | exact RB_wrap _ | exact RB_mod _), HRP.out⟩ BC.out ?_; intro w1 hc_ hk_ hb_; replace HCU := zA (HCU.out.other (HCU.out.ne (BC.out.choose_spec.1) (by decide)) hk_); replace BC := zA (hc_); replace HB0 := zA (hb_ _ _ (Nat.le_trans HW.out GC.out) HB0.out); replace HK := zA (keep_own_ HK.out GC.out (hb_ 0 _ (Nat.zero_le _) (Below.refl _ _)) hk_); clear hc_ hk_ hb_)
    | ((with_reducible refine gate_ret ?_); refine c_ret rfl rfl rfl BC.out (fun ds hds => ?_); exact ⟨ds, rfl, hds, HCU.out, HB0.out, HK.out⟩))
set_option maxHeartbeats 8000000 in
set_option maxRecDepth 100000 in
theorem l07Events.cur (w0 w : World) (gc : Nat) (hc : Cur w0 w gc) (hB : Below w0.heap.size w0 w) : Calls Tryz.prog 27 #[.pointer (some ⟨gc, 0, none⟩)] w fun e w1 => ∃ v r, e = .returned v ∧ (Kd.R k97 97 w1 w.heap.size (fun _ => True) v r ∧ r.length ≤ 3) ∧ Drew w0 w w1 gc := by
  have HCU := zA hc
  have HB0 := zA hB
  have HW := zA hB.size
  have HK := zA (KeepBut.refl w gc none)
  clear hc hB
  go_enter Tryz.func27, Tryz.ntmps27
  go_wp2_with (first
    | ((with_reducible refine gate_dst (N := 6) rfl ?_); refine Kd.R_lit k97 _ 97 ?hg (N := 6) ?hd (xs := []) (inner := []) (ok := fun _ => True) (okp := fun _ => True) ?hr ?hp (fun _ hk => hk) trivial (Below.refl _ _) (Nat.le_refl _) (by simp) ?_; (case hd => rfl); (case hg => rfl); (case hr => first | (go_simp; done) | (go_simp; rfl)); (case hp => exact (Reps.none _ _)); intro v0 w1 ho_ hb_ hg_ hnew_; clear hg_ hnew_; have HO := zA (Kd.R_lower ho_ HK.out.1); replace HCU := zA (HCU.out.below_ hb_); replace HB0 := zA (below_step HB0.out hb_); replace HK := zA (keep_below_ HK.out hb_); clear ho_ hb_)
    | (go_at_call 13; refine (l01Below.cur w0 _ gc 4 HCU.out HB0.out).mono ?_; rintro e w1 ⟨x_, rfl, hx_, hcu_, hb0_, hk_⟩; obtain ⟨n, rfl, hn_⟩ := below4 hx_; have HN := zA hn_; clear hx_ hn_; replace HO := zA (R_keep HO.out HCU.out (by decide) hk_); replace HCU := zA (hcu_); replace HB0 := zA (hb0_); replace HK := zA (KeepBut.trans HK.out hk_ (.inl rfl)); clear hcu_ hb0_ hk_))
  go_loopg [3, 5] (n + 1) (fun kq v3 v5 w' => ∃ (i : Nat) (xs : List S97), v5 = .int .i64 (i : Int) ∧ Aside0 (i ≤ n ∧ kq + i = n + 1) ∧ Aside0 (xs.length ≤ i) ∧ Aside0 (Kd.R k97 97 w' w.heap.size (fun _ => True) v3 xs) ∧ Aside0 (Cur w0 w' gc) ∧ Aside0 (Below w0.heap.size w0 w') ∧ Aside0 (KeepBut w w' gc none))
  case atStart => exact ⟨0, [], rfl, ⟨⟨Nat.zero_le _, rfl⟩⟩, ⟨Nat.le_refl _⟩, HO, HCU, HB0, HK⟩
  case round =>
    clear HO HCU HB0 HK
    obtain ⟨i, xs, rfl, HI, HLB, HO, HCU, HB0, HK⟩ := hrel
    have hi2 : (i : Int) ≤ 3 := by have := HI.out; have := HN.out; omega
    rcases Nat.lt_or_ge i n with hin | hin
    rotate_left
    · have c1 : decide ((i : Int) < (n : Int)) = false := decide_eq_false (by omega)
      have c1b : decide (i < n) = false := decide_eq_false (by omega)
      go_wp2_with (first
        | ((with_reducible refine gate_ret ?_); refine bodyPost_ret (results_tmp rfl _ _ _) rfl ?_; exact ⟨_, xs, rfl, ⟨HO.out, Nat.le_trans HLB.out (Nat.le_trans HI.out.1 HN.out)⟩, HCU.out, HB0.out, HK.out⟩))
    have c1 : decide ((i : Int) < (n : Int)) = true := decide_eq_true (by omega)
    have c1b : decide (i < n) = true := decide_eq_true hin
    go_wp2_with (first
      | (go_at_call 13; refine (l01Below.cur w0 _ gc 20 HCU.out HB0.out).mono ?_; rintro e w1 ⟨x_, rfl, hx_, hcu_, hb0_, hk_⟩; clear hx_; replace HO := zA (R_keep HO.out HCU.out (by decide) hk_); replace HCU := zA (hcu_); replace HB0 := zA (hb0_); replace HK := zA (KeepBut.trans HK.out hk_ (.inl rfl)); clear hcu_ hb0_ hk_)
      | (go_at_call 12; refine (l01Once.cur w0 _ gc 3 HCU.out HB0.out).mono ?_; rintro e w1 ⟨b_, rfl, hcu_, hb0_, hk_⟩; replace HO := zA (R_keep HO.out HCU.out (by decide) hk_); replace HCU := zA (hcu_); replace HB0 := zA (hb0_); replace HK := zA (KeepBut.trans HK.out hk_ (.inl rfl)); clear hcu_ hb0_ hk_)
      | ((with_reducible refine gate_builtin (b := .append) (xs := #[.tmp 14, .tmp 20]) rfl ?_); at_builtin; refine Kd.R_append k97 w.heap.size rfl (.tmp 14) (.tmp 20) 74 97 (.agg #[(.int .i64 0), (.bool false)]) 16 rfl Tryz.underlying74 info97 rfl (by decide) (by omega) _ xs (⟨x_, b_⟩ : S97) [.int .i64 x_, .bool b_] (fun _ => True) (fun _ => False) rfl rfl ?aP (fun _ hk => hk.elim) ?aF ?aO (Below.refl _ _) ?aS ?aL ?_; (case aP => exact k97_mkM _ _ _ (⟨x_, b_⟩ : S97)); (case aF => exact (fun _ _ => trivial)); (case aO => exact HO.out); (case aS => exact HK.out.1); (case aL => have := HLB.out; omega); intro v1 w1 ho_ hb_ hg_ hat_; replace HCU := zA (HCU.out.grown HO.out (by decide) hg_); replace HO := zA (ho_); replace HB0 := zA (below_low HB0.out HW.out hb_); replace HK := zA (keep_low_ HK.out hb_); clear ho_ hb_ hg_ hat_)
      | ((with_reducible refine gate_handed ?_); have hlb_ := HLB.out; have hi_ := HI.out; go_roundg (n - i); (case measure => omega); (case rel => exact ⟨i + 1, _, rfl, ⟨by omega⟩, ⟨by rw [List.length_append]; exact Nat.succ_le_succ hlb_⟩, HO, HCU, HB0, HK⟩)))
end Go.Proofs.YtafkbhnhmhmjcaaGreatDoor.Weak
end
section
set_option linter.unusedVariables false
set_option linter.unusedSimpArgs false
namespace Go.Proofs.YtafkbhnhmhmjcaaGreatDoor.Weak
open Go.RowKit Go.Proofs.YtafkbhnhmhmjcaaGreatDoorW.PrintWords Go.Proofs.YtafkbhnhmhmjcaaGreatDoorW.PrintLast Go.Proofs.YtafkbhnhmhmjcaaGreatDoorW.PrintMore Go.Proofs.YtafkbhnhmhmjcaaGreatDoor.PRun Go.Proofs.YtafkbhnhmhmjcaaGreatDoor.DrawRun
set_option maxHeartbeats 8000000 in
set_option maxRecDepth 100000 in
theorem l07Loop.cur (w0 w : World) (gc : Nat) (hc : Cur w0 w gc) (hB : Below w0.heap.size w0 w) : Calls Tryz.prog 39 #[.pointer (some ⟨gc, 0, none⟩)] w fun e w1 => ∃ v r, e = .returned v ∧ (Kd.R (Kd.int .u8) 5 w1 w.heap.size (fun _ => True) v r ∧ Bts 60 r) ∧ Drew w0 w w1 gc := by
  have HCU := zA hc
  have HB0 := zA hB
  have HW := zA hB.size
  have HK := zA (KeepBut.refl w gc none)
  clear hc hB
  go_enter Tryz.func39, Tryz.ntmps39
  go_wp2_with (first
    | ((with_reducible refine gate_dst (N := 10) rfl ?_); refine Kd.R_lit (Kd.int .u8) _ 5 ?hg (N := 10) ?hd (xs := []) (inner := []) (ok := fun _ => True) (okp := fun _ => True) ?hr ?hp (fun _ hk => hk) trivial (Below.refl _ _) (Nat.le_refl _) (by simp) ?_; (case hd => rfl); (case hg => rfl); (case hr => first | (go_simp; done) | (go_simp; rfl)); (case hp => exact (Reps.none _ _)); intro v0 w1 ho_ hb_ hg_ hnew_; clear hg_ hnew_; have HO := zA (Kd.R_lower ho_ HK.out.1); replace HCU := zA (HCU.out.below_ hb_); replace HB0 := zA (below_step HB0.out hb_); replace HK := zA (keep_below_ HK.out hb_); clear ho_ hb_)
    | (go_at_call 13; refine (l01Below.cur w0 _ gc 14 HCU.out HB0.out).mono ?_; rintro e w1 ⟨x_, rfl, hx_, hcu_, hb0_, hk_⟩; have HX := zA (hx_.1 (by decide)); clear hx_; replace HO := zA (R_keep HO.out HCU.out (by decide) hk_); replace HCU := zA (hcu_); replace HB0 := zA (hb0_); replace HK := zA (KeepBut.trans HK.out hk_ (.inl rfl)); clear hcu_ hb0_ hk_))
  obtain ⟨n, hn_, hn2_⟩ : ∃ n : Nat, wrap64 (3 + x_) = (n : Int) ∧ n ≤ 16 := ⟨(3 + x_).toNat, by have h_ := HX.out; unfold wrap64; omega, by have h_ := HX.out; omega⟩
  rw [hn_]
  have HN := zA hn2_
  clear hn_ hn2_ HX
  go_loopg [3, 5] (n + 1) (fun kq v3 v5 w' => ∃ (i : Nat) (xs : List Int), v5 = .int .i64 (i : Int) ∧ Aside0 (i ≤ n ∧ kq + i = n + 1) ∧ Aside0 (Bts (3 * i) xs) ∧ Aside0 (Kd.R (Kd.int .u8) 5 w' w.heap.size (fun _ => True) v3 xs) ∧ Aside0 (Cur w0 w' gc) ∧ Aside0 (Below w0.heap.size w0 w') ∧ Aside0 (KeepBut w w' gc none))
  case atStart => exact ⟨0, [], rfl, ⟨⟨Nat.zero_le _, rfl⟩⟩, ⟨Bts.nil _⟩, HO, HCU, HB0, HK⟩
  case round =>
    clear HO HCU HB0 HK
    obtain ⟨i, xs, rfl, HI, HLB, HO, HCU, HB0, HK⟩ := hrel
    have hi2 : (i : Int) ≤ 16 := by have := HI.out; have := HN.out; omega
    rcases Nat.lt_or_ge i n with hin | hin
    rotate_left
    · have c1 : decide ((i : Int) < (n : Int)) = false := decide_eq_false (by omega)
      have c1b : decide (i < n) = false := decide_eq_false (by omega)
      go_wp2_with (first
        | ((with_reducible refine gate_ret ?_); refine bodyPost_ret (results_tmp rfl _ _ _) rfl ?_; exact ⟨_, xs, rfl, ⟨HO.out, HLB.out.up (by have := HI.out; have := HN.out; omega)⟩, HCU.out, HB0.out, HK.out⟩))
    have c1 : decide ((i : Int) < (n : Int)) = true := decide_eq_true (by omega)
    have c1b : decide (i < n) = true := decide_eq_true hin
    go_upto_block 2 with ((go_at_call 56; refine (l03Code.cur w0 _ gc HCU.out HB0.out).mono ?_; rintro e w1 ⟨b, rfl, hrb_, hcu_, hb0_, hk_⟩; (try clear HRB); replace HO := zA (R_keep HO.out HCU.out (by decide) hk_); replace HCU := zA (hcu_); replace HB0 := zA (hb0_); replace HK := zA (KeepBut.trans HK.out hk_ (.inl rfl)); have HRB := zA hrb_; clear hrb_ hcu_ hb0_ hk_))
    (try simp only [Act.put, List.setIfInBounds_toArray, List.set_cons_zero, List.set_cons_succ])
    clear c1 c1b
    go_cut [6] (fun v6 w' => ∃ b : Int, v6 = .int .u8 b ∧ Aside0 (RB b) ∧ Aside0 (Kd.R (Kd.int .u8) 5 w' w.heap.size (fun _ => True) u3 xs) ∧ Aside0 (Cur w0 w' gc) ∧ Aside0 (Below w0.heap.size w0 w') ∧ Aside0 (KeepBut w w' gc none))
    case first =>
      go_wp2
      go_loopg [6, 7] 5 (fun kq v6 v7 w' => ∃ (b : Int) (k : Nat), v6 = .int .u8 b ∧ v7 = .int .i64 (k : Int) ∧ Aside0 (k ≤ 4 ∧ kq + k = 5) ∧ Aside0 (RB b) ∧ Aside0 (Kd.R (Kd.int .u8) 5 w' w.heap.size (fun _ => True) u3 xs) ∧ Aside0 (Cur w0 w' gc) ∧ Aside0 (Below w0.heap.size w0 w') ∧ Aside0 (KeepBut w w' gc none))
      case atStart => exact ⟨_, 0, rfl, rfl, ⟨⟨by decide, rfl⟩⟩, HRB, HO, HCU, HB0, HK⟩
      case round =>
        clear HRB HO HCU HB0 HK
        obtain ⟨b, k, rfl, rfl, HKK, HRB, HO, HCU, HB0, HK⟩ := hrel
        have hk2 : (k : Int) ≤ 4 := by have := HKK.out; omega
        rcases Nat.lt_or_ge k 4 with hk4 | hk4
        rotate_left
        · have c1 : decide ((k : Int) < 4) = false := decide_eq_false (by omega)
          have c1b : decide (k < 4) = false := decide_eq_false (by omega)
          go_wp2_with (first
            | ((with_reducible refine gate_met ?_); go_meet; (case rel => exact ⟨_, rfl, HRB, HO, HCU, HB0, HK⟩)))
        have c1 : decide ((k : Int) < 4) = true := decide_eq_true (by omega)
        have c1b : decide (k < 4) = true := decide_eq_true hk4
        go_wp2_with (first
          | (go_at_call 57; refine (KindOf.any _ HRB.out _).mono ?_; rintro e w1 ⟨_, rfl, hb_⟩; replace HO := zA (Kd.R_below HO.out hb_); replace HCU := zA (HCU.out.below_ hb_); replace HB0 := zA (below_step HB0.out hb_); replace HK := zA (keep_below_ HK.out hb_); clear hb_)
          | (go_at_call 56; refine (l03Code.cur w0 _ gc HCU.out HB0.out).mono ?_; rintro e w1 ⟨b, rfl, hrb_, hcu_, hb0_, hk_⟩; (try clear HRB); replace HO := zA (R_keep HO.out HCU.out (by decide) hk_); replace HCU := zA (hcu_); replace HB0 := zA (hb0_); replace HK := zA (KeepBut.trans HK.out hk_ (.inl rfl)); have HRB := zA hrb_; clear hrb_ hcu_ hb0_ hk_)
          | ((with_reducible refine gate_met ?_); go_meet; (case rel => exact ⟨_, rfl, HRB, HO, HCU, HB0, HK⟩))
          | ((with_reducible refine gate_handed ?_); have hkk_ := HKK.out; go_roundg (4 - k); (case measure => omega); (case rel => exact ⟨b, k + 1, rfl, rfl, ⟨by omega⟩, HRB, HO, HCU, HB0, HK⟩)))
    case rest =>
      clear HRB HO HCU HB0 HK
      obtain ⟨b, rfl, HRB, HO, HCU, HB0, HK⟩ := hcut
      go_wp2_with (first
        | ((with_reducible refine gate_builtin (b := .append) (xs := #[.tmp 57, .tmp 59]) rfl ?_); at_builtin; refine Kd.R_append (Kd.int .u8) w.heap.size rfl (.tmp 57) (.tmp 59) 22 5 (.int .u8 0) 1 rfl Tryz.underlying22 info5 rfl (by decide) (by omega) _ xs (b) [.int .u8 (b)] (fun _ => True) (fun _ => False) rfl rfl ?aP (fun _ hk => hk.elim) ?aF ?aO (Below.refl _ _) ?aS ?aL ?_; (case aP => exact rfl); (case aF => exact (fun _ _ => trivial)); (case aO => exact HO.out); (case aS => exact HK.out.1); (case aL => have := HLB.out.1; omega); intro v1 w1 ho_ hb_ hg_ hat_; have HLn_ := zA (HLB.out.snoc (HRB.out : RB (b))); replace HCU := zA (HCU.out.grown HO.out (by decide) hg_); replace HO := zA (ho_); replace HB0 := zA (below_low HB0.out HW.out hb_); replace HK := zA (keep_low_ HK.out hb_); clear HLB ho_ hb_ hg_ hat_; have HLB := HLn_; clear HLn_))
      go_loopg [3, 8] 4 (fun kq v3 v8 w' => ∃ (k : Nat) (xs : List Int), v8 = .int .i64 (k : Int) ∧ Aside0 (1 ≤ k ∧ k ≤ 3 ∧ kq + k = 5) ∧ Aside0 (Bts (3 * i + k) xs) ∧ Aside0 (Kd.R (Kd.int .u8) 5 w' w.heap.size (fun _ => True) v3 xs) ∧ Aside0 (Cur w0 w' gc) ∧ Aside0 (Below w0.heap.size w0 w') ∧ Aside0 (KeepBut w w' gc none))
      case atStart => exact ⟨1, _, rfl, ⟨by omega⟩, HLB, HO, HCU, HB0, HK⟩
      case round =>
        clear HLB HO HCU HB0 HK
        obtain ⟨k, xs, rfl, HKK, HLB, HO, HCU, HB0, HK⟩ := hrel
        have hk2 : (k : Int) ≤ 3 := by have := HKK.out; omega
        go_wp2_with (first
          | (go_at_call 58; refine (SizeOf.le3 _ HRB.out _).mono ?_; rintro e w1 ⟨s_, rfl, hs_, hb_⟩; have HS := zA hs_; replace HO := zA (Kd.R_below HO.out hb_); replace HCU := zA (HCU.out.below_ hb_); replace HB0 := zA (below_step HB0.out hb_); replace HK := zA (keep_below_ HK.out hb_); clear hb_ hs_; obtain ⟨q_, hq_⟩ : ∃ q : Bool, decide ((k : Int) < s_) = q := ⟨_, rfl⟩; cases q_ <;> (have HQ := zA (p := decide ((k : Int) < s_) = true → k ≤ 2) (fun h_ => by have h1_ := of_decide_eq_true h_; have := HS.out; omega); have HQ2 := zA hq_))
          | (go_at_call 29; refine (l02Byte.cur w0 _ gc HCU.out HB0.out).mono ?_; rintro e w1 ⟨x_, rfl, hrx_, hcu_, hb0_, hk_⟩; (try clear HRX); replace HO := zA (R_keep HO.out HCU.out (by decide) hk_); replace HCU := zA (hcu_); replace HB0 := zA (hb0_); replace HK := zA (KeepBut.trans HK.out hk_ (.inl rfl)); have HRX := zA hrx_; clear hrx_ hcu_ hb0_ hk_)
          | (go_at_call 57; refine (KindOf.any _ HRB.out _).mono ?_; rintro e w1 ⟨_, rfl, hb_⟩; replace HO := zA (Kd.R_below HO.out hb_); replace HCU := zA (HCU.out.below_ hb_); replace HB0 := zA (below_step HB0.out hb_); replace HK := zA (keep_below_ HK.out hb_); clear hb_)
          | ((with_reducible refine gate_dst (N := 73) rfl ?_); refine litI_ w.heap.size [0, 1, 2, 5, 254, 250, 3] rfl (N := 73) rfl HK.out.1 (by decide) ?hr ?_; (case hr => first | (go_simp; done) | (go_simp; rfl)); intro v1 w1 ho_ hb_; have HP := zA ho_; replace HO := zA (Kd.R_below HO.out hb_); replace HCU := zA (HCU.out.below_ hb_); replace HB0 := zA (below_step HB0.out hb_); replace HK := zA (keep_below_ HK.out hb_); clear ho_ hb_)
          | (go_at_call 28; refine (l01PickInt.cur w0 _ gc _ (by decide) HP.out HCU.out HB0.out).mono ?_; rintro e w1 ⟨y_, rfl, hy_, hcu_, hb0_, hk_⟩; clear hy_; replace HO := zA (R_keep HO.out HCU.out (by decide) hk_); replace HCU := zA (hcu_); replace HB0 := zA (hb0_); replace HK := zA (KeepBut.trans HK.out hk_ (.inl rfl)); clear HP hcu_ hb0_ hk_; try clear HRX)
          | ((with_reducible refine gate_builtin (b := .append) (xs := #[.tmp 76, .tmp 78]) rfl ?_); first | ((with_reducible refine gate_builtin (b := .append) (xs := #[.tmp 76, .tmp 78]) rfl ?_); at_builtin; refine Kd.R_append (Kd.int .u8) w.heap.size rfl (.tmp 76) (.tmp 78) 22 5 (.int .u8 0) 1 rfl Tryz.underlying22 info5 rfl (by decide) (by omega) _ xs (x_) [.int .u8 (x_)] (fun _ => True) (fun _ => False) rfl rfl ?aP (fun _ hk => hk.elim) ?aF ?aO (Below.refl _ _) ?aS ?aL ?_; (case aP => exact rfl); (case aF => exact (fun _ _ => trivial)); (case aO => exact HO.out); (case aS => exact HK.out.1); (case aL => have := HLB.out.1; omega); intro v1 w1 ho_ hb_ hg_ hat_; have HLn_ := zA (HLB.out.snoc (HRX.out : RB (x_))); replace HCU := zA (HCU.out.grown HO.out (by decide) hg_); replace HO := zA (ho_); replace HB0 := zA (below_low HB0.out HW.out hb_); replace HK := zA (keep_low_ HK.out hb_); clear HLB ho_ hb_ hg_ hat_; have HLB := HLn_; clear HLn_) | ((with_reducible refine gate_builtin (b := .append) (xs := #[.tmp 76, .tmp 78]) rfl ?_); at_builtin; refine Kd.R_append (Kd.int .u8) w.heap.size rfl (.tmp 76) (.tmp 78) 22 5 (.int .u8 0) 1 rfl Tryz.underlying22 info5 rfl (by decide) (by omega) _ xs (IntKind.u8.wrap y_) [.int .u8 (IntKind.u8.wrap y_)] (fun _ => True) (fun _ => False) rfl rfl ?aP (fun _ hk => hk.elim) ?aF ?aO (Below.refl _ _) ?aS ?aL ?_; (case aP => exact rfl); (case aF => exact (fun _ _ => trivial)); (case aO => exact HO.out); (case aS => exact HK.out.1); (case aL => have := HLB.out.1; omega); intro v1 w1 ho_ hb_ hg_ hat_; have HLn_ := zA (HLB.out.snoc (RB_wrap _ : RB (IntKind.u8.wrap y_))); replace HCU := zA (HCU.out.grown HO.out (by decide) hg_); replace HO := zA (ho_); replace HB0 := zA (below_low HB0.out HW.out hb_); replace HK := zA (keep_low_ HK.out hb_); clear HLB ho_ hb_ hg_ hat_; have HLB := HLn_; clear HLn_))
          | ((with_reducible refine gate_handed ?_); first | (have hq_ := HQ.out HQ2.out; have hkk_ := HKK.out; go_roundg (4 - k); (case measure => omega); (case rel => exact ⟨k + 1, _, rfl, ⟨by omega⟩, HLB, HO, HCU, HB0, HK⟩)) | (have hkk_ := HKK.out; have hi_ := HI.out; go_roundg (n - i); (case measure => omega); (case rel => exact ⟨i + 1, _, rfl, ⟨by omega⟩, ⟨HLB.out.up (by omega)⟩, HO, HCU, HB0, HK⟩))))
end Go.Proofs.YtafkbhnhmhmjcaaGreatDoor.Weak
end
