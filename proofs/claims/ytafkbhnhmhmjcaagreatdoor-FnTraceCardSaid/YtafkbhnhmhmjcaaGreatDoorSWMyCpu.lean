import Derived.Test.YtafkbhnhmhmjcaaGreatDoorSWPRunx0
import Derived.StillTailTactics
import Derived.Handy
section
set_option linter.unusedVariables false
namespace Go.Proofs.YtafkbhnhmhmjcaaGreatDoor.PRun
open Go.RowKit Go.Proofs.YtafkbhnhmhmjcaaGreatDoorW.PrintWords Go.Proofs.YtafkbhnhmhmjcaaGreatDoorW.PrintLast Go.Proofs.YtafkbhnhmhmjcaaGreatDoorW.PrintMore
structure S62 where
  f0 : Bool
  f1 : Bool
  f2 : Bool
  f3 : Bool
  f4 : Bool
  f5 : Bool
def k62 : Kd S62 := Kd.iso (Kd.pair Kd.bool (Kd.pair Kd.bool (Kd.pair Kd.bool (Kd.pair Kd.bool (Kd.pair Kd.bool Kd.bool))))) (fun x : S62 => (x.f0, x.f1, x.f2, x.f3, x.f4, x.f5))
theorem k62_mkM (w : World) (base : Nat) (ok : Nat → Prop) (x : S62)  : k62.M w base ok x [.bool x.f0, .bool x.f1, .bool x.f2, .bool x.f3, .bool x.f4, .bool x.f5] := ⟨[.bool x.f0], [.bool x.f1, .bool x.f2, .bool x.f3, .bool x.f4, .bool x.f5], rfl, rfl, ⟨[.bool x.f1], [.bool x.f2, .bool x.f3, .bool x.f4, .bool x.f5], rfl, rfl, ⟨[.bool x.f2], [.bool x.f3, .bool x.f4, .bool x.f5], rfl, rfl, ⟨[.bool x.f3], [.bool x.f4, .bool x.f5], rfl, rfl, ⟨[.bool x.f4], [.bool x.f5], rfl, rfl, rfl⟩⟩⟩⟩⟩
structure S64 where
  f0 : Int
  f1 : Int
  f2 : Int
  f3 : Int
  f4 : Int
  f5 : S62
def k64 : Kd S64 := Kd.iso (Kd.pair (Kd.int .u8) (Kd.pair (Kd.int .u8) (Kd.pair (Kd.int .u8) (Kd.pair (Kd.int .u8) (Kd.pair (Kd.int .u16) k62))))) (fun x : S64 => (x.f0, x.f1, x.f2, x.f3, x.f4, x.f5))
theorem k64_mkM (w : World) (base : Nat) (ok : Nat → Prop) (x : S64)  : k64.M w base ok x [.int .u8 x.f0, .int .u8 x.f1, .int .u8 x.f2, .int .u8 x.f3, .int .u16 x.f4, .bool x.f5.f0, .bool x.f5.f1, .bool x.f5.f2, .bool x.f5.f3, .bool x.f5.f4, .bool x.f5.f5] := ⟨[.int .u8 x.f0], [.int .u8 x.f1, .int .u8 x.f2, .int .u8 x.f3, .int .u16 x.f4, .bool x.f5.f0, .bool x.f5.f1, .bool x.f5.f2, .bool x.f5.f3, .bool x.f5.f4, .bool x.f5.f5], rfl, rfl, ⟨[.int .u8 x.f1], [.int .u8 x.f2, .int .u8 x.f3, .int .u16 x.f4, .bool x.f5.f0, .bool x.f5.f1, .bool x.f5.f2, .bool x.f5.f3, .bool x.f5.f4, .bool x.f5.f5], rfl, rfl, ⟨[.int .u8 x.f2], [.int .u8 x.f3, .int .u16 x.f4, .bool x.f5.f0, .bool x.f5.f1, .bool x.f5.f2, .bool x.f5.f3, .bool x.f5.f4, .bool x.f5.f5], rfl, rfl, ⟨[.int .u8 x.f3], [.int .u16 x.f4, .bool x.f5.f0, .bool x.f5.f1, .bool x.f5.f2, .bool x.f5.f3, .bool x.f5.f4, .bool x.f5.f5], rfl, rfl, ⟨[.int .u16 x.f4], [.bool x.f5.f0, .bool x.f5.f1, .bool x.f5.f2, .bool x.f5.f3, .bool x.f5.f4, .bool x.f5.f5], rfl, rfl, (k62_mkM w base ok x.f5 )⟩⟩⟩⟩⟩
end Go.Proofs.YtafkbhnhmhmjcaaGreatDoor.PRun
end
section
set_option linter.unusedVariables false
set_option linter.unusedSimpArgs false
namespace Go.Proofs.YtafkbhnhmhmjcaaGreatDoor.Weak
open Go.RowKit Go.Proofs.YtafkbhnhmhmjcaaGreatDoorW.PrintWords Go.Proofs.YtafkbhnhmhmjcaaGreatDoorW.PrintLast Go.Proofs.YtafkbhnhmhmjcaaGreatDoorW.PrintMore Go.Proofs.YtafkbhnhmhmjcaaGreatDoor.PRun
def RB (x : Int) : Prop := 0 ≤ x ∧ x ≤ 255
theorem RB_mod (x : Int) : RB (x % 256) := by unfold RB; omega
theorem RB_wrap (x : Int) : RB (IntKind.u8.wrap x) := by rw [IntKind.wrap_u8]; exact RB_mod x
theorem RB_bits (o : BinOp) (a b : Int) : RB (Go.bits o .u8 a b) := by
  unfold Go.bits
  exact RB_wrap _
def RP (x : Int) : Prop := 0 ≤ x ∧ x ≤ 65535
theorem RP_mod (x : Int) : RP (x % 65536) := by unfold RP; omega
def CB (c : S43) : Prop := RP c.f0 ∧ RB c.f1
structure FB (B : Nat) (w w' : World) : Prop where
  os : w'.os = w.os
  tape : w'.tape = w.tape
  output : w'.output = w.output
  size : w.heap.size ≤ w'.heap.size
  block : ∀ k, k < w.heap.size → (k < B ∨ ∃ cs t, w.heap[k]? = some (.cells cs t (0, 0)) ∧ t ≠ 112 ∧ t ≠ 5 ∧ t ≠ 43) → w'.heap[k]? = w.heap[k]?
theorem FB.refl (B : Nat) (w : World) : FB B w w := ⟨rfl, rfl, rfl, Nat.le_refl _, fun _ _ _ => rfl⟩
theorem FB.of_below {B : Nat} {w w' : World} (h : Below w.heap.size w w') : FB B w w' := ⟨h.os, h.tape, h.output, h.size, fun k hk _ => h.block k hk⟩
theorem FB.trans {B : Nat} {w w' w'' : World} (h : FB B w w') (h' : FB B w' w'') : FB B w w'' := by
  refine ⟨h'.os.trans h.os, h'.tape.trans h.tape, h'.output.trans h.output, Nat.le_trans h.size h'.size, fun k hk ho => ?_⟩
  have h1 := h.block k hk ho
  refine (h'.block k (Nat.lt_of_lt_of_le hk h.size) ?_).trans h1
  rcases ho with ho | ⟨cs, t, ho, ht⟩
  · exact .inl ho
  · exact .inr ⟨cs, t, h1.trans ho, ht⟩
theorem FB.below {B : Nat} {w w' : World} (h : FB B w w') (hB : B ≤ w.heap.size) : Below B w w' := ⟨h.os, h.tape, h.output, h.size, fun k hk => h.block k (Nat.lt_of_lt_of_le hk hB) (.inl hk)⟩
def Bus (w : World) (gb B ln n : Nat) : Prop := ∃ vm vl mem log, w.heap[gb]? = some (.cells #[vm, vl] 112 (0, 0)) ∧ B ≤ gb ∧ Kd.R (Kd.int .u8) 5 w B (fun _ => True) vm mem ∧ mem.length = ln ∧ (∀ x, x ∈ mem → RB x) ∧
  Kd.R k43 43 w B (fun _ => True) vl log ∧ log.length = n ∧ (∀ c, c ∈ log → CB c)
theorem Bus.below_ {w w' : World} {gb B ln n : Nat} (h : Bus w gb B ln n) (hb : Below w.heap.size w w') : Bus w' gb B ln n := by
  obtain ⟨vm, vl, mem, log, h1, h2, h3, h4, h5, h6, h7, h8⟩ := h
  exact ⟨vm, vl, mem, log, blk_below h1 hb, h2, Kd.R_below h3 hb, h4, h5, Kd.R_below h6 hb, h7, h8⟩
theorem logged {B gb : Nat} {w W w1 : World} {vm v v1 : Value} {mem : List Int} {log : List S43} (x : S43) (h1 : W.heap[gb]? = some (.cells #[vm, v] 112 (0, 0))) (h2 : B ≤ gb) (h3 : Kd.R (Kd.int .u8) 5 W B (fun _ => True) vm mem) (h5 : ∀ x, x ∈ mem → RB x)
    (h6 : Kd.R k43 43 W B (fun _ => True) v log) (h8 : ∀ c, c ∈ log → CB c) (hx : CB x) (ho : Kd.R k43 43 w1 B (fun _ => True) v1 (log ++ [x])) (hb : Below B w w1) (hg : W.grownBy w1 v.ownBlock) (hs : W.heap.size = w.heap.size)
    (hW : ∀ k, k < w.heap.size → (k < B ∨ ∃ cs t, w.heap[k]? = some (.cells cs t (0, 0)) ∧ t ≠ 112 ∧ t ≠ 5 ∧ t ≠ 43) → W.heap[k]? = w.heap[k]?) :
    Bus (w1.setCell ⟨gb, 1, none⟩ v1) gb B mem.length (log.length + 1) ∧ FB B w (w1.setCell ⟨gb, 1, none⟩ v1) := by
  have h1' : w1.heap[gb]? = some (.cells #[vm, v] 112 (0, 0)) := (hg.block gb (blk_lt h1) (Kd.R_ne h6 h1 (by decide))).trans h1
  have hbs : Below B w (w1.setCell ⟨gb, 1, none⟩ v1) := hb.setCell h2 v1
  refine ⟨⟨vm, v1, mem, log ++ [x], blk_put (cs := #[vm, v]) h1' 1 v1 rfl, h2, Kd.R_set (Kd.R_over h3 h6 (by decide) hg) h1' (by decide) 1 v1, rfl, h5, Kd.R_set ho h1' (by decide) 1 v1, by simp, ?_⟩, ⟨hbs.os, hbs.tape, hbs.output, hbs.size, fun k hk hc => ?_⟩⟩
  · intro c hc
    rcases List.mem_append.mp hc with hc | hc
    · exact h8 c hc
    · rw [List.mem_singleton.mp hc]; exact hx
  · have e0 := hW k hk hc
    have e1 : k ≠ gb := by
      rintro rfl
      rcases hc with hc | ⟨cs, t, hc, ht⟩
      · omega
      · rw [← e0, h1] at hc
        injection hc with hc
        injection hc with _ hc
        exact ht.1 hc.symm
    have e2 : some k ≠ v.ownBlock := by
      rcases hc with hc | ⟨cs, t, hc, ht⟩
      · intro e; have := Kd.R_base h6 k e.symm; omega
      · exact Kd.R_ne h6 (e0.trans hc) (fun e => ht.2.2 e.symm)
    exact ((Below.heap_setCell w1 ⟨gb, 1, none⟩ v1 k e1).trans (hg.block k (by omega) e2)).trans e0
theorem RP_u16 {a : Int} (h : RP a) : RP (IntKind.u16.wrap a) := by
  rw [IntKind.wrap_u16]; exact RP_mod a
theorem tail_ {P : Program} {id : Nat} {Q : Exit → Act → World → Prop} {a : Act} {w : World} {l : List Oper} (n : Nat) (hm : P.follows .mixedOrders = true) (hB : Region.lexTailB .any l.toArray n = true)
    (h : ∀ wd, wd = World.drew w → wpStill P l.toArray wd (fun a' => wpList P l.toArray Q (l.drop n) a' wd) (l.take n) a) : (Code.region id l.toArray true).wp P Q a w :=
  wp_region_still_tail n hm hB (h _ rfl)
theorem gate_ret {P : Program} {fn : Func} {R : Ending → World → Prop} {a : Act} {w : World} (h : bodyPost P fn R .ret a w) : bodyPost P fn R .ret a w := h
theorem gate_handed {J : Nat → Act → World → Prop} {n : Nat} {a : Act} {w : World} (h : Handed J n a w) : Handed J n a w := h
theorem gate_region {P : Program} {id : Nat} {ops : Array Oper} {b : Bool} {Q : Exit → Act → World → Prop} {a : Act} {w : World} (h : (Code.region id ops b).wp P Q a w) : (Code.region id ops b).wp P Q a w := h
theorem start_k {P : Program} {ops : Array Oper} {Q : Exit → Act → World → Prop} {S : World → Prop} {ds : List Nat} {id n : Nat} {a : Act} {w : World} (l : Array Bool) (hm : P.follows .mixedOrders = true) (hn : ops.size = n) (hl : Array.replicate n false = l) (hS : S w)
    (hT : ∀ w1, w1.heap = w.heap → S w → S w1) (h : ∀ w1, S w1 → Below w.heap.size w w1 → wpAnyLast P .any ops Q S ds n l a w1) : (Code.region id ops true).wp P Q a w :=
  start_ l hm hn hl (hT _ rfl hS) (fun hs => h _ hs (below_drew (Below.refl _ _)))
theorem and_wide (x : Int) : RP (Go.bits .and .i64 x 65535) := by
  unfold Go.bits
  simp only [BitVec.toNat_and]
  have h1 : (BitVec.ofInt IntKind.i64.bits 65535).toNat = 65535 := by decide
  rw [h1]
  have h2 : (BitVec.ofInt IntKind.i64.bits x).toNat &&& 65535 ≤ 65535 := Nat.and_le_right
  generalize (BitVec.ofInt IntKind.i64.bits x).toNat &&& 65535 = m at h2
  rw [IntKind.wrap_i64]
  unfold RP
  omega
set_option maxHeartbeats 8000000 in
set_option maxRecDepth 100000 in
theorem l06Read.any (w : World) (gb B ln n : Nat) (addr : Int) (hl : 0 < ln ∧ ln ≤ 65536) (hn : n ≤ 1000) (hB : B ≤ w.heap.size) (h : Bus w gb B ln n) :
    Calls Tryz.prog 59 #[.pointer (some ⟨gb, 0, none⟩), .int .i64 addr] w fun e w' => ∃ d, e = .returned (.int .u8 d) ∧ RB d ∧ Bus w' gb B ln (n + 1) ∧ FB B w w' := by
  obtain ⟨vm, vl, mem, log, h1, h2, h3, h4, h5, h6, h7, h8⟩ := h
  subst h4 h7
  have HA := and_wide addr
  obtain ⟨gm, cm, rfl, hgm, hgl, cells, hcm⟩ := Kd.R_form h3 (by omega)
  obtain ⟨Al, cl, rfl⟩ := Kd.R_slice h6
  go_enter Tryz.func59, Tryz.ntmps59
  go_wp2
  generalize Go.bits .and .i64 addr 65535 = a at HA ⊢
  have hc0 : w.cell? ⟨gb, 0, none⟩ = some (.slice (some ⟨gm, 0, none⟩) mem.length cm) := (blk_cell h1 0).trans rfl
  have hc1 : w.cell? ⟨gb, 1, none⟩ = some (.slice Al log.length cl) := (blk_cell h1 1).trans rfl
  have hf1 := blk_frozen h1 1
  have z0 : ((mem.length : Int) = 0) = False := eq_false (by omega)
  have z1 : (mem.length = 0) = False := eq_false (by omega)
  have p0 : 0 ≤ Int.tmod a mem.length := Int.tmod_nonneg _ HA.1
  have p1 : Int.tmod a mem.length < mem.length := Int.tmod_lt_of_pos _ (by omega)
  obtain ⟨hx, hfx⟩ := Kd.R_celln 0 h3 (Int.tmod a mem.length) p0 p1
  have hd : RB (rdOf 0 mem (Int.tmod a mem.length)) := by
    unfold rdOf
    rw [List.getD_eq_getElem?_getD, List.getElem?_eq_getElem (by omega)]
    exact h5 _ (List.getElem_mem _)
  generalize rdOf 0 mem (Int.tmod a mem.length) = d at hx hd
  replace p0 := eq_true p0
  replace p1 := eq_true p1
  go_quiet (fail)
  have HF1 := zA h1
  have HF6 := zA h6
  have HL := zA hn
  go_wp2_with (first | ((with_reducible refine gate_builtin (b := .append) (xs := #[.tmp 26, .tmp 31]) rfl ?_); at_builtin; refine Kd.R_append k43 (w0 := w) B rfl (.tmp 26) (.tmp 31) 24 43 (.agg #[(.int .u16 0), (.int .u8 0), (.bool false)]) 4 rfl Tryz.underlying24 info43 rfl (by decide) (by omega) (.slice Al log.length cl) log (⟨IntKind.u16.wrap a, d, false⟩ : S43) [.int .u16 (IntKind.u16.wrap a), .int .u8 d, .bool false] (fun _ => True) (fun _ => False) rfl rfl ?aP (fun _ hk => hk.elim) ?aF ?aO ?aB ?aS ?aL ?_; (case aP => exact k43_mkM _ _ _ (⟨IntKind.u16.wrap a, d, false⟩ : S43)); (case aB => exact pw_below_drewN (Below.refl _ _) _); (case aF => exact (fun _ _ => trivial)); (case aO => exact Kd.R_drewN h6 _); (case aS => exact hB); (case aL => have := HL.out; omega); intro v1 w1 ho hb hg hat; obtain ⟨A1, c1, rfl⟩ := Kd.R_slice ho; have h1' : w1.heap[gb]? = some (.cells #[.slice (some ⟨gm, 0, none⟩) mem.length cm, .slice Al log.length cl] 112 (0, 0)) := (hg.block gb (blk_lt h1) (Kd.R_ne h6 h1 (by decide))).trans h1; have hc1' := blk_cell h1' 1; have hf1' := blk_frozen h1' 1; have HO := zA ho; have HG := zA hg; have HH := zA h1'; clear ho hg h1' hat))
  go_ret
  have hz := logged (w := w) (W := w.drewN nq) ⟨IntKind.u16.wrap a, d, false⟩ (show (w.drewN nq).heap[gb]? = _ from h1) h2 (Kd.R_drewN h3 _) h5 (Kd.R_drewN h6 _) h8 ⟨RP_u16 HA, hd⟩ HO.out hb HG.out rfl (fun k _ _ => rfl)
  simp only [List.length_append, List.length_cons, List.length_nil] at hz
  exact ⟨d, rfl, hd, hz⟩
set_option maxHeartbeats 8000000 in
set_option maxRecDepth 100000 in
theorem l06Write.any (w : World) (gb B ln n : Nat) (addr d : Int) (hd : RB d) (hl : 0 < ln ∧ ln ≤ 65536) (hn : n ≤ 1000) (hB : B ≤ w.heap.size) (h : Bus w gb B ln n) :
    Calls Tryz.prog 74 #[.pointer (some ⟨gb, 0, none⟩), .int .i64 addr, .int .u8 d] w fun e w' => e = .returned (.tuple #[]) ∧ Bus w' gb B ln (n + 1) ∧ FB B w w' := by
  obtain ⟨vm, vl, mem, log, h1, h2, h3, h4, h5, h6, h7, h8⟩ := h
  subst h4 h7
  have HA := and_wide addr
  obtain ⟨gm, cm, rfl, hgm, hgl, cells, hcm⟩ := Kd.R_form h3 (by omega)
  obtain ⟨Al, cl, rfl⟩ := Kd.R_slice h6
  go_enter Tryz.func74, Tryz.ntmps74
  go_wp2
  generalize Go.bits .and .i64 addr 65535 = a at HA ⊢
  refine tail_ 13 (by decide +kernel) (by decide +kernel) (fun wd HD => ?_)
  try simp only [List.take_succ_cons, List.take_zero, List.drop_succ_cons, List.drop_zero]
  have hh : wd.heap = w.heap := by rw [HD]; rfl
  have hbd : Below B w wd := by rw [HD]; exact below_drew (Below.refl _ _)
  have k1 : wd.heap[gb]? = some (.cells #[.slice (some ⟨gm, 0, none⟩) mem.length cm, .slice Al log.length cl] 112 (0, 0)) := by rw [hh]; exact h1
  have km : wd.heap[gm]? = some (.cells cells 5 (0, 0)) := by rw [hh]; exact hcm
  have k3 := Kd.R_below h3 (w1 := wd) (by rw [HD]; exact below_drew (Below.refl _ _))
  have k6 := Kd.R_below h6 (w1 := wd) (by rw [HD]; exact below_drew (Below.refl _ _))
  clear HD
  have hne : gb ≠ gm := by
    intro e
    exact Kd.R_ne h3 h1 (by decide) (by rw [e]; rfl)
  have hne' : gm ≠ gb := fun e => hne e.symm
  have hc0 : wd.cell? ⟨gb, 0, none⟩ = some (.slice (some ⟨gm, 0, none⟩) mem.length cm) := (blk_cell k1 0).trans rfl
  have hc1 : wd.cell? ⟨gb, 1, none⟩ = some (.slice Al log.length cl) := (blk_cell k1 1).trans rfl
  have hf1 := blk_frozen k1 1
  have z0 : ((mem.length : Int) = 0) = False := eq_false (by omega)
  have z1 : (mem.length = 0) = False := eq_false (by omega)
  have p0 : 0 ≤ Int.tmod a mem.length := Int.tmod_nonneg _ HA.1
  have p1 : Int.tmod a mem.length < mem.length := Int.tmod_lt_of_pos _ (by omega)
  obtain ⟨hx, hfx⟩ := Kd.R_celln 0 k3 (Int.tmod a mem.length) p0 p1
  have HP := zA (Kd.R_putn k3 (Int.tmod a mem.length) d)
  have HK6 := zA k6
  have HK1 := zA k1
  have HKM := zA km
  have HL := zA hn
  have HBD := zA hbd
  generalize hi : Int.tmod a mem.length = i at *
  replace p0 := eq_true p0
  replace p1 := eq_true p1
  clear k3 k6 k1 km hn hbd
  have HH := zA hh
  clear hh
  repeat still_step
  refine wpStill_nil ?_
  go_wp2_with (first | ((with_reducible refine gate_builtin (b := .append) (xs := #[.tmp 26, .tmp 31]) rfl ?_); at_builtin; refine Kd.R_append k43 (w0 := w) (W := wd.setCell ⟨gm, i.toNat, none⟩ (.int .u8 d)) B rfl (.tmp 26) (.tmp 31) 24 43 (.agg #[(.int .u16 0), (.int .u8 0), (.bool false)]) 4 rfl Tryz.underlying24 info43 rfl (by decide) (by omega) (.slice Al log.length cl) log (⟨IntKind.u16.wrap a, d, true⟩ : S43) [.int .u16 (IntKind.u16.wrap a), .int .u8 d, .bool true] (fun _ => True) (fun _ => False) rfl (by rw [World.size_setCell]; rfl) ?aP (fun _ hk => hk.elim) ?aF ?aO ?aB ?aS ?aL ?_; (case aP => exact k43_mkM _ _ _ (⟨IntKind.u16.wrap a, d, true⟩ : S43)); (case aB => exact HBD.out.setCell hgm _); (case aF => exact (fun _ _ => trivial)); (case aO => exact Kd.R_set HK6.out HKM.out (by decide) _ _); (case aS => rw [World.size_setCell, HH.out]; exact hB); (case aL => have := HL.out; omega); intro v1 w1 ho hb hg hat; obtain ⟨A1, c1, rfl⟩ := Kd.R_slice ho; have j1 : (wd.setCell ⟨gm, i.toNat, none⟩ (.int .u8 d)).heap[gb]? = some (.cells #[.slice (some ⟨gm, 0, none⟩) mem.length cm, .slice Al log.length cl] 112 (0, 0)) := (Below.heap_setCell wd ⟨gm, i.toNat, none⟩ _ gb hne).trans HK1.out; have h1' : w1.heap[gb]? = some (.cells #[.slice (some ⟨gm, 0, none⟩) mem.length cm, .slice Al log.length cl] 112 (0, 0)) := (hg.block gb (blk_lt j1) (Kd.R_ne HK6.out HK1.out (by decide))).trans j1; have hc1' := blk_cell h1' 1; have hf1' := blk_frozen h1' 1; have HO := zA ho; have HG := zA hg; have HJ := zA j1; have HBW := zA hb; clear ho hg h1' hat j1 hb))
  refine bodyPost_end (by simp [results, Tryz.results74, go_sem]; try rfl) rfl ?_
  have hz := logged (w := w) (W := wd.setCell ⟨gm, i.toNat, none⟩ (.int .u8 d)) ⟨IntKind.u16.wrap a, d, true⟩ HJ.out h2 HP.out (fun x hx => ?_) (Kd.R_set HK6.out HKM.out (by decide) _ _) h8 ⟨RP_u16 HA, hd⟩ HO.out HBW.out HG.out (by rw [World.size_setCell, HH.out]) (fun k hk hc => ?_)
  · simp only [List.length_append, List.length_cons, List.length_nil, List.length_set] at hz
    exact ⟨rfl, hz⟩
  · rcases List.mem_or_eq_of_mem_set hx with h | h
    · exact h5 x h
    · rw [h]; exact hd
  · refine (Below.heap_setCell wd ⟨gm, i.toNat, none⟩ _ k ?_).trans (by rw [HH.out])
    rintro rfl
    rcases hc with hc | ⟨cs, t, hc, ht⟩
    · omega
    · rw [hcm] at hc
      injection hc with hc
      injection hc with _ hc
      exact ht.2.1 hc.symm
end Go.Proofs.YtafkbhnhmhmjcaaGreatDoor.Weak
end
section
set_option linter.unusedVariables false
set_option linter.unusedSimpArgs false
namespace Go.Proofs.YtafkbhnhmhmjcaaGreatDoor.Weak
open Go.RowKit Go.Proofs.YtafkbhnhmhmjcaaGreatDoorW.PrintWords Go.Proofs.YtafkbhnhmhmjcaaGreatDoorW.PrintLast Go.Proofs.YtafkbhnhmhmjcaaGreatDoorW.PrintMore Go.Proofs.YtafkbhnhmhmjcaaGreatDoor.PRun
theorem RP_wrap (x : Int) : RP (IntKind.u16.wrap x) := by rw [IntKind.wrap_u16]; exact RP_mod x
def CC (cs : Array Value) : Prop := ∃ (a x y s p : Int) (f0 f1 f2 f3 f4 f5 : Bool), cs = #[.int .u8 a, .int .u8 x, .int .u8 y, .int .u8 s, .int .u16 p, .bool f0, .bool f1, .bool f2, .bool f3, .bool f4, .bool f5] ∧ RB a ∧ RB x ∧ RB y ∧ RB s ∧ RP p
def FC (cs : Array Value) : Prop := ∃ f0 f1 f2 f3 f4 f5 : Bool, cs = #[.bool f0, .bool f1, .bool f2, .bool f3, .bool f4, .bool f5]
def CpuAt (w : World) (g : Nat) : Prop := ∃ cs, w.heap[g]? = some (.cells cs 64 (0, 0)) ∧ CC cs
theorem CpuAt.below_ {w w' : World} {g : Nat} (h : CpuAt w g) (hb : Below w.heap.size w w') : CpuAt w' g := by
  obtain ⟨cs, h1, h2⟩ := h
  exact ⟨cs, blk_below h1 hb, h2⟩
theorem CpuAt.fb {w w' : World} {g B : Nat} (h : CpuAt w g) (hb : FB B w w') : CpuAt w' g := by
  obtain ⟨cs, h1, h2⟩ := h
  exact ⟨cs, (hb.block g (blk_lt h1) (.inr ⟨cs, _, h1, by decide, by decide, by decide⟩)).trans h1, h2⟩
theorem CpuAt.lt {w : World} {g : Nat} (h : CpuAt w g) : g < w.heap.size := by
  obtain ⟨cs, h1, h2⟩ := h
  exact blk_lt h1
theorem CC.size {cs : Array Value} (h : CC cs) : cs.size = 11 := by
  obtain ⟨a, x, y, s, p, f0, f1, f2, f3, f4, f5, rfl, _⟩ := h
  rfl
theorem CC.one {cs : Array Value} (h : CC cs) : cs.all (·.oneCell') = true := by
  obtain ⟨a, x, y, s, p, f0, f1, f2, f3, f4, f5, rfl, _⟩ := h
  simp [Value.oneCell']
theorem cpu_info : (Tryz.prog.info? 64).map (·.size) = some 11 := by kernel_rfl
section
variable {Q : Exit → Act → World → Prop} {ops : Array Oper} {rest : List Oper} {o : Oper} {a : Act} {w : World}
theorem gate_load {t : TypeId} {x : Operand} (_ho : o.op = .load t x) (h : wpList Tryz.prog ops Q (o :: rest) a w) : wpList Tryz.prog ops Q (o :: rest) a w := h
theorem gate_st {t : TypeId} {x y : Operand} (_ho : o.op = .store t x y) (h : wpList Tryz.prog ops Q (o :: rest) a w) : wpList Tryz.prog ops Q (o :: rest) a w := h
theorem event_skip {w1 : World} (hgd : o.guard = none) (hrun : (execOp a.eval o).run Tryz.prog w = .ok .skip w1) (h : wpList Tryz.prog ops Q rest (a.put o.dst undef) w1) : wpList Tryz.prog ops Q (o :: rest) a w := by
  refine wpList_plain hgd fun K hK => ?_
  unfold Oper.wp
  rw [hrun]
  exact hK _ _ h
theorem c_ld8 (hg : o.guard = none) {x : Operand} (ho : o.op = .load 5 x) {g i : Nat} (hx : a.eval x = .pointer (some ⟨g, i, none⟩)) (hi : i < 4) (hb : CpuAt w g)
    (h : ∀ v, RB v → wpList Tryz.prog ops Q rest (a.put o.dst (.int .u8 v)) w) : wpList Tryz.prog ops Q (o :: rest) a w := by
  obtain ⟨cs, hb, A, X, Y, S, p, f0, f1, f2, f3, f4, f5, rfl, hA, hX, hY, hS, hp⟩ := hb
  have hc : ∃ v, RB v ∧ w.cell? ⟨g, i, none⟩ = some (.int .u8 v) := by
    match i, hi with
    | 0, _ => exact ⟨A, hA, (blk_cell hb 0).trans rfl⟩
    | 1, _ => exact ⟨X, hX, (blk_cell hb 1).trans rfl⟩
    | 2, _ => exact ⟨Y, hY, (blk_cell hb 2).trans rfl⟩
    | 3, _ => exact ⟨S, hS, (blk_cell hb 3).trans rfl⟩
  obtain ⟨v, hv, hc⟩ := hc
  have hrun : (execOp a.eval o).run Tryz.prog w = .ok (.value (.int .u8 v)) w := by
    unfold execOp
    simp only [ho, hx]
    go_simp
  exact Kd.event_run hg hrun (h v hv)
theorem c_st8 (hg : o.guard = none) {x y : Operand} (ho : o.op = .store 5 x y) {g i : Nat} {v : Int} (hx : a.eval x = .pointer (some ⟨g, i, none⟩)) (hy : a.eval y = .int .u8 v) (hi : i < 4) (hv : RB v) (hb : CpuAt w g)
    (h : ∀ w1, CpuAt w1 g → (∀ k, k ≠ g → w1.heap[k]? = w.heap[k]?) → (∀ B u, B ≤ g → Below B u w → Below B u w1) → wpList Tryz.prog ops Q rest (a.put o.dst undef) w1) : wpList Tryz.prog ops Q (o :: rest) a w := by
  obtain ⟨cs, hb, A, X, Y, S, p, f0, f1, f2, f3, f4, f5, rfl, hA, hX, hY, hS, hp⟩ := hb
  have hf := blk_frozen hb i
  have hc : ∃ u, w.cell? ⟨g, i, none⟩ = some u := by
    match i, hi with
    | 0, _ => exact ⟨_, (blk_cell hb 0).trans rfl⟩
    | 1, _ => exact ⟨_, (blk_cell hb 1).trans rfl⟩
    | 2, _ => exact ⟨_, (blk_cell hb 2).trans rfl⟩
    | 3, _ => exact ⟨_, (blk_cell hb 3).trans rfl⟩
  obtain ⟨u, hc⟩ := hc
  have hrun : (execOp a.eval o).run Tryz.prog w = .ok .skip (w.setCell ⟨g, i, none⟩ (.int .u8 v)) := by
    unfold execOp
    simp only [ho, hx, hy]
    go_simp
  refine event_skip hg hrun (h _ ⟨_, blk_put hb i (.int .u8 v) rfl, ?_⟩ (fun k hk => Below.heap_setCell w _ _ k hk) (fun B u hB hb => hb.setCell hB _))
  match i, hi with
  | 0, _ => exact ⟨v, X, Y, S, p, f0, f1, f2, f3, f4, f5, rfl, hv, hX, hY, hS, hp⟩
  | 1, _ => exact ⟨A, v, Y, S, p, f0, f1, f2, f3, f4, f5, rfl, hA, hv, hY, hS, hp⟩
  | 2, _ => exact ⟨A, X, v, S, p, f0, f1, f2, f3, f4, f5, rfl, hA, hX, hv, hS, hp⟩
  | 3, _ => exact ⟨A, X, Y, v, p, f0, f1, f2, f3, f4, f5, rfl, hA, hX, hY, hv, hp⟩
theorem c_ldp (hg : o.guard = none) {x : Operand} (ho : o.op = .load 41 x) {g : Nat} (hx : a.eval x = .pointer (some ⟨g, 4, none⟩)) (hb : CpuAt w g)
    (h : ∀ v, RP v → wpList Tryz.prog ops Q rest (a.put o.dst (.int .u16 v)) w) : wpList Tryz.prog ops Q (o :: rest) a w := by
  obtain ⟨cs, hb, A, X, Y, S, p, f0, f1, f2, f3, f4, f5, rfl, hA, hX, hY, hS, hp⟩ := hb
  have hc : w.cell? ⟨g, 4, none⟩ = some (.int .u16 p) := (blk_cell hb 4).trans rfl
  have hrun : (execOp a.eval o).run Tryz.prog w = .ok (.value (.int .u16 p)) w := by
    unfold execOp
    simp only [ho, hx]
    go_simp
  exact Kd.event_run hg hrun (h p hp)
theorem c_ldb (hg : o.guard = none) {x : Operand} (ho : o.op = .load 4 x) {g i : Nat} (hx : a.eval x = .pointer (some ⟨g, i, none⟩)) (hi : 5 ≤ i ∧ i < 11) (hb : CpuAt w g)
    (h : ∀ v, wpList Tryz.prog ops Q rest (a.put o.dst (.bool v)) w) : wpList Tryz.prog ops Q (o :: rest) a w := by
  obtain ⟨cs, hb, A, X, Y, S, p, f0, f1, f2, f3, f4, f5, rfl, hA, hX, hY, hS, hp⟩ := hb
  have hc : ∃ v, w.cell? ⟨g, i, none⟩ = some (.bool v) := by
    match i, hi with
    | 5, _ => exact ⟨f0, (blk_cell hb 5).trans rfl⟩
    | 6, _ => exact ⟨f1, (blk_cell hb 6).trans rfl⟩
    | 7, _ => exact ⟨f2, (blk_cell hb 7).trans rfl⟩
    | 8, _ => exact ⟨f3, (blk_cell hb 8).trans rfl⟩
    | 9, _ => exact ⟨f4, (blk_cell hb 9).trans rfl⟩
    | 10, _ => exact ⟨f5, (blk_cell hb 10).trans rfl⟩
  obtain ⟨v, hc⟩ := hc
  have hrun : (execOp a.eval o).run Tryz.prog w = .ok (.value (.bool v)) w := by
    unfold execOp
    simp only [ho, hx]
    go_simp
  exact Kd.event_run hg hrun (h v)
theorem c_ldF (hg : o.guard = none) {x : Operand} (ho : o.op = .load 62 x) {g : Nat} (hx : a.eval x = .pointer (some ⟨g, 5, none⟩)) (hb : CpuAt w g)
    (h : ∀ cs, FC cs → wpList Tryz.prog ops Q rest (a.put o.dst (.agg cs)) w) : wpList Tryz.prog ops Q (o :: rest) a w := by
  obtain ⟨cs, hb, A, X, Y, S, p, f0, f1, f2, f3, f4, f5, rfl, hA, hX, hY, hS, hp⟩ := hb
  have h5 : w.cell? ⟨g, 5, none⟩ = some (.bool f0) := (blk_cell hb 5).trans rfl
  have h6 : w.cell? ⟨g, 6, none⟩ = some (.bool f1) := (blk_cell hb 6).trans rfl
  have h7 : w.cell? ⟨g, 7, none⟩ = some (.bool f2) := (blk_cell hb 7).trans rfl
  have h8 : w.cell? ⟨g, 8, none⟩ = some (.bool f3) := (blk_cell hb 8).trans rfl
  have h9 : w.cell? ⟨g, 9, none⟩ = some (.bool f4) := (blk_cell hb 9).trans rfl
  have h10 : w.cell? ⟨g, 10, none⟩ = some (.bool f5) := (blk_cell hb 10).trans rfl
  have hrun : (execOp a.eval o).run Tryz.prog w = .ok (.value (.agg #[.bool f0, .bool f1, .bool f2, .bool f3, .bool f4, .bool f5])) w := by
    unfold execOp
    simp only [ho, hx]
    go_simp
  exact Kd.event_run hg hrun (h _ ⟨f0, f1, f2, f3, f4, f5, rfl⟩)
theorem c_ldC (hg : o.guard = none) {x : Operand} (ho : o.op = .load 64 x) {g : Nat} (hx : a.eval x = .pointer (some ⟨g, 0, none⟩)) (hb : CpuAt w g)
    (h : ∀ cs, CC cs → wpList Tryz.prog ops Q rest (a.put o.dst (.agg cs)) w) : wpList Tryz.prog ops Q (o :: rest) a w := by
  obtain ⟨cs, hb, hc⟩ := hb
  exact wpList_plain hg fun _ hK => wp_load_row 64 x ho g hx 64 cs (0, 0) _ hb Tryz.underlying64 rfl (by rw [hc.size]; exact cpu_info) (hK _ _ (h cs hc))
theorem c_stp (hg : o.guard = none) {x y : Operand} (ho : o.op = .store 41 x y) {g : Nat} {v : Int} (hx : a.eval x = .pointer (some ⟨g, 4, none⟩)) (hy : a.eval y = .int .u16 v) (hv : RP v) (hb : CpuAt w g)
    (h : ∀ w1, CpuAt w1 g → (∀ k, k ≠ g → w1.heap[k]? = w.heap[k]?) → (∀ B u, B ≤ g → Below B u w → Below B u w1) → wpList Tryz.prog ops Q rest (a.put o.dst undef) w1) : wpList Tryz.prog ops Q (o :: rest) a w := by
  obtain ⟨cs, hb, A, X, Y, S, p, f0, f1, f2, f3, f4, f5, rfl, hA, hX, hY, hS, hp⟩ := hb
  have hf := blk_frozen hb 4
  have hc : w.cell? ⟨g, 4, none⟩ = some (.int .u16 p) := (blk_cell hb 4).trans rfl
  have hrun : (execOp a.eval o).run Tryz.prog w = .ok .skip (w.setCell ⟨g, 4, none⟩ (.int .u16 v)) := by
    unfold execOp
    simp only [ho, hx, hy]
    go_simp
  exact event_skip hg hrun (h _ ⟨_, blk_put hb 4 (.int .u16 v) rfl, ⟨A, X, Y, S, v, f0, f1, f2, f3, f4, f5, rfl, hA, hX, hY, hS, hv⟩⟩ (fun k hk => Below.heap_setCell w _ _ k hk) (fun B u hB hb => hb.setCell hB _))
theorem c_stb (hg : o.guard = none) {x y : Operand} (ho : o.op = .store 4 x y) {g i : Nat} {v : Bool} (hx : a.eval x = .pointer (some ⟨g, i, none⟩)) (hy : a.eval y = .bool v) (hi : 5 ≤ i ∧ i < 11) (hb : CpuAt w g)
    (h : ∀ w1, CpuAt w1 g → (∀ k, k ≠ g → w1.heap[k]? = w.heap[k]?) → (∀ B u, B ≤ g → Below B u w → Below B u w1) → wpList Tryz.prog ops Q rest (a.put o.dst undef) w1) : wpList Tryz.prog ops Q (o :: rest) a w := by
  obtain ⟨cs, hb, A, X, Y, S, p, f0, f1, f2, f3, f4, f5, rfl, hA, hX, hY, hS, hp⟩ := hb
  have hf := blk_frozen hb i
  have hc : ∃ u, w.cell? ⟨g, i, none⟩ = some u := by
    match i, hi with
    | 5, _ => exact ⟨_, (blk_cell hb 5).trans rfl⟩
    | 6, _ => exact ⟨_, (blk_cell hb 6).trans rfl⟩
    | 7, _ => exact ⟨_, (blk_cell hb 7).trans rfl⟩
    | 8, _ => exact ⟨_, (blk_cell hb 8).trans rfl⟩
    | 9, _ => exact ⟨_, (blk_cell hb 9).trans rfl⟩
    | 10, _ => exact ⟨_, (blk_cell hb 10).trans rfl⟩
  obtain ⟨u, hc⟩ := hc
  have hrun : (execOp a.eval o).run Tryz.prog w = .ok .skip (w.setCell ⟨g, i, none⟩ (.bool v)) := by
    unfold execOp
    simp only [ho, hx, hy]
    go_simp
  refine event_skip hg hrun (h _ ⟨_, blk_put hb i (.bool v) rfl, ?_⟩ (fun k hk => Below.heap_setCell w _ _ k hk) (fun B u hB hb => hb.setCell hB _))
  match i, hi with
  | 5, _ => exact ⟨A, X, Y, S, p, v, f1, f2, f3, f4, f5, rfl, hA, hX, hY, hS, hp⟩
  | 6, _ => exact ⟨A, X, Y, S, p, f0, v, f2, f3, f4, f5, rfl, hA, hX, hY, hS, hp⟩
  | 7, _ => exact ⟨A, X, Y, S, p, f0, f1, v, f3, f4, f5, rfl, hA, hX, hY, hS, hp⟩
  | 8, _ => exact ⟨A, X, Y, S, p, f0, f1, f2, v, f4, f5, rfl, hA, hX, hY, hS, hp⟩
  | 9, _ => exact ⟨A, X, Y, S, p, f0, f1, f2, f3, v, f5, rfl, hA, hX, hY, hS, hp⟩
  | 10, _ => exact ⟨A, X, Y, S, p, f0, f1, f2, f3, f4, v, rfl, hA, hX, hY, hS, hp⟩
theorem c_stF (hg : o.guard = none) {x y : Operand} (ho : o.op = .store 62 x y) {g : Nat} {cs : Array Value} (hx : a.eval x = .pointer (some ⟨g, 5, none⟩)) (hy : a.eval y = .agg cs) (hv : FC cs) (hb : CpuAt w g)
    (h : ∀ w1, CpuAt w1 g → (∀ k, k ≠ g → w1.heap[k]? = w.heap[k]?) → (∀ B u, B ≤ g → Below B u w → Below B u w1) → wpList Tryz.prog ops Q rest (a.put o.dst undef) w1) : wpList Tryz.prog ops Q (o :: rest) a w := by
  obtain ⟨cs', hb, A, X, Y, S, p, f0, f1, f2, f3, f4, f5, rfl, hA, hX, hY, hS, hp⟩ := hb
  obtain ⟨g0, g1, g2, g3, g4, g5, rfl⟩ := hv
  have q5 := blk_frozen hb 5
  have q6 := blk_frozen hb 6
  have q7 := blk_frozen hb 7
  have q8 := blk_frozen hb 8
  have q9 := blk_frozen hb 9
  have q10 := blk_frozen hb 10
  have h5 : w.cell? ⟨g, 5, none⟩ = some (.bool f0) := (blk_cell hb 5).trans rfl
  have h6 : w.cell? ⟨g, 6, none⟩ = some (.bool f1) := (blk_cell hb 6).trans rfl
  have h7 : w.cell? ⟨g, 7, none⟩ = some (.bool f2) := (blk_cell hb 7).trans rfl
  have h8 : w.cell? ⟨g, 8, none⟩ = some (.bool f3) := (blk_cell hb 8).trans rfl
  have h9 : w.cell? ⟨g, 9, none⟩ = some (.bool f4) := (blk_cell hb 9).trans rfl
  have h10 : w.cell? ⟨g, 10, none⟩ = some (.bool f5) := (blk_cell hb 10).trans rfl
  have hrun : (execOp a.eval o).run Tryz.prog w = .ok .skip ((((((w.setCell ⟨g, 5, none⟩ (.bool g0)).setCell ⟨g, 6, none⟩ (.bool g1)).setCell ⟨g, 7, none⟩ (.bool g2)).setCell ⟨g, 8, none⟩ (.bool g3)).setCell ⟨g, 9, none⟩ (.bool g4)).setCell ⟨g, 10, none⟩ (.bool g5)) := by
    unfold execOp
    simp only [ho, hx, hy]
    go_simp
  refine event_skip hg hrun (h _ ⟨_, blk_put (blk_put (blk_put (blk_put (blk_put (blk_put hb 5 (.bool g0) rfl) 6 (.bool g1) rfl) 7 (.bool g2) rfl) 8 (.bool g3) rfl) 9 (.bool g4) rfl) 10 (.bool g5) rfl, ⟨A, X, Y, S, p, g0, g1, g2, g3, g4, g5, rfl, hA, hX, hY, hS, hp⟩⟩ (fun k hk => ?_) (fun B u hB hb => ((((((hb.setCell hB _).setCell hB _).setCell hB _).setCell hB _).setCell hB _).setCell hB _)))
  simp only [Below.heap_setCell _ ⟨g, _, none⟩ _ k hk]
theorem c_stC (hg : o.guard = none) {x y : Operand} (ho : o.op = .store 64 x y) {g : Nat} {cs : Array Value} (hx : a.eval x = .pointer (some ⟨g, 0, none⟩)) (hy : a.eval y = .agg cs) (hv : CC cs) (hb : CpuAt w g)
    (h : ∀ w1, CpuAt w1 g → (∀ k, k ≠ g → w1.heap[k]? = w.heap[k]?) → (∀ B u, B ≤ g → Below B u w → Below B u w1) → wpList Tryz.prog ops Q rest (a.put o.dst undef) w1) : wpList Tryz.prog ops Q (o :: rest) a w := by
  obtain ⟨old, hb, hold⟩ := hb
  exact wpList_plain hg fun _ hK => wp_store_row 64 x y ho g cs hx hy 64 old hb (by rw [hv.size]; exact cpu_info) (hold.size.trans hv.size.symm) hv.one (hK _ _ (h _ ⟨cs, setRow_heap w g old cs 64 (0, 0) hb, hv⟩ (fun k hk => setRow_other w g k cs hk)
    (fun B a hB hb => ⟨hb.os, hb.tape, hb.output, by rw [setRow_size]; exact hb.size, fun k hk => by rw [setRow_other w g k cs (by omega)]; exact hb.block k hk⟩)))
theorem c_box {N : Tmp} (hg : o.guard = none) (hd : o.dst = some N) {x : Operand} (ho : o.op = .box 64 x) {cs : Array Value} (hx : a.eval x = .agg cs) (hv : CC cs)
    (h : ∀ g, w.heap.size = g → ∀ w1, CpuAt w1 g → Below w.heap.size w w1 → wpList Tryz.prog ops Q rest (a.put o.dst (.pointer (some ⟨g, 0, none⟩))) w1) : wpList Tryz.prog ops Q (o :: rest) a w := by
  refine box_event hg hd (cs := cs) (t := 64) ?_ (fun g hgg w1 hb1 hb2 => h g hgg.symm w1 ⟨cs, hb1, hv⟩ hb2)
  unfold execOp
  simp only [ho]
  simp [hx, Instr.box, newVar, newRow, Value.cells]
theorem CC_zero : CC #[.int .u8 0, .int .u8 0, .int .u8 0, .int .u8 0, .int .u16 0, .bool false, .bool false, .bool false, .bool false, .bool false, .bool false] := ⟨0, 0, 0, 0, 0, false, false, false, false, false, false, rfl, by unfold RB; omega, by unfold RB; omega, by unfold RB; omega, by unfold RB; omega, by unfold RP; omega⟩
theorem c_alloc {N : Tmp} (hg : o.guard = none) (hd : o.dst = some N) (ho : o.op = .alloc 64)
    (h : ∀ g, w.heap.size = g → ∀ w1, CpuAt w1 g → Below w.heap.size w w1 → wpList Tryz.prog ops Q rest (a.put o.dst (.pointer (some ⟨g, 0, none⟩))) w1) : wpList Tryz.prog ops Q (o :: rest) a w := by
  refine box_event hg hd (cs := #[.int .u8 0, .int .u8 0, .int .u8 0, .int .u8 0, .int .u16 0, .bool false, .bool false, .bool false, .bool false, .bool false, .bool false]) (t := 64) ?_ (fun g hgg w1 hb1 hb2 => h g hgg.symm w1 ⟨_, hb1, CC_zero⟩ hb2)
  unfold execOp
  simp only [ho]
  go_simp
end
theorem FB.set {B : Nat} {w0 w w1 : World} {g : Nat} (h : FB B w0 w) (hg : w0.heap.size ≤ g) (hk : ∀ k, k ≠ g → w1.heap[k]? = w.heap[k]?) (hb : ∀ B' u, B' ≤ g → Below B' u w → Below B' u w1) : FB B w0 w1 := by
  have hz := hb 0 w (Nat.zero_le _) (Below.refl _ _)
  exact ⟨hz.os.trans h.os, hz.tape.trans h.tape, hz.output.trans h.output, Nat.le_trans h.size hz.size, fun k hk' ho => (hk k (by omega)).trans (h.block k hk' ho)⟩
theorem CpuAt.other {w w1 : World} {g g' : Nat} (h : CpuAt w g') (hne : g' ≠ g) (hk : ∀ k, k ≠ g → w1.heap[k]? = w.heap[k]?) : CpuAt w1 g' := by
  obtain ⟨cs, h1, h2⟩ := h
  exact ⟨cs, (hk g' hne).trans h1, h2⟩
theorem Bus.other {w w1 : World} {gb B ln n g : Nat} (h : Bus w gb B ln n) (hc : CpuAt w g) (hk : ∀ k, k ≠ g → w1.heap[k]? = w.heap[k]?) : Bus w1 gb B ln n := by
  obtain ⟨cs, hc, _⟩ := hc
  obtain ⟨vm, vl, mem, log, h1, h2, h3, h4, h5, h6, h7, h8⟩ := h
  refine ⟨vm, vl, mem, log, (hk gb ?_).trans h1, h2, ?_, h4, h5, ?_, h7, h8⟩
  · rintro rfl
    rw [h1] at hc
    injection hc with hc
    injection hc with _ hc
    revert hc; decide
  · exact Kd.R_mono (Kd.R_step (Kd.R_types h3 hc (by decide)) (fun k ho _ => hk k ho.2)) (fun _ h => h.1)
  · exact Kd.R_mono (Kd.R_step (Kd.R_types h6 hc (by decide)) (fun k ho _ => hk k ho.2)) (fun _ h => h.1)
theorem c_ret {fn : Func} {R : Ending → World → Prop} {a : Act} {w : World} {p : Tmp} {g : Nat} (hf : fn.results = #[.cell p 64]) (hp : a.tmps.getD p undef = .pointer (some ⟨g, 0, none⟩)) (hd : a.defers = []) (hb : CpuAt w g) (h : ∀ cs, CC cs → R (.returned (.agg cs)) w) : bodyPost Tryz.prog fn R .ret a w := by
  obtain ⟨cs, hb, hc⟩ := hb
  exact bodyPost_ret (results_cell_row hf _ _ g 64 cs (0, 0) _ hp hb Tryz.underlying64 rfl (by rw [hc.size]; exact cpu_info)) hd (h cs hc)
section
variable {o : Oper} {a : Act} {w : World}
theorem c_runC {x : Operand} (ho : o.op = .load 64 x) {g : Nat} (hx : a.eval x = .pointer (some ⟨g, 0, none⟩)) {cs : Array Value} (hb : w.heap[g]? = some (.cells cs 64 (0, 0))) (hc : CC cs) : (execOp a.eval o).run Tryz.prog w = .ok (.value (.agg cs)) w := by
  unfold execOp
  simp only [ho, hx, Instr.loadAt, Instr.sureAddr, Sem.run_bind, Sem.run_pure, Result.andThen_ok, run_loadVar_row w g 64 64 cs (0, 0) _ hb Tryz.underlying64 rfl (by rw [hc.size]; exact cpu_info)]
theorem c_runSt {x y : Operand} (ho : o.op = .store 64 x y) {g : Nat} {cs : Array Value} (hx : a.eval x = .pointer (some ⟨g, 0, none⟩)) (hy : a.eval y = .agg cs) (hv : CC cs) (hb : CpuAt w g) :
    (execOp a.eval o).run Tryz.prog w = .ok .skip (w.setRow g cs) := by
  obtain ⟨old, hb, hold⟩ := hb
  unfold execOp
  simp only [ho, hx, hy, Instr.storeAt, Instr.sureAddr, Sem.run_bind, Sem.run_pure, Result.andThen_ok, run_storeVar_row w g 64 64 old cs hb (by rw [hv.size]; exact cpu_info) (hold.size.trans hv.size.symm) hv.one]
theorem c_rowSt {g : Nat} {cs : Array Value} (hv : CC cs) (hb : CpuAt w g) : CpuAt (w.setRow g cs) g ∧ (∀ k, k ≠ g → (w.setRow g cs).heap[k]? = w.heap[k]?) ∧ (∀ B u, B ≤ g → Below B u w → Below B u (w.setRow g cs)) := by
  obtain ⟨old, hb, hold⟩ := hb
  exact ⟨⟨cs, setRow_heap w g old cs 64 (0, 0) hb, hv⟩, fun k hk => setRow_other w g k cs hk, fun B a hB hb => ⟨hb.os, hb.tape, hb.output, by rw [setRow_size]; exact hb.size, fun k hk => by rw [setRow_other w g k cs (by omega)]; exact hb.block k hk⟩⟩
theorem c_stStep {Q : Exit → Act → World → Prop} {ops : Array Oper} {K : Act → World → Prop} {x y : Operand} (hw : Region.wanted o (yielded ops a.tmps) = true) (hN : o.dst = none) (ho : o.op = .store 64 x y) {g : Nat} {cs : Array Value} (hx : a.eval x = .pointer (some ⟨g, 0, none⟩)) (hy : a.eval y = .agg cs) (hv : CC cs) (hb : CpuAt w g)
    (h : ∀ w1, CpuAt w1 g → (∀ k, k ≠ g → w1.heap[k]? = w.heap[k]?) → (∀ B u, B ≤ g → Below B u w → Below B u w1) → K a w1) : if Region.wanted o (yielded ops a.tmps) = true then Oper.wp Tryz.prog o a w K Q else K (a.put none undef) w :=
  skip_ hw hN (c_runSt ho hx hy hv hb) (h _ (c_rowSt hv hb).1 (c_rowSt hv hb).2.1 (c_rowSt hv hb).2.2)
end
def FlagsAt (w : World) (g : Nat) : Prop := ∃ cs, w.heap[g]? = some (.cells cs 62 (0, 0)) ∧ FC cs
theorem FC.size {cs : Array Value} (h : FC cs) : cs.size = 6 := by
  obtain ⟨f0, f1, f2, f3, f4, f5, rfl⟩ := h
  rfl
theorem FC.one {cs : Array Value} (h : FC cs) : cs.all (·.oneCell') = true := by
  obtain ⟨f0, f1, f2, f3, f4, f5, rfl⟩ := h
  simp [Value.oneCell']
theorem flags_info : (Tryz.prog.info? 62).map (·.size) = some 6 := by kernel_rfl
theorem FlagsAt.below_ {w w' : World} {g : Nat} (h : FlagsAt w g) (hb : Below w.heap.size w w') : FlagsAt w' g := by
  obtain ⟨cs, h1, h2⟩ := h
  exact ⟨cs, blk_below h1 hb, h2⟩
theorem FlagsAt.fb {w w' : World} {g B : Nat} (h : FlagsAt w g) (hb : FB B w w') : FlagsAt w' g := by
  obtain ⟨cs, h1, h2⟩ := h
  exact ⟨cs, (hb.block g (blk_lt h1) (.inr ⟨cs, _, h1, by decide, by decide, by decide⟩)).trans h1, h2⟩
theorem FlagsAt.other {w w1 : World} {g g' : Nat} (h : FlagsAt w g') (hne : g' ≠ g) (hk : ∀ k, k ≠ g → w1.heap[k]? = w.heap[k]?) : FlagsAt w1 g' := by
  obtain ⟨cs, h1, h2⟩ := h
  exact ⟨cs, (hk g' hne).trans h1, h2⟩
theorem FlagsAt.ne {w : World} {g g' : Nat} (h : FlagsAt w g) (h' : CpuAt w g') : g ≠ g' := by
  rintro rfl
  obtain ⟨cs, h1, h2⟩ := h
  obtain ⟨ds, h3, h4⟩ := h'
  rw [h1] at h3
  injection h3 with h3
  injection h3 with _ h3
  revert h3; decide
theorem Bus.other_flags {w w1 : World} {gb B ln n g : Nat} (h : Bus w gb B ln n) (hc : FlagsAt w g) (hk : ∀ k, k ≠ g → w1.heap[k]? = w.heap[k]?) : Bus w1 gb B ln n := by
  obtain ⟨cs, hc, _⟩ := hc
  obtain ⟨vm, vl, mem, log, h1, h2, h3, h4, h5, h6, h7, h8⟩ := h
  refine ⟨vm, vl, mem, log, (hk gb ?_).trans h1, h2, ?_, h4, h5, ?_, h7, h8⟩
  · rintro rfl
    rw [h1] at hc
    injection hc with hc
    injection hc with _ hc
    revert hc; decide
  · exact Kd.R_mono (Kd.R_step (Kd.R_types h3 hc (by decide)) (fun k ho _ => hk k ho.2)) (fun _ h => h.1)
  · exact Kd.R_mono (Kd.R_step (Kd.R_types h6 hc (by decide)) (fun k ho _ => hk k ho.2)) (fun _ h => h.1)
section
variable {Q : Exit → Act → World → Prop} {ops : Array Oper} {rest : List Oper} {o : Oper} {a : Act} {w : World}
theorem f_alloc {N : Tmp} (hg : o.guard = none) (hd : o.dst = some N) (ho : o.op = .alloc 62)
    (h : ∀ g, w.heap.size = g → ∀ w1, FlagsAt w1 g → Below w.heap.size w w1 → wpList Tryz.prog ops Q rest (a.put o.dst (.pointer (some ⟨g, 0, none⟩))) w1) : wpList Tryz.prog ops Q (o :: rest) a w := by
  refine box_event hg hd (cs := #[.bool false, .bool false, .bool false, .bool false, .bool false, .bool false]) (t := 62) ?_ (fun g hgg w1 hb1 hb2 => h g hgg.symm w1 ⟨_, hb1, _, _, _, _, _, _, rfl⟩ hb2)
  unfold execOp
  simp only [ho]
  go_simp
theorem f_ld (hg : o.guard = none) {x : Operand} (ho : o.op = .load 62 x) {g : Nat} (hx : a.eval x = .pointer (some ⟨g, 0, none⟩)) (hb : FlagsAt w g)
    (h : ∀ cs, FC cs → wpList Tryz.prog ops Q rest (a.put o.dst (.agg cs)) w) : wpList Tryz.prog ops Q (o :: rest) a w := by
  obtain ⟨cs, hb, hc⟩ := hb
  exact wpList_plain hg fun _ hK => wp_load_row 62 x ho g hx 62 cs (0, 0) _ hb Tryz.underlying62 rfl (by rw [hc.size]; exact flags_info) (hK _ _ (h cs hc))
theorem f_st (hg : o.guard = none) {x y : Operand} (ho : o.op = .store 62 x y) {g : Nat} {cs : Array Value} (hx : a.eval x = .pointer (some ⟨g, 0, none⟩)) (hy : a.eval y = .agg cs) (hv : FC cs) (hb : FlagsAt w g)
    (h : ∀ w1, FlagsAt w1 g → (∀ k, k ≠ g → w1.heap[k]? = w.heap[k]?) → (∀ B u, B ≤ g → Below B u w → Below B u w1) → wpList Tryz.prog ops Q rest (a.put o.dst undef) w1) : wpList Tryz.prog ops Q (o :: rest) a w := by
  obtain ⟨old, hb, hold⟩ := hb
  exact wpList_plain hg fun _ hK => wp_store_row 62 x y ho g cs hx hy 62 old hb (by rw [hv.size]; exact flags_info) (hold.size.trans hv.size.symm) hv.one (hK _ _ (h _ ⟨cs, setRow_heap w g old cs 62 (0, 0) hb, hv⟩ (fun k hk => setRow_other w g k cs hk)
    (fun B a hB hb => ⟨hb.os, hb.tape, hb.output, by rw [setRow_size]; exact hb.size, fun k hk => by rw [setRow_other w g k cs (by omega)]; exact hb.block k hk⟩)))
end
end Go.Proofs.YtafkbhnhmhmjcaaGreatDoor.Weak
end
