import Derived.Test.YtafkbhnhmhmjcaaGreatDoorSWPRunx4
import Derived.Test.YtafkbhnhmhmjcaaGreatDoorSWMyWk3
import Derived.Test.YtafkbhnhmhmjcaaGreatDoorSWPRunx6
import Derived.Test.YtafkbhnhmhmjcaaGreatDoorSWPRunx11
import Derived.Test.YtafkbhnhmhmjcaaGreatDoorSWPRunx17
import Derived.Test.YtafkbhnhmhmjcaaGreatDoorSWPRunx12
import Derived.Test.YtafkbhnhmhmjcaaGreatDoorSWPRunx18
import Derived.Test.YtafkbhnhmhmjcaaGreatDoorSWMyRam
set_option linter.unusedVariables false
namespace Go.Proofs.YtafkbhnhmhmjcaaGreatDoor.Weak
open Go.RowKit Go.Proofs.YtafkbhnhmhmjcaaGreatDoor.PRun Go.Proofs.YtafkbhnhmhmjcaaGreatDoor.DrawRun Go.Proofs.YtafkbhnhmhmjcaaGreatDoor.Plain Go.Proofs.YtafkbhnhmhmjcaaGreatDoorW.PrintWords Go.Proofs.YtafkbhnhmhmjcaaGreatDoorW.PrintLast Go.Proofs.YtafkbhnhmhmjcaaGreatDoorW.PrintMore
theorem le_up {α : Type} {f : Nat → Option α} (hm : ∀ k, LeO (f k) (f (k + 1))) {k0 : Nat} {r : α} (h : f k0 = some r) : ∀ k, k0 ≤ k → f k = some r := by
  intro k hk
  obtain ⟨d, rfl⟩ : ∃ d, k = k0 + d := ⟨k - k0, by omega⟩
  clear hk
  induction d with
  | zero => exact h
  | succ d ih => exact hm (k0 + d) r ih
theorem name_some (c : Int) (h : RB c) : ∃ r, ∀ k, 3 ≤ k → spec_NameOf.f k c = some r := by
  obtain ⟨r, hr⟩ := of_bytes names c h
  exact ⟨r, le_up (f := fun k => spec_NameOf.f k c) (fun k => spec_NameOf.mono c k) hr⟩
theorem sizes3 : ∀ n : Nat, n < 256 → (match spec_SizeOf.f 3 (n : Int) with | some r => decide (r ≤ 3) | none => false) = true := by decide +kernel
theorem size_some (c : Int) (h : RB c) : ∃ r, r ≤ 3 ∧ ∀ k, 3 ≤ k → spec_SizeOf.f k c = some r := by
  have h1 := sizes3 c.toNat (by unfold RB at h; omega)
  rw [Int.toNat_of_nonneg h.1] at h1
  cases hr : spec_SizeOf.f 3 c with
  | none => rw [hr] at h1; cases h1
  | some r =>
    rw [hr] at h1
    exact ⟨r, of_decide_eq_true h1, le_up (f := fun k => spec_SizeOf.f k c) (fun k => spec_SizeOf.mono c k) hr⟩
theorem code_some {l : List Int} {i : Int} (h : At l i) (s : Int) (k : Nat) (hk : 8 ≤ k) : ∃ x i' s' : Int, spec_l03Code.f k l i s = some (x, i', s') ∧ RB x ∧ At l i' := by
  obtain ⟨x, i1, s1, e1, x0, x1, a1⟩ := byte_some h s
  have key : ∀ d k : Nat, ∀ x4 : Int, d ≤ 3 → x4 = 3 - d → d + 4 ≤ k → ∀ (c : Int), RB c → ∀ i s, At l i → ∃ x i' s' : Int, spec_l03Code.l0 k c x4 l i s = some (x, i', s') ∧ RB x ∧ At l i' := by
    intro d
    induction d with
    | zero =>
      intro k x4 h9 h4 hk c hc i s ha
      obtain ⟨k, rfl⟩ : ∃ m, k = m + 1 := ⟨k - 1, by omega⟩
      simp only [spec_l03Code.l0]
      rw [if_neg (by omega)]
      exact ⟨c, i, s, rfl, hc, ha⟩
    | succ d ih =>
      intro k x4 h9 h4 hk c hc i s ha
      obtain ⟨k, rfl⟩ : ∃ m, k = m + 1 := ⟨k - 1, by omega⟩
      simp only [spec_l03Code.l0]
      by_cases h3 : x4 < 3
      · rw [if_pos h3]
        obtain ⟨r, hr⟩ := name_some c hc
        rw [hr k (by omega)]
        simp only [Option.bind_some]
        split
        · obtain ⟨y, i2, s2, e2, y0, y1, a2⟩ := byte_some ha s
          rw [e2]
          simp only [Option.bind_some]
          exact ih k _ (by omega) (by rw [w64 (by omega) (by omega)]; omega) (by omega) _ (by unfold RB; omega) _ _ a2
        · exact ⟨c, i, s, rfl, hc, ha⟩
      · rw [if_neg h3]
        exact ⟨c, i, s, rfl, hc, ha⟩
  simp only [spec_l03Code.f, e1, Option.bind_some]
  exact key 3 k 0 (by omega) (by omega) (by omega) _ (by unfold RB; omega) _ _ a1
def Bts (n : Nat) (xs : List Int) : Prop := xs.length ≤ n ∧ ∀ x, x ∈ xs → RB x
theorem Bts.nil (n : Nat) : Bts n [] := ⟨Nat.zero_le _, by simp⟩
theorem Bts.snoc {n : Nat} {xs : List Int} (h : Bts n xs) {x : Int} (hx : RB x) : Bts (n + 1) (xs ++ [x]) := by
  refine ⟨by have := h.1; simp; omega, fun y hy => ?_⟩
  rcases List.mem_append.mp hy with hy | hy
  · exact h.2 y hy
  · rw [List.mem_singleton.mp hy]; exact hx
theorem Bts.up {n m : Nat} {xs : List Int} (h : Bts n xs) (hm : n ≤ m) : Bts m xs := ⟨Nat.le_trans h.1 hm, h.2⟩
theorem bytes_some {l : List Int} {i : Int} (h : At l i) (s : Int) (n : Nat) (hn : n ≤ 1000) (k : Nat) (hk : 20 + 6 * n ≤ k) : ∃ (r : List Int) (i' s' : Int), spec_l04Bytes.f k l i s (n : Int) = some (r, i', s') ∧ Bts (3 * n) r ∧ n ≤ r.length ∧ At l i' := by
  have key : ∀ d k j : Nat, j + d = n → 15 + 6 * d ≤ k → ∀ (xs : List Int) (i s : Int), At l i → Bts (3 * j) xs → j ≤ xs.length → ∃ (r : List Int) (i' s' : Int), spec_l04Bytes.l0 k (n : Int) xs (j : Int) l i s = some (r, i', s') ∧ Bts (3 * n) r ∧ n ≤ r.length ∧ At l i' := by
    intro d
    induction d with
    | zero =>
      intro k j hj hk xs i s ha hb hx
      obtain ⟨k, rfl⟩ : ∃ m, k = m + 1 := ⟨k - 1, by omega⟩
      obtain rfl : j = n := by omega
      simp only [spec_l04Bytes.l0]
      rw [if_neg (by omega)]
      exact ⟨xs, i, s, rfl, hb, hx, ha⟩
    | succ d ih =>
      intro k j hj hk xs i s ha hb hx
      obtain ⟨k, rfl⟩ : ∃ m, k = m + 1 := ⟨k - 1, by omega⟩
      simp only [spec_l04Bytes.l0]
      rw [if_pos (by omega)]
      obtain ⟨c, i1, s1, e1, hc, a1⟩ := code_some ha s k (by omega)
      rw [e1]
      simp only [Option.bind_some]
      rw [if_pos (by have := hb.1; omega)]
      obtain ⟨z, hz, hs⟩ := size_some c hc
      have inner : ∀ e k : Nat, ∀ x8 : Int, x8 = 3 - e → 15 + 6 * d + e + 1 ≤ k → ∀ (xs : List Int) (i s : Int), At l i → Bts (3 * (j + 1) - e) xs → j + 1 ≤ xs.length → e ≤ 2 → ∃ (r : List Int) (i' s' : Int), spec_l04Bytes.l1 k (n : Int) xs (j : Int) c x8 l i s = some (r, i', s') ∧ Bts (3 * n) r ∧ n ≤ r.length ∧ At l i' := by
        intro e
        induction e with
        | zero =>
          intro k x8 h8 hk xs i s ha hb hx _
          obtain ⟨k, rfl⟩ : ∃ m, k = m + 1 := ⟨k - 1, by omega⟩
          simp only [spec_l04Bytes.l1]
          rw [hs k (by omega)]
          simp only [Option.bind_some]
          rw [if_neg (by omega), wsucc (by omega)]
          exact ih k (j + 1) (by omega) (by omega) xs i s ha (hb.up (by omega)) hx
        | succ e ihe =>
          intro k x8 h8 hk xs i s ha hb hx he
          obtain ⟨k, rfl⟩ : ∃ m, k = m + 1 := ⟨k - 1, by omega⟩
          simp only [spec_l04Bytes.l1]
          rw [hs k (by omega)]
          simp only [Option.bind_some]
          by_cases hlt : x8 < z
          · rw [if_pos hlt]
            obtain ⟨y, i2, s2, e2, y0, y1, a2⟩ := l02Byte_some ha s
            rw [e2]
            simp only [Option.bind_some]
            rw [if_pos (by have := hb.1; omega)]
            exact ihe k _ (by rw [w64 (by omega) (by omega)]; omega) (by omega) _ _ _ a2 ((hb.snoc (x := y) ⟨y0, y1⟩).up (by omega)) (by simp; omega) (by omega)
          · rw [if_neg hlt, wsucc (by omega)]
            exact ih k (j + 1) (by omega) (by omega) xs i s ha (hb.up (by omega)) hx
      exact inner 2 k 1 (by omega) (by omega) _ _ _ a1 ((hb.snoc hc).up (by omega)) (by simp; omega) (by omega)
  exact key n k 0 (by omega) (by omega) [] i s h (Bts.nil _) (by simp)
theorem ram_same {l l' : List Int} (h : spec_RamOk.f l = some true) (he : l'.length = l.length) : spec_RamOk.f l' = some true := by
  unfold spec_RamOk.f at h ⊢
  rw [he]; exact h
theorem set_rb {l : List Int} (h : ∀ x, x ∈ l → RB x) (i : Nat) {v : Int} (hv : RB v) : ∀ x, x ∈ l.set i v → RB x := fun x hx => by
  rcases List.mem_or_eq_of_mem_set hx with h1 | h1
  · exact h x h1
  · rw [h1]; exact hv
theorem rd_rb {l : List Int} (h : ∀ x, x ∈ l → RB x) (i : Int) (h0 : 0 ≤ i) (h1 : i < l.length) : RB (rd l i) := by
  unfold rd
  rw [getD_lt l 0 i.toNat (by omega)]
  exact h _ (List.getElem_mem _)
theorem fill_some {l : List Int} (hok : spec_RamOk.f l = some true) (hl : ∀ x, x ∈ l → RB x) (a : Int) (ha : RP a) (l2 : List Int) (h2 : Bts 1024 l2) (k : Nat) (hk : l2.length + 2 ≤ k) : ∃ r, spec_Fill.f k l a l2 = some r ∧ r.length = l.length ∧ ∀ x, x ∈ r → RB x := by
  obtain ⟨hlo, hhi⟩ := ram_len hok
  obtain ⟨ha0, ha1⟩ := ha
  have hb := h2.1
  have key : ∀ d k j : Nat, j + d = l2.length → d + 1 ≤ k → ∀ (xs : List Int), xs.length = l.length → (∀ x, x ∈ xs → RB x) → ∃ r, spec_Fill.l0 k a l2 xs (j : Int) = some r ∧ r.length = l.length ∧ ∀ x, x ∈ r → RB x := by
    intro d
    induction d with
    | zero =>
      intro k j hj hk xs hx hr
      obtain ⟨k, rfl⟩ : ∃ m, k = m + 1 := ⟨k - 1, by omega⟩
      simp only [spec_Fill.l0]
      rw [if_neg (by omega)]
      exact ⟨xs, rfl, hx, hr⟩
    | succ d ih =>
      intro k j hj hk xs hx hr
      obtain ⟨k, rfl⟩ : ∃ m, k = m + 1 := ⟨k - 1, by omega⟩
      simp only [spec_Fill.l0]
      rw [w64 (x := a) (by omega) (by omega), w64 (x := a + (j : Int)) (by omega) (by omega)]
      have p0 : 0 ≤ Int.tmod (Int.tmod (a + (j : Int)) 65536) (xs.length : Int) := Int.tmod_nonneg _ (Int.tmod_nonneg _ (by omega))
      have p1 : Int.tmod (Int.tmod (a + (j : Int)) 65536) (xs.length : Int) < xs.length := Int.tmod_lt_of_pos _ (by omega)
      rw [if_pos (by omega), if_neg (by omega), if_pos (by omega), if_pos p0, if_pos p1, wsucc (by omega)]
      exact ih k (j + 1) (by omega) (by omega) _ (by simpa using hx) (set_rb hr _ (rd_rb h2.2 _ (by omega) (by omega)))
  obtain ⟨k, rfl⟩ : ∃ m, k = m + 1 := ⟨k - 1, by omega⟩
  simp only [spec_Fill.f, hok, Option.bind_some, if_true, spec_Fill.j0]
  rw [decide_eq_false (by omega), if_neg (by decide), if_pos (by simp; omega)]
  exact key l2.length k 0 (by omega) (by omega) _ rfl hl
theorem newram_some (x : Int) (h : x ∈ ([256, 512, 1024, 4096] : List Int)) : ∃ t, spec_NewRam.f x = some t ∧ spec_RamOk.f t = some true ∧ ∀ y, y ∈ t → RB y := by
  have hz : ∀ n : Nat, ∀ y, y ∈ List.replicate n (0 : Int) → RB y := fun n y hy => by rw [List.eq_of_mem_replicate hy]; unfold RB; omega
  simp only [List.mem_cons, List.not_mem_nil, or_false] at h
  rcases h with rfl | rfl | rfl | rfl
  all_goals exact ⟨_, rfl, by unfold spec_RamOk.f; simp only [List.length_replicate]; decide, hz _⟩
theorem ram_some {l : List Int} {i : Int} (h : At l i) (s : Int) (k : Nat) (hk : 5000 ≤ k) : ∃ (r : List Int) (i' s' : Int), spec_l05Ram.f k l i s = some (r, i', s') ∧ spec_RamOk.f r = some true ∧ (∀ x, x ∈ r → RB x) ∧ At l i' := by
  obtain ⟨x, i1, s1, e1, a1, hx⟩ := pick_some h s [256, 512, 1024, 4096] (by decide)
  obtain ⟨t, et, hok, ht⟩ := newram_some x hx
  obtain ⟨b, i2, s2, e2, hb, hbl, a2⟩ := bytes_some a1 s1 60 (by decide) k (by omega)
  obtain ⟨hlo, hhi⟩ := ram_len hok
  simp only [spec_l05Ram.f, e1, et, Option.bind_some]
  rw [show ((60 : Nat) : Int) = 60 from rfl] at e2
  rw [e2]
  simp only [Option.bind_some]
  have key : ∀ d k j : Nat, j + d = t.length → d + 300 ≤ k → ∀ (xs : List Int), xs.length = t.length → (∀ x, x ∈ xs → RB x) → ∃ (r : List Int) (i' s' : Int), spec_l05Ram.l0 k b (j : Int) l i2 s2 xs = some (r, i', s') ∧ spec_RamOk.f r = some true ∧ (∀ x, x ∈ r → RB x) ∧ At l i' := by
    intro d
    induction d with
    | zero =>
      intro k j hj hk xs hxs hr
      obtain ⟨k, rfl⟩ : ∃ m, k = m + 1 := ⟨k - 1, by omega⟩
      simp only [spec_l05Ram.l0]
      rw [if_neg (by omega)]
      obtain ⟨y, i3, s3, e3, a3, _, hy, _⟩ := below_some a2 s2 4096
      rw [e3]
      simp only [Option.bind_some]
      obtain ⟨r, er, hrl, hrb⟩ := fill_some (ram_same hok hxs) hr (IntKind.u16.wrap y) (by rw [IntKind.wrap_u16]; exact RP_mod y) b (hb.up (by omega)) k (by have := hb.1; omega)
      rw [er]
      simp only [Option.bind_some]
      exact ⟨r, i3, s3, rfl, ram_same hok (hrl.trans hxs), hrb, a3⟩
    | succ d ih =>
      intro k j hj hk xs hxs hr
      obtain ⟨k, rfl⟩ : ∃ m, k = m + 1 := ⟨k - 1, by omega⟩
      simp only [spec_l05Ram.l0]
      have q0 : 0 ≤ Int.tdiv (j : Int) 97 := Int.tdiv_nonneg (by omega) (by omega)
      have q1 : Int.tdiv (j : Int) 97 ≤ j := Int.tdiv_le_self _ (by omega)
      rw [w64 (x := (j : Int) * 7) (by omega) (by omega), w64 (x := Int.tdiv (j : Int) 97) (by omega) (by omega), w64 (x := (j : Int) * 7 + Int.tdiv (j : Int) 97) (by omega) (by omega)]
      have p0 : 0 ≤ Int.tmod ((j : Int) * 7 + Int.tdiv (j : Int) 97) (b.length : Int) := Int.tmod_nonneg _ (by omega)
      have p1 : Int.tmod ((j : Int) * 7 + Int.tdiv (j : Int) 97) (b.length : Int) < b.length := Int.tmod_lt_of_pos _ (by omega)
      rw [if_pos (by omega), if_neg (by omega), if_pos p0, if_pos p1, if_pos (by omega), wsucc (by omega)]
      exact ih k (j + 1) (by omega) (by omega) _ (by simpa using hxs) (set_rb hr _ (rd_rb hb.2 _ p0 p1))
  exact key t.length k 0 (by omega) (by omega) t rfl ht
theorem asked_some (ev : List S97) (a : Int) (b : Bool) (h : ev.length ≤ 1000) (k : Nat) (hk : 1001 ≤ k) : ∃ r, spec_l07Asked.f k ev a b = some r := by
  have key : ∀ d k j : Nat, j + d = ev.length → d + 1 ≤ k → ∃ r, spec_l07Asked.l0 k ev a b (j : Int) = some r := by
    intro d
    induction d with
    | zero =>
      intro k j hj hk
      obtain ⟨k, rfl⟩ : ∃ m, k = m + 1 := ⟨k - 1, by omega⟩
      simp only [spec_l07Asked.l0]
      rw [if_neg (by omega)]
      exact ⟨_, rfl⟩
    | succ d ih =>
      intro k j hj hk
      obtain ⟨k, rfl⟩ : ∃ m, k = m + 1 := ⟨k - 1, by omega⟩
      simp only [spec_l07Asked.l0]
      rw [if_pos (by omega), if_pos (by omega), wsucc (by omega)]
      have := ih k (j + 1) (by omega) (by omega)
      repeat' split
      all_goals first | exact this | exact ⟨_, rfl⟩
  exact key ev.length k 0 (by omega) (by omega)
theorem jams_some {l : List Int} (hok : spec_RamOk.f l = some true) (hl : ∀ x, x ∈ l → RB x) (p : Int) (hp : RP p) : ∃ r, spec_Jams.f 3 l p = some r := by
  obtain ⟨hlo, hhi⟩ := ram_len hok
  obtain ⟨hp0, hp1⟩ := hp
  have p0 : 0 ≤ Int.tmod p (l.length : Int) := Int.tmod_nonneg _ hp0
  have p1 : Int.tmod p (l.length : Int) < l.length := Int.tmod_lt_of_pos _ (by omega)
  obtain ⟨r, hr⟩ := name_some (rd l (Int.tmod p (l.length : Int))) (rd_rb hl _ p0 p1)
  have e : spec_Peek.f l p = some (rd l (Int.tmod p (l.length : Int))) := by
    simp only [spec_Peek.f, hok, Option.bind_some, if_true]
    rw [w64 (by omega) (by omega), if_neg (by omega), if_pos p0, if_pos p1]
  simp only [spec_Jams.f, hok, Option.bind_some, if_true, e, hr 3 (by omega)]
  exact ⟨_, rfl⟩
theorem in_some (n : Int) (h0 : 0 ≤ n) (h1 : n ≤ 120) : spec_l01In.f n 0 120 = some true := by
  unfold spec_l01In.f
  rw [if_pos (by omega), decide_eq_true (by omega)]
end Go.Proofs.YtafkbhnhmhmjcaaGreatDoor.Weak
