/- A byte turned eight times one way, or nine times through the carry, is what it was, and so is one turned there and back, for whatever is drawn; the program's turning is the reference's. No condition beyond the row's own. -/
import Derived.Test.YtahibkfcohajcaaPFnTurnedx3
import Derived.Test.YtahibkfcohajcaaLib
namespace Go.Proofs.Ytahibkfcohajcaa.Pure
open Go.RowKit Go.Proofs.Ytahibkfcohajcaa.PFnTurned Go.Proofs.YtahibkfcohajcaaW.PrintWords Go.Proofs.YtahibkfcohajcaaW.PrintLast Go.Proofs.Ytahibkfcohajcaa.Lib
set_option linter.unusedSimpArgs false
set_option linter.unusedVariables false

/-- The reader is in order: its bytes are bytes, its place is among them. -/
def RdOk (s : List Int) (p : Int) : Prop := 0 ≤ p ∧ p ≤ s.length ∧ s.length ≤ 1048576 ∧ ∀ x ∈ s, 0 ≤ x ∧ x ≤ 255
theorem rd_mem {s : List Int} {p : Int} (h0 : 0 ≤ p) (h1 : p < (s.length : Int)) : rd s p ∈ s := by
  unfold rd
  rw [List.getD_eq_getElem?_getD, List.getElem?_eq_getElem (by omega)]
  exact List.getElem_mem _
theorem open_tot {l : List Int} (hl : l.length ≤ 1048576) (hb : ∀ x ∈ l, 0 ≤ x ∧ x ≤ 255) : spec_l1Open.f l = some (l, 0) ∧ RdOk l 0 :=
  ⟨rfl, by omega, by omega, hl, hb⟩
theorem next_tot {s : List Int} {p : Int} (h : RdOk s p) : ∃ v q, spec_l1Rd_next.f s p = some (v, q) ∧ 0 ≤ v ∧ v ≤ 255 ∧ RdOk s q := by
  obtain ⟨h0, h1, h2, h3⟩ := h
  unfold spec_l1Rd_next.f
  by_cases c : p ≥ (s.length : Int)
  · rw [if_pos c]
    exact ⟨0, p, rfl, by omega, by omega, h0, h1, h2, h3⟩
  · have hm := h3 _ (rd_mem h0 (show p < (s.length : Int) by omega))
    have e : p + 1 - 1 = p := by omega
    rw [if_neg c, w64_in (n := p + 1) (by omega) (by omega), w64_in (n := p + 1 - 1) (by omega) (by omega), e, if_pos h0, if_pos (by omega), w64_in (n := rd s p) (by omega) (by omega)]
    exact ⟨_, _, rfl, hm.1, hm.2, by omega, by omega, h2, h3⟩
theorem below_tot {s : List Int} {p : Int} (h : RdOk s p) (n : Int) : ∃ v q, spec_l1Rd_below.f s p n = some (v, q) ∧ 0 ≤ v ∧ (1 ≤ n → v < n) ∧ RdOk s q := by
  unfold spec_l1Rd_below.f
  by_cases c : n ≤ 1
  · rw [if_pos c]
    exact ⟨0, p, rfl, by omega, by omega, h⟩
  · rw [if_neg c]
    obtain ⟨v, q, e1, v0, v1, h1⟩ := next_tot h
    by_cases c2 : n ≤ 256
    · rw [if_pos c2, e1]
      simp only [Option.bind_some]
      rw [if_neg (by omega), tmod_pos _ v0]
      exact ⟨_, _, rfl, Int.emod_nonneg _ (by omega), fun _ => Int.emod_lt_of_pos _ (by omega), h1⟩
    · obtain ⟨u, r, e2, u0, u1, h2⟩ := next_tot h1
      rw [if_neg c2, e1]
      simp only [Option.bind_some]
      rw [e2]
      simp only [Option.bind_some]
      rw [if_neg (by omega), w64_in (n := v * 256) (by omega) (by omega), w64_in (n := v * 256 + u) (by omega) (by omega), tmod_pos _ (by omega)]
      exact ⟨_, _, rfl, Int.emod_nonneg _ (by omega), fun _ => Int.emod_lt_of_pos _ (by omega), h2⟩

theorem once_tot {s : List Int} {p : Int} (h : RdOk s p) (n : Int) : ∃ b q, spec_l1Rd_once.f s p n = some (b, q) ∧ RdOk s q := by
  obtain ⟨v, q, e, _, _, hq⟩ := below_tot h n
  unfold spec_l1Rd_once.f
  rw [e]
  exact ⟨_, _, rfl, hq⟩

theorem word_tot_l {s : List Int} : ∀ (k : Nat) (x i p : Int), RdOk s p → 0 ≤ i → i ≤ 8 → 8 - i < k → ∃ v q, spec_l1Rd_word.l0 k x i s p = some (v, q) ∧ RdOk s q := by
  intro k
  induction k with
  | zero => intros; omega
  | succ k ih =>
    intro x i p h i0 i1 hk
    simp only [spec_l1Rd_word.l0]
    by_cases c : i < 8
    · obtain ⟨v, q, e, _, _, hq⟩ := next_tot h
      rw [if_pos c, e]
      simp only [Option.bind_some]
      rw [w64_in (n := i + 1) (by omega) (by omega)]
      exact ih _ _ _ hq (by omega) (by omega) (by omega)
    · rw [if_neg c]
      exact ⟨_, _, rfl, h⟩
theorem word_tot {s : List Int} {p : Int} (h : RdOk s p) {k : Nat} (hk : 9 ≤ k) : ∃ v q, spec_l1Rd_word.f k s p = some (v, q) ∧ RdOk s q :=
  word_tot_l k 0 0 p h (by omega) (by omega) (by omega)

theorem near_tot {s : List Int} {p : Int} (h : RdOk s p) {k : Nat} (hk : 9 ≤ k) (lo hi : Int) (hlo : -4294967296 ≤ lo) (hhi : hi ≤ 4294967296) : ∃ v q, spec_l1Rd_near.f k s p lo hi = some (v, q) ∧ RdOk s q := by
  unfold spec_l1Rd_near.f
  obtain ⟨v, q, e, _, _, hq⟩ := below_tot h 8
  rw [e]
  simp only [Option.bind_some]
  by_cases c0 : v = 0
  · rw [if_pos c0]; exact ⟨_, _, rfl, hq⟩
  · rw [if_neg c0]
    by_cases c1 : v = 1
    · rw [if_pos c1]; exact ⟨_, _, rfl, hq⟩
    · rw [if_neg c1]
      by_cases c2 : hi < lo
      · rw [if_pos c2]; exact ⟨_, _, rfl, hq⟩
      · rw [if_neg c2]
        obtain ⟨x, r, e2, hr⟩ := word_tot hq hk
        rw [e2]
        simp only [Option.bind_some]
        rw [w64_in (n := hi - lo) (by omega) (by omega), w64_in (n := hi - lo + 1) (by omega) (by omega), u64_in (n := hi - lo + 1) (by omega) (by omega), if_neg (by omega)]
        exact ⟨_, _, rfl, hr⟩
theorem off_tot {s : List Int} {p : Int} (h : RdOk s p) {k : Nat} (hk : 9 ≤ k) (lo hi : Int) (hlo : -4294967296 ≤ lo) (hhi : hi ≤ 4294967296) : ∃ v q, spec_l1Rd_off.f k s p lo hi = some (v, q) ∧ RdOk s q := by
  unfold spec_l1Rd_off.f
  obtain ⟨b, q, e, hq⟩ := once_tot h 24
  rw [e]
  simp only [Option.bind_some]
  by_cases c : b = true
  · rw [if_pos c]
    obtain ⟨v, r, e2, v0, v1, hr⟩ := below_tot hq 4
    rw [e2]
    simp only [Option.bind_some]
    have v4 := v1 (by omega)
    rw [if_pos v0, if_pos (by simp only [List.length_cons, List.length_nil]; omega)]
    exact ⟨_, _, rfl, hr⟩
  · rw [if_neg c]
    obtain ⟨v, r, e2, hr⟩ := near_tot hq hk lo hi hlo hhi
    rw [e2]
    exact ⟨_, _, rfl, hr⟩

theorem byte_tot {s : List Int} {p : Int} (h : RdOk s p) : ∃ v q, spec_l1Rd_byte.f s p = some (v, q) ∧ 0 ≤ v ∧ v ≤ 255 ∧ RdOk s q := by
  unfold spec_l1Rd_byte.f
  obtain ⟨b, q, e, hq⟩ := once_tot h 2
  rw [e]
  simp only [Option.bind_some]
  by_cases c : b = true
  · rw [if_pos c]
    obtain ⟨v, r, e2, v0, v1, hr⟩ := below_tot hq 8
    rw [e2]
    simp only [Option.bind_some]
    have v4 := v1 (by omega)
    rw [if_pos v0, if_pos (by simp only [List.length_cons, List.length_nil]; omega)]
    refine ⟨_, _, rfl, ?_, ?_, hr⟩
    · rcases (show v = 0 ∨ v = 1 ∨ v = 2 ∨ v = 3 ∨ v = 4 ∨ v = 5 ∨ v = 6 ∨ v = 7 by omega) with rfl | rfl | rfl | rfl | rfl | rfl | rfl | rfl <;> decide
    · rcases (show v = 0 ∨ v = 1 ∨ v = 2 ∨ v = 3 ∨ v = 4 ∨ v = 5 ∨ v = 6 ∨ v = 7 by omega) with rfl | rfl | rfl | rfl | rfl | rfl | rfl | rfl <;> decide
  · rw [if_neg c]
    obtain ⟨v, r, e2, v0, v1, hr⟩ := below_tot hq 256
    rw [e2]
    have := v1 (by omega)
    exact ⟨_, _, rfl, v0, by omega, hr⟩

theorem flags_tot {s : List Int} {p : Int} (h : RdOk s p) : ∃ v q, spec_l1Rd_flags.f s p = some (v, q) ∧ 0 ≤ v ∧ v ≤ 240 ∧ RdOk s q := by
  unfold spec_l1Rd_flags.f
  obtain ⟨v, q, e, v0, v1, hq⟩ := below_tot h 16
  rw [e]
  simp only [Option.bind_some]
  have := v1 (by omega)
  rw [w64_in (n := 16 * v) (by omega) (by omega)]
  exact ⟨_, _, rfl, by omega, by omega, hq⟩

theorem bytes_wf {l : List Int} (h : ∀ x ∈ l, (Lit.int .u8 x).wf = true) : ∀ x ∈ l, 0 ≤ x ∧ x ≤ 255 := by
  intro x hx
  have h1 := h x hx
  have e0 : IntKind.u8.min = 0 := rfl
  have e1 : IntKind.u8.max = 255 := rfl
  simp only [Lit.wf, e0, e1, Bool.and_eq_true, decide_eq_true_eq] at h1
  exact h1

def B (b : Bool) : Int := if b = true then 1 else 0
def fl (z n h c : Bool) : Int := 128 * B z + 64 * B n + 32 * B h + 16 * B c
theorem impl_fl (z n h c : Bool) {k : Nat} (hk : 2 ≤ k) : impl_flags.f k z n h c = some (fl z n h c) := by
  obtain ⟨k, rfl⟩ : ∃ m, k = m + 2 := ⟨k - 2, by omega⟩
  cases z <;> cases n <;> cases h <;> cases c <;> rfl
theorem spec_fl (z n h c : Bool) : spec_l4Flags.f z n h c = some (fl z n h c) := by
  cases z <;> cases n <;> cases h <;> cases c <;> decide +kernel
theorem fl_range (z n h c : Bool) : 0 ≤ fl z n h c ∧ fl z n h c ≤ 240 := by
  cases z <;> cases n <;> cases h <;> cases c <;> decide
theorem fl_z (z n h c : Bool) : decide (fl z n h c ≥ 128) = z := by cases z <;> cases n <;> cases h <;> cases c <;> decide
theorem fl_n (z n h c : Bool) : fl z n h c / 64 % 2 = B n := by cases z <;> cases n <;> cases h <;> cases c <;> decide
theorem fl_h (z n h c : Bool) : fl z n h c / 32 % 2 = B h := by cases z <;> cases n <;> cases h <;> cases c <;> decide
theorem fl_c (z n h c : Bool) : fl z n h c / 16 % 2 = B c := by cases z <;> cases n <;> cases h <;> cases c <;> decide

theorem byte_of {f : Int} (h0 : 0 ≤ f) (h1 : f ≤ 255) : ∃ n : Fin 256, f = (n.val : Int) := ⟨⟨f.toNat, by omega⟩, by simp; omega⟩

theorem spec_carry {f : Int} (h0 : 0 ≤ f) (h1 : f ≤ 255) : spec_l4Carry.f f = some (f / 16 % 2) := by
  unfold spec_l4Carry.f
  rw [tdiv_pos _ h0, w64_in (by omega) (by omega), tmod_pos _ (by omega)]

theorem isByte_eq (a : Int) : impl_isByte.f a = some (decide (0 ≤ a ∧ a ≤ 255)) := by
  unfold impl_isByte.f impl_within.f
  by_cases h : a ≥ 0
  · rw [if_pos h]; have : 0 ≤ a := h; simp [this]
  · rw [if_neg h]; have : ¬ 0 ≤ a := h; simp [this]
theorem l4Byte_eq (a : Int) : spec_l4Byte.f a = some (decide (0 ≤ a ∧ a ≤ 255)) := by
  unfold spec_l4Byte.f spec_l1In.f
  by_cases h : a ≥ 0
  · rw [if_pos h]; have : 0 ≤ a := h; simp [this]
  · rw [if_neg h]; have : ¬ 0 ≤ a := h; simp [this]

/-- What turning a byte tells: by the byte and the carry alone. -/
theorem turned_c {op v f : Int} (o0 : 0 ≤ op) (o1 : op ≤ 7) (v0 : 0 ≤ v) (v1 : v ≤ 255) (f0 : 0 ≤ f) (f1 : f ≤ 255) (k : Nat) : impl_Turned.f (k + 1) op v f = impl_Turned.j0 (k + 1) op v (16 * (f / 16 % 2)) false := by
  have hin : impl_within.f op 0 7 = some true := by unfold impl_within.f; rw [if_pos o0]; simp [o1]
  unfold impl_Turned.f
  rw [hin, isByte_eq, isByte_eq]
  simp only [v0, v1, f0, f1, and_self, decide_true, Option.bind_some, if_true, Bool.not_true]
  have e : ∀ x : Int, 0 ≤ x → x ≤ 255 → Go.bits .and .i64 (wrap64 (Int.tdiv x 16)) 1 = x / 16 % 2 := by
    intro x x0 x1
    rw [tdiv_pos _ x0, w64_in (by omega) (by omega), and1]
  simp only [impl_Turned.j0, e f f0 f1, e (16 * (f / 16 % 2)) (by omega) (by omega)]
  have e2 : 16 * (f / 16 % 2) / 16 % 2 = f / 16 % 2 := by omega
  rw [e2]
theorem spec_turned_c {op v f : Int} (o0 : 0 ≤ op) (o1 : op ≤ 7) (v0 : 0 ≤ v) (v1 : v ≤ 255) (f0 : 0 ≤ f) (f1 : f ≤ 255) : spec_Turned.f op v f = spec_l4Turned.f op v (16 * (f / 16 % 2)) := by
  have hin : spec_l1In.f op 0 7 = some true := by unfold spec_l1In.f; rw [if_pos o0]; simp [o1]
  unfold spec_Turned.f
  rw [hin, l4Byte_eq, l4Byte_eq]
  simp only [v0, v1, f0, f1, and_self, decide_true, Option.bind_some, if_true]
  have e2 : 16 * (f / 16 % 2) / 16 % 2 = f / 16 % 2 := by omega
  unfold spec_l4Turned.f
  rw [spec_carry f0 f1, spec_carry (f := 16 * (f / 16 % 2)) (by omega) (by omega), e2]
  cases (if op = 0 then _ else _ : Option (Int × Int)) <;> rfl
theorem turned_all : ∀ (op : Fin 8) (v : Fin 256) (c : Fin 2), impl_Turned.j0 6 (op.val : Int) (v.val : Int) (16 * (c.val : Int)) false = spec_l4Turned.f (op.val : Int) (v.val : Int) (16 * (c.val : Int)) ∧ (spec_l4Turned.f (op.val : Int) (v.val : Int) (16 * (c.val : Int))).isSome = true := by decide +kernel
theorem op_of {op : Int} (o0 : 0 ≤ op) (o1 : op ≤ 7) : ∃ n : Fin 8, op = (n.val : Int) := ⟨⟨op.toNat, by omega⟩, by simp; omega⟩
theorem c_of (f : Int) : ∃ n : Fin 2, f / 16 % 2 = (n.val : Int) := ⟨⟨(f / 16 % 2).toNat, by omega⟩, by simp; omega⟩
/-- What turning a byte tells. -/
def turnR (op v c : Int) : Int × Int := (spec_l4Turned.f op v (16 * c)).getD (0, 0)
theorem turned_eq {op v f : Int} (o0 : 0 ≤ op) (o1 : op ≤ 7) (v0 : 0 ≤ v) (v1 : v ≤ 255) (f0 : 0 ≤ f) (f1 : f ≤ 255) {k : Nat} (hk : 6 ≤ k) : impl_Turned.f k op v f = some (turnR op v (f / 16 % 2)) ∧ spec_Turned.f op v f = some (turnR op v (f / 16 % 2)) := by
  obtain ⟨k, rfl⟩ : ∃ m, k = m + 1 := ⟨k - 1, by omega⟩
  rw [turned_c o0 o1 v0 v1 f0 f1, spec_turned_c o0 o1 v0 v1 f0 f1]
  obtain ⟨a, rfl⟩ := op_of o0 o1
  obtain ⟨b, rfl⟩ := byte_of v0 v1
  obtain ⟨c, hc⟩ := c_of f
  rw [hc]
  obtain ⟨h1, h2⟩ := turned_all a b c
  obtain ⟨r, hr⟩ := Option.isSome_iff_exists.mp h2
  have e : turnR (a.val : Int) (b.val : Int) (c.val : Int) = r := by unfold turnR; rw [hr]; rfl
  rw [e]
  exact ⟨at_rounds (fun k => impl_Turned.mono_l k _ _ _ _) hk (h1.trans hr), hr⟩
theorem turned_out {op v f : Int} (h : ¬ ((0 ≤ op ∧ op ≤ 7) ∧ (0 ≤ v ∧ v ≤ 255) ∧ 0 ≤ f ∧ f ≤ 255)) {k : Nat} (hk : 1 ≤ k) : impl_Turned.f k op v f = some (0, 0) ∧ spec_Turned.f op v f = some (0, 0) := by
  obtain ⟨k, rfl⟩ : ∃ m, k = m + 1 := ⟨k - 1, by omega⟩
  have hi : impl_within.f op 0 7 = some (decide (0 ≤ op ∧ op ≤ 7)) := by
    unfold impl_within.f
    by_cases g : op ≥ 0
    · rw [if_pos g]; have : 0 ≤ op := g; simp [this]
    · rw [if_neg g]; have : ¬ 0 ≤ op := g; simp [this]
  have hs : spec_l1In.f op 0 7 = some (decide (0 ≤ op ∧ op ≤ 7)) := hi
  unfold impl_Turned.f spec_Turned.f
  rw [hi, hs, isByte_eq, isByte_eq, l4Byte_eq, l4Byte_eq]
  simp only [Option.bind_some, impl_Turned.j0, if_true]
  by_cases c0 : 0 ≤ op ∧ op ≤ 7
  · by_cases c1 : 0 ≤ v ∧ v ≤ 255
    · have c2 : ¬ (0 ≤ f ∧ f ≤ 255) := fun c2 => h ⟨c0, c1, c2⟩
      simp [c0, c1, c2]
    · simp [c0, c1]
  · simp [c0]

theorem draw_turned {l : List Int} (hl : l.length ≤ 1048576) (hb : ∀ x ∈ l, 0 ≤ x ∧ x ≤ 255) {k : Nat} (hk : 9 ≤ k) : ∃ op v f, spec_DrawTurned.f k l = some (op, v, f) := by
  obtain ⟨e0, h0⟩ := open_tot hl hb
  unfold spec_DrawTurned.f
  rw [e0]
  simp only [Option.bind_some]
  obtain ⟨b, q, e, hq⟩ := once_tot h0 12
  rw [e]
  simp only [Option.bind_some]
  split
  · obtain ⟨v1, q1, e1, h1⟩ := off_tot hq hk 0 7 (by omega) (by omega)
    obtain ⟨v2, q2, e2, h2⟩ := off_tot h1 hk 0 255 (by omega) (by omega)
    obtain ⟨v3, q3, e3, h3⟩ := off_tot h2 hk 0 255 (by omega) (by omega)
    rw [e1]; simp only [Option.bind_some]; rw [e2]; simp only [Option.bind_some]; rw [e3]
    exact ⟨_, _, _, rfl⟩
  · obtain ⟨v1, q1, e1, _, _, h1⟩ := below_tot hq 8
    obtain ⟨v2, q2, e2, _, _, h2⟩ := byte_tot h1
    obtain ⟨v4, q4, e4, _, _, h4⟩ := flags_tot h2
    rw [e1]; simp only [Option.bind_some]; rw [e2]; simp only [Option.bind_some]; rw [e4]
    exact ⟨_, _, _, rfl⟩

/-- So many turns one behind the other, the carry handed on. -/
def turns (op : Int) : Nat → Int × Int → Int × Int
  | 0, r => r
  | n + 1, r => turns op n (turnR op r.1 (r.2 / 16 % 2))
def okR (r : Int × Int) : Bool := decide (0 ≤ r.1) && decide (r.1 ≤ 255) && decide (0 ≤ r.2) && decide (r.2 ≤ 255)
theorem ok_all : ∀ (op : Fin 4) (v : Fin 256) (c : Fin 2), okR (turnR (op.val : Int) (v.val : Int) (c.val : Int)) = true := by decide +kernel
theorem back_all : ∀ (op : Fin 4) (v : Fin 256) (c : Fin 2), (turnR (if (op.val : Int) % 2 = 0 then (op.val : Int) + 1 else (op.val : Int) - 1) (turnR (op.val : Int) (v.val : Int) (c.val : Int)).1 ((turnR (op.val : Int) (v.val : Int) (c.val : Int)).2 / 16 % 2)).1 = (v.val : Int) := by decide +kernel
theorem xor1_all : ∀ op : Fin 4, Go.bits .xor .i64 (op.val : Int) 1 = if (op.val : Int) % 2 = 0 then (op.val : Int) + 1 else (op.val : Int) - 1 := by decide +kernel
theorem turns8_all : ∀ (op : Fin 2) (v : Fin 256) (c : Fin 2), (turns (op.val : Int) 8 ((v.val : Int), 16 * (c.val : Int))).1 = (v.val : Int) := by decide +kernel
theorem turns9_all : ∀ (op : Fin 2) (v : Fin 256) (c : Fin 2), (turns ((op.val : Int) + 2) 9 ((v.val : Int), 16 * (c.val : Int))).1 = (v.val : Int) ∧ (turns ((op.val : Int) + 2) 9 ((v.val : Int), 16 * (c.val : Int))).2 / 16 % 2 = (c.val : Int) := by decide +kernel
theorem op4_of {op : Int} (o0 : 0 ≤ op) (o1 : op ≤ 3) : ∃ n : Fin 4, op = (n.val : Int) := ⟨⟨op.toNat, by omega⟩, by simp; omega⟩
theorem ok_turn {op v f : Int} (o0 : 0 ≤ op) (o1 : op ≤ 3) (v0 : 0 ≤ v) (v1 : v ≤ 255) : (0 ≤ (turnR op v (f / 16 % 2)).1 ∧ (turnR op v (f / 16 % 2)).1 ≤ 255) ∧ 0 ≤ (turnR op v (f / 16 % 2)).2 ∧ (turnR op v (f / 16 % 2)).2 ≤ 255 := by
  obtain ⟨a, rfl⟩ := op4_of o0 o1
  obtain ⟨b, rfl⟩ := byte_of v0 v1
  obtain ⟨c, hc⟩ := c_of f
  rw [hc]
  have h := ok_all a b c
  unfold okR at h
  simp only [Bool.and_eq_true, decide_eq_true_eq] at h
  exact ⟨⟨h.1.1.1, h.1.1.2⟩, h.1.2, h.2⟩
/-- What is asked behind the turns. -/
def finT (op v0 f0 back x h : Int) : Option Bool := if back = v0 then (if x = v0 then (if op < 2 then (some true) else (some ((Int.tmod (wrap64 (Int.tdiv h 16)) 2) == (Int.tmod (wrap64 (Int.tdiv f0 16)) 2)))) else (some false)) else (some false)
theorem loop_tells (op v0 f0 back : Int) (o0 : 0 ≤ op) (o1 : op ≤ 3) (many : Int) (hm : many ≤ 9) : ∀ (d : Nat) (k : Nat) (i x h : Int), 0 ≤ i → many - i = d → d + 10 < k → 0 ≤ x → x ≤ 255 → 0 ≤ h → h ≤ 255 →
    laws_FnTurned.l0 k op v0 f0 back x h many i = finT op v0 f0 back (turns op d (x, h)).1 (turns op d (x, h)).2 ∧ 0 ≤ (turns op d (x, h)).2 ∧ (turns op d (x, h)).2 ≤ 255 := by
  intro d
  induction d with
  | zero =>
    intro k i x h i0 hd hk x0 x1 h0 h1
    obtain ⟨k, rfl⟩ : ∃ m, k = m + 1 := ⟨k - 1, by omega⟩
    have e : i = many := by omega
    subst e
    refine ⟨?_, h0, h1⟩
    simp only [laws_FnTurned.l0, turns]
    rw [if_neg (by omega)]
    rfl
  | succ d ih =>
    intro k i x h i0 hd hk x0 x1 h0 h1
    obtain ⟨k, rfl⟩ : ∃ m, k = m + 1 := ⟨k - 1, by omega⟩
    have e : laws_FnTurned.l0 (k + 1) op v0 f0 back x h many i = laws_FnTurned.l0 k op v0 f0 back (turnR op x (h / 16 % 2)).1 (turnR op x (h / 16 % 2)).2 many (i + 1) := by
      simp only [laws_FnTurned.l0]
      rw [if_pos (by omega), (turned_eq o0 (by omega) x0 x1 h0 h1 (by omega)).1, w64_in (by omega) (by omega)]
      rfl
    rw [e]
    obtain ⟨⟨y0, y1⟩, z0, z1⟩ := ok_turn (f := h) o0 o1 x0 x1
    exact ih k (i + 1) _ _ (by omega) (by omega) (by omega) y0 y1 z0 z1
theorem turns_c (op : Int) (n : Nat) (v f : Int) : turns op (n + 1) (v, f) = turns op (n + 1) (v, 16 * (f / 16 % 2)) := by
  have e : 16 * (f / 16 % 2) / 16 % 2 = f / 16 % 2 := by omega
  simp only [turns, e]
theorem turned_j (op v f : Int) (o0 : 0 ≤ op) (o1 : op ≤ 3) (v0 : 0 ≤ v) (v1 : v ≤ 255) (f0 : 0 ≤ f) (f1 : f ≤ 255) (v' g' : Int) : laws_FnTurned.j0 60 op v f (turnR op v (f / 16 % 2)).1 (turnR op v (f / 16 % 2)).2 v' g' false = some true := by
  obtain ⟨⟨y0, y1⟩, z0, z1⟩ := ok_turn (f := f) o0 o1 v0 v1
  have hb : (turnR (if op % 2 = 0 then op + 1 else op - 1) (turnR op v (f / 16 % 2)).1 ((turnR op v (f / 16 % 2)).2 / 16 % 2)).1 = v := by
    obtain ⟨a, rfl⟩ := op4_of o0 o1
    obtain ⟨b, rfl⟩ := byte_of v0 v1
    obtain ⟨c, hc⟩ := c_of f
    rw [hc]
    exact back_all a b c
  have hx : Go.bits .xor .i64 op 1 = if op % 2 = 0 then op + 1 else op - 1 := by
    obtain ⟨a, rfl⟩ := op4_of o0 o1
    exact xor1_all a
  simp only [laws_FnTurned.j0]
  rw [if_neg (by decide), hx, (turned_eq (op := if op % 2 = 0 then op + 1 else op - 1) (by split <;> omega) (by split <;> omega) y0 y1 z0 z1 (by omega)).1]
  simp only [Option.bind_some, hb, laws_FnTurned.j1]
  by_cases c1 : op > 1
  · rw [if_pos c1]
    obtain ⟨h1, h2, h3⟩ := loop_tells op v f v o0 o1 9 (by omega) 9 58 0 v f (by omega) (by omega) (by omega) v0 v1 f0 f1
    rw [h1]
    obtain ⟨t1, t2⟩ : (turns op 9 (v, f)).1 = v ∧ (turns op 9 (v, f)).2 / 16 % 2 = f / 16 % 2 := by
      rw [turns_c op 8 v f]
      obtain ⟨b, rfl⟩ := byte_of v0 v1
      obtain ⟨c, hc⟩ := c_of f
      rw [hc]
      have := turns9_all ⟨(op - 2).toNat, by omega⟩ b c
      have e : (((op - 2).toNat : Nat) : Int) + 2 = op := by omega
      simpa only [e] using this
    unfold finT
    rw [if_pos rfl, if_pos t1, if_neg (by omega), tdiv_pos _ h2, tdiv_pos _ f0, w64_in (n := (turns op 9 (v, f)).2 / 16) (by omega) (by omega), w64_in (n := f / 16) (by omega) (by omega), tmod_pos _ (show 0 ≤ (turns op 9 (v, f)).2 / 16 by omega), tmod_pos _ (show 0 ≤ f / 16 by omega), t2]
    simp
  · rw [if_neg c1]
    obtain ⟨h1, h2, h3⟩ := loop_tells op v f v o0 o1 8 (by omega) 8 58 0 v f (by omega) (by omega) (by omega) v0 v1 f0 f1
    rw [h1]
    have t1 : (turns op 8 (v, f)).1 = v := by
      rw [turns_c op 7 v f]
      obtain ⟨b, rfl⟩ := byte_of v0 v1
      obtain ⟨c, hc⟩ := c_of f
      rw [hc]
      have := turns8_all ⟨op.toNat, by omega⟩ b c
      have e : ((op.toNat : Nat) : Int) = op := by omega
      simpa only [e] using this
    unfold finT
    rw [if_pos rfl, if_pos t1, if_pos (by omega)]
theorem FnTurned : laws_FnTurned.Pure := by
  intro l _ _ hw
  refine ⟨60, ?_⟩
  unfold laws_FnTurned.f laws_big.f
  simp only [Option.bind_some]
  by_cases hbig : (l.length : Int) > 1048576
  · simp [hbig]
  · obtain ⟨op, v, f, e⟩ := draw_turned (show l.length ≤ 1048576 by omega) (bytes_wf hw) (k := 60) (by omega)
    simp only [hbig, decide_false]
    rw [if_neg (by decide), e]
    simp only [Option.bind_some]
    have ht : ∀ v' g' : Int, laws_FnTurned.j0 60 op v f v' g' v' g' true = some true := by intro v' g'; simp [laws_FnTurned.j0]
    by_cases h : (0 ≤ op ∧ op ≤ 7) ∧ (0 ≤ v ∧ v ≤ 255) ∧ 0 ≤ f ∧ f ≤ 255
    · obtain ⟨⟨o0, o1⟩, ⟨v0, v1⟩, f0, f1⟩ := h
      obtain ⟨h1, h2⟩ := turned_eq o0 o1 v0 v1 f0 f1 (k := 60) (by omega)
      rw [h1, h2]
      simp only [Option.bind_some, if_true]
      rw [if_neg (by omega)]
      by_cases c3 : op > 3
      · rw [if_pos c3]; exact ht _ _
      · have c4 : ¬ f > 255 := by omega
        rw [if_neg c3, if_neg (by omega), if_neg (by omega), if_neg (by omega)]
        simp only [c4, decide_false]
        exact turned_j op v f o0 (by omega) v0 v1 f0 f1 _ _
    · obtain ⟨h1, h2⟩ := turned_out h (k := 60) (by omega)
      rw [h1, h2]
      simp only [Option.bind_some, if_true, ht]
      by_cases c1 : op < 0
      · rw [if_pos c1]
      · rw [if_neg c1]
        by_cases c2 : op > 3
        · rw [if_pos c2]
        · rw [if_neg c2]
          by_cases c3 : v < 0
          · rw [if_pos c3]
          · rw [if_neg c3]
            by_cases c4 : v > 255
            · rw [if_pos c4]
            · rw [if_neg c4]
              by_cases c5 : f < 0
              · rw [if_pos c5]
              · rw [if_neg c5]
                have c6 : f > 255 := by
                  apply Classical.byContradiction
                  intro c6
                  exact h ⟨by omega, by omega, by omega⟩
                simp only [c6, decide_true, ht]

end Go.Proofs.Ytahibkfcohajcaa.Pure
