/- A shift to the left doubles a byte, one to the right halves it, and its halves swapped twice are what they were, for whatever is drawn. No condition beyond the row's own. -/
import Derived.Test.YtahibkfcohajcaaPFnShiftedx3
import Derived.Test.YtahibkfcohajcaaLib
namespace Go.Proofs.Ytahibkfcohajcaa.Pure
open Go.RowKit Go.Proofs.Ytahibkfcohajcaa.PFnShifted Go.Proofs.YtahibkfcohajcaaW.PrintWords Go.Proofs.YtahibkfcohajcaaW.PrintLast Go.Proofs.Ytahibkfcohajcaa.Lib
set_option linter.unusedSimpArgs false
set_option linter.unusedVariables false

/-- The reader is in order: its bytes are bytes, its place is among them. -/
def RdOk (s : List Int) (p : Int) : Prop := 0 ≤ p ∧ p ≤ s.length ∧ s.length ≤ 1048576 ∧ ∀ x ∈ s, 0 ≤ x ∧ x ≤ 255
theorem rd_mem {s : List Int} {p : Int} (h0 : 0 ≤ p) (h1 : p < (s.length : Int)) : rd s p ∈ s := by
  unfold rd
  rw [List.getD_eq_getElem?_getD, List.getElem?_eq_getElem (by omega)]
  exact List.getElem_mem _
theorem open_tot {l : List Int} (hl : l.length ≤ 1048576) (hb : ∀ x ∈ l, 0 ≤ x ∧ x ≤ 255) : spec_l1Open.f l = some (l, 0) ∧ RdOk l 0 :=
  ⟨rfl, by omega, by omega, hl, hb⟩
theorem next_tot {s : List Int} {p : Int} (h : RdOk s p) : ∃ v q, spec_l1Rd_next.f s p = some (v, q) ∧ 0 ≤ v ∧ v ≤ 255 ∧ RdOk s q := by
  obtain ⟨h0, h1, h2, h3⟩ := h
  unfold spec_l1Rd_next.f
  by_cases c : p ≥ (s.length : Int)
  · rw [if_pos c]
    exact ⟨0, p, rfl, by omega, by omega, h0, h1, h2, h3⟩
  · have hm := h3 _ (rd_mem h0 (show p < (s.length : Int) by omega))
    have e : p + 1 - 1 = p := by omega
    rw [if_neg c, w64_in (n := p + 1) (by omega) (by omega), w64_in (n := p + 1 - 1) (by omega) (by omega), e, if_pos h0, if_pos (by omega), w64_in (n := rd s p) (by omega) (by omega)]
    exact ⟨_, _, rfl, hm.1, hm.2, by omega, by omega, h2, h3⟩
theorem below_tot {s : List Int} {p : Int} (h : RdOk s p) (n : Int) : ∃ v q, spec_l1Rd_below.f s p n = some (v, q) ∧ 0 ≤ v ∧ (1 ≤ n → v < n) ∧ RdOk s q := by
  unfold spec_l1Rd_below.f
  by_cases c : n ≤ 1
  · rw [if_pos c]
    exact ⟨0, p, rfl, by omega, by omega, h⟩
  · rw [if_neg c]
    obtain ⟨v, q, e1, v0, v1, h1⟩ := next_tot h
    by_cases c2 : n ≤ 256
    · rw [if_pos c2, e1]
      simp only [Option.bind_some]
      rw [if_neg (by omega), tmod_pos _ v0]
      exact ⟨_, _, rfl, Int.emod_nonneg _ (by omega), fun _ => Int.emod_lt_of_pos _ (by omega), h1⟩
    · obtain ⟨u, r, e2, u0, u1, h2⟩ := next_tot h1
      rw [if_neg c2, e1]
      simp only [Option.bind_some]
      rw [e2]
      simp only [Option.bind_some]
      rw [if_neg (by omega), w64_in (n := v * 256) (by omega) (by omega), w64_in (n := v * 256 + u) (by omega) (by omega), tmod_pos _ (by omega)]
      exact ⟨_, _, rfl, Int.emod_nonneg _ (by omega), fun _ => Int.emod_lt_of_pos _ (by omega), h2⟩

theorem once_tot {s : List Int} {p : Int} (h : RdOk s p) (n : Int) : ∃ b q, spec_l1Rd_once.f s p n = some (b, q) ∧ RdOk s q := by
  obtain ⟨v, q, e, _, _, hq⟩ := below_tot h n
  unfold spec_l1Rd_once.f
  rw [e]
  exact ⟨_, _, rfl, hq⟩

theorem word_tot_l {s : List Int} : ∀ (k : Nat) (x i p : Int), RdOk s p → 0 ≤ i → i ≤ 8 → 8 - i < k → ∃ v q, spec_l1Rd_word.l0 k x i s p = some (v, q) ∧ RdOk s q := by
  intro k
  induction k with
  | zero => intros; omega
  | succ k ih =>
    intro x i p h i0 i1 hk
    simp only [spec_l1Rd_word.l0]
    by_cases c : i < 8
    · obtain ⟨v, q, e, _, _, hq⟩ := next_tot h
      rw [if_pos c, e]
      simp only [Option.bind_some]
      rw [w64_in (n := i + 1) (by omega) (by omega)]
      exact ih _ _ _ hq (by omega) (by omega) (by omega)
    · rw [if_neg c]
      exact ⟨_, _, rfl, h⟩
theorem word_tot {s : List Int} {p : Int} (h : RdOk s p) {k : Nat} (hk : 9 ≤ k) : ∃ v q, spec_l1Rd_word.f k s p = some (v, q) ∧ RdOk s q :=
  word_tot_l k 0 0 p h (by omega) (by omega) (by omega)

theorem near_tot {s : List Int} {p : Int} (h : RdOk s p) {k : Nat} (hk : 9 ≤ k) (lo hi : Int) (hlo : -4294967296 ≤ lo) (hhi : hi ≤ 4294967296) : ∃ v q, spec_l1Rd_near.f k s p lo hi = some (v, q) ∧ RdOk s q := by
  unfold spec_l1Rd_near.f
  obtain ⟨v, q, e, _, _, hq⟩ := below_tot h 8
  rw [e]
  simp only [Option.bind_some]
  by_cases c0 : v = 0
  · rw [if_pos c0]; exact ⟨_, _, rfl, hq⟩
  · rw [if_neg c0]
    by_cases c1 : v = 1
    · rw [if_pos c1]; exact ⟨_, _, rfl, hq⟩
    · rw [if_neg c1]
      by_cases c2 : hi < lo
      · rw [if_pos c2]; exact ⟨_, _, rfl, hq⟩
      · rw [if_neg c2]
        obtain ⟨x, r, e2, hr⟩ := word_tot hq hk
        rw [e2]
        simp only [Option.bind_some]
        rw [w64_in (n := hi - lo) (by omega) (by omega), w64_in (n := hi - lo + 1) (by omega) (by omega), u64_in (n := hi - lo + 1) (by omega) (by omega), if_neg (by omega)]
        exact ⟨_, _, rfl, hr⟩
theorem off_tot {s : List Int} {p : Int} (h : RdOk s p) {k : Nat} (hk : 9 ≤ k) (lo hi : Int) (hlo : -4294967296 ≤ lo) (hhi : hi ≤ 4294967296) : ∃ v q, spec_l1Rd_off.f k s p lo hi = some (v, q) ∧ RdOk s q := by
  unfold spec_l1Rd_off.f
  obtain ⟨b, q, e, hq⟩ := once_tot h 24
  rw [e]
  simp only [Option.bind_some]
  by_cases c : b = true
  · rw [if_pos c]
    obtain ⟨v, r, e2, v0, v1, hr⟩ := below_tot hq 4
    rw [e2]
    simp only [Option.bind_some]
    have v4 := v1 (by omega)
    rw [if_pos v0, if_pos (by simp only [List.length_cons, List.length_nil]; omega)]
    exact ⟨_, _, rfl, hr⟩
  · rw [if_neg c]
    obtain ⟨v, r, e2, hr⟩ := near_tot hq hk lo hi hlo hhi
    rw [e2]
    exact ⟨_, _, rfl, hr⟩

theorem byte_tot {s : List Int} {p : Int} (h : RdOk s p) : ∃ v q, spec_l1Rd_byte.f s p = some (v, q) ∧ 0 ≤ v ∧ v ≤ 255 ∧ RdOk s q := by
  unfold spec_l1Rd_byte.f
  obtain ⟨b, q, e, hq⟩ := once_tot h 2
  rw [e]
  simp only [Option.bind_some]
  by_cases c : b = true
  · rw [if_pos c]
    obtain ⟨v, r, e2, v0, v1, hr⟩ := below_tot hq 8
    rw [e2]
    simp only [Option.bind_some]
    have v4 := v1 (by omega)
    rw [if_pos v0, if_pos (by simp only [List.length_cons, List.length_nil]; omega)]
    refine ⟨_, _, rfl, ?_, ?_, hr⟩
    · rcases (show v = 0 ∨ v = 1 ∨ v = 2 ∨ v = 3 ∨ v = 4 ∨ v = 5 ∨ v = 6 ∨ v = 7 by omega) with rfl | rfl | rfl | rfl | rfl | rfl | rfl | rfl <;> decide
    · rcases (show v = 0 ∨ v = 1 ∨ v = 2 ∨ v = 3 ∨ v = 4 ∨ v = 5 ∨ v = 6 ∨ v = 7 by omega) with rfl | rfl | rfl | rfl | rfl | rfl | rfl | rfl <;> decide
  · rw [if_neg c]
    obtain ⟨v, r, e2, v0, v1, hr⟩ := below_tot hq 256
    rw [e2]
    have := v1 (by omega)
    exact ⟨_, _, rfl, v0, by omega, hr⟩

theorem flags_tot {s : List Int} {p : Int} (h : RdOk s p) : ∃ v q, spec_l1Rd_flags.f s p = some (v, q) ∧ 0 ≤ v ∧ v ≤ 240 ∧ RdOk s q := by
  unfold spec_l1Rd_flags.f
  obtain ⟨v, q, e, v0, v1, hq⟩ := below_tot h 16
  rw [e]
  simp only [Option.bind_some]
  have := v1 (by omega)
  rw [w64_in (n := 16 * v) (by omega) (by omega)]
  exact ⟨_, _, rfl, by omega, by omega, hq⟩

theorem bytes_wf {l : List Int} (h : ∀ x ∈ l, (Lit.int .u8 x).wf = true) : ∀ x ∈ l, 0 ≤ x ∧ x ≤ 255 := by
  intro x hx
  have h1 := h x hx
  have e0 : IntKind.u8.min = 0 := rfl
  have e1 : IntKind.u8.max = 255 := rfl
  simp only [Lit.wf, e0, e1, Bool.and_eq_true, decide_eq_true_eq] at h1
  exact h1

def B (b : Bool) : Int := if b = true then 1 else 0
def fl (z n h c : Bool) : Int := 128 * B z + 64 * B n + 32 * B h + 16 * B c
theorem impl_fl (z n h c : Bool) {k : Nat} (hk : 2 ≤ k) : impl_flags.f k z n h c = some (fl z n h c) := by
  obtain ⟨k, rfl⟩ : ∃ m, k = m + 2 := ⟨k - 2, by omega⟩
  cases z <;> cases n <;> cases h <;> cases c <;> rfl
theorem spec_fl (z n h c : Bool) : spec_l4Flags.f z n h c = some (fl z n h c) := by
  cases z <;> cases n <;> cases h <;> cases c <;> decide +kernel
theorem fl_range (z n h c : Bool) : 0 ≤ fl z n h c ∧ fl z n h c ≤ 240 := by
  cases z <;> cases n <;> cases h <;> cases c <;> decide
theorem fl_z (z n h c : Bool) : decide (fl z n h c ≥ 128) = z := by cases z <;> cases n <;> cases h <;> cases c <;> decide
theorem fl_n (z n h c : Bool) : fl z n h c / 64 % 2 = B n := by cases z <;> cases n <;> cases h <;> cases c <;> decide
theorem fl_h (z n h c : Bool) : fl z n h c / 32 % 2 = B h := by cases z <;> cases n <;> cases h <;> cases c <;> decide
theorem fl_c (z n h c : Bool) : fl z n h c / 16 % 2 = B c := by cases z <;> cases n <;> cases h <;> cases c <;> decide

theorem byte_of {f : Int} (h0 : 0 ≤ f) (h1 : f ≤ 255) : ∃ n : Fin 256, f = (n.val : Int) := ⟨⟨f.toNat, by omega⟩, by simp; omega⟩

theorem spec_carry {f : Int} (h0 : 0 ≤ f) (h1 : f ≤ 255) : spec_l4Carry.f f = some (f / 16 % 2) := by
  unfold spec_l4Carry.f
  rw [tdiv_pos _ h0, w64_in (by omega) (by omega), tmod_pos _ (by omega)]

theorem isByte_eq (a : Int) : impl_isByte.f a = some (decide (0 ≤ a ∧ a ≤ 255)) := by
  unfold impl_isByte.f impl_within.f
  by_cases h : a ≥ 0
  · rw [if_pos h]; have : 0 ≤ a := h; simp [this]
  · rw [if_neg h]; have : ¬ 0 ≤ a := h; simp [this]
theorem l4Byte_eq (a : Int) : spec_l4Byte.f a = some (decide (0 ≤ a ∧ a ≤ 255)) := by
  unfold spec_l4Byte.f spec_l1In.f
  by_cases h : a ≥ 0
  · rw [if_pos h]; have : 0 ≤ a := h; simp [this]
  · rw [if_neg h]; have : ¬ 0 ≤ a := h; simp [this]

/-- What turning a byte tells: by the byte and the carry alone. -/
theorem turned_c {op v f : Int} (o0 : 0 ≤ op) (o1 : op ≤ 7) (v0 : 0 ≤ v) (v1 : v ≤ 255) (f0 : 0 ≤ f) (f1 : f ≤ 255) (k : Nat) : impl_Turned.f (k + 1) op v f = impl_Turned.j0 (k + 1) op v (16 * (f / 16 % 2)) false := by
  have hin : impl_within.f op 0 7 = some true := by unfold impl_within.f; rw [if_pos o0]; simp [o1]
  unfold impl_Turned.f
  rw [hin, isByte_eq, isByte_eq]
  simp only [v0, v1, f0, f1, and_self, decide_true, Option.bind_some, if_true, Bool.not_true]
  have e : ∀ x : Int, 0 ≤ x → x ≤ 255 → Go.bits .and .i64 (wrap64 (Int.tdiv x 16)) 1 = x / 16 % 2 := by
    intro x x0 x1
    rw [tdiv_pos _ x0, w64_in (by omega) (by omega), and1]
  simp only [impl_Turned.j0, e f f0 f1, e (16 * (f / 16 % 2)) (by omega) (by omega)]
  have e2 : 16 * (f / 16 % 2) / 16 % 2 = f / 16 % 2 := by omega
  rw [e2]
theorem spec_turned_c {op v f : Int} (o0 : 0 ≤ op) (o1 : op ≤ 7) (v0 : 0 ≤ v) (v1 : v ≤ 255) (f0 : 0 ≤ f) (f1 : f ≤ 255) : spec_Turned.f op v f = spec_l4Turned.f op v (16 * (f / 16 % 2)) := by
  have hin : spec_l1In.f op 0 7 = some true := by unfold spec_l1In.f; rw [if_pos o0]; simp [o1]
  unfold spec_Turned.f
  rw [hin, l4Byte_eq, l4Byte_eq]
  simp only [v0, v1, f0, f1, and_self, decide_true, Option.bind_some, if_true]
  have e2 : 16 * (f / 16 % 2) / 16 % 2 = f / 16 % 2 := by omega
  unfold spec_l4Turned.f
  rw [spec_carry f0 f1, spec_carry (f := 16 * (f / 16 % 2)) (by omega) (by omega), e2]
  cases (if op = 0 then _ else _ : Option (Int × Int)) <;> rfl
theorem turned_all : ∀ (op : Fin 8) (v : Fin 256) (c : Fin 2), impl_Turned.j0 6 (op.val : Int) (v.val : Int) (16 * (c.val : Int)) false = spec_l4Turned.f (op.val : Int) (v.val : Int) (16 * (c.val : Int)) ∧ (spec_l4Turned.f (op.val : Int) (v.val : Int) (16 * (c.val : Int))).isSome = true := by decide +kernel
theorem op_of {op : Int} (o0 : 0 ≤ op) (o1 : op ≤ 7) : ∃ n : Fin 8, op = (n.val : Int) := ⟨⟨op.toNat, by omega⟩, by simp; omega⟩
theorem c_of (f : Int) : ∃ n : Fin 2, f / 16 % 2 = (n.val : Int) := ⟨⟨(f / 16 % 2).toNat, by omega⟩, by simp; omega⟩
/-- What turning a byte tells. -/
def turnR (op v c : Int) : Int × Int := (spec_l4Turned.f op v (16 * c)).getD (0, 0)
theorem turned_eq {op v f : Int} (o0 : 0 ≤ op) (o1 : op ≤ 7) (v0 : 0 ≤ v) (v1 : v ≤ 255) (f0 : 0 ≤ f) (f1 : f ≤ 255) {k : Nat} (hk : 6 ≤ k) : impl_Turned.f k op v f = some (turnR op v (f / 16 % 2)) ∧ spec_Turned.f op v f = some (turnR op v (f / 16 % 2)) := by
  obtain ⟨k, rfl⟩ : ∃ m, k = m + 1 := ⟨k - 1, by omega⟩
  rw [turned_c o0 o1 v0 v1 f0 f1, spec_turned_c o0 o1 v0 v1 f0 f1]
  obtain ⟨a, rfl⟩ := op_of o0 o1
  obtain ⟨b, rfl⟩ := byte_of v0 v1
  obtain ⟨c, hc⟩ := c_of f
  rw [hc]
  obtain ⟨h1, h2⟩ := turned_all a b c
  obtain ⟨r, hr⟩ := Option.isSome_iff_exists.mp h2
  have e : turnR (a.val : Int) (b.val : Int) (c.val : Int) = r := by unfold turnR; rw [hr]; rfl
  rw [e]
  exact ⟨at_rounds (fun k => impl_Turned.mono_l k _ _ _ _) hk (h1.trans hr), hr⟩
theorem turned_out {op v f : Int} (h : ¬ ((0 ≤ op ∧ op ≤ 7) ∧ (0 ≤ v ∧ v ≤ 255) ∧ 0 ≤ f ∧ f ≤ 255)) {k : Nat} (hk : 1 ≤ k) : impl_Turned.f k op v f = some (0, 0) ∧ spec_Turned.f op v f = some (0, 0) := by
  obtain ⟨k, rfl⟩ : ∃ m, k = m + 1 := ⟨k - 1, by omega⟩
  have hi : impl_within.f op 0 7 = some (decide (0 ≤ op ∧ op ≤ 7)) := by
    unfold impl_within.f
    by_cases g : op ≥ 0
    · rw [if_pos g]; have : 0 ≤ op := g; simp [this]
    · rw [if_neg g]; have : ¬ 0 ≤ op := g; simp [this]
  have hs : spec_l1In.f op 0 7 = some (decide (0 ≤ op ∧ op ≤ 7)) := hi
  unfold impl_Turned.f spec_Turned.f
  rw [hi, hs, isByte_eq, isByte_eq, l4Byte_eq, l4Byte_eq]
  simp only [Option.bind_some, impl_Turned.j0, if_true]
  by_cases c0 : 0 ≤ op ∧ op ≤ 7
  · by_cases c1 : 0 ≤ v ∧ v ≤ 255
    · have c2 : ¬ (0 ≤ f ∧ f ≤ 255) := fun c2 => h ⟨c0, c1, c2⟩
      simp [c0, c1, c2]
    · simp [c0, c1]
  · simp [c0]

theorem draw_turned {l : List Int} (hl : l.length ≤ 1048576) (hb : ∀ x ∈ l, 0 ≤ x ∧ x ≤ 255) {k : Nat} (hk : 9 ≤ k) : ∃ op v f, spec_DrawTurned.f k l = some (op, v, f) := by
  obtain ⟨e0, h0⟩ := open_tot hl hb
  unfold spec_DrawTurned.f
  rw [e0]
  simp only [Option.bind_some]
  obtain ⟨b, q, e, hq⟩ := once_tot h0 12
  rw [e]
  simp only [Option.bind_some]
  split
  · obtain ⟨v1, q1, e1, h1⟩ := off_tot hq hk 0 7 (by omega) (by omega)
    obtain ⟨v2, q2, e2, h2⟩ := off_tot h1 hk 0 255 (by omega) (by omega)
    obtain ⟨v3, q3, e3, h3⟩ := off_tot h2 hk 0 255 (by omega) (by omega)
    rw [e1]; simp only [Option.bind_some]; rw [e2]; simp only [Option.bind_some]; rw [e3]
    exact ⟨_, _, _, rfl⟩
  · obtain ⟨v1, q1, e1, _, _, h1⟩ := below_tot hq 8
    obtain ⟨v2, q2, e2, _, _, h2⟩ := byte_tot h1
    obtain ⟨v4, q4, e4, _, _, h4⟩ := flags_tot h2
    rw [e1]; simp only [Option.bind_some]; rw [e2]; simp only [Option.bind_some]; rw [e4]
    exact ⟨_, _, _, rfl⟩

/-- What the five turns tell of a byte. -/
def shiftsOk (v c : Int) : Bool :=
  let a := turnR 4 v c
  let b := turnR 5 v c
  let r := turnR 7 v c
  let d := turnR 6 v c
  let e := turnR 6 d.1 (d.2 / 16 % 2)
  decide (0 ≤ d.1) && decide (d.1 ≤ 255) && decide (0 ≤ d.2) && decide (d.2 ≤ 255) && decide (wrap64 (a.1 + wrap64 (256 * Int.tmod (wrap64 (Int.tdiv a.2 16)) 2)) = wrap64 (2 * v)) && decide (wrap64 (wrap64 (r.1 * 2) + Int.tmod (wrap64 (Int.tdiv r.2 16)) 2) = v) && decide (Int.tmod b.1 128 = wrap64 (Int.tdiv v 2)) && decide (wrap64 (Int.tdiv b.1 128) = wrap64 (Int.tdiv v 128)) && decide (b.2 = wrap64 (wrap64 (Int.tdiv b.2 16) * 16)) && (e.1 == v)
theorem shifts_all : ∀ (v : Fin 256) (c : Fin 2), shiftsOk (v.val : Int) (c.val : Int) = true := by decide +kernel
theorem shifted_j (v f : Int) (v0 : 0 ≤ v) (v1 : v ≤ 255) (f0 : 0 ≤ f) (f1 : f ≤ 255) : laws_FnShifted.j0 20 v f false = some true := by
  have hs : shiftsOk v (f / 16 % 2) = true := by
    obtain ⟨b, rfl⟩ := byte_of v0 v1
    obtain ⟨c, hc⟩ := c_of f
    rw [hc]
    exact shifts_all b c
  unfold shiftsOk at hs
  simp only [Bool.and_eq_true, decide_eq_true_eq] at hs
  obtain ⟨⟨⟨⟨⟨⟨⟨⟨⟨d0, d1⟩, d2⟩, d3⟩, h1⟩, h2⟩, h3⟩, h4⟩, h5⟩, h6⟩ := hs
  simp only [laws_FnShifted.j0]
  rw [if_neg (by decide), (turned_eq (op := 4) (by omega) (by omega) v0 v1 f0 f1 (by omega)).1, (turned_eq (op := 5) (by omega) (by omega) v0 v1 f0 f1 (by omega)).1, (turned_eq (op := 7) (by omega) (by omega) v0 v1 f0 f1 (by omega)).1, (turned_eq (op := 6) (by omega) (by omega) v0 v1 f0 f1 (by omega)).1, (turned_eq (op := 4) (by omega) (by omega) v0 v1 f0 f1 (k := 6) (by omega)).2]
  simp only [Option.bind_some]
  rw [(turned_eq (op := 6) (by omega) (by omega) d0 d1 d2 d3 (by omega)).1]
  simp only [Option.bind_some, if_true]
  rw [if_pos h1, if_pos h2, if_pos h3, if_pos h4, if_pos h5, h6]
theorem FnShifted : laws_FnShifted.Pure := by
  intro l _ _ hw
  refine ⟨20, ?_⟩
  unfold laws_FnShifted.f laws_big.f
  simp only [Option.bind_some]
  by_cases hbig : (l.length : Int) > 1048576
  · simp [hbig]
  · obtain ⟨op, v, f, e⟩ := draw_turned (show l.length ≤ 1048576 by omega) (bytes_wf hw) (k := 20) (by omega)
    simp only [hbig, decide_false]
    rw [if_neg (by decide), e]
    simp only [Option.bind_some]
    have ht : laws_FnShifted.j0 20 v f true = some true := by simp [laws_FnShifted.j0]
    by_cases c3 : v < 0
    · rw [if_pos c3]; exact ht
    · rw [if_neg c3]
      by_cases c4 : v > 255
      · rw [if_pos c4]; exact ht
      · rw [if_neg c4]
        by_cases c5 : f < 0
        · rw [if_pos c5]; exact ht
        · rw [if_neg c5]
          by_cases c6 : f > 255
          · simp only [c6, decide_true]; exact ht
          · simp only [c6, decide_false]
            exact shifted_j v f (by omega) (by omega) (by omega) (by omega)

end Go.Proofs.Ytahibkfcohajcaa.Pure
