/- Two numbers of two decimal digits, added or taken from each other as bytes and put right, are their sum or difference in decimal digits, for whatever is drawn. No condition beyond the row's own. -/
import Derived.Test.YtahibkfcohajcaaQFnDaax4
import Derived.Test.YtahibkfcohajcaaLib
namespace Go.Proofs.Ytahibkfcohajcaa.Pure
open Go.RowKit Go.Proofs.Ytahibkfcohajcaa.QFnDaa Go.Proofs.YtahibkfcohajcaaW.PrintWords Go.Proofs.YtahibkfcohajcaaW.PrintLast Go.Proofs.Ytahibkfcohajcaa.Lib
set_option linter.unusedSimpArgs false
set_option linter.unusedVariables false

/-- The reader is in order: its bytes are bytes, its place is among them. -/
def RdOk (s : List Int) (p : Int) : Prop := 0 ≤ p ∧ p ≤ s.length ∧ s.length ≤ 1048576 ∧ ∀ x ∈ s, 0 ≤ x ∧ x ≤ 255
theorem rd_mem {s : List Int} {p : Int} (h0 : 0 ≤ p) (h1 : p < (s.length : Int)) : rd s p ∈ s := by
  unfold rd
  rw [List.getD_eq_getElem?_getD, List.getElem?_eq_getElem (by omega)]
  exact List.getElem_mem _
theorem open_tot {l : List Int} (hl : l.length ≤ 1048576) (hb : ∀ x ∈ l, 0 ≤ x ∧ x ≤ 255) : spec_l1Open.f l = some (l, 0) ∧ RdOk l 0 :=
  ⟨rfl, by omega, by omega, hl, hb⟩
theorem next_tot {s : List Int} {p : Int} (h : RdOk s p) : ∃ v q, spec_l1Rd_next.f s p = some (v, q) ∧ 0 ≤ v ∧ v ≤ 255 ∧ RdOk s q := by
  obtain ⟨h0, h1, h2, h3⟩ := h
  unfold spec_l1Rd_next.f
  by_cases c : p ≥ (s.length : Int)
  · rw [if_pos c]
    exact ⟨0, p, rfl, by omega, by omega, h0, h1, h2, h3⟩
  · have hm := h3 _ (rd_mem h0 (show p < (s.length : Int) by omega))
    have e : p + 1 - 1 = p := by omega
    rw [if_neg c, w64_in (n := p + 1) (by omega) (by omega), w64_in (n := p + 1 - 1) (by omega) (by omega), e, if_pos h0, if_pos (by omega), w64_in (n := rd s p) (by omega) (by omega)]
    exact ⟨_, _, rfl, hm.1, hm.2, by omega, by omega, h2, h3⟩
theorem below_tot {s : List Int} {p : Int} (h : RdOk s p) (n : Int) : ∃ v q, spec_l1Rd_below.f s p n = some (v, q) ∧ 0 ≤ v ∧ (1 ≤ n → v < n) ∧ RdOk s q := by
  unfold spec_l1Rd_below.f
  by_cases c : n ≤ 1
  · rw [if_pos c]
    exact ⟨0, p, rfl, by omega, by omega, h⟩
  · rw [if_neg c]
    obtain ⟨v, q, e1, v0, v1, h1⟩ := next_tot h
    by_cases c2 : n ≤ 256
    · rw [if_pos c2, e1]
      simp only [Option.bind_some]
      rw [if_neg (by omega), tmod_pos _ v0]
      exact ⟨_, _, rfl, Int.emod_nonneg _ (by omega), fun _ => Int.emod_lt_of_pos _ (by omega), h1⟩
    · obtain ⟨u, r, e2, u0, u1, h2⟩ := next_tot h1
      rw [if_neg c2, e1]
      simp only [Option.bind_some]
      rw [e2]
      simp only [Option.bind_some]
      rw [if_neg (by omega), w64_in (n := v * 256) (by omega) (by omega), w64_in (n := v * 256 + u) (by omega) (by omega), tmod_pos _ (by omega)]
      exact ⟨_, _, rfl, Int.emod_nonneg _ (by omega), fun _ => Int.emod_lt_of_pos _ (by omega), h2⟩

theorem once_tot {s : List Int} {p : Int} (h : RdOk s p) (n : Int) : ∃ b q, spec_l1Rd_once.f s p n = some (b, q) ∧ RdOk s q := by
  obtain ⟨v, q, e, _, _, hq⟩ := below_tot h n
  unfold spec_l1Rd_once.f
  rw [e]
  exact ⟨_, _, rfl, hq⟩

theorem word_tot_l {s : List Int} : ∀ (k : Nat) (x i p : Int), RdOk s p → 0 ≤ i → i ≤ 8 → 8 - i < k → ∃ v q, spec_l1Rd_word.l0 k x i s p = some (v, q) ∧ RdOk s q := by
  intro k
  induction k with
  | zero => intros; omega
  | succ k ih =>
    intro x i p h i0 i1 hk
    simp only [spec_l1Rd_word.l0]
    by_cases c : i < 8
    · obtain ⟨v, q, e, _, _, hq⟩ := next_tot h
      rw [if_pos c, e]
      simp only [Option.bind_some]
      rw [w64_in (n := i + 1) (by omega) (by omega)]
      exact ih _ _ _ hq (by omega) (by omega) (by omega)
    · rw [if_neg c]
      exact ⟨_, _, rfl, h⟩
theorem word_tot {s : List Int} {p : Int} (h : RdOk s p) {k : Nat} (hk : 9 ≤ k) : ∃ v q, spec_l1Rd_word.f k s p = some (v, q) ∧ RdOk s q :=
  word_tot_l k 0 0 p h (by omega) (by omega) (by omega)

theorem near_tot {s : List Int} {p : Int} (h : RdOk s p) {k : Nat} (hk : 9 ≤ k) (lo hi : Int) (hlo : -4294967296 ≤ lo) (hhi : hi ≤ 4294967296) : ∃ v q, spec_l1Rd_near.f k s p lo hi = some (v, q) ∧ RdOk s q := by
  unfold spec_l1Rd_near.f
  obtain ⟨v, q, e, _, _, hq⟩ := below_tot h 8
  rw [e]
  simp only [Option.bind_some]
  by_cases c0 : v = 0
  · rw [if_pos c0]; exact ⟨_, _, rfl, hq⟩
  · rw [if_neg c0]
    by_cases c1 : v = 1
    · rw [if_pos c1]; exact ⟨_, _, rfl, hq⟩
    · rw [if_neg c1]
      by_cases c2 : hi < lo
      · rw [if_pos c2]; exact ⟨_, _, rfl, hq⟩
      · rw [if_neg c2]
        obtain ⟨x, r, e2, hr⟩ := word_tot hq hk
        rw [e2]
        simp only [Option.bind_some]
        rw [w64_in (n := hi - lo) (by omega) (by omega), w64_in (n := hi - lo + 1) (by omega) (by omega), u64_in (n := hi - lo + 1) (by omega) (by omega), if_neg (by omega)]
        exact ⟨_, _, rfl, hr⟩
theorem off_tot {s : List Int} {p : Int} (h : RdOk s p) {k : Nat} (hk : 9 ≤ k) (lo hi : Int) (hlo : -4294967296 ≤ lo) (hhi : hi ≤ 4294967296) : ∃ v q, spec_l1Rd_off.f k s p lo hi = some (v, q) ∧ RdOk s q := by
  unfold spec_l1Rd_off.f
  obtain ⟨b, q, e, hq⟩ := once_tot h 24
  rw [e]
  simp only [Option.bind_some]
  by_cases c : b = true
  · rw [if_pos c]
    obtain ⟨v, r, e2, v0, v1, hr⟩ := below_tot hq 4
    rw [e2]
    simp only [Option.bind_some]
    have v4 := v1 (by omega)
    rw [if_pos v0, if_pos (by simp only [List.length_cons, List.length_nil]; omega)]
    exact ⟨_, _, rfl, hr⟩
  · rw [if_neg c]
    obtain ⟨v, r, e2, hr⟩ := near_tot hq hk lo hi hlo hhi
    rw [e2]
    exact ⟨_, _, rfl, hr⟩

theorem byte_tot {s : List Int} {p : Int} (h : RdOk s p) : ∃ v q, spec_l1Rd_byte.f s p = some (v, q) ∧ 0 ≤ v ∧ v ≤ 255 ∧ RdOk s q := by
  unfold spec_l1Rd_byte.f
  obtain ⟨b, q, e, hq⟩ := once_tot h 2
  rw [e]
  simp only [Option.bind_some]
  by_cases c : b = true
  · rw [if_pos c]
    obtain ⟨v, r, e2, v0, v1, hr⟩ := below_tot hq 8
    rw [e2]
    simp only [Option.bind_some]
    have v4 := v1 (by omega)
    rw [if_pos v0, if_pos (by simp only [List.length_cons, List.length_nil]; omega)]
    refine ⟨_, _, rfl, ?_, ?_, hr⟩
    · rcases (show v = 0 ∨ v = 1 ∨ v = 2 ∨ v = 3 ∨ v = 4 ∨ v = 5 ∨ v = 6 ∨ v = 7 by omega) with rfl | rfl | rfl | rfl | rfl | rfl | rfl | rfl <;> decide
    · rcases (show v = 0 ∨ v = 1 ∨ v = 2 ∨ v = 3 ∨ v = 4 ∨ v = 5 ∨ v = 6 ∨ v = 7 by omega) with rfl | rfl | rfl | rfl | rfl | rfl | rfl | rfl <;> decide
  · rw [if_neg c]
    obtain ⟨v, r, e2, v0, v1, hr⟩ := below_tot hq 256
    rw [e2]
    have := v1 (by omega)
    exact ⟨_, _, rfl, v0, by omega, hr⟩

theorem flags_tot {s : List Int} {p : Int} (h : RdOk s p) : ∃ v q, spec_l1Rd_flags.f s p = some (v, q) ∧ 0 ≤ v ∧ v ≤ 240 ∧ RdOk s q := by
  unfold spec_l1Rd_flags.f
  obtain ⟨v, q, e, v0, v1, hq⟩ := below_tot h 16
  rw [e]
  simp only [Option.bind_some]
  have := v1 (by omega)
  rw [w64_in (n := 16 * v) (by omega) (by omega)]
  exact ⟨_, _, rfl, by omega, by omega, hq⟩

theorem bytes_wf {l : List Int} (h : ∀ x ∈ l, (Lit.int .u8 x).wf = true) : ∀ x ∈ l, 0 ≤ x ∧ x ≤ 255 := by
  intro x hx
  have h1 := h x hx
  have e0 : IntKind.u8.min = 0 := rfl
  have e1 : IntKind.u8.max = 255 := rfl
  simp only [Lit.wf, e0, e1, Bool.and_eq_true, decide_eq_true_eq] at h1
  exact h1

def B (b : Bool) : Int := if b = true then 1 else 0
def fl (z n h c : Bool) : Int := 128 * B z + 64 * B n + 32 * B h + 16 * B c
theorem impl_fl (z n h c : Bool) {k : Nat} (hk : 2 ≤ k) : impl_flags.f k z n h c = some (fl z n h c) := by
  obtain ⟨k, rfl⟩ : ∃ m, k = m + 2 := ⟨k - 2, by omega⟩
  cases z <;> cases n <;> cases h <;> cases c <;> rfl
theorem spec_fl (z n h c : Bool) : spec_l4Flags.f z n h c = some (fl z n h c) := by
  cases z <;> cases n <;> cases h <;> cases c <;> decide +kernel
theorem fl_range (z n h c : Bool) : 0 ≤ fl z n h c ∧ fl z n h c ≤ 240 := by
  cases z <;> cases n <;> cases h <;> cases c <;> decide
theorem fl_z (z n h c : Bool) : decide (fl z n h c ≥ 128) = z := by cases z <;> cases n <;> cases h <;> cases c <;> decide
theorem fl_n (z n h c : Bool) : fl z n h c / 64 % 2 = B n := by cases z <;> cases n <;> cases h <;> cases c <;> decide
theorem fl_h (z n h c : Bool) : fl z n h c / 32 % 2 = B h := by cases z <;> cases n <;> cases h <;> cases c <;> decide
theorem fl_c (z n h c : Bool) : fl z n h c / 16 % 2 = B c := by cases z <;> cases n <;> cases h <;> cases c <;> decide

theorem byte_of {f : Int} (h0 : 0 ≤ f) (h1 : f ≤ 255) : ∃ n : Fin 256, f = (n.val : Int) := ⟨⟨f.toNat, by omega⟩, by simp; omega⟩

theorem has16_all : ∀ n : Fin 256, ((Go.bits .and .i64 (n.val : Int) 16) != 0) = decide ((n.val : Int) / 16 % 2 = 1) := by decide +kernel
theorem has16 {f : Int} (h0 : 0 ≤ f) (h1 : f ≤ 255) : impl_has.f f 16 = some (decide (f / 16 % 2 = 1)) := by
  obtain ⟨n, rfl⟩ := byte_of h0 h1
  unfold impl_has.f
  rw [has16_all]

theorem spec_carry {f : Int} (h0 : 0 ≤ f) (h1 : f ≤ 255) : spec_l4Carry.f f = some (f / 16 % 2) := by
  unfold spec_l4Carry.f
  rw [tdiv_pos _ h0, w64_in (by omega) (by omega), tmod_pos _ (by omega)]



theorem isByte_eq (a : Int) : impl_isByte.f a = some (decide (0 ≤ a ∧ a ≤ 255)) := by
  unfold impl_isByte.f impl_within.f
  by_cases h : a ≥ 0
  · rw [if_pos h]; have : 0 ≤ a := h; simp [this]
  · rw [if_neg h]; have : ¬ 0 ≤ a := h; simp [this]
theorem l4Byte_eq (a : Int) : spec_l4Byte.f a = some (decide (0 ≤ a ∧ a ≤ 255)) := by
  unfold spec_l4Byte.f spec_l1In.f
  by_cases h : a ≥ 0
  · rw [if_pos h]; have : 0 ≤ a := h; simp [this]
  · rw [if_neg h]; have : ¬ 0 ≤ a := h; simp [this]

def carryOf (op f : Int) : Int := if op = 1 ∨ op = 3 then f / 16 % 2 else 0
theorem carryOf_range {op f : Int} : 0 ≤ carryOf op f ∧ carryOf op f ≤ 1 := by unfold carryOf; split <;> omega
/-- What the reckoning of two bytes tells. -/
def aluR (op a b f : Int) : Int × Int :=
  if op = 0 ∨ op = 1 then ((a + b + carryOf op f) % 256, fl (decide ((a + b + carryOf op f) % 256 = 0)) false (decide (a % 16 + b % 16 + carryOf op f > 15)) (decide (a + b + carryOf op f > 255)))
  else if op = 4 then (Go.bits .and .i64 a b, fl (decide (Go.bits .and .i64 a b = 0)) false true false)
  else if op = 5 then (Go.bits .xor .i64 a b, fl (decide (Go.bits .xor .i64 a b = 0)) false false false)
  else if op = 6 then (Go.bits .or .i64 a b, fl (decide (Go.bits .or .i64 a b = 0)) false false false)
  else (if op = 7 then a else (a - b - carryOf op f) % 256, fl (decide ((a - b - carryOf op f) % 256 = 0)) true (decide (a % 16 < b % 16 + carryOf op f)) (decide (a - b - carryOf op f < 0)))
/-- Are the arguments as they should be? -/
def AluIn (op a b f : Int) : Prop := (0 ≤ op ∧ op ≤ 7) ∧ (0 ≤ a ∧ a ≤ 255) ∧ (0 ≤ b ∧ b ≤ 255) ∧ (0 ≤ f ∧ f ≤ 255)
theorem impl_alu {op a b f : Int} (h : AluIn op a b f) {k : Nat} (hk : 8 ≤ k) : impl_Alu.f k op a b f = some (aluR op a b f) := by
  obtain ⟨⟨o0, o1⟩, ⟨a0, a1⟩, ⟨b0, b1⟩, ⟨f0, f1⟩⟩ := h
  obtain ⟨k, rfl⟩ : ∃ m, k = m + 8 := ⟨k - 8, by omega⟩
  have hin : impl_within.f op 0 7 = some true := by unfold impl_within.f; rw [if_pos o0]; simp [o1]
  have hc := has16 f0 f1
  have hcr := @carryOf_range op f
  unfold impl_Alu.f
  rw [hin, isByte_eq, isByte_eq, isByte_eq]
  simp only [a0, a1, b0, b1, f0, f1, and_self, decide_true, Option.bind_some, if_true, Bool.not_true, impl_Alu.j0]
  rw [if_neg (by decide), hc]
  have e1 : ∀ t : Bool, impl_Alu.j1 (k + 7) op a b 0 t = impl_Alu.j3 (k + 5) op a b (B t) op (decide (op = 0 ∨ op = 1)) := by
    intro t
    cases t <;> simp only [impl_Alu.j1, impl_Alu.j2] <;> by_cases h0 : op = 0
    · simp [h0, B]
    · simp [h0, B, Bool.beq_eq_decide_eq]
    · simp [h0, B]
    · simp [h0, B, Bool.beq_eq_decide_eq]
  have e2 : (if op = 1 then ((some (decide (f / 16 % 2 = 1))).bind fun t165 => (impl_Alu.j1 (k + 7) op a b 0 t165)) else (if op = 3 then ((some (decide (f / 16 % 2 = 1))).bind fun t166 => (impl_Alu.j1 (k + 7) op a b 0 t166)) else (impl_Alu.j1 (k + 7) op a b 0 false))) = impl_Alu.j3 (k + 5) op a b (carryOf op f) op (decide (op = 0 ∨ op = 1)) := by
    simp only [Option.bind_some, e1]
    have hB : B (decide (f / 16 % 2 = 1)) = f / 16 % 2 := by
      unfold B
      by_cases g : f / 16 % 2 = 1
      · simp [g]
      · simp [g]; omega
    by_cases g1 : op = 1
    · simp [g1, carryOf, hB]
    · by_cases g3 : op = 3
      · simp [g3, carryOf, hB]
      · simp [g1, g3, carryOf, B]
  rw [e2]
  generalize hcc : carryOf op f = c at hcr ⊢
  simp only [impl_Alu.j3]
  unfold aluR
  rw [hcc]
  by_cases g0 : op = 0 ∨ op = 1
  · rw [if_pos (by simpa using g0), if_pos g0, and255, and15, and15, w64_in (n := a + b) (by omega) (by omega), w64_in (n := a + b + c) (by omega) (by omega), w64_in (n := a % 16 + b % 16) (by omega) (by omega), w64_in (n := a % 16 + b % 16 + c) (by omega) (by omega), impl_fl _ _ _ _ (by omega)]
    simp [Bool.beq_eq_decide_eq]
  · rw [if_neg (by simpa using g0), if_neg g0]
    by_cases g4 : op = 4
    · rw [if_pos g4, if_pos g4, impl_fl _ _ _ _ (by omega)]
      simp [Bool.beq_eq_decide_eq]
    · rw [if_neg g4, if_neg g4]
      by_cases g5 : op = 5
      · rw [if_pos g5, if_pos g5, impl_fl _ _ _ _ (by omega)]
        simp [Bool.beq_eq_decide_eq]
      · rw [if_neg g5, if_neg g5]
        by_cases g6 : op = 6
        · rw [if_pos g6, if_pos g6, impl_fl _ _ _ _ (by omega)]
          simp [Bool.beq_eq_decide_eq]
        · rw [if_neg g6, if_neg g6, and255, and15, and15, w64_in (n := a - b) (by omega) (by omega), w64_in (n := a - b - c) (by omega) (by omega), w64_in (n := b % 16 + c) (by omega) (by omega), impl_fl _ _ _ _ (by omega)]
          by_cases g7 : op = 7
          · rw [if_pos g7, if_pos g7]; simp [Bool.beq_eq_decide_eq]
          · rw [if_neg g7, if_neg g7]; simp [Bool.beq_eq_decide_eq]
theorem impl_alu_out {op a b f : Int} (h : ¬ AluIn op a b f) {k : Nat} (hk : 1 ≤ k) : impl_Alu.f k op a b f = some (0, 0) := by
  obtain ⟨k, rfl⟩ : ∃ m, k = m + 1 := ⟨k - 1, by omega⟩
  have ho : impl_within.f op 0 7 = some (decide (0 ≤ op ∧ op ≤ 7)) := by
    unfold impl_within.f
    by_cases g : op ≥ 0
    · rw [if_pos g]; have : 0 ≤ op := g; simp [this]
    · rw [if_neg g]; have : ¬ 0 ≤ op := g; simp [this]
  unfold impl_Alu.f
  rw [ho, isByte_eq, isByte_eq, isByte_eq]
  simp only [Option.bind_some, impl_Alu.j0, if_true]
  by_cases c1 : 0 ≤ op ∧ op ≤ 7
  · by_cases c2 : 0 ≤ a ∧ a ≤ 255
    · by_cases c3 : 0 ≤ b ∧ b ≤ 255
      · have c4 : ¬ (0 ≤ f ∧ f ≤ 255) := fun c4 => h ⟨c1, c2, c3, c4⟩
        simp [c1, c2, c3, c4]
      · simp [c1, c2, c3]
    · simp [c1, c2]
  · simp [c1]

theorem draw_alu {l : List Int} (hl : l.length ≤ 1048576) (hb : ∀ x ∈ l, 0 ≤ x ∧ x ≤ 255) {k : Nat} (hk : 9 ≤ k) : ∃ op a b f, spec_DrawAlu.f k l = some (op, a, b, f) := by
  obtain ⟨e0, h0⟩ := open_tot hl hb
  unfold spec_DrawAlu.f
  rw [e0]
  simp only [Option.bind_some]
  obtain ⟨b, q, e, hq⟩ := once_tot h0 12
  rw [e]
  simp only [Option.bind_some]
  split
  · obtain ⟨v1, q1, e1, h1⟩ := off_tot hq hk 0 7 (by omega) (by omega)
    obtain ⟨v2, q2, e2, h2⟩ := off_tot h1 hk 0 255 (by omega) (by omega)
    obtain ⟨v3, q3, e3, h3⟩ := off_tot h2 hk 0 255 (by omega) (by omega)
    obtain ⟨v4, q4, e4, h4⟩ := off_tot h3 hk 0 255 (by omega) (by omega)
    rw [e1]; simp only [Option.bind_some]; rw [e2]; simp only [Option.bind_some]; rw [e3]; simp only [Option.bind_some]; rw [e4]
    exact ⟨_, _, _, _, rfl⟩
  · obtain ⟨v1, q1, e1, _, _, h1⟩ := below_tot hq 8
    obtain ⟨v2, q2, e2, _, _, h2⟩ := byte_tot h1
    obtain ⟨v3, q3, e3, _, _, h3⟩ := byte_tot h2
    obtain ⟨v4, q4, e4, _, _, h4⟩ := flags_tot h3
    rw [e1]; simp only [Option.bind_some]; rw [e2]; simp only [Option.bind_some]; rw [e3]; simp only [Option.bind_some]; rw [e4]
    exact ⟨_, _, _, _, rfl⟩

theorem hasf_all : ∀ n : Fin 256, ((Go.bits .and .i64 (n.val : Int) 64) != 0) = ((Go.bits .and .i64 (16 * ((n.val : Int) / 16 % 8)) 64) != 0) ∧ ((Go.bits .and .i64 (n.val : Int) 32) != 0) = ((Go.bits .and .i64 (16 * ((n.val : Int) / 16 % 8)) 32) != 0) ∧ ((Go.bits .and .i64 (n.val : Int) 16) != 0) = ((Go.bits .and .i64 (16 * ((n.val : Int) / 16 % 8)) 16) != 0) := by decide +kernel
theorem daa_c {a f : Int} (a0 : 0 ≤ a) (a1 : a ≤ 255) (f0 : 0 ≤ f) (f1 : f ≤ 255) (k : Nat) : impl_Daa.f (k + 4) a f = impl_Daa.f (k + 4) a (16 * (f / 16 % 8)) := by
  obtain ⟨n, rfl⟩ := byte_of f0 f1
  obtain ⟨h1, h2, h3⟩ := hasf_all n
  have g0 : 0 ≤ 16 * ((n.val : Int) / 16 % 8) := by omega
  have g1 : 16 * ((n.val : Int) / 16 % 8) ≤ 255 := by omega
  unfold impl_Daa.f
  rw [isByte_eq, isByte_eq, isByte_eq]
  simp only [a0, a1, f0, f1, g0, g1, and_self, decide_true, Option.bind_some, if_true, Bool.not_true]
  simp only [impl_Daa.j0, impl_Daa.j1, impl_Daa.j2, impl_has.f, h1, h2, h3, Option.bind_some]
theorem spec_daa_c {a f : Int} (a0 : 0 ≤ a) (a1 : a ≤ 255) (f0 : 0 ≤ f) (f1 : f ≤ 255) (k : Nat) : spec_Daa.f (k + 4) a f = spec_Daa.f (k + 4) a (16 * (f / 16 % 8)) := by
  have g0 : 0 ≤ 16 * (f / 16 % 8) := by omega
  have g1 : 16 * (f / 16 % 8) ≤ 255 := by omega
  unfold spec_Daa.f
  rw [l4Byte_eq, l4Byte_eq, l4Byte_eq]
  simp only [a0, a1, f0, f1, g0, g1, and_self, decide_true, Option.bind_some, if_true, Bool.not_true]
  have e64 : ∀ x : Int, 0 ≤ x → x ≤ 255 → Int.tmod (wrap64 (Int.tdiv x 64)) 2 = x / 64 % 2 := fun x x0 x1 => by rw [tdiv_pos _ x0, w64_in (by omega) (by omega), tmod_pos _ (by omega)]
  have e32 : ∀ x : Int, 0 ≤ x → x ≤ 255 → Int.tmod (wrap64 (Int.tdiv x 32)) 2 = x / 32 % 2 := fun x x0 x1 => by rw [tdiv_pos _ x0, w64_in (by omega) (by omega), tmod_pos _ (by omega)]
  simp only [spec_Daa.j0, spec_carry f0 f1, spec_carry g0 g1, e64 f f0 f1, e32 f f0 f1, e64 _ g0 g1, e32 _ g0 g1, Option.bind_some]
  have q1 : 16 * (f / 16 % 8) / 64 % 2 = f / 64 % 2 := by omega
  have q2 : 16 * (f / 16 % 8) / 32 % 2 = f / 32 % 2 := by omega
  have q3 : 16 * (f / 16 % 8) / 16 % 2 = f / 16 % 2 := by omega
  rw [q1, q2, q3]
theorem daa_all : ∀ (a : Fin 256) (c : Fin 8), impl_Daa.f 9 (a.val : Int) (16 * (c.val : Int)) = spec_Daa.f 9 (a.val : Int) (16 * (c.val : Int)) ∧ (spec_Daa.f 9 (a.val : Int) (16 * (c.val : Int))).isSome = true := by decide +kernel
theorem daa_eq {a f : Int} (a0 : 0 ≤ a) (a1 : a ≤ 255) (f0 : 0 ≤ f) (f1 : f ≤ 255) {k : Nat} (hk : 9 ≤ k) : ∃ r, impl_Daa.f k a f = some r ∧ spec_Daa.f k a f = some r := by
  obtain ⟨n, rfl⟩ := byte_of a0 a1
  obtain ⟨h1, h2⟩ := daa_all n ⟨(f / 16 % 8).toNat, by omega⟩
  have e : ((f / 16 % 8).toNat : Int) = f / 16 % 8 := by omega
  simp only [e] at h1 h2
  obtain ⟨r, hr⟩ := Option.isSome_iff_exists.mp h2
  obtain ⟨m, rfl⟩ : ∃ m, k = m + 4 := ⟨k - 4, by omega⟩
  refine ⟨r, ?_, ?_⟩
  · rw [daa_c a0 a1 f0 f1]
    exact at_rounds (impl_Daa.mono _ _) hk (h1.trans hr)
  · rw [spec_daa_c a0 a1 f0 f1]
    exact at_rounds (spec_Daa.mono _ _) hk hr
/-- What putting right makes of a byte: n: what went ahead was a taking away; h, c: its flags. -/
def daaV (a : Int) (n h c : Bool) : Int := (if n = true then a - ((if h = true then 6 else 0) + (if c = true then 96 else 0)) else a + ((if h = true ∨ a % 16 > 9 then 6 else 0) + (if c = true ∨ a > 153 then 96 else 0))) % 256
def daaC (a : Int) (n c : Bool) : Bool := c || (!n && decide (a > 153))
theorem daaV_all : ∀ (a : Fin 256) (z n h c : Bool), impl_Daa.f 9 (a.val : Int) (fl z n h c) = some (daaV (a.val : Int) n h c, fl (decide (daaV (a.val : Int) n h c = 0)) n false (daaC (a.val : Int) n c)) := by decide +kernel
theorem daa_fl {a : Int} (a0 : 0 ≤ a) (a1 : a ≤ 255) (z n h c : Bool) {k : Nat} (hk : 9 ≤ k) : impl_Daa.f k a (fl z n h c) = some (daaV a n h c, fl (decide (daaV a n h c = 0)) n false (daaC a n c)) := by
  obtain ⟨m, rfl⟩ := byte_of a0 a1
  exact at_rounds (impl_Daa.mono _ _) hk (daaV_all m z n h c)
theorem daa_out {a f : Int} (h : ¬ ((0 ≤ a ∧ a ≤ 255) ∧ 0 ≤ f ∧ f ≤ 255)) {k : Nat} (hk : 1 ≤ k) : impl_Daa.f k a f = some (0, 0) ∧ spec_Daa.f k a f = some (0, 0) := by
  obtain ⟨k, rfl⟩ : ∃ m, k = m + 1 := ⟨k - 1, by omega⟩
  unfold impl_Daa.f spec_Daa.f
  rw [isByte_eq, isByte_eq, l4Byte_eq, l4Byte_eq]
  simp only [Option.bind_some, impl_Daa.j0, spec_Daa.j0, if_true]
  by_cases c1 : 0 ≤ a ∧ a ≤ 255
  · have c2 : ¬ (0 ≤ f ∧ f ≤ 255) := fun c2 => h ⟨c1, c2⟩
    simp [c1, c2]
  · simp [c1]

theorem draw_daa {l : List Int} (hl : l.length ≤ 1048576) (hb : ∀ x ∈ l, 0 ≤ x ∧ x ≤ 255) {k : Nat} (hk : 9 ≤ k) : ∃ a f, spec_DrawDaa.f k l = some (a, f) := by
  obtain ⟨e0, h0⟩ := open_tot hl hb
  unfold spec_DrawDaa.f
  rw [e0]
  simp only [Option.bind_some]
  obtain ⟨v, q0, e1, _, _, h1⟩ := byte_tot h0
  rw [e1]
  simp only [Option.bind_some]
  obtain ⟨b, q, e, hq⟩ := once_tot h1 12
  rw [e]
  simp only [Option.bind_some]
  split
  · obtain ⟨v1, q1, e1, h1⟩ := off_tot hq hk 0 255 (by omega) (by omega)
    obtain ⟨v2, q2, e2, _, _, h2⟩ := flags_tot h1
    rw [e1]; simp only [Option.bind_some]; rw [e2]
    exact ⟨_, _, rfl⟩
  · obtain ⟨v2, q2, e2, _, _, h2⟩ := flags_tot hq
    rw [e2]
    exact ⟨_, _, rfl⟩
/-- A number of two decimal digits as a byte. -/
def bcd (a : Int) : Int := a / 10 * 16 + a % 10
theorem sum_all : ∀ p q : Fin 100, (decide (daaV ((bcd (p.val : Int) + bcd (q.val : Int)) % 256) false (decide (bcd (p.val : Int) % 16 + bcd (q.val : Int) % 16 > 15)) (decide (bcd (p.val : Int) + bcd (q.val : Int) > 255)) = bcd (((p.val : Int) + (q.val : Int)) % 100)) && (daaC ((bcd (p.val : Int) + bcd (q.val : Int)) % 256) false (decide (bcd (p.val : Int) + bcd (q.val : Int) > 255)) == decide ((p.val : Int) + (q.val : Int) > 99)) && decide (daaV ((bcd (p.val : Int) - bcd (q.val : Int)) % 256) true (decide (bcd (p.val : Int) % 16 < bcd (q.val : Int) % 16)) (decide (bcd (p.val : Int) - bcd (q.val : Int) < 0)) = bcd (((p.val : Int) - (q.val : Int) + 100) % 100))) = true := by decide +kernel
theorem hundred {p : Int} (p0 : 0 ≤ p) (p1 : p ≤ 99) : ∃ n : Fin 100, p = (n.val : Int) := ⟨⟨p.toNat, by omega⟩, by simp; omega⟩
theorem sum_ok {p q : Int} (p0 : 0 ≤ p) (p1 : p ≤ 99) (q0 : 0 ≤ q) (q1 : q ≤ 99) : daaV ((bcd p + bcd q) % 256) false (decide (bcd p % 16 + bcd q % 16 > 15)) (decide (bcd p + bcd q > 255)) = bcd ((p + q) % 100) ∧ daaC ((bcd p + bcd q) % 256) false (decide (bcd p + bcd q > 255)) = decide (p + q > 99) := by
  obtain ⟨a, rfl⟩ := hundred p0 p1
  obtain ⟨b, rfl⟩ := hundred q0 q1
  have h := sum_all a b
  simp only [Bool.and_eq_true, decide_eq_true_eq, beq_iff_eq] at h
  exact ⟨h.1.1, h.1.2⟩
theorem diff_ok {p q : Int} (p0 : 0 ≤ p) (p1 : p ≤ 99) (q0 : 0 ≤ q) (q1 : q ≤ 99) : daaV ((bcd p - bcd q) % 256) true (decide (bcd p % 16 < bcd q % 16)) (decide (bcd p - bcd q < 0)) = bcd ((p - q + 100) % 100) := by
  obtain ⟨a, rfl⟩ := hundred p0 p1
  obtain ⟨b, rfl⟩ := hundred q0 q1
  have h := sum_all a b
  simp only [Bool.and_eq_true, decide_eq_true_eq, beq_iff_eq] at h
  exact h.2
theorem daa_j (x y v g : Int) (x0 : 0 ≤ x) (x1 : x ≤ 255) (y0 : 0 ≤ y) (y1 : y ≤ 255) (v' g' : Int) : laws_FnDaa.j0 21 x y v g v' g' false = some true := by
  have P0 : 0 ≤ x % 100 := by omega
  have P1 : x % 100 ≤ 99 := by omega
  have Q0 : 0 ≤ y % 100 := by omega
  have Q1 : y % 100 ≤ 99 := by omega
  have ex : x % 10 = x % 100 % 10 := by omega
  have ey : y % 10 = y % 100 % 10 := by omega
  have bp0 : 0 ≤ bcd (x % 100) ∧ bcd (x % 100) ≤ 255 := by unfold bcd; omega
  have bq0 : 0 ≤ bcd (y % 100) ∧ bcd (y % 100) ≤ 255 := by unfold bcd; omega
  have eb : ∀ z u : Int, 0 ≤ z → z ≤ 200 → u = z % 10 → wrap64 (wrap64 (wrap64 (Int.tdiv z 10) * 16) + u) = bcd z := by
    intro z u z0 z1 hu
    unfold bcd
    rw [tdiv_pos _ z0, hu, w64_in (n := z / 10) (by omega) (by omega), w64_in (n := z / 10 * 16) (by omega) (by omega), w64_in (by omega) (by omega)]
  obtain ⟨s1, s2⟩ := sum_ok P0 P1 Q0 Q1
  have s3 := diff_ok P0 P1 Q0 Q1
  have a0 : aluR 0 (bcd (x % 100)) (bcd (y % 100)) 0 = ((bcd (x % 100) + bcd (y % 100)) % 256, fl (decide ((bcd (x % 100) + bcd (y % 100)) % 256 = 0)) false (decide (bcd (x % 100) % 16 + bcd (y % 100) % 16 > 15)) (decide (bcd (x % 100) + bcd (y % 100) > 255))) := by
    unfold aluR carryOf; simp
  have a2 : aluR 2 (bcd (x % 100)) (bcd (y % 100)) 0 = ((bcd (x % 100) - bcd (y % 100)) % 256, fl (decide ((bcd (x % 100) - bcd (y % 100)) % 256 = 0)) true (decide (bcd (x % 100) % 16 < bcd (y % 100) % 16)) (decide (bcd (x % 100) - bcd (y % 100) < 0))) := by
    unfold aluR carryOf; simp
  simp only [laws_FnDaa.j0]
  rw [if_neg (by decide), tmod_pos _ x0, tmod_pos _ y0, tmod_pos _ x0, tmod_pos _ y0, eb (x % 100) _ P0 (by omega) ex, eb (y % 100) _ Q0 (by omega) ey, impl_alu (op := 0) ⟨by omega, bp0, bq0, by omega⟩ (by omega), impl_alu (op := 2) ⟨by omega, bp0, bq0, by omega⟩ (by omega), a0, a2]
  simp only [Option.bind_some]
  rw [daa_fl (by omega) (by omega) _ _ _ _ (by omega), daa_fl (by omega) (by omega) _ _ _ _ (by omega)]
  simp only [Option.bind_some]
  generalize hf : fl (decide (daaV ((bcd (x % 100) + bcd (y % 100)) % 256) false (decide (bcd (x % 100) % 16 + bcd (y % 100) % 16 > 15)) (decide (bcd (x % 100) + bcd (y % 100) > 255)) = 0)) false false (daaC ((bcd (x % 100) + bcd (y % 100)) % 256) false (decide (bcd (x % 100) + bcd (y % 100) > 255))) = f
  have f0 : 0 ≤ f ∧ f ≤ 240 := by rw [← hf]; exact fl_range _ _ _ _
  have f1 : f / 16 % 2 = B (decide (x % 100 + y % 100 > 99)) := by rw [← hf, fl_c, s2]
  rw [s1, s3, w64_in (n := x % 100 + y % 100) (by omega) (by omega), w64_in (n := x % 100 - y % 100) (by omega) (by omega), w64_in (n := x % 100 - y % 100 + 100) (by omega) (by omega), tmod_pos _ (show 0 ≤ x % 100 + y % 100 by omega), tmod_pos _ (show 0 ≤ x % 100 - y % 100 + 100 by omega), tmod_pos _ (show 0 ≤ x % 100 + y % 100 by omega), tmod_pos _ (show 0 ≤ x % 100 - y % 100 + 100 by omega), eb ((x % 100 + y % 100) % 100) _ (by omega) (by omega) (by omega), eb ((x % 100 - y % 100 + 100) % 100) _ (by omega) (by omega) (by omega), if_pos rfl, tdiv_pos _ f0.1, w64_in (n := f / 16) (by omega) (by omega), tmod_pos _ (show 0 ≤ f / 16 by omega), f1]
  have hB : (B (decide (x % 100 + y % 100 > 99)) == 1) = decide (x % 100 + y % 100 > 99) := by unfold B; by_cases h : x % 100 + y % 100 > 99 <;> simp [h]
  rw [hB]
  simp
theorem FnDaa : laws_FnDaa.Pure := by
  intro l _ _ hw
  refine ⟨21, ?_⟩
  unfold laws_FnDaa.f laws_big.f
  simp only [Option.bind_some]
  by_cases hbig : (l.length : Int) > 1048576
  · simp [hbig]
  · obtain ⟨op, x, y, f, e⟩ := draw_alu (show l.length ≤ 1048576 by omega) (bytes_wf hw) (k := 21) (by omega)
    obtain ⟨a, g, e2⟩ := draw_daa (show l.length ≤ 1048576 by omega) (bytes_wf hw) (k := 21) (by omega)
    simp only [hbig, decide_false]
    rw [if_neg (by decide), e]
    simp only [Option.bind_some]
    rw [e2]
    simp only [Option.bind_some]
    obtain ⟨r, h1, h2⟩ : ∃ r, impl_Daa.f 21 a g = some r ∧ spec_Daa.f 21 a g = some r := by
      by_cases h : (0 ≤ a ∧ a ≤ 255) ∧ 0 ≤ g ∧ g ≤ 255
      · exact daa_eq h.1.1 h.1.2 h.2.1 h.2.2 (by omega)
      · exact ⟨_, daa_out h (by omega)⟩
    rw [h1, h2]
    simp only [Option.bind_some, if_true]
    have ht : laws_FnDaa.j0 21 x y r.1 r.2 r.1 r.2 true = some true := by simp [laws_FnDaa.j0]
    by_cases c3 : x < 0
    · rw [if_pos c3]; exact ht
    · rw [if_neg c3]
      by_cases c4 : x > 255
      · rw [if_pos c4]; exact ht
      · rw [if_neg c4]
        by_cases c5 : y < 0
        · rw [if_pos c5]; exact ht
        · rw [if_neg c5]
          by_cases c6 : y > 255
          · simp only [c6, decide_true]; exact ht
          · simp only [c6, decide_false]
            exact daa_j x y _ _ (by omega) (by omega) (by omega) (by omega) _ _

end Go.Proofs.Ytahibkfcohajcaa.Pure
