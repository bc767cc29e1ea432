/- Words are added with a carry, and with a byte that has a sign the flags are those of the bytes, for whatever is drawn; the program's sums are the reference's. No condition beyond the row's own. -/
import Derived.Test.YtahibkfcohajcaaPFnWordsx4
import Derived.Test.YtahibkfcohajcaaLib
namespace Go.Proofs.Ytahibkfcohajcaa.Pure
open Go.RowKit Go.Proofs.Ytahibkfcohajcaa.PFnWords Go.Proofs.YtahibkfcohajcaaW.PrintWords Go.Proofs.YtahibkfcohajcaaW.PrintLast Go.Proofs.Ytahibkfcohajcaa.Lib
set_option linter.unusedSimpArgs false
set_option linter.unusedVariables false

/-- The reader is in order: its bytes are bytes, its place is among them. -/
def RdOk (s : List Int) (p : Int) : Prop := 0 ≤ p ∧ p ≤ s.length ∧ s.length ≤ 1048576 ∧ ∀ x ∈ s, 0 ≤ x ∧ x ≤ 255
theorem rd_mem {s : List Int} {p : Int} (h0 : 0 ≤ p) (h1 : p < (s.length : Int)) : rd s p ∈ s := by
  unfold rd
  rw [List.getD_eq_getElem?_getD, List.getElem?_eq_getElem (by omega)]
  exact List.getElem_mem _
theorem open_tot {l : List Int} (hl : l.length ≤ 1048576) (hb : ∀ x ∈ l, 0 ≤ x ∧ x ≤ 255) : spec_l1Open.f l = some (l, 0) ∧ RdOk l 0 :=
  ⟨rfl, by omega, by omega, hl, hb⟩
theorem next_tot {s : List Int} {p : Int} (h : RdOk s p) : ∃ v q, spec_l1Rd_next.f s p = some (v, q) ∧ 0 ≤ v ∧ v ≤ 255 ∧ RdOk s q := by
  obtain ⟨h0, h1, h2, h3⟩ := h
  unfold spec_l1Rd_next.f
  by_cases c : p ≥ (s.length : Int)
  · rw [if_pos c]
    exact ⟨0, p, rfl, by omega, by omega, h0, h1, h2, h3⟩
  · have hm := h3 _ (rd_mem h0 (show p < (s.length : Int) by omega))
    have e : p + 1 - 1 = p := by omega
    rw [if_neg c, w64_in (n := p + 1) (by omega) (by omega), w64_in (n := p + 1 - 1) (by omega) (by omega), e, if_pos h0, if_pos (by omega), w64_in (n := rd s p) (by omega) (by omega)]
    exact ⟨_, _, rfl, hm.1, hm.2, by omega, by omega, h2, h3⟩
theorem below_tot {s : List Int} {p : Int} (h : RdOk s p) (n : Int) : ∃ v q, spec_l1Rd_below.f s p n = some (v, q) ∧ 0 ≤ v ∧ (1 ≤ n → v < n) ∧ RdOk s q := by
  unfold spec_l1Rd_below.f
  by_cases c : n ≤ 1
  · rw [if_pos c]
    exact ⟨0, p, rfl, by omega, by omega, h⟩
  · rw [if_neg c]
    obtain ⟨v, q, e1, v0, v1, h1⟩ := next_tot h
    by_cases c2 : n ≤ 256
    · rw [if_pos c2, e1]
      simp only [Option.bind_some]
      rw [if_neg (by omega), tmod_pos _ v0]
      exact ⟨_, _, rfl, Int.emod_nonneg _ (by omega), fun _ => Int.emod_lt_of_pos _ (by omega), h1⟩
    · obtain ⟨u, r, e2, u0, u1, h2⟩ := next_tot h1
      rw [if_neg c2, e1]
      simp only [Option.bind_some]
      rw [e2]
      simp only [Option.bind_some]
      rw [if_neg (by omega), w64_in (n := v * 256) (by omega) (by omega), w64_in (n := v * 256 + u) (by omega) (by omega), tmod_pos _ (by omega)]
      exact ⟨_, _, rfl, Int.emod_nonneg _ (by omega), fun _ => Int.emod_lt_of_pos _ (by omega), h2⟩

theorem once_tot {s : List Int} {p : Int} (h : RdOk s p) (n : Int) : ∃ b q, spec_l1Rd_once.f s p n = some (b, q) ∧ RdOk s q := by
  obtain ⟨v, q, e, _, _, hq⟩ := below_tot h n
  unfold spec_l1Rd_once.f
  rw [e]
  exact ⟨_, _, rfl, hq⟩

theorem word_tot_l {s : List Int} : ∀ (k : Nat) (x i p : Int), RdOk s p → 0 ≤ i → i ≤ 8 → 8 - i < k → ∃ v q, spec_l1Rd_word.l0 k x i s p = some (v, q) ∧ RdOk s q := by
  intro k
  induction k with
  | zero => intros; omega
  | succ k ih =>
    intro x i p h i0 i1 hk
    simp only [spec_l1Rd_word.l0]
    by_cases c : i < 8
    · obtain ⟨v, q, e, _, _, hq⟩ := next_tot h
      rw [if_pos c, e]
      simp only [Option.bind_some]
      rw [w64_in (n := i + 1) (by omega) (by omega)]
      exact ih _ _ _ hq (by omega) (by omega) (by omega)
    · rw [if_neg c]
      exact ⟨_, _, rfl, h⟩
theorem word_tot {s : List Int} {p : Int} (h : RdOk s p) {k : Nat} (hk : 9 ≤ k) : ∃ v q, spec_l1Rd_word.f k s p = some (v, q) ∧ RdOk s q :=
  word_tot_l k 0 0 p h (by omega) (by omega) (by omega)

theorem near_tot {s : List Int} {p : Int} (h : RdOk s p) {k : Nat} (hk : 9 ≤ k) (lo hi : Int) (hlo : -4294967296 ≤ lo) (hhi : hi ≤ 4294967296) : ∃ v q, spec_l1Rd_near.f k s p lo hi = some (v, q) ∧ RdOk s q := by
  unfold spec_l1Rd_near.f
  obtain ⟨v, q, e, _, _, hq⟩ := below_tot h 8
  rw [e]
  simp only [Option.bind_some]
  by_cases c0 : v = 0
  · rw [if_pos c0]; exact ⟨_, _, rfl, hq⟩
  · rw [if_neg c0]
    by_cases c1 : v = 1
    · rw [if_pos c1]; exact ⟨_, _, rfl, hq⟩
    · rw [if_neg c1]
      by_cases c2 : hi < lo
      · rw [if_pos c2]; exact ⟨_, _, rfl, hq⟩
      · rw [if_neg c2]
        obtain ⟨x, r, e2, hr⟩ := word_tot hq hk
        rw [e2]
        simp only [Option.bind_some]
        rw [w64_in (n := hi - lo) (by omega) (by omega), w64_in (n := hi - lo + 1) (by omega) (by omega), u64_in (n := hi - lo + 1) (by omega) (by omega), if_neg (by omega)]
        exact ⟨_, _, rfl, hr⟩
theorem off_tot {s : List Int} {p : Int} (h : RdOk s p) {k : Nat} (hk : 9 ≤ k) (lo hi : Int) (hlo : -4294967296 ≤ lo) (hhi : hi ≤ 4294967296) : ∃ v q, spec_l1Rd_off.f k s p lo hi = some (v, q) ∧ RdOk s q := by
  unfold spec_l1Rd_off.f
  obtain ⟨b, q, e, hq⟩ := once_tot h 24
  rw [e]
  simp only [Option.bind_some]
  by_cases c : b = true
  · rw [if_pos c]
    obtain ⟨v, r, e2, v0, v1, hr⟩ := below_tot hq 4
    rw [e2]
    simp only [Option.bind_some]
    have v4 := v1 (by omega)
    rw [if_pos v0, if_pos (by simp only [List.length_cons, List.length_nil]; omega)]
    exact ⟨_, _, rfl, hr⟩
  · rw [if_neg c]
    obtain ⟨v, r, e2, hr⟩ := near_tot hq hk lo hi hlo hhi
    rw [e2]
    exact ⟨_, _, rfl, hr⟩

theorem byte_tot {s : List Int} {p : Int} (h : RdOk s p) : ∃ v q, spec_l1Rd_byte.f s p = some (v, q) ∧ 0 ≤ v ∧ v ≤ 255 ∧ RdOk s q := by
  unfold spec_l1Rd_byte.f
  obtain ⟨b, q, e, hq⟩ := once_tot h 2
  rw [e]
  simp only [Option.bind_some]
  by_cases c : b = true
  · rw [if_pos c]
    obtain ⟨v, r, e2, v0, v1, hr⟩ := below_tot hq 8
    rw [e2]
    simp only [Option.bind_some]
    have v4 := v1 (by omega)
    rw [if_pos v0, if_pos (by simp only [List.length_cons, List.length_nil]; omega)]
    refine ⟨_, _, rfl, ?_, ?_, hr⟩
    · rcases (show v = 0 ∨ v = 1 ∨ v = 2 ∨ v = 3 ∨ v = 4 ∨ v = 5 ∨ v = 6 ∨ v = 7 by omega) with rfl | rfl | rfl | rfl | rfl | rfl | rfl | rfl <;> decide
    · rcases (show v = 0 ∨ v = 1 ∨ v = 2 ∨ v = 3 ∨ v = 4 ∨ v = 5 ∨ v = 6 ∨ v = 7 by omega) with rfl | rfl | rfl | rfl | rfl | rfl | rfl | rfl <;> decide
  · rw [if_neg c]
    obtain ⟨v, r, e2, v0, v1, hr⟩ := below_tot hq 256
    rw [e2]
    have := v1 (by omega)
    exact ⟨_, _, rfl, v0, by omega, hr⟩

theorem flags_tot {s : List Int} {p : Int} (h : RdOk s p) : ∃ v q, spec_l1Rd_flags.f s p = some (v, q) ∧ 0 ≤ v ∧ v ≤ 240 ∧ RdOk s q := by
  unfold spec_l1Rd_flags.f
  obtain ⟨v, q, e, v0, v1, hq⟩ := below_tot h 16
  rw [e]
  simp only [Option.bind_some]
  have := v1 (by omega)
  rw [w64_in (n := 16 * v) (by omega) (by omega)]
  exact ⟨_, _, rfl, by omega, by omega, hq⟩

theorem bytes_wf {l : List Int} (h : ∀ x ∈ l, (Lit.int .u8 x).wf = true) : ∀ x ∈ l, 0 ≤ x ∧ x ≤ 255 := by
  intro x hx
  have h1 := h x hx
  have e0 : IntKind.u8.min = 0 := rfl
  have e1 : IntKind.u8.max = 255 := rfl
  simp only [Lit.wf, e0, e1, Bool.and_eq_true, decide_eq_true_eq] at h1
  exact h1

def B (b : Bool) : Int := if b = true then 1 else 0
def fl (z n h c : Bool) : Int := 128 * B z + 64 * B n + 32 * B h + 16 * B c
theorem impl_fl (z n h c : Bool) {k : Nat} (hk : 2 ≤ k) : impl_flags.f k z n h c = some (fl z n h c) := by
  obtain ⟨k, rfl⟩ : ∃ m, k = m + 2 := ⟨k - 2, by omega⟩
  cases z <;> cases n <;> cases h <;> cases c <;> rfl
theorem spec_fl (z n h c : Bool) : spec_l4Flags.f z n h c = some (fl z n h c) := by
  cases z <;> cases n <;> cases h <;> cases c <;> decide +kernel
theorem fl_range (z n h c : Bool) : 0 ≤ fl z n h c ∧ fl z n h c ≤ 240 := by
  cases z <;> cases n <;> cases h <;> cases c <;> decide
theorem fl_z (z n h c : Bool) : decide (fl z n h c ≥ 128) = z := by cases z <;> cases n <;> cases h <;> cases c <;> decide
theorem fl_n (z n h c : Bool) : fl z n h c / 64 % 2 = B n := by cases z <;> cases n <;> cases h <;> cases c <;> decide
theorem fl_h (z n h c : Bool) : fl z n h c / 32 % 2 = B h := by cases z <;> cases n <;> cases h <;> cases c <;> decide
theorem fl_c (z n h c : Bool) : fl z n h c / 16 % 2 = B c := by cases z <;> cases n <;> cases h <;> cases c <;> decide

theorem byte_of {f : Int} (h0 : 0 ≤ f) (h1 : f ≤ 255) : ∃ n : Fin 256, f = (n.val : Int) := ⟨⟨f.toNat, by omega⟩, by simp; omega⟩

theorem has16_all : ∀ n : Fin 256, ((Go.bits .and .i64 (n.val : Int) 16) != 0) = decide ((n.val : Int) / 16 % 2 = 1) := by decide +kernel
theorem has16 {f : Int} (h0 : 0 ≤ f) (h1 : f ≤ 255) : impl_has.f f 16 = some (decide (f / 16 % 2 = 1)) := by
  obtain ⟨n, rfl⟩ := byte_of h0 h1
  unfold impl_has.f
  rw [has16_all]

theorem isByte_eq (a : Int) : impl_isByte.f a = some (decide (0 ≤ a ∧ a ≤ 255)) := by
  unfold impl_isByte.f impl_within.f
  by_cases h : a ≥ 0
  · rw [if_pos h]; have : 0 ≤ a := h; simp [this]
  · rw [if_neg h]; have : ¬ 0 ≤ a := h; simp [this]
theorem l4Byte_eq (a : Int) : spec_l4Byte.f a = some (decide (0 ≤ a ∧ a ≤ 255)) := by
  unfold spec_l4Byte.f spec_l1In.f
  by_cases h : a ≥ 0
  · rw [if_pos h]; have : 0 ≤ a := h; simp [this]
  · rw [if_neg h]; have : ¬ 0 ≤ a := h; simp [this]

def carryOf (op f : Int) : Int := if op = 1 ∨ op = 3 then f / 16 % 2 else 0
theorem carryOf_range {op f : Int} : 0 ≤ carryOf op f ∧ carryOf op f ≤ 1 := by unfold carryOf; split <;> omega
/-- What the reckoning of two bytes tells. -/
def aluR (op a b f : Int) : Int × Int :=
  if op = 0 ∨ op = 1 then ((a + b + carryOf op f) % 256, fl (decide ((a + b + carryOf op f) % 256 = 0)) false (decide (a % 16 + b % 16 + carryOf op f > 15)) (decide (a + b + carryOf op f > 255)))
  else if op = 4 then (Go.bits .and .i64 a b, fl (decide (Go.bits .and .i64 a b = 0)) false true false)
  else if op = 5 then (Go.bits .xor .i64 a b, fl (decide (Go.bits .xor .i64 a b = 0)) false false false)
  else if op = 6 then (Go.bits .or .i64 a b, fl (decide (Go.bits .or .i64 a b = 0)) false false false)
  else (if op = 7 then a else (a - b - carryOf op f) % 256, fl (decide ((a - b - carryOf op f) % 256 = 0)) true (decide (a % 16 < b % 16 + carryOf op f)) (decide (a - b - carryOf op f < 0)))
/-- Are the arguments as they should be? -/
def AluIn (op a b f : Int) : Prop := (0 ≤ op ∧ op ≤ 7) ∧ (0 ≤ a ∧ a ≤ 255) ∧ (0 ≤ b ∧ b ≤ 255) ∧ (0 ≤ f ∧ f ≤ 255)
theorem impl_alu {op a b f : Int} (h : AluIn op a b f) {k : Nat} (hk : 8 ≤ k) : impl_Alu.f k op a b f = some (aluR op a b f) := by
  obtain ⟨⟨o0, o1⟩, ⟨a0, a1⟩, ⟨b0, b1⟩, ⟨f0, f1⟩⟩ := h
  obtain ⟨k, rfl⟩ : ∃ m, k = m + 8 := ⟨k - 8, by omega⟩
  have hin : impl_within.f op 0 7 = some true := by unfold impl_within.f; rw [if_pos o0]; simp [o1]
  have hc := has16 f0 f1
  have hcr := @carryOf_range op f
  unfold impl_Alu.f
  rw [hin, isByte_eq, isByte_eq, isByte_eq]
  simp only [a0, a1, b0, b1, f0, f1, and_self, decide_true, Option.bind_some, if_true, Bool.not_true, impl_Alu.j0]
  rw [if_neg (by decide), hc]
  have e1 : ∀ t : Bool, impl_Alu.j1 (k + 7) op a b 0 t = impl_Alu.j3 (k + 5) op a b (B t) op (decide (op = 0 ∨ op = 1)) := by
    intro t
    cases t <;> simp only [impl_Alu.j1, impl_Alu.j2] <;> by_cases h0 : op = 0
    · simp [h0, B]
    · simp [h0, B, Bool.beq_eq_decide_eq]
    · simp [h0, B]
    · simp [h0, B, Bool.beq_eq_decide_eq]
  have e2 : (if op = 1 then ((some (decide (f / 16 % 2 = 1))).bind fun t165 => (impl_Alu.j1 (k + 7) op a b 0 t165)) else (if op = 3 then ((some (decide (f / 16 % 2 = 1))).bind fun t166 => (impl_Alu.j1 (k + 7) op a b 0 t166)) else (impl_Alu.j1 (k + 7) op a b 0 false))) = impl_Alu.j3 (k + 5) op a b (carryOf op f) op (decide (op = 0 ∨ op = 1)) := by
    simp only [Option.bind_some, e1]
    have hB : B (decide (f / 16 % 2 = 1)) = f / 16 % 2 := by
      unfold B
      by_cases g : f / 16 % 2 = 1
      · simp [g]
      · simp [g]; omega
    by_cases g1 : op = 1
    · simp [g1, carryOf, hB]
    · by_cases g3 : op = 3
      · simp [g3, carryOf, hB]
      · simp [g1, g3, carryOf, B]
  rw [e2]
  generalize hcc : carryOf op f = c at hcr ⊢
  simp only [impl_Alu.j3]
  unfold aluR
  rw [hcc]
  by_cases g0 : op = 0 ∨ op = 1
  · rw [if_pos (by simpa using g0), if_pos g0, and255, and15, and15, w64_in (n := a + b) (by omega) (by omega), w64_in (n := a + b + c) (by omega) (by omega), w64_in (n := a % 16 + b % 16) (by omega) (by omega), w64_in (n := a % 16 + b % 16 + c) (by omega) (by omega), impl_fl _ _ _ _ (by omega)]
    simp [Bool.beq_eq_decide_eq]
  · rw [if_neg (by simpa using g0), if_neg g0]
    by_cases g4 : op = 4
    · rw [if_pos g4, if_pos g4, impl_fl _ _ _ _ (by omega)]
      simp [Bool.beq_eq_decide_eq]
    · rw [if_neg g4, if_neg g4]
      by_cases g5 : op = 5
      · rw [if_pos g5, if_pos g5, impl_fl _ _ _ _ (by omega)]
        simp [Bool.beq_eq_decide_eq]
      · rw [if_neg g5, if_neg g5]
        by_cases g6 : op = 6
        · rw [if_pos g6, if_pos g6, impl_fl _ _ _ _ (by omega)]
          simp [Bool.beq_eq_decide_eq]
        · rw [if_neg g6, if_neg g6, and255, and15, and15, w64_in (n := a - b) (by omega) (by omega), w64_in (n := a - b - c) (by omega) (by omega), w64_in (n := b % 16 + c) (by omega) (by omega), impl_fl _ _ _ _ (by omega)]
          by_cases g7 : op = 7
          · rw [if_pos g7, if_pos g7]; simp [Bool.beq_eq_decide_eq]
          · rw [if_neg g7, if_neg g7]; simp [Bool.beq_eq_decide_eq]
theorem impl_alu_out {op a b f : Int} (h : ¬ AluIn op a b f) {k : Nat} (hk : 1 ≤ k) : impl_Alu.f k op a b f = some (0, 0) := by
  obtain ⟨k, rfl⟩ : ∃ m, k = m + 1 := ⟨k - 1, by omega⟩
  have ho : impl_within.f op 0 7 = some (decide (0 ≤ op ∧ op ≤ 7)) := by
    unfold impl_within.f
    by_cases g : op ≥ 0
    · rw [if_pos g]; have : 0 ≤ op := g; simp [this]
    · rw [if_neg g]; have : ¬ 0 ≤ op := g; simp [this]
  unfold impl_Alu.f
  rw [ho, isByte_eq, isByte_eq, isByte_eq]
  simp only [Option.bind_some, impl_Alu.j0, if_true]
  by_cases c1 : 0 ≤ op ∧ op ≤ 7
  · by_cases c2 : 0 ≤ a ∧ a ≤ 255
    · by_cases c3 : 0 ≤ b ∧ b ≤ 255
      · have c4 : ¬ (0 ≤ f ∧ f ≤ 255) := fun c4 => h ⟨c1, c2, c3, c4⟩
        simp [c1, c2, c3, c4]
      · simp [c1, c2, c3]
    · simp [c1, c2]
  · simp [c1]

theorem isWord_eq (a : Int) : impl_isWord.f a = some (decide (0 ≤ a ∧ a ≤ 65535)) := by
  unfold impl_isWord.f impl_within.f
  by_cases h : a ≥ 0
  · rw [if_pos h]; have : 0 ≤ a := h; simp [this]
  · rw [if_neg h]; have : ¬ 0 ≤ a := h; simp [this]
theorem l4Word_eq (a : Int) : spec_l4Word.f a = some (decide (0 ≤ a ∧ a ≤ 65535)) := by
  unfold spec_l4Word.f spec_l1In.f
  by_cases h : a ≥ 0
  · rw [if_pos h]; have : 0 ≤ a := h; simp [this]
  · rw [if_neg h]; have : ¬ 0 ≤ a := h; simp [this]
theorem has128_all : ∀ n : Fin 256, ((Go.bits .and .i64 (n.val : Int) 128) != 0) = decide ((n.val : Int) ≥ 128) := by decide +kernel
theorem has128 {f : Int} (h0 : 0 ≤ f) (h1 : f ≤ 255) : impl_has.f f 128 = some (decide (f ≥ 128)) := by
  obtain ⟨n, rfl⟩ := byte_of h0 h1
  unfold impl_has.f
  rw [has128_all]
def wordsR (a b f : Int) : Int × Int := ((a + b) % 65536, fl (decide (f ≥ 128)) false (decide (a % 4096 + b % 4096 > 4095)) (decide (a + b > 65535)))
def WordsIn (a b f : Int) : Prop := (0 ≤ a ∧ a ≤ 65535) ∧ (0 ≤ b ∧ b ≤ 65535) ∧ 0 ≤ f ∧ f ≤ 255
theorem words_eq {a b f : Int} (h : WordsIn a b f) {k : Nat} (hk : 4 ≤ k) : impl_AddWords.f k a b f = some (wordsR a b f) ∧ spec_AddWords.f a b f = some (wordsR a b f) := by
  obtain ⟨k, rfl⟩ : ∃ m, k = m + 1 := ⟨k - 1, by omega⟩
  obtain ⟨⟨a0, a1⟩, ⟨b0, b1⟩, f0, f1⟩ := h
  have e : Int.tmod (wrap64 (a + b)) 65536 = (a + b) % 65536 := by rw [w64_in (by omega) (by omega), tmod_pos _ (by omega)]
  unfold impl_AddWords.f spec_AddWords.f wordsR
  rw [isWord_eq, isWord_eq, isByte_eq, l4Word_eq, l4Word_eq, l4Byte_eq]
  simp only [a0, a1, b0, b1, f0, f1, and_self, decide_true, Option.bind_some, if_true, Bool.not_true, impl_AddWords.j0]
  rw [if_neg (by decide), has128 f0 f1]
  simp only [Option.bind_some]
  rw [impl_fl _ _ _ _ (by omega), spec_fl, and4095, and4095, and65535, e, tmod_pos _ a0, tmod_pos _ b0, w64_in (n := a + b) (by omega) (by omega), w64_in (n := a % 4096 + b % 4096) (by omega) (by omega)]
  exact ⟨rfl, rfl⟩
theorem words_out {a b f : Int} (h : ¬ WordsIn a b f) {k : Nat} (hk : 1 ≤ k) : impl_AddWords.f k a b f = some (0, 0) ∧ spec_AddWords.f a b f = some (0, 0) := by
  obtain ⟨k, rfl⟩ : ∃ m, k = m + 1 := ⟨k - 1, by omega⟩
  unfold impl_AddWords.f spec_AddWords.f
  rw [isWord_eq, isWord_eq, isByte_eq, l4Word_eq, l4Word_eq, l4Byte_eq]
  simp only [Option.bind_some, impl_AddWords.j0, if_true]
  by_cases c0 : 0 ≤ a ∧ a ≤ 65535
  · by_cases c1 : 0 ≤ b ∧ b ≤ 65535
    · have c2 : ¬ (0 ≤ f ∧ f ≤ 255) := fun c2 => h ⟨c0, c1, c2⟩
      simp [c0, c1, c2]
    · simp [c0, c1]
  · simp [c0]
def sgn (b : Int) : Int := if b > 127 then b - 256 else b
theorem signed_eq {b : Int} (b0 : 0 ≤ b) (b1 : b ≤ 255) : impl_SignedOf.f b = some (sgn b) ∧ spec_SignedOf.f b = some (sgn b) := by
  unfold impl_SignedOf.f spec_SignedOf.f
  rw [isByte_eq]
  have e : spec_l1In.f b 0 255 = some true := by unfold spec_l1In.f; rw [if_pos b0]; simp [b1]
  rw [e]
  simp only [b0, b1, and_self, decide_true, Option.bind_some, if_true]
  unfold sgn
  by_cases h : b > 127
  · simp [h, w64_in (show -9223372036854775808 ≤ b - 256 by omega) (show b - 256 ≤ 9223372036854775807 by omega)]
  · simp [h]
def signR (sp b : Int) : Int × Int := ((sp + sgn b) % 65536, fl false false (decide (sp % 16 + b % 16 > 15)) (decide (sp % 256 + b > 255)))
def SignIn (sp b : Int) : Prop := (0 ≤ sp ∧ sp ≤ 65535) ∧ 0 ≤ b ∧ b ≤ 255
theorem sign_eq {sp b : Int} (h : SignIn sp b) {k : Nat} (hk : 4 ≤ k) : impl_AddSigned.f k sp b = some (signR sp b) ∧ spec_AddSigned.f k sp b = some (signR sp b) := by
  obtain ⟨k, rfl⟩ : ∃ m, k = m + 1 := ⟨k - 1, by omega⟩
  obtain ⟨⟨a0, a1⟩, b0, b1⟩ := h
  obtain ⟨s1, s2⟩ := signed_eq b0 b1
  have hs : -128 ≤ sgn b ∧ sgn b ≤ 127 := by unfold sgn; split <;> omega
  have e : Int.tmod (wrap64 (wrap64 (sp + sgn b) + 65536)) 65536 = (sp + sgn b) % 65536 := by
    rw [w64_in (n := sp + sgn b) (by omega) (by omega), w64_in (by omega) (by omega), tmod_pos _ (by omega)]; omega
  unfold impl_AddSigned.f spec_AddSigned.f signR
  rw [isWord_eq, isByte_eq, l4Word_eq, l4Byte_eq]
  simp only [a0, a1, b0, b1, and_self, decide_true, Option.bind_some, if_true, Bool.not_true, impl_AddSigned.j0, spec_AddSigned.j0]
  rw [if_neg (by decide), if_neg (by decide), s1, s2]
  simp only [Option.bind_some]
  rw [impl_fl _ _ _ _ (by omega), spec_fl, and15, and15, and255, and65535, e, tmod_pos _ a0, tmod_pos _ b0, tmod_pos _ a0, w64_in (n := sp + sgn b) (by omega) (by omega), w64_in (n := sp % 16 + b % 16) (by omega) (by omega), w64_in (n := sp % 256 + b) (by omega) (by omega)]
  exact ⟨rfl, rfl⟩
theorem sign_out {sp b : Int} (h : ¬ SignIn sp b) {k : Nat} (hk : 1 ≤ k) : impl_AddSigned.f k sp b = some (0, 0) ∧ spec_AddSigned.f k sp b = some (0, 0) := by
  obtain ⟨k, rfl⟩ : ∃ m, k = m + 1 := ⟨k - 1, by omega⟩
  unfold impl_AddSigned.f spec_AddSigned.f
  rw [isWord_eq, isByte_eq, l4Word_eq, l4Byte_eq]
  simp only [Option.bind_some, impl_AddSigned.j0, spec_AddSigned.j0, if_true]
  by_cases c0 : 0 ≤ sp ∧ sp ≤ 65535
  · have c2 : ¬ (0 ≤ b ∧ b ≤ 255) := fun c2 => h ⟨c0, c2⟩
    simp [c0, c2]
  · simp [c0]
theorem draw_words {l : List Int} (hl : l.length ≤ 1048576) (hb : ∀ x ∈ l, 0 ≤ x ∧ x ≤ 255) {k : Nat} (hk : 9 ≤ k) : ∃ a b f, spec_DrawAddWords.f k l = some (a, b, f) := by
  obtain ⟨e0, h0⟩ := open_tot hl hb
  unfold spec_DrawAddWords.f
  rw [e0]
  simp only [Option.bind_some]
  obtain ⟨v, q0, e1, h1⟩ := off_tot h0 hk 0 65535 (by omega) (by omega)
  rw [e1]
  simp only [Option.bind_some]
  obtain ⟨b, q, e, hq⟩ := once_tot h1 3
  rw [e]
  simp only [Option.bind_some]
  split
  · obtain ⟨v1, q1, e1, _, _, h1⟩ := below_tot hq 65536
    obtain ⟨v2, q2, e2, v0, v7, h2⟩ := below_tot h1 7
    obtain ⟨v4, q4, e4, _, _, h4⟩ := flags_tot h2
    have := v7 (by omega)
    rw [e1]; simp only [Option.bind_some]; rw [e2]; simp only [Option.bind_some]
    rw [if_pos v0, if_pos (by simp only [List.length_cons, List.length_nil]; omega), e4]
    exact ⟨_, _, _, rfl⟩
  · obtain ⟨v1, q1, e1, _, _, h1⟩ := below_tot hq 65536
    obtain ⟨v3, q3, e3, _, _, h3⟩ := below_tot h1 65536
    obtain ⟨v2, q2, e2, v0, v7, h2⟩ := below_tot h3 7
    obtain ⟨v4, q4, e4, _, _, h4⟩ := flags_tot h2
    have := v7 (by omega)
    rw [e1]; simp only [Option.bind_some]; rw [e3]; simp only [Option.bind_some]; rw [e2]; simp only [Option.bind_some]
    rw [if_pos v0, if_pos (by simp only [List.length_cons, List.length_nil]; omega), e4]
    exact ⟨_, _, _, rfl⟩
theorem draw_sign {l : List Int} (hl : l.length ≤ 1048576) (hb : ∀ x ∈ l, 0 ≤ x ∧ x ≤ 255) {k : Nat} (hk : 9 ≤ k) : ∃ a b, spec_DrawAddSigned.f k l = some (a, b) := by
  obtain ⟨e0, h0⟩ := open_tot hl hb
  unfold spec_DrawAddSigned.f
  rw [e0]
  simp only [Option.bind_some]
  obtain ⟨v, q0, e1, h1⟩ := off_tot h0 hk 0 65535 (by omega) (by omega)
  rw [e1]
  simp only [Option.bind_some]
  obtain ⟨b, q, e, hq⟩ := once_tot h1 3
  rw [e]
  simp only [Option.bind_some]
  split
  · obtain ⟨v2, q2, e2, _, _, h2⟩ := byte_tot hq
    rw [e2]
    exact ⟨_, _, rfl⟩
  · obtain ⟨v1, q1, e1, _, _, h1⟩ := below_tot hq 65536
    obtain ⟨v2, q2, e2, _, _, h2⟩ := byte_tot h1
    rw [e1]; simp only [Option.bind_some]; rw [e2]
    exact ⟨_, _, rfl⟩
theorem words_j2 (sp b : Int) (h : SignIn sp b) : laws_FnWords.j2 20 sp b (signR sp b).1 (signR sp b).2 false = some true := by
  obtain ⟨⟨a0, a1⟩, b0, b1⟩ := h
  have hs : -128 ≤ sgn b ∧ sgn b ≤ 127 := by unfold sgn; split <;> omega
  have hv : (signR sp b).1 = (sp + sgn b) % 65536 := rfl
  have hg : (signR sp b).2 = fl false false (decide (sp % 16 + b % 16 > 15)) (decide (sp % 256 + b > 255)) := rfl
  simp only [laws_FnWords.j2]
  rw [if_neg (by decide), tmod_pos _ a0, impl_alu (op := 0) ⟨by omega, by omega, by omega, by omega⟩ (by omega), (signed_eq b0 b1).1]
  simp only [Option.bind_some]
  rw [hv, hg, w64_in (n := (sp + sgn b) % 65536 - sp) (by omega) (by omega), w64_in (n := (sp + sgn b) % 65536 - sp - sgn b) (by omega) (by omega), if_pos (by rw [Int.tmod_eq_emod]; split <;> omega)]
  have e : (aluR 0 (sp % 256) b 0).2 = fl (decide ((sp % 256 + b) % 256 = 0)) false (decide (sp % 16 + b % 16 > 15)) (decide (sp % 256 + b > 255)) := by
    have q : sp % 256 % 16 = sp % 16 := by omega
    unfold aluR carryOf; simp [q]
  rw [e]
  have hm : ∀ z h c : Bool, Int.tmod (fl z false h c) 128 = fl false false h c := by intro z h c; cases z <;> cases h <;> cases c <;> decide
  rw [hm]
  simp
theorem words_j1 (sp b v g : Int) (hvg : (SignIn sp b → (v, g) = signR sp b)) : laws_FnWords.j1 21 sp b v g false = some true := by
  simp only [laws_FnWords.j1]
  rw [if_neg (by decide)]
  have ht : laws_FnWords.j2 20 sp b v g true = some true := by simp [laws_FnWords.j2]
  by_cases c1 : sp < 0
  · rw [if_pos c1]; exact ht
  · rw [if_neg c1]
    by_cases c2 : sp > 65535
    · rw [if_pos c2]; exact ht
    · rw [if_neg c2]
      by_cases c3 : b < 0
      · rw [if_pos c3]; exact ht
      · rw [if_neg c3]
        by_cases c4 : b > 255
        · simp only [c4, decide_true]; exact ht
        · simp only [c4, decide_false]
          have hin : SignIn sp b := ⟨by omega, by omega⟩
          have h := hvg hin
          have h1 : v = (signR sp b).1 := by rw [← h]
          have h2 : g = (signR sp b).2 := by rw [← h]
          rw [h1, h2]
          exact words_j2 sp b hin
theorem words_j0 (a b f v g sp c x h : Int) (hw : WordsIn a b f → (v, g) = wordsR a b f) (hs : SignIn sp c → (x, h) = signR sp c) : laws_FnWords.j0 22 a b f v g sp c x h false = some true := by
  have hj := words_j1 sp c x h hs
  simp only [laws_FnWords.j0]
  rw [if_neg (by decide)]
  by_cases c1 : a ≥ 0
  · rw [if_pos c1]
    by_cases c2 : a ≤ 65535
    · rw [if_pos c2]
      by_cases c3 : b ≥ 0
      · rw [if_pos c3]
        by_cases c4 : b ≤ 65535
        · rw [if_pos c4]
          by_cases c5 : f ≥ 0
          · rw [if_pos c5]
            by_cases c6 : f ≤ 255
            · rw [if_pos c6]
              have hin : WordsIn a b f := ⟨⟨c1, c2⟩, ⟨c3, c4⟩, c5, c6⟩
              have e := hw hin
              have e1 : v = (a + b) % 65536 := by have := congrArg Prod.fst e; exact this
              have e2 : g = fl (decide (f ≥ 128)) false (decide (a % 4096 + b % 4096 > 4095)) (decide (a + b > 65535)) := by have := congrArg Prod.snd e; exact this
              have gr := fl_range (decide (f ≥ 128)) false (decide (a % 4096 + b % 4096 > 4095)) (decide (a + b > 65535))
              have gc := fl_c (decide (f ≥ 128)) false (decide (a % 4096 + b % 4096 > 4095)) (decide (a + b > 65535))
              have gz := fl_z (decide (f ≥ 128)) false (decide (a % 4096 + b % 4096 > 4095)) (decide (a + b > 65535))
              rw [← e2] at gr gc gz
              have hB : B (decide (a + b > 65535)) = if a + b > 65535 then 1 else 0 := by unfold B; simp
              have hc : wrap64 (v + wrap64 (65536 * Int.tmod (wrap64 (Int.tdiv g 16)) 2)) = wrap64 (a + b) := by
                rw [tdiv_pos _ gr.1, w64_in (n := g / 16) (by omega) (by omega), tmod_pos _ (show 0 ≤ g / 16 by omega), gc, hB, e1]
                split
                · rw [w64_in (n := 65536 * 1) (by omega) (by omega)]; exact congrArg wrap64 (by omega)
                · rw [w64_in (n := 65536 * 0) (by omega) (by omega)]; exact congrArg wrap64 (by omega)
              rw [if_pos hc, gz]
              simp only [bne_self_eq_false]
              exact hj
            · rw [if_neg c6]; exact hj
          · rw [if_neg c5]; exact hj
        · rw [if_neg c4]; exact hj
      · rw [if_neg c3]; exact hj
    · rw [if_neg c2]; exact hj
  · rw [if_neg c1]; exact hj
theorem FnWords : laws_FnWords.Pure := by
  intro l _ _ hw
  refine ⟨22, ?_⟩
  unfold laws_FnWords.f laws_big.f
  simp only [Option.bind_some]
  by_cases hbig : (l.length : Int) > 1048576
  · simp [hbig]
  · obtain ⟨a, b, f, e⟩ := draw_words (show l.length ≤ 1048576 by omega) (bytes_wf hw) (k := 22) (by omega)
    obtain ⟨sp, c, e2⟩ := draw_sign (show l.length ≤ 1048576 by omega) (bytes_wf hw) (k := 22) (by omega)
    simp only [hbig, decide_false]
    rw [if_neg (by decide), e]
    simp only [Option.bind_some]
    obtain ⟨r, h1, h2, hr⟩ : ∃ r, impl_AddWords.f 22 a b f = some r ∧ spec_AddWords.f a b f = some r ∧ (WordsIn a b f → r = wordsR a b f) := by
      by_cases h : WordsIn a b f
      · obtain ⟨x, y⟩ := words_eq h (k := 22) (by omega); exact ⟨_, x, y, fun _ => rfl⟩
      · obtain ⟨x, y⟩ := words_out h (k := 22) (by omega); exact ⟨_, x, y, fun g => absurd g h⟩
    obtain ⟨u, g1, g2, hu⟩ : ∃ r, impl_AddSigned.f 22 sp c = some r ∧ spec_AddSigned.f 22 sp c = some r ∧ (SignIn sp c → r = signR sp c) := by
      by_cases h : SignIn sp c
      · obtain ⟨x, y⟩ := sign_eq h (k := 22) (by omega); exact ⟨_, x, y, fun _ => rfl⟩
      · obtain ⟨x, y⟩ := sign_out h (k := 22) (by omega); exact ⟨_, x, y, fun g => absurd g h⟩
    rw [h1, h2]
    simp only [Option.bind_some]
    rw [e2]
    simp only [Option.bind_some]
    rw [g1, g2]
    simp only [Option.bind_some, if_true, bne_self_eq_false]
    exact words_j0 a b f r.1 r.2 sp c u.1 u.2 (fun h => hr h) (fun h => hu h)

end Go.Proofs.Ytahibkfcohajcaa.Pure
