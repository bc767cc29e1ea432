/- A step up and one down is what it was, and changes no carry, for whatever is drawn; the program's step is the reference's. No condition beyond the row's own. -/
import Derived.Test.YtahibkfcohajcaaPFnSteppedx2
import Derived.Test.YtahibkfcohajcaaLib
namespace Go.Proofs.Ytahibkfcohajcaa.Pure
open Go.RowKit Go.Proofs.Ytahibkfcohajcaa.PFnStepped Go.Proofs.YtahibkfcohajcaaW.PrintWords Go.Proofs.YtahibkfcohajcaaW.PrintLast Go.Proofs.Ytahibkfcohajcaa.Lib
set_option linter.unusedSimpArgs false
set_option linter.unusedVariables false

/-- The reader is in order: its bytes are bytes, its place is among them. -/
def RdOk (s : List Int) (p : Int) : Prop := 0 ≤ p ∧ p ≤ s.length ∧ s.length ≤ 1048576 ∧ ∀ x ∈ s, 0 ≤ x ∧ x ≤ 255
theorem rd_mem {s : List Int} {p : Int} (h0 : 0 ≤ p) (h1 : p < (s.length : Int)) : rd s p ∈ s := by
  unfold rd
  rw [List.getD_eq_getElem?_getD, List.getElem?_eq_getElem (by omega)]
  exact List.getElem_mem _
theorem open_tot {l : List Int} (hl : l.length ≤ 1048576) (hb : ∀ x ∈ l, 0 ≤ x ∧ x ≤ 255) : spec_l1Open.f l = some (l, 0) ∧ RdOk l 0 :=
  ⟨rfl, by omega, by omega, hl, hb⟩
theorem next_tot {s : List Int} {p : Int} (h : RdOk s p) : ∃ v q, spec_l1Rd_next.f s p = some (v, q) ∧ 0 ≤ v ∧ v ≤ 255 ∧ RdOk s q := by
  obtain ⟨h0, h1, h2, h3⟩ := h
  unfold spec_l1Rd_next.f
  by_cases c : p ≥ (s.length : Int)
  · rw [if_pos c]
    exact ⟨0, p, rfl, by omega, by omega, h0, h1, h2, h3⟩
  · have hm := h3 _ (rd_mem h0 (show p < (s.length : Int) by omega))
    have e : p + 1 - 1 = p := by omega
    rw [if_neg c, w64_in (n := p + 1) (by omega) (by omega), w64_in (n := p + 1 - 1) (by omega) (by omega), e, if_pos h0, if_pos (by omega), w64_in (n := rd s p) (by omega) (by omega)]
    exact ⟨_, _, rfl, hm.1, hm.2, by omega, by omega, h2, h3⟩
theorem below_tot {s : List Int} {p : Int} (h : RdOk s p) (n : Int) : ∃ v q, spec_l1Rd_below.f s p n = some (v, q) ∧ 0 ≤ v ∧ (1 ≤ n → v < n) ∧ RdOk s q := by
  unfold spec_l1Rd_below.f
  by_cases c : n ≤ 1
  · rw [if_pos c]
    exact ⟨0, p, rfl, by omega, by omega, h⟩
  · rw [if_neg c]
    obtain ⟨v, q, e1, v0, v1, h1⟩ := next_tot h
    by_cases c2 : n ≤ 256
    · rw [if_pos c2, e1]
      simp only [Option.bind_some]
      rw [if_neg (by omega), tmod_pos _ v0]
      exact ⟨_, _, rfl, Int.emod_nonneg _ (by omega), fun _ => Int.emod_lt_of_pos _ (by omega), h1⟩
    · obtain ⟨u, r, e2, u0, u1, h2⟩ := next_tot h1
      rw [if_neg c2, e1]
      simp only [Option.bind_some]
      rw [e2]
      simp only [Option.bind_some]
      rw [if_neg (by omega), w64_in (n := v * 256) (by omega) (by omega), w64_in (n := v * 256 + u) (by omega) (by omega), tmod_pos _ (by omega)]
      exact ⟨_, _, rfl, Int.emod_nonneg _ (by omega), fun _ => Int.emod_lt_of_pos _ (by omega), h2⟩

theorem once_tot {s : List Int} {p : Int} (h : RdOk s p) (n : Int) : ∃ b q, spec_l1Rd_once.f s p n = some (b, q) ∧ RdOk s q := by
  obtain ⟨v, q, e, _, _, hq⟩ := below_tot h n
  unfold spec_l1Rd_once.f
  rw [e]
  exact ⟨_, _, rfl, hq⟩

theorem word_tot_l {s : List Int} : ∀ (k : Nat) (x i p : Int), RdOk s p → 0 ≤ i → i ≤ 8 → 8 - i < k → ∃ v q, spec_l1Rd_word.l0 k x i s p = some (v, q) ∧ RdOk s q := by
  intro k
  induction k with
  | zero => intros; omega
  | succ k ih =>
    intro x i p h i0 i1 hk
    simp only [spec_l1Rd_word.l0]
    by_cases c : i < 8
    · obtain ⟨v, q, e, _, _, hq⟩ := next_tot h
      rw [if_pos c, e]
      simp only [Option.bind_some]
      rw [w64_in (n := i + 1) (by omega) (by omega)]
      exact ih _ _ _ hq (by omega) (by omega) (by omega)
    · rw [if_neg c]
      exact ⟨_, _, rfl, h⟩
theorem word_tot {s : List Int} {p : Int} (h : RdOk s p) {k : Nat} (hk : 9 ≤ k) : ∃ v q, spec_l1Rd_word.f k s p = some (v, q) ∧ RdOk s q :=
  word_tot_l k 0 0 p h (by omega) (by omega) (by omega)

theorem near_tot {s : List Int} {p : Int} (h : RdOk s p) {k : Nat} (hk : 9 ≤ k) (lo hi : Int) (hlo : -4294967296 ≤ lo) (hhi : hi ≤ 4294967296) : ∃ v q, spec_l1Rd_near.f k s p lo hi = some (v, q) ∧ RdOk s q := by
  unfold spec_l1Rd_near.f
  obtain ⟨v, q, e, _, _, hq⟩ := below_tot h 8
  rw [e]
  simp only [Option.bind_some]
  by_cases c0 : v = 0
  · rw [if_pos c0]; exact ⟨_, _, rfl, hq⟩
  · rw [if_neg c0]
    by_cases c1 : v = 1
    · rw [if_pos c1]; exact ⟨_, _, rfl, hq⟩
    · rw [if_neg c1]
      by_cases c2 : hi < lo
      · rw [if_pos c2]; exact ⟨_, _, rfl, hq⟩
      · rw [if_neg c2]
        obtain ⟨x, r, e2, hr⟩ := word_tot hq hk
        rw [e2]
        simp only [Option.bind_some]
        rw [w64_in (n := hi - lo) (by omega) (by omega), w64_in (n := hi - lo + 1) (by omega) (by omega), u64_in (n := hi - lo + 1) (by omega) (by omega), if_neg (by omega)]
        exact ⟨_, _, rfl, hr⟩
theorem off_tot {s : List Int} {p : Int} (h : RdOk s p) {k : Nat} (hk : 9 ≤ k) (lo hi : Int) (hlo : -4294967296 ≤ lo) (hhi : hi ≤ 4294967296) : ∃ v q, spec_l1Rd_off.f k s p lo hi = some (v, q) ∧ RdOk s q := by
  unfold spec_l1Rd_off.f
  obtain ⟨b, q, e, hq⟩ := once_tot h 24
  rw [e]
  simp only [Option.bind_some]
  by_cases c : b = true
  · rw [if_pos c]
    obtain ⟨v, r, e2, v0, v1, hr⟩ := below_tot hq 4
    rw [e2]
    simp only [Option.bind_some]
    have v4 := v1 (by omega)
    rw [if_pos v0, if_pos (by simp only [List.length_cons, List.length_nil]; omega)]
    exact ⟨_, _, rfl, hr⟩
  · rw [if_neg c]
    obtain ⟨v, r, e2, hr⟩ := near_tot hq hk lo hi hlo hhi
    rw [e2]
    exact ⟨_, _, rfl, hr⟩

theorem byte_tot {s : List Int} {p : Int} (h : RdOk s p) : ∃ v q, spec_l1Rd_byte.f s p = some (v, q) ∧ 0 ≤ v ∧ v ≤ 255 ∧ RdOk s q := by
  unfold spec_l1Rd_byte.f
  obtain ⟨b, q, e, hq⟩ := once_tot h 2
  rw [e]
  simp only [Option.bind_some]
  by_cases c : b = true
  · rw [if_pos c]
    obtain ⟨v, r, e2, v0, v1, hr⟩ := below_tot hq 8
    rw [e2]
    simp only [Option.bind_some]
    have v4 := v1 (by omega)
    rw [if_pos v0, if_pos (by simp only [List.length_cons, List.length_nil]; omega)]
    refine ⟨_, _, rfl, ?_, ?_, hr⟩
    · rcases (show v = 0 ∨ v = 1 ∨ v = 2 ∨ v = 3 ∨ v = 4 ∨ v = 5 ∨ v = 6 ∨ v = 7 by omega) with rfl | rfl | rfl | rfl | rfl | rfl | rfl | rfl <;> decide
    · rcases (show v = 0 ∨ v = 1 ∨ v = 2 ∨ v = 3 ∨ v = 4 ∨ v = 5 ∨ v = 6 ∨ v = 7 by omega) with rfl | rfl | rfl | rfl | rfl | rfl | rfl | rfl <;> decide
  · rw [if_neg c]
    obtain ⟨v, r, e2, v0, v1, hr⟩ := below_tot hq 256
    rw [e2]
    have := v1 (by omega)
    exact ⟨_, _, rfl, v0, by omega, hr⟩

theorem flags_tot {s : List Int} {p : Int} (h : RdOk s p) : ∃ v q, spec_l1Rd_flags.f s p = some (v, q) ∧ 0 ≤ v ∧ v ≤ 240 ∧ RdOk s q := by
  unfold spec_l1Rd_flags.f
  obtain ⟨v, q, e, v0, v1, hq⟩ := below_tot h 16
  rw [e]
  simp only [Option.bind_some]
  have := v1 (by omega)
  rw [w64_in (n := 16 * v) (by omega) (by omega)]
  exact ⟨_, _, rfl, by omega, by omega, hq⟩

theorem bytes_wf {l : List Int} (h : ∀ x ∈ l, (Lit.int .u8 x).wf = true) : ∀ x ∈ l, 0 ≤ x ∧ x ≤ 255 := by
  intro x hx
  have h1 := h x hx
  have e0 : IntKind.u8.min = 0 := rfl
  have e1 : IntKind.u8.max = 255 := rfl
  simp only [Lit.wf, e0, e1, Bool.and_eq_true, decide_eq_true_eq] at h1
  exact h1

def B (b : Bool) : Int := if b = true then 1 else 0
def fl (z n h c : Bool) : Int := 128 * B z + 64 * B n + 32 * B h + 16 * B c
theorem impl_fl (z n h c : Bool) {k : Nat} (hk : 2 ≤ k) : impl_flags.f k z n h c = some (fl z n h c) := by
  obtain ⟨k, rfl⟩ : ∃ m, k = m + 2 := ⟨k - 2, by omega⟩
  cases z <;> cases n <;> cases h <;> cases c <;> rfl
theorem spec_fl (z n h c : Bool) : spec_l4Flags.f z n h c = some (fl z n h c) := by
  cases z <;> cases n <;> cases h <;> cases c <;> decide +kernel
theorem fl_range (z n h c : Bool) : 0 ≤ fl z n h c ∧ fl z n h c ≤ 240 := by
  cases z <;> cases n <;> cases h <;> cases c <;> decide
theorem fl_z (z n h c : Bool) : decide (fl z n h c ≥ 128) = z := by cases z <;> cases n <;> cases h <;> cases c <;> decide
theorem fl_n (z n h c : Bool) : fl z n h c / 64 % 2 = B n := by cases z <;> cases n <;> cases h <;> cases c <;> decide
theorem fl_h (z n h c : Bool) : fl z n h c / 32 % 2 = B h := by cases z <;> cases n <;> cases h <;> cases c <;> decide
theorem fl_c (z n h c : Bool) : fl z n h c / 16 % 2 = B c := by cases z <;> cases n <;> cases h <;> cases c <;> decide

theorem byte_of {f : Int} (h0 : 0 ≤ f) (h1 : f ≤ 255) : ∃ n : Fin 256, f = (n.val : Int) := ⟨⟨f.toNat, by omega⟩, by simp; omega⟩

theorem has16_all : ∀ n : Fin 256, ((Go.bits .and .i64 (n.val : Int) 16) != 0) = decide ((n.val : Int) / 16 % 2 = 1) := by decide +kernel
theorem has16 {f : Int} (h0 : 0 ≤ f) (h1 : f ≤ 255) : impl_has.f f 16 = some (decide (f / 16 % 2 = 1)) := by
  obtain ⟨n, rfl⟩ := byte_of h0 h1
  unfold impl_has.f
  rw [has16_all]

theorem spec_carry {f : Int} (h0 : 0 ≤ f) (h1 : f ≤ 255) : spec_l4Carry.f f = some (f / 16 % 2) := by
  unfold spec_l4Carry.f
  rw [tdiv_pos _ h0, w64_in (by omega) (by omega), tmod_pos _ (by omega)]



theorem isByte_eq (a : Int) : impl_isByte.f a = some (decide (0 ≤ a ∧ a ≤ 255)) := by
  unfold impl_isByte.f impl_within.f
  by_cases h : a ≥ 0
  · rw [if_pos h]; have : 0 ≤ a := h; simp [this]
  · rw [if_neg h]; have : ¬ 0 ≤ a := h; simp [this]
theorem l4Byte_eq (a : Int) : spec_l4Byte.f a = some (decide (0 ≤ a ∧ a ≤ 255)) := by
  unfold spec_l4Byte.f spec_l1In.f
  by_cases h : a ≥ 0
  · rw [if_pos h]; have : 0 ≤ a := h; simp [this]
  · rw [if_neg h]; have : ¬ 0 ≤ a := h; simp [this]

def stepR (v f : Int) (down : Bool) : Int × Int := ((if down = true then v - 1 else v + 1) % 256, fl (decide ((if down = true then v - 1 else v + 1) % 256 = 0)) down (decide (v % 16 = if down = true then 0 else 15)) (decide (f / 16 % 2 = 1)))
theorem impl_step {v f : Int} (v0 : 0 ≤ v) (v1 : v ≤ 255) (f0 : 0 ≤ f) (f1 : f ≤ 255) (down : Bool) {k : Nat} (hk : 5 ≤ k) : impl_Stepped8.f k v f down = some (stepR v f down) := by
  obtain ⟨k, rfl⟩ : ∃ m, k = m + 1 := ⟨k - 1, by omega⟩
  unfold impl_Stepped8.f
  rw [isByte_eq, isByte_eq]
  simp only [v0, v1, f0, f1, and_self, decide_true, Option.bind_some, if_true, Bool.not_true, impl_Stepped8.j0]
  rw [if_neg (by decide), has16 f0 f1]
  unfold stepR
  cases down with
  | true =>
    simp only [if_true, Option.bind_some]
    rw [and255, and15, w64_in (n := v - 1) (by omega) (by omega), impl_fl _ _ _ _ (by omega)]
    simp [Bool.beq_eq_decide_eq]
  | false =>
    rw [if_neg (by decide), if_neg (by decide), if_neg (by decide)]
    simp only [Option.bind_some]
    rw [and255, and15, w64_in (n := v + 1) (by omega) (by omega), impl_fl _ _ _ _ (by omega)]
    simp [Bool.beq_eq_decide_eq]
theorem spec_step {v f : Int} (v0 : 0 ≤ v) (v1 : v ≤ 255) (f0 : 0 ≤ f) (f1 : f ≤ 255) (down : Bool) {k : Nat} (hk : 5 ≤ k) : spec_Stepped8.f k v f down = some (stepR v f down) := by
  obtain ⟨k, rfl⟩ : ∃ m, k = m + 1 := ⟨k - 1, by omega⟩
  unfold spec_Stepped8.f
  rw [l4Byte_eq, l4Byte_eq]
  simp only [v0, v1, f0, f1, and_self, decide_true, Option.bind_some, if_true, Bool.not_true, spec_Stepped8.j0]
  rw [if_neg (by decide), spec_carry f0 f1]
  unfold stepR
  cases down with
  | true =>
    simp only [if_true, Option.bind_some]
    rw [w64_in (n := v + 255) (by omega) (by omega), tmod_pos _ (show 0 ≤ v + 255 by omega), tmod_pos _ v0, spec_fl]
    have e : (v + 255) % 256 = (v - 1) % 256 := by omega
    simp [Bool.beq_eq_decide_eq, e]
  | false =>
    rw [if_neg (by decide), if_neg (by decide), if_neg (by decide)]
    simp only [Option.bind_some]
    rw [w64_in (n := v + 1) (by omega) (by omega), tmod_pos _ (show 0 ≤ v + 1 by omega), tmod_pos _ v0, spec_fl]
    simp [Bool.beq_eq_decide_eq]
theorem step_out {v f : Int} (h : ¬ ((0 ≤ v ∧ v ≤ 255) ∧ 0 ≤ f ∧ f ≤ 255)) (down : Bool) {k : Nat} (hk : 1 ≤ k) : impl_Stepped8.f k v f down = some (0, 0) ∧ spec_Stepped8.f k v f down = some (0, 0) := by
  obtain ⟨k, rfl⟩ : ∃ m, k = m + 1 := ⟨k - 1, by omega⟩
  unfold impl_Stepped8.f spec_Stepped8.f
  rw [isByte_eq, isByte_eq, l4Byte_eq, l4Byte_eq]
  simp only [Option.bind_some, impl_Stepped8.j0, spec_Stepped8.j0, if_true]
  by_cases c1 : 0 ≤ v ∧ v ≤ 255
  · have c2 : ¬ (0 ≤ f ∧ f ≤ 255) := fun c2 => h ⟨c1, c2⟩
    simp [c1, c2]
  · simp [c1]

theorem draw_stepped {l : List Int} (hl : l.length ≤ 1048576) (hb : ∀ x ∈ l, 0 ≤ x ∧ x ≤ 255) {k : Nat} (hk : 9 ≤ k) : ∃ v f d, spec_DrawStepped8.f k l = some (v, f, d) := by
  obtain ⟨e0, h0⟩ := open_tot hl hb
  unfold spec_DrawStepped8.f
  rw [e0]
  simp only [Option.bind_some]
  obtain ⟨v, q0, e1, _, _, h1⟩ := byte_tot h0
  rw [e1]
  simp only [Option.bind_some]
  obtain ⟨b, q, e, hq⟩ := once_tot h1 12
  rw [e]
  simp only [Option.bind_some]
  split
  · obtain ⟨v1, q1, e1, h1⟩ := off_tot hq hk 0 255 (by omega) (by omega)
    obtain ⟨v2, q2, e2, _, _, h2⟩ := flags_tot h1
    obtain ⟨v3, q3, e3, h3⟩ := once_tot h2 2
    rw [e1]; simp only [Option.bind_some]; rw [e2]; simp only [Option.bind_some]; rw [e3]
    exact ⟨_, _, _, rfl⟩
  · obtain ⟨v2, q2, e2, _, _, h2⟩ := flags_tot hq
    obtain ⟨v3, q3, e3, h3⟩ := once_tot h2 2
    rw [e2]; simp only [Option.bind_some]; rw [e3]
    exact ⟨_, _, _, rfl⟩
theorem FnStepped : laws_FnStepped.Pure := by
  intro l _ _ hw
  refine ⟨21, ?_⟩
  unfold laws_FnStepped.f laws_big.f
  simp only [Option.bind_some]
  by_cases hbig : (l.length : Int) > 1048576
  · simp [hbig]
  · obtain ⟨v, f, d, e⟩ := draw_stepped (show l.length ≤ 1048576 by omega) (bytes_wf hw) (k := 21) (by omega)
    simp only [hbig, decide_false]
    rw [if_neg (by decide), e]
    simp only [Option.bind_some]
    by_cases h : (0 ≤ v ∧ v ≤ 255) ∧ 0 ≤ f ∧ f ≤ 255
    · obtain ⟨⟨v0, v1⟩, f0, f1⟩ := h
      rw [impl_step v0 v1 f0 f1 d (by omega), spec_step v0 v1 f0 f1 d (by omega)]
      simp only [Option.bind_some, if_true]
      rw [if_neg (by omega), if_neg (by omega), if_neg (by omega), if_neg (by omega)]
      have n0 : 0 ≤ (stepR v f d).1 := by unfold stepR; simp only; omega
      have n1 : (stepR v f d).1 ≤ 255 := by unfold stepR; simp only; omega
      have g0 := fl_range (decide ((if d = true then v - 1 else v + 1) % 256 = 0)) d (decide (v % 16 = if d = true then 0 else 15)) (decide (f / 16 % 2 = 1))
      have gc := fl_c (decide ((if d = true then v - 1 else v + 1) % 256 = 0)) d (decide (v % 16 = if d = true then 0 else 15)) (decide (f / 16 % 2 = 1))
      have gz := fl_z (decide ((if d = true then v - 1 else v + 1) % 256 = 0)) d (decide (v % 16 = if d = true then 0 else 15)) (decide (f / 16 % 2 = 1))
      have hg : (stepR v f d).2 = fl (decide ((if d = true then v - 1 else v + 1) % 256 = 0)) d (decide (v % 16 = if d = true then 0 else 15)) (decide (f / 16 % 2 = 1)) := rfl
      have hn : (stepR v f d).1 = (if d = true then v - 1 else v + 1) % 256 := rfl
      have hB : B (decide (f / 16 % 2 = 1)) = f / 16 % 2 := by
        unfold B
        by_cases g : f / 16 % 2 = 1
        · simp [g]
        · simp [g]; omega
      rw [← hg] at g0 gc gz
      rw [← hn] at gz
      generalize hN : (stepR v f d).1 = n at *
      generalize hG : (stepR v f d).2 = g at *
      rw [impl_step n0 n1 g0.1 (by omega) (!d) (by omega)]
      simp only [Option.bind_some]
      have m0 : (stepR n g !d).1 = v := by
        unfold stepR
        cases d
        · simp at hn ⊢; omega
        · simp at hn ⊢; omega
      have k0 := fl_range (decide ((if (!d) = true then n - 1 else n + 1) % 256 = 0)) (!d) (decide (n % 16 = if (!d) = true then 0 else 15)) (decide (g / 16 % 2 = 1))
      have kc := fl_c (decide ((if (!d) = true then n - 1 else n + 1) % 256 = 0)) (!d) (decide (n % 16 = if (!d) = true then 0 else 15)) (decide (g / 16 % 2 = 1))
      have hk : (stepR n g !d).2 = fl (decide ((if (!d) = true then n - 1 else n + 1) % 256 = 0)) (!d) (decide (n % 16 = if (!d) = true then 0 else 15)) (decide (g / 16 % 2 = 1)) := rfl
      have hB2 : B (decide (g / 16 % 2 = 1)) = g / 16 % 2 := by
        unfold B
        by_cases h : g / 16 % 2 = 1
        · simp [h]
        · simp [h]; omega
      rw [← hk] at k0 kc
      rw [m0]
      generalize (stepR n g !d).2 = h at *
      simp only [if_true]
      rw [tdiv_pos _ g0.1, tdiv_pos _ f0, tdiv_pos _ k0.1, w64_in (n := g / 16) (by omega) (by omega), w64_in (n := f / 16) (by omega) (by omega), w64_in (n := h / 16) (by omega) (by omega), tmod_pos _ (show 0 ≤ g / 16 by omega), tmod_pos _ (show 0 ≤ f / 16 by omega), tmod_pos _ (show 0 ≤ h / 16 by omega)]
      rw [if_pos (by omega), if_pos (by omega), gz]
      simp [Bool.beq_eq_decide_eq]
    · obtain ⟨h1, h2⟩ := step_out h d (k := 21) (by omega)
      rw [h1, h2]
      simp only [Option.bind_some, if_true]
      by_cases c1 : v < 0
      · simp [c1]
      · rw [if_neg c1]
        by_cases c2 : v > 255
        · simp [c2]
        · rw [if_neg c2]
          by_cases c3 : f < 0
          · simp [c3]
          · rw [if_neg c3]
            have c4 : f > 255 := by
              apply Classical.byContradiction
              intro c4
              exact h ⟨by omega, by omega⟩
            simp [c4]

end Go.Proofs.Ytahibkfcohajcaa.Pure
