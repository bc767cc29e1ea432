/- A byte and its number with a sign are one modulo 256, and the names that are right are the same in both texts: for whatever drawn bytes and names. No condition beyond the row's own. -/
import Derived.Test.YtahibkfcohajcaaPFnSignedx3
import Derived.Test.YtahibkfcohajcaaLib
namespace Go.Proofs.Ytahibkfcohajcaa.Pure
open Go.RowKit Go.Proofs.Ytahibkfcohajcaa.PFnSigned Go.Proofs.YtahibkfcohajcaaW.PrintWords Go.Proofs.YtahibkfcohajcaaW.PrintLast Go.Proofs.Ytahibkfcohajcaa.Lib
set_option linter.unusedSimpArgs false
set_option linter.unusedVariables false

/-- The reader is in order: its bytes are bytes, its place is among them. -/
def RdOk (s : List Int) (p : Int) : Prop := 0 ≤ p ∧ p ≤ s.length ∧ s.length ≤ 1048576 ∧ ∀ x ∈ s, 0 ≤ x ∧ x ≤ 255
theorem rd_mem {s : List Int} {p : Int} (h0 : 0 ≤ p) (h1 : p < (s.length : Int)) : rd s p ∈ s := by
  unfold rd
  rw [List.getD_eq_getElem?_getD, List.getElem?_eq_getElem (by omega)]
  exact List.getElem_mem _
theorem open_tot {l : List Int} (hl : l.length ≤ 1048576) (hb : ∀ x ∈ l, 0 ≤ x ∧ x ≤ 255) : spec_l1Open.f l = some (l, 0) ∧ RdOk l 0 :=
  ⟨rfl, by omega, by omega, hl, hb⟩
theorem next_tot {s : List Int} {p : Int} (h : RdOk s p) : ∃ v q, spec_l1Rd_next.f s p = some (v, q) ∧ 0 ≤ v ∧ v ≤ 255 ∧ RdOk s q := by
  obtain ⟨h0, h1, h2, h3⟩ := h
  unfold spec_l1Rd_next.f
  by_cases c : p ≥ (s.length : Int)
  · rw [if_pos c]
    exact ⟨0, p, rfl, by omega, by omega, h0, h1, h2, h3⟩
  · have hm := h3 _ (rd_mem h0 (show p < (s.length : Int) by omega))
    have e : p + 1 - 1 = p := by omega
    rw [if_neg c, w64_in (n := p + 1) (by omega) (by omega), w64_in (n := p + 1 - 1) (by omega) (by omega), e, if_pos h0, if_pos (by omega), w64_in (n := rd s p) (by omega) (by omega)]
    exact ⟨_, _, rfl, hm.1, hm.2, by omega, by omega, h2, h3⟩
theorem below_tot {s : List Int} {p : Int} (h : RdOk s p) (n : Int) : ∃ v q, spec_l1Rd_below.f s p n = some (v, q) ∧ 0 ≤ v ∧ (1 ≤ n → v < n) ∧ RdOk s q := by
  unfold spec_l1Rd_below.f
  by_cases c : n ≤ 1
  · rw [if_pos c]
    exact ⟨0, p, rfl, by omega, by omega, h⟩
  · rw [if_neg c]
    obtain ⟨v, q, e1, v0, v1, h1⟩ := next_tot h
    by_cases c2 : n ≤ 256
    · rw [if_pos c2, e1]
      simp only [Option.bind_some]
      rw [if_neg (by omega), tmod_pos _ v0]
      exact ⟨_, _, rfl, Int.emod_nonneg _ (by omega), fun _ => Int.emod_lt_of_pos _ (by omega), h1⟩
    · obtain ⟨u, r, e2, u0, u1, h2⟩ := next_tot h1
      rw [if_neg c2, e1]
      simp only [Option.bind_some]
      rw [e2]
      simp only [Option.bind_some]
      rw [if_neg (by omega), w64_in (n := v * 256) (by omega) (by omega), w64_in (n := v * 256 + u) (by omega) (by omega), tmod_pos _ (by omega)]
      exact ⟨_, _, rfl, Int.emod_nonneg _ (by omega), fun _ => Int.emod_lt_of_pos _ (by omega), h2⟩

theorem once_tot {s : List Int} {p : Int} (h : RdOk s p) (n : Int) : ∃ b q, spec_l1Rd_once.f s p n = some (b, q) ∧ RdOk s q := by
  obtain ⟨v, q, e, _, _, hq⟩ := below_tot h n
  unfold spec_l1Rd_once.f
  rw [e]
  exact ⟨_, _, rfl, hq⟩

theorem word_tot_l {s : List Int} : ∀ (k : Nat) (x i p : Int), RdOk s p → 0 ≤ i → i ≤ 8 → 8 - i < k → ∃ v q, spec_l1Rd_word.l0 k x i s p = some (v, q) ∧ RdOk s q := by
  intro k
  induction k with
  | zero => intros; omega
  | succ k ih =>
    intro x i p h i0 i1 hk
    simp only [spec_l1Rd_word.l0]
    by_cases c : i < 8
    · obtain ⟨v, q, e, _, _, hq⟩ := next_tot h
      rw [if_pos c, e]
      simp only [Option.bind_some]
      rw [w64_in (n := i + 1) (by omega) (by omega)]
      exact ih _ _ _ hq (by omega) (by omega) (by omega)
    · rw [if_neg c]
      exact ⟨_, _, rfl, h⟩
theorem word_tot {s : List Int} {p : Int} (h : RdOk s p) {k : Nat} (hk : 9 ≤ k) : ∃ v q, spec_l1Rd_word.f k s p = some (v, q) ∧ RdOk s q :=
  word_tot_l k 0 0 p h (by omega) (by omega) (by omega)

theorem near_tot {s : List Int} {p : Int} (h : RdOk s p) {k : Nat} (hk : 9 ≤ k) (lo hi : Int) (hlo : -4294967296 ≤ lo) (hhi : hi ≤ 4294967296) : ∃ v q, spec_l1Rd_near.f k s p lo hi = some (v, q) ∧ RdOk s q := by
  unfold spec_l1Rd_near.f
  obtain ⟨v, q, e, _, _, hq⟩ := below_tot h 8
  rw [e]
  simp only [Option.bind_some]
  by_cases c0 : v = 0
  · rw [if_pos c0]; exact ⟨_, _, rfl, hq⟩
  · rw [if_neg c0]
    by_cases c1 : v = 1
    · rw [if_pos c1]; exact ⟨_, _, rfl, hq⟩
    · rw [if_neg c1]
      by_cases c2 : hi < lo
      · rw [if_pos c2]; exact ⟨_, _, rfl, hq⟩
      · rw [if_neg c2]
        obtain ⟨x, r, e2, hr⟩ := word_tot hq hk
        rw [e2]
        simp only [Option.bind_some]
        rw [w64_in (n := hi - lo) (by omega) (by omega), w64_in (n := hi - lo + 1) (by omega) (by omega), u64_in (n := hi - lo + 1) (by omega) (by omega), if_neg (by omega)]
        exact ⟨_, _, rfl, hr⟩
theorem off_tot {s : List Int} {p : Int} (h : RdOk s p) {k : Nat} (hk : 9 ≤ k) (lo hi : Int) (hlo : -4294967296 ≤ lo) (hhi : hi ≤ 4294967296) : ∃ v q, spec_l1Rd_off.f k s p lo hi = some (v, q) ∧ RdOk s q := by
  unfold spec_l1Rd_off.f
  obtain ⟨b, q, e, hq⟩ := once_tot h 24
  rw [e]
  simp only [Option.bind_some]
  by_cases c : b = true
  · rw [if_pos c]
    obtain ⟨v, r, e2, v0, v1, hr⟩ := below_tot hq 4
    rw [e2]
    simp only [Option.bind_some]
    have v4 := v1 (by omega)
    rw [if_pos v0, if_pos (by simp only [List.length_cons, List.length_nil]; omega)]
    exact ⟨_, _, rfl, hr⟩
  · rw [if_neg c]
    obtain ⟨v, r, e2, hr⟩ := near_tot hq hk lo hi hlo hhi
    rw [e2]
    exact ⟨_, _, rfl, hr⟩

theorem byte_tot {s : List Int} {p : Int} (h : RdOk s p) : ∃ v q, spec_l1Rd_byte.f s p = some (v, q) ∧ 0 ≤ v ∧ v ≤ 255 ∧ RdOk s q := by
  unfold spec_l1Rd_byte.f
  obtain ⟨b, q, e, hq⟩ := once_tot h 2
  rw [e]
  simp only [Option.bind_some]
  by_cases c : b = true
  · rw [if_pos c]
    obtain ⟨v, r, e2, v0, v1, hr⟩ := below_tot hq 8
    rw [e2]
    simp only [Option.bind_some]
    have v4 := v1 (by omega)
    rw [if_pos v0, if_pos (by simp only [List.length_cons, List.length_nil]; omega)]
    refine ⟨_, _, rfl, ?_, ?_, hr⟩
    · rcases (show v = 0 ∨ v = 1 ∨ v = 2 ∨ v = 3 ∨ v = 4 ∨ v = 5 ∨ v = 6 ∨ v = 7 by omega) with rfl | rfl | rfl | rfl | rfl | rfl | rfl | rfl <;> decide
    · rcases (show v = 0 ∨ v = 1 ∨ v = 2 ∨ v = 3 ∨ v = 4 ∨ v = 5 ∨ v = 6 ∨ v = 7 by omega) with rfl | rfl | rfl | rfl | rfl | rfl | rfl | rfl <;> decide
  · rw [if_neg c]
    obtain ⟨v, r, e2, v0, v1, hr⟩ := below_tot hq 256
    rw [e2]
    have := v1 (by omega)
    exact ⟨_, _, rfl, v0, by omega, hr⟩

theorem bytes_wf {l : List Int} (h : ∀ x ∈ l, (Lit.int .u8 x).wf = true) : ∀ x ∈ l, 0 ≤ x ∧ x ≤ 255 := by
  intro x hx
  have h1 := h x hx
  have e0 : IntKind.u8.min = 0 := rfl
  have e1 : IntKind.u8.max = 255 := rfl
  simp only [Lit.wf, e0, e1, Bool.and_eq_true, decide_eq_true_eq] at h1
  exact h1

theorem name_l_eq (a : ByteArray) (hs : a.size ≤ 4611686018427387904) : ∀ (k : Nat) (i : Int), 0 ≤ i → i ≤ a.size → impl_NameOk.l0 k a (a.size : Int) i = spec_NameOk.l0 k a i := by
  intro k
  induction k with
  | zero => intros; rfl
  | succ k ih =>
    intro i h0 h1
    simp only [impl_NameOk.l0, spec_NameOk.l0]
    by_cases hi : i < (a.size : Int)
    · rw [if_pos hi, if_pos hi, if_pos h0, if_pos h0, if_pos hi, w64_in (n := i + 1) (by omega) (by omega)]
      unfold impl_isSmall.f impl_isDigit.f spec_l1Letter.f
      have hn := ih (i + 1) (by omega) (by omega)
      generalize bt a i = c
      by_cases c97 : c ≥ 97
      · by_cases c122 : c ≤ 122
        · simp [c97, c122, hn]
        · have e1 : ¬ c ≤ 57 := by omega
          have e2 : ¬ c = 95 := by omega
          have e3 : ¬ c = 46 := by omega
          have e4 : c ≥ 48 := by omega
          simp [c97, c122, e1, e2, e3, e4]
      · by_cases c95 : c = 95
        · subst c95; simp [hn]
        · by_cases c46 : c = 46
          · subst c46; simp [hn]
          · by_cases c48 : c ≥ 48
            · by_cases c57 : c ≤ 57
              · simp [c97, c95, c46, c48, c57, hn]
              · simp [c97, c95, c46, c48, c57]
            · simp [c97, c95, c46, c48]
    · rw [if_neg hi, if_neg hi]
theorem name_l_ends (a : ByteArray) (hs : a.size ≤ 4611686018427387904) : ∀ (k : Nat) (i : Int), 0 ≤ i → i ≤ a.size → (a.size : Int) - i < k → ∃ b, spec_NameOk.l0 k a i = some b := by
  intro k
  induction k with
  | zero => intros; omega
  | succ k ih =>
    intro i h0 h1 hk
    simp only [spec_NameOk.l0]
    by_cases hi : i < (a.size : Int)
    · rw [if_pos hi, if_pos h0, w64_in (n := i + 1) (by omega) (by omega)]
      obtain ⟨b, hb⟩ := ih (i + 1) (by omega) (by omega) (by omega)
      rw [hb]
      unfold spec_l1Letter.f
      generalize bt a i = c
      by_cases c97 : c ≥ 97
      · by_cases c122 : c ≤ 122
        · exact ⟨b, by simp [c97, c122]⟩
        · have e1 : ¬ c ≤ 57 := by omega
          have e2 : ¬ c = 95 := by omega
          have e3 : ¬ c = 46 := by omega
          have e4 : c ≥ 48 := by omega
          exact ⟨false, by simp [c97, c122, e1, e2, e3, e4]⟩
      · by_cases c95 : c = 95
        · exact ⟨b, by subst c95; simp⟩
        · by_cases c46 : c = 46
          · exact ⟨b, by subst c46; simp⟩
          · by_cases c48 : c ≥ 48
            · by_cases c57 : c ≤ 57
              · exact ⟨b, by simp [c97, c95, c46, c48, c57]⟩
              · exact ⟨false, by simp [c97, c95, c46, c48, c57]⟩
            · exact ⟨false, by simp [c97, c95, c46, c48]⟩
    · rw [if_neg hi]
      exact ⟨_, rfl⟩
theorem name_eq (a : ByteArray) (hs : a.size ≤ 4611686018427387904) {k : Nat} (hk : 20 ≤ k) : ∃ b, impl_NameOk.f k a = some b ∧ spec_NameOk.f k a = some b := by
  obtain ⟨k, rfl⟩ : ∃ m, k = m + 2 := ⟨k - 2, by omega⟩
  unfold impl_NameOk.f spec_NameOk.f impl_within.f
  by_cases c1 : (a.size : Int) < 1
  · rw [if_pos c1, if_neg (by omega)]
    exact ⟨false, by simp [impl_NameOk.j0], by simp [spec_NameOk.j0]⟩
  · rw [if_neg c1, if_pos (by omega)]
    by_cases c2 : (a.size : Int) > 16
    · have e : ¬ (a.size : Int) ≤ 16 := by omega
      rw [if_pos c2]
      exact ⟨false, by simp [e, impl_NameOk.j0], by simp [spec_NameOk.j0]⟩
    · have e : (a.size : Int) ≤ 16 := by omega
      have e0 : 0 < (a.size : Int) := by omega
      rw [if_neg c2, if_pos e0, if_pos e0]
      simp only [e, decide_true, Option.bind_some, if_true]
      simp only [impl_NameOk.j0, spec_NameOk.j0]
      have hl := name_l_eq a hs (k + 1) 0 (by omega) (by omega)
      obtain ⟨b, hb⟩ := name_l_ends a hs (k + 1) 0 (by omega) (by omega) (by omega)
      rw [hl, hb]
      have hb0 : bt a 0 ≥ 48 → bt a 0 ≤ 57 → spec_l1Letter.f (bt a 0) = some false := by
        intro g1 g2
        unfold spec_l1Letter.f
        rw [if_neg (by omega), if_neg (by omega)]
        have : ¬ bt a 0 = 46 := by omega
        simp [this]
      unfold impl_isDigit.f
      by_cases d : bt a 0 ≥ 48 ∧ bt a 0 ≤ 57
      · rw [hb0 d.1 d.2, if_pos d.1]
        exact ⟨false, by simp [d.2], by simp⟩
      · have hd : (if bt a 0 ≥ 48 then (some (decide (bt a 0 ≤ 57))) else (some false)) = some false := by
          split
          · have : ¬ bt a 0 ≤ 57 := by omega
            simp [this]
          · rfl
        rw [hd]
        cases hL : spec_l1Letter.f (bt a 0) with
        | none => unfold spec_l1Letter.f at hL; split at hL <;> (try split at hL) <;> (try split at hL) <;> simp at hL
        | some c =>
          cases c with
          | true => exact ⟨b, by simp, by simp⟩
          | false =>
            refine ⟨false, ?_, by simp⟩
            simp only [spec_NameOk.l0] at hb
            rw [if_pos e0, if_pos (by omega), hL] at hb
            simp only [Option.bind_some] at hb
            rw [if_neg (by decide)] at hb
            have : b = false := by
              by_cases g : bt a 0 ≥ 48
              · rw [if_pos g, if_neg (fun h => d ⟨g, h⟩)] at hb
                simpa using hb.symm
              · rw [if_neg g] at hb
                simpa using hb.symm
            simp [this]

theorem draw_signed {l : List Int} (hl : l.length ≤ 1048576) (hb : ∀ x ∈ l, 0 ≤ x ∧ x ≤ 255) {k : Nat} (hk : 9 ≤ k) : ∃ v, spec_DrawSignedOf.f k l = some v := by
  obtain ⟨e0, h0⟩ := open_tot hl hb
  unfold spec_DrawSignedOf.f
  rw [e0]
  simp only [Option.bind_some]
  obtain ⟨b, q, e, hq⟩ := once_tot h0 4
  rw [e]
  simp only [Option.bind_some]
  split
  · obtain ⟨v, r, e2, _⟩ := off_tot hq hk 0 255 (by omega) (by omega)
    rw [e2]; exact ⟨_, rfl⟩
  · obtain ⟨v, r, e2, _⟩ := byte_tot hq
    rw [e2]; exact ⟨_, rfl⟩
theorem draw_name {l : List Int} (hl : l.length ≤ 1048576) (hb : ∀ x ∈ l, 0 ≤ x ∧ x ≤ 255) : ∃ v, spec_DrawNameOk.f l = some v ∧ v.size ≤ 20 := by
  obtain ⟨e0, h0⟩ := open_tot hl hb
  unfold spec_DrawNameOk.f
  rw [e0]
  simp only [Option.bind_some]
  obtain ⟨v, q, e, v0, v1, hq⟩ := below_tot h0 9
  rw [e]
  simp only [Option.bind_some]
  have v9 := v1 (by omega)
  rw [if_pos v0, if_pos (by simp only [List.length_cons, List.length_nil]; omega)]
  refine ⟨_, rfl, ?_⟩
  rcases (show v = 0 ∨ v = 1 ∨ v = 2 ∨ v = 3 ∨ v = 4 ∨ v = 5 ∨ v = 6 ∨ v = 7 ∨ v = 8 by omega) with rfl | rfl | rfl | rfl | rfl | rfl | rfl | rfl | rfl <;> decide
theorem signed_eq (b : Int) : impl_SignedOf.f b = spec_SignedOf.f b := by
  unfold impl_SignedOf.f spec_SignedOf.f impl_isByte.f impl_within.f spec_l1In.f
  split <;> rfl
theorem signed_val (b : Int) : (¬ (0 ≤ b ∧ b ≤ 255) ∧ spec_SignedOf.f b = some 0) ∨ (0 ≤ b ∧ b ≤ 255 ∧ spec_SignedOf.f b = some (if b > 127 then b - 256 else b)) := by
  unfold spec_SignedOf.f spec_l1In.f
  by_cases h0 : b ≥ 0
  · by_cases h1 : b ≤ 255
    · refine Or.inr ⟨h0, h1, ?_⟩
      rw [if_pos h0]
      simp only [h1, decide_true, Option.bind_some, if_true]
      by_cases h2 : b > 127
      · rw [if_pos h2, if_pos h2, w64_in (by omega) (by omega)]
      · rw [if_neg h2, if_neg h2]
    · exact Or.inl ⟨by omega, by rw [if_pos h0]; simp [h1]⟩
  · exact Or.inl ⟨by omega, by rw [if_neg h0]; simp⟩
theorem FnSigned : laws_FnSigned.Pure := by
  intro l _ _ hw
  refine ⟨30, ?_⟩
  unfold laws_FnSigned.f laws_big.f
  simp only [Option.bind_some]
  by_cases hbig : (l.length : Int) > 1048576
  · simp [hbig]
  · have hl : l.length ≤ 1048576 := by omega
    have hb := bytes_wf hw
    simp only [hbig, decide_false]
    rw [if_neg (by decide)]
    obtain ⟨b, e1⟩ := draw_signed hl hb (k := 30) (by omega)
    obtain ⟨a, e2, ha⟩ := draw_name hl hb
    obtain ⟨c, n1, n2⟩ := name_eq a (by omega) (k := 30) (by omega)
    obtain ⟨c', m1, m2⟩ := name_eq a (by omega) (k := 29) (by omega)
    rw [e1]
    simp only [Option.bind_some]
    rw [signed_eq]
    rcases signed_val b with ⟨hn, es⟩ | ⟨h0, h1, es⟩
    · rw [es]
      simp only [Option.bind_some]
      rw [e2]
      simp only [Option.bind_some, if_true]
      rw [n1, n2]
      simp only [Option.bind_some, bne_self_eq_false]
      rw [if_neg (by decide)]
      have hj : laws_FnSigned.j0 30 b 0 a true = some true := by
        simp only [laws_FnSigned.j0, if_true]
        rw [es]
        simp only [Option.bind_some, if_true]
        rw [m1, m2]
        simp
      by_cases hb0 : b < 0
      · rw [if_pos hb0]; exact hj
      · rw [if_neg hb0]
        have : b > 255 := by omega
        simp only [this, decide_true]
        exact hj
    · rw [es]
      simp only [Option.bind_some]
      rw [e2]
      simp only [Option.bind_some, if_true]
      rw [n1, n2]
      simp only [Option.bind_some, bne_self_eq_false]
      have hn : ¬ b > 255 := by omega
      rw [if_neg (by decide), if_neg (by omega)]
      simp only [hn, decide_false, laws_FnSigned.j0]
      rw [if_neg (by decide)]
      have hx : (if b > 127 then b - 256 else b) ≥ -128 := by split <;> omega
      have hy : (if b > 127 then b - 256 else b) ≤ 127 := by split <;> omega
      rw [if_pos hx, if_pos hy]
      have hz : wrap64 ((if b > 127 then b - 256 else b) - b) = if b > 127 then -256 else 0 := by
        split
        · rw [w64_in (by omega) (by omega)]; omega
        · rw [w64_in (by omega) (by omega)]; omega
      rw [hz]
      split <;> rfl

end Go.Proofs.Ytahibkfcohajcaa.Pure
