/- What is read as a number is one of 16 bits, and a nought ahead changes nothing as long as there is room, for whatever is drawn. No condition beyond the row's own. -/
import Derived.Test.YtahibkfcohajcaaQFnNumsx4
import Derived.Test.YtahibkfcohajcaaLib
namespace Go.Proofs.Ytahibkfcohajcaa.Pure
open Go.RowKit Go.Proofs.Ytahibkfcohajcaa.QFnNums Go.Proofs.YtahibkfcohajcaaW.PrintWords Go.Proofs.YtahibkfcohajcaaW.PrintLast Go.Proofs.Ytahibkfcohajcaa.Lib Go.Proofs.Ytahibkfcohajcaa.LibE
set_option linter.unusedSimpArgs false
set_option linter.unusedVariables false

/-- The reader is in order: its bytes are bytes, its place is among them. -/
def RdOk (s : List Int) (p : Int) : Prop := 0 ≤ p ∧ p ≤ s.length ∧ s.length ≤ 1048576 ∧ ∀ x ∈ s, 0 ≤ x ∧ x ≤ 255
theorem rd_mem {s : List Int} {p : Int} (h0 : 0 ≤ p) (h1 : p < (s.length : Int)) : rd s p ∈ s := by
  unfold rd
  rw [List.getD_eq_getElem?_getD, List.getElem?_eq_getElem (by omega)]
  exact List.getElem_mem _
theorem open_tot {l : List Int} (hl : l.length ≤ 1048576) (hb : ∀ x ∈ l, 0 ≤ x ∧ x ≤ 255) : spec_l1Open.f l = some (l, 0) ∧ RdOk l 0 :=
  ⟨rfl, by omega, by omega, hl, hb⟩
theorem next_tot {s : List Int} {p : Int} (h : RdOk s p) : ∃ v q, spec_l1Rd_next.f s p = some (v, q) ∧ 0 ≤ v ∧ v ≤ 255 ∧ RdOk s q := by
  obtain ⟨h0, h1, h2, h3⟩ := h
  unfold spec_l1Rd_next.f
  by_cases c : p ≥ (s.length : Int)
  · rw [if_pos c]
    exact ⟨0, p, rfl, by omega, by omega, h0, h1, h2, h3⟩
  · have hm := h3 _ (rd_mem h0 (show p < (s.length : Int) by omega))
    have e : p + 1 - 1 = p := by omega
    rw [if_neg c, w64_in (n := p + 1) (by omega) (by omega), w64_in (n := p + 1 - 1) (by omega) (by omega), e, if_pos h0, if_pos (by omega), w64_in (n := rd s p) (by omega) (by omega)]
    exact ⟨_, _, rfl, hm.1, hm.2, by omega, by omega, h2, h3⟩
theorem below_tot {s : List Int} {p : Int} (h : RdOk s p) (n : Int) : ∃ v q, spec_l1Rd_below.f s p n = some (v, q) ∧ 0 ≤ v ∧ (1 ≤ n → v < n) ∧ RdOk s q := by
  unfold spec_l1Rd_below.f
  by_cases c : n ≤ 1
  · rw [if_pos c]
    exact ⟨0, p, rfl, by omega, by omega, h⟩
  · rw [if_neg c]
    obtain ⟨v, q, e1, v0, v1, h1⟩ := next_tot h
    by_cases c2 : n ≤ 256
    · rw [if_pos c2, e1]
      simp only [Option.bind_some]
      rw [if_neg (by omega), tmod_pos _ v0]
      exact ⟨_, _, rfl, Int.emod_nonneg _ (by omega), fun _ => Int.emod_lt_of_pos _ (by omega), h1⟩
    · obtain ⟨u, r, e2, u0, u1, h2⟩ := next_tot h1
      rw [if_neg c2, e1]
      simp only [Option.bind_some]
      rw [e2]
      simp only [Option.bind_some]
      rw [if_neg (by omega), w64_in (n := v * 256) (by omega) (by omega), w64_in (n := v * 256 + u) (by omega) (by omega), tmod_pos _ (by omega)]
      exact ⟨_, _, rfl, Int.emod_nonneg _ (by omega), fun _ => Int.emod_lt_of_pos _ (by omega), h2⟩

theorem bytes_wf {l : List Int} (h : ∀ x ∈ l, (Lit.int .u8 x).wf = true) : ∀ x ∈ l, 0 ≤ x ∧ x ≤ 255 := by
  intro x hx
  have h1 := h x hx
  have e0 : IntKind.u8.min = 0 := rfl
  have e1 : IntKind.u8.max = 255 := rfl
  simp only [Lit.wf, e0, e1, Bool.and_eq_true, decide_eq_true_eq] at h1
  exact h1

theorem hurt_tot {s : List Int} {p : Int} (h : RdOk s p) (a : ByteArray) (ha : a.size ≤ 4611686018427387904) : ∃ r q, spec_l1Rd_hurt.f s p a = some (r, q) ∧ r.size ≤ a.size + 1 ∧ RdOk s q := by
  have one : ∀ (ys : List ByteArray) (i : Int), (∀ y ∈ ys, y.size = 1) → (rdOf ByteArray.empty ys i).size ≤ 1 := by
    intro ys i hy
    unfold rdOf
    rw [List.getD_eq_getElem?_getD]
    by_cases c : i.toNat < ys.length
    · rw [List.getElem?_eq_getElem c]
      exact Nat.le_of_eq (hy _ (List.getElem_mem _))
    · rw [List.getElem?_eq_none (by omega)]
      exact Nat.zero_le _
  unfold spec_l1Rd_hurt.f
  obtain ⟨v, q, e, v0, v1, h1⟩ := below_tot h 6
  rw [e]
  simp only [Option.bind_some]
  by_cases c1 : v = 1
  · rw [if_pos c1, w64_in (n := (a.size : Int) + 1) (by omega) (by omega)]
    obtain ⟨u, r, e2, u0, u1, h2⟩ := below_tot h1 ((a.size : Int) + 1)
    rw [e2]
    simp only [Option.bind_some]
    rw [if_pos u0, if_pos (by have := u1 (by omega); omega)]
    exact ⟨_, _, rfl, by rw [ByteArray.size_extract]; omega, h2⟩
  rw [if_neg c1]
  by_cases c2 : v = 2
  · rw [if_pos c2]
    by_cases c3 : (a.size : Int) > 0
    · rw [if_pos c3]
      obtain ⟨u, r, e2, u0, u1, h2⟩ := below_tot h1 (a.size : Int)
      have u2 := u1 (by omega)
      rw [e2]
      simp only [Option.bind_some]
      rw [if_pos u0, if_pos (by omega)]
      obtain ⟨x, t, e3, x0, x1, h3⟩ := below_tot h2 6
      rw [e3]
      simp only [Option.bind_some]
      have x2 := x1 (by omega)
      have o := one ([(⟨#[48]⟩ : ByteArray), (⟨#[97]⟩ : ByteArray), (⟨#[32]⟩ : ByteArray), (⟨#[44]⟩ : ByteArray), (⟨#[36]⟩ : ByteArray), (⟨#[43]⟩ : ByteArray)] : List ByteArray) x (by intro y hy; simp only [List.mem_cons, List.not_mem_nil, or_false] at hy; rcases hy with rfl | rfl | rfl | rfl | rfl | rfl <;> rfl)
      generalize rdOf ByteArray.empty ([(⟨#[48]⟩ : ByteArray), (⟨#[97]⟩ : ByteArray), (⟨#[32]⟩ : ByteArray), (⟨#[44]⟩ : ByteArray), (⟨#[36]⟩ : ByteArray), (⟨#[43]⟩ : ByteArray)] : List ByteArray) x = z at o ⊢
      rw [if_pos x0, if_pos (by simpa using x2), if_pos (by rw [ByteArray.size_extract]; omega), w64_in (n := u + 1) (by omega) (by omega), if_pos (by omega), if_pos (by omega), if_pos (by rw [ByteArray.size_append, ByteArray.size_extract, ByteArray.size_extract]; omega)]
      exact ⟨_, _, rfl, by rw [ByteArray.size_append, ByteArray.size_append, ByteArray.size_extract, ByteArray.size_extract]; omega, h3⟩
    · rw [if_neg c3]
      exact ⟨_, _, rfl, by omega, h1⟩
  rw [if_neg c2]
  by_cases c3 : v = 3
  · rw [if_pos c3]
    obtain ⟨x, t, e3, x0, x1, h3⟩ := below_tot h1 3
    have x2 := x1 (by omega)
    rw [e3]
    simp only [Option.bind_some]
    have o := one ([(⟨#[32]⟩ : ByteArray), (⟨#[48]⟩ : ByteArray), (⟨#[120]⟩ : ByteArray)] : List ByteArray) x (by intro y hy; simp only [List.mem_cons, List.not_mem_nil, or_false] at hy; rcases hy with rfl | rfl | rfl <;> rfl)
    generalize rdOf ByteArray.empty ([(⟨#[32]⟩ : ByteArray), (⟨#[48]⟩ : ByteArray), (⟨#[120]⟩ : ByteArray)] : List ByteArray) x = z at o ⊢
    rw [if_pos x0, if_pos (by simpa using x2), if_pos (by omega)]
    exact ⟨_, _, rfl, by rw [ByteArray.size_append]; omega, h3⟩
  · rw [if_neg c3]
    exact ⟨_, _, rfl, by omega, h1⟩

theorem bytesOf_append (a b : ByteArray) : bytesOf (a ++ b) = bytesOf a ++ bytesOf b := by
  unfold bytesOf
  rw [ByteArray.data_append, Array.toList_append, List.map_append]
theorem bytesOf_extract (a : ByteArray) (i j : Nat) : bytesOf (a.extract i j) = ((bytesOf a).drop i).take (j - i) := by
  unfold bytesOf
  rw [ByteArray.data_extract, Array.toList_extract, List.extract_eq_take_drop, List.map_take, List.map_drop]
theorem bytesOf_rest (a : ByteArray) (i : Nat) : bytesOf (a.extract i a.size) = (bytesOf a).drop i := by
  rw [bytesOf_extract, List.take_of_length_le]
  rw [List.length_drop, bytesOf_length]
  exact Nat.le_refl _
theorem toList_nil_iff (a : ByteArray) : a.toList = [] ↔ bytesOf a = [] := by
  rw [ByteArray.toList_eq]; unfold bytesOf; simp
theorem bt_get (a : ByteArray) (i : Nat) (h : i < a.size) : ∃ b l, (bytesOf a).drop i = b :: l ∧ bt a (i : Int) = b ∧ (bytesOf a).drop (i + 1) = l ∧ 0 ≤ b ∧ b ≤ 255 := by
  have hl : i < (bytesOf a).length := by rw [bytesOf_length]; exact h
  refine ⟨(bytesOf a)[i], (bytesOf a).drop (i + 1), List.drop_eq_getElem_cons hl, ?_, rfl, ?_⟩
  · rw [← rd_bytesOf]
    unfold rd
    rw [Int.toNat_natCast, List.getD_eq_getElem?_getD, List.getElem?_eq_getElem hl]
    rfl
  · have : ∀ x ∈ bytesOf a, 0 ≤ x ∧ x ≤ 255 := by
      intro x hx
      unfold bytesOf at hx
      obtain ⟨b, _, rfl⟩ := List.mem_map.1 hx
      have := b.toNat_lt
      omega
    exact this _ (List.getElem_mem _)

/-- What a byte is worth as a digit; 99: none. -/
def dv (b : Int) : Int := if 48 ≤ b ∧ b ≤ 57 then b - 48 else if 65 ≤ b ∧ b ≤ 70 then b - 55 else 99
/-- The number that so many digits of a base tell behind n; none where it leaves 16 bits. -/
def rdig (base : Int) : List Int → Int → Option Int
  | [], n => some n
  | b :: l, n => if dv b ≥ base then none else if n * base + dv b > 65535 then none else rdig base l (n * base + dv b)
def fin (base : Int) (l : List Int) : Int × Bool := if l = [] then (0, false) else match rdig base l 0 with | none => (0, false) | some m => (m, true)
def rn (l : List Int) : Int × Bool := if l.length > 18 then (0, false) else match l with | [] => (0, false) | b :: r => if b = 36 then fin 16 r else if b = 37 then fin 2 r else fin 10 (b :: r)
theorem dv_range (b : Int) : 0 ≤ dv b ∧ dv b ≤ 99 := by unfold dv; split <;> try omega
theorem rdig_range {base : Int} (hb : 0 ≤ base) : ∀ (l : List Int) (n m : Int), 0 ≤ n → n ≤ 65535 → rdig base l n = some m → 0 ≤ m ∧ m ≤ 65535
  | [], n, m, h0, h1, h => by injection h with h; omega
  | b :: l, n, m, h0, h1, h => by
    unfold rdig at h
    have hd := dv_range b
    by_cases c : dv b ≥ base
    · rw [if_pos c] at h; cases h
    · rw [if_neg c] at h
      by_cases c2 : n * base + dv b > 65535
      · rw [if_pos c2] at h; cases h
      · rw [if_neg c2] at h
        have hn : 0 ≤ n * base := Int.mul_nonneg h0 hb
        exact rdig_range hb l _ m (by omega) (by omega) h

theorem digit_eq (b : Int) (h0 : 0 ≤ b) (h1 : b ≤ 255) (k : Nat) : spec_l1Digit.f (k + 1) b = some (dv b) := by
  unfold spec_l1Digit.f dv
  by_cases c : b ≥ 48
  · rw [if_pos c, spec_l1Digit.j0]
    by_cases c2 : b ≤ 57
    · rw [decide_eq_true c2, if_pos rfl, if_pos ⟨c, c2⟩, show (b - 48) % 256 = b - 48 by omega]
    · rw [decide_eq_false c2, if_neg (by decide), if_neg (show ¬ (48 ≤ b ∧ b ≤ 57) by omega)]
      by_cases c3 : b ≥ 65
      · rw [if_pos c3]
        by_cases c4 : b ≤ 70
        · rw [if_pos c4, if_pos ⟨c3, c4⟩, show (b - 65) % 256 + 10 = b - 55 by omega]
        · rw [if_neg c4, if_neg (show ¬ (65 ≤ b ∧ b ≤ 70) by omega)]
      · rw [if_neg c3, if_neg (show ¬ (65 ≤ b ∧ b ≤ 70) by omega)]
  · rw [if_neg c, spec_l1Digit.j0, if_neg (by decide), if_neg (show ¬ b ≥ 65 by omega), if_neg (show ¬ (48 ≤ b ∧ b ≤ 57) by omega), if_neg (show ¬ (65 ≤ b ∧ b ≤ 70) by omega)]
theorem base_l0 (a : ByteArray) (ha : a.size ≤ 1000000) (base : Int) (hb0 : 2 ≤ base) (hb1 : base ≤ 16) : ∀ (k i : Nat) (n : Int), i ≤ a.size → a.size - i + 1 < k → 0 ≤ n → n ≤ 65535 →
    spec_l1Base.l0 k a base n (i : Int) = some (match rdig base ((bytesOf a).drop i) n with | none => (0, false) | some m => (m, a.toList != ([] : List UInt8)))
  | 0, i, n, _, h, _, _ => by omega
  | k + 1, i, n, hi, h, n0, n1 => by
    rw [spec_l1Base.l0]
    by_cases c : (i : Int) < (a.size : Int)
    · obtain ⟨b, l, e1, e2, e3, b0, b1⟩ := bt_get a i (by omega)
      obtain ⟨k, rfl⟩ : ∃ q, k = q + 1 := ⟨k - 1, by omega⟩
      have hd := dv_range b
      have hm0 : 0 ≤ n * base := Int.mul_nonneg n0 (by omega)
      have hm1 : n * base ≤ 65535 * 16 := Int.mul_le_mul n1 hb1 (by omega) (by omega)
      rw [if_pos c, if_pos (by omega), e2, digit_eq b b0 b1 k, Option.bind_some, e1]
      unfold rdig
      by_cases c2 : dv b ≥ base
      · rw [if_pos c2, if_pos c2]
      · rw [if_neg c2, if_neg c2, w64_in (n := n * base) (by omega) (by omega), w64_in (n := n * base + dv b) (by omega) (by omega), w64_in (n := (i : Int) + 1) (by omega) (by omega)]
        by_cases c3 : n * base + dv b > 65535
        · rw [if_pos c3, if_pos c3]
        · rw [if_neg c3, if_neg c3]
          have := base_l0 a ha base hb0 hb1 (k + 1) (i + 1) (n * base + dv b) (by omega) (by omega) (by omega) (by omega)
          rw [e3] at this
          exact this
    · rw [if_neg c, List.drop_of_length_le (by rw [bytesOf_length]; omega)]
      rfl
theorem base_eq (a : ByteArray) (ha : a.size ≤ 1000000) (base : Int) (hb0 : 2 ≤ base) (hb1 : base ≤ 16) (k : Nat) (hk : a.size + 1 < k) : spec_l1Base.f k a base = some (fin base (bytesOf a)) := by
  unfold spec_l1Base.f fin
  have := base_l0 a ha base hb0 hb1 k 0 0 (by omega) (by omega) (by omega) (by omega)
  rw [List.drop_zero] at this
  refine this.trans ?_
  by_cases c : a.toList = []
  · have c2 := (toList_nil_iff a).1 c
    rw [if_pos c2, c2, c]
    rfl
  · have c2 : ¬ bytesOf a = [] := fun h => c ((toList_nil_iff a).2 h)
    rw [if_neg c2, bne_iff_ne.mpr c]

/-- The digits of a base, as the program looks them up. -/
structure Digits (base : Int) (D : ByteArray) : Prop where
  size : (D.size : Int) = base
  ix : ∀ b : Int, 0 ≤ b → b ≤ 255 → Lib.indexByte D.data.toList b.toNat.toUInt8 = if dv b < base then dv b else -1
theorem ix16 : ∀ n < 256, Lib.indexByte [48, 49, 50, 51, 52, 53, 54, 55, 56, 57, 65, 66, 67, 68, 69, 70] (Nat.toUInt8 n) = if dv n < 16 then dv n else -1 := by decide +kernel
theorem ix10 : ∀ n < 256, Lib.indexByte [48, 49, 50, 51, 52, 53, 54, 55, 56, 57] (Nat.toUInt8 n) = if dv n < 10 then dv n else -1 := by decide +kernel
theorem ix2 : ∀ n < 256, Lib.indexByte [48, 49] (Nat.toUInt8 n) = if dv n < 2 then dv n else -1 := by decide +kernel
theorem up {P : Int → Prop} (h : ∀ n : Nat, n < 256 → P n) (b : Int) (h0 : 0 ≤ b) (h1 : b ≤ 255) : P b := by
  obtain ⟨n, rfl⟩ := Int.eq_ofNat_of_zero_le h0
  exact h n (by omega)
theorem d16 : Digits 16 (⟨#[48, 49, 50, 51, 52, 53, 54, 55, 56, 57, 65, 66, 67, 68, 69, 70]⟩ : ByteArray) := ⟨rfl, up (P := fun b => Lib.indexByte _ b.toNat.toUInt8 = if dv b < 16 then dv b else -1) fun n hn => ix16 n hn⟩
theorem d10 : Digits 10 (⟨#[48, 49, 50, 51, 52, 53, 54, 55, 56, 57]⟩ : ByteArray) := ⟨rfl, up (P := fun b => Lib.indexByte _ b.toNat.toUInt8 = if dv b < 10 then dv b else -1) fun n hn => ix10 n hn⟩
theorem d2 : Digits 2 (⟨#[48, 49]⟩ : ByteArray) := ⟨rfl, up (P := fun b => Lib.indexByte _ b.toNat.toUInt8 = if dv b < 2 then dv b else -1) fun n hn => ix2 n hn⟩
theorem valueOf_over (a D : ByteArray) (base : Int) (hb0 : 2 ≤ base) (hb1 : base ≤ 16) (hD : Digits base D) (k i : Nat) (n : Int) (hi : i ≤ a.size) (n0 : 65535 < n) (n1 : n ≤ 2000000) :
    ∃ r, impl_valueOf.l0 (k + 1) a D n (a.size : Int) (i : Int) = some r ∧ r.2 = false := by
  rw [impl_valueOf.l0]
  by_cases c : (i : Int) < (a.size : Int)
  · rw [if_pos c, if_pos (by omega), if_pos c]
    unfold strings_IndexByte.f
    rw [Option.bind_some]
    by_cases c2 : Lib.indexByte D.data.toList (bt a i).toNat.toUInt8 < 0
    · rw [if_pos c2]; exact ⟨_, rfl, rfl⟩
    · rw [if_neg c2, if_pos (by omega)]; exact ⟨_, rfl, rfl⟩
  · rw [if_neg c]
    by_cases c2 : a.toList = []
    · rw [if_pos c2]; exact ⟨_, rfl, rfl⟩
    · rw [if_neg c2]; exact ⟨_, rfl, decide_eq_false (by omega)⟩
theorem valueOf_l0 (a D : ByteArray) (base : Int) (hb0 : 2 ≤ base) (hb1 : base ≤ 16) (hD : Digits base D) (hne : ¬ a.toList = []) (ha : a.size ≤ 1000000) : ∀ (k i : Nat) (n : Int), i ≤ a.size → a.size - i + 1 < k → 0 ≤ n → n ≤ 65535 →
    ∃ r, impl_valueOf.l0 k a D n (a.size : Int) (i : Int) = some r ∧ (if r.2 = true then (r.1, true) else (0, false)) = (match rdig base ((bytesOf a).drop i) n with | none => ((0 : Int), false) | some m => (m, true))
  | 0, i, n, _, h, _, _ => by omega
  | k + 1, i, n, hi, h, n0, n1 => by
    by_cases c : (i : Int) < (a.size : Int)
    · obtain ⟨b, l, e1, e2, e3, b0, b1⟩ := bt_get a i (by omega)
      obtain ⟨k, rfl⟩ : ∃ q, k = q + 1 := ⟨k - 1, by omega⟩
      have hd := dv_range b
      have hm0 : 0 ≤ n * base := Int.mul_nonneg n0 (by omega)
      have hm1 : n * base ≤ 65535 * 16 := Int.mul_le_mul n1 hb1 (by omega) (by omega)
      rw [impl_valueOf.l0, if_pos c, if_pos (by omega), if_pos c]
      unfold strings_IndexByte.f
      rw [Option.bind_some, e2, hD.ix b b0 b1, e1]
      unfold rdig
      by_cases c2 : dv b ≥ base
      · rw [if_pos c2, if_neg (show ¬ dv b < base by omega), if_pos (show (-1 : Int) < 0 by decide)]
        exact ⟨_, rfl, rfl⟩
      · rw [if_neg c2, if_pos (show dv b < base by omega), if_neg (show ¬ dv b < 0 by omega), if_neg (show ¬ n > 65535 by omega), hD.size, w64_in (n := n * base) (by omega) (by omega), w64_in (n := n * base + dv b) (by omega) (by omega), w64_in (n := (i : Int) + 1) (by omega) (by omega)]
        by_cases c3 : n * base + dv b > 65535
        · rw [if_pos c3]
          obtain ⟨r, hr, hr2⟩ := valueOf_over a D base hb0 hb1 hD k (i + 1) (n * base + dv b) (by omega) c3 (by omega)
          refine ⟨r, hr, ?_⟩
          rw [hr2]; rfl
        · rw [if_neg c3]
          have := valueOf_l0 a D base hb0 hb1 hD hne ha (k + 1) (i + 1) (n * base + dv b) (by omega) (by omega) (by omega) (by omega)
          rw [e3] at this
          exact this
    · rw [impl_valueOf.l0, if_neg c, if_neg hne, List.drop_of_length_le (by rw [bytesOf_length]; omega)]
      refine ⟨_, rfl, ?_⟩
      unfold rdig
      simp [n1]
theorem valueOf_eq (a D : ByteArray) (base : Int) (hb0 : 2 ≤ base) (hb1 : base ≤ 16) (hD : Digits base D) (ha : a.size ≤ 1000000) (k : Nat) (hk : a.size + 1 < k) :
    ∃ r, impl_valueOf.f k a D = some r ∧ (if r.2 = true then (some (r.1, true)) else (some ((0 : Int), false))) = some (fin base (bytesOf a)) := by
  unfold impl_valueOf.f fin
  by_cases c : a.toList = []
  · have c2 := (toList_nil_iff a).1 c
    have hz : a.size = 0 := by rw [← bytesOf_length, c2]; rfl
    obtain ⟨k, rfl⟩ : ∃ q, k = q + 1 := ⟨k - 1, by omega⟩
    rw [impl_valueOf.l0, if_neg (by omega), if_pos c, if_pos c2]
    exact ⟨_, rfl, rfl⟩
  · have c2 : ¬ bytesOf a = [] := fun h => c ((toList_nil_iff a).2 h)
    obtain ⟨r, hr, hr2⟩ := valueOf_l0 a D base hb0 hb1 hD c ha k 0 0 (by omega) (by omega) (by omega) (by omega)
    rw [List.drop_zero] at hr2
    refine ⟨r, hr, ?_⟩
    rw [if_neg c2]
    rw [← hr2]
    split <;> rfl
theorem pre1 (a : ByteArray) (x : UInt8) (c : Int) (hc : c = x.toNat) : strings_HasPrefix.f a (⟨#[x]⟩ : ByteArray) = some (match bytesOf a with | [] => false | b :: _ => b == c) := by
  have hs : (⟨#[x]⟩ : ByteArray).size = 1 := rfl
  have ht : (⟨#[x]⟩ : ByteArray).toList = [x] := by rw [ByteArray.toList_eq]
  unfold strings_HasPrefix.f stringslite_HasPrefix.f
  rw [hs, ht]
  have hl := bytesOf_length a
  cases e : bytesOf a with
  | nil =>
    rw [e] at hl
    rw [if_neg (by simp at hl; omega)]
    rfl
  | cons b r =>
    rw [e] at hl
    simp at hl
    rw [if_pos (by omega), if_pos (by omega), if_pos (by omega), Option.bind_some]
    congr 1
    have e1 : (a.extract 0 ((1 : Nat) : Int).toNat).toList = (a.data.toList).take 1 := by
      rw [ByteArray.toList_eq, ByteArray.data_extract, Array.toList_extract, List.extract_eq_take_drop]; rfl
    rw [e1]
    unfold bytesOf at e
    cases e2 : a.data.toList with
    | nil => rw [e2] at e; cases e
    | cons y z =>
      rw [e2] at e
      simp only [List.map_cons, List.cons.injEq] at e
      obtain ⟨rfl, _⟩ := e
      subst hc
      simp only [List.take_succ_cons, List.take_zero]
      by_cases q : y = x
      · subst q; simp
      · have : ¬ (y.toNat : Int) = (x.toNat : Int) := by
          intro h; exact q (UInt8.toNat_inj.1 (by omega))
        rw [beq_eq_false_iff_ne.mpr this]
        simp [q]
theorem impl_rn (a : ByteArray) (k : Nat) (hk : 30 ≤ k) : impl_ReadNum.f k a = some (rn (bytesOf a)) := by
  unfold impl_ReadNum.f rn
  rw [bytesOf_length]
  by_cases c : (a.size : Int) > 18
  · rw [if_pos c, if_pos (by omega)]
  rw [if_neg c, if_neg (show ¬ a.size > 18 by omega), pre1 a 36 36 rfl, pre1 a 37 37 rfl, Option.bind_some, Option.bind_some]
  have hl := bytesOf_length a
  have hs : (a.extract 1 a.size).size ≤ a.size := by rw [ByteArray.size_extract]; omega
  obtain ⟨r1, q1, q2⟩ := valueOf_eq (a.extract 1 a.size) _ 16 (by omega) (by omega) d16 (by omega) k (by omega)
  obtain ⟨r2, q3, q4⟩ := valueOf_eq (a.extract 1 a.size) _ 2 (by omega) (by omega) d2 (by omega) k (by omega)
  obtain ⟨r3, q5, q6⟩ := valueOf_eq a _ 10 (by omega) (by omega) d10 (by omega) k (by omega)
  rw [q1, q3, q5, Option.bind_some, Option.bind_some, Option.bind_some, q2, q4, q6, bytesOf_rest]
  cases e : bytesOf a with
  | nil => rw [if_neg (by decide), if_neg (by decide)]; rfl
  | cons b r =>
    rw [e] at hl
    simp at hl
    simp only [List.drop_succ_cons, List.drop_zero, beq_iff_eq]
    by_cases b1 : b = 36
    · rw [if_pos b1, if_pos b1, if_pos (by omega)]
    · rw [if_neg b1, if_neg b1]
      by_cases b2 : b = 37
      · rw [if_pos b2, if_pos b2, if_pos (by omega)]
      · rw [if_neg b2, if_neg b2]
theorem spec_rn (a : ByteArray) (k : Nat) (hk : 30 ≤ k) : spec_ReadNum.f k a = some (rn (bytesOf a)) := by
  obtain ⟨k, rfl⟩ : ∃ q, k = q + 1 := ⟨k - 1, by omega⟩
  unfold spec_ReadNum.f rn
  rw [bytesOf_length]
  have hl := bytesOf_length a
  by_cases c : (a.size : Int) > 18
  · rw [if_pos c, if_pos (by omega), spec_ReadNum.j0]; rfl
  rw [if_neg c, if_neg (by omega)]
  cases e : bytesOf a with
  | nil =>
    rw [beq_iff_eq.mpr ((toList_nil_iff a).2 e), spec_ReadNum.j0]; rfl
  | cons b r =>
    have hne : ¬ a.toList = [] := fun h => by have := (toList_nil_iff a).1 h; rw [e] at this; cases this
    rw [e] at hl
    simp at hl
    have hs : (a.extract 1 a.size).size ≤ a.size := by rw [ByteArray.size_extract]; omega
    obtain ⟨b', l, e1, e2, _⟩ := bt_get a 0 (by omega)
    rw [List.drop_zero, e] at e1
    injection e1 with e1 _
    subst e1
    rw [beq_eq_false_iff_ne.mpr hne, spec_ReadNum.j0, if_neg (by decide), if_pos (by omega)]
    rw [show ((0 : Nat) : Int) = 0 from rfl] at e2
    rw [e2, base_eq _ (by omega) 16 (by omega) (by omega) k (by omega), base_eq _ (by omega) 2 (by omega) (by omega) k (by omega), base_eq _ (by omega) 10 (by omega) (by omega) k (by omega), bytesOf_rest, e, List.drop_succ_cons, List.drop_zero]
    simp only [Option.bind_some]
    by_cases b1 : b = 36
    · rw [if_pos b1, if_pos b1, if_pos (by omega)]
    · rw [if_neg b1, if_neg b1]
      by_cases b2 : b = 37
      · rw [if_pos b2, if_pos b2, if_pos (by omega)]
      · rw [if_neg b2, if_neg b2]
theorem fin_zero {base : Int} (hb : 2 ≤ base) {l : List Int} {n : Int} (h : fin base l = (n, true)) : fin base (48 :: l) = (n, true) ∧ 0 ≤ n ∧ n ≤ 65535 := by
  unfold fin at h
  by_cases c : l = []
  · rw [if_pos c] at h; simp at h
  rw [if_neg c] at h
  have hd : dv 48 = 0 := rfl
  have h0 : rdig base (48 :: l) 0 = rdig base l 0 := by
    rw [rdig, hd, if_neg (by omega), Int.zero_mul, if_neg (by omega)]
    rfl
  cases e : rdig base l 0 with
  | none => rw [e] at h; simp at h
  | some m =>
    rw [e] at h
    simp only [Prod.mk.injEq, and_true] at h
    subst h
    refine ⟨?_, rdig_range (by omega) l 0 m (by omega) (by omega) e⟩
    unfold fin
    rw [if_neg (by simp), h0, e]

theorem hex_size (a b : Nat) : ((⟨#[48, 49, 50, 51, 52, 53, 54, 55, 56, 57, 65, 66, 67, 68, 69, 70]⟩ : ByteArray).extract a b).size ≤ 16 := by
  rw [ByteArray.size_extract]
  have : (⟨#[48, 49, 50, 51, 52, 53, 54, 55, 56, 57, 65, 66, 67, 68, 69, 70]⟩ : ByteArray).size = 16 := rfl
  omega
theorem hex_l0 : ∀ (j k : Nat) (x i : Int) (out : ByteArray), 0 ≤ x → x ≤ 65535 → 0 ≤ i → i + j = 4 → j < k → out.size + 16 * j ≤ 100 → ∃ r, spec_HexOf.l0 k x 4 out i = some r ∧ r.size ≤ 101
  | 0, k, x, i, out, x0, x1, i0, hi, hk, ho => by
    obtain ⟨k, rfl⟩ : ∃ q, k = q + 1 := ⟨k - 1, by omega⟩
    rw [spec_HexOf.l0, if_neg (by omega)]
    by_cases c : x > 0
    · rw [if_pos c]; exact ⟨_, rfl, by show 0 ≤ 101; omega⟩
    · rw [if_neg c, if_pos (by omega)]
      refine ⟨_, rfl, ?_⟩
      rw [ByteArray.size_append]
      show 1 + out.size ≤ 101
      omega
  | j + 1, k, x, i, out, x0, x1, i0, hi, hk, ho => by
    obtain ⟨k, rfl⟩ : ∃ q, k = q + 1 := ⟨k - 1, by omega⟩
    have hs := hex_size (x % 16).toNat (x % 16 + 1).toNat
    rw [spec_HexOf.l0, if_pos (by omega), tmod_pos _ x0, tdiv_pos _ x0, w64_in (n := x % 16 + 1) (by omega) (by omega), w64_in (n := x / 16) (by omega) (by omega), w64_in (n := i + 1) (by omega) (by omega), if_pos (by omega), if_pos (by omega), if_pos (by omega), if_pos (by omega)]
    exact hex_l0 j k _ _ _ (by omega) (by omega) (by omega) (by omega) (by omega) (by rw [ByteArray.size_append]; omega)
theorem hexof_tot (n : Int) (h0 : 0 ≤ n) (h1 : n ≤ 65535) (k : Nat) (hk : 8 ≤ k) : ∃ r, spec_HexOf.f k n 4 = some r ∧ r.size ≤ 101 := by
  obtain ⟨k, rfl⟩ : ∃ q, k = q + 1 := ⟨k - 1, by omega⟩
  unfold spec_HexOf.f spec_l1In.f
  rw [if_pos (by decide), Option.bind_some, decide_eq_true (by decide), if_pos rfl, if_pos h0, Option.bind_some, decide_eq_true h1, spec_HexOf.j0, if_neg (by decide)]
  exact hex_l0 4 k n 0 (⟨#[]⟩ : ByteArray) h0 h1 (by omega) (by omega) (by omega) (by show 0 + 16 * 4 ≤ 100; omega)
theorem dec_l0 : ∀ (j k : Nat) (x : Int) (out : ByteArray), 0 ≤ x → x < 10 ^ (j + 1) → x ≤ 1000000 → j < k → out.size + j ≤ 100 → ∃ r, spec_l1Dec.l0 k x out = some r ∧ r.size ≤ 101 := by
  have hs : ∀ y : Int, (strOfNums [y]).size = 1 := fun y => strOfNums_size _
  have fin_ : ∀ (k : Nat) (x : Int) (out : ByteArray), 0 ≤ x → x < 10 → out.size ≤ 100 → ∃ r, spec_l1Dec.l0 (k + 1) x out = some r ∧ r.size ≤ 101 := by
    intro k x out h0 h1 ho
    rw [spec_l1Dec.l0, if_neg (by omega)]
    simp only [Option.bind_some]
    rw [if_pos (by rw [hs]; omega)]
    exact ⟨_, rfl, by rw [ByteArray.size_append, hs]; omega⟩
  intro j
  induction j with
  | zero =>
    intro k x out h0 h1 h2 hk ho
    obtain ⟨k, rfl⟩ : ∃ q, k = q + 1 := ⟨k - 1, by omega⟩
    exact fin_ k x out h0 (by simpa using h1) (by omega)
  | succ j ih =>
    intro k x out h0 h1 h2 hk ho
    obtain ⟨k, rfl⟩ : ∃ q, k = q + 1 := ⟨k - 1, by omega⟩
    by_cases c : x ≥ 10
    · rw [spec_l1Dec.l0, if_pos c]
      simp only [Option.bind_some]
      rw [if_pos (by rw [hs]; omega), tdiv_pos _ h0, w64_in (n := x / 10) (by omega) (by omega)]
      rw [Int.pow_succ] at h1
      exact ih k _ _ (by omega) (by omega) (by omega) (by omega) (by rw [ByteArray.size_append, hs]; omega)
    · exact fin_ k x out h0 (by omega) (by omega)
theorem dec_tot (n : Int) (h0 : 0 ≤ n) (h1 : n < 1000000) (k : Nat) (hk : 10 ≤ k) : ∃ r, spec_l1Dec.f k n = some r ∧ r.size ≤ 101 := by
  obtain ⟨k, rfl⟩ : ∃ q, k = q + 1 := ⟨k - 1, by omega⟩
  rw [spec_l1Dec.f, if_neg (by omega)]
  exact dec_l0 5 k n (⟨#[]⟩ : ByteArray) h0 (by omega) (by omega) (by omega) (by show 0 + 5 ≤ 100; omega)
theorem rdOf_size (ys : List ByteArray) (i : Int) (m : Nat) (hy : ∀ y ∈ ys, y.size ≤ m) : (rdOf ByteArray.empty ys i).size ≤ m := by
  unfold rdOf
  rw [List.getD_eq_getElem?_getD]
  by_cases c : i.toNat < ys.length
  · rw [List.getElem?_eq_getElem c]
    exact hy _ (List.getElem_mem _)
  · rw [List.getElem?_eq_none (by omega)]
    exact Nat.zero_le _
theorem drawnum_tot {l : List Int} (hl : l.length ≤ 1048576) (hb : ∀ x ∈ l, 0 ≤ x ∧ x ≤ 255) (k : Nat) (hk : 30 ≤ k) : ∃ s, spec_DrawReadNum.f k l = some s := by
  obtain ⟨e, h⟩ := open_tot hl hb
  unfold spec_DrawReadNum.f
  rw [e]
  simp only [Option.bind_some]
  obtain ⟨v, q, e2, v0, v1, h2⟩ := below_tot h 70000
  obtain ⟨u, r, e3, u0, u1, h3⟩ := below_tot h2 5
  have v2 := v1 (by omega)
  have u2 := u1 (by omega)
  rw [e2]
  simp only [Option.bind_some]
  rw [e3]
  simp only [Option.bind_some]
  by_cases c0 : u = 0
  · rw [if_pos c0, tmod_pos _ v0]
    obtain ⟨s, q1, q2⟩ := hexof_tot (v % 65536) (by omega) (by omega) k (by omega)
    obtain ⟨t, p, q3, _⟩ := hurt_tot h3 s (by omega)
    rw [q1, Option.bind_some, q3]
    exact ⟨_, rfl⟩
  rw [if_neg c0]
  by_cases c1 : u = 1
  · rw [if_pos c1]
    obtain ⟨x, p, q1, x0, x1, _⟩ := below_tot h3 5
    have x2 := x1 (by omega)
    have hz := rdOf_size ([(⟨#[]⟩ : ByteArray), (⟨#[49]⟩ : ByteArray), (⟨#[49, 48, 49, 48]⟩ : ByteArray), (⟨#[50]⟩ : ByteArray), (⟨#[49, 49, 49, 49, 49, 49, 49, 49, 49, 49, 49, 49, 49, 49, 49, 49, 49]⟩ : ByteArray)] : List ByteArray) x 20 (by intro y hy; simp only [List.mem_cons, List.not_mem_nil, or_false] at hy; rcases hy with rfl | rfl | rfl | rfl | rfl <;> decide)
    rw [q1]
    simp only [Option.bind_some]
    rw [if_pos x0, if_pos (by simpa using x2), if_pos (by omega)]
    exact ⟨_, rfl⟩
  rw [if_neg c1]
  by_cases c2 : u = 2
  · rw [if_pos c2]
    obtain ⟨x, p, q1, x0, x1, _⟩ := below_tot h3 7
    have x2 := x1 (by omega)
    rw [q1]
    simp only [Option.bind_some]
    rw [if_pos x0, if_pos (by simpa using x2)]
    exact ⟨_, rfl⟩
  rw [if_neg c2]
  obtain ⟨s, q1, q2⟩ := dec_tot v v0 (by omega) k (by omega)
  obtain ⟨t, p, q3, _⟩ := hurt_tot h3 s (by omega)
  rw [q1, Option.bind_some, q3]
  exact ⟨_, rfl⟩

theorem rn_true {l : List Int} {n : Int} (h : rn l = (n, true)) : l.length ≤ 18 ∧ ∃ b r, l = b :: r ∧ ((b = 36 ∧ fin 16 r = (n, true)) ∨ (b = 37 ∧ fin 2 r = (n, true)) ∨ (b ≠ 36 ∧ b ≠ 37 ∧ fin 10 (b :: r) = (n, true))) := by
  unfold rn at h
  by_cases c : l.length > 18
  · rw [if_pos c] at h; simp at h
  rw [if_neg c] at h
  refine ⟨by omega, ?_⟩
  cases l with
  | nil => simp at h
  | cons b r =>
    refine ⟨b, r, rfl, ?_⟩
    simp only at h
    by_cases c1 : b = 36
    · rw [if_pos c1] at h; exact .inl ⟨c1, h⟩
    rw [if_neg c1] at h
    by_cases c2 : b = 37
    · rw [if_pos c2] at h; exact .inr (.inl ⟨c2, h⟩)
    rw [if_neg c2] at h
    exact .inr (.inr ⟨c1, c2, h⟩)
theorem rn_of {b : Int} {r : List Int} (h : (b :: r).length ≤ 18) : rn (b :: r) = if b = 36 then fin 16 r else if b = 37 then fin 2 r else fin 10 (b :: r) := by
  unfold rn
  rw [if_neg (by omega)]
theorem last (s : ByteArray) (n : Int) (h : rn (bytesOf s) = (n, true)) (k : Nat) (hk : 30 ≤ k) : laws_FnNums.j0 (k + 1) s n true n true false = some true := by
  obtain ⟨hl, b, r, e, hc⟩ := rn_true h
  rw [bytesOf_length] at hl
  have hl2 := bytesOf_length s
  have hp : 1 ≤ s.size := by rw [← hl2, e]; simp
  obtain ⟨b', l, e1, e2, _⟩ := bt_get s 0 (by omega)
  rw [List.drop_zero, e] at e1
  injection e1 with e1 _
  subst e1
  rw [show ((0 : Nat) : Int) = 0 from rfl] at e2
  have z1 : (s.extract 0 1).size = 1 := by rw [ByteArray.size_extract]; omega
  have z2 : (s.extract 1 s.size).size = s.size - 1 := by rw [ByteArray.size_extract]; omega
  have z3 : (⟨#[48]⟩ : ByteArray).size = 1 := rfl
  have y3 : bytesOf (⟨#[48]⟩ : ByteArray) = [48] := rfl
  have t1 : bytesOf ((s.extract 0 1 ++ (⟨#[48]⟩ : ByteArray)) ++ s.extract 1 s.size) = b :: 48 :: r := by
    rw [bytesOf_append, bytesOf_append, bytesOf_rest, bytesOf_extract, y3, e]
    rfl
  have t2 : bytesOf ((⟨#[48]⟩ : ByteArray) ++ s) = 48 :: b :: r := by
    rw [bytesOf_append, y3, e]; rfl
  have s1 := bytesOf_length ((s.extract 0 1 ++ (⟨#[48]⟩ : ByteArray)) ++ s.extract 1 s.size)
  have s2 := bytesOf_length ((⟨#[48]⟩ : ByteArray) ++ s)
  rw [t1] at s1
  rw [t2] at s2
  rw [laws_FnNums.j0, if_neg (by decide), if_pos (by omega), if_pos (by omega), e2]
  rcases hc with ⟨hb, hf⟩ | ⟨hb, hf⟩ | ⟨hb1, hb2, hf⟩
  · obtain ⟨f1, f2, f3⟩ := fin_zero (by omega) hf
    rw [if_pos hb, if_pos (by decide), if_pos (show (1 : Int) ≤ (s.size : Int) by omega), if_pos (by omega), if_pos (by rw [ByteArray.size_append, z1, z2, z3]; omega), impl_rn _ k hk, Option.bind_some, if_pos f2, if_pos f3, t1]
    by_cases g : ((((s.extract 0 1 ++ (⟨#[48]⟩ : ByteArray)) ++ s.extract 1 s.size).size : Int)) > 18
    · rw [if_pos g]
    · rw [if_neg g, rn_of (by omega), if_pos hb, f1]
      simp
  · obtain ⟨f1, f2, f3⟩ := fin_zero (by omega) hf
    rw [if_neg (by omega), if_pos hb, if_pos (by decide), if_pos (show (1 : Int) ≤ (s.size : Int) by omega), if_pos (by omega), if_pos (by rw [ByteArray.size_append, z1, z2, z3]; omega), impl_rn _ k hk, Option.bind_some, if_pos f2, if_pos f3, t1]
    by_cases g : ((((s.extract 0 1 ++ (⟨#[48]⟩ : ByteArray)) ++ s.extract 1 s.size).size : Int)) > 18
    · rw [if_pos g]
    · rw [if_neg g, rn_of (by omega), if_neg (show ¬ b = 36 by omega), if_pos hb, f1]
      simp
  · obtain ⟨f1, f2, f3⟩ := fin_zero (by omega) hf
    rw [if_neg hb1, if_neg hb2, impl_rn _ k hk, Option.bind_some, if_pos f2, if_pos f3, t2]
    by_cases g : ((((⟨#[48]⟩ : ByteArray) ++ s).size : Int)) > 18
    · rw [if_pos g]
    · rw [if_neg g, rn_of (by omega), if_neg (show ¬ (48 : Int) = 36 by decide), if_neg (show ¬ (48 : Int) = 37 by decide), f1]
      simp
theorem FnNums : laws_FnNums.Pure := by
  intro l _ _ hw
  refine ⟨40, ?_⟩
  unfold laws_FnNums.f laws_big.f
  simp only [Option.bind_some]
  by_cases hb : ((l.length : Int) > 1048576)
  · rw [decide_eq_true hb]; rfl
  rw [decide_eq_false hb, if_neg (by decide)]
  obtain ⟨s, e⟩ := drawnum_tot (l := l) (by omega) (bytes_wf hw) 40 (by omega)
  rw [e, Option.bind_some, impl_rn s 40 (by omega), spec_rn s 40 (by omega), Option.bind_some, Option.bind_some, if_pos rfl]
  cases h : rn (bytesOf s) with
  | mk n t =>
  cases t with
  | false =>
    rw [if_neg (by simp)]
    simp [laws_FnNums.j0]
  | true =>
    rw [if_neg (by simp)]
    exact last s n h 39 (by omega)
end Go.Proofs.Ytahibkfcohajcaa.Pure
