/- What is told to differ, put into the one, is the other; of what is the same little is told: for whatever texts are drawn. No condition beyond the row's own. -/
import Derived.Test.YtcohcndliaaacaaQFnDiffsx
import Derived.Test.YtcohcndliaaacaaLib
namespace Go.Proofs.Ytcohcndliaaacaa.Pure
open Go.RowKit Go.Proofs.Ytcohcndliaaacaa.QFnDiffs Go.Proofs.YtcohcndliaaacaaW.PrintWords Go.Proofs.YtcohcndliaaacaaW.PrintLast Go.Proofs.Ytcohcndliaaacaa.Lib Go.Proofs.Ytcohcndliaaacaa.LibX Go.Proofs.Ytcohcndliaaacaa.LibE Go.Proofs.Ytcohcndliaaacaa.LibG Go.Proofs.Ytcohcndliaaacaa.LibHD
set_option linter.unusedSimpArgs false
set_option linter.unusedVariables false

/-- From some number of rounds on it answers one and the same, and P holds of the answer. -/
def Tot {α : Type} (g : Nat → Option α) (P : α → Prop) : Prop := ∃ K r, P r ∧ ∀ k, K ≤ k → g k = some r
theorem Tot.ret {α : Type} {r : α} {P : α → Prop} (h : P r) : Tot (fun _ => some r) P := ⟨0, r, h, fun _ _ => rfl⟩
theorem Tot.of {α : Type} {g : Option α} {r : α} {P : α → Prop} (e : g = some r) (h : P r) : Tot (fun _ => g) P := ⟨0, r, h, fun _ _ => e⟩
theorem Tot.bind {α β : Type} {g : Nat → Option α} {f : Nat → α → Option β} {P : α → Prop} {Q : β → Prop} (h : Tot g P) (hf : ∀ a, P a → Tot (fun k => f k a) Q) : Tot (fun k => (g k).bind (f k)) Q := by
  obtain ⟨K, a, ha, hg⟩ := h
  obtain ⟨L, r, hr, hk⟩ := hf a ha
  exact ⟨max K L, r, hr, fun k hk' => by show (g k).bind (f k) = some r; rw [hg k (by omega)]; exact hk k (by omega)⟩
theorem Tot.ite {α : Type} {c : Prop} [Decidable c] {g f : Nat → Option α} {P : α → Prop} (h1 : c → Tot g P) (h2 : ¬ c → Tot f P) : Tot (fun k => if c then g k else f k) P := by
  by_cases h : c
  · obtain ⟨K, r, hr, hk⟩ := h1 h
    exact ⟨K, r, hr, fun k hk' => by show (if c then g k else f k) = some r; rw [if_pos h]; exact hk k hk'⟩
  · obtain ⟨K, r, hr, hk⟩ := h2 h
    exact ⟨K, r, hr, fun k hk' => by show (if c then g k else f k) = some r; rw [if_neg h]; exact hk k hk'⟩
theorem Tot.yes {α : Type} {c : Prop} [Decidable c] {g f : Nat → Option α} {P : α → Prop} (h : c) (h1 : Tot g P) : Tot (fun k => if c then g k else f k) P := Tot.ite (fun _ => h1) (fun n => absurd h n)
theorem Tot.no {α : Type} {c : Prop} [Decidable c] {g f : Nat → Option α} {P : α → Prop} (h : ¬ c) (h1 : Tot f P) : Tot (fun k => if c then g k else f k) P := Tot.ite (fun n => absurd n h) (fun _ => h1)
theorem Tot.mono {α : Type} {g : Nat → Option α} {P Q : α → Prop} (h : Tot g P) (hi : ∀ a, P a → Q a) : Tot g Q := by
  obtain ⟨K, r, hr, hk⟩ := h
  exact ⟨K, r, hi r hr, hk⟩
theorem Tot.step {α : Type} {g f : Nat → Option α} {P : α → Prop} (h : ∀ k, g (k + 1) = f k) (hf : Tot f P) : Tot g P := by
  obtain ⟨K, r, hr, hk⟩ := hf
  exact ⟨K + 1, r, hr, fun k hk' => by obtain ⟨m, rfl⟩ : ∃ m, k = m + 1 := ⟨k - 1, by omega⟩; rw [h]; exact hk m (by omega)⟩
theorem Tot.lift {α : Type} {g : Nat → Option α} {P : α → Prop} (hm : ∀ k, LeO (g k) (g (k + 1))) {k : Nat} {r : α} (e : g k = some r) (h : P r) : Tot g P := ⟨k, r, h, fun _ hk => at_rounds hm hk e⟩
theorem Tot.congr {α : Type} {g f : Nat → Option α} {P : α → Prop} (h : ∀ k, g k = f k) (hf : Tot f P) : Tot g P := by
  obtain ⟨K, r, hr, hk⟩ := hf
  exact ⟨K, r, hr, fun k hk' => (h k).trans (hk k hk')⟩
theorem Tot.eq {α : Type} {g : Nat → Option α} {r : α} (h : Tot g (fun x => x = r)) : ∃ K, ∀ k, K ≤ k → g k = some r := by
  obtain ⟨K, x, hx, hk⟩ := h
  subst hx
  exact ⟨K, hk⟩
theorem Tot.done {g : Nat → Option Bool} (h : Tot g (fun x => x = true)) : ∃ k, g k = some true := by
  obtain ⟨K, hk⟩ := h.eq
  exact ⟨K, hk K (Nat.le_refl _)⟩

/-- The reader is in order: its bytes are bytes, its place is among them. -/
def RdOk (s : List Int) (p : Int) : Prop := 0 ≤ p ∧ p ≤ s.length ∧ s.length ≤ 1048576 ∧ ∀ x ∈ s, 0 ≤ x ∧ x ≤ 255
theorem rd_mem {s : List Int} {p : Int} (h0 : 0 ≤ p) (h1 : p < (s.length : Int)) : rd s p ∈ s := by
  unfold rd
  rw [List.getD_eq_getElem?_getD, List.getElem?_eq_getElem (by omega)]
  exact List.getElem_mem _
theorem open_tot {l : List Int} (hl : l.length ≤ 1048576) (hb : ∀ x ∈ l, 0 ≤ x ∧ x ≤ 255) : spec_l1Open.f l = some (l, 0) ∧ RdOk l 0 :=
  ⟨rfl, by omega, by omega, hl, hb⟩
theorem next_tot {s : List Int} {p : Int} (h : RdOk s p) : ∃ v q, spec_l1Rd_next.f s p = some (v, q) ∧ 0 ≤ v ∧ v ≤ 255 ∧ RdOk s q := by
  obtain ⟨h0, h1, h2, h3⟩ := h
  unfold spec_l1Rd_next.f
  by_cases c : p ≥ (s.length : Int)
  · rw [if_pos c]
    exact ⟨0, p, rfl, by omega, by omega, h0, h1, h2, h3⟩
  · have hm := h3 _ (rd_mem h0 (show p < (s.length : Int) by omega))
    have e : p + 1 - 1 = p := by omega
    rw [if_neg c, w64_in (n := p + 1) (by omega) (by omega), w64_in (n := p + 1 - 1) (by omega) (by omega), e, if_pos h0, if_pos (by omega), w64_in (n := rd s p) (by omega) (by omega)]
    exact ⟨_, _, rfl, hm.1, hm.2, by omega, by omega, h2, h3⟩
theorem below_tot {s : List Int} {p : Int} (h : RdOk s p) (n : Int) : ∃ v q, spec_l1Rd_below.f s p n = some (v, q) ∧ 0 ≤ v ∧ (1 ≤ n → v < n) ∧ RdOk s q := by
  unfold spec_l1Rd_below.f
  by_cases c : n ≤ 1
  · rw [if_pos c]
    exact ⟨0, p, rfl, by omega, by omega, h⟩
  · rw [if_neg c]
    obtain ⟨v, q, e1, v0, v1, h1⟩ := next_tot h
    by_cases c2 : n ≤ 256
    · rw [if_pos c2, e1]
      simp only [Option.bind_some]
      rw [if_neg (by omega), tmod_pos _ v0]
      exact ⟨_, _, rfl, Int.emod_nonneg _ (by omega), fun _ => Int.emod_lt_of_pos _ (by omega), h1⟩
    · obtain ⟨u, r, e2, u0, u1, h2⟩ := next_tot h1
      rw [if_neg c2, e1]
      simp only [Option.bind_some]
      rw [e2]
      simp only [Option.bind_some]
      rw [if_neg (by omega), w64_in (n := v * 256) (by omega) (by omega), w64_in (n := v * 256 + u) (by omega) (by omega), tmod_pos _ (by omega)]
      exact ⟨_, _, rfl, Int.emod_nonneg _ (by omega), fun _ => Int.emod_lt_of_pos _ (by omega), h2⟩

theorem bytes_wf {l : List Int} (h : ∀ x ∈ l, (Lit.int .u8 x).wf = true) : ∀ x ∈ l, 0 ≤ x ∧ x ≤ 255 := by
  intro x hx
  have h1 := h x hx
  have e0 : IntKind.u8.min = 0 := rfl
  have e1 : IntKind.u8.max = 255 := rfl
  simp only [Lit.wf, e0, e1, Bool.and_eq_true, decide_eq_true_eq] at h1
  exact h1

theorem drawdiff_l1 {s : List Int} (x5 : List Int) : ∀ (n k : Nat) (p : Int) (x7 : List Int) (x8 : Int), RdOk s p → x7.length ≤ 1000 → 0 ≤ x8 → x8 ≤ n → x8 ≤ 1000 → 2 * n + 2 ≤ k →
    ∃ r, spec_DrawDiffOf.l1 k x5 x7 x8 s p = some r := by
  have fin : ∀ (k : Nat) (p : Int) (x7 : List Int) (x8 : Int), RdOk s p → x7.length ≤ 1000 → ∃ r, spec_DrawDiffOf.j2 (k + 1) x5 x7 x8 false s p = some r := by
    intro k p x7 x8 h hl
    rw [spec_DrawDiffOf.j2, if_neg (by decide)]
    obtain ⟨v, q, e, v0, v1, h1⟩ := below_tot h 4
    rw [e]
    simp only [Option.bind_some]
    by_cases c : v = 0
    · rw [if_pos c]
      obtain ⟨u, r, e2, u0, u1, h2⟩ := below_tot h1 ((x7.length : Int) + 1)
      rw [w64_in (n := (x7.length : Int) + 1) (by omega) (by omega), e2]
      simp only [Option.bind_some]
      rw [if_pos u0, if_pos (by have := u1 (by omega); omega)]
      exact ⟨_, rfl⟩
    · rw [if_neg c]
      by_cases c2 : v = 1
      · rw [if_pos c2]
        obtain ⟨u, r, e2, _⟩ := below_tot h1 256
        rw [e2]
        simp only [Option.bind_some]
        rw [if_pos (by simp; omega)]
        exact ⟨_, rfl⟩
      · rw [if_neg c2]
        exact ⟨_, rfl⟩
  intro n
  induction n with
  | zero =>
    intro k p x7 x8 h hl h0 h1 hx hk
    obtain ⟨k, rfl⟩ : ∃ q, k = q + 2 := ⟨k - 2, by omega⟩
    rw [spec_DrawDiffOf.l1, if_neg (by omega)]
    exact fin _ _ _ _ h hl
  | succ n ih =>
    intro k p x7 x8 h hl h0 h1 hx hk
    obtain ⟨k, rfl⟩ : ∃ q, k = q + 2 := ⟨k - 2, by omega⟩
    rw [spec_DrawDiffOf.l1]
    by_cases c : x8 > 0
    · rw [if_pos c]
      by_cases c2 : (x7.length : Int) > 0
      · rw [decide_eq_true c2, spec_DrawDiffOf.j2, if_pos rfl]
        obtain ⟨v, q, e, v0, v1, h2⟩ := below_tot h (x7.length : Int)
        obtain ⟨u, r, e2, u0, u1, h3⟩ := below_tot h2 256
        rw [e]
        simp only [Option.bind_some]
        rw [e2]
        simp only [Option.bind_some]
        rw [if_pos v0, if_pos (v1 (by omega)), w64_in (n := x8 - 1) (by omega) (by omega)]
        exact ih _ _ _ _ h3 (by rw [List.length_set]; exact hl) (by omega) (by omega) (by omega) (by omega)
      · rw [decide_eq_false c2]
        exact fin _ _ _ _ h hl
    · rw [if_neg c]
      exact fin _ _ _ _ h hl
theorem drawdiff_l0 {s : List Int} : ∀ (n k : Nat) (p : Int) (x5 : List Int) (x6 : Int), RdOk s p → x5.length + n ≤ 1000 → 0 ≤ x6 → x6 ≤ n → n + 20 ≤ k →
    ∃ r, spec_DrawDiffOf.l0 k x5 x6 s p = some r := by
  have fin : ∀ (k : Nat) (p : Int) (x5 : List Int) (x6 : Int), RdOk s p → x5.length ≤ 1000 → 0 ≤ x6 → ¬ x6 > 0 → 19 ≤ k → ∃ r, spec_DrawDiffOf.l0 (k + 1) x5 x6 s p = some r := by
    intro k p x5 x6 h hl h0 h1 hk
    rw [spec_DrawDiffOf.l0, if_neg h1]
    simp only [Option.bind_some]
    rw [if_pos (by simp; omega)]
    obtain ⟨v, q, e, v0, v1, h2⟩ := below_tot h 5
    rw [e]
    simp only [Option.bind_some]
    exact drawdiff_l1 _ 4 _ _ _ _ h2 (by simp; omega) v0 (by have := v1 (by omega); omega) (by have := v1 (by omega); omega) (by omega)
  intro n
  induction n with
  | zero =>
    intro k p x5 x6 h hl h0 h1 hk
    obtain ⟨k, rfl⟩ : ∃ q, k = q + 1 := ⟨k - 1, by omega⟩
    exact fin _ _ _ _ h (by omega) h0 (by omega) (by omega)
  | succ n ih =>
    intro k p x5 x6 h hl h0 h1 hk
    obtain ⟨k, rfl⟩ : ∃ q, k = q + 1 := ⟨k - 1, by omega⟩
    by_cases c : x6 > 0
    · rw [spec_DrawDiffOf.l0, if_pos c]
      obtain ⟨v, q, e, v0, v1, h2⟩ := below_tot h 4
      rw [e]
      simp only [Option.bind_some]
      rw [if_pos (by omega), w64_in (n := x6 - 1) (by omega) (by omega)]
      exact ih _ _ _ _ h2 (by simp; omega) (by omega) (by omega) (by omega)
    · exact fin _ _ _ _ h (by omega) h0 c (by omega)
theorem drawdiff_tot {l : List Int} (hl : l.length ≤ 1048576) (hb : ∀ x ∈ l, 0 ≤ x ∧ x ≤ 255) (k : Nat) (hk : 60 ≤ k) : ∃ a b, spec_DrawDiffOf.f k l = some (a, b) := by
  obtain ⟨e, h⟩ := open_tot hl hb
  unfold spec_DrawDiffOf.f
  rw [e]
  simp only [Option.bind_some]
  obtain ⟨v, q, e2, v0, v1, h2⟩ := below_tot h 30
  rw [e2]
  simp only [Option.bind_some]
  obtain ⟨⟨a, b⟩, hr⟩ := drawdiff_l0 30 k q ([] : List Int) v h2 (by simp) v0 (by have := v1 (by omega); omega) (by omega)
  exact ⟨a, b, hr⟩

theorem bytesOf_append (a b : ByteArray) : bytesOf (a ++ b) = bytesOf a ++ bytesOf b := by
  unfold bytesOf
  rw [ByteArray.data_append, Array.toList_append, List.map_append]
theorem bytesOf_extract (a : ByteArray) (i j : Nat) : bytesOf (a.extract i j) = ((bytesOf a).drop i).take (j - i) := by
  unfold bytesOf
  rw [ByteArray.data_extract, Array.toList_extract, List.extract_eq_take_drop, List.map_take, List.map_drop]
theorem bytesOf_rest (a : ByteArray) (i : Nat) : bytesOf (a.extract i a.size) = (bytesOf a).drop i := by
  rw [bytesOf_extract, List.take_of_length_le]
  rw [List.length_drop, bytesOf_length]
  exact Nat.le_refl _
theorem toList_nil_iff (a : ByteArray) : a.toList = [] ↔ bytesOf a = [] := by
  rw [ByteArray.toList_eq]; unfold bytesOf; simp
theorem bt_get (a : ByteArray) (i : Nat) (h : i < a.size) : ∃ b l, (bytesOf a).drop i = b :: l ∧ bt a (i : Int) = b ∧ (bytesOf a).drop (i + 1) = l ∧ 0 ≤ b ∧ b ≤ 255 := by
  have hl : i < (bytesOf a).length := by rw [bytesOf_length]; exact h
  refine ⟨(bytesOf a)[i], (bytesOf a).drop (i + 1), List.drop_eq_getElem_cons hl, ?_, rfl, ?_⟩
  · rw [← rd_bytesOf]
    unfold rd
    rw [Int.toNat_natCast, List.getD_eq_getElem?_getD, List.getElem?_eq_getElem hl]
    rfl
  · have : ∀ x ∈ bytesOf a, 0 ≤ x ∧ x ≤ 255 := by
      intro x hx
      unfold bytesOf at hx
      obtain ⟨b, _, rfl⟩ := List.mem_map.1 hx
      have := b.toNat_lt
      omega
    exact this _ (List.getElem_mem _)

theorem bytesOf_bytes (s : ByteArray) : ∀ x ∈ bytesOf s, 0 ≤ x ∧ x < 256 := by
  intro x hx
  unfold bytesOf at hx
  obtain ⟨b, _, rfl⟩ := List.mem_map.1 hx
  have := b.toNat_lt
  omega
theorem cpy_bytes {xs ys : List Int} {lo m : Nat} (hx : ∀ x ∈ xs, 0 ≤ x ∧ x < 256) (hy : ∀ x ∈ ys, 0 ≤ x ∧ x < 256) : ∀ x ∈ cpy xs lo m ys, 0 ≤ x ∧ x < 256 := by
  intro x h
  unfold cpy at h
  rw [List.mem_append, List.mem_append] at h
  rcases h with (h | h) | h
  · exact hx x (List.mem_of_mem_take h)
  · exact hy x (List.mem_of_mem_take h)
  · exact hx x (List.mem_of_mem_drop h)
theorem cpy_get (xs ys : List Int) (lo m : Nat) (h : lo ≤ xs.length) (p : Nat) :
    (cpy xs lo m ys)[p]? = if lo ≤ p ∧ p < lo + min ys.length m then ys[p - lo]? else xs[p]? := by
  unfold cpy
  have h1 : (xs.take lo).length = lo := by rw [List.length_take]; omega
  have h2 : (xs.take lo ++ ys.take m).length = lo + min ys.length m := by rw [List.length_append, h1, List.length_take]; omega
  by_cases a : p < lo + min ys.length m
  · rw [List.getElem?_append_left (by omega)]
    by_cases b : lo ≤ p
    · rw [if_pos ⟨b, a⟩, List.getElem?_append_right (by omega), h1, List.getElem?_take, if_pos (by omega)]
    · rw [if_neg (by omega), List.getElem?_append_left (by omega), List.getElem?_take, if_pos (by omega)]
  · rw [if_neg (by omega), List.getElem?_append_right (by omega), h2, List.getElem?_drop, show lo + min ys.length m + (p - (lo + min ys.length m)) = p by omega]
theorem cpy_agree {xs ys : List Int} (hy : ys.length = xs.length) (lo m : Nat) (h : lo ≤ xs.length) (zs : List Int) (p : Nat) :
    (cpy ys lo m zs)[p]? = (cpy xs lo m zs)[p]? ∨ ((cpy ys lo m zs)[p]? = ys[p]? ∧ (cpy xs lo m zs)[p]? = xs[p]?) := by
  rw [cpy_get xs zs lo m h p, cpy_get ys zs lo m (by omega) p]
  by_cases c : lo ≤ p ∧ p < lo + min zs.length m
  · exact .inl (by rw [if_pos c, if_pos c])
  · exact .inr ⟨by rw [if_neg c], by rw [if_neg c]⟩
theorem bytesOf_strOfNums {xs : List Int} (h : ∀ x ∈ xs, 0 ≤ x ∧ x < 256) : bytesOf (strOfNums xs) = xs := by
  unfold bytesOf
  rw [strOfNums_data, List.map_map]
  conv => rhs; rw [← List.map_id xs]
  refine List.map_congr_left fun x hx => ?_
  have := h x hx
  simp only [Function.comp, id]
  rw [UInt8.toNat_ofNat']
  omega

theorem bt_range (a : ByteArray) (i : Int) : 0 ≤ bt a i ∧ bt a i < 256 := by
  unfold bt
  split
  · rename_i h
    have := (a[i.toNat]'h).toNat_lt
    omega
  · omega

/-- The number that the first i bytes tell, the high one first. -/
def big (a : ByteArray) : Nat → Int
  | 0 => 0
  | i + 1 => 256 * big a i + bt a i
theorem big_range (a : ByteArray) : ∀ i, 0 ≤ big a i ∧ big a i < 256 ^ i
  | 0 => by simp [big]
  | i + 1 => by
    have := big_range a i; have hb := bt_range a i
    simp only [big, Int.pow_succ]
    omega
theorem big_lt (a : ByteArray) (i : Nat) (hi : i ≤ 3) : 0 ≤ big a i ∧ big a i < 16777216 := by
  have h := big_range a i
  have h2 : i = 0 ∨ i = 1 ∨ i = 2 ∨ i = 3 := by omega
  rcases h2 with h2 | h2 | h2 | h2 <;> subst h2 <;> omega
theorem or_byte {x b : Int} (hx : 0 ≤ x) (hx1 : x < 16777216) (hb : 0 ≤ b) (hb1 : b < 256) : Go.bits .or .i64 (x * 256) b = 256 * x + b := by
  obtain ⟨m, rfl⟩ := Int.eq_ofNat_of_zero_le hx
  obtain ⟨n, rfl⟩ := Int.eq_ofNat_of_zero_le hb
  have := bits_or (m * 256) n (by omega) (by omega)
  rw [show ((m : Int) * 256) = ((m * 256 : Nat) : Int) by omega, this]
  have h2 : 2 ^ 8 * m + n = 2 ^ 8 * m ||| n := Nat.two_pow_add_eq_or_of_lt (by omega) m
  rw [show m * 256 ||| n = 2 ^ 8 * m + n by rw [h2, Nat.mul_comm]]
  omega
theorem bigOf_l0 (a : ByteArray) (ha : a.size ≤ 3) : ∀ (k i : Nat), i ≤ a.size → a.size - i < k → impl_bigOf.l0 k a (big a i) (a.size : Int) (i : Int) = some (big a a.size)
  | 0, i, _, h => by omega
  | k + 1, i, hi, h => by
    unfold impl_bigOf.l0
    by_cases hc : (i : Int) < (a.size : Int)
    · have hb := bt_range a i; have hg := big_lt a i (by omega)
      rw [if_pos hc, if_pos (by omega), if_pos hc, w64_in (n := big a i * 256) (by omega) (by omega), w64_in (n := bt a i) (by omega) (by omega), or_byte hg.1 hg.2 hb.1 hb.2, w64_in (n := (i : Int) + 1) (by omega) (by omega)]
      have := bigOf_l0 a ha k (i + 1) (by omega) (by omega)
      simpa only [big, Int.natCast_add, Int.natCast_one] using this
    · rw [if_neg hc, show i = a.size by omega]
theorem bigOf_eq (a : ByteArray) (ha : a.size ≤ 3) (k : Nat) (hk : a.size < k) : impl_bigOf.f k a = some (big a a.size) := by
  unfold impl_bigOf.f
  exact bigOf_l0 a ha k 0 (by omega) (by omega)

theorem prefix_eq (d : ByteArray) (h : 4 ≤ d.size) : strings_HasPrefix.f d (⟨#[68, 73, 70, 70]⟩ : ByteArray) = some ((d.extract 0 4).toList == ([68, 73, 70, 70] : List UInt8)) := by
  have hs : (⟨#[68, 73, 70, 70]⟩ : ByteArray).size = 4 := rfl
  have ht : (⟨#[68, 73, 70, 70]⟩ : ByteArray).toList = ([68, 73, 70, 70] : List UInt8) := by rw [ByteArray.toList_eq]
  unfold strings_HasPrefix.f stringslite_HasPrefix.f
  rw [hs, ht, if_pos (by omega), if_pos (by omega), if_pos (by omega)]
  rfl

/-- So many bytes of a number, the highest one first, ahead of a text. -/
def numB : Nat → Int → ByteArray → ByteArray
  | 0, _, out => out
  | j + 1, x, out => numB j (x / 256) (strOfNums [x % 256] ++ out)
theorem numB_size : ∀ (j : Nat) (x : Int) (out : ByteArray), (numB j x out).size = j + out.size
  | 0, _, out => by unfold numB; omega
  | j + 1, x, out => by
    unfold numB
    rw [numB_size j, ByteArray.size_append, strOfNums_size]
    simp only [List.length_singleton]
    omega
theorem num_T (n : Int) : ∀ (j : Nat) (x i : Int) (out : ByteArray), 0 ≤ x → x ≤ 1000000 → 0 ≤ i → i + j = n → n ≤ 8 → out.size + j ≤ 1000 → Tot (fun k => spec_l14Num.l0 k x n out i) (fun r => r = numB j x out) := by
  intro j
  induction j with
  | zero =>
    intro x i out h0 h1 h2 h3 h4 h5
    refine Tot.step (fun k => spec_l14Num.l0.eq_2 _ _ _ _ k) ?_
    exact Tot.no (by omega) (Tot.ret rfl)
  | succ j ih =>
    intro x i out h0 h1 h2 h3 h4 h5
    have hs : (strOfNums [x % 256]).size = 1 := strOfNums_size _
    refine Tot.step (fun k => spec_l14Num.l0.eq_2 _ _ _ _ k) ?_
    refine Tot.yes (by omega) (Tot.bind (Tot.of rfl rfl) ?_)
    rintro _ rfl
    refine Tot.yes (by rw [hs]; omega) ?_
    rw [Int.tdiv_eq_ediv_of_nonneg h0, w64_in (n := x / 256) (by omega) (by omega), w64_in (n := i + 1) (by omega) (by omega)]
    exact ih (x / 256) (i + 1) _ (by omega) (by omega) (by omega) (by omega) h4 (by rw [ByteArray.size_append, hs]; omega)
theorem numf_T (x : Int) (j : Nat) (h0 : 0 ≤ x) (h1 : x ≤ 1000000) (hj : j ≤ 8) : Tot (fun k => spec_l14Num.f k x (j : Int)) (fun r => r = numB j x (⟨#[]⟩ : ByteArray)) := by
  unfold spec_l14Num.f
  exact num_T (j : Int) j x 0 _ h0 h1 (by decide) (by omega) (by omega) (by show 0 + j ≤ 1000; omega)
theorem byte1_T (x : Int) : Tot (fun k => impl_bytesOf.f k x 1) (fun r => r = strOfNums [x % 256]) := by
  unfold impl_bytesOf.f
  refine Tot.step (fun k => impl_bytesOf.l0.eq_2 _ _ _ k) ?_
  refine Tot.yes (by decide) (Tot.yes (by decide) ?_)
  rw [show wrap64 (1 - 1) = 0 by decide +kernel]
  refine Tot.step (fun k => impl_bytesOf.l0.eq_2 _ _ _ k) ?_
  exact Tot.no (by decide) (Tot.ret rfl)
theorem big_T : ∀ (j : Nat) (x : Int) (out : ByteArray), j ≤ 8 → out.size + j ≤ 1000 → Tot (fun k => impl_big.l0 k x (j : Int) out) (fun r => r = numB j x out) := by
  intro j
  induction j with
  | zero =>
    intro x out h1 h2
    refine Tot.step (fun k => impl_big.l0.eq_2 _ _ _ k) ?_
    exact Tot.no (by decide) (Tot.ret rfl)
  | succ j ih =>
    intro x out h1 h2
    have hs : (strOfNums [x % 256]).size = 1 := strOfNums_size _
    refine Tot.step (fun k => impl_big.l0.eq_2 _ _ _ k) ?_
    refine Tot.yes (by omega) (Tot.bind (byte1_T x) ?_)
    rintro _ rfl
    refine Tot.yes (by rw [hs]; omega) ?_
    rw [show wrap64 (((j + 1 : Nat) : Int) - 1) = (j : Int) by rw [w64_in (by omega) (by omega)]; omega]
    exact ih (x / 256) _ (by omega) (by rw [ByteArray.size_append, hs]; omega)
theorem bigf_T (x : Int) (j : Nat) (hj : j ≤ 8) : Tot (fun k => impl_big.f k x (j : Int)) (fun r => r = numB j x (⟨#[]⟩ : ByteArray)) := by
  unfold impl_big.f
  exact big_T j x _ hj (by show 0 + j ≤ 1000; omega)
/-- Where the run of bytes that differ ends. -/
theorem run_ends (a b : ByteArray) : ∀ (d e : Nat), e + d = b.size → ∃ f : Nat, e ≤ f ∧ f ≤ b.size ∧ (∀ j : Nat, e ≤ j → j < f → dfr a b (j : Int) = true) ∧ (f = b.size ∨ (f < b.size ∧ dfr a b (f : Int) = false)) := by
  intro d
  induction d with
  | zero => intro e h; exact ⟨e, Nat.le_refl _, by omega, fun j h1 h2 => by omega, .inl (by omega)⟩
  | succ d ih =>
    intro e h
    cases hd : dfr a b (e : Int) with
    | false => exact ⟨e, Nat.le_refl _, by omega, fun j h1 h2 => by omega, .inr ⟨by omega, hd⟩⟩
    | true =>
      obtain ⟨f, h1, h2, h3, h4⟩ := ih (e + 1) (by omega)
      refine ⟨f, by omega, h2, fun j j1 j2 => ?_, h4⟩
      by_cases c : j = e
      · rw [c]; exact hd
      · exact h3 j (by omega) j2
theorem dfr_true {a b : ByteArray} {i : Int} (h : dfr a b i = true) : i ≥ (a.size : Int) ∨ bt a i ≠ bt b i := by
  unfold dfr at h
  rw [Bool.or_eq_true] at h
  rcases h with h | h
  · exact .inl (of_decide_eq_true h)
  · exact .inr (by simpa using h)
theorem dfr_false {a b : ByteArray} {i : Int} (h : dfr a b i = false) : ¬ i ≥ (a.size : Int) ∧ bt a i = bt b i := by
  unfold dfr at h
  rw [Bool.or_eq_false_iff] at h
  exact ⟨of_decide_eq_false h.1, by simpa using h.2⟩
theorem spec_run (a b out : ByteArray) (hb : b.size ≤ 20000) (at_ : Int) (f : Nat) (hf : f ≤ b.size) (he : f = b.size ∨ (f < b.size ∧ dfr a b (f : Int) = false)) (P : ByteArray × Bool → Prop)
    (h : Tot (fun k => spec_DiffOf.j3 k a b out at_ (f : Int)) P) : ∀ (m e : Nat), e + m = f → (∀ j : Nat, e ≤ j → j < f → dfr a b (j : Int) = true) → Tot (fun k => spec_DiffOf.l1 k a b out at_ (e : Int)) P := by
  intro m
  induction m with
  | zero =>
    intro e hm hr
    have hef : e = f := by omega
    subst hef
    refine Tot.step (fun k => spec_DiffOf.l1.eq_2 _ _ _ _ _ k) ?_
    rcases he with he | ⟨he, hd⟩
    · exact Tot.no (by omega) h
    · have := dfr_false hd
      exact Tot.yes (by omega) (Tot.no this.1 (Tot.yes (by omega) (Tot.yes (by omega) (Tot.yes this.2 h))))
  | succ m ih =>
    intro e hm hr
    have next : Tot (fun k => spec_DiffOf.l1 k a b out at_ (wrap64 ((e : Int) + 1))) P := by
      rw [w64_in (n := (e : Int) + 1) (by omega) (by omega)]
      exact ih (e + 1) (by omega) (fun j j1 j2 => hr j (by omega) j2)
    refine Tot.step (fun k => spec_DiffOf.l1.eq_2 _ _ _ _ _ k) ?_
    refine Tot.yes (by omega) (Tot.ite (fun _ => next) (fun c => ?_))
    rcases dfr_true (hr e (Nat.le_refl _) (by omega)) with h1 | h1
    · exact absurd h1 c
    · exact Tot.yes (by omega) (Tot.yes (by omega) (Tot.no h1 next))
theorem impl_run (a b : ByteArray) (hb : b.size ≤ 20000) (at_ f : Nat) (hf : f ≤ b.size) (he : f = b.size ∨ (f < b.size ∧ dfr a b (f : Int) = false)) :
    ∀ (m e : Nat), at_ ≤ e → e + m = f → (∀ j : Nat, e ≤ j → j < f → dfr a b (j : Int) = true) → Tot (fun k => impl_DiffOf.l1 k a b (at_ : Int) ((e : Int) - at_)) (fun r => r = (f : Int) - at_) := by
  intro m
  induction m with
  | zero =>
    intro e h0 hm hr
    have hef : e = f := by omega
    subst hef
    refine Tot.step (fun k => impl_DiffOf.l1.eq_2 _ _ _ _ k) ?_
    rw [show (at_ : Int) + ((e : Int) - at_) = e by omega]
    rcases he with he | ⟨he, hd⟩
    · exact Tot.no (by omega) (Tot.ret rfl)
    · exact Tot.yes (by omega) (Tot.no (by rw [hd]; decide) (Tot.ret rfl))
  | succ m ih =>
    intro e h0 hm hr
    refine Tot.step (fun k => impl_DiffOf.l1.eq_2 _ _ _ _ k) ?_
    rw [show (at_ : Int) + ((e : Int) - at_) = e by omega]
    refine Tot.yes (by omega) (Tot.yes (hr e (Nat.le_refl _) (by omega)) ?_)
    rw [show (e : Int) - at_ + 1 = ((e + 1 : Nat) : Int) - at_ by omega]
    exact ih (e + 1) (by omega) (by omega) (fun j j1 j2 => hr j (by omega) j2)
/-- The end of both. -/
def endV (b out : ByteArray) : ByteArray × Bool := ((out ++ (⟨#[69, 78, 68]⟩ : ByteArray)) ++ numB 3 (b.size : Int) (⟨#[]⟩ : ByteArray), true)
theorem spec_end (a b out : ByteArray) (hb : b.size ≤ 20000) (ho : out.size ≤ 200000) : Tot (fun k => spec_DiffOf.l0 k a b out (b.size : Int)) (fun r => r = endV b out) := by
  have e3 : (⟨#[69, 78, 68]⟩ : ByteArray).size = 3 := rfl
  refine Tot.step (fun k => spec_DiffOf.l0.eq_2 _ _ _ _ k) ?_
  refine Tot.no (by omega) (Tot.yes (by omega) (Tot.bind (numf_T (b.size : Int) 3 (by omega) (by omega) (by decide)) ?_))
  rintro _ rfl
  have hn := numB_size 3 (b.size : Int) (⟨#[]⟩ : ByteArray)
  have h0 : (⟨#[]⟩ : ByteArray).size = 0 := rfl
  exact Tot.yes (by rw [ByteArray.size_append, e3, hn, h0]; omega) (Tot.ret rfl)
theorem impl_end (a b out : ByteArray) (hb : b.size ≤ 20000) (ho : out.size ≤ 200000) (x : Int) (hx : (b.size : Int) ≤ x) : Tot (fun k => impl_DiffOf.l0 k a b out x) (fun r => r = endV b out) := by
  have e3 : (⟨#[69, 78, 68]⟩ : ByteArray).size = 3 := rfl
  refine Tot.step (fun k => impl_DiffOf.l0.eq_2 _ _ _ _ k) ?_
  refine Tot.no (by omega) (Tot.bind (bigf_T (b.size : Int) 3 (by decide)) ?_)
  rintro _ rfl
  have hn := numB_size 3 (b.size : Int) (⟨#[]⟩ : ByteArray)
  have h0 : (⟨#[]⟩ : ByteArray).size = 0 := rfl
  exact Tot.yes (by rw [hn, h0]; omega) (Tot.ret (by unfold endV; rw [ByteArray.append_assoc]))
theorem diff_both (a b : ByteArray) (hb : b.size ≤ 20000) : ∀ (d at_ : Nat) (out : ByteArray), at_ + d = b.size → out.size ≤ 4 + 6 * at_ →
    ∃ v, Tot (fun k => spec_DiffOf.l0 k a b out (at_ : Int)) (fun r => r = v) ∧ Tot (fun k => impl_DiffOf.l0 k a b out (at_ : Int)) (fun r => r = v) := by
  intro d
  induction d using Nat.strongRecOn with
  | _ d ih =>
    intro at_ out hd ho
    by_cases c : at_ = b.size
    · subst c
      exact ⟨endV b out, spec_end a b out hb (by omega), impl_end a b out hb (by omega) _ (by omega)⟩
    obtain ⟨f, f1, f2, f3, f4⟩ := run_ends a b d at_ hd
    have hi := impl_run a b hb at_ f f2 f4 (f - at_) at_ (Nat.le_refl _) (by omega) f3
    rw [show (at_ : Int) - at_ = 0 by omega] at hi
    by_cases c2 : f = at_
    · subst c2
      obtain ⟨v, v1, v2⟩ := ih (d - 1) (by omega) (f + 1) out (by omega) (by omega)
      refine ⟨v, ?_, ?_⟩
      · refine Tot.step (fun k => spec_DiffOf.l0.eq_2 _ _ _ _ k) (Tot.yes (by omega) ?_)
        refine spec_run a b out hb _ f f2 f4 _ ?_ 0 f (by omega) f3
        refine Tot.step (fun k => spec_DiffOf.j3.eq_2 _ _ _ _ _ k) (Tot.yes rfl ?_)
        rw [w64_in (n := (f : Int) + 1) (by omega) (by omega)]
        exact v1
      · refine Tot.step (fun k => impl_DiffOf.l0.eq_2 _ _ _ _ k) (Tot.yes (by omega) (Tot.bind hi ?_))
        intro q hq
        rw [show q = _ from hq]
        refine Tot.no (by omega) ?_
        rw [show (f : Int) + ((f : Int) - f + 1) = ((f + 1 : Nat) : Int) by omega]
        exact v2
    -- a region of bytes that differ
    have h0 : (⟨#[]⟩ : ByteArray).size = 0 := rfl
    have s3 := numB_size 3 (at_ : Int) (⟨#[]⟩ : ByteArray)
    have s2 := numB_size 2 ((f : Int) - at_) (⟨#[]⟩ : ByteArray)
    have sx : (b.extract at_ f).size = f - at_ := by rw [ByteArray.size_extract]; omega
    obtain ⟨out2, hout2⟩ : ∃ o, ((out ++ numB 3 (at_ : Int) (⟨#[]⟩ : ByteArray)) ++ numB 2 ((f : Int) - at_) (⟨#[]⟩ : ByteArray)) ++ b.extract at_ f = o := ⟨_, rfl⟩
    have so : out2.size = out.size + 3 + 2 + (f - at_) := by
      rw [← hout2, ByteArray.size_append, ByteArray.size_append, ByteArray.size_append, s3, s2, sx, h0]
    have key : ∃ v, Tot (fun k => spec_DiffOf.l0 k a b out2 (f : Int)) (fun r => r = v) ∧ Tot (fun k => impl_DiffOf.l0 k a b out2 ((f : Int) + 1)) (fun r => r = v) := by
      rcases f4 with f4 | ⟨f4, f5⟩
      · subst f4
        exact ⟨endV b out2, spec_end a b out2 hb (by omega), impl_end a b out2 hb (by omega) _ (by omega)⟩
      · obtain ⟨v, v1, v2⟩ := ih (d - (f - at_) - 1) (by omega) (f + 1) out2 (by omega) (by omega)
        refine ⟨v, ?_, v2⟩
        refine Tot.step (fun k => spec_DiffOf.l0.eq_2 _ _ _ _ k) (Tot.yes (by omega) ?_)
        refine spec_run a b out2 hb _ f f2 (.inr ⟨f4, f5⟩) _ ?_ 0 f (by omega) (fun j j1 j2 => by omega)
        refine Tot.step (fun k => spec_DiffOf.j3.eq_2 _ _ _ _ _ k) (Tot.yes rfl ?_)
        rw [w64_in (n := (f : Int) + 1) (by omega) (by omega)]
        exact v1
    obtain ⟨v, v1, v2⟩ := key
    refine ⟨v, ?_, ?_⟩
    · refine Tot.step (fun k => spec_DiffOf.l0.eq_2 _ _ _ _ k) (Tot.yes (by omega) ?_)
      refine spec_run a b out hb _ f f2 f4 _ ?_ (f - at_) at_ (by omega) f3
      refine Tot.step (fun k => spec_DiffOf.j3.eq_2 _ _ _ _ _ k) (Tot.no (by omega) ?_)
      refine Tot.bind (numf_T (at_ : Int) 3 (by omega) (by omega) (by decide)) ?_
      rintro _ rfl
      refine Tot.yes (by rw [s3, h0]; omega) ?_
      rw [w64_in (n := (f : Int) - at_) (by omega) (by omega)]
      refine Tot.bind (numf_T ((f : Int) - at_) 2 (by omega) (by omega) (by decide)) ?_
      rintro _ rfl
      rw [Int.toNat_natCast, Int.toNat_natCast, hout2]
      exact Tot.yes (by rw [ByteArray.size_append, s3, s2, h0]; omega) (Tot.yes (by omega) (Tot.yes (by omega) (Tot.yes (by omega) (Tot.yes (by rw [ByteArray.size_append, ByteArray.size_append, s3, s2, sx, h0]; omega) v1))))
    · refine Tot.step (fun k => impl_DiffOf.l0.eq_2 _ _ _ _ k) (Tot.yes (by omega) (Tot.bind hi ?_))
      intro q hq
      rw [show q = _ from hq]
      refine Tot.yes (by omega) ?_
      refine Tot.bind (bigf_T (at_ : Int) 3 (by decide)) ?_
      rintro _ rfl
      refine Tot.bind (bigf_T ((f : Int) - at_) 2 (by decide)) ?_
      rintro _ rfl
      refine Tot.yes (by rw [s3, s2, h0]; omega) ?_
      rw [show (at_ : Int) + ((f : Int) - at_) = f by omega, show (at_ : Int) + ((f : Int) - at_ + 1) = (f : Int) + 1 by omega, Int.toNat_natCast, Int.toNat_natCast, ← ByteArray.append_assoc, ← ByteArray.append_assoc, hout2]
      exact v2
theorem diff_T (a b : ByteArray) : ∃ v, Tot (fun k => spec_DiffOf.f k a b) (fun r => r = v) ∧ Tot (fun k => impl_DiffOf.f k a b) (fun r => r = v) ∧ ((v = ((⟨#[]⟩ : ByteArray), false)) ∨ (a.size ≤ 20000 ∧ b.size ≤ 20000 ∧ Tot (fun k => impl_DiffOf.l0 k a b (⟨#[68, 73, 70, 70]⟩ : ByteArray) 0) (fun r => r = v))) := by
  have no : Tot (fun k => spec_DiffOf.j0 k a b true) (fun r => r = ((⟨#[]⟩ : ByteArray), false)) := Tot.step (fun k => spec_DiffOf.j0.eq_2 _ _ _ k) (Tot.yes rfl (Tot.ret rfl))
  unfold spec_DiffOf.f impl_DiffOf.f
  by_cases h1 : (a.size : Int) > 20000
  · exact ⟨_, Tot.yes h1 no, Tot.yes h1 (Tot.ret rfl), .inl rfl⟩
  by_cases h2 : (b.size : Int) > 20000
  · refine ⟨_, Tot.no h1 ?_, Tot.no h1 (Tot.yes h2 (Tot.ret rfl)), .inl rfl⟩
    rw [decide_eq_true h2]; exact no
  obtain ⟨v, v1, v2⟩ := diff_both a b (by omega) b.size 0 (⟨#[68, 73, 70, 70]⟩ : ByteArray) (by omega) (by show 4 ≤ 4 + 6 * 0; omega)
  refine ⟨v, Tot.no h1 ?_, Tot.no h1 (Tot.no h2 v2), .inr ⟨by omega, by omega, v2⟩⟩
  rw [decide_eq_false h2]
  exact Tot.step (fun k => spec_DiffOf.j0.eq_2 _ _ _ k) (Tot.no (by decide) v1)

theorem bt_at (a : ByteArray) (j : Int) : bt a j = (bytesOf a).getD j.toNat 0 := by
  rw [← rd_bytesOf]; rfl
theorem str_bytes (s : ByteArray) : strOfNums (bytesOf s) = s := by
  apply ByteArray.ext
  apply Array.toList_inj.1
  rw [strOfNums_data]
  unfold bytesOf
  rw [List.map_map]
  conv => rhs; rw [← List.map_id s.data.toList]
  refine List.map_congr_left fun x _ => ?_
  simp
theorem ext_b {s t : ByteArray} (h : bytesOf s = bytesOf t) : s = t := by rw [← str_bytes s, ← str_bytes t, h]
theorem tk {l m : List Int} {n : Nat} (h : l.length = n) : (l ++ m).take n = l := by subst h; simp
theorem dr {l m : List Int} {n : Nat} (h : l.length = n) : (l ++ m).drop n = m := by subst h; simp
theorem get_bt {s : ByteArray} {i : Nat} (h : i < s.size) : (bytesOf s)[i]? = some (bt s (i : Int)) := by
  have hl : i < (bytesOf s).length := by rw [bytesOf_length]; exact h
  rw [bt_at, Int.toNat_natCast, List.getD_eq_getElem?_getD, List.getElem?_eq_getElem hl]
  rfl
theorem one_bytes (y : Int) : bytesOf (strOfNums [y % 256]) = [y % 256] := bytesOf_strOfNums (by intro x hx; rw [List.mem_singleton] at hx; omega)
theorem num3 (x : Int) : bytesOf (numB 3 x (⟨#[]⟩ : ByteArray)) = [x / 256 / 256 % 256, x / 256 % 256, x % 256] := by
  unfold numB numB numB numB
  rw [bytesOf_append, bytesOf_append, bytesOf_append, one_bytes, one_bytes, one_bytes]
  rfl
theorem num2 (x : Int) : bytesOf (numB 2 x (⟨#[]⟩ : ByteArray)) = [x / 256 % 256, x % 256] := by
  unfold numB numB numB
  rw [bytesOf_append, bytesOf_append, one_bytes, one_bytes]
  rfl
theorem size_b {s : ByteArray} {l : List Int} (h : bytesOf s = l) : s.size = l.length := by rw [← h, bytesOf_length]
theorem bigOf3_T {s : ByteArray} {x : Int} (h : bytesOf s = [x / 256 / 256 % 256, x / 256 % 256, x % 256]) (h0 : 0 ≤ x) (h1 : x < 16777216) : Tot (fun k => impl_bigOf.f k s) (fun r => r = x) := by
  have hs : s.size = 3 := size_b h
  refine ⟨4, x, rfl, fun k hk => ?_⟩
  show impl_bigOf.f k s = some x
  have e0 : bt s 0 = x / 256 / 256 % 256 := by rw [bt_at, h]; rfl
  have e1 : bt s 1 = x / 256 % 256 := by rw [bt_at, h]; rfl
  have e2 : bt s 2 = x % 256 := by rw [bt_at, h]; rfl
  have e : big s 3 = 256 * (256 * (256 * 0 + bt s 0) + bt s 1) + bt s 2 := rfl
  rw [bigOf_eq s (by omega) k (by omega), hs, e, e0, e1, e2]
  congr 1
  omega
theorem bigOf2_T {s : ByteArray} {x : Int} (h : bytesOf s = [x / 256 % 256, x % 256]) (h0 : 0 ≤ x) (h1 : x < 65536) : Tot (fun k => impl_bigOf.f k s) (fun r => r = x) := by
  have hs : s.size = 2 := size_b h
  refine ⟨4, x, rfl, fun k hk => ?_⟩
  show impl_bigOf.f k s = some x
  have e0 : bt s 0 = x / 256 % 256 := by rw [bt_at, h]; rfl
  have e1 : bt s 1 = x % 256 := by rw [bt_at, h]; rfl
  have e : big s 2 = 256 * (256 * 0 + bt s 0) + bt s 1 := rfl
  rw [bigOf_eq s (by omega) k (by omega), hs, e, e0, e1]
  congr 1
  omega
/-- What a list holds ahead of place f is b's; from there on, as far as a reaches, a's. -/
def Held (a b : ByteArray) (f : Nat) (xs : List Int) : Prop :=
  xs.length = b.size ∧ (∀ x ∈ xs, 0 ≤ x ∧ x < 256) ∧ (∀ p : Nat, p < f → xs[p]? = (bytesOf b)[p]?) ∧ (∀ p : Nat, f ≤ p → p < b.size → p < a.size → xs[p]? = (bytesOf a)[p]?)
theorem Held.next {a b : ByteArray} {f : Nat} {xs : List Int} (h : Held a b f xs) (hf : f < b.size) (hd : dfr a b (f : Int) = false) : Held a b (f + 1) xs := by
  obtain ⟨h1, h2, h3, h4⟩ := h
  have := dfr_false hd
  refine ⟨h1, h2, fun p hp => ?_, fun p hp => h4 p (by omega)⟩
  by_cases c : p = f
  · subst c
    rw [h4 p (Nat.le_refl _) hf (by omega), get_bt hf, get_bt (show p < a.size by omega), this.2]
  · exact h3 p (by omega)
theorem Held.done {a b : ByteArray} {xs : List Int} (h : Held a b b.size xs) : strOfNums xs = b := by
  obtain ⟨h1, h2, h3, h4⟩ := h
  have : xs = bytesOf b := by
    apply List.ext_getElem?
    intro p
    by_cases c : p < b.size
    · exact h3 p c
    · rw [List.getElem?_eq_none (by omega), List.getElem?_eq_none (by rw [bytesOf_length]; omega)]
  rw [this, str_bytes]
theorem regions (a b : ByteArray) (ha : a.size ≤ 20000) (hb : b.size ≤ 20000) : ∀ (d at_ : Nat), at_ + d = b.size → ∃ R : ByteArray, R.size ≤ 3 * d + 3 ∧ ((∀ p : Nat, p < b.size → dfr a b (p : Int) = false) → R.size = 0) ∧
    (∀ out : ByteArray, out.size + 6 * d ≤ 190000 → Tot (fun k => impl_DiffOf.l0 k a b out (at_ : Int)) (fun r => r = endV b (out ++ R))) ∧
    (∀ (xs : List Int) (last : Int), 0 ≤ last → last ≤ at_ → Held a b at_ xs → Tot (fun k => impl_Applied.l0 k R (b.size : Int) xs last) (fun r => r = (b, true))) := by
  have h0 : (⟨#[]⟩ : ByteArray).size = 0 := rfl
  have ap0 : ∀ s : ByteArray, s ++ (⟨#[]⟩ : ByteArray) = s := fun s => ext_b (by rw [bytesOf_append]; show bytesOf s ++ [] = _; rw [List.append_nil])
  have fin : ∀ (xs : List Int) (last : Int), Held a b b.size xs → Tot (fun k => impl_Applied.l0 k (⟨#[]⟩ : ByteArray) (b.size : Int) xs last) (fun r => r = (b, true)) := by
    intro xs last h
    refine Tot.step (fun k => impl_Applied.l0.eq_2 _ _ _ _ k) ?_
    exact Tot.yes (by rw [ByteArray.toList_eq]) (Tot.ret (by rw [h.done]))
  intro d
  induction d using Nat.strongRecOn with
  | _ d ih =>
    intro at_ hd
    by_cases c : at_ = b.size
    · subst c
      refine ⟨(⟨#[]⟩ : ByteArray), by rw [h0]; omega, fun _ => h0, fun out ho => ?_, fun xs last _ _ h => fin xs last h⟩
      rw [ap0]
      exact impl_end a b out hb (by omega) _ (by omega)
    obtain ⟨f, f1, f2, f3, f4⟩ := run_ends a b d at_ hd
    have hi := impl_run a b hb at_ f f2 f4 (f - at_) at_ (Nat.le_refl _) (by omega) f3
    rw [show (at_ : Int) - at_ = 0 by omega] at hi
    by_cases c2 : f = at_
    · subst c2
      have hdf : dfr a b (f : Int) = false := by
        rcases f4 with f4 | f4
        · exact absurd f4 c
        · exact f4.2
      obtain ⟨R, r1, r2, r3, r4⟩ := ih (d - 1) (by omega) (f + 1) (by omega)
      refine ⟨R, by omega, r2, fun out ho => ?_, fun xs last l0 l1 h => r4 xs last l0 (by omega) (h.next (by omega) hdf)⟩
      refine Tot.step (fun k => impl_DiffOf.l0.eq_2 _ _ _ _ k) (Tot.yes (by omega) (Tot.bind hi ?_))
      intro q hq
      rw [show q = _ from hq]
      refine Tot.no (by omega) ?_
      rw [show (f : Int) + ((f : Int) - f + 1) = ((f + 1 : Nat) : Int) by omega]
      exact r3 out (by omega)
    have key : ∃ R : ByteArray, R.size ≤ 3 * (d - (f - at_)) ∧ (∀ out : ByteArray, out.size + 6 * (d - (f - at_)) ≤ 190006 → Tot (fun k => impl_DiffOf.l0 k a b out ((f : Int) + 1)) (fun r => r = endV b (out ++ R))) ∧
        (∀ (xs : List Int) (last : Int), 0 ≤ last → last ≤ f → Held a b f xs → Tot (fun k => impl_Applied.l0 k R (b.size : Int) xs last) (fun r => r = (b, true))) := by
      rcases f4 with f4 | ⟨f4, f5⟩
      · subst f4
        refine ⟨(⟨#[]⟩ : ByteArray), by rw [h0]; omega, fun out ho => ?_, fun xs last _ _ h => fin xs last h⟩
        rw [ap0]
        exact impl_end a b out hb (by omega) _ (by omega)
      · obtain ⟨R, r1, r2, r3, r4⟩ := ih (d - (f - at_) - 1) (by omega) (f + 1) (by omega)
        refine ⟨R, by omega, fun out ho => ?_, fun xs last l0 l1 h => r4 xs last l0 (by omega) (h.next f4 f5)⟩
        exact r3 out (by omega)
    obtain ⟨R', r1, r3, r4⟩ := key
    have s3 := numB_size 3 (at_ : Int) (⟨#[]⟩ : ByteArray)
    have s2 := numB_size 2 ((f : Int) - at_) (⟨#[]⟩ : ByteArray)
    have sx : (b.extract at_ f).size = f - at_ := by rw [ByteArray.size_extract]; omega
    have n3 := num3 (at_ : Int)
    have n2 := num2 ((f : Int) - at_)
    have nx : bytesOf (b.extract at_ f) = ((bytesOf b).drop at_).take (f - at_) := bytesOf_extract b at_ f
    generalize hN3 : numB 3 (at_ : Int) (⟨#[]⟩ : ByteArray) = N3 at s3 n3
    generalize hN2 : numB 2 ((f : Int) - at_) (⟨#[]⟩ : ByteArray) = N2 at s2 n2
    generalize hNx : b.extract at_ f = X at sx nx
    refine ⟨((N3 ++ N2) ++ X) ++ R', ?_, ?_, ?_, ?_⟩
    · rw [ByteArray.size_append, ByteArray.size_append, ByteArray.size_append, s3, s2, sx, h0]; omega
    · intro hz
      have := f3 at_ (Nat.le_refl _) (by omega)
      rw [hz at_ (by omega)] at this
      cases this
    · intro out ho
      refine Tot.step (fun k => impl_DiffOf.l0.eq_2 _ _ _ _ k) (Tot.yes (by omega) (Tot.bind hi ?_))
      intro q hq
      rw [show q = _ from hq]
      refine Tot.yes (by omega) ?_
      refine Tot.bind (bigf_T (at_ : Int) 3 (by decide)) ?_
      rintro _ rfl
      refine Tot.bind (bigf_T ((f : Int) - at_) 2 (by decide)) ?_
      rintro _ rfl
      rw [hN3, hN2]
      refine Tot.yes (by rw [s3, s2, h0]; omega) ?_
      rw [show (at_ : Int) + ((f : Int) - at_) = f by omega, show (at_ : Int) + ((f : Int) - at_ + 1) = (f : Int) + 1 by omega, Int.toNat_natCast, Int.toNat_natCast, hNx]
      have z := r3 (out ++ ((N3 ++ N2) ++ X)) (by rw [ByteArray.size_append, ByteArray.size_append, ByteArray.size_append, s3, s2, sx, h0]; omega)
      rw [show (out ++ ((N3 ++ N2) ++ X)) ++ R' = out ++ (((N3 ++ N2) ++ X) ++ R') from ByteArray.append_assoc] at z
      exact z
    · intro xs last l0 l1 h
      have hR : bytesOf (((N3 ++ N2) ++ X) ++ R') = bytesOf N3 ++ (bytesOf N2 ++ (bytesOf X ++ bytesOf R')) := by
        rw [bytesOf_append, bytesOf_append, bytesOf_append, List.append_assoc, List.append_assoc]
      have hRs : (((N3 ++ N2) ++ X) ++ R').size = 5 + (f - at_) + R'.size := by
        rw [ByteArray.size_append, ByteArray.size_append, ByteArray.size_append, s3, s2, sx, h0]
      generalize ((N3 ++ N2) ++ X) ++ R' = R at hR hRs
      have l3 : (bytesOf N3).length = 3 := by rw [n3]; rfl
      have l2 : (bytesOf N2).length = 2 := by rw [n2]; rfl
      have lx : (bytesOf X).length = f - at_ := by rw [bytesOf_length]; exact sx
      have q1 : bytesOf (R.extract 0 3) = bytesOf N3 := by rw [bytesOf_extract, hR, List.drop_zero, Nat.sub_zero, tk l3]
      have q2 : bytesOf (R.extract 3 5) = bytesOf N2 := by rw [bytesOf_extract, hR, dr l3, tk l2]
      have q3 : bytesOf (R.extract 5 R.size) = bytesOf X ++ bytesOf R' := by
        rw [bytesOf_rest, hR, ← List.append_assoc, dr (by rw [List.length_append, l3, l2])]
      have q4 : (R.extract 5 R.size).size = (f - at_) + R'.size := by rw [ByteArray.size_extract]; omega
      obtain ⟨Z, hZ⟩ : ∃ Z, R.extract 5 R.size = Z := ⟨_, rfl⟩
      rw [hZ] at q3 q4
      have q5 : bytesOf (Z.extract 0 (f - at_)) = bytesOf X := by rw [bytesOf_extract, q3, List.drop_zero, Nat.sub_zero, tk lx]
      have q6 : Z.extract (f - at_) Z.size = R' := ext_b (by rw [bytesOf_rest, q3, dr lx])
      obtain ⟨g1, g2, g3, g4⟩ := h
      refine Tot.step (fun k => impl_Applied.l0.eq_2 _ _ _ _ k) ?_
      refine Tot.no (by
        intro e
        have : bytesOf R = [] := by unfold bytesOf; rw [ByteArray.toList_eq] at e; rw [e]; rfl
        have this : R.size = 0 := size_b this
        omega) (Tot.no (by omega) (Tot.yes (by decide) (Tot.yes (by omega) ?_)))
      refine Tot.bind (bigOf3_T (q1.trans n3) (by omega) (by omega)) ?_
      rintro _ rfl
      refine Tot.yes (by decide) (Tot.yes (by omega) ?_)
      refine Tot.bind (bigOf2_T (q2.trans n2) (by omega) (by omega)) ?_
      rintro _ rfl
      rw [w64_in (n := (at_ : Int) + ((f : Int) - at_)) (by omega) (by omega), show (at_ : Int) + ((f : Int) - at_) = f by omega, show ((f : Int) - at_).toNat = f - at_ by omega, Int.toNat_natCast, hZ, q5, q6]
      refine Tot.no (by omega) (Tot.no (by omega) (Tot.no (by omega) (Tot.no (by omega) (Tot.yes (by omega) (Tot.yes (by omega) (Tot.yes (by omega) (Tot.yes (by omega) ?_)))))))
      refine r4 _ _ (by omega) (by omega) ⟨?_, ?_, ?_, ?_⟩
      · rw [cpy_length (by omega)]; exact g1
      · exact cpy_bytes g2 (bytesOf_bytes X)
      · intro p hp
        rw [cpy_get _ _ _ _ (by omega), lx, g1]
        by_cases c5 : at_ ≤ p
        · rw [if_pos (by omega), nx, List.getElem?_take, if_pos (by omega), List.getElem?_drop, show at_ + (p - at_) = p by omega]
        · rw [if_neg (by omega)]; exact g3 p (by omega)
      · intro p hp hp2 hp3
        rw [cpy_get _ _ _ _ (by omega), lx, g1, if_neg (by omega)]
        exact g4 p (by omega) hp2 hp3
theorem diff_applied (a b : ByteArray) (ha : a.size ≤ 20000) (hb : b.size ≤ 20000) : ∃ d : ByteArray, Tot (fun k => impl_DiffOf.f k a b) (fun r => r = (d, true)) ∧ Tot (fun k => impl_Applied.f k a d) (fun r => r = (b, true)) ∧ ((∀ p : Nat, p < b.size → dfr a b (p : Int) = false) → d.size = 10) := by
  obtain ⟨R, r1, r2, r3, r4⟩ := regions a b ha hb b.size 0 (by omega)
  have s3 := numB_size 3 (b.size : Int) (⟨#[]⟩ : ByteArray)
  have h0 : (⟨#[]⟩ : ByteArray).size = 0 := rfl
  have hD : (⟨#[68, 73, 70, 70]⟩ : ByteArray).size = 4 := rfl
  have hE : (⟨#[69, 78, 68]⟩ : ByteArray).size = 3 := rfl
  have n3 := num3 (b.size : Int)
  obtain ⟨D, hDv⟩ : ∃ D, (((⟨#[68, 73, 70, 70]⟩ : ByteArray) ++ R) ++ (⟨#[69, 78, 68]⟩ : ByteArray)) ++ numB 3 (b.size : Int) (⟨#[]⟩ : ByteArray) = D := ⟨_, rfl⟩
  have hs : D.size = R.size + 10 := by
    rw [← hDv, ByteArray.size_append, ByteArray.size_append, ByteArray.size_append, s3, h0, hD, hE]; omega
  have hDb : bytesOf D = bytesOf (⟨#[68, 73, 70, 70]⟩ : ByteArray) ++ (bytesOf R ++ (bytesOf (⟨#[69, 78, 68]⟩ : ByteArray) ++ bytesOf (numB 3 (b.size : Int) (⟨#[]⟩ : ByteArray)))) := by
    rw [← hDv, bytesOf_append, bytesOf_append, bytesOf_append, List.append_assoc, List.append_assoc]
  have lD : (bytesOf (⟨#[68, 73, 70, 70]⟩ : ByteArray)).length = 4 := rfl
  have lE : (bytesOf (⟨#[69, 78, 68]⟩ : ByteArray)).length = 3 := rfl
  have lR : (bytesOf R).length = R.size := bytesOf_length R
  refine ⟨D, ?_, ?_, fun hz => by rw [hs, r2 hz]⟩
  · unfold impl_DiffOf.f
    refine Tot.no (by omega) (Tot.no (by omega) ((r3 (⟨#[68, 73, 70, 70]⟩ : ByteArray) (by rw [hD]; omega)).mono fun x hx => ?_))
    rw [show x = _ from hx]
    unfold endV
    rw [hDv]
  · have x4 : D.extract 0 4 = (⟨#[68, 73, 70, 70]⟩ : ByteArray) := ext_b (by rw [bytesOf_extract, hDb, List.drop_zero, Nat.sub_zero, tk lD])
    have xR : D.extract 4 (D.size - 6) = R := ext_b (by rw [bytesOf_extract, hDb, dr lD, tk (by omega)])
    have xE : D.extract (D.size - 6) (D.size - 3) = (⟨#[69, 78, 68]⟩ : ByteArray) := ext_b (by
      rw [bytesOf_extract, hDb, ← List.append_assoc, dr (by rw [List.length_append, lD, lR]; omega), tk (by rw [lE]; omega)])
    have xN : bytesOf (D.extract (D.size - 3) D.size) = bytesOf (numB 3 (b.size : Int) (⟨#[]⟩ : ByteArray)) := by
      rw [bytesOf_rest, hDb, ← List.append_assoc, ← List.append_assoc, dr (by rw [List.length_append, List.length_append, lD, lR, lE]; omega)]
    have e6 : wrap64 ((D.size : Int) - 6) = (D.size : Int) - 6 := w64_in (by omega) (by omega)
    have e3 : wrap64 ((D.size : Int) - 3) = (D.size : Int) - 3 := w64_in (by omega) (by omega)
    have t6 : ((D.size : Int) - 6).toNat = D.size - 6 := by omega
    have t3 : ((D.size : Int) - 3).toNat = D.size - 3 := by omega
    unfold impl_Applied.f
    refine Tot.no (by omega) (Tot.bind (Tot.of (show impl_within.f (D.size : Int) 10 80000 = some true by unfold impl_within.f; rw [if_pos (by omega)]; exact congrArg some (decide_eq_true (by omega))) rfl) ?_)
    rintro _ rfl
    refine Tot.yes rfl (Tot.bind (Tot.of (prefix_eq D (by omega)) rfl) ?_)
    rintro _ rfl
    rw [x4, e6, e3, t6, t3, xE]
    refine Tot.yes (by rw [ByteArray.toList_eq]; rfl) (Tot.yes (by omega) (Tot.yes (by omega) (Tot.yes (by omega) ?_)))
    rw [show ((⟨#[69, 78, 68]⟩ : ByteArray).toList != ([69, 78, 68] : List UInt8)) = false by rw [ByteArray.toList_eq]; rfl]
    refine Tot.step (fun k => impl_Applied.j0.eq_2 _ _ _ k) ?_
    rw [e6, e3, t6, t3]
    refine Tot.no (by decide) (Tot.yes (by omega) (Tot.yes (by omega) (Tot.bind (bigOf3_T (xN.trans n3) (by omega) (by omega)) ?_)))
    rintro _ rfl
    refine Tot.no (by omega) (Tot.yes (by omega) (Tot.yes (by omega) (Tot.bind (Tot.of rfl rfl) ?_)))
    rintro _ rfl
    rw [xR, Int.toNat_natCast, List.length_replicate]
    refine Tot.yes (by omega) (Tot.yes (by omega) ?_)
    have hrep : ∀ x ∈ List.replicate b.size (0 : Int), 0 ≤ x ∧ x < 256 := by
      intro x hx
      rw [List.eq_of_mem_replicate hx]; omega
    refine r4 _ 0 (by omega) (by omega) ⟨?_, ?_, fun p hp => by omega, ?_⟩
    · rw [cpy_length (by rw [List.length_replicate]; omega), List.length_replicate]
    · exact cpy_bytes hrep (bytesOf_bytes a)
    · intro p _ hp hp2
      have hl : (List.replicate b.size (0 : Int)).length = b.size := List.length_replicate
      rw [cpy_get _ _ _ _ (by omega), bytesOf_length, if_pos (by omega), Nat.sub_zero]

theorem FnDiffs : laws_FnDiffs.Pure := by
  intro l _ _ hw
  refine Tot.done ?_
  unfold laws_FnDiffs.f laws_big.f
  refine Tot.bind (Tot.of rfl rfl) ?_
  rintro _ rfl
  refine Tot.ite (fun _ => Tot.ret rfl) (fun hbig => ?_)
  obtain ⟨a, b, hab⟩ := drawdiff_tot (l := l) (by simp at hbig; omega) (bytes_wf hw) 60 (Nat.le_refl _)
  refine Tot.bind (Tot.lift (fun k => spec_DrawDiffOf.mono _ k) hab rfl) ?_
  rintro _ rfl
  obtain ⟨v, h1, h2, hv⟩ := diff_T a b
  refine Tot.bind h2 ?_
  intro q hq
  rw [show q = v from hq]
  refine Tot.bind h1 ?_
  intro q hq
  rw [show q = v from hq]
  refine Tot.no (by simp) (Tot.yes rfl ?_)
  refine Tot.step (fun k => laws_FnDiffs.j0.eq_2 _ _ _ _ _ _ _ k) ?_
  rcases hv with hv | ⟨ha, hb, _⟩
  · subst hv
    exact Tot.yes rfl (Tot.yes (by simp) (Tot.ret (by simp)))
  obtain ⟨d, d1, d2, _⟩ := diff_applied a b ha hb
  have e : v = (d, true) := by
    obtain ⟨K, x, rfl, hk⟩ := h2
    obtain ⟨M, y, rfl, hm⟩ := d1
    have p := hk (max K M) (by omega)
    rw [hm (max K M) (by omega)] at p
    exact (Option.some.inj p).symm
  subst e
  obtain ⟨d', e1, e2, e3⟩ := diff_applied a a ha ha
  have hz : d'.size = 10 := e3 fun p hp => by
    unfold dfr
    rw [decide_eq_false (show ¬ (a.size : Int) ≤ p by omega)]
    simp
  refine Tot.no (by show ¬ (!true) = true; decide) ?_
  refine Tot.bind d2 ?_
  rintro _ rfl
  refine Tot.bind e1 ?_
  rintro _ rfl
  refine Tot.bind e2 ?_
  rintro _ rfl
  exact Tot.yes rfl (Tot.yes rfl (Tot.yes (by show (d'.size : Int) = 10; omega) (Tot.yes rfl (Tot.ret (by simp)))))
end Go.Proofs.Ytcohcndliaaacaa.Pure
