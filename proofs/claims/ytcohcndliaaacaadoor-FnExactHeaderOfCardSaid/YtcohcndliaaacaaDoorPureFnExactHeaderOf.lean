/- The program's HeaderOf returns what the reference's returns, for all arguments. No condition beyond the row's own. -/
import Derived.Test.YtcohcndliaaacaaDoorQFnExactHeaderOfx5
import Derived.Test.YtcohcndliaaacaaDoorLib
namespace Go.Proofs.YtcohcndliaaacaaDoor.Pure
open Go.RowKit Go.Proofs.YtcohcndliaaacaaDoor.QFnExactHeaderOf Go.Proofs.YtcohcndliaaacaaDoorW.PrintWords Go.Proofs.YtcohcndliaaacaaDoorW.PrintLast Go.Proofs.YtcohcndliaaacaaDoor.Lib Go.Proofs.YtcohcndliaaacaaDoor.LibX Go.Proofs.YtcohcndliaaacaaDoor.LibE
set_option linter.unusedSimpArgs false
set_option linter.unusedVariables false

/-- From some number of rounds on it answers one and the same, and P holds of the answer. -/
def Tot {α : Type} (g : Nat → Option α) (P : α → Prop) : Prop := ∃ K r, P r ∧ ∀ k, K ≤ k → g k = some r
theorem Tot.ret {α : Type} {r : α} {P : α → Prop} (h : P r) : Tot (fun _ => some r) P := ⟨0, r, h, fun _ _ => rfl⟩
theorem Tot.of {α : Type} {g : Option α} {r : α} {P : α → Prop} (e : g = some r) (h : P r) : Tot (fun _ => g) P := ⟨0, r, h, fun _ _ => e⟩
theorem Tot.bind {α β : Type} {g : Nat → Option α} {f : Nat → α → Option β} {P : α → Prop} {Q : β → Prop} (h : Tot g P) (hf : ∀ a, P a → Tot (fun k => f k a) Q) : Tot (fun k => (g k).bind (f k)) Q := by
  obtain ⟨K, a, ha, hg⟩ := h
  obtain ⟨L, r, hr, hk⟩ := hf a ha
  exact ⟨max K L, r, hr, fun k hk' => by show (g k).bind (f k) = some r; rw [hg k (by omega)]; exact hk k (by omega)⟩
theorem Tot.ite {α : Type} {c : Prop} [Decidable c] {g f : Nat → Option α} {P : α → Prop} (h1 : c → Tot g P) (h2 : ¬ c → Tot f P) : Tot (fun k => if c then g k else f k) P := by
  by_cases h : c
  · obtain ⟨K, r, hr, hk⟩ := h1 h
    exact ⟨K, r, hr, fun k hk' => by show (if c then g k else f k) = some r; rw [if_pos h]; exact hk k hk'⟩
  · obtain ⟨K, r, hr, hk⟩ := h2 h
    exact ⟨K, r, hr, fun k hk' => by show (if c then g k else f k) = some r; rw [if_neg h]; exact hk k hk'⟩
theorem Tot.yes {α : Type} {c : Prop} [Decidable c] {g f : Nat → Option α} {P : α → Prop} (h : c) (h1 : Tot g P) : Tot (fun k => if c then g k else f k) P := Tot.ite (fun _ => h1) (fun n => absurd h n)
theorem Tot.no {α : Type} {c : Prop} [Decidable c] {g f : Nat → Option α} {P : α → Prop} (h : ¬ c) (h1 : Tot f P) : Tot (fun k => if c then g k else f k) P := Tot.ite (fun n => absurd n h) (fun _ => h1)
theorem Tot.mono {α : Type} {g : Nat → Option α} {P Q : α → Prop} (h : Tot g P) (hi : ∀ a, P a → Q a) : Tot g Q := by
  obtain ⟨K, r, hr, hk⟩ := h
  exact ⟨K, r, hi r hr, hk⟩
theorem Tot.step {α : Type} {g f : Nat → Option α} {P : α → Prop} (h : ∀ k, g (k + 1) = f k) (hf : Tot f P) : Tot g P := by
  obtain ⟨K, r, hr, hk⟩ := hf
  exact ⟨K + 1, r, hr, fun k hk' => by obtain ⟨m, rfl⟩ : ∃ m, k = m + 1 := ⟨k - 1, by omega⟩; rw [h]; exact hk m (by omega)⟩
theorem Tot.lift {α : Type} {g : Nat → Option α} {P : α → Prop} (hm : ∀ k, LeO (g k) (g (k + 1))) {k : Nat} {r : α} (e : g k = some r) (h : P r) : Tot g P := ⟨k, r, h, fun _ hk => at_rounds hm hk e⟩
theorem Tot.congr {α : Type} {g f : Nat → Option α} {P : α → Prop} (h : ∀ k, g k = f k) (hf : Tot f P) : Tot g P := by
  obtain ⟨K, r, hr, hk⟩ := hf
  exact ⟨K, r, hr, fun k hk' => (h k).trans (hk k hk')⟩
theorem Tot.eq {α : Type} {g : Nat → Option α} {r : α} (h : Tot g (fun x => x = r)) : ∃ K, ∀ k, K ≤ k → g k = some r := by
  obtain ⟨K, x, hx, hk⟩ := h
  subst hx
  exact ⟨K, hk⟩
theorem Tot.done {g : Nat → Option Bool} (h : Tot g (fun x => x = true)) : ∃ k, g k = some true := by
  obtain ⟨K, hk⟩ := h.eq
  exact ⟨K, hk K (Nat.le_refl _)⟩

theorem bytesOf_append (a b : ByteArray) : bytesOf (a ++ b) = bytesOf a ++ bytesOf b := by
  unfold bytesOf
  rw [ByteArray.data_append, Array.toList_append, List.map_append]
theorem bytesOf_extract (a : ByteArray) (i j : Nat) : bytesOf (a.extract i j) = ((bytesOf a).drop i).take (j - i) := by
  unfold bytesOf
  rw [ByteArray.data_extract, Array.toList_extract, List.extract_eq_take_drop, List.map_take, List.map_drop]
theorem bytesOf_rest (a : ByteArray) (i : Nat) : bytesOf (a.extract i a.size) = (bytesOf a).drop i := by
  rw [bytesOf_extract, List.take_of_length_le]
  rw [List.length_drop, bytesOf_length]
  exact Nat.le_refl _
theorem toList_nil_iff (a : ByteArray) : a.toList = [] ↔ bytesOf a = [] := by
  rw [ByteArray.toList_eq]; unfold bytesOf; simp
theorem bt_get (a : ByteArray) (i : Nat) (h : i < a.size) : ∃ b l, (bytesOf a).drop i = b :: l ∧ bt a (i : Int) = b ∧ (bytesOf a).drop (i + 1) = l ∧ 0 ≤ b ∧ b ≤ 255 := by
  have hl : i < (bytesOf a).length := by rw [bytesOf_length]; exact h
  refine ⟨(bytesOf a)[i], (bytesOf a).drop (i + 1), List.drop_eq_getElem_cons hl, ?_, rfl, ?_⟩
  · rw [← rd_bytesOf]
    unfold rd
    rw [Int.toNat_natCast, List.getD_eq_getElem?_getD, List.getElem?_eq_getElem hl]
    rfl
  · have : ∀ x ∈ bytesOf a, 0 ≤ x ∧ x ≤ 255 := by
      intro x hx
      unfold bytesOf at hx
      obtain ⟨b, _, rfl⟩ := List.mem_map.1 hx
      have := b.toNat_lt
      omega
    exact this _ (List.getElem_mem _)

theorem banks_eq (a : ByteArray) : spec_l5Banks.f a = impl_banksOf.f a 2 := rfl
theorem banks_some (a : ByteArray) (hs : a.size ≤ 1048576) : ∃ b, spec_l5Banks.f a = some b ∧ (b ≠ 0 → 512 ≤ a.size) := by
  have e : wrap64 ((a.size : Int) / 256) = (a.size : Int) / 256 := w64_in (by omega) (by omega)
  unfold spec_l5Banks.f spec_l1In.f
  rw [e]
  by_cases h : ((a.size : Int) % 256) = 0
  · rw [if_pos h]
    by_cases h2 : ((a.size : Int) / 256) ≥ 2
    · rw [if_pos h2]
      by_cases h3 : ((a.size : Int) / 256) ≤ 16
      · exact ⟨(a.size : Int) / 256, by simp [h3], fun _ => by omega⟩
      · exact ⟨0, by simp [h3], fun h => absurd rfl h⟩
    · rw [if_neg h2]
      exact ⟨0, by simp, fun h => absurd rfl h⟩
  · rw [if_neg h]
    exact ⟨0, rfl, fun h => absurd rfl h⟩

theorem hs_sim (a : ByteArray) (h : 77 ≤ a.size) : ∀ (k : Nat) (i x y : Int), 0 ≤ i → i ≤ 77 → -(256 * i) ≤ x → x ≤ 0 → y = x % 256 →
    spec_HeaderSum.l0 k a x i = impl_HeaderSum.l0 k a y i := by
  intro k
  induction k with
  | zero => intros; rfl
  | succ k ih =>
    intro i x y h0 h1 hx hx2 hy
    simp only [spec_HeaderSum.l0, impl_HeaderSum.l0]
    have hb := bt_range a i
    by_cases hi : i < 77
    · rw [if_pos hi, if_pos hi, if_pos h0, if_pos h0, if_pos (by omega), if_pos (by omega), and255,
        w64_in (n := bt a i) (by omega) (by omega), w64_in (n := i + 1) (by omega) (by omega), w64_in (n := x - bt a i) (by omega) (by omega),
        w64_in (n := x - bt a i - 1) (by omega) (by omega), w64_in (n := y - bt a i) (by omega) (by omega), w64_in (n := y - bt a i - 1) (by omega) (by omega)]
      exact ih (i + 1) _ _ (by omega) (by omega) (by omega) (by omega) (by omega)
    · rw [if_neg hi, if_neg hi]
      congr 1
      rw [Int.tmod_eq_emod (a := x), w64_in (by split <;> omega) (by split <;> omega), tmod_pos _ (by split <;> omega)]
      split <;> omega

theorem hs_ends (a : ByteArray) (h : 77 ≤ a.size) : ∀ (k : Nat) (i x : Int), 0 ≤ i → i ≤ 77 → 77 - i < k → ∃ r, spec_HeaderSum.l0 k a x i = some r := by
  intro k
  induction k with
  | zero => intros; omega
  | succ k ih =>
    intro i x h0 h1 hk
    simp only [spec_HeaderSum.l0]
    by_cases hi : i < 77
    · rw [if_pos hi, if_pos h0, if_pos (by omega), w64_in (n := i + 1) (by omega) (by omega)]
      exact ih _ _ (by omega) (by omega) (by omega)
    · rw [if_neg hi]
      exact ⟨_, rfl⟩

theorem ws_sim (a : ByteArray) (h : a.size ≤ 1048576) : ∀ (k : Nat) (i x : Int), 0 ≤ i → i ≤ a.size → 0 ≤ x → x ≤ 255 * i →
    spec_WholeSum.l0 k a x i = impl_WholeSum.l0 k a x (a.size : Int) i := by
  intro k
  induction k with
  | zero => intros; rfl
  | succ k ih =>
    intro i x h0 h1 hx hx2
    simp only [spec_WholeSum.l0, impl_WholeSum.l0]
    have hb := bt_range a i
    by_cases hi : i < (a.size : Int)
    · rw [if_pos hi, if_pos hi, w64_in (n := i + 1) (by omega) (by omega)]
      by_cases e1 : i = 78
      · rw [if_pos e1, if_pos e1]
        exact ih _ _ (by omega) (by omega) (by omega) (by omega)
      · rw [if_neg e1, if_neg e1]
        by_cases e2 : i = 79
        · rw [if_pos e2, if_pos e2]
          exact ih _ _ (by omega) (by omega) (by omega) (by omega)
        · rw [if_neg e2, if_neg e2, if_pos h0, if_pos h0, if_pos hi, w64_in (n := bt a i) (by omega) (by omega), w64_in (n := x + bt a i) (by omega) (by omega)]
          exact ih _ _ (by omega) (by omega) (by omega) (by omega)
    · rw [if_neg hi, if_neg hi, and65535, tmod_pos _ hx]

theorem ws_ends (a : ByteArray) (h : a.size ≤ 1048576) : ∀ (k : Nat) (i x : Int), 0 ≤ i → i ≤ a.size → (a.size : Int) - i < k → ∃ r, spec_WholeSum.l0 k a x i = some r := by
  intro k
  induction k with
  | zero => intros; omega
  | succ k ih =>
    intro i x h0 h1 hk
    simp only [spec_WholeSum.l0]
    by_cases hi : i < (a.size : Int)
    · rw [if_pos hi, if_pos h0, w64_in (n := i + 1) (by omega) (by omega)]
      have hn := fun y => ih (i + 1) y (by omega) (by omega) (by omega)
      split
      · exact hn _
      · split
        · exact hn _
        · exact hn _
    · rw [if_neg hi]
      exact ⟨_, rfl⟩

theorem header_eq (a : ByteArray) (ha : a.size ≤ 1048576) (k : Nat) : spec_HeaderSum.f k a = impl_HeaderSum.f k a := by
  obtain ⟨b, hb, hb2⟩ := banks_some a ha
  unfold spec_HeaderSum.f impl_HeaderSum.f
  rw [← banks_eq, hb]
  simp only [Option.bind_some]
  by_cases hz : b = 0
  · rw [if_pos hz, if_pos hz]
  · have h5 := hb2 hz
    rw [if_neg hz, if_neg hz]
    exact hs_sim a (by omega) k 52 0 0 (by omega) (by omega) (by omega) (by omega) (by omega)
theorem whole_eq (a : ByteArray) (ha : a.size ≤ 1048576) (k : Nat) : spec_WholeSum.f k a = impl_WholeSum.f k a := by
  obtain ⟨b, hb, hb2⟩ := banks_some a ha
  unfold spec_WholeSum.f impl_WholeSum.f
  rw [← banks_eq, hb]
  simp only [Option.bind_some]
  by_cases hz : b = 0
  · rw [if_pos hz, if_pos hz]
  · rw [if_neg hz, if_neg hz]
    exact ws_sim a (by omega) k 0 0 (by omega) (by omega) (by omega) (by omega)
theorem header_T (a : ByteArray) (ha : a.size ≤ 1048576) : ∃ r, Tot (fun k => spec_HeaderSum.f k a) (fun x => x = r) := by
  obtain ⟨b, hb, hb2⟩ := banks_some a ha
  by_cases hz : b = 0
  · refine ⟨-1, 0, -1, rfl, fun k _ => ?_⟩
    show spec_HeaderSum.f k a = _
    unfold spec_HeaderSum.f
    rw [hb, Option.bind_some, if_pos hz]
  · obtain ⟨r, hr⟩ := hs_ends a (by have := hb2 hz; omega) 100 52 0 (by omega) (by omega) (by omega)
    refine ⟨r, Tot.lift (fun k => spec_HeaderSum.mono _ k) (k := 100) (r := r) ?_ rfl⟩
    unfold spec_HeaderSum.f
    rw [hb, Option.bind_some, if_neg hz]
    exact hr
theorem whole_T (a : ByteArray) (ha : a.size ≤ 1048576) : ∃ r, Tot (fun k => spec_WholeSum.f k a) (fun x => x = r) := by
  obtain ⟨b, hb, hb2⟩ := banks_some a ha
  by_cases hz : b = 0
  · refine ⟨-1, 0, -1, rfl, fun k _ => ?_⟩
    show spec_WholeSum.f k a = _
    unfold spec_WholeSum.f
    rw [hb, Option.bind_some, if_pos hz]
  · obtain ⟨r, hr⟩ := ws_ends a (by omega) (a.size + 1) 0 0 (by omega) (by omega) (by omega)
    refine ⟨r, Tot.lift (fun k => spec_WholeSum.mono _ k) (k := a.size + 1) (r := r) ?_ rfl⟩
    unfold spec_WholeSum.f
    rw [hb, Option.bind_some, if_neg hz]
    exact hr

def plainB (l : List Int) : Bool := l.all fun x => decide (32 ≤ x) && decide (x ≤ 126)
theorem plain_l0 (a : ByteArray) (ha : a.size ≤ 2000000) : ∀ (d k : Nat) (i : Nat), i + d = a.size → d < k → impl_isPlain.l0 k a (a.size : Int) (i : Int) = some (plainB ((bytesOf a).drop i))
  | 0, k, i, hi, hk => by
    obtain ⟨k, rfl⟩ : ∃ q, k = q + 1 := ⟨k - 1, by omega⟩
    rw [impl_isPlain.l0, if_neg (by omega), List.drop_of_length_le (by rw [bytesOf_length]; omega)]
    rfl
  | d + 1, k, i, hi, hk => by
    obtain ⟨k, rfl⟩ : ∃ q, k = q + 1 := ⟨k - 1, by omega⟩
    obtain ⟨b, l, e1, e2, e3, b0, b1⟩ := bt_get a i (by omega)
    rw [impl_isPlain.l0, if_pos (by omega), if_pos (by omega), if_pos (by omega), e2, e1]
    unfold plainB
    rw [List.all_cons]
    by_cases c1 : b < 32
    · rw [if_pos c1, decide_eq_false (show ¬ 32 ≤ b by omega)]; simp
    rw [if_neg c1, decide_eq_true (show 32 ≤ b by omega)]
    by_cases c2 : b > 126
    · rw [if_pos c2, decide_eq_false (show ¬ b ≤ 126 by omega)]; simp
    rw [if_neg c2, decide_eq_true (show b ≤ 126 by omega), w64_in (n := (i : Int) + 1) (by omega) (by omega)]
    have := plain_l0 a ha d k (i + 1) (by omega) (by omega)
    rw [e3] at this
    simpa [plainB] using this
theorem title_l0 (a : ByteArray) (ha : a.size ≤ 2000000) : ∀ (d k : Nat) (i : Nat), i + d = a.size → d < k → spec_l12Title.l0 k a (i : Int) = some (plainB ((bytesOf a).drop i) && decide ((a.size : Int) ≤ 15))
  | 0, k, i, hi, hk => by
    obtain ⟨k, rfl⟩ : ∃ q, k = q + 1 := ⟨k - 1, by omega⟩
    rw [spec_l12Title.l0, if_neg (by omega), List.drop_of_length_le (by rw [bytesOf_length]; omega)]
    simp [plainB]
  | d + 1, k, i, hi, hk => by
    obtain ⟨k, rfl⟩ : ∃ q, k = q + 1 := ⟨k - 1, by omega⟩
    obtain ⟨b, l, e1, e2, e3, b0, b1⟩ := bt_get a i (by omega)
    rw [spec_l12Title.l0, if_pos (by omega), if_pos (by omega), e2, e1]
    unfold plainB
    rw [List.all_cons]
    by_cases c1 : b < 32
    · rw [if_pos c1, decide_eq_false (show ¬ 32 ≤ b by omega)]; simp
    rw [if_neg c1, decide_eq_true (show 32 ≤ b by omega)]
    by_cases c2 : b > 126
    · rw [if_pos c2, decide_eq_false (show ¬ b ≤ 126 by omega)]; simp
    rw [if_neg c2, decide_eq_true (show b ≤ 126 by omega), w64_in (n := (i : Int) + 1) (by omega) (by omega)]
    have := title_l0 a ha d k (i + 1) (by omega) (by omega)
    rw [e3] at this
    simpa [plainB] using this
theorem plain_T (a : ByteArray) (ha : a.size ≤ 2000000) : Tot (fun k => impl_isPlain.f k a) (fun r => r = plainB (bytesOf a)) := by
  refine ⟨a.size + 1, _, rfl, fun k hk => ?_⟩
  have := plain_l0 a ha a.size k 0 (by omega) (by omega)
  rw [List.drop_zero] at this
  exact this
theorem title_T (a : ByteArray) (ha : a.size ≤ 2000000) : Tot (fun k => spec_l12Title.f k a) (fun r => r = (plainB (bytesOf a) && decide ((a.size : Int) ≤ 15))) := by
  refine ⟨a.size + 1, _, rfl, fun k hk => ?_⟩
  have := title_l0 a ha a.size k 0 (by omega) (by omega)
  rw [List.drop_zero] at this
  exact this
def up (n : Int) : Int := if n ≤ 2 then 2 else if n ≤ 4 then 4 else if n ≤ 8 then 8 else 16
def szOf (n : Int) : Int := if n ≤ 2 then 0 else if n ≤ 4 then 1 else if n ≤ 8 then 2 else 3
theorem cases16 {n : Int} (h0 : 1 ≤ n) (h1 : n ≤ 16) : n = 1 ∨ n = 2 ∨ n = 3 ∨ n = 4 ∨ n = 5 ∨ n = 6 ∨ n = 7 ∨ n = 8 ∨ n = 9 ∨ n = 10 ∨ n = 11 ∨ n = 12 ∨ n = 13 ∨ n = 14 ∨ n = 15 ∨ n = 16 := by omega
theorem doubled_T {n : Int} (h0 : 1 ≤ n) (h1 : n ≤ 16) : Tot (fun k => impl_doubled.f k n) (fun r => r = if n = up n then (szOf n, true) else (0, false)) := by
  refine Tot.lift (fun k => impl_doubled.mono _ k) (k := 6) (r := if n = up n then (szOf n, true) else (0, false)) ?_ rfl
  rcases cases16 h0 h1 with h | h | h | h | h | h | h | h | h | h | h | h | h | h | h | h <;> subst h <;> decide +kernel
theorem code_T {n : Int} (h : n = 2 ∨ n = 4 ∨ n = 8 ∨ n = 16) : Tot (fun k => spec_l12Code.f k n) (fun r => r = szOf n) := by
  refine Tot.lift (fun k => spec_l12Code.mono _ k) (k := 6) (r := szOf n) ?_ rfl
  rcases h with h | h | h | h <;> subst h <;> decide +kernel

theorem bt_range (a : ByteArray) (i : Int) : 0 ≤ bt a i ∧ bt a i < 256 := by
  unfold bt
  split
  · rename_i h
    have := (a[i.toNat]'h).toNat_lt
    omega
  · omega

/-- The number that the first i bytes tell, the high one first. -/
def big (a : ByteArray) : Nat → Int
  | 0 => 0
  | i + 1 => 256 * big a i + bt a i
theorem or_byte {x b : Int} (hx : 0 ≤ x) (hx1 : x < 16777216) (hb : 0 ≤ b) (hb1 : b < 256) : Go.bits .or .i64 (x * 256) b = 256 * x + b := by
  obtain ⟨m, rfl⟩ := Int.eq_ofNat_of_zero_le hx
  obtain ⟨n, rfl⟩ := Int.eq_ofNat_of_zero_le hb
  have := bits_or (m * 256) n (by omega) (by omega)
  rw [show ((m : Int) * 256) = ((m * 256 : Nat) : Int) by omega, this]
  have h2 : 2 ^ 8 * m + n = 2 ^ 8 * m ||| n := Nat.two_pow_add_eq_or_of_lt (by omega) m
  rw [show m * 256 ||| n = 2 ^ 8 * m + n by rw [h2, Nat.mul_comm]]
  omega

theorem bt_at (a : ByteArray) (j : Int) : bt a j = (bytesOf a).getD j.toNat 0 := by
  rw [← rd_bytesOf]; rfl
theorem bt_w (s : ByteArray) (i : Int) : wrap64 (bt s i) = bt s i := by
  have := bt_range s i
  exact w64_in (by omega) (by omega)
/-- The title's bytes, without the noughts at their end. -/
def ttl (a : ByteArray) : ByteArray := ⟨(Lib.trimRightB (a.extract 52 67).data.toList 0).toArray⟩
theorem ttl_size (a : ByteArray) : (ttl a).size ≤ 15 := by
  unfold ttl Lib.trimRightB
  show (List.toArray _).size ≤ 15
  rw [List.size_toArray, List.length_reverse]
  refine Nat.le_trans (List.IsSuffix.length_le (List.dropWhile_suffix _)) ?_
  rw [List.length_reverse]
  have : (a.extract 52 67).size ≤ 15 := by rw [ByteArray.size_extract]; omega
  rw [Array.length_toList]
  exact this
theorem trim_step (l : List UInt8) (c : UInt8) : Lib.trimRightB (l ++ [c]) 0 = if c = 0 then Lib.trimRightB l 0 else l ++ [c] := by
  unfold Lib.trimRightB
  rw [List.reverse_append, List.reverse_singleton, List.singleton_append, List.dropWhile_cons]
  by_cases h : c = 0
  · simp [h]
  · simp [h]
theorem trim_T (x0 y : ByteArray) (b c d e : Int) (P : ByteArray × Int × Int × Int × Int × Bool → Prop) : ∀ (n : Nat) (s : ByteArray), s.size = n → n ≤ 1000000 →
    Tot (fun k => spec_HeaderOf.j1 k x0 ⟨(Lib.trimRightB s.data.toList 0).toArray⟩ y b c d e) P → Tot (fun k => spec_HeaderOf.l0 k x0 s y b c d e) P := by
  intro n
  induction n with
  | zero =>
    intro s hs _ h
    have e0 : s.data.toList = [] := List.eq_nil_of_length_eq_zero (by simpa using hs)
    have es : (⟨(Lib.trimRightB s.data.toList 0).toArray⟩ : ByteArray) = s := by
      apply ByteArray.ext; apply Array.toList_inj.1; rw [e0]; rfl
    rw [es] at h
    refine Tot.step (fun k => spec_HeaderOf.l0.eq_2 _ _ _ _ _ _ _ k) ?_
    exact Tot.yes (by rw [ByteArray.toList_eq, e0]) h
  | succ n ih =>
    intro s hs hn h
    have hne : s.data.toList ≠ [] := by
      intro e0
      have : s.data.toList.length = 0 := by rw [e0]; rfl
      rw [Array.length_toList] at this
      have : s.size = 0 := this
      omega
    obtain ⟨l, c0, hl⟩ : ∃ l c0, s.data.toList = l ++ [c0] := ⟨s.data.toList.dropLast, s.data.toList.getLast hne, (List.dropLast_concat_getLast hne).symm⟩
    have hlen : l.length = n := by
      have : s.data.toList.length = n + 1 := by rw [Array.length_toList]; exact hs
      rw [hl, List.length_append, List.length_singleton] at this
      omega
    have e1 : wrap64 ((s.size : Int) - 1) = n := by rw [w64_in (by omega) (by omega)]; omega
    have eb : bt s (n : Int) = c0.toNat := by
      rw [bt_at]
      unfold bytesOf
      rw [hl, Int.toNat_natCast, List.map_append, List.getD_eq_getElem?_getD, List.getElem?_append_right (by rw [List.length_map]; omega), List.length_map, hlen]
      simp
    have ex : (s.extract 0 n).data.toList = l := by
      rw [ByteArray.data_extract, Array.toList_extract, List.extract_eq_take_drop, hl, List.drop_zero, Nat.sub_zero, ← hlen, List.take_left]
    rw [hl, trim_step] at h
    refine Tot.step (fun k => spec_HeaderOf.l0.eq_2 _ _ _ _ _ _ _ k) ?_
    rw [e1, eb]
    refine Tot.no (by rw [ByteArray.toList_eq]; exact hne) (Tot.yes (by omega) (Tot.yes (by omega) ?_))
    refine Tot.ite (fun hc => Tot.yes (by omega) ?_) (fun hc => ?_)
    · have hc0 : c0 = 0 := UInt8.toNat_inj.1 (by simpa using hc)
      rw [if_pos hc0] at h
      rw [Int.toNat_natCast]
      refine ih (s.extract 0 n) (by rw [ByteArray.size_extract]; omega) (by omega) ?_
      rw [ex]
      exact h
    · have hc0 : ¬ c0 = 0 := fun h' => hc (by rw [h']; rfl)
      rw [if_neg hc0] at h
      have es : (⟨(l ++ [c0]).toArray⟩ : ByteArray) = s := by
        apply ByteArray.ext; apply Array.toList_inj.1; rw [← hl]
      rw [es] at h
      exact h
theorem code_all {n : Int} (h0 : 2 ≤ n) (h1 : n ≤ 16) : Tot (fun k => spec_l12Code.f k n) (fun r => r = if n = up n then szOf n else -1) := by
  refine Tot.lift (fun k => spec_l12Code.mono _ k) (k := 7) (r := if n = up n then szOf n else -1) ?_ rfl
  rcases cases16 (show 1 ≤ n by omega) h1 with h | h | h | h | h | h | h | h | h | h | h | h | h | h | h | h <;> subst h <;> first | omega | decide +kernel
/-- What HeaderOf returns: the header where all is right, else nothing. -/
def hdrOk (a : ByteArray) (hs ws : Int) : Bool :=
  plainB (bytesOf (ttl a)) && decide (bt a 71 ≤ 2) && decide ((a.size : Int) / 256 = up ((a.size : Int) / 256)) && decide (bt a 72 = szOf ((a.size : Int) / 256)) && decide (bt a 77 = hs) && decide (256 * bt a 78 + bt a 79 = ws)
def hdr (a : ByteArray) (hs ws : Int) : ByteArray × Int × Int × Int × Int × Bool :=
  if (a.size : Int) % 256 = 0 ∧ 2 ≤ (a.size : Int) / 256 ∧ (a.size : Int) / 256 ≤ 16 then
    (if hdrOk a hs ws = true then (ttl a, bt a 71, (a.size : Int) / 256, bt a 77, 256 * bt a 78 + bt a 79, true) else ((⟨#[]⟩ : ByteArray), 0, 0, 0, 0, false))
  else ((⟨#[]⟩ : ByteArray), 0, 0, 0, 0, false)
theorem banks_val (a : ByteArray) (ha : a.size ≤ 1048576) : spec_l5Banks.f a = some (if (a.size : Int) % 256 = 0 ∧ 2 ≤ (a.size : Int) / 256 ∧ (a.size : Int) / 256 ≤ 16 then (a.size : Int) / 256 else 0) := by
  have e : wrap64 ((a.size : Int) / 256) = (a.size : Int) / 256 := w64_in (by omega) (by omega)
  unfold spec_l5Banks.f spec_l1In.f
  rw [e]
  by_cases h : ((a.size : Int) % 256) = 0 <;> by_cases h2 : ((a.size : Int) / 256) ≥ 2 <;> by_cases h3 : ((a.size : Int) / 256) ≤ 16 <;> simp [h, h2, h3]
set_option maxHeartbeats 4000000 in
theorem sHeader_T (a : ByteArray) (ha : a.size ≤ 1048576) {hs ws : Int} (h1 : Tot (fun k => spec_HeaderSum.f k a) (fun x => x = hs)) (h2 : Tot (fun k => spec_WholeSum.f k a) (fun x => x = ws)) :
    Tot (fun k => spec_HeaderOf.f k a) (fun r => r = hdr a hs ws) := by
  unfold spec_HeaderOf.f hdr
  refine Tot.bind (Tot.of (banks_val a ha) rfl) ?_
  rintro _ rfl
  by_cases hb : (a.size : Int) % 256 = 0 ∧ 2 ≤ (a.size : Int) / 256 ∧ (a.size : Int) / 256 ≤ 16
  rotate_left
  · rw [if_neg hb, if_neg hb]; exact Tot.yes rfl (Tot.ret rfl)
  rw [if_pos hb, if_pos hb]
  have hsz : 512 ≤ a.size := by omega
  refine Tot.no (by omega) (Tot.yes (by omega) ?_)
  refine Tot.bind (Tot.of (banks_val a ha) rfl) ?_
  rintro _ rfl
  rw [if_pos hb]
  refine Tot.yes (by omega) (Tot.yes (by omega) (Tot.yes (by omega) (Tot.yes (by decide) (Tot.yes (by omega) ?_))))
  have r8 := bt_range a 78
  have r9 := bt_range a 79
  rw [bt_w, bt_w, bt_w, bt_w, w64_in (n := 256 * bt a 78) (by omega) (by omega), w64_in (n := 256 * bt a 78 + bt a 79) (by omega) (by omega)]
  refine trim_T a _ _ _ _ _ _ _ (a.extract 52 67) rfl (by rw [ByteArray.size_extract]; omega) ?_
  show Tot (fun k => spec_HeaderOf.j1 k a (ttl a) _ _ _ _ _) _
  have ht := ttl_size a
  have j2 : ∀ b : Bool, Tot (fun k => spec_HeaderOf.j2 k b (ttl a) (bt a 71) ((a.size : Int) / 256) (bt a 77) (256 * bt a 78 + bt a 79)) (fun r => r = if b = true then ((⟨#[]⟩ : ByteArray), 0, 0, 0, 0, false) else (ttl a, bt a 71, (a.size : Int) / 256, bt a 77, 256 * bt a 78 + bt a 79, true)) := by
    intro b
    refine Tot.step (fun k => spec_HeaderOf.j2.eq_2 _ _ _ _ _ _ k) ?_
    exact Tot.ite (fun h => Tot.ret (by rw [if_pos h])) (fun h => Tot.ret (by rw [if_neg h]))
  have bad : hdrOk a hs ws = false → Tot (fun k => spec_HeaderOf.j2 k true (ttl a) (bt a 71) ((a.size : Int) / 256) (bt a 77) (256 * bt a 78 + bt a 79)) (fun r => r = if hdrOk a hs ws = true then (ttl a, bt a 71, (a.size : Int) / 256, bt a 77, 256 * bt a 78 + bt a 79, true) else ((⟨#[]⟩ : ByteArray), 0, 0, 0, 0, false)) := by
    intro h
    refine (j2 true).mono fun r hr => ?_
    rw [hr, h]; rfl
  refine Tot.step (fun k => spec_HeaderOf.j1.eq_2 _ _ _ _ _ _ _ k) ?_
  refine Tot.bind (title_T (ttl a) (by omega)) ?_
  rintro _ rfl
  rw [decide_eq_true (show ((ttl a).size : Int) ≤ 15 by omega), Bool.and_true]
  refine Tot.ite (fun c1 => ?_) (fun c1 => bad (by unfold hdrOk; simp [c1]))
  refine Tot.ite (fun c2 => bad (by unfold hdrOk; have c2 : bt a 71 > 2 := c2; simp [show ¬ bt a 71 ≤ 2 by omega])) (fun c2 => ?_)
  have c2 : ¬ bt a 71 > 2 := c2
  refine Tot.yes (by omega) ?_
  refine Tot.bind (code_all hb.2.1 hb.2.2) ?_
  rintro _ rfl
  have r2 := bt_range a 72
  rw [bt_w]
  refine Tot.ite (fun c3 => ?_) (fun c3 => bad ?_)
  · have hu : (a.size : Int) / 256 = up ((a.size : Int) / 256) := by
      by_cases h : (a.size : Int) / 256 = up ((a.size : Int) / 256)
      · exact h
      · have c3 : bt a 72 = _ := c3
        rw [if_neg h] at c3; omega
    have c3 : bt a 72 = szOf ((a.size : Int) / 256) := by
      have c3 : bt a 72 = _ := c3
      rw [if_pos hu] at c3; exact c3
    refine Tot.bind h1 ?_
    intro q hq
    rw [show q = hs from hq]
    refine Tot.ite (fun c4 => ?_) (fun c4 => bad (by unfold hdrOk; have c4 : ¬ bt a 77 = hs := c4; simp [c4]))
    have c4 : bt a 77 = hs := c4
    refine Tot.bind h2 ?_
    intro q hq
    rw [show q = ws from hq]
    refine (j2 _).mono fun r hr => ?_
    rw [hr]
    by_cases c5 : 256 * bt a 78 + bt a 79 = ws
    · have : hdrOk a hs ws = true := by
        unfold hdrOk
        simp only [Bool.and_eq_true, decide_eq_true_eq]
        exact ⟨⟨⟨⟨⟨c1, by omega⟩, hu⟩, c3⟩, c4⟩, c5⟩
      rw [this, if_pos rfl, if_neg]
      simp [c5]
    · have : hdrOk a hs ws = false := by unfold hdrOk; simp [c5]
      rw [this, if_pos]
      · rfl
      · simpa using c5
  · unfold hdrOk
    by_cases h : (a.size : Int) / 256 = up ((a.size : Int) / 256)
    · have c3 : ¬ bt a 72 = _ := c3
      rw [if_pos h] at c3
      rw [decide_eq_false c3]; simp
    · rw [decide_eq_false h]; simp
set_option maxHeartbeats 4000000 in
theorem iHeader_T (a : ByteArray) (ha : a.size ≤ 1048576) {hs ws : Int} (h1 : Tot (fun k => impl_HeaderSum.f k a) (fun x => x = hs)) (h2 : Tot (fun k => impl_WholeSum.f k a) (fun x => x = ws)) :
    Tot (fun k => impl_HeaderOf.f k a) (fun r => r = hdr a hs ws) := by
  unfold impl_HeaderOf.f hdr
  have hbv := banks_val a ha
  rw [banks_eq] at hbv
  refine Tot.bind (Tot.of hbv rfl) ?_
  rintro _ rfl
  by_cases hb : (a.size : Int) % 256 = 0 ∧ 2 ≤ (a.size : Int) / 256 ∧ (a.size : Int) / 256 ≤ 16
  rotate_left
  · rw [if_neg hb, if_neg hb]
    refine Tot.bind (Tot.lift (fun k => impl_doubled.mono _ k) (k := 6) (r := (0, false)) (by decide +kernel) rfl) ?_
    rintro _ rfl
    refine Tot.yes rfl ?_
    refine Tot.step (fun k => impl_HeaderOf.j0.eq_2 _ _ _ k) (Tot.yes rfl (Tot.ret rfl))
  rw [if_pos hb, if_pos hb]
  have hsz : 512 ≤ a.size := by omega
  have r2 := bt_range a 72
  have bad0 : hdrOk a hs ws = false → ∀ n : Int, Tot (fun k => impl_HeaderOf.j0 k a n true) (fun r => r = if hdrOk a hs ws = true then (ttl a, bt a 71, (a.size : Int) / 256, bt a 77, 256 * bt a 78 + bt a 79, true) else ((⟨#[]⟩ : ByteArray), 0, 0, 0, 0, false)) := by
    intro h n
    rw [h]
    exact Tot.step (fun k => impl_HeaderOf.j0.eq_2 _ _ _ k) (Tot.yes rfl (Tot.ret rfl))
  refine Tot.bind (doubled_T (show 1 ≤ (a.size : Int) / 256 by omega) hb.2.2) ?_
  rintro _ rfl
  refine Tot.no (by omega) ?_
  by_cases hu : (a.size : Int) / 256 = up ((a.size : Int) / 256)
  rotate_left
  · rw [if_neg hu]
    exact Tot.no (by simp) (bad0 (by unfold hdrOk; rw [decide_eq_false hu]; simp) _)
  rw [if_pos hu]
  refine Tot.yes rfl (Tot.yes (by omega) ?_)
  rw [bt_w]
  by_cases c3 : bt a 72 = szOf ((a.size : Int) / 256)
  rotate_left
  · have : (bt a 72 != szOf ((a.size : Int) / 256)) = true := by simpa using c3
    show Tot (fun k => impl_HeaderOf.j0 k a _ (bt a 72 != szOf ((a.size : Int) / 256))) _
    rw [this]
    exact bad0 (by unfold hdrOk; rw [decide_eq_false c3]; simp) _
  have : (bt a 72 != szOf ((a.size : Int) / 256)) = false := by simpa using c3
  show Tot (fun k => impl_HeaderOf.j0 k a _ (bt a 72 != szOf ((a.size : Int) / 256))) _
  rw [this]
  refine Tot.step (fun k => impl_HeaderOf.j0.eq_2 _ _ _ k) (Tot.no (by decide) (Tot.yes (by decide) (Tot.yes (by omega) ?_)))
  have et : strings_TrimRight.f (a.extract 52 67) (⟨#[0]⟩ : ByteArray) = some (ttl a) := by
    have hx : (a.extract 52 67).size ≤ 9223372036854775807 := by rw [ByteArray.size_extract]; omega
    unfold strings_TrimRight.f ttl
    rw [dif_pos (show (⟨#[0]⟩ : ByteArray).size = 1 from rfl), if_pos (show _ from by decide), if_pos hx]
    rfl
  refine Tot.bind (Tot.of et rfl) ?_
  rintro _ rfl
  refine Tot.yes (by omega) (Tot.yes (by omega) (Tot.yes (by omega) (Tot.yes (by omega) ?_)))
  have r8 := bt_range a 78
  have r9 := bt_range a 79
  rw [bt_w, bt_w, bt_w, bt_w, w64_in (n := bt a 78 * 256) (by omega) (by omega), or_byte (by omega) (by omega) (by omega) (by omega)]
  have ht := ttl_size a
  have j1 : ∀ b : Bool, Tot (fun k => impl_HeaderOf.j1 k b (ttl a) (bt a 71) ((a.size : Int) / 256) (bt a 77) (256 * bt a 78 + bt a 79)) (fun r => r = if b = true then ((⟨#[]⟩ : ByteArray), 0, 0, 0, 0, false) else (ttl a, bt a 71, (a.size : Int) / 256, bt a 77, 256 * bt a 78 + bt a 79, true)) := by
    intro b
    refine Tot.step (fun k => impl_HeaderOf.j1.eq_2 _ _ _ _ _ _ k) ?_
    exact Tot.ite (fun h => Tot.ret (by rw [if_pos h])) (fun h => Tot.ret (by rw [if_neg h]))
  have bad : hdrOk a hs ws = false → Tot (fun k => impl_HeaderOf.j1 k true (ttl a) (bt a 71) ((a.size : Int) / 256) (bt a 77) (256 * bt a 78 + bt a 79)) (fun r => r = if hdrOk a hs ws = true then (ttl a, bt a 71, (a.size : Int) / 256, bt a 77, 256 * bt a 78 + bt a 79, true) else ((⟨#[]⟩ : ByteArray), 0, 0, 0, 0, false)) := by
    intro h
    refine (j1 true).mono fun r hr => ?_
    rw [hr, h]; rfl
  refine Tot.bind (plain_T (ttl a) (by omega)) ?_
  rintro _ rfl
  refine Tot.ite (fun c1 => ?_) (fun c1 => bad (by unfold hdrOk; simp [c1]))
  refine Tot.ite (fun c2 => bad (by unfold hdrOk; have c2 : bt a 71 > 2 := c2; simp [show ¬ bt a 71 ≤ 2 by omega])) (fun c2 => ?_)
  have c2 : ¬ bt a 71 > 2 := c2
  refine Tot.bind h1 ?_
  intro q hq
  rw [show q = hs from hq]
  refine Tot.ite (fun c4 => ?_) (fun c4 => bad (by unfold hdrOk; have c4 : ¬ bt a 77 = hs := c4; simp [c4]))
  have c4 : bt a 77 = hs := c4
  refine Tot.bind h2 ?_
  intro q hq
  rw [show q = ws from hq]
  refine (j1 _).mono fun r hr => ?_
  rw [hr]
  by_cases c5 : 256 * bt a 78 + bt a 79 = ws
  · have : hdrOk a hs ws = true := by
      unfold hdrOk
      simp only [Bool.and_eq_true, decide_eq_true_eq]
      exact ⟨⟨⟨⟨⟨c1, by omega⟩, hu⟩, c3⟩, c4⟩, c5⟩
    rw [this, if_pos rfl, if_neg]
    simp [c5]
  · have : hdrOk a hs ws = false := by unfold hdrOk; simp [c5]
    rw [this, if_pos]
    · rfl
    · simpa using c5

theorem FnExactHeaderOf : laws_FnExactHeaderOf.Pure := by
  intro a _
  refine Tot.done ?_
  unfold laws_FnExactHeaderOf.f
  refine Tot.ite (fun _ => Tot.ret rfl) (fun hbig => ?_)
  have ha : a.size ≤ 1048576 := by omega
  obtain ⟨hs, h1⟩ := header_T a ha
  obtain ⟨ws, h2⟩ := whole_T a ha
  have h1' : Tot (fun k => impl_HeaderSum.f k a) (fun x => x = hs) := Tot.congr (fun k => (header_eq a ha k).symm) h1
  have h2' : Tot (fun k => impl_WholeSum.f k a) (fun x => x = ws) := Tot.congr (fun k => (whole_eq a ha k).symm) h2
  refine Tot.bind (sHeader_T a ha h1 h2) ?_
  intro r hr
  rw [show r = hdr a hs ws from hr]
  refine Tot.bind (iHeader_T a ha h1' h2') ?_
  intro q hq
  rw [show q = hdr a hs ws from hq]
  generalize hdr a hs ws = z
  refine Tot.bind (Tot.of (show laws_eqHeader.f z.1 z.2.1 z.2.2.1 z.2.2.2.1 z.2.2.2.2.1 z.1 z.2.1 z.2.2.1 z.2.2.2.1 z.2.2.2.2.1 = some true by unfold laws_eqHeader.f; simp) rfl) ?_
  rintro _ rfl
  exact Tot.yes rfl (Tot.no (by simp) (Tot.ret rfl))
end Go.Proofs.YtcohcndliaaacaaDoor.Pure
