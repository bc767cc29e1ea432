/- The program's Fixed returns what the reference's returns, for all arguments. No condition beyond the row's own. -/
import Derived.Test.YtcohcndliaaacaaQFnExactFixedx
import Derived.Test.YtcohcndliaaacaaLib
namespace Go.Proofs.Ytcohcndliaaacaa.Pure
open Go.RowKit Go.Proofs.Ytcohcndliaaacaa.QFnExactFixed Go.Proofs.YtcohcndliaaacaaW.PrintWords Go.Proofs.YtcohcndliaaacaaW.PrintLast Go.Proofs.Ytcohcndliaaacaa.Lib Go.Proofs.Ytcohcndliaaacaa.LibX Go.Proofs.Ytcohcndliaaacaa.LibE
set_option linter.unusedSimpArgs false
set_option linter.unusedVariables false

/-- From some number of rounds on it answers one and the same, and P holds of the answer. -/
def Tot {α : Type} (g : Nat → Option α) (P : α → Prop) : Prop := ∃ K r, P r ∧ ∀ k, K ≤ k → g k = some r
theorem Tot.ret {α : Type} {r : α} {P : α → Prop} (h : P r) : Tot (fun _ => some r) P := ⟨0, r, h, fun _ _ => rfl⟩
theorem Tot.of {α : Type} {g : Option α} {r : α} {P : α → Prop} (e : g = some r) (h : P r) : Tot (fun _ => g) P := ⟨0, r, h, fun _ _ => e⟩
theorem Tot.bind {α β : Type} {g : Nat → Option α} {f : Nat → α → Option β} {P : α → Prop} {Q : β → Prop} (h : Tot g P) (hf : ∀ a, P a → Tot (fun k => f k a) Q) : Tot (fun k => (g k).bind (f k)) Q := by
  obtain ⟨K, a, ha, hg⟩ := h
  obtain ⟨L, r, hr, hk⟩ := hf a ha
  exact ⟨max K L, r, hr, fun k hk' => by show (g k).bind (f k) = some r; rw [hg k (by omega)]; exact hk k (by omega)⟩
theorem Tot.ite {α : Type} {c : Prop} [Decidable c] {g f : Nat → Option α} {P : α → Prop} (h1 : c → Tot g P) (h2 : ¬ c → Tot f P) : Tot (fun k => if c then g k else f k) P := by
  by_cases h : c
  · obtain ⟨K, r, hr, hk⟩ := h1 h
    exact ⟨K, r, hr, fun k hk' => by show (if c then g k else f k) = some r; rw [if_pos h]; exact hk k hk'⟩
  · obtain ⟨K, r, hr, hk⟩ := h2 h
    exact ⟨K, r, hr, fun k hk' => by show (if c then g k else f k) = some r; rw [if_neg h]; exact hk k hk'⟩
theorem Tot.yes {α : Type} {c : Prop} [Decidable c] {g f : Nat → Option α} {P : α → Prop} (h : c) (h1 : Tot g P) : Tot (fun k => if c then g k else f k) P := Tot.ite (fun _ => h1) (fun n => absurd h n)
theorem Tot.no {α : Type} {c : Prop} [Decidable c] {g f : Nat → Option α} {P : α → Prop} (h : ¬ c) (h1 : Tot f P) : Tot (fun k => if c then g k else f k) P := Tot.ite (fun n => absurd n h) (fun _ => h1)
theorem Tot.mono {α : Type} {g : Nat → Option α} {P Q : α → Prop} (h : Tot g P) (hi : ∀ a, P a → Q a) : Tot g Q := by
  obtain ⟨K, r, hr, hk⟩ := h
  exact ⟨K, r, hi r hr, hk⟩
theorem Tot.step {α : Type} {g f : Nat → Option α} {P : α → Prop} (h : ∀ k, g (k + 1) = f k) (hf : Tot f P) : Tot g P := by
  obtain ⟨K, r, hr, hk⟩ := hf
  exact ⟨K + 1, r, hr, fun k hk' => by obtain ⟨m, rfl⟩ : ∃ m, k = m + 1 := ⟨k - 1, by omega⟩; rw [h]; exact hk m (by omega)⟩
theorem Tot.lift {α : Type} {g : Nat → Option α} {P : α → Prop} (hm : ∀ k, LeO (g k) (g (k + 1))) {k : Nat} {r : α} (e : g k = some r) (h : P r) : Tot g P := ⟨k, r, h, fun _ hk => at_rounds hm hk e⟩
theorem Tot.congr {α : Type} {g f : Nat → Option α} {P : α → Prop} (h : ∀ k, g k = f k) (hf : Tot f P) : Tot g P := by
  obtain ⟨K, r, hr, hk⟩ := hf
  exact ⟨K, r, hr, fun k hk' => (h k).trans (hk k hk')⟩
theorem Tot.eq {α : Type} {g : Nat → Option α} {r : α} (h : Tot g (fun x => x = r)) : ∃ K, ∀ k, K ≤ k → g k = some r := by
  obtain ⟨K, x, hx, hk⟩ := h
  subst hx
  exact ⟨K, hk⟩
theorem Tot.done {g : Nat → Option Bool} (h : Tot g (fun x => x = true)) : ∃ k, g k = some true := by
  obtain ⟨K, hk⟩ := h.eq
  exact ⟨K, hk K (Nat.le_refl _)⟩

theorem bytesOf_append (a b : ByteArray) : bytesOf (a ++ b) = bytesOf a ++ bytesOf b := by
  unfold bytesOf
  rw [ByteArray.data_append, Array.toList_append, List.map_append]
theorem bytesOf_extract (a : ByteArray) (i j : Nat) : bytesOf (a.extract i j) = ((bytesOf a).drop i).take (j - i) := by
  unfold bytesOf
  rw [ByteArray.data_extract, Array.toList_extract, List.extract_eq_take_drop, List.map_take, List.map_drop]
theorem bytesOf_rest (a : ByteArray) (i : Nat) : bytesOf (a.extract i a.size) = (bytesOf a).drop i := by
  rw [bytesOf_extract, List.take_of_length_le]
  rw [List.length_drop, bytesOf_length]
  exact Nat.le_refl _
theorem toList_nil_iff (a : ByteArray) : a.toList = [] ↔ bytesOf a = [] := by
  rw [ByteArray.toList_eq]; unfold bytesOf; simp
theorem bt_get (a : ByteArray) (i : Nat) (h : i < a.size) : ∃ b l, (bytesOf a).drop i = b :: l ∧ bt a (i : Int) = b ∧ (bytesOf a).drop (i + 1) = l ∧ 0 ≤ b ∧ b ≤ 255 := by
  have hl : i < (bytesOf a).length := by rw [bytesOf_length]; exact h
  refine ⟨(bytesOf a)[i], (bytesOf a).drop (i + 1), List.drop_eq_getElem_cons hl, ?_, rfl, ?_⟩
  · rw [← rd_bytesOf]
    unfold rd
    rw [Int.toNat_natCast, List.getD_eq_getElem?_getD, List.getElem?_eq_getElem hl]
    rfl
  · have : ∀ x ∈ bytesOf a, 0 ≤ x ∧ x ≤ 255 := by
      intro x hx
      unfold bytesOf at hx
      obtain ⟨b, _, rfl⟩ := List.mem_map.1 hx
      have := b.toNat_lt
      omega
    exact this _ (List.getElem_mem _)

theorem bytesOf_bytes (s : ByteArray) : ∀ x ∈ bytesOf s, 0 ≤ x ∧ x < 256 := by
  intro x hx
  unfold bytesOf at hx
  obtain ⟨b, _, rfl⟩ := List.mem_map.1 hx
  have := b.toNat_lt
  omega
theorem cpy_bytes {xs ys : List Int} {lo m : Nat} (hx : ∀ x ∈ xs, 0 ≤ x ∧ x < 256) (hy : ∀ x ∈ ys, 0 ≤ x ∧ x < 256) : ∀ x ∈ cpy xs lo m ys, 0 ≤ x ∧ x < 256 := by
  intro x h
  unfold cpy at h
  rw [List.mem_append, List.mem_append] at h
  rcases h with (h | h) | h
  · exact hx x (List.mem_of_mem_take h)
  · exact hy x (List.mem_of_mem_take h)
  · exact hx x (List.mem_of_mem_drop h)
theorem cpy_get (xs ys : List Int) (lo m : Nat) (h : lo ≤ xs.length) (p : Nat) :
    (cpy xs lo m ys)[p]? = if lo ≤ p ∧ p < lo + min ys.length m then ys[p - lo]? else xs[p]? := by
  unfold cpy
  have h1 : (xs.take lo).length = lo := by rw [List.length_take]; omega
  have h2 : (xs.take lo ++ ys.take m).length = lo + min ys.length m := by rw [List.length_append, h1, List.length_take]; omega
  by_cases a : p < lo + min ys.length m
  · rw [List.getElem?_append_left (by omega)]
    by_cases b : lo ≤ p
    · rw [if_pos ⟨b, a⟩, List.getElem?_append_right (by omega), h1, List.getElem?_take, if_pos (by omega)]
    · rw [if_neg (by omega), List.getElem?_append_left (by omega), List.getElem?_take, if_pos (by omega)]
  · rw [if_neg (by omega), List.getElem?_append_right (by omega), h2, List.getElem?_drop, show lo + min ys.length m + (p - (lo + min ys.length m)) = p by omega]
theorem cpy_agree {xs ys : List Int} (hy : ys.length = xs.length) (lo m : Nat) (h : lo ≤ xs.length) (zs : List Int) (p : Nat) :
    (cpy ys lo m zs)[p]? = (cpy xs lo m zs)[p]? ∨ ((cpy ys lo m zs)[p]? = ys[p]? ∧ (cpy xs lo m zs)[p]? = xs[p]?) := by
  rw [cpy_get xs zs lo m h p, cpy_get ys zs lo m (by omega) p]
  by_cases c : lo ≤ p ∧ p < lo + min zs.length m
  · exact .inl (by rw [if_pos c, if_pos c])
  · exact .inr ⟨by rw [if_neg c], by rw [if_neg c]⟩
theorem bytesOf_strOfNums {xs : List Int} (h : ∀ x ∈ xs, 0 ≤ x ∧ x < 256) : bytesOf (strOfNums xs) = xs := by
  unfold bytesOf
  rw [strOfNums_data, List.map_map]
  conv => rhs; rw [← List.map_id xs]
  refine List.map_congr_left fun x hx => ?_
  have := h x hx
  simp only [Function.comp, id]
  rw [UInt8.toNat_ofNat']
  omega

/-- A list with another one laid over it from a place on. -/
def lay (xs : List Int) (lo : Nat) (ys : List Int) : List Int := xs.take lo ++ ys ++ xs.drop (lo + ys.length)
theorem lay_length {xs ys : List Int} {lo : Nat} (h : lo + ys.length ≤ xs.length) : (lay xs lo ys).length = xs.length := by
  unfold lay
  rw [List.length_append, List.length_append, List.length_take, List.length_drop]
  omega
theorem lay_bytes {xs ys : List Int} {lo : Nat} (hx : ∀ x ∈ xs, 0 ≤ x ∧ x < 256) (hy : ∀ x ∈ ys, 0 ≤ x ∧ x < 256) : ∀ x ∈ lay xs lo ys, 0 ≤ x ∧ x < 256 := by
  intro x h
  unfold lay at h
  rw [List.mem_append, List.mem_append] at h
  rcases h with (h | h) | h
  · exact hx x (List.mem_of_mem_take h)
  · exact hy x h
  · exact hx x (List.mem_of_mem_drop h)
theorem lay_get {xs ys : List Int} {lo : Nat} (h : lo + ys.length ≤ xs.length) (p : Nat) : (lay xs lo ys)[p]? = if lo ≤ p ∧ p < lo + ys.length then ys[p - lo]? else xs[p]? := by
  unfold lay
  have h1 : (xs.take lo).length = lo := by rw [List.length_take]; omega
  have h2 : (xs.take lo ++ ys).length = lo + ys.length := by rw [List.length_append, h1]
  by_cases a : p < lo + ys.length
  · rw [List.getElem?_append_left (by omega)]
    by_cases b : lo ≤ p
    · rw [if_pos ⟨b, a⟩, List.getElem?_append_right (by omega), h1]
    · rw [if_neg (by omega), List.getElem?_append_left (by omega), List.getElem?_take, if_pos (by omega)]
  · rw [if_neg (by omega), List.getElem?_append_right (by omega), h2, List.getElem?_drop, show lo + ys.length + (p - (lo + ys.length)) = p by omega]
theorem lay_one {xs : List Int} {lo : Nat} (h : lo < xs.length) (v : Int) : lay xs lo [v] = xs.set lo v := by
  apply List.ext_getElem?
  intro p
  rw [lay_get (by simp; omega), List.getElem?_set]
  by_cases c : lo = p
  · subst c; simp [h]
  · rw [if_neg (by simp; omega), if_neg c]
theorem lay_two {xs : List Int} {lo : Nat} (h : lo + 1 < xs.length) (v u : Int) : lay xs lo [v, u] = (xs.set lo v).set (lo + 1) u := by
  apply List.ext_getElem?
  intro p
  rw [lay_get (by simp; omega), List.getElem?_set, List.getElem?_set, List.length_set]
  by_cases c : lo + 1 = p
  · subst c; simp [h]
  · rw [if_neg c]
    by_cases d : lo = p
    · subst d; simp; omega
    · rw [if_neg d, if_neg (by simp; omega)]
theorem set_lay {xs ys : List Int} {lo : Nat} (h : lo + ys.length < xs.length) (v : Int) : (lay xs lo ys).set (lo + ys.length) v = lay xs lo (ys ++ [v]) := by
  apply List.ext_getElem?
  intro p
  rw [List.getElem?_set, lay_get (by omega), lay_get (by simp; omega), lay_length (by omega)]
  by_cases c : lo + ys.length = p
  · subst c; simp [h]
  · rw [if_neg c]
    by_cases d : lo ≤ p ∧ p < lo + ys.length
    · rw [if_pos d, if_pos (by simp; omega), List.getElem?_append_left (by omega)]
    · rw [if_neg d, if_neg (by simp; omega)]
theorem lay_nil (xs : List Int) (lo : Nat) : lay xs lo [] = xs := by unfold lay; simp
theorem set_bytes {xs : List Int} {i : Nat} {v : Int} (hx : ∀ x ∈ xs, 0 ≤ x ∧ x < 256) (h0 : 0 ≤ v) (h1 : v < 256) : ∀ x ∈ xs.set i v, 0 ≤ x ∧ x < 256 := by
  intro x h
  rcases List.mem_or_eq_of_mem_set h with h | h
  · exact hx x h
  · omega
theorem strOfNums_bytesOf (s : ByteArray) : strOfNums (bytesOf s) = s := by
  apply ByteArray.ext
  apply Array.toList_inj.1
  rw [strOfNums_data]
  unfold bytesOf
  rw [List.map_map]
  conv => rhs; rw [← List.map_id s.data.toList]
  refine List.map_congr_left fun x _ => ?_
  simp
theorem repeat_noughts (n : Nat) : bytesOf (⟨(Lib.repeatL [0] n).toArray⟩ : ByteArray) = List.replicate n 0 := by
  have h : Lib.repeatL [0] n = List.replicate n 0 := by
    have := Lib.repeatL_replicate 0 1 n
    rw [Nat.mul_one] at this
    exact this
  rw [h]
  unfold bytesOf
  simp

theorem banks_eq (a : ByteArray) : spec_l5Banks.f a = impl_banksOf.f a 2 := rfl
theorem banks_some (a : ByteArray) (hs : a.size ≤ 1048576) : ∃ b, spec_l5Banks.f a = some b ∧ (b ≠ 0 → 512 ≤ a.size) := by
  have e : wrap64 ((a.size : Int) / 256) = (a.size : Int) / 256 := w64_in (by omega) (by omega)
  unfold spec_l5Banks.f spec_l1In.f
  rw [e]
  by_cases h : ((a.size : Int) % 256) = 0
  · rw [if_pos h]
    by_cases h2 : ((a.size : Int) / 256) ≥ 2
    · rw [if_pos h2]
      by_cases h3 : ((a.size : Int) / 256) ≤ 16
      · exact ⟨(a.size : Int) / 256, by simp [h3], fun _ => by omega⟩
      · exact ⟨0, by simp [h3], fun h => absurd rfl h⟩
    · rw [if_neg h2]
      exact ⟨0, by simp, fun h => absurd rfl h⟩
  · rw [if_neg h]
    exact ⟨0, rfl, fun h => absurd rfl h⟩

theorem hs_sim (a : ByteArray) (h : 77 ≤ a.size) : ∀ (k : Nat) (i x y : Int), 0 ≤ i → i ≤ 77 → -(256 * i) ≤ x → x ≤ 0 → y = x % 256 →
    spec_HeaderSum.l0 k a x i = impl_HeaderSum.l0 k a y i := by
  intro k
  induction k with
  | zero => intros; rfl
  | succ k ih =>
    intro i x y h0 h1 hx hx2 hy
    simp only [spec_HeaderSum.l0, impl_HeaderSum.l0]
    have hb := bt_range a i
    by_cases hi : i < 77
    · rw [if_pos hi, if_pos hi, if_pos h0, if_pos h0, if_pos (by omega), if_pos (by omega), and255,
        w64_in (n := bt a i) (by omega) (by omega), w64_in (n := i + 1) (by omega) (by omega), w64_in (n := x - bt a i) (by omega) (by omega),
        w64_in (n := x - bt a i - 1) (by omega) (by omega), w64_in (n := y - bt a i) (by omega) (by omega), w64_in (n := y - bt a i - 1) (by omega) (by omega)]
      exact ih (i + 1) _ _ (by omega) (by omega) (by omega) (by omega) (by omega)
    · rw [if_neg hi, if_neg hi]
      congr 1
      rw [Int.tmod_eq_emod (a := x), w64_in (by split <;> omega) (by split <;> omega), tmod_pos _ (by split <;> omega)]
      split <;> omega

theorem hs_ends (a : ByteArray) (h : 77 ≤ a.size) : ∀ (k : Nat) (i x : Int), 0 ≤ i → i ≤ 77 → 77 - i < k → ∃ r, spec_HeaderSum.l0 k a x i = some r := by
  intro k
  induction k with
  | zero => intros; omega
  | succ k ih =>
    intro i x h0 h1 hk
    simp only [spec_HeaderSum.l0]
    by_cases hi : i < 77
    · rw [if_pos hi, if_pos h0, if_pos (by omega), w64_in (n := i + 1) (by omega) (by omega)]
      exact ih _ _ (by omega) (by omega) (by omega)
    · rw [if_neg hi]
      exact ⟨_, rfl⟩

theorem ws_sim (a : ByteArray) (h : a.size ≤ 1048576) : ∀ (k : Nat) (i x : Int), 0 ≤ i → i ≤ a.size → 0 ≤ x → x ≤ 255 * i →
    spec_WholeSum.l0 k a x i = impl_WholeSum.l0 k a x (a.size : Int) i := by
  intro k
  induction k with
  | zero => intros; rfl
  | succ k ih =>
    intro i x h0 h1 hx hx2
    simp only [spec_WholeSum.l0, impl_WholeSum.l0]
    have hb := bt_range a i
    by_cases hi : i < (a.size : Int)
    · rw [if_pos hi, if_pos hi, w64_in (n := i + 1) (by omega) (by omega)]
      by_cases e1 : i = 78
      · rw [if_pos e1, if_pos e1]
        exact ih _ _ (by omega) (by omega) (by omega) (by omega)
      · rw [if_neg e1, if_neg e1]
        by_cases e2 : i = 79
        · rw [if_pos e2, if_pos e2]
          exact ih _ _ (by omega) (by omega) (by omega) (by omega)
        · rw [if_neg e2, if_neg e2, if_pos h0, if_pos h0, if_pos hi, w64_in (n := bt a i) (by omega) (by omega), w64_in (n := x + bt a i) (by omega) (by omega)]
          exact ih _ _ (by omega) (by omega) (by omega) (by omega)
    · rw [if_neg hi, if_neg hi, and65535, tmod_pos _ hx]

theorem ws_ends (a : ByteArray) (h : a.size ≤ 1048576) : ∀ (k : Nat) (i x : Int), 0 ≤ i → i ≤ a.size → (a.size : Int) - i < k → ∃ r, spec_WholeSum.l0 k a x i = some r := by
  intro k
  induction k with
  | zero => intros; omega
  | succ k ih =>
    intro i x h0 h1 hk
    simp only [spec_WholeSum.l0]
    by_cases hi : i < (a.size : Int)
    · rw [if_pos hi, if_pos h0, w64_in (n := i + 1) (by omega) (by omega)]
      have hn := fun y => ih (i + 1) y (by omega) (by omega) (by omega)
      split
      · exact hn _
      · split
        · exact hn _
        · exact hn _
    · rw [if_neg hi]
      exact ⟨_, rfl⟩

theorem header_eq (a : ByteArray) (ha : a.size ≤ 1048576) (k : Nat) : spec_HeaderSum.f k a = impl_HeaderSum.f k a := by
  obtain ⟨b, hb, hb2⟩ := banks_some a ha
  unfold spec_HeaderSum.f impl_HeaderSum.f
  rw [← banks_eq, hb]
  simp only [Option.bind_some]
  by_cases hz : b = 0
  · rw [if_pos hz, if_pos hz]
  · have h5 := hb2 hz
    rw [if_neg hz, if_neg hz]
    exact hs_sim a (by omega) k 52 0 0 (by omega) (by omega) (by omega) (by omega) (by omega)
theorem whole_eq (a : ByteArray) (ha : a.size ≤ 1048576) (k : Nat) : spec_WholeSum.f k a = impl_WholeSum.f k a := by
  obtain ⟨b, hb, hb2⟩ := banks_some a ha
  unfold spec_WholeSum.f impl_WholeSum.f
  rw [← banks_eq, hb]
  simp only [Option.bind_some]
  by_cases hz : b = 0
  · rw [if_pos hz, if_pos hz]
  · rw [if_neg hz, if_neg hz]
    exact ws_sim a (by omega) k 0 0 (by omega) (by omega) (by omega) (by omega)
theorem header_T (a : ByteArray) (ha : a.size ≤ 1048576) : ∃ r, Tot (fun k => spec_HeaderSum.f k a) (fun x => x = r) := by
  obtain ⟨b, hb, hb2⟩ := banks_some a ha
  by_cases hz : b = 0
  · refine ⟨-1, 0, -1, rfl, fun k _ => ?_⟩
    show spec_HeaderSum.f k a = _
    unfold spec_HeaderSum.f
    rw [hb, Option.bind_some, if_pos hz]
  · obtain ⟨r, hr⟩ := hs_ends a (by have := hb2 hz; omega) 100 52 0 (by omega) (by omega) (by omega)
    refine ⟨r, Tot.lift (fun k => spec_HeaderSum.mono _ k) (k := 100) (r := r) ?_ rfl⟩
    unfold spec_HeaderSum.f
    rw [hb, Option.bind_some, if_neg hz]
    exact hr
theorem whole_T (a : ByteArray) (ha : a.size ≤ 1048576) : ∃ r, Tot (fun k => spec_WholeSum.f k a) (fun x => x = r) := by
  obtain ⟨b, hb, hb2⟩ := banks_some a ha
  by_cases hz : b = 0
  · refine ⟨-1, 0, -1, rfl, fun k _ => ?_⟩
    show spec_WholeSum.f k a = _
    unfold spec_WholeSum.f
    rw [hb, Option.bind_some, if_pos hz]
  · obtain ⟨r, hr⟩ := ws_ends a (by omega) (a.size + 1) 0 0 (by omega) (by omega) (by omega)
    refine ⟨r, Tot.lift (fun k => spec_WholeSum.mono _ k) (k := a.size + 1) (r := r) ?_ rfl⟩
    unfold spec_WholeSum.f
    rw [hb, Option.bind_some, if_neg hz]
    exact hr

theorem noughts_eq {n : Int} (h0 : 0 ≤ n) (h1 : n ≤ 1000000) : ∃ s, impl_noughts.f n = some s ∧ bytesOf s = List.replicate n.toNat 0 := by
  unfold impl_noughts.f strings_Repeat.f
  have e : (⟨#[0]⟩ : ByteArray).size = 1 := rfl
  rw [if_pos h0, if_pos (by omega), if_pos (by rw [e]; omega)]
  exact ⟨_, rfl, repeat_noughts _⟩
theorem laid_eq (s t : ByteArray) (at_ : Int) (h0 : 0 ≤ at_) (h1 : at_ + t.size ≤ s.size) (hs : s.size ≤ 1000000) : ∃ r, impl_laid.f s at_ t = some r ∧ bytesOf r = lay (bytesOf s) at_.toNat (bytesOf t) := by
  have e : wrap64 (at_ + (t.size : Int)) = at_ + t.size := w64_in (by omega) (by omega)
  have s1 : (s.extract 0 at_.toNat).size = at_.toNat := by rw [ByteArray.size_extract]; omega
  have s2 : (s.extract (at_ + (t.size : Int)).toNat s.size).size = s.size - (at_ + (t.size : Int)).toNat := by rw [ByteArray.size_extract]; omega
  unfold impl_laid.f
  rw [e, if_pos h0, if_pos (by omega), if_pos (by rw [s1]; omega), if_pos (by omega), if_pos h1, if_pos (by rw [ByteArray.size_append, s1, s2]; omega)]
  refine ⟨_, rfl, ?_⟩
  rw [bytesOf_append, bytesOf_append, bytesOf_rest, bytesOf_extract]
  unfold lay
  rw [List.drop_zero, Nat.sub_zero, bytesOf_length, show (at_ + (t.size : Int)).toNat = at_.toNat + t.size by omega]
theorem one_byte (n : Int) (k : Nat) (hk : 2 ≤ k) : ∃ s, impl_bytesOf.f k n 1 = some s ∧ bytesOf s = [n % 256] := by
  obtain ⟨k, rfl⟩ : ∃ q, k = q + 2 := ⟨k - 2, by omega⟩
  unfold impl_bytesOf.f
  rw [impl_bytesOf.l0, if_pos (by decide), if_pos (by decide), impl_bytesOf.l0, show wrap64 (1 - 1) = 0 by decide +kernel, if_neg (by decide)]
  refine ⟨_, rfl, bytesOf_strOfNums ?_⟩
  intro x hx
  simp only [List.nil_append, List.mem_singleton] at hx
  omega
def plainB (l : List Int) : Bool := l.all fun x => decide (32 ≤ x) && decide (x ≤ 126)
theorem plain_l0 (a : ByteArray) (ha : a.size ≤ 2000000) : ∀ (d k : Nat) (i : Nat), i + d = a.size → d < k → impl_isPlain.l0 k a (a.size : Int) (i : Int) = some (plainB ((bytesOf a).drop i))
  | 0, k, i, hi, hk => by
    obtain ⟨k, rfl⟩ : ∃ q, k = q + 1 := ⟨k - 1, by omega⟩
    rw [impl_isPlain.l0, if_neg (by omega), List.drop_of_length_le (by rw [bytesOf_length]; omega)]
    rfl
  | d + 1, k, i, hi, hk => by
    obtain ⟨k, rfl⟩ : ∃ q, k = q + 1 := ⟨k - 1, by omega⟩
    obtain ⟨b, l, e1, e2, e3, b0, b1⟩ := bt_get a i (by omega)
    rw [impl_isPlain.l0, if_pos (by omega), if_pos (by omega), if_pos (by omega), e2, e1]
    unfold plainB
    rw [List.all_cons]
    by_cases c1 : b < 32
    · rw [if_pos c1, decide_eq_false (show ¬ 32 ≤ b by omega)]; simp
    rw [if_neg c1, decide_eq_true (show 32 ≤ b by omega)]
    by_cases c2 : b > 126
    · rw [if_pos c2, decide_eq_false (show ¬ b ≤ 126 by omega)]; simp
    rw [if_neg c2, decide_eq_true (show b ≤ 126 by omega), w64_in (n := (i : Int) + 1) (by omega) (by omega)]
    have := plain_l0 a ha d k (i + 1) (by omega) (by omega)
    rw [e3] at this
    simpa [plainB] using this
theorem title_l0 (a : ByteArray) (ha : a.size ≤ 2000000) : ∀ (d k : Nat) (i : Nat), i + d = a.size → d < k → spec_l12Title.l0 k a (i : Int) = some (plainB ((bytesOf a).drop i) && decide ((a.size : Int) ≤ 15))
  | 0, k, i, hi, hk => by
    obtain ⟨k, rfl⟩ : ∃ q, k = q + 1 := ⟨k - 1, by omega⟩
    rw [spec_l12Title.l0, if_neg (by omega), List.drop_of_length_le (by rw [bytesOf_length]; omega)]
    simp [plainB]
  | d + 1, k, i, hi, hk => by
    obtain ⟨k, rfl⟩ : ∃ q, k = q + 1 := ⟨k - 1, by omega⟩
    obtain ⟨b, l, e1, e2, e3, b0, b1⟩ := bt_get a i (by omega)
    rw [spec_l12Title.l0, if_pos (by omega), if_pos (by omega), e2, e1]
    unfold plainB
    rw [List.all_cons]
    by_cases c1 : b < 32
    · rw [if_pos c1, decide_eq_false (show ¬ 32 ≤ b by omega)]; simp
    rw [if_neg c1, decide_eq_true (show 32 ≤ b by omega)]
    by_cases c2 : b > 126
    · rw [if_pos c2, decide_eq_false (show ¬ b ≤ 126 by omega)]; simp
    rw [if_neg c2, decide_eq_true (show b ≤ 126 by omega), w64_in (n := (i : Int) + 1) (by omega) (by omega)]
    have := title_l0 a ha d k (i + 1) (by omega) (by omega)
    rw [e3] at this
    simpa [plainB] using this
theorem plain_T (a : ByteArray) (ha : a.size ≤ 2000000) : Tot (fun k => impl_isPlain.f k a) (fun r => r = plainB (bytesOf a)) := by
  refine ⟨a.size + 1, _, rfl, fun k hk => ?_⟩
  have := plain_l0 a ha a.size k 0 (by omega) (by omega)
  rw [List.drop_zero] at this
  exact this
theorem title_T (a : ByteArray) (ha : a.size ≤ 2000000) : Tot (fun k => spec_l12Title.f k a) (fun r => r = (plainB (bytesOf a) && decide ((a.size : Int) ≤ 15))) := by
  refine ⟨a.size + 1, _, rfl, fun k hk => ?_⟩
  have := title_l0 a ha a.size k 0 (by omega) (by omega)
  rw [List.drop_zero] at this
  exact this
def up (n : Int) : Int := if n ≤ 2 then 2 else if n ≤ 4 then 4 else if n ≤ 8 then 8 else 16
def szOf (n : Int) : Int := if n ≤ 2 then 0 else if n ≤ 4 then 1 else if n ≤ 8 then 2 else 3
theorem cases16 {n : Int} (h0 : 1 ≤ n) (h1 : n ≤ 16) : n = 1 ∨ n = 2 ∨ n = 3 ∨ n = 4 ∨ n = 5 ∨ n = 6 ∨ n = 7 ∨ n = 8 ∨ n = 9 ∨ n = 10 ∨ n = 11 ∨ n = 12 ∨ n = 13 ∨ n = 14 ∨ n = 15 ∨ n = 16 := by omega
theorem doubled_T {n : Int} (h0 : 1 ≤ n) (h1 : n ≤ 16) : Tot (fun k => impl_doubled.f k n) (fun r => r = if n = up n then (szOf n, true) else (0, false)) := by
  refine Tot.lift (fun k => impl_doubled.mono _ k) (k := 6) (r := if n = up n then (szOf n, true) else (0, false)) ?_ rfl
  rcases cases16 h0 h1 with h | h | h | h | h | h | h | h | h | h | h | h | h | h | h | h <;> subst h <;> decide +kernel
theorem code_T {n : Int} (h : n = 2 ∨ n = 4 ∨ n = 8 ∨ n = 16) : Tot (fun k => spec_l12Code.f k n) (fun r => r = szOf n) := by
  refine Tot.lift (fun k => spec_l12Code.mono _ k) (k := 6) (r := szOf n) ?_ rfl
  rcases h with h | h | h | h <;> subst h <;> decide +kernel
theorem up_le {n : Int} (h0 : 1 ≤ n) (h1 : n ≤ 16) : n ≤ up n ∧ (up n = 2 ∨ up n = 4 ∨ up n = 8 ∨ up n = 16) ∧ up (up n) = up n ∧ szOf (up n) = szOf n := by
  rcases cases16 h0 h1 with h | h | h | h | h | h | h | h | h | h | h | h | h | h | h | h <;> subst h <;> decide
theorem up_next {n : Int} (h0 : 1 ≤ n) (h1 : n ≤ 16) (h : ¬ n = up n) : n + 1 ≤ 16 ∧ up (n + 1) = up n := by
  rcases cases16 h0 h1 with e | e | e | e | e | e | e | e | e | e | e | e | e | e | e | e <;> subst e <;> revert h <;> decide
/-- The program's loop comes to the next number of banks that is doubled. -/
theorem impl_banks_T (a b : ByteArray) (c : Int) (P : ByteArray × Bool → Prop) : ∀ (d : Nat) (n : Int), 1 ≤ n → n ≤ 16 → up n - n = d → Tot (fun k => impl_Fixed.l0 k a b c (up n) (szOf (up n)) true) P →
    Tot (fun k => (impl_doubled.f k n).bind fun t => impl_Fixed.l0 k a b c n t.1 t.2) P := by
  intro d
  induction d with
  | zero =>
    intro n h0 h1 hd ht
    refine Tot.bind (doubled_T h0 h1) ?_
    rintro r rfl
    have e : n = up n := by omega
    rw [if_pos e]
    rw [← e] at ht
    exact ht
  | succ d ih =>
    intro n h0 h1 hd ht
    refine Tot.bind (doubled_T h0 h1) ?_
    rintro r rfl
    have e : ¬ n = up n := by omega
    obtain ⟨e1, e2⟩ := up_next h0 h1 e
    rw [if_neg e]
    refine Tot.step (f := fun k => (impl_doubled.f k (n + 1)).bind fun t => impl_Fixed.l0 k a b c (n + 1) t.1 t.2) (fun k => ?_) (ih (n + 1) (by omega) e1 (by omega) (by rw [e2]; exact ht))
    rw [impl_Fixed.l0, if_neg (by decide), w64_in (n := n + 1) (by omega) (by omega)]
/-- .. and the reference's. -/
theorem spec_banks_T (a b : ByteArray) (c : Int) (n : Int) (h0 : 1 ≤ n) (h1 : n ≤ 16) (P : ByteArray × Bool → Prop) (ht : Tot (fun k => spec_Fixed.l0 k a b c n (up n)) P) : Tot (fun k => spec_Fixed.l0 k a b c n 2) P := by
  have step : ∀ m : Int, m < n → m ≤ 8 → 2 ≤ m → Tot (fun k => spec_Fixed.l0 k a b c n (2 * m)) P → Tot (fun k => spec_Fixed.l0 k a b c n m) P := by
    intro m hm h8 h2 h
    refine Tot.step (f := fun k => spec_Fixed.l0 k a b c n (2 * m)) (fun k => ?_) h
    rw [spec_Fixed.l0, if_pos hm, w64_in (n := 2 * m) (by omega) (by omega)]
  unfold up at ht
  by_cases c2 : n ≤ 2
  · rw [if_pos c2] at ht; exact ht
  rw [if_neg c2] at ht
  refine step 2 (by omega) (by omega) (by omega) ?_
  by_cases c4 : n ≤ 4
  · rw [if_pos c4] at ht; exact ht
  rw [if_neg c4] at ht
  refine step (2 * 2) (by omega) (by omega) (by omega) ?_
  by_cases c8 : n ≤ 8
  · rw [if_pos c8] at ht; exact ht
  rw [if_neg c8] at ht
  exact step (2 * (2 * 2)) (by omega) (by omega) (by omega) ht
/-- What both come to, in lists. -/
def y1 (xs ts : List Int) (n : Int) : List Int := lay (xs ++ List.replicate ((up n * 256).toNat - xs.length) 0) 52 (ts ++ List.replicate (15 - ts.length) 0)
def y2 (xs ts : List Int) (n c : Int) : List Int := ((y1 xs ts n).set 71 (c % 256)).set 72 (szOf (up n) % 256)
def y3 (xs ts : List Int) (n c r : Int) : List Int := (y2 xs ts n c).set 77 (r % 256)
def y4 (xs ts : List Int) (n c r s : Int) : List Int := ((y3 xs ts n c r).set 78 (s / 256 % 256)).set 79 (s % 256)
theorem tt_length {ts : List Int} (ht : ts.length ≤ 15) : (ts ++ List.replicate (15 - ts.length) (0 : Int)).length = 15 := by rw [List.length_append, List.length_replicate]; omega
theorem y1_length {xs ts : List Int} {n : Int} (h : (xs.length : Int) ≤ up n * 256) (ht : ts.length ≤ 15) (hn : 2 ≤ up n) : (y1 xs ts n).length = (up n * 256).toNat := by
  have hl : (xs ++ List.replicate ((up n * 256).toNat - xs.length) (0 : Int)).length = (up n * 256).toNat := by rw [List.length_append, List.length_replicate]; omega
  unfold y1
  rw [lay_length (by rw [hl, tt_length ht]; omega), hl]
theorem y1_bytes {xs ts : List Int} {n : Int} (hx : ∀ x ∈ xs, 0 ≤ x ∧ x < 256) (ht : ∀ x ∈ ts, 0 ≤ x ∧ x < 256) : ∀ x ∈ y1 xs ts n, 0 ≤ x ∧ x < 256 := by
  have hr : ∀ (m : Nat), ∀ x ∈ List.replicate m (0 : Int), 0 ≤ x ∧ x < 256 := by
    intro m x hx
    rw [List.eq_of_mem_replicate hx]
    omega
  unfold y1
  refine lay_bytes ?_ ?_ <;> intro x hx' <;> rw [List.mem_append] at hx' <;> rcases hx' with hx' | hx'
  · exact hx x hx'
  · exact hr _ x hx'
  · exact ht x hx'
  · exact hr _ x hx'
theorem mod_byte (v : Int) : 0 ≤ v % 256 ∧ v % 256 < 256 := by omega

theorem y2_props {xs ts : List Int} {n c : Int} (hx : ∀ x ∈ xs, 0 ≤ x ∧ x < 256) (ht : ∀ x ∈ ts, 0 ≤ x ∧ x < 256) (h : (xs.length : Int) ≤ up n * 256) (hl : ts.length ≤ 15) (hn : 2 ≤ up n) :
    (y2 xs ts n c).length = (up n * 256).toNat ∧ ∀ x ∈ y2 xs ts n c, 0 ≤ x ∧ x < 256 := by
  unfold y2
  refine ⟨by rw [List.length_set, List.length_set, y1_length h hl hn], ?_⟩
  exact set_bytes (set_bytes (y1_bytes hx ht) (mod_byte _).1 (mod_byte _).2) (mod_byte _).1 (mod_byte _).2
theorem y3_props {xs ts : List Int} {n c r : Int} (hx : ∀ x ∈ xs, 0 ≤ x ∧ x < 256) (ht : ∀ x ∈ ts, 0 ≤ x ∧ x < 256) (h : (xs.length : Int) ≤ up n * 256) (hl : ts.length ≤ 15) (hn : 2 ≤ up n) :
    (y3 xs ts n c r).length = (up n * 256).toNat ∧ ∀ x ∈ y3 xs ts n c r, 0 ≤ x ∧ x < 256 := by
  obtain ⟨h1, h2⟩ := y2_props (c := c) hx ht h hl hn
  unfold y3
  exact ⟨by rw [List.length_set, h1], set_bytes h2 (mod_byte _).1 (mod_byte _).2⟩
/-- The reference's loop over the title. -/
theorem spec_title_T (b : ByteArray) (c m : Int) (hb : b.size ≤ 15) (L : List Int) (hL : 100 ≤ L.length) (hL2 : L.length ≤ 1000000) (P : ByteArray × Bool → Prop) (ht : Tot (fun k => spec_Fixed.l1 k b c m (lay L 52 (bytesOf b ++ List.replicate (15 - b.size) 0)) 15) P) :
    ∀ (d i : Nat), i + d = 15 → Tot (fun k => spec_Fixed.l1 k b c m (lay L 52 ((bytesOf b ++ List.replicate (15 - b.size) 0).take i)) (i : Int)) P := by
  have hz : (bytesOf b ++ List.replicate (15 - b.size) (0 : Int)).length = 15 := by rw [List.length_append, List.length_replicate, bytesOf_length]; omega
  intro d
  induction d with
  | zero =>
    intro i hi
    obtain rfl : i = 15 := by omega
    rw [List.take_of_length_le (by omega)]
    exact ht
  | succ d ih =>
    intro i hi
    have hlt : (((bytesOf b ++ List.replicate (15 - b.size) (0 : Int)).take i)).length = i := by rw [List.length_take, hz]; omega
    have hll : (lay L 52 ((bytesOf b ++ List.replicate (15 - b.size) (0 : Int)).take i)).length = L.length := lay_length (by rw [hlt]; omega)
    have hi2 : i < (bytesOf b ++ List.replicate (15 - b.size) (0 : Int)).length := by omega
    have next : ∀ v, v = (bytesOf b ++ List.replicate (15 - b.size) (0 : Int))[i] → (lay L 52 ((bytesOf b ++ List.replicate (15 - b.size) (0 : Int)).take i)).set (52 + i) v = lay L 52 ((bytesOf b ++ List.replicate (15 - b.size) (0 : Int)).take (i + 1)) := by
      intro v hv
      have := set_lay (xs := L) (ys := (bytesOf b ++ List.replicate (15 - b.size) (0 : Int)).take i) (lo := 52) (by rw [hlt]; omega) v
      rw [hlt] at this
      rw [this, List.take_succ_eq_append_getElem hi2, hv]
    have e52 : wrap64 (52 + (i : Int)) = 52 + i := w64_in (by omega) (by omega)
    have en : (52 + (i : Int)).toNat = 52 + i := by omega
    refine Tot.step (f := fun k => spec_Fixed.l1 k b c m (lay L 52 ((bytesOf b ++ List.replicate (15 - b.size) 0).take (i + 1))) ((i + 1 : Nat) : Int)) (fun k => ?_) (ih (i + 1) (by omega))
    rw [spec_Fixed.l1, if_pos (by omega), e52, if_pos (by omega), if_pos (by rw [hll]; omega), Option.bind_some, en, w64_in (n := (i : Int) + 1) (by omega) (by omega)]
    by_cases hc : (i : Int) < (b.size : Int)
    · rw [if_pos hc, if_pos (by omega), List.set_set]
      obtain ⟨v, l, e1, e2, e3, b0, b1⟩ := bt_get b i (by omega)
      have hv : v = (bytesOf b ++ List.replicate (15 - b.size) (0 : Int))[i] := by
        rw [List.getElem_append_left (by rw [bytesOf_length]; omega)]
        rw [List.drop_eq_getElem_cons (by rw [bytesOf_length]; omega)] at e1
        injection e1 with e1 _
        exact e1.symm
      rw [e2, next v hv]
      rfl
    · rw [if_neg hc]
      have hv : (0 : Int) = (bytesOf b ++ List.replicate (15 - b.size) (0 : Int))[i] := by
        rw [List.getElem_append_right (by rw [bytesOf_length]; omega), List.getElem_replicate]
      rw [next 0 hv]
      rfl
theorem spec_tail_T (a b : ByteArray) (c n : Int) (ha : (a.size : Int) ≤ up n * 256) (hb : b.size ≤ 15) (hn : n ≤ up n) (h2 : up n = 2 ∨ up n = 4 ∨ up n = 8 ∨ up n = 16) (hu : up (up n) = up n) {r s : Int}
    (hr : Tot (fun k => spec_HeaderSum.f k (strOfNums (y2 (bytesOf a) (bytesOf b) n c))) (fun x => x = r)) (hs : Tot (fun k => spec_WholeSum.f k (strOfNums (y3 (bytesOf a) (bytesOf b) n c r))) (fun x => x = s)) :
    Tot (fun k => spec_Fixed.l0 k a b c n (up n)) (fun x => x = (strOfNums (y4 (bytesOf a) (bytesOf b) n c r s), true)) := by
  have hM : wrap64 (up n * 256) = up n * 256 := w64_in (by omega) (by omega)
  have hla := bytesOf_length a
  have hL : cpy (List.replicate (up n * 256).toNat 0) 0 (List.replicate (up n * 256).toNat (0 : Int)).length (bytesOf a) = bytesOf a ++ List.replicate ((up n * 256).toNat - (bytesOf a).length) 0 := by
    unfold cpy
    rw [List.take_zero, List.nil_append, List.length_replicate, List.take_of_length_le (by omega), List.drop_replicate]
    congr 2
    omega
  have hll : (bytesOf a ++ List.replicate ((up n * 256).toNat - (bytesOf a).length) (0 : Int)).length = (up n * 256).toNat := by rw [List.length_append, List.length_replicate]; omega
  refine Tot.step (f := fun k => spec_Fixed.l1 k b c (up n) (bytesOf a ++ List.replicate ((up n * 256).toNat - (bytesOf a).length) 0) 0) (fun k => ?_) ?_
  · rw [spec_Fixed.l0, if_neg (by omega), hM, if_pos (by omega), if_pos (by omega), Option.bind_some, hL]
  have hfin : Tot (fun k => spec_Fixed.l1 k b c (up n) (lay (bytesOf a ++ List.replicate ((up n * 256).toNat - (bytesOf a).length) 0) 52 (bytesOf b ++ List.replicate (15 - b.size) 0)) 15) (fun x => x = (strOfNums (y4 (bytesOf a) (bytesOf b) n c r s), true)) := by
    have hy : lay (bytesOf a ++ List.replicate ((up n * 256).toNat - (bytesOf a).length) 0) 52 (bytesOf b ++ List.replicate (15 - b.size) 0) = y1 (bytesOf a) (bytesOf b) n := by
      unfold y1
      rw [bytesOf_length b]
    rw [hy]
    have hyl := y1_length (xs := bytesOf a) (ts := bytesOf b) (n := n) (by rw [hla]; exact ha) (by rw [bytesOf_length]; exact hb) (by omega)
    have c1 : 71 < ((y1 (bytesOf a) (bytesOf b) n).length : Int) := by rw [hyl]; omega
    have c2 : 72 < ((y1 (bytesOf a) (bytesOf b) n).length : Int) := by rw [hyl]; omega
    have c3 : 77 < ((y1 (bytesOf a) (bytesOf b) n).length : Int) := by rw [hyl]; omega
    have c4 : 78 < ((y1 (bytesOf a) (bytesOf b) n).length : Int) := by rw [hyl]; omega
    have c5 : 79 < ((y1 (bytesOf a) (bytesOf b) n).length : Int) := by rw [hyl]; omega
    refine Tot.step (f := fun k => (spec_l12Code.f k (up n)).bind fun t => (spec_HeaderSum.f k (strOfNums (((y1 (bytesOf a) (bytesOf b) n).set 71 (c % 256)).set 72 (t % 256)))).bind fun t2 => (spec_WholeSum.f k (strOfNums ((((y1 (bytesOf a) (bytesOf b) n).set 71 (c % 256)).set 72 (t % 256)).set 77 (t2 % 256)))).bind fun t3 => some (strOfNums ((((((y1 (bytesOf a) (bytesOf b) n).set 71 (c % 256)).set 72 (t % 256)).set 77 (t2 % 256)).set 78 (t3 / 256 % 256)).set 79 (t3 % 256)), true)) (fun k => ?_) ?_
    · rw [spec_Fixed.l1, if_neg (by decide), if_pos c1]
      simp only [if_pos c2, if_pos c3, if_pos c4, if_pos c5, Option.bind_some]
      rfl
    refine Tot.bind (code_T h2) ?_
    rintro _ rfl
    refine Tot.bind hr ?_
    rintro _ rfl
    refine Tot.bind hs ?_
    rintro _ rfl
    exact Tot.ret rfl
  have := spec_title_T b c (up n) hb _ (by rw [hll]; omega) (by rw [hll]; omega) _ hfin 15 0 (by omega)
  rw [List.take_zero, lay_nil] at this
  exact this

theorem one_byte_T (n : Int) : Tot (fun k => impl_bytesOf.f k n 1) (fun s => bytesOf s = [n % 256]) := by
  obtain ⟨s, e, h⟩ := one_byte n 2 (Nat.le_refl _)
  exact Tot.lift (fun k => impl_bytesOf.mono _ _ k) e h
theorem size_of_bytes {s : ByteArray} {l : List Int} (h : bytesOf s = l) : s.size = l.length := by rw [← h, bytesOf_length]
theorem str_of_bytes {s : ByteArray} {l : List Int} (h : bytesOf s = l) : s = strOfNums l := by rw [← h, strOfNums_bytesOf]
theorem lay_one_byte {s t r : ByteArray} {L : List Int} {i : Nat} {v : Int} (hr : bytesOf r = lay (bytesOf s) i (bytesOf t)) (hs : bytesOf s = L) (ht : bytesOf t = [v]) (hi : i < L.length) : bytesOf r = L.set i v := by
  rw [hr, hs, ht, lay_one hi]
theorem impl_tail_T (a b : ByteArray) (c n : Int) (ha : (a.size : Int) ≤ up n * 256) (hb : b.size ≤ 15) (h2 : up n = 2 ∨ up n = 4 ∨ up n = 8 ∨ up n = 16) {r s : Int}
    (hr : Tot (fun k => impl_HeaderSum.f k (strOfNums (y2 (bytesOf a) (bytesOf b) n c))) (fun x => x = r)) (hs : Tot (fun k => impl_WholeSum.f k (strOfNums (y3 (bytesOf a) (bytesOf b) n c r))) (fun x => x = s)) :
    Tot (fun k => impl_Fixed.l0 k a b c (up n) (szOf (up n)) true) (fun x => x = (strOfNums (y4 (bytesOf a) (bytesOf b) n c r s), true)) := by
  have hla := bytesOf_length a
  have hlb := bytesOf_length b
  obtain ⟨z1, e1, b1⟩ := noughts_eq (n := up n * 256 - a.size) (by omega) (by omega)
  obtain ⟨z2, e2, b2⟩ := noughts_eq (n := 15 - b.size) (by omega) (by omega)
  have s1 := size_of_bytes b1
  have s2 := size_of_bytes b2
  rw [List.length_replicate] at s1 s2
  have w1 : wrap64 (wrap64 (up n * 256) - (a.size : Int)) = up n * 256 - a.size := by rw [w64_in (n := up n * 256) (by omega) (by omega)]; exact w64_in (by omega) (by omega)
  have w2 : wrap64 (15 - (b.size : Int)) = 15 - b.size := w64_in (by omega) (by omega)
  have hs1 : (a ++ z1).size = (up n * 256).toNat := by rw [ByteArray.size_append]; omega
  have hs2 : (b ++ z2).size = 15 := by rw [ByteArray.size_append]; omega
  obtain ⟨t1, f1, g1⟩ := laid_eq (a ++ z1) (b ++ z2) 52 (by omega) (by omega) (by omega)
  have hy1 : bytesOf t1 = y1 (bytesOf a) (bytesOf b) n := by
    rw [g1, bytesOf_append, bytesOf_append, b1, b2]
    unfold y1
    rw [hla, hlb, show (52 : Int).toNat = 52 from rfl, show (up n * 256 - (a.size : Int)).toNat = (up n * 256).toNat - a.size by omega, show ((15 : Int) - (b.size : Int)).toNat = 15 - b.size by omega]
  have hyl := y1_length (xs := bytesOf a) (ts := bytesOf b) (n := n) (by rw [hla]; exact ha) (by rw [hlb]; exact hb) (by omega)
  have st1 := size_of_bytes hy1
  rw [hyl] at st1
  refine Tot.step (fun k => impl_Fixed.l0.eq_2 _ _ _ _ _ _ k) ?_
  rw [w1, w2]
  refine Tot.yes rfl (Tot.bind (Tot.of e1 rfl) ?_)
  rintro _ rfl
  refine Tot.yes (by omega) (Tot.bind (Tot.of e2 rfl) ?_)
  rintro _ rfl
  refine Tot.yes (by omega) (Tot.bind (Tot.of f1 rfl) ?_)
  rintro _ rfl
  refine Tot.bind (one_byte_T c) ?_
  intro t2 h2'
  have st2 := size_of_bytes h2'
  obtain ⟨t3, f3, g3⟩ := laid_eq t1 t2 71 (by omega) (by rw [st2]; simp only [List.length_singleton]; omega) (by omega)
  have k3 := lay_one_byte g3 hy1 h2' (by rw [hyl]; show 71 < _; omega)
  have st3 := size_of_bytes k3
  rw [List.length_set, hyl] at st3
  refine Tot.bind (Tot.of f3 rfl) ?_
  rintro _ rfl
  refine Tot.bind (one_byte_T _) ?_
  intro t4 h4
  have st4 := size_of_bytes h4
  obtain ⟨t5, f5, g5⟩ := laid_eq t3 t4 72 (by omega) (by rw [st4]; simp only [List.length_singleton]; omega) (by omega)
  have k5 := lay_one_byte g5 k3 h4 (by rw [List.length_set, hyl]; show 72 < _; omega)
  have k5' : bytesOf t5 = y2 (bytesOf a) (bytesOf b) n c := k5
  have st5 := size_of_bytes k5
  rw [List.length_set, List.length_set, hyl] at st5
  refine Tot.bind (Tot.of f5 rfl) ?_
  rintro _ rfl
  rw [← str_of_bytes k5'] at hr
  refine Tot.bind hr ?_
  intro q_ hq_
  rw [show q_ = r from hq_]
  refine Tot.bind (one_byte_T _) ?_
  intro t6 h6
  have st6 := size_of_bytes h6
  obtain ⟨t7, f7, g7⟩ := laid_eq t5 t6 77 (by omega) (by rw [st6]; simp only [List.length_singleton]; omega) (by omega)
  have k7 := lay_one_byte g7 k5 h6 (by rw [List.length_set, List.length_set, hyl]; show 77 < _; omega)
  have k7' : bytesOf t7 = y3 (bytesOf a) (bytesOf b) n c r := k7
  have st7 := size_of_bytes k7
  rw [List.length_set, List.length_set, List.length_set, hyl] at st7
  refine Tot.bind (Tot.of f7 rfl) ?_
  rintro _ rfl
  rw [← str_of_bytes k7'] at hs
  refine Tot.bind hs ?_
  intro q2_ hq2_
  rw [show q2_ = s from hq2_]
  refine Tot.bind (one_byte_T _) ?_
  intro t8 h8
  have st8 := size_of_bytes h8
  refine Tot.bind (one_byte_T _) ?_
  intro t9 h9
  have st9 := size_of_bytes h9
  simp only [List.length_singleton] at st8 st9
  have hs9 : (t8 ++ t9).size = 2 := by rw [ByteArray.size_append]; omega
  obtain ⟨ta, fa, ga⟩ := laid_eq t7 (t8 ++ t9) 78 (by omega) (by omega) (by omega)
  refine Tot.yes (by omega) (Tot.bind (Tot.of fa rfl) ?_)
  rintro _ rfl
  refine Tot.ret ?_
  have ka : bytesOf ta = y4 (bytesOf a) (bytesOf b) n c r s := by
    rw [ga, k7', bytesOf_append, h8, h9]
    have hl3 : (y3 (bytesOf a) (bytesOf b) n c r).length = (up n * 256).toNat := by rw [← size_of_bytes k7']; exact st7
    exact lay_two (by rw [hl3]; show 79 < _; omega) _ _
  rw [str_of_bytes ka]
theorem within_eq (a lo hi : Int) : impl_within.f a lo hi = some (decide (lo ≤ a ∧ a ≤ hi)) := by
  unfold impl_within.f
  by_cases h : a ≥ lo
  · rw [if_pos h]; simp [show lo ≤ a from h]
  · rw [if_neg h]; simp [show ¬ lo ≤ a from h]
theorem l1In_eq (a lo hi : Int) : spec_l1In.f a lo hi = some (decide (lo ≤ a ∧ a ≤ hi)) := within_eq a lo hi
/-- Is what is asked right? -/
def fixOk (a b : ByteArray) (c : Int) : Bool := decide ((a.size : Int) % 256 = 0 ∧ 1 ≤ (a.size : Int) / 256 ∧ (a.size : Int) / 256 ≤ 16) && (plainB (bytesOf b) && decide ((b.size : Int) ≤ 15)) && decide (0 ≤ c ∧ c ≤ 2)
theorem impl_no_T (a b : ByteArray) (c n : Int) : Tot (fun k => impl_Fixed.j0 k a b c n true) (fun x => x = ((⟨#[]⟩ : ByteArray), false)) := Tot.step (fun k => impl_Fixed.j0.eq_2 _ _ _ _ _ k) (Tot.yes rfl (Tot.ret rfl))
theorem spec_no_T (a b : ByteArray) (c n : Int) : Tot (fun k => spec_Fixed.j0 k a b c n true) (fun x => x = ((⟨#[]⟩ : ByteArray), false)) := Tot.step (fun k => spec_Fixed.j0.eq_2 _ _ _ _ _ k) (Tot.yes rfl (Tot.ret rfl))
theorem fixed_T (a b : ByteArray) (c : Int) (ha : a.size ≤ 1048576) (hb : b.size ≤ 1048576) : ∃ x, Tot (fun k => spec_Fixed.f k a b c) (fun y => y = x) ∧ Tot (fun k => impl_Fixed.f k a b c) (fun y => y = x) := by
  have hw : wrap64 ((a.size : Int) / 256) = (a.size : Int) / 256 := w64_in (by omega) (by omega)
  have hspec : ∀ P : ByteArray × Bool → Prop, P ((⟨#[]⟩ : ByteArray), false) → (fixOk a b c = true → Tot (fun k => spec_Fixed.j0 k a b c ((a.size : Int) / 256) false) P) → Tot (fun k => spec_Fixed.f k a b c) P := by
    intro P hn hy
    have no := (spec_no_T a b c ((a.size : Int) / 256)).mono (Q := P) (fun x hx => hx ▸ hn)
    unfold spec_Fixed.f
    rw [hw]
    refine Tot.ite (fun h0 => ?_) (fun _ => no)
    refine Tot.bind (Tot.of (l1In_eq _ _ _) rfl) ?_
    rintro _ rfl
    refine Tot.ite (fun h1 => ?_) (fun _ => no)
    refine Tot.bind (title_T b (by omega)) ?_
    rintro _ rfl
    refine Tot.ite (fun h2 => ?_) (fun _ => no)
    refine Tot.bind (Tot.of (l1In_eq _ _ _) rfl) ?_
    rintro _ rfl
    by_cases h3 : 0 ≤ c ∧ c ≤ 2
    · rw [decide_eq_true h3]
      refine hy ?_
      unfold fixOk
      rw [h2, decide_eq_true h3, decide_eq_true (And.intro h0 (of_decide_eq_true h1))]
      rfl
    · rw [decide_eq_false h3]
      exact no
  have himpl : ∀ P : ByteArray × Bool → Prop, P ((⟨#[]⟩ : ByteArray), false) → (fixOk a b c = true → Tot (fun k => impl_Fixed.j0 k a b c ((a.size : Int) / 256) false) P) → Tot (fun k => impl_Fixed.f k a b c) P := by
    intro P hn hy
    have no := fun n => (impl_no_T a b c n).mono (Q := P) (fun x hx => hx ▸ hn)
    unfold impl_Fixed.f impl_banksOf.f
    rw [hw, within_eq]
    by_cases h0 : (a.size : Int) % 256 = 0
    rotate_left
    · rw [if_neg h0]
      refine Tot.bind (Tot.of rfl rfl) ?_
      rintro _ rfl
      exact Tot.yes rfl (no 0)
    rw [if_pos h0]
    by_cases h1 : 1 ≤ (a.size : Int) / 256 ∧ (a.size : Int) / 256 ≤ 16
    rotate_left
    · rw [decide_eq_false h1]
      refine Tot.bind (Tot.of rfl rfl) ?_
      rintro _ rfl
      exact Tot.yes rfl (no 0)
    rw [decide_eq_true h1]
    refine Tot.bind (Tot.of rfl rfl) ?_
    rintro _ rfl
    refine Tot.no (by omega) (Tot.ite (fun _ => no _) (fun h15 => ?_))
    refine Tot.bind (plain_T b (by omega)) ?_
    rintro _ rfl
    refine Tot.ite (fun h2 => ?_) (fun _ => no _)
    refine Tot.bind (Tot.of (within_eq _ _ _) rfl) ?_
    rintro _ rfl
    by_cases h3 : 0 ≤ c ∧ c ≤ 2
    · rw [decide_eq_true h3]
      refine hy ?_
      unfold fixOk
      rw [h2, decide_eq_true h3, decide_eq_true (And.intro h0 h1), decide_eq_true (show (b.size : Int) ≤ 15 by omega)]
      rfl
    · rw [decide_eq_false h3]
      exact no _
  by_cases ho : fixOk a b c = true
  · have ho' := ho
    unfold fixOk at ho'
    simp only [Bool.and_eq_true, decide_eq_true_eq] at ho'
    obtain ⟨⟨⟨h0, h1, h2⟩, _, h3⟩, _⟩ := ho'
    obtain ⟨u1, u2, u3, u4⟩ := up_le h1 h2
    have hla := bytesOf_length a
    have hlb := bytesOf_length b
    have haL : ((bytesOf a).length : Int) ≤ up ((a.size : Int) / 256) * 256 := by rw [hla]; omega
    have p2 := y2_props (xs := bytesOf a) (ts := bytesOf b) (n := (a.size : Int) / 256) (c := c) (bytesOf_bytes a) (bytesOf_bytes b) haL (by omega) (by omega)
    obtain ⟨r, hr⟩ := header_T (strOfNums (y2 (bytesOf a) (bytesOf b) ((a.size : Int) / 256) c)) (by rw [strOfNums_size, p2.1]; omega)
    have p3 := y3_props (xs := bytesOf a) (ts := bytesOf b) (n := (a.size : Int) / 256) (c := c) (r := r) (bytesOf_bytes a) (bytesOf_bytes b) haL (by omega) (by omega)
    obtain ⟨s, hs⟩ := whole_T (strOfNums (y3 (bytesOf a) (bytesOf b) ((a.size : Int) / 256) c r)) (by rw [strOfNums_size, p3.1]; omega)
    have hr' : Tot (fun k => impl_HeaderSum.f k (strOfNums (y2 (bytesOf a) (bytesOf b) ((a.size : Int) / 256) c))) (fun x => x = r) := Tot.congr (fun k => (header_eq _ (by rw [strOfNums_size, p2.1]; omega) k).symm) hr
    have hs' : Tot (fun k => impl_WholeSum.f k (strOfNums (y3 (bytesOf a) (bytesOf b) ((a.size : Int) / 256) c r))) (fun x => x = s) := Tot.congr (fun k => (whole_eq _ (by rw [strOfNums_size, p3.1]; omega) k).symm) hs
    have no : ∀ z : ByteArray × Bool, fixOk a b c = false → z = ((⟨#[]⟩ : ByteArray), false) := fun z h => by rw [ho] at h; cases h
    refine ⟨(strOfNums (y4 (bytesOf a) (bytesOf b) ((a.size : Int) / 256) c r s), true), ?_, ?_⟩
    · have st : Tot (fun k => spec_Fixed.j0 k a b c ((a.size : Int) / 256) false) (fun y => y = (strOfNums (y4 (bytesOf a) (bytesOf b) ((a.size : Int) / 256) c r s), true)) :=
        Tot.step (fun k => spec_Fixed.j0.eq_2 _ _ _ _ _ k) (Tot.no (by decide) (spec_banks_T a b c _ h1 h2 _ (spec_tail_T a b c _ (by omega) (by omega) u1 u2 u3 hr hs)))
      unfold spec_Fixed.f
      rw [hw]
      unfold fixOk at ho
      simp only [Bool.and_eq_true, decide_eq_true_eq] at ho
      obtain ⟨⟨_, ho2, ho3⟩, ho4⟩ := ho
      refine Tot.yes h0 (Tot.bind (Tot.of (l1In_eq _ _ _) rfl) ?_)
      rintro _ rfl
      refine Tot.yes (decide_eq_true ⟨h1, h2⟩) (Tot.bind (title_T b (by omega)) ?_)
      rintro _ rfl
      refine Tot.yes (by rw [ho2, decide_eq_true ho3]; rfl) (Tot.bind (Tot.of (l1In_eq _ _ _) rfl) ?_)
      rintro _ rfl
      rw [decide_eq_true ho4]
      exact st
    · have st : Tot (fun k => impl_Fixed.j0 k a b c ((a.size : Int) / 256) false) (fun y => y = (strOfNums (y4 (bytesOf a) (bytesOf b) ((a.size : Int) / 256) c r s), true)) := by
        refine Tot.step (fun k => impl_Fixed.j0.eq_2 _ _ _ _ _ k) (Tot.no (by decide) ?_)
        exact impl_banks_T a b c _ (up ((a.size : Int) / 256) - (a.size : Int) / 256).toNat _ h1 h2 (by omega) (impl_tail_T a b c _ (by omega) (by omega) u2 hr' hs')
      unfold impl_Fixed.f impl_banksOf.f
      unfold fixOk at ho
      simp only [Bool.and_eq_true, decide_eq_true_eq] at ho
      obtain ⟨⟨_, ho2, ho3⟩, ho4⟩ := ho
      rw [hw, within_eq, if_pos h0, decide_eq_true (And.intro h1 h2)]
      refine Tot.bind (Tot.of rfl rfl) ?_
      rintro _ rfl
      refine Tot.no (by omega) (Tot.no (by omega) (Tot.bind (plain_T b (by omega)) ?_))
      rintro _ rfl
      refine Tot.yes ho2 (Tot.bind (Tot.of (within_eq _ _ _) rfl) ?_)
      rintro _ rfl
      rw [decide_eq_true ho4]
      exact st
  · exact ⟨((⟨#[]⟩ : ByteArray), false), hspec _ rfl (fun h => absurd h ho), himpl _ rfl (fun h => absurd h ho)⟩

theorem FnExactFixed : laws_FnExactFixed.Pure := by
  intro a b c _ _ _
  refine Tot.done ?_
  unfold laws_FnExactFixed.f
  refine Tot.ite (fun _ => Tot.ret rfl) (fun ha => Tot.ite (fun _ => Tot.ret rfl) (fun hb => ?_))
  obtain ⟨x, h1, h2⟩ := fixed_T a b c (by omega) (by omega)
  refine Tot.bind h1 ?_
  rintro _ rfl
  refine Tot.bind h2 ?_
  rintro _ rfl
  refine Tot.yes rfl (Tot.no (by simp) (Tot.ret rfl))
end Go.Proofs.Ytcohcndliaaacaa.Pure
