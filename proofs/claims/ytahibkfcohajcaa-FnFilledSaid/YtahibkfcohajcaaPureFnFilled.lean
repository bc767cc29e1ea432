/- A line with arguments in the place of marks: the program's is the reference's; without a mark it is as it was; '\1' is the first argument: for whatever is drawn. No condition beyond the row's own. -/
import Derived.Test.YtahibkfcohajcaaQFnFilledx2
import Derived.Test.YtahibkfcohajcaaLib
namespace Go.Proofs.Ytahibkfcohajcaa.Pure
open Go.RowKit Go.Proofs.Ytahibkfcohajcaa.QFnFilled Go.Proofs.YtahibkfcohajcaaW.PrintWords Go.Proofs.YtahibkfcohajcaaW.PrintLast Go.Proofs.Ytahibkfcohajcaa.Lib Go.Proofs.Ytahibkfcohajcaa.LibHF
set_option linter.unusedSimpArgs false
set_option linter.unusedVariables false

/-- The reader is in order: its bytes are bytes, its place is among them. -/
def RdOk (s : List Int) (p : Int) : Prop := 0 ≤ p ∧ p ≤ s.length ∧ s.length ≤ 1048576 ∧ ∀ x ∈ s, 0 ≤ x ∧ x ≤ 255
theorem rd_mem {s : List Int} {p : Int} (h0 : 0 ≤ p) (h1 : p < (s.length : Int)) : rd s p ∈ s := by
  unfold rd
  rw [List.getD_eq_getElem?_getD, List.getElem?_eq_getElem (by omega)]
  exact List.getElem_mem _
theorem open_tot {l : List Int} (hl : l.length ≤ 1048576) (hb : ∀ x ∈ l, 0 ≤ x ∧ x ≤ 255) : spec_l1Open.f l = some (l, 0) ∧ RdOk l 0 :=
  ⟨rfl, by omega, by omega, hl, hb⟩
theorem next_tot {s : List Int} {p : Int} (h : RdOk s p) : ∃ v q, spec_l1Rd_next.f s p = some (v, q) ∧ 0 ≤ v ∧ v ≤ 255 ∧ RdOk s q := by
  obtain ⟨h0, h1, h2, h3⟩ := h
  unfold spec_l1Rd_next.f
  by_cases c : p ≥ (s.length : Int)
  · rw [if_pos c]
    exact ⟨0, p, rfl, by omega, by omega, h0, h1, h2, h3⟩
  · have hm := h3 _ (rd_mem h0 (show p < (s.length : Int) by omega))
    have e : p + 1 - 1 = p := by omega
    rw [if_neg c, w64_in (n := p + 1) (by omega) (by omega), w64_in (n := p + 1 - 1) (by omega) (by omega), e, if_pos h0, if_pos (by omega), w64_in (n := rd s p) (by omega) (by omega)]
    exact ⟨_, _, rfl, hm.1, hm.2, by omega, by omega, h2, h3⟩
theorem below_tot {s : List Int} {p : Int} (h : RdOk s p) (n : Int) : ∃ v q, spec_l1Rd_below.f s p n = some (v, q) ∧ 0 ≤ v ∧ (1 ≤ n → v < n) ∧ RdOk s q := by
  unfold spec_l1Rd_below.f
  by_cases c : n ≤ 1
  · rw [if_pos c]
    exact ⟨0, p, rfl, by omega, by omega, h⟩
  · rw [if_neg c]
    obtain ⟨v, q, e1, v0, v1, h1⟩ := next_tot h
    by_cases c2 : n ≤ 256
    · rw [if_pos c2, e1]
      simp only [Option.bind_some]
      rw [if_neg (by omega), tmod_pos _ v0]
      exact ⟨_, _, rfl, Int.emod_nonneg _ (by omega), fun _ => Int.emod_lt_of_pos _ (by omega), h1⟩
    · obtain ⟨u, r, e2, u0, u1, h2⟩ := next_tot h1
      rw [if_neg c2, e1]
      simp only [Option.bind_some]
      rw [e2]
      simp only [Option.bind_some]
      rw [if_neg (by omega), w64_in (n := v * 256) (by omega) (by omega), w64_in (n := v * 256 + u) (by omega) (by omega), tmod_pos _ (by omega)]
      exact ⟨_, _, rfl, Int.emod_nonneg _ (by omega), fun _ => Int.emod_lt_of_pos _ (by omega), h2⟩

theorem bytes_wf {l : List Int} (h : ∀ x ∈ l, (Lit.int .u8 x).wf = true) : ∀ x ∈ l, 0 ≤ x ∧ x ≤ 255 := by
  intro x hx
  have h1 := h x hx
  have e0 : IntKind.u8.min = 0 := rfl
  have e1 : IntKind.u8.max = 255 := rfl
  simp only [Lit.wf, e0, e1, Bool.and_eq_true, decide_eq_true_eq] at h1
  exact h1

theorem rdOf_size (ys : List ByteArray) (i : Int) (m : Nat) (hy : ∀ y ∈ ys, y.size ≤ m) : (rdOf ByteArray.empty ys i).size ≤ m := by
  unfold rdOf
  rw [List.getD_eq_getElem?_getD]
  by_cases c : i.toNat < ys.length
  · rw [List.getElem?_eq_getElem c]
    exact hy _ (List.getElem_mem _)
  · rw [List.getElem?_eq_none (by omega)]
    exact Nat.zero_le _
theorem drawn_l0 {s : List Int} (x5 : ByteArray) : ∀ (n k : Nat) (p : Int) (x6 : List ByteArray) (x7 : Int), RdOk s p → x6.length + n ≤ 9 → (∀ y ∈ x6, y.size ≤ 80) → 0 ≤ x7 → x7 ≤ n → n < k →
    ∃ args, spec_DrawFilled.l0 k x5 x6 x7 s p = some (x5, args) ∧ args.length ≤ 9 ∧ ∀ y ∈ args, y.size ≤ 80 := by
  intro n
  induction n with
  | zero =>
    intro k p x6 x7 h hl hs h0 h1 hk
    obtain ⟨k, rfl⟩ : ∃ q, k = q + 1 := ⟨k - 1, by omega⟩
    rw [spec_DrawFilled.l0, if_neg (by omega)]
    exact ⟨_, rfl, by omega, hs⟩
  | succ n ih =>
    intro k p x6 x7 h hl hs h0 h1 hk
    obtain ⟨k, rfl⟩ : ∃ q, k = q + 1 := ⟨k - 1, by omega⟩
    rw [spec_DrawFilled.l0]
    by_cases c : x7 > 0
    · rw [if_pos c]
      obtain ⟨v, q, e, v0, v1, h2⟩ := below_tot h 4
      have v2 := v1 (by omega)
      simp only [Option.bind_some]
      rw [e]
      simp only [Option.bind_some]
      rw [if_pos v0, if_pos (by simpa using v2), if_pos (by omega), w64_in (n := x7 - 1) (by omega) (by omega)]
      refine ih k q _ _ h2 (by simp; omega) ?_ (by omega) (by omega) (by omega)
      intro y hy
      rw [List.mem_append, List.mem_singleton] at hy
      rcases hy with hy | hy
      · exact hs y hy
      · rw [hy]
        refine rdOf_size _ _ _ ?_
        intro z hz
        simp only [List.mem_cons, List.not_mem_nil, or_false] at hz
        rcases hz with rfl | rfl | rfl | rfl <;> decide
    · rw [if_neg c]
      exact ⟨_, rfl, by omega, hs⟩
theorem drawn_tot {l : List Int} (hl : l.length ≤ 1048576) (hb : ∀ x ∈ l, 0 ≤ x ∧ x ≤ 255) (k : Nat) (hk : 10 ≤ k) :
    ∃ s args, spec_DrawFilled.f k l = some (s, args) ∧ s.size ≤ 80 ∧ args.length ≤ 9 ∧ ∀ y ∈ args, y.size ≤ 80 := by
  obtain ⟨e, h⟩ := open_tot hl hb
  unfold spec_DrawFilled.f
  rw [e]
  simp only [Option.bind_some]
  obtain ⟨v, q, e2, v0, v1, h2⟩ := below_tot h 5
  obtain ⟨u, r, e3, u0, u1, h3⟩ := below_tot h2 4
  have v2 := v1 (by omega)
  have u2 := u1 (by omega)
  rw [e2]
  simp only [Option.bind_some]
  rw [if_pos v0, if_pos (by simpa using v2), e3]
  simp only [Option.bind_some]
  have hz := rdOf_size ([(⟨#[]⟩ : ByteArray), (⟨#[100, 98, 32, 92, 49, 44, 92, 50]⟩ : ByteArray), (⟨#[108, 100, 32, 92, 51]⟩ : ByteArray), (⟨#[92, 48, 32, 92]⟩ : ByteArray), (⟨#[120, 92, 49, 92, 49, 92, 57]⟩ : ByteArray)] : List ByteArray) v 80 (by intro z hz; simp only [List.mem_cons, List.not_mem_nil, or_false] at hz; rcases hz with rfl | rfl | rfl | rfl | rfl <;> decide)
  obtain ⟨args, q1, q2, q3⟩ := drawn_l0 (s := l) _ 3 k r ([] : List ByteArray) u h3 (by simp) (by simp) u0 (by omega) (by omega)
  exact ⟨_, args, q1, hz, q2, q3⟩

theorem one_byte (a : ByteArray) (i : Nat) (h : i < a.size) : a.extract i (i + 1) = strOfNums [bt a (i : Int)] := by
  have hl : i < a.data.toList.length := by rw [data_length]; exact h
  have h2 : (a.extract i (i + 1)).data.toList = [a.data.toList[i]] := by
    rw [ByteArray.data_extract, Array.toList_extract, List.extract_eq_take_drop, List.drop_eq_getElem_cons hl, show i + 1 - i = 1 by omega]
    rfl
  have h3 : (strOfNums [bt a (i : Int)]).data.toList = [a.data.toList[i]] := by
    rw [strOfNums_data]
    unfold bt
    rw [dif_pos (by simpa using h)]
    simp only [List.map_cons, List.map_nil, Int.toNat_natCast]
    congr 1
    rw [UInt8.ofNat_toNat]
    rfl
  have h4 : (a.extract i (i + 1)).data = (strOfNums [bt a (i : Int)]).data := by
    rw [← Array.toList_inj, h2, h3]
  exact ByteArray.ext h4
/-- Both walk the line alike. -/
theorem fills (a0 : ByteArray) (l1 : List ByteArray) (ha : a0.size ≤ 80) (hl : ∀ y ∈ l1, y.size ≤ 80) : ∀ (n k1 k2 i : Nat) (x6 : ByteArray), i ≤ a0.size + 1 → a0.size - i ≤ n → x6.size ≤ 100 * i → 2 * n + 2 ≤ k1 → n + 1 ≤ k2 →
    ∃ r, spec_l8Fill.l0 k1 a0 l1 x6 (i : Int) = some r ∧ impl_filled.l0 k2 a0 l1 x6 (i : Int) = some r := by
  intro n
  induction n with
  | zero =>
    intro k1 k2 i x6 h1 h2 h3 h4 h5
    obtain ⟨k1, rfl⟩ : ∃ q, k1 = q + 1 := ⟨k1 - 1, by omega⟩
    obtain ⟨k2, rfl⟩ : ∃ q, k2 = q + 1 := ⟨k2 - 1, by omega⟩
    rw [spec_l8Fill.l0, impl_filled.l0, if_neg (by omega), if_neg (by omega)]
    exact ⟨_, rfl, rfl⟩
  | succ n ih =>
    intro k1 k2 i x6 h1 h2 h3 h4 h5
    obtain ⟨k1, rfl⟩ : ∃ q, k1 = q + 2 := ⟨k1 - 2, by omega⟩
    obtain ⟨k2, rfl⟩ : ∃ q, k2 = q + 1 := ⟨k2 - 1, by omega⟩
    rw [spec_l8Fill.l0, impl_filled.l0]
    by_cases c : (i : Int) < (a0.size : Int)
    rotate_left
    · rw [if_neg c, if_neg c]
      exact ⟨_, rfl, rfl⟩
    have e1 : ∀ _ : Unit, wrap64 ((i : Int) + 1) = (i : Int) + 1 := fun _ => w64_in (by omega) (by omega)
    have e2 : ∀ _ : Unit, wrap64 ((i : Int) + 1 + 1) = (i : Int) + 2 := fun _ => by rw [w64_in (by omega) (by omega)]; omega
    have hr := rdOf_size l1 (bt a0 ((i : Int) + 1) - 49) 80 hl
    have hb := bt_range a0 ((i : Int) + 1)
    have sz : (strOfNums [bt a0 (i : Int)]).size = 1 := strOfNums_size _
    rw [if_pos c, if_pos c, if_pos (by omega), e1 ()]
    have no : hasMark a0 i = false → ∃ r, spec_l8Fill.j1 (k1 + 1) a0 l1 x6 (i : Int) false = some r ∧ (if hasMark a0 (i : Int) = true then (if bt a0 ((i : Int) + 1) - 49 < (l1.length : Int) then (if x6.size + (rdOf ByteArray.empty l1 (bt a0 ((i : Int) + 1) - 49)).size ≤ 140737488355328 then impl_filled.l0 k2 a0 l1 (x6 ++ rdOf ByteArray.empty l1 (bt a0 ((i : Int) + 1) - 49)) ((i : Int) + 2) else none) else impl_filled.l0 k2 a0 l1 x6 ((i : Int) + 2)) else (if x6.size + 1 ≤ 140737488355328 then impl_filled.l0 k2 a0 l1 (x6 ++ strOfNums [bt a0 (i : Int)]) ((i : Int) + 1) else none)) = some r := by
      intro hm
      obtain ⟨r, q1, q2⟩ := ih k1 k2 (i + 1) (x6 ++ strOfNums [bt a0 (i : Int)]) (by omega) (by omega) (by rw [ByteArray.size_append, sz]; omega) (by omega) (by omega)
      refine ⟨r, ?_, ?_⟩
      · rw [spec_l8Fill.j1, if_neg (by decide), if_pos (by omega), e1 (), if_pos (by omega), if_pos (by omega), Int.toNat_natCast, show ((i : Int) + 1).toNat = i + 1 by omega, one_byte a0 i (by omega), if_pos (by rw [sz]; omega)]
        exact q1
      · rw [hm, if_neg (by decide), if_pos (by omega)]
        exact q2
    by_cases c7 : bt a0 (i : Int) = 92
    · rw [if_pos c7]
      by_cases c8 : (i : Int) + 1 < (a0.size : Int)
      · rw [if_pos c8, if_pos (by omega)]
        by_cases c9 : bt a0 ((i : Int) + 1) ≥ 49
        · rw [if_pos c9]
          by_cases c10 : bt a0 ((i : Int) + 1) ≤ 57
          · have hm : hasMark a0 i = true := by
              unfold hasMark
              rw [beq_iff_eq.mpr c7, decide_eq_true c8, decide_eq_true c9, decide_eq_true c10]; rfl
            rw [decide_eq_true c10, hm, if_pos rfl, spec_l8Fill.j1, if_pos rfl, e1 (), if_pos (by omega), if_pos c8, e2 (), show (bt a0 ((i : Int) + 1) - 49) % 256 = bt a0 ((i : Int) + 1) - 49 by omega]
            by_cases c11 : bt a0 ((i : Int) + 1) - 49 < (l1.length : Int)
            · rw [if_pos c11, if_pos c11, if_pos (by omega), if_pos (by omega), if_pos (by omega)]
              exact ih k1 k2 (i + 2) _ (by omega) (by omega) (by rw [ByteArray.size_append]; omega) (by omega) (by omega)
            · rw [if_neg c11, if_neg c11]
              exact ih k1 k2 (i + 2) _ (by omega) (by omega) (by omega) (by omega) (by omega)
          · rw [decide_eq_false c10]
            exact no (by unfold hasMark; rw [beq_iff_eq.mpr c7, decide_eq_true c8, decide_eq_true c9, decide_eq_false c10]; rfl)
        · rw [if_neg c9]
          exact no (by unfold hasMark; rw [beq_iff_eq.mpr c7, decide_eq_true c8, decide_eq_false c9]; rfl)
      · rw [if_neg c8]
        exact no (by unfold hasMark; rw [beq_iff_eq.mpr c7, decide_eq_false c8]; rfl)
    · rw [if_neg c7]
      exact no (by unfold hasMark; rw [beq_eq_false_iff_ne.mpr c7]; rfl)
theorem filled_loop (a0 : ByteArray) (l1 : List ByteArray) (hl : ∀ y ∈ l1, y.size ≤ 80) (hn : l1.length ≤ 9) : ∀ (n k i : Nat), i + n = l1.length → n < k → impl_Filled.l0 k a0 l1 l1 (l1.length : Int) (i : Int) = (impl_filled.f (k - n - 1) a0 l1).bind (fun bt133 => if bt133.2 = true then some bt133.1 else some (⟨#[]⟩ : ByteArray)) := by
  intro n
  induction n with
  | zero =>
    intro k i h hk
    obtain ⟨k, rfl⟩ : ∃ q, k = q + 1 := ⟨k - 1, by omega⟩
    rw [impl_Filled.l0, if_neg (by omega)]
    rfl
  | succ n ih =>
    intro k i h hk
    obtain ⟨k, rfl⟩ : ∃ q, k = q + 1 := ⟨k - 1, by omega⟩
    have hs := rdOf_size l1 (i : Int) 80 hl
    rw [impl_Filled.l0, if_pos (by omega), if_pos (by omega), if_pos (by omega), if_neg (by omega), w64_in (n := (i : Int) + 1) (by omega) (by omega)]
    have := ih k (i + 1) (by omega) (by omega)
    rw [show k + 1 - (n + 1) - 1 = k - n - 1 by omega]
    exact this
theorem spec_loop (a0 : ByteArray) (l1 : List ByteArray) (hl : ∀ y ∈ l1, y.size ≤ 80) (hn : l1.length ≤ 9) : ∀ (n k i : Nat), i + n = l1.length → n < k → spec_Filled.l0 k a0 l1 (i : Int) = (spec_l8Fill.f (k - n - 1) a0 l1).bind (fun bt137 => if bt137.2 = true then some bt137.1 else some (⟨#[]⟩ : ByteArray)) := by
  intro n
  induction n with
  | zero =>
    intro k i h hk
    obtain ⟨k, rfl⟩ : ∃ q, k = q + 1 := ⟨k - 1, by omega⟩
    rw [spec_Filled.l0, if_neg (by omega)]
    rfl
  | succ n ih =>
    intro k i h hk
    obtain ⟨k, rfl⟩ : ∃ q, k = q + 1 := ⟨k - 1, by omega⟩
    have hs := rdOf_size l1 (i : Int) 80 hl
    rw [spec_Filled.l0, if_pos (by omega), if_pos (by omega), if_neg (by omega), w64_in (n := (i : Int) + 1) (by omega) (by omega)]
    have := ih k (i + 1) (by omega) (by omega)
    rw [show k + 1 - (n + 1) - 1 = k - n - 1 by omega]
    exact this
theorem impl_eq (a0 : ByteArray) (ha : a0.size ≤ 80) (l1 : List ByteArray) (hl : ∀ y ∈ l1, y.size ≤ 80) (hn : l1.length ≤ 9) (k : Nat) (hk : 20 ≤ k) :
    impl_Filled.f k a0 l1 = (impl_filled.f (k - l1.length - 2) a0 l1).bind (fun bt133 => if bt133.2 = true then some bt133.1 else some (⟨#[]⟩ : ByteArray)) := by
  obtain ⟨k, rfl⟩ : ∃ q, k = q + 1 := ⟨k - 1, by omega⟩
  unfold impl_Filled.f
  rw [if_neg (by omega), decide_eq_false (by omega), impl_Filled.j0, if_neg (by decide)]
  have := filled_loop a0 l1 hl hn l1.length k 0 (by omega) (by omega)
  rw [show k + 1 - l1.length - 2 = k - l1.length - 1 by omega]
  exact this
theorem spec_eq (a0 : ByteArray) (ha : a0.size ≤ 80) (l1 : List ByteArray) (hl : ∀ y ∈ l1, y.size ≤ 80) (hn : l1.length ≤ 9) (k : Nat) (hk : 20 ≤ k) :
    spec_Filled.f k a0 l1 = (spec_l8Fill.f (k - l1.length - 2) a0 l1).bind (fun bt137 => if bt137.2 = true then some bt137.1 else some (⟨#[]⟩ : ByteArray)) := by
  obtain ⟨k, rfl⟩ : ∃ q, k = q + 1 := ⟨k - 1, by omega⟩
  unfold spec_Filled.f
  rw [if_neg (by omega), decide_eq_false (by omega), spec_Filled.j0, if_neg (by decide)]
  have := spec_loop a0 l1 hl hn l1.length k 0 (by omega) (by omega)
  rw [show k + 1 - l1.length - 2 = k - l1.length - 1 by omega]
  exact this
/-- Without a mark: as it was. -/
theorem no_mark (a0 : ByteArray) (l1 : List ByteArray) (ha : a0.size ≤ 80) (hm : ∀ i : Nat, i < a0.size → bt a0 (i : Int) ≠ 92) : ∀ (n k i : Nat), i + n = a0.size → n < k → impl_filled.l0 k a0 l1 (a0.extract 0 i) (i : Int) = some (a0, true) := by
  intro n
  induction n with
  | zero =>
    intro k i h hk
    obtain ⟨k, rfl⟩ : ∃ q, k = q + 1 := ⟨k - 1, by omega⟩
    have hi : i = a0.size := by omega
    rw [impl_filled.l0, if_neg (by omega), hi, ByteArray.extract_zero_size, decide_eq_true (by omega)]
  | succ n ih =>
    intro k i h hk
    obtain ⟨k, rfl⟩ : ∃ q, k = q + 1 := ⟨k - 1, by omega⟩
    have hf : hasMark a0 i = false := by
      unfold hasMark; rw [beq_eq_false_iff_ne.mpr (hm i (by omega))]; rfl
    have hz : (a0.extract 0 i).size ≤ 80 := by rw [ByteArray.size_extract]; omega
    rw [impl_filled.l0, if_pos (by omega), hf, if_neg (by decide), if_pos (by omega), ← one_byte a0 i (by omega), ByteArray.extract_append_extract]
    have := ih k (i + 1) (by omega) (by omega)
    rw [show min 0 i = 0 by omega, show max i (i + 1) = i + 1 by omega]
    exact this
theorem first_arg (l1 : List ByteArray) (hl : ∀ y ∈ l1, y.size ≤ 80) (k : Nat) (hk : 5 ≤ k) :
    impl_filled.f k (⟨#[92, 49]⟩ : ByteArray) l1 = some (rdOf ByteArray.empty l1 0, true) := by
  obtain ⟨k, rfl⟩ : ∃ q, k = q + 2 := ⟨k - 2, by omega⟩
  have hm : hasMark (⟨#[92, 49]⟩ : ByteArray) 0 = true := by decide
  have hb : bt (⟨#[92, 49]⟩ : ByteArray) (0 + 1) = 49 := by decide
  have hs : ((⟨#[92, 49]⟩ : ByteArray).size : Int) = 2 := rfl
  have hr := rdOf_size l1 0 80 hl
  have he : ∀ x : ByteArray, (⟨#[]⟩ : ByteArray) ++ x = x := fun x => ByteArray.empty_append
  unfold impl_filled.f
  rw [hs, if_pos (by decide), impl_filled.l0, hs, if_pos (by decide), hm, if_pos rfl, hb, show (49 : Int) - 49 = 0 by decide]
  by_cases c : (0 : Int) < (l1.length : Int)
  · rw [if_pos c, if_pos (by show 0 + _ ≤ _; omega), impl_filled.l0, hs, if_neg (by decide), he, decide_eq_true (by omega)]
  · rw [if_neg c, impl_filled.l0, hs, if_neg (by decide)]
    have : l1 = [] := List.eq_nil_of_length_eq_zero (by omega)
    subst this
    rfl
theorem law_loop (s : ByteArray) (args : List ByteArray) (t : ByteArray) (K : Nat) (hs : s.size ≤ 80) (hone : ∀ k, K ≤ k → impl_Filled.f k (⟨#[92, 49]⟩ : ByteArray) args = some (rdOf ByteArray.empty args 0)) (hn : args.length ≤ 9)
    (ht : (∀ i : Nat, i < s.size → bt s (i : Int) ≠ 92) → t = s) : ∀ (n k i : Nat) (x6 : Bool), i + n = s.size → n + K < k → (x6 = false → ∀ j : Nat, j < i → bt s (j : Int) ≠ 92) → laws_FnFilled.l0 k s args t x6 (i : Int) = some true := by
  intro n
  induction n with
  | zero =>
    intro k i x6 h hk hx
    obtain ⟨k, rfl⟩ : ∃ q, k = q + 1 := ⟨k - 1, by omega⟩
    have he : args = [] → rdOf ByteArray.empty args 0 = ByteArray.empty := by rintro rfl; rfl
    have hel : ByteArray.empty.toList = ([] : List UInt8) := ByteArray.toList_empty
    rw [laws_FnFilled.l0, if_neg (by omega), hone k (by omega), Option.bind_some]
    cases x6 with
    | true =>
      by_cases c : (args.length : Int) > 0
      · rw [if_pos c, if_pos (by omega), if_pos rfl]; simp
      · rw [if_neg c, if_pos rfl, he (List.eq_nil_of_length_eq_zero (by omega)), hel]; rfl
    | false =>
      have htt := ht (fun j hj => hx rfl j (by omega))
      by_cases c : (args.length : Int) > 0
      · rw [if_pos c, if_pos (by omega), if_neg (by decide), if_pos (by rw [htt])]; simp
      · rw [if_neg c, if_neg (by decide), if_pos (by rw [htt]), he (List.eq_nil_of_length_eq_zero (by omega)), hel]; rfl
  | succ n ih =>
    intro k i x6 h hk hx
    obtain ⟨k, rfl⟩ : ∃ q, k = q + 1 := ⟨k - 1, by omega⟩
    rw [laws_FnFilled.l0, if_pos (by omega), w64_in (n := (i : Int) + 1) (by omega) (by omega)]
    cases x6 with
    | true =>
      rw [if_pos rfl]
      exact ih k (i + 1) true (by omega) (by omega) (fun h => by cases h)
    | false =>
      rw [if_neg (by decide), if_pos (by omega)]
      refine ih k (i + 1) _ (by omega) (by omega) (fun hb j hj => ?_)
      by_cases c : j = i
      · subst c; exact beq_eq_false_iff_ne.mp hb
      · exact hx rfl j (by omega)
theorem FnFilled : laws_FnFilled.Pure := by
  intro l _ _ hw
  refine ⟨1000, ?_⟩
  unfold laws_FnFilled.f laws_big.f
  simp only [Option.bind_some]
  by_cases hb : ((l.length : Int) > 1048576)
  · rw [decide_eq_true hb]; rfl
  rw [decide_eq_false hb, if_neg (by decide)]
  obtain ⟨s, args, e, hs, hn, hl⟩ := drawn_tot (l := l) (by omega) (bytes_wf hw) 1000 (by omega)
  rw [e, Option.bind_some, impl_eq s hs args hl hn 1000 (by omega), spec_eq s hs args hl hn 1000 (by omega)]
  obtain ⟨r, q1, q2⟩ := fills s args hs hl (s.size) (1000 - args.length - 2) (1000 - args.length - 2) 0 (⟨#[]⟩ : ByteArray) (by omega) (by omega) (by show 0 ≤ _; omega) (by omega) (by omega)
  have f1 : impl_filled.f (1000 - args.length - 2) s args = some r := by
    unfold impl_filled.f; rw [if_pos (by omega)]; exact q2
  have f2 : spec_l8Fill.f (1000 - args.length - 2) s args = some r := q1
  rw [f1, f2]
  simp only [Option.bind_some]
  have fin : ∀ t : ByteArray, ((∀ i : Nat, i < s.size → bt s (i : Int) ≠ 92) → t = s) → laws_FnFilled.l0 1000 s args t false 0 = some true := by
    intro t ht
    refine law_loop s args t 100 hs ?_ hn ht s.size 1000 0 false (by omega) (by omega) (fun _ j hj => by omega)
    intro k hk
    rw [impl_eq _ (by decide) args hl hn k (by omega), first_arg args hl _ (by omega), Option.bind_some, if_pos rfl]
  have hnm : (∀ i : Nat, i < s.size → bt s (i : Int) ≠ 92) → r = (s, true) := by
    intro h
    have := no_mark s args hs h s.size (1000 - args.length - 2) 0 (by omega) (by omega)
    have hz : s.extract 0 0 = (⟨#[]⟩ : ByteArray) := ByteArray.extract_same
    rw [hz] at this
    have h3 := q2.symm.trans this
    injection h3
  by_cases c : r.2 = true
  · rw [if_pos c]
    simp only [Option.bind_some, if_true]
    exact fin r.1 (fun h => by rw [hnm h])
  · rw [if_neg c]
    simp only [Option.bind_some, if_true]
    exact fin _ (fun h => absurd (by rw [hnm h]) c)
end Go.Proofs.Ytahibkfcohajcaa.Pure
