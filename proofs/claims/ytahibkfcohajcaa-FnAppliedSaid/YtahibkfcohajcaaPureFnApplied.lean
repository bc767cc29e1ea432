/- What is told to differ, put into a text by the program, is what the reference puts in; put in again it changes nothing: for whatever is drawn. No condition beyond the row's own. -/
import Derived.Test.YtahibkfcohajcaaQFnAppliedx6
import Derived.Test.YtahibkfcohajcaaLib
import Derived.Test.YtahibkfcohajcaaLibX
namespace Go.Proofs.Ytahibkfcohajcaa.Pure
open Go.RowKit Go.Proofs.Ytahibkfcohajcaa.QFnApplied Go.Proofs.YtahibkfcohajcaaW.PrintWords Go.Proofs.YtahibkfcohajcaaW.PrintLast Go.Proofs.Ytahibkfcohajcaa.Lib Go.Proofs.Ytahibkfcohajcaa.LibX
set_option linter.unusedSimpArgs false
set_option linter.unusedVariables false

/-- The reader is in order: its bytes are bytes, its place is among them. -/
def RdOk (s : List Int) (p : Int) : Prop := 0 ≤ p ∧ p ≤ s.length ∧ s.length ≤ 1048576 ∧ ∀ x ∈ s, 0 ≤ x ∧ x ≤ 255
theorem rd_mem {s : List Int} {p : Int} (h0 : 0 ≤ p) (h1 : p < (s.length : Int)) : rd s p ∈ s := by
  unfold rd
  rw [List.getD_eq_getElem?_getD, List.getElem?_eq_getElem (by omega)]
  exact List.getElem_mem _
theorem open_tot {l : List Int} (hl : l.length ≤ 1048576) (hb : ∀ x ∈ l, 0 ≤ x ∧ x ≤ 255) : spec_l1Open.f l = some (l, 0) ∧ RdOk l 0 :=
  ⟨rfl, by omega, by omega, hl, hb⟩
theorem next_tot {s : List Int} {p : Int} (h : RdOk s p) : ∃ v q, spec_l1Rd_next.f s p = some (v, q) ∧ 0 ≤ v ∧ v ≤ 255 ∧ RdOk s q := by
  obtain ⟨h0, h1, h2, h3⟩ := h
  unfold spec_l1Rd_next.f
  by_cases c : p ≥ (s.length : Int)
  · rw [if_pos c]
    exact ⟨0, p, rfl, by omega, by omega, h0, h1, h2, h3⟩
  · have hm := h3 _ (rd_mem h0 (show p < (s.length : Int) by omega))
    have e : p + 1 - 1 = p := by omega
    rw [if_neg c, w64_in (n := p + 1) (by omega) (by omega), w64_in (n := p + 1 - 1) (by omega) (by omega), e, if_pos h0, if_pos (by omega), w64_in (n := rd s p) (by omega) (by omega)]
    exact ⟨_, _, rfl, hm.1, hm.2, by omega, by omega, h2, h3⟩
theorem below_tot {s : List Int} {p : Int} (h : RdOk s p) (n : Int) : ∃ v q, spec_l1Rd_below.f s p n = some (v, q) ∧ 0 ≤ v ∧ (1 ≤ n → v < n) ∧ RdOk s q := by
  unfold spec_l1Rd_below.f
  by_cases c : n ≤ 1
  · rw [if_pos c]
    exact ⟨0, p, rfl, by omega, by omega, h⟩
  · rw [if_neg c]
    obtain ⟨v, q, e1, v0, v1, h1⟩ := next_tot h
    by_cases c2 : n ≤ 256
    · rw [if_pos c2, e1]
      simp only [Option.bind_some]
      rw [if_neg (by omega), tmod_pos _ v0]
      exact ⟨_, _, rfl, Int.emod_nonneg _ (by omega), fun _ => Int.emod_lt_of_pos _ (by omega), h1⟩
    · obtain ⟨u, r, e2, u0, u1, h2⟩ := next_tot h1
      rw [if_neg c2, e1]
      simp only [Option.bind_some]
      rw [e2]
      simp only [Option.bind_some]
      rw [if_neg (by omega), w64_in (n := v * 256) (by omega) (by omega), w64_in (n := v * 256 + u) (by omega) (by omega), tmod_pos _ (by omega)]
      exact ⟨_, _, rfl, Int.emod_nonneg _ (by omega), fun _ => Int.emod_lt_of_pos _ (by omega), h2⟩

theorem once_tot {s : List Int} {p : Int} (h : RdOk s p) (n : Int) : ∃ b q, spec_l1Rd_once.f s p n = some (b, q) ∧ RdOk s q := by
  obtain ⟨v, q, e, _, _, hq⟩ := below_tot h n
  unfold spec_l1Rd_once.f
  rw [e]
  exact ⟨_, _, rfl, hq⟩

theorem bytes_wf {l : List Int} (h : ∀ x ∈ l, (Lit.int .u8 x).wf = true) : ∀ x ∈ l, 0 ≤ x ∧ x ≤ 255 := by
  intro x hx
  have h1 := h x hx
  have e0 : IntKind.u8.min = 0 := rfl
  have e1 : IntKind.u8.max = 255 := rfl
  simp only [Lit.wf, e0, e1, Bool.and_eq_true, decide_eq_true_eq] at h1
  exact h1

theorem drawdiff_l1 {s : List Int} (x5 : List Int) : ∀ (n k : Nat) (p : Int) (x7 : List Int) (x8 : Int), RdOk s p → x7.length ≤ 1000 → 0 ≤ x8 → x8 ≤ n → x8 ≤ 1000 → 2 * n + 2 ≤ k →
    ∃ r, spec_DrawDiffOf.l1 k x5 x7 x8 s p = some r := by
  have fin : ∀ (k : Nat) (p : Int) (x7 : List Int) (x8 : Int), RdOk s p → x7.length ≤ 1000 → ∃ r, spec_DrawDiffOf.j2 (k + 1) x5 x7 x8 false s p = some r := by
    intro k p x7 x8 h hl
    rw [spec_DrawDiffOf.j2, if_neg (by decide)]
    obtain ⟨v, q, e, v0, v1, h1⟩ := below_tot h 4
    rw [e]
    simp only [Option.bind_some]
    by_cases c : v = 0
    · rw [if_pos c]
      obtain ⟨u, r, e2, u0, u1, h2⟩ := below_tot h1 ((x7.length : Int) + 1)
      rw [w64_in (n := (x7.length : Int) + 1) (by omega) (by omega), e2]
      simp only [Option.bind_some]
      rw [if_pos u0, if_pos (by have := u1 (by omega); omega)]
      exact ⟨_, rfl⟩
    · rw [if_neg c]
      by_cases c2 : v = 1
      · rw [if_pos c2]
        obtain ⟨u, r, e2, _⟩ := below_tot h1 256
        rw [e2]
        simp only [Option.bind_some]
        rw [if_pos (by simp; omega)]
        exact ⟨_, rfl⟩
      · rw [if_neg c2]
        exact ⟨_, rfl⟩
  intro n
  induction n with
  | zero =>
    intro k p x7 x8 h hl h0 h1 hx hk
    obtain ⟨k, rfl⟩ : ∃ q, k = q + 2 := ⟨k - 2, by omega⟩
    rw [spec_DrawDiffOf.l1, if_neg (by omega)]
    exact fin _ _ _ _ h hl
  | succ n ih =>
    intro k p x7 x8 h hl h0 h1 hx hk
    obtain ⟨k, rfl⟩ : ∃ q, k = q + 2 := ⟨k - 2, by omega⟩
    rw [spec_DrawDiffOf.l1]
    by_cases c : x8 > 0
    · rw [if_pos c]
      by_cases c2 : (x7.length : Int) > 0
      · rw [decide_eq_true c2, spec_DrawDiffOf.j2, if_pos rfl]
        obtain ⟨v, q, e, v0, v1, h2⟩ := below_tot h (x7.length : Int)
        obtain ⟨u, r, e2, u0, u1, h3⟩ := below_tot h2 256
        rw [e]
        simp only [Option.bind_some]
        rw [e2]
        simp only [Option.bind_some]
        rw [if_pos v0, if_pos (v1 (by omega)), w64_in (n := x8 - 1) (by omega) (by omega)]
        exact ih _ _ _ _ h3 (by rw [List.length_set]; exact hl) (by omega) (by omega) (by omega) (by omega)
      · rw [decide_eq_false c2]
        exact fin _ _ _ _ h hl
    · rw [if_neg c]
      exact fin _ _ _ _ h hl
theorem drawdiff_l0 {s : List Int} : ∀ (n k : Nat) (p : Int) (x5 : List Int) (x6 : Int), RdOk s p → x5.length + n ≤ 1000 → 0 ≤ x6 → x6 ≤ n → n + 20 ≤ k →
    ∃ r, spec_DrawDiffOf.l0 k x5 x6 s p = some r := by
  have fin : ∀ (k : Nat) (p : Int) (x5 : List Int) (x6 : Int), RdOk s p → x5.length ≤ 1000 → 0 ≤ x6 → ¬ x6 > 0 → 19 ≤ k → ∃ r, spec_DrawDiffOf.l0 (k + 1) x5 x6 s p = some r := by
    intro k p x5 x6 h hl h0 h1 hk
    rw [spec_DrawDiffOf.l0, if_neg h1]
    simp only [Option.bind_some]
    rw [if_pos (by simp; omega)]
    obtain ⟨v, q, e, v0, v1, h2⟩ := below_tot h 5
    rw [e]
    simp only [Option.bind_some]
    exact drawdiff_l1 _ 4 _ _ _ _ h2 (by simp; omega) v0 (by have := v1 (by omega); omega) (by have := v1 (by omega); omega) (by omega)
  intro n
  induction n with
  | zero =>
    intro k p x5 x6 h hl h0 h1 hk
    obtain ⟨k, rfl⟩ : ∃ q, k = q + 1 := ⟨k - 1, by omega⟩
    exact fin _ _ _ _ h (by omega) h0 (by omega) (by omega)
  | succ n ih =>
    intro k p x5 x6 h hl h0 h1 hk
    obtain ⟨k, rfl⟩ : ∃ q, k = q + 1 := ⟨k - 1, by omega⟩
    by_cases c : x6 > 0
    · rw [spec_DrawDiffOf.l0, if_pos c]
      obtain ⟨v, q, e, v0, v1, h2⟩ := below_tot h 4
      rw [e]
      simp only [Option.bind_some]
      rw [if_pos (by omega), w64_in (n := x6 - 1) (by omega) (by omega)]
      exact ih _ _ _ _ h2 (by simp; omega) (by omega) (by omega) (by omega)
    · exact fin _ _ _ _ h (by omega) h0 c (by omega)
theorem drawdiff_tot {l : List Int} (hl : l.length ≤ 1048576) (hb : ∀ x ∈ l, 0 ≤ x ∧ x ≤ 255) (k : Nat) (hk : 60 ≤ k) : ∃ a b, spec_DrawDiffOf.f k l = some (a, b) := by
  obtain ⟨e, h⟩ := open_tot hl hb
  unfold spec_DrawDiffOf.f
  rw [e]
  simp only [Option.bind_some]
  obtain ⟨v, q, e2, v0, v1, h2⟩ := below_tot h 30
  rw [e2]
  simp only [Option.bind_some]
  obtain ⟨⟨a, b⟩, hr⟩ := drawdiff_l0 30 k q ([] : List Int) v h2 (by simp) v0 (by have := v1 (by omega); omega) (by omega)
  exact ⟨a, b, hr⟩

theorem num_l0 (n : Int) (hn : n ≤ 8) : ∀ (j k : Nat) (x i : Int) (out : ByteArray), 0 ≤ i → i + j = n → j < k → out.size + j ≤ 1000 → ∃ r, spec_l14Num.l0 k x n out i = some r ∧ r.size = out.size + j := by
  intro j
  induction j with
  | zero =>
    intro k x i out h0 h1 h2 h3
    obtain ⟨k, rfl⟩ : ∃ q, k = q + 1 := ⟨k - 1, by omega⟩
    rw [spec_l14Num.l0, if_neg (by omega)]
    exact ⟨_, rfl, rfl⟩
  | succ j ih =>
    intro k x i out h0 h1 h2 h3
    obtain ⟨k, rfl⟩ : ∃ q, k = q + 1 := ⟨k - 1, by omega⟩
    have hs : ∀ y : Int, (strOfNums [y]).size = 1 := fun y => strOfNums_size _
    rw [spec_l14Num.l0, if_pos (by omega)]
    simp only [Option.bind_some]
    rw [if_pos (by rw [hs]; omega), w64_in (n := i + 1) (by omega) (by omega)]
    obtain ⟨r, hr, hr2⟩ := ih k (wrap64 (Int.tdiv x 256)) (i + 1) (strOfNums [x % 256] ++ out) (by omega) (by omega) (by omega) (by rw [ByteArray.size_append, hs]; omega)
    refine ⟨r, hr, ?_⟩
    rw [hr2, ByteArray.size_append, hs]
    omega
theorem num_tot (x n : Int) (j k : Nat) (hj : n = j) (h8 : j ≤ 8) (hk : j < k) : ∃ r, spec_l14Num.f k x n = some r ∧ r.size = j := by
  obtain ⟨r, h, h2⟩ := num_l0 n (by omega) j k x 0 (⟨#[]⟩ : ByteArray) (by omega) (by omega) hk (by show 0 + j ≤ 1000; omega)
  refine ⟨r, h, ?_⟩
  rw [h2]
  exact Nat.zero_add j
theorem end_size : (⟨#[69, 78, 68]⟩ : ByteArray).size = 3 := rfl
theorem diff_l0 (a b : ByteArray) (hb : b.size ≤ 20000) : ∀ (m k : Nat),
    (∀ (out : ByteArray) (at_ : Nat), at_ ≤ b.size → out.size ≤ 4 + 6 * at_ → 4 * (b.size - at_) + 8 ≤ m → m ≤ k → ∃ r, spec_DiffOf.l0 k a b out (at_ : Int) = some r ∧ r.1.size ≤ 130000) ∧
    (∀ (out : ByteArray) (at_ e : Nat), at_ < b.size → at_ ≤ e → e ≤ b.size → out.size ≤ 4 + 6 * at_ → 4 * (b.size - at_) - (e - at_) + 7 ≤ m → m ≤ k → ∃ r, spec_DiffOf.l1 k a b out (at_ : Int) (e : Int) = some r ∧ r.1.size ≤ 130000) ∧
    (∀ (out : ByteArray) (at_ e : Nat), at_ < b.size → at_ ≤ e → e ≤ b.size → out.size ≤ 4 + 6 * at_ → 4 * (b.size - at_) - (e - at_) + 6 ≤ m → m ≤ k → ∃ r, spec_DiffOf.j3 k a b out (at_ : Int) (e : Int) = some r ∧ r.1.size ≤ 130000) := by
  intro m
  induction m with
  | zero => intro k; exact ⟨fun _ _ _ _ h => by omega, fun _ _ _ _ _ _ _ h => by omega, fun _ _ _ _ _ _ _ h => by omega⟩
  | succ m ih =>
    intro k
    refine ⟨?_, ?_, ?_⟩
    · intro out at_ h1 h2 h3 h4
      obtain ⟨k, rfl⟩ : ∃ q, k = q + 1 := ⟨k - 1, by omega⟩
      rw [spec_DiffOf.l0]
      by_cases c : (at_ : Int) < (b.size : Int)
      · rw [if_pos c]
        exact (ih k).2.1 out at_ at_ (by omega) (by omega) (by omega) h2 (by omega) (by omega)
      · rw [if_neg c]
        obtain ⟨r, hr, hr2⟩ := num_tot (b.size : Int) 3 3 k rfl (by omega) (by omega)
        rw [if_pos (by omega), hr]
        simp only [Option.bind_some]
        rw [if_pos (by rw [ByteArray.size_append, end_size]; omega)]
        refine ⟨_, rfl, ?_⟩
        simp only [ByteArray.size_append, end_size]
        omega
    · intro out at_ e h0 h1 h2 h3 h4 h5
      obtain ⟨k, rfl⟩ : ∃ q, k = q + 1 := ⟨k - 1, by omega⟩
      have nx : (e : Int) < (b.size : Int) → ∃ r, spec_DiffOf.l1 k a b out (at_ : Int) (wrap64 ((e : Int) + 1)) = some r ∧ r.1.size ≤ 130000 := by
        intro c
        rw [w64_in (n := (e : Int) + 1) (by omega) (by omega)]
        exact (ih k).2.1 out at_ (e + 1) (by omega) (by omega) (by omega) h3 (by omega) (by omega)
      have jn := fun (_ : Unit) => (ih k).2.2 out at_ e h0 h1 h2 h3 (by omega) (by omega)
      rw [spec_DiffOf.l1]
      by_cases c : (e : Int) < (b.size : Int)
      · rw [if_pos c]
        by_cases c2 : (e : Int) ≥ (a.size : Int)
        · rw [if_pos c2]; exact nx c
        · rw [if_neg c2, if_pos (by omega), if_pos (by omega)]
          by_cases c3 : bt a e = bt b e
          · rw [if_pos c3]; exact jn ()
          · rw [if_neg c3]; exact nx c
      · rw [if_neg c]; exact jn ()
    · intro out at_ e h0 h1 h2 h3 h4 h5
      obtain ⟨k, rfl⟩ : ∃ q, k = q + 1 := ⟨k - 1, by omega⟩
      rw [spec_DiffOf.j3]
      by_cases c : (e : Int) = (at_ : Int)
      · rw [if_pos c, w64_in (n := (at_ : Int) + 1) (by omega) (by omega)]
        exact (ih k).1 out (at_ + 1) (by omega) (by omega) (by omega) (by omega)
      · rw [if_neg c]
        obtain ⟨r, hr, hr2⟩ := num_tot (at_ : Int) 3 3 k rfl (by omega) (by omega)
        obtain ⟨s, hs, hs2⟩ := num_tot ((e : Int) - at_) 2 2 k rfl (by omega) (by omega)
        rw [hr]
        simp only [Option.bind_some]
        rw [if_pos (by omega), w64_in (n := (e : Int) - at_) (by omega) (by omega), hs]
        simp only [Option.bind_some, Int.toNat_natCast]
        have hx : (b.extract at_ e).size = e - at_ := by rw [ByteArray.size_extract]; omega
        rw [if_pos (by rw [ByteArray.size_append]; omega), if_pos (by omega), if_pos (by omega), if_pos (by omega), if_pos (by rw [ByteArray.size_append, ByteArray.size_append, hx]; omega)]
        refine (ih k).1 _ e (by omega) ?_ (by omega) (by omega)
        rw [ByteArray.size_append, ByteArray.size_append, ByteArray.size_append, hx]
        omega
theorem diff_tot (a b : ByteArray) (k : Nat) (hk : 80020 ≤ k) : ∃ d t, spec_DiffOf.f k a b = some (d, t) ∧ d.size ≤ 130000 := by
  obtain ⟨k, rfl⟩ : ∃ q, k = q + 1 := ⟨k - 1, by omega⟩
  have s1 : ∃ d t, spec_DiffOf.j0 (k + 1) a b true = some (d, t) ∧ d.size ≤ 130000 := by
    rw [spec_DiffOf.j0, if_pos rfl]; exact ⟨_, _, rfl, by show 0 ≤ 130000; omega⟩
  unfold spec_DiffOf.f
  by_cases c : (a.size : Int) > 20000
  · rw [if_pos c]; exact s1
  · rw [if_neg c]
    by_cases c2 : (b.size : Int) > 20000
    · rw [decide_eq_true c2]; exact s1
    · rw [decide_eq_false c2, spec_DiffOf.j0, if_neg (by decide)]
      obtain ⟨⟨d, t⟩, h, h2⟩ := (diff_l0 a b (by omega) k k).1 (⟨#[68, 73, 70, 70]⟩ : ByteArray) 0 (by omega) (by show 4 ≤ 4 + 6 * 0; omega) (by omega) (Nat.le_refl _)
      exact ⟨d, t, h, h2⟩

theorem hurt_tot {s : List Int} {p : Int} (h : RdOk s p) (a : ByteArray) (ha : a.size ≤ 4611686018427387904) : ∃ r q, spec_l1Rd_hurt.f s p a = some (r, q) ∧ r.size ≤ a.size + 1 ∧ RdOk s q := by
  have one : ∀ (ys : List ByteArray) (i : Int), (∀ y ∈ ys, y.size = 1) → (rdOf ByteArray.empty ys i).size ≤ 1 := by
    intro ys i hy
    unfold rdOf
    rw [List.getD_eq_getElem?_getD]
    by_cases c : i.toNat < ys.length
    · rw [List.getElem?_eq_getElem c]
      exact Nat.le_of_eq (hy _ (List.getElem_mem _))
    · rw [List.getElem?_eq_none (by omega)]
      exact Nat.zero_le _
  unfold spec_l1Rd_hurt.f
  obtain ⟨v, q, e, v0, v1, h1⟩ := below_tot h 6
  rw [e]
  simp only [Option.bind_some]
  by_cases c1 : v = 1
  · rw [if_pos c1, w64_in (n := (a.size : Int) + 1) (by omega) (by omega)]
    obtain ⟨u, r, e2, u0, u1, h2⟩ := below_tot h1 ((a.size : Int) + 1)
    rw [e2]
    simp only [Option.bind_some]
    rw [if_pos u0, if_pos (by have := u1 (by omega); omega)]
    exact ⟨_, _, rfl, by rw [ByteArray.size_extract]; omega, h2⟩
  rw [if_neg c1]
  by_cases c2 : v = 2
  · rw [if_pos c2]
    by_cases c3 : (a.size : Int) > 0
    · rw [if_pos c3]
      obtain ⟨u, r, e2, u0, u1, h2⟩ := below_tot h1 (a.size : Int)
      have u2 := u1 (by omega)
      rw [e2]
      simp only [Option.bind_some]
      rw [if_pos u0, if_pos (by omega)]
      obtain ⟨x, t, e3, x0, x1, h3⟩ := below_tot h2 6
      rw [e3]
      simp only [Option.bind_some]
      have x2 := x1 (by omega)
      have o := one ([(⟨#[48]⟩ : ByteArray), (⟨#[97]⟩ : ByteArray), (⟨#[32]⟩ : ByteArray), (⟨#[44]⟩ : ByteArray), (⟨#[36]⟩ : ByteArray), (⟨#[43]⟩ : ByteArray)] : List ByteArray) x (by intro y hy; simp only [List.mem_cons, List.not_mem_nil, or_false] at hy; rcases hy with rfl | rfl | rfl | rfl | rfl | rfl <;> rfl)
      generalize rdOf ByteArray.empty ([(⟨#[48]⟩ : ByteArray), (⟨#[97]⟩ : ByteArray), (⟨#[32]⟩ : ByteArray), (⟨#[44]⟩ : ByteArray), (⟨#[36]⟩ : ByteArray), (⟨#[43]⟩ : ByteArray)] : List ByteArray) x = z at o ⊢
      rw [if_pos x0, if_pos (by simpa using x2), if_pos (by rw [ByteArray.size_extract]; omega), w64_in (n := u + 1) (by omega) (by omega), if_pos (by omega), if_pos (by omega), if_pos (by rw [ByteArray.size_append, ByteArray.size_extract, ByteArray.size_extract]; omega)]
      exact ⟨_, _, rfl, by rw [ByteArray.size_append, ByteArray.size_append, ByteArray.size_extract, ByteArray.size_extract]; omega, h3⟩
    · rw [if_neg c3]
      exact ⟨_, _, rfl, by omega, h1⟩
  rw [if_neg c2]
  by_cases c3 : v = 3
  · rw [if_pos c3]
    obtain ⟨x, t, e3, x0, x1, h3⟩ := below_tot h1 3
    have x2 := x1 (by omega)
    rw [e3]
    simp only [Option.bind_some]
    have o := one ([(⟨#[32]⟩ : ByteArray), (⟨#[48]⟩ : ByteArray), (⟨#[120]⟩ : ByteArray)] : List ByteArray) x (by intro y hy; simp only [List.mem_cons, List.not_mem_nil, or_false] at hy; rcases hy with rfl | rfl | rfl <;> rfl)
    generalize rdOf ByteArray.empty ([(⟨#[32]⟩ : ByteArray), (⟨#[48]⟩ : ByteArray), (⟨#[120]⟩ : ByteArray)] : List ByteArray) x = z at o ⊢
    rw [if_pos x0, if_pos (by simpa using x2), if_pos (by omega)]
    exact ⟨_, _, rfl, by rw [ByteArray.size_append]; omega, h3⟩
  · rw [if_neg c3]
    exact ⟨_, _, rfl, by omega, h1⟩

theorem bytesOf_bytes (s : ByteArray) : ∀ x ∈ bytesOf s, 0 ≤ x ∧ x < 256 := by
  intro x hx
  unfold bytesOf at hx
  obtain ⟨b, _, rfl⟩ := List.mem_map.1 hx
  have := b.toNat_lt
  omega
theorem cpy_bytes {xs ys : List Int} {lo m : Nat} (hx : ∀ x ∈ xs, 0 ≤ x ∧ x < 256) (hy : ∀ x ∈ ys, 0 ≤ x ∧ x < 256) : ∀ x ∈ cpy xs lo m ys, 0 ≤ x ∧ x < 256 := by
  intro x h
  unfold cpy at h
  rw [List.mem_append, List.mem_append] at h
  rcases h with (h | h) | h
  · exact hx x (List.mem_of_mem_take h)
  · exact hy x (List.mem_of_mem_take h)
  · exact hx x (List.mem_of_mem_drop h)
theorem cpy_get (xs ys : List Int) (lo m : Nat) (h : lo ≤ xs.length) (p : Nat) :
    (cpy xs lo m ys)[p]? = if lo ≤ p ∧ p < lo + min ys.length m then ys[p - lo]? else xs[p]? := by
  unfold cpy
  have h1 : (xs.take lo).length = lo := by rw [List.length_take]; omega
  have h2 : (xs.take lo ++ ys.take m).length = lo + min ys.length m := by rw [List.length_append, h1, List.length_take]; omega
  by_cases a : p < lo + min ys.length m
  · rw [List.getElem?_append_left (by omega)]
    by_cases b : lo ≤ p
    · rw [if_pos ⟨b, a⟩, List.getElem?_append_right (by omega), h1, List.getElem?_take, if_pos (by omega)]
    · rw [if_neg (by omega), List.getElem?_append_left (by omega), List.getElem?_take, if_pos (by omega)]
  · rw [if_neg (by omega), List.getElem?_append_right (by omega), h2, List.getElem?_drop, show lo + min ys.length m + (p - (lo + min ys.length m)) = p by omega]
theorem cpy_agree {xs ys : List Int} (hy : ys.length = xs.length) (lo m : Nat) (h : lo ≤ xs.length) (zs : List Int) (p : Nat) :
    (cpy ys lo m zs)[p]? = (cpy xs lo m zs)[p]? ∨ ((cpy ys lo m zs)[p]? = ys[p]? ∧ (cpy xs lo m zs)[p]? = xs[p]?) := by
  rw [cpy_get xs zs lo m h p, cpy_get ys zs lo m (by omega) p]
  by_cases c : lo ≤ p ∧ p < lo + min zs.length m
  · exact .inl (by rw [if_pos c, if_pos c])
  · exact .inr ⟨by rw [if_neg c], by rw [if_neg c]⟩
theorem bytesOf_strOfNums {xs : List Int} (h : ∀ x ∈ xs, 0 ≤ x ∧ x < 256) : bytesOf (strOfNums xs) = xs := by
  unfold bytesOf
  rw [strOfNums_data, List.map_map]
  conv => rhs; rw [← List.map_id xs]
  refine List.map_congr_left fun x hx => ?_
  have := h x hx
  simp only [Function.comp, id]
  rw [UInt8.toNat_ofNat']
  omega

theorem bt_range (a : ByteArray) (i : Int) : 0 ≤ bt a i ∧ bt a i < 256 := by
  unfold bt
  split
  · rename_i h
    have := (a[i.toNat]'h).toNat_lt
    omega
  · omega

/-- The number that the first i bytes tell, the high one first. -/
def big (a : ByteArray) : Nat → Int
  | 0 => 0
  | i + 1 => 256 * big a i + bt a i
theorem big_range (a : ByteArray) : ∀ i, 0 ≤ big a i ∧ big a i < 256 ^ i
  | 0 => by simp [big]
  | i + 1 => by
    have := big_range a i; have hb := bt_range a i
    simp only [big, Int.pow_succ]
    omega
theorem big_lt (a : ByteArray) (i : Nat) (hi : i ≤ 3) : 0 ≤ big a i ∧ big a i < 16777216 := by
  have h := big_range a i
  have h2 : i = 0 ∨ i = 1 ∨ i = 2 ∨ i = 3 := by omega
  rcases h2 with h2 | h2 | h2 | h2 <;> subst h2 <;> omega
theorem or_byte {x b : Int} (hx : 0 ≤ x) (hx1 : x < 16777216) (hb : 0 ≤ b) (hb1 : b < 256) : Go.bits .or .i64 (x * 256) b = 256 * x + b := by
  obtain ⟨m, rfl⟩ := Int.eq_ofNat_of_zero_le hx
  obtain ⟨n, rfl⟩ := Int.eq_ofNat_of_zero_le hb
  have := bits_or (m * 256) n (by omega) (by omega)
  rw [show ((m : Int) * 256) = ((m * 256 : Nat) : Int) by omega, this]
  have h2 : 2 ^ 8 * m + n = 2 ^ 8 * m ||| n := Nat.two_pow_add_eq_or_of_lt (by omega) m
  rw [show m * 256 ||| n = 2 ^ 8 * m + n by rw [h2, Nat.mul_comm]]
  omega
theorem bigOf_l0 (a : ByteArray) (ha : a.size ≤ 3) : ∀ (k i : Nat), i ≤ a.size → a.size - i < k → impl_bigOf.l0 k a (big a i) (a.size : Int) (i : Int) = some (big a a.size)
  | 0, i, _, h => by omega
  | k + 1, i, hi, h => by
    unfold impl_bigOf.l0
    by_cases hc : (i : Int) < (a.size : Int)
    · have hb := bt_range a i; have hg := big_lt a i (by omega)
      rw [if_pos hc, if_pos (by omega), if_pos hc, w64_in (n := big a i * 256) (by omega) (by omega), w64_in (n := bt a i) (by omega) (by omega), or_byte hg.1 hg.2 hb.1 hb.2, w64_in (n := (i : Int) + 1) (by omega) (by omega)]
      have := bigOf_l0 a ha k (i + 1) (by omega) (by omega)
      simpa only [big, Int.natCast_add, Int.natCast_one] using this
    · rw [if_neg hc, show i = a.size by omega]
theorem bigOf_eq (a : ByteArray) (ha : a.size ≤ 3) (k : Nat) (hk : a.size < k) : impl_bigOf.f k a = some (big a a.size) := by
  unfold impl_bigOf.f
  exact bigOf_l0 a ha k 0 (by omega) (by omega)
theorem read_l0 (a : ByteArray) (ha : a.size ≤ 3) : ∀ (k i : Nat), i ≤ a.size → a.size - i < k → spec_l14Read.l0 k a (big a i) (i : Int) = some (big a a.size)
  | 0, i, _, h => by omega
  | k + 1, i, hi, h => by
    unfold spec_l14Read.l0
    by_cases hc : (i : Int) < (a.size : Int)
    · have hb := bt_range a i; have hg := big_lt a i (by omega)
      rw [if_pos hc, if_pos (by omega), w64_in (n := 256 * big a i) (by omega) (by omega), w64_in (n := bt a i) (by omega) (by omega), w64_in (n := 256 * big a i + bt a i) (by omega) (by omega), w64_in (n := (i : Int) + 1) (by omega) (by omega)]
      have := read_l0 a ha k (i + 1) (by omega) (by omega)
      simpa only [big, Int.natCast_add, Int.natCast_one] using this
    · rw [if_neg hc, show i = a.size by omega]
theorem read_eq (a : ByteArray) (ha : a.size ≤ 3) (k : Nat) (hk : a.size < k) : spec_l14Read.f k a = some (big a a.size) := by
  unfold spec_l14Read.f
  exact read_l0 a ha k 0 (by omega) (by omega)

/-- Both loops stand at the same place of what is told, with the same put in: they end alike. -/
theorem loops (d : ByteArray) (hd : d.size ≤ 80000) (hd6 : 10 ≤ d.size) (size : Int) (hs0 : 0 ≤ size) (hs : size ≤ 20000) :
    ∀ (n at_ k1 k2 : Nat) (xs : List Int) (last : Int), xs.length = size.toNat → 0 ≤ last → 4 ≤ at_ → at_ ≤ d.size - 6 → d.size - 6 - at_ ≤ n → n + 8 ≤ k1 → n + 8 ≤ k2 →
      ∃ r, spec_Applied.l0 k1 d ((d.size : Int) - 6) size xs last (at_ : Int) = some r ∧ impl_Applied.l0 k2 (d.extract at_ (d.size - 6)) size xs last = some r := by
  intro n
  induction n with
  | zero =>
    intro at_ k1 k2 xs last hx hl h0 h1 h2 h3 h4
    obtain ⟨k1, rfl⟩ : ∃ q, k1 = q + 1 := ⟨k1 - 1, by omega⟩
    obtain ⟨k2, rfl⟩ : ∃ q, k2 = q + 1 := ⟨k2 - 1, by omega⟩
    have he : (d.extract at_ (d.size - 6)).toList = [] := by
      have : d.extract at_ (d.size - 6) = ByteArray.empty := by
        rw [ByteArray.extract_eq_empty_iff]; omega
      rw [this]; exact ByteArray.toList_empty
    unfold spec_Applied.l0 impl_Applied.l0
    rw [if_neg (by omega), if_pos he]
    exact ⟨_, rfl, rfl⟩
  | succ n ih =>
    intro at_ k1 k2 xs last hx hl h0 h1 h2 h3 h4
    obtain ⟨k1, rfl⟩ : ∃ q, k1 = q + 1 := ⟨k1 - 1, by omega⟩
    obtain ⟨k2, rfl⟩ : ∃ q, k2 = q + 1 := ⟨k2 - 1, by omega⟩
    have hsz : (d.extract at_ (d.size - 6)).size = d.size - 6 - at_ := by rw [ByteArray.size_extract]; omega
    by_cases hc : (at_ : Int) < (d.size : Int) - 6
    · unfold spec_Applied.l0 impl_Applied.l0
      have he : ¬ (d.extract at_ (d.size - 6)).toList = [] := by
        intro h
        have := congrArg List.length h
        rw [ByteArray.toList_eq, Array.length_toList, ByteArray.size_data, hsz] at this
        simp at this
        omega
      rw [if_pos hc, if_neg he, hsz, w64_in (n := (d.size : Int) - 6 - at_) (by omega) (by omega)]
      by_cases h5 : ((d.size - 6 - at_ : Nat) : Int) < 5
      · rw [if_pos h5, if_pos (by omega)]
        exact ⟨_, rfl, rfl⟩
      · rw [if_neg h5]
        have e3 : ∀ _ : Unit, wrap64 ((at_ : Int) + 3) = ((at_ + 3 : Nat) : Int) := fun _ => by rw [w64_in (by omega) (by omega)]; omega
        have e5 : ∀ _ : Unit, wrap64 ((at_ : Int) + 5) = ((at_ + 5 : Nat) : Int) := fun _ => by rw [w64_in (by omega) (by omega)]; omega
        have x3 : (d.extract at_ (d.size - 6)).extract 0 3 = d.extract at_ (at_ + 3) := by rw [ByteArray.extract_extract]; congr 1; omega
        have x5 : (d.extract at_ (d.size - 6)).extract 3 5 = d.extract (at_ + 3) (at_ + 5) := by rw [ByteArray.extract_extract]; congr 1; omega
        have s3 : (d.extract at_ (at_ + 3)).size = 3 := by rw [ByteArray.size_extract]; omega
        have s5 : (d.extract (at_ + 3) (at_ + 5)).size = 2 := by rw [ByteArray.size_extract]; omega
        have x55 : (d.extract at_ (d.size - 6)).extract 5 (d.size - 6 - at_) = d.extract (at_ + 5) (d.size - 6) := by rw [ByteArray.extract_extract]; congr 1; omega
        have s55 : (d.extract (at_ + 5) (d.size - 6)).size = d.size - 6 - (at_ + 5) := by rw [ByteArray.size_extract]; omega
        have g3 := big_lt (d.extract at_ (at_ + 3)) 3 (by omega)
        have g5 := big_lt (d.extract (at_ + 3) (at_ + 5)) 2 (by omega)
        have r1 := bigOf_eq (d.extract at_ (at_ + 3)) (by omega) k2 (by omega)
        have r2 := bigOf_eq (d.extract (at_ + 3) (at_ + 5)) (by omega) k2 (by omega)
        have r3 := read_eq (d.extract at_ (at_ + 3)) (by omega) k1 (by omega)
        have r4 := read_eq (d.extract (at_ + 3) (at_ + 5)) (by omega) k1 (by omega)
        rw [s3] at r1 r3
        rw [s5] at r2 r4
        generalize big (d.extract at_ (at_ + 3)) 3 = from_ at r1 r3 g3
        generalize big (d.extract (at_ + 3) (at_ + 5)) 2 = m at r2 r4 g5
        simp only [x3, x5, x55, s55, r1, r2, Option.bind_some, e3 (), e5 (), Int.toNat_natCast, r3, r4]
        rw [if_pos (show 0 ≤ 3 by decide), if_pos (show (3 : Int) ≤ ((d.size - 6 - at_ : Nat) : Int) by omega), if_pos (show 3 ≤ 5 by decide), if_pos (show (5 : Int) ≤ ((d.size - 6 - at_ : Nat) : Int) by omega)]
        by_cases h6 : (d.size : Int) - 6 - at_ < 6
        · rw [if_pos h6]
          refine ⟨_, rfl, ?_⟩
          by_cases m0 : m = 0
          · rw [if_pos m0]
          · rw [if_neg m0, if_pos (by omega)]
        · rw [if_neg h6, if_pos (by omega), if_pos (by omega), if_pos (by omega), if_pos (by omega), if_pos (by omega), if_pos (by omega)]
          by_cases m0 : m = 0
          · rw [if_pos m0, if_pos m0]
            exact ⟨_, rfl, rfl⟩
          · rw [if_neg m0, if_neg m0, w64_in (n := (d.size : Int) - 6 - at_ - 5) (by omega) (by omega)]
            by_cases m1 : (d.size : Int) - 6 - at_ - 5 < m
            · rw [if_pos m1, if_pos (by omega)]
              exact ⟨_, rfl, rfl⟩
            · rw [if_neg m1, if_neg (show ¬ m > ((d.size - 6 - (at_ + 5) : Nat) : Int) by omega)]
              by_cases m2 : from_ < last
              · rw [if_pos m2, if_pos m2]
                exact ⟨_, rfl, rfl⟩
              · rw [if_neg m2, if_neg m2, w64_in (n := from_ + m) (by omega) (by omega)]
                by_cases m3 : from_ + m > size
                · rw [if_pos m3, if_pos m3]
                  exact ⟨_, rfl, rfl⟩
                · obtain ⟨j, rfl⟩ := Int.eq_ofNat_of_zero_le g5.1
                  obtain ⟨fr, rfl⟩ := Int.eq_ofNat_of_zero_le g3.1
                  have e6 : ∀ _ : Unit, wrap64 (((at_ + 5 : Nat) : Int) + (j : Int)) = ((at_ + 5 + j : Nat) : Int) := fun _ => by rw [w64_in (by omega) (by omega)]; omega
                  have c1 : (d.extract (at_ + 5) (d.size - 6)).extract 0 j = d.extract (at_ + 5) (at_ + 5 + j) := by rw [ByteArray.extract_extract]; congr 1; omega
                  have c2 : (d.extract (at_ + 5) (d.size - 6)).extract j (d.size - 6 - (at_ + 5)) = d.extract (at_ + 5 + j) (d.size - 6) := by rw [ByteArray.extract_extract]; congr 1; omega
                  obtain ⟨r, hr1, hr2⟩ := ih (at_ + 5 + j) k1 k2 (cpy xs fr (xs.length - fr) (bytesOf (d.extract (at_ + 5) (at_ + 5 + j)))) ((fr : Int) + (j : Int)) (by rw [cpy_length (by omega), hx]) (by omega) (by omega) (by omega) (by omega) (by omega) (by omega)
                  refine ⟨r, ?_, ?_⟩
                  · rw [if_neg m3, if_pos (by omega), if_pos (by omega), if_pos (by omega), e6 (), if_pos (by omega), if_pos (by omega)]
                    simpa only [Int.toNat_natCast] using hr1
                  · rw [if_neg m3, if_pos (by omega), if_pos (by omega), if_pos (by omega), if_pos (by omega)]
                    simpa only [Int.toNat_natCast, c1, c2] using hr2
    · have he : (d.extract at_ (d.size - 6)).toList = [] := by
        have : d.extract at_ (d.size - 6) = ByteArray.empty := by
          rw [ByteArray.extract_eq_empty_iff]; omega
        rw [this]; exact ByteArray.toList_empty
      unfold spec_Applied.l0 impl_Applied.l0
      rw [if_neg hc, if_pos he]
      exact ⟨_, rfl, rfl⟩

theorem prefix_eq (d : ByteArray) (h : 4 ≤ d.size) : strings_HasPrefix.f d (⟨#[68, 73, 70, 70]⟩ : ByteArray) = some ((d.extract 0 4).toList == ([68, 73, 70, 70] : List UInt8)) := by
  have hs : (⟨#[68, 73, 70, 70]⟩ : ByteArray).size = 4 := rfl
  have ht : (⟨#[68, 73, 70, 70]⟩ : ByteArray).toList = ([68, 73, 70, 70] : List UInt8) := by rw [ByteArray.toList_eq]
  unfold strings_HasPrefix.f stringslite_HasPrefix.f
  rw [hs, ht, if_pos (by omega), if_pos (by omega), if_pos (by omega)]
  rfl
theorem applied_both (a d : ByteArray) (k : Nat) (hk : d.size + 20 ≤ k) :
    ∃ r, spec_Applied.f k a d = some r ∧ impl_Applied.f k a d = some r := by
  obtain ⟨k, rfl⟩ : ∃ q, k = q + 1 := ⟨k - 1, by omega⟩
  have s1 : spec_Applied.j0 (k + 1) a d true = some (⟨#[]⟩, false) := by unfold spec_Applied.j0; rfl
  have s2 : impl_Applied.j0 (k + 1) a d true = some (⟨#[]⟩, false) := by unfold impl_Applied.j0; rfl
  unfold spec_Applied.f impl_Applied.f
  by_cases h1 : (a.size : Int) > 20000
  · rw [if_pos h1, if_pos h1]
    exact ⟨_, s1, s2⟩
  rw [if_neg h1, if_neg h1]
  unfold impl_within.f
  by_cases h2 : (d.size : Int) > 80000
  · rw [if_pos h2, if_pos (show (d.size : Int) ≥ 10 by omega), Option.bind_some, decide_eq_false (by omega), if_neg (by decide)]
    exact ⟨_, s1, s2⟩
  rw [if_neg h2]
  by_cases h3 : (d.size : Int) < 10
  · rw [if_pos h3, if_neg (show ¬ (d.size : Int) ≥ 10 by omega), Option.bind_some, if_neg (by decide)]
    exact ⟨_, s1, s2⟩
  rw [if_neg h3, if_pos (show (d.size : Int) ≥ 10 by omega), Option.bind_some, decide_eq_true (by omega), if_pos rfl, prefix_eq d (by omega), Option.bind_some]
  rw [if_pos (by decide), if_pos (show (4 : Int) ≤ (d.size : Int) by omega)]
  have e6 : ∀ _ : Unit, wrap64 ((d.size : Int) - 6) = ((d.size - 6 : Nat) : Int) := fun _ => by rw [w64_in (by omega) (by omega)]; omega
  have e3 : ∀ _ : Unit, wrap64 ((d.size : Int) - 3) = ((d.size - 3 : Nat) : Int) := fun _ => by rw [w64_in (by omega) (by omega)]; omega
  have e63 : ∀ _ : Unit, wrap64 (((d.size - 6 : Nat) : Int) + 3) = ((d.size - 3 : Nat) : Int) := fun _ => by rw [w64_in (by omega) (by omega)]; omega
  by_cases h4 : (d.extract 0 4).toList = ([68, 73, 70, 70] : List UInt8)
  rotate_left
  · rw [show ((d.extract 0 4).toList != ([68, 73, 70, 70] : List UInt8)) = true from bne_iff_ne.mpr h4, show ((d.extract 0 4).toList == ([68, 73, 70, 70] : List UInt8)) = false from beq_eq_false_iff_ne.mpr h4, if_neg (by decide)]
    exact ⟨_, s1, s2⟩
  rw [show ((d.extract 0 4).toList != ([68, 73, 70, 70] : List UInt8)) = false from bne_eq_false_iff_eq.mpr h4, show ((d.extract 0 4).toList == ([68, 73, 70, 70] : List UInt8)) = true from beq_iff_eq.mpr h4, if_pos rfl]
  rw [e6 (), e3 (), if_pos (by omega), if_pos (by omega), if_pos (by omega)]
  have sz3 : (d.extract (d.size - 3) d.size).size = 3 := by rw [ByteArray.size_extract]; omega
  have q1 := read_eq (d.extract (d.size - 3) d.size) (by omega) k (by omega)
  have q2 := bigOf_eq (d.extract (d.size - 3) d.size) (by omega) k (by omega)
  have g := big_lt (d.extract (d.size - 3) d.size) 3 (by omega)
  rw [sz3] at q1 q2
  generalize big (d.extract (d.size - 3) d.size) 3 = n at q1 q2 g
  rw [spec_Applied.j0]
  rw [e6 (), e63 (), if_neg (by decide), if_pos (by omega), if_pos (by omega), Int.toNat_natCast, q1, Option.bind_some, if_pos (by omega), if_pos (by omega), Int.toNat_natCast]
  obtain ⟨k, rfl⟩ : ∃ q, k = q + 1 := ⟨k - 1, by omega⟩
  have s3 : ∀ t b, spec_Applied.j1 (k + 1) a d t b true = some (⟨#[]⟩, false) := by intro t b; unfold spec_Applied.j1; rfl
  by_cases h5 : (d.extract (d.size - 6) (d.size - 3)).toList = ([69, 78, 68] : List UInt8)
  rotate_left
  · rw [show ((d.extract (d.size - 6) (d.size - 3)).toList != ([69, 78, 68] : List UInt8)) = true from bne_iff_ne.mpr h5, if_neg h5]
    exact ⟨_, s3 _ _, s2⟩
  rw [show ((d.extract (d.size - 6) (d.size - 3)).toList != ([69, 78, 68] : List UInt8)) = false from bne_eq_false_iff_eq.mpr h5, if_pos h5]
  rw [impl_Applied.j0]
  rw [e3 (), e6 (), if_neg (by decide), if_pos (by omega), if_pos (by omega), Int.toNat_natCast, q2, Option.bind_some]
  by_cases h6 : n > 20000
  · rw [if_pos h6, decide_eq_true h6]
    exact ⟨_, s3 _ _, rfl⟩
  rw [if_neg h6, decide_eq_false h6]
  rw [spec_Applied.j1]
  rw [if_neg (by decide), if_pos g.1, if_pos g.1, if_pos (by omega), if_pos (by omega), Option.bind_some, Option.bind_some, if_pos (by omega), if_pos (by omega)]
  obtain ⟨r, hr1, hr2⟩ := loops d (by omega) (by omega) n g.1 (by omega) (d.size - 6 - 4) 4 k (k + 1) (cpy (List.replicate n.toNat 0) 0 (List.replicate n.toNat (0 : Int)).length (bytesOf a)) 0
    (by rw [cpy_length (by omega), List.length_replicate]) (by omega) (by omega) (by omega) (by omega) (by omega) (by omega)
  refine ⟨r, ?_, ?_⟩
  · rw [← hr1, show ((d.size - 6 : Nat) : Int) = (d.size : Int) - 6 by omega]; rfl
  · rw [← hr2, Int.toNat_natCast]

/-- A text that agrees, place by place, with what was there or with what comes out, comes out the same. -/
theorem loop_again (size : Int) : ∀ (k : Nat) (d : ByteArray) (xs : List Int) (last : Int) (r : ByteArray), (xs.length : Int) = size → (∀ x ∈ xs, 0 ≤ x ∧ x < 256) →
    impl_Applied.l0 k d size xs last = some (r, true) →
    ∃ rs : List Int, r = strOfNums rs ∧ rs.length = xs.length ∧ (∀ x ∈ rs, 0 ≤ x ∧ x < 256) ∧
      ∀ ys : List Int, ys.length = xs.length → (∀ p : Nat, ys[p]? = xs[p]? ∨ ys[p]? = rs[p]?) → impl_Applied.l0 k d size ys last = some (r, true) := by
  intro k
  induction k with
  | zero => intro d xs last r _ _ h; simp [impl_Applied.l0] at h
  | succ k ih =>
    intro d xs last r hx hb h
    rw [impl_Applied.l0] at h
    by_cases h0 : d.toList = []
    · rw [if_pos h0] at h
      injection h with h; injection h with h _
      subst h
      refine ⟨xs, rfl, rfl, hb, fun ys hy hp => ?_⟩
      have : ys = xs := List.ext_getElem? fun p => by rcases hp p with q | q <;> exact q
      rw [this, impl_Applied.l0, if_pos h0]
    rw [if_neg h0] at h
    by_cases h1 : (d.size : Int) < 5
    · rw [if_pos h1] at h; simp at h
    rw [if_neg h1, if_pos (show 0 ≤ 3 by decide)] at h
    by_cases h2 : (3 : Int) ≤ (d.size : Int)
    rotate_left
    · rw [if_neg h2] at h; simp at h
    rw [if_pos h2] at h
    cases h3 : impl_bigOf.f k (d.extract 0 3) with
    | none => rw [h3] at h; simp at h
    | some fr =>
    rw [h3, Option.bind_some, if_pos (show 3 ≤ 5 by decide)] at h
    by_cases h4 : (5 : Int) ≤ (d.size : Int)
    rotate_left
    · rw [if_neg h4] at h; simp at h
    rw [if_pos h4] at h
    cases h5 : impl_bigOf.f k (d.extract 3 5) with
    | none => rw [h5] at h; simp at h
    | some m =>
    rw [h5, Option.bind_some] at h
    by_cases g1 : m = 0
    · rw [if_pos g1] at h; simp at h
    rw [if_neg g1] at h
    by_cases g2 : m > ((d.extract 5 d.size).size : Int)
    · rw [if_pos g2] at h; simp at h
    rw [if_neg g2] at h
    by_cases g3 : fr < last
    · rw [if_pos g3] at h; simp at h
    rw [if_neg g3] at h
    by_cases g4 : wrap64 (fr + m) > size
    · rw [if_pos g4] at h; simp at h
    rw [if_neg g4] at h
    by_cases g5 : 0 ≤ fr
    rotate_left
    · rw [if_neg g5] at h; simp at h
    rw [if_pos g5] at h
    by_cases g6 : fr ≤ (xs.length : Int)
    rotate_left
    · rw [if_neg g6] at h; simp at h
    rw [if_pos g6] at h
    by_cases g7 : 0 ≤ m
    rotate_left
    · rw [if_neg g7] at h; simp at h
    rw [if_pos g7] at h
    by_cases g8 : m ≤ ((d.extract 5 d.size).size : Int)
    rotate_left
    · rw [if_neg g8] at h; simp at h
    rw [if_pos g8] at h
    have hlo : fr.toNat ≤ xs.length := by clear h g2 g4 g8 h3 h5 ih hb; omega
    have hfl : fr.toNat + (xs.length - fr.toNat) ≤ xs.length := by
      clear h g2 g4 g8 h3 h5 ih hb; omega
    have hby : ∀ x ∈ bytesOf ((d.extract 5 d.size).extract 0 m.toNat), 0 ≤ x ∧ x < 256 := bytesOf_bytes _
    obtain ⟨rs, e1, e2, e3, e4⟩ := ih _ _ _ r (by rw [cpy_length hfl]; exact hx) (cpy_bytes hb hby) h
    refine ⟨rs, e1, by rw [e2, cpy_length hfl], e3, fun ys hy hp => ?_⟩
    rw [impl_Applied.l0, if_neg h0, if_neg h1, if_pos (show 0 ≤ 3 by decide), if_pos h2, h3, Option.bind_some, if_pos (show 3 ≤ 5 by decide), if_pos h4, h5, Option.bind_some, if_neg g1, if_neg g2, if_neg g3, if_neg g4, if_pos g5, hy, if_pos g6, if_pos g7, if_pos g8]
    refine e4 _ ?_ ?_
    · rw [cpy_length hfl, ← hy, cpy_length (by rw [hy]; exact hfl)]
    · intro p
      rcases cpy_agree hy fr.toNat (xs.length - fr.toNat) hlo (bytesOf ((d.extract 5 d.size).extract 0 m.toNat)) p with q | ⟨q1, q2⟩
      · exact .inl q
      · rcases hp p with w | w
        · exact .inl (by rw [q1, q2, w])
        · exact .inr (by rw [q1, w])

theorem again (a d c : ByteArray) (k : Nat) (hk : 20 ≤ k) (h : impl_Applied.f k a d = some (c, true)) : impl_Applied.f k c d = some (c, true) := by
  obtain ⟨k, rfl⟩ : ∃ q, k = q + 1 := ⟨k - 1, by omega⟩
  have no : ∀ x, impl_Applied.j0 (k + 1) x d true = some (⟨#[]⟩, false) := by intro x; rw [impl_Applied.j0]; rfl
  unfold impl_Applied.f at h
  by_cases h1 : (a.size : Int) > 20000
  · rw [if_pos h1, no] at h; simp at h
  rw [if_neg h1] at h
  cases h2 : impl_within.f (d.size : Int) 10 80000 with
  | none => rw [h2] at h; simp at h
  | some t =>
  rw [h2, Option.bind_some] at h
  cases t with
  | false => rw [if_neg (by decide), no] at h; simp at h
  | true =>
  rw [if_pos rfl] at h
  cases h3 : strings_HasPrefix.f d (⟨#[68, 73, 70, 70]⟩ : ByteArray) with
  | none => rw [h3] at h; simp at h
  | some t =>
  rw [h3, Option.bind_some] at h
  cases t with
  | false => rw [if_neg (by decide), no] at h; simp at h
  | true =>
  rw [if_pos rfl] at h
  by_cases h4 : 0 ≤ wrap64 ((d.size : Int) - 6)
  rotate_left
  · rw [if_neg h4] at h; simp at h
  rw [if_pos h4] at h
  by_cases h5 : wrap64 ((d.size : Int) - 6) ≤ wrap64 ((d.size : Int) - 3)
  rotate_left
  · rw [if_neg h5] at h; simp at h
  rw [if_pos h5] at h
  by_cases h6 : wrap64 ((d.size : Int) - 3) ≤ (d.size : Int)
  rotate_left
  · rw [if_neg h6] at h; simp at h
  rw [if_pos h6] at h
  cases h7 : ((d.extract (wrap64 ((d.size : Int) - 6)).toNat (wrap64 ((d.size : Int) - 3)).toNat).toList != ([69, 78, 68] : List UInt8)) with
  | true => rw [h7, no] at h; simp at h
  | false =>
  have h0 := h
  rw [h7, impl_Applied.j0, if_neg (by decide)] at h
  by_cases g1 : 0 ≤ wrap64 ((d.size : Int) - 3)
  rotate_left
  · rw [if_neg g1] at h; simp at h
  rw [if_pos g1, if_pos h6] at h
  cases g2 : impl_bigOf.f k (d.extract (wrap64 ((d.size : Int) - 3)).toNat d.size) with
  | none => rw [g2] at h; simp at h
  | some n =>
  rw [g2, Option.bind_some] at h
  by_cases g3 : n > 20000
  · rw [if_pos g3] at h; simp at h
  rw [if_neg g3] at h
  by_cases g4 : 0 ≤ n
  rotate_left
  · rw [if_neg g4] at h; simp at h
  rw [if_pos g4] at h
  by_cases g5 : n.toNat ≤ 281474976710656
  rotate_left
  · rw [if_neg g5] at h; simp at h
  rw [if_pos g5, Option.bind_some] at h
  by_cases g6 : 4 ≤ wrap64 ((d.size : Int) - 6)
  rotate_left
  · rw [if_neg g6] at h; simp at h
  rw [if_pos g6] at h
  by_cases g7 : wrap64 ((d.size : Int) - 6) ≤ (d.size : Int)
  rotate_left
  · rw [if_neg g7] at h; simp at h
  rw [if_pos g7] at h
  have z0 : ∀ x ∈ List.replicate n.toNat (0 : Int), 0 ≤ x ∧ x < 256 := by
    intro x hx
    obtain ⟨_, rfl⟩ := List.mem_replicate.1 hx
    omega
  have zl : (cpy (List.replicate n.toNat 0) 0 (List.replicate n.toNat (0 : Int)).length (bytesOf a)).length = n.toNat := by
    rw [cpy_length (by omega), List.length_replicate]
  have zi : ((cpy (List.replicate n.toNat 0) 0 (List.replicate n.toNat (0 : Int)).length (bytesOf a)).length : Int) = n := by
    rw [zl]; exact Int.toNat_of_nonneg g4
  obtain ⟨rs, e1, e2, e3, e4⟩ := loop_again n k _ _ 0 c zi (cpy_bytes z0 (bytesOf_bytes a)) h
  have ec : bytesOf c = rs := by rw [e1, bytesOf_strOfNums e3]
  have el : rs.length = n.toNat := by rw [e2, zl]
  have cs : c.size = n.toNat := by rw [← bytesOf_length, ec, el]
  have ey : cpy (List.replicate n.toNat 0) 0 (List.replicate n.toNat (0 : Int)).length (bytesOf c) = rs := by
    rw [ec]
    unfold cpy
    rw [List.length_replicate, List.take_zero, List.nil_append, List.take_of_length_le (by rw [el]; exact Nat.le_refl _), List.drop_of_length_le (by rw [List.length_replicate, el]; omega), List.append_nil]
  unfold impl_Applied.f
  rw [if_neg (by rw [cs]; clear h h0 h2 h3 h4 h5 h6 h7 g1 g2 g6 g7 e4; omega), h2, Option.bind_some, if_pos rfl, h3, Option.bind_some, if_pos rfl, if_pos h4, if_pos h5, if_pos h6, h7, impl_Applied.j0, if_neg (by decide), if_pos g1, if_pos h6, g2, Option.bind_some, if_neg g3, if_pos g4, if_pos g5, Option.bind_some, if_pos g6, if_pos g7, ey]
  exact e4 rs e2 (fun p => .inr rfl)

theorem FnApplied : laws_FnApplied.Pure := by
  intro l _ _ hw
  unfold laws_FnApplied.f laws_big.f
  simp only [Option.bind_some]
  by_cases hb : ((l.length : Int) > 1048576)
  · exact ⟨0, by rw [decide_eq_true hb]; rfl⟩
  rw [decide_eq_false hb]
  have hby := bytes_wf hw
  have hl : l.length ≤ 1048576 := by omega
  have ho := (open_tot hl hby).2
  have hd : ∃ k a d, 20 ≤ k ∧ d.size + 20 ≤ k ∧ spec_DrawApplied.f k l = some (a, d) := by
    obtain ⟨a, b, e⟩ := drawdiff_tot hl hby 200000 (by omega)
    obtain ⟨d, t, e2, e3⟩ := diff_tot a b 200000 (by omega)
    unfold spec_DrawApplied.f
    obtain ⟨u, q, e4, h1⟩ := once_tot ho 3
    obtain ⟨r, q2, e5, e6, _⟩ := hurt_tot h1 d (by omega)
    cases u with
    | true =>
      refine ⟨200000, a, r, by omega, by omega, ?_⟩
      rw [(open_tot hl hby).1]
      simp only [Option.bind_some, e, e2, e4, if_true, e5]
    | false =>
      refine ⟨200000, a, d, by omega, by omega, ?_⟩
      rw [(open_tot hl hby).1]
      simp only [Option.bind_some, e, e2, e4, if_false]
      rfl
  obtain ⟨k, a, d, k0, k1, e⟩ := hd
  refine ⟨k, ?_⟩
  rw [if_neg (by decide), e]
  simp only [Option.bind_some]
  obtain ⟨⟨c, t⟩, hr, hr2⟩ := applied_both a d k k1
  rw [hr, hr2]
  simp only [Option.bind_some]
  cases t with
  | false => simp
  | true =>
    rw [again a d c k k0 hr2]
    simp
end Go.Proofs.Ytahibkfcohajcaa.Pure
