import Derived.Test.YtcohcndliaaacaaZFnCartWritesQFnCartWritesx
import Derived.Test.YtcohcndliaaacaaZFnCartWritesLib
namespace Go.Proofs.Ytcohcndliaaacaa.Pure
open Go.RowKit Go.Proofs.Ytcohcndliaaacaa.QFnCartWrites Go.Proofs.YtcohcndliaaacaaW.PrintWords Go.Proofs.YtcohcndliaaacaaW.PrintLast Go.Proofs.Ytcohcndliaaacaa.Lib Go.Proofs.Ytcohcndliaaacaa.LibX Go.Proofs.Ytcohcndliaaacaa.LibC
set_option linter.unusedSimpArgs false
set_option linter.unusedVariables false

def Tot {α : Type} (g : Nat → Option α) (P : α → Prop) : Prop := ∃ K r, P r ∧ ∀ k, K ≤ k → g k = some r
theorem Tot.ret {α : Type} {r : α} {P : α → Prop} (h : P r) : Tot (fun _ => some r) P := ⟨0, r, h, fun _ _ => rfl⟩
theorem Tot.of {α : Type} {g : Option α} {r : α} {P : α → Prop} (e : g = some r) (h : P r) : Tot (fun _ => g) P := ⟨0, r, h, fun _ _ => e⟩
theorem Tot.bind {α β : Type} {g : Nat → Option α} {f : Nat → α → Option β} {P : α → Prop} {Q : β → Prop} (h : Tot g P) (hf : ∀ a, P a → Tot (fun k => f k a) Q) : Tot (fun k => (g k).bind (f k)) Q := by
  obtain ⟨K, a, ha, hg⟩ := h
  obtain ⟨L, r, hr, hk⟩ := hf a ha
  exact ⟨max K L, r, hr, fun k hk' => by show (g k).bind (f k) = some r; rw [hg k (by omega)]; exact hk k (by omega)⟩
theorem Tot.ite {α : Type} {c : Prop} [Decidable c] {g f : Nat → Option α} {P : α → Prop} (h1 : c → Tot g P) (h2 : ¬ c → Tot f P) : Tot (fun k => if c then g k else f k) P := by
  by_cases h : c
  · obtain ⟨K, r, hr, hk⟩ := h1 h
    exact ⟨K, r, hr, fun k hk' => by show (if c then g k else f k) = some r; rw [if_pos h]; exact hk k hk'⟩
  · obtain ⟨K, r, hr, hk⟩ := h2 h
    exact ⟨K, r, hr, fun k hk' => by show (if c then g k else f k) = some r; rw [if_neg h]; exact hk k hk'⟩
theorem Tot.yes {α : Type} {c : Prop} [Decidable c] {g f : Nat → Option α} {P : α → Prop} (h : c) (h1 : Tot g P) : Tot (fun k => if c then g k else f k) P := Tot.ite (fun _ => h1) (fun n => absurd h n)
theorem Tot.no {α : Type} {c : Prop} [Decidable c] {g f : Nat → Option α} {P : α → Prop} (h : ¬ c) (h1 : Tot f P) : Tot (fun k => if c then g k else f k) P := Tot.ite (fun n => absurd n h) (fun _ => h1)
theorem Tot.mono {α : Type} {g : Nat → Option α} {P Q : α → Prop} (h : Tot g P) (hi : ∀ a, P a → Q a) : Tot g Q := by
  obtain ⟨K, r, hr, hk⟩ := h
  exact ⟨K, r, hi r hr, hk⟩
theorem Tot.step {α : Type} {g f : Nat → Option α} {P : α → Prop} (h : ∀ k, g (k + 1) = f k) (hf : Tot f P) : Tot g P := by
  obtain ⟨K, r, hr, hk⟩ := hf
  exact ⟨K + 1, r, hr, fun k hk' => by obtain ⟨m, rfl⟩ : ∃ m, k = m + 1 := ⟨k - 1, by omega⟩; rw [h]; exact hk m (by omega)⟩
theorem Tot.lift {α : Type} {g : Nat → Option α} {P : α → Prop} (hm : ∀ k, LeO (g k) (g (k + 1))) {k : Nat} {r : α} (e : g k = some r) (h : P r) : Tot g P := ⟨k, r, h, fun _ hk => at_rounds hm hk e⟩
theorem Tot.congr {α : Type} {g f : Nat → Option α} {P : α → Prop} (h : ∀ k, g k = f k) (hf : Tot f P) : Tot g P := by
  obtain ⟨K, r, hr, hk⟩ := hf
  exact ⟨K, r, hr, fun k hk' => (h k).trans (hk k hk')⟩
theorem Tot.eq {α : Type} {g : Nat → Option α} {r : α} (h : Tot g (fun x => x = r)) : ∃ K, ∀ k, K ≤ k → g k = some r := by
  obtain ⟨K, x, hx, hk⟩ := h
  subst hx
  exact ⟨K, hk⟩
theorem Tot.done {g : Nat → Option Bool} (h : Tot g (fun x => x = true)) : ∃ k, g k = some true := by
  obtain ⟨K, hk⟩ := h.eq
  exact ⟨K, hk K (Nat.le_refl _)⟩

def RdOk (s : List Int) (p : Int) : Prop := 0 ≤ p ∧ p ≤ s.length ∧ s.length ≤ 1048576 ∧ ∀ x ∈ s, 0 ≤ x ∧ x ≤ 255
theorem rd_mem {s : List Int} {p : Int} (h0 : 0 ≤ p) (h1 : p < (s.length : Int)) : rd s p ∈ s := by
  unfold rd
  rw [List.getD_eq_getElem?_getD, List.getElem?_eq_getElem (by omega)]
  exact List.getElem_mem _
theorem open_tot {l : List Int} (hl : l.length ≤ 1048576) (hb : ∀ x ∈ l, 0 ≤ x ∧ x ≤ 255) : spec_l1Open.f l = some (l, 0) ∧ RdOk l 0 :=
  ⟨rfl, by omega, by omega, hl, hb⟩
theorem next_tot {s : List Int} {p : Int} (h : RdOk s p) : ∃ v q, spec_l1Rd_next.f s p = some (v, q) ∧ 0 ≤ v ∧ v ≤ 255 ∧ RdOk s q := by
  obtain ⟨h0, h1, h2, h3⟩ := h
  unfold spec_l1Rd_next.f
  by_cases c : p ≥ (s.length : Int)
  · rw [if_pos c]
    exact ⟨0, p, rfl, by omega, by omega, h0, h1, h2, h3⟩
  · have hm := h3 _ (rd_mem h0 (show p < (s.length : Int) by omega))
    have e : p + 1 - 1 = p := by omega
    rw [if_neg c, w64_in (n := p + 1) (by omega) (by omega), w64_in (n := p + 1 - 1) (by omega) (by omega), e, if_pos h0, if_pos (by omega), w64_in (n := rd s p) (by omega) (by omega)]
    exact ⟨_, _, rfl, hm.1, hm.2, by omega, by omega, h2, h3⟩
theorem below_tot {s : List Int} {p : Int} (h : RdOk s p) (n : Int) : ∃ v q, spec_l1Rd_below.f s p n = some (v, q) ∧ 0 ≤ v ∧ (1 ≤ n → v < n) ∧ RdOk s q := by
  unfold spec_l1Rd_below.f
  by_cases c : n ≤ 1
  · rw [if_pos c]
    exact ⟨0, p, rfl, by omega, by omega, h⟩
  · rw [if_neg c]
    obtain ⟨v, q, e1, v0, v1, h1⟩ := next_tot h
    by_cases c2 : n ≤ 256
    · rw [if_pos c2, e1]
      simp only [Option.bind_some]
      rw [if_neg (by omega), tmod_pos _ v0]
      exact ⟨_, _, rfl, Int.emod_nonneg _ (by omega), fun _ => Int.emod_lt_of_pos _ (by omega), h1⟩
    · obtain ⟨u, r, e2, u0, u1, h2⟩ := next_tot h1
      rw [if_neg c2, e1]
      simp only [Option.bind_some]
      rw [e2]
      simp only [Option.bind_some]
      rw [if_neg (by omega), w64_in (n := v * 256) (by omega) (by omega), w64_in (n := v * 256 + u) (by omega) (by omega), tmod_pos _ (by omega)]
      exact ⟨_, _, rfl, Int.emod_nonneg _ (by omega), fun _ => Int.emod_lt_of_pos _ (by omega), h2⟩

theorem once_tot {s : List Int} {p : Int} (h : RdOk s p) (n : Int) : ∃ b q, spec_l1Rd_once.f s p n = some (b, q) ∧ RdOk s q := by
  obtain ⟨v, q, e, _, _, hq⟩ := below_tot h n
  unfold spec_l1Rd_once.f
  rw [e]
  exact ⟨_, _, rfl, hq⟩

theorem word_tot_l {s : List Int} : ∀ (k : Nat) (x i p : Int), RdOk s p → 0 ≤ i → i ≤ 8 → 8 - i < k → ∃ v q, spec_l1Rd_word.l0 k x i s p = some (v, q) ∧ RdOk s q := by
  intro k
  induction k with
  | zero => intros; omega
  | succ k ih =>
    intro x i p h i0 i1 hk
    simp only [spec_l1Rd_word.l0]
    by_cases c : i < 8
    · obtain ⟨v, q, e, _, _, hq⟩ := next_tot h
      rw [if_pos c, e]
      simp only [Option.bind_some]
      rw [w64_in (n := i + 1) (by omega) (by omega)]
      exact ih _ _ _ hq (by omega) (by omega) (by omega)
    · rw [if_neg c]
      exact ⟨_, _, rfl, h⟩
theorem word_tot {s : List Int} {p : Int} (h : RdOk s p) {k : Nat} (hk : 9 ≤ k) : ∃ v q, spec_l1Rd_word.f k s p = some (v, q) ∧ RdOk s q :=
  word_tot_l k 0 0 p h (by omega) (by omega) (by omega)

theorem near_tot {s : List Int} {p : Int} (h : RdOk s p) {k : Nat} (hk : 9 ≤ k) (lo hi : Int) (hlo : -4294967296 ≤ lo) (hhi : hi ≤ 4294967296) : ∃ v q, spec_l1Rd_near.f k s p lo hi = some (v, q) ∧ RdOk s q := by
  unfold spec_l1Rd_near.f
  obtain ⟨v, q, e, _, _, hq⟩ := below_tot h 8
  rw [e]
  simp only [Option.bind_some]
  by_cases c0 : v = 0
  · rw [if_pos c0]; exact ⟨_, _, rfl, hq⟩
  · rw [if_neg c0]
    by_cases c1 : v = 1
    · rw [if_pos c1]; exact ⟨_, _, rfl, hq⟩
    · rw [if_neg c1]
      by_cases c2 : hi < lo
      · rw [if_pos c2]; exact ⟨_, _, rfl, hq⟩
      · rw [if_neg c2]
        obtain ⟨x, r, e2, hr⟩ := word_tot hq hk
        rw [e2]
        simp only [Option.bind_some]
        rw [w64_in (n := hi - lo) (by omega) (by omega), w64_in (n := hi - lo + 1) (by omega) (by omega), u64_in (n := hi - lo + 1) (by omega) (by omega), if_neg (by omega)]
        exact ⟨_, _, rfl, hr⟩
theorem off_tot {s : List Int} {p : Int} (h : RdOk s p) {k : Nat} (hk : 9 ≤ k) (lo hi : Int) (hlo : -4294967296 ≤ lo) (hhi : hi ≤ 4294967296) : ∃ v q, spec_l1Rd_off.f k s p lo hi = some (v, q) ∧ RdOk s q := by
  unfold spec_l1Rd_off.f
  obtain ⟨b, q, e, hq⟩ := once_tot h 24
  rw [e]
  simp only [Option.bind_some]
  by_cases c : b = true
  · rw [if_pos c]
    obtain ⟨v, r, e2, v0, v1, hr⟩ := below_tot hq 4
    rw [e2]
    simp only [Option.bind_some]
    have v4 := v1 (by omega)
    rw [if_pos v0, if_pos (by simp only [List.length_cons, List.length_nil]; omega)]
    exact ⟨_, _, rfl, hr⟩
  · rw [if_neg c]
    obtain ⟨v, r, e2, hr⟩ := near_tot hq hk lo hi hlo hhi
    rw [e2]
    exact ⟨_, _, rfl, hr⟩

theorem byte_tot {s : List Int} {p : Int} (h : RdOk s p) : ∃ v q, spec_l1Rd_byte.f s p = some (v, q) ∧ 0 ≤ v ∧ v ≤ 255 ∧ RdOk s q := by
  unfold spec_l1Rd_byte.f
  obtain ⟨b, q, e, hq⟩ := once_tot h 2
  rw [e]
  simp only [Option.bind_some]
  by_cases c : b = true
  · rw [if_pos c]
    obtain ⟨v, r, e2, v0, v1, hr⟩ := below_tot hq 8
    rw [e2]
    simp only [Option.bind_some]
    have v4 := v1 (by omega)
    rw [if_pos v0, if_pos (by simp only [List.length_cons, List.length_nil]; omega)]
    refine ⟨_, _, rfl, ?_, ?_, hr⟩
    · rcases (show v = 0 ∨ v = 1 ∨ v = 2 ∨ v = 3 ∨ v = 4 ∨ v = 5 ∨ v = 6 ∨ v = 7 by omega) with rfl | rfl | rfl | rfl | rfl | rfl | rfl | rfl <;> decide
    · rcases (show v = 0 ∨ v = 1 ∨ v = 2 ∨ v = 3 ∨ v = 4 ∨ v = 5 ∨ v = 6 ∨ v = 7 by omega) with rfl | rfl | rfl | rfl | rfl | rfl | rfl | rfl <;> decide
  · rw [if_neg c]
    obtain ⟨v, r, e2, v0, v1, hr⟩ := below_tot hq 256
    rw [e2]
    have := v1 (by omega)
    exact ⟨_, _, rfl, v0, by omega, hr⟩

theorem bytes_wf {l : List Int} (h : ∀ x ∈ l, (Lit.int .u8 x).wf = true) : ∀ x ∈ l, 0 ≤ x ∧ x ≤ 255 := by
  intro x hx
  have h1 := h x hx
  have e0 : IntKind.u8.min = 0 := rfl
  have e1 : IntKind.u8.max = 255 := rfl
  simp only [Lit.wf, e0, e1, Bool.and_eq_true, decide_eq_true_eq] at h1
  exact h1

theorem below_T {s : List Int} {p : Int} (h : RdOk s p) (n : Int) : Tot (fun _ => spec_l1Rd_below.f s p n) (fun r => 0 ≤ r.1 ∧ (1 ≤ n → r.1 < n) ∧ RdOk s r.2) := by
  obtain ⟨v, q, e, h0, h1, h2⟩ := below_tot h n
  exact Tot.of e ⟨h0, h1, h2⟩
theorem once_T {s : List Int} {p : Int} (h : RdOk s p) (n : Int) : Tot (fun _ => spec_l1Rd_once.f s p n) (fun r => RdOk s r.2) := by
  obtain ⟨v, q, e, h0⟩ := once_tot h n
  exact Tot.of e h0
theorem byte_T {s : List Int} {p : Int} (h : RdOk s p) : Tot (fun _ => spec_l1Rd_byte.f s p) (fun r => 0 ≤ r.1 ∧ r.1 ≤ 255 ∧ RdOk s r.2) := by
  obtain ⟨v, q, e, h0, h1, h2⟩ := byte_tot h
  exact Tot.of e ⟨h0, h1, h2⟩
theorem off_T {s : List Int} {p : Int} (h : RdOk s p) (lo hi : Int) (hlo : -4294967296 ≤ lo) (hhi : hi ≤ 4294967296) : Tot (fun k => spec_l1Rd_off.f k s p lo hi) (fun r => RdOk s r.2) := by
  obtain ⟨v, q, e, h2⟩ := off_tot h (k := 9) (Nat.le_refl _) lo hi hlo hhi
  exact Tot.lift (fun k => spec_l1Rd_off.mono _ _ _ _ k) e h2

def tmplOk (n : Int) (b : Bool) : Bool := match spec_l3Template.f 12 n b with
  | some t => decide (t.size ≤ 24)
  | none => false
theorem tmpl_all : ∀ n : Fin 256, ∀ b : Bool, tmplOk (n.val : Int) b = true := by decide +kernel
theorem tmpl_T {n : Int} (h0 : 0 ≤ n) (h1 : n < 256) (b : Bool) : Tot (fun k => spec_l3Template.f k n b) (fun t => t.size ≤ 24) := by
  have h := tmpl_all ⟨n.toNat, by omega⟩ b
  simp only [Int.toNat_of_nonneg h0] at h
  unfold tmplOk at h
  cases e : spec_l3Template.f 12 n b with
  | none => rw [e] at h; cases h
  | some t =>
    rw [e] at h
    exact Tot.lift (fun k => spec_l3Template.mono _ _ k) e (of_decide_eq_true h)
def holes : List ByteArray := [(⟨#[110, 49, 54]⟩ : ByteArray), (⟨#[110, 56]⟩ : ByteArray), (⟨#[101, 56]⟩ : ByteArray)]
theorem hole_l1_T (s : ByteArray) (hs : s.size ≤ 1000) (i : Int) (h0 : 0 ≤ i) (h1 : i < 3) (P : Int × ByteArray → Prop) (hP : ∀ p, P (p, rdOf ByteArray.empty holes i)) (hn : Tot (fun k => spec_l3Hole.l0 k s holes (i + 1)) P) :
    ∀ (d : Nat) (p : Int), 0 ≤ p → p ≤ 1001 → 1001 - p ≤ d → Tot (fun k => spec_l3Hole.l1 k s holes i p) P := by
  have hz : 2 ≤ (rdOf ByteArray.empty holes i).size ∧ (rdOf ByteArray.empty holes i).size ≤ 3 := by
    rcases (show i = 0 ∨ i = 1 ∨ i = 2 by omega) with rfl | rfl | rfl <;> decide
  have hl : ((holes.length : Nat) : Int) = 3 := rfl
  intro d
  induction d with
  | zero =>
    intro p p0 p1 pd
    have e : wrap64 (p + ((rdOf ByteArray.empty holes i).size : Int)) = p + (rdOf ByteArray.empty holes i).size := w64_in (by omega) (by omega)
    refine Tot.step (fun k => spec_l3Hole.l1.eq_2 _ _ _ _ k) ?_
    refine Tot.yes h0 (Tot.yes (by rw [hl]; exact h1) ?_)
    rw [e, w64_in (n := i + 1) (by omega) (by omega)]
    exact Tot.no (by omega) hn
  | succ d ih =>
    intro p p0 p1 pd
    have e : wrap64 (p + ((rdOf ByteArray.empty holes i).size : Int)) = p + (rdOf ByteArray.empty holes i).size := w64_in (by omega) (by omega)
    refine Tot.step (fun k => spec_l3Hole.l1.eq_2 _ _ _ _ k) ?_
    refine Tot.yes h0 (Tot.yes (by rw [hl]; exact h1) ?_)
    rw [e, w64_in (n := i + 1) (by omega) (by omega), w64_in (n := p + 1) (by omega) (by omega)]
    refine Tot.ite (fun hc => ?_) (fun _ => hn)
    refine Tot.yes p0 (Tot.yes (by omega) (Tot.ite (fun _ => Tot.ret (hP _)) (fun _ => ih _ (by omega) (by omega) (by omega))))
theorem hole_T (s : ByteArray) (hs : s.size ≤ 1000) : Tot (fun k => spec_l3Hole.f k s) (fun _ => True) := by
  have h3 : Tot (fun k => spec_l3Hole.l0 k s holes (2 + 1)) (fun _ => True) := Tot.step (fun k => spec_l3Hole.l0.eq_2 _ _ _ k) (Tot.no (by decide) (Tot.ret trivial))
  have h2 : Tot (fun k => spec_l3Hole.l0 k s holes (1 + 1)) (fun _ => True) := Tot.step (fun k => spec_l3Hole.l0.eq_2 _ _ _ k) (Tot.yes (by decide) (hole_l1_T s hs 2 (by omega) (by omega) _ (fun _ => trivial) h3 1001 0 (by omega) (by omega) (by omega)))
  have h1 : Tot (fun k => spec_l3Hole.l0 k s holes (0 + 1)) (fun _ => True) := Tot.step (fun k => spec_l3Hole.l0.eq_2 _ _ _ k) (Tot.yes (by decide) (hole_l1_T s hs 1 (by omega) (by omega) _ (fun _ => trivial) h2 1001 0 (by omega) (by omega) (by omega)))
  exact Tot.step (fun k => spec_l3Hole.l0.eq_2 _ _ _ k) (Tot.yes (by decide) (hole_l1_T s hs 0 (by omega) (by omega) _ (fun _ => trivial) h1 1001 0 (by omega) (by omega) (by omega)))
theorem len_T {n : Int} (h0 : 0 ≤ n) (h1 : n < 256) (b : Bool) : Tot (fun k => spec_l3Length.f k n b) (fun r => 0 ≤ r ∧ r ≤ 3) := by
  unfold spec_l3Length.f
  refine Tot.bind (tmpl_T h0 h1 b) fun t ht => ?_
  refine Tot.ite (fun _ => Tot.ret (by omega)) (fun _ => Tot.ite (fun _ => Tot.ret (by omega)) (fun _ => ?_))
  refine Tot.bind (hole_T t (by omega)) fun r _ => ?_
  exact Tot.ite (fun _ => Tot.ret (by omega)) (fun _ => Tot.ite (fun _ => Tot.ret (by omega)) (fun _ => Tot.ret (by omega)))
theorem sIn_eq (a lo hi : Int) : spec_l1In.f a lo hi = some (decide (lo ≤ a ∧ a ≤ hi)) := by
  unfold spec_l1In.f
  by_cases h : a ≥ lo
  · rw [if_pos h]; simp [show lo ≤ a from h]
  · rw [if_neg h]; simp [show ¬ lo ≤ a from h]
theorem lengthOf_T (n : Int) (b : Bool) : Tot (fun k => spec_LengthOf.f k n b) (fun r => 0 ≤ r ∧ r ≤ 3 ∧ (r ≠ 0 → 0 ≤ n ∧ n < 256)) := by
  unfold spec_LengthOf.f
  refine Tot.bind (Tot.of (sIn_eq _ _ _) rfl) ?_
  rintro _ rfl
  refine Tot.ite (fun h => ?_) (fun _ => Tot.ret (by omega))
  have h := of_decide_eq_true h
  refine Tot.bind (len_T h.1 (by omega) b) fun r hr => Tot.ret (by omega)
theorem insOk_T (n : Int) (b : Bool) (m : Int) : Tot (fun k => spec_InsOk.f k n b m) (fun r => r = true → 0 ≤ n ∧ n < 256) := by
  unfold spec_InsOk.f
  refine Tot.bind (lengthOf_T n b) fun r hr => ?_
  refine Tot.ite (fun _ => Tot.ret (fun h => by cases h)) (fun h => ?_)
  have hn := hr.2.2 h
  refine Tot.bind (tmpl_T hn.1 hn.2 b) fun t ht => ?_
  refine Tot.bind (hole_T t (by omega)) fun r _ => ?_
  refine Tot.ite (fun _ => ?_) (fun _ => Tot.ite (fun _ => ?_) (fun _ => Tot.ite (fun _ => ?_) (fun _ => Tot.ret (fun _ => hn))))
  all_goals exact Tot.bind (Tot.of (sIn_eq _ _ _) rfl) (fun _ _ => Tot.ret (fun _ => hn))
theorem insBytes_T (n : Int) (b : Bool) (m : Int) : Tot (fun k => spec_InsBytes.f k n b m) (fun r => r.size ≤ 3) := by
  unfold spec_InsBytes.f
  refine Tot.bind (insOk_T n b m) fun r hr => ?_
  refine Tot.ite (fun h => ?_) (fun _ => Tot.ret (Nat.zero_le _))
  have hn := hr h
  refine Tot.ite (fun _ => Tot.ret (by rw [strOfNums_size]; simp)) (fun _ => ?_)
  refine Tot.bind (len_T hn.1 hn.2 false) fun r _ => ?_
  refine Tot.ite (fun _ => ?_) (fun _ => Tot.ite (fun _ => ?_) (fun _ => ?_))
  all_goals exact Tot.ret (by rw [strOfNums_size]; simp)

theorem ins_j0_T {s : List Int} {p : Int} (h : RdOk s p) (n : Int) (b : Bool) (m : Int) : Tot (fun k => spec_l1Rd_ins.j0 k s p n b m) (fun r => RdOk s r.2.2.2) := by
  refine Tot.step (fun k => spec_l1Rd_ins.j0.eq_2 _ _ _ _ _ k) ?_
  refine Tot.bind (once_T h 40) fun r hr => ?_
  exact Tot.ite (fun _ => Tot.bind (off_T hr 0 255 (by omega) (by omega)) fun q hq => Tot.ret hq) (fun _ => Tot.ret hr)
theorem ins_T {s : List Int} {p : Int} (h : RdOk s p) : Tot (fun k => spec_l1Rd_ins.f k s p) (fun r => RdOk s r.2.2.2) := by
  unfold spec_l1Rd_ins.f
  refine Tot.bind (below_T h 256) fun r hr => ?_
  refine Tot.bind (once_T hr.2.2 4) fun q hq => ?_
  refine Tot.bind (tmpl_T hr.1 (hr.2.1 (by omega)) q.1) fun t ht => ?_
  refine Tot.bind (hole_T t (by omega)) fun u _ => ?_
  refine Tot.ite (fun _ => Tot.bind (below_T hq 65536) fun v hv => ins_j0_T hv.2.2 _ _ _) (fun _ => ?_)
  refine Tot.ite (fun _ => Tot.bind (byte_T hq) fun v hv => ins_j0_T hv.2.2 _ _ _) (fun _ => ?_)
  exact Tot.ite (fun _ => Tot.bind (byte_T hq) fun v hv => ins_j0_T hv.2.2 _ _ _) (fun _ => ins_j0_T hq _ _ _)
theorem plainI_j0_T {s : List Int} {p : Int} (h : RdOk s p) (x : Bool) (n : Int) (b : Bool) (m : Int) : Tot (fun k => spec_l1Rd_plain.j0 k x s p n b m) (fun r => RdOk s r.2.2.2) := by
  refine Tot.step (fun k => spec_l1Rd_plain.j0.eq_2 _ _ _ _ _ _ k) ?_
  refine Tot.ite (fun _ => Tot.ret h) (fun _ => ?_)
  refine Tot.bind (below_T h 10) fun r hr => ?_
  have h1 := hr.2.2
  refine Tot.ite (fun _ => Tot.bind (byte_T h1) fun v hv => Tot.ret hv.2.2) (fun _ => ?_)
  refine Tot.ite (fun _ => Tot.bind (Tot.of rfl rfl) ?_) (fun _ => ?_)
  · rintro _ rfl
    refine Tot.bind (below_T h1 5) fun v hv => ?_
    exact Tot.yes hv.1 (Tot.yes (hv.2.1 (by omega)) (Tot.ret hv.2.2))
  refine Tot.ite (fun _ => Tot.ret h1) (fun _ => ?_)
  refine Tot.ite (fun _ => Tot.ret h1) (fun _ => ?_)
  refine Tot.ite (fun _ => Tot.bind (Tot.of rfl rfl) ?_) (fun _ => ?_)
  · rintro _ rfl
    refine Tot.bind (below_T h1 6) fun v hv => ?_
    exact Tot.yes hv.1 (Tot.yes (hv.2.1 (by omega)) (Tot.ret hv.2.2))
  exact Tot.ite (fun _ => Tot.ite (fun _ => Tot.ret h1) (fun _ => Tot.ret h1)) (fun _ => Tot.ret h1)
theorem plainI_T {s : List Int} {p : Int} (h : RdOk s p) : Tot (fun k => spec_l1Rd_plain.f k s p) (fun r => RdOk s r.2.2.2) := by
  unfold spec_l1Rd_plain.f
  refine Tot.bind (ins_T h) fun r hr => ?_
  exact Tot.ite (fun _ => plainI_j0_T hr _ _ _ _) (fun _ => Tot.bind (once_T hr 6) fun q hq => plainI_j0_T hq _ _ _ _)
theorem rom_l1_T {s : List Int} (n x : Int) (hx0 : 0 ≤ x) (hx1 : x < n) (hn : n ≤ 4) (P : ByteArray × Int → Prop) (hk : ∀ L q, (L.length : Int) = n * 256 → RdOk s q → Tot (fun k => spec_l1Rd_rom.l0 k n L (x + 1) s q) P) :
    ∀ (d : Nat) (L : List Int) (a p : Int), d ≤ 16 → x * 256 ≤ a → a + 3 * d ≤ x * 256 + 48 → (L.length : Int) = n * 256 → RdOk s p → Tot (fun k => spec_l1Rd_rom.l1 k n L x a (d : Int) s p) P := by
  have e1 : wrap64 (x + 1) = x + 1 := w64_in (by omega) (by omega)
  have e2 : wrap64 ((x + 1) * 256) = (x + 1) * 256 := w64_in (by omega) (by omega)
  intro d
  induction d with
  | zero =>
    intro L a p hd ha0 ha1 hL hp
    refine Tot.step (fun k => spec_l1Rd_rom.l1.eq_2 _ _ _ _ _ _ _ k) ?_
    rw [e1]
    exact Tot.no (by decide) (hk L p hL hp)
  | succ d ih =>
    intro L a p hd ha0 ha1 hL hp
    refine Tot.step (fun k => spec_l1Rd_rom.l1.eq_2 _ _ _ _ _ _ _ k) ?_
    rw [e1, e2]
    refine Tot.yes (by omega) (Tot.bind (plainI_T hp) fun r hr => Tot.bind (insBytes_T _ _ _) fun t ht => ?_)
    refine Tot.yes (by omega) (Tot.yes (by omega) (Tot.yes (by omega) ?_))
    rw [show wrap64 (((d + 1 : Nat) : Int) - 1) = (d : Int) by rw [w64_in (by omega) (by omega)]; omega, w64_in (n := a + (t.size : Int)) (by omega) (by omega)]
    exact ih _ _ _ (by omega) (by omega) (by omega) (by rw [cpy_length (by omega)]; exact hL) hr
theorem rom_l0_T {s : List Int} (n : Int) (hn0 : 2 ≤ n) (hn : n ≤ 4) : ∀ (d : Nat) (L : List Int) (x p : Int), 0 ≤ x → x + d = n → (L.length : Int) = n * 256 → RdOk s p → Tot (fun k => spec_l1Rd_rom.l0 k n L x s p) (fun r => r.1.size ≤ 1024 ∧ RdOk s r.2) := by
  intro d
  induction d with
  | zero =>
    intro L x p hx hd hL hp
    refine Tot.step (fun k => spec_l1Rd_rom.l0.eq_2 _ _ _ _ _ k) ?_
    refine Tot.no (by omega) (Tot.bind (once_T hp 30) fun r hr => ?_)
    refine Tot.ite (fun _ => Tot.yes (by omega) (Tot.ret ⟨?_, hr⟩)) (fun _ => Tot.ret ⟨?_, hr⟩)
    · show (strOfNums _).size ≤ 1024
      rw [strOfNums_size, List.length_drop]
      omega
    · show (strOfNums _).size ≤ 1024
      rw [strOfNums_size]
      omega
  | succ d ih =>
    intro L x p hx hd hL hp
    refine Tot.step (fun k => spec_l1Rd_rom.l0.eq_2 _ _ _ _ _ k) ?_
    refine Tot.yes (by omega) (Tot.bind (below_T hp 16) fun r hr => ?_)
    have hr1 := hr.2.1 (by omega)
    have hr0 := hr.1
    rw [w64_in (n := x * 256) (by omega) (by omega), w64_in (n := 1 + r.1) (by omega) (by omega)]
    have := rom_l1_T n x hx (by omega) hn _ (fun L q hL hq => ih L (x + 1) q (by omega) (by omega) hL hq) (1 + r.1).toNat L (x * 256) r.2 (by omega) (by omega) (by omega) hL hr.2.2
    rw [Int.toNat_of_nonneg (by omega)] at this
    exact this
theorem rom_T {s : List Int} {p : Int} (h : RdOk s p) : Tot (fun k => spec_l1Rd_rom.f k s p) (fun r => r.1.size ≤ 1024 ∧ RdOk s r.2) := by
  unfold spec_l1Rd_rom.f
  refine Tot.bind (below_T h 3) fun r hr => ?_
  have hr1 := hr.2.1 (by omega)
  have hr0 := hr.1
  rw [w64_in (n := 2 + r.1) (by omega) (by omega), w64_in (n := (2 + r.1) * 256) (by omega) (by omega)]
  refine Tot.yes (by omega) (Tot.yes (by omega) ?_)
  exact rom_l0_T (2 + r.1) (by omega) (by omega) (2 + r.1).toNat _ 0 _ (by omega) (by omega) (by rw [List.length_replicate]; omega) hr.2.2

theorem addr_T {s : List Int} {p : Int} (h : RdOk s p) : Tot (fun k => spec_l1Rd_addr.f k s p) (fun r => RdOk s r.2) := by
  unfold spec_l1Rd_addr.f
  refine Tot.bind (once_T h 8) fun r hr => ?_
  refine Tot.ite (fun _ => Tot.bind (off_T hr 0 65535 (by omega) (by omega)) fun q hq => Tot.ret hq) (fun _ => ?_)
  refine Tot.bind (below_T hr 66) fun a ha => ?_
  refine Tot.bind (below_T ha.2.2 258) fun b hb => ?_
  refine Tot.bind (below_T hb.2.2 128) fun c hc => ?_
  refine Tot.bind (Tot.of rfl rfl) ?_
  rintro _ rfl
  refine Tot.bind (below_T hc.2.2 13) fun v hv => ?_
  exact Tot.yes hv.1 (Tot.yes (hv.2.1 (by omega)) (Tot.ret hv.2.2))

abbrev C7 := ByteArray × Int × Int × ByteArray × Int × Bool × Int
def okC (rom : ByteArray) (kind bank : Int) (ram : ByteArray) (rb : Int) (on : Bool) (mode : Int) : Bool :=
  decide ((rom.size : Int) % 256 = 0 ∧ 2 ≤ (rom.size : Int) / 256 ∧ (rom.size : Int) / 256 ≤ 16) && decide ((ram.size : Int) = 256) &&
    (if kind = 0 then decide (bank = 1 ∧ rb = 0 ∧ on = false ∧ mode = 0) else if kind = 1 then decide ((1 ≤ bank ∧ bank ≤ 31) ∧ (0 ≤ rb ∧ rb ≤ 3) ∧ 0 ≤ mode ∧ mode ≤ 1) else if kind = 2 then decide ((0 ≤ bank ∧ bank ≤ 255) ∧ (0 ≤ rb ∧ rb ≤ 3) ∧ mode = 0) else false)
theorem wIn_eq (a lo hi : Int) : impl_within.f a lo hi = some (decide (lo ≤ a ∧ a ≤ hi)) := by
  unfold impl_within.f
  by_cases h : a ≥ lo
  · rw [if_pos h]; simp [show lo ≤ a from h]
  · rw [if_neg h]; simp [show ¬ lo ≤ a from h]
theorem sOk_j0_T (x : Bool) (rom : ByteArray) (kind bank : Int) (ram : ByteArray) (rb : Int) (on : Bool) (mode : Int) :
    Tot (fun k => spec_CartOk.j0 k x rom kind bank ram rb on mode) (fun r => r = (!x && (if kind = 0 then decide (bank = 1 ∧ rb = 0 ∧ on = false ∧ mode = 0) else if kind = 1 then decide ((1 ≤ bank ∧ bank ≤ 31) ∧ (0 ≤ rb ∧ rb ≤ 3) ∧ 0 ≤ mode ∧ mode ≤ 1) else if kind = 2 then decide ((0 ≤ bank ∧ bank ≤ 255) ∧ (0 ≤ rb ∧ rb ≤ 3) ∧ mode = 0) else false))) := by
  refine Tot.step (fun k => spec_CartOk.j0.eq_2 _ _ _ _ _ _ _ _ k) ?_
  refine Tot.ite (fun h => Tot.ret (by simp [h])) (fun hx => ?_)
  refine Tot.ite (fun hk => ?_) (fun hk0 => Tot.ite (fun hk => ?_) (fun hk1 => Tot.ite (fun hk => ?_) (fun hk2 => Tot.ret (by simp [hk0, hk1, hk2]))))
  · refine Tot.ite (fun h1 => Tot.ite (fun h2 => Tot.ite (fun h3 => Tot.ret (by simp [hk, h3])) (fun h3 => Tot.ret ?_)) (fun h2 => Tot.ret (by simp [hk, h2]))) (fun h1 => Tot.ret (by simp [hk, h1]))
    simp only [Bool.not_eq_true] at hx h3
    simp [hx, h3, hk, h1, h2]
    exact Bool.eq_iff_iff.2 (by simp)
  · refine Tot.bind (Tot.of (sIn_eq _ _ _) rfl) ?_
    rintro _ rfl
    refine Tot.ite (fun h1 => ?_) (fun h1 => Tot.ret (by simp [hk]; simp at h1; omega))
    refine Tot.bind (Tot.of (sIn_eq _ _ _) rfl) ?_
    rintro _ rfl
    refine Tot.ite (fun h2 => ?_) (fun h2 => Tot.ret (by simp [hk]; simp at h2; omega))
    refine Tot.bind (Tot.of (sIn_eq _ _ _) rfl) ?_
    rintro _ rfl
    refine Tot.ret ?_
    simp only [Bool.not_eq_true] at hx
    simp at h1 h2
    simp [hx, hk, h1, h2]
  · refine Tot.bind (Tot.of (sIn_eq _ _ _) rfl) ?_
    rintro _ rfl
    refine Tot.ite (fun h1 => ?_) (fun h1 => Tot.ret (by simp [hk]; simp at h1; omega))
    refine Tot.bind (Tot.of (sIn_eq _ _ _) rfl) ?_
    rintro _ rfl
    refine Tot.ite (fun h2 => ?_) (fun h2 => Tot.ret (by simp [hk]; simp at h2; omega))
    refine Tot.ret ?_
    simp only [Bool.not_eq_true] at hx
    simp at h1 h2
    simp [hx, hk, h1, h2]
    exact Bool.eq_iff_iff.2 (by simp)
theorem sOk_T (rom : ByteArray) (kind bank : Int) (ram : ByteArray) (rb : Int) (on : Bool) (mode : Int) (hr : rom.size ≤ 1000000) : Tot (fun k => spec_CartOk.f k rom kind bank ram rb on mode) (fun r => r = okC rom kind bank ram rb on mode) := by
  have hw : wrap64 ((rom.size : Int) / 256) = (rom.size : Int) / 256 := w64_in (by omega) (by omega)
  unfold spec_CartOk.f spec_l5Banks.f
  rw [hw, sIn_eq]
  by_cases h0 : (rom.size : Int) % 256 = 0
  rotate_left
  · rw [if_neg h0]
    refine Tot.bind (Tot.of rfl rfl) ?_
    rintro _ rfl
    exact Tot.yes rfl ((sOk_j0_T _ _ _ _ _ _ _ _).mono (fun r hr => by rw [hr]; unfold okC; simp [h0]))
  rw [if_pos h0]
  by_cases h1 : 2 ≤ (rom.size : Int) / 256 ∧ (rom.size : Int) / 256 ≤ 16
  rotate_left
  · rw [decide_eq_false h1]
    refine Tot.bind (Tot.of rfl rfl) ?_
    rintro _ rfl
    exact Tot.yes rfl ((sOk_j0_T _ _ _ _ _ _ _ _).mono (fun r hr => by rw [hr]; unfold okC; rw [decide_eq_false (show ¬ ((rom.size : Int) % 256 = 0 ∧ 2 ≤ (rom.size : Int) / 256 ∧ (rom.size : Int) / 256 ≤ 16) from fun h => h1 h.2)]; simp))
  rw [decide_eq_true h1]
  refine Tot.bind (Tot.of rfl rfl) ?_
  rintro _ rfl
  refine Tot.no (by omega) ((sOk_j0_T _ _ _ _ _ _ _ _).mono (fun r hr => ?_))
  rw [hr]
  unfold okC
  rw [decide_eq_true (show _ ∧ _ ∧ _ from ⟨h0, h1⟩), Bool.true_and]
  congr 1
  by_cases c : (ram.size : Int) = 256 <;> simp [c]
theorem iOk_j0_T (x : Bool) (rom : ByteArray) (kind bank : Int) (ram : ByteArray) (rb : Int) (on : Bool) (mode : Int) :
    Tot (fun k => impl_CartOk.j0 k x rom kind bank ram rb on mode) (fun r => r = (!x && (if kind = 0 then decide (bank = 1 ∧ rb = 0 ∧ on = false ∧ mode = 0) else if kind = 1 then decide ((1 ≤ bank ∧ bank ≤ 31) ∧ (0 ≤ rb ∧ rb ≤ 3) ∧ 0 ≤ mode ∧ mode ≤ 1) else if kind = 2 then decide ((0 ≤ bank ∧ bank ≤ 255) ∧ (0 ≤ rb ∧ rb ≤ 3) ∧ mode = 0) else false))) := by
  refine Tot.step (fun k => impl_CartOk.j0.eq_2 _ _ _ _ _ _ _ _ k) ?_
  refine Tot.ite (fun h => Tot.ret (by simp [h])) (fun hx => ?_)
  refine Tot.ite (fun hk => ?_) (fun hk0 => Tot.ite (fun hk => ?_) (fun hk1 => Tot.ite (fun hk => ?_) (fun hk2 => Tot.ret (by simp [hk0, hk1, hk2]))))
  · refine Tot.ite (fun h1 => Tot.ite (fun h2 => Tot.ite (fun h3 => Tot.ret ?_) (fun h3 => Tot.ret (by simp [hk, h3]))) (fun h2 => Tot.ret (by simp [hk, h2]))) (fun h1 => Tot.ret (by simp [hk, h1]))
    simp only [Bool.not_eq_true] at hx
    cases on <;> simp [hx, h3, hk, h1, h2]
  · refine Tot.bind (Tot.of (wIn_eq _ _ _) rfl) ?_
    rintro _ rfl
    refine Tot.ite (fun h1 => ?_) (fun h1 => Tot.ret (by simp [hk]; simp at h1; omega))
    refine Tot.bind (Tot.of (wIn_eq _ _ _) rfl) ?_
    rintro _ rfl
    refine Tot.ite (fun h2 => ?_) (fun h2 => Tot.ret (by simp [hk]; simp at h2; omega))
    refine Tot.bind (Tot.of (wIn_eq _ _ _) rfl) ?_
    rintro _ rfl
    refine Tot.ret ?_
    simp only [Bool.not_eq_true] at hx
    simp at h1 h2
    simp [hx, hk, h1, h2]
  · refine Tot.bind (Tot.of (show impl_isByte.f bank = some (decide (0 ≤ bank ∧ bank ≤ 255)) by unfold impl_isByte.f; rw [wIn_eq]; rfl) rfl) ?_
    rintro _ rfl
    refine Tot.ite (fun h1 => ?_) (fun h1 => Tot.ret (by simp [hk]; simp at h1; omega))
    refine Tot.bind (Tot.of (wIn_eq _ _ _) rfl) ?_
    rintro _ rfl
    refine Tot.ite (fun h2 => ?_) (fun h2 => Tot.ret (by simp [hk]; simp at h2; omega))
    refine Tot.ret ?_
    simp only [Bool.not_eq_true] at hx
    simp at h1 h2
    simp [hx, hk, h1, h2]
    exact Bool.eq_iff_iff.2 (by simp)
theorem iOk_T (rom : ByteArray) (kind bank : Int) (ram : ByteArray) (rb : Int) (on : Bool) (mode : Int) (hr : rom.size ≤ 1000000) : Tot (fun k => impl_CartOk.f k rom kind bank ram rb on mode) (fun r => r = okC rom kind bank ram rb on mode) := by
  have hw : wrap64 ((rom.size : Int) / 256) = (rom.size : Int) / 256 := w64_in (by omega) (by omega)
  unfold impl_CartOk.f
  rw [hw]
  refine Tot.ite (fun h0 => ?_) (fun h0 => (iOk_j0_T _ _ _ _ _ _ _ _).mono (fun r hr => by rw [hr]; unfold okC; simp [h0]))
  refine Tot.bind (Tot.of (wIn_eq _ _ _) rfl) ?_
  rintro _ rfl
  refine Tot.ite (fun h1 => ?_) (fun h1 => (iOk_j0_T _ _ _ _ _ _ _ _).mono (fun r hr => by rw [hr]; unfold okC; rw [decide_eq_false (show ¬ ((rom.size : Int) % 256 = 0 ∧ 2 ≤ (rom.size : Int) / 256 ∧ (rom.size : Int) / 256 ≤ 16) from fun h => h1 (decide_eq_true h.2))]; simp))
  refine (iOk_j0_T _ _ _ _ _ _ _ _).mono (fun r hr => ?_)
  rw [hr]
  unfold okC
  rw [decide_eq_true (show _ ∧ _ ∧ _ from ⟨h0, of_decide_eq_true h1⟩), Bool.true_and]
  congr 1
  by_cases c : (ram.size : Int) = 256 <;> simp [c]
def placeC (kind rb mode addr : Int) : Int := (if kind = 1 ∧ mode = 0 then 0 else rb) * 64 + addr - 40960
theorem ok_bounds {rom : ByteArray} {kind bank : Int} {ram : ByteArray} {rb : Int} {on : Bool} {mode : Int} (h : okC rom kind bank ram rb on mode = true) :
    ((rom.size : Int) % 256 = 0 ∧ 2 ≤ (rom.size : Int) / 256 ∧ (rom.size : Int) / 256 ≤ 16) ∧ ram.size = 256 ∧ (kind = 0 ∨ kind = 1 ∨ kind = 2) ∧ 0 ≤ bank ∧ bank ≤ 255 ∧ 0 ≤ rb ∧ rb ≤ 3 ∧ 0 ≤ mode ∧ mode ≤ 1 ∧ (kind = 0 → bank = 1 ∧ rb = 0 ∧ on = false ∧ mode = 0) ∧ (kind = 1 → 1 ≤ bank ∧ bank ≤ 31) ∧ (kind = 2 → mode = 0) := by
  unfold okC at h
  rw [Bool.and_eq_true, Bool.and_eq_true] at h
  obtain ⟨⟨h1, h2⟩, h3⟩ := h
  have h1 := of_decide_eq_true h1
  have h2 := of_decide_eq_true h2
  refine ⟨h1, by omega, ?_⟩
  by_cases k0 : kind = 0
  · rw [if_pos k0] at h3
    have h3 := of_decide_eq_true h3
    exact ⟨.inl k0, by omega, by omega, by omega, by omega, by omega, by omega, fun _ => h3, by omega, by omega⟩
  rw [if_neg k0] at h3
  by_cases k1 : kind = 1
  · rw [if_pos k1] at h3
    have h3 := of_decide_eq_true h3
    exact ⟨.inr (.inl k1), by omega, by omega, by omega, by omega, by omega, by omega, by omega, by omega, by omega⟩
  rw [if_neg k1] at h3
  by_cases k2 : kind = 2
  · rw [if_pos k2] at h3
    have h3 := of_decide_eq_true h3
    exact ⟨.inr (.inr k2), by omega, by omega, by omega, by omega, by omega, by omega, by omega, by omega, by omega⟩
  rw [if_neg k2] at h3
  cases h3
theorem place_range {kind rb mode addr : Int} (h0 : 0 ≤ rb) (h1 : rb ≤ 3) (h2 : 40960 ≤ addr) (h3 : addr ≤ 41023) : 0 ≤ placeC kind rb mode addr ∧ placeC kind rb mode addr < 256 := by
  unfold placeC
  split <;> omega
def nilC : C7 := ((⟨#[]⟩ : ByteArray), 0, 0, (⟨#[]⟩ : ByteArray), 0, false, 0)
def flatC (x : C7 × Bool) : ByteArray × Int × Int × ByteArray × Int × Bool × Int × Bool := (x.1.1, x.1.2.1, x.1.2.2.1, x.1.2.2.2.1, x.1.2.2.2.2.1, x.1.2.2.2.2.2.1, x.1.2.2.2.2.2.2, x.2)

def wrC (rom : ByteArray) (kind bank : Int) (ram : ByteArray) (rb : Int) (on : Bool) (mode addr v : Int) : C7 :=
  if kind = 0 then (rom, kind, bank, ram, rb, on, mode) else if addr < 128 then (rom, kind, bank, ram, rb, decide (v % 16 = 10), mode) else
  if addr < 256 then (rom, kind, (if kind = 2 then v else if 1 < v % 32 then v % 32 else 1), ram, rb, on, mode) else if addr < 384 then (rom, kind, bank, ram, v % 4, on, mode) else
  if addr < 512 then (rom, kind, bank, ram, rb, on, if kind = 1 then v % 2 else mode) else
  if on = true ∧ 40960 ≤ addr ∧ addr ≤ 41023 then (rom, kind, bank, strOfNums ((bytesOf ram).set (placeC kind rb mode addr).toNat (v % 256)), rb, on, mode) else (rom, kind, bank, ram, rb, on, mode)
theorem put_eq (s : ByteArray) (i v : Int) (h0 : 0 ≤ i) (h1 : i < (s.size : Int)) : spec_l5Put.f s i v = some (strOfNums ((bytesOf s).set i.toNat (v % 256))) := by
  unfold spec_l5Put.f
  rw [if_pos h0, if_pos h1]
theorem ramBank_eq (rom : ByteArray) (kind bank : Int) (ram : ByteArray) (rb : Int) (on : Bool) (mode : Int) : spec_l5RamBank.f rom kind bank ram rb on mode = some (if kind = 1 ∧ mode = 0 then 0 else rb) := by
  unfold spec_l5RamBank.f
  by_cases h1 : kind = 1 <;> by_cases h2 : mode = 0 <;> simp [h1, h2]
theorem mx_eq (v : Int) : mx 1 v = if 1 < v then v else 1 := rfl
theorem sWrite_T {rom : ByteArray} {kind bank : Int} {ram : ByteArray} {rb : Int} {on : Bool} {mode : Int} (ho : okC rom kind bank ram rb on mode = true) (addr v : Int) (v0 : 0 ≤ v) (v1 : v ≤ 255) :
    Tot (fun k => spec_l5Write.f k rom kind bank ram rb on mode addr v) (fun r => r = wrC rom kind bank ram rb on mode addr v) := by
  obtain ⟨_, hram, hk, hb0, hb1, hr0, hr1, hm0, hm1, _, _, _⟩ := ok_bounds ho
  unfold spec_l5Write.f wrC
  refine Tot.ite (fun c0 => Tot.ret (by rw [if_pos c0])) (fun c0 => ?_)
  rw [if_neg c0]
  refine Tot.ite (fun c1 => Tot.ret ?_) (fun c1 => ?_)
  · rw [if_pos c1, tmod_pos _ v0]; congr 1
  rw [if_neg c1]
  refine Tot.ite (fun c2 => ?_) (fun c2 => ?_)
  · rw [if_pos c2]
    refine Tot.step (fun k => spec_l5Write.j0.eq_2 _ _ _ _ _ _ _ _ _ _ k) ?_
    refine Tot.ite (fun c3 => Tot.ret ?_) (fun c3 => Tot.yes c2 (Tot.ret ?_))
    · rw [if_pos (by simpa using c3)]
    · rw [if_neg (by simpa using c3), mx_eq, tmod_pos _ v0]
  rw [if_neg c2]
  refine Tot.step (fun k => spec_l5Write.j0.eq_2 _ _ _ _ _ _ _ _ _ _ k) ?_
  refine Tot.no (by decide) (Tot.no c2 (Tot.ite (fun c3 => Tot.ret ?_) (fun c3 => ?_)))
  · rw [if_pos c3, tmod_pos _ v0]
  rw [if_neg c3]
  refine Tot.ite (fun c4 => Tot.ite (fun c5 => Tot.ret ?_) (fun c5 => Tot.ret ?_)) (fun c4 => ?_)
  · rw [if_pos c4, if_pos c5, tmod_pos _ v0]
  · rw [if_pos c4, if_neg c5]
  rw [if_neg c4]
  have no : ∀ P : C7 → Prop, P (rom, kind, bank, ram, rb, on, mode) → Tot (fun k => spec_l5Write.j1 k addr v false rom kind bank ram rb on mode) P := fun P hP =>
    Tot.step (fun k => spec_l5Write.j1.eq_2 _ _ _ _ _ _ _ _ _ _ k) (Tot.no (by decide) (Tot.ret hP))
  refine Tot.ite (fun c5 => ?_) (fun c5 => no _ (by rw [if_neg (by simp [c5])]))
  refine Tot.bind (Tot.of (sIn_eq _ _ _) rfl) ?_
  rintro _ rfl
  by_cases c6 : 40960 ≤ addr ∧ addr ≤ 41023
  · rw [decide_eq_true c6, if_pos ⟨c5, c6⟩]
    have hp := place_range (kind := kind) (mode := mode) hr0 hr1 c6.1 c6.2
    refine Tot.step (fun k => spec_l5Write.j1.eq_2 _ _ _ _ _ _ _ _ _ _ k) (Tot.yes rfl ?_)
    refine Tot.bind (Tot.of (ramBank_eq _ _ _ _ _ _ _) rfl) ?_
    rintro _ rfl
    have e : wrap64 (wrap64 (wrap64 ((if kind = 1 ∧ mode = 0 then 0 else rb) * 64) + addr) - 40960) = placeC kind rb mode addr := by
      have hq : 0 ≤ (if kind = 1 ∧ mode = 0 then 0 else rb) ∧ (if kind = 1 ∧ mode = 0 then 0 else rb) ≤ 3 := by split <;> omega
      unfold placeC
      rw [w64_in (n := (if kind = 1 ∧ mode = 0 then 0 else rb) * 64) (by omega) (by omega), w64_in (n := (if kind = 1 ∧ mode = 0 then 0 else rb) * 64 + addr) (by omega) (by omega), w64_in (n := (if kind = 1 ∧ mode = 0 then 0 else rb) * 64 + addr - 40960) (by omega) (by omega)]
    rw [e]
    refine Tot.bind (Tot.of (put_eq ram _ v hp.1 (by omega)) rfl) ?_
    rintro _ rfl
    exact Tot.ret rfl
  · rw [decide_eq_false c6, if_neg (fun h => c6 h.2)]
    exact no _ rfl
def cwC (rom : ByteArray) (kind bank : Int) (ram : ByteArray) (rb : Int) (on : Bool) (mode addr v : Int) : C7 × Bool :=
  if okC rom kind bank ram rb on mode = true ∧ (0 ≤ addr ∧ addr ≤ 65535) ∧ 0 ≤ v ∧ v ≤ 255 then (wrC rom kind bank ram rb on mode addr v, true) else (nilC, false)
theorem sCartWrite_T (rom : ByteArray) (kind bank : Int) (ram : ByteArray) (rb : Int) (on : Bool) (mode addr v : Int) (hr : rom.size ≤ 1000000) :
    Tot (fun k => spec_CartWrite.f k rom kind bank ram rb on mode addr v) (fun r => r = flatC (cwC rom kind bank ram rb on mode addr v)) := by
  unfold spec_CartWrite.f cwC
  refine Tot.bind (sOk_T rom kind bank ram rb on mode hr) ?_
  rintro _ rfl
  refine Tot.ite (fun h1 => ?_) (fun h1 => Tot.ret (by rw [if_neg (fun h => h1 h.1)]; rfl))
  refine Tot.bind (Tot.of (show spec_l4Word.f addr = some (decide (0 ≤ addr ∧ addr ≤ 65535)) by unfold spec_l4Word.f; rw [sIn_eq]; rfl) rfl) ?_
  rintro _ rfl
  refine Tot.ite (fun h2 => ?_) (fun h2 => Tot.ret (by rw [if_neg (fun h => h2 (decide_eq_true h.2.1))]; rfl))
  refine Tot.bind (Tot.of (show spec_l4Byte.f v = some (decide (0 ≤ v ∧ v ≤ 255)) by unfold spec_l4Byte.f; rw [sIn_eq]; rfl) rfl) ?_
  rintro _ rfl
  refine Tot.ite (fun h3 => ?_) (fun h3 => Tot.ret (by rw [if_neg (fun h => h3 (decide_eq_true h.2.2))]; rfl))
  have h2 := of_decide_eq_true h2
  have h3 := of_decide_eq_true h3
  refine Tot.bind (sWrite_T h1 addr v h3.1 h3.2) ?_
  rintro _ rfl
  rw [if_pos ⟨h1, h2, h3⟩]
  exact Tot.ret rfl
theorem wr_rom (rom : ByteArray) (kind bank : Int) (ram : ByteArray) (rb : Int) (on : Bool) (mode addr v : Int) : (wrC rom kind bank ram rb on mode addr v).1 = rom := by
  unfold wrC
  repeat' split
  all_goals rfl
theorem cw_rom (rom : ByteArray) (kind bank : Int) (ram : ByteArray) (rb : Int) (on : Bool) (mode addr v : Int) : (flatC (cwC rom kind bank ram rb on mode addr v)).1.size ≤ rom.size := by
  unfold cwC
  split
  · show (wrC rom kind bank ram rb on mode addr v).1.size ≤ _
    rw [wr_rom]
    exact Nat.le_refl _
  · exact Nat.zero_le _

theorem iPlace_T (rom : ByteArray) (kind bank : Int) (ram : ByteArray) (rb : Int) (on : Bool) (mode : Int) (hr0 : 0 ≤ rb) (hr1 : rb ≤ 3) (addr : Int) :
    Tot (fun k => impl_Cart_ramPlace.f k rom kind bank ram rb on mode addr) (fun r => r = if on = true ∧ 40960 ≤ addr ∧ addr ≤ 41023 then placeC kind rb mode addr else -1) := by
  have no : ∀ P : Int → Prop, P (-1) → Tot (fun k => impl_Cart_ramPlace.j0 k addr true rom kind bank ram rb on mode) P := fun P hP =>
    Tot.step (fun k => impl_Cart_ramPlace.j0.eq_2 _ _ _ _ _ _ _ _ _ k) (Tot.yes rfl (Tot.ret hP))
  unfold impl_Cart_ramPlace.f
  refine Tot.ite (fun c5 => ?_) (fun c5 => no _ (by rw [if_neg (by simp [c5])]))
  refine Tot.bind (Tot.of (wIn_eq _ _ _) rfl) ?_
  rintro _ rfl
  by_cases c6 : 40960 ≤ addr ∧ addr ≤ 41023
  · rw [decide_eq_true c6, if_pos ⟨c5, c6⟩]
    refine Tot.step (fun k => impl_Cart_ramPlace.j0.eq_2 _ _ _ _ _ _ _ _ _ k) (Tot.no (by decide) ?_)
    unfold placeC
    refine Tot.ite (fun k1 => Tot.ite (fun m0 => Tot.ret ?_) (fun m0 => Tot.ret ?_)) (fun k1 => Tot.ret ?_)
    · rw [if_pos ⟨k1, m0⟩, w64_in (n := 0 * 64 + addr) (by omega) (by omega), w64_in (by omega) (by omega)]
    · rw [if_neg (fun h => m0 h.2), w64_in (n := rb * 64) (by omega) (by omega), w64_in (n := rb * 64 + addr) (by omega) (by omega), w64_in (by omega) (by omega)]
    · rw [if_neg (fun h => k1 h.1), w64_in (n := rb * 64) (by omega) (by omega), w64_in (n := rb * 64 + addr) (by omega) (by omega), w64_in (by omega) (by omega)]
  · rw [decide_eq_false c6, if_neg (fun h => c6 h.2)]
    exact no _ rfl

theorem repl_eq (s : ByteArray) (i v : Int) (h0 : 0 ≤ i) (h1 : i < (s.size : Int)) : impl_replaced.f s i v = some (strOfNums ((bytesOf s).set i.toNat (v % 256))) := by
  unfold impl_replaced.f
  rw [if_pos h0, if_pos h1]
theorem iWrite_T {rom : ByteArray} {kind bank : Int} {ram : ByteArray} {rb : Int} {on : Bool} {mode : Int} (ho : okC rom kind bank ram rb on mode = true) (addr v : Int) (v0 : 0 ≤ v) (v1 : v ≤ 255) :
    Tot (fun k => impl_Cart_written.f k rom kind bank ram rb on mode addr v) (fun r => r = wrC rom kind bank ram rb on mode addr v) := by
  obtain ⟨_, hram, hk, hb0, hb1, hr0, hr1, hm0, hm1, _, _, _⟩ := ok_bounds ho
  unfold impl_Cart_written.f wrC
  refine Tot.ite (fun c0 => Tot.ret (by rw [if_pos c0])) (fun c0 => ?_)
  rw [if_neg c0]
  refine Tot.bind (iPlace_T rom kind bank ram rb on mode hr0 hr1 addr) ?_
  rintro _ rfl
  refine Tot.ite (fun c1 => Tot.ret ?_) (fun c1 => ?_)
  · rw [if_pos c1, and15]; congr 1
  rw [if_neg c1]
  refine Tot.ite (fun c2 => ?_) (fun c2 => ?_)
  · rw [if_pos c2]
    refine Tot.step (fun k => impl_Cart_written.j0.eq_2 _ _ _ _ _ _ _ _ _ _ _ k) ?_
    refine Tot.ite (fun c3 => Tot.ret ?_) (fun c3 => Tot.yes c2 (Tot.ret ?_))
    · rw [if_pos (by simpa using c3)]
    · rw [if_neg (by simpa using c3), mx_eq, tmod_pos _ v0]
  rw [if_neg c2]
  refine Tot.step (fun k => impl_Cart_written.j0.eq_2 _ _ _ _ _ _ _ _ _ _ _ k) ?_
  refine Tot.no (by decide) (Tot.no c2 (Tot.ite (fun c3 => Tot.ret ?_) (fun c3 => ?_)))
  · rw [if_pos c3, tmod_pos _ v0]
  rw [if_neg c3]
  refine Tot.ite (fun c4 => ?_) (fun c4 => ?_)
  · rw [if_pos c4]
    refine Tot.step (fun k => impl_Cart_written.j1.eq_2 _ _ _ _ _ _ _ _ _ _ k) ?_
    refine Tot.ite (fun c5 => Tot.ret ?_) (fun c5 => Tot.no ?_ (Tot.ret ?_))
    · rw [if_pos (by simpa using c5), tmod_pos _ v0]
    · rw [if_neg (by omega)]; decide
    · rw [if_neg (by simpa using c5)]
  rw [if_neg c4]
  refine Tot.step (fun k => impl_Cart_written.j1.eq_2 _ _ _ _ _ _ _ _ _ _ k) (Tot.no (by decide) ?_)
  by_cases c6 : on = true ∧ 40960 ≤ addr ∧ addr ≤ 41023
  · have hp := place_range (kind := kind) (mode := mode) hr0 hr1 c6.2.1 c6.2.2
    rw [if_pos c6, if_pos c6]
    refine Tot.yes hp.1 ?_
    refine Tot.bind (Tot.of (repl_eq ram _ v hp.1 (by omega)) rfl) ?_
    rintro _ rfl
    exact Tot.ret rfl
  · rw [if_neg c6, if_neg c6]
    exact Tot.no (by decide) (Tot.ret rfl)
theorem iCartWrite_T (rom : ByteArray) (kind bank : Int) (ram : ByteArray) (rb : Int) (on : Bool) (mode addr v : Int) (hr : rom.size ≤ 1000000) :
    Tot (fun k => impl_CartWrite.f k rom kind bank ram rb on mode addr v) (fun r => r = flatC (cwC rom kind bank ram rb on mode addr v)) := by
  unfold impl_CartWrite.f cwC
  refine Tot.bind (iOk_T rom kind bank ram rb on mode hr) ?_
  rintro _ rfl
  refine Tot.ite (fun h1 => ?_) (fun h1 => Tot.ret (by rw [if_neg (fun h => h1 h.1)]; rfl))
  refine Tot.bind (Tot.of (show impl_isWord.f addr = some (decide (0 ≤ addr ∧ addr ≤ 65535)) by unfold impl_isWord.f; rw [wIn_eq]; rfl) rfl) ?_
  rintro _ rfl
  refine Tot.ite (fun h2 => ?_) (fun h2 => Tot.ret (by rw [if_neg (fun h => h2 (decide_eq_true h.2.1))]; rfl))
  refine Tot.bind (Tot.of (show impl_isByte.f v = some (decide (0 ≤ v ∧ v ≤ 255)) by unfold impl_isByte.f; rw [wIn_eq]; rfl) rfl) ?_
  rintro _ rfl
  refine Tot.ite (fun h3 => ?_) (fun h3 => Tot.ret (by rw [if_neg (fun h => h3 (decide_eq_true h.2.2))]; rfl))
  have h2 := of_decide_eq_true h2
  have h3 := of_decide_eq_true h3
  refine Tot.bind (iWrite_T h1 addr v h3.1 h3.2) ?_
  rintro _ rfl
  rw [if_pos ⟨h1, h2, h3⟩]
  exact Tot.ret rfl

def rdC (rom : ByteArray) (kind bank : Int) (ram : ByteArray) (rb : Int) (on : Bool) (mode addr : Int) : Int :=
  if addr < 256 then bt rom addr else if addr < 512 then bt rom (bank % ((rom.size : Int) / 256) * 256 + addr - 256) else
  if on = true ∧ 40960 ≤ addr ∧ addr ≤ 41023 then bt ram (placeC kind rb mode addr) else 255
def crC (rom : ByteArray) (kind bank : Int) (ram : ByteArray) (rb : Int) (on : Bool) (mode addr : Int) : Int :=
  if okC rom kind bank ram rb on mode = true ∧ 0 ≤ addr ∧ addr ≤ 65535 then rdC rom kind bank ram rb on mode addr else -1
theorem bt_w (s : ByteArray) (i : Int) : wrap64 (bt s i) = bt s i := by
  have := bt_range s i
  exact w64_in (by omega) (by omega)
theorem seen_range {n b addr : Int} (hn : 2 ≤ n) (h0 : 256 ≤ addr) (h1 : addr < 512) : 0 ≤ b % n * 256 + addr - 256 ∧ b % n * 256 + addr - 256 < n * 256 ∧ 0 ≤ b % n ∧ b % n < n := by
  have h2 := Int.emod_nonneg b (show n ≠ 0 by omega)
  have h3 := Int.emod_lt_of_pos b (show 0 < n by omega)
  have h4 : b % n * 256 ≤ (n - 1) * 256 := Int.mul_le_mul_of_nonneg_right (by omega) (by decide)
  omega
theorem seen_wrap {n b addr : Int} (hn : 2 ≤ n) (hn2 : n ≤ 16) (h0 : 256 ≤ addr) (h1 : addr < 512) : wrap64 (wrap64 (wrap64 (b % n * 256) + addr) - 256) = b % n * 256 + addr - 256 := by
  obtain ⟨a, b1, c, d⟩ := seen_range (b := b) hn h0 h1
  rw [w64_in (n := b % n * 256) (by omega) (by omega), w64_in (n := b % n * 256 + addr) (by omega) (by omega), w64_in (by omega) (by omega)]
theorem iRead_T {rom : ByteArray} {kind bank : Int} {ram : ByteArray} {rb : Int} {on : Bool} {mode : Int} (ho : okC rom kind bank ram rb on mode = true) (addr : Int) (h0 : 0 ≤ addr) (h1 : addr ≤ 65535) :
    Tot (fun k => impl_Cart_read.f k rom kind bank ram rb on mode addr) (fun r => r = rdC rom kind bank ram rb on mode addr) := by
  obtain ⟨hrom, hram, hk, hb0, hb1, hr0, hr1, hm0, hm1, _, _, _⟩ := ok_bounds ho
  unfold impl_Cart_read.f rdC
  refine Tot.bind (iPlace_T rom kind bank ram rb on mode hr0 hr1 addr) ?_
  rintro _ rfl
  refine Tot.ite (fun c1 => Tot.yes h0 (Tot.yes (by omega) (Tot.ret (by rw [if_pos c1, bt_w])))) (fun c1 => ?_)
  rw [if_neg c1]
  refine Tot.ite (fun c2 => ?_) (fun c2 => ?_)
  · rw [if_pos c2]
    refine Tot.bind (Tot.of (r := bank % ((rom.size : Int) / 256)) (P := fun r => r = bank % ((rom.size : Int) / 256)) ?_ rfl) ?_
    · unfold impl_Cart_mapped.f
      rw [w64_in (n := (rom.size : Int) / 256) (by omega) (by omega), if_neg (by omega), tmod_pos _ hb0]
    rintro _ rfl
    have hs := seen_range (b := bank) hrom.2.1 (show 256 ≤ addr by omega) c2
    rw [seen_wrap hrom.2.1 hrom.2.2 (by omega) c2]
    exact Tot.yes hs.1 (Tot.yes (by omega) (Tot.ret (by rw [bt_w])))
  rw [if_neg c2]
  by_cases c6 : on = true ∧ 40960 ≤ addr ∧ addr ≤ 41023
  · have hp := place_range (kind := kind) (mode := mode) hr0 hr1 c6.2.1 c6.2.2
    rw [if_pos c6, if_pos c6]
    exact Tot.yes hp.1 (Tot.yes hp.1 (Tot.yes (by omega) (Tot.ret (by rw [bt_w]))))
  · rw [if_neg c6, if_neg c6]
    exact Tot.no (by decide) (Tot.ret rfl)
theorem iCartRead_T (rom : ByteArray) (kind bank : Int) (ram : ByteArray) (rb : Int) (on : Bool) (mode addr : Int) (hr : rom.size ≤ 1000000) :
    Tot (fun k => impl_CartRead.f k rom kind bank ram rb on mode addr) (fun r => r = crC rom kind bank ram rb on mode addr) := by
  unfold impl_CartRead.f crC
  refine Tot.bind (iOk_T rom kind bank ram rb on mode hr) ?_
  rintro _ rfl
  refine Tot.ite (fun h1 => ?_) (fun h1 => Tot.ret (by rw [if_neg (fun h => h1 h.1)]))
  refine Tot.bind (Tot.of (show impl_isWord.f addr = some (decide (0 ≤ addr ∧ addr ≤ 65535)) by unfold impl_isWord.f; rw [wIn_eq]; rfl) rfl) ?_
  rintro _ rfl
  refine Tot.ite (fun h2 => ?_) (fun h2 => Tot.ret (by rw [if_neg (fun h => h2 (decide_eq_true h.2))]))
  have h2 := of_decide_eq_true h2
  refine Tot.bind (iRead_T h1 addr h2.1 h2.2) ?_
  rintro _ rfl
  rw [if_pos ⟨h1, h2⟩]
  exact Tot.ret rfl

def newC (rom : ByteArray) (kind : Int) : C7 × Bool := if okC rom kind 1 (strOfNums (List.replicate 256 0)) 0 false 0 = true then ((rom, kind, 1, strOfNums (List.replicate 256 0), 0, false, 0), true) else (nilC, false)
theorem sNew_T (rom : ByteArray) (kind : Int) (hr : rom.size ≤ 1000000) : Tot (fun k => spec_CartNew.f k rom kind) (fun r => r = flatC (newC rom kind)) := by
  unfold spec_CartNew.f newC
  refine Tot.yes (by decide) (Tot.bind (Tot.of rfl rfl) ?_)
  rintro _ rfl
  refine Tot.bind (sOk_T rom kind 1 _ 0 false 0 hr) ?_
  rintro _ rfl
  refine Tot.ite (fun h => Tot.ret ?_) (fun h => Tot.ret ?_)
  · rw [if_pos h]; rfl
  · rw [if_neg h]; rfl
theorem new_rom (rom : ByteArray) (kind : Int) : (flatC (newC rom kind)).1.size ≤ rom.size := by
  unfold newC
  split
  · exact Nat.le_refl _
  · exact Nat.zero_le _

theorem cart_l0_T {s : List Int} : ∀ (d : Nat) (x4 : Bool) (x5 p : Int) (rom : ByteArray) (kind bank : Int) (ram : ByteArray) (rb : Int) (on : Bool) (mode : Int), x5 ≤ d → d ≤ 1000 → rom.size ≤ 1024 → RdOk s p →
    Tot (fun k => spec_l1Rd_cart.l0 k x4 x5 s p rom kind bank ram rb on mode) (fun r => r.1.size ≤ 1024 ∧ RdOk s r.2.2.2.2.2.2.2) := by
  have fin_ : ∀ (x5 p : Int) (rom : ByteArray) (kind bank : Int) (ram : ByteArray) (rb : Int) (on : Bool) (mode : Int), rom.size ≤ 1024 → RdOk s p →
      Tot (fun k => spec_l1Rd_cart.j1 k x5 false s p rom kind bank ram rb on mode) (fun r => r.1.size ≤ 1024 ∧ RdOk s r.2.2.2.2.2.2.2) := by
    intro x5 p rom kind bank ram rb on mode hr hp
    refine Tot.step (fun k => spec_l1Rd_cart.j1.eq_2 _ _ _ _ _ _ _ _ _ _ _ k) (Tot.no (by decide) ?_)
    refine Tot.bind (once_T hp 30) fun r h1 => ?_
    exact Tot.ite (fun _ => Tot.bind (off_T h1 0 31 (by omega) (by omega)) fun q hq => Tot.ret ⟨hr, hq⟩) (fun _ => Tot.ret ⟨hr, h1⟩)
  intro d
  induction d with
  | zero =>
    intro x4 x5 p rom kind bank ram rb on mode hx hd hr hp
    exact Tot.step (fun k => spec_l1Rd_cart.l0.eq_2 _ _ _ _ _ _ _ _ _ _ _ k) (Tot.no (by omega) (fin_ _ _ _ _ _ _ _ _ _ hr hp))
  | succ d ih =>
    intro x4 x5 p rom kind bank ram rb on mode hx hd hr hp
    refine Tot.step (fun k => spec_l1Rd_cart.l0.eq_2 _ _ _ _ _ _ _ _ _ _ _ k) (Tot.ite (fun hc => ?_) (fun _ => fin_ _ _ _ _ _ _ _ _ _ hr hp))
    cases x4 with
    | false => exact fin_ _ _ _ _ _ _ _ _ _ hr hp
    | true =>
      refine Tot.step (fun k => spec_l1Rd_cart.j1.eq_2 _ _ _ _ _ _ _ _ _ _ _ k) (Tot.yes rfl ?_)
      refine Tot.bind (addr_T hp) fun a ha => ?_
      refine Tot.bind (byte_T ha) fun b hb => ?_
      refine Tot.bind (sCartWrite_T rom kind bank ram rb on mode a.1 b.1 (by omega)) ?_
      rintro _ rfl
      rw [w64_in (n := x5 - 1) (by omega) (by omega)]
      exact ih _ _ _ _ _ _ _ _ _ _ (by omega) (by omega) (Nat.le_trans (cw_rom _ _ _ _ _ _ _ _ _) hr) hb.2.2
theorem cart_T {s : List Int} {p : Int} (h : RdOk s p) : Tot (fun k => spec_l1Rd_cart.f k s p) (fun r => r.1.size ≤ 1024 ∧ RdOk s r.2.2.2.2.2.2.2) := by
  unfold spec_l1Rd_cart.f
  refine Tot.bind (rom_T h) fun r hr => ?_
  refine Tot.bind (below_T hr.2 3) fun q hq => ?_
  refine Tot.bind (sNew_T r.1 q.1 (by omega)) ?_
  rintro _ rfl
  refine Tot.bind (below_T hq.2.2 6) fun u hu => ?_
  have := hu.2.1 (by omega)
  exact cart_l0_T 6 _ _ _ _ _ _ _ _ _ _ (by omega) (by omega) (Nat.le_trans (new_rom _ _) hr.1) hu.2.2

theorem drawCw_T {l : List Int} (hl : l.length ≤ 1048576) (hb : ∀ x ∈ l, 0 ≤ x ∧ x ≤ 255) : Tot (fun k => spec_DrawCartWrite.f k l) (fun r => r.1.size ≤ 1024) := by
  obtain ⟨e0, h0⟩ := open_tot hl hb
  unfold spec_DrawCartWrite.f
  refine Tot.bind (Tot.of e0 rfl) ?_
  rintro _ rfl
  refine Tot.bind (cart_T h0) fun r hr => ?_
  refine Tot.bind (addr_T hr.2) fun a ha => ?_
  refine Tot.bind (once_T ha 20) fun b hb => ?_
  exact Tot.ite (fun _ => Tot.bind (off_T hb 0 255 (by omega) (by omega)) fun q hq => Tot.ret hr.1) (fun _ => Tot.bind (byte_T hb) fun q hq => Tot.ret hr.1)

theorem byOfNums {xs : List Int} (h : ∀ x ∈ xs, 0 ≤ x ∧ x < 256) : bytesOf (strOfNums xs) = xs := by
  unfold bytesOf
  rw [strOfNums_data, List.map_map]
  conv => rhs; rw [← List.map_id xs]
  refine List.map_congr_left fun x hx => ?_
  have := h x hx
  simp only [Function.comp, id]
  rw [UInt8.toNat_ofNat']
  omega
theorem bt_at (a : ByteArray) (j : Int) : bt a j = (bytesOf a).getD j.toNat 0 := by
  rw [← rd_bytesOf]; rfl
theorem bytes_range (a : ByteArray) : ∀ x ∈ bytesOf a, 0 ≤ x ∧ x < 256 := by
  intro x hx
  unfold bytesOf at hx
  obtain ⟨b, _, rfl⟩ := List.mem_map.1 hx
  have := b.toNat_lt
  omega
theorem bt_put (ram : ByteArray) (p j v : Int) (v0 : 0 ≤ v) (v1 : v ≤ 255) (p0 : 0 ≤ p) (p1 : p < (ram.size : Int)) (j0 : 0 ≤ j) (j1 : j < (ram.size : Int)) :
    bt (strOfNums ((bytesOf ram).set p.toNat (v % 256))) j = if j = p then v else bt ram j := by
  have hl : (bytesOf ram).length = ram.size := bytesOf_length ram
  rw [bt_at, bt_at, byOfNums ?_]
  · rw [List.getD_eq_getElem?_getD, List.getD_eq_getElem?_getD, List.getElem?_set]
    by_cases e : j = p
    · rw [if_pos (by rw [e]), if_pos (by omega), if_pos e]
      show v % 256 = v
      omega
    · rw [if_neg (by omega), if_neg e]
  · intro x hx
    rcases List.mem_or_eq_of_mem_set hx with h | h
    · exact bytes_range ram x h
    · omega
theorem ok_wr {rom : ByteArray} {kind bank : Int} {ram : ByteArray} {rb : Int} {on : Bool} {mode : Int} (ho : okC rom kind bank ram rb on mode = true) (addr v : Int) (v0 : 0 ≤ v) (v1 : v ≤ 255) (D : C7) (hD : wrC rom kind bank ram rb on mode addr v = D) :
    okC D.1 D.2.1 D.2.2.1 D.2.2.2.1 D.2.2.2.2.1 D.2.2.2.2.2.1 D.2.2.2.2.2.2 = true := by
  obtain ⟨hrom, hram, hk, hb0, hb1, hr0, hr1, hm0, hm1, hk0, hk1, hk2⟩ := ok_bounds ho
  have mk : ∀ (bank : Int) (ram : ByteArray) (rb : Int) (on : Bool) (mode : Int), kind ≠ 0 → ram.size = 256 → (kind = 1 → 1 ≤ bank ∧ bank ≤ 31) → 0 ≤ bank → bank ≤ 255 → 0 ≤ rb → rb ≤ 3 → 0 ≤ mode → mode ≤ 1 → (kind = 2 → mode = 0) → okC rom kind bank ram rb on mode = true := by
    intro bank ram rb on mode k0 h1 h2 h3 h4 h5 h6 h7 h8 h9
    unfold okC
    rw [Bool.and_eq_true, Bool.and_eq_true]
    refine ⟨⟨decide_eq_true hrom, decide_eq_true (by omega)⟩, ?_⟩
    rw [if_neg k0]
    by_cases k1 : kind = 1
    · rw [if_pos k1]; exact decide_eq_true ⟨h2 k1, by omega, by omega⟩
    · have k2 : kind = 2 := by omega
      rw [if_neg k1, if_pos k2]; exact decide_eq_true ⟨by omega, by omega, h9 k2⟩
  unfold wrC at hD
  by_cases c0 : kind = 0
  · rw [if_pos c0] at hD; subst hD; dsimp only; exact ho
  rw [if_neg c0] at hD
  by_cases c1 : addr < 128
  · rw [if_pos c1] at hD; subst hD; dsimp only; exact mk _ _ _ _ _ c0 hram hk1 hb0 hb1 hr0 hr1 hm0 hm1 hk2
  rw [if_neg c1] at hD
  by_cases c2 : addr < 256
  · rw [if_pos c2] at hD; subst hD; dsimp only
    refine mk _ _ _ _ _ c0 hram (fun k1 => ?_) ?_ ?_ hr0 hr1 hm0 hm1 hk2
    · rw [if_neg (by omega)]; split <;> omega
    · split
      · omega
      · split <;> omega
    · split
      · omega
      · split <;> omega
  rw [if_neg c2] at hD
  by_cases c3 : addr < 384
  · rw [if_pos c3] at hD; subst hD; dsimp only; exact mk _ _ _ _ _ c0 hram hk1 hb0 hb1 (by omega) (by omega) hm0 hm1 hk2
  rw [if_neg c3] at hD
  by_cases c4 : addr < 512
  · rw [if_pos c4] at hD; subst hD; dsimp only
    refine mk _ _ _ _ _ c0 hram hk1 hb0 hb1 hr0 hr1 ?_ ?_ (fun k2 => ?_)
    · split <;> omega
    · split <;> omega
    · rw [if_neg (by omega)]; exact hk2 k2
  rw [if_neg c4] at hD
  by_cases c5 : on = true ∧ 40960 ≤ addr ∧ addr ≤ 41023
  · rw [if_pos c5] at hD; subst hD; dsimp only
    exact mk _ _ _ _ _ c0 (by rw [strOfNums_size, List.length_set, bytesOf_length, hram]) hk1 hb0 hb1 hr0 hr1 hm0 hm1 hk2
  · rw [if_neg c5] at hD; subst hD; dsimp only; exact ho
theorem same_T (a0 : ByteArray) (a1 a2 : Int) (a3 : ByteArray) (a4 : Int) (a5 : Bool) (a6 : Int) : laws_sameCart.f a0 a1 a2 a3 a4 a5 a6 a0 a1 a2 a3 a4 a5 a6 = some true := by
  unfold laws_sameCart.f; simp
theorem l0_off (addr v : Int) (rom : ByteArray) (kind bank : Int) (ram : ByteArray) (rb : Int) (on : Bool) (mode : Int) (D : C7) (hs : rom.size ≤ 1000000)
    (ho : okC D.1 D.2.1 D.2.2.1 D.2.2.2.1 D.2.2.2.2.1 D.2.2.2.2.2.1 D.2.2.2.2.2.2 = true) (hrom : D.1 = rom) (hram : D.2.2.2.1 = ram) (hk : kind = 0 → D = (rom, kind, bank, ram, rb, on, mode)) (x11 : Int) :
    Tot (fun k => laws_FnCartWrites.l0 k addr v false x11 rom kind bank ram rb on mode D.1 D.2.1 D.2.2.1 D.2.2.2.1 D.2.2.2.2.1 D.2.2.2.2.2.1 D.2.2.2.2.2.2) (fun r => r = true) := by
  have j3 : Tot (fun k => laws_FnCartWrites.j3 k addr v false x11 false rom kind bank ram rb on mode D.1 D.2.1 D.2.2.1 D.2.2.2.1 D.2.2.2.2.1 D.2.2.2.2.2.1 D.2.2.2.2.2.2) (fun r => r = true) := by
    refine Tot.step (fun k => laws_FnCartWrites.j3.eq_2 _ _ _ _ _ _ _ _ _ _ _ _ _ _ _ _ _ _ _ k) ?_
    refine Tot.no (by decide) ?_
    refine Tot.bind (iOk_T _ _ _ _ _ _ _ (by rw [hrom]; exact hs)) ?_
    rintro _ rfl
    refine Tot.yes ho (Tot.yes (by rw [hrom]) (Tot.no (by decide) (Tot.yes (by rw [hram]) (Tot.ite (fun h0 => ?_) (fun _ => Tot.ret rfl)))))
    rw [hk h0]
    exact Tot.bind (Tot.of (same_T _ _ _ _ _ _ _) rfl) (fun _ h => Tot.ret h.symm)
  refine Tot.step (fun k => laws_FnCartWrites.l0.eq_2 _ _ _ _ _ _ _ _ _ _ _ _ _ _ _ _ _ _ k) ?_
  exact Tot.ite (fun _ => j3) (fun _ => j3)
theorem l0_on (addr v : Int) (rom : ByteArray) (kind bank : Int) (ram : ByteArray) (rb mode : Int) (hs : rom.size ≤ 1000000) (v0 : 0 ≤ v) (v1 : v ≤ 255)
    (ho : okC rom kind bank ram rb true mode = true) (ho2 : okC rom kind bank (strOfNums ((bytesOf ram).set (placeC kind rb mode addr).toNat (v % 256))) rb true mode = true) (hk : kind ≠ 0) (a0 : 40960 ≤ addr) (a1 : addr ≤ 41023) :
    ∀ (n : Nat) (x11 : Int), 40960 ≤ x11 → x11 + n = 41024 →
    Tot (fun k => laws_FnCartWrites.l0 k addr v true x11 rom kind bank ram rb true mode rom kind bank (strOfNums ((bytesOf ram).set (placeC kind rb mode addr).toNat (v % 256))) rb true mode) (fun r => r = true) := by
  obtain ⟨_, hram, _, _, _, hr0, hr1, _, _, _, _, _⟩ := ok_bounds ho
  intro n
  induction n with
  | zero =>
    intro x11 h0 h1
    refine Tot.step (fun k => laws_FnCartWrites.l0.eq_2 _ _ _ _ _ _ _ _ _ _ _ _ _ _ _ _ _ _ k) ?_
    refine Tot.no (by omega) ?_
    refine Tot.step (fun k => laws_FnCartWrites.j3.eq_2 _ _ _ _ _ _ _ _ _ _ _ _ _ _ _ _ _ _ _ k) ?_
    refine Tot.no (by decide) ?_
    refine Tot.bind (iOk_T _ _ _ _ _ _ _ hs) ?_
    rintro _ rfl
    exact Tot.yes ho2 (Tot.yes rfl (Tot.yes rfl (Tot.no hk (Tot.ret rfl))))
  | succ n ih =>
    intro x11 h0 h1
    have p := place_range (kind := kind) (mode := mode) hr0 hr1 a0 a1
    have q := place_range (kind := kind) (mode := mode) hr0 hr1 h0 (show x11 ≤ 41023 by omega)
    have hne : (placeC kind rb mode x11 = placeC kind rb mode addr) ↔ x11 = addr := by unfold placeC; omega
    have e1 : crC rom kind bank ram rb true mode x11 = bt ram (placeC kind rb mode x11) := by
      unfold crC rdC
      rw [if_pos ⟨ho, by omega⟩, if_neg (by omega), if_neg (by omega), if_pos ⟨rfl, by omega⟩]
    have e2 : crC rom kind bank (strOfNums ((bytesOf ram).set (placeC kind rb mode addr).toNat (v % 256))) rb true mode x11 = if x11 = addr then v else bt ram (placeC kind rb mode x11) := by
      unfold crC rdC
      rw [if_pos ⟨ho2, by omega⟩, if_neg (by omega), if_neg (by omega), if_pos ⟨rfl, by omega⟩, bt_put ram _ _ v v0 v1 p.1 (by omega) q.1 (by omega)]
      by_cases e : x11 = addr
      · rw [if_pos (hne.2 e), if_pos e]
      · rw [if_neg (fun h => e (hne.1 h)), if_neg e]
    have next := ih (wrap64 (x11 + 1)) (by rw [w64_in (by omega) (by omega)]; omega) (by rw [w64_in (by omega) (by omega)]; omega)
    refine Tot.step (fun k => laws_FnCartWrites.l0.eq_2 _ _ _ _ _ _ _ _ _ _ _ _ _ _ _ _ _ _ k) ?_
    refine Tot.yes (by omega) ?_
    refine Tot.step (fun k => laws_FnCartWrites.j3.eq_2 _ _ _ _ _ _ _ _ _ _ _ _ _ _ _ _ _ _ _ k) ?_
    refine Tot.yes rfl ?_
    refine Tot.bind (iCartRead_T _ _ _ _ _ _ _ _ hs) ?_
    intro t ht
    rw [show t = crC rom kind bank ram rb true mode x11 from ht, e1]
    refine Tot.ite (fun c => ?_) (fun c => ?_)
    · refine Tot.bind (iCartRead_T _ _ _ _ _ _ _ _ hs) ?_
      intro u hu
      rw [show u = _ from hu, e2, if_pos c]
      exact Tot.yes rfl next
    · refine Tot.bind (iCartRead_T _ _ _ _ _ _ _ _ hs) ?_
      intro u hu
      rw [show u = _ from hu, e2, if_neg c]
      exact Tot.yes rfl next
theorem FnCartWrites : laws_FnCartWrites.Pure := by
  intro l _ _ hw
  refine Tot.done ?_
  unfold laws_FnCartWrites.f laws_big.f
  refine Tot.bind (Tot.of rfl rfl) ?_
  rintro _ rfl
  refine Tot.ite (fun _ => Tot.ret rfl) (fun hbig => ?_)
  refine Tot.bind (drawCw_T (l := l) (by simp at hbig; omega) (bytes_wf hw)) fun c hc => ?_
  obtain ⟨rom, kind, bank, ram, rb, on, mode, addr, v⟩ := c
  have hc : rom.size ≤ 1024 := hc
  refine Tot.bind (iCartWrite_T rom kind bank ram rb on mode addr v (by omega)) ?_
  rintro _ rfl
  refine Tot.bind (sCartWrite_T rom kind bank ram rb on mode addr v (by omega)) ?_
  rintro _ rfl
  refine Tot.no (by simp) ?_
  refine Tot.bind (Tot.of (same_T _ _ _ _ _ _ _) rfl) ?_
  rintro _ rfl
  refine Tot.yes rfl ?_
  refine Tot.step (fun k => laws_FnCartWrites.j0.eq_2 _ _ _ _ _ _ _ _ _ _ _ _ _ _ _ _ _ _ _ _ _ _ _ _ _ _ k) ?_
  by_cases H : okC rom kind bank ram rb on mode = true ∧ (0 ≤ addr ∧ addr ≤ 65535) ∧ 0 ≤ v ∧ v ≤ 255
  rotate_left
  · have e : cwC rom kind bank ram rb on mode addr v = (nilC, false) := by unfold cwC; rw [if_neg H]
    rw [e]
    refine Tot.yes rfl (Tot.yes (by simp) ?_)
    exact Tot.bind (Tot.of (same_T _ _ _ _ _ _ _) rfl) (fun _ h => Tot.ret h.symm)
  have e : cwC rom kind bank ram rb on mode addr v = (wrC rom kind bank ram rb on mode addr v, true) := by unfold cwC; rw [if_pos H]
  rw [e]
  obtain ⟨ho, ⟨h0, h1⟩, v0, v1⟩ := H
  have ho2 := ok_wr ho addr v v0 v1 _ rfl
  refine Tot.no (by show ¬ (!true) = true; decide) ?_
  have off : ¬ (on = true ∧ 40960 ≤ addr ∧ addr ≤ 41023) → Tot (fun k => laws_FnCartWrites.j1 k addr v false rom kind bank ram rb on mode (wrC rom kind bank ram rb on mode addr v).1 (wrC rom kind bank ram rb on mode addr v).2.1 (wrC rom kind bank ram rb on mode addr v).2.2.1 (wrC rom kind bank ram rb on mode addr v).2.2.2.1 (wrC rom kind bank ram rb on mode addr v).2.2.2.2.1 (wrC rom kind bank ram rb on mode addr v).2.2.2.2.2.1 (wrC rom kind bank ram rb on mode addr v).2.2.2.2.2.2) (fun r => r = true) := by
    intro hn
    refine Tot.step (fun k => laws_FnCartWrites.j1.eq_2 _ _ _ _ _ _ _ _ _ _ _ _ _ _ _ _ _ k) ?_
    refine l0_off addr v rom kind bank ram rb on mode (wrC rom kind bank ram rb on mode addr v) (by omega) ho2 (wr_rom _ _ _ _ _ _ _ _ _) ?_ ?_ 40960
    · unfold wrC
      rw [if_neg hn]
      repeat' split
      all_goals rfl
    · intro hk; unfold wrC; rw [if_pos hk]
  have on_ : on = true → 40960 ≤ addr → addr ≤ 41023 → Tot (fun k => laws_FnCartWrites.j1 k addr v true rom kind bank ram rb on mode (wrC rom kind bank ram rb on mode addr v).1 (wrC rom kind bank ram rb on mode addr v).2.1 (wrC rom kind bank ram rb on mode addr v).2.2.1 (wrC rom kind bank ram rb on mode addr v).2.2.2.1 (wrC rom kind bank ram rb on mode addr v).2.2.2.2.1 (wrC rom kind bank ram rb on mode addr v).2.2.2.2.2.1 (wrC rom kind bank ram rb on mode addr v).2.2.2.2.2.2) (fun r => r = true) := by
    intro hon a0 a1
    subst hon
    obtain ⟨_, _, _, _, _, _, _, _, _, hk0, _, _⟩ := ok_bounds ho
    have hk : kind ≠ 0 := fun h => absurd (hk0 h).2.2.1 (by decide)
    have ew : wrC rom kind bank ram rb true mode addr v = (rom, kind, bank, strOfNums ((bytesOf ram).set (placeC kind rb mode addr).toNat (v % 256)), rb, true, mode) := by
      unfold wrC
      rw [if_neg hk, if_neg (by omega), if_neg (by omega), if_neg (by omega), if_neg (by omega), if_pos ⟨rfl, a0, a1⟩]
    rw [ew] at ho2
    rw [ew]
    refine Tot.step (fun k => laws_FnCartWrites.j1.eq_2 _ _ _ _ _ _ _ _ _ _ _ _ _ _ _ _ _ k) ?_
    exact l0_on addr v rom kind bank ram rb mode (by omega) v0 v1 ho ho2 hk a0 a1 64 40960 (by decide) (by decide)
  refine Tot.ite (fun c1 => Tot.ite (fun c2 => ?_) (fun c2 => ?_)) (fun c1 => ?_)
  · have c1 : addr ≥ 40960 := c1
    have c2 : addr < 41024 := c2
    show Tot (fun k => laws_FnCartWrites.j1 k addr v on _ _ _ _ _ on _ _ _ _ _ _ _ _) _
    by_cases hon : on = true
    · have := on_ hon c1 (by omega)
      rw [hon] at this ⊢
      exact this
    · have := off (fun h => hon h.1)
      rw [Bool.not_eq_true] at hon
      rw [hon] at this ⊢
      exact this
  · have c2 : ¬ addr < 41024 := c2
    exact off (fun h => by have := h.2.2; omega)
  · have c1 : ¬ addr ≥ 40960 := c1
    exact off (fun h => by have := h.2.1; omega)
end Go.Proofs.Ytcohcndliaaacaa.Pure
