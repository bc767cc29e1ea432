import Derived.Test.YtcohcndliaaacaaDoorZQFnFixedx
import Derived.Test.YtcohcndliaaacaaDoorZLib
namespace Go.Proofs.YtcohcndliaaacaaDoor.Pure
open Go.RowKit Go.Proofs.YtcohcndliaaacaaDoor.QFnFixed Go.Proofs.YtcohcndliaaacaaDoorW.PrintWords Go.Proofs.YtcohcndliaaacaaDoorW.PrintLast Go.Proofs.YtcohcndliaaacaaDoor.Lib Go.Proofs.YtcohcndliaaacaaDoor.LibX Go.Proofs.YtcohcndliaaacaaDoor.LibE
set_option linter.unusedSimpArgs false
set_option linter.unusedVariables false

def Tot {α : Type} (g : Nat → Option α) (P : α → Prop) : Prop := ∃ K r, P r ∧ ∀ k, K ≤ k → g k = some r
theorem Tot.ret {α : Type} {r : α} {P : α → Prop} (h : P r) : Tot (fun _ => some r) P := ⟨0, r, h, fun _ _ => rfl⟩
theorem Tot.of {α : Type} {g : Option α} {r : α} {P : α → Prop} (e : g = some r) (h : P r) : Tot (fun _ => g) P := ⟨0, r, h, fun _ _ => e⟩
theorem Tot.bind {α β : Type} {g : Nat → Option α} {f : Nat → α → Option β} {P : α → Prop} {Q : β → Prop} (h : Tot g P) (hf : ∀ a, P a → Tot (fun k => f k a) Q) : Tot (fun k => (g k).bind (f k)) Q := by
  obtain ⟨K, a, ha, hg⟩ := h
  obtain ⟨L, r, hr, hk⟩ := hf a ha
  exact ⟨max K L, r, hr, fun k hk' => by show (g k).bind (f k) = some r; rw [hg k (by omega)]; exact hk k (by omega)⟩
theorem Tot.ite {α : Type} {c : Prop} [Decidable c] {g f : Nat → Option α} {P : α → Prop} (h1 : c → Tot g P) (h2 : ¬ c → Tot f P) : Tot (fun k => if c then g k else f k) P := by
  by_cases h : c
  · obtain ⟨K, r, hr, hk⟩ := h1 h
    exact ⟨K, r, hr, fun k hk' => by show (if c then g k else f k) = some r; rw [if_pos h]; exact hk k hk'⟩
  · obtain ⟨K, r, hr, hk⟩ := h2 h
    exact ⟨K, r, hr, fun k hk' => by show (if c then g k else f k) = some r; rw [if_neg h]; exact hk k hk'⟩
theorem Tot.yes {α : Type} {c : Prop} [Decidable c] {g f : Nat → Option α} {P : α → Prop} (h : c) (h1 : Tot g P) : Tot (fun k => if c then g k else f k) P := Tot.ite (fun _ => h1) (fun n => absurd h n)
theorem Tot.no {α : Type} {c : Prop} [Decidable c] {g f : Nat → Option α} {P : α → Prop} (h : ¬ c) (h1 : Tot f P) : Tot (fun k => if c then g k else f k) P := Tot.ite (fun n => absurd n h) (fun _ => h1)
theorem Tot.mono {α : Type} {g : Nat → Option α} {P Q : α → Prop} (h : Tot g P) (hi : ∀ a, P a → Q a) : Tot g Q := by
  obtain ⟨K, r, hr, hk⟩ := h
  exact ⟨K, r, hi r hr, hk⟩
theorem Tot.step {α : Type} {g f : Nat → Option α} {P : α → Prop} (h : ∀ k, g (k + 1) = f k) (hf : Tot f P) : Tot g P := by
  obtain ⟨K, r, hr, hk⟩ := hf
  exact ⟨K + 1, r, hr, fun k hk' => by obtain ⟨m, rfl⟩ : ∃ m, k = m + 1 := ⟨k - 1, by omega⟩; rw [h]; exact hk m (by omega)⟩
theorem Tot.lift {α : Type} {g : Nat → Option α} {P : α → Prop} (hm : ∀ k, LeO (g k) (g (k + 1))) {k : Nat} {r : α} (e : g k = some r) (h : P r) : Tot g P := ⟨k, r, h, fun _ hk => at_rounds hm hk e⟩
theorem Tot.congr {α : Type} {g f : Nat → Option α} {P : α → Prop} (h : ∀ k, g k = f k) (hf : Tot f P) : Tot g P := by
  obtain ⟨K, r, hr, hk⟩ := hf
  exact ⟨K, r, hr, fun k hk' => (h k).trans (hk k hk')⟩
theorem Tot.eq {α : Type} {g : Nat → Option α} {r : α} (h : Tot g (fun x => x = r)) : ∃ K, ∀ k, K ≤ k → g k = some r := by
  obtain ⟨K, x, hx, hk⟩ := h
  subst hx
  exact ⟨K, hk⟩
theorem Tot.done {g : Nat → Option Bool} (h : Tot g (fun x => x = true)) : ∃ k, g k = some true := by
  obtain ⟨K, hk⟩ := h.eq
  exact ⟨K, hk K (Nat.le_refl _)⟩

def RdOk (s : List Int) (p : Int) : Prop := 0 ≤ p ∧ p ≤ s.length ∧ s.length ≤ 1048576 ∧ ∀ x ∈ s, 0 ≤ x ∧ x ≤ 255
theorem rd_mem {s : List Int} {p : Int} (h0 : 0 ≤ p) (h1 : p < (s.length : Int)) : rd s p ∈ s := by
  unfold rd
  rw [List.getD_eq_getElem?_getD, List.getElem?_eq_getElem (by omega)]
  exact List.getElem_mem _
theorem open_tot {l : List Int} (hl : l.length ≤ 1048576) (hb : ∀ x ∈ l, 0 ≤ x ∧ x ≤ 255) : spec_l1Open.f l = some (l, 0) ∧ RdOk l 0 :=
  ⟨rfl, by omega, by omega, hl, hb⟩
theorem next_tot {s : List Int} {p : Int} (h : RdOk s p) : ∃ v q, spec_l1Rd_next.f s p = some (v, q) ∧ 0 ≤ v ∧ v ≤ 255 ∧ RdOk s q := by
  obtain ⟨h0, h1, h2, h3⟩ := h
  unfold spec_l1Rd_next.f
  by_cases c : p ≥ (s.length : Int)
  · rw [if_pos c]
    exact ⟨0, p, rfl, by omega, by omega, h0, h1, h2, h3⟩
  · have hm := h3 _ (rd_mem h0 (show p < (s.length : Int) by omega))
    have e : p + 1 - 1 = p := by omega
    rw [if_neg c, w64_in (n := p + 1) (by omega) (by omega), w64_in (n := p + 1 - 1) (by omega) (by omega), e, if_pos h0, if_pos (by omega), w64_in (n := rd s p) (by omega) (by omega)]
    exact ⟨_, _, rfl, hm.1, hm.2, by omega, by omega, h2, h3⟩
theorem below_tot {s : List Int} {p : Int} (h : RdOk s p) (n : Int) : ∃ v q, spec_l1Rd_below.f s p n = some (v, q) ∧ 0 ≤ v ∧ (1 ≤ n → v < n) ∧ RdOk s q := by
  unfold spec_l1Rd_below.f
  by_cases c : n ≤ 1
  · rw [if_pos c]
    exact ⟨0, p, rfl, by omega, by omega, h⟩
  · rw [if_neg c]
    obtain ⟨v, q, e1, v0, v1, h1⟩ := next_tot h
    by_cases c2 : n ≤ 256
    · rw [if_pos c2, e1]
      simp only [Option.bind_some]
      rw [if_neg (by omega), tmod_pos _ v0]
      exact ⟨_, _, rfl, Int.emod_nonneg _ (by omega), fun _ => Int.emod_lt_of_pos _ (by omega), h1⟩
    · obtain ⟨u, r, e2, u0, u1, h2⟩ := next_tot h1
      rw [if_neg c2, e1]
      simp only [Option.bind_some]
      rw [e2]
      simp only [Option.bind_some]
      rw [if_neg (by omega), w64_in (n := v * 256) (by omega) (by omega), w64_in (n := v * 256 + u) (by omega) (by omega), tmod_pos _ (by omega)]
      exact ⟨_, _, rfl, Int.emod_nonneg _ (by omega), fun _ => Int.emod_lt_of_pos _ (by omega), h2⟩

theorem once_tot {s : List Int} {p : Int} (h : RdOk s p) (n : Int) : ∃ b q, spec_l1Rd_once.f s p n = some (b, q) ∧ RdOk s q := by
  obtain ⟨v, q, e, _, _, hq⟩ := below_tot h n
  unfold spec_l1Rd_once.f
  rw [e]
  exact ⟨_, _, rfl, hq⟩

theorem word_tot_l {s : List Int} : ∀ (k : Nat) (x i p : Int), RdOk s p → 0 ≤ i → i ≤ 8 → 8 - i < k → ∃ v q, spec_l1Rd_word.l0 k x i s p = some (v, q) ∧ RdOk s q := by
  intro k
  induction k with
  | zero => intros; omega
  | succ k ih =>
    intro x i p h i0 i1 hk
    simp only [spec_l1Rd_word.l0]
    by_cases c : i < 8
    · obtain ⟨v, q, e, _, _, hq⟩ := next_tot h
      rw [if_pos c, e]
      simp only [Option.bind_some]
      rw [w64_in (n := i + 1) (by omega) (by omega)]
      exact ih _ _ _ hq (by omega) (by omega) (by omega)
    · rw [if_neg c]
      exact ⟨_, _, rfl, h⟩
theorem word_tot {s : List Int} {p : Int} (h : RdOk s p) {k : Nat} (hk : 9 ≤ k) : ∃ v q, spec_l1Rd_word.f k s p = some (v, q) ∧ RdOk s q :=
  word_tot_l k 0 0 p h (by omega) (by omega) (by omega)

theorem near_tot {s : List Int} {p : Int} (h : RdOk s p) {k : Nat} (hk : 9 ≤ k) (lo hi : Int) (hlo : -4294967296 ≤ lo) (hhi : hi ≤ 4294967296) : ∃ v q, spec_l1Rd_near.f k s p lo hi = some (v, q) ∧ RdOk s q := by
  unfold spec_l1Rd_near.f
  obtain ⟨v, q, e, _, _, hq⟩ := below_tot h 8
  rw [e]
  simp only [Option.bind_some]
  by_cases c0 : v = 0
  · rw [if_pos c0]; exact ⟨_, _, rfl, hq⟩
  · rw [if_neg c0]
    by_cases c1 : v = 1
    · rw [if_pos c1]; exact ⟨_, _, rfl, hq⟩
    · rw [if_neg c1]
      by_cases c2 : hi < lo
      · rw [if_pos c2]; exact ⟨_, _, rfl, hq⟩
      · rw [if_neg c2]
        obtain ⟨x, r, e2, hr⟩ := word_tot hq hk
        rw [e2]
        simp only [Option.bind_some]
        rw [w64_in (n := hi - lo) (by omega) (by omega), w64_in (n := hi - lo + 1) (by omega) (by omega), u64_in (n := hi - lo + 1) (by omega) (by omega), if_neg (by omega)]
        exact ⟨_, _, rfl, hr⟩
theorem off_tot {s : List Int} {p : Int} (h : RdOk s p) {k : Nat} (hk : 9 ≤ k) (lo hi : Int) (hlo : -4294967296 ≤ lo) (hhi : hi ≤ 4294967296) : ∃ v q, spec_l1Rd_off.f k s p lo hi = some (v, q) ∧ RdOk s q := by
  unfold spec_l1Rd_off.f
  obtain ⟨b, q, e, hq⟩ := once_tot h 24
  rw [e]
  simp only [Option.bind_some]
  by_cases c : b = true
  · rw [if_pos c]
    obtain ⟨v, r, e2, v0, v1, hr⟩ := below_tot hq 4
    rw [e2]
    simp only [Option.bind_some]
    have v4 := v1 (by omega)
    rw [if_pos v0, if_pos (by simp only [List.length_cons, List.length_nil]; omega)]
    exact ⟨_, _, rfl, hr⟩
  · rw [if_neg c]
    obtain ⟨v, r, e2, hr⟩ := near_tot hq hk lo hi hlo hhi
    rw [e2]
    exact ⟨_, _, rfl, hr⟩

theorem byte_tot {s : List Int} {p : Int} (h : RdOk s p) : ∃ v q, spec_l1Rd_byte.f s p = some (v, q) ∧ 0 ≤ v ∧ v ≤ 255 ∧ RdOk s q := by
  unfold spec_l1Rd_byte.f
  obtain ⟨b, q, e, hq⟩ := once_tot h 2
  rw [e]
  simp only [Option.bind_some]
  by_cases c : b = true
  · rw [if_pos c]
    obtain ⟨v, r, e2, v0, v1, hr⟩ := below_tot hq 8
    rw [e2]
    simp only [Option.bind_some]
    have v4 := v1 (by omega)
    rw [if_pos v0, if_pos (by simp only [List.length_cons, List.length_nil]; omega)]
    refine ⟨_, _, rfl, ?_, ?_, hr⟩
    · rcases (show v = 0 ∨ v = 1 ∨ v = 2 ∨ v = 3 ∨ v = 4 ∨ v = 5 ∨ v = 6 ∨ v = 7 by omega) with rfl | rfl | rfl | rfl | rfl | rfl | rfl | rfl <;> decide
    · rcases (show v = 0 ∨ v = 1 ∨ v = 2 ∨ v = 3 ∨ v = 4 ∨ v = 5 ∨ v = 6 ∨ v = 7 by omega) with rfl | rfl | rfl | rfl | rfl | rfl | rfl | rfl <;> decide
  · rw [if_neg c]
    obtain ⟨v, r, e2, v0, v1, hr⟩ := below_tot hq 256
    rw [e2]
    have := v1 (by omega)
    exact ⟨_, _, rfl, v0, by omega, hr⟩

theorem bytes_wf {l : List Int} (h : ∀ x ∈ l, (Lit.int .u8 x).wf = true) : ∀ x ∈ l, 0 ≤ x ∧ x ≤ 255 := by
  intro x hx
  have h1 := h x hx
  have e0 : IntKind.u8.min = 0 := rfl
  have e1 : IntKind.u8.max = 255 := rfl
  simp only [Lit.wf, e0, e1, Bool.and_eq_true, decide_eq_true_eq] at h1
  exact h1

theorem below_T {s : List Int} {p : Int} (h : RdOk s p) (n : Int) : Tot (fun _ => spec_l1Rd_below.f s p n) (fun r => 0 ≤ r.1 ∧ (1 ≤ n → r.1 < n) ∧ RdOk s r.2) := by
  obtain ⟨v, q, e, h0, h1, h2⟩ := below_tot h n
  exact Tot.of e ⟨h0, h1, h2⟩
theorem once_T {s : List Int} {p : Int} (h : RdOk s p) (n : Int) : Tot (fun _ => spec_l1Rd_once.f s p n) (fun r => RdOk s r.2) := by
  obtain ⟨v, q, e, h0⟩ := once_tot h n
  exact Tot.of e h0
theorem byte_T {s : List Int} {p : Int} (h : RdOk s p) : Tot (fun _ => spec_l1Rd_byte.f s p) (fun r => 0 ≤ r.1 ∧ r.1 ≤ 255 ∧ RdOk s r.2) := by
  obtain ⟨v, q, e, h0, h1, h2⟩ := byte_tot h
  exact Tot.of e ⟨h0, h1, h2⟩
theorem off_T {s : List Int} {p : Int} (h : RdOk s p) (lo hi : Int) (hlo : -4294967296 ≤ lo) (hhi : hi ≤ 4294967296) : Tot (fun k => spec_l1Rd_off.f k s p lo hi) (fun r => RdOk s r.2) := by
  obtain ⟨v, q, e, h2⟩ := off_tot h (k := 9) (Nat.le_refl _) lo hi hlo hhi
  exact Tot.lift (fun k => spec_l1Rd_off.mono _ _ _ _ k) e h2

def tmplOk (n : Int) (b : Bool) : Bool := match spec_l3Template.f 12 n b with
  | some t => decide (t.size ≤ 24)
  | none => false
theorem tmpl_all : ∀ n : Fin 256, ∀ b : Bool, tmplOk (n.val : Int) b = true := by decide +kernel
theorem tmpl_T {n : Int} (h0 : 0 ≤ n) (h1 : n < 256) (b : Bool) : Tot (fun k => spec_l3Template.f k n b) (fun t => t.size ≤ 24) := by
  have h := tmpl_all ⟨n.toNat, by omega⟩ b
  simp only [Int.toNat_of_nonneg h0] at h
  unfold tmplOk at h
  cases e : spec_l3Template.f 12 n b with
  | none => rw [e] at h; cases h
  | some t =>
    rw [e] at h
    exact Tot.lift (fun k => spec_l3Template.mono _ _ k) e (of_decide_eq_true h)
def holes : List ByteArray := [(⟨#[110, 49, 54]⟩ : ByteArray), (⟨#[110, 56]⟩ : ByteArray), (⟨#[101, 56]⟩ : ByteArray)]
theorem hole_l1_T (s : ByteArray) (hs : s.size ≤ 1000) (i : Int) (h0 : 0 ≤ i) (h1 : i < 3) (P : Int × ByteArray → Prop) (hP : ∀ p, P (p, rdOf ByteArray.empty holes i)) (hn : Tot (fun k => spec_l3Hole.l0 k s holes (i + 1)) P) :
    ∀ (d : Nat) (p : Int), 0 ≤ p → p ≤ 1001 → 1001 - p ≤ d → Tot (fun k => spec_l3Hole.l1 k s holes i p) P := by
  have hz : 2 ≤ (rdOf ByteArray.empty holes i).size ∧ (rdOf ByteArray.empty holes i).size ≤ 3 := by
    rcases (show i = 0 ∨ i = 1 ∨ i = 2 by omega) with rfl | rfl | rfl <;> decide
  have hl : ((holes.length : Nat) : Int) = 3 := rfl
  intro d
  induction d with
  | zero =>
    intro p p0 p1 pd
    have e : wrap64 (p + ((rdOf ByteArray.empty holes i).size : Int)) = p + (rdOf ByteArray.empty holes i).size := w64_in (by omega) (by omega)
    refine Tot.step (fun k => spec_l3Hole.l1.eq_2 _ _ _ _ k) ?_
    refine Tot.yes h0 (Tot.yes (by rw [hl]; exact h1) ?_)
    rw [e, w64_in (n := i + 1) (by omega) (by omega)]
    exact Tot.no (by omega) hn
  | succ d ih =>
    intro p p0 p1 pd
    have e : wrap64 (p + ((rdOf ByteArray.empty holes i).size : Int)) = p + (rdOf ByteArray.empty holes i).size := w64_in (by omega) (by omega)
    refine Tot.step (fun k => spec_l3Hole.l1.eq_2 _ _ _ _ k) ?_
    refine Tot.yes h0 (Tot.yes (by rw [hl]; exact h1) ?_)
    rw [e, w64_in (n := i + 1) (by omega) (by omega), w64_in (n := p + 1) (by omega) (by omega)]
    refine Tot.ite (fun hc => ?_) (fun _ => hn)
    refine Tot.yes p0 (Tot.yes (by omega) (Tot.ite (fun _ => Tot.ret (hP _)) (fun _ => ih _ (by omega) (by omega) (by omega))))
theorem hole_T (s : ByteArray) (hs : s.size ≤ 1000) : Tot (fun k => spec_l3Hole.f k s) (fun _ => True) := by
  have h3 : Tot (fun k => spec_l3Hole.l0 k s holes (2 + 1)) (fun _ => True) := Tot.step (fun k => spec_l3Hole.l0.eq_2 _ _ _ k) (Tot.no (by decide) (Tot.ret trivial))
  have h2 : Tot (fun k => spec_l3Hole.l0 k s holes (1 + 1)) (fun _ => True) := Tot.step (fun k => spec_l3Hole.l0.eq_2 _ _ _ k) (Tot.yes (by decide) (hole_l1_T s hs 2 (by omega) (by omega) _ (fun _ => trivial) h3 1001 0 (by omega) (by omega) (by omega)))
  have h1 : Tot (fun k => spec_l3Hole.l0 k s holes (0 + 1)) (fun _ => True) := Tot.step (fun k => spec_l3Hole.l0.eq_2 _ _ _ k) (Tot.yes (by decide) (hole_l1_T s hs 1 (by omega) (by omega) _ (fun _ => trivial) h2 1001 0 (by omega) (by omega) (by omega)))
  exact Tot.step (fun k => spec_l3Hole.l0.eq_2 _ _ _ k) (Tot.yes (by decide) (hole_l1_T s hs 0 (by omega) (by omega) _ (fun _ => trivial) h1 1001 0 (by omega) (by omega) (by omega)))
theorem len_T {n : Int} (h0 : 0 ≤ n) (h1 : n < 256) (b : Bool) : Tot (fun k => spec_l3Length.f k n b) (fun r => 0 ≤ r ∧ r ≤ 3) := by
  unfold spec_l3Length.f
  refine Tot.bind (tmpl_T h0 h1 b) fun t ht => ?_
  refine Tot.ite (fun _ => Tot.ret (by omega)) (fun _ => Tot.ite (fun _ => Tot.ret (by omega)) (fun _ => ?_))
  refine Tot.bind (hole_T t (by omega)) fun r _ => ?_
  exact Tot.ite (fun _ => Tot.ret (by omega)) (fun _ => Tot.ite (fun _ => Tot.ret (by omega)) (fun _ => Tot.ret (by omega)))
theorem sIn_eq (a lo hi : Int) : spec_l1In.f a lo hi = some (decide (lo ≤ a ∧ a ≤ hi)) := by
  unfold spec_l1In.f
  by_cases h : a ≥ lo
  · rw [if_pos h]; simp [show lo ≤ a from h]
  · rw [if_neg h]; simp [show ¬ lo ≤ a from h]
theorem lengthOf_T (n : Int) (b : Bool) : Tot (fun k => spec_LengthOf.f k n b) (fun r => 0 ≤ r ∧ r ≤ 3 ∧ (r ≠ 0 → 0 ≤ n ∧ n < 256)) := by
  unfold spec_LengthOf.f
  refine Tot.bind (Tot.of (sIn_eq _ _ _) rfl) ?_
  rintro _ rfl
  refine Tot.ite (fun h => ?_) (fun _ => Tot.ret (by omega))
  have h := of_decide_eq_true h
  refine Tot.bind (len_T h.1 (by omega) b) fun r hr => Tot.ret (by omega)
theorem insOk_T (n : Int) (b : Bool) (m : Int) : Tot (fun k => spec_InsOk.f k n b m) (fun r => r = true → 0 ≤ n ∧ n < 256) := by
  unfold spec_InsOk.f
  refine Tot.bind (lengthOf_T n b) fun r hr => ?_
  refine Tot.ite (fun _ => Tot.ret (fun h => by cases h)) (fun h => ?_)
  have hn := hr.2.2 h
  refine Tot.bind (tmpl_T hn.1 hn.2 b) fun t ht => ?_
  refine Tot.bind (hole_T t (by omega)) fun r _ => ?_
  have j0 : ∀ x : Bool, Tot (fun k => spec_InsOk.j0 k x n b m) (fun r => r = true → 0 ≤ n ∧ n < 256) := fun x =>
    Tot.step (fun k => spec_InsOk.j0.eq_2 _ _ _ _ k) (Tot.ite (fun _ => Tot.bind (Tot.of (sIn_eq _ _ _) rfl) (fun _ _ => Tot.ret (fun _ => hn))) (fun _ => Tot.ret (fun _ => hn)))
  exact Tot.ite (fun _ => Tot.bind (Tot.of (sIn_eq _ _ _) rfl) (fun _ _ => Tot.ret (fun _ => hn))) (fun _ => Tot.ite (fun _ => j0 _) (fun _ => j0 _))
theorem insBytes_T (n : Int) (b : Bool) (m : Int) : Tot (fun k => spec_InsBytes.f k n b m) (fun r => r.size ≤ 3) := by
  unfold spec_InsBytes.f
  refine Tot.bind (insOk_T n b m) fun r hr => ?_
  refine Tot.ite (fun h => ?_) (fun _ => Tot.ret (Nat.zero_le _))
  have hn := hr h
  refine Tot.ite (fun _ => Tot.ret (by rw [strOfNums_size]; simp)) (fun _ => ?_)
  refine Tot.bind (len_T hn.1 hn.2 false) fun r _ => ?_
  refine Tot.ite (fun _ => ?_) (fun _ => Tot.ite (fun _ => ?_) (fun _ => ?_))
  all_goals exact Tot.ret (by rw [strOfNums_size]; simp)

theorem ins_j1_T {s : List Int} {p : Int} (h : RdOk s p) (n : Int) (b : Bool) (m : Int) : Tot (fun k => spec_l1Rd_ins.j1 k s p n b m) (fun r => RdOk s r.2.2.2) := by
  refine Tot.step (fun k => spec_l1Rd_ins.j1.eq_2 _ _ _ _ _ k) ?_
  refine Tot.bind (once_T h 40) fun r hr => ?_
  exact Tot.ite (fun _ => Tot.bind (off_T hr 0 255 (by omega) (by omega)) fun q hq => Tot.ret hq) (fun _ => Tot.ret hr)
theorem ins_j0_T {s : List Int} {p : Int} (h : RdOk s p) (x : Bool) (n : Int) (b : Bool) (m : Int) : Tot (fun k => spec_l1Rd_ins.j0 k x s p n b m) (fun r => RdOk s r.2.2.2) := by
  refine Tot.step (fun k => spec_l1Rd_ins.j0.eq_2 _ _ _ _ _ _ k) ?_
  exact Tot.ite (fun _ => Tot.bind (byte_T h) fun v hv => ins_j1_T hv.2.2 _ _ _) (fun _ => ins_j1_T h _ _ _)
theorem ins_T {s : List Int} {p : Int} (h : RdOk s p) : Tot (fun k => spec_l1Rd_ins.f k s p) (fun r => RdOk s r.2.2.2) := by
  unfold spec_l1Rd_ins.f
  refine Tot.bind (below_T h 256) fun r hr => ?_
  refine Tot.bind (once_T hr.2.2 4) fun q hq => ?_
  refine Tot.bind (tmpl_T hr.1 (hr.2.1 (by omega)) q.1) fun t ht => ?_
  refine Tot.bind (hole_T t (by omega)) fun u _ => ?_
  refine Tot.ite (fun _ => Tot.bind (below_T hq 65536) fun v hv => ins_j1_T hv.2.2 _ _ _) (fun _ => ?_)
  exact Tot.ite (fun _ => ins_j0_T hq _ _ _ _) (fun _ => ins_j0_T hq _ _ _ _)
theorem plainI_j0_T {s : List Int} {p : Int} (h : RdOk s p) (x : Bool) (n : Int) (b : Bool) (m : Int) : Tot (fun k => spec_l1Rd_plain.j0 k x s p n b m) (fun r => RdOk s r.2.2.2) := by
  refine Tot.step (fun k => spec_l1Rd_plain.j0.eq_2 _ _ _ _ _ _ k) ?_
  refine Tot.ite (fun _ => Tot.ret h) (fun _ => ?_)
  refine Tot.bind (below_T h 10) fun r hr => ?_
  have h1 := hr.2.2
  refine Tot.ite (fun _ => Tot.bind (byte_T h1) fun v hv => Tot.ret hv.2.2) (fun _ => ?_)
  refine Tot.ite (fun _ => Tot.bind (Tot.of rfl rfl) ?_) (fun _ => ?_)
  · rintro _ rfl
    refine Tot.bind (below_T h1 5) fun v hv => ?_
    exact Tot.yes hv.1 (Tot.yes (hv.2.1 (by omega)) (Tot.ret hv.2.2))
  refine Tot.ite (fun _ => Tot.ret h1) (fun _ => ?_)
  refine Tot.ite (fun _ => Tot.ret h1) (fun _ => ?_)
  refine Tot.ite (fun _ => Tot.bind (Tot.of rfl rfl) ?_) (fun _ => ?_)
  · rintro _ rfl
    refine Tot.bind (below_T h1 6) fun v hv => ?_
    exact Tot.yes hv.1 (Tot.yes (hv.2.1 (by omega)) (Tot.ret hv.2.2))
  exact Tot.ite (fun _ => Tot.ite (fun _ => Tot.ret h1) (fun _ => Tot.ret h1)) (fun _ => Tot.ret h1)
theorem plainI_T {s : List Int} {p : Int} (h : RdOk s p) : Tot (fun k => spec_l1Rd_plain.f k s p) (fun r => RdOk s r.2.2.2) := by
  unfold spec_l1Rd_plain.f
  refine Tot.bind (ins_T h) fun r hr => ?_
  exact Tot.ite (fun _ => plainI_j0_T hr _ _ _ _) (fun _ => Tot.bind (once_T hr 6) fun q hq => plainI_j0_T hq _ _ _ _)
theorem rom_l1_T {s : List Int} (n x : Int) (hx0 : 0 ≤ x) (hx1 : x < n) (hn : n ≤ 4) (P : ByteArray × Int → Prop) (hk : ∀ L q, (L.length : Int) = n * 256 → RdOk s q → Tot (fun k => spec_l1Rd_rom.l0 k n L (x + 1) s q) P) :
    ∀ (d : Nat) (L : List Int) (a p : Int), d ≤ 16 → x * 256 ≤ a → a + 3 * d ≤ x * 256 + 48 → (L.length : Int) = n * 256 → RdOk s p → Tot (fun k => spec_l1Rd_rom.l1 k n L x a (d : Int) s p) P := by
  have e1 : wrap64 (x + 1) = x + 1 := w64_in (by omega) (by omega)
  have e2 : wrap64 ((x + 1) * 256) = (x + 1) * 256 := w64_in (by omega) (by omega)
  intro d
  induction d with
  | zero =>
    intro L a p hd ha0 ha1 hL hp
    refine Tot.step (fun k => spec_l1Rd_rom.l1.eq_2 _ _ _ _ _ _ _ k) ?_
    rw [e1]
    exact Tot.no (by decide) (hk L p hL hp)
  | succ d ih =>
    intro L a p hd ha0 ha1 hL hp
    refine Tot.step (fun k => spec_l1Rd_rom.l1.eq_2 _ _ _ _ _ _ _ k) ?_
    rw [e1, e2]
    refine Tot.yes (by omega) (Tot.bind (plainI_T hp) fun r hr => Tot.bind (insBytes_T _ _ _) fun t ht => ?_)
    refine Tot.yes (by omega) (Tot.yes (by omega) (Tot.yes (by omega) ?_))
    rw [show wrap64 (((d + 1 : Nat) : Int) - 1) = (d : Int) by rw [w64_in (by omega) (by omega)]; omega, w64_in (n := a + (t.size : Int)) (by omega) (by omega)]
    exact ih _ _ _ (by omega) (by omega) (by omega) (by rw [cpy_length (by omega)]; exact hL) hr
theorem rom_l0_T {s : List Int} (n : Int) (hn0 : 2 ≤ n) (hn : n ≤ 4) : ∀ (d : Nat) (L : List Int) (x p : Int), 0 ≤ x → x + d = n → (L.length : Int) = n * 256 → RdOk s p → Tot (fun k => spec_l1Rd_rom.l0 k n L x s p) (fun r => r.1.size ≤ 1024 ∧ RdOk s r.2) := by
  intro d
  induction d with
  | zero =>
    intro L x p hx hd hL hp
    refine Tot.step (fun k => spec_l1Rd_rom.l0.eq_2 _ _ _ _ _ k) ?_
    refine Tot.no (by omega) (Tot.bind (once_T hp 30) fun r hr => ?_)
    refine Tot.ite (fun _ => Tot.yes (by omega) (Tot.ret ⟨?_, hr⟩)) (fun _ => Tot.ret ⟨?_, hr⟩)
    · show (strOfNums _).size ≤ 1024
      rw [strOfNums_size, List.length_drop]
      omega
    · show (strOfNums _).size ≤ 1024
      rw [strOfNums_size]
      omega
  | succ d ih =>
    intro L x p hx hd hL hp
    refine Tot.step (fun k => spec_l1Rd_rom.l0.eq_2 _ _ _ _ _ k) ?_
    refine Tot.yes (by omega) (Tot.bind (below_T hp 16) fun r hr => ?_)
    have hr1 := hr.2.1 (by omega)
    have hr0 := hr.1
    rw [w64_in (n := x * 256) (by omega) (by omega), w64_in (n := 1 + r.1) (by omega) (by omega)]
    have := rom_l1_T n x hx (by omega) hn _ (fun L q hL hq => ih L (x + 1) q (by omega) (by omega) hL hq) (1 + r.1).toNat L (x * 256) r.2 (by omega) (by omega) (by omega) hL hr.2.2
    rw [Int.toNat_of_nonneg (by omega)] at this
    exact this
theorem rom_T {s : List Int} {p : Int} (h : RdOk s p) : Tot (fun k => spec_l1Rd_rom.f k s p) (fun r => r.1.size ≤ 1024 ∧ RdOk s r.2) := by
  unfold spec_l1Rd_rom.f
  refine Tot.bind (below_T h 3) fun r hr => ?_
  have hr1 := hr.2.1 (by omega)
  have hr0 := hr.1
  rw [w64_in (n := 2 + r.1) (by omega) (by omega), w64_in (n := (2 + r.1) * 256) (by omega) (by omega)]
  refine Tot.yes (by omega) (Tot.yes (by omega) ?_)
  exact rom_l0_T (2 + r.1) (by omega) (by omega) (2 + r.1).toNat _ 0 _ (by omega) (by omega) (by rw [List.length_replicate]; omega) hr.2.2

theorem bytesOf_append (a b : ByteArray) : bytesOf (a ++ b) = bytesOf a ++ bytesOf b := by
  unfold bytesOf
  rw [ByteArray.data_append, Array.toList_append, List.map_append]
theorem bytesOf_extract (a : ByteArray) (i j : Nat) : bytesOf (a.extract i j) = ((bytesOf a).drop i).take (j - i) := by
  unfold bytesOf
  rw [ByteArray.data_extract, Array.toList_extract, List.extract_eq_take_drop, List.map_take, List.map_drop]
theorem bytesOf_rest (a : ByteArray) (i : Nat) : bytesOf (a.extract i a.size) = (bytesOf a).drop i := by
  rw [bytesOf_extract, List.take_of_length_le]
  rw [List.length_drop, bytesOf_length]
  exact Nat.le_refl _
theorem bt_get (a : ByteArray) (i : Nat) (h : i < a.size) : ∃ b l, (bytesOf a).drop i = b :: l ∧ bt a (i : Int) = b ∧ (bytesOf a).drop (i + 1) = l ∧ 0 ≤ b ∧ b ≤ 255 := by
  have hl : i < (bytesOf a).length := by rw [bytesOf_length]; exact h
  refine ⟨(bytesOf a)[i], (bytesOf a).drop (i + 1), List.drop_eq_getElem_cons hl, ?_, rfl, ?_⟩
  · rw [← rd_bytesOf]
    unfold rd
    rw [Int.toNat_natCast, List.getD_eq_getElem?_getD, List.getElem?_eq_getElem hl]
    rfl
  · have : ∀ x ∈ bytesOf a, 0 ≤ x ∧ x ≤ 255 := by
      intro x hx
      unfold bytesOf at hx
      obtain ⟨b, _, rfl⟩ := List.mem_map.1 hx
      have := b.toNat_lt
      omega
    exact this _ (List.getElem_mem _)

theorem bytesOf_bytes (s : ByteArray) : ∀ x ∈ bytesOf s, 0 ≤ x ∧ x < 256 := by
  intro x hx
  unfold bytesOf at hx
  obtain ⟨b, _, rfl⟩ := List.mem_map.1 hx
  have := b.toNat_lt
  omega
theorem bytesOf_strOfNums {xs : List Int} (h : ∀ x ∈ xs, 0 ≤ x ∧ x < 256) : bytesOf (strOfNums xs) = xs := by
  unfold bytesOf
  rw [strOfNums_data, List.map_map]
  conv => rhs; rw [← List.map_id xs]
  refine List.map_congr_left fun x hx => ?_
  have := h x hx
  simp only [Function.comp, id]
  rw [UInt8.toNat_ofNat']
  omega

def lay (xs : List Int) (lo : Nat) (ys : List Int) : List Int := xs.take lo ++ ys ++ xs.drop (lo + ys.length)
theorem lay_length {xs ys : List Int} {lo : Nat} (h : lo + ys.length ≤ xs.length) : (lay xs lo ys).length = xs.length := by
  unfold lay
  rw [List.length_append, List.length_append, List.length_take, List.length_drop]
  omega
theorem lay_bytes {xs ys : List Int} {lo : Nat} (hx : ∀ x ∈ xs, 0 ≤ x ∧ x < 256) (hy : ∀ x ∈ ys, 0 ≤ x ∧ x < 256) : ∀ x ∈ lay xs lo ys, 0 ≤ x ∧ x < 256 := by
  intro x h
  unfold lay at h
  rw [List.mem_append, List.mem_append] at h
  rcases h with (h | h) | h
  · exact hx x (List.mem_of_mem_take h)
  · exact hy x h
  · exact hx x (List.mem_of_mem_drop h)
theorem lay_get {xs ys : List Int} {lo : Nat} (h : lo + ys.length ≤ xs.length) (p : Nat) : (lay xs lo ys)[p]? = if lo ≤ p ∧ p < lo + ys.length then ys[p - lo]? else xs[p]? := by
  unfold lay
  have h1 : (xs.take lo).length = lo := by rw [List.length_take]; omega
  have h2 : (xs.take lo ++ ys).length = lo + ys.length := by rw [List.length_append, h1]
  by_cases a : p < lo + ys.length
  · rw [List.getElem?_append_left (by omega)]
    by_cases b : lo ≤ p
    · rw [if_pos ⟨b, a⟩, List.getElem?_append_right (by omega), h1]
    · rw [if_neg (by omega), List.getElem?_append_left (by omega), List.getElem?_take, if_pos (by omega)]
  · rw [if_neg (by omega), List.getElem?_append_right (by omega), h2, List.getElem?_drop, show lo + ys.length + (p - (lo + ys.length)) = p by omega]
theorem lay_one {xs : List Int} {lo : Nat} (h : lo < xs.length) (v : Int) : lay xs lo [v] = xs.set lo v := by
  apply List.ext_getElem?
  intro p
  rw [lay_get (by simp; omega), List.getElem?_set]
  by_cases c : lo = p
  · subst c; simp [h]
  · rw [if_neg (by simp; omega), if_neg c]
theorem lay_two {xs : List Int} {lo : Nat} (h : lo + 1 < xs.length) (v u : Int) : lay xs lo [v, u] = (xs.set lo v).set (lo + 1) u := by
  apply List.ext_getElem?
  intro p
  rw [lay_get (by simp; omega), List.getElem?_set, List.getElem?_set, List.length_set]
  by_cases c : lo + 1 = p
  · subst c; simp [h]
  · rw [if_neg c]
    by_cases d : lo = p
    · subst d; simp; omega
    · rw [if_neg d, if_neg (by simp; omega)]
theorem set_lay {xs ys : List Int} {lo : Nat} (h : lo + ys.length < xs.length) (v : Int) : (lay xs lo ys).set (lo + ys.length) v = lay xs lo (ys ++ [v]) := by
  apply List.ext_getElem?
  intro p
  rw [List.getElem?_set, lay_get (by omega), lay_get (by simp; omega), lay_length (by omega)]
  by_cases c : lo + ys.length = p
  · subst c; simp [h]
  · rw [if_neg c]
    by_cases d : lo ≤ p ∧ p < lo + ys.length
    · rw [if_pos d, if_pos (by simp; omega), List.getElem?_append_left (by omega)]
    · rw [if_neg d, if_neg (by simp; omega)]
theorem lay_nil (xs : List Int) (lo : Nat) : lay xs lo [] = xs := by unfold lay; simp
theorem set_bytes {xs : List Int} {i : Nat} {v : Int} (hx : ∀ x ∈ xs, 0 ≤ x ∧ x < 256) (h0 : 0 ≤ v) (h1 : v < 256) : ∀ x ∈ xs.set i v, 0 ≤ x ∧ x < 256 := by
  intro x h
  rcases List.mem_or_eq_of_mem_set h with h | h
  · exact hx x h
  · omega
theorem strOfNums_bytesOf (s : ByteArray) : strOfNums (bytesOf s) = s := by
  apply ByteArray.ext
  apply Array.toList_inj.1
  rw [strOfNums_data]
  unfold bytesOf
  rw [List.map_map]
  conv => rhs; rw [← List.map_id s.data.toList]
  refine List.map_congr_left fun x _ => ?_
  simp
theorem repeat_noughts (n : Nat) : bytesOf (⟨(Lib.repeatL [0] n).toArray⟩ : ByteArray) = List.replicate n 0 := by
  have h : Lib.repeatL [0] n = List.replicate n 0 := by
    have := Lib.repeatL_replicate 0 1 n
    rw [Nat.mul_one] at this
    exact this
  rw [h]
  unfold bytesOf
  simp

theorem banks_eq (a : ByteArray) : spec_l5Banks.f a = impl_banksOf.f a 2 := rfl
theorem banks_some (a : ByteArray) (hs : a.size ≤ 1048576) : ∃ b, spec_l5Banks.f a = some b ∧ (b ≠ 0 → 512 ≤ a.size) := by
  have e : wrap64 ((a.size : Int) / 256) = (a.size : Int) / 256 := w64_in (by omega) (by omega)
  unfold spec_l5Banks.f spec_l1In.f
  rw [e]
  by_cases h : ((a.size : Int) % 256) = 0
  · rw [if_pos h]
    by_cases h2 : ((a.size : Int) / 256) ≥ 2
    · rw [if_pos h2]
      by_cases h3 : ((a.size : Int) / 256) ≤ 16
      · exact ⟨(a.size : Int) / 256, by simp [h3], fun _ => by omega⟩
      · exact ⟨0, by simp [h3], fun h => absurd rfl h⟩
    · rw [if_neg h2]
      exact ⟨0, by simp, fun h => absurd rfl h⟩
  · rw [if_neg h]
    exact ⟨0, rfl, fun h => absurd rfl h⟩

theorem hs_sim (a : ByteArray) (h : 77 ≤ a.size) : ∀ (k : Nat) (i x y : Int), 0 ≤ i → i ≤ 77 → -(256 * i) ≤ x → x ≤ 0 → y = x % 256 →
    spec_HeaderSum.l0 k a x i = impl_HeaderSum.l0 k a y i := by
  intro k
  induction k with
  | zero => intros; rfl
  | succ k ih =>
    intro i x y h0 h1 hx hx2 hy
    simp only [spec_HeaderSum.l0, impl_HeaderSum.l0]
    have hb := bt_range a i
    by_cases hi : i < 77
    · rw [if_pos hi, if_pos hi, if_pos h0, if_pos h0, if_pos (by omega), if_pos (by omega), and255,
        w64_in (n := bt a i) (by omega) (by omega), w64_in (n := i + 1) (by omega) (by omega), w64_in (n := x - bt a i) (by omega) (by omega),
        w64_in (n := x - bt a i - 1) (by omega) (by omega), w64_in (n := y - bt a i) (by omega) (by omega), w64_in (n := y - bt a i - 1) (by omega) (by omega)]
      exact ih (i + 1) _ _ (by omega) (by omega) (by omega) (by omega) (by omega)
    · rw [if_neg hi, if_neg hi]
      congr 1
      rw [Int.tmod_eq_emod (a := x), w64_in (by split <;> omega) (by split <;> omega), tmod_pos _ (by split <;> omega)]
      split <;> omega

theorem hs_ends (a : ByteArray) (h : 77 ≤ a.size) : ∀ (k : Nat) (i x : Int), 0 ≤ i → i ≤ 77 → 77 - i < k → ∃ r, spec_HeaderSum.l0 k a x i = some r := by
  intro k
  induction k with
  | zero => intros; omega
  | succ k ih =>
    intro i x h0 h1 hk
    simp only [spec_HeaderSum.l0]
    by_cases hi : i < 77
    · rw [if_pos hi, if_pos h0, if_pos (by omega), w64_in (n := i + 1) (by omega) (by omega)]
      exact ih _ _ (by omega) (by omega) (by omega)
    · rw [if_neg hi]
      exact ⟨_, rfl⟩

theorem ws_sim (a : ByteArray) (h : a.size ≤ 1048576) : ∀ (k : Nat) (i x : Int), 0 ≤ i → i ≤ a.size → 0 ≤ x → x ≤ 255 * i →
    spec_WholeSum.l0 k a x i = impl_WholeSum.l0 k a x (a.size : Int) i := by
  intro k
  induction k with
  | zero => intros; rfl
  | succ k ih =>
    intro i x h0 h1 hx hx2
    simp only [spec_WholeSum.l0, impl_WholeSum.l0]
    have hb := bt_range a i
    by_cases hi : i < (a.size : Int)
    · rw [if_pos hi, if_pos hi, w64_in (n := i + 1) (by omega) (by omega)]
      by_cases e1 : i = 78
      · rw [if_pos e1, if_pos e1]
        exact ih _ _ (by omega) (by omega) (by omega) (by omega)
      · rw [if_neg e1, if_neg e1]
        by_cases e2 : i = 79
        · rw [if_pos e2, if_pos e2]
          exact ih _ _ (by omega) (by omega) (by omega) (by omega)
        · rw [if_neg e2, if_neg e2, if_pos h0, if_pos h0, if_pos hi, w64_in (n := bt a i) (by omega) (by omega), w64_in (n := x + bt a i) (by omega) (by omega)]
          exact ih _ _ (by omega) (by omega) (by omega) (by omega)
    · rw [if_neg hi, if_neg hi, and65535, tmod_pos _ hx]

theorem ws_ends (a : ByteArray) (h : a.size ≤ 1048576) : ∀ (k : Nat) (i x : Int), 0 ≤ i → i ≤ a.size → (a.size : Int) - i < k → ∃ r, spec_WholeSum.l0 k a x i = some r := by
  intro k
  induction k with
  | zero => intros; omega
  | succ k ih =>
    intro i x h0 h1 hk
    simp only [spec_WholeSum.l0]
    by_cases hi : i < (a.size : Int)
    · rw [if_pos hi, if_pos h0, w64_in (n := i + 1) (by omega) (by omega)]
      have hn := fun y => ih (i + 1) y (by omega) (by omega) (by omega)
      split
      · exact hn _
      · split
        · exact hn _
        · exact hn _
    · rw [if_neg hi]
      exact ⟨_, rfl⟩

theorem header_eq (a : ByteArray) (ha : a.size ≤ 1048576) (k : Nat) : spec_HeaderSum.f k a = impl_HeaderSum.f k a := by
  obtain ⟨b, hb, hb2⟩ := banks_some a ha
  unfold spec_HeaderSum.f impl_HeaderSum.f
  rw [← banks_eq, hb]
  simp only [Option.bind_some]
  by_cases hz : b = 0
  · rw [if_pos hz, if_pos hz]
  · have h5 := hb2 hz
    rw [if_neg hz, if_neg hz]
    exact hs_sim a (by omega) k 52 0 0 (by omega) (by omega) (by omega) (by omega) (by omega)
theorem whole_eq (a : ByteArray) (ha : a.size ≤ 1048576) (k : Nat) : spec_WholeSum.f k a = impl_WholeSum.f k a := by
  obtain ⟨b, hb, hb2⟩ := banks_some a ha
  unfold spec_WholeSum.f impl_WholeSum.f
  rw [← banks_eq, hb]
  simp only [Option.bind_some]
  by_cases hz : b = 0
  · rw [if_pos hz, if_pos hz]
  · rw [if_neg hz, if_neg hz]
    exact ws_sim a (by omega) k 0 0 (by omega) (by omega) (by omega) (by omega)
theorem header_T (a : ByteArray) (ha : a.size ≤ 1048576) : ∃ r, Tot (fun k => spec_HeaderSum.f k a) (fun x => x = r) := by
  obtain ⟨b, hb, hb2⟩ := banks_some a ha
  by_cases hz : b = 0
  · refine ⟨-1, 0, -1, rfl, fun k _ => ?_⟩
    show spec_HeaderSum.f k a = _
    unfold spec_HeaderSum.f
    rw [hb, Option.bind_some, if_pos hz]
  · obtain ⟨r, hr⟩ := hs_ends a (by have := hb2 hz; omega) 100 52 0 (by omega) (by omega) (by omega)
    refine ⟨r, Tot.lift (fun k => spec_HeaderSum.mono _ k) (k := 100) (r := r) ?_ rfl⟩
    unfold spec_HeaderSum.f
    rw [hb, Option.bind_some, if_neg hz]
    exact hr
theorem whole_T (a : ByteArray) (ha : a.size ≤ 1048576) : ∃ r, Tot (fun k => spec_WholeSum.f k a) (fun x => x = r) := by
  obtain ⟨b, hb, hb2⟩ := banks_some a ha
  by_cases hz : b = 0
  · refine ⟨-1, 0, -1, rfl, fun k _ => ?_⟩
    show spec_WholeSum.f k a = _
    unfold spec_WholeSum.f
    rw [hb, Option.bind_some, if_pos hz]
  · obtain ⟨r, hr⟩ := ws_ends a (by omega) (a.size + 1) 0 0 (by omega) (by omega) (by omega)
    refine ⟨r, Tot.lift (fun k => spec_WholeSum.mono _ k) (k := a.size + 1) (r := r) ?_ rfl⟩
    unfold spec_WholeSum.f
    rw [hb, Option.bind_some, if_neg hz]
    exact hr

theorem noughts_eq {n : Int} (h0 : 0 ≤ n) (h1 : n ≤ 1000000) : ∃ s, impl_noughts.f n = some s ∧ bytesOf s = List.replicate n.toNat 0 := by
  unfold impl_noughts.f strings_Repeat.f
  have e : (⟨#[0]⟩ : ByteArray).size = 1 := rfl
  rw [if_pos h0, if_pos (by omega), if_pos (by rw [e]; omega)]
  exact ⟨_, rfl, repeat_noughts _⟩
theorem laid_eq (s t : ByteArray) (at_ : Int) (h0 : 0 ≤ at_) (h1 : at_ + t.size ≤ s.size) (hs : s.size ≤ 1000000) : ∃ r, impl_laid.f s at_ t = some r ∧ bytesOf r = lay (bytesOf s) at_.toNat (bytesOf t) := by
  have e : wrap64 (at_ + (t.size : Int)) = at_ + t.size := w64_in (by omega) (by omega)
  have s1 : (s.extract 0 at_.toNat).size = at_.toNat := by rw [ByteArray.size_extract]; omega
  have s2 : (s.extract (at_ + (t.size : Int)).toNat s.size).size = s.size - (at_ + (t.size : Int)).toNat := by rw [ByteArray.size_extract]; omega
  unfold impl_laid.f
  rw [e, if_pos h0, if_pos (by omega), if_pos (by rw [s1]; omega), if_pos (by omega), if_pos h1, if_pos (by rw [ByteArray.size_append, s1, s2]; omega)]
  refine ⟨_, rfl, ?_⟩
  rw [bytesOf_append, bytesOf_append, bytesOf_rest, bytesOf_extract]
  unfold lay
  rw [List.drop_zero, Nat.sub_zero, bytesOf_length, show (at_ + (t.size : Int)).toNat = at_.toNat + t.size by omega]
theorem one_byte (n : Int) (k : Nat) (hk : 2 ≤ k) : ∃ s, impl_bytesOf.f k n 1 = some s ∧ bytesOf s = [n % 256] := by
  obtain ⟨k, rfl⟩ : ∃ q, k = q + 2 := ⟨k - 2, by omega⟩
  unfold impl_bytesOf.f
  rw [impl_bytesOf.l0, if_pos (by decide), if_pos (by decide), impl_bytesOf.l0, show wrap64 (1 - 1) = 0 by decide +kernel, if_neg (by decide)]
  refine ⟨_, rfl, bytesOf_strOfNums ?_⟩
  intro x hx
  simp only [List.nil_append, List.mem_singleton] at hx
  omega
def plainB (l : List Int) : Bool := l.all fun x => decide (32 ≤ x) && decide (x ≤ 126)
theorem plain_l0 (a : ByteArray) (ha : a.size ≤ 2000000) : ∀ (d k : Nat) (i : Nat), i + d = a.size → d < k → impl_isPlain.l0 k a (a.size : Int) (i : Int) = some (plainB ((bytesOf a).drop i))
  | 0, k, i, hi, hk => by
    obtain ⟨k, rfl⟩ : ∃ q, k = q + 1 := ⟨k - 1, by omega⟩
    rw [impl_isPlain.l0, if_neg (by omega), List.drop_of_length_le (by rw [bytesOf_length]; omega)]
    rfl
  | d + 1, k, i, hi, hk => by
    obtain ⟨k, rfl⟩ : ∃ q, k = q + 1 := ⟨k - 1, by omega⟩
    obtain ⟨b, l, e1, e2, e3, b0, b1⟩ := bt_get a i (by omega)
    rw [impl_isPlain.l0, if_pos (by omega), if_pos (by omega), if_pos (by omega), e2, e1]
    unfold plainB
    rw [List.all_cons]
    by_cases c1 : b < 32
    · rw [if_pos c1, decide_eq_false (show ¬ 32 ≤ b by omega)]; simp
    rw [if_neg c1, decide_eq_true (show 32 ≤ b by omega)]
    by_cases c2 : b > 126
    · rw [if_pos c2, decide_eq_false (show ¬ b ≤ 126 by omega)]; simp
    rw [if_neg c2, decide_eq_true (show b ≤ 126 by omega), w64_in (n := (i : Int) + 1) (by omega) (by omega)]
    have := plain_l0 a ha d k (i + 1) (by omega) (by omega)
    rw [e3] at this
    simpa [plainB] using this
theorem title_l0 (a : ByteArray) (ha : a.size ≤ 2000000) : ∀ (d k : Nat) (i : Nat), i + d = a.size → d < k → spec_l12Title.l0 k a (i : Int) = some (plainB ((bytesOf a).drop i) && decide ((a.size : Int) ≤ 15))
  | 0, k, i, hi, hk => by
    obtain ⟨k, rfl⟩ : ∃ q, k = q + 1 := ⟨k - 1, by omega⟩
    rw [spec_l12Title.l0, if_neg (by omega), List.drop_of_length_le (by rw [bytesOf_length]; omega)]
    simp [plainB]
  | d + 1, k, i, hi, hk => by
    obtain ⟨k, rfl⟩ : ∃ q, k = q + 1 := ⟨k - 1, by omega⟩
    obtain ⟨b, l, e1, e2, e3, b0, b1⟩ := bt_get a i (by omega)
    rw [spec_l12Title.l0, if_pos (by omega), if_pos (by omega), e2, e1]
    unfold plainB
    rw [List.all_cons]
    by_cases c1 : b < 32
    · rw [if_pos c1, decide_eq_false (show ¬ 32 ≤ b by omega)]; simp
    rw [if_neg c1, decide_eq_true (show 32 ≤ b by omega)]
    by_cases c2 : b > 126
    · rw [if_pos c2, decide_eq_false (show ¬ b ≤ 126 by omega)]; simp
    rw [if_neg c2, decide_eq_true (show b ≤ 126 by omega), w64_in (n := (i : Int) + 1) (by omega) (by omega)]
    have := title_l0 a ha d k (i + 1) (by omega) (by omega)
    rw [e3] at this
    simpa [plainB] using this
theorem plain_T (a : ByteArray) (ha : a.size ≤ 2000000) : Tot (fun k => impl_isPlain.f k a) (fun r => r = plainB (bytesOf a)) := by
  refine ⟨a.size + 1, _, rfl, fun k hk => ?_⟩
  have := plain_l0 a ha a.size k 0 (by omega) (by omega)
  rw [List.drop_zero] at this
  exact this
theorem title_T (a : ByteArray) (ha : a.size ≤ 2000000) : Tot (fun k => spec_l12Title.f k a) (fun r => r = (plainB (bytesOf a) && decide ((a.size : Int) ≤ 15))) := by
  refine ⟨a.size + 1, _, rfl, fun k hk => ?_⟩
  have := title_l0 a ha a.size k 0 (by omega) (by omega)
  rw [List.drop_zero] at this
  exact this
def up (n : Int) : Int := if n ≤ 2 then 2 else if n ≤ 4 then 4 else if n ≤ 8 then 8 else 16
def szOf (n : Int) : Int := if n ≤ 2 then 0 else if n ≤ 4 then 1 else if n ≤ 8 then 2 else 3
theorem cases16 {n : Int} (h0 : 1 ≤ n) (h1 : n ≤ 16) : n = 1 ∨ n = 2 ∨ n = 3 ∨ n = 4 ∨ n = 5 ∨ n = 6 ∨ n = 7 ∨ n = 8 ∨ n = 9 ∨ n = 10 ∨ n = 11 ∨ n = 12 ∨ n = 13 ∨ n = 14 ∨ n = 15 ∨ n = 16 := by omega
theorem doubled_T {n : Int} (h0 : 1 ≤ n) (h1 : n ≤ 16) : Tot (fun k => impl_doubled.f k n) (fun r => r = if n = up n then (szOf n, true) else (0, false)) := by
  refine Tot.lift (fun k => impl_doubled.mono _ k) (k := 6) (r := if n = up n then (szOf n, true) else (0, false)) ?_ rfl
  rcases cases16 h0 h1 with h | h | h | h | h | h | h | h | h | h | h | h | h | h | h | h <;> subst h <;> decide +kernel
theorem code_T {n : Int} (h : n = 2 ∨ n = 4 ∨ n = 8 ∨ n = 16) : Tot (fun k => spec_l12Code.f k n) (fun r => r = szOf n) := by
  refine Tot.lift (fun k => spec_l12Code.mono _ k) (k := 6) (r := szOf n) ?_ rfl
  rcases h with h | h | h | h <;> subst h <;> decide +kernel
theorem up_le {n : Int} (h0 : 1 ≤ n) (h1 : n ≤ 16) : n ≤ up n ∧ (up n = 2 ∨ up n = 4 ∨ up n = 8 ∨ up n = 16) ∧ up (up n) = up n ∧ szOf (up n) = szOf n := by
  rcases cases16 h0 h1 with h | h | h | h | h | h | h | h | h | h | h | h | h | h | h | h <;> subst h <;> decide
theorem up_next {n : Int} (h0 : 1 ≤ n) (h1 : n ≤ 16) (h : ¬ n = up n) : n + 1 ≤ 16 ∧ up (n + 1) = up n := by
  rcases cases16 h0 h1 with e | e | e | e | e | e | e | e | e | e | e | e | e | e | e | e <;> subst e <;> revert h <;> decide
theorem impl_banks_T (a b : ByteArray) (c : Int) (P : ByteArray × Bool → Prop) : ∀ (d : Nat) (n : Int), 1 ≤ n → n ≤ 16 → up n - n = d → Tot (fun k => impl_Fixed.l0 k a b c (up n) (szOf (up n)) true) P →
    Tot (fun k => (impl_doubled.f k n).bind fun t => impl_Fixed.l0 k a b c n t.1 t.2) P := by
  intro d
  induction d with
  | zero =>
    intro n h0 h1 hd ht
    refine Tot.bind (doubled_T h0 h1) ?_
    rintro r rfl
    have e : n = up n := by omega
    rw [if_pos e]
    rw [← e] at ht
    exact ht
  | succ d ih =>
    intro n h0 h1 hd ht
    refine Tot.bind (doubled_T h0 h1) ?_
    rintro r rfl
    have e : ¬ n = up n := by omega
    obtain ⟨e1, e2⟩ := up_next h0 h1 e
    rw [if_neg e]
    refine Tot.step (f := fun k => (impl_doubled.f k (n + 1)).bind fun t => impl_Fixed.l0 k a b c (n + 1) t.1 t.2) (fun k => ?_) (ih (n + 1) (by omega) e1 (by omega) (by rw [e2]; exact ht))
    rw [impl_Fixed.l0, if_neg (by decide), w64_in (n := n + 1) (by omega) (by omega)]
theorem spec_banks_T (a b : ByteArray) (c : Int) (n : Int) (h0 : 1 ≤ n) (h1 : n ≤ 16) (P : ByteArray × Bool → Prop) (ht : Tot (fun k => spec_Fixed.l0 k a b c n (up n)) P) : Tot (fun k => spec_Fixed.l0 k a b c n 2) P := by
  have step : ∀ m : Int, m < n → m ≤ 8 → 2 ≤ m → Tot (fun k => spec_Fixed.l0 k a b c n (2 * m)) P → Tot (fun k => spec_Fixed.l0 k a b c n m) P := by
    intro m hm h8 h2 h
    refine Tot.step (f := fun k => spec_Fixed.l0 k a b c n (2 * m)) (fun k => ?_) h
    rw [spec_Fixed.l0, if_pos hm, w64_in (n := 2 * m) (by omega) (by omega)]
  unfold up at ht
  by_cases c2 : n ≤ 2
  · rw [if_pos c2] at ht; exact ht
  rw [if_neg c2] at ht
  refine step 2 (by omega) (by omega) (by omega) ?_
  by_cases c4 : n ≤ 4
  · rw [if_pos c4] at ht; exact ht
  rw [if_neg c4] at ht
  refine step (2 * 2) (by omega) (by omega) (by omega) ?_
  by_cases c8 : n ≤ 8
  · rw [if_pos c8] at ht; exact ht
  rw [if_neg c8] at ht
  exact step (2 * (2 * 2)) (by omega) (by omega) (by omega) ht
def y1 (xs ts : List Int) (n : Int) : List Int := lay (xs ++ List.replicate ((up n * 256).toNat - xs.length) 0) 52 (ts ++ List.replicate (15 - ts.length) 0)
def y2 (xs ts : List Int) (n c : Int) : List Int := ((y1 xs ts n).set 71 (c % 256)).set 72 (szOf (up n) % 256)
def y3 (xs ts : List Int) (n c r : Int) : List Int := (y2 xs ts n c).set 77 (r % 256)
def y4 (xs ts : List Int) (n c r s : Int) : List Int := ((y3 xs ts n c r).set 78 (s / 256 % 256)).set 79 (s % 256)
theorem tt_length {ts : List Int} (ht : ts.length ≤ 15) : (ts ++ List.replicate (15 - ts.length) (0 : Int)).length = 15 := by rw [List.length_append, List.length_replicate]; omega
theorem y1_length {xs ts : List Int} {n : Int} (h : (xs.length : Int) ≤ up n * 256) (ht : ts.length ≤ 15) (hn : 2 ≤ up n) : (y1 xs ts n).length = (up n * 256).toNat := by
  have hl : (xs ++ List.replicate ((up n * 256).toNat - xs.length) (0 : Int)).length = (up n * 256).toNat := by rw [List.length_append, List.length_replicate]; omega
  unfold y1
  rw [lay_length (by rw [hl, tt_length ht]; omega), hl]
theorem y1_bytes {xs ts : List Int} {n : Int} (hx : ∀ x ∈ xs, 0 ≤ x ∧ x < 256) (ht : ∀ x ∈ ts, 0 ≤ x ∧ x < 256) : ∀ x ∈ y1 xs ts n, 0 ≤ x ∧ x < 256 := by
  have hr : ∀ (m : Nat), ∀ x ∈ List.replicate m (0 : Int), 0 ≤ x ∧ x < 256 := by
    intro m x hx
    rw [List.eq_of_mem_replicate hx]
    omega
  unfold y1
  refine lay_bytes ?_ ?_ <;> intro x hx' <;> rw [List.mem_append] at hx' <;> rcases hx' with hx' | hx'
  · exact hx x hx'
  · exact hr _ x hx'
  · exact ht x hx'
  · exact hr _ x hx'
theorem mod_byte (v : Int) : 0 ≤ v % 256 ∧ v % 256 < 256 := by omega

theorem y2_props {xs ts : List Int} {n c : Int} (hx : ∀ x ∈ xs, 0 ≤ x ∧ x < 256) (ht : ∀ x ∈ ts, 0 ≤ x ∧ x < 256) (h : (xs.length : Int) ≤ up n * 256) (hl : ts.length ≤ 15) (hn : 2 ≤ up n) :
    (y2 xs ts n c).length = (up n * 256).toNat ∧ ∀ x ∈ y2 xs ts n c, 0 ≤ x ∧ x < 256 := by
  unfold y2
  refine ⟨by rw [List.length_set, List.length_set, y1_length h hl hn], ?_⟩
  exact set_bytes (set_bytes (y1_bytes hx ht) (mod_byte _).1 (mod_byte _).2) (mod_byte _).1 (mod_byte _).2
theorem y3_props {xs ts : List Int} {n c r : Int} (hx : ∀ x ∈ xs, 0 ≤ x ∧ x < 256) (ht : ∀ x ∈ ts, 0 ≤ x ∧ x < 256) (h : (xs.length : Int) ≤ up n * 256) (hl : ts.length ≤ 15) (hn : 2 ≤ up n) :
    (y3 xs ts n c r).length = (up n * 256).toNat ∧ ∀ x ∈ y3 xs ts n c r, 0 ≤ x ∧ x < 256 := by
  obtain ⟨h1, h2⟩ := y2_props (c := c) hx ht h hl hn
  unfold y3
  exact ⟨by rw [List.length_set, h1], set_bytes h2 (mod_byte _).1 (mod_byte _).2⟩
theorem spec_title_T (b : ByteArray) (c m : Int) (hb : b.size ≤ 15) (L : List Int) (hL : 100 ≤ L.length) (hL2 : L.length ≤ 1000000) (P : ByteArray × Bool → Prop) (ht : Tot (fun k => spec_Fixed.l1 k b c m (lay L 52 (bytesOf b ++ List.replicate (15 - b.size) 0)) 15) P) :
    ∀ (d i : Nat), i + d = 15 → Tot (fun k => spec_Fixed.l1 k b c m (lay L 52 ((bytesOf b ++ List.replicate (15 - b.size) 0).take i)) (i : Int)) P := by
  have hz : (bytesOf b ++ List.replicate (15 - b.size) (0 : Int)).length = 15 := by rw [List.length_append, List.length_replicate, bytesOf_length]; omega
  intro d
  induction d with
  | zero =>
    intro i hi
    obtain rfl : i = 15 := by omega
    rw [List.take_of_length_le (by omega)]
    exact ht
  | succ d ih =>
    intro i hi
    have hlt : (((bytesOf b ++ List.replicate (15 - b.size) (0 : Int)).take i)).length = i := by rw [List.length_take, hz]; omega
    have hll : (lay L 52 ((bytesOf b ++ List.replicate (15 - b.size) (0 : Int)).take i)).length = L.length := lay_length (by rw [hlt]; omega)
    have hi2 : i < (bytesOf b ++ List.replicate (15 - b.size) (0 : Int)).length := by omega
    have next : ∀ v, v = (bytesOf b ++ List.replicate (15 - b.size) (0 : Int))[i] → (lay L 52 ((bytesOf b ++ List.replicate (15 - b.size) (0 : Int)).take i)).set (52 + i) v = lay L 52 ((bytesOf b ++ List.replicate (15 - b.size) (0 : Int)).take (i + 1)) := by
      intro v hv
      have := set_lay (xs := L) (ys := (bytesOf b ++ List.replicate (15 - b.size) (0 : Int)).take i) (lo := 52) (by rw [hlt]; omega) v
      rw [hlt] at this
      rw [this, List.take_succ_eq_append_getElem hi2, hv]
    have e52 : wrap64 (52 + (i : Int)) = 52 + i := w64_in (by omega) (by omega)
    have en : (52 + (i : Int)).toNat = 52 + i := by omega
    refine Tot.step (f := fun k => spec_Fixed.l1 k b c m (lay L 52 ((bytesOf b ++ List.replicate (15 - b.size) 0).take (i + 1))) ((i + 1 : Nat) : Int)) (fun k => ?_) (ih (i + 1) (by omega))
    rw [spec_Fixed.l1, if_pos (by omega), e52, if_pos (by omega), if_pos (by rw [hll]; omega), Option.bind_some, en, w64_in (n := (i : Int) + 1) (by omega) (by omega)]
    by_cases hc : (i : Int) < (b.size : Int)
    · rw [if_pos hc, if_pos (by omega), List.set_set]
      obtain ⟨v, l, e1, e2, e3, b0, b1⟩ := bt_get b i (by omega)
      have hv : v = (bytesOf b ++ List.replicate (15 - b.size) (0 : Int))[i] := by
        rw [List.getElem_append_left (by rw [bytesOf_length]; omega)]
        rw [List.drop_eq_getElem_cons (by rw [bytesOf_length]; omega)] at e1
        injection e1 with e1 _
        exact e1.symm
      rw [e2, next v hv]
      rfl
    · rw [if_neg hc]
      have hv : (0 : Int) = (bytesOf b ++ List.replicate (15 - b.size) (0 : Int))[i] := by
        rw [List.getElem_append_right (by rw [bytesOf_length]; omega), List.getElem_replicate]
      rw [next 0 hv]
      rfl
theorem spec_tail_T (a b : ByteArray) (c n : Int) (ha : (a.size : Int) ≤ up n * 256) (hb : b.size ≤ 15) (hn : n ≤ up n) (h2 : up n = 2 ∨ up n = 4 ∨ up n = 8 ∨ up n = 16) (hu : up (up n) = up n) {r s : Int}
    (hr : Tot (fun k => spec_HeaderSum.f k (strOfNums (y2 (bytesOf a) (bytesOf b) n c))) (fun x => x = r)) (hs : Tot (fun k => spec_WholeSum.f k (strOfNums (y3 (bytesOf a) (bytesOf b) n c r))) (fun x => x = s)) :
    Tot (fun k => spec_Fixed.l0 k a b c n (up n)) (fun x => x = (strOfNums (y4 (bytesOf a) (bytesOf b) n c r s), true)) := by
  have hM : wrap64 (up n * 256) = up n * 256 := w64_in (by omega) (by omega)
  have hla := bytesOf_length a
  have hL : cpy (List.replicate (up n * 256).toNat 0) 0 (List.replicate (up n * 256).toNat (0 : Int)).length (bytesOf a) = bytesOf a ++ List.replicate ((up n * 256).toNat - (bytesOf a).length) 0 := by
    unfold cpy
    rw [List.take_zero, List.nil_append, List.length_replicate, List.take_of_length_le (by omega), List.drop_replicate]
    congr 2
    omega
  have hll : (bytesOf a ++ List.replicate ((up n * 256).toNat - (bytesOf a).length) (0 : Int)).length = (up n * 256).toNat := by rw [List.length_append, List.length_replicate]; omega
  refine Tot.step (f := fun k => spec_Fixed.l1 k b c (up n) (bytesOf a ++ List.replicate ((up n * 256).toNat - (bytesOf a).length) 0) 0) (fun k => ?_) ?_
  · rw [spec_Fixed.l0, if_neg (by omega), hM, if_pos (by omega), if_pos (by omega), Option.bind_some, hL]
  have hfin : Tot (fun k => spec_Fixed.l1 k b c (up n) (lay (bytesOf a ++ List.replicate ((up n * 256).toNat - (bytesOf a).length) 0) 52 (bytesOf b ++ List.replicate (15 - b.size) 0)) 15) (fun x => x = (strOfNums (y4 (bytesOf a) (bytesOf b) n c r s), true)) := by
    have hy : lay (bytesOf a ++ List.replicate ((up n * 256).toNat - (bytesOf a).length) 0) 52 (bytesOf b ++ List.replicate (15 - b.size) 0) = y1 (bytesOf a) (bytesOf b) n := by
      unfold y1
      rw [bytesOf_length b]
    rw [hy]
    have hyl := y1_length (xs := bytesOf a) (ts := bytesOf b) (n := n) (by rw [hla]; exact ha) (by rw [bytesOf_length]; exact hb) (by omega)
    have c1 : 71 < ((y1 (bytesOf a) (bytesOf b) n).length : Int) := by rw [hyl]; omega
    have c2 : 72 < ((y1 (bytesOf a) (bytesOf b) n).length : Int) := by rw [hyl]; omega
    have c3 : 77 < ((y1 (bytesOf a) (bytesOf b) n).length : Int) := by rw [hyl]; omega
    have c4 : 78 < ((y1 (bytesOf a) (bytesOf b) n).length : Int) := by rw [hyl]; omega
    have c5 : 79 < ((y1 (bytesOf a) (bytesOf b) n).length : Int) := by rw [hyl]; omega
    refine Tot.step (f := fun k => (spec_l12Code.f k (up n)).bind fun t => (spec_HeaderSum.f k (strOfNums (((y1 (bytesOf a) (bytesOf b) n).set 71 (c % 256)).set 72 (t % 256)))).bind fun t2 => (spec_WholeSum.f k (strOfNums ((((y1 (bytesOf a) (bytesOf b) n).set 71 (c % 256)).set 72 (t % 256)).set 77 (t2 % 256)))).bind fun t3 => some (strOfNums ((((((y1 (bytesOf a) (bytesOf b) n).set 71 (c % 256)).set 72 (t % 256)).set 77 (t2 % 256)).set 78 (t3 / 256 % 256)).set 79 (t3 % 256)), true)) (fun k => ?_) ?_
    · rw [spec_Fixed.l1, if_neg (by decide), if_pos c1]
      simp only [if_pos c2, if_pos c3, if_pos c4, if_pos c5, Option.bind_some]
      rfl
    refine Tot.bind (code_T h2) ?_
    rintro _ rfl
    refine Tot.bind hr ?_
    rintro _ rfl
    refine Tot.bind hs ?_
    rintro _ rfl
    exact Tot.ret rfl
  have := spec_title_T b c (up n) hb _ (by rw [hll]; omega) (by rw [hll]; omega) _ hfin 15 0 (by omega)
  rw [List.take_zero, lay_nil] at this
  exact this

theorem one_byte_T (n : Int) : Tot (fun k => impl_bytesOf.f k n 1) (fun s => bytesOf s = [n % 256]) := by
  obtain ⟨s, e, h⟩ := one_byte n 2 (Nat.le_refl _)
  exact Tot.lift (fun k => impl_bytesOf.mono _ _ k) e h
theorem size_of_bytes {s : ByteArray} {l : List Int} (h : bytesOf s = l) : s.size = l.length := by rw [← h, bytesOf_length]
theorem str_of_bytes {s : ByteArray} {l : List Int} (h : bytesOf s = l) : s = strOfNums l := by rw [← h, strOfNums_bytesOf]
theorem lay_one_byte {s t r : ByteArray} {L : List Int} {i : Nat} {v : Int} (hr : bytesOf r = lay (bytesOf s) i (bytesOf t)) (hs : bytesOf s = L) (ht : bytesOf t = [v]) (hi : i < L.length) : bytesOf r = L.set i v := by
  rw [hr, hs, ht, lay_one hi]
theorem impl_tail_T (a b : ByteArray) (c n : Int) (ha : (a.size : Int) ≤ up n * 256) (hb : b.size ≤ 15) (h2 : up n = 2 ∨ up n = 4 ∨ up n = 8 ∨ up n = 16) {r s : Int}
    (hr : Tot (fun k => impl_HeaderSum.f k (strOfNums (y2 (bytesOf a) (bytesOf b) n c))) (fun x => x = r)) (hs : Tot (fun k => impl_WholeSum.f k (strOfNums (y3 (bytesOf a) (bytesOf b) n c r))) (fun x => x = s)) :
    Tot (fun k => impl_Fixed.l0 k a b c (up n) (szOf (up n)) true) (fun x => x = (strOfNums (y4 (bytesOf a) (bytesOf b) n c r s), true)) := by
  have hla := bytesOf_length a
  have hlb := bytesOf_length b
  obtain ⟨z1, e1, b1⟩ := noughts_eq (n := up n * 256 - a.size) (by omega) (by omega)
  obtain ⟨z2, e2, b2⟩ := noughts_eq (n := 15 - b.size) (by omega) (by omega)
  have s1 := size_of_bytes b1
  have s2 := size_of_bytes b2
  rw [List.length_replicate] at s1 s2
  have w1 : wrap64 (wrap64 (up n * 256) - (a.size : Int)) = up n * 256 - a.size := by rw [w64_in (n := up n * 256) (by omega) (by omega)]; exact w64_in (by omega) (by omega)
  have w2 : wrap64 (15 - (b.size : Int)) = 15 - b.size := w64_in (by omega) (by omega)
  have hs1 : (a ++ z1).size = (up n * 256).toNat := by rw [ByteArray.size_append]; omega
  have hs2 : (b ++ z2).size = 15 := by rw [ByteArray.size_append]; omega
  obtain ⟨t1, f1, g1⟩ := laid_eq (a ++ z1) (b ++ z2) 52 (by omega) (by omega) (by omega)
  have hy1 : bytesOf t1 = y1 (bytesOf a) (bytesOf b) n := by
    rw [g1, bytesOf_append, bytesOf_append, b1, b2]
    unfold y1
    rw [hla, hlb, show (52 : Int).toNat = 52 from rfl, show (up n * 256 - (a.size : Int)).toNat = (up n * 256).toNat - a.size by omega, show ((15 : Int) - (b.size : Int)).toNat = 15 - b.size by omega]
  have hyl := y1_length (xs := bytesOf a) (ts := bytesOf b) (n := n) (by rw [hla]; exact ha) (by rw [hlb]; exact hb) (by omega)
  have st1 := size_of_bytes hy1
  rw [hyl] at st1
  refine Tot.step (fun k => impl_Fixed.l0.eq_2 _ _ _ _ _ _ k) ?_
  rw [w1, w2]
  refine Tot.yes rfl (Tot.bind (Tot.of e1 rfl) ?_)
  rintro _ rfl
  refine Tot.yes (by omega) (Tot.bind (Tot.of e2 rfl) ?_)
  rintro _ rfl
  refine Tot.yes (by omega) (Tot.bind (Tot.of f1 rfl) ?_)
  rintro _ rfl
  refine Tot.bind (one_byte_T c) ?_
  intro t2 h2'
  have st2 := size_of_bytes h2'
  obtain ⟨t3, f3, g3⟩ := laid_eq t1 t2 71 (by omega) (by rw [st2]; simp only [List.length_singleton]; omega) (by omega)
  have k3 := lay_one_byte g3 hy1 h2' (by rw [hyl]; show 71 < _; omega)
  have st3 := size_of_bytes k3
  rw [List.length_set, hyl] at st3
  refine Tot.bind (Tot.of f3 rfl) ?_
  rintro _ rfl
  refine Tot.bind (one_byte_T _) ?_
  intro t4 h4
  have st4 := size_of_bytes h4
  obtain ⟨t5, f5, g5⟩ := laid_eq t3 t4 72 (by omega) (by rw [st4]; simp only [List.length_singleton]; omega) (by omega)
  have k5 := lay_one_byte g5 k3 h4 (by rw [List.length_set, hyl]; show 72 < _; omega)
  have k5' : bytesOf t5 = y2 (bytesOf a) (bytesOf b) n c := k5
  have st5 := size_of_bytes k5
  rw [List.length_set, List.length_set, hyl] at st5
  refine Tot.bind (Tot.of f5 rfl) ?_
  rintro _ rfl
  rw [← str_of_bytes k5'] at hr
  refine Tot.bind hr ?_
  intro q_ hq_
  rw [show q_ = r from hq_]
  refine Tot.bind (one_byte_T _) ?_
  intro t6 h6
  have st6 := size_of_bytes h6
  obtain ⟨t7, f7, g7⟩ := laid_eq t5 t6 77 (by omega) (by rw [st6]; simp only [List.length_singleton]; omega) (by omega)
  have k7 := lay_one_byte g7 k5 h6 (by rw [List.length_set, List.length_set, hyl]; show 77 < _; omega)
  have k7' : bytesOf t7 = y3 (bytesOf a) (bytesOf b) n c r := k7
  have st7 := size_of_bytes k7
  rw [List.length_set, List.length_set, List.length_set, hyl] at st7
  refine Tot.bind (Tot.of f7 rfl) ?_
  rintro _ rfl
  rw [← str_of_bytes k7'] at hs
  refine Tot.bind hs ?_
  intro q2_ hq2_
  rw [show q2_ = s from hq2_]
  refine Tot.bind (one_byte_T _) ?_
  intro t8 h8
  have st8 := size_of_bytes h8
  refine Tot.bind (one_byte_T _) ?_
  intro t9 h9
  have st9 := size_of_bytes h9
  simp only [List.length_singleton] at st8 st9
  have hs9 : (t8 ++ t9).size = 2 := by rw [ByteArray.size_append]; omega
  obtain ⟨ta, fa, ga⟩ := laid_eq t7 (t8 ++ t9) 78 (by omega) (by omega) (by omega)
  refine Tot.yes (by omega) (Tot.bind (Tot.of fa rfl) ?_)
  rintro _ rfl
  refine Tot.ret ?_
  have ka : bytesOf ta = y4 (bytesOf a) (bytesOf b) n c r s := by
    rw [ga, k7', bytesOf_append, h8, h9]
    have hl3 : (y3 (bytesOf a) (bytesOf b) n c r).length = (up n * 256).toNat := by rw [← size_of_bytes k7']; exact st7
    exact lay_two (by rw [hl3]; show 79 < _; omega) _ _
  rw [str_of_bytes ka]
theorem within_eq (a lo hi : Int) : impl_within.f a lo hi = some (decide (lo ≤ a ∧ a ≤ hi)) := by
  unfold impl_within.f
  by_cases h : a ≥ lo
  · rw [if_pos h]; simp [show lo ≤ a from h]
  · rw [if_neg h]; simp [show ¬ lo ≤ a from h]
theorem l1In_eq (a lo hi : Int) : spec_l1In.f a lo hi = some (decide (lo ≤ a ∧ a ≤ hi)) := within_eq a lo hi
def fixOk (a b : ByteArray) (c : Int) : Bool := decide ((a.size : Int) % 256 = 0 ∧ 1 ≤ (a.size : Int) / 256 ∧ (a.size : Int) / 256 ≤ 16) && (plainB (bytesOf b) && decide ((b.size : Int) ≤ 15)) && decide (0 ≤ c ∧ c ≤ 2)
theorem impl_no_T (a b : ByteArray) (c n : Int) : Tot (fun k => impl_Fixed.j0 k a b c n true) (fun x => x = ((⟨#[]⟩ : ByteArray), false)) := Tot.step (fun k => impl_Fixed.j0.eq_2 _ _ _ _ _ k) (Tot.yes rfl (Tot.ret rfl))
theorem spec_no_T (a b : ByteArray) (c n : Int) : Tot (fun k => spec_Fixed.j0 k a b c n true) (fun x => x = ((⟨#[]⟩ : ByteArray), false)) := Tot.step (fun k => spec_Fixed.j0.eq_2 _ _ _ _ _ k) (Tot.yes rfl (Tot.ret rfl))
def FixV (a b : ByteArray) (c : Int) (x : ByteArray × Bool) : Prop :=
  (fixOk a b c = false ∧ x = ((⟨#[]⟩ : ByteArray), false)) ∨ (fixOk a b c = true ∧ ∃ r s : Int, Tot (fun k => impl_HeaderSum.f k (strOfNums (y2 (bytesOf a) (bytesOf b) ((a.size : Int) / 256) c))) (fun x => x = r) ∧
    Tot (fun k => impl_WholeSum.f k (strOfNums (y3 (bytesOf a) (bytesOf b) ((a.size : Int) / 256) c r))) (fun x => x = s) ∧ x = (strOfNums (y4 (bytesOf a) (bytesOf b) ((a.size : Int) / 256) c r s), true))
theorem fixed_V (a b : ByteArray) (c : Int) (ha : a.size ≤ 1048576) (hb : b.size ≤ 1048576) : ∃ x, Tot (fun k => spec_Fixed.f k a b c) (fun y => y = x) ∧ Tot (fun k => impl_Fixed.f k a b c) (fun y => y = x) ∧ FixV a b c x := by
  have hw : wrap64 ((a.size : Int) / 256) = (a.size : Int) / 256 := w64_in (by omega) (by omega)
  have hspec : ∀ P : ByteArray × Bool → Prop, P ((⟨#[]⟩ : ByteArray), false) → (fixOk a b c = true → Tot (fun k => spec_Fixed.j0 k a b c ((a.size : Int) / 256) false) P) → Tot (fun k => spec_Fixed.f k a b c) P := by
    intro P hn hy
    have no := (spec_no_T a b c ((a.size : Int) / 256)).mono (Q := P) (fun x hx => hx ▸ hn)
    unfold spec_Fixed.f
    rw [hw]
    refine Tot.ite (fun h0 => ?_) (fun _ => no)
    refine Tot.bind (Tot.of (l1In_eq _ _ _) rfl) ?_
    rintro _ rfl
    refine Tot.ite (fun h1 => ?_) (fun _ => no)
    refine Tot.bind (title_T b (by omega)) ?_
    rintro _ rfl
    refine Tot.ite (fun h2 => ?_) (fun _ => no)
    refine Tot.bind (Tot.of (l1In_eq _ _ _) rfl) ?_
    rintro _ rfl
    by_cases h3 : 0 ≤ c ∧ c ≤ 2
    · rw [decide_eq_true h3]
      refine hy ?_
      unfold fixOk
      rw [h2, decide_eq_true h3, decide_eq_true (And.intro h0 (of_decide_eq_true h1))]
      rfl
    · rw [decide_eq_false h3]
      exact no
  have himpl : ∀ P : ByteArray × Bool → Prop, P ((⟨#[]⟩ : ByteArray), false) → (fixOk a b c = true → Tot (fun k => impl_Fixed.j0 k a b c ((a.size : Int) / 256) false) P) → Tot (fun k => impl_Fixed.f k a b c) P := by
    intro P hn hy
    have no := fun n => (impl_no_T a b c n).mono (Q := P) (fun x hx => hx ▸ hn)
    unfold impl_Fixed.f impl_banksOf.f
    rw [hw, within_eq]
    by_cases h0 : (a.size : Int) % 256 = 0
    rotate_left
    · rw [if_neg h0]
      refine Tot.bind (Tot.of rfl rfl) ?_
      rintro _ rfl
      exact Tot.yes rfl (no 0)
    rw [if_pos h0]
    by_cases h1 : 1 ≤ (a.size : Int) / 256 ∧ (a.size : Int) / 256 ≤ 16
    rotate_left
    · rw [decide_eq_false h1]
      refine Tot.bind (Tot.of rfl rfl) ?_
      rintro _ rfl
      exact Tot.yes rfl (no 0)
    rw [decide_eq_true h1]
    refine Tot.bind (Tot.of rfl rfl) ?_
    rintro _ rfl
    refine Tot.no (by omega) (Tot.ite (fun _ => no _) (fun h15 => ?_))
    refine Tot.bind (plain_T b (by omega)) ?_
    rintro _ rfl
    refine Tot.ite (fun h2 => ?_) (fun _ => no _)
    refine Tot.bind (Tot.of (within_eq _ _ _) rfl) ?_
    rintro _ rfl
    by_cases h3 : 0 ≤ c ∧ c ≤ 2
    · rw [decide_eq_true h3]
      refine hy ?_
      unfold fixOk
      rw [h2, decide_eq_true h3, decide_eq_true (And.intro h0 h1), decide_eq_true (show (b.size : Int) ≤ 15 by omega)]
      rfl
    · rw [decide_eq_false h3]
      exact no _
  by_cases ho : fixOk a b c = true
  · have ho' := ho
    unfold fixOk at ho'
    simp only [Bool.and_eq_true, decide_eq_true_eq] at ho'
    obtain ⟨⟨⟨h0, h1, h2⟩, _, h3⟩, _⟩ := ho'
    obtain ⟨u1, u2, u3, u4⟩ := up_le h1 h2
    have hla := bytesOf_length a
    have hlb := bytesOf_length b
    have haL : ((bytesOf a).length : Int) ≤ up ((a.size : Int) / 256) * 256 := by rw [hla]; omega
    have p2 := y2_props (xs := bytesOf a) (ts := bytesOf b) (n := (a.size : Int) / 256) (c := c) (bytesOf_bytes a) (bytesOf_bytes b) haL (by omega) (by omega)
    obtain ⟨r, hr⟩ := header_T (strOfNums (y2 (bytesOf a) (bytesOf b) ((a.size : Int) / 256) c)) (by rw [strOfNums_size, p2.1]; omega)
    have p3 := y3_props (xs := bytesOf a) (ts := bytesOf b) (n := (a.size : Int) / 256) (c := c) (r := r) (bytesOf_bytes a) (bytesOf_bytes b) haL (by omega) (by omega)
    obtain ⟨s, hs⟩ := whole_T (strOfNums (y3 (bytesOf a) (bytesOf b) ((a.size : Int) / 256) c r)) (by rw [strOfNums_size, p3.1]; omega)
    have hr' : Tot (fun k => impl_HeaderSum.f k (strOfNums (y2 (bytesOf a) (bytesOf b) ((a.size : Int) / 256) c))) (fun x => x = r) := Tot.congr (fun k => (header_eq _ (by rw [strOfNums_size, p2.1]; omega) k).symm) hr
    have hs' : Tot (fun k => impl_WholeSum.f k (strOfNums (y3 (bytesOf a) (bytesOf b) ((a.size : Int) / 256) c r))) (fun x => x = s) := Tot.congr (fun k => (whole_eq _ (by rw [strOfNums_size, p3.1]; omega) k).symm) hs
    have no : ∀ z : ByteArray × Bool, fixOk a b c = false → z = ((⟨#[]⟩ : ByteArray), false) := fun z h => by rw [ho] at h; cases h
    refine ⟨(strOfNums (y4 (bytesOf a) (bytesOf b) ((a.size : Int) / 256) c r s), true), ?_, ?_, .inr ⟨ho, r, s, hr', hs', rfl⟩⟩
    · have st : Tot (fun k => spec_Fixed.j0 k a b c ((a.size : Int) / 256) false) (fun y => y = (strOfNums (y4 (bytesOf a) (bytesOf b) ((a.size : Int) / 256) c r s), true)) :=
        Tot.step (fun k => spec_Fixed.j0.eq_2 _ _ _ _ _ k) (Tot.no (by decide) (spec_banks_T a b c _ h1 h2 _ (spec_tail_T a b c _ (by omega) (by omega) u1 u2 u3 hr hs)))
      unfold spec_Fixed.f
      rw [hw]
      unfold fixOk at ho
      simp only [Bool.and_eq_true, decide_eq_true_eq] at ho
      obtain ⟨⟨_, ho2, ho3⟩, ho4⟩ := ho
      refine Tot.yes h0 (Tot.bind (Tot.of (l1In_eq _ _ _) rfl) ?_)
      rintro _ rfl
      refine Tot.yes (decide_eq_true ⟨h1, h2⟩) (Tot.bind (title_T b (by omega)) ?_)
      rintro _ rfl
      refine Tot.yes (by rw [ho2, decide_eq_true ho3]; rfl) (Tot.bind (Tot.of (l1In_eq _ _ _) rfl) ?_)
      rintro _ rfl
      rw [decide_eq_true ho4]
      exact st
    · have st : Tot (fun k => impl_Fixed.j0 k a b c ((a.size : Int) / 256) false) (fun y => y = (strOfNums (y4 (bytesOf a) (bytesOf b) ((a.size : Int) / 256) c r s), true)) := by
        refine Tot.step (fun k => impl_Fixed.j0.eq_2 _ _ _ _ _ k) (Tot.no (by decide) ?_)
        exact impl_banks_T a b c _ (up ((a.size : Int) / 256) - (a.size : Int) / 256).toNat _ h1 h2 (by omega) (impl_tail_T a b c _ (by omega) (by omega) u2 hr' hs')
      unfold impl_Fixed.f impl_banksOf.f
      unfold fixOk at ho
      simp only [Bool.and_eq_true, decide_eq_true_eq] at ho
      obtain ⟨⟨_, ho2, ho3⟩, ho4⟩ := ho
      rw [hw, within_eq, if_pos h0, decide_eq_true (And.intro h1 h2)]
      refine Tot.bind (Tot.of rfl rfl) ?_
      rintro _ rfl
      refine Tot.no (by omega) (Tot.no (by omega) (Tot.bind (plain_T b (by omega)) ?_))
      rintro _ rfl
      refine Tot.yes ho2 (Tot.bind (Tot.of (within_eq _ _ _) rfl) ?_)
      rintro _ rfl
      rw [decide_eq_true ho4]
      exact st
  · exact ⟨((⟨#[]⟩ : ByteArray), false), hspec _ rfl (fun h => absurd h ho), himpl _ rfl (fun h => absurd h ho), .inl ⟨by simpa using ho, rfl⟩⟩
theorem bt_range (a : ByteArray) (i : Int) : 0 ≤ bt a i ∧ bt a i < 256 := by
  unfold bt
  split
  · rename_i h
    have := (a[i.toNat]'h).toNat_lt
    omega
  · omega

theorem or_byte {x b : Int} (hx : 0 ≤ x) (hx1 : x < 16777216) (hb : 0 ≤ b) (hb1 : b < 256) : Go.bits .or .i64 (x * 256) b = 256 * x + b := by
  obtain ⟨m, rfl⟩ := Int.eq_ofNat_of_zero_le hx
  obtain ⟨n, rfl⟩ := Int.eq_ofNat_of_zero_le hb
  have := bits_or (m * 256) n (by omega) (by omega)
  rw [show ((m : Int) * 256) = ((m * 256 : Nat) : Int) by omega, this]
  have h2 : 2 ^ 8 * m + n = 2 ^ 8 * m ||| n := Nat.two_pow_add_eq_or_of_lt (by omega) m
  rw [show m * 256 ||| n = 2 ^ 8 * m + n by rw [h2, Nat.mul_comm]]
  omega

theorem bt_at (a : ByteArray) (j : Int) : bt a j = (bytesOf a).getD j.toNat 0 := by
  rw [← rd_bytesOf]; rfl
theorem bt_w (s : ByteArray) (i : Int) : wrap64 (bt s i) = bt s i := by
  have := bt_range s i
  exact w64_in (by omega) (by omega)
def ttl (a : ByteArray) : ByteArray := ⟨(Lib.trimRightB (a.extract 52 67).data.toList 0).toArray⟩
theorem ttl_size (a : ByteArray) : (ttl a).size ≤ 15 := by
  unfold ttl Lib.trimRightB
  show (List.toArray _).size ≤ 15
  rw [List.size_toArray, List.length_reverse]
  refine Nat.le_trans (List.IsSuffix.length_le (List.dropWhile_suffix _)) ?_
  rw [List.length_reverse]
  have : (a.extract 52 67).size ≤ 15 := by rw [ByteArray.size_extract]; omega
  rw [Array.length_toList]
  exact this
theorem trim_step (l : List UInt8) (c : UInt8) : Lib.trimRightB (l ++ [c]) 0 = if c = 0 then Lib.trimRightB l 0 else l ++ [c] := by
  unfold Lib.trimRightB
  rw [List.reverse_append, List.reverse_singleton, List.singleton_append, List.dropWhile_cons]
  by_cases h : c = 0
  · simp [h]
  · simp [h]
def hdrOk (a : ByteArray) (hs ws : Int) : Bool :=
  plainB (bytesOf (ttl a)) && decide (bt a 71 ≤ 2) && decide ((a.size : Int) / 256 = up ((a.size : Int) / 256)) && decide (bt a 72 = szOf ((a.size : Int) / 256)) && decide (bt a 77 = hs) && decide (256 * bt a 78 + bt a 79 = ws)
def hdr (a : ByteArray) (hs ws : Int) : ByteArray × Int × Int × Int × Int × Bool :=
  if (a.size : Int) % 256 = 0 ∧ 2 ≤ (a.size : Int) / 256 ∧ (a.size : Int) / 256 ≤ 16 then
    (if hdrOk a hs ws = true then (ttl a, bt a 71, (a.size : Int) / 256, bt a 77, 256 * bt a 78 + bt a 79, true) else ((⟨#[]⟩ : ByteArray), 0, 0, 0, 0, false))
  else ((⟨#[]⟩ : ByteArray), 0, 0, 0, 0, false)
theorem banks_val (a : ByteArray) (ha : a.size ≤ 1048576) : spec_l5Banks.f a = some (if (a.size : Int) % 256 = 0 ∧ 2 ≤ (a.size : Int) / 256 ∧ (a.size : Int) / 256 ≤ 16 then (a.size : Int) / 256 else 0) := by
  have e : wrap64 ((a.size : Int) / 256) = (a.size : Int) / 256 := w64_in (by omega) (by omega)
  unfold spec_l5Banks.f spec_l1In.f
  rw [e]
  by_cases h : ((a.size : Int) % 256) = 0 <;> by_cases h2 : ((a.size : Int) / 256) ≥ 2 <;> by_cases h3 : ((a.size : Int) / 256) ≤ 16 <;> simp [h, h2, h3]
set_option maxHeartbeats 4000000 in
theorem iHeader_T (a : ByteArray) (ha : a.size ≤ 1048576) {hs ws : Int} (h1 : Tot (fun k => impl_HeaderSum.f k a) (fun x => x = hs)) (h2 : Tot (fun k => impl_WholeSum.f k a) (fun x => x = ws)) :
    Tot (fun k => impl_HeaderOf.f k a) (fun r => r = hdr a hs ws) := by
  unfold impl_HeaderOf.f hdr
  have hbv := banks_val a ha
  rw [banks_eq] at hbv
  refine Tot.bind (Tot.of hbv rfl) ?_
  rintro _ rfl
  by_cases hb : (a.size : Int) % 256 = 0 ∧ 2 ≤ (a.size : Int) / 256 ∧ (a.size : Int) / 256 ≤ 16
  rotate_left
  · rw [if_neg hb, if_neg hb]
    refine Tot.bind (Tot.lift (fun k => impl_doubled.mono _ k) (k := 6) (r := (0, false)) (by decide +kernel) rfl) ?_
    rintro _ rfl
    refine Tot.yes rfl ?_
    refine Tot.step (fun k => impl_HeaderOf.j0.eq_2 _ _ _ k) (Tot.yes rfl (Tot.ret rfl))
  rw [if_pos hb, if_pos hb]
  have hsz : 512 ≤ a.size := by omega
  have r2 := bt_range a 72
  have bad0 : hdrOk a hs ws = false → ∀ n : Int, Tot (fun k => impl_HeaderOf.j0 k a n true) (fun r => r = if hdrOk a hs ws = true then (ttl a, bt a 71, (a.size : Int) / 256, bt a 77, 256 * bt a 78 + bt a 79, true) else ((⟨#[]⟩ : ByteArray), 0, 0, 0, 0, false)) := by
    intro h n
    rw [h]
    exact Tot.step (fun k => impl_HeaderOf.j0.eq_2 _ _ _ k) (Tot.yes rfl (Tot.ret rfl))
  refine Tot.bind (doubled_T (show 1 ≤ (a.size : Int) / 256 by omega) hb.2.2) ?_
  rintro _ rfl
  refine Tot.no (by omega) ?_
  by_cases hu : (a.size : Int) / 256 = up ((a.size : Int) / 256)
  rotate_left
  · rw [if_neg hu]
    exact Tot.no (by simp) (bad0 (by unfold hdrOk; rw [decide_eq_false hu]; simp) _)
  rw [if_pos hu]
  refine Tot.yes rfl (Tot.yes (by omega) ?_)
  rw [bt_w]
  by_cases c3 : bt a 72 = szOf ((a.size : Int) / 256)
  rotate_left
  · have : (bt a 72 != szOf ((a.size : Int) / 256)) = true := by simpa using c3
    show Tot (fun k => impl_HeaderOf.j0 k a _ (bt a 72 != szOf ((a.size : Int) / 256))) _
    rw [this]
    exact bad0 (by unfold hdrOk; rw [decide_eq_false c3]; simp) _
  have : (bt a 72 != szOf ((a.size : Int) / 256)) = false := by simpa using c3
  show Tot (fun k => impl_HeaderOf.j0 k a _ (bt a 72 != szOf ((a.size : Int) / 256))) _
  rw [this]
  refine Tot.step (fun k => impl_HeaderOf.j0.eq_2 _ _ _ k) (Tot.no (by decide) (Tot.yes (by decide) (Tot.yes (by omega) ?_)))
  have et : strings_TrimRight.f (a.extract 52 67) (⟨#[0]⟩ : ByteArray) = some (ttl a) := by
    have hx : (a.extract 52 67).size ≤ 9223372036854775807 := by rw [ByteArray.size_extract]; omega
    unfold strings_TrimRight.f ttl
    rw [dif_pos (show (⟨#[0]⟩ : ByteArray).size = 1 from rfl), if_pos (show _ from by decide), if_pos hx]
    rfl
  refine Tot.bind (Tot.of et rfl) ?_
  rintro _ rfl
  refine Tot.yes (by omega) (Tot.yes (by omega) (Tot.yes (by omega) (Tot.yes (by omega) ?_)))
  have r8 := bt_range a 78
  have r9 := bt_range a 79
  rw [bt_w, bt_w, bt_w, bt_w, w64_in (n := bt a 78 * 256) (by omega) (by omega), or_byte (by omega) (by omega) (by omega) (by omega)]
  have ht := ttl_size a
  have j1 : ∀ b : Bool, Tot (fun k => impl_HeaderOf.j1 k b (ttl a) (bt a 71) ((a.size : Int) / 256) (bt a 77) (256 * bt a 78 + bt a 79)) (fun r => r = if b = true then ((⟨#[]⟩ : ByteArray), 0, 0, 0, 0, false) else (ttl a, bt a 71, (a.size : Int) / 256, bt a 77, 256 * bt a 78 + bt a 79, true)) := by
    intro b
    refine Tot.step (fun k => impl_HeaderOf.j1.eq_2 _ _ _ _ _ _ k) ?_
    exact Tot.ite (fun h => Tot.ret (by rw [if_pos h])) (fun h => Tot.ret (by rw [if_neg h]))
  have bad : hdrOk a hs ws = false → Tot (fun k => impl_HeaderOf.j1 k true (ttl a) (bt a 71) ((a.size : Int) / 256) (bt a 77) (256 * bt a 78 + bt a 79)) (fun r => r = if hdrOk a hs ws = true then (ttl a, bt a 71, (a.size : Int) / 256, bt a 77, 256 * bt a 78 + bt a 79, true) else ((⟨#[]⟩ : ByteArray), 0, 0, 0, 0, false)) := by
    intro h
    refine (j1 true).mono fun r hr => ?_
    rw [hr, h]; rfl
  refine Tot.bind (plain_T (ttl a) (by omega)) ?_
  rintro _ rfl
  refine Tot.ite (fun c1 => ?_) (fun c1 => bad (by unfold hdrOk; simp [c1]))
  refine Tot.ite (fun c2 => bad (by unfold hdrOk; have c2 : bt a 71 > 2 := c2; simp [show ¬ bt a 71 ≤ 2 by omega])) (fun c2 => ?_)
  have c2 : ¬ bt a 71 > 2 := c2
  refine Tot.bind h1 ?_
  intro q hq
  rw [show q = hs from hq]
  refine Tot.ite (fun c4 => ?_) (fun c4 => bad (by unfold hdrOk; have c4 : ¬ bt a 77 = hs := c4; simp [c4]))
  have c4 : bt a 77 = hs := c4
  refine Tot.bind h2 ?_
  intro q hq
  rw [show q = ws from hq]
  refine (j1 _).mono fun r hr => ?_
  rw [hr]
  by_cases c5 : 256 * bt a 78 + bt a 79 = ws
  · have : hdrOk a hs ws = true := by
      unfold hdrOk
      simp only [Bool.and_eq_true, decide_eq_true_eq]
      exact ⟨⟨⟨⟨⟨c1, by omega⟩, hu⟩, c3⟩, c4⟩, c5⟩
    rw [this, if_pos rfl, if_neg]
    simp [c5]
  · have : hdrOk a hs ws = false := by unfold hdrOk; simp [c5]
    rw [this, if_pos]
    · rfl
    · simpa using c5

theorem ihs_range (a : ByteArray) : ∀ (k : Nat) (x i r : Int), 0 ≤ x → x ≤ 255 → impl_HeaderSum.l0 k a x i = some r → 0 ≤ r ∧ r ≤ 255 := by
  intro k
  induction k with
  | zero => intro x i r _ _ h; simp [impl_HeaderSum.l0] at h
  | succ k ih =>
    intro x i r h0 h1 h
    simp only [impl_HeaderSum.l0] at h
    by_cases hi : i < 77
    · rw [if_pos hi] at h
      by_cases h2 : 0 ≤ i
      · rw [if_pos h2] at h
        by_cases h3 : i < (a.size : Int)
        · rw [if_pos h3, and255] at h
          exact ih _ _ _ (by omega) (by omega) h
        · rw [if_neg h3] at h; cases h
      · rw [if_neg h2] at h; cases h
    · rw [if_neg hi] at h
      cases h
      exact ⟨h0, h1⟩
theorem iws_range (a : ByteArray) : ∀ (k : Nat) (x n i r : Int), impl_WholeSum.l0 k a x n i = some r → 0 ≤ r ∧ r ≤ 65535 := by
  intro k
  induction k with
  | zero => intro x n i r h; simp [impl_WholeSum.l0] at h
  | succ k ih =>
    intro x n i r h
    simp only [impl_WholeSum.l0] at h
    split at h
    · split at h
      · exact ih _ _ _ _ h
      · split at h
        · exact ih _ _ _ _ h
        · split at h
          · split at h
            · exact ih _ _ _ _ h
            · cases h
          · cases h
    · rw [and65535] at h
      cases h
      omega
theorem hs_congr (A B : ByteArray) (hs : A.size = B.size) (hb : ∀ j : Int, 52 ≤ j → j < 77 → bt A j = bt B j) : ∀ (k : Nat) (x i : Int), 52 ≤ i → impl_HeaderSum.l0 k A x i = impl_HeaderSum.l0 k B x i := by
  intro k
  induction k with
  | zero => intros; rfl
  | succ k ih =>
    intro x i h0
    simp only [impl_HeaderSum.l0]
    by_cases hi : i < 77
    · rw [if_pos hi, if_pos hi, hb i h0 hi, hs, w64_in (n := i + 1) (by omega) (by omega), ih _ (i + 1) (by omega)]
    · rw [if_neg hi, if_neg hi]
theorem ws_congr (A B : ByteArray) (hs : A.size = B.size) (hl : A.size ≤ 1048576) (hb : ∀ j : Int, 0 ≤ j → j < (A.size : Int) → j ≠ 78 → j ≠ 79 → bt A j = bt B j) : ∀ (k : Nat) (x i : Int), 0 ≤ i → impl_WholeSum.l0 k A x (A.size : Int) i = impl_WholeSum.l0 k B x (B.size : Int) i := by
  intro k
  induction k with
  | zero => intros; rfl
  | succ k ih =>
    intro x i h0
    simp only [impl_WholeSum.l0]
    rw [← hs]
    by_cases hi : i < (A.size : Int)
    · simp only [if_pos hi]
      rw [w64_in (n := i + 1) (by omega) (by omega)]
      have e := fun y => ih y (i + 1) (by omega)
      rw [← hs] at e
      by_cases e1 : i = 78
      · rw [if_pos e1, if_pos e1]; exact e _
      rw [if_neg e1, if_neg e1]
      by_cases e2 : i = 79
      · rw [if_pos e2, if_pos e2]; exact e _
      rw [if_neg e2, if_neg e2, if_pos h0, if_pos h0, hb i h0 hi e1 e2]
      exact e _
    · simp only [if_neg hi]
theorem banks_size {A B : ByteArray} (hs : A.size = B.size) (m : Int) : impl_banksOf.f A m = impl_banksOf.f B m := by
  unfold impl_banksOf.f; rw [hs]
theorem header_congr {A B : ByteArray} (hs : A.size = B.size) (hb : ∀ j : Int, 52 ≤ j → j < 77 → bt A j = bt B j) (k : Nat) : impl_HeaderSum.f k A = impl_HeaderSum.f k B := by
  unfold impl_HeaderSum.f
  rw [banks_size hs]
  congr 1
  funext t
  rw [hs_congr A B hs hb k 0 52 (by decide)]
theorem whole_congr {A B : ByteArray} (hs : A.size = B.size) (hl : A.size ≤ 1048576) (hb : ∀ j : Int, 0 ≤ j → j < (A.size : Int) → j ≠ 78 → j ≠ 79 → bt A j = bt B j) (k : Nat) : impl_WholeSum.f k A = impl_WholeSum.f k B := by
  unfold impl_WholeSum.f
  rw [banks_size hs]
  congr 1
  funext t
  rw [ws_congr A B hs hl hb k 0 0 (by decide)]
theorem ib_val (a : ByteArray) (ha : a.size ≤ 1048576) : impl_banksOf.f a 2 = some (if (a.size : Int) % 256 = 0 ∧ 2 ≤ (a.size : Int) / 256 ∧ (a.size : Int) / 256 ≤ 16 then (a.size : Int) / 256 else 0) := by
  rw [← banks_eq]; exact banks_val a ha
theorem header_range {A : ByteArray} (ha : A.size ≤ 1048576) (hb : (A.size : Int) % 256 = 0 ∧ 2 ≤ (A.size : Int) / 256 ∧ (A.size : Int) / 256 ≤ 16) {r : Int} (h : Tot (fun k => impl_HeaderSum.f k A) (fun x => x = r)) : 0 ≤ r ∧ r ≤ 255 := by
  obtain ⟨K, x, rfl, hk⟩ := h
  have this : impl_HeaderSum.f K A = some x := hk K (Nat.le_refl _)
  unfold impl_HeaderSum.f at this
  rw [ib_val A ha, if_pos hb, Option.bind_some, if_neg (by omega)] at this
  exact ihs_range A _ _ _ _ (by decide) (by decide) this
theorem whole_range {A : ByteArray} (ha : A.size ≤ 1048576) (hb : (A.size : Int) % 256 = 0 ∧ 2 ≤ (A.size : Int) / 256 ∧ (A.size : Int) / 256 ≤ 16) {r : Int} (h : Tot (fun k => impl_WholeSum.f k A) (fun x => x = r)) : 0 ≤ r ∧ r ≤ 65535 := by
  obtain ⟨K, x, rfl, hk⟩ := h
  have this : impl_WholeSum.f K A = some x := hk K (Nat.le_refl _)
  unfold impl_WholeSum.f at this
  rw [ib_val A ha, if_pos hb, Option.bind_some, if_neg (by omega)] at this
  exact iws_range A _ _ _ _ _ this

theorem bt_str {L : List Int} (h : ∀ x ∈ L, 0 ≤ x ∧ x < 256) (p : Nat) : bt (strOfNums L) (p : Int) = (L[p]?).getD 0 := by
  rw [bt_at, bytesOf_strOfNums h, Int.toNat_natCast, List.getD_eq_getElem?_getD]
theorem set_same {L : List Int} {i : Nat} {v : Int} (h : L[i]? = some v) : L.set i v = L := by
  apply List.ext_getElem?
  intro p
  rw [List.getElem?_set]
  by_cases e : i = p
  · subst e
    have : i < L.length := (List.getElem?_eq_some_iff.1 h).1
    rw [if_pos rfl, if_pos this, h]
  · rw [if_neg e]
theorem Tot.uniq {α : Type} {g : Nat → Option α} {r s : α} (h1 : Tot g (fun x => x = r)) (h2 : Tot g (fun x => x = s)) : r = s := by
  obtain ⟨K, x, rfl, hk⟩ := h1
  obtain ⟨M, y, rfl, hm⟩ := h2
  have a := hk (max K M) (by omega)
  have b := hm (max K M) (by omega)
  rw [a] at b
  exact Option.some.inj b
theorem y1_get {xs ts : List Int} {n : Int} (h : (xs.length : Int) ≤ up n * 256) (ht : ts.length ≤ 15) (hn : 2 ≤ up n) (p : Nat) :
    (y1 xs ts n)[p]? = if 52 ≤ p ∧ p < 67 then (ts ++ List.replicate (15 - ts.length) (0 : Int))[p - 52]? else (xs ++ List.replicate ((up n * 256).toNat - xs.length) 0)[p]? := by
  have hl : (xs ++ List.replicate ((up n * 256).toNat - xs.length) (0 : Int)).length = (up n * 256).toNat := by rw [List.length_append, List.length_replicate]; omega
  unfold y1
  rw [lay_get (by rw [hl, tt_length ht]; omega), tt_length ht]
theorem y_get {xs ts : List Int} {n c r s : Int} (h : (xs.length : Int) ≤ up n * 256) (ht : ts.length ≤ 15) (hn : 2 ≤ up n) :
    (∀ p : Nat, 52 ≤ p → p < 77 → (y4 xs ts n c r s)[p]? = (y2 xs ts n c)[p]?) ∧ (∀ p : Nat, p ≠ 78 → p ≠ 79 → (y4 xs ts n c r s)[p]? = (y3 xs ts n c r)[p]?) ∧
    (y4 xs ts n c r s)[71]? = some (c % 256) ∧ (y4 xs ts n c r s)[72]? = some (szOf (up n) % 256) ∧ (y4 xs ts n c r s)[77]? = some (r % 256) ∧ (y4 xs ts n c r s)[78]? = some (s / 256 % 256) ∧ (y4 xs ts n c r s)[79]? = some (s % 256) ∧
    (∀ p : Nat, p < 52 ∨ 80 ≤ p → (y4 xs ts n c r s)[p]? = (xs ++ List.replicate ((up n * 256).toNat - xs.length) 0)[p]?) ∧ (∀ p : Nat, 52 ≤ p → p < 67 → (y4 xs ts n c r s)[p]? = (ts ++ List.replicate (15 - ts.length) (0 : Int))[p - 52]?) := by
  have l1 := y1_length (n := n) h ht hn
  have l2 : (y2 xs ts n c).length = (up n * 256).toNat := by unfold y2; rw [List.length_set, List.length_set, l1]
  have l3 : (y3 xs ts n c r).length = (up n * 256).toNat := by unfold y3; rw [List.length_set, l2]
  have g4 : ∀ p : Nat, (y4 xs ts n c r s)[p]? = if p = 79 then some (s % 256) else if p = 78 then some (s / 256 % 256) else (y3 xs ts n c r)[p]? := by
    intro p
    unfold y4
    rw [List.getElem?_set, List.length_set, l3, List.getElem?_set, l3]
    by_cases e9 : p = 79
    · subst e9; rw [if_pos rfl, if_pos (by omega), if_pos rfl]
    rw [if_neg (fun e => e9 e.symm), if_neg e9]
    by_cases e8 : p = 78
    · subst e8; rw [if_pos rfl, if_pos (by omega), if_pos rfl]
    rw [if_neg (fun e => e8 e.symm), if_neg e8]
  have g3 : ∀ p : Nat, (y3 xs ts n c r)[p]? = if p = 77 then some (r % 256) else (y2 xs ts n c)[p]? := by
    intro p
    unfold y3
    rw [List.getElem?_set, l2]
    by_cases e9 : p = 77
    · subst e9; rw [if_pos rfl, if_pos (by omega), if_pos rfl]
    rw [if_neg (fun e => e9 e.symm), if_neg e9]
  have g2 : ∀ p : Nat, (y2 xs ts n c)[p]? = if p = 72 then some (szOf (up n) % 256) else if p = 71 then some (c % 256) else (y1 xs ts n)[p]? := by
    intro p
    unfold y2
    rw [List.getElem?_set, List.length_set, l1, List.getElem?_set, l1]
    by_cases e9 : p = 72
    · subst e9; rw [if_pos rfl, if_pos (by omega), if_pos rfl]
    rw [if_neg (fun e => e9 e.symm), if_neg e9]
    by_cases e8 : p = 71
    · subst e8; rw [if_pos rfl, if_pos (by omega), if_pos rfl]
    rw [if_neg (fun e => e8 e.symm), if_neg e8]
  have g1 := y1_get (n := n) h ht hn
  refine ⟨fun p h1 h2 => ?_, fun p h1 h2 => ?_, ?_, ?_, ?_, ?_, ?_, fun p hp => ?_, fun p h1 h2 => ?_⟩
  · rw [g4, if_neg (by omega), if_neg (by omega), g3, if_neg (by omega)]
  · rw [g4, if_neg (by omega), if_neg (by omega)]
  · rw [g4, if_neg (by omega), if_neg (by omega), g3, if_neg (by omega), g2, if_neg (by omega), if_pos rfl]
  · rw [g4, if_neg (by omega), if_neg (by omega), g3, if_neg (by omega), g2, if_pos rfl]
  · rw [g4, if_neg (by omega), if_neg (by omega), g3, if_pos rfl]
  · rw [g4, if_neg (by omega), if_pos rfl]
  · rw [g4, if_pos rfl]
  · rw [g4, if_neg (by omega), if_neg (by omega), g3, if_neg (by omega), g2, if_neg (by omega), if_neg (by omega), g1, if_neg (by omega)]
  · rw [g4, if_neg (by omega), if_neg (by omega), g3, if_neg (by omega), g2, if_neg (by omega), if_neg (by omega), g1, if_pos (by omega)]
theorem trim_zeros (l : List UInt8) (h : ∀ c, l.getLast? = some c → c ≠ 0) : ∀ m : Nat, Lib.trimRightB (l ++ List.replicate m 0) 0 = l := by
  intro m
  induction m with
  | zero =>
    rw [List.replicate_zero, List.append_nil]
    by_cases hl : l = []
    · subst hl; rfl
    · have e := (List.dropLast_concat_getLast hl).symm
      have hc := h (l.getLast hl) (List.getLast?_eq_some_getLast hl)
      rw [e, trim_step, if_neg hc]
  | succ m ih =>
    rw [List.replicate_succ', ← List.append_assoc, trim_step, if_pos rfl]
    exact ih
theorem plain_last {b : ByteArray} (h : plainB (bytesOf b) = true) (c : UInt8) (hc : b.data.toList.getLast? = some c) : c ≠ 0 := by
  intro e
  subst e
  have hm : (0 : UInt8) ∈ b.data.toList := List.mem_of_getLast? hc
  unfold plainB bytesOf at h
  have := List.all_eq_true.1 h ((0 : UInt8).toNat : Int) (List.mem_map.2 ⟨0, hm, rfl⟩)
  simp at this
theorem ttl_of {A b : ByteArray} (hp : plainB (bytesOf b) = true) (h : ((bytesOf A).drop 52).take 15 = bytesOf b ++ List.replicate (15 - (bytesOf b).length) 0) : ttl A = b := by
  have e : A.extract 52 67 = ⟨(b.data.toList ++ List.replicate (15 - (bytesOf b).length) (0 : UInt8)).toArray⟩ := by
    rw [← strOfNums_bytesOf (A.extract 52 67), bytesOf_extract, h, ← strOfNums_bytesOf (⟨(b.data.toList ++ List.replicate (15 - (bytesOf b).length) (0 : UInt8)).toArray⟩ : ByteArray)]
    congr 1
    unfold bytesOf
    simp
  unfold ttl
  rw [e]
  show (⟨(Lib.trimRightB (b.data.toList ++ List.replicate (15 - (bytesOf b).length) (0 : UInt8)) 0).toArray⟩ : ByteArray) = b
  rw [trim_zeros _ (plain_last hp)]

theorem fixed_facts {a b : ByteArray} {c : Int} (hsz : a.size ≤ 1048576) {A : ByteArray} (hV : FixV a b c (A, true)) :
    (0 ≤ c ∧ c ≤ 2) ∧ plainB (bytesOf b) = true ∧ b.size ≤ 15 ∧ (A.size : Int) = up ((a.size : Int) / 256) * 256 ∧ a.size ≤ A.size ∧ A.size ≤ 4096 ∧ (∀ p : Nat, p < a.size → p < 52 ∨ 80 ≤ p → bt A (p : Int) = bt a (p : Int)) ∧
    (∃ r s : Int, Tot (fun k => impl_HeaderOf.f k A) (fun x => x = (b, c, up ((a.size : Int) / 256), r, s, true))) ∧ (∀ x, FixV A b c x → x = (A, true)) := by
  rcases hV with ⟨_, h⟩ | ⟨ho, r, s, hr, hs, hA⟩
  · simp at h
  have hA : A = strOfNums (y4 (bytesOf a) (bytesOf b) ((a.size : Int) / 256) c r s) := (Prod.mk.inj hA).1
  have ho' := ho
  unfold fixOk at ho'
  simp only [Bool.and_eq_true, decide_eq_true_eq] at ho'
  obtain ⟨⟨⟨h0, h1, h2⟩, hpl, h3⟩, hc⟩ := ho'
  obtain ⟨u1, u2, u3, u4⟩ := up_le h1 h2
  have hN : 2 ≤ up ((a.size : Int) / 256) ∧ up ((a.size : Int) / 256) ≤ 16 := by omega
  have hla := bytesOf_length a
  have hlb := bytesOf_length b
  have haL : ((bytesOf a).length : Int) ≤ up ((a.size : Int) / 256) * 256 := by rw [hla]; omega
  have p2 := y2_props (xs := bytesOf a) (ts := bytesOf b) (n := (a.size : Int) / 256) (c := c) (bytesOf_bytes a) (bytesOf_bytes b) haL (by omega) (by omega)
  have p3 := y3_props (xs := bytesOf a) (ts := bytesOf b) (n := (a.size : Int) / 256) (c := c) (r := r) (bytesOf_bytes a) (bytesOf_bytes b) haL (by omega) (by omega)
  obtain ⟨N, hNn⟩ : ∃ N, up ((a.size : Int) / 256) = N := ⟨_, rfl⟩
  obtain ⟨L, hL⟩ : ∃ L, y4 (bytesOf a) (bytesOf b) ((a.size : Int) / 256) c r s = L := ⟨_, rfl⟩
  have lL : L.length = (N * 256).toNat := by rw [← hL, ← hNn]; unfold y4; rw [List.length_set, List.length_set, p3.1]
  have bL : ∀ x ∈ L, 0 ≤ x ∧ x < 256 := by rw [← hL]; unfold y4; exact set_bytes (set_bytes p3.2 (mod_byte _).1 (mod_byte _).2) (mod_byte _).1 (mod_byte _).2
  obtain ⟨q2, q3, q71, q72, q77, q78, q79, qx, qt⟩ := y_get (xs := bytesOf a) (ts := bytesOf b) (n := (a.size : Int) / 256) (c := c) (r := r) (s := s) haL (by omega) (by omega)
  rw [hL] at q2 q3 q71 q72 q77 q78 q79 qx qt hA
  rw [hNn] at u1 u2 u3 u4 hN haL q72 qx p2 p3 ⊢
  have sA : A.size = (N * 256).toNat := by rw [hA, strOfNums_size, lL]
  have bA : bytesOf A = L := by rw [hA, bytesOf_strOfNums bL]
  have gA : ∀ p : Nat, bt A (p : Int) = (L[p]?).getD 0 := by rw [hA]; exact bt_str bL
  have eN : (A.size : Int) / 256 = N := by omega
  -- the sums of the fixed rom
  have r2 := header_range (A := strOfNums (y2 (bytesOf a) (bytesOf b) ((a.size : Int) / 256) c)) (by rw [strOfNums_size, p2.1]; omega) (by rw [strOfNums_size, p2.1]; omega) hr
  have s2 := whole_range (A := strOfNums (y3 (bytesOf a) (bytesOf b) ((a.size : Int) / 256) c r)) (by rw [strOfNums_size, p3.1]; omega) (by rw [strOfNums_size, p3.1]; omega) hs
  have hrA : Tot (fun k => impl_HeaderSum.f k A) (fun x => x = r) := by
    refine Tot.congr (fun k => header_congr ?_ ?_ k) hr
    · rw [sA, strOfNums_size, p2.1]
    · intro j j0 j1
      obtain ⟨p, rfl⟩ : ∃ p : Nat, j = p := ⟨j.toNat, by omega⟩
      rw [gA, q2 p (by omega) (by omega), bt_str p2.2]
  have hsA : Tot (fun k => impl_WholeSum.f k A) (fun x => x = s) := by
    refine Tot.congr (fun k => whole_congr ?_ (by rw [sA]; omega) ?_ k) hs
    · rw [sA, strOfNums_size, p3.1]
    · intro j j0 j1 j8 j9
      obtain ⟨p, rfl⟩ : ∃ p : Nat, j = p := ⟨j.toNat, by omega⟩
      rw [gA, q3 p (by omega) (by omega), bt_str p3.2]
  have b71 : bt A 71 = c := by have := gA 71; rw [q71] at this; simpa [show c % 256 = c by omega] using this
  have b72 : bt A 72 = szOf N := by
    have h4 : 0 ≤ szOf N ∧ szOf N ≤ 3 := by unfold szOf; split <;> (try split) <;> (try split) <;> omega
    have := gA 72; rw [q72] at this; simpa [show szOf N % 256 = szOf N by omega] using this
  have b77 : bt A 77 = r := by have := gA 77; rw [q77] at this; simpa [show r % 256 = r by omega] using this
  have b78 : bt A 78 = s / 256 := by have := gA 78; rw [q78] at this; simpa [show s / 256 % 256 = s / 256 by omega] using this
  have b79 : bt A 79 = s % 256 := by have := gA 79; rw [q79] at this; simpa using this
  have hslice : ((bytesOf A).drop 52).take 15 = bytesOf b ++ List.replicate (15 - (bytesOf b).length) 0 := by
    rw [bA]
    apply List.ext_getElem?
    intro p
    rw [List.getElem?_take]
    by_cases hp : p < 15
    · rw [if_pos hp, List.getElem?_drop, qt (52 + p) (by omega) (by omega), show 52 + p - 52 = p by omega]
    · rw [if_neg hp, List.getElem?_eq_none (by rw [tt_length (by omega)]; omega)]
  have eT : ttl A = b := ttl_of hpl hslice
  refine ⟨hc, hpl, by omega, by omega, by omega, by omega, ?_, ?_, ?_⟩
  · intro p hp hp2
    rw [gA, qx p hp2, List.getElem?_append_left (by omega), bt_at, Int.toNat_natCast, List.getD_eq_getElem?_getD]
  · refine ⟨r, s, (iHeader_T A (by omega) hrA hsA).mono fun x hx => ?_⟩
    rw [show x = _ from hx]
    unfold hdr
    rw [if_pos (by omega), eN, eT, b71, b77, b78, b79]
    have : hdrOk A r s = true := by
      unfold hdrOk
      rw [eN, eT, b71, b72, b77, b78, b79, hpl]
      simp only [Bool.and_eq_true, decide_eq_true_eq]
      exact ⟨⟨⟨⟨⟨trivial, by omega⟩, u3.symm⟩, trivial⟩, trivial⟩, by omega⟩
    rw [if_pos this, show 256 * (s / 256) + s % 256 = s by omega]
  · intro x hx
    have ok2 : fixOk A b c = true := by
      unfold fixOk
      simp only [Bool.and_eq_true, decide_eq_true_eq]
      exact ⟨⟨⟨by omega, by omega, by omega⟩, hpl, h3⟩, hc⟩
    rcases hx with ⟨h, _⟩ | ⟨_, r', s', hr', hs', e⟩
    · rw [ok2] at h; cases h
    rw [eN, bA] at hr' hs' e
    have e1 : y1 L (bytesOf b) N = L := by
      apply List.ext_getElem?
      intro p
      rw [y1_get (by rw [u3, lL]; omega) (by omega) (by omega)]
      by_cases hp : 52 ≤ p ∧ p < 67
      · rw [if_pos hp, qt p hp.1 hp.2]
      · rw [if_neg hp, u3, lL, Nat.sub_self, List.replicate_zero, List.append_nil]
    have e2 : y2 L (bytesOf b) N c = L := by
      unfold y2
      rw [e1, set_same q71, u3, set_same q72]
    rw [e2, ← hA] at hr'
    obtain rfl := hrA.uniq hr'
    have e3 : y3 L (bytesOf b) N c r = L := by
      unfold y3
      rw [e2, set_same q77]
    rw [e3, ← hA] at hs'
    obtain rfl := hsA.uniq hs'
    have e4 : y4 L (bytesOf b) N c r s = L := by
      unfold y4
      rw [e3, set_same q78, set_same q79]
    rw [e, e4, ← hA]
theorem drawFix_T {l : List Int} (hl : l.length ≤ 1048576) (hb : ∀ x ∈ l, 0 ≤ x ∧ x ≤ 255) : Tot (fun k => spec_DrawFixed.f k l) (fun r => r.1.size ≤ 1024 ∧ r.2.1.size ≤ 16) := by
  obtain ⟨e0, h0⟩ := open_tot hl hb
  unfold spec_DrawFixed.f
  refine Tot.bind (Tot.of e0 rfl) ?_
  rintro _ rfl
  refine Tot.bind (rom_T h0) fun r hr => ?_
  refine Tot.bind (once_T hr.2 8) fun b hb => ?_
  have tail : ∀ (s : ByteArray), s.size ≤ 1024 → Tot (fun k => spec_DrawFixed.j0 k s l b.2) (fun r => r.1.size ≤ 1024 ∧ r.2.1.size ≤ 16) := by
    intro s hs
    refine Tot.step (fun k => spec_DrawFixed.j0.eq_2 _ _ _ k) ?_
    refine Tot.bind (Tot.of rfl rfl) ?_
    rintro _ rfl
    obtain ⟨v, q, hv, v0, v1, hq⟩ := below_tot hb 5
    refine Tot.bind (Tot.of hv rfl) ?_
    rintro _ rfl
    have v1 := v1 (by decide)
    refine Tot.yes v0 (Tot.yes (by show v < 5; omega) ?_)
    refine Tot.bind (off_T hq 0 2 (by omega) (by omega)) fun c hc => Tot.ret ⟨hs, ?_⟩
    show (rdOf ByteArray.empty _ v).size ≤ 16
    have hv5 : v = 0 ∨ v = 1 ∨ v = 2 ∨ v = 3 ∨ v = 4 := by omega
    rcases hv5 with h | h | h | h | h <;> subst h <;> decide
  refine Tot.ite (fun _ => ?_) (fun _ => tail _ hr.1)
  have hsz : r.1.size ≤ 1024 := hr.1
  have e : wrap64 (Int.tdiv (wrap64 ((wrap64 ((r.1.size : Int) / 256)) * 256)) 2) = (r.1.size : Int) / 256 * 256 / 2 := by
    rw [w64_in (n := (r.1.size : Int) / 256) (by omega) (by omega), w64_in (n := (r.1.size : Int) / 256 * 256) (by omega) (by omega), Int.tdiv_eq_ediv_of_nonneg (by omega), w64_in (by omega) (by omega)]
  rw [e]
  refine Tot.yes (by omega) (Tot.yes (by omega) (tail _ ?_))
  rw [ByteArray.size_extract]
  omega
theorem same_list (s : ByteArray) : (s.toList == s.toList) = true := beq_self_eq_true _
theorem fix_l0 {a b : ByteArray} {c : Int} {A : ByteArray} {n r s : Int} (ha : a.size ≤ 1048576) (hA : A.size ≤ 4096) (hle : a.size ≤ A.size) (hn : (A.size : Int) = n * 256) (hb : ∀ p : Nat, p < a.size → p < 52 ∨ 80 ≤ p → bt A (p : Int) = bt a (p : Int)) :
    ∀ (d : Nat) (i : Int), 0 ≤ i → i + d = a.size → Tot (fun k => laws_FnFixed.l0 k a b c A true A i b c n r s) (fun x => x = true) := by
  intro d
  induction d with
  | zero =>
    intro i h0 h1
    refine Tot.step (fun k => laws_FnFixed.l0.eq_2 _ _ _ _ _ _ _ _ _ _ _ _ k) ?_
    refine Tot.no (by omega) (Tot.yes rfl (Tot.yes rfl (Tot.yes rfl (Tot.yes ?_ (Tot.yes (by omega) (Tot.ret (same_list A)))))))
    rw [w64_in (by omega) (by omega)]; omega
  | succ d ih =>
    intro i h0 h1
    have next : Tot (fun k => laws_FnFixed.j2 k a b c A true A i false b c n r s) (fun x => x = true) := by
      refine Tot.step (fun k => laws_FnFixed.j2.eq_2 _ _ _ _ _ _ _ _ _ _ _ _ _ k) (Tot.no (by decide) ?_)
      rw [w64_in (n := i + 1) (by omega) (by omega)]
      exact ih (i + 1) (by omega) (by omega)
    have same : (i < 52 ∨ 80 ≤ i) → Tot (fun k => laws_FnFixed.j2 k a b c A true A i (bt A i != bt a i) b c n r s) (fun x => x = true) := by
      intro h
      have := hb i.toNat (by omega) (by omega)
      rw [Int.toNat_of_nonneg h0] at this
      rw [this, bne_self_eq_false]
      exact next
    refine Tot.step (fun k => laws_FnFixed.l0.eq_2 _ _ _ _ _ _ _ _ _ _ _ _ k) ?_
    refine Tot.yes (by omega) (Tot.ite (fun c1 => Tot.yes h0 (Tot.yes (by omega) (same (.inl c1)))) (fun c1 => Tot.ite (fun c2 => Tot.yes h0 (Tot.yes (by omega) (same (.inr c2)))) (fun c2 => next)))
theorem FnFixed : laws_FnFixed.Pure := by
  intro l _ _ hw
  refine Tot.done ?_
  unfold laws_FnFixed.f laws_big.f
  refine Tot.bind (Tot.of rfl rfl) ?_
  rintro _ rfl
  refine Tot.ite (fun _ => Tot.ret rfl) (fun hbig => ?_)
  refine Tot.bind (drawFix_T (l := l) (by simp at hbig; omega) (bytes_wf hw)) fun z hz => ?_
  obtain ⟨a, b, c⟩ := z
  have ha : a.size ≤ 1024 := hz.1
  have hb : b.size ≤ 16 := hz.2
  obtain ⟨x, h1, h2, hV⟩ := fixed_V a b c (by omega) (by omega)
  refine Tot.bind h2 ?_
  intro q hq
  rw [show q = x from hq]
  refine Tot.bind h1 ?_
  intro q hq
  rw [show q = x from hq]
  refine Tot.no (by simp) (Tot.yes rfl ?_)
  obtain ⟨A, ok⟩ := x
  refine Tot.step (fun k => laws_FnFixed.j0.eq_2 _ _ _ _ _ _ _ _ k) ?_
  cases ok with
  | false =>
    refine Tot.yes rfl (Tot.yes (by simp) (Tot.ret (same_list A)))
  | true =>
    obtain ⟨hc, hpl, hb15, hA, hle, hA4, hbt, ⟨r, s, hH⟩, hF⟩ := fixed_facts (by omega) hV
    refine Tot.no (by show ¬ (!true) = true; decide) ?_
    refine Tot.bind hH ?_
    intro q hq
    rw [show q = _ from hq]
    obtain ⟨y, _, h4, hV2⟩ := fixed_V A b c (by omega) (by omega)
    refine Tot.bind h4 ?_
    intro q hq
    rw [show q = y from hq, hF y hV2]
    exact fix_l0 (by omega) hA4 hle hA hbt a.size 0 (by decide) (by omega)
end Go.Proofs.YtcohcndliaaacaaDoor.Pure
