import Derived.Test.YtcohcndliaaacaaDoorYWalkFnHeaders
import Derived.Test.YtcohcndliaaacaaDoorYLib
namespace Go.Proofs.YtcohcndliaaacaaDoor.Pure
open Go.RowKit Go.Proofs.YtcohcndliaaacaaDoor.QFnHeaders Go.Proofs.YtcohcndliaaacaaDoorW.PrintWords Go.Proofs.YtcohcndliaaacaaDoorW.PrintLast Go.Proofs.YtcohcndliaaacaaDoor.Lib Go.Proofs.YtcohcndliaaacaaDoor.LibX Go.Proofs.YtcohcndliaaacaaDoor.LibE
set_option linter.unusedSimpArgs false
set_option linter.unusedVariables false

def Tot {α : Type} (g : Nat → Option α) (P : α → Prop) : Prop := ∃ K r, P r ∧ ∀ k, K ≤ k → g k = some r
theorem Tot.ret {α : Type} {r : α} {P : α → Prop} (h : P r) : Tot (fun _ => some r) P := ⟨0, r, h, fun _ _ => rfl⟩
theorem Tot.of {α : Type} {g : Option α} {r : α} {P : α → Prop} (e : g = some r) (h : P r) : Tot (fun _ => g) P := ⟨0, r, h, fun _ _ => e⟩
theorem Tot.bind {α β : Type} {g : Nat → Option α} {f : Nat → α → Option β} {P : α → Prop} {Q : β → Prop} (h : Tot g P) (hf : ∀ a, P a → Tot (fun k => f k a) Q) : Tot (fun k => (g k).bind (f k)) Q := by
  obtain ⟨K, a, ha, hg⟩ := h
  obtain ⟨L, r, hr, hk⟩ := hf a ha
  exact ⟨max K L, r, hr, fun k hk' => by show (g k).bind (f k) = some r; rw [hg k (by omega)]; exact hk k (by omega)⟩
theorem Tot.ite {α : Type} {c : Prop} [Decidable c] {g f : Nat → Option α} {P : α → Prop} (h1 : c → Tot g P) (h2 : ¬ c → Tot f P) : Tot (fun k => if c then g k else f k) P := by
  by_cases h : c
  · obtain ⟨K, r, hr, hk⟩ := h1 h
    exact ⟨K, r, hr, fun k hk' => by show (if c then g k else f k) = some r; rw [if_pos h]; exact hk k hk'⟩
  · obtain ⟨K, r, hr, hk⟩ := h2 h
    exact ⟨K, r, hr, fun k hk' => by show (if c then g k else f k) = some r; rw [if_neg h]; exact hk k hk'⟩
theorem Tot.yes {α : Type} {c : Prop} [Decidable c] {g f : Nat → Option α} {P : α → Prop} (h : c) (h1 : Tot g P) : Tot (fun k => if c then g k else f k) P := Tot.ite (fun _ => h1) (fun n => absurd h n)
theorem Tot.no {α : Type} {c : Prop} [Decidable c] {g f : Nat → Option α} {P : α → Prop} (h : ¬ c) (h1 : Tot f P) : Tot (fun k => if c then g k else f k) P := Tot.ite (fun n => absurd n h) (fun _ => h1)
theorem Tot.mono {α : Type} {g : Nat → Option α} {P Q : α → Prop} (h : Tot g P) (hi : ∀ a, P a → Q a) : Tot g Q := by
  obtain ⟨K, r, hr, hk⟩ := h
  exact ⟨K, r, hi r hr, hk⟩
theorem Tot.step {α : Type} {g f : Nat → Option α} {P : α → Prop} (h : ∀ k, g (k + 1) = f k) (hf : Tot f P) : Tot g P := by
  obtain ⟨K, r, hr, hk⟩ := hf
  exact ⟨K + 1, r, hr, fun k hk' => by obtain ⟨m, rfl⟩ : ∃ m, k = m + 1 := ⟨k - 1, by omega⟩; rw [h]; exact hk m (by omega)⟩
theorem Tot.lift {α : Type} {g : Nat → Option α} {P : α → Prop} (hm : ∀ k, LeO (g k) (g (k + 1))) {k : Nat} {r : α} (e : g k = some r) (h : P r) : Tot g P := ⟨k, r, h, fun _ hk => at_rounds hm hk e⟩
theorem Tot.congr {α : Type} {g f : Nat → Option α} {P : α → Prop} (h : ∀ k, g k = f k) (hf : Tot f P) : Tot g P := by
  obtain ⟨K, r, hr, hk⟩ := hf
  exact ⟨K, r, hr, fun k hk' => (h k).trans (hk k hk')⟩
theorem Tot.eq {α : Type} {g : Nat → Option α} {r : α} (h : Tot g (fun x => x = r)) : ∃ K, ∀ k, K ≤ k → g k = some r := by
  obtain ⟨K, x, hx, hk⟩ := h
  subst hx
  exact ⟨K, hk⟩
theorem Tot.done {g : Nat → Option Bool} (h : Tot g (fun x => x = true)) : ∃ k, g k = some true := by
  obtain ⟨K, hk⟩ := h.eq
  exact ⟨K, hk K (Nat.le_refl _)⟩

def RdOk (s : List Int) (p : Int) : Prop := 0 ≤ p ∧ p ≤ s.length ∧ s.length ≤ 1048576 ∧ ∀ x ∈ s, 0 ≤ x ∧ x ≤ 255
theorem rd_mem {s : List Int} {p : Int} (h0 : 0 ≤ p) (h1 : p < (s.length : Int)) : rd s p ∈ s := by
  unfold rd
  rw [List.getD_eq_getElem?_getD, List.getElem?_eq_getElem (by omega)]
  exact List.getElem_mem _
theorem open_tot {l : List Int} (hl : l.length ≤ 1048576) (hb : ∀ x ∈ l, 0 ≤ x ∧ x ≤ 255) : spec_l1Open.f l = some (l, 0) ∧ RdOk l 0 :=
  ⟨rfl, by omega, by omega, hl, hb⟩
theorem next_tot {s : List Int} {p : Int} (h : RdOk s p) : ∃ v q, spec_l1Rd_next.f s p = some (v, q) ∧ 0 ≤ v ∧ v ≤ 255 ∧ RdOk s q := by
  obtain ⟨h0, h1, h2, h3⟩ := h
  unfold spec_l1Rd_next.f
  by_cases c : p ≥ (s.length : Int)
  · rw [if_pos c]
    exact ⟨0, p, rfl, by omega, by omega, h0, h1, h2, h3⟩
  · have hm := h3 _ (rd_mem h0 (show p < (s.length : Int) by omega))
    have e : p + 1 - 1 = p := by omega
    rw [if_neg c, w64_in (n := p + 1) (by omega) (by omega), w64_in (n := p + 1 - 1) (by omega) (by omega), e, if_pos h0, if_pos (by omega), w64_in (n := rd s p) (by omega) (by omega)]
    exact ⟨_, _, rfl, hm.1, hm.2, by omega, by omega, h2, h3⟩
theorem below_tot {s : List Int} {p : Int} (h : RdOk s p) (n : Int) : ∃ v q, spec_l1Rd_below.f s p n = some (v, q) ∧ 0 ≤ v ∧ (1 ≤ n → v < n) ∧ RdOk s q := by
  unfold spec_l1Rd_below.f
  by_cases c : n ≤ 1
  · rw [if_pos c]
    exact ⟨0, p, rfl, by omega, by omega, h⟩
  · rw [if_neg c]
    obtain ⟨v, q, e1, v0, v1, h1⟩ := next_tot h
    by_cases c2 : n ≤ 256
    · rw [if_pos c2, e1]
      simp only [Option.bind_some]
      rw [if_neg (by omega), tmod_pos _ v0]
      exact ⟨_, _, rfl, Int.emod_nonneg _ (by omega), fun _ => Int.emod_lt_of_pos _ (by omega), h1⟩
    · obtain ⟨u, r, e2, u0, u1, h2⟩ := next_tot h1
      rw [if_neg c2, e1]
      simp only [Option.bind_some]
      rw [e2]
      simp only [Option.bind_some]
      rw [if_neg (by omega), w64_in (n := v * 256) (by omega) (by omega), w64_in (n := v * 256 + u) (by omega) (by omega), tmod_pos _ (by omega)]
      exact ⟨_, _, rfl, Int.emod_nonneg _ (by omega), fun _ => Int.emod_lt_of_pos _ (by omega), h2⟩

theorem once_tot {s : List Int} {p : Int} (h : RdOk s p) (n : Int) : ∃ b q, spec_l1Rd_once.f s p n = some (b, q) ∧ RdOk s q := by
  obtain ⟨v, q, e, _, _, hq⟩ := below_tot h n
  unfold spec_l1Rd_once.f
  rw [e]
  exact ⟨_, _, rfl, hq⟩

theorem word_tot_l {s : List Int} : ∀ (k : Nat) (x i p : Int), RdOk s p → 0 ≤ i → i ≤ 8 → 8 - i < k → ∃ v q, spec_l1Rd_word.l0 k x i s p = some (v, q) ∧ RdOk s q := by
  intro k
  induction k with
  | zero => intros; omega
  | succ k ih =>
    intro x i p h i0 i1 hk
    simp only [spec_l1Rd_word.l0]
    by_cases c : i < 8
    · obtain ⟨v, q, e, _, _, hq⟩ := next_tot h
      rw [if_pos c, e]
      simp only [Option.bind_some]
      rw [w64_in (n := i + 1) (by omega) (by omega)]
      exact ih _ _ _ hq (by omega) (by omega) (by omega)
    · rw [if_neg c]
      exact ⟨_, _, rfl, h⟩
theorem word_tot {s : List Int} {p : Int} (h : RdOk s p) {k : Nat} (hk : 9 ≤ k) : ∃ v q, spec_l1Rd_word.f k s p = some (v, q) ∧ RdOk s q :=
  word_tot_l k 0 0 p h (by omega) (by omega) (by omega)

theorem near_tot {s : List Int} {p : Int} (h : RdOk s p) {k : Nat} (hk : 9 ≤ k) (lo hi : Int) (hlo : -4294967296 ≤ lo) (hhi : hi ≤ 4294967296) : ∃ v q, spec_l1Rd_near.f k s p lo hi = some (v, q) ∧ RdOk s q := by
  unfold spec_l1Rd_near.f
  obtain ⟨v, q, e, _, _, hq⟩ := below_tot h 8
  rw [e]
  simp only [Option.bind_some]
  by_cases c0 : v = 0
  · rw [if_pos c0]; exact ⟨_, _, rfl, hq⟩
  · rw [if_neg c0]
    by_cases c1 : v = 1
    · rw [if_pos c1]; exact ⟨_, _, rfl, hq⟩
    · rw [if_neg c1]
      by_cases c2 : hi < lo
      · rw [if_pos c2]; exact ⟨_, _, rfl, hq⟩
      · rw [if_neg c2]
        obtain ⟨x, r, e2, hr⟩ := word_tot hq hk
        rw [e2]
        simp only [Option.bind_some]
        rw [w64_in (n := hi - lo) (by omega) (by omega), w64_in (n := hi - lo + 1) (by omega) (by omega), u64_in (n := hi - lo + 1) (by omega) (by omega), if_neg (by omega)]
        exact ⟨_, _, rfl, hr⟩
theorem off_tot {s : List Int} {p : Int} (h : RdOk s p) {k : Nat} (hk : 9 ≤ k) (lo hi : Int) (hlo : -4294967296 ≤ lo) (hhi : hi ≤ 4294967296) : ∃ v q, spec_l1Rd_off.f k s p lo hi = some (v, q) ∧ RdOk s q := by
  unfold spec_l1Rd_off.f
  obtain ⟨b, q, e, hq⟩ := once_tot h 24
  rw [e]
  simp only [Option.bind_some]
  by_cases c : b = true
  · rw [if_pos c]
    obtain ⟨v, r, e2, v0, v1, hr⟩ := below_tot hq 4
    rw [e2]
    simp only [Option.bind_some]
    have v4 := v1 (by omega)
    rw [if_pos v0, if_pos (by simp only [List.length_cons, List.length_nil]; omega)]
    exact ⟨_, _, rfl, hr⟩
  · rw [if_neg c]
    obtain ⟨v, r, e2, hr⟩ := near_tot hq hk lo hi hlo hhi
    rw [e2]
    exact ⟨_, _, rfl, hr⟩

theorem byte_tot {s : List Int} {p : Int} (h : RdOk s p) : ∃ v q, spec_l1Rd_byte.f s p = some (v, q) ∧ 0 ≤ v ∧ v ≤ 255 ∧ RdOk s q := by
  unfold spec_l1Rd_byte.f
  obtain ⟨b, q, e, hq⟩ := once_tot h 2
  rw [e]
  simp only [Option.bind_some]
  by_cases c : b = true
  · rw [if_pos c]
    obtain ⟨v, r, e2, v0, v1, hr⟩ := below_tot hq 8
    rw [e2]
    simp only [Option.bind_some]
    have v4 := v1 (by omega)
    rw [if_pos v0, if_pos (by simp only [List.length_cons, List.length_nil]; omega)]
    refine ⟨_, _, rfl, ?_, ?_, hr⟩
    · rcases (show v = 0 ∨ v = 1 ∨ v = 2 ∨ v = 3 ∨ v = 4 ∨ v = 5 ∨ v = 6 ∨ v = 7 by omega) with rfl | rfl | rfl | rfl | rfl | rfl | rfl | rfl <;> decide
    · rcases (show v = 0 ∨ v = 1 ∨ v = 2 ∨ v = 3 ∨ v = 4 ∨ v = 5 ∨ v = 6 ∨ v = 7 by omega) with rfl | rfl | rfl | rfl | rfl | rfl | rfl | rfl <;> decide
  · rw [if_neg c]
    obtain ⟨v, r, e2, v0, v1, hr⟩ := below_tot hq 256
    rw [e2]
    have := v1 (by omega)
    exact ⟨_, _, rfl, v0, by omega, hr⟩

theorem bytes_wf {l : List Int} (h : ∀ x ∈ l, (Lit.int .u8 x).wf = true) : ∀ x ∈ l, 0 ≤ x ∧ x ≤ 255 := by
  intro x hx
  have h1 := h x hx
  have e0 : IntKind.u8.min = 0 := rfl
  have e1 : IntKind.u8.max = 255 := rfl
  simp only [Lit.wf, e0, e1, Bool.and_eq_true, decide_eq_true_eq] at h1
  exact h1

theorem below_T {s : List Int} {p : Int} (h : RdOk s p) (n : Int) : Tot (fun _ => spec_l1Rd_below.f s p n) (fun r => 0 ≤ r.1 ∧ (1 ≤ n → r.1 < n) ∧ RdOk s r.2) := by
  obtain ⟨v, q, e, h0, h1, h2⟩ := below_tot h n
  exact Tot.of e ⟨h0, h1, h2⟩
theorem once_T {s : List Int} {p : Int} (h : RdOk s p) (n : Int) : Tot (fun _ => spec_l1Rd_once.f s p n) (fun r => RdOk s r.2) := by
  obtain ⟨v, q, e, h0⟩ := once_tot h n
  exact Tot.of e h0
theorem byte_T {s : List Int} {p : Int} (h : RdOk s p) : Tot (fun _ => spec_l1Rd_byte.f s p) (fun r => 0 ≤ r.1 ∧ r.1 ≤ 255 ∧ RdOk s r.2) := by
  obtain ⟨v, q, e, h0, h1, h2⟩ := byte_tot h
  exact Tot.of e ⟨h0, h1, h2⟩
theorem off_T {s : List Int} {p : Int} (h : RdOk s p) (lo hi : Int) (hlo : -4294967296 ≤ lo) (hhi : hi ≤ 4294967296) : Tot (fun k => spec_l1Rd_off.f k s p lo hi) (fun r => RdOk s r.2) := by
  obtain ⟨v, q, e, h2⟩ := off_tot h (k := 9) (Nat.le_refl _) lo hi hlo hhi
  exact Tot.lift (fun k => spec_l1Rd_off.mono _ _ _ _ k) e h2

def tmplOk (n : Int) (b : Bool) : Bool := match spec_l3Template.f 12 n b with
  | some t => decide (t.size ≤ 24)
  | none => false
theorem tmpl_all : ∀ n : Fin 256, ∀ b : Bool, tmplOk (n.val : Int) b = true := by decide +kernel
theorem tmpl_T {n : Int} (h0 : 0 ≤ n) (h1 : n < 256) (b : Bool) : Tot (fun k => spec_l3Template.f k n b) (fun t => t.size ≤ 24) := by
  have h := tmpl_all ⟨n.toNat, by omega⟩ b
  simp only [Int.toNat_of_nonneg h0] at h
  unfold tmplOk at h
  cases e : spec_l3Template.f 12 n b with
  | none => rw [e] at h; cases h
  | some t =>
    rw [e] at h
    exact Tot.lift (fun k => spec_l3Template.mono _ _ k) e (of_decide_eq_true h)
def holes : List ByteArray := [(⟨#[110, 49, 54]⟩ : ByteArray), (⟨#[110, 56]⟩ : ByteArray), (⟨#[101, 56]⟩ : ByteArray)]
theorem hole_l1_T (s : ByteArray) (hs : s.size ≤ 1000) (i : Int) (h0 : 0 ≤ i) (h1 : i < 3) (P : Int × ByteArray → Prop) (hP : ∀ p, P (p, rdOf ByteArray.empty holes i)) (hn : Tot (fun k => spec_l3Hole.l0 k s holes (i + 1)) P) :
    ∀ (d : Nat) (p : Int), 0 ≤ p → p ≤ 1001 → 1001 - p ≤ d → Tot (fun k => spec_l3Hole.l1 k s holes i p) P := by
  have hz : 2 ≤ (rdOf ByteArray.empty holes i).size ∧ (rdOf ByteArray.empty holes i).size ≤ 3 := by
    rcases (show i = 0 ∨ i = 1 ∨ i = 2 by omega) with rfl | rfl | rfl <;> decide
  have hl : ((holes.length : Nat) : Int) = 3 := rfl
  intro d
  induction d with
  | zero =>
    intro p p0 p1 pd
    have e : wrap64 (p + ((rdOf ByteArray.empty holes i).size : Int)) = p + (rdOf ByteArray.empty holes i).size := w64_in (by omega) (by omega)
    refine Tot.step (fun k => spec_l3Hole.l1.eq_2 _ _ _ _ k) ?_
    refine Tot.yes h0 (Tot.yes (by rw [hl]; exact h1) ?_)
    rw [e, w64_in (n := i + 1) (by omega) (by omega)]
    exact Tot.no (by omega) hn
  | succ d ih =>
    intro p p0 p1 pd
    have e : wrap64 (p + ((rdOf ByteArray.empty holes i).size : Int)) = p + (rdOf ByteArray.empty holes i).size := w64_in (by omega) (by omega)
    refine Tot.step (fun k => spec_l3Hole.l1.eq_2 _ _ _ _ k) ?_
    refine Tot.yes h0 (Tot.yes (by rw [hl]; exact h1) ?_)
    rw [e, w64_in (n := i + 1) (by omega) (by omega), w64_in (n := p + 1) (by omega) (by omega)]
    refine Tot.ite (fun hc => ?_) (fun _ => hn)
    refine Tot.yes p0 (Tot.yes (by omega) (Tot.ite (fun _ => Tot.ret (hP _)) (fun _ => ih _ (by omega) (by omega) (by omega))))
theorem hole_T (s : ByteArray) (hs : s.size ≤ 1000) : Tot (fun k => spec_l3Hole.f k s) (fun _ => True) := by
  have h3 : Tot (fun k => spec_l3Hole.l0 k s holes (2 + 1)) (fun _ => True) := Tot.step (fun k => spec_l3Hole.l0.eq_2 _ _ _ k) (Tot.no (by decide) (Tot.ret trivial))
  have h2 : Tot (fun k => spec_l3Hole.l0 k s holes (1 + 1)) (fun _ => True) := Tot.step (fun k => spec_l3Hole.l0.eq_2 _ _ _ k) (Tot.yes (by decide) (hole_l1_T s hs 2 (by omega) (by omega) _ (fun _ => trivial) h3 1001 0 (by omega) (by omega) (by omega)))
  have h1 : Tot (fun k => spec_l3Hole.l0 k s holes (0 + 1)) (fun _ => True) := Tot.step (fun k => spec_l3Hole.l0.eq_2 _ _ _ k) (Tot.yes (by decide) (hole_l1_T s hs 1 (by omega) (by omega) _ (fun _ => trivial) h2 1001 0 (by omega) (by omega) (by omega)))
  exact Tot.step (fun k => spec_l3Hole.l0.eq_2 _ _ _ k) (Tot.yes (by decide) (hole_l1_T s hs 0 (by omega) (by omega) _ (fun _ => trivial) h1 1001 0 (by omega) (by omega) (by omega)))
theorem len_T {n : Int} (h0 : 0 ≤ n) (h1 : n < 256) (b : Bool) : Tot (fun k => spec_l3Length.f k n b) (fun r => 0 ≤ r ∧ r ≤ 3) := by
  unfold spec_l3Length.f
  refine Tot.bind (tmpl_T h0 h1 b) fun t ht => ?_
  refine Tot.ite (fun _ => Tot.ret (by omega)) (fun _ => Tot.ite (fun _ => Tot.ret (by omega)) (fun _ => ?_))
  refine Tot.bind (hole_T t (by omega)) fun r _ => ?_
  exact Tot.ite (fun _ => Tot.ret (by omega)) (fun _ => Tot.ite (fun _ => Tot.ret (by omega)) (fun _ => Tot.ret (by omega)))
theorem sIn_eq (a lo hi : Int) : spec_l1In.f a lo hi = some (decide (lo ≤ a ∧ a ≤ hi)) := by
  unfold spec_l1In.f
  by_cases h : a ≥ lo
  · rw [if_pos h]; simp [show lo ≤ a from h]
  · rw [if_neg h]; simp [show ¬ lo ≤ a from h]
theorem lengthOf_T (n : Int) (b : Bool) : Tot (fun k => spec_LengthOf.f k n b) (fun r => 0 ≤ r ∧ r ≤ 3 ∧ (r ≠ 0 → 0 ≤ n ∧ n < 256)) := by
  unfold spec_LengthOf.f
  refine Tot.bind (Tot.of (sIn_eq _ _ _) rfl) ?_
  rintro _ rfl
  refine Tot.ite (fun h => ?_) (fun _ => Tot.ret (by omega))
  have h := of_decide_eq_true h
  refine Tot.bind (len_T h.1 (by omega) b) fun r hr => Tot.ret (by omega)
theorem insOk_T (n : Int) (b : Bool) (m : Int) : Tot (fun k => spec_InsOk.f k n b m) (fun r => r = true → 0 ≤ n ∧ n < 256) := by
  unfold spec_InsOk.f
  refine Tot.bind (lengthOf_T n b) fun r hr => ?_
  refine Tot.ite (fun _ => Tot.ret (fun h => by cases h)) (fun h => ?_)
  have hn := hr.2.2 h
  refine Tot.bind (tmpl_T hn.1 hn.2 b) fun t ht => ?_
  refine Tot.bind (hole_T t (by omega)) fun r _ => ?_
  have j0 : ∀ x : Bool, Tot (fun k => spec_InsOk.j0 k x n b m) (fun r => r = true → 0 ≤ n ∧ n < 256) := fun x =>
    Tot.step (fun k => spec_InsOk.j0.eq_2 _ _ _ _ k) (Tot.ite (fun _ => Tot.bind (Tot.of (sIn_eq _ _ _) rfl) (fun _ _ => Tot.ret (fun _ => hn))) (fun _ => Tot.ret (fun _ => hn)))
  exact Tot.ite (fun _ => Tot.bind (Tot.of (sIn_eq _ _ _) rfl) (fun _ _ => Tot.ret (fun _ => hn))) (fun _ => Tot.ite (fun _ => j0 _) (fun _ => j0 _))
theorem insBytes_T (n : Int) (b : Bool) (m : Int) : Tot (fun k => spec_InsBytes.f k n b m) (fun r => r.size ≤ 3) := by
  unfold spec_InsBytes.f
  refine Tot.bind (insOk_T n b m) fun r hr => ?_
  refine Tot.ite (fun h => ?_) (fun _ => Tot.ret (Nat.zero_le _))
  have hn := hr h
  refine Tot.ite (fun _ => Tot.ret (by rw [strOfNums_size]; simp)) (fun _ => ?_)
  refine Tot.bind (len_T hn.1 hn.2 false) fun r _ => ?_
  refine Tot.ite (fun _ => ?_) (fun _ => Tot.ite (fun _ => ?_) (fun _ => ?_))
  all_goals exact Tot.ret (by rw [strOfNums_size]; simp)

theorem ins_j1_T {s : List Int} {p : Int} (h : RdOk s p) (n : Int) (b : Bool) (m : Int) : Tot (fun k => spec_l1Rd_ins.j1 k s p n b m) (fun r => RdOk s r.2.2.2) := by
  refine Tot.step (fun k => spec_l1Rd_ins.j1.eq_2 _ _ _ _ _ k) ?_
  refine Tot.bind (once_T h 40) fun r hr => ?_
  exact Tot.ite (fun _ => Tot.bind (off_T hr 0 255 (by omega) (by omega)) fun q hq => Tot.ret hq) (fun _ => Tot.ret hr)
theorem ins_j0_T {s : List Int} {p : Int} (h : RdOk s p) (x : Bool) (n : Int) (b : Bool) (m : Int) : Tot (fun k => spec_l1Rd_ins.j0 k x s p n b m) (fun r => RdOk s r.2.2.2) := by
  refine Tot.step (fun k => spec_l1Rd_ins.j0.eq_2 _ _ _ _ _ _ k) ?_
  exact Tot.ite (fun _ => Tot.bind (byte_T h) fun v hv => ins_j1_T hv.2.2 _ _ _) (fun _ => ins_j1_T h _ _ _)
theorem ins_T {s : List Int} {p : Int} (h : RdOk s p) : Tot (fun k => spec_l1Rd_ins.f k s p) (fun r => RdOk s r.2.2.2) := by
  unfold spec_l1Rd_ins.f
  refine Tot.bind (below_T h 256) fun r hr => ?_
  refine Tot.bind (once_T hr.2.2 4) fun q hq => ?_
  refine Tot.bind (tmpl_T hr.1 (hr.2.1 (by omega)) q.1) fun t ht => ?_
  refine Tot.bind (hole_T t (by omega)) fun u _ => ?_
  refine Tot.ite (fun _ => Tot.bind (below_T hq 65536) fun v hv => ins_j1_T hv.2.2 _ _ _) (fun _ => ?_)
  exact Tot.ite (fun _ => ins_j0_T hq _ _ _ _) (fun _ => ins_j0_T hq _ _ _ _)
theorem plainI_j0_T {s : List Int} {p : Int} (h : RdOk s p) (x : Bool) (n : Int) (b : Bool) (m : Int) : Tot (fun k => spec_l1Rd_plain.j0 k x s p n b m) (fun r => RdOk s r.2.2.2) := by
  refine Tot.step (fun k => spec_l1Rd_plain.j0.eq_2 _ _ _ _ _ _ k) ?_
  refine Tot.ite (fun _ => Tot.ret h) (fun _ => ?_)
  refine Tot.bind (below_T h 10) fun r hr => ?_
  have h1 := hr.2.2
  refine Tot.ite (fun _ => Tot.bind (byte_T h1) fun v hv => Tot.ret hv.2.2) (fun _ => ?_)
  refine Tot.ite (fun _ => Tot.bind (Tot.of rfl rfl) ?_) (fun _ => ?_)
  · rintro _ rfl
    refine Tot.bind (below_T h1 5) fun v hv => ?_
    exact Tot.yes hv.1 (Tot.yes (hv.2.1 (by omega)) (Tot.ret hv.2.2))
  refine Tot.ite (fun _ => Tot.ret h1) (fun _ => ?_)
  refine Tot.ite (fun _ => Tot.ret h1) (fun _ => ?_)
  refine Tot.ite (fun _ => Tot.bind (Tot.of rfl rfl) ?_) (fun _ => ?_)
  · rintro _ rfl
    refine Tot.bind (below_T h1 6) fun v hv => ?_
    exact Tot.yes hv.1 (Tot.yes (hv.2.1 (by omega)) (Tot.ret hv.2.2))
  exact Tot.ite (fun _ => Tot.ite (fun _ => Tot.ret h1) (fun _ => Tot.ret h1)) (fun _ => Tot.ret h1)
theorem plainI_T {s : List Int} {p : Int} (h : RdOk s p) : Tot (fun k => spec_l1Rd_plain.f k s p) (fun r => RdOk s r.2.2.2) := by
  unfold spec_l1Rd_plain.f
  refine Tot.bind (ins_T h) fun r hr => ?_
  exact Tot.ite (fun _ => plainI_j0_T hr _ _ _ _) (fun _ => Tot.bind (once_T hr 6) fun q hq => plainI_j0_T hq _ _ _ _)
theorem rom_l1_T {s : List Int} (n x : Int) (hx0 : 0 ≤ x) (hx1 : x < n) (hn : n ≤ 4) (P : ByteArray × Int → Prop) (hk : ∀ L q, (L.length : Int) = n * 256 → RdOk s q → Tot (fun k => spec_l1Rd_rom.l0 k n L (x + 1) s q) P) :
    ∀ (d : Nat) (L : List Int) (a p : Int), d ≤ 16 → x * 256 ≤ a → a + 3 * d ≤ x * 256 + 48 → (L.length : Int) = n * 256 → RdOk s p → Tot (fun k => spec_l1Rd_rom.l1 k n L x a (d : Int) s p) P := by
  have e1 : wrap64 (x + 1) = x + 1 := w64_in (by omega) (by omega)
  have e2 : wrap64 ((x + 1) * 256) = (x + 1) * 256 := w64_in (by omega) (by omega)
  intro d
  induction d with
  | zero =>
    intro L a p hd ha0 ha1 hL hp
    refine Tot.step (fun k => spec_l1Rd_rom.l1.eq_2 _ _ _ _ _ _ _ k) ?_
    rw [e1]
    exact Tot.no (by decide) (hk L p hL hp)
  | succ d ih =>
    intro L a p hd ha0 ha1 hL hp
    refine Tot.step (fun k => spec_l1Rd_rom.l1.eq_2 _ _ _ _ _ _ _ k) ?_
    rw [e1, e2]
    refine Tot.yes (by omega) (Tot.bind (plainI_T hp) fun r hr => Tot.bind (insBytes_T _ _ _) fun t ht => ?_)
    refine Tot.yes (by omega) (Tot.yes (by omega) (Tot.yes (by omega) ?_))
    rw [show wrap64 (((d + 1 : Nat) : Int) - 1) = (d : Int) by rw [w64_in (by omega) (by omega)]; omega, w64_in (n := a + (t.size : Int)) (by omega) (by omega)]
    exact ih _ _ _ (by omega) (by omega) (by omega) (by rw [cpy_length (by omega)]; exact hL) hr
theorem rom_l0_T {s : List Int} (n : Int) (hn0 : 2 ≤ n) (hn : n ≤ 4) : ∀ (d : Nat) (L : List Int) (x p : Int), 0 ≤ x → x + d = n → (L.length : Int) = n * 256 → RdOk s p → Tot (fun k => spec_l1Rd_rom.l0 k n L x s p) (fun r => r.1.size ≤ 1024 ∧ RdOk s r.2) := by
  intro d
  induction d with
  | zero =>
    intro L x p hx hd hL hp
    refine Tot.step (fun k => spec_l1Rd_rom.l0.eq_2 _ _ _ _ _ k) ?_
    refine Tot.no (by omega) (Tot.bind (once_T hp 30) fun r hr => ?_)
    refine Tot.ite (fun _ => Tot.yes (by omega) (Tot.ret ⟨?_, hr⟩)) (fun _ => Tot.ret ⟨?_, hr⟩)
    · show (strOfNums _).size ≤ 1024
      rw [strOfNums_size, List.length_drop]
      omega
    · show (strOfNums _).size ≤ 1024
      rw [strOfNums_size]
      omega
  | succ d ih =>
    intro L x p hx hd hL hp
    refine Tot.step (fun k => spec_l1Rd_rom.l0.eq_2 _ _ _ _ _ k) ?_
    refine Tot.yes (by omega) (Tot.bind (below_T hp 16) fun r hr => ?_)
    have hr1 := hr.2.1 (by omega)
    have hr0 := hr.1
    rw [w64_in (n := x * 256) (by omega) (by omega), w64_in (n := 1 + r.1) (by omega) (by omega)]
    have := rom_l1_T n x hx (by omega) hn _ (fun L q hL hq => ih L (x + 1) q (by omega) (by omega) hL hq) (1 + r.1).toNat L (x * 256) r.2 (by omega) (by omega) (by omega) hL hr.2.2
    rw [Int.toNat_of_nonneg (by omega)] at this
    exact this
theorem rom_T {s : List Int} {p : Int} (h : RdOk s p) : Tot (fun k => spec_l1Rd_rom.f k s p) (fun r => r.1.size ≤ 1024 ∧ RdOk s r.2) := by
  unfold spec_l1Rd_rom.f
  refine Tot.bind (below_T h 3) fun r hr => ?_
  have hr1 := hr.2.1 (by omega)
  have hr0 := hr.1
  rw [w64_in (n := 2 + r.1) (by omega) (by omega), w64_in (n := (2 + r.1) * 256) (by omega) (by omega)]
  refine Tot.yes (by omega) (Tot.yes (by omega) ?_)
  exact rom_l0_T (2 + r.1) (by omega) (by omega) (2 + r.1).toNat _ 0 _ (by omega) (by omega) (by rw [List.length_replicate]; omega) hr.2.2

theorem bt_get (a : ByteArray) (i : Nat) (h : i < a.size) : ∃ b l, (bytesOf a).drop i = b :: l ∧ bt a (i : Int) = b ∧ (bytesOf a).drop (i + 1) = l ∧ 0 ≤ b ∧ b ≤ 255 := by
  have hl : i < (bytesOf a).length := by rw [bytesOf_length]; exact h
  refine ⟨(bytesOf a)[i], (bytesOf a).drop (i + 1), List.drop_eq_getElem_cons hl, ?_, rfl, ?_⟩
  · rw [← rd_bytesOf]
    unfold rd
    rw [Int.toNat_natCast, List.getD_eq_getElem?_getD, List.getElem?_eq_getElem hl]
    rfl
  · have : ∀ x ∈ bytesOf a, 0 ≤ x ∧ x ≤ 255 := by
      intro x hx
      unfold bytesOf at hx
      obtain ⟨b, _, rfl⟩ := List.mem_map.1 hx
      have := b.toNat_lt
      omega
    exact this _ (List.getElem_mem _)

theorem bytesOf_bytes (s : ByteArray) : ∀ x ∈ bytesOf s, 0 ≤ x ∧ x < 256 := by
  intro x hx
  unfold bytesOf at hx
  obtain ⟨b, _, rfl⟩ := List.mem_map.1 hx
  have := b.toNat_lt
  omega
theorem bytesOf_strOfNums {xs : List Int} (h : ∀ x ∈ xs, 0 ≤ x ∧ x < 256) : bytesOf (strOfNums xs) = xs := by
  unfold bytesOf
  rw [strOfNums_data, List.map_map]
  conv => rhs; rw [← List.map_id xs]
  refine List.map_congr_left fun x hx => ?_
  have := h x hx
  simp only [Function.comp, id]
  rw [UInt8.toNat_ofNat']
  omega

def lay (xs : List Int) (lo : Nat) (ys : List Int) : List Int := xs.take lo ++ ys ++ xs.drop (lo + ys.length)
theorem lay_length {xs ys : List Int} {lo : Nat} (h : lo + ys.length ≤ xs.length) : (lay xs lo ys).length = xs.length := by
  unfold lay
  rw [List.length_append, List.length_append, List.length_take, List.length_drop]
  omega
theorem lay_bytes {xs ys : List Int} {lo : Nat} (hx : ∀ x ∈ xs, 0 ≤ x ∧ x < 256) (hy : ∀ x ∈ ys, 0 ≤ x ∧ x < 256) : ∀ x ∈ lay xs lo ys, 0 ≤ x ∧ x < 256 := by
  intro x h
  unfold lay at h
  rw [List.mem_append, List.mem_append] at h
  rcases h with (h | h) | h
  · exact hx x (List.mem_of_mem_take h)
  · exact hy x h
  · exact hx x (List.mem_of_mem_drop h)
theorem lay_get {xs ys : List Int} {lo : Nat} (h : lo + ys.length ≤ xs.length) (p : Nat) : (lay xs lo ys)[p]? = if lo ≤ p ∧ p < lo + ys.length then ys[p - lo]? else xs[p]? := by
  unfold lay
  have h1 : (xs.take lo).length = lo := by rw [List.length_take]; omega
  have h2 : (xs.take lo ++ ys).length = lo + ys.length := by rw [List.length_append, h1]
  by_cases a : p < lo + ys.length
  · rw [List.getElem?_append_left (by omega)]
    by_cases b : lo ≤ p
    · rw [if_pos ⟨b, a⟩, List.getElem?_append_right (by omega), h1]
    · rw [if_neg (by omega), List.getElem?_append_left (by omega), List.getElem?_take, if_pos (by omega)]
  · rw [if_neg (by omega), List.getElem?_append_right (by omega), h2, List.getElem?_drop, show lo + ys.length + (p - (lo + ys.length)) = p by omega]
theorem set_lay {xs ys : List Int} {lo : Nat} (h : lo + ys.length < xs.length) (v : Int) : (lay xs lo ys).set (lo + ys.length) v = lay xs lo (ys ++ [v]) := by
  apply List.ext_getElem?
  intro p
  rw [List.getElem?_set, lay_get (by omega), lay_get (by simp; omega), lay_length (by omega)]
  by_cases c : lo + ys.length = p
  · subst c; simp [h]
  · rw [if_neg c]
    by_cases d : lo ≤ p ∧ p < lo + ys.length
    · rw [if_pos d, if_pos (by simp; omega), List.getElem?_append_left (by omega)]
    · rw [if_neg d, if_neg (by simp; omega)]
theorem lay_nil (xs : List Int) (lo : Nat) : lay xs lo [] = xs := by unfold lay; simp
theorem set_bytes {xs : List Int} {i : Nat} {v : Int} (hx : ∀ x ∈ xs, 0 ≤ x ∧ x < 256) (h0 : 0 ≤ v) (h1 : v < 256) : ∀ x ∈ xs.set i v, 0 ≤ x ∧ x < 256 := by
  intro x h
  rcases List.mem_or_eq_of_mem_set h with h | h
  · exact hx x h
  · omega
theorem banks_eq (a : ByteArray) : spec_l5Banks.f a = impl_banksOf.f a 2 := rfl
theorem banks_some (a : ByteArray) (hs : a.size ≤ 1048576) : ∃ b, spec_l5Banks.f a = some b ∧ (b ≠ 0 → 512 ≤ a.size) := by
  have e : wrap64 ((a.size : Int) / 256) = (a.size : Int) / 256 := w64_in (by omega) (by omega)
  unfold spec_l5Banks.f spec_l1In.f
  rw [e]
  by_cases h : ((a.size : Int) % 256) = 0
  · rw [if_pos h]
    by_cases h2 : ((a.size : Int) / 256) ≥ 2
    · rw [if_pos h2]
      by_cases h3 : ((a.size : Int) / 256) ≤ 16
      · exact ⟨(a.size : Int) / 256, by simp [h3], fun _ => by omega⟩
      · exact ⟨0, by simp [h3], fun h => absurd rfl h⟩
    · rw [if_neg h2]
      exact ⟨0, by simp, fun h => absurd rfl h⟩
  · rw [if_neg h]
    exact ⟨0, rfl, fun h => absurd rfl h⟩

theorem hs_sim (a : ByteArray) (h : 77 ≤ a.size) : ∀ (k : Nat) (i x y : Int), 0 ≤ i → i ≤ 77 → -(256 * i) ≤ x → x ≤ 0 → y = x % 256 →
    spec_HeaderSum.l0 k a x i = impl_HeaderSum.l0 k a y i := by
  intro k
  induction k with
  | zero => intros; rfl
  | succ k ih =>
    intro i x y h0 h1 hx hx2 hy
    simp only [spec_HeaderSum.l0, impl_HeaderSum.l0]
    have hb := bt_range a i
    by_cases hi : i < 77
    · rw [if_pos hi, if_pos hi, if_pos h0, if_pos h0, if_pos (by omega), if_pos (by omega), and255,
        w64_in (n := bt a i) (by omega) (by omega), w64_in (n := i + 1) (by omega) (by omega), w64_in (n := x - bt a i) (by omega) (by omega),
        w64_in (n := x - bt a i - 1) (by omega) (by omega), w64_in (n := y - bt a i) (by omega) (by omega), w64_in (n := y - bt a i - 1) (by omega) (by omega)]
      exact ih (i + 1) _ _ (by omega) (by omega) (by omega) (by omega) (by omega)
    · rw [if_neg hi, if_neg hi]
      congr 1
      rw [Int.tmod_eq_emod (a := x), w64_in (by split <;> omega) (by split <;> omega), tmod_pos _ (by split <;> omega)]
      split <;> omega

theorem hs_ends (a : ByteArray) (h : 77 ≤ a.size) : ∀ (k : Nat) (i x : Int), 0 ≤ i → i ≤ 77 → 77 - i < k → ∃ r, spec_HeaderSum.l0 k a x i = some r := by
  intro k
  induction k with
  | zero => intros; omega
  | succ k ih =>
    intro i x h0 h1 hk
    simp only [spec_HeaderSum.l0]
    by_cases hi : i < 77
    · rw [if_pos hi, if_pos h0, if_pos (by omega), w64_in (n := i + 1) (by omega) (by omega)]
      exact ih _ _ (by omega) (by omega) (by omega)
    · rw [if_neg hi]
      exact ⟨_, rfl⟩

theorem ws_sim (a : ByteArray) (h : a.size ≤ 1048576) : ∀ (k : Nat) (i x : Int), 0 ≤ i → i ≤ a.size → 0 ≤ x → x ≤ 255 * i →
    spec_WholeSum.l0 k a x i = impl_WholeSum.l0 k a x (a.size : Int) i := by
  intro k
  induction k with
  | zero => intros; rfl
  | succ k ih =>
    intro i x h0 h1 hx hx2
    simp only [spec_WholeSum.l0, impl_WholeSum.l0]
    have hb := bt_range a i
    by_cases hi : i < (a.size : Int)
    · rw [if_pos hi, if_pos hi, w64_in (n := i + 1) (by omega) (by omega)]
      by_cases e1 : i = 78
      · rw [if_pos e1, if_pos e1]
        exact ih _ _ (by omega) (by omega) (by omega) (by omega)
      · rw [if_neg e1, if_neg e1]
        by_cases e2 : i = 79
        · rw [if_pos e2, if_pos e2]
          exact ih _ _ (by omega) (by omega) (by omega) (by omega)
        · rw [if_neg e2, if_neg e2, if_pos h0, if_pos h0, if_pos hi, w64_in (n := bt a i) (by omega) (by omega), w64_in (n := x + bt a i) (by omega) (by omega)]
          exact ih _ _ (by omega) (by omega) (by omega) (by omega)
    · rw [if_neg hi, if_neg hi, and65535, tmod_pos _ hx]

theorem ws_ends (a : ByteArray) (h : a.size ≤ 1048576) : ∀ (k : Nat) (i x : Int), 0 ≤ i → i ≤ a.size → (a.size : Int) - i < k → ∃ r, spec_WholeSum.l0 k a x i = some r := by
  intro k
  induction k with
  | zero => intros; omega
  | succ k ih =>
    intro i x h0 h1 hk
    simp only [spec_WholeSum.l0]
    by_cases hi : i < (a.size : Int)
    · rw [if_pos hi, if_pos h0, w64_in (n := i + 1) (by omega) (by omega)]
      have hn := fun y => ih (i + 1) y (by omega) (by omega) (by omega)
      split
      · exact hn _
      · split
        · exact hn _
        · exact hn _
    · rw [if_neg hi]
      exact ⟨_, rfl⟩

theorem header_eq (a : ByteArray) (ha : a.size ≤ 1048576) (k : Nat) : spec_HeaderSum.f k a = impl_HeaderSum.f k a := by
  obtain ⟨b, hb, hb2⟩ := banks_some a ha
  unfold spec_HeaderSum.f impl_HeaderSum.f
  rw [← banks_eq, hb]
  simp only [Option.bind_some]
  by_cases hz : b = 0
  · rw [if_pos hz, if_pos hz]
  · have h5 := hb2 hz
    rw [if_neg hz, if_neg hz]
    exact hs_sim a (by omega) k 52 0 0 (by omega) (by omega) (by omega) (by omega) (by omega)
theorem whole_eq (a : ByteArray) (ha : a.size ≤ 1048576) (k : Nat) : spec_WholeSum.f k a = impl_WholeSum.f k a := by
  obtain ⟨b, hb, hb2⟩ := banks_some a ha
  unfold spec_WholeSum.f impl_WholeSum.f
  rw [← banks_eq, hb]
  simp only [Option.bind_some]
  by_cases hz : b = 0
  · rw [if_pos hz, if_pos hz]
  · rw [if_neg hz, if_neg hz]
    exact ws_sim a (by omega) k 0 0 (by omega) (by omega) (by omega) (by omega)
theorem header_T (a : ByteArray) (ha : a.size ≤ 1048576) : ∃ r, Tot (fun k => spec_HeaderSum.f k a) (fun x => x = r) := by
  obtain ⟨b, hb, hb2⟩ := banks_some a ha
  by_cases hz : b = 0
  · refine ⟨-1, 0, -1, rfl, fun k _ => ?_⟩
    show spec_HeaderSum.f k a = _
    unfold spec_HeaderSum.f
    rw [hb, Option.bind_some, if_pos hz]
  · obtain ⟨r, hr⟩ := hs_ends a (by have := hb2 hz; omega) 100 52 0 (by omega) (by omega) (by omega)
    refine ⟨r, Tot.lift (fun k => spec_HeaderSum.mono _ k) (k := 100) (r := r) ?_ rfl⟩
    unfold spec_HeaderSum.f
    rw [hb, Option.bind_some, if_neg hz]
    exact hr
theorem whole_T (a : ByteArray) (ha : a.size ≤ 1048576) : ∃ r, Tot (fun k => spec_WholeSum.f k a) (fun x => x = r) := by
  obtain ⟨b, hb, hb2⟩ := banks_some a ha
  by_cases hz : b = 0
  · refine ⟨-1, 0, -1, rfl, fun k _ => ?_⟩
    show spec_WholeSum.f k a = _
    unfold spec_WholeSum.f
    rw [hb, Option.bind_some, if_pos hz]
  · obtain ⟨r, hr⟩ := ws_ends a (by omega) (a.size + 1) 0 0 (by omega) (by omega) (by omega)
    refine ⟨r, Tot.lift (fun k => spec_WholeSum.mono _ k) (k := a.size + 1) (r := r) ?_ rfl⟩
    unfold spec_WholeSum.f
    rw [hb, Option.bind_some, if_neg hz]
    exact hr

def plainB (l : List Int) : Bool := l.all fun x => decide (32 ≤ x) && decide (x ≤ 126)
theorem plain_l0 (a : ByteArray) (ha : a.size ≤ 2000000) : ∀ (d k : Nat) (i : Nat), i + d = a.size → d < k → impl_isPlain.l0 k a (a.size : Int) (i : Int) = some (plainB ((bytesOf a).drop i))
  | 0, k, i, hi, hk => by
    obtain ⟨k, rfl⟩ : ∃ q, k = q + 1 := ⟨k - 1, by omega⟩
    rw [impl_isPlain.l0, if_neg (by omega), List.drop_of_length_le (by rw [bytesOf_length]; omega)]
    rfl
  | d + 1, k, i, hi, hk => by
    obtain ⟨k, rfl⟩ : ∃ q, k = q + 1 := ⟨k - 1, by omega⟩
    obtain ⟨b, l, e1, e2, e3, b0, b1⟩ := bt_get a i (by omega)
    rw [impl_isPlain.l0, if_pos (by omega), if_pos (by omega), if_pos (by omega), e2, e1]
    unfold plainB
    rw [List.all_cons]
    by_cases c1 : b < 32
    · rw [if_pos c1, decide_eq_false (show ¬ 32 ≤ b by omega)]; simp
    rw [if_neg c1, decide_eq_true (show 32 ≤ b by omega)]
    by_cases c2 : b > 126
    · rw [if_pos c2, decide_eq_false (show ¬ b ≤ 126 by omega)]; simp
    rw [if_neg c2, decide_eq_true (show b ≤ 126 by omega), w64_in (n := (i : Int) + 1) (by omega) (by omega)]
    have := plain_l0 a ha d k (i + 1) (by omega) (by omega)
    rw [e3] at this
    simpa [plainB] using this
theorem title_l0 (a : ByteArray) (ha : a.size ≤ 2000000) : ∀ (d k : Nat) (i : Nat), i + d = a.size → d < k → spec_l12Title.l0 k a (i : Int) = some (plainB ((bytesOf a).drop i) && decide ((a.size : Int) ≤ 15))
  | 0, k, i, hi, hk => by
    obtain ⟨k, rfl⟩ : ∃ q, k = q + 1 := ⟨k - 1, by omega⟩
    rw [spec_l12Title.l0, if_neg (by omega), List.drop_of_length_le (by rw [bytesOf_length]; omega)]
    simp [plainB]
  | d + 1, k, i, hi, hk => by
    obtain ⟨k, rfl⟩ : ∃ q, k = q + 1 := ⟨k - 1, by omega⟩
    obtain ⟨b, l, e1, e2, e3, b0, b1⟩ := bt_get a i (by omega)
    rw [spec_l12Title.l0, if_pos (by omega), if_pos (by omega), e2, e1]
    unfold plainB
    rw [List.all_cons]
    by_cases c1 : b < 32
    · rw [if_pos c1, decide_eq_false (show ¬ 32 ≤ b by omega)]; simp
    rw [if_neg c1, decide_eq_true (show 32 ≤ b by omega)]
    by_cases c2 : b > 126
    · rw [if_pos c2, decide_eq_false (show ¬ b ≤ 126 by omega)]; simp
    rw [if_neg c2, decide_eq_true (show b ≤ 126 by omega), w64_in (n := (i : Int) + 1) (by omega) (by omega)]
    have := title_l0 a ha d k (i + 1) (by omega) (by omega)
    rw [e3] at this
    simpa [plainB] using this
theorem plain_T (a : ByteArray) (ha : a.size ≤ 2000000) : Tot (fun k => impl_isPlain.f k a) (fun r => r = plainB (bytesOf a)) := by
  refine ⟨a.size + 1, _, rfl, fun k hk => ?_⟩
  have := plain_l0 a ha a.size k 0 (by omega) (by omega)
  rw [List.drop_zero] at this
  exact this
theorem title_T (a : ByteArray) (ha : a.size ≤ 2000000) : Tot (fun k => spec_l12Title.f k a) (fun r => r = (plainB (bytesOf a) && decide ((a.size : Int) ≤ 15))) := by
  refine ⟨a.size + 1, _, rfl, fun k hk => ?_⟩
  have := title_l0 a ha a.size k 0 (by omega) (by omega)
  rw [List.drop_zero] at this
  exact this
def up (n : Int) : Int := if n ≤ 2 then 2 else if n ≤ 4 then 4 else if n ≤ 8 then 8 else 16
def szOf (n : Int) : Int := if n ≤ 2 then 0 else if n ≤ 4 then 1 else if n ≤ 8 then 2 else 3
theorem cases16 {n : Int} (h0 : 1 ≤ n) (h1 : n ≤ 16) : n = 1 ∨ n = 2 ∨ n = 3 ∨ n = 4 ∨ n = 5 ∨ n = 6 ∨ n = 7 ∨ n = 8 ∨ n = 9 ∨ n = 10 ∨ n = 11 ∨ n = 12 ∨ n = 13 ∨ n = 14 ∨ n = 15 ∨ n = 16 := by omega
theorem doubled_T {n : Int} (h0 : 1 ≤ n) (h1 : n ≤ 16) : Tot (fun k => impl_doubled.f k n) (fun r => r = if n = up n then (szOf n, true) else (0, false)) := by
  refine Tot.lift (fun k => impl_doubled.mono _ k) (k := 6) (r := if n = up n then (szOf n, true) else (0, false)) ?_ rfl
  rcases cases16 h0 h1 with h | h | h | h | h | h | h | h | h | h | h | h | h | h | h | h <;> subst h <;> decide +kernel
theorem code_T {n : Int} (h : n = 2 ∨ n = 4 ∨ n = 8 ∨ n = 16) : Tot (fun k => spec_l12Code.f k n) (fun r => r = szOf n) := by
  refine Tot.lift (fun k => spec_l12Code.mono _ k) (k := 6) (r := szOf n) ?_ rfl
  rcases h with h | h | h | h <;> subst h <;> decide +kernel

theorem bt_range (a : ByteArray) (i : Int) : 0 ≤ bt a i ∧ bt a i < 256 := by
  unfold bt
  split
  · rename_i h
    have := (a[i.toNat]'h).toNat_lt
    omega
  · omega

theorem or_byte {x b : Int} (hx : 0 ≤ x) (hx1 : x < 16777216) (hb : 0 ≤ b) (hb1 : b < 256) : Go.bits .or .i64 (x * 256) b = 256 * x + b := by
  obtain ⟨m, rfl⟩ := Int.eq_ofNat_of_zero_le hx
  obtain ⟨n, rfl⟩ := Int.eq_ofNat_of_zero_le hb
  have := bits_or (m * 256) n (by omega) (by omega)
  rw [show ((m : Int) * 256) = ((m * 256 : Nat) : Int) by omega, this]
  have h2 : 2 ^ 8 * m + n = 2 ^ 8 * m ||| n := Nat.two_pow_add_eq_or_of_lt (by omega) m
  rw [show m * 256 ||| n = 2 ^ 8 * m + n by rw [h2, Nat.mul_comm]]
  omega

theorem up_le {n : Int} (h0 : 1 ≤ n) (h1 : n ≤ 16) : n ≤ up n ∧ (up n = 2 ∨ up n = 4 ∨ up n = 8 ∨ up n = 16) ∧ up (up n) = up n ∧ szOf (up n) = szOf n := by
  rcases cases16 h0 h1 with h | h | h | h | h | h | h | h | h | h | h | h | h | h | h | h <;> subst h <;> decide
theorem spec_banks_T (a b : ByteArray) (c : Int) (n : Int) (h0 : 1 ≤ n) (h1 : n ≤ 16) (P : ByteArray × Bool → Prop) (ht : Tot (fun k => spec_Fixed.l0 k a b c n (up n)) P) : Tot (fun k => spec_Fixed.l0 k a b c n 2) P := by
  have step : ∀ m : Int, m < n → m ≤ 8 → 2 ≤ m → Tot (fun k => spec_Fixed.l0 k a b c n (2 * m)) P → Tot (fun k => spec_Fixed.l0 k a b c n m) P := by
    intro m hm h8 h2 h
    refine Tot.step (f := fun k => spec_Fixed.l0 k a b c n (2 * m)) (fun k => ?_) h
    rw [spec_Fixed.l0, if_pos hm, w64_in (n := 2 * m) (by omega) (by omega)]
  unfold up at ht
  by_cases c2 : n ≤ 2
  · rw [if_pos c2] at ht; exact ht
  rw [if_neg c2] at ht
  refine step 2 (by omega) (by omega) (by omega) ?_
  by_cases c4 : n ≤ 4
  · rw [if_pos c4] at ht; exact ht
  rw [if_neg c4] at ht
  refine step (2 * 2) (by omega) (by omega) (by omega) ?_
  by_cases c8 : n ≤ 8
  · rw [if_pos c8] at ht; exact ht
  rw [if_neg c8] at ht
  exact step (2 * (2 * 2)) (by omega) (by omega) (by omega) ht
def y1 (xs ts : List Int) (n : Int) : List Int := lay (xs ++ List.replicate ((up n * 256).toNat - xs.length) 0) 52 (ts ++ List.replicate (15 - ts.length) 0)
def y2 (xs ts : List Int) (n c : Int) : List Int := ((y1 xs ts n).set 71 (c % 256)).set 72 (szOf (up n) % 256)
def y3 (xs ts : List Int) (n c r : Int) : List Int := (y2 xs ts n c).set 77 (r % 256)
def y4 (xs ts : List Int) (n c r s : Int) : List Int := ((y3 xs ts n c r).set 78 (s / 256 % 256)).set 79 (s % 256)
theorem tt_length {ts : List Int} (ht : ts.length ≤ 15) : (ts ++ List.replicate (15 - ts.length) (0 : Int)).length = 15 := by rw [List.length_append, List.length_replicate]; omega
theorem y1_length {xs ts : List Int} {n : Int} (h : (xs.length : Int) ≤ up n * 256) (ht : ts.length ≤ 15) (hn : 2 ≤ up n) : (y1 xs ts n).length = (up n * 256).toNat := by
  have hl : (xs ++ List.replicate ((up n * 256).toNat - xs.length) (0 : Int)).length = (up n * 256).toNat := by rw [List.length_append, List.length_replicate]; omega
  unfold y1
  rw [lay_length (by rw [hl, tt_length ht]; omega), hl]
theorem y1_bytes {xs ts : List Int} {n : Int} (hx : ∀ x ∈ xs, 0 ≤ x ∧ x < 256) (ht : ∀ x ∈ ts, 0 ≤ x ∧ x < 256) : ∀ x ∈ y1 xs ts n, 0 ≤ x ∧ x < 256 := by
  have hr : ∀ (m : Nat), ∀ x ∈ List.replicate m (0 : Int), 0 ≤ x ∧ x < 256 := by
    intro m x hx
    rw [List.eq_of_mem_replicate hx]
    omega
  unfold y1
  refine lay_bytes ?_ ?_ <;> intro x hx' <;> rw [List.mem_append] at hx' <;> rcases hx' with hx' | hx'
  · exact hx x hx'
  · exact hr _ x hx'
  · exact ht x hx'
  · exact hr _ x hx'
theorem mod_byte (v : Int) : 0 ≤ v % 256 ∧ v % 256 < 256 := by omega
theorem y2_props {xs ts : List Int} {n c : Int} (hx : ∀ x ∈ xs, 0 ≤ x ∧ x < 256) (ht : ∀ x ∈ ts, 0 ≤ x ∧ x < 256) (h : (xs.length : Int) ≤ up n * 256) (hl : ts.length ≤ 15) (hn : 2 ≤ up n) :
    (y2 xs ts n c).length = (up n * 256).toNat ∧ ∀ x ∈ y2 xs ts n c, 0 ≤ x ∧ x < 256 := by
  unfold y2
  refine ⟨by rw [List.length_set, List.length_set, y1_length h hl hn], ?_⟩
  exact set_bytes (set_bytes (y1_bytes hx ht) (mod_byte _).1 (mod_byte _).2) (mod_byte _).1 (mod_byte _).2
theorem y3_props {xs ts : List Int} {n c r : Int} (hx : ∀ x ∈ xs, 0 ≤ x ∧ x < 256) (ht : ∀ x ∈ ts, 0 ≤ x ∧ x < 256) (h : (xs.length : Int) ≤ up n * 256) (hl : ts.length ≤ 15) (hn : 2 ≤ up n) :
    (y3 xs ts n c r).length = (up n * 256).toNat ∧ ∀ x ∈ y3 xs ts n c r, 0 ≤ x ∧ x < 256 := by
  obtain ⟨h1, h2⟩ := y2_props (c := c) hx ht h hl hn
  unfold y3
  exact ⟨by rw [List.length_set, h1], set_bytes h2 (mod_byte _).1 (mod_byte _).2⟩
theorem spec_title_T (b : ByteArray) (c m : Int) (hb : b.size ≤ 15) (L : List Int) (hL : 100 ≤ L.length) (hL2 : L.length ≤ 1000000) (P : ByteArray × Bool → Prop) (ht : Tot (fun k => spec_Fixed.l1 k b c m (lay L 52 (bytesOf b ++ List.replicate (15 - b.size) 0)) 15) P) :
    ∀ (d i : Nat), i + d = 15 → Tot (fun k => spec_Fixed.l1 k b c m (lay L 52 ((bytesOf b ++ List.replicate (15 - b.size) 0).take i)) (i : Int)) P := by
  have hz : (bytesOf b ++ List.replicate (15 - b.size) (0 : Int)).length = 15 := by rw [List.length_append, List.length_replicate, bytesOf_length]; omega
  intro d
  induction d with
  | zero =>
    intro i hi
    obtain rfl : i = 15 := by omega
    rw [List.take_of_length_le (by omega)]
    exact ht
  | succ d ih =>
    intro i hi
    have hlt : (((bytesOf b ++ List.replicate (15 - b.size) (0 : Int)).take i)).length = i := by rw [List.length_take, hz]; omega
    have hll : (lay L 52 ((bytesOf b ++ List.replicate (15 - b.size) (0 : Int)).take i)).length = L.length := lay_length (by rw [hlt]; omega)
    have hi2 : i < (bytesOf b ++ List.replicate (15 - b.size) (0 : Int)).length := by omega
    have next : ∀ v, v = (bytesOf b ++ List.replicate (15 - b.size) (0 : Int))[i] → (lay L 52 ((bytesOf b ++ List.replicate (15 - b.size) (0 : Int)).take i)).set (52 + i) v = lay L 52 ((bytesOf b ++ List.replicate (15 - b.size) (0 : Int)).take (i + 1)) := by
      intro v hv
      have := set_lay (xs := L) (ys := (bytesOf b ++ List.replicate (15 - b.size) (0 : Int)).take i) (lo := 52) (by rw [hlt]; omega) v
      rw [hlt] at this
      rw [this, List.take_succ_eq_append_getElem hi2, hv]
    have e52 : wrap64 (52 + (i : Int)) = 52 + i := w64_in (by omega) (by omega)
    have en : (52 + (i : Int)).toNat = 52 + i := by omega
    refine Tot.step (f := fun k => spec_Fixed.l1 k b c m (lay L 52 ((bytesOf b ++ List.replicate (15 - b.size) 0).take (i + 1))) ((i + 1 : Nat) : Int)) (fun k => ?_) (ih (i + 1) (by omega))
    rw [spec_Fixed.l1, if_pos (by omega), e52, if_pos (by omega), if_pos (by rw [hll]; omega), Option.bind_some, en, w64_in (n := (i : Int) + 1) (by omega) (by omega)]
    by_cases hc : (i : Int) < (b.size : Int)
    · rw [if_pos hc, if_pos (by omega), List.set_set]
      obtain ⟨v, l, e1, e2, e3, b0, b1⟩ := bt_get b i (by omega)
      have hv : v = (bytesOf b ++ List.replicate (15 - b.size) (0 : Int))[i] := by
        rw [List.getElem_append_left (by rw [bytesOf_length]; omega)]
        rw [List.drop_eq_getElem_cons (by rw [bytesOf_length]; omega)] at e1
        injection e1 with e1 _
        exact e1.symm
      rw [e2, next v hv]
      rfl
    · rw [if_neg hc]
      have hv : (0 : Int) = (bytesOf b ++ List.replicate (15 - b.size) (0 : Int))[i] := by
        rw [List.getElem_append_right (by rw [bytesOf_length]; omega), List.getElem_replicate]
      rw [next 0 hv]
      rfl
theorem spec_tail_T (a b : ByteArray) (c n : Int) (ha : (a.size : Int) ≤ up n * 256) (hb : b.size ≤ 15) (hn : n ≤ up n) (h2 : up n = 2 ∨ up n = 4 ∨ up n = 8 ∨ up n = 16) (hu : up (up n) = up n) {r s : Int}
    (hr : Tot (fun k => spec_HeaderSum.f k (strOfNums (y2 (bytesOf a) (bytesOf b) n c))) (fun x => x = r)) (hs : Tot (fun k => spec_WholeSum.f k (strOfNums (y3 (bytesOf a) (bytesOf b) n c r))) (fun x => x = s)) :
    Tot (fun k => spec_Fixed.l0 k a b c n (up n)) (fun x => x = (strOfNums (y4 (bytesOf a) (bytesOf b) n c r s), true)) := by
  have hM : wrap64 (up n * 256) = up n * 256 := w64_in (by omega) (by omega)
  have hla := bytesOf_length a
  have hL : cpy (List.replicate (up n * 256).toNat 0) 0 (List.replicate (up n * 256).toNat (0 : Int)).length (bytesOf a) = bytesOf a ++ List.replicate ((up n * 256).toNat - (bytesOf a).length) 0 := by
    unfold cpy
    rw [List.take_zero, List.nil_append, List.length_replicate, List.take_of_length_le (by omega), List.drop_replicate]
    congr 2
    omega
  have hll : (bytesOf a ++ List.replicate ((up n * 256).toNat - (bytesOf a).length) (0 : Int)).length = (up n * 256).toNat := by rw [List.length_append, List.length_replicate]; omega
  refine Tot.step (f := fun k => spec_Fixed.l1 k b c (up n) (bytesOf a ++ List.replicate ((up n * 256).toNat - (bytesOf a).length) 0) 0) (fun k => ?_) ?_
  · rw [spec_Fixed.l0, if_neg (by omega), hM, if_pos (by omega), if_pos (by omega), Option.bind_some, hL]
  have hfin : Tot (fun k => spec_Fixed.l1 k b c (up n) (lay (bytesOf a ++ List.replicate ((up n * 256).toNat - (bytesOf a).length) 0) 52 (bytesOf b ++ List.replicate (15 - b.size) 0)) 15) (fun x => x = (strOfNums (y4 (bytesOf a) (bytesOf b) n c r s), true)) := by
    have hy : lay (bytesOf a ++ List.replicate ((up n * 256).toNat - (bytesOf a).length) 0) 52 (bytesOf b ++ List.replicate (15 - b.size) 0) = y1 (bytesOf a) (bytesOf b) n := by
      unfold y1
      rw [bytesOf_length b]
    rw [hy]
    have hyl := y1_length (xs := bytesOf a) (ts := bytesOf b) (n := n) (by rw [hla]; exact ha) (by rw [bytesOf_length]; exact hb) (by omega)
    have c1 : 71 < ((y1 (bytesOf a) (bytesOf b) n).length : Int) := by rw [hyl]; omega
    have c2 : 72 < ((y1 (bytesOf a) (bytesOf b) n).length : Int) := by rw [hyl]; omega
    have c3 : 77 < ((y1 (bytesOf a) (bytesOf b) n).length : Int) := by rw [hyl]; omega
    have c4 : 78 < ((y1 (bytesOf a) (bytesOf b) n).length : Int) := by rw [hyl]; omega
    have c5 : 79 < ((y1 (bytesOf a) (bytesOf b) n).length : Int) := by rw [hyl]; omega
    refine Tot.step (f := fun k => (spec_l12Code.f k (up n)).bind fun t => (spec_HeaderSum.f k (strOfNums (((y1 (bytesOf a) (bytesOf b) n).set 71 (c % 256)).set 72 (t % 256)))).bind fun t2 => (spec_WholeSum.f k (strOfNums ((((y1 (bytesOf a) (bytesOf b) n).set 71 (c % 256)).set 72 (t % 256)).set 77 (t2 % 256)))).bind fun t3 => some (strOfNums ((((((y1 (bytesOf a) (bytesOf b) n).set 71 (c % 256)).set 72 (t % 256)).set 77 (t2 % 256)).set 78 (t3 / 256 % 256)).set 79 (t3 % 256)), true)) (fun k => ?_) ?_
    · rw [spec_Fixed.l1, if_neg (by decide), if_pos c1]
      simp only [if_pos c2, if_pos c3, if_pos c4, if_pos c5, Option.bind_some]
      rfl
    refine Tot.bind (code_T h2) ?_
    rintro _ rfl
    refine Tot.bind hr ?_
    rintro _ rfl
    refine Tot.bind hs ?_
    rintro _ rfl
    exact Tot.ret rfl
  have := spec_title_T b c (up n) hb _ (by rw [hll]; omega) (by rw [hll]; omega) _ hfin 15 0 (by omega)
  rw [List.take_zero, lay_nil] at this
  exact this
theorem within_eq (a lo hi : Int) : impl_within.f a lo hi = some (decide (lo ≤ a ∧ a ≤ hi)) := by
  unfold impl_within.f
  by_cases h : a ≥ lo
  · rw [if_pos h]; simp [show lo ≤ a from h]
  · rw [if_neg h]; simp [show ¬ lo ≤ a from h]
theorem l1In_eq (a lo hi : Int) : spec_l1In.f a lo hi = some (decide (lo ≤ a ∧ a ≤ hi)) := within_eq a lo hi
def fixOk (a b : ByteArray) (c : Int) : Bool := decide ((a.size : Int) % 256 = 0 ∧ 1 ≤ (a.size : Int) / 256 ∧ (a.size : Int) / 256 ≤ 16) && (plainB (bytesOf b) && decide ((b.size : Int) ≤ 15)) && decide (0 ≤ c ∧ c ≤ 2)
theorem spec_no_T (a b : ByteArray) (c n : Int) : Tot (fun k => spec_Fixed.j0 k a b c n true) (fun x => x = ((⟨#[]⟩ : ByteArray), false)) := Tot.step (fun k => spec_Fixed.j0.eq_2 _ _ _ _ _ k) (Tot.yes rfl (Tot.ret rfl))
theorem fixed_S (a b : ByteArray) (c : Int) (ha : a.size ≤ 1048576) (hb : b.size ≤ 1048576) : ∃ x : ByteArray × Bool, Tot (fun k => spec_Fixed.f k a b c) (fun y => y = x) ∧ x.1.size ≤ 4096 ∧ (x.2 = true → 512 ≤ x.1.size) := by
  have hw : wrap64 ((a.size : Int) / 256) = (a.size : Int) / 256 := w64_in (by omega) (by omega)
  have hspec : ∀ P : ByteArray × Bool → Prop, P ((⟨#[]⟩ : ByteArray), false) → (fixOk a b c = true → Tot (fun k => spec_Fixed.j0 k a b c ((a.size : Int) / 256) false) P) → Tot (fun k => spec_Fixed.f k a b c) P := by
    intro P hn hy
    have no := (spec_no_T a b c ((a.size : Int) / 256)).mono (Q := P) (fun x hx => hx ▸ hn)
    unfold spec_Fixed.f
    rw [hw]
    refine Tot.ite (fun h0 => ?_) (fun _ => no)
    refine Tot.bind (Tot.of (l1In_eq _ _ _) rfl) ?_
    rintro _ rfl
    refine Tot.ite (fun h1 => ?_) (fun _ => no)
    refine Tot.bind (title_T b (by omega)) ?_
    rintro _ rfl
    refine Tot.ite (fun h2 => ?_) (fun _ => no)
    refine Tot.bind (Tot.of (l1In_eq _ _ _) rfl) ?_
    rintro _ rfl
    by_cases h3 : 0 ≤ c ∧ c ≤ 2
    · rw [decide_eq_true h3]
      refine hy ?_
      unfold fixOk
      rw [h2, decide_eq_true h3, decide_eq_true (And.intro h0 (of_decide_eq_true h1))]
      rfl
    · rw [decide_eq_false h3]
      exact no
  by_cases ho : fixOk a b c = true
  · have ho' := ho
    unfold fixOk at ho'
    simp only [Bool.and_eq_true, decide_eq_true_eq] at ho'
    obtain ⟨⟨⟨h0, h1, h2⟩, _, h3⟩, _⟩ := ho'
    obtain ⟨u1, u2, u3, u4⟩ := up_le h1 h2
    have hla := bytesOf_length a
    have hlb := bytesOf_length b
    have haL : ((bytesOf a).length : Int) ≤ up ((a.size : Int) / 256) * 256 := by rw [hla]; omega
    have p2 := y2_props (xs := bytesOf a) (ts := bytesOf b) (n := (a.size : Int) / 256) (c := c) (bytesOf_bytes a) (bytesOf_bytes b) haL (by omega) (by omega)
    obtain ⟨r, hr⟩ := header_T (strOfNums (y2 (bytesOf a) (bytesOf b) ((a.size : Int) / 256) c)) (by rw [strOfNums_size, p2.1]; omega)
    have p3 := y3_props (xs := bytesOf a) (ts := bytesOf b) (n := (a.size : Int) / 256) (c := c) (r := r) (bytesOf_bytes a) (bytesOf_bytes b) haL (by omega) (by omega)
    obtain ⟨s, hs⟩ := whole_T (strOfNums (y3 (bytesOf a) (bytesOf b) ((a.size : Int) / 256) c r)) (by rw [strOfNums_size, p3.1]; omega)
    refine ⟨(strOfNums (y4 (bytesOf a) (bytesOf b) ((a.size : Int) / 256) c r s), true), ?_, ?_, ?_⟩
    · have st : Tot (fun k => spec_Fixed.j0 k a b c ((a.size : Int) / 256) false) (fun y => y = (strOfNums (y4 (bytesOf a) (bytesOf b) ((a.size : Int) / 256) c r s), true)) :=
        Tot.step (fun k => spec_Fixed.j0.eq_2 _ _ _ _ _ k) (Tot.no (by decide) (spec_banks_T a b c _ h1 h2 _ (spec_tail_T a b c _ (by omega) (by omega) u1 u2 u3 hr hs)))
      unfold spec_Fixed.f
      rw [hw]
      unfold fixOk at ho
      simp only [Bool.and_eq_true, decide_eq_true_eq] at ho
      obtain ⟨⟨_, ho2, ho3⟩, ho4⟩ := ho
      refine Tot.yes h0 (Tot.bind (Tot.of (l1In_eq _ _ _) rfl) ?_)
      rintro _ rfl
      refine Tot.yes (decide_eq_true ⟨h1, h2⟩) (Tot.bind (title_T b (by omega)) ?_)
      rintro _ rfl
      refine Tot.yes (by rw [ho2, decide_eq_true ho3]; rfl) (Tot.bind (Tot.of (l1In_eq _ _ _) rfl) ?_)
      rintro _ rfl
      rw [decide_eq_true ho4]
      exact st
    · show (strOfNums _).size ≤ 4096
      rw [strOfNums_size]; unfold y4; rw [List.length_set, List.length_set, p3.1]; omega
    · intro _
      show 512 ≤ (strOfNums _).size
      rw [strOfNums_size]; unfold y4; rw [List.length_set, List.length_set, p3.1]; omega
  · exact ⟨((⟨#[]⟩ : ByteArray), false), hspec _ rfl (fun h => absurd h ho), Nat.zero_le _, fun h => by cases h⟩

theorem bt_at (a : ByteArray) (j : Int) : bt a j = (bytesOf a).getD j.toNat 0 := by
  rw [← rd_bytesOf]; rfl
theorem bt_w (s : ByteArray) (i : Int) : wrap64 (bt s i) = bt s i := by
  have := bt_range s i
  exact w64_in (by omega) (by omega)
def ttl (a : ByteArray) : ByteArray := ⟨(Lib.trimRightB (a.extract 52 67).data.toList 0).toArray⟩
theorem ttl_size (a : ByteArray) : (ttl a).size ≤ 15 := by
  unfold ttl Lib.trimRightB
  show (List.toArray _).size ≤ 15
  rw [List.size_toArray, List.length_reverse]
  refine Nat.le_trans (List.IsSuffix.length_le (List.dropWhile_suffix _)) ?_
  rw [List.length_reverse]
  have : (a.extract 52 67).size ≤ 15 := by rw [ByteArray.size_extract]; omega
  rw [Array.length_toList]
  exact this
theorem trim_step (l : List UInt8) (c : UInt8) : Lib.trimRightB (l ++ [c]) 0 = if c = 0 then Lib.trimRightB l 0 else l ++ [c] := by
  unfold Lib.trimRightB
  rw [List.reverse_append, List.reverse_singleton, List.singleton_append, List.dropWhile_cons]
  by_cases h : c = 0
  · simp [h]
  · simp [h]
theorem code_all {n : Int} (h0 : 2 ≤ n) (h1 : n ≤ 16) : Tot (fun k => spec_l12Code.f k n) (fun r => r = if n = up n then szOf n else -1) := by
  refine Tot.lift (fun k => spec_l12Code.mono _ k) (k := 7) (r := if n = up n then szOf n else -1) ?_ rfl
  rcases cases16 (show 1 ≤ n by omega) h1 with h | h | h | h | h | h | h | h | h | h | h | h | h | h | h | h <;> subst h <;> first | omega | decide +kernel
def hdrOk (a : ByteArray) (hs ws : Int) : Bool :=
  plainB (bytesOf (ttl a)) && decide (bt a 71 ≤ 2) && decide ((a.size : Int) / 256 = up ((a.size : Int) / 256)) && decide (bt a 72 = szOf ((a.size : Int) / 256)) && decide (bt a 77 = hs) && decide (256 * bt a 78 + bt a 79 = ws)
def hdr (a : ByteArray) (hs ws : Int) : ByteArray × Int × Int × Int × Int × Bool :=
  if (a.size : Int) % 256 = 0 ∧ 2 ≤ (a.size : Int) / 256 ∧ (a.size : Int) / 256 ≤ 16 then
    (if hdrOk a hs ws = true then (ttl a, bt a 71, (a.size : Int) / 256, bt a 77, 256 * bt a 78 + bt a 79, true) else ((⟨#[]⟩ : ByteArray), 0, 0, 0, 0, false))
  else ((⟨#[]⟩ : ByteArray), 0, 0, 0, 0, false)
theorem banks_val (a : ByteArray) (ha : a.size ≤ 1048576) : spec_l5Banks.f a = some (if (a.size : Int) % 256 = 0 ∧ 2 ≤ (a.size : Int) / 256 ∧ (a.size : Int) / 256 ≤ 16 then (a.size : Int) / 256 else 0) := by
  have e : wrap64 ((a.size : Int) / 256) = (a.size : Int) / 256 := w64_in (by omega) (by omega)
  unfold spec_l5Banks.f spec_l1In.f
  rw [e]
  by_cases h : ((a.size : Int) % 256) = 0 <;> by_cases h2 : ((a.size : Int) / 256) ≥ 2 <;> by_cases h3 : ((a.size : Int) / 256) ≤ 16 <;> simp [h, h2, h3]
set_option maxHeartbeats 4000000 in
theorem iHeader_T (a : ByteArray) (ha : a.size ≤ 1048576) {hs ws : Int} (h1 : Tot (fun k => impl_HeaderSum.f k a) (fun x => x = hs)) (h2 : Tot (fun k => impl_WholeSum.f k a) (fun x => x = ws)) :
    Tot (fun k => impl_HeaderOf.f k a) (fun r => r = hdr a hs ws) := by
  unfold impl_HeaderOf.f hdr
  have hbv := banks_val a ha
  rw [banks_eq] at hbv
  refine Tot.bind (Tot.of hbv rfl) ?_
  rintro _ rfl
  by_cases hb : (a.size : Int) % 256 = 0 ∧ 2 ≤ (a.size : Int) / 256 ∧ (a.size : Int) / 256 ≤ 16
  rotate_left
  · rw [if_neg hb, if_neg hb]
    refine Tot.bind (Tot.lift (fun k => impl_doubled.mono _ k) (k := 6) (r := (0, false)) (by decide +kernel) rfl) ?_
    rintro _ rfl
    refine Tot.yes rfl ?_
    refine Tot.step (fun k => impl_HeaderOf.j0.eq_2 _ _ _ k) (Tot.yes rfl (Tot.ret rfl))
  rw [if_pos hb, if_pos hb]
  have hsz : 512 ≤ a.size := by omega
  have r2 := bt_range a 72
  have bad0 : hdrOk a hs ws = false → ∀ n : Int, Tot (fun k => impl_HeaderOf.j0 k a n true) (fun r => r = if hdrOk a hs ws = true then (ttl a, bt a 71, (a.size : Int) / 256, bt a 77, 256 * bt a 78 + bt a 79, true) else ((⟨#[]⟩ : ByteArray), 0, 0, 0, 0, false)) := by
    intro h n
    rw [h]
    exact Tot.step (fun k => impl_HeaderOf.j0.eq_2 _ _ _ k) (Tot.yes rfl (Tot.ret rfl))
  refine Tot.bind (doubled_T (show 1 ≤ (a.size : Int) / 256 by omega) hb.2.2) ?_
  rintro _ rfl
  refine Tot.no (by omega) ?_
  by_cases hu : (a.size : Int) / 256 = up ((a.size : Int) / 256)
  rotate_left
  · rw [if_neg hu]
    exact Tot.no (by simp) (bad0 (by unfold hdrOk; rw [decide_eq_false hu]; simp) _)
  rw [if_pos hu]
  refine Tot.yes rfl (Tot.yes (by omega) ?_)
  rw [bt_w]
  by_cases c3 : bt a 72 = szOf ((a.size : Int) / 256)
  rotate_left
  · have : (bt a 72 != szOf ((a.size : Int) / 256)) = true := by simpa using c3
    show Tot (fun k => impl_HeaderOf.j0 k a _ (bt a 72 != szOf ((a.size : Int) / 256))) _
    rw [this]
    exact bad0 (by unfold hdrOk; rw [decide_eq_false c3]; simp) _
  have : (bt a 72 != szOf ((a.size : Int) / 256)) = false := by simpa using c3
  show Tot (fun k => impl_HeaderOf.j0 k a _ (bt a 72 != szOf ((a.size : Int) / 256))) _
  rw [this]
  refine Tot.step (fun k => impl_HeaderOf.j0.eq_2 _ _ _ k) (Tot.no (by decide) (Tot.yes (by decide) (Tot.yes (by omega) ?_)))
  have et : strings_TrimRight.f (a.extract 52 67) (⟨#[0]⟩ : ByteArray) = some (ttl a) := by
    have hx : (a.extract 52 67).size ≤ 9223372036854775807 := by rw [ByteArray.size_extract]; omega
    unfold strings_TrimRight.f ttl
    rw [dif_pos (show (⟨#[0]⟩ : ByteArray).size = 1 from rfl), if_pos (show _ from by decide), if_pos hx]
    rfl
  refine Tot.bind (Tot.of et rfl) ?_
  rintro _ rfl
  refine Tot.yes (by omega) (Tot.yes (by omega) (Tot.yes (by omega) (Tot.yes (by omega) ?_)))
  have r8 := bt_range a 78
  have r9 := bt_range a 79
  rw [bt_w, bt_w, bt_w, bt_w, w64_in (n := bt a 78 * 256) (by omega) (by omega), or_byte (by omega) (by omega) (by omega) (by omega)]
  have ht := ttl_size a
  have j1 : ∀ b : Bool, Tot (fun k => impl_HeaderOf.j1 k b (ttl a) (bt a 71) ((a.size : Int) / 256) (bt a 77) (256 * bt a 78 + bt a 79)) (fun r => r = if b = true then ((⟨#[]⟩ : ByteArray), 0, 0, 0, 0, false) else (ttl a, bt a 71, (a.size : Int) / 256, bt a 77, 256 * bt a 78 + bt a 79, true)) := by
    intro b
    refine Tot.step (fun k => impl_HeaderOf.j1.eq_2 _ _ _ _ _ _ k) ?_
    exact Tot.ite (fun h => Tot.ret (by rw [if_pos h])) (fun h => Tot.ret (by rw [if_neg h]))
  have bad : hdrOk a hs ws = false → Tot (fun k => impl_HeaderOf.j1 k true (ttl a) (bt a 71) ((a.size : Int) / 256) (bt a 77) (256 * bt a 78 + bt a 79)) (fun r => r = if hdrOk a hs ws = true then (ttl a, bt a 71, (a.size : Int) / 256, bt a 77, 256 * bt a 78 + bt a 79, true) else ((⟨#[]⟩ : ByteArray), 0, 0, 0, 0, false)) := by
    intro h
    refine (j1 true).mono fun r hr => ?_
    rw [hr, h]; rfl
  refine Tot.bind (plain_T (ttl a) (by omega)) ?_
  rintro _ rfl
  refine Tot.ite (fun c1 => ?_) (fun c1 => bad (by unfold hdrOk; simp [c1]))
  refine Tot.ite (fun c2 => bad (by unfold hdrOk; have c2 : bt a 71 > 2 := c2; simp [show ¬ bt a 71 ≤ 2 by omega])) (fun c2 => ?_)
  have c2 : ¬ bt a 71 > 2 := c2
  refine Tot.bind h1 ?_
  intro q hq
  rw [show q = hs from hq]
  refine Tot.ite (fun c4 => ?_) (fun c4 => bad (by unfold hdrOk; have c4 : ¬ bt a 77 = hs := c4; simp [c4]))
  have c4 : bt a 77 = hs := c4
  refine Tot.bind h2 ?_
  intro q hq
  rw [show q = ws from hq]
  refine (j1 _).mono fun r hr => ?_
  rw [hr]
  by_cases c5 : 256 * bt a 78 + bt a 79 = ws
  · have : hdrOk a hs ws = true := by
      unfold hdrOk
      simp only [Bool.and_eq_true, decide_eq_true_eq]
      exact ⟨⟨⟨⟨⟨c1, by omega⟩, hu⟩, c3⟩, c4⟩, c5⟩
    rw [this, if_pos rfl, if_neg]
    simp [c5]
  · have : hdrOk a hs ws = false := by unfold hdrOk; simp [c5]
    rw [this, if_pos]
    · rfl
    · simpa using c5

theorem trim_T (x0 y : ByteArray) (b c d e : Int) (P : ByteArray × Int × Int × Int × Int × Bool → Prop) : ∀ (n : Nat) (s : ByteArray), s.size = n → n ≤ 1000000 →
    Tot (fun k => spec_HeaderOf.j1 k x0 ⟨(Lib.trimRightB s.data.toList 0).toArray⟩ y b c d e) P → Tot (fun k => spec_HeaderOf.l0 k x0 s y b c d e) P := by
  intro n
  induction n with
  | zero =>
    intro s hs _ h
    have e0 : s.data.toList = [] := List.eq_nil_of_length_eq_zero (by simpa using hs)
    have es : (⟨(Lib.trimRightB s.data.toList 0).toArray⟩ : ByteArray) = s := by
      apply ByteArray.ext; apply Array.toList_inj.1; rw [e0]; rfl
    rw [es] at h
    refine Tot.step (fun k => spec_HeaderOf.l0.eq_2 _ _ _ _ _ _ _ k) ?_
    exact Tot.yes (by rw [ByteArray.toList_eq, e0]) h
  | succ n ih =>
    intro s hs hn h
    have hne : s.data.toList ≠ [] := by
      intro e0
      have : s.data.toList.length = 0 := by rw [e0]; rfl
      rw [Array.length_toList] at this
      have : s.size = 0 := this
      omega
    obtain ⟨l, c0, hl⟩ : ∃ l c0, s.data.toList = l ++ [c0] := ⟨s.data.toList.dropLast, s.data.toList.getLast hne, (List.dropLast_concat_getLast hne).symm⟩
    have hlen : l.length = n := by
      have : s.data.toList.length = n + 1 := by rw [Array.length_toList]; exact hs
      rw [hl, List.length_append, List.length_singleton] at this
      omega
    have e1 : wrap64 ((s.size : Int) - 1) = n := by rw [w64_in (by omega) (by omega)]; omega
    have eb : bt s (n : Int) = c0.toNat := by
      rw [bt_at]
      unfold bytesOf
      rw [hl, Int.toNat_natCast, List.map_append, List.getD_eq_getElem?_getD, List.getElem?_append_right (by rw [List.length_map]; omega), List.length_map, hlen]
      simp
    have ex : (s.extract 0 n).data.toList = l := by
      rw [ByteArray.data_extract, Array.toList_extract, List.extract_eq_take_drop, hl, List.drop_zero, Nat.sub_zero, ← hlen, List.take_left]
    rw [hl, trim_step] at h
    refine Tot.step (fun k => spec_HeaderOf.l0.eq_2 _ _ _ _ _ _ _ k) ?_
    rw [e1, eb]
    refine Tot.no (by rw [ByteArray.toList_eq]; exact hne) (Tot.yes (by omega) (Tot.yes (by omega) ?_))
    refine Tot.ite (fun hc => Tot.yes (by omega) ?_) (fun hc => ?_)
    · have hc0 : c0 = 0 := UInt8.toNat_inj.1 (by simpa using hc)
      rw [if_pos hc0] at h
      rw [Int.toNat_natCast]
      refine ih (s.extract 0 n) (by rw [ByteArray.size_extract]; omega) (by omega) ?_
      rw [ex]
      exact h
    · have hc0 : ¬ c0 = 0 := fun h' => hc (by rw [h']; rfl)
      rw [if_neg hc0] at h
      have es : (⟨(l ++ [c0]).toArray⟩ : ByteArray) = s := by
        apply ByteArray.ext; apply Array.toList_inj.1; rw [← hl]
      rw [es] at h
      exact h
set_option maxHeartbeats 4000000 in
theorem sHeader_T (a : ByteArray) (ha : a.size ≤ 1048576) {hs ws : Int} (h1 : Tot (fun k => spec_HeaderSum.f k a) (fun x => x = hs)) (h2 : Tot (fun k => spec_WholeSum.f k a) (fun x => x = ws)) :
    Tot (fun k => spec_HeaderOf.f k a) (fun r => r = hdr a hs ws) := by
  unfold spec_HeaderOf.f hdr
  refine Tot.bind (Tot.of (banks_val a ha) rfl) ?_
  rintro _ rfl
  by_cases hb : (a.size : Int) % 256 = 0 ∧ 2 ≤ (a.size : Int) / 256 ∧ (a.size : Int) / 256 ≤ 16
  rotate_left
  · rw [if_neg hb, if_neg hb]; exact Tot.yes rfl (Tot.ret rfl)
  rw [if_pos hb, if_pos hb]
  have hsz : 512 ≤ a.size := by omega
  refine Tot.no (by omega) (Tot.yes (by omega) ?_)
  refine Tot.bind (Tot.of (banks_val a ha) rfl) ?_
  rintro _ rfl
  rw [if_pos hb]
  refine Tot.yes (by omega) (Tot.yes (by omega) (Tot.yes (by omega) (Tot.yes (by decide) (Tot.yes (by omega) ?_))))
  have r8 := bt_range a 78
  have r9 := bt_range a 79
  rw [bt_w, bt_w, bt_w, bt_w, w64_in (n := 256 * bt a 78) (by omega) (by omega), w64_in (n := 256 * bt a 78 + bt a 79) (by omega) (by omega)]
  refine trim_T a _ _ _ _ _ _ _ (a.extract 52 67) rfl (by rw [ByteArray.size_extract]; omega) ?_
  show Tot (fun k => spec_HeaderOf.j1 k a (ttl a) _ _ _ _ _) _
  have ht := ttl_size a
  have j2 : ∀ b : Bool, Tot (fun k => spec_HeaderOf.j2 k b (ttl a) (bt a 71) ((a.size : Int) / 256) (bt a 77) (256 * bt a 78 + bt a 79)) (fun r => r = if b = true then ((⟨#[]⟩ : ByteArray), 0, 0, 0, 0, false) else (ttl a, bt a 71, (a.size : Int) / 256, bt a 77, 256 * bt a 78 + bt a 79, true)) := by
    intro b
    refine Tot.step (fun k => spec_HeaderOf.j2.eq_2 _ _ _ _ _ _ k) ?_
    exact Tot.ite (fun h => Tot.ret (by rw [if_pos h])) (fun h => Tot.ret (by rw [if_neg h]))
  have bad : hdrOk a hs ws = false → Tot (fun k => spec_HeaderOf.j2 k true (ttl a) (bt a 71) ((a.size : Int) / 256) (bt a 77) (256 * bt a 78 + bt a 79)) (fun r => r = if hdrOk a hs ws = true then (ttl a, bt a 71, (a.size : Int) / 256, bt a 77, 256 * bt a 78 + bt a 79, true) else ((⟨#[]⟩ : ByteArray), 0, 0, 0, 0, false)) := by
    intro h
    refine (j2 true).mono fun r hr => ?_
    rw [hr, h]; rfl
  refine Tot.step (fun k => spec_HeaderOf.j1.eq_2 _ _ _ _ _ _ _ k) ?_
  refine Tot.bind (title_T (ttl a) (by omega)) ?_
  rintro _ rfl
  rw [decide_eq_true (show ((ttl a).size : Int) ≤ 15 by omega), Bool.and_true]
  refine Tot.ite (fun c1 => ?_) (fun c1 => bad (by unfold hdrOk; simp [c1]))
  refine Tot.ite (fun c2 => bad (by unfold hdrOk; have c2 : bt a 71 > 2 := c2; simp [show ¬ bt a 71 ≤ 2 by omega])) (fun c2 => ?_)
  have c2 : ¬ bt a 71 > 2 := c2
  refine Tot.yes (by omega) ?_
  refine Tot.bind (code_all hb.2.1 hb.2.2) ?_
  rintro _ rfl
  have r2 := bt_range a 72
  rw [bt_w]
  refine Tot.ite (fun c3 => ?_) (fun c3 => bad ?_)
  · have hu : (a.size : Int) / 256 = up ((a.size : Int) / 256) := by
      by_cases h : (a.size : Int) / 256 = up ((a.size : Int) / 256)
      · exact h
      · have c3 : bt a 72 = _ := c3
        rw [if_neg h] at c3; omega
    have c3 : bt a 72 = szOf ((a.size : Int) / 256) := by
      have c3 : bt a 72 = _ := c3
      rw [if_pos hu] at c3; exact c3
    refine Tot.bind h1 ?_
    intro q hq
    rw [show q = hs from hq]
    refine Tot.ite (fun c4 => ?_) (fun c4 => bad (by unfold hdrOk; have c4 : ¬ bt a 77 = hs := c4; simp [c4]))
    have c4 : bt a 77 = hs := c4
    refine Tot.bind h2 ?_
    intro q hq
    rw [show q = ws from hq]
    refine (j2 _).mono fun r hr => ?_
    rw [hr]
    by_cases c5 : 256 * bt a 78 + bt a 79 = ws
    · have : hdrOk a hs ws = true := by
        unfold hdrOk
        simp only [Bool.and_eq_true, decide_eq_true_eq]
        exact ⟨⟨⟨⟨⟨c1, by omega⟩, hu⟩, c3⟩, c4⟩, c5⟩
      rw [this, if_pos rfl, if_neg]
      simp [c5]
    · have : hdrOk a hs ws = false := by unfold hdrOk; simp [c5]
      rw [this, if_pos]
      · rfl
      · simpa using c5
  · unfold hdrOk
    by_cases h : (a.size : Int) / 256 = up ((a.size : Int) / 256)
    · have c3 : ¬ bt a 72 = _ := c3
      rw [if_pos h] at c3
      rw [decide_eq_false c3]; simp
    · rw [decide_eq_false h]; simp

theorem ib_val (a : ByteArray) (ha : a.size ≤ 1048576) : impl_banksOf.f a 2 = some (if (a.size : Int) % 256 = 0 ∧ 2 ≤ (a.size : Int) / 256 ∧ (a.size : Int) / 256 ≤ 16 then (a.size : Int) / 256 else 0) := by
  rw [← banks_eq]; exact banks_val a ha
theorem ihs_after (A B : ByteArray) (hs : A.size = B.size) (hb : ∀ j : Int, 56 ≤ j → j < 77 → bt A j = bt B j) : ∀ (k : Nat) (x y i p q : Int), 56 ≤ i → impl_HeaderSum.l0 k A x i = some p → impl_HeaderSum.l0 k B y i = some q → (q - p) % 256 = (y - x) % 256 := by
  intro k
  induction k with
  | zero => intro x y i p q _ h; simp [impl_HeaderSum.l0] at h
  | succ k ih =>
    intro x y i p q h0 hp hq
    simp only [impl_HeaderSum.l0] at hp hq
    by_cases hi : i < 77
    · rw [if_pos hi, if_pos (show 0 ≤ i by omega)] at hp hq
      by_cases h3 : i < (A.size : Int)
      · rw [if_pos h3, and255, bt_w] at hp
        rw [if_pos (by omega), and255, bt_w, ← hb i h0 hi] at hq
        rw [w64_in (n := i + 1) (by omega) (by omega)] at hp hq
        have := ih _ _ (i + 1) p q (by omega) hp hq
        have e1 : ∀ z b : Int, wrap64 (wrap64 (z - b) - 1) % 256 = (z - b - 1) % 256 := fun z b => by unfold wrap64; omega
        rw [e1, e1] at this
        omega
      · rw [if_neg h3] at hp; cases hp
    · rw [if_neg hi] at hp hq
      cases hp; cases hq; rfl
theorem ihs_at (A B : ByteArray) (hs : A.size = B.size) (hb : ∀ j : Int, 52 ≤ j → j < 77 → j ≠ 55 → bt A j = bt B j) : ∀ (k : Nat) (x i p q : Int), 52 ≤ i → i ≤ 55 → impl_HeaderSum.l0 k A x i = some p → impl_HeaderSum.l0 k B x i = some q → (q - p) % 256 = (bt A 55 - bt B 55) % 256 := by
  intro k
  induction k with
  | zero => intro x i p q _ _ h; simp [impl_HeaderSum.l0] at h
  | succ k ih =>
    intro x i p q h0 h1 hp hq
    simp only [impl_HeaderSum.l0] at hp hq
    rw [if_pos (show i < 77 by omega), if_pos (show 0 ≤ i by omega)] at hp hq
    by_cases h3 : i < (A.size : Int)
    · rw [if_pos h3, and255, bt_w, w64_in (n := i + 1) (by omega) (by omega)] at hp
      rw [if_pos (by omega), and255, bt_w, w64_in (n := i + 1) (by omega) (by omega)] at hq
      by_cases c : i = 55
      · subst c
        have := ihs_after A B hs (fun j j0 j1 => hb j (by omega) j1 (by omega)) k _ _ (55 + 1) p q (by decide) hp hq
        have e1 : ∀ z b : Int, wrap64 (wrap64 (z - b) - 1) % 256 = (z - b - 1) % 256 := fun z b => by unfold wrap64; omega
        rw [e1, e1] at this
        omega
      · rw [← hb i h0 (by omega) c] at hq
        exact ih _ (i + 1) p q (by omega) (by omega) hp hq
    · rw [if_neg h3] at hp; cases hp
theorem sum_turns {A B : ByteArray} (hA : A.size ≤ 1048576) (hs : A.size = B.size) (ok : (A.size : Int) % 256 = 0 ∧ 2 ≤ (A.size : Int) / 256 ∧ (A.size : Int) / 256 ≤ 16) (hb : ∀ j : Int, 52 ≤ j → j < 77 → j ≠ 55 → bt A j = bt B j) {p q : Int}
    (h1 : Tot (fun k => impl_HeaderSum.f k A) (fun x => x = p)) (h2 : Tot (fun k => impl_HeaderSum.f k B) (fun x => x = q)) : (q - p) % 256 = (bt A 55 - bt B 55) % 256 := by
  obtain ⟨K, x, rfl, hk⟩ := h1
  obtain ⟨M, y, rfl, hm⟩ := h2
  have a : impl_HeaderSum.f (max K M) A = some x := hk (max K M) (by omega)
  have b : impl_HeaderSum.f (max K M) B = some y := hm (max K M) (by omega)
  unfold impl_HeaderSum.f at a b
  rw [ib_val A hA, if_pos ok, Option.bind_some, if_neg (by omega)] at a
  rw [ib_val B (by omega), if_pos (by rw [← hs]; exact ok), Option.bind_some, if_neg (by omega)] at b
  exact ihs_at A B hs hb _ _ _ _ _ (by decide) (by decide) a b

theorem bt_lt_size {s : ByteArray} {i : Nat} (h : i < s.size) : (bytesOf s)[i]? = some (bt s (i : Int)) := by
  have hl : i < (bytesOf s).length := by rw [bytesOf_length]; exact h
  rw [bt_at, Int.toNat_natCast, List.getD_eq_getElem?_getD, List.getElem?_eq_getElem hl]
  rfl
theorem xor1 : ∀ n : Nat, n < 256 → (0 ≤ Go.bits .xor .u8 (n : Int) 1 ∧ Go.bits .xor .u8 (n : Int) 1 ≤ 255 ∧ ((n : Int) - Go.bits .xor .u8 (n : Int) 1) % 256 ≠ 0) := by decide +kernel
theorem turn_facts (rom : ByteArray) (h : 512 ≤ rom.size) : (turnedAt rom).size = rom.size ∧ (∀ j : Int, 0 ≤ j → j < (rom.size : Int) → j ≠ 55 → bt (turnedAt rom) j = bt rom j) ∧ (bt rom 55 - bt (turnedAt rom) 55) % 256 ≠ 0 := by
  have r := bt_range rom 55
  obtain ⟨n, hn⟩ : ∃ n : Nat, bt rom 55 = n := ⟨(bt rom 55).toNat, by omega⟩
  have x := xor1 n (by omega)
  rw [← hn] at x
  obtain ⟨x0, x1, x2⟩ := x
  have hb : ∀ y ∈ (bytesOf rom).set 55 (Go.bits .xor .u8 (bt rom 55) 1), 0 ≤ y ∧ y < 256 := set_bytes (bytesOf_bytes rom) x0 (by omega)
  have hg : ∀ p : Nat, bt (turnedAt rom) (p : Int) = (((bytesOf rom).set 55 (Go.bits .xor .u8 (bt rom 55) 1))[p]?).getD 0 := fun p => by
    unfold turnedAt
    rw [bt_at, bytesOf_strOfNums hb, Int.toNat_natCast, List.getD_eq_getElem?_getD]
  refine ⟨by unfold turnedAt; rw [strOfNums_size, List.length_set, bytesOf_length], fun j j0 j1 j2 => ?_, ?_⟩
  · obtain ⟨p, rfl⟩ : ∃ p : Nat, j = p := ⟨j.toNat, by omega⟩
    rw [hg, List.getElem?_set_ne (by omega), bt_lt_size (show p < rom.size by omega)]
    rfl
  · have := hg 55
    rw [List.getElem?_set_self (by rw [bytesOf_length]; omega)] at this
    rw [show bt (turnedAt rom) 55 = Go.bits .xor .u8 (bt rom 55) 1 from this]
    exact x2
theorem drawHdr_T {l : List Int} (hl : l.length ≤ 1048576) (hb : ∀ x ∈ l, 0 ≤ x ∧ x ≤ 255) : Tot (fun k => spec_DrawHeaderOf.f k l) (fun r => r.size ≤ 5000) := by
  obtain ⟨e0, h0⟩ := open_tot hl hb
  unfold spec_DrawHeaderOf.f
  refine Tot.bind (Tot.of e0 rfl) ?_
  rintro _ rfl
  refine Tot.bind (rom_T h0) fun r hr => ?_
  have hr1 : r.1.size ≤ 1024 := hr.1
  refine Tot.bind (Tot.of rfl rfl) ?_
  rintro _ rfl
  obtain ⟨v, q, hv, v0, v1, hq⟩ := below_tot hr.2 2
  refine Tot.bind (Tot.of hv rfl) ?_
  rintro _ rfl
  have v1 := v1 (by decide)
  refine Tot.yes v0 (Tot.yes (by show v < 2; omega) ?_)
  obtain ⟨u, q2, hu, u0, u1, hq2⟩ := below_tot hq 3
  refine Tot.bind (Tot.of hu rfl) ?_
  rintro _ rfl
  have ht : (rdOf ByteArray.empty ([(⟨#[]⟩ : ByteArray), (⟨#[71, 65, 77, 69]⟩ : ByteArray)] : List ByteArray) v).size ≤ 16 := by
    have : v = 0 ∨ v = 1 := by omega
    rcases this with h | h <;> subst h <;> decide
  obtain ⟨x, hx, x1, x2⟩ := fixed_S r.1 _ u (by omega) (show _ ≤ 1048576 by exact Nat.le_trans ht (by decide))
  refine Tot.bind hx ?_
  intro y hy
  rw [show y = x from hy]
  refine Tot.ite (fun hok => ?_) (fun _ => Tot.bind (rom_T hq2) fun z hz => Tot.ret (by have : z.1.size ≤ 1024 := hz.1; omega))
  have x2 := x2 hok
  refine Tot.bind (once_T hq2 4) fun z hz => ?_
  refine Tot.ite (fun _ => ?_) (fun _ => Tot.ret (by omega))
  obtain ⟨i, q3, hi, i0, i1, hq3⟩ := below_tot hz 90
  have i1 := i1 (by decide)
  refine Tot.bind (Tot.of hi rfl) ?_
  rintro _ rfl
  refine Tot.yes i0 (Tot.yes (by show i ≤ (x.1.size : Int); omega) ?_)
  obtain ⟨m, q4, hm, m0, m1, hq4⟩ := below_tot hq3 256
  refine Tot.bind (Tot.of hm rfl) ?_
  rintro _ rfl
  refine Tot.bind (Tot.of rfl rfl) ?_
  rintro _ rfl
  have s1 : (strOfNums [m % 256]).size = 1 := strOfNums_size _
  have e1 : (x.1.extract 0 i.toNat).size ≤ 5000 := by rw [ByteArray.size_extract]; omega
  have ew : wrap64 (i + 1) = i + 1 := w64_in (by omega) (by omega)
  have e2 : (x.1.extract (wrap64 (i + 1)).toNat x.1.size).size = x.1.size - (i + 1).toNat := by rw [ew, ByteArray.size_extract]; omega
  refine Tot.yes (by dsimp only; rw [s1]; omega) (Tot.yes (by dsimp only; rw [ew]; omega) (Tot.yes (by dsimp only; rw [ew]; omega) (Tot.yes (by dsimp only; rw [ByteArray.size_append, s1, e2]; omega) (Tot.ret ?_))))
  have e3 : (x.1.extract 0 i.toNat).size = i.toNat := by rw [ByteArray.size_extract]; omega
  rw [ByteArray.size_append, ByteArray.size_append, s1, e2, e3]
  omega
theorem drawSum_T {l : List Int} (hl : l.length ≤ 1048576) (hb : ∀ x ∈ l, 0 ≤ x ∧ x ≤ 255) : Tot (fun k => spec_DrawHeaderSum.f k l) (fun r => r.size ≤ 1024) := by
  obtain ⟨e0, h0⟩ := open_tot hl hb
  unfold spec_DrawHeaderSum.f
  refine Tot.bind (Tot.of e0 rfl) ?_
  rintro _ rfl
  exact Tot.bind (rom_T h0) fun r hr => Tot.ret hr.1
theorem FnHeaders : laws_FnHeaders.Pure := by
  intro l _ _ hw
  refine Tot.done ?_
  unfold laws_FnHeaders.f laws_big.f
  refine Tot.bind (Tot.of rfl rfl) ?_
  rintro _ rfl
  refine Tot.ite (fun _ => Tot.ret rfl) (fun hbig => ?_)
  have hl : l.length ≤ 1048576 := by simp at hbig; omega
  refine Tot.bind (drawHdr_T hl (bytes_wf hw)) fun rom hrom => ?_
  obtain ⟨hs, h1⟩ := header_T rom (by omega)
  obtain ⟨ws, h2⟩ := whole_T rom (by omega)
  have h1' : Tot (fun k => impl_HeaderSum.f k rom) (fun x => x = hs) := Tot.congr (fun k => (header_eq rom (by omega) k).symm) h1
  have h2' : Tot (fun k => impl_WholeSum.f k rom) (fun x => x = ws) := Tot.congr (fun k => (whole_eq rom (by omega) k).symm) h2
  refine Tot.bind (iHeader_T rom (by omega) h1' h2') ?_
  intro h hh
  rw [show h = hdr rom hs ws from hh]
  refine Tot.bind (sHeader_T rom (by omega) h1 h2) ?_
  intro g hg
  rw [show g = hdr rom hs ws from hg]
  refine Tot.bind (drawSum_T hl (bytes_wf hw)) fun o ho => ?_
  obtain ⟨os, o1⟩ := header_T o (by omega)
  obtain ⟨ow, o2⟩ := whole_T o (by omega)
  refine Tot.bind (Tot.congr (fun k => (header_eq o (by omega) k).symm) o1) ?_
  intro a ha
  rw [show a = os from ha]
  refine Tot.bind o1 ?_
  intro b hb
  rw [show b = os from hb]
  refine Tot.bind (Tot.congr (fun k => (whole_eq o (by omega) k).symm) o2) ?_
  intro c hc
  rw [show c = ow from hc]
  refine Tot.bind o2 ?_
  intro d hd
  rw [show d = ow from hd]
  refine Tot.yes rfl (Tot.yes rfl (Tot.yes rfl (Tot.ite (fun hok => ?_) (fun _ => Tot.ret rfl))))
  have hok : (hdr rom hs ws).2.2.2.2.2 = true := hok
  by_cases hb : (rom.size : Int) % 256 = 0 ∧ 2 ≤ (rom.size : Int) / 256 ∧ (rom.size : Int) / 256 ≤ 16
  rotate_left
  · unfold hdr at hok; rw [if_neg hb] at hok; cases hok
  by_cases hk : hdrOk rom hs ws = true
  rotate_left
  · unfold hdr at hok; rw [if_pos hb, if_neg hk] at hok; cases hok
  have ev : hdr rom hs ws = (ttl rom, bt rom 71, (rom.size : Int) / 256, bt rom 77, 256 * bt rom 78 + bt rom 79, true) := by unfold hdr; rw [if_pos hb, if_pos hk]
  rw [ev]
  have hk' := hk
  unfold hdrOk at hk'
  simp only [Bool.and_eq_true, decide_eq_true_eq] at hk'
  obtain ⟨⟨_, k77⟩, k78⟩ := hk'
  obtain ⟨t1, t2, t3⟩ := turn_facts rom (by omega)
  obtain ⟨hs2, g1⟩ := header_T (turnedAt rom) (by omega)
  obtain ⟨ws2, g2⟩ := whole_T (turnedAt rom) (by omega)
  have g1' : Tot (fun k => impl_HeaderSum.f k (turnedAt rom)) (fun x => x = hs2) := Tot.congr (fun k => (header_eq _ (by omega) k).symm) g1
  have g2' : Tot (fun k => impl_WholeSum.f k (turnedAt rom)) (fun x => x = ws2) := Tot.congr (fun k => (whole_eq _ (by omega) k).symm) g2
  have hne : hs2 ≠ hs := by
    intro e
    have := sum_turns (A := rom) (B := turnedAt rom) (by omega) t1.symm hb (fun j j0 j1 j2 => (t2 j (by omega) (by omega) j2).symm) h1' g1'
    rw [e, Int.sub_self] at this
    exact t3 this.symm
  have hbad : hdrOk (turnedAt rom) hs2 ws2 = false := by
    unfold hdrOk
    rw [t2 77 (by decide) (by omega) (by decide), decide_eq_false (show ¬ bt rom 77 = hs2 by rw [k77]; exact fun h => hne h.symm)]
    simp
  unfold laws_FnHeaders.tail
  refine Tot.yes (by show (55 : Int) < (rom.size : Int); omega) (Tot.bind (iHeader_T (turnedAt rom) (by omega) g1' g2') ?_)
  intro q hq
  rw [show q = _ from hq]
  refine Tot.bind h1' ?_
  intro e he
  rw [show e = hs from he]
  refine Tot.bind h2' ?_
  intro g hg
  rw [show g = ws from hg]
  refine Tot.yes ?_ (Tot.yes k77 (Tot.yes k78 (Tot.ret rfl)))
  unfold hdr
  rw [hbad]
  split <;> rfl
end Go.Proofs.YtcohcndliaaacaaDoor.Pure
