import Derived.Test.YtodlnnoekccmmaaGreatDoorZQFnInsx
import Derived.Test.YtodlnnoekccmmaaGreatDoorZLib
namespace Go.Proofs.YtodlnnoekccmmaaGreatDoor.Pure
open Go.RowKit Go.Proofs.YtodlnnoekccmmaaGreatDoor.QFnIns Go.Proofs.YtodlnnoekccmmaaGreatDoorW.PrintWords Go.Proofs.YtodlnnoekccmmaaGreatDoorW.PrintLast Go.Proofs.YtodlnnoekccmmaaGreatDoor.Lib Go.Proofs.YtodlnnoekccmmaaGreatDoor.LibX Go.Proofs.YtodlnnoekccmmaaGreatDoor.LibE
set_option linter.unusedSimpArgs false
set_option linter.unusedVariables false

def Tot {α : Type} (g : Nat → Option α) (P : α → Prop) : Prop := ∃ K r, P r ∧ ∀ k, K ≤ k → g k = some r
theorem Tot.ret {α : Type} {r : α} {P : α → Prop} (h : P r) : Tot (fun _ => some r) P := ⟨0, r, h, fun _ _ => rfl⟩
theorem Tot.of {α : Type} {g : Option α} {r : α} {P : α → Prop} (e : g = some r) (h : P r) : Tot (fun _ => g) P := ⟨0, r, h, fun _ _ => e⟩
theorem Tot.bind {α β : Type} {g : Nat → Option α} {f : Nat → α → Option β} {P : α → Prop} {Q : β → Prop} (h : Tot g P) (hf : ∀ a, P a → Tot (fun k => f k a) Q) : Tot (fun k => (g k).bind (f k)) Q := by
  obtain ⟨K, a, ha, hg⟩ := h
  obtain ⟨L, r, hr, hk⟩ := hf a ha
  exact ⟨max K L, r, hr, fun k hk' => by show (g k).bind (f k) = some r; rw [hg k (by omega)]; exact hk k (by omega)⟩
theorem Tot.ite {α : Type} {c : Prop} [Decidable c] {g f : Nat → Option α} {P : α → Prop} (h1 : c → Tot g P) (h2 : ¬ c → Tot f P) : Tot (fun k => if c then g k else f k) P := by
  by_cases h : c
  · obtain ⟨K, r, hr, hk⟩ := h1 h
    exact ⟨K, r, hr, fun k hk' => by show (if c then g k else f k) = some r; rw [if_pos h]; exact hk k hk'⟩
  · obtain ⟨K, r, hr, hk⟩ := h2 h
    exact ⟨K, r, hr, fun k hk' => by show (if c then g k else f k) = some r; rw [if_neg h]; exact hk k hk'⟩
theorem Tot.yes {α : Type} {c : Prop} [Decidable c] {g f : Nat → Option α} {P : α → Prop} (h : c) (h1 : Tot g P) : Tot (fun k => if c then g k else f k) P := Tot.ite (fun _ => h1) (fun n => absurd h n)
theorem Tot.no {α : Type} {c : Prop} [Decidable c] {g f : Nat → Option α} {P : α → Prop} (h : ¬ c) (h1 : Tot f P) : Tot (fun k => if c then g k else f k) P := Tot.ite (fun n => absurd n h) (fun _ => h1)
theorem Tot.mono {α : Type} {g : Nat → Option α} {P Q : α → Prop} (h : Tot g P) (hi : ∀ a, P a → Q a) : Tot g Q := by
  obtain ⟨K, r, hr, hk⟩ := h
  exact ⟨K, r, hi r hr, hk⟩
theorem Tot.step {α : Type} {g f : Nat → Option α} {P : α → Prop} (h : ∀ k, g (k + 1) = f k) (hf : Tot f P) : Tot g P := by
  obtain ⟨K, r, hr, hk⟩ := hf
  exact ⟨K + 1, r, hr, fun k hk' => by obtain ⟨m, rfl⟩ : ∃ m, k = m + 1 := ⟨k - 1, by omega⟩; rw [h]; exact hk m (by omega)⟩
theorem Tot.lift {α : Type} {g : Nat → Option α} {P : α → Prop} (hm : ∀ k, LeO (g k) (g (k + 1))) {k : Nat} {r : α} (e : g k = some r) (h : P r) : Tot g P := ⟨k, r, h, fun _ hk => at_rounds hm hk e⟩
theorem Tot.congr {α : Type} {g f : Nat → Option α} {P : α → Prop} (h : ∀ k, g k = f k) (hf : Tot f P) : Tot g P := by
  obtain ⟨K, r, hr, hk⟩ := hf
  exact ⟨K, r, hr, fun k hk' => (h k).trans (hk k hk')⟩
theorem Tot.eq {α : Type} {g : Nat → Option α} {r : α} (h : Tot g (fun x => x = r)) : ∃ K, ∀ k, K ≤ k → g k = some r := by
  obtain ⟨K, x, hx, hk⟩ := h
  subst hx
  exact ⟨K, hk⟩
theorem Tot.done {g : Nat → Option Bool} (h : Tot g (fun x => x = true)) : ∃ k, g k = some true := by
  obtain ⟨K, hk⟩ := h.eq
  exact ⟨K, hk K (Nat.le_refl _)⟩

def RdOk (s : List Int) (p : Int) : Prop := 0 ≤ p ∧ p ≤ s.length ∧ s.length ≤ 1048576 ∧ ∀ x ∈ s, 0 ≤ x ∧ x ≤ 255
theorem rd_mem {s : List Int} {p : Int} (h0 : 0 ≤ p) (h1 : p < (s.length : Int)) : rd s p ∈ s := by
  unfold rd
  rw [List.getD_eq_getElem?_getD, List.getElem?_eq_getElem (by omega)]
  exact List.getElem_mem _
theorem open_tot {l : List Int} (hl : l.length ≤ 1048576) (hb : ∀ x ∈ l, 0 ≤ x ∧ x ≤ 255) : spec_l1Open.f l = some (l, 0) ∧ RdOk l 0 :=
  ⟨rfl, by omega, by omega, hl, hb⟩
theorem next_tot {s : List Int} {p : Int} (h : RdOk s p) : ∃ v q, spec_l1Rd_next.f s p = some (v, q) ∧ 0 ≤ v ∧ v ≤ 255 ∧ RdOk s q := by
  obtain ⟨h0, h1, h2, h3⟩ := h
  unfold spec_l1Rd_next.f
  by_cases c : p ≥ (s.length : Int)
  · rw [if_pos c]
    exact ⟨0, p, rfl, by omega, by omega, h0, h1, h2, h3⟩
  · have hm := h3 _ (rd_mem h0 (show p < (s.length : Int) by omega))
    have e : p + 1 - 1 = p := by omega
    rw [if_neg c, w64_in (n := p + 1) (by omega) (by omega), w64_in (n := p + 1 - 1) (by omega) (by omega), e, if_pos h0, if_pos (by omega), w64_in (n := rd s p) (by omega) (by omega)]
    exact ⟨_, _, rfl, hm.1, hm.2, by omega, by omega, h2, h3⟩
theorem below_tot {s : List Int} {p : Int} (h : RdOk s p) (n : Int) : ∃ v q, spec_l1Rd_below.f s p n = some (v, q) ∧ 0 ≤ v ∧ (1 ≤ n → v < n) ∧ RdOk s q := by
  unfold spec_l1Rd_below.f
  by_cases c : n ≤ 1
  · rw [if_pos c]
    exact ⟨0, p, rfl, by omega, by omega, h⟩
  · rw [if_neg c]
    obtain ⟨v, q, e1, v0, v1, h1⟩ := next_tot h
    by_cases c2 : n ≤ 256
    · rw [if_pos c2, e1]
      simp only [Option.bind_some]
      rw [if_neg (by omega), tmod_pos _ v0]
      exact ⟨_, _, rfl, Int.emod_nonneg _ (by omega), fun _ => Int.emod_lt_of_pos _ (by omega), h1⟩
    · obtain ⟨u, r, e2, u0, u1, h2⟩ := next_tot h1
      rw [if_neg c2, e1]
      simp only [Option.bind_some]
      rw [e2]
      simp only [Option.bind_some]
      rw [if_neg (by omega), w64_in (n := v * 256) (by omega) (by omega), w64_in (n := v * 256 + u) (by omega) (by omega), tmod_pos _ (by omega)]
      exact ⟨_, _, rfl, Int.emod_nonneg _ (by omega), fun _ => Int.emod_lt_of_pos _ (by omega), h2⟩

theorem once_tot {s : List Int} {p : Int} (h : RdOk s p) (n : Int) : ∃ b q, spec_l1Rd_once.f s p n = some (b, q) ∧ RdOk s q := by
  obtain ⟨v, q, e, _, _, hq⟩ := below_tot h n
  unfold spec_l1Rd_once.f
  rw [e]
  exact ⟨_, _, rfl, hq⟩

theorem word_tot_l {s : List Int} : ∀ (k : Nat) (x i p : Int), RdOk s p → 0 ≤ i → i ≤ 8 → 8 - i < k → ∃ v q, spec_l1Rd_word.l0 k x i s p = some (v, q) ∧ RdOk s q := by
  intro k
  induction k with
  | zero => intros; omega
  | succ k ih =>
    intro x i p h i0 i1 hk
    simp only [spec_l1Rd_word.l0]
    by_cases c : i < 8
    · obtain ⟨v, q, e, _, _, hq⟩ := next_tot h
      rw [if_pos c, e]
      simp only [Option.bind_some]
      rw [w64_in (n := i + 1) (by omega) (by omega)]
      exact ih _ _ _ hq (by omega) (by omega) (by omega)
    · rw [if_neg c]
      exact ⟨_, _, rfl, h⟩
theorem word_tot {s : List Int} {p : Int} (h : RdOk s p) {k : Nat} (hk : 9 ≤ k) : ∃ v q, spec_l1Rd_word.f k s p = some (v, q) ∧ RdOk s q :=
  word_tot_l k 0 0 p h (by omega) (by omega) (by omega)

theorem near_tot {s : List Int} {p : Int} (h : RdOk s p) {k : Nat} (hk : 9 ≤ k) (lo hi : Int) (hlo : -4294967296 ≤ lo) (hhi : hi ≤ 4294967296) : ∃ v q, spec_l1Rd_near.f k s p lo hi = some (v, q) ∧ RdOk s q := by
  unfold spec_l1Rd_near.f
  obtain ⟨v, q, e, _, _, hq⟩ := below_tot h 8
  rw [e]
  simp only [Option.bind_some]
  by_cases c0 : v = 0
  · rw [if_pos c0]; exact ⟨_, _, rfl, hq⟩
  · rw [if_neg c0]
    by_cases c1 : v = 1
    · rw [if_pos c1]; exact ⟨_, _, rfl, hq⟩
    · rw [if_neg c1]
      by_cases c2 : hi < lo
      · rw [if_pos c2]; exact ⟨_, _, rfl, hq⟩
      · rw [if_neg c2]
        obtain ⟨x, r, e2, hr⟩ := word_tot hq hk
        rw [e2]
        simp only [Option.bind_some]
        rw [w64_in (n := hi - lo) (by omega) (by omega), w64_in (n := hi - lo + 1) (by omega) (by omega), u64_in (n := hi - lo + 1) (by omega) (by omega), if_neg (by omega)]
        exact ⟨_, _, rfl, hr⟩
theorem off_tot {s : List Int} {p : Int} (h : RdOk s p) {k : Nat} (hk : 9 ≤ k) (lo hi : Int) (hlo : -4294967296 ≤ lo) (hhi : hi ≤ 4294967296) : ∃ v q, spec_l1Rd_off.f k s p lo hi = some (v, q) ∧ RdOk s q := by
  unfold spec_l1Rd_off.f
  obtain ⟨b, q, e, hq⟩ := once_tot h 24
  rw [e]
  simp only [Option.bind_some]
  by_cases c : b = true
  · rw [if_pos c]
    obtain ⟨v, r, e2, v0, v1, hr⟩ := below_tot hq 4
    rw [e2]
    simp only [Option.bind_some]
    have v4 := v1 (by omega)
    rw [if_pos v0, if_pos (by simp only [List.length_cons, List.length_nil]; omega)]
    exact ⟨_, _, rfl, hr⟩
  · rw [if_neg c]
    obtain ⟨v, r, e2, hr⟩ := near_tot hq hk lo hi hlo hhi
    rw [e2]
    exact ⟨_, _, rfl, hr⟩

theorem byte_tot {s : List Int} {p : Int} (h : RdOk s p) : ∃ v q, spec_l1Rd_byte.f s p = some (v, q) ∧ 0 ≤ v ∧ v ≤ 255 ∧ RdOk s q := by
  unfold spec_l1Rd_byte.f
  obtain ⟨b, q, e, hq⟩ := once_tot h 2
  rw [e]
  simp only [Option.bind_some]
  by_cases c : b = true
  · rw [if_pos c]
    obtain ⟨v, r, e2, v0, v1, hr⟩ := below_tot hq 8
    rw [e2]
    simp only [Option.bind_some]
    have v4 := v1 (by omega)
    rw [if_pos v0, if_pos (by simp only [List.length_cons, List.length_nil]; omega)]
    refine ⟨_, _, rfl, ?_, ?_, hr⟩
    · rcases (show v = 0 ∨ v = 1 ∨ v = 2 ∨ v = 3 ∨ v = 4 ∨ v = 5 ∨ v = 6 ∨ v = 7 by omega) with rfl | rfl | rfl | rfl | rfl | rfl | rfl | rfl <;> decide
    · rcases (show v = 0 ∨ v = 1 ∨ v = 2 ∨ v = 3 ∨ v = 4 ∨ v = 5 ∨ v = 6 ∨ v = 7 by omega) with rfl | rfl | rfl | rfl | rfl | rfl | rfl | rfl <;> decide
  · rw [if_neg c]
    obtain ⟨v, r, e2, v0, v1, hr⟩ := below_tot hq 256
    rw [e2]
    have := v1 (by omega)
    exact ⟨_, _, rfl, v0, by omega, hr⟩

theorem below_T {s : List Int} {p : Int} (h : RdOk s p) (n : Int) : Tot (fun _ => spec_l1Rd_below.f s p n) (fun r => 0 ≤ r.1 ∧ (1 ≤ n → r.1 < n) ∧ RdOk s r.2) := by
  obtain ⟨v, q, e, h0, h1, h2⟩ := below_tot h n
  exact Tot.of e ⟨h0, h1, h2⟩
theorem once_T {s : List Int} {p : Int} (h : RdOk s p) (n : Int) : Tot (fun _ => spec_l1Rd_once.f s p n) (fun r => RdOk s r.2) := by
  obtain ⟨v, q, e, h0⟩ := once_tot h n
  exact Tot.of e h0
theorem byte_T {s : List Int} {p : Int} (h : RdOk s p) : Tot (fun _ => spec_l1Rd_byte.f s p) (fun r => 0 ≤ r.1 ∧ r.1 ≤ 255 ∧ RdOk s r.2) := by
  obtain ⟨v, q, e, h0, h1, h2⟩ := byte_tot h
  exact Tot.of e ⟨h0, h1, h2⟩
theorem off_T {s : List Int} {p : Int} (h : RdOk s p) (lo hi : Int) (hlo : -4294967296 ≤ lo) (hhi : hi ≤ 4294967296) : Tot (fun k => spec_l1Rd_off.f k s p lo hi) (fun r => RdOk s r.2) := by
  obtain ⟨v, q, e, h2⟩ := off_tot h (k := 9) (Nat.le_refl _) lo hi hlo hhi
  exact Tot.lift (fun k => spec_l1Rd_off.mono _ _ _ _ k) e h2

theorem bytes_wf {l : List Int} (h : ∀ x ∈ l, (Lit.int .u8 x).wf = true) : ∀ x ∈ l, 0 ≤ x ∧ x ≤ 255 := by
  intro x hx
  have h1 := h x hx
  have e0 : IntKind.u8.min = 0 := rfl
  have e1 : IntKind.u8.max = 255 := rfl
  simp only [Lit.wf, e0, e1, Bool.and_eq_true, decide_eq_true_eq] at h1
  exact h1

theorem all256 {P : Int → Prop} (h : ∀ n : Fin 256, P ((n.val : Nat) : Int)) {n : Int} (h0 : 0 ≤ n) (h1 : n < 256) : P n := by
  have := h ⟨n.toNat, by omega⟩
  rwa [show ((n.toNat : Nat) : Int) = n by omega] at this
def vS (o : Option ByteArray) : ByteArray := o.getD ⟨#[]⟩

def tm (cb : Bool) (n : Int) : ByteArray := vS (impl_TemplateOf.f 40 n cb)
def hk (cb : Bool) (n : Int) : Nat :=
  if (tm cb n).size = 0 then 0 else
  match impl_holeOf.f 40 (tm cb n) with
  | some h => if h = ⟨#[110, 56]⟩ then 2 else if h = ⟨#[101, 56]⟩ then 3 else if h = ⟨#[110, 49, 54]⟩ then 4 else 1
  | none => 9
def holeS (h : Nat) : ByteArray := if h = 2 then ⟨#[110, 56]⟩ else if h = 3 then ⟨#[101, 56]⟩ else if h = 4 then ⟨#[110, 49, 54]⟩ else ⟨#[]⟩
def lenK (cb : Bool) (h : Nat) : Int := if h = 0 then 0 else if cb = true then 2 else if h = 1 then 1 else if h = 4 then 3 else 2
def hp (cb : Bool) (n : Int) : Int := match spec_l3Hole.f 40 (tm cb n) with
  | some r => r.1
  | none => -2
def QC (cb : Bool) (n : Int) : Prop :=
  impl_TemplateOf.f 40 n cb = some (tm cb n) ∧ spec_l3Template.f 40 n cb = some (tm cb n) ∧ ((tm cb n).size = 0 ↔ hk cb n = 0) ∧ hk cb n ≤ 4 ∧
  impl_holeOf.f 40 (tm cb n) = some (holeS (hk cb n)) ∧ spec_l3Hole.f 40 (tm cb n) = some (hp cb n, holeS (hk cb n)) ∧ (cb = true → hk cb n = 1) ∧ (tm cb n).size ≤ 24 ∧ (cb = false → n = 203 → hk cb n = 0)
instance (cb : Bool) (n : Int) : Decidable (QC cb n) := by unfold QC; infer_instance
set_option maxRecDepth 100000 in
theorem qc1 : ∀ n : Fin 256, QC true ((n.val : Nat) : Int) := by decide +kernel
set_option maxRecDepth 100000 in
theorem qc0 : ∀ n : Fin 256, QC false ((n.val : Nat) : Int) := by decide +kernel
theorem qc (cb : Bool) {n : Int} (h0 : 0 ≤ n) (h1 : n < 256) : QC cb n := by
  cases cb
  · exact all256 qc0 h0 h1
  · exact all256 qc1 h0 h1
theorem toL (a : ByteArray) : a.toList = a.data.toList := ByteArray.toList_eq a
theorem nil_size (a : ByteArray) : a.toList = ([] : List UInt8) ↔ a.size = 0 := by
  rw [toL]
  constructor
  · intro h
    have := congrArg List.length h
    rwa [Array.length_toList] at this
  · intro h
    exact List.eq_nil_of_length_eq_zero (by rw [Array.length_toList]; exact h)
theorem holeS_nil (h : Nat) (hh : h ≤ 4) : (holeS h).toList = ([] : List UInt8) ↔ h ≤ 1 := by
  rw [toL]
  rcases (show h = 0 ∨ h = 1 ∨ h = 2 ∨ h = 3 ∨ h = 4 by omega) with rfl | rfl | rfl | rfl | rfl <;> decide
theorem holeS_n16 (h : Nat) (hh : h ≤ 4) : (holeS h).toList = ([110, 49, 54] : List UInt8) ↔ h = 4 := by
  rw [toL]
  rcases (show h = 0 ∨ h = 1 ∨ h = 2 ∨ h = 3 ∨ h = 4 by omega) with rfl | rfl | rfl | rfl | rfl <;> decide
theorem holeS_n8 (h : Nat) (hh : h ≤ 4) : (holeS h).toList = ([110, 56] : List UInt8) ↔ h = 2 := by
  rw [toL]
  rcases (show h = 0 ∨ h = 1 ∨ h = 2 ∨ h = 3 ∨ h = 4 by omega) with rfl | rfl | rfl | rfl | rfl <;> decide
theorem holeS_e8 (h : Nat) (hh : h ≤ 4) : (holeS h).toList = ([101, 56] : List UInt8) ↔ h = 3 := by
  rw [toL]
  rcases (show h = 0 ∨ h = 1 ∨ h = 2 ∨ h = 3 ∨ h = 4 by omega) with rfl | rfl | rfl | rfl | rfl <;> decide
theorem tmI_T (cb : Bool) {n : Int} (h0 : 0 ≤ n) (h1 : n < 256) : Tot (fun k => impl_TemplateOf.f k n cb) (· = tm cb n) :=
  Tot.lift (fun k => impl_TemplateOf.mono _ _ k) (qc cb h0 h1).1 rfl
theorem tmS_T (cb : Bool) {n : Int} (h0 : 0 ≤ n) (h1 : n < 256) : Tot (fun k => spec_l3Template.f k n cb) (· = tm cb n) :=
  Tot.lift (fun k => spec_l3Template.mono _ _ k) (qc cb h0 h1).2.1 rfl
theorem hoI_T (cb : Bool) {n : Int} (h0 : 0 ≤ n) (h1 : n < 256) : Tot (fun k => impl_holeOf.f k (tm cb n)) (· = holeS (hk cb n)) :=
  Tot.lift (fun k => impl_holeOf.mono _ k) (qc cb h0 h1).2.2.2.2.1 rfl
theorem hoS_T (cb : Bool) {n : Int} (h0 : 0 ≤ n) (h1 : n < 256) : Tot (fun k => spec_l3Hole.f k (tm cb n)) (· = (hp cb n, holeS (hk cb n))) :=
  Tot.lift (fun k => spec_l3Hole.mono _ k) (qc cb h0 h1).2.2.2.2.2.1 rfl
theorem hk_le (cb : Bool) {n : Int} (h0 : 0 ≤ n) (h1 : n < 256) : hk cb n ≤ 4 := (qc cb h0 h1).2.2.2.1
theorem tm_nil (cb : Bool) {n : Int} (h0 : 0 ≤ n) (h1 : n < 256) : (tm cb n).toList = ([] : List UInt8) ↔ hk cb n = 0 := (nil_size _).trans (qc cb h0 h1).2.2.1
theorem hk_cb {n : Int} (h0 : 0 ≤ n) (h1 : n < 256) : hk true n = 1 := (qc true h0 h1).2.2.2.2.2.2.1 rfl
theorem hk_203 : hk false 203 = 0 := (qc false (n := 203) (by decide) (by decide)).2.2.2.2.2.2.2.2 rfl rfl
theorem withinI (a lo hi : Int) : impl_within.f a lo hi = some (decide (lo ≤ a ∧ a ≤ hi)) := by
  unfold impl_within.f
  by_cases h : a ≥ lo
  · rw [if_pos h]; simp [show lo ≤ a from h]
  · rw [if_neg h]; simp [show ¬ lo ≤ a from h]
theorem inS (a lo hi : Int) : spec_l1In.f a lo hi = some (decide (lo ≤ a ∧ a ≤ hi)) := by
  unfold spec_l1In.f
  by_cases h : a ≥ lo
  · rw [if_pos h]; simp [show lo ≤ a from h]
  · rw [if_neg h]; simp [show ¬ lo ≤ a from h]
theorem byteI (a : Int) : impl_isByte.f a = some (decide (0 ≤ a ∧ a ≤ 255)) := by unfold impl_isByte.f; rw [withinI]; rfl
theorem wordI (a : Int) : impl_isWord.f a = some (decide (0 ≤ a ∧ a ≤ 65535)) := by unfold impl_isWord.f; rw [withinI]; rfl
theorem lenJ (k : Nat) (h : ByteArray) (x : Bool) : impl_LengthOf.j0 (k + 1) h x = if x = true then some 2 else if h.toList = ([110, 49, 54] : List UInt8) then some 3 else some 1 := by
  rw [impl_LengthOf.j0]
theorem lenI_T (cb : Bool) {n : Int} (h0 : 0 ≤ n) (h1 : n < 256) : Tot (fun k => impl_LengthOf.f k n cb) (· = lenK cb (hk cb n)) := by
  have hle := hk_le cb h0 h1
  unfold impl_LengthOf.f
  refine Tot.bind (tmI_T cb h0 h1) ?_
  rintro _ rfl
  refine Tot.bind (hoI_T cb h0 h1) ?_
  rintro _ rfl
  unfold lenK
  refine Tot.ite (fun h => Tot.ret (by rw [if_pos ((tm_nil cb h0 h1).1 h)])) (fun h => ?_)
  rw [if_neg (fun e => h ((tm_nil cb h0 h1).2 e))]
  have hne : hk cb n ≠ 0 := fun e => h ((tm_nil cb h0 h1).2 e)
  refine Tot.ite (fun hc => ?_) (fun hc => ?_)
  · rw [if_pos hc]
    exact Tot.step (fun k => lenJ k _ _) (Tot.yes rfl (Tot.ret rfl))
  rw [if_neg hc]
  refine Tot.ite (fun h8 => ?_) (fun h8 => ?_)
  · have := (holeS_n8 _ hle).1 h8
    exact Tot.step (fun k => lenJ k _ _) (Tot.yes rfl (Tot.ret (by rw [if_neg (by omega), if_neg (by omega)])))
  have g8 : hk cb n ≠ 2 := fun e => h8 ((holeS_n8 _ hle).2 e)
  refine Tot.step (fun k => lenJ k _ _) (Tot.ite (fun he => Tot.ret ?_) (fun he => ?_))
  · have := (holeS_e8 _ hle).1 (eq_of_beq he)
    rw [if_neg (by omega), if_neg (by omega)]
  have ge : hk cb n ≠ 3 := fun e => he (beq_iff_eq.2 ((holeS_e8 _ hle).2 e))
  refine Tot.ite (fun hw => Tot.ret ?_) (fun hw => Tot.ret ?_)
  · have := (holeS_n16 _ hle).1 hw
    rw [if_neg (by omega), if_pos this]
  · have : hk cb n ≠ 4 := fun e => hw ((holeS_n16 _ hle).2 e)
    rw [if_pos (by omega)]
theorem lenS3_T (cb : Bool) {n : Int} (h0 : 0 ≤ n) (h1 : n < 256) : Tot (fun k => spec_l3Length.f k n cb) (· = lenK cb (hk cb n)) := by
  have hle := hk_le cb h0 h1
  unfold spec_l3Length.f
  refine Tot.bind (tmS_T cb h0 h1) ?_
  rintro _ rfl
  unfold lenK
  refine Tot.ite (fun h => Tot.ret (by rw [if_pos ((tm_nil cb h0 h1).1 h)])) (fun h => ?_)
  have hne : hk cb n ≠ 0 := fun e => h ((tm_nil cb h0 h1).2 e)
  rw [if_neg hne]
  refine Tot.ite (fun hc => Tot.ret (by rw [if_pos hc])) (fun hc => ?_)
  rw [if_neg hc]
  refine Tot.bind (hoS_T cb h0 h1) ?_
  rintro _ rfl
  refine Tot.ite (fun hz => Tot.ret ?_) (fun hz => ?_)
  · have := (holeS_nil _ hle).1 hz
    rw [if_pos (by omega)]
  have gz : ¬ hk cb n ≤ 1 := fun e => hz ((holeS_nil _ hle).2 e)
  have g1 : ¬ hk cb n = 1 := by omega
  rw [if_neg g1]
  refine Tot.ite (fun hw => Tot.ret ?_) (fun hw => Tot.ret ?_)
  · rw [if_pos ((holeS_n16 _ hle).1 hw)]
  · rw [if_neg (fun e => hw ((holeS_n16 _ hle).2 e))]
theorem lenS_T (cb : Bool) {n : Int} (h0 : 0 ≤ n) (h1 : n < 256) : Tot (fun k => spec_LengthOf.f k n cb) (· = lenK cb (hk cb n)) := by
  unfold spec_LengthOf.f
  refine Tot.bind (Tot.of (inS _ _ _) rfl) ?_
  rintro _ rfl
  refine Tot.yes (decide_eq_true ⟨h0, by omega⟩) ?_
  exact Tot.bind (lenS3_T cb h0 h1) (fun _ h => Tot.ret h)
def okV (h : Nat) (m : Int) : Bool := if h = 0 then false else if h = 1 then decide (m = 0) else if h = 4 then decide (0 ≤ m ∧ m ≤ 65535) else decide (0 ≤ m ∧ m ≤ 255)
theorem okI_T (cb : Bool) {n : Int} (h0 : 0 ≤ n) (h1 : n < 256) (m : Int) : Tot (fun k => impl_InsOk.f k n cb m) (· = okV (hk cb n) m) := by
  have hle := hk_le cb h0 h1
  unfold impl_InsOk.f okV
  refine Tot.bind (tmI_T cb h0 h1) ?_
  rintro _ rfl
  refine Tot.ite (fun h => Tot.ret (by rw [if_pos ((tm_nil cb h0 h1).1 h)])) (fun h => ?_)
  have hne : hk cb n ≠ 0 := fun e => h ((tm_nil cb h0 h1).2 e)
  rw [if_neg hne]
  refine Tot.bind (hoI_T cb h0 h1) ?_
  rintro _ rfl
  refine Tot.ite (fun hz => Tot.ret ?_) (fun hz => ?_)
  · have := (holeS_nil _ hle).1 hz
    rw [if_pos (by omega)]
    by_cases e : m = 0
    · rw [e]; rfl
    · rw [beq_eq_false_iff_ne.2 e, decide_eq_false e]
  have gz : ¬ hk cb n ≤ 1 := fun e => hz ((holeS_nil _ hle).2 e)
  have g1 : ¬ hk cb n = 1 := by omega
  rw [if_neg g1]
  refine Tot.ite (fun hw => ?_) (fun hw => ?_)
  · rw [if_pos ((holeS_n16 _ hle).1 hw)]
    refine Tot.bind (Tot.of (wordI m) rfl) ?_
    rintro _ rfl
    exact Tot.ret rfl
  · rw [if_neg (fun e => hw ((holeS_n16 _ hle).2 e))]
    refine Tot.bind (Tot.of (byteI m) rfl) ?_
    rintro _ rfl
    exact Tot.ret rfl
theorem okS_T (cb : Bool) {n : Int} (h0 : 0 ≤ n) (h1 : n < 256) (m : Int) : Tot (fun k => spec_InsOk.f k n cb m) (· = okV (hk cb n) m) := by
  have hle := hk_le cb h0 h1
  unfold spec_InsOk.f okV
  refine Tot.bind (lenS_T cb h0 h1) ?_
  rintro _ rfl
  unfold lenK
  by_cases hne : hk cb n = 0
  · rw [if_pos hne, if_pos hne]
    exact Tot.yes rfl (Tot.ret rfl)
  rw [if_neg hne, if_neg hne]
  refine Tot.no (by split <;> (try split) <;> (try split) <;> omega) ?_
  refine Tot.bind (tmS_T cb h0 h1) ?_
  rintro _ rfl
  refine Tot.bind (hoS_T cb h0 h1) ?_
  rintro _ rfl
  refine Tot.ite (fun hw => ?_) (fun hw => ?_)
  · have := (holeS_n16 _ hle).1 hw
    rw [if_neg (by omega), if_pos this]
    refine Tot.bind (Tot.of (inS m _ _) rfl) ?_
    rintro _ rfl
    exact Tot.ret rfl
  have gw : hk cb n ≠ 4 := fun e => hw ((holeS_n16 _ hle).2 e)
  have jj : ∀ x : Bool, (x = true ↔ (hk cb n = 2 ∨ hk cb n = 3)) → Tot (fun k => spec_InsOk.j0 k x n cb m) (· = (if hk cb n = 1 then decide (m = 0) else if hk cb n = 4 then decide (0 ≤ m ∧ m ≤ 65535) else decide (0 ≤ m ∧ m ≤ 255))) := fun x hx =>
    Tot.step (fun k => spec_InsOk.j0.eq_2 _ _ _ _ k) (Tot.ite (fun h => by
      have := hx.1 h
      rw [if_neg (by omega), if_neg gw]
      refine Tot.bind (Tot.of (inS m _ _) rfl) ?_
      rintro _ rfl
      exact Tot.ret rfl) (fun h => by
      have : ¬ (hk cb n = 2 ∨ hk cb n = 3) := fun e => h (hx.2 e)
      rw [if_pos (by omega)]
      refine Tot.ret ?_
      by_cases e : m = 0
      · rw [e]; rfl
      · rw [beq_eq_false_iff_ne.2 e, decide_eq_false e]))
  refine Tot.ite (fun h8 => jj _ ?_) (fun h8 => jj _ ?_)
  · exact ⟨fun _ => .inl ((holeS_n8 _ hle).1 h8), fun _ => beq_iff_eq.2 h8⟩
  · have g8 : hk cb n ≠ 2 := fun e => h8 ((holeS_n8 _ hle).2 e)
    exact ⟨fun e => .inr ((holeS_e8 _ hle).1 (eq_of_beq e)), fun e => beq_iff_eq.2 ((holeS_e8 _ hle).2 (by omega))⟩

theorem str_app (a b : List Int) : strOfNums a ++ strOfNums b = strOfNums (a ++ b) := by
  apply ByteArray.ext
  rw [ByteArray.data_append]
  apply Array.ext'
  rw [Array.toList_append, strOfNums_data, strOfNums_data, strOfNums_data, List.map_append]
theorem bytesI_T (a c : Int) (h0 : 0 ≤ c) (h2 : c ≤ 2) : Tot (fun k => impl_bytesOf.f k a c) (· = strOfNums (if c = 0 then [] else if c = 1 then [a % 256] else [a % 256, a / 256 % 256])) := by
  unfold impl_bytesOf.f
  have w1 : wrap64 (1 - 1) = 0 := by decide +kernel
  have w2 : wrap64 (2 - 1) = 1 := by decide +kernel
  have e0 : ∀ (x : Int) (l : List Int), Tot (fun k => impl_bytesOf.l0 k x 0 l) (· = strOfNums l) := fun x l =>
    Tot.step (fun k => impl_bytesOf.l0.eq_2 _ _ _ k) (Tot.no (by decide) (Tot.ret rfl))
  have e1 : ∀ (x : Int) (l : List Int), l.length < 5 → Tot (fun k => impl_bytesOf.l0 k x 1 l) (· = strOfNums (l ++ [x % 256])) := fun x l hl =>
    Tot.step (fun k => impl_bytesOf.l0.eq_2 _ _ _ k) (Tot.yes (by decide) (Tot.yes (by omega) (by rw [w1]; exact e0 _ _)))
  have e2 : ∀ (x : Int) (l : List Int), l.length < 4 → Tot (fun k => impl_bytesOf.l0 k x 2 l) (· = strOfNums (l ++ [x % 256] ++ [x / 256 % 256])) := fun x l hl =>
    Tot.step (fun k => impl_bytesOf.l0.eq_2 _ _ _ k) (Tot.yes (by decide) (Tot.yes (by omega) (by rw [w2]; exact e1 _ _ (by rw [List.length_append, List.length_singleton]; omega))))
  rcases (show c = 0 ∨ c = 1 ∨ c = 2 by omega) with rfl | rfl | rfl
  · exact e0 _ _
  · exact e1 _ _ (by decide)
  · exact e2 _ _ (by decide)
theorem bytes1_T (a : Int) : Tot (fun k => impl_bytesOf.f k a 1) (· = strOfNums [a % 256]) := bytesI_T a 1 (by decide) (by decide)
def insL (cb : Bool) (n m : Int) (h : Nat) : List Int := if cb = true then [203, n] else n :: (if h = 4 then [m % 256, m / 256 % 256] else if h = 2 ∨ h = 3 then [m % 256] else [])
def insB (cb : Bool) (n m : Int) (h : Nat) : ByteArray := if okV h m = true then strOfNums (insL cb n m h) else ⟨#[]⟩
theorem insI_T (cb : Bool) {n : Int} (h0 : 0 ≤ n) (h1 : n < 256) (m : Int) : Tot (fun k => impl_InsBytes.f k n cb m) (· = insB cb n m (hk cb n)) := by
  have hle := hk_le cb h0 h1
  have en : n % 256 = n := Int.emod_eq_of_lt h0 h1
  unfold impl_InsBytes.f insB
  refine Tot.bind (okI_T cb h0 h1 m) ?_
  rintro _ rfl
  refine Tot.ite (fun ho => ?_) (fun ho => Tot.ret (by rw [if_neg ho]))
  rw [if_pos ho]
  have hne : hk cb n ≠ 0 := fun e => by rw [e] at ho; exact absurd ho (by simp [okV])
  refine Tot.ite (fun hc => ?_) (fun hc => ?_)
  · refine Tot.bind (bytes1_T 203) ?_
    rintro _ rfl
    refine Tot.bind (bytes1_T n) ?_
    rintro _ rfl
    refine Tot.yes (by rw [strOfNums_size, strOfNums_size]; simp) (Tot.ret ?_)
    rw [str_app, insL, if_pos hc, en]
    rfl
  · have hcb : cb = false := by cases cb <;> simp_all
    subst hcb
    refine Tot.bind (bytes1_T n) ?_
    rintro _ rfl
    refine Tot.bind (lenI_T false h0 h1) ?_
    rintro _ rfl
    rw [en]
    have fin : ∀ (c : Int) (xs : List Int), wrap64 (lenK false (hk false n) - 1) = c → 0 ≤ c → c ≤ 2 → (if c = 0 then [] else if c = 1 then [m % 256] else [m % 256, m / 256 % 256]) = xs → xs.length ≤ 2 → n :: xs = insL false n m (hk false n) →
        Tot (fun k => (impl_bytesOf.f k m (wrap64 (lenK false (hk false n) - 1))).bind fun t => if (strOfNums [n]).size + t.size ≤ 9223372036854775807 then some (strOfNums [n] ++ t) else none) (· = strOfNums (insL false n m (hk false n))) := by
      intro c xs hw c0 c2 hx hl hi
      rw [hw]
      refine Tot.bind (bytesI_T m c c0 c2) ?_
      rintro _ rfl
      rw [hx]
      refine Tot.yes (by rw [strOfNums_size, strOfNums_size, List.length_singleton]; omega) (Tot.ret ?_)
      rw [str_app, ← hi]
      rfl
    rcases (show hk false n = 1 ∨ hk false n = 2 ∨ hk false n = 3 ∨ hk false n = 4 by omega) with e | e | e | e
    · exact fin 0 [] (by rw [e]; decide +kernel) (by decide) (by decide) rfl (by decide) (by rw [e]; rfl)
    · exact fin 1 [m % 256] (by rw [e]; decide +kernel) (by decide) (by decide) rfl (by simp) (by rw [e]; rfl)
    · exact fin 1 [m % 256] (by rw [e]; decide +kernel) (by decide) (by decide) rfl (by simp) (by rw [e]; rfl)
    · exact fin 2 [m % 256, m / 256 % 256] (by rw [e]; decide +kernel) (by decide) (by decide) rfl (by simp) (by rw [e]; rfl)
theorem insS_T (cb : Bool) {n : Int} (h0 : 0 ≤ n) (h1 : n < 256) (m : Int) : Tot (fun k => spec_InsBytes.f k n cb m) (· = insB cb n m (hk cb n)) := by
  have hle := hk_le cb h0 h1
  have en : n % 256 = n := Int.emod_eq_of_lt h0 h1
  unfold spec_InsBytes.f insB
  refine Tot.bind (okS_T cb h0 h1 m) ?_
  rintro _ rfl
  refine Tot.ite (fun ho => ?_) (fun ho => Tot.ret (by rw [if_neg ho]))
  rw [if_pos ho]
  have hne : hk cb n ≠ 0 := fun e => by rw [e] at ho; exact absurd ho (by simp [okV])
  refine Tot.ite (fun hc => Tot.ret ?_) (fun hc => ?_)
  · rw [insL, if_pos hc, en]
  · have hcb : cb = false := by cases cb <;> simp_all
    subst hcb
    refine Tot.bind (lenS3_T false h0 h1) ?_
    rintro _ rfl
    rw [en]
    rcases (show hk false n = 1 ∨ hk false n = 2 ∨ hk false n = 3 ∨ hk false n = 4 by omega) with e | e | e | e <;> rw [e]
    · refine Tot.no (by decide) ?_
      refine Tot.no (by decide) ?_
      exact Tot.ret rfl
    · refine Tot.yes (by decide) ?_
      exact Tot.ret rfl
    · refine Tot.yes (by decide) ?_
      exact Tot.ret rfl
    · refine Tot.no (by decide) ?_
      refine Tot.yes (by decide) ?_
      exact Tot.ret rfl
def rdI (s : ByteArray) (p : Int) : Int × Bool × Int × Int :=
  if p < 0 ∨ (s.size : Int) ≤ p then (0, false, 0, 0) else
  if bt s p = 203 then (if (s.size : Int) < p + 2 then (0, false, 0, 0) else (bt s (p + 1), true, 0, 2)) else
  if lenK false (hk false (bt s p)) = 0 ∨ (s.size : Int) < p + lenK false (hk false (bt s p)) then (0, false, 0, 0) else
  (bt s p, false, (if lenK false (hk false (bt s p)) = 1 then 0 else if lenK false (hk false (bt s p)) = 2 then bt s (p + 1) else bt s (p + 1) + 256 * bt s (p + 2)), lenK false (hk false (bt s p)))
theorem rdI_out {s : ByteArray} {p : Int} (h : p < 0 ∨ (s.size : Int) ≤ p) : rdI s p = (0, false, 0, 0) := by unfold rdI; rw [if_pos h]
theorem rdI_cut {s : ByteArray} {p : Int} (h : bt s p = 203) (h2 : (s.size : Int) < p + 2) : rdI s p = (0, false, 0, 0) := by
  unfold rdI
  by_cases h0 : p < 0 ∨ (s.size : Int) ≤ p
  · rw [if_pos h0]
  · rw [if_neg h0, if_pos h, if_pos h2]
theorem rdI_cb {s : ByteArray} {p : Int} (h0 : 0 ≤ p) (h : bt s p = 203) (h2 : p + 2 ≤ (s.size : Int)) : rdI s p = (bt s (p + 1), true, 0, 2) := by
  unfold rdI
  rw [if_neg (show ¬ (p < 0 ∨ (s.size : Int) ≤ p) by omega), if_pos h, if_neg (show ¬ (s.size : Int) < p + 2 by omega)]
theorem rdI_none {s : ByteArray} {p L : Int} (hL : lenK false (hk false (bt s p)) = L) (hc : ¬ bt s p = 203) (h : L = 0 ∨ (s.size : Int) < p + L) : rdI s p = (0, false, 0, 0) := by
  unfold rdI
  by_cases h0 : p < 0 ∨ (s.size : Int) ≤ p
  · rw [if_pos h0]
  · rw [if_neg h0, if_neg hc, if_pos (by rw [hL]; exact h)]
theorem rdI_some {s : ByteArray} {p L : Int} (hL : lenK false (hk false (bt s p)) = L) (h0 : 0 ≤ p) (hc : ¬ bt s p = 203) (h1 : 1 ≤ L) (h : p + L ≤ (s.size : Int)) : rdI s p = (bt s p, false, (if L = 1 then 0 else if L = 2 then bt s (p + 1) else bt s (p + 1) + 256 * bt s (p + 2)), L) := by
  unfold rdI
  rw [if_neg (show ¬ (p < 0 ∨ (s.size : Int) ≤ p) by omega), if_neg hc, hL, if_neg (show ¬ (L = 0 ∨ (s.size : Int) < p + L) by omega)]
theorem btL (s : ByteArray) (i : Int) : bt s i = (bytesOf s).getD i.toNat 0 := by rw [← rd_bytesOf]; rfl
theorem btRange (s : ByteArray) (i : Int) : 0 ≤ bt s i ∧ bt s i < 256 := by
  unfold bt
  split
  · rename_i h
    have := (s[i.toNat]'h).toNat_lt
    omega
  · omega
theorem bytesOf_rest' (a : ByteArray) (i : Nat) : bytesOf (a.extract i a.size) = (bytesOf a).drop i := by
  unfold bytesOf
  rw [ByteArray.data_extract, Array.toList_extract, List.extract_eq_take_drop, List.map_take, List.map_drop, List.take_of_length_le]
  rw [List.length_drop, List.length_map, Array.length_toList]
  exact Nat.le_refl _
theorem bt_rest (s : ByteArray) (p i : Int) (h0 : 0 ≤ p) (h1 : 0 ≤ i) : bt (s.extract p.toNat s.size) i = bt s (p + i) := by
  rw [btL, btL, bytesOf_rest', List.getD_eq_getElem?_getD, List.getD_eq_getElem?_getD, List.getElem?_drop, show p.toNat + i.toNat = (p + i).toNat by omega]
theorem size_rest (s : ByteArray) (p : Int) (h0 : 0 ≤ p) (h1 : p ≤ s.size) : ((s.extract p.toNat s.size).size : Int) = s.size - p := by
  rw [ByteArray.size_extract]; omega
theorem or_b {x b : Int} (hx : 0 ≤ x) (hx1 : x < 16777216) (hb : 0 ≤ b) (hb1 : b < 256) : Go.bits .or .i64 (x * 256) b = 256 * x + b := by
  obtain ⟨m, rfl⟩ := Int.eq_ofNat_of_zero_le hx
  obtain ⟨n, rfl⟩ := Int.eq_ofNat_of_zero_le hb
  have := bits_or (m * 256) n (by omega) (by omega)
  rw [show ((m : Int) * 256) = ((m * 256 : Nat) : Int) by omega, this]
  have h2 : 2 ^ 8 * m + n = 2 ^ 8 * m ||| n := Nat.two_pow_add_eq_or_of_lt (by omega) m
  rw [show m * 256 ||| n = 2 ^ 8 * m + n by rw [h2, Nat.mul_comm]]
  omega
theorem lenK_range (h : Nat) : 0 ≤ lenK false h ∧ lenK false h ≤ 3 := by
  unfold lenK
  split
  · omega
  · rw [if_neg (by decide)]
    split
    · omega
    · split <;> omega
theorem readI_T (s : ByteArray) (p : Int) (hs : s.size ≤ 1152921504606846976) : Tot (fun k => impl_ReadIns.f k s p) (· = rdI s p) := by
  unfold impl_ReadIns.f
  refine Tot.bind (Tot.of (withinI _ _ _) rfl) ?_
  rintro _ rfl
  have w1 : wrap64 ((s.size : Int) - 1) = s.size - 1 := w64_in (by omega) (by omega)
  rw [w1]
  refine Tot.ite (fun hw => ?_) (fun hw => Tot.ret ?_)
  · have hw := of_decide_eq_true hw
    have hz := size_rest s p hw.1 (by omega)
    have b0 : bt (s.extract p.toNat s.size) 0 = bt s p := by rw [bt_rest s p 0 hw.1 (by decide), Int.add_zero]
    have b1 : bt (s.extract p.toNat s.size) 1 = bt s (p + 1) := bt_rest s p 1 hw.1 (by decide)
    have b2 : bt (s.extract p.toNat s.size) 2 = bt s (p + 2) := bt_rest s p 2 hw.1 (by decide)
    generalize s.extract p.toNat s.size = t at *
    have r0 := btRange s p
    have r1 := btRange s (p + 1)
    have r2 := btRange s (p + 2)
    refine Tot.yes hw.1 (Tot.yes (by omega) (Tot.yes (by omega) ?_))
    rw [b0, b1, w64_in (n := bt s p) (by omega) (by omega), w64_in (n := bt s (p + 1)) (by omega) (by omega)]
    refine Tot.ite (fun hc => ?_) (fun hc => ?_)
    · refine Tot.ite (fun h2 => Tot.ret (rdI_cut hc (by omega)).symm) (fun h2 => ?_)
      refine Tot.yes (by omega) (Tot.ret (rdI_cb hw.1 hc (by omega)).symm)
    refine Tot.bind (lenI_T false r0.1 r0.2) ?_
    rintro _ rfl
    have hL := lenK_range (hk false (bt s p))
    obtain ⟨L, eL⟩ : ∃ L, lenK false (hk false (bt s p)) = L := ⟨_, rfl⟩
    rw [eL] at hL ⊢
    refine Tot.ite (fun hz0 => Tot.step (fun k => impl_ReadIns.j0.eq_2 _ _ _ _ _ _ k) (Tot.yes rfl (Tot.ret (rdI_none eL hc (.inl hz0)).symm))) (fun hz0 => ?_)
    refine Tot.step (fun k => impl_ReadIns.j0.eq_2 _ _ _ _ _ _ k) (Tot.ite (fun hl => Tot.ret (rdI_none eL hc (by have := of_decide_eq_true hl; omega)).symm) (fun hl => ?_))
    have hl : ¬ (t.size : Int) < L := fun e => hl (decide_eq_true e)
    rw [w64_in (n := L - 1) (by omega) (by omega), rdI_some eL hw.1 hc (by omega) (by omega)]
    have w0 : wrap64 (1 - 1) = 0 := by decide +kernel
    have w01 : wrap64 (2 - 1) = 1 := by decide +kernel
    have l0 : ∀ x : Int, Tot (fun k => impl_ReadIns.l0 k t L 0 (bt s p) false x) (· = (bt s p, false, x, L)) := fun x =>
      Tot.step (fun k => impl_ReadIns.l0.eq_2 _ _ _ _ _ _ k) (Tot.no (by decide) (Tot.ret rfl))
    have l1 : ∀ x : Int, 0 ≤ x → x < 65536 → 1 < (t.size : Int) → Tot (fun k => impl_ReadIns.l0 k t L 1 (bt s p) false x) (· = (bt s p, false, 256 * x + bt s (p + 1), L)) := fun x x0 x1 ht =>
      Tot.step (fun k => impl_ReadIns.l0.eq_2 _ _ _ _ _ _ k) (Tot.yes (by decide) (Tot.yes (by decide) (Tot.yes ht (by
        rw [b1, w64_in (n := x * 256) (by omega) (by omega), w64_in (n := bt s (p + 1)) (by omega) (by omega), or_b x0 (by omega) r1.1 r1.2, w0]
        exact l0 _))))
    rcases (show L = 1 ∨ L = 2 ∨ L = 3 by omega) with rfl | rfl | rfl
    · exact l0 0
    · exact Tot.mono (l1 0 (by decide) (by decide) (by omega)) (fun _ h => by rw [h]; simp)
    · refine Tot.step (fun k => impl_ReadIns.l0.eq_2 _ _ _ _ _ _ k) (Tot.yes (by decide) (Tot.yes (by decide) (Tot.yes (by omega) ?_)))
      rw [show (3 : Int) - 1 = 2 from rfl, b2, w64_in (n := 0 * 256) (by decide) (by decide), w64_in (n := bt s (p + 2)) (by omega) (by omega), or_b (by decide) (by decide) r2.1 r2.2, w01]
      refine Tot.mono (l1 _ (by omega) (by omega) (by omega)) (fun _ h => by
        rw [h]
        simp only [Prod.mk.injEq, true_and, and_true]
        rw [if_neg (by decide), if_neg (by decide)]
        omega)
  · have hw : ¬ (0 ≤ p ∧ p ≤ (s.size : Int) - 1) := fun e => hw (decide_eq_true e)
    exact (rdI_out (by omega)).symm

theorem bytesStr {xs : List Int} (h : ∀ x ∈ xs, 0 ≤ x ∧ x < 256) : bytesOf (strOfNums xs) = xs := by
  unfold bytesOf
  rw [strOfNums_data, List.map_map]
  conv => rhs; rw [← List.map_id xs]
  refine List.map_congr_left fun x hx => ?_
  have := h x hx
  simp only [Function.comp, id]
  rw [UInt8.toNat_ofNat']
  omega
theorem insL_bytes {cb : Bool} {n : Int} (h0 : 0 ≤ n) (h1 : n < 256) (m : Int) (h : Nat) : ∀ x ∈ insL cb n m h, 0 ≤ x ∧ x < 256 := by
  intro x hx
  unfold insL at hx
  split at hx
  · simp at hx; omega
  · rw [List.mem_cons] at hx
    rcases hx with rfl | hx
    · exact ⟨h0, h1⟩
    · split at hx
      · simp at hx; omega
      · split at hx <;> simp at hx <;> omega

theorem insD1_T {s : List Int} {p : Int} (h : RdOk s p) {n : Int} (hn : 0 ≤ n ∧ n < 256) (b : Bool) (m : Int) : Tot (fun k => spec_l1Rd_ins.j1 k s p n b m) (fun r => (0 ≤ r.1 ∧ r.1 < 256) ∧ RdOk s r.2.2.2) := by
  refine Tot.step (fun k => spec_l1Rd_ins.j1.eq_2 _ _ _ _ _ k) ?_
  refine Tot.bind (once_T h 40) fun r hr => ?_
  exact Tot.ite (fun _ => Tot.bind (off_T hr 0 255 (by omega) (by omega)) fun q hq => Tot.ret ⟨hn, hq⟩) (fun _ => Tot.ret ⟨hn, hr⟩)
theorem insD0_T {s : List Int} {p : Int} (h : RdOk s p) (x : Bool) {n : Int} (hn : 0 ≤ n ∧ n < 256) (b : Bool) (m : Int) : Tot (fun k => spec_l1Rd_ins.j0 k x s p n b m) (fun r => (0 ≤ r.1 ∧ r.1 < 256) ∧ RdOk s r.2.2.2) := by
  refine Tot.step (fun k => spec_l1Rd_ins.j0.eq_2 _ _ _ _ _ _ k) ?_
  exact Tot.ite (fun _ => Tot.bind (byte_T h) fun v hv => insD1_T hv.2.2 hn _ _) (fun _ => insD1_T h hn _ _)
theorem insD_T {s : List Int} {p : Int} (h : RdOk s p) : Tot (fun k => spec_l1Rd_ins.f k s p) (fun r => (0 ≤ r.1 ∧ r.1 < 256) ∧ RdOk s r.2.2.2) := by
  unfold spec_l1Rd_ins.f
  refine Tot.bind (below_T h 256) fun r hr => ?_
  have hn : 0 ≤ r.1 ∧ r.1 < 256 := ⟨hr.1, hr.2.1 (by omega)⟩
  refine Tot.bind (once_T hr.2.2 4) fun q hq => ?_
  refine Tot.bind (tmS_T q.1 hn.1 hn.2) ?_
  rintro _ rfl
  refine Tot.bind (hoS_T q.1 hn.1 hn.2) ?_
  rintro _ rfl
  refine Tot.ite (fun _ => Tot.bind (below_T hq 65536) fun v hv => insD1_T hv.2.2 hn _ _) (fun _ => ?_)
  exact Tot.ite (fun _ => insD0_T hq _ hn _ _) (fun _ => insD0_T hq _ hn _ _)

theorem rdBack {t : ByteArray} {p : Nat} {cb : Bool} {n m : Int} (h0 : 0 ≤ n) (h1 : n < 256) (ho : okV (hk cb n) m = true)
    (hs : p + (insL cb n m (hk cb n)).length ≤ t.size) (hb : ∀ j, j < (insL cb n m (hk cb n)).length → bt t ((p : Int) + (j : Int)) = (insL cb n m (hk cb n)).getD j 0) :
    rdI t p = (n, cb, m, ((insL cb n m (hk cb n)).length : Int)) := by
  have hle := hk_le cb h0 h1
  cases cb with
  | true =>
    have hh := hk_cb h0 h1
    rw [hh] at ho hs hb ⊢
    have em : m = 0 := by simpa [okV] using ho
    have b0 := hb 0 (by simp [insL])
    have b1 := hb 1 (by simp [insL])
    simp [insL] at b0 b1 hs
    rw [rdI_cb (by omega) b0 (by omega), b1, em]
    simp [insL]
  | false =>
    have hne : hk false n ≠ 0 := fun e => by rw [e] at ho; exact absurd ho (by simp [okV])
    have hc : n ≠ 203 := fun e => hne (by rw [e]; exact hk_203)
    have b0 := hb 0 (by simp [insL])
    have b0 : bt t p = n := by simpa [insL] using b0
    rcases (show hk false n = 1 ∨ hk false n = 2 ∨ hk false n = 3 ∨ hk false n = 4 by omega) with e | e | e | e
    · rw [e] at ho hs hb ⊢
      have em : m = 0 := by simpa [okV] using ho
      have eL : lenK false (hk false (bt t p)) = 1 := by rw [b0, e]; decide
      rw [rdI_some eL (by omega) (by rw [b0]; exact hc) (by decide) (by simp [insL] at hs; omega), b0, em]
      simp [insL]
    · rw [e] at ho hs hb ⊢
      have em : 0 ≤ m ∧ m ≤ 255 := by simpa [okV] using ho
      have b1 := hb 1 (by simp [insL])
      simp [insL] at b1 hs
      have eL : lenK false (hk false (bt t p)) = 2 := by rw [b0, e]; decide
      rw [rdI_some eL (by omega) (by rw [b0]; exact hc) (by decide) (by omega), b0, b1]
      simp [insL]
      omega
    · rw [e] at ho hs hb ⊢
      have em : 0 ≤ m ∧ m ≤ 255 := by simpa [okV] using ho
      have b1 := hb 1 (by simp [insL])
      simp [insL] at b1 hs
      have eL : lenK false (hk false (bt t p)) = 2 := by rw [b0, e]; decide
      rw [rdI_some eL (by omega) (by rw [b0]; exact hc) (by decide) (by omega), b0, b1]
      simp [insL]
      omega
    · rw [e] at ho hs hb ⊢
      have em : 0 ≤ m ∧ m ≤ 65535 := by simpa [okV] using ho
      have b1 := hb 1 (by simp [insL])
      have b2 := hb 2 (by simp [insL])
      simp [insL] at b1 b2 hs
      have eL : lenK false (hk false (bt t p)) = 3 := by rw [b0, e]; decide
      rw [rdI_some eL (by omega) (by rw [b0]; exact hc) (by decide) (by omega), b0, b1, b2]
      simp [insL]
      omega
theorem rdLess {t : ByteArray} {cb : Bool} {n m : Int} (h0 : 0 ≤ n) (h1 : n < 256) (ho : okV (hk cb n) m = true)
    (hs : t.size + 1 = (insL cb n m (hk cb n)).length) (hb : 0 < t.size → bt t 0 = (insL cb n m (hk cb n)).getD 0 0) : (rdI t 0).2.2.2 = 0 := by
  have hle := hk_le cb h0 h1
  by_cases hz : t.size = 0
  · rw [rdI_out (.inr (by omega))]
  have b0 := hb (by omega)
  cases cb with
  | true =>
    simp [insL] at b0 hs
    rw [rdI_cut b0 (by omega)]
  | false =>
    have hne : hk false n ≠ 0 := fun e => by rw [e] at ho; exact absurd ho (by simp [okV])
    have hc : n ≠ 203 := fun e => hne (by rw [e]; exact hk_203)
    have b0 : bt t 0 = n := by simpa [insL] using b0
    have eL : lenK false (hk false (bt t 0)) = ((insL false n m (hk false n)).length : Int) := by
      rw [b0]
      rcases (show hk false n = 1 ∨ hk false n = 2 ∨ hk false n = 3 ∨ hk false n = 4 by omega) with e | e | e | e <;> rw [e] <;> simp [lenK, insL]
    rw [rdI_none eL (by rw [b0]; exact hc) (.inr (by omega))]
theorem lenK_insL {cb : Bool} {n m : Int} (h0 : 0 ≤ n) (h1 : n < 256) (ho : okV (hk cb n) m = true) : lenK cb (hk cb n) = ((insL cb n m (hk cb n)).length : Int) := by
  have hle := hk_le cb h0 h1
  have hne : hk cb n ≠ 0 := fun e => by rw [e] at ho; exact absurd ho (by simp [okV])
  cases cb with
  | true => rw [hk_cb h0 h1]; simp [lenK, insL]
  | false => rcases (show hk false n = 1 ∨ hk false n = 2 ∨ hk false n = 3 ∨ hk false n = 4 by omega) with e | e | e | e <;> rw [e] <;> simp [lenK, insL]
theorem insL_pos (cb : Bool) (n m : Int) (h : Nat) : 1 ≤ (insL cb n m h).length ∧ (insL cb n m h).length ≤ 3 := by
  unfold insL
  split
  · simp
  · split
    · simp
    · split <;> simp

theorem drawI_T {l : List Int} (hl : l.length ≤ 1048576) (hb : ∀ x ∈ l, 0 ≤ x ∧ x ≤ 255) : Tot (fun k => spec_DrawInsBytes.f k l) (fun c => 0 ≤ c.1 ∧ c.1 < 256) := by
  obtain ⟨e0, hr⟩ := open_tot hl hb
  unfold spec_DrawInsBytes.f spec_DrawInsOk.f
  refine Tot.bind (P := fun c => 0 ≤ c.1 ∧ c.1 < 256) ?_ (fun c hc => Tot.ret hc)
  refine Tot.bind (Tot.of e0 rfl) ?_
  rintro _ rfl
  exact Tot.bind (insD_T hr) fun i hi => Tot.ret hi.1
theorem FnIns : laws_FnIns.Pure := by
  intro l _ _ hw
  refine Tot.done ?_
  unfold laws_FnIns.f laws_big.f
  refine Tot.bind (Tot.of rfl rfl) ?_
  rintro _ rfl
  refine Tot.ite (fun _ => Tot.ret rfl) (fun hbig => ?_)
  refine Tot.bind (drawI_T (l := l) (by simp at hbig; omega) (bytes_wf hw)) fun c hc => ?_
  obtain ⟨n, cb, m⟩ := c
  obtain ⟨h0, h1⟩ := hc
  dsimp only at h0 h1 ⊢
  refine Tot.bind (insI_T cb h0 h1 m) ?_
  rintro _ rfl
  refine Tot.bind (insS_T cb h0 h1 m) ?_
  rintro _ rfl
  refine Tot.yes rfl ?_
  refine Tot.bind (okI_T cb h0 h1 m) ?_
  rintro _ rfl
  refine Tot.bind (okS_T cb h0 h1 m) ?_
  rintro _ rfl
  refine Tot.no (by simp) ?_
  by_cases ho : okV (hk cb n) m = true
  · have eB : insB cb n m (hk cb n) = strOfNums (insL cb n m (hk cb n)) := by rw [insB, if_pos ho]
    have hp := insL_pos cb n m (hk cb n)
    have hby := insL_bytes (cb := cb) h0 h1 m (hk cb n)
    have hlen := lenK_insL (cb := cb) (m := m) h0 h1 ho
    have back := fun (t : ByteArray) (p : Nat) => rdBack (t := t) (p := p) (cb := cb) (m := m) h0 h1 ho
    have less := fun (t : ByteArray) => rdLess (t := t) (cb := cb) (m := m) h0 h1 ho
    rw [eB]
    generalize insL cb n m (hk cb n) = L at *
    have hz : (strOfNums L).size = L.length := strOfNums_size L
    have hB : bytesOf (strOfNums L) = L := bytesStr hby
    refine Tot.step (fun k => laws_FnIns.j0.eq_2 _ _ _ _ _ k) (Tot.no ?_ ?_)
    · intro e
      have := (nil_size _).1 (eq_of_beq e)
      omega
    refine Tot.bind (readI_T (strOfNums L) 0 (by omega)) ?_
    rintro _ rfl
    refine Tot.yes (by omega) (Tot.yes (by rw [ByteArray.size_append]; have : (⟨#[120, 121]⟩ : ByteArray).size = 2 := rfl; omega) ?_)
    refine Tot.bind (readI_T (((⟨#[120, 121]⟩ : ByteArray) ++ strOfNums L) ++ (⟨#[122]⟩ : ByteArray)) 2 (by rw [ByteArray.size_append, ByteArray.size_append]; have : (⟨#[120, 121]⟩ : ByteArray).size = 2 := rfl; have : (⟨#[122]⟩ : ByteArray).size = 1 := rfl; omega)) ?_
    rintro _ rfl
    rw [w64_in (n := ((strOfNums L).size : Int) - 1) (by omega) (by omega)]
    refine Tot.yes (by omega) (Tot.yes (by omega) ?_)
    refine Tot.bind (readI_T ((strOfNums L).extract 0 (((strOfNums L).size : Int) - 1).toNat) 0 (by rw [ByteArray.size_extract]; omega)) ?_
    rintro _ rfl
    have e1 : rdI (strOfNums L) 0 = (n, cb, m, (L.length : Int)) := back (strOfNums L) 0 (by omega) (fun j hj => by
      rw [btL, hB, show (((0 : Nat) : Int) + (j : Int)).toNat = j by omega])
    have e2 : rdI (((⟨#[120, 121]⟩ : ByteArray) ++ strOfNums L) ++ (⟨#[122]⟩ : ByteArray)) 2 = (n, cb, m, (L.length : Int)) := by
      refine back _ 2 (by rw [ByteArray.size_append, ByteArray.size_append]; have : (⟨#[120, 121]⟩ : ByteArray).size = 2 := rfl; omega) (fun j hj => ?_)
      have eb : bytesOf (((⟨#[120, 121]⟩ : ByteArray) ++ strOfNums L) ++ (⟨#[122]⟩ : ByteArray)) = [120, 121] ++ L ++ [122] := by
        rw [show ∀ a b : ByteArray, bytesOf (a ++ b) = bytesOf a ++ bytesOf b from fun a b => by unfold bytesOf; rw [ByteArray.data_append, Array.toList_append, List.map_append], show ∀ a b : ByteArray, bytesOf (a ++ b) = bytesOf a ++ bytesOf b from fun a b => by unfold bytesOf; rw [ByteArray.data_append, Array.toList_append, List.map_append], hB]
        rfl
      rw [btL, eb, show (((2 : Nat) : Int) + (j : Int)).toNat = j + 1 + 1 by omega]
      rw [show ([120, 121] ++ L ++ [122] : List Int) = 120 :: 121 :: (L ++ [122]) from rfl, List.getD_cons_succ, List.getD_cons_succ, List.getD_eq_getElem?_getD, List.getD_eq_getElem?_getD, List.getElem?_append_left hj]
    have e3 : (rdI ((strOfNums L).extract 0 (((strOfNums L).size : Int) - 1).toNat) 0).2.2.2 = 0 := by
      have ez : ((strOfNums L).extract 0 (((strOfNums L).size : Int) - 1).toNat).size = L.length - 1 := by rw [ByteArray.size_extract]; omega
      refine less _ (by rw [ez]; omega) (fun hpos => ?_)
      rw [ez] at hpos
      rw [btL]
      have eb : bytesOf ((strOfNums L).extract 0 (((strOfNums L).size : Int) - 1).toNat) = L.take (L.length - 1) := by
        have : bytesOf ((strOfNums L).extract 0 (((strOfNums L).size : Int) - 1).toNat) = (bytesOf (strOfNums L)).take (((strOfNums L).size : Int) - 1).toNat := by
          unfold bytesOf
          rw [ByteArray.data_extract, Array.toList_extract, List.extract_eq_take_drop, List.map_take, List.map_drop, List.drop_zero, Nat.sub_zero]
        rw [this, hB, show (((strOfNums L).size : Int) - 1).toNat = L.length - 1 by omega]
      rw [eb, List.getD_eq_getElem?_getD, List.getD_eq_getElem?_getD, List.getElem?_take, if_pos (by show (0 : Int).toNat < _; simpa using hpos)]
      rfl
    rw [e1, e2, e3, hz]
    refine Tot.yes (by simp) (Tot.yes rfl (Tot.yes (by simp) (Tot.yes rfl (Tot.yes rfl ?_))))
    refine Tot.bind (lenI_T cb h0 h1) ?_
    rintro _ rfl
    exact Tot.ret (by rw [hlen]; simp)
  · have eB : insB cb n m (hk cb n) = ⟨#[]⟩ := by rw [insB, if_neg ho]
    rw [eB]
    refine Tot.step (fun k => laws_FnIns.j0.eq_2 _ _ _ _ _ k) (Tot.yes (by rw [(nil_size _).2 rfl]; rfl) ?_)
    refine Tot.bind (insS_T cb h0 h1 m) ?_
    rintro _ rfl
    rw [eB]
    refine Tot.yes rfl ?_
    refine Tot.bind (okI_T cb h0 h1 m) ?_
    rintro _ rfl
    refine Tot.bind (okS_T cb h0 h1 m) ?_
    rintro _ rfl
    exact Tot.ret (by simp)

end Go.Proofs.YtodlnnoekccmmaaGreatDoor.Pure
