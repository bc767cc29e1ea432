import Derived.Test.YtodlnnoekccmmaaGreatDoorYQFnLengthsx
import Derived.Test.YtodlnnoekccmmaaGreatDoorYLib
namespace Go.Proofs.YtodlnnoekccmmaaGreatDoor.Pure
open Go.RowKit Go.Proofs.YtodlnnoekccmmaaGreatDoor.QFnLengths Go.Proofs.YtodlnnoekccmmaaGreatDoorW.PrintWords Go.Proofs.YtodlnnoekccmmaaGreatDoorW.PrintLast Go.Proofs.YtodlnnoekccmmaaGreatDoor.Lib Go.Proofs.YtodlnnoekccmmaaGreatDoor.LibX Go.Proofs.YtodlnnoekccmmaaGreatDoor.LibE
set_option linter.unusedSimpArgs false
set_option linter.unusedVariables false

def Tot {α : Type} (g : Nat → Option α) (P : α → Prop) : Prop := ∃ K r, P r ∧ ∀ k, K ≤ k → g k = some r
theorem Tot.ret {α : Type} {r : α} {P : α → Prop} (h : P r) : Tot (fun _ => some r) P := ⟨0, r, h, fun _ _ => rfl⟩
theorem Tot.of {α : Type} {g : Option α} {r : α} {P : α → Prop} (e : g = some r) (h : P r) : Tot (fun _ => g) P := ⟨0, r, h, fun _ _ => e⟩
theorem Tot.bind {α β : Type} {g : Nat → Option α} {f : Nat → α → Option β} {P : α → Prop} {Q : β → Prop} (h : Tot g P) (hf : ∀ a, P a → Tot (fun k => f k a) Q) : Tot (fun k => (g k).bind (f k)) Q := by
  obtain ⟨K, a, ha, hg⟩ := h
  obtain ⟨L, r, hr, hk⟩ := hf a ha
  exact ⟨max K L, r, hr, fun k hk' => by show (g k).bind (f k) = some r; rw [hg k (by omega)]; exact hk k (by omega)⟩
theorem Tot.ite {α : Type} {c : Prop} [Decidable c] {g f : Nat → Option α} {P : α → Prop} (h1 : c → Tot g P) (h2 : ¬ c → Tot f P) : Tot (fun k => if c then g k else f k) P := by
  by_cases h : c
  · obtain ⟨K, r, hr, hk⟩ := h1 h
    exact ⟨K, r, hr, fun k hk' => by show (if c then g k else f k) = some r; rw [if_pos h]; exact hk k hk'⟩
  · obtain ⟨K, r, hr, hk⟩ := h2 h
    exact ⟨K, r, hr, fun k hk' => by show (if c then g k else f k) = some r; rw [if_neg h]; exact hk k hk'⟩
theorem Tot.yes {α : Type} {c : Prop} [Decidable c] {g f : Nat → Option α} {P : α → Prop} (h : c) (h1 : Tot g P) : Tot (fun k => if c then g k else f k) P := Tot.ite (fun _ => h1) (fun n => absurd h n)
theorem Tot.no {α : Type} {c : Prop} [Decidable c] {g f : Nat → Option α} {P : α → Prop} (h : ¬ c) (h1 : Tot f P) : Tot (fun k => if c then g k else f k) P := Tot.ite (fun n => absurd n h) (fun _ => h1)
theorem Tot.mono {α : Type} {g : Nat → Option α} {P Q : α → Prop} (h : Tot g P) (hi : ∀ a, P a → Q a) : Tot g Q := by
  obtain ⟨K, r, hr, hk⟩ := h
  exact ⟨K, r, hi r hr, hk⟩
theorem Tot.step {α : Type} {g f : Nat → Option α} {P : α → Prop} (h : ∀ k, g (k + 1) = f k) (hf : Tot f P) : Tot g P := by
  obtain ⟨K, r, hr, hk⟩ := hf
  exact ⟨K + 1, r, hr, fun k hk' => by obtain ⟨m, rfl⟩ : ∃ m, k = m + 1 := ⟨k - 1, by omega⟩; rw [h]; exact hk m (by omega)⟩
theorem Tot.lift {α : Type} {g : Nat → Option α} {P : α → Prop} (hm : ∀ k, LeO (g k) (g (k + 1))) {k : Nat} {r : α} (e : g k = some r) (h : P r) : Tot g P := ⟨k, r, h, fun _ hk => at_rounds hm hk e⟩
theorem Tot.congr {α : Type} {g f : Nat → Option α} {P : α → Prop} (h : ∀ k, g k = f k) (hf : Tot f P) : Tot g P := by
  obtain ⟨K, r, hr, hk⟩ := hf
  exact ⟨K, r, hr, fun k hk' => (h k).trans (hk k hk')⟩
theorem Tot.eq {α : Type} {g : Nat → Option α} {r : α} (h : Tot g (fun x => x = r)) : ∃ K, ∀ k, K ≤ k → g k = some r := by
  obtain ⟨K, x, hx, hk⟩ := h
  subst hx
  exact ⟨K, hk⟩
theorem Tot.done {g : Nat → Option Bool} (h : Tot g (fun x => x = true)) : ∃ k, g k = some true := by
  obtain ⟨K, hk⟩ := h.eq
  exact ⟨K, hk K (Nat.le_refl _)⟩

def RdOk (s : List Int) (p : Int) : Prop := 0 ≤ p ∧ p ≤ s.length ∧ s.length ≤ 1048576 ∧ ∀ x ∈ s, 0 ≤ x ∧ x ≤ 255
theorem rd_mem {s : List Int} {p : Int} (h0 : 0 ≤ p) (h1 : p < (s.length : Int)) : rd s p ∈ s := by
  unfold rd
  rw [List.getD_eq_getElem?_getD, List.getElem?_eq_getElem (by omega)]
  exact List.getElem_mem _
theorem open_tot {l : List Int} (hl : l.length ≤ 1048576) (hb : ∀ x ∈ l, 0 ≤ x ∧ x ≤ 255) : spec_l1Open.f l = some (l, 0) ∧ RdOk l 0 :=
  ⟨rfl, by omega, by omega, hl, hb⟩
theorem next_tot {s : List Int} {p : Int} (h : RdOk s p) : ∃ v q, spec_l1Rd_next.f s p = some (v, q) ∧ 0 ≤ v ∧ v ≤ 255 ∧ RdOk s q := by
  obtain ⟨h0, h1, h2, h3⟩ := h
  unfold spec_l1Rd_next.f
  by_cases c : p ≥ (s.length : Int)
  · rw [if_pos c]
    exact ⟨0, p, rfl, by omega, by omega, h0, h1, h2, h3⟩
  · have hm := h3 _ (rd_mem h0 (show p < (s.length : Int) by omega))
    have e : p + 1 - 1 = p := by omega
    rw [if_neg c, w64_in (n := p + 1) (by omega) (by omega), w64_in (n := p + 1 - 1) (by omega) (by omega), e, if_pos h0, if_pos (by omega), w64_in (n := rd s p) (by omega) (by omega)]
    exact ⟨_, _, rfl, hm.1, hm.2, by omega, by omega, h2, h3⟩
theorem below_tot {s : List Int} {p : Int} (h : RdOk s p) (n : Int) : ∃ v q, spec_l1Rd_below.f s p n = some (v, q) ∧ 0 ≤ v ∧ (1 ≤ n → v < n) ∧ RdOk s q := by
  unfold spec_l1Rd_below.f
  by_cases c : n ≤ 1
  · rw [if_pos c]
    exact ⟨0, p, rfl, by omega, by omega, h⟩
  · rw [if_neg c]
    obtain ⟨v, q, e1, v0, v1, h1⟩ := next_tot h
    by_cases c2 : n ≤ 256
    · rw [if_pos c2, e1]
      simp only [Option.bind_some]
      rw [if_neg (by omega), tmod_pos _ v0]
      exact ⟨_, _, rfl, Int.emod_nonneg _ (by omega), fun _ => Int.emod_lt_of_pos _ (by omega), h1⟩
    · obtain ⟨u, r, e2, u0, u1, h2⟩ := next_tot h1
      rw [if_neg c2, e1]
      simp only [Option.bind_some]
      rw [e2]
      simp only [Option.bind_some]
      rw [if_neg (by omega), w64_in (n := v * 256) (by omega) (by omega), w64_in (n := v * 256 + u) (by omega) (by omega), tmod_pos _ (by omega)]
      exact ⟨_, _, rfl, Int.emod_nonneg _ (by omega), fun _ => Int.emod_lt_of_pos _ (by omega), h2⟩

theorem once_tot {s : List Int} {p : Int} (h : RdOk s p) (n : Int) : ∃ b q, spec_l1Rd_once.f s p n = some (b, q) ∧ RdOk s q := by
  obtain ⟨v, q, e, _, _, hq⟩ := below_tot h n
  unfold spec_l1Rd_once.f
  rw [e]
  exact ⟨_, _, rfl, hq⟩

theorem below_T {s : List Int} {p : Int} (h : RdOk s p) (n : Int) : Tot (fun _ => spec_l1Rd_below.f s p n) (fun r => 0 ≤ r.1 ∧ (1 ≤ n → r.1 < n) ∧ RdOk s r.2) := by
  obtain ⟨v, q, e, h0, h1, h2⟩ := below_tot h n
  exact Tot.of e ⟨h0, h1, h2⟩
theorem once_T {s : List Int} {p : Int} (h : RdOk s p) (n : Int) : Tot (fun _ => spec_l1Rd_once.f s p n) (fun r => RdOk s r.2) := by
  obtain ⟨v, q, e, h0⟩ := once_tot h n
  exact Tot.of e h0

theorem bytes_wf {l : List Int} (h : ∀ x ∈ l, (Lit.int .u8 x).wf = true) : ∀ x ∈ l, 0 ≤ x ∧ x ≤ 255 := by
  intro x hx
  have h1 := h x hx
  have e0 : IntKind.u8.min = 0 := rfl
  have e1 : IntKind.u8.max = 255 := rfl
  simp only [Lit.wf, e0, e1, Bool.and_eq_true, decide_eq_true_eq] at h1
  exact h1

theorem all256 {P : Int → Prop} (h : ∀ n : Fin 256, P ((n.val : Nat) : Int)) {n : Int} (h0 : 0 ≤ n) (h1 : n < 256) : P n := by
  have := h ⟨n.toNat, by omega⟩
  rwa [show ((n.toNat : Nat) : Int) = n by omega] at this
def vI (o : Option Int) : Int := o.getD (-1)
def vS (o : Option ByteArray) : ByteArray := o.getD ⟨#[]⟩

def Q (cb tk : Bool) (n : Int) : Prop :=
  impl_LengthOf.f 40 n cb = some (vI (impl_LengthOf.f 40 n cb)) ∧ spec_LengthOf.f 40 n cb = some (vI (impl_LengthOf.f 40 n cb)) ∧
  impl_CyclesOf.f 40 n cb tk = some (vI (impl_CyclesOf.f 40 n cb tk)) ∧ spec_CyclesOf.f 40 n cb tk = some (vI (impl_CyclesOf.f 40 n cb tk)) ∧
  (vI (impl_LengthOf.f 40 n cb) = 0 → vI (impl_CyclesOf.f 40 n cb tk) = 0) ∧
  (vI (impl_LengthOf.f 40 n cb) ≠ 0 → impl_InsBytes.f 40 n cb 0 = some (vS (impl_InsBytes.f 40 n cb 0)) ∧ ((vS (impl_InsBytes.f 40 n cb 0)).size : Int) = vI (impl_LengthOf.f 40 n cb) ∧
    vI (impl_CyclesOf.f 40 n cb tk) > 0 ∧ vI (impl_CyclesOf.f 40 n cb tk) < 7 ∧
    impl_CyclesOf.f 40 n cb true = some (vI (impl_CyclesOf.f 40 n cb true)) ∧ impl_CyclesOf.f 40 n cb false = some (vI (impl_CyclesOf.f 40 n cb false)) ∧
    vI (impl_CyclesOf.f 40 n cb true) ≥ vI (impl_CyclesOf.f 40 n cb false))
instance (cb tk : Bool) (n : Int) : Decidable (Q cb tk n) := by unfold Q; infer_instance
set_option maxRecDepth 100000
theorem q11 : ∀ n : Fin 256, Q true true ((n.val : Nat) : Int) := by decide +kernel
theorem q10 : ∀ n : Fin 256, Q true false ((n.val : Nat) : Int) := by decide +kernel
theorem q01 : ∀ n : Fin 256, Q false true ((n.val : Nat) : Int) := by decide +kernel
theorem q00 : ∀ n : Fin 256, Q false false ((n.val : Nat) : Int) := by decide +kernel
theorem qAll (cb tk : Bool) {n : Int} (h0 : 0 ≤ n) (h1 : n < 256) : Q cb tk n := by
  cases cb <;> cases tk
  · exact all256 q00 h0 h1
  · exact all256 q01 h0 h1
  · exact all256 q10 h0 h1
  · exact all256 q11 h0 h1
theorem draw_T {l : List Int} (hl : l.length ≤ 1048576) (hb : ∀ x ∈ l, 0 ≤ x ∧ x ≤ 255) : Tot (fun _ => spec_DrawCyclesOf.f l) (fun c => 0 ≤ c.1 ∧ c.1 < 256) := by
  obtain ⟨e0, hr⟩ := open_tot hl hb
  unfold spec_DrawCyclesOf.f
  refine Tot.bind (Tot.of e0 rfl) ?_
  rintro _ rfl
  refine Tot.bind (below_T hr 256) fun n hn => ?_
  refine Tot.bind (once_T hn.2.2 3) fun cb hcb => ?_
  refine Tot.bind (once_T hcb 2) fun tk htk => ?_
  exact Tot.ret ⟨hn.1, hn.2.1 (by omega)⟩
theorem FnLengths : laws_FnLengths.Pure := by
  intro l _ _ hw
  refine Tot.done ?_
  unfold laws_FnLengths.f laws_big.f
  refine Tot.bind (Tot.of rfl rfl) ?_
  rintro _ rfl
  refine Tot.ite (fun _ => Tot.ret rfl) (fun hbig => ?_)
  refine Tot.bind (draw_T (l := l) (by simp at hbig; omega) (bytes_wf hw)) fun c hc => ?_
  obtain ⟨n, cb, tk⟩ := c
  obtain ⟨q1, q2, q3, q4, q5, q6⟩ := qAll cb tk hc.1 hc.2
  dsimp only at *
  generalize vI (impl_LengthOf.f 40 n cb) = a at *
  generalize vI (impl_CyclesOf.f 40 n cb tk) = d at *
  refine Tot.bind (Tot.lift (fun k => impl_LengthOf.mono _ _ k) q1 rfl) ?_
  rintro _ rfl
  refine Tot.bind (Tot.lift (fun k => impl_CyclesOf.mono _ _ _ k) q3 rfl) ?_
  rintro _ rfl
  refine Tot.bind (Tot.lift (fun k => spec_LengthOf.mono _ _ k) q2 rfl) ?_
  rintro _ rfl
  refine Tot.yes rfl ?_
  refine Tot.bind (Tot.lift (fun k => spec_CyclesOf.mono _ _ _ k) q4 rfl) ?_
  rintro _ rfl
  refine Tot.yes rfl ?_
  by_cases h0 : a = 0
  · refine Tot.step (fun k => by rw [laws_FnLengths.j0]) (Tot.yes (by simp [h0]) ?_)
    refine Tot.bind (Tot.lift (fun k => spec_LengthOf.mono _ _ k) q2 rfl) ?_
    rintro _ rfl
    refine Tot.yes rfl ?_
    refine Tot.bind (Tot.lift (fun k => spec_CyclesOf.mono _ _ _ k) q4 rfl) ?_
    rintro _ rfl
    refine Tot.yes rfl (Tot.ret ?_)
    rw [q5 h0]
    rfl
  · obtain ⟨p1, p2, p3, p4, p5, p6, p7⟩ := q6 h0
    refine Tot.step (fun k => by rw [laws_FnLengths.j0]) (Tot.no (by simp [h0]) ?_)
    refine Tot.bind (Tot.lift (fun k => impl_InsBytes.mono _ _ _ k) p1 rfl) ?_
    rintro _ rfl
    refine Tot.yes p2 (Tot.yes p3 (Tot.yes p4 ?_))
    refine Tot.bind (Tot.lift (fun k => impl_CyclesOf.mono _ _ _ k) p5 rfl) ?_
    rintro _ rfl
    refine Tot.bind (Tot.lift (fun k => impl_CyclesOf.mono _ _ _ k) p6 rfl) ?_
    rintro _ rfl
    exact Tot.ret (decide_eq_true p7)
end Go.Proofs.YtodlnnoekccmmaaGreatDoor.Pure
