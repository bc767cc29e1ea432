import Derived.Test.YtodlnnoekccmmaaGreatDoorYQFnExactListedx
import Derived.Test.YtodlnnoekccmmaaGreatDoorYLib
namespace Go.Proofs.YtodlnnoekccmmaaGreatDoor.Pure
open Go.RowKit Go.Proofs.YtodlnnoekccmmaaGreatDoor.QFnExactListed Go.Proofs.YtodlnnoekccmmaaGreatDoorW.PrintWords Go.Proofs.YtodlnnoekccmmaaGreatDoorW.PrintLast Go.Proofs.YtodlnnoekccmmaaGreatDoorW.PrintMore Go.Proofs.YtodlnnoekccmmaaGreatDoor.Lib Go.Proofs.YtodlnnoekccmmaaGreatDoor.LibX Go.Proofs.YtodlnnoekccmmaaGreatDoor.LibE
set_option linter.unusedSimpArgs false
set_option linter.unusedVariables false

def Tot {α : Type} (g : Nat → Option α) (P : α → Prop) : Prop := ∃ K r, P r ∧ ∀ k, K ≤ k → g k = some r
theorem Tot.ret {α : Type} {r : α} {P : α → Prop} (h : P r) : Tot (fun _ => some r) P := ⟨0, r, h, fun _ _ => rfl⟩
theorem Tot.of {α : Type} {g : Option α} {r : α} {P : α → Prop} (e : g = some r) (h : P r) : Tot (fun _ => g) P := ⟨0, r, h, fun _ _ => e⟩
theorem Tot.bind {α β : Type} {g : Nat → Option α} {f : Nat → α → Option β} {P : α → Prop} {Q : β → Prop} (h : Tot g P) (hf : ∀ a, P a → Tot (fun k => f k a) Q) : Tot (fun k => (g k).bind (f k)) Q := by
  obtain ⟨K, a, ha, hg⟩ := h
  obtain ⟨L, r, hr, hk⟩ := hf a ha
  exact ⟨max K L, r, hr, fun k hk' => by show (g k).bind (f k) = some r; rw [hg k (by omega)]; exact hk k (by omega)⟩
theorem Tot.ite {α : Type} {c : Prop} [Decidable c] {g f : Nat → Option α} {P : α → Prop} (h1 : c → Tot g P) (h2 : ¬ c → Tot f P) : Tot (fun k => if c then g k else f k) P := by
  by_cases h : c
  · obtain ⟨K, r, hr, hk⟩ := h1 h
    exact ⟨K, r, hr, fun k hk' => by show (if c then g k else f k) = some r; rw [if_pos h]; exact hk k hk'⟩
  · obtain ⟨K, r, hr, hk⟩ := h2 h
    exact ⟨K, r, hr, fun k hk' => by show (if c then g k else f k) = some r; rw [if_neg h]; exact hk k hk'⟩
theorem Tot.yes {α : Type} {c : Prop} [Decidable c] {g f : Nat → Option α} {P : α → Prop} (h : c) (h1 : Tot g P) : Tot (fun k => if c then g k else f k) P := Tot.ite (fun _ => h1) (fun n => absurd h n)
theorem Tot.no {α : Type} {c : Prop} [Decidable c] {g f : Nat → Option α} {P : α → Prop} (h : ¬ c) (h1 : Tot f P) : Tot (fun k => if c then g k else f k) P := Tot.ite (fun n => absurd n h) (fun _ => h1)
theorem Tot.mono {α : Type} {g : Nat → Option α} {P Q : α → Prop} (h : Tot g P) (hi : ∀ a, P a → Q a) : Tot g Q := by
  obtain ⟨K, r, hr, hk⟩ := h
  exact ⟨K, r, hi r hr, hk⟩
theorem Tot.step {α : Type} {g f : Nat → Option α} {P : α → Prop} (h : ∀ k, g (k + 1) = f k) (hf : Tot f P) : Tot g P := by
  obtain ⟨K, r, hr, hk⟩ := hf
  exact ⟨K + 1, r, hr, fun k hk' => by obtain ⟨m, rfl⟩ : ∃ m, k = m + 1 := ⟨k - 1, by omega⟩; rw [h]; exact hk m (by omega)⟩
theorem Tot.lift {α : Type} {g : Nat → Option α} {P : α → Prop} (hm : ∀ k, LeO (g k) (g (k + 1))) {k : Nat} {r : α} (e : g k = some r) (h : P r) : Tot g P := ⟨k, r, h, fun _ hk => at_rounds hm hk e⟩
theorem Tot.congr {α : Type} {g f : Nat → Option α} {P : α → Prop} (h : ∀ k, g k = f k) (hf : Tot f P) : Tot g P := by
  obtain ⟨K, r, hr, hk⟩ := hf
  exact ⟨K, r, hr, fun k hk' => (h k).trans (hk k hk')⟩
theorem Tot.eq {α : Type} {g : Nat → Option α} {r : α} (h : Tot g (fun x => x = r)) : ∃ K, ∀ k, K ≤ k → g k = some r := by
  obtain ⟨K, x, hx, hk⟩ := h
  subst hx
  exact ⟨K, hk⟩
theorem Tot.done {g : Nat → Option Bool} (h : Tot g (fun x => x = true)) : ∃ k, g k = some true := by
  obtain ⟨K, hk⟩ := h.eq
  exact ⟨K, hk K (Nat.le_refl _)⟩

theorem all256 {P : Int → Prop} (h : ∀ n : Fin 256, P ((n.val : Nat) : Int)) {n : Int} (h0 : 0 ≤ n) (h1 : n < 256) : P n := by
  have := h ⟨n.toNat, by omega⟩
  rwa [show ((n.toNat : Nat) : Int) = n by omega] at this
def vS (o : Option ByteArray) : ByteArray := o.getD ⟨#[]⟩

def tm (cb : Bool) (n : Int) : ByteArray := vS (impl_TemplateOf.f 40 n cb)
def hk (cb : Bool) (n : Int) : Nat :=
  if (tm cb n).size = 0 then 0 else
  match impl_holeOf.f 40 (tm cb n) with
  | some h => if h = ⟨#[110, 56]⟩ then 2 else if h = ⟨#[101, 56]⟩ then 3 else if h = ⟨#[110, 49, 54]⟩ then 4 else 1
  | none => 9
def holeS (h : Nat) : ByteArray := if h = 2 then ⟨#[110, 56]⟩ else if h = 3 then ⟨#[101, 56]⟩ else if h = 4 then ⟨#[110, 49, 54]⟩ else ⟨#[]⟩
def lenK (cb : Bool) (h : Nat) : Int := if h = 0 then 0 else if cb = true then 2 else if h = 1 then 1 else if h = 4 then 3 else 2
def hp (cb : Bool) (n : Int) : Int := match spec_l3Hole.f 40 (tm cb n) with
  | some r => r.1
  | none => -2
def QC (cb : Bool) (n : Int) : Prop :=
  impl_TemplateOf.f 40 n cb = some (tm cb n) ∧ spec_l3Template.f 40 n cb = some (tm cb n) ∧ ((tm cb n).size = 0 ↔ hk cb n = 0) ∧ hk cb n ≤ 4 ∧
  impl_holeOf.f 40 (tm cb n) = some (holeS (hk cb n)) ∧ spec_l3Hole.f 40 (tm cb n) = some (hp cb n, holeS (hk cb n)) ∧ (cb = true → hk cb n = 1) ∧ (tm cb n).size ≤ 24 ∧ (cb = false → n = 203 → hk cb n = 0)
instance (cb : Bool) (n : Int) : Decidable (QC cb n) := by unfold QC; infer_instance
set_option maxRecDepth 100000 in
theorem qc1 : ∀ n : Fin 256, QC true ((n.val : Nat) : Int) := by decide +kernel
set_option maxRecDepth 100000 in
theorem qc0 : ∀ n : Fin 256, QC false ((n.val : Nat) : Int) := by decide +kernel
theorem qc (cb : Bool) {n : Int} (h0 : 0 ≤ n) (h1 : n < 256) : QC cb n := by
  cases cb
  · exact all256 qc0 h0 h1
  · exact all256 qc1 h0 h1
theorem toL (a : ByteArray) : a.toList = a.data.toList := ByteArray.toList_eq a
theorem nil_size (a : ByteArray) : a.toList = ([] : List UInt8) ↔ a.size = 0 := by
  rw [toL]
  constructor
  · intro h
    have := congrArg List.length h
    rwa [Array.length_toList] at this
  · intro h
    exact List.eq_nil_of_length_eq_zero (by rw [Array.length_toList]; exact h)
theorem holeS_nil (h : Nat) (hh : h ≤ 4) : (holeS h).toList = ([] : List UInt8) ↔ h ≤ 1 := by
  rw [toL]
  rcases (show h = 0 ∨ h = 1 ∨ h = 2 ∨ h = 3 ∨ h = 4 by omega) with rfl | rfl | rfl | rfl | rfl <;> decide
theorem holeS_n16 (h : Nat) (hh : h ≤ 4) : (holeS h).toList = ([110, 49, 54] : List UInt8) ↔ h = 4 := by
  rw [toL]
  rcases (show h = 0 ∨ h = 1 ∨ h = 2 ∨ h = 3 ∨ h = 4 by omega) with rfl | rfl | rfl | rfl | rfl <;> decide
theorem holeS_n8 (h : Nat) (hh : h ≤ 4) : (holeS h).toList = ([110, 56] : List UInt8) ↔ h = 2 := by
  rw [toL]
  rcases (show h = 0 ∨ h = 1 ∨ h = 2 ∨ h = 3 ∨ h = 4 by omega) with rfl | rfl | rfl | rfl | rfl <;> decide
theorem holeS_e8 (h : Nat) (hh : h ≤ 4) : (holeS h).toList = ([101, 56] : List UInt8) ↔ h = 3 := by
  rw [toL]
  rcases (show h = 0 ∨ h = 1 ∨ h = 2 ∨ h = 3 ∨ h = 4 by omega) with rfl | rfl | rfl | rfl | rfl <;> decide
theorem tmI_T (cb : Bool) {n : Int} (h0 : 0 ≤ n) (h1 : n < 256) : Tot (fun k => impl_TemplateOf.f k n cb) (· = tm cb n) :=
  Tot.lift (fun k => impl_TemplateOf.mono _ _ k) (qc cb h0 h1).1 rfl
theorem tmS_T (cb : Bool) {n : Int} (h0 : 0 ≤ n) (h1 : n < 256) : Tot (fun k => spec_l3Template.f k n cb) (· = tm cb n) :=
  Tot.lift (fun k => spec_l3Template.mono _ _ k) (qc cb h0 h1).2.1 rfl
theorem hoI_T (cb : Bool) {n : Int} (h0 : 0 ≤ n) (h1 : n < 256) : Tot (fun k => impl_holeOf.f k (tm cb n)) (· = holeS (hk cb n)) :=
  Tot.lift (fun k => impl_holeOf.mono _ k) (qc cb h0 h1).2.2.2.2.1 rfl
theorem hoS_T (cb : Bool) {n : Int} (h0 : 0 ≤ n) (h1 : n < 256) : Tot (fun k => spec_l3Hole.f k (tm cb n)) (· = (hp cb n, holeS (hk cb n))) :=
  Tot.lift (fun k => spec_l3Hole.mono _ k) (qc cb h0 h1).2.2.2.2.2.1 rfl
theorem hk_le (cb : Bool) {n : Int} (h0 : 0 ≤ n) (h1 : n < 256) : hk cb n ≤ 4 := (qc cb h0 h1).2.2.2.1
theorem tm_nil (cb : Bool) {n : Int} (h0 : 0 ≤ n) (h1 : n < 256) : (tm cb n).toList = ([] : List UInt8) ↔ hk cb n = 0 := (nil_size _).trans (qc cb h0 h1).2.2.1
theorem hk_cb {n : Int} (h0 : 0 ≤ n) (h1 : n < 256) : hk true n = 1 := (qc true h0 h1).2.2.2.2.2.2.1 rfl
theorem withinI (a lo hi : Int) : impl_within.f a lo hi = some (decide (lo ≤ a ∧ a ≤ hi)) := by
  unfold impl_within.f
  by_cases h : a ≥ lo
  · rw [if_pos h]; simp [show lo ≤ a from h]
  · rw [if_neg h]; simp [show ¬ lo ≤ a from h]
theorem inS (a lo hi : Int) : spec_l1In.f a lo hi = some (decide (lo ≤ a ∧ a ≤ hi)) := by
  unfold spec_l1In.f
  by_cases h : a ≥ lo
  · rw [if_pos h]; simp [show lo ≤ a from h]
  · rw [if_neg h]; simp [show ¬ lo ≤ a from h]
theorem byteI (a : Int) : impl_isByte.f a = some (decide (0 ≤ a ∧ a ≤ 255)) := by unfold impl_isByte.f; rw [withinI]; rfl
theorem wordI (a : Int) : impl_isWord.f a = some (decide (0 ≤ a ∧ a ≤ 65535)) := by unfold impl_isWord.f; rw [withinI]; rfl
theorem lenJ (k : Nat) (h : ByteArray) (x : Bool) : impl_LengthOf.j0 (k + 1) h x = if x = true then some 2 else if h.toList = ([110, 49, 54] : List UInt8) then some 3 else some 1 := by
  rw [impl_LengthOf.j0]
theorem lenI_T (cb : Bool) {n : Int} (h0 : 0 ≤ n) (h1 : n < 256) : Tot (fun k => impl_LengthOf.f k n cb) (· = lenK cb (hk cb n)) := by
  have hle := hk_le cb h0 h1
  unfold impl_LengthOf.f
  refine Tot.bind (tmI_T cb h0 h1) ?_
  rintro _ rfl
  refine Tot.bind (hoI_T cb h0 h1) ?_
  rintro _ rfl
  unfold lenK
  refine Tot.ite (fun h => Tot.ret (by rw [if_pos ((tm_nil cb h0 h1).1 h)])) (fun h => ?_)
  rw [if_neg (fun e => h ((tm_nil cb h0 h1).2 e))]
  have hne : hk cb n ≠ 0 := fun e => h ((tm_nil cb h0 h1).2 e)
  refine Tot.ite (fun hc => ?_) (fun hc => ?_)
  · rw [if_pos hc]
    exact Tot.step (fun k => lenJ k _ _) (Tot.yes rfl (Tot.ret rfl))
  rw [if_neg hc]
  refine Tot.ite (fun h8 => ?_) (fun h8 => ?_)
  · have := (holeS_n8 _ hle).1 h8
    exact Tot.step (fun k => lenJ k _ _) (Tot.yes rfl (Tot.ret (by rw [if_neg (by omega), if_neg (by omega)])))
  have g8 : hk cb n ≠ 2 := fun e => h8 ((holeS_n8 _ hle).2 e)
  refine Tot.step (fun k => lenJ k _ _) (Tot.ite (fun he => Tot.ret ?_) (fun he => ?_))
  · have := (holeS_e8 _ hle).1 (eq_of_beq he)
    rw [if_neg (by omega), if_neg (by omega)]
  have ge : hk cb n ≠ 3 := fun e => he (beq_iff_eq.2 ((holeS_e8 _ hle).2 e))
  refine Tot.ite (fun hw => Tot.ret ?_) (fun hw => Tot.ret ?_)
  · have := (holeS_n16 _ hle).1 hw
    rw [if_neg (by omega), if_pos this]
  · have : hk cb n ≠ 4 := fun e => hw ((holeS_n16 _ hle).2 e)
    rw [if_pos (by omega)]
theorem lenS3_T (cb : Bool) {n : Int} (h0 : 0 ≤ n) (h1 : n < 256) : Tot (fun k => spec_l3Length.f k n cb) (· = lenK cb (hk cb n)) := by
  have hle := hk_le cb h0 h1
  unfold spec_l3Length.f
  refine Tot.bind (tmS_T cb h0 h1) ?_
  rintro _ rfl
  unfold lenK
  refine Tot.ite (fun h => Tot.ret (by rw [if_pos ((tm_nil cb h0 h1).1 h)])) (fun h => ?_)
  have hne : hk cb n ≠ 0 := fun e => h ((tm_nil cb h0 h1).2 e)
  rw [if_neg hne]
  refine Tot.ite (fun hc => Tot.ret (by rw [if_pos hc])) (fun hc => ?_)
  rw [if_neg hc]
  refine Tot.bind (hoS_T cb h0 h1) ?_
  rintro _ rfl
  refine Tot.ite (fun hz => Tot.ret ?_) (fun hz => ?_)
  · have := (holeS_nil _ hle).1 hz
    rw [if_pos (by omega)]
  have gz : ¬ hk cb n ≤ 1 := fun e => hz ((holeS_nil _ hle).2 e)
  have g1 : ¬ hk cb n = 1 := by omega
  rw [if_neg g1]
  refine Tot.ite (fun hw => Tot.ret ?_) (fun hw => Tot.ret ?_)
  · rw [if_pos ((holeS_n16 _ hle).1 hw)]
  · rw [if_neg (fun e => hw ((holeS_n16 _ hle).2 e))]
theorem lenS_T (cb : Bool) {n : Int} (h0 : 0 ≤ n) (h1 : n < 256) : Tot (fun k => spec_LengthOf.f k n cb) (· = lenK cb (hk cb n)) := by
  unfold spec_LengthOf.f
  refine Tot.bind (Tot.of (inS _ _ _) rfl) ?_
  rintro _ rfl
  refine Tot.yes (decide_eq_true ⟨h0, by omega⟩) ?_
  exact Tot.bind (lenS3_T cb h0 h1) (fun _ h => Tot.ret h)
def okV (h : Nat) (m : Int) : Bool := if h = 0 then false else if h = 1 then decide (m = 0) else if h = 4 then decide (0 ≤ m ∧ m ≤ 65535) else decide (0 ≤ m ∧ m ≤ 255)
theorem okI_T (cb : Bool) {n : Int} (h0 : 0 ≤ n) (h1 : n < 256) (m : Int) : Tot (fun k => impl_InsOk.f k n cb m) (· = okV (hk cb n) m) := by
  have hle := hk_le cb h0 h1
  unfold impl_InsOk.f okV
  refine Tot.bind (tmI_T cb h0 h1) ?_
  rintro _ rfl
  refine Tot.ite (fun h => Tot.ret (by rw [if_pos ((tm_nil cb h0 h1).1 h)])) (fun h => ?_)
  have hne : hk cb n ≠ 0 := fun e => h ((tm_nil cb h0 h1).2 e)
  rw [if_neg hne]
  refine Tot.bind (hoI_T cb h0 h1) ?_
  rintro _ rfl
  refine Tot.ite (fun hz => Tot.ret ?_) (fun hz => ?_)
  · have := (holeS_nil _ hle).1 hz
    rw [if_pos (by omega)]
    by_cases e : m = 0
    · rw [e]; rfl
    · rw [beq_eq_false_iff_ne.2 e, decide_eq_false e]
  have gz : ¬ hk cb n ≤ 1 := fun e => hz ((holeS_nil _ hle).2 e)
  have g1 : ¬ hk cb n = 1 := by omega
  rw [if_neg g1]
  refine Tot.ite (fun hw => ?_) (fun hw => ?_)
  · rw [if_pos ((holeS_n16 _ hle).1 hw)]
    refine Tot.bind (Tot.of (wordI m) rfl) ?_
    rintro _ rfl
    exact Tot.ret rfl
  · rw [if_neg (fun e => hw ((holeS_n16 _ hle).2 e))]
    refine Tot.bind (Tot.of (byteI m) rfl) ?_
    rintro _ rfl
    exact Tot.ret rfl
theorem okS_T (cb : Bool) {n : Int} (h0 : 0 ≤ n) (h1 : n < 256) (m : Int) : Tot (fun k => spec_InsOk.f k n cb m) (· = okV (hk cb n) m) := by
  have hle := hk_le cb h0 h1
  unfold spec_InsOk.f okV
  refine Tot.bind (lenS_T cb h0 h1) ?_
  rintro _ rfl
  unfold lenK
  by_cases hne : hk cb n = 0
  · rw [if_pos hne, if_pos hne]
    exact Tot.yes rfl (Tot.ret rfl)
  rw [if_neg hne, if_neg hne]
  refine Tot.no (by split <;> (try split) <;> (try split) <;> omega) ?_
  refine Tot.bind (tmS_T cb h0 h1) ?_
  rintro _ rfl
  refine Tot.bind (hoS_T cb h0 h1) ?_
  rintro _ rfl
  refine Tot.ite (fun hw => ?_) (fun hw => ?_)
  · have := (holeS_n16 _ hle).1 hw
    rw [if_neg (by omega), if_pos this]
    refine Tot.bind (Tot.of (inS m _ _) rfl) ?_
    rintro _ rfl
    exact Tot.ret rfl
  have gw : hk cb n ≠ 4 := fun e => hw ((holeS_n16 _ hle).2 e)
  have jj : ∀ x : Bool, (x = true ↔ (hk cb n = 2 ∨ hk cb n = 3)) → Tot (fun k => spec_InsOk.j0 k x n cb m) (· = (if hk cb n = 1 then decide (m = 0) else if hk cb n = 4 then decide (0 ≤ m ∧ m ≤ 65535) else decide (0 ≤ m ∧ m ≤ 255))) := fun x hx =>
    Tot.step (fun k => spec_InsOk.j0.eq_2 _ _ _ _ k) (Tot.ite (fun h => by
      have := hx.1 h
      rw [if_neg (by omega), if_neg gw]
      refine Tot.bind (Tot.of (inS m _ _) rfl) ?_
      rintro _ rfl
      exact Tot.ret rfl) (fun h => by
      have : ¬ (hk cb n = 2 ∨ hk cb n = 3) := fun e => h (hx.2 e)
      rw [if_pos (by omega)]
      refine Tot.ret ?_
      by_cases e : m = 0
      · rw [e]; rfl
      · rw [beq_eq_false_iff_ne.2 e, decide_eq_false e]))
  refine Tot.ite (fun h8 => jj _ ?_) (fun h8 => jj _ ?_)
  · exact ⟨fun _ => .inl ((holeS_n8 _ hle).1 h8), fun _ => beq_iff_eq.2 h8⟩
  · have g8 : hk cb n ≠ 2 := fun e => h8 ((holeS_n8 _ hle).2 e)
    exact ⟨fun e => .inr ((holeS_e8 _ hle).1 (eq_of_beq e)), fun e => beq_iff_eq.2 ((holeS_e8 _ hle).2 (by omega))⟩

theorem str_app (a b : List Int) : strOfNums a ++ strOfNums b = strOfNums (a ++ b) := by
  apply ByteArray.ext
  rw [ByteArray.data_append]
  apply Array.ext'
  rw [Array.toList_append, strOfNums_data, strOfNums_data, strOfNums_data, List.map_append]

def rdI (s : ByteArray) (p : Int) : Int × Bool × Int × Int :=
  if p < 0 ∨ (s.size : Int) ≤ p then (0, false, 0, 0) else
  if bt s p = 203 then (if (s.size : Int) < p + 2 then (0, false, 0, 0) else (bt s (p + 1), true, 0, 2)) else
  if lenK false (hk false (bt s p)) = 0 ∨ (s.size : Int) < p + lenK false (hk false (bt s p)) then (0, false, 0, 0) else
  (bt s p, false, (if lenK false (hk false (bt s p)) = 1 then 0 else if lenK false (hk false (bt s p)) = 2 then bt s (p + 1) else bt s (p + 1) + 256 * bt s (p + 2)), lenK false (hk false (bt s p)))
theorem rdI_out {s : ByteArray} {p : Int} (h : p < 0 ∨ (s.size : Int) ≤ p) : rdI s p = (0, false, 0, 0) := by unfold rdI; rw [if_pos h]
theorem rdI_cut {s : ByteArray} {p : Int} (h : bt s p = 203) (h2 : (s.size : Int) < p + 2) : rdI s p = (0, false, 0, 0) := by
  unfold rdI
  by_cases h0 : p < 0 ∨ (s.size : Int) ≤ p
  · rw [if_pos h0]
  · rw [if_neg h0, if_pos h, if_pos h2]
theorem rdI_cb {s : ByteArray} {p : Int} (h0 : 0 ≤ p) (h : bt s p = 203) (h2 : p + 2 ≤ (s.size : Int)) : rdI s p = (bt s (p + 1), true, 0, 2) := by
  unfold rdI
  rw [if_neg (show ¬ (p < 0 ∨ (s.size : Int) ≤ p) by omega), if_pos h, if_neg (show ¬ (s.size : Int) < p + 2 by omega)]
theorem rdI_none {s : ByteArray} {p L : Int} (hL : lenK false (hk false (bt s p)) = L) (hc : ¬ bt s p = 203) (h : L = 0 ∨ (s.size : Int) < p + L) : rdI s p = (0, false, 0, 0) := by
  unfold rdI
  by_cases h0 : p < 0 ∨ (s.size : Int) ≤ p
  · rw [if_pos h0]
  · rw [if_neg h0, if_neg hc, if_pos (by rw [hL]; exact h)]
theorem rdI_some {s : ByteArray} {p L : Int} (hL : lenK false (hk false (bt s p)) = L) (h0 : 0 ≤ p) (hc : ¬ bt s p = 203) (h1 : 1 ≤ L) (h : p + L ≤ (s.size : Int)) : rdI s p = (bt s p, false, (if L = 1 then 0 else if L = 2 then bt s (p + 1) else bt s (p + 1) + 256 * bt s (p + 2)), L) := by
  unfold rdI
  rw [if_neg (show ¬ (p < 0 ∨ (s.size : Int) ≤ p) by omega), if_neg hc, hL, if_neg (show ¬ (L = 0 ∨ (s.size : Int) < p + L) by omega)]
theorem btL (s : ByteArray) (i : Int) : bt s i = (bytesOf s).getD i.toNat 0 := by rw [← rd_bytesOf]; rfl
theorem btRange (s : ByteArray) (i : Int) : 0 ≤ bt s i ∧ bt s i < 256 := by
  unfold bt
  split
  · rename_i h
    have := (s[i.toNat]'h).toNat_lt
    omega
  · omega
theorem bytesOf_rest' (a : ByteArray) (i : Nat) : bytesOf (a.extract i a.size) = (bytesOf a).drop i := by
  unfold bytesOf
  rw [ByteArray.data_extract, Array.toList_extract, List.extract_eq_take_drop, List.map_take, List.map_drop, List.take_of_length_le]
  rw [List.length_drop, List.length_map, Array.length_toList]
  exact Nat.le_refl _
theorem bt_rest (s : ByteArray) (p i : Int) (h0 : 0 ≤ p) (h1 : 0 ≤ i) : bt (s.extract p.toNat s.size) i = bt s (p + i) := by
  rw [btL, btL, bytesOf_rest', List.getD_eq_getElem?_getD, List.getD_eq_getElem?_getD, List.getElem?_drop, show p.toNat + i.toNat = (p + i).toNat by omega]
theorem size_rest (s : ByteArray) (p : Int) (h0 : 0 ≤ p) (h1 : p ≤ s.size) : ((s.extract p.toNat s.size).size : Int) = s.size - p := by
  rw [ByteArray.size_extract]; omega
theorem or_b {x b : Int} (hx : 0 ≤ x) (hx1 : x < 16777216) (hb : 0 ≤ b) (hb1 : b < 256) : Go.bits .or .i64 (x * 256) b = 256 * x + b := by
  obtain ⟨m, rfl⟩ := Int.eq_ofNat_of_zero_le hx
  obtain ⟨n, rfl⟩ := Int.eq_ofNat_of_zero_le hb
  have := bits_or (m * 256) n (by omega) (by omega)
  rw [show ((m : Int) * 256) = ((m * 256 : Nat) : Int) by omega, this]
  have h2 : 2 ^ 8 * m + n = 2 ^ 8 * m ||| n := Nat.two_pow_add_eq_or_of_lt (by omega) m
  rw [show m * 256 ||| n = 2 ^ 8 * m + n by rw [h2, Nat.mul_comm]]
  omega
theorem lenK_range (h : Nat) : 0 ≤ lenK false h ∧ lenK false h ≤ 3 := by
  unfold lenK
  split
  · omega
  · rw [if_neg (by decide)]
    split
    · omega
    · split <;> omega
theorem readI_T (s : ByteArray) (p : Int) (hs : s.size ≤ 1152921504606846976) : Tot (fun k => impl_ReadIns.f k s p) (· = rdI s p) := by
  unfold impl_ReadIns.f
  refine Tot.bind (Tot.of (withinI _ _ _) rfl) ?_
  rintro _ rfl
  have w1 : wrap64 ((s.size : Int) - 1) = s.size - 1 := w64_in (by omega) (by omega)
  rw [w1]
  refine Tot.ite (fun hw => ?_) (fun hw => Tot.ret ?_)
  · have hw := of_decide_eq_true hw
    have hz := size_rest s p hw.1 (by omega)
    have b0 : bt (s.extract p.toNat s.size) 0 = bt s p := by rw [bt_rest s p 0 hw.1 (by decide), Int.add_zero]
    have b1 : bt (s.extract p.toNat s.size) 1 = bt s (p + 1) := bt_rest s p 1 hw.1 (by decide)
    have b2 : bt (s.extract p.toNat s.size) 2 = bt s (p + 2) := bt_rest s p 2 hw.1 (by decide)
    generalize s.extract p.toNat s.size = t at *
    have r0 := btRange s p
    have r1 := btRange s (p + 1)
    have r2 := btRange s (p + 2)
    refine Tot.yes hw.1 (Tot.yes (by omega) (Tot.yes (by omega) ?_))
    rw [b0, b1, w64_in (n := bt s p) (by omega) (by omega), w64_in (n := bt s (p + 1)) (by omega) (by omega)]
    refine Tot.ite (fun hc => ?_) (fun hc => ?_)
    · refine Tot.ite (fun h2 => Tot.ret (rdI_cut hc (by omega)).symm) (fun h2 => ?_)
      refine Tot.yes (by omega) (Tot.ret (rdI_cb hw.1 hc (by omega)).symm)
    refine Tot.bind (lenI_T false r0.1 r0.2) ?_
    rintro _ rfl
    have hL := lenK_range (hk false (bt s p))
    obtain ⟨L, eL⟩ : ∃ L, lenK false (hk false (bt s p)) = L := ⟨_, rfl⟩
    rw [eL] at hL ⊢
    refine Tot.ite (fun hz0 => Tot.step (fun k => impl_ReadIns.j0.eq_2 _ _ _ _ _ _ k) (Tot.yes rfl (Tot.ret (rdI_none eL hc (.inl hz0)).symm))) (fun hz0 => ?_)
    refine Tot.step (fun k => impl_ReadIns.j0.eq_2 _ _ _ _ _ _ k) (Tot.ite (fun hl => Tot.ret (rdI_none eL hc (by have := of_decide_eq_true hl; omega)).symm) (fun hl => ?_))
    have hl : ¬ (t.size : Int) < L := fun e => hl (decide_eq_true e)
    rw [w64_in (n := L - 1) (by omega) (by omega), rdI_some eL hw.1 hc (by omega) (by omega)]
    have w0 : wrap64 (1 - 1) = 0 := by decide +kernel
    have w01 : wrap64 (2 - 1) = 1 := by decide +kernel
    have l0 : ∀ x : Int, Tot (fun k => impl_ReadIns.l0 k t L 0 (bt s p) false x) (· = (bt s p, false, x, L)) := fun x =>
      Tot.step (fun k => impl_ReadIns.l0.eq_2 _ _ _ _ _ _ k) (Tot.no (by decide) (Tot.ret rfl))
    have l1 : ∀ x : Int, 0 ≤ x → x < 65536 → 1 < (t.size : Int) → Tot (fun k => impl_ReadIns.l0 k t L 1 (bt s p) false x) (· = (bt s p, false, 256 * x + bt s (p + 1), L)) := fun x x0 x1 ht =>
      Tot.step (fun k => impl_ReadIns.l0.eq_2 _ _ _ _ _ _ k) (Tot.yes (by decide) (Tot.yes (by decide) (Tot.yes ht (by
        rw [b1, w64_in (n := x * 256) (by omega) (by omega), w64_in (n := bt s (p + 1)) (by omega) (by omega), or_b x0 (by omega) r1.1 r1.2, w0]
        exact l0 _))))
    rcases (show L = 1 ∨ L = 2 ∨ L = 3 by omega) with rfl | rfl | rfl
    · exact l0 0
    · exact Tot.mono (l1 0 (by decide) (by decide) (by omega)) (fun _ h => by rw [h]; simp)
    · refine Tot.step (fun k => impl_ReadIns.l0.eq_2 _ _ _ _ _ _ k) (Tot.yes (by decide) (Tot.yes (by decide) (Tot.yes (by omega) ?_)))
      rw [show (3 : Int) - 1 = 2 from rfl, b2, w64_in (n := 0 * 256) (by decide) (by decide), w64_in (n := bt s (p + 2)) (by omega) (by omega), or_b (by decide) (by decide) r2.1 r2.2, w01]
      refine Tot.mono (l1 _ (by omega) (by omega) (by omega)) (fun _ h => by
        rw [h]
        simp only [Prod.mk.injEq, true_and, and_true]
        rw [if_neg (by decide), if_neg (by decide)]
        omega)
  · have hw : ¬ (0 ≤ p ∧ p ≤ (s.size : Int) - 1) := fun e => hw (decide_eq_true e)
    exact (rdI_out (by omega)).symm

theorem atS (s : ByteArray) (p : Int) (h0 : 0 ≤ p) (h1 : p < s.size) : spec_l3At.f s p = some (bt s p) := by
  have := btRange s p
  unfold spec_l3At.f
  rw [if_pos h0, if_pos h1, w64_in (by omega) (by omega)]
theorem readS_T (s : ByteArray) (p : Int) (hs : s.size ≤ 1152921504606846976) (hp : -1152921504606846976 ≤ p ∧ p ≤ 1152921504606846976) : Tot (fun k => spec_ReadIns.f k s p) (· = rdI s p) := by
  unfold spec_ReadIns.f
  have w1 : wrap64 ((s.size : Int) - p) = s.size - p := w64_in (by omega) (by omega)
  rw [w1]
  refine Tot.ite (fun hn => Tot.step (fun k => spec_ReadIns.j0.eq_2 _ _ _ _ k) (Tot.yes rfl (Tot.ret (rdI_out (.inl hn)).symm))) (fun hn => ?_)
  refine Tot.step (fun k => spec_ReadIns.j0.eq_2 _ _ _ _ k) (Tot.ite (fun hd => Tot.ret (rdI_out (by have := of_decide_eq_true hd; omega)).symm) (fun hd => ?_))
  have hd : ¬ ((s.size : Int) - p) < 1 := fun e => hd (decide_eq_true e)
  have r0 := btRange s p
  have r1 := btRange s (p + 1)
  have r2 := btRange s (p + 2)
  rw [w64_in (n := p + 1) (by omega) (by omega)]
  refine Tot.bind (Tot.of (atS s p (by omega) (by omega)) rfl) ?_
  rintro _ rfl
  refine Tot.ite (fun hc => ?_) (fun hc => ?_)
  · refine Tot.ite (fun h2 => Tot.ret (rdI_cut hc (by omega)).symm) (fun h2 => ?_)
    refine Tot.bind (Tot.of (atS s (p + 1) (by omega) (by omega)) rfl) ?_
    rintro _ rfl
    exact Tot.ret (rdI_cb (by omega) hc (by omega)).symm
  refine Tot.bind (lenS3_T false r0.1 r0.2) ?_
  rintro _ rfl
  have hL := lenK_range (hk false (bt s p))
  obtain ⟨L, eL⟩ : ∃ L, lenK false (hk false (bt s p)) = L := ⟨_, rfl⟩
  rw [eL] at hL ⊢
  refine Tot.ite (fun hz0 => Tot.step (fun k => spec_ReadIns.j1.eq_2 _ _ _ _ _ _ _ k) (Tot.yes rfl (Tot.ret (rdI_none eL hc (.inl hz0)).symm))) (fun hz0 => ?_)
  refine Tot.step (fun k => spec_ReadIns.j1.eq_2 _ _ _ _ _ _ _ k) (Tot.ite (fun hl => Tot.ret (rdI_none eL hc (by have := of_decide_eq_true hl; omega)).symm) (fun hl => ?_))
  have hl : ¬ L > (s.size : Int) - p := fun e => hl (decide_eq_true e)
  rw [w64_in (n := p + 1) (by omega) (by omega), rdI_some eL (by omega) hc (by omega) (by omega)]
  have j2 : ∀ x : Int, L ≤ 2 → Tot (fun k => spec_ReadIns.j2 k s p L (bt s p) false x) (· = (bt s p, false, x, L)) := fun x h2 =>
    Tot.step (fun k => spec_ReadIns.j2.eq_2 _ _ _ _ _ _ k) (Tot.no (by omega) (Tot.ret rfl))
  rcases (show L = 1 ∨ L = 2 ∨ L = 3 by omega) with rfl | rfl | rfl
  · exact Tot.no (by decide) (j2 0 (by decide))
  · refine Tot.yes (by decide) (Tot.bind (Tot.of (atS s (p + 1) (by omega) (by omega)) rfl) ?_)
    rintro _ rfl
    exact j2 _ (by decide)
  · refine Tot.yes (by decide) (Tot.bind (Tot.of (atS s (p + 1) (by omega) (by omega)) rfl) ?_)
    rintro _ rfl
    refine Tot.step (fun k => spec_ReadIns.j2.eq_2 _ _ _ _ _ _ k) (Tot.yes (by decide) ?_)
    rw [w64_in (n := p + 2) (by omega) (by omega)]
    refine Tot.bind (Tot.of (atS s (p + 2) (by omega) (by omega)) rfl) ?_
    rintro _ rfl
    rw [w64_in (n := 256 * bt s (p + 2)) (by omega) (by omega), w64_in (n := bt s (p + 1) + 256 * bt s (p + 2)) (by omega) (by omega)]
    exact Tot.ret rfl

def upD (v : Int) : Int := if v < 10 then 48 + v else 55 + v
def hexUp (n : Int) : Nat → List Int
  | 0 => []
  | k + 1 => upD (n / 16 ^ k % 16) :: hexUp n k
theorem hexUp_length (n : Int) (k : Nat) : (hexUp n k).length = k := by
  induction k with
  | zero => rfl
  | succ k ih => rw [hexUp, List.length_cons, ih]
def hexV (n d : Int) : ByteArray := if (1 ≤ d ∧ d ≤ 4) ∧ (0 ≤ n ∧ n ≤ 65535) ∧ n < 16 ^ d.toNat then strOfNums (36 :: hexUp n d.toNat) else ⟨#[]⟩
theorem hexV_none {n d : Int} (h : ¬ ((1 ≤ d ∧ d ≤ 4) ∧ (0 ≤ n ∧ n ≤ 65535) ∧ n < 16 ^ d.toNat)) : hexV n d = ⟨#[]⟩ := by rw [hexV, if_neg h]
def DIG : ByteArray := ⟨#[48, 49, 50, 51, 52, 53, 54, 55, 56, 57, 65, 66, 67, 68, 69, 70]⟩
theorem dig_cut : ∀ v : Fin 16, DIG.extract v.val (v.val + 1) = strOfNums [upD (v.val : Int)] := by decide +kernel
theorem str_cons (a : Int) (L : List Int) : strOfNums [a] ++ strOfNums L = strOfNums (a :: L) := str_app [a] L
theorem pow_pos16 (k : Nat) : (0 : Int) < 16 ^ k := Int.pow_pos (by decide)
theorem div_step (n : Int) (k : Nat) : n / 16 ^ k / 16 = n / 16 ^ (k + 1) := by
  rw [Int.pow_succ, Int.ediv_ediv, if_neg (fun e => by have := pow_pos16 k; omega)]
  omega
theorem hexS_loop (n : Int) (hn0 : 0 ≤ n) (hn1 : n ≤ 65535) (d : Nat) (hd : d ≤ 4) : ∀ r i : Nat, i + r = d → Tot (fun k => spec_HexOf.l0 k (n / 16 ^ i) (d : Int) (strOfNums (hexUp n i)) (i : Int)) (· = if n / 16 ^ d > 0 then ⟨#[]⟩ else strOfNums (36 :: hexUp n d)) := by
  intro r
  induction r with
  | zero =>
    intro i hi
    obtain rfl : i = d := by omega
    refine Tot.step (fun k => spec_HexOf.l0.eq_2 _ _ _ _ k) (Tot.no (by omega) ?_)
    refine Tot.ite (fun h => Tot.ret (by rw [if_pos h])) (fun h => ?_)
    refine Tot.yes (by rw [strOfNums_size, hexUp_length]; omega) (Tot.ret ?_)
    rw [if_neg h]
    exact str_cons 36 _
  | succ r ih =>
    intro i hi
    have q0 : 0 ≤ n / 16 ^ i := Int.ediv_nonneg hn0 (Int.le_of_lt (pow_pos16 i))
    have q1 : n / 16 ^ i ≤ 65535 := Int.le_trans (Int.ediv_le_self _ hn0) hn1
    refine Tot.step (fun k => spec_HexOf.l0.eq_2 _ _ _ _ k) (Tot.yes (by omega) ?_)
    rw [tmod_pos _ q0, tdiv_pos _ q0]
    have m0 : 0 ≤ n / 16 ^ i % 16 := Int.emod_nonneg _ (by decide)
    have m1 : n / 16 ^ i % 16 < 16 := Int.emod_lt_of_pos _ (by decide)
    rw [w64_in (n := n / 16 ^ i % 16 + 1) (by omega) (by omega), w64_in (n := n / 16 ^ i / 16) (by omega) (by omega), w64_in (n := (i : Int) + 1) (by omega) (by omega)]
    have ec : (⟨#[48, 49, 50, 51, 52, 53, 54, 55, 56, 57, 65, 66, 67, 68, 69, 70]⟩ : ByteArray).extract (n / 16 ^ i % 16).toNat (n / 16 ^ i % 16 + 1).toNat = strOfNums [upD (n / 16 ^ i % 16)] := by
      have := dig_cut ⟨(n / 16 ^ i % 16).toNat, by omega⟩
      rw [show (((n / 16 ^ i % 16).toNat : Nat) : Int) = n / 16 ^ i % 16 by omega] at this
      rw [show (n / 16 ^ i % 16 + 1).toNat = (n / 16 ^ i % 16).toNat + 1 by omega]
      exact this
    rw [ec, str_cons, div_step]
    refine Tot.yes m0 (Tot.yes (by omega) (Tot.yes (by omega) (Tot.yes (by rw [strOfNums_size, strOfNums_size, hexUp_length]; simp; omega) ?_)))
    exact ih (i + 1) (by omega)
theorem hexS_T (n d : Int) : Tot (fun k => spec_HexOf.f k n d) (· = hexV n d) := by
  unfold spec_HexOf.f
  have hin : ∀ (a lo hi : Int), spec_l1In.f a lo hi = some (decide (lo ≤ a ∧ a ≤ hi)) := by
    intro a lo hi
    unfold spec_l1In.f
    by_cases h : a ≥ lo
    · rw [if_pos h]; simp [show lo ≤ a from h]
    · rw [if_neg h]; simp [show ¬ lo ≤ a from h]
  refine Tot.bind (Tot.of (hin _ _ _) rfl) ?_
  rintro _ rfl
  refine Tot.ite (fun h => ?_) (fun h => Tot.step (fun k => spec_HexOf.j0.eq_2 _ _ _ k) (Tot.yes rfl (Tot.ret (hexV_none (fun e => h (decide_eq_true e.1))).symm)))
  have hd := of_decide_eq_true h
  refine Tot.bind (Tot.of (hin _ _ _) rfl) ?_
  rintro _ rfl
  refine Tot.step (fun k => spec_HexOf.j0.eq_2 _ _ _ k) (Tot.ite (fun h => Tot.ret (hexV_none (fun e => by have := e.2.1; simp [this] at h)).symm) (fun h => ?_))
  have hn : 0 ≤ n ∧ n ≤ 65535 := by simpa using h
  obtain ⟨D, rfl⟩ : ∃ D : Nat, d = D := ⟨d.toNat, by omega⟩
  have hl := hexS_loop n hn.1 hn.2 D (by omega) D 0 (by omega)
  rw [Int.pow_zero, Int.ediv_one] at hl
  refine Tot.mono hl (fun r hr => ?_)
  rw [hr]
  by_cases hq : n < 16 ^ D
  · rw [if_neg (by rw [Int.ediv_eq_zero_of_lt hn.1 hq]; decide), hexV, if_pos ⟨hd, hn, by rw [Int.toNat_natCast]; exact hq⟩, Int.toNat_natCast]
  · have h1 : 1 ≤ n / 16 ^ D := by rw [Int.le_ediv_iff_mul_le (pow_pos16 D)]; omega
    rw [if_pos (show n / 16 ^ D > 0 by omega), hexV_none (fun e => hq (by have := e.2.2; rwa [Int.toNat_natCast] at this))]
theorem up_of_low : ∀ v : Fin 16, Lib.upperB (UInt8.ofNat (LibF.hexDig v.val).toNat) = UInt8.ofNat (upD (v.val : Int)).toNat ∧ (UInt8.ofNat (LibF.hexDig v.val).toNat).toNat < 128 := by decide
theorem upper_low (n : Nat) (k : Nat) : Lib.toUpperA ((LibF.hexLow n k).map fun x => UInt8.ofNat x.toNat) = (hexUp (n : Int) k).map (fun x => UInt8.ofNat x.toNat) ∧ ((LibF.hexLow n k).map fun x => UInt8.ofNat x.toNat).all (fun b => decide (b.toNat < 128)) = true := by
  induction k with
  | zero => exact ⟨rfl, rfl⟩
  | succ k ih =>
    have h := up_of_low ⟨n / 16 ^ k % 16, Nat.mod_lt _ (by decide)⟩
    have e : (((n / 16 ^ k % 16 : Nat)) : Int) = (n : Int) / 16 ^ k % 16 := by
      rw [Int.natCast_emod, Int.natCast_ediv, Int.natCast_pow]; rfl
    simp only [e] at h
    constructor
    · rw [LibF.hexLow, hexUp, List.map_cons, List.map_cons]
      show Lib.upperB _ :: Lib.toUpperA _ = _
      rw [h.1, ih.1]
    · rw [LibF.hexLow, List.map_cons, List.all_cons, ih.2, Bool.and_true]
      exact decide_eq_true h.2
theorem hexUp_more (n : Int) (k : Nat) (hn0 : 0 ≤ n) (hn : n < 16 ^ k) : ∀ c, hexUp n (k + c) = List.replicate c 48 ++ hexUp n k := by
  intro c
  induction c with
  | zero => rfl
  | succ c ih =>
    have hz : n / 16 ^ (k + c) = 0 := Int.ediv_eq_zero_of_lt hn0 (Int.lt_of_lt_of_le hn (by
      rw [Int.pow_add]
      have h1 := pow_pos16 k
      have h2 : (1 : Int) ≤ 16 ^ c := pow_pos16 c
      calc (16 : Int) ^ k = 16 ^ k * 1 := (Int.mul_one _).symm
        _ ≤ 16 ^ k * 16 ^ c := Int.mul_le_mul_of_nonneg_left h2 (Int.le_of_lt h1)))
    rw [show k + (c + 1) = (k + c) + 1 by omega, hexUp, ih, hz, List.replicate_succ]
    rfl
theorem hexK_spec (n : Nat) (hn : n < 65536) : (n : Int) < 16 ^ (LibF.hexK n + 1) ∧ (∀ d : Nat, 1 ≤ d → d ≤ 4 → (n : Int) < 16 ^ d → LibF.hexK n + 1 ≤ d) ∧ LibF.hexK n ≤ 3 := by
  unfold LibF.hexK
  refine ⟨?_, ?_, ?_⟩
  · split
    · simp; omega
    · split
      · simp; omega
      · split <;> simp <;> omega
  · intro d h1 h4 hd
    rcases (show d = 1 ∨ d = 2 ∨ d = 3 ∨ d = 4 by omega) with rfl | rfl | rfl | rfl <;> simp at hd <;> (repeat' split) <;> omega
  · (repeat' split) <;> omega
theorem rep48 (c : Nat) : Lib.repeatL [48] c = (List.replicate c (48 : Int)).map (fun x => UInt8.ofNat x.toNat) := by
  induction c with
  | zero => rfl
  | succ c ih => rw [Lib.repeatL, ih, List.replicate_succ]; rfl
theorem hexDigits_eq (n : Int) (d : Nat) (hn0 : 0 ≤ n) (hn1 : n ≤ 65535) (hd0 : 1 ≤ d) (hd1 : d ≤ 4) (hlt : n < 16 ^ d) : impl_hexDigits.f n (d : Int) = some (strOfNums (hexUp n d)) := by
  obtain ⟨m, rfl⟩ : ∃ m : Nat, n = m := ⟨n.toNat, by omega⟩
  obtain ⟨s1, s2, s3⟩ := hexK_spec m (by omega)
  have s2 := s2 d hd0 hd1 hlt
  unfold impl_hexDigits.f
  have e1 : strconv_FormatInt.f (m : Int) 16 = some (strOfNums (LibF.hexLow m (LibF.hexK m + 1))) := by
    unfold strconv_FormatInt.f
    rw [if_neg (by decide), if_pos rfl, if_pos hn0, if_pos (by omega), Int.toNat_natCast]
    rfl
  rw [e1, Option.bind_some]
  have e2 : strings_ToUpper.f (strOfNums (LibF.hexLow m (LibF.hexK m + 1))) = some (strOfNums (hexUp (m : Int) (LibF.hexK m + 1))) := by
    unfold strings_ToUpper.f
    obtain ⟨u1, u2⟩ := upper_low m (LibF.hexK m + 1)
    rw [if_pos (by rw [strOfNums_size, LibF.hexLow_length]; omega), strOfNums_data, if_pos u2, u1]
    rfl
  rw [e2, Option.bind_some]
  have ez : ((strOfNums (hexUp (m : Int) (LibF.hexK m + 1))).size : Int) = LibF.hexK m + 1 := by rw [strOfNums_size, hexUp_length]; rfl
  rw [ez, w64_in (n := (d : Int) - (LibF.hexK m + 1)) (by omega) (by omega), show mx 0 ((d : Int) - ((LibF.hexK m : Int) + 1)) = ((d - (LibF.hexK m + 1) : Nat) : Int) by unfold mx; omega]
  obtain ⟨c, hc⟩ : ∃ c, d - (LibF.hexK m + 1) = c := ⟨_, rfl⟩
  rw [hc]
  have e3 : strings_Repeat.f (⟨#[48]⟩ : ByteArray) (c : Int) = some (strOfNums (List.replicate c 48)) := by
    unfold strings_Repeat.f
    rw [if_pos (by omega), if_pos (by omega), if_pos (by have : (⟨#[48]⟩ : ByteArray).size = 1 := rfl; rw [this, Int.toNat_natCast]; omega), Int.toNat_natCast]
    have : (⟨#[48]⟩ : ByteArray).data.toList = [48] := rfl
    rw [this, rep48]
    rfl
  rw [e3, Option.bind_some, if_pos (by rw [strOfNums_size, strOfNums_size, hexUp_length, List.length_replicate]; omega), str_app, ← hexUp_more (m : Int) _ hn0 s1, show LibF.hexK m + 1 + c = d by omega]
theorem hexI_T (n d : Int) : Tot (fun k => impl_HexOf.f k n d) (· = hexV n d) := by
  unfold impl_HexOf.f
  have wi : ∀ (a lo hi : Int), impl_within.f a lo hi = some (decide (lo ≤ a ∧ a ≤ hi)) := by
    intro a lo hi
    unfold impl_within.f
    by_cases h : a ≥ lo
    · rw [if_pos h]; simp [show lo ≤ a from h]
    · rw [if_neg h]; simp [show ¬ lo ≤ a from h]
  have wo : ∀ a : Int, impl_isWord.f a = some (decide (0 ≤ a ∧ a ≤ 65535)) := by intro a; unfold impl_isWord.f; rw [wi]; rfl
  refine Tot.bind (Tot.of (wi _ _ _) rfl) ?_
  rintro _ rfl
  refine Tot.ite (fun h => ?_) (fun h => Tot.step (fun k => impl_HexOf.j0.eq_2 _ _ _ k) (Tot.yes rfl (Tot.ret (hexV_none (fun e => h (decide_eq_true e.1))).symm)))
  have hd := of_decide_eq_true h
  refine Tot.bind (Tot.of (wo _) rfl) ?_
  rintro _ rfl
  refine Tot.ite (fun h => ?_) (fun h => Tot.step (fun k => impl_HexOf.j0.eq_2 _ _ _ k) (Tot.yes rfl (Tot.ret (hexV_none (fun e => h (decide_eq_true e.2.1))).symm)))
  have hn := of_decide_eq_true h
  obtain ⟨D, rfl⟩ : ∃ D : Nat, d = D := ⟨d.toNat, by omega⟩
  rw [w64_in (n := 4 * (D : Int)) (by omega) (by omega)]
  have es : shr .i64 n (4 * (D : Int)) = n / 16 ^ D := by
    unfold shr
    rw [show (4 * (D : Int)).toNat = 4 * D by omega, Nat.min_eq_left (by show 4 * D ≤ 64; omega), Int.pow_mul]
    rfl
  rw [es]
  refine Tot.yes (by omega) (Tot.step (fun k => impl_HexOf.j0.eq_2 _ _ _ k) (Tot.ite (fun h => Tot.ret ?_) (fun h => ?_)))
  · have := of_decide_eq_true h
    refine (hexV_none (fun e => ?_)).symm
    have e2 := e.2.2
    rw [Int.toNat_natCast] at e2
    rw [Int.ediv_eq_zero_of_lt hn.1 e2] at this
    omega
  · have hq : n < 16 ^ D := by
      have h1 : ¬ n / 16 ^ D > 0 := fun e => h (decide_eq_true e)
      rcases Int.lt_or_le n (16 ^ D) with a | a
      · exact a
      · have : 1 ≤ n / 16 ^ D := by rw [Int.le_ediv_iff_mul_le (pow_pos16 D)]; omega
        omega
    refine Tot.bind (Tot.of (hexDigits_eq n D hn.1 hn.2 (by omega) (by omega) hq) rfl) ?_
    rintro _ rfl
    refine Tot.yes (by rw [strOfNums_size, hexUp_length]; omega) (Tot.ret ?_)
    rw [hexV, if_pos ⟨hd, hn, by rw [Int.toNat_natCast]; exact hq⟩, Int.toNat_natCast]
    exact str_cons 36 _

def holeLen (h : Nat) : Nat := if h = 4 then 3 else 2
def QX (cb : Bool) (n : Int) : Prop :=
  strings_HasPrefix.f (tm cb n) (⟨#[106, 114, 32]⟩ : ByteArray) = some (decide (hk cb n = 3 ∧ n < 64)) ∧
  (hk cb n = 3 ∧ n < 64 → (Lib.cut (tm cb n).data.toList [32]).1 = [106, 114]) ∧
  (2 ≤ hk cb n → 1 ≤ hp cb n ∧ hp cb n + holeLen (hk cb n) ≤ (tm cb n).size ∧ Lib.index (tm cb n).data.toList (holeS (hk cb n)).data.toList = hp cb n ∧ Lib.countB (tm cb n) (holeS (hk cb n)) = 1)
instance (cb : Bool) (n : Int) : Decidable (QX cb n) := by unfold QX; infer_instance
set_option maxRecDepth 100000 in
theorem qx1 : ∀ n : Fin 256, QX true ((n.val : Nat) : Int) := by decide +kernel
set_option maxRecDepth 100000 in
theorem qx0 : ∀ n : Fin 256, QX false ((n.val : Nat) : Int) := by decide +kernel
theorem qx (cb : Bool) {n : Int} (h0 : 0 ≤ n) (h1 : n < 256) : QX cb n := by
  cases cb
  · exact all256 qx0 h0 h1
  · exact all256 qx1 h0 h1
def decV (n : Int) : ByteArray := vS (impl_decimal.f n)
def QD (n : Int) : Prop := impl_decimal.f n = some (decV n) ∧ spec_l1Dec.f 40 n = some (decV n) ∧ decV n ≠ ⟨#[101, 56]⟩ ∧ 1 ≤ (decV n).size ∧ (decV n).size ≤ 4
instance (n : Int) : Decidable (QD n) := by unfold QD; infer_instance
set_option maxRecDepth 100000 in
theorem qd' : ∀ n : Fin 430, QD ((n.val : Int) - 130) := by decide +kernel
theorem qd {n : Int} (h0 : -130 ≤ n) (h1 : n < 300) : QD n := by
  have := qd' ⟨(n + 130).toNat, by omega⟩
  rwa [show (((n + 130).toNat : Nat) : Int) - 130 = n by omega] at this
theorem decS_T {n : Int} (h0 : -130 ≤ n) (h1 : n < 300) : Tot (fun k => spec_l1Dec.f k n) (· = decV n) := Tot.lift (fun k => spec_l1Dec.mono _ k) (qd h0 h1).2.1 rfl
def sgV (m : Int) : Int := if 0 ≤ m ∧ m ≤ 255 then (if m > 127 then m - 256 else m) else 0
theorem sgV_range (m : Int) : -128 ≤ sgV m ∧ sgV m ≤ 127 := by
  unfold sgV
  split
  · split <;> omega
  · omega
theorem sgI (m : Int) : impl_SignedOf.f m = some (sgV m) := by
  unfold impl_SignedOf.f sgV
  rw [byteI, Option.bind_some]
  by_cases h : 0 ≤ m ∧ m ≤ 255
  · rw [if_pos (decide_eq_true h), if_pos h]
    by_cases g : m > 127
    · rw [if_pos g, if_pos g, w64_in (by omega) (by omega)]
    · rw [if_neg g, if_neg g]
  · rw [if_neg (by simp; omega), if_neg h]
theorem sgS (m : Int) : spec_SignedOf.f m = some (sgV m) := by
  unfold spec_SignedOf.f sgV
  rw [inS, Option.bind_some]
  by_cases h : 0 ≤ m ∧ m ≤ 255
  · rw [if_pos (decide_eq_true h), if_pos h]
    by_cases g : m > 127
    · rw [if_pos g, if_pos g, w64_in (by omega) (by omega)]
    · rw [if_neg g, if_neg g]
  · rw [if_neg (by simp; omega), if_neg h]
def putV (t : ByteArray) (p : Int) (len : Nat) (f : ByteArray) : ByteArray := (t.extract 0 p.toNat ++ f) ++ t.extract (p + len).toNat t.size
theorem putV_size (t : ByteArray) (p : Int) (len : Nat) (f : ByteArray) (h0 : 1 ≤ p) (h : p + len ≤ t.size) : 1 ≤ (putV t p len f).size ∧ (putV t p len f).size ≤ t.size + f.size := by
  unfold putV
  rw [ByteArray.size_append, ByteArray.size_append, ByteArray.size_extract, ByteArray.size_extract]
  omega
theorem replace_one (t h f : ByteArray) (p : Int) (hp : 0 ≤ p) (hix : Lib.index t.data.toList h.data.toList = p) (hcnt : Lib.countB t h = 1) (hne : h ≠ f) (h1 : 1 ≤ h.size) (hsz : t.size ≤ 1000) (hf : f.size ≤ 1000) :
    strings_Replace.f t h f 1 = some (putV t p h.size f) := by
  unfold strings_Replace.f
  rw [if_pos (by omega), if_pos h1, if_pos (by rw [hcnt]; omega)]
  congr 1
  have hc : Lib.count t.data.toList h.data.toList = 1 := hcnt
  have hned : (h.data.toList == f.data.toList) = false := by
    rw [beq_eq_false_iff_ne]
    intro e
    apply hne
    cases h; cases f; congr 1; exact Array.ext' e
  have hnum : Lib.replaceNum t.data.toList h.data.toList 1 = 1 := by
    unfold Lib.replaceNum
    rw [hc, if_neg (by decide)]
    rfl
  have hm : ¬ (p == -1) = true := by simp; omega
  unfold Lib.replace
  rw [if_neg (by rw [hned]; decide), hnum, Lib.replaceK, hix, if_neg hm, Lib.replaceK]
  unfold putV
  apply ByteArray.ext
  rw [ByteArray.data_append, ByteArray.data_append, ByteArray.data_extract, ByteArray.data_extract]
  apply Array.ext'
  rw [Array.toList_append, Array.toList_append, Array.toList_extract, Array.toList_extract, List.extract_eq_take_drop, List.extract_eq_take_drop, List.drop_zero, Nat.sub_zero]
  have hl : h.data.toList.length = h.size := by rw [Array.length_toList]; rfl
  have e2 : ((t.data.toList.drop (p + (h.size : Int)).toNat).take (t.size - (p + (h.size : Int)).toNat)) = t.data.toList.drop (p + (h.size : Int)).toNat := by
    apply List.take_of_length_le
    rw [List.length_drop, Array.length_toList]
    exact Nat.le_refl _
  rw [e2, show (p + (h.size : Int)).toNat = p.toNat + h.size by omega, hl]
def fillV (h : Nat) (m : Int) : ByteArray := if h = 4 then hexV m 4 else if h = 2 then hexV m 2 else decV (sgV m)
def txtV (cb : Bool) (n m : Int) : ByteArray := if okV (hk cb n) m = true then (if hk cb n ≤ 1 then tm cb n else putV (tm cb n) (hp cb n) (holeLen (hk cb n)) (fillV (hk cb n) m)) else ⟨#[]⟩
theorem hexV_size (n d : Int) : (hexV n d).size ≤ 5 := by
  unfold hexV
  split
  · rw [strOfNums_size, List.length_cons, hexUp_length]; omega
  · exact Nat.zero_le _
theorem hexV_ne (n d : Int) (h : Nat) (hh : h = 2 ∨ h = 3 ∨ h = 4) : holeS h ≠ hexV n d := by
  intro e
  unfold hexV at e
  split at e
  · have e1 := congrArg (fun s : ByteArray => s.data.toList) e
    simp only [strOfNums_data, List.map_cons] at e1
    rcases hh with rfl | rfl | rfl <;> simp [holeS] at e1
  · have e1 := congrArg (fun s : ByteArray => s.size) e
    rcases hh with rfl | rfl | rfl <;> exact absurd e1 (by decide)
theorem fill_facts (h : Nat) (hh : h = 2 ∨ h = 3 ∨ h = 4) (m : Int) : holeS h ≠ fillV h m ∧ (fillV h m).size ≤ 5 := by
  have r := sgV_range m
  have q := qd (n := sgV m) (by omega) (by omega)
  unfold fillV
  rcases hh with rfl | rfl | rfl
  · rw [if_neg (by decide), if_pos rfl]; exact ⟨hexV_ne _ _ _ (by decide), hexV_size _ _⟩
  · rw [if_neg (by decide), if_neg (by decide)]; exact ⟨fun e => q.2.2.1 e.symm, Nat.le_trans q.2.2.2.2 (by decide)⟩
  · rw [if_pos rfl]; exact ⟨hexV_ne _ _ _ (by decide), hexV_size _ _⟩
theorem holeS_size (h : Nat) (hh : h = 2 ∨ h = 3 ∨ h = 4) : (holeS h).size = holeLen h := by rcases hh with rfl | rfl | rfl <;> rfl
theorem fillI_T (h : Nat) (hh : h = 2 ∨ h = 3 ∨ h = 4) (m : Int) : Tot (fun k => impl_filling.f k (holeS h) m) (· = fillV h m) := by
  have r := sgV_range m
  have q := qd (n := sgV m) (by omega) (by omega)
  unfold impl_filling.f fillV
  rcases hh with rfl | rfl | rfl
  · refine Tot.yes ((holeS_n8 2 (by decide)).2 rfl) (Tot.bind (hexI_T m 2) ?_)
    rintro _ rfl
    exact Tot.ret rfl
  · refine Tot.no (fun e => by have := (holeS_n8 3 (by decide)).1 e; omega) (Tot.no (fun e => by have := (holeS_n16 3 (by decide)).1 e; omega) (Tot.bind (Tot.of (sgI m) rfl) ?_))
    rintro _ rfl
    refine Tot.bind (Tot.of q.1 rfl) ?_
    rintro _ rfl
    exact Tot.ret rfl
  · refine Tot.no (fun e => by have := (holeS_n8 4 (by decide)).1 e; omega) (Tot.yes ((holeS_n16 4 (by decide)).2 rfl) (Tot.bind (hexI_T m 4) ?_))
    rintro _ rfl
    exact Tot.ret rfl
theorem txtI_T (cb : Bool) {n : Int} (h0 : 0 ≤ n) (h1 : n < 256) (m : Int) : Tot (fun k => impl_InsText.f k n cb m) (· = txtV cb n m) := by
  have hle := hk_le cb h0 h1
  have q := qx cb h0 h1
  have hz := (qc cb h0 h1).2.2.2.2.2.2.2.1
  unfold impl_InsText.f txtV
  refine Tot.bind (okI_T cb h0 h1 m) ?_
  rintro _ rfl
  refine Tot.ite (fun ho => ?_) (fun ho => Tot.ret (by rw [if_neg ho]))
  rw [if_pos ho]
  refine Tot.bind (tmI_T cb h0 h1) ?_
  rintro _ rfl
  refine Tot.bind (hoI_T cb h0 h1) ?_
  rintro _ rfl
  refine Tot.ite (fun hn => Tot.ret (by rw [if_pos ((holeS_nil _ hle).1 hn)])) (fun hn => ?_)
  have hn2 : ¬ hk cb n ≤ 1 := fun e => hn ((holeS_nil _ hle).2 e)
  have hh : hk cb n = 2 ∨ hk cb n = 3 ∨ hk cb n = 4 := by omega
  rw [if_neg hn2]
  obtain ⟨x1, x2, x3, x4⟩ := q.2.2 (by omega)
  obtain ⟨f1, f2⟩ := fill_facts (hk cb n) hh m
  refine Tot.bind (fillI_T (hk cb n) hh m) ?_
  rintro _ rfl
  have hs := holeS_size (hk cb n) hh
  refine Tot.bind (Tot.of (replace_one (tm cb n) (holeS (hk cb n)) (fillV (hk cb n) m) (hp cb n) (by omega) x3 x4 f1 (by rw [hs]; unfold holeLen; split <;> omega) (by omega) (by omega)) rfl) ?_
  rintro _ rfl
  exact Tot.ret (by rw [hs])
theorem txtS_T (cb : Bool) {n : Int} (h0 : 0 ≤ n) (h1 : n < 256) (m : Int) : Tot (fun k => spec_InsText.f k n cb m) (· = txtV cb n m) := by
  have hle := hk_le cb h0 h1
  have q := qx cb h0 h1
  have hz := (qc cb h0 h1).2.2.2.2.2.2.2.1
  have rg := sgV_range m
  unfold spec_InsText.f txtV
  refine Tot.bind (okS_T cb h0 h1 m) ?_
  rintro _ rfl
  refine Tot.ite (fun ho => ?_) (fun ho => Tot.ret (by rw [if_neg ho]))
  rw [if_pos ho]
  refine Tot.bind (tmS_T cb h0 h1) ?_
  rintro _ rfl
  refine Tot.bind (hoS_T cb h0 h1) ?_
  rintro _ rfl
  have fin : ∀ (len : Nat) (f : ByteArray) (g : Nat → Option ByteArray), len ≤ 3 → 1 ≤ hp cb n → hp cb n + len ≤ (tm cb n).size → f.size ≤ 5 → Tot g (· = f) →
      Tot (fun k => if 0 ≤ hp cb n then (if hp cb n ≤ ((tm cb n).size : Int) then ((g k).bind fun t => if ((tm cb n).extract 0 (hp cb n : Int).toNat).size + t.size ≤ 9223372036854775807 then (if 0 ≤ wrap64 (hp cb n + (len : Int)) then (if wrap64 (hp cb n + (len : Int)) ≤ ((tm cb n).size : Int) then (if (((tm cb n).extract 0 (hp cb n : Int).toNat) ++ t).size + ((tm cb n).extract (wrap64 (hp cb n + (len : Int)) : Int).toNat (tm cb n).size).size ≤ 9223372036854775807 then some ((((tm cb n).extract 0 (hp cb n : Int).toNat) ++ t) ++ ((tm cb n).extract (wrap64 (hp cb n + (len : Int)) : Int).toNat (tm cb n).size)) else none) else none) else none) else none) else none) else none) (· = putV (tm cb n) (hp cb n) len f) := by
    intro len f g hlen p1 p2 hf hg
    rw [w64_in (n := hp cb n + (len : Int)) (by omega) (by omega)]
    refine Tot.yes (by omega) (Tot.yes (by omega) (Tot.bind hg ?_))
    rintro _ rfl
    refine Tot.yes (by rw [ByteArray.size_extract]; omega) (Tot.yes (by omega) (Tot.yes (by omega) (Tot.yes ?_ (Tot.ret rfl))))
    rw [ByteArray.size_append, ByteArray.size_extract, ByteArray.size_extract]
    omega
  refine Tot.ite (fun hw => ?_) (fun hw => ?_)
  · have e4 := (holeS_n16 _ hle).1 hw
    have qq := q.2.2 (by omega)
    have f2 := (fill_facts (hk cb n) (by omega) m).2
    rw [e4] at qq f2 ⊢
    exact fin 3 (fillV 4 m) (fun k => spec_HexOf.f k m 4) (by decide) qq.1 qq.2.1 f2 (hexS_T m 4)
  have n4 : hk cb n ≠ 4 := fun e => hw ((holeS_n16 _ hle).2 e)
  refine Tot.ite (fun hw => ?_) (fun hw => ?_)
  · have e4 := (holeS_n8 _ hle).1 hw
    have qq := q.2.2 (by omega)
    have f2 := (fill_facts (hk cb n) (by omega) m).2
    rw [e4] at qq f2 ⊢
    exact fin 2 (fillV 2 m) (fun k => spec_HexOf.f k m 2) (by decide) qq.1 qq.2.1 f2 (hexS_T m 2)
  have n2 : hk cb n ≠ 2 := fun e => hw ((holeS_n8 _ hle).2 e)
  refine Tot.ite (fun hw => ?_) (fun hw => ?_)
  · have e4 := (holeS_e8 _ hle).1 hw
    have qq := q.2.2 (by omega)
    have f2 := (fill_facts (hk cb n) (by omega) m).2
    rw [e4] at qq f2 ⊢
    refine Tot.congr (f := fun k => if 0 ≤ hp cb n then (if hp cb n ≤ ((tm cb n).size : Int) then ((spec_l1Dec.f k (sgV m)).bind fun t => if ((tm cb n).extract 0 (hp cb n : Int).toNat).size + t.size ≤ 9223372036854775807 then (if 0 ≤ wrap64 (hp cb n + ((2 : Nat) : Int)) then (if wrap64 (hp cb n + ((2 : Nat) : Int)) ≤ ((tm cb n).size : Int) then (if (((tm cb n).extract 0 (hp cb n : Int).toNat) ++ t).size + ((tm cb n).extract (wrap64 (hp cb n + ((2 : Nat) : Int)) : Int).toNat (tm cb n).size).size ≤ 9223372036854775807 then some ((((tm cb n).extract 0 (hp cb n : Int).toNat) ++ t) ++ ((tm cb n).extract (wrap64 (hp cb n + ((2 : Nat) : Int)) : Int).toNat (tm cb n).size)) else none) else none) else none) else none) else none) else none) (fun k => ?_) ?_
    · rw [sgS, Option.bind_some]
      rfl
    · exact fin 2 (fillV 3 m) (fun k => spec_l1Dec.f k (sgV m)) (by decide) qq.1 qq.2.1 f2 (decS_T (by omega) (by omega))
  have n3 : hk cb n ≠ 3 := fun e => hw ((holeS_e8 _ hle).2 e)
  exact Tot.ret (by rw [if_pos (by omega)])

def zrun (s : ByteArray) : Nat → Int → Nat
  | 0, _ => 0
  | f + 1, p => if p < s.size ∧ bt s p = 0 then zrun s f (p + 1) + 1 else 0
theorem zrun_le (s : ByteArray) : ∀ (f : Nat) (p : Int), p ≤ s.size → p + zrun s f p ≤ s.size
  | 0, p, h => by unfold zrun; omega
  | f + 1, p, h => by
    unfold zrun
    split
    · rename_i c
      have := zrun_le s f (p + 1) (by omega)
      omega
    · omega
def pre3 (a b : Int) (t : ByteArray) : ByteArray := strOfNums [a, b, 32] ++ t
def jrV (t : ByteArray) (hpos tg : Int) : ByteArray := putV t hpos 2 (hexV tg 4)
def lineV (s : ByteArray) (base p : Int) : ByteArray × Int :=
  if 4 ≤ zrun s 256 p then (pre3 100 115 (decV (zrun s 256 p)), zrun s 256 p) else
  if (rdI s p).2.2.2 = 0 then (pre3 100 98 (hexV (bt s p) 2), 1) else
  if hk (rdI s p).2.1 (rdI s p).1 = 3 ∧ (rdI s p).1 < 64 then
    (if 0 ≤ base + p + 2 + sgV (rdI s p).2.2.1 ∧ base + p + 2 + sgV (rdI s p).2.2.1 ≤ 65535 then (jrV (tm (rdI s p).2.1 (rdI s p).1) (hp (rdI s p).2.1 (rdI s p).1) (base + p + 2 + sgV (rdI s p).2.2.1), (rdI s p).2.2.2) else (pre3 100 98 (hexV (bt s p) 2), 1)) else
  (txtV (rdI s p).2.1 (rdI s p).1 (rdI s p).2.2.1, (rdI s p).2.2.2)
def linesV (s : ByteArray) (base : Int) : Nat → Int → List ByteArray
  | 0, _ => []
  | f + 1, p => if p < s.size then (lineV s base p).1 :: linesV s base f (p + (lineV s base p).2) else []
theorem rd_pos {s : ByteArray} {p : Int} (h : (rdI s p).2.2.2 ≠ 0) : 1 ≤ (rdI s p).2.2.2 ∧ (rdI s p).2.2.2 ≤ 3 ∧ p + (rdI s p).2.2.2 ≤ s.size ∧ (0 ≤ (rdI s p).1 ∧ (rdI s p).1 < 256) ∧ okV (hk (rdI s p).2.1 (rdI s p).1) (rdI s p).2.2.1 = true ∧ (hk (rdI s p).2.1 (rdI s p).1 = 3 → (rdI s p).2.2.2 = 2) := by
  have r0 := btRange s p
  have r1 := btRange s (p + 1)
  have r2 := btRange s (p + 2)
  by_cases ho : p < 0 ∨ (s.size : Int) ≤ p
  · rw [rdI_out ho] at h; exact absurd rfl h
  by_cases hc : bt s p = 203
  · by_cases h2 : (s.size : Int) < p + 2
    · rw [rdI_cut hc h2] at h; exact absurd rfl h
    · rw [rdI_cb (by omega) hc (by omega)]
      have hh := hk_cb r1.1 r1.2
      refine ⟨by dsimp only; omega, by dsimp only; omega, by dsimp only; omega, r1, by dsimp only; rw [hh]; rfl, fun _ => rfl⟩
  · obtain ⟨L, eL⟩ : ∃ L, lenK false (hk false (bt s p)) = L := ⟨_, rfl⟩
    by_cases hl : L = 0 ∨ (s.size : Int) < p + L
    · rw [rdI_none eL hc hl] at h; exact absurd rfl h
    have hL := lenK_range (hk false (bt s p))
    have hle := hk_le false r0.1 r0.2
    rw [eL] at hL
    rw [rdI_some eL (by omega) hc (by omega) (by omega)]
    dsimp only
    refine ⟨by omega, by omega, by omega, r0, ?_, ?_⟩
    · rcases (show hk false (bt s p) = 0 ∨ hk false (bt s p) = 1 ∨ hk false (bt s p) = 2 ∨ hk false (bt s p) = 3 ∨ hk false (bt s p) = 4 by omega) with e | e | e | e | e <;> rw [e] at eL ⊢ <;> simp [lenK] at eL <;> subst eL <;> simp [okV] <;> omega
    · intro e
      rw [e] at eL
      rw [← eL]
      rfl
theorem line_pos (s : ByteArray) (base p : Int) (h0 : p < s.size) : 1 ≤ (lineV s base p).2 ∧ p + (lineV s base p).2 ≤ s.size := by
  unfold lineV
  have hz := zrun_le s 256 p (by omega)
  split
  · dsimp only; omega
  · split
    · dsimp only; omega
    · rename_i h
      have := rd_pos h
      split
      · split <;> dsimp only <;> omega
      · dsimp only; omega
theorem rdI_shift {s t : ByteArray} {o p : Int} (ho : 0 ≤ o) (hp : 0 ≤ p) (hs : (t.size : Int) = o + s.size) (hb : ∀ j : Int, 0 ≤ j → bt t (o + j) = bt s j) : rdI t (o + p) = rdI s p := by
  have b0 := hb p hp
  have b1 := hb (p + 1) (by omega)
  have b2 := hb (p + 2) (by omega)
  rw [← Int.add_assoc] at b1 b2
  unfold rdI
  rw [b0, b1, b2, hs]
  have e1 : (o + p < 0 ∨ o + (s.size : Int) ≤ o + p) ↔ (p < 0 ∨ (s.size : Int) ≤ p) := by omega
  have e2 : (o + (s.size : Int) < o + p + 2) ↔ ((s.size : Int) < p + 2) := by omega
  have e3 : ∀ L : Int, (L = 0 ∨ o + (s.size : Int) < o + p + L) ↔ (L = 0 ∨ (s.size : Int) < p + L) := by intro L; omega
  simp only [e1, e2, e3]
theorem txt_size (cb : Bool) {n : Int} (h0 : 0 ≤ n) (h1 : n < 256) {m : Int} (ho : okV (hk cb n) m = true) : 1 ≤ (txtV cb n m).size ∧ (txtV cb n m).size ≤ 40 := by
  have hle := hk_le cb h0 h1
  have q := qx cb h0 h1
  have c := qc cb h0 h1
  have hz := c.2.2.2.2.2.2.2.1
  unfold txtV
  rw [if_pos ho]
  split
  · rename_i h
    have : hk cb n ≠ 0 := fun e => by rw [e] at ho; exact absurd ho (by simp [okV])
    have : (tm cb n).size ≠ 0 := fun e => this (c.2.2.1.1 e)
    omega
  · obtain ⟨x1, x2, x3, x4⟩ := q.2.2 (by omega)
    have f2 := (fill_facts (hk cb n) (by omega) m).2
    have := putV_size (tm cb n) (hp cb n) (holeLen (hk cb n)) (fillV (hk cb n) m) x1 x2
    omega
theorem zrunS_T {s : ByteArray} (hs : s.size ≤ 256) {base : Int} {acc : List ByteArray} {p : Int} (hp0 : 0 ≤ p) (hp1 : p ≤ 256) {P : List ByteArray → Prop} : ∀ (f : Nat) (z : Int), 0 ≤ z → z ≤ 256 → s.size - (p + z) ≤ f →
    Tot (fun k => spec_l13Listed.j2 k s base acc p (z + zrun s f (p + z))) P → Tot (fun k => spec_l13Listed.l1 k s base acc p z) P
  | 0, z, z0, z1, hf, h => by
    refine Tot.step (fun k => spec_l13Listed.l1.eq_2 _ _ _ _ _ k) ?_
    rw [w64_in (n := p + z) (by omega) (by omega)]
    refine Tot.no (by omega) ?_
    simpa [zrun] using h
  | f + 1, z, z0, z1, hf, h => by
    refine Tot.step (fun k => spec_l13Listed.l1.eq_2 _ _ _ _ _ k) ?_
    rw [w64_in (n := p + z) (by omega) (by omega), w64_in (n := z + 1) (by omega) (by omega)]
    unfold zrun at h
    refine Tot.ite (fun hlt => ?_) (fun hlt => ?_)
    · refine Tot.yes (by omega) (Tot.ite (fun hb => ?_) (fun hb => ?_))
      · rw [if_pos ⟨hlt, hb⟩] at h
        refine zrunS_T hs hp0 hp1 f (z + 1) (by omega) (by omega) (by omega) ?_
        rw [show z + ((zrun s f (p + z + 1) + 1 : Nat) : Int) = z + 1 + (zrun s f (p + (z + 1)) : Int) by rw [← Int.add_assoc]; omega] at h
        exact h
      · rw [if_neg (fun e => hb e.2)] at h
        simpa using h
    · rw [if_neg (fun e => hlt e.1)] at h
      simpa using h
theorem line13_T (cb : Bool) {n : Int} (h0 : 0 ≤ n) (h1 : n < 256) (m addr L : Int) (hL : hk cb n = 3 → L = 2) (hL0 : 0 ≤ L ∧ L ≤ 3) (ha : 0 ≤ addr ∧ addr ≤ 100000) :
    Tot (fun k => spec_l13Line.f k n cb m addr L) (· = if hk cb n = 3 ∧ n < 64 then (if 0 ≤ addr + 2 + sgV m ∧ addr + 2 + sgV m ≤ 65535 then jrV (tm cb n) (hp cb n) (addr + 2 + sgV m) else ⟨#[]⟩) else txtV cb n m) := by
  have hle := hk_le cb h0 h1
  have rg := sgV_range m
  have hz := (qc cb h0 h1).2.2.2.2.2.2.2.1
  unfold spec_l13Line.f
  refine Tot.bind (tmS_T cb h0 h1) ?_
  rintro _ rfl
  refine Tot.bind (hoS_T cb h0 h1) ?_
  rintro _ rfl
  have no_ : ∀ x : Bool, x = false → ¬ (hk cb n = 3 ∧ n < 64) → Tot (fun k => spec_l13Line.j0 k addr L (tm cb n) (hp cb n) x n cb m) (· = if hk cb n = 3 ∧ n < 64 then (if 0 ≤ addr + 2 + sgV m ∧ addr + 2 + sgV m ≤ 65535 then jrV (tm cb n) (hp cb n) (addr + 2 + sgV m) else ⟨#[]⟩) else txtV cb n m) := by
    intro x hx hn
    rw [if_neg hn]
    refine Tot.step (fun k => spec_l13Line.j0.eq_2 _ _ _ _ _ _ _ _ k) (Tot.no (by rw [hx]; decide) ?_)
    refine Tot.bind (txtS_T cb h0 h1 m) ?_
    rintro _ rfl
    exact Tot.ret rfl
  refine Tot.ite (fun he => ?_) (fun he => ?_)
  · have e3 := (holeS_e8 _ hle).1 he
    by_cases h64 : n < 64
    · rw [if_pos ⟨e3, h64⟩]
      have q := (qx cb h0 h1).2.2 (by omega)
      rw [e3] at q
      have q2 : hp cb n + 2 ≤ (tm cb n).size := q.2.1
      refine Tot.step (fun k => spec_l13Line.j0.eq_2 _ _ _ _ _ _ _ _ k) (Tot.yes (decide_eq_true h64) ?_)
      refine Tot.bind (Tot.of (sgS m) rfl) ?_
      rintro _ rfl
      rw [w64_in (n := addr + L) (by omega) (by omega), w64_in (n := addr + L + sgV m) (by omega) (by omega), hL e3, w64_in (n := hp cb n + 2) (by omega) (by omega)]
      refine Tot.bind (P := (· = decide (0 ≤ addr + 2 + sgV m ∧ addr + 2 + sgV m ≤ 65535))) ?_ ?_
      · unfold spec_l4Word.f
        exact Tot.of (by rw [inS, Option.bind_some]) rfl
      rintro _ rfl
      refine Tot.ite (fun hw => ?_) (fun hw => Tot.ret (by rw [if_neg (fun e => hw (decide_eq_true e))]))
      rw [if_pos (of_decide_eq_true hw)]
      refine Tot.yes (by omega) (Tot.yes (by omega) (Tot.bind (hexS_T _ 4) ?_))
      rintro _ rfl
      have hh := hexV_size (addr + 2 + sgV m) 4
      refine Tot.yes (by rw [ByteArray.size_extract]; omega) (Tot.yes (by omega) (Tot.yes (by omega) (Tot.yes ?_ (Tot.ret rfl))))
      rw [ByteArray.size_append, ByteArray.size_extract, ByteArray.size_extract]
      omega
    · exact no_ _ (decide_eq_false h64) (fun e => h64 e.2)
  · exact no_ false rfl (fun e => he ((holeS_e8 _ hle).2 e.1))
theorem specList_T {s : ByteArray} (hs : s.size ≤ 256) {base : Int} (hb : base = 0 ∨ base = 256) : ∀ (f : Nat) (p : Int) (acc : List ByteArray), 0 ≤ p → p ≤ 256 → s.size - p ≤ f → acc.length + f ≤ 1000 →
    Tot (fun k => spec_l13Listed.l0 k s base acc p) (· = acc ++ linesV s base f p)
  | 0, p, acc, p0, p1, hf, hl => by
    refine Tot.step (fun k => spec_l13Listed.l0.eq_2 _ _ _ _ k) (Tot.no (by omega) (Tot.ret ?_))
    rw [linesV, List.append_nil]
  | f + 1, p, acc, p0, p1, hf, hl => by
    refine Tot.step (fun k => spec_l13Listed.l0.eq_2 _ _ _ _ k) (Tot.ite (fun hlt => ?_) (fun hlt => Tot.ret (by rw [linesV, if_neg hlt, List.append_nil])))
    have hzr := zrun_le s 256 p (by omega)
    have rb := btRange s p
    rw [linesV, if_pos hlt]
    have next : ∀ (x : ByteArray) (n : Int), lineV s base p = (x, n) → 1 ≤ n → p + n ≤ s.size → Tot (fun k => spec_l13Listed.l0 k s base (acc ++ [x]) (p + n)) (· = acc ++ ((lineV s base p).1 :: linesV s base f (p + (lineV s base p).2))) := by
      intro x n e n1 n2
      rw [e]
      refine Tot.mono (specList_T hs hb f (p + n) (acc ++ [x]) (by omega) (by omega) (by omega) (by rw [List.length_append, List.length_singleton]; omega)) (fun r hr => ?_)
      rw [hr, List.append_assoc]
      rfl
    refine zrunS_T hs p0 p1 256 0 (by decide) (by decide) (by omega) ?_
    rw [Int.zero_add, Int.add_zero]
    have e98 : (⟨#[100, 98, 32]⟩ : ByteArray) = strOfNums [100, 98, 32] := rfl
    have e115 : (⟨#[100, 115, 32]⟩ : ByteArray) = strOfNums [100, 115, 32] := rfl
    have db : lineV s base p = (pre3 100 98 (hexV (bt s p) 2), 1) → ∀ n : Int, Tot (fun k => spec_l13Listed.j3 k s base acc p n ⟨#[]⟩) (· = acc ++ ((lineV s base p).1 :: linesV s base f (p + (lineV s base p).2))) := by
      intro e n
      refine Tot.step (fun k => spec_l13Listed.j3.eq_2 _ _ _ _ _ _ k) (Tot.yes ((nil_size _).2 rfl) (Tot.yes p0 (Tot.yes hlt ?_)))
      rw [w64_in (n := bt s p) (by omega) (by omega), w64_in (n := p + 1) (by omega) (by omega)]
      refine Tot.bind (hexS_T _ 2) ?_
      rintro _ rfl
      have hh := hexV_size (bt s p) 2
      exact Tot.yes (by omega) (Tot.yes (by omega) (next _ 1 e (by decide) (by omega)))
    refine Tot.step (fun k => spec_l13Listed.j2.eq_2 _ _ _ _ _ k) (Tot.ite (fun hz => ?_) (fun hz => ?_))
    · have q := (qd (n := (zrun s 256 p : Int)) (by omega) (by omega)).2.2.2.2
      refine Tot.bind (decS_T (n := (zrun s 256 p : Int)) (by omega) (by omega)) ?_
      rintro _ rfl
      rw [w64_in (n := p + (zrun s 256 p : Int)) (by omega) (by omega)]
      exact Tot.yes (by omega) (Tot.yes (by omega) (next _ _ (by rw [lineV, if_pos (show 4 ≤ zrun s 256 p by omega)]; rfl) (by omega) (by omega)))
    have hz4 : ¬ 4 ≤ zrun s 256 p := by omega
    refine Tot.bind (readS_T s p (by omega) ⟨by omega, by omega⟩) ?_
    rintro _ rfl
    refine Tot.ite (fun hn => ?_) (fun hn => ?_)
    · have hne : (rdI s p).2.2.2 ≠ 0 := by omega
      obtain ⟨r1, r2, r3, r4, r5, r6⟩ := rd_pos hne
      have el : lineV s base p = (if hk (rdI s p).2.1 (rdI s p).1 = 3 ∧ (rdI s p).1 < 64 then
        (if 0 ≤ base + p + 2 + sgV (rdI s p).2.2.1 ∧ base + p + 2 + sgV (rdI s p).2.2.1 ≤ 65535 then (jrV (tm (rdI s p).2.1 (rdI s p).1) (hp (rdI s p).2.1 (rdI s p).1) (base + p + 2 + sgV (rdI s p).2.2.1), (rdI s p).2.2.2) else (pre3 100 98 (hexV (bt s p) 2), 1)) else
        (txtV (rdI s p).2.1 (rdI s p).1 (rdI s p).2.2.1, (rdI s p).2.2.2)) := by rw [lineV, if_neg hz4, if_neg hne]
      rw [w64_in (n := base + p) (by omega) (by omega)]
      refine Tot.bind (line13_T (rdI s p).2.1 r4.1 r4.2 (rdI s p).2.2.1 (base + p) (rdI s p).2.2.2 r6 ⟨by omega, by omega⟩ ⟨by omega, by omega⟩) ?_
      rintro _ rfl
      have push : ∀ x : ByteArray, lineV s base p = (x, (rdI s p).2.2.2) → x.size ≠ 0 → Tot (fun k => spec_l13Listed.j3 k s base acc p (rdI s p).2.2.2 x) (· = acc ++ ((lineV s base p).1 :: linesV s base f (p + (lineV s base p).2))) := by
        intro x e hx
        refine Tot.step (fun k => spec_l13Listed.j3.eq_2 _ _ _ _ _ _ k) (Tot.no (fun z => hx ((nil_size _).1 z)) (Tot.yes (by omega) ?_))
        rw [w64_in (n := p + (rdI s p).2.2.2) (by omega) (by omega)]
        exact next x _ e r1 r3
      by_cases hj : hk (rdI s p).2.1 (rdI s p).1 = 3 ∧ (rdI s p).1 < 64
      · rw [if_pos hj] at el ⊢
        by_cases hw : 0 ≤ base + p + 2 + sgV (rdI s p).2.2.1 ∧ base + p + 2 + sgV (rdI s p).2.2.1 ≤ 65535
        · rw [if_pos hw] at el ⊢
          obtain ⟨x1, x2, x3, x4⟩ := (qx (rdI s p).2.1 r4.1 r4.2).2.2 (by omega)
          rw [hj.1] at x2
          have := putV_size (tm (rdI s p).2.1 (rdI s p).1) (hp (rdI s p).2.1 (rdI s p).1) 2 (hexV (base + p + 2 + sgV (rdI s p).2.2.1) 4) x1 x2
          exact push _ el (by unfold jrV; omega)
        · rw [if_neg hw] at el ⊢
          exact db el _
      · rw [if_neg hj] at el ⊢
        have := txt_size (rdI s p).2.1 r4.1 r4.2 r5
        exact push _ el (by omega)
    · have he : (rdI s p).2.2.2 = 0 := by
        by_cases h : (rdI s p).2.2.2 = 0
        · exact h
        · have := (rd_pos h).1; omega
      exact db (by rw [lineV, if_neg hz4, if_pos he]) _

structure Bk (R s : ByteArray) (o base : Int) : Prop where
  o0 : 0 ≤ o
  al : o % 256 = 0
  hi : o + 256 ≤ R.size
  sz : s.size = 256
  lim : R.size ≤ 4096
  bt_ : ∀ j : Int, 0 ≤ j → j < 256 → bt R (o + j) = bt s j
  up : ((R.extract 0 (o + 256).toNat).size : Int) = o + s.size ∧ ∀ j : Int, 0 ≤ j → bt (R.extract 0 (o + 256).toNat) (o + j) = bt s j
  ba : (o = 0 ∧ base = 0) ∨ (256 ≤ o ∧ base = 256)
theorem bytesOf_ext (a : ByteArray) (i j : Nat) : bytesOf (a.extract i j) = ((bytesOf a).drop i).take (j - i) := by
  unfold bytesOf
  rw [ByteArray.data_extract, Array.toList_extract, List.extract_eq_take_drop, List.map_take, List.map_drop]
theorem bk_of {R : ByteArray} {b : Int} (hb : 0 ≤ b) (h : (b + 1) * 256 ≤ R.size) (hl : R.size ≤ 4096) : Bk R (R.extract (b * 256).toNat ((b + 1) * 256).toNat) (b * 256) (if b > 0 then 256 else 0) := by
  have hz : ((R.extract (b * 256).toNat ((b + 1) * 256).toNat).size : Int) = 256 := by rw [ByteArray.size_extract]; omega
  have hB : (bytesOf R).length = R.size := bytesOf_length R
  have hg : ∀ j : Int, 0 ≤ j → bt (R.extract (b * 256).toNat ((b + 1) * 256).toNat) j = if j < 256 then bt R (b * 256 + j) else 0 := by
    intro j hj
    rw [btL, bytesOf_ext, List.getD_eq_getElem?_getD, List.getElem?_take]
    by_cases c : j < 256
    · rw [if_pos (by omega), if_pos c, btL, List.getElem?_drop, List.getD_eq_getElem?_getD, show (b * 256).toNat + j.toNat = (b * 256 + j).toNat by omega]
    · rw [if_neg (by omega), if_neg c]; rfl
  refine ⟨by omega, by omega, by omega, by omega, hl, fun j j0 j1 => by rw [hg j j0, if_pos j1], ⟨?_, fun j hj => ?_⟩, ?_⟩
  · rw [hz, ByteArray.size_extract]; omega
  · rw [hg j hj, btL, bytesOf_ext, List.getD_eq_getElem?_getD, List.getElem?_take, List.drop_zero]
    by_cases c : j < 256
    · rw [if_pos (by omega), if_pos c, btL, List.getD_eq_getElem?_getD]
    · rw [if_neg (by omega), if_neg c]; rfl
  · by_cases c : b > 0
    · rw [if_pos c]; right; omega
    · rw [if_neg c]; left; omega
section
variable {R s : ByteArray} {o base : Int} (H : Bk R s o base)
include H
theorem zrunI_T {p : Int} (hp0 : 0 ≤ p) (hp1 : p ≤ 256) {P : ByteArray × Int → Prop} : ∀ (f : Nat) (z : Int), 0 ≤ z → z ≤ 256 → s.size - (p + z) ≤ f →
    Tot (fun k => impl_listedAt.j1 k R (o + p) (z + zrun s f (p + z))) P → Tot (fun k => impl_listedAt.l0 k R (o + p) (o + 256) z) P
  | 0, z, z0, z1, hf, h => by
    have := H.sz; have := H.o0; have := H.hi; have := H.lim
    refine Tot.step (fun k => impl_listedAt.l0.eq_2 _ _ _ _ k) ?_
    rw [w64_in (n := o + p + z) (by omega) (by omega)]
    refine Tot.no (by omega) ?_
    simpa [zrun] using h
  | f + 1, z, z0, z1, hf, h => by
    have := H.sz; have := H.o0; have := H.hi; have := H.lim
    refine Tot.step (fun k => impl_listedAt.l0.eq_2 _ _ _ _ k) ?_
    rw [w64_in (n := o + p + z) (by omega) (by omega), w64_in (n := z + 1) (by omega) (by omega)]
    unfold zrun at h
    refine Tot.ite (fun hlt => ?_) (fun hlt => ?_)
    · have hb' := H.bt_ (p + z) (by omega) (by omega)
      rw [← Int.add_assoc] at hb'
      rw [hb']
      refine Tot.yes (by omega) (Tot.yes (by omega) (Tot.ite (fun hb => ?_) (fun hb => ?_)))
      · rw [if_pos ⟨by omega, hb⟩] at h
        refine zrunI_T hp0 hp1 f (z + 1) (by omega) (by omega) (by omega) ?_
        rw [show z + ((zrun s f (p + z + 1) + 1 : Nat) : Int) = z + 1 + (zrun s f (p + (z + 1)) : Int) by rw [← Int.add_assoc]; omega] at h
        exact h
      · rw [if_neg (fun e => hb e.2)] at h
        simpa using h
    · rw [if_neg (fun e => hlt (by omega))] at h
      simpa using h
theorem endOf_ {p : Int} (hp0 : 0 ≤ p) (hp1 : p < 256) : wrap64 ((wrap64 ((wrap64 (Int.tdiv (o + p) 256)) + 1)) * 256) = o + 256 := by
  have := H.o0; have := H.hi; have := H.lim; have := H.al
  rw [tdiv_pos _ (by omega), w64_in (n := (o + p) / 256) (by omega) (by omega), w64_in (n := (o + p) / 256 + 1) (by omega) (by omega), w64_in (by omega) (by omega)]
  omega
theorem inBank_T {p : Int} (hp0 : 0 ≤ p) (hp1 : p < 256) : Tot (fun k => impl_inBank.f k R (o + p)) (· = rdI s p) := by
  have := H.o0; have := H.hi; have := H.lim
  unfold impl_inBank.f
  rw [endOf_ H hp0 hp1]
  refine Tot.yes (by omega) (Tot.yes H.hi ?_)
  refine Tot.bind (readI_T _ (o + p) (by rw [ByteArray.size_extract]; omega)) ?_
  rintro _ rfl
  rw [rdI_shift H.o0 hp0 H.up.1 H.up.2]
  exact Tot.ret rfl
theorem addr_ {p : Int} (hp0 : 0 ≤ p) (hp1 : p < 256) : impl_addrOf.f (o + p) = some (base + p) := by
  have := H.o0; have := H.hi; have := H.lim; have := H.al
  unfold impl_addrOf.f
  rcases H.ba with ⟨e1, e2⟩ | ⟨e1, e2⟩
  · rw [if_pos (by omega)]; congr 1; omega
  · rw [if_neg (by omega), tmod_pos _ (by omega), w64_in (by omega) (by omega)]; congr 1; omega
theorem jr_T {p : Int} (hp0 : 0 ≤ p) (hp1 : p < 256) (cb : Bool) {n : Int} (h0 : 0 ≤ n) (h1 : n < 256) (m : Int) (hj : hk cb n = 3 ∧ n < 64) : Tot (fun k => impl_jumps.f k n cb m (o + p)) (· = (base + p + 2 + sgV m, true)) := by
  have := H.o0; have := H.hi; have := H.lim
  have rg := sgV_range m
  have hz := (qc cb h0 h1).2.2.2.2.2.2.2.1
  have hc := (qx cb h0 h1).2.1 hj
  have hba : 0 ≤ base ∧ base ≤ 256 := by rcases H.ba with ⟨_, e⟩ | ⟨_, e⟩ <;> omega
  unfold impl_jumps.f
  refine Tot.bind (tmI_T cb h0 h1) ?_
  rintro _ rfl
  refine Tot.bind (P := fun r => r.1.toList = ([106, 114] : List UInt8)) (Tot.of (show strings_Cut.f (tm cb n) (⟨#[32]⟩ : ByteArray) = some _ by unfold strings_Cut.f; rw [if_pos (by omega)]) ?_) (fun r hr => ?_)
  · rw [toL]
    exact hc
  refine Tot.yes hr ?_
  refine Tot.bind (Tot.of (addr_ H hp0 hp1) rfl) ?_
  rintro _ rfl
  refine Tot.bind (Tot.of (sgI m) rfl) ?_
  rintro _ rfl
  rw [w64_in (n := base + p + 2) (by omega) (by omega), w64_in (n := base + p + 2 + sgV m) (by omega) (by omega)]
  exact Tot.ret rfl
theorem line_T {p : Int} (hp0 : 0 ≤ p) (hp1 : p < 256) : Tot (fun k => impl_listedAt.f k R (o + p)) (· = lineV s base p) := by
  have h_o := H.o0; have h_hi := H.hi; have h_lim := H.lim; have h_sz := H.sz
  have hba : 0 ≤ base ∧ base ≤ 256 := by rcases H.ba with ⟨_, e⟩ | ⟨_, e⟩ <;> omega
  unfold impl_listedAt.f
  rw [endOf_ H hp0 hp1]
  refine zrunI_T H hp0 (by omega) 256 0 (by decide) (by decide) (by omega) ?_
  rw [Int.zero_add, Int.add_zero]
  have hzr := zrun_le s 256 p (by omega)
  have rb := btRange s p
  have hbt := H.bt_ p hp0 hp1
  have hh := hexV_size (bt s p) 2
  refine Tot.step (fun k => impl_listedAt.j1.eq_2 _ _ _ k) (Tot.ite (fun hz => ?_) (fun hz => ?_))
  · have q := qd (n := (zrun s 256 p : Int)) (by omega) (by omega)
    have qz := q.2.2.2.2
    refine Tot.bind (Tot.of q.1 rfl) ?_
    rintro _ rfl
    exact Tot.yes (by omega) (Tot.ret (by rw [lineV, if_pos (show 4 ≤ zrun s 256 p by omega)]; rfl))
  have hz4 : ¬ 4 ≤ zrun s 256 p := by omega
  refine Tot.yes (by omega) (Tot.yes (by omega) ?_)
  rw [hbt, w64_in (n := bt s p) (by omega) (by omega)]
  refine Tot.bind (hexI_T _ 2) ?_
  rintro _ rfl
  refine Tot.yes (by omega) ?_
  refine Tot.bind (inBank_T H hp0 hp1) ?_
  rintro _ rfl
  refine Tot.ite (fun he => Tot.ret (by rw [lineV, if_neg hz4, if_pos he]; rfl)) (fun hne => ?_)
  obtain ⟨r1, r2, r3, r4, r5, r6⟩ := rd_pos hne
  have el : lineV s base p = (if hk (rdI s p).2.1 (rdI s p).1 = 3 ∧ (rdI s p).1 < 64 then
    (if 0 ≤ base + p + 2 + sgV (rdI s p).2.2.1 ∧ base + p + 2 + sgV (rdI s p).2.2.1 ≤ 65535 then (jrV (tm (rdI s p).2.1 (rdI s p).1) (hp (rdI s p).2.1 (rdI s p).1) (base + p + 2 + sgV (rdI s p).2.2.1), (rdI s p).2.2.2) else (pre3 100 98 (hexV (bt s p) 2), 1)) else
    (txtV (rdI s p).2.1 (rdI s p).1 (rdI s p).2.2.1, (rdI s p).2.2.2)) := by rw [lineV, if_neg hz4, if_neg hne]
  rw [el]
  generalize rdI s p = r at *
  obtain ⟨n, cb, m, L⟩ := r
  dsimp only at *
  refine Tot.bind (tmI_T cb r4.1 r4.2) ?_
  rintro _ rfl
  refine Tot.bind (Tot.of (qx cb r4.1 r4.2).1 rfl) ?_
  rintro _ rfl
  refine Tot.ite (fun hj => ?_) (fun hj => ?_)
  · have hj := of_decide_eq_true hj
    rw [if_pos hj]
    refine Tot.bind (jr_T H hp0 hp1 cb r4.1 r4.2 m hj) ?_
    rintro _ rfl
    refine Tot.bind (Tot.of (wordI _) rfl) ?_
    rintro _ rfl
    refine Tot.ite (fun hw => ?_) (fun hw => Tot.ret (by rw [if_neg (fun e => hw (decide_eq_true e))]; rfl))
    rw [if_pos (of_decide_eq_true hw)]
    refine Tot.bind (hexI_T _ 4) ?_
    rintro _ rfl
    obtain ⟨x1, x2, x3, x4⟩ := (qx cb r4.1 r4.2).2.2 (by omega)
    have hz := (qc cb r4.1 r4.2).2.2.2.2.2.2.2.1
    have h4 := hexV_size (base + p + 2 + sgV m) 4
    rw [hj.1] at x2 x3 x4
    refine Tot.bind (Tot.of (replace_one (tm cb n) (⟨#[101, 56]⟩ : ByteArray) (hexV (base + p + 2 + sgV m) 4) (hp cb n) (by omega) x3 x4 (hexV_ne _ _ 3 (by decide)) (by decide) (by omega) (by omega)) rfl) ?_
    rintro _ rfl
    exact Tot.ret rfl
  · rw [if_neg (fun e => hj (decide_eq_true e))]
    refine Tot.bind (txtI_T cb r4.1 r4.2 m) ?_
    rintro _ rfl
    exact Tot.ret rfl
theorem listI_T {b : Int} (hb : o = b * 256) : ∀ (f : Nat) (p : Int) (acc : List ByteArray), 0 ≤ p → p ≤ 256 → s.size - p ≤ f → acc.length + f ≤ 1000 →
    Tot (fun k => impl_Listed.l0 k R b acc (o + p)) (· = (acc ++ linesV s base f p, true))
  | 0, p, acc, p0, p1, hf, hl => by
    have h_o := H.o0; have h_hi := H.hi; have h_lim := H.lim; have h_sz := H.sz
    refine Tot.step (fun k => impl_Listed.l0.eq_2 _ _ _ _ k) ?_
    rw [w64_in (n := b + 1) (by omega) (by omega), w64_in (n := (b + 1) * 256) (by omega) (by omega)]
    exact Tot.no (by omega) (Tot.ret (by rw [linesV, List.append_nil]))
  | f + 1, p, acc, p0, p1, hf, hl => by
    have h_o := H.o0; have h_hi := H.hi; have h_lim := H.lim; have h_sz := H.sz
    refine Tot.step (fun k => impl_Listed.l0.eq_2 _ _ _ _ k) ?_
    rw [w64_in (n := b + 1) (by omega) (by omega), w64_in (n := (b + 1) * 256) (by omega) (by omega)]
    refine Tot.ite (fun hlt => ?_) (fun hlt => Tot.ret (by rw [linesV, if_neg (show ¬ p < s.size by omega), List.append_nil]))
    refine Tot.bind (line_T H p0 (by omega)) ?_
    rintro _ rfl
    have lp := line_pos s base p (by omega)
    rw [w64_in (n := o + p + (lineV s base p).2) (by omega) (by omega)]
    refine Tot.yes (by omega) ?_
    have := listI_T hb f (p + (lineV s base p).2) (acc ++ [(lineV s base p).1]) (by omega) (by omega) (by omega) (by rw [List.length_append, List.length_singleton]; omega)
    rw [← Int.add_assoc] at this
    refine Tot.mono this (fun r hr => ?_)
    rw [hr, linesV, if_pos (show p < s.size by omega), List.append_assoc]
    rfl
end
def banksV (R : ByteArray) : Int := if (R.size : Int) % 256 = 0 ∧ 2 ≤ (R.size : Int) / 256 ∧ (R.size : Int) / 256 ≤ 16 then (R.size : Int) / 256 else 0
def listV (R : ByteArray) (b : Int) : List ByteArray × Bool :=
  if 0 ≤ b ∧ b ≤ banksV R - 1 then (linesV (R.extract (b * 256).toNat ((b + 1) * 256).toNat) (if b > 0 then 256 else 0) 256 0, true) else ([], false)
theorem banksI (R : ByteArray) (hR : R.size ≤ 1152921504606846976) : impl_banksOf.f R 2 = some (banksV R) := by
  unfold impl_banksOf.f banksV
  rw [w64_in (n := (R.size : Int) / 256) (by omega) (by omega)]
  by_cases h : (R.size : Int) % 256 = 0
  · rw [if_pos h, withinI, Option.bind_some]
    by_cases g : 2 ≤ (R.size : Int) / 256 ∧ (R.size : Int) / 256 ≤ 16
    · rw [if_pos (decide_eq_true g), if_pos ⟨h, g⟩]
    · rw [if_neg (by rw [decide_eq_false g]; decide), if_neg (fun e => g e.2)]
  · rw [if_neg h, if_neg (fun e => h e.1)]
theorem banksS (R : ByteArray) (hR : R.size ≤ 1152921504606846976) : spec_l5Banks.f R = some (banksV R) := by
  unfold spec_l5Banks.f banksV
  rw [w64_in (n := (R.size : Int) / 256) (by omega) (by omega)]
  by_cases h : (R.size : Int) % 256 = 0
  · rw [if_pos h, inS, Option.bind_some]
    by_cases g : 2 ≤ (R.size : Int) / 256 ∧ (R.size : Int) / 256 ≤ 16
    · rw [if_pos (decide_eq_true g), if_pos ⟨h, g⟩]
    · rw [if_neg (by rw [decide_eq_false g]; decide), if_neg (fun e => g e.2)]
  · rw [if_neg h, if_neg (fun e => h e.1)]
theorem banks_size {R : ByteArray} {b : Int} (h : 0 ≤ b ∧ b ≤ banksV R - 1) : b ≤ 15 ∧ (b + 1) * 256 ≤ R.size ∧ R.size ≤ 4096 ∧ banksV R ≠ 0 ∧ banksV R ≤ 16 := by
  unfold banksV at h ⊢
  split at h
  · rename_i g; rw [if_pos g]; omega
  · omega
theorem banksV_range (R : ByteArray) : 0 ≤ banksV R ∧ banksV R ≤ 16 := by
  unfold banksV
  split <;> omega
theorem listedI_T (R : ByteArray) (hR : R.size ≤ 1152921504606846976) (b : Int) : Tot (fun k => impl_Listed.f k R b) (· = listV R b) := by
  unfold impl_Listed.f listV
  have br := banksV_range R
  refine Tot.bind (Tot.of (banksI R hR) rfl) ?_
  rintro _ rfl
  refine Tot.ite (fun h => Tot.step (fun k => impl_Listed.j0.eq_2 _ _ _ k) (Tot.yes rfl (Tot.ret (by rw [if_neg (by omega)])))) (fun h => ?_)
  rw [w64_in (n := banksV R - 1) (by omega) (by omega)]
  refine Tot.bind (Tot.of (withinI _ _ _) rfl) ?_
  rintro _ rfl
  refine Tot.step (fun k => impl_Listed.j0.eq_2 _ _ _ k) (Tot.ite (fun hb => Tot.ret (by rw [if_neg (fun e => by simp [e] at hb)])) (fun hb => ?_))
  have hv : 0 ≤ b ∧ b ≤ banksV R - 1 := by simpa using hb
  obtain ⟨b1, b2, b3, _, _⟩ := banks_size hv
  rw [if_pos hv, w64_in (n := b * 256) (by omega) (by omega)]
  have H := bk_of (R := R) hv.1 b2 b3
  have := listI_T H (b := b) rfl 256 0 [] (by decide) (by decide) (by have := H.sz; omega) (by decide)
  rw [Int.add_zero] at this
  exact this
theorem listedS_T (R : ByteArray) (hR : R.size ≤ 1152921504606846976) (b : Int) : Tot (fun k => spec_Listed.f k R b) (· = listV R b) := by
  unfold spec_Listed.f listV
  have br := banksV_range R
  refine Tot.bind (Tot.of (banksS R hR) rfl) ?_
  rintro _ rfl
  rw [w64_in (n := banksV R - 1) (by omega) (by omega)]
  refine Tot.bind (Tot.of (inS _ _ _) rfl) ?_
  rintro _ rfl
  refine Tot.ite (fun hb => ?_) (fun hb => Tot.ret (by rw [if_neg (fun e => hb (decide_eq_true e))]))
  have hv := of_decide_eq_true hb
  obtain ⟨b1, b2, b3, _, _⟩ := banks_size hv
  rw [if_pos hv, w64_in (n := b * 256) (by omega) (by omega), w64_in (n := b + 1) (by omega) (by omega), w64_in (n := (b + 1) * 256) (by omega) (by omega)]
  have H := bk_of (R := R) hv.1 b2 b3
  have go : ∀ base : Int, base = 0 ∨ base = 256 → Tot (fun k => spec_l13Listed.f k (R.extract (b * 256).toNat ((b + 1) * 256).toNat) base) (· = linesV (R.extract (b * 256).toNat ((b + 1) * 256).toNat) base 256 0) := fun base hba =>
    specList_T (by have := H.sz; omega) hba 256 0 [] (by decide) (by decide) (by have := H.sz; omega) (by decide)
  refine Tot.ite (fun hp => ?_) (fun hp => ?_)
  · rw [if_pos hp]
    refine Tot.yes (by omega) (Tot.yes (by omega) (Tot.yes b2 (Tot.bind (go 256 (.inr rfl)) ?_)))
    rintro _ rfl
    exact Tot.ret rfl
  · rw [if_neg hp]
    refine Tot.yes (by omega) (Tot.yes (by omega) (Tot.yes b2 (Tot.bind (go 0 (.inl rfl)) ?_)))
    rintro _ rfl
    exact Tot.ret rfl
theorem lines_len (s : ByteArray) (base : Int) : ∀ (f : Nat) (p : Int), (linesV s base f p).length ≤ f
  | 0, _ => Nat.le_refl _
  | f + 1, p => by
    rw [linesV]
    split
    · rw [List.length_cons]
      have := lines_len s base f (p + (lineV s base p).2)
      omega
    · exact Nat.zero_le _
theorem list_len (R : ByteArray) (b : Int) : (listV R b).1.length ≤ 256 := by
  unfold listV
  split
  · exact lines_len _ _ _ _
  · exact Nat.zero_le _

def mkV (n : Int) : ByteArray := vS (laws_markText.f 8 n)
set_option maxRecDepth 100000 in
theorem mk' : ∀ n : Fin 300, laws_markText.f 8 ((n.val : Nat) : Int) = some (mkV ((n.val : Nat) : Int)) := by decide +kernel
theorem mk_T {n : Int} (h0 : 0 ≤ n) (h1 : n < 300) : Tot (fun k => laws_markText.f k n) (· = mkV n) := by
  have := mk' ⟨n.toNat, by omega⟩
  rw [show ((n.toNat : Nat) : Int) = n by omega] at this
  exact Tot.lift (fun k => laws_markText.mono _ k) this rfl
theorem eqS_T {l : List ByteArray} (hl : l.length ≤ 256) : Tot (fun k => laws_eqStringS.f k l l) (· = true) := by
  have go : ∀ (f : Nat) (i : Int), 0 ≤ i → i ≤ l.length → l.length - i ≤ f → Tot (fun k => laws_eqStringS.l0 k l l i) (· = true) := by
    intro f
    induction f with
    | zero =>
      intro i i0 i1 hf
      exact Tot.step (fun k => laws_eqStringS.l0.eq_2 _ _ _ k) (Tot.no (by omega) (Tot.ret rfl))
    | succ f ih =>
      intro i i0 i1 hf
      refine Tot.step (fun k => laws_eqStringS.l0.eq_2 _ _ _ k) (Tot.ite (fun h => ?_) (fun h => Tot.ret rfl))
      rw [w64_in (n := i + 1) (by omega) (by omega)]
      exact Tot.yes i0 (Tot.yes h (Tot.yes rfl (ih (i + 1) (by omega) (by omega) (by omega))))
  unfold laws_eqStringS.f
  exact Tot.yes rfl (go l.length 0 (by decide) (by omega) (by omega))
def Marked (l : List ByteArray) (i : Int) : Prop := ∀ j : Nat, (j : Int) < i → l.getD j ByteArray.empty = mkV ((j : Int) + 1)
theorem markS_T : ∀ (f : Nat) (l : List ByteArray) (i : Int), l.length ≤ 256 → 0 ≤ i → i ≤ l.length → l.length - i ≤ f → Marked l i →
    Tot (fun k => laws_markStringS.l0 k l (i + 1) i) (fun r => r.1 = (r.2.length : Int) + 1 ∧ r.2.length ≤ 256 ∧ Marked r.2 r.2.length)
  | 0, l, i, hl, i0, i1, hf, hm => by
    refine Tot.step (fun k => laws_markStringS.l0.eq_2 _ _ _ k) (Tot.no (by omega) (Tot.ret ?_))
    have : i = l.length := by omega
    subst this
    exact ⟨rfl, hl, hm⟩
  | f + 1, l, i, hl, i0, i1, hf, hm => by
    refine Tot.step (fun k => laws_markStringS.l0.eq_2 _ _ _ k) (Tot.ite (fun h => ?_) (fun h => Tot.ret ?_))
    · refine Tot.bind (mk_T (n := i + 1) (by omega) (by omega)) ?_
      rintro _ rfl
      rw [w64_in (n := i + 1 + 1) (by omega) (by omega), w64_in (n := i + 1) (by omega) (by omega)]
      refine Tot.yes i0 (markS_T f (l.set i.toNat (mkV (i + 1))) (i + 1) (by rw [List.length_set]; exact hl) (by omega) (by rw [List.length_set]; omega) (by rw [List.length_set]; omega) ?_)
      intro j hj
      rw [List.getD_eq_getElem?_getD, List.getElem?_set]
      by_cases e : i.toNat = j
      · rw [if_pos e, if_pos (by omega)]
        rw [show i = (j : Int) by omega]
        rfl
      · rw [if_neg e, ← List.getD_eq_getElem?_getD]
        exact hm j (by omega)
    · have : i = l.length := by omega
      subst this
      exact ⟨rfl, hl, hm⟩
theorem heldS_T {l : List ByteArray} (hl : l.length ≤ 256) (hm : Marked l l.length) : Tot (fun k => laws_heldStringS.f k l 1) (· = (l.length : Int) + 1) := by
  have go : ∀ (f : Nat) (i : Int), 0 ≤ i → i ≤ l.length → l.length - i ≤ f → Tot (fun k => laws_heldStringS.l0 k l (i + 1) i) (· = (l.length : Int) + 1) := by
    intro f
    induction f with
    | zero =>
      intro i i0 i1 hf
      exact Tot.step (fun k => laws_heldStringS.l0.eq_2 _ _ _ k) (Tot.no (by omega) (Tot.ret (by omega)))
    | succ f ih =>
      intro i i0 i1 hf
      refine Tot.step (fun k => laws_heldStringS.l0.eq_2 _ _ _ k) (Tot.ite (fun h => Tot.yes i0 ?_) (fun h => Tot.ret (by omega)))
      refine Tot.bind (mk_T (n := i + 1) (by omega) (by omega)) ?_
      rintro _ rfl
      rw [w64_in (n := i + 1 + 1) (by omega) (by omega), w64_in (n := i + 1) (by omega) (by omega)]
      refine Tot.yes ?_ (ih (i + 1) (by omega) (by omega) (by omega))
      unfold rdOf
      rw [hm i.toNat (by omega), show ((i.toNat : Nat) : Int) + 1 = i + 1 by omega]
  unfold laws_heldStringS.f
  exact go l.length 0 (by decide) (by omega) (by omega)
theorem FnExactListed : laws_FnExactListed.Pure := by
  intro a0 a1 h0 h1
  refine Tot.done ?_
  unfold laws_FnExactListed.f
  refine Tot.ite (fun _ => Tot.ret rfl) (fun hz => ?_)
  have hl := list_len a0 a1
  refine Tot.bind (listedS_T a0 (by omega) a1) ?_
  rintro _ rfl
  refine Tot.bind (listedI_T a0 (by omega) a1) ?_
  rintro _ rfl
  refine Tot.bind (eqS_T hl) ?_
  rintro _ rfl
  refine Tot.yes rfl (Tot.step (fun k => laws_FnExactListed.j0.eq_2 _ _ _ _ _ _ k) (Tot.no (by simp) ?_))
  refine Tot.bind (markS_T 256 (listV a0 a1).1 0 hl (by decide) (by omega) (by omega) (fun j hj => absurd hj (by omega))) ?_
  rintro ⟨m, l⟩ ⟨r1, r2, r3⟩
  dsimp only at r1 r2 r3
  subst r1
  dsimp only
  refine Tot.bind (heldS_T r2 r3) ?_
  rintro _ rfl
  refine Tot.no (by omega) (Tot.yes rfl (Tot.bind (listedI_T a0 (by omega) a1) ?_))
  rintro _ rfl
  refine Tot.bind (eqS_T hl) ?_
  rintro _ rfl
  refine Tot.yes rfl (Tot.step (fun k => laws_FnExactListed.j1.eq_2 _ _ _ k) (Tot.no (by simp) ?_))
  refine Tot.bind (heldS_T r2 r3) ?_
  rintro _ rfl
  exact Tot.no (by omega) (Tot.yes rfl (Tot.ret rfl))

end Go.Proofs.YtodlnnoekccmmaaGreatDoor.Pure
