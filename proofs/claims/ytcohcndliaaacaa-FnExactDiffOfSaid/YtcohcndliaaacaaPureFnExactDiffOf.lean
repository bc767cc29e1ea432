/- The program's DiffOf returns what the reference's returns, for all arguments. No condition beyond the row's own. -/
import Derived.Test.YtcohcndliaaacaaQFnExactDiffOfx
import Derived.Test.YtcohcndliaaacaaLib
namespace Go.Proofs.Ytcohcndliaaacaa.Pure
open Go.RowKit Go.Proofs.Ytcohcndliaaacaa.QFnExactDiffOf Go.Proofs.YtcohcndliaaacaaW.PrintWords Go.Proofs.YtcohcndliaaacaaW.PrintLast Go.Proofs.Ytcohcndliaaacaa.Lib Go.Proofs.Ytcohcndliaaacaa.LibX Go.Proofs.Ytcohcndliaaacaa.LibE Go.Proofs.Ytcohcndliaaacaa.LibG Go.Proofs.Ytcohcndliaaacaa.LibHD
set_option linter.unusedSimpArgs false
set_option linter.unusedVariables false

/-- From some number of rounds on it answers one and the same, and P holds of the answer. -/
def Tot {α : Type} (g : Nat → Option α) (P : α → Prop) : Prop := ∃ K r, P r ∧ ∀ k, K ≤ k → g k = some r
theorem Tot.ret {α : Type} {r : α} {P : α → Prop} (h : P r) : Tot (fun _ => some r) P := ⟨0, r, h, fun _ _ => rfl⟩
theorem Tot.of {α : Type} {g : Option α} {r : α} {P : α → Prop} (e : g = some r) (h : P r) : Tot (fun _ => g) P := ⟨0, r, h, fun _ _ => e⟩
theorem Tot.bind {α β : Type} {g : Nat → Option α} {f : Nat → α → Option β} {P : α → Prop} {Q : β → Prop} (h : Tot g P) (hf : ∀ a, P a → Tot (fun k => f k a) Q) : Tot (fun k => (g k).bind (f k)) Q := by
  obtain ⟨K, a, ha, hg⟩ := h
  obtain ⟨L, r, hr, hk⟩ := hf a ha
  exact ⟨max K L, r, hr, fun k hk' => by show (g k).bind (f k) = some r; rw [hg k (by omega)]; exact hk k (by omega)⟩
theorem Tot.ite {α : Type} {c : Prop} [Decidable c] {g f : Nat → Option α} {P : α → Prop} (h1 : c → Tot g P) (h2 : ¬ c → Tot f P) : Tot (fun k => if c then g k else f k) P := by
  by_cases h : c
  · obtain ⟨K, r, hr, hk⟩ := h1 h
    exact ⟨K, r, hr, fun k hk' => by show (if c then g k else f k) = some r; rw [if_pos h]; exact hk k hk'⟩
  · obtain ⟨K, r, hr, hk⟩ := h2 h
    exact ⟨K, r, hr, fun k hk' => by show (if c then g k else f k) = some r; rw [if_neg h]; exact hk k hk'⟩
theorem Tot.yes {α : Type} {c : Prop} [Decidable c] {g f : Nat → Option α} {P : α → Prop} (h : c) (h1 : Tot g P) : Tot (fun k => if c then g k else f k) P := Tot.ite (fun _ => h1) (fun n => absurd h n)
theorem Tot.no {α : Type} {c : Prop} [Decidable c] {g f : Nat → Option α} {P : α → Prop} (h : ¬ c) (h1 : Tot f P) : Tot (fun k => if c then g k else f k) P := Tot.ite (fun n => absurd n h) (fun _ => h1)
theorem Tot.mono {α : Type} {g : Nat → Option α} {P Q : α → Prop} (h : Tot g P) (hi : ∀ a, P a → Q a) : Tot g Q := by
  obtain ⟨K, r, hr, hk⟩ := h
  exact ⟨K, r, hi r hr, hk⟩
theorem Tot.step {α : Type} {g f : Nat → Option α} {P : α → Prop} (h : ∀ k, g (k + 1) = f k) (hf : Tot f P) : Tot g P := by
  obtain ⟨K, r, hr, hk⟩ := hf
  exact ⟨K + 1, r, hr, fun k hk' => by obtain ⟨m, rfl⟩ : ∃ m, k = m + 1 := ⟨k - 1, by omega⟩; rw [h]; exact hk m (by omega)⟩
theorem Tot.lift {α : Type} {g : Nat → Option α} {P : α → Prop} (hm : ∀ k, LeO (g k) (g (k + 1))) {k : Nat} {r : α} (e : g k = some r) (h : P r) : Tot g P := ⟨k, r, h, fun _ hk => at_rounds hm hk e⟩
theorem Tot.congr {α : Type} {g f : Nat → Option α} {P : α → Prop} (h : ∀ k, g k = f k) (hf : Tot f P) : Tot g P := by
  obtain ⟨K, r, hr, hk⟩ := hf
  exact ⟨K, r, hr, fun k hk' => (h k).trans (hk k hk')⟩
theorem Tot.eq {α : Type} {g : Nat → Option α} {r : α} (h : Tot g (fun x => x = r)) : ∃ K, ∀ k, K ≤ k → g k = some r := by
  obtain ⟨K, x, hx, hk⟩ := h
  subst hx
  exact ⟨K, hk⟩
theorem Tot.done {g : Nat → Option Bool} (h : Tot g (fun x => x = true)) : ∃ k, g k = some true := by
  obtain ⟨K, hk⟩ := h.eq
  exact ⟨K, hk K (Nat.le_refl _)⟩

/-- So many bytes of a number, the highest one first, ahead of a text. -/
def numB : Nat → Int → ByteArray → ByteArray
  | 0, _, out => out
  | j + 1, x, out => numB j (x / 256) (strOfNums [x % 256] ++ out)
theorem numB_size : ∀ (j : Nat) (x : Int) (out : ByteArray), (numB j x out).size = j + out.size
  | 0, _, out => by unfold numB; omega
  | j + 1, x, out => by
    unfold numB
    rw [numB_size j, ByteArray.size_append, strOfNums_size]
    simp only [List.length_singleton]
    omega
theorem num_T (n : Int) : ∀ (j : Nat) (x i : Int) (out : ByteArray), 0 ≤ x → x ≤ 1000000 → 0 ≤ i → i + j = n → n ≤ 8 → out.size + j ≤ 1000 → Tot (fun k => spec_l14Num.l0 k x n out i) (fun r => r = numB j x out) := by
  intro j
  induction j with
  | zero =>
    intro x i out h0 h1 h2 h3 h4 h5
    refine Tot.step (fun k => spec_l14Num.l0.eq_2 _ _ _ _ k) ?_
    exact Tot.no (by omega) (Tot.ret rfl)
  | succ j ih =>
    intro x i out h0 h1 h2 h3 h4 h5
    have hs : (strOfNums [x % 256]).size = 1 := strOfNums_size _
    refine Tot.step (fun k => spec_l14Num.l0.eq_2 _ _ _ _ k) ?_
    refine Tot.yes (by omega) (Tot.bind (Tot.of rfl rfl) ?_)
    rintro _ rfl
    refine Tot.yes (by rw [hs]; omega) ?_
    rw [Int.tdiv_eq_ediv_of_nonneg h0, w64_in (n := x / 256) (by omega) (by omega), w64_in (n := i + 1) (by omega) (by omega)]
    exact ih (x / 256) (i + 1) _ (by omega) (by omega) (by omega) (by omega) h4 (by rw [ByteArray.size_append, hs]; omega)
theorem numf_T (x : Int) (j : Nat) (h0 : 0 ≤ x) (h1 : x ≤ 1000000) (hj : j ≤ 8) : Tot (fun k => spec_l14Num.f k x (j : Int)) (fun r => r = numB j x (⟨#[]⟩ : ByteArray)) := by
  unfold spec_l14Num.f
  exact num_T (j : Int) j x 0 _ h0 h1 (by decide) (by omega) (by omega) (by show 0 + j ≤ 1000; omega)
theorem byte1_T (x : Int) : Tot (fun k => impl_bytesOf.f k x 1) (fun r => r = strOfNums [x % 256]) := by
  unfold impl_bytesOf.f
  refine Tot.step (fun k => impl_bytesOf.l0.eq_2 _ _ _ k) ?_
  refine Tot.yes (by decide) (Tot.yes (by decide) ?_)
  rw [show wrap64 (1 - 1) = 0 by decide +kernel]
  refine Tot.step (fun k => impl_bytesOf.l0.eq_2 _ _ _ k) ?_
  exact Tot.no (by decide) (Tot.ret rfl)
theorem big_T : ∀ (j : Nat) (x : Int) (out : ByteArray), j ≤ 8 → out.size + j ≤ 1000 → Tot (fun k => impl_big.l0 k x (j : Int) out) (fun r => r = numB j x out) := by
  intro j
  induction j with
  | zero =>
    intro x out h1 h2
    refine Tot.step (fun k => impl_big.l0.eq_2 _ _ _ k) ?_
    exact Tot.no (by decide) (Tot.ret rfl)
  | succ j ih =>
    intro x out h1 h2
    have hs : (strOfNums [x % 256]).size = 1 := strOfNums_size _
    refine Tot.step (fun k => impl_big.l0.eq_2 _ _ _ k) ?_
    refine Tot.yes (by omega) (Tot.bind (byte1_T x) ?_)
    rintro _ rfl
    refine Tot.yes (by rw [hs]; omega) ?_
    rw [show wrap64 (((j + 1 : Nat) : Int) - 1) = (j : Int) by rw [w64_in (by omega) (by omega)]; omega]
    exact ih (x / 256) _ (by omega) (by rw [ByteArray.size_append, hs]; omega)
theorem bigf_T (x : Int) (j : Nat) (hj : j ≤ 8) : Tot (fun k => impl_big.f k x (j : Int)) (fun r => r = numB j x (⟨#[]⟩ : ByteArray)) := by
  unfold impl_big.f
  exact big_T j x _ hj (by show 0 + j ≤ 1000; omega)
/-- Where the run of bytes that differ ends. -/
theorem run_ends (a b : ByteArray) : ∀ (d e : Nat), e + d = b.size → ∃ f : Nat, e ≤ f ∧ f ≤ b.size ∧ (∀ j : Nat, e ≤ j → j < f → dfr a b (j : Int) = true) ∧ (f = b.size ∨ (f < b.size ∧ dfr a b (f : Int) = false)) := by
  intro d
  induction d with
  | zero => intro e h; exact ⟨e, Nat.le_refl _, by omega, fun j h1 h2 => by omega, .inl (by omega)⟩
  | succ d ih =>
    intro e h
    cases hd : dfr a b (e : Int) with
    | false => exact ⟨e, Nat.le_refl _, by omega, fun j h1 h2 => by omega, .inr ⟨by omega, hd⟩⟩
    | true =>
      obtain ⟨f, h1, h2, h3, h4⟩ := ih (e + 1) (by omega)
      refine ⟨f, by omega, h2, fun j j1 j2 => ?_, h4⟩
      by_cases c : j = e
      · rw [c]; exact hd
      · exact h3 j (by omega) j2
theorem dfr_true {a b : ByteArray} {i : Int} (h : dfr a b i = true) : i ≥ (a.size : Int) ∨ bt a i ≠ bt b i := by
  unfold dfr at h
  rw [Bool.or_eq_true] at h
  rcases h with h | h
  · exact .inl (of_decide_eq_true h)
  · exact .inr (by simpa using h)
theorem dfr_false {a b : ByteArray} {i : Int} (h : dfr a b i = false) : ¬ i ≥ (a.size : Int) ∧ bt a i = bt b i := by
  unfold dfr at h
  rw [Bool.or_eq_false_iff] at h
  exact ⟨of_decide_eq_false h.1, by simpa using h.2⟩
theorem spec_run (a b out : ByteArray) (hb : b.size ≤ 20000) (at_ : Int) (f : Nat) (hf : f ≤ b.size) (he : f = b.size ∨ (f < b.size ∧ dfr a b (f : Int) = false)) (P : ByteArray × Bool → Prop)
    (h : Tot (fun k => spec_DiffOf.j3 k a b out at_ (f : Int)) P) : ∀ (m e : Nat), e + m = f → (∀ j : Nat, e ≤ j → j < f → dfr a b (j : Int) = true) → Tot (fun k => spec_DiffOf.l1 k a b out at_ (e : Int)) P := by
  intro m
  induction m with
  | zero =>
    intro e hm hr
    have hef : e = f := by omega
    subst hef
    refine Tot.step (fun k => spec_DiffOf.l1.eq_2 _ _ _ _ _ k) ?_
    rcases he with he | ⟨he, hd⟩
    · exact Tot.no (by omega) h
    · have := dfr_false hd
      exact Tot.yes (by omega) (Tot.no this.1 (Tot.yes (by omega) (Tot.yes (by omega) (Tot.yes this.2 h))))
  | succ m ih =>
    intro e hm hr
    have next : Tot (fun k => spec_DiffOf.l1 k a b out at_ (wrap64 ((e : Int) + 1))) P := by
      rw [w64_in (n := (e : Int) + 1) (by omega) (by omega)]
      exact ih (e + 1) (by omega) (fun j j1 j2 => hr j (by omega) j2)
    refine Tot.step (fun k => spec_DiffOf.l1.eq_2 _ _ _ _ _ k) ?_
    refine Tot.yes (by omega) (Tot.ite (fun _ => next) (fun c => ?_))
    rcases dfr_true (hr e (Nat.le_refl _) (by omega)) with h1 | h1
    · exact absurd h1 c
    · exact Tot.yes (by omega) (Tot.yes (by omega) (Tot.no h1 next))
theorem impl_run (a b : ByteArray) (hb : b.size ≤ 20000) (at_ f : Nat) (hf : f ≤ b.size) (he : f = b.size ∨ (f < b.size ∧ dfr a b (f : Int) = false)) :
    ∀ (m e : Nat), at_ ≤ e → e + m = f → (∀ j : Nat, e ≤ j → j < f → dfr a b (j : Int) = true) → Tot (fun k => impl_DiffOf.l1 k a b (at_ : Int) ((e : Int) - at_)) (fun r => r = (f : Int) - at_) := by
  intro m
  induction m with
  | zero =>
    intro e h0 hm hr
    have hef : e = f := by omega
    subst hef
    refine Tot.step (fun k => impl_DiffOf.l1.eq_2 _ _ _ _ k) ?_
    rw [show (at_ : Int) + ((e : Int) - at_) = e by omega]
    rcases he with he | ⟨he, hd⟩
    · exact Tot.no (by omega) (Tot.ret rfl)
    · exact Tot.yes (by omega) (Tot.no (by rw [hd]; decide) (Tot.ret rfl))
  | succ m ih =>
    intro e h0 hm hr
    refine Tot.step (fun k => impl_DiffOf.l1.eq_2 _ _ _ _ k) ?_
    rw [show (at_ : Int) + ((e : Int) - at_) = e by omega]
    refine Tot.yes (by omega) (Tot.yes (hr e (Nat.le_refl _) (by omega)) ?_)
    rw [show (e : Int) - at_ + 1 = ((e + 1 : Nat) : Int) - at_ by omega]
    exact ih (e + 1) (by omega) (by omega) (fun j j1 j2 => hr j (by omega) j2)
/-- The end of both. -/
def endV (b out : ByteArray) : ByteArray × Bool := ((out ++ (⟨#[69, 78, 68]⟩ : ByteArray)) ++ numB 3 (b.size : Int) (⟨#[]⟩ : ByteArray), true)
theorem spec_end (a b out : ByteArray) (hb : b.size ≤ 20000) (ho : out.size ≤ 200000) : Tot (fun k => spec_DiffOf.l0 k a b out (b.size : Int)) (fun r => r = endV b out) := by
  have e3 : (⟨#[69, 78, 68]⟩ : ByteArray).size = 3 := rfl
  refine Tot.step (fun k => spec_DiffOf.l0.eq_2 _ _ _ _ k) ?_
  refine Tot.no (by omega) (Tot.yes (by omega) (Tot.bind (numf_T (b.size : Int) 3 (by omega) (by omega) (by decide)) ?_))
  rintro _ rfl
  have hn := numB_size 3 (b.size : Int) (⟨#[]⟩ : ByteArray)
  have h0 : (⟨#[]⟩ : ByteArray).size = 0 := rfl
  exact Tot.yes (by rw [ByteArray.size_append, e3, hn, h0]; omega) (Tot.ret rfl)
theorem impl_end (a b out : ByteArray) (hb : b.size ≤ 20000) (ho : out.size ≤ 200000) (x : Int) (hx : (b.size : Int) ≤ x) : Tot (fun k => impl_DiffOf.l0 k a b out x) (fun r => r = endV b out) := by
  have e3 : (⟨#[69, 78, 68]⟩ : ByteArray).size = 3 := rfl
  refine Tot.step (fun k => impl_DiffOf.l0.eq_2 _ _ _ _ k) ?_
  refine Tot.no (by omega) (Tot.bind (bigf_T (b.size : Int) 3 (by decide)) ?_)
  rintro _ rfl
  have hn := numB_size 3 (b.size : Int) (⟨#[]⟩ : ByteArray)
  have h0 : (⟨#[]⟩ : ByteArray).size = 0 := rfl
  exact Tot.yes (by rw [hn, h0]; omega) (Tot.ret (by unfold endV; rw [ByteArray.append_assoc]))
theorem diff_both (a b : ByteArray) (hb : b.size ≤ 20000) : ∀ (d at_ : Nat) (out : ByteArray), at_ + d = b.size → out.size ≤ 4 + 6 * at_ →
    ∃ v, Tot (fun k => spec_DiffOf.l0 k a b out (at_ : Int)) (fun r => r = v) ∧ Tot (fun k => impl_DiffOf.l0 k a b out (at_ : Int)) (fun r => r = v) := by
  intro d
  induction d using Nat.strongRecOn with
  | _ d ih =>
    intro at_ out hd ho
    by_cases c : at_ = b.size
    · subst c
      exact ⟨endV b out, spec_end a b out hb (by omega), impl_end a b out hb (by omega) _ (by omega)⟩
    obtain ⟨f, f1, f2, f3, f4⟩ := run_ends a b d at_ hd
    have hi := impl_run a b hb at_ f f2 f4 (f - at_) at_ (Nat.le_refl _) (by omega) f3
    rw [show (at_ : Int) - at_ = 0 by omega] at hi
    by_cases c2 : f = at_
    · subst c2
      obtain ⟨v, v1, v2⟩ := ih (d - 1) (by omega) (f + 1) out (by omega) (by omega)
      refine ⟨v, ?_, ?_⟩
      · refine Tot.step (fun k => spec_DiffOf.l0.eq_2 _ _ _ _ k) (Tot.yes (by omega) ?_)
        refine spec_run a b out hb _ f f2 f4 _ ?_ 0 f (by omega) f3
        refine Tot.step (fun k => spec_DiffOf.j3.eq_2 _ _ _ _ _ k) (Tot.yes rfl ?_)
        rw [w64_in (n := (f : Int) + 1) (by omega) (by omega)]
        exact v1
      · refine Tot.step (fun k => impl_DiffOf.l0.eq_2 _ _ _ _ k) (Tot.yes (by omega) (Tot.bind hi ?_))
        intro q hq
        rw [show q = _ from hq]
        refine Tot.no (by omega) ?_
        rw [show (f : Int) + ((f : Int) - f + 1) = ((f + 1 : Nat) : Int) by omega]
        exact v2
    -- a region of bytes that differ
    have h0 : (⟨#[]⟩ : ByteArray).size = 0 := rfl
    have s3 := numB_size 3 (at_ : Int) (⟨#[]⟩ : ByteArray)
    have s2 := numB_size 2 ((f : Int) - at_) (⟨#[]⟩ : ByteArray)
    have sx : (b.extract at_ f).size = f - at_ := by rw [ByteArray.size_extract]; omega
    obtain ⟨out2, hout2⟩ : ∃ o, ((out ++ numB 3 (at_ : Int) (⟨#[]⟩ : ByteArray)) ++ numB 2 ((f : Int) - at_) (⟨#[]⟩ : ByteArray)) ++ b.extract at_ f = o := ⟨_, rfl⟩
    have so : out2.size = out.size + 3 + 2 + (f - at_) := by
      rw [← hout2, ByteArray.size_append, ByteArray.size_append, ByteArray.size_append, s3, s2, sx, h0]
    have key : ∃ v, Tot (fun k => spec_DiffOf.l0 k a b out2 (f : Int)) (fun r => r = v) ∧ Tot (fun k => impl_DiffOf.l0 k a b out2 ((f : Int) + 1)) (fun r => r = v) := by
      rcases f4 with f4 | ⟨f4, f5⟩
      · subst f4
        exact ⟨endV b out2, spec_end a b out2 hb (by omega), impl_end a b out2 hb (by omega) _ (by omega)⟩
      · obtain ⟨v, v1, v2⟩ := ih (d - (f - at_) - 1) (by omega) (f + 1) out2 (by omega) (by omega)
        refine ⟨v, ?_, v2⟩
        refine Tot.step (fun k => spec_DiffOf.l0.eq_2 _ _ _ _ k) (Tot.yes (by omega) ?_)
        refine spec_run a b out2 hb _ f f2 (.inr ⟨f4, f5⟩) _ ?_ 0 f (by omega) (fun j j1 j2 => by omega)
        refine Tot.step (fun k => spec_DiffOf.j3.eq_2 _ _ _ _ _ k) (Tot.yes rfl ?_)
        rw [w64_in (n := (f : Int) + 1) (by omega) (by omega)]
        exact v1
    obtain ⟨v, v1, v2⟩ := key
    refine ⟨v, ?_, ?_⟩
    · refine Tot.step (fun k => spec_DiffOf.l0.eq_2 _ _ _ _ k) (Tot.yes (by omega) ?_)
      refine spec_run a b out hb _ f f2 f4 _ ?_ (f - at_) at_ (by omega) f3
      refine Tot.step (fun k => spec_DiffOf.j3.eq_2 _ _ _ _ _ k) (Tot.no (by omega) ?_)
      refine Tot.bind (numf_T (at_ : Int) 3 (by omega) (by omega) (by decide)) ?_
      rintro _ rfl
      refine Tot.yes (by rw [s3, h0]; omega) ?_
      rw [w64_in (n := (f : Int) - at_) (by omega) (by omega)]
      refine Tot.bind (numf_T ((f : Int) - at_) 2 (by omega) (by omega) (by decide)) ?_
      rintro _ rfl
      rw [Int.toNat_natCast, Int.toNat_natCast, hout2]
      exact Tot.yes (by rw [ByteArray.size_append, s3, s2, h0]; omega) (Tot.yes (by omega) (Tot.yes (by omega) (Tot.yes (by omega) (Tot.yes (by rw [ByteArray.size_append, ByteArray.size_append, s3, s2, sx, h0]; omega) v1))))
    · refine Tot.step (fun k => impl_DiffOf.l0.eq_2 _ _ _ _ k) (Tot.yes (by omega) (Tot.bind hi ?_))
      intro q hq
      rw [show q = _ from hq]
      refine Tot.yes (by omega) ?_
      refine Tot.bind (bigf_T (at_ : Int) 3 (by decide)) ?_
      rintro _ rfl
      refine Tot.bind (bigf_T ((f : Int) - at_) 2 (by decide)) ?_
      rintro _ rfl
      refine Tot.yes (by rw [s3, s2, h0]; omega) ?_
      rw [show (at_ : Int) + ((f : Int) - at_) = f by omega, show (at_ : Int) + ((f : Int) - at_ + 1) = (f : Int) + 1 by omega, Int.toNat_natCast, Int.toNat_natCast, ← ByteArray.append_assoc, ← ByteArray.append_assoc, hout2]
      exact v2
theorem diff_T (a b : ByteArray) : ∃ v, Tot (fun k => spec_DiffOf.f k a b) (fun r => r = v) ∧ Tot (fun k => impl_DiffOf.f k a b) (fun r => r = v) ∧ ((v = ((⟨#[]⟩ : ByteArray), false)) ∨ (a.size ≤ 20000 ∧ b.size ≤ 20000 ∧ Tot (fun k => impl_DiffOf.l0 k a b (⟨#[68, 73, 70, 70]⟩ : ByteArray) 0) (fun r => r = v))) := by
  have no : Tot (fun k => spec_DiffOf.j0 k a b true) (fun r => r = ((⟨#[]⟩ : ByteArray), false)) := Tot.step (fun k => spec_DiffOf.j0.eq_2 _ _ _ k) (Tot.yes rfl (Tot.ret rfl))
  unfold spec_DiffOf.f impl_DiffOf.f
  by_cases h1 : (a.size : Int) > 20000
  · exact ⟨_, Tot.yes h1 no, Tot.yes h1 (Tot.ret rfl), .inl rfl⟩
  by_cases h2 : (b.size : Int) > 20000
  · refine ⟨_, Tot.no h1 ?_, Tot.no h1 (Tot.yes h2 (Tot.ret rfl)), .inl rfl⟩
    rw [decide_eq_true h2]; exact no
  obtain ⟨v, v1, v2⟩ := diff_both a b (by omega) b.size 0 (⟨#[68, 73, 70, 70]⟩ : ByteArray) (by omega) (by show 4 ≤ 4 + 6 * 0; omega)
  refine ⟨v, Tot.no h1 ?_, Tot.no h1 (Tot.no h2 v2), .inr ⟨by omega, by omega, v2⟩⟩
  rw [decide_eq_false h2]
  exact Tot.step (fun k => spec_DiffOf.j0.eq_2 _ _ _ k) (Tot.no (by decide) v1)

theorem FnExactDiffOf : laws_FnExactDiffOf.Pure := by
  intro a b _ _
  refine Tot.done ?_
  unfold laws_FnExactDiffOf.f
  refine Tot.ite (fun _ => Tot.ret rfl) (fun _ => Tot.ite (fun _ => Tot.ret rfl) (fun _ => ?_))
  obtain ⟨v, h1, h2, _⟩ := diff_T a b
  refine Tot.bind h1 ?_
  intro q hq
  rw [show q = v from hq]
  refine Tot.bind h2 ?_
  intro q hq
  rw [show q = v from hq]
  exact Tot.yes rfl (Tot.no (by simp) (Tot.ret rfl))
end Go.Proofs.Ytcohcndliaaacaa.Pure
