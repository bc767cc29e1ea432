import Derived.Test.YtodlnnoekccmmaaDoorYQFnHexx
import Derived.Test.YtodlnnoekccmmaaDoorYLib
namespace Go.Proofs.YtodlnnoekccmmaaDoor.Pure
open Go.RowKit Go.Proofs.YtodlnnoekccmmaaDoor.QFnHex Go.Proofs.YtodlnnoekccmmaaDoorW.PrintWords Go.Proofs.YtodlnnoekccmmaaDoorW.PrintLast Go.Proofs.YtodlnnoekccmmaaDoorW.PrintMore Go.Proofs.YtodlnnoekccmmaaDoor.Lib Go.Proofs.YtodlnnoekccmmaaDoor.LibX Go.Proofs.YtodlnnoekccmmaaDoor.LibE
set_option linter.unusedSimpArgs false
set_option linter.unusedVariables false

def Tot {α : Type} (g : Nat → Option α) (P : α → Prop) : Prop := ∃ K r, P r ∧ ∀ k, K ≤ k → g k = some r
theorem Tot.ret {α : Type} {r : α} {P : α → Prop} (h : P r) : Tot (fun _ => some r) P := ⟨0, r, h, fun _ _ => rfl⟩
theorem Tot.of {α : Type} {g : Option α} {r : α} {P : α → Prop} (e : g = some r) (h : P r) : Tot (fun _ => g) P := ⟨0, r, h, fun _ _ => e⟩
theorem Tot.bind {α β : Type} {g : Nat → Option α} {f : Nat → α → Option β} {P : α → Prop} {Q : β → Prop} (h : Tot g P) (hf : ∀ a, P a → Tot (fun k => f k a) Q) : Tot (fun k => (g k).bind (f k)) Q := by
  obtain ⟨K, a, ha, hg⟩ := h
  obtain ⟨L, r, hr, hk⟩ := hf a ha
  exact ⟨max K L, r, hr, fun k hk' => by show (g k).bind (f k) = some r; rw [hg k (by omega)]; exact hk k (by omega)⟩
theorem Tot.ite {α : Type} {c : Prop} [Decidable c] {g f : Nat → Option α} {P : α → Prop} (h1 : c → Tot g P) (h2 : ¬ c → Tot f P) : Tot (fun k => if c then g k else f k) P := by
  by_cases h : c
  · obtain ⟨K, r, hr, hk⟩ := h1 h
    exact ⟨K, r, hr, fun k hk' => by show (if c then g k else f k) = some r; rw [if_pos h]; exact hk k hk'⟩
  · obtain ⟨K, r, hr, hk⟩ := h2 h
    exact ⟨K, r, hr, fun k hk' => by show (if c then g k else f k) = some r; rw [if_neg h]; exact hk k hk'⟩
theorem Tot.yes {α : Type} {c : Prop} [Decidable c] {g f : Nat → Option α} {P : α → Prop} (h : c) (h1 : Tot g P) : Tot (fun k => if c then g k else f k) P := Tot.ite (fun _ => h1) (fun n => absurd h n)
theorem Tot.no {α : Type} {c : Prop} [Decidable c] {g f : Nat → Option α} {P : α → Prop} (h : ¬ c) (h1 : Tot f P) : Tot (fun k => if c then g k else f k) P := Tot.ite (fun n => absurd n h) (fun _ => h1)
theorem Tot.mono {α : Type} {g : Nat → Option α} {P Q : α → Prop} (h : Tot g P) (hi : ∀ a, P a → Q a) : Tot g Q := by
  obtain ⟨K, r, hr, hk⟩ := h
  exact ⟨K, r, hi r hr, hk⟩
theorem Tot.step {α : Type} {g f : Nat → Option α} {P : α → Prop} (h : ∀ k, g (k + 1) = f k) (hf : Tot f P) : Tot g P := by
  obtain ⟨K, r, hr, hk⟩ := hf
  exact ⟨K + 1, r, hr, fun k hk' => by obtain ⟨m, rfl⟩ : ∃ m, k = m + 1 := ⟨k - 1, by omega⟩; rw [h]; exact hk m (by omega)⟩
theorem Tot.lift {α : Type} {g : Nat → Option α} {P : α → Prop} (hm : ∀ k, LeO (g k) (g (k + 1))) {k : Nat} {r : α} (e : g k = some r) (h : P r) : Tot g P := ⟨k, r, h, fun _ hk => at_rounds hm hk e⟩
theorem Tot.congr {α : Type} {g f : Nat → Option α} {P : α → Prop} (h : ∀ k, g k = f k) (hf : Tot f P) : Tot g P := by
  obtain ⟨K, r, hr, hk⟩ := hf
  exact ⟨K, r, hr, fun k hk' => (h k).trans (hk k hk')⟩
theorem Tot.eq {α : Type} {g : Nat → Option α} {r : α} (h : Tot g (fun x => x = r)) : ∃ K, ∀ k, K ≤ k → g k = some r := by
  obtain ⟨K, x, hx, hk⟩ := h
  subst hx
  exact ⟨K, hk⟩
theorem Tot.done {g : Nat → Option Bool} (h : Tot g (fun x => x = true)) : ∃ k, g k = some true := by
  obtain ⟨K, hk⟩ := h.eq
  exact ⟨K, hk K (Nat.le_refl _)⟩

def RdOk (s : List Int) (p : Int) : Prop := 0 ≤ p ∧ p ≤ s.length ∧ s.length ≤ 1048576 ∧ ∀ x ∈ s, 0 ≤ x ∧ x ≤ 255
theorem rd_mem {s : List Int} {p : Int} (h0 : 0 ≤ p) (h1 : p < (s.length : Int)) : rd s p ∈ s := by
  unfold rd
  rw [List.getD_eq_getElem?_getD, List.getElem?_eq_getElem (by omega)]
  exact List.getElem_mem _
theorem open_tot {l : List Int} (hl : l.length ≤ 1048576) (hb : ∀ x ∈ l, 0 ≤ x ∧ x ≤ 255) : spec_l1Open.f l = some (l, 0) ∧ RdOk l 0 :=
  ⟨rfl, by omega, by omega, hl, hb⟩
theorem next_tot {s : List Int} {p : Int} (h : RdOk s p) : ∃ v q, spec_l1Rd_next.f s p = some (v, q) ∧ 0 ≤ v ∧ v ≤ 255 ∧ RdOk s q := by
  obtain ⟨h0, h1, h2, h3⟩ := h
  unfold spec_l1Rd_next.f
  by_cases c : p ≥ (s.length : Int)
  · rw [if_pos c]
    exact ⟨0, p, rfl, by omega, by omega, h0, h1, h2, h3⟩
  · have hm := h3 _ (rd_mem h0 (show p < (s.length : Int) by omega))
    have e : p + 1 - 1 = p := by omega
    rw [if_neg c, w64_in (n := p + 1) (by omega) (by omega), w64_in (n := p + 1 - 1) (by omega) (by omega), e, if_pos h0, if_pos (by omega), w64_in (n := rd s p) (by omega) (by omega)]
    exact ⟨_, _, rfl, hm.1, hm.2, by omega, by omega, h2, h3⟩
theorem below_tot {s : List Int} {p : Int} (h : RdOk s p) (n : Int) : ∃ v q, spec_l1Rd_below.f s p n = some (v, q) ∧ 0 ≤ v ∧ (1 ≤ n → v < n) ∧ RdOk s q := by
  unfold spec_l1Rd_below.f
  by_cases c : n ≤ 1
  · rw [if_pos c]
    exact ⟨0, p, rfl, by omega, by omega, h⟩
  · rw [if_neg c]
    obtain ⟨v, q, e1, v0, v1, h1⟩ := next_tot h
    by_cases c2 : n ≤ 256
    · rw [if_pos c2, e1]
      simp only [Option.bind_some]
      rw [if_neg (by omega), tmod_pos _ v0]
      exact ⟨_, _, rfl, Int.emod_nonneg _ (by omega), fun _ => Int.emod_lt_of_pos _ (by omega), h1⟩
    · obtain ⟨u, r, e2, u0, u1, h2⟩ := next_tot h1
      rw [if_neg c2, e1]
      simp only [Option.bind_some]
      rw [e2]
      simp only [Option.bind_some]
      rw [if_neg (by omega), w64_in (n := v * 256) (by omega) (by omega), w64_in (n := v * 256 + u) (by omega) (by omega), tmod_pos _ (by omega)]
      exact ⟨_, _, rfl, Int.emod_nonneg _ (by omega), fun _ => Int.emod_lt_of_pos _ (by omega), h2⟩

theorem once_tot {s : List Int} {p : Int} (h : RdOk s p) (n : Int) : ∃ b q, spec_l1Rd_once.f s p n = some (b, q) ∧ RdOk s q := by
  obtain ⟨v, q, e, _, _, hq⟩ := below_tot h n
  unfold spec_l1Rd_once.f
  rw [e]
  exact ⟨_, _, rfl, hq⟩

theorem word_tot_l {s : List Int} : ∀ (k : Nat) (x i p : Int), RdOk s p → 0 ≤ i → i ≤ 8 → 8 - i < k → ∃ v q, spec_l1Rd_word.l0 k x i s p = some (v, q) ∧ RdOk s q := by
  intro k
  induction k with
  | zero => intros; omega
  | succ k ih =>
    intro x i p h i0 i1 hk
    simp only [spec_l1Rd_word.l0]
    by_cases c : i < 8
    · obtain ⟨v, q, e, _, _, hq⟩ := next_tot h
      rw [if_pos c, e]
      simp only [Option.bind_some]
      rw [w64_in (n := i + 1) (by omega) (by omega)]
      exact ih _ _ _ hq (by omega) (by omega) (by omega)
    · rw [if_neg c]
      exact ⟨_, _, rfl, h⟩
theorem word_tot {s : List Int} {p : Int} (h : RdOk s p) {k : Nat} (hk : 9 ≤ k) : ∃ v q, spec_l1Rd_word.f k s p = some (v, q) ∧ RdOk s q :=
  word_tot_l k 0 0 p h (by omega) (by omega) (by omega)

theorem near_tot {s : List Int} {p : Int} (h : RdOk s p) {k : Nat} (hk : 9 ≤ k) (lo hi : Int) (hlo : -4294967296 ≤ lo) (hhi : hi ≤ 4294967296) : ∃ v q, spec_l1Rd_near.f k s p lo hi = some (v, q) ∧ RdOk s q := by
  unfold spec_l1Rd_near.f
  obtain ⟨v, q, e, _, _, hq⟩ := below_tot h 8
  rw [e]
  simp only [Option.bind_some]
  by_cases c0 : v = 0
  · rw [if_pos c0]; exact ⟨_, _, rfl, hq⟩
  · rw [if_neg c0]
    by_cases c1 : v = 1
    · rw [if_pos c1]; exact ⟨_, _, rfl, hq⟩
    · rw [if_neg c1]
      by_cases c2 : hi < lo
      · rw [if_pos c2]; exact ⟨_, _, rfl, hq⟩
      · rw [if_neg c2]
        obtain ⟨x, r, e2, hr⟩ := word_tot hq hk
        rw [e2]
        simp only [Option.bind_some]
        rw [w64_in (n := hi - lo) (by omega) (by omega), w64_in (n := hi - lo + 1) (by omega) (by omega), u64_in (n := hi - lo + 1) (by omega) (by omega), if_neg (by omega)]
        exact ⟨_, _, rfl, hr⟩
theorem off_tot {s : List Int} {p : Int} (h : RdOk s p) {k : Nat} (hk : 9 ≤ k) (lo hi : Int) (hlo : -4294967296 ≤ lo) (hhi : hi ≤ 4294967296) : ∃ v q, spec_l1Rd_off.f k s p lo hi = some (v, q) ∧ RdOk s q := by
  unfold spec_l1Rd_off.f
  obtain ⟨b, q, e, hq⟩ := once_tot h 24
  rw [e]
  simp only [Option.bind_some]
  by_cases c : b = true
  · rw [if_pos c]
    obtain ⟨v, r, e2, v0, v1, hr⟩ := below_tot hq 4
    rw [e2]
    simp only [Option.bind_some]
    have v4 := v1 (by omega)
    rw [if_pos v0, if_pos (by simp only [List.length_cons, List.length_nil]; omega)]
    exact ⟨_, _, rfl, hr⟩
  · rw [if_neg c]
    obtain ⟨v, r, e2, hr⟩ := near_tot hq hk lo hi hlo hhi
    rw [e2]
    exact ⟨_, _, rfl, hr⟩

theorem below_T {s : List Int} {p : Int} (h : RdOk s p) (n : Int) : Tot (fun _ => spec_l1Rd_below.f s p n) (fun r => 0 ≤ r.1 ∧ (1 ≤ n → r.1 < n) ∧ RdOk s r.2) := by
  obtain ⟨v, q, e, h0, h1, h2⟩ := below_tot h n
  exact Tot.of e ⟨h0, h1, h2⟩
theorem once_T {s : List Int} {p : Int} (h : RdOk s p) (n : Int) : Tot (fun _ => spec_l1Rd_once.f s p n) (fun r => RdOk s r.2) := by
  obtain ⟨v, q, e, h0⟩ := once_tot h n
  exact Tot.of e h0
theorem off_T {s : List Int} {p : Int} (h : RdOk s p) (lo hi : Int) (hlo : -4294967296 ≤ lo) (hhi : hi ≤ 4294967296) : Tot (fun k => spec_l1Rd_off.f k s p lo hi) (fun r => RdOk s r.2) := by
  obtain ⟨v, q, e, h2⟩ := off_tot h (k := 9) (Nat.le_refl _) lo hi hlo hhi
  exact Tot.lift (fun k => spec_l1Rd_off.mono _ _ _ _ k) e h2

theorem bytes_wf {l : List Int} (h : ∀ x ∈ l, (Lit.int .u8 x).wf = true) : ∀ x ∈ l, 0 ≤ x ∧ x ≤ 255 := by
  intro x hx
  have h1 := h x hx
  have e0 : IntKind.u8.min = 0 := rfl
  have e1 : IntKind.u8.max = 255 := rfl
  simp only [Lit.wf, e0, e1, Bool.and_eq_true, decide_eq_true_eq] at h1
  exact h1

theorem str_app (a b : List Int) : strOfNums a ++ strOfNums b = strOfNums (a ++ b) := by
  apply ByteArray.ext
  rw [ByteArray.data_append]
  apply Array.ext'
  rw [Array.toList_append, strOfNums_data, strOfNums_data, strOfNums_data, List.map_append]

def upD (v : Int) : Int := if v < 10 then 48 + v else 55 + v
def hexUp (n : Int) : Nat → List Int
  | 0 => []
  | k + 1 => upD (n / 16 ^ k % 16) :: hexUp n k
theorem hexUp_length (n : Int) (k : Nat) : (hexUp n k).length = k := by
  induction k with
  | zero => rfl
  | succ k ih => rw [hexUp, List.length_cons, ih]
theorem upD_range : ∀ v : Fin 16, 48 ≤ upD (v.val : Int) ∧ upD (v.val : Int) ≤ 70 := by decide
theorem upD_byte {v : Int} (h0 : 0 ≤ v) (h1 : v < 16) : 0 ≤ upD v ∧ upD v < 256 := by
  have := upD_range ⟨v.toNat, by omega⟩
  rw [show ((v.toNat : Nat) : Int) = v by omega] at this
  omega
theorem hexUp_bytes (n : Int) (k : Nat) : ∀ x ∈ hexUp n k, 0 ≤ x ∧ x < 256 := by
  induction k with
  | zero => intro x hx; cases hx
  | succ k ih =>
    intro x hx
    rw [hexUp, List.mem_cons] at hx
    rcases hx with rfl | hx
    · exact upD_byte (Int.emod_nonneg _ (by decide)) (Int.emod_lt_of_pos _ (by decide))
    · exact ih x hx
def hexV (n d : Int) : ByteArray := if (1 ≤ d ∧ d ≤ 4) ∧ (0 ≤ n ∧ n ≤ 65535) ∧ n < 16 ^ d.toNat then strOfNums (36 :: hexUp n d.toNat) else ⟨#[]⟩
theorem hexV_none {n d : Int} (h : ¬ ((1 ≤ d ∧ d ≤ 4) ∧ (0 ≤ n ∧ n ≤ 65535) ∧ n < 16 ^ d.toNat)) : hexV n d = ⟨#[]⟩ := by rw [hexV, if_neg h]
def DIG : ByteArray := ⟨#[48, 49, 50, 51, 52, 53, 54, 55, 56, 57, 65, 66, 67, 68, 69, 70]⟩
theorem dig_cut : ∀ v : Fin 16, DIG.extract v.val (v.val + 1) = strOfNums [upD (v.val : Int)] := by decide +kernel
theorem str_cons (a : Int) (L : List Int) : strOfNums [a] ++ strOfNums L = strOfNums (a :: L) := str_app [a] L
theorem pow_pos16 (k : Nat) : (0 : Int) < 16 ^ k := Int.pow_pos (by decide)
theorem div_step (n : Int) (k : Nat) : n / 16 ^ k / 16 = n / 16 ^ (k + 1) := by
  rw [Int.pow_succ, Int.ediv_ediv, if_neg (fun e => by have := pow_pos16 k; omega)]
  omega
theorem hexS_loop (n : Int) (hn0 : 0 ≤ n) (hn1 : n ≤ 65535) (d : Nat) (hd : d ≤ 4) : ∀ r i : Nat, i + r = d → Tot (fun k => spec_HexOf.l0 k (n / 16 ^ i) (d : Int) (strOfNums (hexUp n i)) (i : Int)) (· = if n / 16 ^ d > 0 then ⟨#[]⟩ else strOfNums (36 :: hexUp n d)) := by
  intro r
  induction r with
  | zero =>
    intro i hi
    obtain rfl : i = d := by omega
    refine Tot.step (fun k => spec_HexOf.l0.eq_2 _ _ _ _ k) (Tot.no (by omega) ?_)
    refine Tot.ite (fun h => Tot.ret (by rw [if_pos h])) (fun h => ?_)
    refine Tot.yes (by rw [strOfNums_size, hexUp_length]; omega) (Tot.ret ?_)
    rw [if_neg h]
    exact str_cons 36 _
  | succ r ih =>
    intro i hi
    have q0 : 0 ≤ n / 16 ^ i := Int.ediv_nonneg hn0 (Int.le_of_lt (pow_pos16 i))
    have q1 : n / 16 ^ i ≤ 65535 := Int.le_trans (Int.ediv_le_self _ hn0) hn1
    refine Tot.step (fun k => spec_HexOf.l0.eq_2 _ _ _ _ k) (Tot.yes (by omega) ?_)
    rw [tmod_pos _ q0, tdiv_pos _ q0]
    have m0 : 0 ≤ n / 16 ^ i % 16 := Int.emod_nonneg _ (by decide)
    have m1 : n / 16 ^ i % 16 < 16 := Int.emod_lt_of_pos _ (by decide)
    rw [w64_in (n := n / 16 ^ i % 16 + 1) (by omega) (by omega), w64_in (n := n / 16 ^ i / 16) (by omega) (by omega), w64_in (n := (i : Int) + 1) (by omega) (by omega)]
    have ec : (⟨#[48, 49, 50, 51, 52, 53, 54, 55, 56, 57, 65, 66, 67, 68, 69, 70]⟩ : ByteArray).extract (n / 16 ^ i % 16).toNat (n / 16 ^ i % 16 + 1).toNat = strOfNums [upD (n / 16 ^ i % 16)] := by
      have := dig_cut ⟨(n / 16 ^ i % 16).toNat, by omega⟩
      rw [show (((n / 16 ^ i % 16).toNat : Nat) : Int) = n / 16 ^ i % 16 by omega] at this
      rw [show (n / 16 ^ i % 16 + 1).toNat = (n / 16 ^ i % 16).toNat + 1 by omega]
      exact this
    rw [ec, str_cons, div_step]
    refine Tot.yes m0 (Tot.yes (by omega) (Tot.yes (by omega) (Tot.yes (by rw [strOfNums_size, strOfNums_size, hexUp_length]; simp; omega) ?_)))
    exact ih (i + 1) (by omega)
theorem hexS_T (n d : Int) : Tot (fun k => spec_HexOf.f k n d) (· = hexV n d) := by
  unfold spec_HexOf.f
  have hin : ∀ (a lo hi : Int), spec_l1In.f a lo hi = some (decide (lo ≤ a ∧ a ≤ hi)) := by
    intro a lo hi
    unfold spec_l1In.f
    by_cases h : a ≥ lo
    · rw [if_pos h]; simp [show lo ≤ a from h]
    · rw [if_neg h]; simp [show ¬ lo ≤ a from h]
  refine Tot.bind (Tot.of (hin _ _ _) rfl) ?_
  rintro _ rfl
  refine Tot.ite (fun h => ?_) (fun h => Tot.step (fun k => spec_HexOf.j0.eq_2 _ _ _ k) (Tot.yes rfl (Tot.ret (hexV_none (fun e => h (decide_eq_true e.1))).symm)))
  have hd := of_decide_eq_true h
  refine Tot.bind (Tot.of (hin _ _ _) rfl) ?_
  rintro _ rfl
  refine Tot.step (fun k => spec_HexOf.j0.eq_2 _ _ _ k) (Tot.ite (fun h => Tot.ret (hexV_none (fun e => by have := e.2.1; simp [this] at h)).symm) (fun h => ?_))
  have hn : 0 ≤ n ∧ n ≤ 65535 := by simpa using h
  obtain ⟨D, rfl⟩ : ∃ D : Nat, d = D := ⟨d.toNat, by omega⟩
  have hl := hexS_loop n hn.1 hn.2 D (by omega) D 0 (by omega)
  rw [Int.pow_zero, Int.ediv_one] at hl
  refine Tot.mono hl (fun r hr => ?_)
  rw [hr]
  by_cases hq : n < 16 ^ D
  · rw [if_neg (by rw [Int.ediv_eq_zero_of_lt hn.1 hq]; decide), hexV, if_pos ⟨hd, hn, by rw [Int.toNat_natCast]; exact hq⟩, Int.toNat_natCast]
  · have h1 : 1 ≤ n / 16 ^ D := by rw [Int.le_ediv_iff_mul_le (pow_pos16 D)]; omega
    rw [if_pos (show n / 16 ^ D > 0 by omega), hexV_none (fun e => hq (by have := e.2.2; rwa [Int.toNat_natCast] at this))]
theorem up_of_low : ∀ v : Fin 16, Lib.upperB (UInt8.ofNat (LibF.hexDig v.val).toNat) = UInt8.ofNat (upD (v.val : Int)).toNat ∧ (UInt8.ofNat (LibF.hexDig v.val).toNat).toNat < 128 := by decide
theorem upper_low (n : Nat) (k : Nat) : Lib.toUpperA ((LibF.hexLow n k).map fun x => UInt8.ofNat x.toNat) = (hexUp (n : Int) k).map (fun x => UInt8.ofNat x.toNat) ∧ ((LibF.hexLow n k).map fun x => UInt8.ofNat x.toNat).all (fun b => decide (b.toNat < 128)) = true := by
  induction k with
  | zero => exact ⟨rfl, rfl⟩
  | succ k ih =>
    have h := up_of_low ⟨n / 16 ^ k % 16, Nat.mod_lt _ (by decide)⟩
    have e : (((n / 16 ^ k % 16 : Nat)) : Int) = (n : Int) / 16 ^ k % 16 := by
      rw [Int.natCast_emod, Int.natCast_ediv, Int.natCast_pow]; rfl
    simp only [e] at h
    constructor
    · rw [LibF.hexLow, hexUp, List.map_cons, List.map_cons]
      show Lib.upperB _ :: Lib.toUpperA _ = _
      rw [h.1, ih.1]
    · rw [LibF.hexLow, List.map_cons, List.all_cons, ih.2, Bool.and_true]
      exact decide_eq_true h.2
theorem hexUp_more (n : Int) (k : Nat) (hn0 : 0 ≤ n) (hn : n < 16 ^ k) : ∀ c, hexUp n (k + c) = List.replicate c 48 ++ hexUp n k := by
  intro c
  induction c with
  | zero => rfl
  | succ c ih =>
    have hz : n / 16 ^ (k + c) = 0 := Int.ediv_eq_zero_of_lt hn0 (Int.lt_of_lt_of_le hn (by
      rw [Int.pow_add]
      have h1 := pow_pos16 k
      have h2 : (1 : Int) ≤ 16 ^ c := pow_pos16 c
      calc (16 : Int) ^ k = 16 ^ k * 1 := (Int.mul_one _).symm
        _ ≤ 16 ^ k * 16 ^ c := Int.mul_le_mul_of_nonneg_left h2 (Int.le_of_lt h1)))
    rw [show k + (c + 1) = (k + c) + 1 by omega, hexUp, ih, hz, List.replicate_succ]
    rfl
theorem hexK_spec (n : Nat) (hn : n < 65536) : (n : Int) < 16 ^ (LibF.hexK n + 1) ∧ (∀ d : Nat, 1 ≤ d → d ≤ 4 → (n : Int) < 16 ^ d → LibF.hexK n + 1 ≤ d) ∧ LibF.hexK n ≤ 3 := by
  unfold LibF.hexK
  refine ⟨?_, ?_, ?_⟩
  · split
    · simp; omega
    · split
      · simp; omega
      · split <;> simp <;> omega
  · intro d h1 h4 hd
    rcases (show d = 1 ∨ d = 2 ∨ d = 3 ∨ d = 4 by omega) with rfl | rfl | rfl | rfl <;> simp at hd <;> (repeat' split) <;> omega
  · (repeat' split) <;> omega
theorem rep48 (c : Nat) : Lib.repeatL [48] c = (List.replicate c (48 : Int)).map (fun x => UInt8.ofNat x.toNat) := by
  induction c with
  | zero => rfl
  | succ c ih => rw [Lib.repeatL, ih, List.replicate_succ]; rfl
theorem hexDigits_eq (n : Int) (d : Nat) (hn0 : 0 ≤ n) (hn1 : n ≤ 65535) (hd0 : 1 ≤ d) (hd1 : d ≤ 4) (hlt : n < 16 ^ d) : impl_hexDigits.f n (d : Int) = some (strOfNums (hexUp n d)) := by
  obtain ⟨m, rfl⟩ : ∃ m : Nat, n = m := ⟨n.toNat, by omega⟩
  obtain ⟨s1, s2, s3⟩ := hexK_spec m (by omega)
  have s2 := s2 d hd0 hd1 hlt
  unfold impl_hexDigits.f
  have e1 : strconv_FormatInt.f (m : Int) 16 = some (strOfNums (LibF.hexLow m (LibF.hexK m + 1))) := by
    unfold strconv_FormatInt.f
    rw [if_neg (by decide), if_pos rfl, if_pos hn0, if_pos (by omega), Int.toNat_natCast]
    rfl
  rw [e1, Option.bind_some]
  have e2 : strings_ToUpper.f (strOfNums (LibF.hexLow m (LibF.hexK m + 1))) = some (strOfNums (hexUp (m : Int) (LibF.hexK m + 1))) := by
    unfold strings_ToUpper.f
    obtain ⟨u1, u2⟩ := upper_low m (LibF.hexK m + 1)
    rw [if_pos (by rw [strOfNums_size, LibF.hexLow_length]; omega), strOfNums_data, if_pos u2, u1]
    rfl
  rw [e2, Option.bind_some]
  have ez : ((strOfNums (hexUp (m : Int) (LibF.hexK m + 1))).size : Int) = LibF.hexK m + 1 := by rw [strOfNums_size, hexUp_length]; rfl
  rw [ez, w64_in (n := (d : Int) - (LibF.hexK m + 1)) (by omega) (by omega), show mx 0 ((d : Int) - ((LibF.hexK m : Int) + 1)) = ((d - (LibF.hexK m + 1) : Nat) : Int) by unfold mx; omega]
  obtain ⟨c, hc⟩ : ∃ c, d - (LibF.hexK m + 1) = c := ⟨_, rfl⟩
  rw [hc]
  have e3 : strings_Repeat.f (⟨#[48]⟩ : ByteArray) (c : Int) = some (strOfNums (List.replicate c 48)) := by
    unfold strings_Repeat.f
    rw [if_pos (by omega), if_pos (by omega), if_pos (by have : (⟨#[48]⟩ : ByteArray).size = 1 := rfl; rw [this, Int.toNat_natCast]; omega), Int.toNat_natCast]
    have : (⟨#[48]⟩ : ByteArray).data.toList = [48] := rfl
    rw [this, rep48]
    rfl
  rw [e3, Option.bind_some, if_pos (by rw [strOfNums_size, strOfNums_size, hexUp_length, List.length_replicate]; omega), str_app, ← hexUp_more (m : Int) _ hn0 s1, show LibF.hexK m + 1 + c = d by omega]
theorem hexI_T (n d : Int) : Tot (fun k => impl_HexOf.f k n d) (· = hexV n d) := by
  unfold impl_HexOf.f
  have wi : ∀ (a lo hi : Int), impl_within.f a lo hi = some (decide (lo ≤ a ∧ a ≤ hi)) := by
    intro a lo hi
    unfold impl_within.f
    by_cases h : a ≥ lo
    · rw [if_pos h]; simp [show lo ≤ a from h]
    · rw [if_neg h]; simp [show ¬ lo ≤ a from h]
  have wo : ∀ a : Int, impl_isWord.f a = some (decide (0 ≤ a ∧ a ≤ 65535)) := by intro a; unfold impl_isWord.f; rw [wi]; rfl
  refine Tot.bind (Tot.of (wi _ _ _) rfl) ?_
  rintro _ rfl
  refine Tot.ite (fun h => ?_) (fun h => Tot.step (fun k => impl_HexOf.j0.eq_2 _ _ _ k) (Tot.yes rfl (Tot.ret (hexV_none (fun e => h (decide_eq_true e.1))).symm)))
  have hd := of_decide_eq_true h
  refine Tot.bind (Tot.of (wo _) rfl) ?_
  rintro _ rfl
  refine Tot.ite (fun h => ?_) (fun h => Tot.step (fun k => impl_HexOf.j0.eq_2 _ _ _ k) (Tot.yes rfl (Tot.ret (hexV_none (fun e => h (decide_eq_true e.2.1))).symm)))
  have hn := of_decide_eq_true h
  obtain ⟨D, rfl⟩ : ∃ D : Nat, d = D := ⟨d.toNat, by omega⟩
  rw [w64_in (n := 4 * (D : Int)) (by omega) (by omega)]
  have es : shr .i64 n (4 * (D : Int)) = n / 16 ^ D := by
    unfold shr
    rw [show (4 * (D : Int)).toNat = 4 * D by omega, Nat.min_eq_left (by show 4 * D ≤ 64; omega), Int.pow_mul]
    rfl
  rw [es]
  refine Tot.yes (by omega) (Tot.step (fun k => impl_HexOf.j0.eq_2 _ _ _ k) (Tot.ite (fun h => Tot.ret ?_) (fun h => ?_)))
  · have := of_decide_eq_true h
    refine (hexV_none (fun e => ?_)).symm
    have e2 := e.2.2
    rw [Int.toNat_natCast] at e2
    rw [Int.ediv_eq_zero_of_lt hn.1 e2] at this
    omega
  · have hq : n < 16 ^ D := by
      have h1 : ¬ n / 16 ^ D > 0 := fun e => h (decide_eq_true e)
      rcases Int.lt_or_le n (16 ^ D) with a | a
      · exact a
      · have : 1 ≤ n / 16 ^ D := by rw [Int.le_ediv_iff_mul_le (pow_pos16 D)]; omega
        omega
    refine Tot.bind (Tot.of (hexDigits_eq n D hn.1 hn.2 (by omega) (by omega) hq) rfl) ?_
    rintro _ rfl
    refine Tot.yes (by rw [strOfNums_size, hexUp_length]; omega) (Tot.ret ?_)
    rw [hexV, if_pos ⟨hd, hn, by rw [Int.toNat_natCast]; exact hq⟩, Int.toNat_natCast]
    exact str_cons 36 _

theorem bytesStr {xs : List Int} (h : ∀ x ∈ xs, 0 ≤ x ∧ x < 256) : bytesOf (strOfNums xs) = xs := by
  unfold bytesOf
  rw [strOfNums_data, List.map_map]
  conv => rhs; rw [← List.map_id xs]
  refine List.map_congr_left fun x hx => ?_
  have := h x hx
  simp only [Function.comp, id]
  rw [UInt8.toNat_ofNat']
  omega
theorem btL (s : ByteArray) (i : Int) : bt s i = (bytesOf s).getD i.toNat 0 := by rw [← rd_bytesOf]; rfl
theorem hexUp_at (n : Int) : ∀ (d i : Nat), i < d → (hexUp n d).getD i 0 = upD (n / 16 ^ (d - 1 - i) % 16)
  | 0, i, h => by omega
  | d + 1, 0, _ => by simp [hexUp]
  | d + 1, i + 1, h => by
    rw [hexUp, List.getD_cons_succ, hexUp_at n d i (by omega), show d + 1 - 1 - (i + 1) = d - 1 - i by omega]
theorem index_up : ∀ v : Fin 16, strings_IndexByte.f DIG (upD (v.val : Int)) = some (v.val : Int) := by decide +kernel
theorem nil_size (a : ByteArray) : a.toList = ([] : List UInt8) ↔ a.size = 0 := by
  rw [ByteArray.toList_eq]
  constructor
  · intro h
    have := congrArg List.length h
    rwa [Array.length_toList] at this
  · intro h
    exact List.eq_nil_of_length_eq_zero (by rw [Array.length_toList]; exact h)
theorem value_loop (n : Int) (hn0 : 0 ≤ n) (hn1 : n ≤ 65535) (d : Nat) (h1 : 1 ≤ d) (h4 : d ≤ 4) (hlt : n < 16 ^ d) : ∀ r i : Nat, i + r = d → Tot (fun k => impl_valueOf.l0 k (strOfNums (hexUp n d)) DIG (n / 16 ^ (d - i)) (d : Int) (i : Int)) (· = (n, true)) := by
  have hB := bytesStr (hexUp_bytes n d)
  have hz : (strOfNums (hexUp n d)).size = d := by rw [strOfNums_size, hexUp_length]
  intro r
  induction r with
  | zero =>
    intro i hi
    obtain rfl : i = d := by omega
    refine Tot.step (fun k => impl_valueOf.l0.eq_2 _ _ _ _ _ k) (Tot.no (by omega) (Tot.no (fun e => by have := (nil_size _).1 e; omega) (Tot.ret ?_)))
    rw [Nat.sub_self, Int.pow_zero, Int.ediv_one, decide_eq_true hn1]
  | succ r ih =>
    intro i hi
    have q0 : 0 ≤ n / 16 ^ (d - i) := Int.ediv_nonneg hn0 (Int.le_of_lt (pow_pos16 _))
    have q1 : n / 16 ^ (d - i) ≤ 65535 := Int.le_trans (Int.ediv_le_self _ hn0) hn1
    have hs := div_step n (d - 1 - i)
    rw [show d - 1 - i + 1 = d - i by omega] at hs
    have p0 : 0 ≤ n / 16 ^ (d - 1 - i) := Int.ediv_nonneg hn0 (Int.le_of_lt (pow_pos16 _))
    have p1 : n / 16 ^ (d - 1 - i) ≤ 65535 := Int.le_trans (Int.ediv_le_self _ hn0) hn1
    have eb : bt (strOfNums (hexUp n d)) (i : Int) = upD (n / 16 ^ (d - 1 - i) % 16) := by rw [btL, hB, Int.toNat_natCast, hexUp_at n d i (by omega)]
    have ix : strings_IndexByte.f DIG (upD (n / 16 ^ (d - 1 - i) % 16)) = some (n / 16 ^ (d - 1 - i) % 16) := by
      have := index_up ⟨(n / 16 ^ (d - 1 - i) % 16).toNat, by omega⟩
      rwa [show (((n / 16 ^ (d - 1 - i) % 16).toNat : Nat) : Int) = n / 16 ^ (d - 1 - i) % 16 by omega] at this
    refine Tot.step (fun k => impl_valueOf.l0.eq_2 _ _ _ _ _ k) (Tot.yes (by omega) (Tot.yes (by omega) (Tot.yes (by omega) ?_)))
    rw [eb]
    refine Tot.bind (Tot.of ix rfl) ?_
    rintro _ rfl
    refine Tot.no (by omega) (Tot.no (by omega) ?_)
    have ed : (DIG.size : Int) = 16 := rfl
    rw [ed, w64_in (n := n / 16 ^ (d - i) * 16) (by omega) (by omega), w64_in (n := n / 16 ^ (d - i) * 16 + n / 16 ^ (d - 1 - i) % 16) (by omega) (by omega), w64_in (n := (i : Int) + 1) (by omega) (by omega)]
    have := ih (i + 1) (by omega)
    rw [show d - (i + 1) = d - 1 - i by omega] at this
    rw [show n / 16 ^ (d - i) * 16 + n / 16 ^ (d - 1 - i) % 16 = n / 16 ^ (d - 1 - i) by omega]
    exact this
theorem value_T (n : Int) (hn0 : 0 ≤ n) (hn1 : n ≤ 65535) (d : Nat) (h1 : 1 ≤ d) (h4 : d ≤ 4) (hlt : n < 16 ^ d) : Tot (fun k => impl_valueOf.f k (strOfNums (hexUp n d)) DIG) (· = (n, true)) := by
  have h := value_loop n hn0 hn1 d h1 h4 hlt d 0 (by omega)
  rw [Nat.sub_zero, Int.ediv_eq_zero_of_lt hn0 hlt] at h
  unfold impl_valueOf.f
  rw [strOfNums_size, hexUp_length]
  exact h
theorem str_first (x : Int) (L : List Int) : (strOfNums (x :: L)).extract 0 1 = strOfNums [x] := by
  apply ByteArray.ext
  rw [ByteArray.data_extract]
  apply Array.ext'
  rw [Array.toList_extract, strOfNums_data, strOfNums_data, List.extract_eq_take_drop]
  simp
theorem str_rest (x : Int) (L : List Int) : (strOfNums (x :: L)).extract 1 (strOfNums (x :: L)).size = strOfNums L := by
  apply ByteArray.ext
  rw [ByteArray.data_extract]
  apply Array.ext'
  rw [Array.toList_extract, strOfNums_data, strOfNums_data, List.extract_eq_take_drop, strOfNums_size, List.map_cons, List.drop_succ_cons, List.drop_zero, List.take_of_length_le (by rw [List.length_map, List.length_cons]; omega)]
theorem dollar (L : List Int) : strings_HasPrefix.f (strOfNums (36 :: L)) (⟨#[36]⟩ : ByteArray) = some true := by
  unfold strings_HasPrefix.f stringslite_HasPrefix.f
  have e1 : ((⟨#[36]⟩ : ByteArray).size : Int) = 1 := rfl
  rw [e1, strOfNums_size, if_pos (by rw [List.length_cons]; omega), if_pos (by decide), if_pos (by rw [List.length_cons]; omega), Option.bind_some]
  rw [show (1 : Int).toNat = 1 from rfl, str_first, ByteArray.toList_eq, ByteArray.toList_eq, strOfNums_data]
  rfl
theorem readNum_T (n : Int) (hn0 : 0 ≤ n) (hn1 : n ≤ 65535) (d : Nat) (h1 : 1 ≤ d) (h4 : d ≤ 4) (hlt : n < 16 ^ d) : Tot (fun k => impl_ReadNum.f k (strOfNums (36 :: hexUp n d))) (· = (n, true)) := by
  unfold impl_ReadNum.f
  have hz : ((strOfNums (36 :: hexUp n d)).size : Int) = d + 1 := by rw [strOfNums_size, List.length_cons, hexUp_length]; rfl
  refine Tot.no (by omega) ?_
  refine Tot.bind (Tot.of (dollar _) rfl) ?_
  rintro _ rfl
  refine Tot.yes rfl (Tot.yes (by omega) ?_)
  rw [str_rest]
  refine Tot.bind (value_T n hn0 hn1 d h1 h4 hlt) ?_
  rintro _ rfl
  exact Tot.step (fun k => impl_ReadNum.j0.eq_2 _ _ k) (Tot.yes rfl (Tot.ret rfl))
theorem drawH_T {l : List Int} (hl : l.length ≤ 1048576) (hb : ∀ x ∈ l, 0 ≤ x ∧ x ≤ 255) : Tot (fun k => spec_DrawHexOf.f k l) (fun _ => True) := by
  obtain ⟨e0, hr⟩ := open_tot hl hb
  unfold spec_DrawHexOf.f
  refine Tot.bind (Tot.of e0 rfl) ?_
  rintro _ rfl
  refine Tot.bind (off_T hr 0 65535 (by decide) (by decide)) fun a ha => ?_
  refine Tot.bind (once_T ha 2) fun b hb => ?_
  refine Tot.ite (fun _ => ?_) (fun _ => ?_)
  · refine Tot.bind (below_T hb 300) fun c hc => ?_
    exact Tot.bind (off_T hc.2.2 1 4 (by decide) (by decide)) fun d hd => Tot.ret trivial
  · exact Tot.bind (off_T hb 1 4 (by decide) (by decide)) fun d hd => Tot.ret trivial
theorem FnHex : laws_FnHex.Pure := by
  intro l _ _ hw
  refine Tot.done ?_
  unfold laws_FnHex.f laws_big.f
  refine Tot.bind (Tot.of rfl rfl) ?_
  rintro _ rfl
  refine Tot.ite (fun _ => Tot.ret rfl) (fun hbig => ?_)
  refine Tot.bind (drawH_T (l := l) (by simp at hbig; omega) (bytes_wf hw)) fun c _ => ?_
  obtain ⟨n, d⟩ := c
  dsimp only
  refine Tot.bind (hexI_T n d) ?_
  rintro _ rfl
  refine Tot.bind (hexS_T n d) ?_
  rintro _ rfl
  refine Tot.yes rfl ?_
  by_cases h : (1 ≤ d ∧ d ≤ 4) ∧ (0 ≤ n ∧ n ≤ 65535) ∧ n < 16 ^ d.toNat
  · have e : hexV n d = strOfNums (36 :: hexUp n d.toNat) := by rw [hexV, if_pos h]
    obtain ⟨hd, hn, hlt⟩ := h
    have hz : ((strOfNums (36 :: hexUp n d.toNat)).size : Int) = d + 1 := by rw [strOfNums_size, List.length_cons, hexUp_length]; omega
    refine Tot.step (fun k => laws_FnHex.j0.eq_2 _ _ _ _ k) (Tot.no ?_ ?_)
    · intro e2
      have := (nil_size _).1 (eq_of_beq e2)
      rw [e] at this
      omega
    rw [e]
    refine Tot.bind (readNum_T n hn.1 hn.2 d.toNat (by omega) (by omega) hlt) ?_
    rintro _ rfl
    refine Tot.yes rfl (Tot.yes rfl (Tot.ret ?_))
    rw [hz, w64_in (n := d + 1) (by omega) (by omega)]
    simp
  · refine Tot.step (fun k => laws_FnHex.j0.eq_2 _ _ _ _ k) (Tot.yes ?_ ?_)
    · rw [hexV_none h, (nil_size _).2 rfl]; rfl
    refine Tot.bind (hexS_T n d) ?_
    rintro _ rfl
    exact Tot.ret (by simp)

end Go.Proofs.YtodlnnoekccmmaaDoor.Pure
