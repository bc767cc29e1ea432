/- The program's header sum and the reference's are one number, for every rom of at most 2^20 bytes. The only condition is the row's own: the text takes no more bytes than a string can. -/
import Derived.Test.YtlojnkjlkiloiaaPFnExactHeaderSumx1
import Derived.Test.YtlojnkjlkiloiaaLib
namespace Go.Proofs.Ytlojnkjlkiloiaa.Pure
open Go.RowKit Go.Proofs.Ytlojnkjlkiloiaa.PFnExactHeaderSum Go.Proofs.YtlojnkjlkiloiaaW.PrintWords Go.Proofs.YtlojnkjlkiloiaaW.PrintLast Go.Proofs.Ytlojnkjlkiloiaa.Lib

theorem banks_eq (a : ByteArray) : spec_l5Banks.f a = impl_banksOf.f a 2 := rfl
theorem banks_some (a : ByteArray) (hs : a.size ≤ 1048576) : ∃ b, spec_l5Banks.f a = some b ∧ (b ≠ 0 → 512 ≤ a.size) := by
  have e : wrap64 ((a.size : Int) / 256) = (a.size : Int) / 256 := w64_in (by omega) (by omega)
  unfold spec_l5Banks.f spec_l1In.f
  rw [e]
  by_cases h : ((a.size : Int) % 256) = 0
  · rw [if_pos h]
    by_cases h2 : ((a.size : Int) / 256) ≥ 2
    · rw [if_pos h2]
      by_cases h3 : ((a.size : Int) / 256) ≤ 16
      · exact ⟨(a.size : Int) / 256, by simp [h3], fun _ => by omega⟩
      · exact ⟨0, by simp [h3], fun h => absurd rfl h⟩
    · rw [if_neg h2]
      exact ⟨0, by simp, fun h => absurd rfl h⟩
  · rw [if_neg h]
    exact ⟨0, rfl, fun h => absurd rfl h⟩

theorem hs_sim (a : ByteArray) (h : 77 ≤ a.size) : ∀ (k : Nat) (i x y : Int), 0 ≤ i → i ≤ 77 → -(256 * i) ≤ x → x ≤ 0 → y = x % 256 →
    spec_HeaderSum.l0 k a x i = impl_HeaderSum.l0 k a y i := by
  intro k
  induction k with
  | zero => intros; rfl
  | succ k ih =>
    intro i x y h0 h1 hx hx2 hy
    simp only [spec_HeaderSum.l0, impl_HeaderSum.l0]
    have hb := bt_range a i
    by_cases hi : i < 77
    · rw [if_pos hi, if_pos hi, if_pos h0, if_pos h0, if_pos (by omega), if_pos (by omega), and255,
        w64_in (n := bt a i) (by omega) (by omega), w64_in (n := i + 1) (by omega) (by omega), w64_in (n := x - bt a i) (by omega) (by omega),
        w64_in (n := x - bt a i - 1) (by omega) (by omega), w64_in (n := y - bt a i) (by omega) (by omega), w64_in (n := y - bt a i - 1) (by omega) (by omega)]
      exact ih (i + 1) _ _ (by omega) (by omega) (by omega) (by omega) (by omega)
    · rw [if_neg hi, if_neg hi]
      congr 1
      rw [Int.tmod_eq_emod (a := x), w64_in (by split <;> omega) (by split <;> omega), tmod_pos _ (by split <;> omega)]
      split <;> omega

theorem hs_ends (a : ByteArray) (h : 77 ≤ a.size) : ∀ (k : Nat) (i x : Int), 0 ≤ i → i ≤ 77 → 77 - i < k → ∃ r, spec_HeaderSum.l0 k a x i = some r := by
  intro k
  induction k with
  | zero => intros; omega
  | succ k ih =>
    intro i x h0 h1 hk
    simp only [spec_HeaderSum.l0]
    by_cases hi : i < 77
    · rw [if_pos hi, if_pos h0, if_pos (by omega), w64_in (n := i + 1) (by omega) (by omega)]
      exact ih _ _ (by omega) (by omega) (by omega)
    · rw [if_neg hi]
      exact ⟨_, rfl⟩

theorem FnExactHeaderSum : laws_FnExactHeaderSum.Pure := by
  intro a _
  refine ⟨100, ?_⟩
  unfold laws_FnExactHeaderSum.f
  by_cases hs : (a.size : Int) > 1048576
  · rw [if_pos hs]
  · rw [if_neg hs]
    obtain ⟨b, hb, hb2⟩ := banks_some a (by omega)
    unfold spec_HeaderSum.f impl_HeaderSum.f
    rw [← banks_eq, hb]
    simp only [Option.bind_some]
    by_cases hz : b = 0
    · simp only [if_pos hz, Option.bind_some, if_true]
    · have h5 := hb2 hz
      simp only [if_neg hz]
      rw [← hs_sim a (by omega) 100 52 0 0 (by omega) (by omega) (by omega) (by omega) (by omega)]
      obtain ⟨r, hr⟩ := hs_ends a (by omega) 100 52 0 (by omega) (by omega) (by omega)
      rw [hr]
      simp

end Go.Proofs.Ytlojnkjlkiloiaa.Pure
