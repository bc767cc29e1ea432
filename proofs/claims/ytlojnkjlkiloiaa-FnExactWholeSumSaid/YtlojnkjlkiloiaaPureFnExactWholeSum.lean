/- The program's whole sum and the reference's are one number, for every rom of at most 2^20 bytes. The only condition is the row's own: the text takes no more bytes than a string can. -/
import Derived.Test.YtlojnkjlkiloiaaPFnExactWholeSumx1
import Derived.Test.YtlojnkjlkiloiaaLib
namespace Go.Proofs.Ytlojnkjlkiloiaa.Pure
open Go.RowKit Go.Proofs.Ytlojnkjlkiloiaa.PFnExactWholeSum Go.Proofs.YtlojnkjlkiloiaaW.PrintWords Go.Proofs.YtlojnkjlkiloiaaW.PrintLast Go.Proofs.Ytlojnkjlkiloiaa.Lib

theorem banks_eq (a : ByteArray) : spec_l5Banks.f a = impl_banksOf.f a 2 := rfl
theorem banks_some (a : ByteArray) (hs : a.size ≤ 1048576) : ∃ b, spec_l5Banks.f a = some b ∧ (b ≠ 0 → 512 ≤ a.size) := by
  have e : wrap64 ((a.size : Int) / 256) = (a.size : Int) / 256 := w64_in (by omega) (by omega)
  unfold spec_l5Banks.f spec_l1In.f
  rw [e]
  by_cases h : ((a.size : Int) % 256) = 0
  · rw [if_pos h]
    by_cases h2 : ((a.size : Int) / 256) ≥ 2
    · rw [if_pos h2]
      by_cases h3 : ((a.size : Int) / 256) ≤ 16
      · exact ⟨(a.size : Int) / 256, by simp [h3], fun _ => by omega⟩
      · exact ⟨0, by simp [h3], fun h => absurd rfl h⟩
    · rw [if_neg h2]
      exact ⟨0, by simp, fun h => absurd rfl h⟩
  · rw [if_neg h]
    exact ⟨0, rfl, fun h => absurd rfl h⟩

theorem ws_sim (a : ByteArray) (h : a.size ≤ 1048576) : ∀ (k : Nat) (i x : Int), 0 ≤ i → i ≤ a.size → 0 ≤ x → x ≤ 255 * i →
    spec_WholeSum.l0 k a x i = impl_WholeSum.l0 k a x (a.size : Int) i := by
  intro k
  induction k with
  | zero => intros; rfl
  | succ k ih =>
    intro i x h0 h1 hx hx2
    simp only [spec_WholeSum.l0, impl_WholeSum.l0]
    have hb := bt_range a i
    by_cases hi : i < (a.size : Int)
    · rw [if_pos hi, if_pos hi, w64_in (n := i + 1) (by omega) (by omega)]
      by_cases e1 : i = 78
      · rw [if_pos e1, if_pos e1]
        exact ih _ _ (by omega) (by omega) (by omega) (by omega)
      · rw [if_neg e1, if_neg e1]
        by_cases e2 : i = 79
        · rw [if_pos e2, if_pos e2]
          exact ih _ _ (by omega) (by omega) (by omega) (by omega)
        · rw [if_neg e2, if_neg e2, if_pos h0, if_pos h0, if_pos hi, w64_in (n := bt a i) (by omega) (by omega), w64_in (n := x + bt a i) (by omega) (by omega)]
          exact ih _ _ (by omega) (by omega) (by omega) (by omega)
    · rw [if_neg hi, if_neg hi, and65535, tmod_pos _ hx]

theorem ws_ends (a : ByteArray) (h : a.size ≤ 1048576) : ∀ (k : Nat) (i x : Int), 0 ≤ i → i ≤ a.size → (a.size : Int) - i < k → ∃ r, spec_WholeSum.l0 k a x i = some r := by
  intro k
  induction k with
  | zero => intros; omega
  | succ k ih =>
    intro i x h0 h1 hk
    simp only [spec_WholeSum.l0]
    by_cases hi : i < (a.size : Int)
    · rw [if_pos hi, if_pos h0, w64_in (n := i + 1) (by omega) (by omega)]
      have hn := fun y => ih (i + 1) y (by omega) (by omega) (by omega)
      split
      · exact hn _
      · split
        · exact hn _
        · exact hn _
    · rw [if_neg hi]
      exact ⟨_, rfl⟩

theorem FnExactWholeSum : laws_FnExactWholeSum.Pure := by
  intro a _
  refine ⟨a.size + 1, ?_⟩
  unfold laws_FnExactWholeSum.f
  by_cases hs : (a.size : Int) > 1048576
  · rw [if_pos hs]
  · rw [if_neg hs]
    obtain ⟨b, hb, hb2⟩ := banks_some a (by omega)
    unfold spec_WholeSum.f impl_WholeSum.f
    rw [← banks_eq, hb]
    simp only [Option.bind_some]
    by_cases hz : b = 0
    · simp only [if_pos hz, Option.bind_some, if_true]
    · simp only [if_neg hz]
      rw [← ws_sim a (by omega) _ 0 0 (by omega) (by omega) (by omega) (by omega)]
      obtain ⟨r, hr⟩ := ws_ends a (by omega) (a.size + 1) 0 0 (by omega) (by omega) (by omega)
      rw [hr]
      simp

end Go.Proofs.Ytlojnkjlkiloiaa.Pure
