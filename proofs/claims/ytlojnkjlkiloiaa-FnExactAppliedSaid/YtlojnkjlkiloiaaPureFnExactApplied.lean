/- The program's Applied and the reference's answer alike, for all texts. The only conditions are the row's own: the texts take no more bytes than a string can. -/
import Derived.Test.YtlojnkjlkiloiaaQFnExactAppliedx4
import Derived.Test.YtlojnkjlkiloiaaLib
import Derived.Test.YtlojnkjlkiloiaaLibX
namespace Go.Proofs.Ytlojnkjlkiloiaa.Pure
open Go.RowKit Go.Proofs.Ytlojnkjlkiloiaa.QFnExactApplied Go.Proofs.YtlojnkjlkiloiaaW.PrintWords Go.Proofs.YtlojnkjlkiloiaaW.PrintLast Go.Proofs.Ytlojnkjlkiloiaa.Lib Go.Proofs.Ytlojnkjlkiloiaa.LibX
set_option linter.unusedSimpArgs false
set_option linter.unusedVariables false

theorem bt_range (a : ByteArray) (i : Int) : 0 ≤ bt a i ∧ bt a i < 256 := by
  unfold bt
  split
  · rename_i h
    have := (a[i.toNat]'h).toNat_lt
    omega
  · omega

/-- The number that the first i bytes tell, the high one first. -/
def big (a : ByteArray) : Nat → Int
  | 0 => 0
  | i + 1 => 256 * big a i + bt a i
theorem big_range (a : ByteArray) : ∀ i, 0 ≤ big a i ∧ big a i < 256 ^ i
  | 0 => by simp [big]
  | i + 1 => by
    have := big_range a i; have hb := bt_range a i
    simp only [big, Int.pow_succ]
    omega
theorem big_lt (a : ByteArray) (i : Nat) (hi : i ≤ 3) : 0 ≤ big a i ∧ big a i < 16777216 := by
  have h := big_range a i
  have h2 : i = 0 ∨ i = 1 ∨ i = 2 ∨ i = 3 := by omega
  rcases h2 with h2 | h2 | h2 | h2 <;> subst h2 <;> omega
theorem or_byte {x b : Int} (hx : 0 ≤ x) (hx1 : x < 16777216) (hb : 0 ≤ b) (hb1 : b < 256) : Go.bits .or .i64 (x * 256) b = 256 * x + b := by
  obtain ⟨m, rfl⟩ := Int.eq_ofNat_of_zero_le hx
  obtain ⟨n, rfl⟩ := Int.eq_ofNat_of_zero_le hb
  have := bits_or (m * 256) n (by omega) (by omega)
  rw [show ((m : Int) * 256) = ((m * 256 : Nat) : Int) by omega, this]
  have h2 : 2 ^ 8 * m + n = 2 ^ 8 * m ||| n := Nat.two_pow_add_eq_or_of_lt (by omega) m
  rw [show m * 256 ||| n = 2 ^ 8 * m + n by rw [h2, Nat.mul_comm]]
  omega
theorem bigOf_l0 (a : ByteArray) (ha : a.size ≤ 3) : ∀ (k i : Nat), i ≤ a.size → a.size - i < k → impl_bigOf.l0 k a (big a i) (a.size : Int) (i : Int) = some (big a a.size)
  | 0, i, _, h => by omega
  | k + 1, i, hi, h => by
    unfold impl_bigOf.l0
    by_cases hc : (i : Int) < (a.size : Int)
    · have hb := bt_range a i; have hg := big_lt a i (by omega)
      rw [if_pos hc, if_pos (by omega), if_pos hc, w64_in (n := big a i * 256) (by omega) (by omega), w64_in (n := bt a i) (by omega) (by omega), or_byte hg.1 hg.2 hb.1 hb.2, w64_in (n := (i : Int) + 1) (by omega) (by omega)]
      have := bigOf_l0 a ha k (i + 1) (by omega) (by omega)
      simpa only [big, Int.natCast_add, Int.natCast_one] using this
    · rw [if_neg hc, show i = a.size by omega]
theorem bigOf_eq (a : ByteArray) (ha : a.size ≤ 3) (k : Nat) (hk : a.size < k) : impl_bigOf.f k a = some (big a a.size) := by
  unfold impl_bigOf.f
  exact bigOf_l0 a ha k 0 (by omega) (by omega)
theorem read_l0 (a : ByteArray) (ha : a.size ≤ 3) : ∀ (k i : Nat), i ≤ a.size → a.size - i < k → spec_l14Read.l0 k a (big a i) (i : Int) = some (big a a.size)
  | 0, i, _, h => by omega
  | k + 1, i, hi, h => by
    unfold spec_l14Read.l0
    by_cases hc : (i : Int) < (a.size : Int)
    · have hb := bt_range a i; have hg := big_lt a i (by omega)
      rw [if_pos hc, if_pos (by omega), w64_in (n := 256 * big a i) (by omega) (by omega), w64_in (n := bt a i) (by omega) (by omega), w64_in (n := 256 * big a i + bt a i) (by omega) (by omega), w64_in (n := (i : Int) + 1) (by omega) (by omega)]
      have := read_l0 a ha k (i + 1) (by omega) (by omega)
      simpa only [big, Int.natCast_add, Int.natCast_one] using this
    · rw [if_neg hc, show i = a.size by omega]
theorem read_eq (a : ByteArray) (ha : a.size ≤ 3) (k : Nat) (hk : a.size < k) : spec_l14Read.f k a = some (big a a.size) := by
  unfold spec_l14Read.f
  exact read_l0 a ha k 0 (by omega) (by omega)

/-- Both loops stand at the same place of what is told, with the same put in: they end alike. -/
theorem loops (d : ByteArray) (hd : d.size ≤ 80000) (hd6 : 10 ≤ d.size) (size : Int) (hs0 : 0 ≤ size) (hs : size ≤ 20000) :
    ∀ (n at_ k1 k2 : Nat) (xs : List Int) (last : Int), xs.length = size.toNat → 0 ≤ last → 4 ≤ at_ → at_ ≤ d.size - 6 → d.size - 6 - at_ ≤ n → n + 8 ≤ k1 → n + 8 ≤ k2 →
      ∃ r, spec_Applied.l0 k1 d ((d.size : Int) - 6) size xs last (at_ : Int) = some r ∧ impl_Applied.l0 k2 (d.extract at_ (d.size - 6)) size xs last = some r := by
  intro n
  induction n with
  | zero =>
    intro at_ k1 k2 xs last hx hl h0 h1 h2 h3 h4
    obtain ⟨k1, rfl⟩ : ∃ q, k1 = q + 1 := ⟨k1 - 1, by omega⟩
    obtain ⟨k2, rfl⟩ : ∃ q, k2 = q + 1 := ⟨k2 - 1, by omega⟩
    have he : (d.extract at_ (d.size - 6)).toList = [] := by
      have : d.extract at_ (d.size - 6) = ByteArray.empty := by
        rw [ByteArray.extract_eq_empty_iff]; omega
      rw [this]; exact ByteArray.toList_empty
    unfold spec_Applied.l0 impl_Applied.l0
    rw [if_neg (by omega), if_pos he]
    exact ⟨_, rfl, rfl⟩
  | succ n ih =>
    intro at_ k1 k2 xs last hx hl h0 h1 h2 h3 h4
    obtain ⟨k1, rfl⟩ : ∃ q, k1 = q + 1 := ⟨k1 - 1, by omega⟩
    obtain ⟨k2, rfl⟩ : ∃ q, k2 = q + 1 := ⟨k2 - 1, by omega⟩
    have hsz : (d.extract at_ (d.size - 6)).size = d.size - 6 - at_ := by rw [ByteArray.size_extract]; omega
    by_cases hc : (at_ : Int) < (d.size : Int) - 6
    · unfold spec_Applied.l0 impl_Applied.l0
      have he : ¬ (d.extract at_ (d.size - 6)).toList = [] := by
        intro h
        have := congrArg List.length h
        rw [ByteArray.toList_eq, Array.length_toList, ByteArray.size_data, hsz] at this
        simp at this
        omega
      rw [if_pos hc, if_neg he, hsz, w64_in (n := (d.size : Int) - 6 - at_) (by omega) (by omega)]
      by_cases h5 : ((d.size - 6 - at_ : Nat) : Int) < 5
      · rw [if_pos h5, if_pos (by omega)]
        exact ⟨_, rfl, rfl⟩
      · rw [if_neg h5]
        have e3 : ∀ _ : Unit, wrap64 ((at_ : Int) + 3) = ((at_ + 3 : Nat) : Int) := fun _ => by rw [w64_in (by omega) (by omega)]; omega
        have e5 : ∀ _ : Unit, wrap64 ((at_ : Int) + 5) = ((at_ + 5 : Nat) : Int) := fun _ => by rw [w64_in (by omega) (by omega)]; omega
        have x3 : (d.extract at_ (d.size - 6)).extract 0 3 = d.extract at_ (at_ + 3) := by rw [ByteArray.extract_extract]; congr 1; omega
        have x5 : (d.extract at_ (d.size - 6)).extract 3 5 = d.extract (at_ + 3) (at_ + 5) := by rw [ByteArray.extract_extract]; congr 1; omega
        have s3 : (d.extract at_ (at_ + 3)).size = 3 := by rw [ByteArray.size_extract]; omega
        have s5 : (d.extract (at_ + 3) (at_ + 5)).size = 2 := by rw [ByteArray.size_extract]; omega
        have x55 : (d.extract at_ (d.size - 6)).extract 5 (d.size - 6 - at_) = d.extract (at_ + 5) (d.size - 6) := by rw [ByteArray.extract_extract]; congr 1; omega
        have s55 : (d.extract (at_ + 5) (d.size - 6)).size = d.size - 6 - (at_ + 5) := by rw [ByteArray.size_extract]; omega
        have g3 := big_lt (d.extract at_ (at_ + 3)) 3 (by omega)
        have g5 := big_lt (d.extract (at_ + 3) (at_ + 5)) 2 (by omega)
        have r1 := bigOf_eq (d.extract at_ (at_ + 3)) (by omega) k2 (by omega)
        have r2 := bigOf_eq (d.extract (at_ + 3) (at_ + 5)) (by omega) k2 (by omega)
        have r3 := read_eq (d.extract at_ (at_ + 3)) (by omega) k1 (by omega)
        have r4 := read_eq (d.extract (at_ + 3) (at_ + 5)) (by omega) k1 (by omega)
        rw [s3] at r1 r3
        rw [s5] at r2 r4
        generalize big (d.extract at_ (at_ + 3)) 3 = from_ at r1 r3 g3
        generalize big (d.extract (at_ + 3) (at_ + 5)) 2 = m at r2 r4 g5
        simp only [x3, x5, x55, s55, r1, r2, Option.bind_some, e3 (), e5 (), Int.toNat_natCast, r3, r4]
        rw [if_pos (show 0 ≤ 3 by decide), if_pos (show (3 : Int) ≤ ((d.size - 6 - at_ : Nat) : Int) by omega), if_pos (show 3 ≤ 5 by decide), if_pos (show (5 : Int) ≤ ((d.size - 6 - at_ : Nat) : Int) by omega)]
        by_cases h6 : (d.size : Int) - 6 - at_ < 6
        · rw [if_pos h6]
          refine ⟨_, rfl, ?_⟩
          by_cases m0 : m = 0
          · rw [if_pos m0]
          · rw [if_neg m0, if_pos (by omega)]
        · rw [if_neg h6, if_pos (by omega), if_pos (by omega), if_pos (by omega), if_pos (by omega), if_pos (by omega), if_pos (by omega)]
          by_cases m0 : m = 0
          · rw [if_pos m0, if_pos m0]
            exact ⟨_, rfl, rfl⟩
          · rw [if_neg m0, if_neg m0, w64_in (n := (d.size : Int) - 6 - at_ - 5) (by omega) (by omega)]
            by_cases m1 : (d.size : Int) - 6 - at_ - 5 < m
            · rw [if_pos m1, if_pos (by omega)]
              exact ⟨_, rfl, rfl⟩
            · rw [if_neg m1, if_neg (show ¬ m > ((d.size - 6 - (at_ + 5) : Nat) : Int) by omega)]
              by_cases m2 : from_ < last
              · rw [if_pos m2, if_pos m2]
                exact ⟨_, rfl, rfl⟩
              · rw [if_neg m2, if_neg m2, w64_in (n := from_ + m) (by omega) (by omega)]
                by_cases m3 : from_ + m > size
                · rw [if_pos m3, if_pos m3]
                  exact ⟨_, rfl, rfl⟩
                · obtain ⟨j, rfl⟩ := Int.eq_ofNat_of_zero_le g5.1
                  obtain ⟨fr, rfl⟩ := Int.eq_ofNat_of_zero_le g3.1
                  have e6 : ∀ _ : Unit, wrap64 (((at_ + 5 : Nat) : Int) + (j : Int)) = ((at_ + 5 + j : Nat) : Int) := fun _ => by rw [w64_in (by omega) (by omega)]; omega
                  have c1 : (d.extract (at_ + 5) (d.size - 6)).extract 0 j = d.extract (at_ + 5) (at_ + 5 + j) := by rw [ByteArray.extract_extract]; congr 1; omega
                  have c2 : (d.extract (at_ + 5) (d.size - 6)).extract j (d.size - 6 - (at_ + 5)) = d.extract (at_ + 5 + j) (d.size - 6) := by rw [ByteArray.extract_extract]; congr 1; omega
                  obtain ⟨r, hr1, hr2⟩ := ih (at_ + 5 + j) k1 k2 (cpy xs fr (xs.length - fr) (bytesOf (d.extract (at_ + 5) (at_ + 5 + j)))) ((fr : Int) + (j : Int)) (by rw [cpy_length (by omega), hx]) (by omega) (by omega) (by omega) (by omega) (by omega) (by omega)
                  refine ⟨r, ?_, ?_⟩
                  · rw [if_neg m3, if_pos (by omega), if_pos (by omega), if_pos (by omega), e6 (), if_pos (by omega), if_pos (by omega)]
                    simpa only [Int.toNat_natCast] using hr1
                  · rw [if_neg m3, if_pos (by omega), if_pos (by omega), if_pos (by omega), if_pos (by omega)]
                    simpa only [Int.toNat_natCast, c1, c2] using hr2
    · have he : (d.extract at_ (d.size - 6)).toList = [] := by
        have : d.extract at_ (d.size - 6) = ByteArray.empty := by
          rw [ByteArray.extract_eq_empty_iff]; omega
        rw [this]; exact ByteArray.toList_empty
      unfold spec_Applied.l0 impl_Applied.l0
      rw [if_neg hc, if_pos he]
      exact ⟨_, rfl, rfl⟩

theorem prefix_eq (d : ByteArray) (h : 4 ≤ d.size) : strings_HasPrefix.f d (⟨#[68, 73, 70, 70]⟩ : ByteArray) = some ((d.extract 0 4).toList == ([68, 73, 70, 70] : List UInt8)) := by
  have hs : (⟨#[68, 73, 70, 70]⟩ : ByteArray).size = 4 := rfl
  have ht : (⟨#[68, 73, 70, 70]⟩ : ByteArray).toList = ([68, 73, 70, 70] : List UInt8) := by rw [ByteArray.toList_eq]
  unfold strings_HasPrefix.f stringslite_HasPrefix.f
  rw [hs, ht, if_pos (by omega), if_pos (by omega), if_pos (by omega)]
  rfl
theorem applied_both (a d : ByteArray) (hd : d.size ≤ 1048576) (k : Nat) (hk : d.size + 20 ≤ k) :
    ∃ r, spec_Applied.f k a d = some r ∧ impl_Applied.f k a d = some r := by
  obtain ⟨k, rfl⟩ : ∃ q, k = q + 1 := ⟨k - 1, by omega⟩
  have s1 : spec_Applied.j0 (k + 1) a d true = some (⟨#[]⟩, false) := by unfold spec_Applied.j0; rfl
  have s2 : impl_Applied.j0 (k + 1) a d true = some (⟨#[]⟩, false) := by unfold impl_Applied.j0; rfl
  unfold spec_Applied.f impl_Applied.f
  by_cases h1 : (a.size : Int) > 20000
  · rw [if_pos h1, if_pos h1]
    exact ⟨_, s1, s2⟩
  rw [if_neg h1, if_neg h1]
  unfold impl_within.f
  by_cases h2 : (d.size : Int) > 80000
  · rw [if_pos h2, if_pos (show (d.size : Int) ≥ 10 by omega), Option.bind_some, decide_eq_false (by omega), if_neg (by decide)]
    exact ⟨_, s1, s2⟩
  rw [if_neg h2]
  by_cases h3 : (d.size : Int) < 10
  · rw [if_pos h3, if_neg (show ¬ (d.size : Int) ≥ 10 by omega), Option.bind_some, if_neg (by decide)]
    exact ⟨_, s1, s2⟩
  rw [if_neg h3, if_pos (show (d.size : Int) ≥ 10 by omega), Option.bind_some, decide_eq_true (by omega), if_pos rfl, prefix_eq d (by omega), Option.bind_some]
  rw [if_pos (by decide), if_pos (show (4 : Int) ≤ (d.size : Int) by omega)]
  have e6 : ∀ _ : Unit, wrap64 ((d.size : Int) - 6) = ((d.size - 6 : Nat) : Int) := fun _ => by rw [w64_in (by omega) (by omega)]; omega
  have e3 : ∀ _ : Unit, wrap64 ((d.size : Int) - 3) = ((d.size - 3 : Nat) : Int) := fun _ => by rw [w64_in (by omega) (by omega)]; omega
  have e63 : ∀ _ : Unit, wrap64 (((d.size - 6 : Nat) : Int) + 3) = ((d.size - 3 : Nat) : Int) := fun _ => by rw [w64_in (by omega) (by omega)]; omega
  by_cases h4 : (d.extract 0 4).toList = ([68, 73, 70, 70] : List UInt8)
  rotate_left
  · rw [show ((d.extract 0 4).toList != ([68, 73, 70, 70] : List UInt8)) = true from bne_iff_ne.mpr h4, show ((d.extract 0 4).toList == ([68, 73, 70, 70] : List UInt8)) = false from beq_eq_false_iff_ne.mpr h4, if_neg (by decide)]
    exact ⟨_, s1, s2⟩
  rw [show ((d.extract 0 4).toList != ([68, 73, 70, 70] : List UInt8)) = false from bne_eq_false_iff_eq.mpr h4, show ((d.extract 0 4).toList == ([68, 73, 70, 70] : List UInt8)) = true from beq_iff_eq.mpr h4, if_pos rfl]
  rw [e6 (), e3 (), if_pos (by omega), if_pos (by omega), if_pos (by omega)]
  have sz3 : (d.extract (d.size - 3) d.size).size = 3 := by rw [ByteArray.size_extract]; omega
  have q1 := read_eq (d.extract (d.size - 3) d.size) (by omega) k (by omega)
  have q2 := bigOf_eq (d.extract (d.size - 3) d.size) (by omega) k (by omega)
  have g := big_lt (d.extract (d.size - 3) d.size) 3 (by omega)
  rw [sz3] at q1 q2
  generalize big (d.extract (d.size - 3) d.size) 3 = n at q1 q2 g
  rw [spec_Applied.j0]
  rw [e6 (), e63 (), if_neg (by decide), if_pos (by omega), if_pos (by omega), Int.toNat_natCast, q1, Option.bind_some, if_pos (by omega), if_pos (by omega), Int.toNat_natCast]
  obtain ⟨k, rfl⟩ : ∃ q, k = q + 1 := ⟨k - 1, by omega⟩
  have s3 : ∀ t b, spec_Applied.j1 (k + 1) a d t b true = some (⟨#[]⟩, false) := by intro t b; unfold spec_Applied.j1; rfl
  by_cases h5 : (d.extract (d.size - 6) (d.size - 3)).toList = ([69, 78, 68] : List UInt8)
  rotate_left
  · rw [show ((d.extract (d.size - 6) (d.size - 3)).toList != ([69, 78, 68] : List UInt8)) = true from bne_iff_ne.mpr h5, if_neg h5]
    exact ⟨_, s3 _ _, s2⟩
  rw [show ((d.extract (d.size - 6) (d.size - 3)).toList != ([69, 78, 68] : List UInt8)) = false from bne_eq_false_iff_eq.mpr h5, if_pos h5]
  rw [impl_Applied.j0]
  rw [e3 (), e6 (), if_neg (by decide), if_pos (by omega), if_pos (by omega), Int.toNat_natCast, q2, Option.bind_some]
  by_cases h6 : n > 20000
  · rw [if_pos h6, decide_eq_true h6]
    exact ⟨_, s3 _ _, rfl⟩
  rw [if_neg h6, decide_eq_false h6]
  rw [spec_Applied.j1]
  rw [if_neg (by decide), if_pos g.1, if_pos g.1, if_pos (by omega), if_pos (by omega), Option.bind_some, Option.bind_some, if_pos (by omega), if_pos (by omega)]
  obtain ⟨r, hr1, hr2⟩ := loops d (by omega) (by omega) n g.1 (by omega) (d.size - 6 - 4) 4 k (k + 1) (cpy (List.replicate n.toNat 0) 0 (List.replicate n.toNat (0 : Int)).length (bytesOf a)) 0
    (by rw [cpy_length (by omega), List.length_replicate]) (by omega) (by omega) (by omega) (by omega) (by omega) (by omega)
  refine ⟨r, ?_, ?_⟩
  · rw [← hr1, show ((d.size - 6 : Nat) : Int) = (d.size : Int) - 6 by omega]; rfl
  · rw [← hr2, Int.toNat_natCast]

theorem FnExactApplied : laws_FnExactApplied.Pure := by
  intro a d _ _
  refine ⟨d.size + 20, ?_⟩
  unfold laws_FnExactApplied.f
  by_cases h1 : (a.size : Int) > 1048576
  · rw [if_pos h1]
  rw [if_neg h1]
  by_cases h2 : (d.size : Int) > 1048576
  · rw [if_pos h2]
  rw [if_neg h2]
  obtain ⟨r, hr, hr2⟩ := applied_both a d (by omega) _ (Nat.le_refl _)
  rw [hr, hr2]
  simp
end Go.Proofs.Ytlojnkjlkiloiaa.Pure
