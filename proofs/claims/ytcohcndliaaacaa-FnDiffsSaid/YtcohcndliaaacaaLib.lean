/- General lemmas about numbers: Go's int64 wrap and bit masks in plain integers. No conditions beyond those that each lemma states. -/
import Derived.RowKit
import Derived.Laws.BitsLemmas
namespace Go.Proofs.Ytcohcndliaaacaa.Lib
open Go.RowKit

theorem w64_in {n : Int} (h0 : -9223372036854775808 ≤ n) (h1 : n ≤ 9223372036854775807) : wrap64 n = n := by
  unfold wrap64; omega

theorem w64_eq (n : Int) : wrap64 n = (n + 9223372036854775808) % 18446744073709551616 - 9223372036854775808 := rfl

theorem u64_in {n : Int} (h0 : 0 ≤ n) (h1 : n ≤ 18446744073709551615) : IntKind.u64.wrap n = n := by
  simp [IntKind.wrap, IntKind.bits, IntKind.signed]; omega

theorem i64_wrap (n : Int) : IntKind.i64.wrap n = wrap64 n := IntKind.wrap_i64 n

/-- 'x & (2^i - 1)' is the rest modulo 2^i, of whatever number. -/
theorem and_mask (x : Int) (i : Nat) (hi : i < 64) : Go.bits .and .i64 x (2 ^ i - 1) = x % 2 ^ i := by
  have hp : 0 < 2 ^ i := Nat.two_pow_pos i
  have hm : ((2 : Int) ^ i - 1) = ((2 ^ i - 1 : Nat) : Int) := by
    rw [Int.natCast_sub hp]; simp
  have hlt : 2 ^ i - 1 < 2 ^ 64 := Nat.lt_of_lt_of_le (Nat.sub_lt hp (by decide)) (Nat.pow_le_pow_right (by decide) (by omega))
  have hle : (2 : Nat) ^ i ≤ 2 ^ 63 := Nat.pow_le_pow_right (by decide) (by omega)
  have hd : (2 : Nat) ^ i ∣ 2 ^ 64 := Nat.pow_dvd_pow 2 (by omega)
  rw [hm]
  have hb : IntKind.i64.bits = 64 := rfl
  simp only [Go.bits, BitVec.ofInt_natCast, BitVec.toNat_and, BitVec.toNat_ofNat, BitVec.toNat_ofInt]
  rw [hb, Nat.mod_eq_of_lt hlt, Nat.and_two_pow_sub_one_eq_mod]
  have h1 : (x % ((2 ^ 64 : Nat) : Int)).toNat % 2 ^ i = (x % 2 ^ i).toNat := by
    have hx : 0 ≤ x % ((2 ^ 64 : Nat) : Int) := Int.emod_nonneg _ (by decide)
    have hy : (0 : Int) < 2 ^ i := by exact_mod_cast hp
    have hz : 0 ≤ x % 2 ^ i := Int.emod_nonneg _ (by omega)
    apply Int.ofNat_inj.mp
    rw [Int.natCast_emod, Int.toNat_of_nonneg hx, Int.toNat_of_nonneg hz]
    have hdd : ((2 ^ i : Nat) : Int) ∣ ((2 ^ 64 : Nat) : Int) := Int.natCast_dvd_natCast.mpr hd
    rw [Int.emod_emod_of_dvd _ hdd]
    simp
  rw [h1]
  have hy : (0 : Int) < 2 ^ i := by exact_mod_cast hp
  have hz : 0 ≤ x % 2 ^ i := Int.emod_nonneg _ (by omega)
  have hz1 : x % 2 ^ i < 2 ^ i := Int.emod_lt_of_pos _ hy
  have hle' : (2 : Int) ^ i ≤ 2 ^ 63 := by exact_mod_cast hle
  rw [Int.toNat_of_nonneg hz, i64_wrap, w64_in (by omega) (by omega)]

theorem and255 (x : Int) : Go.bits .and .i64 x 255 = x % 256 := and_mask x 8 (by decide)
theorem and15 (x : Int) : Go.bits .and .i64 x 15 = x % 16 := and_mask x 4 (by decide)
theorem and4095 (x : Int) : Go.bits .and .i64 x 4095 = x % 4096 := and_mask x 12 (by decide)
theorem and65535 (x : Int) : Go.bits .and .i64 x 65535 = x % 65536 := and_mask x 16 (by decide)
theorem and1 (x : Int) : Go.bits .and .i64 x 1 = x % 2 := and_mask x 1 (by decide)

theorem tmod_pos {x : Int} (n : Int) (h : 0 ≤ x) : Int.tmod x n = x % n := by
  rw [Int.tmod_eq_emod, if_pos (Or.inl h)]; omega
theorem tdiv_pos {x : Int} (n : Int) (h : 0 ≤ x) : Int.tdiv x n = x / n := by
  rw [Int.tdiv_eq_ediv, if_pos (Or.inl h)]; omega

theorem i64_big (n : Int) (h0 : 0 ≤ n) (h1 : n < 2 ^ 62) : IntKind.i64.wrap n = n := by
  rw [i64_wrap, w64_in (by omega) (by omega)]
theorem bits_xor (a b : Nat) (ha : a < 2 ^ 62) (hb : b < 2 ^ 62) : Go.bits .xor .i64 (a : Int) (b : Int) = ((a ^^^ b : Nat) : Int) := by
  have hp : 2 ^ 62 ≤ 2 ^ 64 := by decide
  have hbits : IntKind.i64.bits = 64 := rfl
  simp only [Go.bits, BitVec.ofInt_natCast, BitVec.toNat_xor, BitVec.toNat_ofNat]
  rw [hbits, Nat.mod_eq_of_lt (Nat.lt_of_lt_of_le ha hp), Nat.mod_eq_of_lt (Nat.lt_of_lt_of_le hb hp)]
  exact i64_big _ (Int.natCast_nonneg _) (by exact_mod_cast Nat.xor_lt_two_pow ha hb)
theorem bits_and (a b : Nat) (ha : a < 2 ^ 62) (hb : b < 2 ^ 62) : Go.bits .and .i64 (a : Int) (b : Int) = ((a &&& b : Nat) : Int) :=
  (bits_nat .i64 62 (by decide) i64_big a b ha hb).1
theorem bits_or (a b : Nat) (ha : a < 2 ^ 62) (hb : b < 2 ^ 62) : Go.bits .or .i64 (a : Int) (b : Int) = ((a ||| b : Nat) : Int) :=
  (bits_nat .i64 62 (by decide) i64_big a b ha hb).2
theorem xor_zero {a b : Int} (a0 : 0 ≤ a) (a1 : a < 2 ^ 62) (b0 : 0 ≤ b) (b1 : b < 2 ^ 62) : Go.bits .xor .i64 a b = 0 ↔ a = b := by
  obtain ⟨m, rfl⟩ := Int.eq_ofNat_of_zero_le a0
  obtain ⟨n, rfl⟩ := Int.eq_ofNat_of_zero_le b0
  rw [bits_xor m n (by exact_mod_cast a1) (by exact_mod_cast b1)]
  constructor
  · intro h
    have h2 : m ^^^ n = 0 := by exact_mod_cast h
    have : m = n := by
      apply Nat.eq_of_testBit_eq
      intro i
      have h3 : (m ^^^ n).testBit i = false := by rw [h2]; simp
      rw [Nat.testBit_xor] at h3
      cases hm : m.testBit i <;> cases hn : n.testBit i <;> simp_all
    rw [this]
  · intro h
    have : m = n := by exact_mod_cast h
    rw [this]; simp
theorem nat_and_xor (a b : Nat) (ha : a < 2 ^ 62) (hb : b < 2 ^ 62) : (a &&& b) + (a ^^^ b) = a ||| b := by
  have e : (BitVec.ofNat 64 a &&& BitVec.ofNat 64 b) + (BitVec.ofNat 64 a ^^^ BitVec.ofNat 64 b) = BitVec.ofNat 64 a ||| BitVec.ofNat 64 b := by
    rw [BitVec.add_eq_or_of_and_eq_zero]
    · ext i hi
      simp
      cases (BitVec.ofNat 64 a)[i] <;> cases (BitVec.ofNat 64 b)[i] <;> rfl
    · ext i hi
      simp
      cases (BitVec.ofNat 64 a)[i] <;> cases (BitVec.ofNat 64 b)[i] <;> decide
  have h2 := congrArg BitVec.toNat e
  have h64 : (2 : Nat) ^ 62 + 2 ^ 62 ≤ 2 ^ 64 := by decide
  have hp : (2 : Nat) ^ 62 ≤ 2 ^ 64 := by decide
  have l1 : a &&& b < 2 ^ 62 := Nat.and_lt_two_pow _ hb
  have l2 : a ^^^ b < 2 ^ 62 := Nat.xor_lt_two_pow ha hb
  simp only [BitVec.toNat_add, BitVec.toNat_and, BitVec.toNat_xor, BitVec.toNat_or, BitVec.toNat_ofNat] at h2
  rw [Nat.mod_eq_of_lt (Nat.lt_of_lt_of_le ha hp), Nat.mod_eq_of_lt (Nat.lt_of_lt_of_le hb hp), Nat.mod_eq_of_lt (by omega)] at h2
  exact h2
theorem and_xor_or {a b : Int} (a0 : 0 ≤ a) (a1 : a ≤ 255) (b0 : 0 ≤ b) (b1 : b ≤ 255) :
    Go.bits .and .i64 a b + Go.bits .xor .i64 a b = Go.bits .or .i64 a b ∧ 0 ≤ Go.bits .and .i64 a b ∧ 0 ≤ Go.bits .xor .i64 a b ∧ Go.bits .or .i64 a b ≤ 255 := by
  obtain ⟨m, rfl⟩ := Int.eq_ofNat_of_zero_le a0
  obtain ⟨n, rfl⟩ := Int.eq_ofNat_of_zero_le b0
  have hm : m < 2 ^ 62 := by omega
  have hn : n < 2 ^ 62 := by omega
  rw [bits_and m n hm hn, bits_xor m n hm hn, bits_or m n hm hn]
  have h := nat_and_xor m n hm hn
  have hl : m ||| n < 2 ^ 8 := Nat.or_lt_two_pow (by omega) (by omega)
  refine ⟨by exact_mod_cast h, Int.natCast_nonneg _, Int.natCast_nonneg _, ?_⟩
  omega

end Go.Proofs.Ytcohcndliaaacaa.Lib
