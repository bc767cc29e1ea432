import Derived.RowKit
import Derived.Laws.BitsLemmas
namespace Go.Proofs.YtcohcndliaaacaaDoor.Lib
open Go.RowKit

theorem w64_in {n : Int} (h0 : -9223372036854775808 ≤ n) (h1 : n ≤ 9223372036854775807) : wrap64 n = n := by
  unfold wrap64; omega

theorem u64_in {n : Int} (h0 : 0 ≤ n) (h1 : n ≤ 18446744073709551615) : IntKind.u64.wrap n = n := by
  simp [IntKind.wrap, IntKind.bits, IntKind.signed]; omega

theorem i64_wrap (n : Int) : IntKind.i64.wrap n = wrap64 n := IntKind.wrap_i64 n

theorem and_mask (x : Int) (i : Nat) (hi : i < 64) : Go.bits .and .i64 x (2 ^ i - 1) = x % 2 ^ i := by
  have hp : 0 < 2 ^ i := Nat.two_pow_pos i
  have hm : ((2 : Int) ^ i - 1) = ((2 ^ i - 1 : Nat) : Int) := by
    rw [Int.natCast_sub hp]; simp
  have hlt : 2 ^ i - 1 < 2 ^ 64 := Nat.lt_of_lt_of_le (Nat.sub_lt hp (by decide)) (Nat.pow_le_pow_right (by decide) (by omega))
  have hle : (2 : Nat) ^ i ≤ 2 ^ 63 := Nat.pow_le_pow_right (by decide) (by omega)
  have hd : (2 : Nat) ^ i ∣ 2 ^ 64 := Nat.pow_dvd_pow 2 (by omega)
  rw [hm]
  have hb : IntKind.i64.bits = 64 := rfl
  simp only [Go.bits, BitVec.ofInt_natCast, BitVec.toNat_and, BitVec.toNat_ofNat, BitVec.toNat_ofInt]
  rw [hb, Nat.mod_eq_of_lt hlt, Nat.and_two_pow_sub_one_eq_mod]
  have h1 : (x % ((2 ^ 64 : Nat) : Int)).toNat % 2 ^ i = (x % 2 ^ i).toNat := by
    have hx : 0 ≤ x % ((2 ^ 64 : Nat) : Int) := Int.emod_nonneg _ (by decide)
    have hy : (0 : Int) < 2 ^ i := by exact_mod_cast hp
    have hz : 0 ≤ x % 2 ^ i := Int.emod_nonneg _ (by omega)
    apply Int.ofNat_inj.mp
    rw [Int.natCast_emod, Int.toNat_of_nonneg hx, Int.toNat_of_nonneg hz]
    have hdd : ((2 ^ i : Nat) : Int) ∣ ((2 ^ 64 : Nat) : Int) := Int.natCast_dvd_natCast.mpr hd
    rw [Int.emod_emod_of_dvd _ hdd]
    simp
  rw [h1]
  have hy : (0 : Int) < 2 ^ i := by exact_mod_cast hp
  have hz : 0 ≤ x % 2 ^ i := Int.emod_nonneg _ (by omega)
  have hz1 : x % 2 ^ i < 2 ^ i := Int.emod_lt_of_pos _ hy
  have hle' : (2 : Int) ^ i ≤ 2 ^ 63 := by exact_mod_cast hle
  rw [Int.toNat_of_nonneg hz, i64_wrap, w64_in (by omega) (by omega)]

theorem and255 (x : Int) : Go.bits .and .i64 x 255 = x % 256 := and_mask x 8 (by decide)
theorem and65535 (x : Int) : Go.bits .and .i64 x 65535 = x % 65536 := and_mask x 16 (by decide)
theorem tmod_pos {x : Int} (n : Int) (h : 0 ≤ x) : Int.tmod x n = x % n := by
  rw [Int.tmod_eq_emod, if_pos (Or.inl h)]; omega
theorem i64_big (n : Int) (h0 : 0 ≤ n) (h1 : n < 2 ^ 62) : IntKind.i64.wrap n = n := by
  rw [i64_wrap, w64_in (by omega) (by omega)]
theorem bits_or (a b : Nat) (ha : a < 2 ^ 62) (hb : b < 2 ^ 62) : Go.bits .or .i64 (a : Int) (b : Int) = ((a ||| b : Nat) : Int) :=
  (bits_nat .i64 62 (by decide) i64_big a b ha hb).2
end Go.Proofs.YtcohcndliaaacaaDoor.Lib
