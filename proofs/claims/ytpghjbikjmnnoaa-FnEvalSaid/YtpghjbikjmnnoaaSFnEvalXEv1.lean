/- Whole numbers of 32 bits and those of 64. -/
import Derived.Test.YtpghjbikjmnnoaaSFnEvalLibG
import Derived.Laws.BitsLemmas
namespace Go.Proofs.Ytpghjbikjmnnoaa.XEv1
open Go.RowKit Go.Proofs.YtpghjbikjmnnoaaW.PrintWords Go.Proofs.YtpghjbikjmnnoaaW.PrintLast Go.Proofs.YtpghjbikjmnnoaaW.PrintMore
set_option linter.unusedSimpArgs false
set_option linter.unusedVariables false
/-! ### whole numbers of 32 bits within those of 64 -/
def I32 (x:Int):Prop:=-2147483648 ≤ x ∧ x ≤ 2147483647
theorem w32_in (x:Int):I32 (wrap32 x):=by unfold I32 wrap32;omega
theorem w32_id {x:Int} (h:I32 x):wrap32 x = x:=by unfold I32 at h;unfold wrap32;omega
theorem w64_id {x:Int} (h0:-9223372036854775808 ≤ x) (h1:x ≤ 9223372036854775807):wrap64 x = x:=by unfold wrap64;omega
theorem w64_32 (x:Int):wrap64 (wrap32 x) = wrap32 x:=by have:=w32_in x;exact w64_id (by have:=this.1;omega) (by have:=this.2;omega)
theorem toInt_32 (x:BitVec 32):IntKind.i32.wrap (x.toNat:Int) = x.toInt:=by
 rw [IntKind.wrap_i32,BitVec.toInt_eq_toNat_cond]
 have:=x.isLt
 split <;> omega
theorem toInt_64 (x:BitVec 64):IntKind.i64.wrap (x.toNat:Int) = x.toInt:=by
 rw [IntKind.wrap_i64,BitVec.toInt_eq_toNat_cond]
 have:=x.isLt
 split <;> omega
theorem sext {x:Int} (h:I32 x):BitVec.ofInt 64 x = BitVec.signExtend 64 (BitVec.ofInt 32 x):=by
 apply BitVec.eq_of_toInt_eq
 rw [BitVec.toInt_signExtend_of_le (by decide),BitVec.toInt_ofInt,BitVec.toInt_ofInt]
 have h1:=h.1
 have h2:=h.2
 rw [Int.bmod_eq_of_le (by simp;omega) (by simp;omega),Int.bmod_eq_of_le (by simp;omega) (by simp;omega)]
theorem in32 (x:BitVec 32):I32 x.toInt:=by
 have h1:=BitVec.le_toInt x
 have h2:=BitVec.toInt_lt (x:=x)
 simp at h1 h2
 exact ⟨by omega,by omega⟩
theorem and32 {x y:Int} (hx:I32 x) (hy:I32 y):Go.bits .and .i64 x y = Go.bits .and .i32 x y ∧ I32 (Go.bits .and .i32 x y):=by
 have e:Go.bits .and .i32 x y = (BitVec.ofInt 32 x &&& BitVec.ofInt 32 y).toInt:=toInt_32 _
 refine ⟨?_,by rw [e];exact in32 _⟩
 rw [e,show Go.bits .and .i64 x y = (BitVec.ofInt 64 x &&& BitVec.ofInt 64 y).toInt from toInt_64 _,sext hx,sext hy,← BitVec.signExtend_and,BitVec.toInt_signExtend_of_le (by decide)]
theorem or32 {x y:Int} (hx:I32 x) (hy:I32 y):Go.bits .or .i64 x y = Go.bits .or .i32 x y ∧ I32 (Go.bits .or .i32 x y):=by
 have e:Go.bits .or .i32 x y = (BitVec.ofInt 32 x ||| BitVec.ofInt 32 y).toInt:=toInt_32 _
 refine ⟨?_,by rw [e];exact in32 _⟩
 rw [e,show Go.bits .or .i64 x y = (BitVec.ofInt 64 x ||| BitVec.ofInt 64 y).toInt from toInt_64 _,sext hx,sext hy,← BitVec.signExtend_or,BitVec.toInt_signExtend_of_le (by decide)]
theorem xor32 {x y:Int} (hx:I32 x) (hy:I32 y):Go.bits .xor .i64 x y = Go.bits .xor .i32 x y ∧ I32 (Go.bits .xor .i32 x y):=by
 have e:Go.bits .xor .i32 x y = (BitVec.ofInt 32 x ^^^ BitVec.ofInt 32 y).toInt:=toInt_32 _
 refine ⟨?_,by rw [e];exact in32 _⟩
 rw [e,show Go.bits .xor .i64 x y = (BitVec.ofInt 64 x ^^^ BitVec.ofInt 64 y).toInt from toInt_64 _,sext hx,sext hy,← BitVec.signExtend_xor,BitVec.toInt_signExtend_of_le (by decide)]
theorem cnt_u {x:Int}:Go.bits .and .u32 (x % 4294967296) 31 = x % 32:=by
 have e:(BitVec.ofInt 32 (x % 4294967296) &&& BitVec.ofInt 32 31).toNat = (x % 4294967296).toNat % 32:=by
  rw [BitVec.toNat_and,BitVec.toNat_ofInt,show (BitVec.ofInt 32 31).toNat = 2 ^ 5 - 1 from rfl,Nat.and_two_pow_sub_one_eq_mod]
  show (x % 4294967296 % 4294967296).toNat % 32 = _
  rw [Int.emod_emod]
 show IntKind.u32.wrap ((BitVec.ofInt 32 (x % 4294967296) &&& BitVec.ofInt 32 31).toNat:Int) = _
 rw [e,IntKind.wrap_u32]
 omega
theorem cnt_i {x:Int}:IntKind.u64.wrap (Go.bits .and .i64 x 31) = x % 32:=by
 have e:(BitVec.ofInt 64 x &&& BitVec.ofInt 64 31).toNat = (x % 18446744073709551616).toNat % 32:=by
  rw [BitVec.toNat_and,BitVec.toNat_ofInt,show (BitVec.ofInt 64 31).toNat = 2 ^ 5 - 1 from rfl,Nat.and_two_pow_sub_one_eq_mod]
  rfl
 show IntKind.u64.wrap (IntKind.i64.wrap ((BitVec.ofInt 64 x &&& BitVec.ofInt 64 31).toNat:Int)) = _
 rw [e,IntKind.wrap_i64]
 have:∀ n,IntKind.u64.wrap n = n % 18446744073709551616:=fun n => by simp [IntKind.wrap,IntKind.bits,IntKind.signed]
 rw [this]
 omega
theorem pow_le32 {n:Nat} (h:n < 32):(2:Int) ^ n ≤ 2147483648 ∧ (1:Int) ≤ 2 ^ n:=by
 have h1:2 ^ n ≤ 2147483648:=Nat.le_trans (Nat.pow_le_pow_right (by decide) (show n ≤ 31 by omega)) (by decide)
 have h2:0 < 2 ^ n:=Nat.two_pow_pos n
 have e:((2 ^ n:Nat):Int) = 2 ^ n:=Int.natCast_pow 2 n
 rw [← e]
 omega
theorem mul_in {a b M N:Int} (ha:-M ≤ a ∧ a ≤ M) (hb:-N ≤ b ∧ b ≤ N) (hM:0 ≤ M):-(M * N) ≤ a * b ∧ a * b ≤ M * N:=by
 have hn:(a * b).natAbs = a.natAbs * b.natAbs:=Int.natAbs_mul a b
 have h1:a.natAbs ≤ M.toNat:=by omega
 have h2:b.natAbs ≤ N.toNat:=by omega
 have h3:=Nat.mul_le_mul h1 h2
 rw [← hn] at h3
 have h4:((M.toNat * N.toNat:Nat):Int) = M * N:=by
  rw [Int.natCast_mul,Int.toNat_of_nonneg hM,Int.toNat_of_nonneg (by omega)]
 omega
theorem shl_32 {a n:Int} (ha:I32 a) (h0:0 ≤ n) (h1:n < 32):wrap64 (wrap32 (shl .i64 a n)) = shl .i32 a n ∧ I32 (shl .i32 a n):=by
 have hp:=pow_le32 (n:=n.toNat) (by omega)
 have hm:=mul_in (a:=a) (b:=2 ^ n.toNat) (M:=2147483648) (N:=2147483648) ⟨by have:=ha.1;omega,by have:=ha.2;omega⟩ ⟨by omega,hp.1⟩ (by decide)
 have e1:shl .i64 a n = a * 2 ^ n.toNat:=by
  show IntKind.i64.wrap (a * 2 ^ min n.toNat 64) = _
  rw [Nat.min_eq_left (by omega),IntKind.wrap_i64]
  generalize a * 2 ^ n.toNat = m at hm ⊢
  omega
 have e2:shl .i32 a n = wrap32 (a * 2 ^ n.toNat):=by
  show IntKind.i32.wrap (a * 2 ^ min n.toNat 32) = _
  rw [Nat.min_eq_left (by omega),IntKind.wrap_i32]
  simp only [wrap32]
 rw [e1,e2,w64_32]
 exact ⟨rfl,w32_in _⟩
theorem shr_32 {a n:Int} (ha:I32 a) (h0:0 ≤ n) (h1:n < 32):shr .i64 a n = shr .i32 a n ∧ I32 (shr .i32 a n):=by
 have hp:=pow_le32 (n:=n.toNat) (by omega)
 have e1:shr .i64 a n = a / 2 ^ n.toNat:=by
  show a / 2 ^ min n.toNat 64 = _
  rw [Nat.min_eq_left (by omega)]
 have e2:shr .i32 a n = a / 2 ^ n.toNat:=by
  show a / 2 ^ min n.toNat 32 = _
  rw [Nat.min_eq_left (by omega)]
 rw [e1,e2]
 refine ⟨rfl,?_⟩
 generalize (2:Int) ^ n.toNat = q at hp ⊢
 have h3:=Int.mul_ediv_add_emod a q
 have h4:=Int.emod_nonneg a (show q ≠ 0 by omega)
 have h5:=Int.emod_lt_of_pos a (show 0 < q by omega)
 have h6:=ha.1
 have h7:=ha.2
 constructor
 ·exact Int.le_ediv_of_mul_le (by omega) (by omega)
 ·exact Int.ediv_le_of_le_mul (by omega) (by omega)
theorem tdiv_in {a b:Int} (ha:I32 a):-2147483648 ≤ Int.tdiv a b ∧ Int.tdiv a b ≤ 2147483648:=by
 have h:(Int.tdiv a b).natAbs = a.natAbs / b.natAbs:=Int.natAbs_tdiv a b
 have h2:=Nat.div_le_self a.natAbs b.natAbs
 have h3:=ha.1
 have h4:=ha.2
 omega
theorem tmod_in {a b:Int} (ha:I32 a):I32 (Int.tmod a b):=by
 have h:(Int.tmod a b).natAbs = a.natAbs % b.natAbs:=Int.natAbs_tmod a b
 have h2:=Nat.mod_le a.natAbs b.natAbs
 have h3:=ha.1
 have h4:=ha.2
 have h5:0 ≤ a → 0 ≤ Int.tmod a b:=fun h => Int.tmod_nonneg b h
 have h6:a ≤ 0 → Int.tmod a b ≤ 0:=fun h => by
  have:=Int.tmod_nonneg b (show 0 ≤ -a by omega)
  rw [Int.neg_tmod] at this
  omega
 constructor <;> omega
end Go.Proofs.Ytpghjbikjmnnoaa.XEv1
