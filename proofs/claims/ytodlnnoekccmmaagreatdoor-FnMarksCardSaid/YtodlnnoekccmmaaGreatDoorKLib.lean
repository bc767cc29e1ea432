import Derived.RowKit
import Derived.Laws.BitsLemmas
namespace Go.Proofs.YtodlnnoekccmmaaGreatDoor.Lib
open Go.RowKit
theorem w64_in {n:Int} (h0:-9223372036854775808 ≤ n) (h1:n ≤ 9223372036854775807):wrap64 n = n:=by
 unfold wrap64;omega
theorem u64_in {n:Int} (h0:0 ≤ n) (h1:n ≤ 18446744073709551615):IntKind.u64.wrap n = n:=by
 simp [IntKind.wrap,IntKind.bits,IntKind.signed];omega
theorem i64_wrap (n:Int):IntKind.i64.wrap n = wrap64 n:=IntKind.wrap_i64 n
theorem tmod_pos {x:Int} (n:Int) (h:0 ≤ x):Int.tmod x n = x % n:=by
 rw [Int.tmod_eq_emod,if_pos (Or.inl h)];omega
theorem tdiv_pos {x:Int} (n:Int) (h:0 ≤ x):Int.tdiv x n = x / n:=by
 rw [Int.tdiv_eq_ediv,if_pos (Or.inl h)];omega
theorem i64_big (n:Int) (h0:0 ≤ n) (h1:n < 2 ^ 62):IntKind.i64.wrap n = n:=by
 rw [i64_wrap,w64_in (by omega) (by omega)]
theorem bits_or (a b:Nat) (ha:a < 2 ^ 62) (hb:b < 2 ^ 62):Go.bits .or .i64 (a:Int) (b:Int) = ((a ||| b:Nat):Int) :=
 (bits_nat .i64 62 (by decide) i64_big a b ha hb).2
end Go.Proofs.YtodlnnoekccmmaaGreatDoor.Lib
