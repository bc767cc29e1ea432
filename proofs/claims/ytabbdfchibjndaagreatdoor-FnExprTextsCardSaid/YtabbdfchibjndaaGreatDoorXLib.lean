import Derived.RowKit
import Derived.Laws.BitsLemmas
namespace Go.Proofs.YtabbdfchibjndaaGreatDoor.Lib
open Go.RowKit
theorem w64_in {n:Int} (h0:-9223372036854775808 ≤ n) (h1:n ≤ 9223372036854775807):wrap64 n = n:=by
 unfold wrap64;omega
theorem u64_in {n:Int} (h0:0 ≤ n) (h1:n ≤ 18446744073709551615):IntKind.u64.wrap n = n:=by
 simp [IntKind.wrap,IntKind.bits,IntKind.signed];omega
theorem tmod_pos {x:Int} (n:Int) (h:0 ≤ x):Int.tmod x n = x % n:=by
 rw [Int.tmod_eq_emod,if_pos (Or.inl h)];omega
end Go.Proofs.YtabbdfchibjndaaGreatDoor.Lib
