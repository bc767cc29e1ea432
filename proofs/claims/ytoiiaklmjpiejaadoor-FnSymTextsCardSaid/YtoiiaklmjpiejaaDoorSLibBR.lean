import Derived.Test.YtoiiaklmjpiejaaDoorSWAll
import Derived.Lib.ConvBytes
import Derived.Laws.BytesArg
namespace Go.Proofs.YtoiiaklmjpiejaaDoor.LibBR
open Go.RowKit Go.Proofs.YtoiiaklmjpiejaaDoorW.PrintWords
set_option linter.unusedVariables false
set_option linter.unusedSimpArgs false
def BR (e g:Nat) (xs:List Int) (c:Nat) (W:World):Prop :=
 xs.length ≤ c ∧ ∃ cur:Array Value,W.heap[g]? = some (.cells cur e (c,c + 1)) ∧ cur.size = c ∧ cur.toList.take xs.length = nums .u8 xs
section
variable {P:Program} {e g c:Nat} {xs:List Int} {W W1:World}
theorem BR.lt (h:BR e g xs c W):g < W.heap.size:=by
 obtain ⟨_,cur,hb,_⟩:=h
 rcases Nat.lt_or_ge g W.heap.size with h' | h'
 ·exact h'
 ·simp [Array.getElem?_eq_none h'] at hb
theorem BR.below (h:BR e g xs c W) (hb:Below W.heap.size W W1):BR e g xs c W1:=by
 have hl:=h.lt
 obtain ⟨h1,cur,h2,h3⟩:=h
 exact ⟨h1,cur,(hb.block g hl).trans h2,h3⟩
theorem BR.drewN (h:BR e g xs c W) (n:Nat):BR e g xs c (W.drewN n):=h
theorem BR.cell_nat (h:BR e g xs c W) (i:Nat) (hi:i < xs.length):W.cell? ⟨g,i,none⟩ = some (.int .u8 (xs.getD i 0)):=by
 obtain ⟨h1,cur,h2,h3,h4⟩:=h
 have e1:(cur.toList.take xs.length)[i]? = (nums .u8 xs)[i]?:=by rw [h4]
 rw [List.getElem?_take_of_lt hi] at e1
 unfold World.cell?
 simp only [h2,Option.bind_some]
 rw [Array.getElem?_toList] at e1
 have e2:(nums .u8 xs)[i]? = some (.int .u8 (xs.getD i 0)):=by
  unfold nums
  rw [List.getElem?_map,List.getElem?_eq_getElem hi,List.getD_eq_getElem?_getD,List.getElem?_eq_getElem hi]
  rfl
 rw [e2] at e1
 simp [e1]
theorem BR.cell (h:BR e g xs c W) (i:Int) (h0:0 ≤ i) (hi:i < (xs.length:Int)):W.cell? ⟨g,i.toNat,none⟩ = some (.int .u8 (rd xs i)):=h.cell_nat i.toNat (by omega)
theorem BR.frozen_nat (h:BR e g xs c W) (i:Nat) (hi:i < xs.length):W.frozen? ⟨g,i,none⟩ = false:=by
 obtain ⟨h1,cur,h2,h3,h4⟩:=h
 unfold World.frozen?
 simp only [h2]
 simp
 omega
theorem BR.frozen (h:BR e g xs c W) (i:Int) (h0:0 ≤ i) (hi:i < (xs.length:Int)):W.frozen? ⟨g,i.toNat,none⟩ = false:=h.frozen_nat i.toNat (by omega)
theorem BR.string (h:BR e g xs c W) {src dst:TypeId} (hs:P.underlying src = some (.slice e)) (he:P.underlying e = some (.int .u8)) (hd:P.underlying dst = some .string) :
  (convert src dst (.slice (some ⟨g,0,none⟩) xs.length c)).run P W = .ok (.string (strOfNums xs)) W :=
 run_convert_bytes_arg W src e hs he g 0 xs.length c xs rfl (fun i hi => by rw [Nat.zero_add];exact h.cell_nat i hi) dst hd
end
end Go.Proofs.YtoiiaklmjpiejaaDoor.LibBR
