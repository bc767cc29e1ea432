import Derived.Test.YtabbdfchibjndaaGreatDoorXWAll
import Derived.Test.YtabbdfchibjndaaGreatDoorXLibW
import Derived.Test.YtabbdfchibjndaaGreatDoorXShelf
import Derived.WalkKit
import Derived.Lib.Walk
import Derived.Lib.ItoaWalk
import Derived.Laws.BitsLemmas
import Derived.Lib.ConvBytes
import Derived.Laws.BytesArg
namespace Go.Proofs.YtabbdfchibjndaaGreatDoor.LibF
open Go.RowKit Go.Proofs.YtabbdfchibjndaaGreatDoorW.PrintWords
set_option linter.unusedVariables false
set_option linter.unusedSimpArgs false
def AR (t g:Nat) (xs:List Int) (W:World):Prop :=
 ∃ cur:Array Value,W.heap[g]? = some (.cells cur t (0,0)) ∧ cur.toList = nums .u8 xs
section
variable {P:Program} {t g:Nat} {xs:List Int} {W W1:World}
theorem AR.lt (h:AR t g xs W):g < W.heap.size:=by
 obtain ⟨cur,hb,_⟩:=h
 rcases Nat.lt_or_ge g W.heap.size with h' | h'
 ·exact h'
 ·simp [Array.getElem?_eq_none h'] at hb
theorem AR.cell (h:AR t g xs W) (i:Nat) (hi:i < xs.length):W.cell? ⟨g,i,none⟩ = some (.int .u8 (xs.getD i 0)):=by
 obtain ⟨cur,h2,h4⟩:=h
 unfold World.cell?
 simp only [h2,Option.bind_some]
 have e2:(nums .u8 xs)[i]? = some (.int .u8 (xs.getD i 0)):=by
  unfold nums
  rw [List.getElem?_map,List.getElem?_eq_getElem hi,List.getD_eq_getElem?_getD,List.getElem?_eq_getElem hi]
  rfl
 rw [← h4,Array.getElem?_toList] at e2
 simp [e2]
theorem AR.frozen (h:AR t g xs W) (i:Nat):W.frozen? ⟨g,i,none⟩ = false:=by
 obtain ⟨cur,h2,_⟩:=h
 exact blk_frozen h2 i
theorem AR.set_nat (h:AR t g xs W) (i:Nat) (v:Int):AR t g (xs.set i v) (W.setCell ⟨g,i,none⟩ (.int .u8 v)):=by
 obtain ⟨cur,h2,h4⟩:=h
 refine ⟨cur.setIfInBounds i (.int .u8 v),blk_set h2 i _,?_⟩
 rw [Array.toList_setIfInBounds,h4]
 unfold nums
 rw [List.map_set]
theorem AR.string (h:AR t g xs W) {src dst e:TypeId} (hs:P.underlying src = some (.slice e)) (he:P.underlying e = some (.int .u8)) (hd:P.underlying dst = some .string) (o c:Nat) (ho:o ≤ xs.length) :
  (convert src dst (.slice (some ⟨g,o,none⟩) (xs.length - o) c)).run P W = .ok (.string (strOfNums (xs.drop o))) W :=
 run_convert_bytes_arg W src e hs he g o (xs.length - o) c (xs.drop o) (by rw [List.length_drop]) (fun i hi => by
  rw [h.cell (o + i) (by omega)]
  rw [List.getD_eq_getElem?_getD,List.getD_eq_getElem?_getD,List.getElem?_drop]) dst hd
end
def hexDig (d:Nat):Int:=if d < 10 then 48 + d else 87 + d
def hexLow (n:Nat):Nat → List Int
 | 0 => []
 | k + 1 => hexDig (n / 16 ^ k % 16) :: hexLow n k
theorem hexLow_length (n k:Nat):(hexLow n k).length = k:=by
 induction k with
 | zero => rfl
 | succ k ih => rw [hexLow,List.length_cons,ih]
def hexRow (n k:Nat):List Int:=List.replicate (65 - k) 0 ++ hexLow n k
theorem hexRow_length (n k:Nat) (hk:k ≤ 65):(hexRow n k).length = 65:=by
 rw [hexRow,List.length_append,List.length_replicate,hexLow_length];omega
theorem hexRow_set (n k:Nat) (hk:k < 65):(hexRow n k).set (65 - k - 1) (hexDig (n / 16 ^ k % 16)) = hexRow n (k + 1):=by
 unfold hexRow
 obtain ⟨m,hm⟩:∃ m,65 - k = m + 1:=⟨65 - k - 1,by omega⟩
 rw [List.set_append_left _ _ (by rw [List.length_replicate];omega),hm,show 65 - (k + 1) = m by omega,List.replicate_succ',List.set_append_right _ _ (by simp),List.length_replicate,Nat.add_sub_cancel,Nat.sub_self,hexLow,List.append_assoc]
 rfl
def hexK (n:Nat):Nat:=if n < 16 then 0 else if n < 256 then 1 else if n < 4096 then 2 else 3
def hexS (n:Nat):ByteArray:=strOfNums (hexLow n (hexK n + 1))
theorem hexK_eq (n k:Nat) (hn:n < 65536) (h1:n / 16 ^ k < 16) (h2:k = 0 ∨ 16 ≤ n / 16 ^ (k - 1)):k = hexK n:=by
 unfold hexK
 have hk:k ≤ 3:=by
  rcases h2 with h2 | h2
  ·omega
  ·rcases Nat.lt_or_ge 3 k with h | h
   ·have:n / 16 ^ (k - 1) ≤ n / 16 ^ 3:=Nat.div_le_div_left (Nat.pow_le_pow_right (by omega) (by omega)) (by omega)
    omega
   ·exact h
 have:k = 0 ∨ k = 1 ∨ k = 2 ∨ k = 3:=by omega
 rcases this with rfl | rfl | rfl | rfl <;> simp at h1 h2 ⊢ <;> (repeat' split) <;> omega
def DG:ByteArray:=⟨#[48,49,50,51,52,53,54,55,56,57,97,98,99,100,101,102,103,104,105,106,107,108,109,110,111,112,113,114,115,116,117,118,119,120,121,122]⟩
theorem DG_at:∀ i:Nat,i < 16 → ∀ h:i < DG.size,((DG[i]'h).toNat:Int) = hexDig i:=by decide +kernel
theorem idx_DG {P:Program} (t:TypeId) (ht:P.underlying t = some .string) (k:IntKind) (z:Int) (i:Nat) (hz:z = (i:Int)) (hi:i < 16) (w:World) :
  (Instr.index t (.string DG) (.int k z)).run P w = .ok (.int .u8 (hexDig i)) w:=by
 subst hz
 rw [run_index_string w t DG k _ ht,dif_pos ⟨by omega,by have:DG.size = 36:=rfl;omega⟩]
 have e:((i:Int)).toNat = i:=by omega
 simp only [e]
 rw [DG_at i hi]
set_option maxHeartbeats 4000000 in
set_option maxRecDepth 100000 in
theorem tz16 (w:World) (hT:TabAt 7 Lib.deBruijn64tab w) :
  Calls Tryz.prog 105 #[.int .u64 16] w fun e w' => e = .returned (.int .i64 4) ∧ w' = w:=by
 have key:IntKind.u64.wrap (bits BinOp.and IntKind.u64 16 (IntKind.u64.wrap (-16)) * 285870213051353865) / 288230376151711744 = 15:=by decide +kernel
 have hc:w.cell? ⟨7,15,none⟩ = some (.int .u8 4):=hT 15 (by decide)
 go_enter Tryz.func105,Tryz.ntmps105
 go_wp2_with (first | go_in | simp only [key])
 go_ret
 exact ⟨rfl,rfl⟩
set_option maxHeartbeats 4000000 in
set_option maxRecDepth 100000 in
theorem formatBits16 (n:Nat) (hn:n < 65536) (w:World) (hT:TabAt 7 Lib.deBruijn64tab w) :
  Calls Tryz.prog 90 #[.slice none 0 0,.int .u64 n,.int .i64 16,.bool false,.bool false] w fun e w' => e = .returned (.tuple #[.slice none 0 0,.string (hexS n)]) ∧ Below w.heap.size w w':=by
 go_enter Tryz.func90,Tryz.ntmps90
 go_name_bytes PP hPP
 clear hPP
 go_name_bytes DD hDD
 have eDD:DD = DG:=by rw [← hDD];decide +kernel
 subst eDD
 clear hDD
 have hp:bits BinOp.and IntKind.i64 16 15 = 0:=by decide +kernel
 have h0:AR 122 w.heap.size (hexRow n 0) (w.alloc (.cells Tryz.zeroCells122 122)):=by
  refine ⟨Tryz.zeroCells122,by unfold World.alloc;exact Array.getElem?_push_size,?_⟩
  kernel_rfl
 have hb0:Below w.heap.size w (w.alloc (.cells Tryz.zeroCells122 122)):=below_alloc (Below.refl _ _) _
 go_wp2_with (first | (go_at_call 105;refine (tz16 _ ?tz).mono ?_) | go_in | simp only [hp])
 case tz => exact fun i hi => pw_cell_below hb0 (hT i hi)
 rintro e w' ⟨rfl,rfl⟩
 go_wp2
 go_loopw [1,13] (fun v1 v13 wr => ∃ k:Nat,v1 = .int .u64 ((n / 16 ^ k:Nat):Int) ∧ v13 = .int .i64 (65 - (k:Int)) ∧ Aside0 (k ≤ 3 ∧ (k = 0 ∨ 16 ≤ n / 16 ^ (k - 1))) ∧ Aside0 (AR 122 w.heap.size (hexRow n k) wr) ∧ Aside0 (Below w.heap.size w wr)) (fun v1 _ _ => (RowKit.intOf v1).toNat)
 case atStart => exact ⟨0,by simp,by simp,⟨by omega,.inl rfl⟩,⟨h0⟩,⟨hb0⟩⟩
 case round =>
  obtain ⟨k,rfl,rfl,⟨hk3,hk⟩,⟨hA⟩,⟨hB⟩⟩:=hrel
  obtain ⟨u,Hu⟩:∃ u,Aside0 (u = n / 16 ^ k):=⟨_,⟨rfl⟩⟩
  obtain ⟨j,Hj⟩:∃ j:Nat,Aside0 (j = 64 - k):=⟨_,⟨rfl⟩⟩
  have hul:u < 65536:=by rw [Hu.out];exact Nat.lt_of_le_of_lt (Nat.div_le_self _ _) hn
  have hj64:j < 65:=by have:=Hj.out;omega
  rw [← Hu.out,show (65 - (k:Int)) = (j:Int) + 1 by have:=Hj.out;omega]
  obtain ⟨x,Hx⟩:∃ x:Int,Aside0 (x = ((u % 16:Nat):Int)):=⟨_,⟨rfl⟩⟩
  have hm:bits BinOp.and IntKind.u64 (u:Int) 15 = x:=by
   rw [Hx.out,show (15:Int) = ((15:Nat):Int) from rfl,bits_and_u64_nat u 15 (by omega) (by decide),show u &&& 15 = u % 16 from Nat.and_two_pow_sub_one_eq_mod u 4]
  have hx0:0 ≤ x:=by have:=Hx.out;omega
  have hx1:x ≤ 15:=by have:=Hx.out;omega
  have hc:wr.cell? ⟨w.heap.size,j,none⟩ = some (.int .u8 ((hexRow n k).getD j 0)):=hA.cell j (by rw [hexRow_length n k (by omega)];omega)
  have hf:wr.frozen? ⟨w.heap.size,j,none⟩ = false:=hA.frozen j
  have HA:Aside0 (AR 122 w.heap.size (hexRow n k) wr):=⟨hA⟩
  have HB:Aside0 (Below w.heap.size w wr):=⟨hB⟩
  have Hk:Aside0 (k ≤ 3 ∧ (k = 0 ∨ 16 ≤ n / 16 ^ (k - 1))):=⟨hk3,hk⟩
  clear hA hB hk3 hk
  by_cases h16:16 ≤ u
  ·have hX:∀ w,(Instr.index 9 (.string DG) (.int .u64 x)).run Tryz.prog w = .ok (.int .u8 (hexDig (u % 16))) w:=idx_DG 9 Tryz.underlying9 .u64 _ _ Hx.out (Nat.mod_lt _ (by decide))
   obtain ⟨dg,Hd⟩:∃ dg,Aside0 (hexDig (u % 16) = dg):=⟨_,⟨rfl⟩⟩
   rw [Hd.out] at hX
   go_wp2_with (first | simp only [hm])
   go_roundw
   case rel =>
    have hk':k ≤ 2:=by
     rcases Nat.lt_or_ge 2 k with h | h
     ·have h3:k = 3:=by have:=Hk.out.1;omega
      have:=Hu.out
      rw [h3] at this
      omega
     ·exact h
    have e1:n / 16 ^ (k + 1) = u / 16:=by rw [Nat.pow_succ,← Nat.div_div_eq_div_mul,← Hu.out]
    refine ⟨k + 1,by rw [e1];first | rfl | go_num,by have:=Hj.out;first | (congr 1;omega) | go_num,⟨by omega,.inr (by rw [Nat.add_sub_cancel,← Hu.out];exact h16)⟩,⟨?_⟩,⟨HB.out.setCell (p:=⟨w.heap.size,j,none⟩) (Nat.le_refl _) _⟩⟩
    have hA:=HA.out.set_nat j dg
    rw [← Hd.out,Hu.out,show j = 65 - k - 1 by have:=Hj.out;omega,hexRow_set n k (by omega)] at hA
    rw [← Hd.out,Hu.out,show j = 65 - k - 1 by have:=Hj.out;omega]
    exact hA
   case measure => simp [RowKit.intOf];omega
  ·have hX:∀ w,(Instr.index 9 (.string DG) (.int .u64 (u:Int))).run Tryz.prog w = .ok (.int .u8 (hexDig u)) w:=idx_DG 9 Tryz.underlying9 .u64 _ _ rfl (by omega)
   obtain ⟨dg,Hd⟩:∃ dg,Aside0 (hexDig u = dg):=⟨_,⟨rfl⟩⟩
   rw [Hd.out] at hX
   have hA1:=HA.out.set_nat j dg
   have hAe:AR 122 w.heap.size (hexRow n (k + 1)) (wr.setCell ⟨w.heap.size,j,none⟩ (.int .u8 dg)):=by
    have e2:hexDig (n / 16 ^ k % 16) = dg:=by rw [← Hu.out,Nat.mod_eq_of_lt (by omega)];exact Hd.out
    rw [← hexRow_set n k (by have:=Hk.out.1;omega),e2,show 65 - k - 1 = j by have:=Hj.out;omega]
    exact hA1
   have hl:(hexRow n (k + 1)).length = 65:=hexRow_length n (k + 1) (by have:=Hk.out.1;omega)
   have hcv:=AR.string (P:=Tryz.prog) hAe (src:=22) (dst:=9) (e:=5) Tryz.underlying22 Tryz.underlying5 Tryz.underlying9 j (65 - j) (by omega)
   have hs:strOfNums ((hexRow n (k + 1)).drop j) = hexS n:=by
    have hjk:j = 65 - (k + 1):=by have:=Hj.out;omega
    have hK:k = hexK n:=hexK_eq n k hn (by rw [← Hu.out];omega) (by exact Hk.out.2)
    rw [hexRow,hjk,List.drop_left' (by rw [List.length_replicate]),hexS,← hK]
   rw [hl,hs] at hcv
   obtain ⟨m,Hm⟩:∃ m,Aside0 (65 - j = m):=⟨_,⟨rfl⟩⟩
   have hal:Tryz.prog.arrayLen 122 = 65:=by kernel_rfl
   have hsl:∀ W,(Instr.sliceAt 122 (.pointer (some ⟨w.heap.size,0,none⟩)) (some (.int .i64 (j:Int))) none none).run Tryz.prog W = .ok (.slice (some ⟨w.heap.size,j,none⟩) m m) W:=fun W => by
    rw [run_sliceAt_array_l W 122 ⟨w.heap.size,0,none⟩ (by kernel_rfl) .i64 (j:Int) (by omega) (by rw [hal];omega)]
    go_simp
    have:=Hm.out
    omega
   rw [Hm.out] at hcv
   have HBe:Aside0 (Below w.heap.size w (wr.setCell ⟨w.heap.size,j,none⟩ (.int .u8 dg))):=⟨HB.out.setCell (p:=⟨w.heap.size,j,none⟩) (Nat.le_refl _) _⟩
   clear hal hA1 hAe hl hs
   go_wp2_with (first | simp only [hm])
   go_ret2
   exact ⟨rfl,HBe.out⟩
set_option maxHeartbeats 4000000 in
set_option maxRecDepth 100000 in
theorem formatInt16_inner (n:Nat) (hn:n < 65536) (w:World) (hT:TabAt 7 Lib.deBruijn64tab w) :
  Calls Tryz.prog 69 #[.int .i64 n,.int .i64 16] w fun e w' => e = .returned (.string (hexS n)) ∧ Below w.heap.size w w':=by
 have hw:IntKind.u64.wrap (n:Int) = (n:Int):=by rw [IntKind.wrap_u64];omega
 go_enter Tryz.func69,Tryz.ntmps69
 go_wp2_with (first | (go_at_call 90;refine (formatBits16 n hn _ hT).mono ?_))
 rintro e w' ⟨rfl,hb⟩
 go_wp2
 go_ret
 exact ⟨rfl,hb⟩
set_option maxHeartbeats 4000000 in
set_option maxRecDepth 100000 in
theorem formatInt16 (n:Nat) (hn:n < 65536) (w:World) (hT:TabAt 7 Lib.deBruijn64tab w) :
  Calls Tryz.prog 48 #[.int .i64 n,.int .i64 16] w fun e w' => e = .returned (.string (hexS n)) ∧ Below w.heap.size w w':=by
 go_enter Tryz.func48,Tryz.ntmps48
 go_wp2_with (first | (go_at_call 69;refine (formatInt16_inner n hn _ hT).mono ?_))
 rintro e w' ⟨rfl,hb⟩
 go_wp2
 go_ret
 exact ⟨rfl,hb⟩
end Go.Proofs.YtabbdfchibjndaaGreatDoor.LibF
