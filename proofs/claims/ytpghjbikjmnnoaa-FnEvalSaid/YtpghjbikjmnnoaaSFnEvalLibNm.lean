import Derived.Test.YtpghjbikjmnnoaaSFnEvalShelf
import Derived.Test.YtpghjbikjmnnoaaSFnEvalLibX
import Derived.Test.YtpghjbikjmnnoaaSFnEvalLibG
namespace Go.Proofs.Ytpghjbikjmnnoaa.LibNm
open Go.RowKit Go.Proofs.YtpghjbikjmnnoaaW.PrintWords Go.Proofs.YtpghjbikjmnnoaaW.PrintLast Go.Proofs.YtpghjbikjmnnoaaW.PrintMore Go.Proofs.Ytpghjbikjmnnoaa.LibX Go.Proofs.Ytpghjbikjmnnoaa.LibG
attribute [local go_sem] max2_int min2_int max_two min_two max_three min_three max_four min_four
set_option linter.unusedVariables false
set_option linter.unusedSimpArgs false
abbrev EN:=S45
abbrev kE:=k45
def toB (l:List UInt8):ByteArray:=⟨l.toArray⟩
def ofB (x:ByteArray):List UInt8:=x.data.toList
theorem enc_toB (l:List (List UInt8)):encs Value.string (l.map toB) = l.map encStr:=by
 unfold encs
 rw [List.map_map]
 rfl
def sortB (xs:List ByteArray):List ByteArray:=((xs.map ofB).mergeSort fun x y => decide (x ≤ y)).map toB
def compB (xs:List ByteArray):List ByteArray:=(Lib.compact (xs.map ofB)).map toB
theorem put_world (w0 w:World) (base g cap n:Nat) (cur:Array Value) (d:List (List UInt8)) (q:Nat) (os:Array Obj) (hb:base ≤ g) (h:w.heap[g]? = some (.cells cur 9 (0,0))) (hd:d.length ≤ cap) (hcur:cur.size = cap) (hB:Below base w0 w) :
  (∃ cur',(Sort.grow (Sort.putRow encStr (Sort.ahead w q) g 0 d.toArray) os).heap[g]? = some (.cells cur' 9 (0,0)) ∧ cur'.size = cap ∧ cur'.toList.take d.length = d.map encStr) ∧ Below base w0 (Sort.grow (Sort.putRow encStr (Sort.ahead w q) g 0 d.toArray) os):=by
 have hlt:g < w.heap.size:=blk_lt h
 have hsz:(Sort.putRow encStr (Sort.ahead w q) g 0 d.toArray).heap.size = w.heap.size:=by
  show (w.heap.modify g _).size = _
  rw [Array.size_modify]
 have hat:∀ k,k < w.heap.size → (Sort.grow (Sort.putRow encStr (Sort.ahead w q) g 0 d.toArray) os).heap[k]? = if g = k then (w.heap[k]?).map (Sort.onCells (Sort.putCells encStr 0 d.toArray)) else w.heap[k]?:=by
  intro k hk
  rw [Sort.heap_grow_old _ _ (by rw [hsz];exact hk)]
  show (w.heap.modify g _)[k]? = _
  rw [Array.getElem?_modify]
 refine ⟨⟨Sort.putCells encStr 0 d.toArray cur,?_,?_,?_⟩,?_⟩
 ·rw [hat g hlt,if_pos rfl,h]
  rfl
 ·unfold Sort.putCells
  rw [Array.size_mapIdx,hcur]
 ·apply List.ext_getElem?
  intro i
  rw [List.getElem?_take,List.getElem?_map,Array.getElem?_toList]
  unfold Sort.putCells
  rw [Array.getElem?_mapIdx]
  by_cases hi:i < d.length
  ·rw [if_pos hi,List.getElem?_eq_getElem hi]
   rw [Array.getElem?_eq_getElem (show i < cur.size by omega)]
   simp [hi]
  ·rw [if_neg hi,List.getElem?_eq_none (by omega)]
   rfl
 ·refine ⟨hB.os,hB.tape,hB.output,?_,fun i hi => ?_⟩
  ·rw [Sort.size_grow,hsz]
   exact Nat.le_trans hB.size (Nat.le_add_right _ _)
  ·have hiw:i < w.heap.size:=Nat.lt_of_lt_of_le hi (Nat.le_trans hb (Nat.le_of_lt hlt))
   rw [hat i hiw,if_neg (by omega)]
   exact hB.block i hi
theorem holds_row {w:World} {g n:Nat} {cur:Array Value} {xs:List ByteArray} (h:w.heap[g]? = some (.cells cur 9 (0,0))) (ht:cur.toList.take xs.length = encs Value.string xs):Sort.Holds encStr w g 0 (xs.map ofB).toArray:=by
 intro j hj
 have hj:j < xs.length:=by simpa using hj
 refine ⟨?_,blk_frozen h _⟩
 rw [blk_cell h,Nat.zero_add]
 have e:cur.toList[j]? = (encs Value.string xs)[j]?:=by rw [← ht,List.getElem?_take,if_pos hj]
 rw [Array.getElem?_toList] at e
 rw [e]
 simp [encs,hj,ofB]
theorem comp_len (zs:List (List UInt8)):(Lib.compact zs).length ≤ zs.length:=by
 unfold Lib.compact Lib.compactUpTo
 rw [List.length_map]
 exact Nat.le_trans (List.length_filter_le _ _) (Nat.le_of_eq List.length_range)
theorem sort_own (base:Nat) (v:Value) (xs:List ByteArray) (w0 w:World) (h:w.ownsRow base 9 1 v xs.length (encs Value.string xs)) (hn:xs.length ≤ 1000000) (hB:Below base w0 w) :
  Calls Try.prog 32 #[v] w fun e w' => e = .returned (.tuple #[]) ∧ w'.ownsRow base 9 1 v (sortB xs).length (encs Value.string (sortB xs)) ∧ Below base w0 w':=by
 obtain ⟨hl,⟨rfl,h0⟩ | ⟨g,cap,cur,rfl,hg,hh,hc,hm,hsz,ht⟩⟩:=h
 ·refine (Go.Proofs.Try.slices_Sort_string_none none 0 w).mono ?_
  rintro e w' ⟨he,rfl⟩
  have hx:xs = []:=List.eq_nil_of_length_eq_zero h0
  subst hx
  have hs:sortB [] = []:=by simp [sortB]
  rw [hs]
  exact ⟨he,⟨rfl,.inl ⟨rfl,rfl⟩⟩,hB⟩
 ·rw [Nat.mul_one] at hsz ht
  have hz:(xs.map ofB).length = xs.length:=List.length_map _
  have hc':=Go.Proofs.Try.slices_Sort_string g 0 cap (xs.map ofB) w (holds_row (n:=xs.length) hh ht) (blk_lt hh) (by omega)
  rw [hz] at hc'
  refine hc'.mono ?_
  rintro e w' ⟨he,q,os,rfl⟩
  have hls:((xs.map ofB).mergeSort fun x y => decide (x ≤ y)).length = xs.length:=by rw [List.length_mergeSort,hz]
  obtain ⟨⟨cur',e1,e2,e3⟩,e4⟩:=put_world w0 w base g cap xs.length cur ((xs.map ofB).mergeSort fun x y => decide (x ≤ y)) q os hg hh (by omega) hsz hB
  have hsl:(sortB xs).length = xs.length:=by unfold sortB;rw [List.length_map,hls]
  refine ⟨he,⟨by rw [encs_length,Nat.mul_one],.inr ⟨g,cap,cur',?_,hg,e1,by omega,hm,by rw [Nat.mul_one];exact e2,?_⟩⟩,e4⟩
  ·rw [hsl]
  ·rw [Nat.mul_one,hsl,← hls,e3]
   unfold sortB
   rw [enc_toB]
theorem comp_own (base:Nat) (v:Value) (xs:List ByteArray) (w0 w:World) (h:w.ownsRow base 9 1 v xs.length (encs Value.string xs)) (hn:xs.length ≤ 1000000) (hB:Below base w0 w) :
  Calls Try.prog 33 #[v] w fun e w' => ∃ v',e = .returned v' ∧ w'.ownsRow base 9 1 v' (compB xs).length (encs Value.string (compB xs)) ∧ Below base w0 w':=by
 obtain ⟨hl,⟨rfl,h0⟩ | ⟨g,cap,cur,rfl,hg,hh,hc,hm,hsz,ht⟩⟩:=h
 ·refine (Go.Proofs.Try.slices_Compact_string_empty none 0 w).mono ?_
  rintro e w' ⟨he,rfl⟩
  have hx:xs = []:=List.eq_nil_of_length_eq_zero h0
  subst hx
  have hs:compB [] = []:=by unfold compB;rfl
  rw [hs]
  exact ⟨_,he,⟨rfl,.inl ⟨rfl,rfl⟩⟩,hB⟩
 ·rw [Nat.mul_one] at hsz ht
  have hz:(xs.map ofB).length = xs.length:=List.length_map _
  have hc':=Go.Proofs.Try.slices_Compact_string g 0 cap (xs.map ofB) w (holds_row (n:=xs.length) hh ht) (by omega) (by omega)
  rw [hz] at hc'
  refine hc'.mono ?_
  rintro e w' ⟨he,q,hw⟩
  have hcl:(Lib.compact (xs.map ofB)).length ≤ xs.length:=Nat.le_trans (comp_len _) (Nat.le_of_eq hz)
  obtain ⟨⟨cur',e1,e2,e3⟩,e4⟩:=put_world w0 w base g cap xs.length cur (Lib.compact (xs.map ofB) ++ List.replicate (xs.length - (Lib.compact (xs.map ofB)).length) []) q #[] hg hh (by rw [List.length_append,List.length_replicate];omega) hsz hB
  rw [Sort.grow_empty,← hw] at e1 e4
  have hsl:(compB xs).length = (Lib.compact (xs.map ofB)).length:=by unfold compB;rw [List.length_map]
  refine ⟨_,he,⟨by rw [encs_length,Nat.mul_one],.inr ⟨g,cap,cur',?_,hg,e1,by omega,hm,by rw [Nat.mul_one];exact e2,?_⟩⟩,e4⟩
  ·rw [hsl]
  ·rw [Nat.mul_one,hsl]
   have e5:=congrArg (List.take (Lib.compact (xs.map ofB)).length) e3
   rw [List.take_take,Nat.min_eq_left (by rw [List.length_append];omega),List.map_append,List.take_append_of_le_length (by rw [List.length_map];exact Nat.le_refl _)] at e5
   have e6:((Lib.compact (xs.map ofB)).map encStr).take (Lib.compact (xs.map ofB)).length = (Lib.compact (xs.map ofB)).map encStr:=List.take_of_length_le (by rw [List.length_map];exact Nat.le_refl _)
   rw [e6] at e5
   rw [e5]
   unfold compB
   rw [enc_toB]
def namesF:List EN → List ByteArray
 | [] => []
 | x :: l => if x.f2.toList = ([]:List UInt8) then namesF l else x.f2 :: namesF l
theorem namesF_app (x:EN):∀ l:List EN,namesF (l ++ [x]) = if x.f2.toList = ([]:List UInt8) then namesF l else namesF l ++ [x.f2]
 | [] => by
  show (if x.f2.toList = ([]:List UInt8) then namesF [] else x.f2 :: namesF []) = _
  split <;> rfl
 | y :: l => by
  rw [List.cons_append,namesF,namesF,namesF_app x l]
  split <;> split <;> rfl
theorem namesF_len:∀ l:List EN,(namesF l).length ≤ l.length
 | [] => Nat.le_refl _
 | y :: l => by
  have:=namesF_len l
  rw [namesF]
  split
  ·rw [List.length_cons];omega
  ·rw [List.length_cons,List.length_cons];omega
theorem infoS:(Try.prog.info? 9).map (fun i => (i.zero,i.size,i.bytes)) = some (some (.string ⟨#[]⟩),1,16):=by kernel_rfl
def impl_namesIn.f (l0:List EN):Option (List ByteArray):=if l0.length ≤ 1000000 then some (compB (sortB (namesF l0))) else none
set_option maxHeartbeats 2000000 in
set_option maxRecDepth 100000 in
theorem impl_namesIn.calls (A0:Option Addr) (c0:Nat) (l0:List EN) (r:List ByteArray) (w:World) (hr0:Kd.C kE w A0 l0.length l0) (hc0:l0.length ≤ c0) (h:impl_namesIn.f l0 = some r) :
  Calls Try.prog 16 #[.slice A0 l0.length c0] w fun e w' => ∃ v0_:Value,e = .returned (v0_) ∧ Kd.R Kd.string 9 w' w.heap.size (fun _ => True) v0_ r ∧ Below w.heap.size w w':=by
 unfold impl_namesIn.f at h
 by_cases hs:l0.length ≤ 1000000
 rotate_left
 ·rw [if_neg hs] at h;cases h
 rw [if_pos hs] at h
 obtain rfl:=Option.some.inj h
 clear h
 have hu54:=Try.underlying45
 have HR0:=Aside0.mk hr0
 have HS:=Aside0.mk hs
 have HB:=Aside0.mk (Below.refl w.heap.size w)
 clear hr0 hc0 hs
 go_enter Try.func16,Try.ntmps16
 go_wp2_with (first | ((with_reducible refine gate_dst (N:=6) rfl ?_);refine Kd.R_lit Kd.string _ 9 ?hg (N:=6) ?hd (xs:=([]:List ByteArray)) (inner:=[]) (ok:=fun _ => True) (okp:=fun _ => True) ?hr ?hp (fun _ hk => hk) trivial (Below.refl _ _) (Nat.le_refl _) (by simp) ?_;(case hd => rfl);(case hg => rfl);(case hr => first | (go_simp;done) | (go_simp;rfl));(case hp => exact (Reps.none _ _));intro v3 w3 ho hb hg_ hnew_;clear hg_ hnew_;have HO:=Aside0.mk ho;have hB:=below_step HB.out hb;clear HB ho hb;have HB:=Aside0.mk hB;clear hB))
 go_loopg [3,9] l0.length (fun kq v3 v9 w' => ∃ (z:Int),v9 = .int .i64 z ∧ Aside0 (0 ≤ z ∧ z.toNat + kq = l0.length) ∧ Aside0 (Kd.R Kd.string 9 w' w.heap.size (fun _ => True) v3 (namesF (l0.take z.toNat))) ∧ Aside0 (Below w.heap.size w w'))
 case atStart => exact ⟨0,rfl,⟨by simp⟩,HO,HB⟩
 case round =>
  clear HO HB
  obtain ⟨z,rfl,HK,HO,HB⟩:=hrel
  cases gk with
  | zero =>
   have hi:z.toNat = l0.length:=by have:=HK.out;omega
   have q0:decide (z < (l0.length:Int)) = false:=decide_eq_false (by have:=HK.out;omega)
   have he:namesF (l0.take z.toNat) = namesF l0:=by rw [List.take_of_length_le (by omega)]
   have ho_:=Kd.own_of_R HO.out
   rw [he] at ho_
   have HL:=Aside0.mk (Nat.le_trans (namesF_len l0) HS.out)
   have HO2:=Aside0.mk ho_
   clear he hi ho_
   go_wp2_with (first | (go_at_call 32;refine (sort_own w.heap.size _ (namesF l0) w _ HO2.out HL.out HB.out).mono ?_;rintro e w5 ⟨rfl,ho,hb⟩;have HL5:=Aside0.mk (show (sortB (namesF l0)).length ≤ 1000000 by unfold sortB;rw [List.length_map,List.length_mergeSort,List.length_map];exact HL.out)) | (go_at_call 33;refine (comp_own w.heap.size _ (sortB (namesF l0)) w _ ho HL5.out hb).mono ?_;rintro e w6 ⟨v6,rfl,ho6,hb6⟩))
   go_ret
   exact ⟨v6,rfl,Kd.R_of_own ho6 (fun _ _ => trivial),hb6⟩
  | succ k1 =>
   have hi:z.toNat < l0.length:=by have:=HK.out;omega
   have q0:decide (z < (l0.length:Int)) = true:=decide_eq_true (by have:=HK.out;omega)
   have e1:Unit → wrap64 (z + 1) = z + 1:=fun _ => by have:=HS.out;have:=HK.out;unfold wrap64;omega
   have p140:0 ≤ z:=HK.out.1
   have q140:z < (l0.length:Int):=by omega
   obtain ⟨ad140,e140,hx140_0,hx140_1,hx140_2⟩:=at_T45 HR0.out z p140 q140
   cases e140
   replace hx140_0:=(HB.out.cell (World.block_lt_of_cell? w _ hx140_0)).trans hx140_0
   replace hx140_1:=(HB.out.cell (World.block_lt_of_cell? w _ hx140_1)).trans hx140_1
   replace hx140_2:=(HB.out.cell (World.block_lt_of_cell? w _ hx140_2)).trans hx140_2
   replace p140:=eq_true p140
   replace q140:=eq_true q140
   have htk:namesF (l0.take (z.toNat + 1)) = if (rd_T45 l0 z).f2.toList = ([]:List UInt8) then namesF (l0.take z.toNat) else namesF (l0.take z.toNat) ++ [(rd_T45 l0 z).f2]:=by
    have e:l0.take (z.toNat + 1) = l0.take z.toNat ++ [rd_T45 l0 z]:=by
     unfold rd_T45
     rw [List.getD_eq_getElem?_getD,List.getElem?_eq_getElem hi,Option.getD_some,List.take_append_getElem hi]
    rw [e,namesF_app]
   have hlk:=Nat.le_trans (namesF_len (l0.take z.toNat)) (by rw [List.length_take];exact Nat.min_le_right z.toNat l0.length)
   have HLK:=Aside0.mk (Nat.le_trans hlk HS.out)
   clear hlk hi
   generalize rd_T45 l0 z = x at *
   have hkk:0 ≤ z + 1 ∧ (z + 1).toNat + k1 = l0.length:=by have:=HK.out;omega
   have hz1:(z + 1).toNat = z.toNat + 1:=by have:=HK.out;omega
   by_cases hx:x.f2.toList = ([]:List UInt8)
   ·rw [if_pos hx] at htk
    have hx1:(x.f2.toList == ([]:List UInt8)) = true:=beq_iff_eq.mpr hx
    have hx2:(x.f2.toList != ([]:List UInt8)) = false:=bne_eq_false_iff_eq.mpr hx
    have hx3:x.f2.toList.isEmpty = true:=List.isEmpty_iff.2 hx
    have HT:=Aside0.mk htk
    clear htk hx
    go_wp2_with (first | ((with_reducible refine gate_dst (N:=5) rfl ?_);refine box_event ?hg (N:=5) ?hd (cs:=#[.int .i64 0,.int .i64 0,.string (⟨#[]⟩:ByteArray)]) (t:=45) ?hr ?_;(case hd => rfl);(case hg => rfl);(case hr => first | (go_simp;done) | (go_simp;rfl));intro gb hg w12 hbox hb;have n3_:=Aside0.mk (below_set (j:=2) (v:=.string x.f2) (below_set (j:=1) (v:=.int .i64 x.f1) (below_set (j:=0) (v:=.int .i64 x.f0) hb (Nat.le_of_eq hg.symm)) (Nat.le_of_eq hg.symm)) (Nat.le_of_eq hg.symm));have n4_:=Aside0.mk (Kd.R_below HO.out n3_.out);have n0_:=Aside0.mk (below_step HB.out n3_.out);have BK:=Aside0.mk hbox;clear HB HO n3_;have HB:=n0_;have HO:=n4_;clear n0_ n4_;clear hb hbox hg;have hcz0:w12.cell? ⟨gb,0,none⟩ = some (.int .i64 0):=(blk_cell BK.out 0).trans rfl;have hcz1:w12.cell? ⟨gb,1,none⟩ = some (.int .i64 0):=(blk_cell BK.out 1).trans rfl;have hcz2:w12.cell? ⟨gb,2,none⟩ = some (.string (⟨#[]⟩:ByteArray)):=(blk_cell BK.out 2).trans rfl;have hfz0:=blk_frozen BK.out 0;have hfz1:=blk_frozen BK.out 1;have hfz2:=blk_frozen BK.out 2))
    go_roundg k1
    case measure => exact Nat.lt_succ_self _
    case rel => exact ⟨z + 1,by rw [e1 ()],⟨hkk⟩,⟨by rw [hz1,HT.out];exact HO.out⟩,HB⟩
   ·rw [if_neg hx] at htk
    have hx1:(x.f2.toList == ([]:List UInt8)) = false:=beq_eq_false_iff_ne.mpr hx
    have hx2:(x.f2.toList != ([]:List UInt8)) = true:=bne_iff_ne.mpr hx
    have hx3:x.f2.toList.isEmpty = false:=by rw [Bool.eq_false_iff];exact fun e => hx (List.isEmpty_iff.1 e)
    have HT:=Aside0.mk htk
    clear htk hx
    go_upto_region 5 with (first | ((with_reducible refine gate_dst (N:=5) rfl ?_);refine box_event ?hg (N:=5) ?hd (cs:=#[.int .i64 0,.int .i64 0,.string (⟨#[]⟩:ByteArray)]) (t:=45) ?hr ?_;(case hd => rfl);(case hg => rfl);(case hr => first | (go_simp;done) | (go_simp;rfl));intro gb hg w12 hbox hb;have n3_:=Aside0.mk (below_set (j:=2) (v:=.string x.f2) (below_set (j:=1) (v:=.int .i64 x.f1) (below_set (j:=0) (v:=.int .i64 x.f0) hb (Nat.le_of_eq hg.symm)) (Nat.le_of_eq hg.symm)) (Nat.le_of_eq hg.symm));have n4_:=Aside0.mk (Kd.R_below HO.out n3_.out);have n0_:=Aside0.mk (below_step HB.out n3_.out);have BK:=Aside0.mk hbox;clear HB HO n3_;have HB:=n0_;have HO:=n4_;clear n0_ n4_;clear hb hbox hg;have hcz0:w12.cell? ⟨gb,0,none⟩ = some (.int .i64 0):=(blk_cell BK.out 0).trans rfl;have hcz1:w12.cell? ⟨gb,1,none⟩ = some (.int .i64 0):=(blk_cell BK.out 1).trans rfl;have hcz2:w12.cell? ⟨gb,2,none⟩ = some (.string (⟨#[]⟩:ByteArray)):=(blk_cell BK.out 2).trans rfl;have hfz0:=blk_frozen BK.out 0;have hfz1:=blk_frozen BK.out 1;have hfz2:=blk_frozen BK.out 2))
    have d2:(((w12.setCell ⟨gb,0,none⟩ (.int .i64 x.f0)).setCell ⟨gb,1,none⟩ (.int .i64 x.f1)).setCell ⟨gb,2,none⟩ (.string x.f2)).cell? ⟨gb,2,none⟩ = some (.string x.f2):=by
     have hb_:(((w12.setCell ⟨gb,0,none⟩ (.int .i64 x.f0)).setCell ⟨gb,1,none⟩ (.int .i64 x.f1)).setCell ⟨gb,2,none⟩ (.string x.f2)).heap[gb]? = some (.cells #[.int .i64 x.f0,.int .i64 x.f1,.string x.f2] 45 (0,0)):=by
      refine blk_put (cs:=#[.int .i64 x.f0,.int .i64 x.f1,.string (⟨#[]⟩:ByteArray)]) ?_ 2 _ rfl
      refine blk_put (cs:=#[.int .i64 x.f0,.int .i64 0,.string (⟨#[]⟩:ByteArray)]) ?_ 1 _ rfl
      refine blk_put (cs:=#[.int .i64 0,.int .i64 0,.string (⟨#[]⟩:ByteArray)]) ?_ 0 _ rfl
      exact BK.out
     exact (blk_cell hb_ 2).trans rfl
    clear BK hcz0 hcz1 hcz2 hfz0 hfz1 hfz2
    generalize (((w12.setCell ⟨gb,0,none⟩ (.int .i64 x.f0)).setCell ⟨gb,1,none⟩ (.int .i64 x.f1)).setCell ⟨gb,2,none⟩ (.string x.f2)) = w14 at d2 HB HO ⊢
    go_wp2_with (first | ((with_reducible refine gate_dst (N:=20) rfl ?_);refine Kd.R_append Kd.string (w0:=w) w.heap.size rfl (.tmp 16) (.tmp 19) 30 9 (.string ⟨#[]⟩) 16 rfl Try.underlying30 infoS rfl (by decide) (by omega) _ (namesF (l0.take z.toNat)) x.f2 [.string x.f2] (fun _ => True) (fun _ => False) rfl rfl ?aP (fun _ hk => hk.elim) ?aF ?aO ?aB ?aS ?aL ?_;(case aP => exact (show Kd.M Kd.string _ _ _ x.f2 [.string x.f2] from rfl));(case aB => exact HB.out);(case aF => exact fun _ _ => trivial);(case aO => exact HO.out);(case aS => exact HB.out.size);(case aL => have:=HLK.out;omega);intro v20 w20 ho hb hg hat;have HO2:=Aside0.mk ho;have HB2:=Aside0.mk hb;clear ho hb hg hat))
    go_roundg k1
    case measure => exact Nat.lt_succ_self _
    case rel => exact ⟨z + 1,by rw [e1 ()],⟨hkk⟩,⟨by rw [hz1,HT.out];exact HO2.out⟩,HB2⟩
end Go.Proofs.Ytpghjbikjmnnoaa.LibNm
