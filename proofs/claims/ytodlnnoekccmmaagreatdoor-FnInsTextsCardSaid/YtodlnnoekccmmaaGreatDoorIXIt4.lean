import Derived.Test.YtodlnnoekccmmaaGreatDoorIXIt3
import Derived.Test.YtodlnnoekccmmaaGreatDoorILib
namespace Go.Proofs.YtodlnnoekccmmaaGreatDoor.XIt
open Go.RowKit Go.Proofs.YtodlnnoekccmmaaGreatDoor.QFnInsTexts Go.Proofs.YtodlnnoekccmmaaGreatDoorW.PrintWords Go.Proofs.YtodlnnoekccmmaaGreatDoorW.PrintLast Go.Proofs.YtodlnnoekccmmaaGreatDoorW.PrintMore Go.Proofs.YtodlnnoekccmmaaGreatDoor.Lib Go.Proofs.YtodlnnoekccmmaaGreatDoor.LibX Go.Proofs.YtodlnnoekccmmaaGreatDoor.LibE
set_option linter.unusedSimpArgs false
set_option linter.unusedVariables false
/-! ### a text and a template: what stands in the hole -/
theorem edL (s:ByteArray) (i j:Nat):(s.extract i j).data.toList = (s.data.toList.drop i).take (j - i):=by
 rw [ByteArray.data_extract,Array.toList_extract,List.extract_eq_take_drop]
theorem baE {a b:ByteArray} (h:a.data.toList = b.data.toList):a = b:=ByteArray.ext (Array.toList_inj.1 h)
theorem szL (a:ByteArray):a.size = a.data.toList.length:=by rw [Array.length_toList];rfl
theorem apL (a b:ByteArray):(a ++ b).data.toList = a.data.toList ++ b.data.toList:=by rw [ByteArray.data_append,Array.toList_append]
theorem apA (a b c:ByteArray):(a ++ b) ++ c = a ++ (b ++ c):=by apply baE;rw [apL,apL,apL,apL,List.append_assoc]
theorem exP (a b:ByteArray):(a ++ b).extract 0 a.size = a:=by
 apply baE
 rw [edL,apL,List.drop_zero,Nat.sub_zero,szL,List.take_left]
theorem exS (a b:ByteArray):(a ++ b).extract a.size (a ++ b).size = b:=by
 apply baE
 rw [edL,ByteArray.size_append,apL,szL a,List.drop_left,List.take_of_length_le]
 rw [szL b];omega
theorem exM (a f b:ByteArray):((a ++ f) ++ b).extract a.size (a.size + f.size) = f:=by
 apply baE
 rw [edL,apA,apL,szL a,List.drop_left,apL,Nat.add_sub_cancel_left,szL f,List.take_left]
theorem apC {a f g b:ByteArray} (h:(a ++ f) ++ b = (a ++ g) ++ b):f = g:=by
 apply baE
 have h:=congrArg (fun s:ByteArray => s.data.toList) h
 simp only [apL] at h
 exact List.append_cancel_left (List.append_cancel_right h)
theorem cutP (s p:ByteArray):∃ rest b,strings_CutPrefix.f s p = some (rest,b) ∧ rest.size ≤ s.size ∧ (∀ t,s = p ++ t → rest = t ∧ b = true):=by
 unfold strings_CutPrefix.f stringslite_CutPrefix.f stringslite_HasPrefix.f
 by_cases h:(s.size:Int) ≥ (p.size:Int)
 ·rw [if_pos h,if_pos (by omega),if_pos (by omega),Option.bind_some]
  by_cases e:((s.extract 0 ((p.size:Int)).toNat).toList == p.toList) = true
  ·rw [if_pos e,if_pos (by omega),if_pos (by omega)]
   refine ⟨_,_,rfl,by rw [ByteArray.size_extract];omega,?_⟩
   rintro t rfl
   exact ⟨by rw [Int.toNat_natCast];exact exS p t,rfl⟩
  ·rw [if_neg e]
   refine ⟨_,_,rfl,Nat.le_refl _,?_⟩
   rintro t rfl
   rw [Int.toNat_natCast,exP] at e
   exact absurd (by simp) e
 ·rw [if_neg h]
  refine ⟨s,false,rfl,Nat.le_refl _,?_⟩
  rintro t rfl
  rw [ByteArray.size_append] at h
  omega
theorem cutS (s p:ByteArray) (hs:s.size ≤ 20):∃ rest b,strings_CutSuffix.f s p = some (rest,b) ∧ rest.size ≤ s.size ∧ (∀ t,s = t ++ p → rest = t ∧ b = true):=by
 unfold strings_CutSuffix.f stringslite_CutSuffix.f stringslite_HasSuffix.f
 by_cases h:(s.size:Int) ≥ (p.size:Int)
 ·rw [w64_in (n:=(s.size:Int) - (p.size:Int)) (by omega) (by omega)]
  rw [if_pos h,if_pos (by omega),if_pos (by omega),Option.bind_some]
  by_cases e:((s.extract ((s.size:Int) - (p.size:Int)).toNat s.size).toList == p.toList) = true
  ·rw [if_pos e,if_pos (by omega),if_pos (by omega)]
   refine ⟨_,_,rfl,by rw [ByteArray.size_extract];omega,?_⟩
   rintro t rfl
   exact ⟨by rw [ByteArray.size_append,show (((t.size + p.size:Nat):Int) - (p.size:Int)).toNat = t.size by omega];exact exP t p,rfl⟩
  ·rw [if_neg e]
   refine ⟨_,_,rfl,Nat.le_refl _,?_⟩
   rintro t rfl
   rw [show (((t ++ p).size:Int) - (p.size:Int)).toNat = t.size by rw [ByteArray.size_append];omega,exS] at e
   exact absurd (by simp) e
 ·rw [if_neg h]
  refine ⟨s,false,rfl,Nat.le_refl _,?_⟩
  rintro t rfl
  rw [ByteArray.size_append] at h
  omega
def PP (cb:Bool) (n:Int):ByteArray:=(tm cb n).extract 0 (hp cb n).toNat
def PQ (cb:Bool) (n:Int):ByteArray:=(tm cb n).extract (hp cb n + (holeLen (hk cb n):Nat)).toNat (tm cb n).size
def QI (cb:Bool) (n:Int):Prop:=(hk cb n ≤ 1 → hp cb n = -1) ∧ (2 ≤ hk cb n → strings_Cut.f (tm cb n) (holeS (hk cb n)) = some (PP cb n,PQ cb n,true) ∧ (tm cb n).size ≤ 14)
instance (cb:Bool) (n:Int):Decidable (QI cb n):=by unfold QI;infer_instance
set_option maxRecDepth 100000 in
theorem qi1:∀ n:Fin 256,QI true ((n.val:Nat):Int):=by decide +kernel
set_option maxRecDepth 100000 in
theorem qi0:∀ n:Fin 256,QI false ((n.val:Nat):Int):=by decide +kernel
theorem qi (cb:Bool) {n:Int} (h0:0 ≤ n) (h1:n < 256):QI cb n:=by
 cases cb
 ·exact all256 qi0 h0 h1
 ·exact all256 qi1 h0 h1
theorem txt_PQ (cb:Bool) {n:Int} (h0:0 ≤ n) (h1:n < 256) {m:Int} (ho:okV (hk cb n) m = true) (hh:2 ≤ hk cb n):txtV cb n m = (PP cb n ++ fillV (hk cb n) m) ++ PQ cb n:=by
 unfold txtV putV PP PQ
 rw [if_pos ho,if_neg (by omega)]
theorem inHole_T (cb:Bool) {n:Int} (h0:0 ≤ n) (h1:n < 256) (hh:2 ≤ hk cb n) (s:ByteArray) (hs:s.size ≤ 20):∃ mid ok,impl_inHole.f (tm cb n) (holeS (hk cb n)) s = some (mid,ok) ∧ mid.size ≤ 20 ∧ (∀ f,s = (PP cb n ++ f) ++ PQ cb n → mid = f ∧ ok = true):=by
 obtain ⟨q,_⟩:=(qi cb h0 h1).2 hh
 unfold impl_inHole.f
 rw [q,Option.bind_some]
 obtain ⟨r,b,e,hr,hc⟩:=cutP s (PP cb n)
 dsimp only
 rw [e,Option.bind_some]
 obtain ⟨r2,b2,e2,hr2,hc2⟩:=cutS r (PQ cb n) (by omega)
 dsimp only
 rw [e2,Option.bind_some]
 dsimp only
 by_cases hb:b = true
 ·rw [if_pos hb]
  refine ⟨_,_,rfl,by omega,fun f ef => ?_⟩
  rw [apA] at ef
  obtain ⟨rfl,_⟩:=hc _ ef
  exact hc2 f rfl
 ·rw [if_neg hb]
  refine ⟨_,_,rfl,by omega,fun f ef => ?_⟩
  rw [apA] at ef
  exact absurd (hc _ ef).2 hb
theorem fits_no (cb:Bool) {n:Int} (h0:0 ≤ n) (h1:n < 256) (hh:hk cb n ≤ 1) (s:ByteArray):Tot (fun k => spec_l3Fits.f k s (tm cb n)) (· = (⟨#[]⟩,s.toList == (tm cb n).toList)):=by
 have q:=(qi cb h0 h1).1 hh
 unfold spec_l3Fits.f
 refine Tot.bind (hoS_T cb h0 h1) ?_
 rintro _ rfl
 exact Tot.yes (by show hp cb n < 0;omega) (Tot.ret rfl)
theorem fits_T (cb:Bool) {n:Int} (h0:0 ≤ n) (h1:n < 256) (hh:2 ≤ hk cb n) (s:ByteArray) (hs:s.size ≤ 20):Tot (fun k => spec_l3Fits.f k s (tm cb n)) (fun r => (r.1.size ≤ 20 ∧ (s.size = 0 → r.2 = false)) ∧ (∀ f:ByteArray,1 ≤ f.size → s = (PP cb n ++ f) ++ PQ cb n → r = (f,true))):=by
 have hle:=hk_le cb h0 h1
 obtain ⟨x1,x2,x3,x4⟩:=(qx cb h0 h1).2.2 hh
 have q:=((qi cb h0 h1).2 hh).2
 have hhl:=holeS_size (hk cb n) (by omega)
 have ezP:(PP cb n).size = (hp cb n).toNat:=by unfold PP;rw [ByteArray.size_extract];omega
 have ezQ:(PQ cb n).size ≤ 14:=by unfold PQ;rw [ByteArray.size_extract];omega
 have hl3:holeLen (hk cb n) ≤ 3:=by unfold holeLen;split <;> omega
 unfold spec_l3Fits.f
 refine Tot.bind (hoS_T cb h0 h1) ?_
 rintro _ rfl
 dsimp only
 rw [hhl,w64_in (n:=hp cb n + (holeLen (hk cb n):Int)) (by omega) (by omega)]
 refine Tot.no (by omega) (Tot.yes (by omega) (Tot.yes (by omega) ?_))
 have eQ:(tm cb n).extract (hp cb n + (holeLen (hk cb n):Int)).toNat (tm cb n).size = PQ cb n:=rfl
 rw [eQ,w64_in (n:=hp cb n + ((PQ cb n).size:Int)) (by omega) (by omega)]
 have jt:Tot (fun k => spec_l3Fits.j0 k s (hp cb n) (PQ cb n) true) (· = (⟨#[]⟩,false)):=Tot.step (fun k => spec_l3Fits.j0.eq_2 _ _ _ _ k) (Tot.yes rfl (Tot.ret rfl))
 refine Tot.ite (fun c => jt.mono ?_) (fun c => ?_)
 ·rintro _ rfl
  refine ⟨⟨by decide,fun _ => rfl⟩,fun f hf e => ?_⟩
  exfalso
  have:=congrArg ByteArray.size e
  rw [ByteArray.size_append,ByteArray.size_append] at this
  omega
 refine Tot.yes (by omega) (Tot.yes (by omega) (Tot.yes (by omega) ?_))
 refine Tot.ite (fun c2 => ?_) (fun c2 => jt.mono ?_)
 rotate_left
 ·rintro _ rfl
  refine ⟨⟨by decide,fun _ => rfl⟩,fun f hf e => ?_⟩
  exfalso
  apply c2
  have:(tm cb n).extract 0 (hp cb n).toNat = PP cb n:=rfl
  rw [this,← ezP,e,apA,exP]
 rw [w64_in (n:=(s.size:Int) - ((PQ cb n).size:Int)) (by omega) (by omega)]
 refine Tot.yes (by omega) (Tot.yes (by omega) ?_)
 refine Tot.step (fun k => spec_l3Fits.j0.eq_2 _ _ _ _ k) ?_
 rw [w64_in (n:=(s.size:Int) - ((PQ cb n).size:Int)) (by omega) (by omega)]
 refine Tot.ite (fun c3 => Tot.ret ⟨⟨by decide,fun _ => rfl⟩,fun f hf e => ?_⟩) (fun c3 => Tot.yes (by omega) (Tot.yes (by omega) (Tot.yes (by omega) (Tot.ret ⟨⟨?_,fun z => by omega⟩,fun f hf e => ?_⟩))))
 ·exfalso
  have hz:=congrArg ByteArray.size e
  rw [ByteArray.size_append] at hz
  rw [bne_iff_ne] at c3
  apply c3
  rw [show ((s.size:Int) - ((PQ cb n).size:Int)).toNat = (PP cb n ++ f).size by omega,e,exS]
 ·rw [ByteArray.size_extract];omega
 ·have hz:=congrArg ByteArray.size e
  rw [ByteArray.size_append,ByteArray.size_append] at hz
  rw [show ((s.size:Int) - ((PQ cb n).size:Int)).toNat = (PP cb n).size + f.size by omega,← ezP,e,exM]
end Go.Proofs.YtodlnnoekccmmaaGreatDoor.XIt
