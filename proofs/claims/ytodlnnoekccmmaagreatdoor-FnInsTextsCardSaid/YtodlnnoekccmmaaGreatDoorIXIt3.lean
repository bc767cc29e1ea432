import Derived.Test.YtodlnnoekccmmaaGreatDoorIXIt1
import Derived.Test.YtodlnnoekccmmaaGreatDoorILib
namespace Go.Proofs.YtodlnnoekccmmaaGreatDoor.XIt
open Go.RowKit Go.Proofs.YtodlnnoekccmmaaGreatDoor.QFnInsTexts Go.Proofs.YtodlnnoekccmmaaGreatDoorW.PrintWords Go.Proofs.YtodlnnoekccmmaaGreatDoorW.PrintLast Go.Proofs.YtodlnnoekccmmaaGreatDoorW.PrintMore Go.Proofs.YtodlnnoekccmmaaGreatDoor.Lib Go.Proofs.YtodlnnoekccmmaaGreatDoor.LibX Go.Proofs.YtodlnnoekccmmaaGreatDoor.LibE
set_option linter.unusedSimpArgs false
set_option linter.unusedVariables false
theorem bytesStr {xs:List Int} (h:∀ x ∈ xs,0 ≤ x ∧ x < 256):bytesOf (strOfNums xs) = xs:=by
 unfold bytesOf
 rw [strOfNums_data,List.map_map]
 conv => rhs;rw [← List.map_id xs]
 refine List.map_congr_left fun x hx => ?_
 have:=h x hx
 simp only [Function.comp,id]
 rw [UInt8.toNat_ofNat']
 omega
theorem btL (s:ByteArray) (i:Int):bt s i = (bytesOf s).getD i.toNat 0:=by rw [← rd_bytesOf];rfl
theorem hexUp_at (n:Int):∀ (d i:Nat),i < d → (hexUp n d).getD i 0 = upD (n / 16 ^ (d - 1 - i) % 16)
 | 0,i,h => by omega
 | d + 1,0,_ => by simp [hexUp]
 | d + 1,i + 1,h => by
  rw [hexUp,List.getD_cons_succ,hexUp_at n d i (by omega),show d + 1 - 1 - (i + 1) = d - 1 - i by omega]
theorem index_up:∀ v:Fin 16,strings_IndexByte.f DIG (upD (v.val:Int)) = some (v.val:Int):=by decide +kernel
theorem value_loop (n:Int) (hn0:0 ≤ n) (hn1:n ≤ 65535) (d:Nat) (h1:1 ≤ d) (h4:d ≤ 4) (hlt:n < 16 ^ d):∀ r i:Nat,i + r = d → Tot (fun k => impl_valueOf.l0 k (strOfNums (hexUp n d)) DIG (n / 16 ^ (d - i)) (d:Int) (i:Int)) (· = (n,true)):=by
 have hB:=bytesStr (hexUp_bytes n d)
 have hz:(strOfNums (hexUp n d)).size = d:=by rw [strOfNums_size,hexUp_length]
 intro r
 induction r with
 | zero =>
  intro i hi
  obtain rfl:i = d:=by omega
  refine Tot.step (fun k => impl_valueOf.l0.eq_2 _ _ _ _ _ k) (Tot.no (by omega) (Tot.no (fun e => by have:=(nil_size _).1 e;omega) (Tot.ret ?_)))
  rw [Nat.sub_self,Int.pow_zero,Int.ediv_one,decide_eq_true hn1]
 | succ r ih =>
  intro i hi
  have q0:0 ≤ n / 16 ^ (d - i):=Int.ediv_nonneg hn0 (Int.le_of_lt (pow_pos16 _))
  have q1:n / 16 ^ (d - i) ≤ 65535:=Int.le_trans (Int.ediv_le_self _ hn0) hn1
  have hs:=div_step n (d - 1 - i)
  rw [show d - 1 - i + 1 = d - i by omega] at hs
  have p0:0 ≤ n / 16 ^ (d - 1 - i):=Int.ediv_nonneg hn0 (Int.le_of_lt (pow_pos16 _))
  have p1:n / 16 ^ (d - 1 - i) ≤ 65535:=Int.le_trans (Int.ediv_le_self _ hn0) hn1
  have eb:bt (strOfNums (hexUp n d)) (i:Int) = upD (n / 16 ^ (d - 1 - i) % 16):=by rw [btL,hB,Int.toNat_natCast,hexUp_at n d i (by omega)]
  have ix:strings_IndexByte.f DIG (upD (n / 16 ^ (d - 1 - i) % 16)) = some (n / 16 ^ (d - 1 - i) % 16):=by
   have:=index_up ⟨(n / 16 ^ (d - 1 - i) % 16).toNat,by omega⟩
   rwa [show (((n / 16 ^ (d - 1 - i) % 16).toNat:Nat):Int) = n / 16 ^ (d - 1 - i) % 16 by omega] at this
  refine Tot.step (fun k => impl_valueOf.l0.eq_2 _ _ _ _ _ k) (Tot.yes (by omega) (Tot.yes (by omega) (Tot.yes (by omega) ?_)))
  rw [eb]
  refine Tot.bind (Tot.of ix rfl) ?_
  rintro _ rfl
  refine Tot.no (by omega) (Tot.no (by omega) ?_)
  have ed:(DIG.size:Int) = 16:=rfl
  rw [ed,w64_in (n:=n / 16 ^ (d - i) * 16) (by omega) (by omega),w64_in (n:=n / 16 ^ (d - i) * 16 + n / 16 ^ (d - 1 - i) % 16) (by omega) (by omega),w64_in (n:=(i:Int) + 1) (by omega) (by omega)]
  have:=ih (i + 1) (by omega)
  rw [show d - (i + 1) = d - 1 - i by omega] at this
  rw [show n / 16 ^ (d - i) * 16 + n / 16 ^ (d - 1 - i) % 16 = n / 16 ^ (d - 1 - i) by omega]
  exact this
theorem value_T (n:Int) (hn0:0 ≤ n) (hn1:n ≤ 65535) (d:Nat) (h1:1 ≤ d) (h4:d ≤ 4) (hlt:n < 16 ^ d):Tot (fun k => impl_valueOf.f k (strOfNums (hexUp n d)) DIG) (· = (n,true)):=by
 have h:=value_loop n hn0 hn1 d h1 h4 hlt d 0 (by omega)
 rw [Nat.sub_zero,Int.ediv_eq_zero_of_lt hn0 hlt] at h
 unfold impl_valueOf.f
 rw [strOfNums_size,hexUp_length]
 exact h
theorem str_first (x:Int) (L:List Int):(strOfNums (x :: L)).extract 0 1 = strOfNums [x]:=by
 apply ByteArray.ext
 rw [ByteArray.data_extract]
 apply Array.ext'
 rw [Array.toList_extract,strOfNums_data,strOfNums_data,List.extract_eq_take_drop]
 simp
theorem str_rest (x:Int) (L:List Int):(strOfNums (x :: L)).extract 1 (strOfNums (x :: L)).size = strOfNums L:=by
 apply ByteArray.ext
 rw [ByteArray.data_extract]
 apply Array.ext'
 rw [Array.toList_extract,strOfNums_data,strOfNums_data,List.extract_eq_take_drop,strOfNums_size,List.map_cons,List.drop_succ_cons,List.drop_zero,List.take_of_length_le (by rw [List.length_map,List.length_cons];omega)]
theorem dollar (L:List Int):strings_HasPrefix.f (strOfNums (36 :: L)) (⟨#[36]⟩:ByteArray) = some true:=by
 unfold strings_HasPrefix.f stringslite_HasPrefix.f
 have e1:((⟨#[36]⟩:ByteArray).size:Int) = 1:=rfl
 rw [e1,strOfNums_size,if_pos (by rw [List.length_cons];omega),if_pos (by decide),if_pos (by rw [List.length_cons];omega),Option.bind_some]
 rw [show (1:Int).toNat = 1 from rfl,str_first,ByteArray.toList_eq,ByteArray.toList_eq,strOfNums_data]
 rfl
theorem readNum_T (n:Int) (hn0:0 ≤ n) (hn1:n ≤ 65535) (d:Nat) (h1:1 ≤ d) (h4:d ≤ 4) (hlt:n < 16 ^ d):Tot (fun k => impl_ReadNum.f k (strOfNums (36 :: hexUp n d))) (· = (n,true)):=by
 unfold impl_ReadNum.f
 have hz:((strOfNums (36 :: hexUp n d)).size:Int) = d + 1:=by rw [strOfNums_size,List.length_cons,hexUp_length];rfl
 refine Tot.no (by omega) ?_
 refine Tot.bind (Tot.of (dollar _) rfl) ?_
 rintro _ rfl
 refine Tot.yes rfl (Tot.yes (by omega) ?_)
 rw [str_rest]
 refine Tot.bind (value_T n hn0 hn1 d h1 h4 hlt) ?_
 rintro _ rfl
 exact Tot.step (fun k => impl_ReadNum.j0.eq_2 _ _ k) (Tot.yes rfl (Tot.ret rfl))
/-! ### the readers of numbers -/
theorem idxI (D:ByteArray) (c:Int):∃ v,strings_IndexByte.f D c = some v:=⟨_,rfl⟩
theorem preI (s p:ByteArray):∃ b,strings_HasPrefix.f s p = some b:=by
 unfold strings_HasPrefix.f stringslite_HasPrefix.f
 by_cases h:(s.size:Int) ≥ (p.size:Int)
 ·rw [if_pos h,if_pos (by omega),if_pos (by omega)];exact ⟨_,rfl⟩
 ·rw [if_neg h];exact ⟨_,rfl⟩
theorem valT (s D:ByteArray) (hs:s.size ≤ 20):∀ r i:Nat,i + r = s.size → ∀ v:Int,Tot (fun k => impl_valueOf.l0 k s D v (s.size:Int) (i:Int)) (fun _ => True):=by
 intro r
 induction r with
 | zero =>
  intro i hi v
  exact Tot.step (fun k => impl_valueOf.l0.eq_2 _ _ _ _ _ k) (Tot.no (by omega) (Tot.ite (fun _ => Tot.ret trivial) (fun _ => Tot.ret trivial)))
 | succ r ih =>
  intro i hi v
  obtain ⟨t,e⟩:=idxI D (bt s (i:Int))
  refine Tot.step (fun k => impl_valueOf.l0.eq_2 _ _ _ _ _ k) (Tot.yes (by omega) (Tot.yes (by omega) (Tot.yes (by omega) ?_)))
  refine Tot.bind (Tot.of e rfl) ?_
  rintro z rfl
  refine Tot.ite (fun _ => Tot.ret trivial) (fun _ => Tot.ite (fun _ => Tot.ret trivial) (fun _ => ?_))
  rw [w64_in (n:=(i:Int) + 1) (by omega) (by omega)]
  exact ih (i + 1) (by omega) _
theorem valF (s D:ByteArray) (hs:s.size ≤ 20):Tot (fun k => impl_valueOf.f k s D) (fun _ => True):=valT s D hs s.size 0 (by omega) 0
theorem rnj (v:Int) (b:Bool):Tot (fun k => impl_ReadNum.j0 k v b) (fun _ => True) :=
 Tot.step (fun k => impl_ReadNum.j0.eq_2 _ _ k) (Tot.ite (fun _ => Tot.ret trivial) (fun _ => Tot.ret trivial))
theorem ex1 (s:ByteArray) (h:s.size ≤ 20):(s.extract 1 s.size).size ≤ 20:=by rw [ByteArray.size_extract];omega
theorem pre_one {s:ByteArray} {c:UInt8} (h:strings_HasPrefix.f s (⟨#[c]⟩:ByteArray) = some true):1 ≤ s.size:=by
 unfold strings_HasPrefix.f stringslite_HasPrefix.f at h
 have e1:((⟨#[c]⟩:ByteArray).size:Int) = 1:=rfl
 rw [e1] at h
 by_cases c:(s.size:Int) ≥ 1
 ·omega
 ·rw [if_neg c] at h;cases h
theorem rnI (s:ByteArray) (hs:s.size ≤ 20):Tot (fun k => impl_ReadNum.f k s) (fun _ => True):=by
 unfold impl_ReadNum.f
 refine Tot.ite (fun _ => rnj _ _) (fun _ => ?_)
 obtain ⟨b,e⟩:=preI s (⟨#[36]⟩:ByteArray)
 refine Tot.bind (Tot.of e rfl) ?_
 rintro z rfl
 refine Tot.ite (fun hb => ?_) (fun _ => ?_)
 ·subst hb
  have:=pre_one e
  exact Tot.yes (by omega) (Tot.bind (valF _ _ (ex1 s hs)) fun a _ => rnj _ _)
 obtain ⟨b2,e2⟩:=preI s (⟨#[37]⟩:ByteArray)
 refine Tot.bind (Tot.of e2 rfl) ?_
 rintro z2 rfl
 refine Tot.ite (fun hb => ?_) (fun _ => ?_)
 ·subst hb
  have:=pre_one e2
  exact Tot.yes (by omega) (Tot.bind (valF _ _ (ex1 s hs)) fun a _ => rnj _ _)
 exact Tot.bind (valF _ _ hs) fun a _ => rnj _ _
theorem digT (c:Int):Tot (fun k => spec_l1Digit.f k c) (fun _ => True):=by
 have j:∀ b,Tot (fun k => spec_l1Digit.j0 k c b) (fun _ => True):=fun b =>
  Tot.step (fun k => spec_l1Digit.j0.eq_2 _ _ k) (Tot.ite (fun _ => Tot.ret trivial) (fun _ => Tot.ite (fun _ => Tot.ite (fun _ => Tot.ret trivial) (fun _ => Tot.ret trivial)) (fun _ => Tot.ret trivial)))
 unfold spec_l1Digit.f
 exact Tot.ite (fun _ => j _) (fun _ => j _)
theorem baseT (s:ByteArray) (B:Int) (hs:s.size ≤ 20):∀ r i:Nat,i + r = s.size → ∀ v:Int,Tot (fun k => spec_l1Base.l0 k s B v (i:Int)) (fun _ => True):=by
 intro r
 induction r with
 | zero =>
  intro i hi v
  exact Tot.step (fun k => spec_l1Base.l0.eq_2 _ _ _ _ k) (Tot.no (by omega) (Tot.ret trivial))
 | succ r ih =>
  intro i hi v
  refine Tot.step (fun k => spec_l1Base.l0.eq_2 _ _ _ _ k) (Tot.yes (by omega) (Tot.yes (by omega) ?_))
  refine Tot.bind (digT _) fun t _ => ?_
  refine Tot.ite (fun _ => Tot.ret trivial) (fun _ => Tot.ite (fun _ => Tot.ret trivial) (fun _ => ?_))
  rw [w64_in (n:=(i:Int) + 1) (by omega) (by omega)]
  exact ih (i + 1) (by omega) _
theorem baseF (s:ByteArray) (B:Int) (hs:s.size ≤ 20):Tot (fun k => spec_l1Base.f k s B) (fun _ => True):=baseT s B hs s.size 0 (by omega) 0
theorem rnS (s:ByteArray) (hs:s.size ≤ 20):Tot (fun k => spec_ReadNum.f k s) (fun _ => True):=by
 have j:∀ b:Bool,(b = false → 1 ≤ s.size) → Tot (fun k => spec_ReadNum.j0 k s b) (fun _ => True):=by
  intro b hb
  refine Tot.step (fun k => spec_ReadNum.j0.eq_2 _ _ k) (Tot.ite (fun _ => Tot.ret trivial) (fun h => ?_))
  have h1:=hb (by simpa using h)
  refine Tot.yes (by omega) (Tot.ite (fun _ => Tot.yes (by omega) (Tot.bind (baseF _ _ (ex1 s hs)) fun a _ => Tot.ret trivial)) (fun _ => ?_))
  refine Tot.ite (fun _ => Tot.yes (by omega) (Tot.bind (baseF _ _ (ex1 s hs)) fun a _ => Tot.ret trivial)) (fun _ => ?_)
  exact Tot.bind (baseF _ _ hs) fun a _ => Tot.ret trivial
 unfold spec_ReadNum.f
 refine Tot.ite (fun _ => j true (by simp)) (fun _ => j _ (fun h => ?_))
 rcases Nat.eq_zero_or_pos s.size with z | p
 ·have:=(nil_size s).2 z
  rw [this] at h;simp at h
 ·exact p
theorem immS (s:ByteArray) (hs:s.size ≤ 20):Tot (fun k => spec_l3Imm.f k s) (fun _ => True):=by
 have j:∀ b:Bool,(b = true → 1 ≤ s.size) → Tot (fun k => spec_l3Imm.j0 k s b) (fun _ => True):=by
  intro b hb
  refine Tot.step (fun k => spec_l3Imm.j0.eq_2 _ _ k) (Tot.ite (fun h => ?_) (fun h => ?_))
  ·have h1:=hb h
   refine Tot.yes (by omega) (Tot.bind (rnS _ (ex1 s hs)) fun a _ => Tot.ite (fun _ => ?_) (fun _ => Tot.ret trivial))
   refine Tot.bind (Tot.of (inS _ _ _) rfl) ?_
   rintro z rfl
   exact Tot.ite (fun _ => Tot.ret trivial) (fun _ => Tot.ret trivial)
  ·exact Tot.bind (rnS _ hs) fun a _ => Tot.ite (fun _ => Tot.ret trivial) (fun _ => Tot.ret trivial)
 unfold spec_l3Imm.f
 exact Tot.ite (fun _ => Tot.yes (by omega) (j _ (fun _ => by omega))) (fun _ => j _ (by simp))
/-! ### what the readers make of what was filled in -/
def QP (m:Int):Prop:=spec_l3Imm.f 40 (decV (sgV m)) = some m ∧ spec_l3Imm.f 40 (hexV m 2) = some m ∧ parseV (decV (sgV m)) = (sgV m,none) ∧ Go.bits .and .i64 (sgV m) 255 = m ∧ (-128 ≤ sgV m ∧ sgV m ≤ 127)
instance (m:Int):Decidable (QP m):=by unfold QP;infer_instance
set_option maxRecDepth 100000 in
theorem qp':∀ m:Fin 256,QP ((m.val:Nat):Int):=by decide +kernel
theorem qp {m:Int} (h0:0 ≤ m) (h1:m ≤ 255):QP m:=all256 qp' h0 (by omega)
theorem dig_up:∀ v:Fin 16,spec_l1Digit.f 4 (upD (v.val:Int)) = some (v.val:Int):=by decide +kernel
theorem digU {v:Int} (h0:0 ≤ v) (h1:v < 16):Tot (fun k => spec_l1Digit.f k (upD v)) (· = v):=by
 have:=dig_up ⟨v.toNat,by omega⟩
 rw [show ((v.toNat:Nat):Int) = v by omega] at this
 exact Tot.lift (fun k => spec_l1Digit.mono _ k) this rfl
theorem base_loop (n:Int) (hn0:0 ≤ n) (hn1:n ≤ 65535) (d:Nat) (h1:1 ≤ d) (h4:d ≤ 4) (hlt:n < 16 ^ d):∀ r i:Nat,i + r = d → Tot (fun k => spec_l1Base.l0 k (strOfNums (hexUp n d)) 16 (n / 16 ^ (d - i)) (i:Int)) (· = (n,true)):=by
 have hB:=bytesStr (hexUp_bytes n d)
 have hz:(strOfNums (hexUp n d)).size = d:=by rw [strOfNums_size,hexUp_length]
 intro r
 induction r with
 | zero =>
  intro i hi
  obtain rfl:i = d:=by omega
  refine Tot.step (fun k => spec_l1Base.l0.eq_2 _ _ _ _ k) (Tot.no (by omega) (Tot.ret ?_))
  rw [Nat.sub_self,Int.pow_zero,Int.ediv_one]
  congr 1
  rw [bne_iff_ne]
  intro e
  have:=(nil_size _).1 e
  omega
 | succ r ih =>
  intro i hi
  have q0:0 ≤ n / 16 ^ (d - i):=Int.ediv_nonneg hn0 (Int.le_of_lt (pow_pos16 _))
  have q1:n / 16 ^ (d - i) ≤ 65535:=Int.le_trans (Int.ediv_le_self _ hn0) hn1
  have hs:=div_step n (d - 1 - i)
  rw [show d - 1 - i + 1 = d - i by omega] at hs
  have p0:0 ≤ n / 16 ^ (d - 1 - i):=Int.ediv_nonneg hn0 (Int.le_of_lt (pow_pos16 _))
  have p1:n / 16 ^ (d - 1 - i) ≤ 65535:=Int.le_trans (Int.ediv_le_self _ hn0) hn1
  have eb:bt (strOfNums (hexUp n d)) (i:Int) = upD (n / 16 ^ (d - 1 - i) % 16):=by rw [btL,hB,Int.toNat_natCast,hexUp_at n d i (by omega)]
  refine Tot.step (fun k => spec_l1Base.l0.eq_2 _ _ _ _ k) (Tot.yes (by omega) (Tot.yes (by omega) ?_))
  rw [eb]
  refine Tot.bind (digU (by omega) (by omega)) ?_
  rintro _ rfl
  rw [w64_in (n:=n / 16 ^ (d - i) * 16) (by omega) (by omega),w64_in (n:=n / 16 ^ (d - i) * 16 + n / 16 ^ (d - 1 - i) % 16) (by omega) (by omega),w64_in (n:=(i:Int) + 1) (by omega) (by omega)]
  rw [show n / 16 ^ (d - i) * 16 + n / 16 ^ (d - 1 - i) % 16 = n / 16 ^ (d - 1 - i) by omega]
  have:=ih (i + 1) (by omega)
  rw [show d - (i + 1) = d - 1 - i by omega] at this
  exact Tot.no (by omega) (Tot.no (by omega) this)
theorem rnS_hex (n:Int) (hn0:0 ≤ n) (hn1:n ≤ 65535) (d:Nat) (h1:1 ≤ d) (h4:d ≤ 4) (hlt:n < 16 ^ d):Tot (fun k => spec_ReadNum.f k (strOfNums (36 :: hexUp n d))) (· = (n,true)):=by
 have hz:((strOfNums (36 :: hexUp n d)).size:Int) = d + 1:=by rw [strOfNums_size,List.length_cons,hexUp_length];rfl
 have h:=base_loop n hn0 hn1 d h1 h4 hlt d 0 (by omega)
 rw [Nat.sub_zero,Int.ediv_eq_zero_of_lt hn0 hlt] at h
 unfold spec_ReadNum.f
 refine Tot.no (by omega) ?_
 refine Tot.step (fun k => spec_ReadNum.j0.eq_2 _ _ k) (Tot.no ?_ (Tot.yes (by omega) (Tot.yes ?_ (Tot.yes (by omega) ?_))))
 ·intro e
  have:=(nil_size _).1 (eq_of_beq e)
  omega
 ·rw [btL,bytesStr]
  ·rfl
  ·intro x hx
   rcases List.mem_cons.1 hx with rfl | hx
   ·omega
   ·exact hexUp_bytes _ _ x hx
 rw [str_rest]
 refine Tot.bind (g:=fun k => spec_l1Base.f k (strOfNums (hexUp n d)) 16) h ?_
 rintro _ rfl
 exact Tot.ret rfl
theorem immH (n:Int) (hn0:0 ≤ n) (hn1:n ≤ 65535):Tot (fun k => spec_l3Imm.f k (hexV n 4)) (· = n):=by
 have e:hexV n 4 = strOfNums (36 :: hexUp n 4):=by
  have c:(1 ≤ (4:Int) ∧ (4:Int) ≤ 4) ∧ (0 ≤ n ∧ n ≤ 65535) ∧ n < 16 ^ (4:Int).toNat:=⟨by decide,⟨hn0,hn1⟩,by show n < 65536;omega⟩
  rw [hexV,if_pos c];rfl
 have hz:((strOfNums (36 :: hexUp n 4)).size:Int) = 5:=by rw [strOfNums_size,List.length_cons,hexUp_length];rfl
 rw [e]
 unfold spec_l3Imm.f
 refine Tot.yes (by omega) (Tot.yes (by omega) ?_)
 have eb:(bt (strOfNums (36 :: hexUp n 4)) 0 == 45) = false:=by
  rw [btL,bytesStr]
  ·rfl
  ·intro x hx
   rcases List.mem_cons.1 hx with rfl | hx
   ·omega
   ·exact hexUp_bytes _ _ x hx
 rw [eb]
 refine Tot.step (fun k => spec_l3Imm.j0.eq_2 _ _ k) (Tot.no (by decide) ?_)
 refine Tot.bind (rnS_hex n hn0 hn1 4 (by decide) (by decide) (by show n < 65536;omega)) ?_
 rintro _ rfl
 exact Tot.yes rfl (Tot.ret rfl)
theorem imm_fill {h:Nat} (hh:h = 2 ∨ h = 3 ∨ h = 4) {m:Int} (ho:okV h m = true):Tot (fun k => spec_l3Imm.f k (fillV h m)) (· = m):=by
 rcases hh with rfl | rfl | rfl
 ·have hm:0 ≤ m ∧ m ≤ 255:=by simpa [okV] using ho
  exact Tot.lift (fun k => spec_l3Imm.mono _ k) (qp hm.1 hm.2).2.1 rfl
 ·have hm:0 ≤ m ∧ m ≤ 255:=by simpa [okV] using ho
  exact Tot.lift (fun k => spec_l3Imm.mono _ k) (qp hm.1 hm.2).1 rfl
 ·have hm:0 ≤ m ∧ m ≤ 65535:=by simpa [okV] using ho
  exact immH m hm.1 hm.2
theorem num_fill {h:Nat} (hh:h = 2 ∨ h = 4) {m:Int} (ho:okV h m = true):Tot (fun k => impl_ReadNum.f k (fillV h m)) (· = (m,true)):=by
 rcases hh with rfl | rfl
 ·have hm:0 ≤ m ∧ m ≤ 255:=by simpa [okV] using ho
  have e:fillV 2 m = strOfNums (36 :: hexUp m 2):=by
   have c:(1 ≤ (2:Int) ∧ (2:Int) ≤ 4) ∧ (0 ≤ m ∧ m ≤ 65535) ∧ m < 16 ^ (2:Int).toNat:=⟨by decide,⟨hm.1,by omega⟩,by show m < 256;omega⟩
   show hexV m 2 = _
   rw [hexV,if_pos c];rfl
  rw [e]
  exact readNum_T m hm.1 (by omega) 2 (by decide) (by decide) (by show m < 256;omega)
 ·have hm:0 ≤ m ∧ m ≤ 65535:=by simpa [okV] using ho
  have e:fillV 4 m = strOfNums (36 :: hexUp m 4):=by
   have c:(1 ≤ (4:Int) ∧ (4:Int) ≤ 4) ∧ (0 ≤ m ∧ m ≤ 65535) ∧ m < 16 ^ (4:Int).toNat:=⟨by decide,⟨hm.1,by omega⟩,by show m < 65536;omega⟩
   show hexV m 4 = _
   rw [hexV,if_pos c];rfl
  rw [e]
  exact readNum_T m hm.1 hm.2 4 (by decide) (by decide) (by show m < 65536;omega)
theorem fill_pos {h:Nat} (hh:h = 2 ∨ h = 3 ∨ h = 4) {m:Int} (ho:okV h m = true):1 ≤ (fillV h m).size:=by
 rcases Nat.eq_zero_or_pos (fillV h m).size with z | p
 ·exfalso
  rcases hh with rfl | rfl | rfl
  ·have hm:0 ≤ m ∧ m ≤ 255:=by simpa [okV] using ho
   have c:(1 ≤ (2:Int) ∧ (2:Int) ≤ 4) ∧ (0 ≤ m ∧ m ≤ 65535) ∧ m < 16 ^ (2:Int).toNat:=⟨by decide,⟨hm.1,by omega⟩,by show m < 256;omega⟩
   have z:(hexV m 2).size = 0:=z
   rw [hexV,if_pos c,strOfNums_size] at z
   cases z
  ·have q:=qd (n:=sgV m) (by have:=sgV_range m;omega) (by have:=sgV_range m;omega)
   have:=q.2.2.2.1
   have z:(decV (sgV m)).size = 0:=z
   omega
  ·have hm:0 ≤ m ∧ m ≤ 65535:=by simpa [okV] using ho
   have c:(1 ≤ (4:Int) ∧ (4:Int) ≤ 4) ∧ (0 ≤ m ∧ m ≤ 65535) ∧ m < 16 ^ (4:Int).toNat:=⟨by decide,⟨hm.1,by omega⟩,by show m < 65536;omega⟩
   have z:(hexV m 4).size = 0:=z
   rw [hexV,if_pos c,strOfNums_size] at z
   cases z
 ·exact p
end Go.Proofs.YtodlnnoekccmmaaGreatDoor.XIt
