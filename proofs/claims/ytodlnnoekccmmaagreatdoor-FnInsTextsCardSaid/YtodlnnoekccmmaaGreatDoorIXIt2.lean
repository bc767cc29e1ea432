import Derived.Test.YtodlnnoekccmmaaGreatDoorIXIt1
import Derived.Test.YtodlnnoekccmmaaGreatDoorILib
namespace Go.Proofs.YtodlnnoekccmmaaGreatDoor.XIt
open Go.RowKit Go.Proofs.YtodlnnoekccmmaaGreatDoor.QFnInsTexts Go.Proofs.YtodlnnoekccmmaaGreatDoorW.PrintWords Go.Proofs.YtodlnnoekccmmaaGreatDoorW.PrintLast Go.Proofs.YtodlnnoekccmmaaGreatDoorW.PrintMore Go.Proofs.YtodlnnoekccmmaaGreatDoor.Lib Go.Proofs.YtodlnnoekccmmaaGreatDoor.LibX Go.Proofs.YtodlnnoekccmmaaGreatDoor.LibE
set_option linter.unusedSimpArgs false
set_option linter.unusedVariables false
/-! ### a text of an instruction leads back to its template -/
def hexc (c:UInt8):Bool:=(decide (48 ≤ c.toNat) && decide (c.toNat ≤ 57)) || (decide (65 ≤ c.toNat) && decide (c.toNat ≤ 70))
def decC (c:UInt8):Bool:=(decide (48 ≤ c.toNat) && decide (c.toNat ≤ 57)) || decide (c.toNat = 45)
def normD:List UInt8 → List UInt8
 | [] => []
 | c :: t => if c = 36 then (if (t.takeWhile hexc).length = 4 then [110,49,54] else [110,56]) ++ t.dropWhile hexc else c :: normD t
def e8p (s:List UInt8):Bool:=List.isPrefixOf [106,114,32] s || (List.isPrefixOf [97,100,100,32,115,112,44] s || List.isPrefixOf [108,100,32,104,108,44,115,112,43] s)
def rstp (s:List UInt8):Bool:=List.isPrefixOf [114,115,116] s
def strip (s:List UInt8):List UInt8:=(s.reverse.dropWhile decC).reverse
def norm (s:List UInt8):List UInt8:=if e8p s = true then strip s ++ [101,56] else if rstp s = true then s else normD s
def preT (cb:Bool) (n:Int):List UInt8:=(tm cb n).data.toList.take (hp cb n).toNat
def postT (cb:Bool) (n:Int):List UInt8:=(tm cb n).data.toList.drop ((hp cb n).toNat + holeLen (hk cb n))
def QN (cb:Bool) (n:Int):Prop :=
 (hk cb n = 1 → norm (tm cb n).data.toList = (tm cb n).data.toList) ∧
 (hk cb n = 2 ∨ hk cb n = 4 → e8p (preT cb n) = false ∧ rstp (preT cb n) = false ∧ (preT cb n).all (fun c => !(c == 36)) = true ∧ (postT cb n).headD 0 ≠ 48 ∧ hexc ((postT cb n).headD 0) = false ∧ (tm cb n).data.toList = preT cb n ++ (holeS (hk cb n)).data.toList ++ postT cb n) ∧
 (hk cb n = 3 → e8p (preT cb n) = true ∧ postT cb n = [] ∧ decC ((preT cb n).getLastD 48) = false ∧ (tm cb n).data.toList = preT cb n ++ [101,56])
instance (cb:Bool) (n:Int):Decidable (QN cb n):=by unfold QN;infer_instance
set_option maxRecDepth 100000 in
theorem qn1:∀ n:Fin 256,QN true ((n.val:Nat):Int):=by decide +kernel
set_option maxRecDepth 100000 in
theorem qn0:∀ n:Fin 256,QN false ((n.val:Nat):Int):=by decide +kernel
theorem qn (cb:Bool) {n:Int} (h0:0 ≤ n) (h1:n < 256):QN cb n:=by
 cases cb
 ·exact all256 qn0 h0 h1
 ·exact all256 qn1 h0 h1
theorem pre_app {p:List UInt8} (hp:∀ c ∈ p,c ≠ 36):∀ (q r:List UInt8),List.isPrefixOf p (q ++ 36 :: r) = List.isPrefixOf p q:=by
 induction p with
 | nil => intro q r;cases q <;> rfl
 | cons a p ih =>
  intro q r
  have ih:=ih (fun c hc => hp c (List.mem_cons_of_mem _ hc))
  cases q with
  | nil =>
   show ((a == 36) && List.isPrefixOf p r) = false
   rw [beq_eq_false_iff_ne.2 (hp a (List.mem_cons_self ..))];rfl
  | cons b q => show ((a == b) && List.isPrefixOf p (q ++ 36 :: r)) = ((a == b) && List.isPrefixOf p q);rw [ih]
theorem pre_more {p:List UInt8}:∀ (q r:List UInt8),List.isPrefixOf p q = true → List.isPrefixOf p (q ++ r) = true:=by
 induction p with
 | nil => intro q r _;cases q <;> cases r <;> rfl
 | cons a p ih =>
  intro q r h
  cases q with
  | nil => cases h
  | cons b q =>
   have h:((a == b) && List.isPrefixOf p q) = true:=h
   rw [Bool.and_eq_true] at h
   show ((a == b) && List.isPrefixOf p (q ++ r)) = true
   rw [h.1,ih q r h.2];rfl
theorem takeW {p:UInt8 → Bool} {h:List UInt8} (hh:∀ c ∈ h,p c = true) {r:List UInt8} (hr:p (r.headD 0) = false ∨ r = []):(h ++ r).takeWhile p = h ∧ (h ++ r).dropWhile p = r:=by
 induction h with
 | nil =>
  cases r with
  | nil => exact ⟨rfl,rfl⟩
  | cons a r =>
   have e:p a = false:=hr.resolve_right (by simp)
   rw [List.nil_append,List.takeWhile_cons,List.dropWhile_cons,e]
   exact ⟨rfl,rfl⟩
 | cons a h ih =>
  obtain ⟨i1,i2⟩:=ih (fun c hc => hh c (List.mem_cons_of_mem _ hc))
  have e:=hh a (List.mem_cons_self ..)
  rw [List.cons_append,List.takeWhile_cons,List.dropWhile_cons,e]
  exact ⟨by rw [if_pos rfl,i1],by rw [if_pos rfl,i2]⟩
theorem normD_at {q h r:List UInt8} (hq:∀ c ∈ q,c ≠ 36) (hh:∀ c ∈ h,hexc c = true) (hr:hexc (r.headD 0) = false):normD (q ++ 36 :: (h ++ r)) = q ++ (if h.length = 4 then [110,49,54] else [110,56]) ++ r:=by
 induction q with
 | nil =>
  obtain ⟨t1,t2⟩:=takeW (p:=hexc) hh (.inl hr)
  rw [List.nil_append,normD,if_pos rfl,t1,t2];rfl
 | cons a q ih =>
  rw [List.cons_append,normD,if_neg (hq a (List.mem_cons_self ..)),ih (fun c hc => hq c (List.mem_cons_of_mem _ hc))]
  rfl
theorem strip_at {q d:List UInt8} (hd:∀ c ∈ d,decC c = true) (hl:decC (q.getLastD 48) = false):strip (q ++ d) = q:=by
 unfold strip
 rw [List.reverse_append]
 have hr:∀ c ∈ d.reverse,decC c = true:=fun c hc => hd c (List.mem_reverse.1 hc)
 have hq:decC (q.reverse.headD 0) = false ∨ q.reverse = []:=by
  cases hz:q.reverse with
  | nil => exact .inr rfl
  | cons a l =>
   left
   have:q.getLastD 48 = a:=by
    have e:q = l.reverse ++ [a]:=by rw [← List.reverse_reverse q,hz];simp
    rw [e,List.getLastD_eq_getLast?];simp
   rw [this] at hl
   exact hl
 rw [(takeW hr hq).2,List.reverse_reverse]
theorem upD_hex:∀ v:Fin 16,hexc (UInt8.ofNat (upD (v.val:Int)).toNat) = true:=by decide
theorem hexUp_hex (m:Int):∀ k:Nat,∀ x ∈ hexUp m k,hexc (UInt8.ofNat x.toNat) = true
 | 0,x,h => absurd h (by simp [hexUp])
 | k + 1,x,h => by
  rw [hexUp] at h
  rcases List.mem_cons.1 h with rfl | h
  ·have:=upD_hex ⟨((m / 16 ^ k) % 16).toNat,by omega⟩
   simp only [show ((((m / 16 ^ k) % 16).toNat:Nat):Int) = (m / 16 ^ k) % 16 by omega] at this
   exact this
  ·exact hexUp_hex m k x h
theorem hexV_data {m d:Int} (h:(1 ≤ d ∧ d ≤ 4) ∧ (0 ≤ m ∧ m ≤ 65535) ∧ m < 16 ^ d.toNat):∃ l,(hexV m d).data.toList = 36 :: l ∧ l.length = d.toNat ∧ ∀ c ∈ l,hexc c = true:=by
 unfold hexV
 rw [if_pos h,strOfNums_data]
 refine ⟨(hexUp m d.toNat).map (fun x => UInt8.ofNat x.toNat),rfl,by rw [List.length_map,hexUp_length],fun c hc => ?_⟩
 obtain ⟨x,hx,rfl⟩:=List.mem_map.1 hc
 exact hexUp_hex m _ x hx
def QE (n:Int):Prop:=(decV n).data.toList.all decC = true
instance (n:Int):Decidable (QE n):=by unfold QE;infer_instance
set_option maxRecDepth 100000 in
theorem qe':∀ n:Fin 430,QE ((n.val:Int) - 130):=by decide +kernel
theorem qe {n:Int} (h0:-130 ≤ n) (h1:n < 300):QE n:=by
 have:=qe' ⟨(n + 130).toNat,by omega⟩
 rwa [show (((n + 130).toNat:Nat):Int) - 130 = n by omega] at this
/-- What a text is,by its template: its parts. -/
theorem txt_parts (cb:Bool) {n:Int} (h0:0 ≤ n) (h1:n < 256) {m:Int} (ho:okV (hk cb n) m = true) (hh:2 ≤ hk cb n):(txtV cb n m).data.toList = preT cb n ++ (fillV (hk cb n) m).data.toList ++ postT cb n:=by
 have q:=(qx cb h0 h1).2.2 hh
 unfold txtV putV preT postT
 rw [if_pos ho,if_neg (by omega)]
 have ed:∀ (s:ByteArray) (i j:Nat),(s.extract i j).data.toList = (s.data.toList.drop i).take (j - i):=fun s i j => by
  rw [ByteArray.data_extract,Array.toList_extract,List.extract_eq_take_drop]
 rw [ByteArray.data_append,Array.toList_append,ByteArray.data_append,Array.toList_append,ed,ed,List.drop_zero,Nat.sub_zero]
 congr 1
 rw [show (hp cb n + (holeLen (hk cb n):Int)).toNat = (hp cb n).toNat + holeLen (hk cb n) by omega]
 rw [List.take_of_length_le]
 rw [List.length_drop,Array.length_toList]
 exact Nat.le_refl _
theorem norm_txt (cb:Bool) {n:Int} (h0:0 ≤ n) (h1:n < 256) {m:Int} (ho:okV (hk cb n) m = true):norm (txtV cb n m).data.toList = (tm cb n).data.toList:=by
 have hle:=hk_le cb h0 h1
 obtain ⟨n1,n2,n3⟩:=qn cb h0 h1
 have hne:hk cb n ≠ 0:=fun e => by rw [e] at ho;exact absurd ho (by simp [okV])
 rcases (show hk cb n = 1 ∨ hk cb n = 2 ∨ hk cb n = 4 ∨ hk cb n = 3 by omega) with e | e | e | e
 ·have:txtV cb n m = tm cb n:=by unfold txtV;rw [if_pos ho,if_pos (by omega)]
  rw [this];exact n1 e
 ·have hx:∃ l,(fillV (hk cb n) m).data.toList = 36 :: l ∧ (l.length = 2) ∧ ∀ c ∈ l,hexc c = true:=by
   rw [e] at ho ⊢
   have hm:0 ≤ m ∧ m ≤ 255:=by simpa [okV] using ho
   exact hexV_data (m:=m) (d:=2) ⟨by decide,by omega,by show m < 256;omega⟩
  obtain ⟨l,l1,l2,l3⟩:=hx
  obtain ⟨p1,p2,p3,_,p5,p6⟩:=n2 (.inl e)
  have p3:∀ c ∈ preT cb n,c ≠ 36:=fun c hc => by simpa using List.all_eq_true.1 p3 c hc
  rw [txt_parts cb h0 h1 ho (by omega),l1,p6,e]
  rw [show preT cb n ++ 36 :: l ++ postT cb n = preT cb n ++ 36 :: (l ++ postT cb n) by simp]
  unfold norm
  have q1:e8p (preT cb n ++ 36 :: (l ++ postT cb n)) = false:=by
   unfold e8p at p1 ⊢
   rw [pre_app (by decide),pre_app (by decide),pre_app (by decide)];exact p1
  have q2:rstp (preT cb n ++ 36 :: (l ++ postT cb n)) = false:=by
   unfold rstp at p2 ⊢
   rw [pre_app (by decide)];exact p2
  rw [q1,q2,if_neg (by decide),if_neg (by decide),normD_at p3 l3 p5,l2]
  rfl
 ·have hx:∃ l,(fillV (hk cb n) m).data.toList = 36 :: l ∧ (l.length = 4) ∧ ∀ c ∈ l,hexc c = true:=by
   rw [e] at ho ⊢
   have hm:0 ≤ m ∧ m ≤ 65535:=by simpa [okV] using ho
   exact hexV_data (m:=m) (d:=4) ⟨by decide,by omega,by show m < 65536;omega⟩
  obtain ⟨l,l1,l2,l3⟩:=hx
  obtain ⟨p1,p2,p3,_,p5,p6⟩:=n2 (.inr e)
  have p3:∀ c ∈ preT cb n,c ≠ 36:=fun c hc => by simpa using List.all_eq_true.1 p3 c hc
  rw [txt_parts cb h0 h1 ho (by omega),l1,p6,e]
  rw [show preT cb n ++ 36 :: l ++ postT cb n = preT cb n ++ 36 :: (l ++ postT cb n) by simp]
  unfold norm
  have q1:e8p (preT cb n ++ 36 :: (l ++ postT cb n)) = false:=by
   unfold e8p at p1 ⊢
   rw [pre_app (by decide),pre_app (by decide),pre_app (by decide)];exact p1
  have q2:rstp (preT cb n ++ 36 :: (l ++ postT cb n)) = false:=by
   unfold rstp at p2 ⊢
   rw [pre_app (by decide)];exact p2
  rw [q1,q2,if_neg (by decide),if_neg (by decide),normD_at p3 l3 p5,l2]
  rfl
 ·obtain ⟨p1,p2,p3,p4⟩:=n3 e
  have rg:=sgV_range m
  have hd:∀ c ∈ (fillV (hk cb n) m).data.toList,decC c = true:=by
   rw [e]
   exact List.all_eq_true.1 (qe (n:=sgV m) (by omega) (by omega))
  rw [txt_parts cb h0 h1 ho (by omega),p2,p4,List.append_nil]
  unfold norm
  have q1:e8p (preT cb n ++ (fillV (hk cb n) m).data.toList) = true:=by
   unfold e8p at p1 ⊢
   simp only [Bool.or_eq_true] at p1 ⊢
   rcases p1 with p | p | p
   ·exact .inl (pre_more _ _ p)
   ·exact .inr (.inl (pre_more _ _ p))
   ·exact .inr (.inr (pre_more _ _ p))
  rw [q1,if_pos rfl,strip_at hd p3]
/-- One text,one code. -/
theorem one_code {cb cb':Bool} {n n' m m':Int} (h0:0 ≤ n) (h1:n < 256) (g0:0 ≤ n') (g1:n' < 256) (ho:okV (hk cb n) m = true) (ho':okV (hk cb' n') m' = true) (e:txtV cb n m = txtV cb' n' m'):cb = cb' ∧ n = n':=by
 have e1:=norm_txt cb h0 h1 ho
 have e2:=norm_txt cb' g0 g1 ho'
 rw [e] at e1
 have et:(tm cb' n').data.toList = (tm cb n).data.toList:=e2.symm.trans e1
 have et:tm cb' n' = tm cb n:=ByteArray.ext (Array.toList_inj.1 et)
 have hz:(tm cb n).size ≠ 0:=fun z => by
  have:=(qc cb h0 h1).2.2.1.1 z
  rw [this] at ho
  exact absurd ho (by simp [okV])
 have hix:ix cb n = ix cb' n':=Classical.byContradiction fun hne => two h0 h1 g0 g1 hne hz et
 unfold ix at hix
 cases cb <;> cases cb' <;> simp at hix ⊢ <;> omega
end Go.Proofs.YtodlnnoekccmmaaGreatDoor.XIt
