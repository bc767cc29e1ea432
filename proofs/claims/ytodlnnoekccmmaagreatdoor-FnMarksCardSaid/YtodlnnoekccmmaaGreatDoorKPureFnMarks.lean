import Derived.Test.YtodlnnoekccmmaaGreatDoorKQFnMarksx
import Derived.Test.YtodlnnoekccmmaaGreatDoorKLib
namespace Go.Proofs.YtodlnnoekccmmaaGreatDoor.Pure
open Go.RowKit Go.Proofs.YtodlnnoekccmmaaGreatDoor.QFnMarks Go.Proofs.YtodlnnoekccmmaaGreatDoorW.PrintWords Go.Proofs.YtodlnnoekccmmaaGreatDoorW.PrintLast Go.Proofs.YtodlnnoekccmmaaGreatDoorW.PrintMore Go.Proofs.YtodlnnoekccmmaaGreatDoor.Lib Go.Proofs.YtodlnnoekccmmaaGreatDoor.LibX Go.Proofs.YtodlnnoekccmmaaGreatDoor.LibE
set_option linter.unusedSimpArgs false
set_option linter.unusedVariables false
set_option linter.unusedSectionVars false
def Tot {α:Type} (g:Nat → Option α) (P:α → Prop):Prop:=∃ K r,P r ∧ ∀ k,K ≤ k → g k = some r
theorem Tot.ret {α:Type} {r:α} {P:α → Prop} (h:P r):Tot (fun _ => some r) P:=⟨0,r,h,fun _ _ => rfl⟩
theorem Tot.of {α:Type} {g:Option α} {r:α} {P:α → Prop} (e:g = some r) (h:P r):Tot (fun _ => g) P:=⟨0,r,h,fun _ _ => e⟩
theorem Tot.bind {α β:Type} {g:Nat → Option α} {f:Nat → α → Option β} {P:α → Prop} {Q:β → Prop} (h:Tot g P) (hf:∀ a,P a → Tot (fun k => f k a) Q):Tot (fun k => (g k).bind (f k)) Q:=by
 obtain ⟨K,a,ha,hg⟩:=h
 obtain ⟨L,r,hr,hk⟩:=hf a ha
 exact ⟨max K L,r,hr,fun k hk' => by show (g k).bind (f k) = some r;rw [hg k (by omega)];exact hk k (by omega)⟩
theorem Tot.ite {α:Type} {c:Prop} [Decidable c] {g f:Nat → Option α} {P:α → Prop} (h1:c → Tot g P) (h2:¬ c → Tot f P):Tot (fun k => if c then g k else f k) P:=by
 by_cases h:c
 ·obtain ⟨K,r,hr,hk⟩:=h1 h
  exact ⟨K,r,hr,fun k hk' => by show (if c then g k else f k) = some r;rw [if_pos h];exact hk k hk'⟩
 ·obtain ⟨K,r,hr,hk⟩:=h2 h
  exact ⟨K,r,hr,fun k hk' => by show (if c then g k else f k) = some r;rw [if_neg h];exact hk k hk'⟩
theorem Tot.yes {α:Type} {c:Prop} [Decidable c] {g f:Nat → Option α} {P:α → Prop} (h:c) (h1:Tot g P):Tot (fun k => if c then g k else f k) P:=Tot.ite (fun _ => h1) (fun n => absurd h n)
theorem Tot.no {α:Type} {c:Prop} [Decidable c] {g f:Nat → Option α} {P:α → Prop} (h:¬ c) (h1:Tot f P):Tot (fun k => if c then g k else f k) P:=Tot.ite (fun n => absurd n h) (fun _ => h1)
theorem Tot.mono {α:Type} {g:Nat → Option α} {P Q:α → Prop} (h:Tot g P) (hi:∀ a,P a → Q a):Tot g Q:=by
 obtain ⟨K,r,hr,hk⟩:=h
 exact ⟨K,r,hi r hr,hk⟩
theorem Tot.step {α:Type} {g f:Nat → Option α} {P:α → Prop} (h:∀ k,g (k + 1) = f k) (hf:Tot f P):Tot g P:=by
 obtain ⟨K,r,hr,hk⟩:=hf
 exact ⟨K + 1,r,hr,fun k hk' => by obtain ⟨m,rfl⟩:∃ m,k = m + 1:=⟨k - 1,by omega⟩;rw [h];exact hk m (by omega)⟩
theorem Tot.lift {α:Type} {g:Nat → Option α} {P:α → Prop} (hm:∀ k,LeO (g k) (g (k + 1))) {k:Nat} {r:α} (e:g k = some r) (h:P r):Tot g P:=⟨k,r,h,fun _ hk => at_rounds hm hk e⟩
theorem Tot.eq {α:Type} {g:Nat → Option α} {r:α} (h:Tot g (fun x => x = r)):∃ K,∀ k,K ≤ k → g k = some r:=by
 obtain ⟨K,x,hx,hk⟩:=h
 subst hx
 exact ⟨K,hk⟩
theorem Tot.done {g:Nat → Option Bool} (h:Tot g (fun x => x = true)):∃ k,g k = some true:=by
 obtain ⟨K,hk⟩:=h.eq
 exact ⟨K,hk K (Nat.le_refl _)⟩
def RdOk (s:List Int) (p:Int):Prop:=0 ≤ p ∧ p ≤ s.length ∧ s.length ≤ 1048576 ∧ ∀ x ∈ s,0 ≤ x ∧ x ≤ 255
theorem rd_mem {s:List Int} {p:Int} (h0:0 ≤ p) (h1:p < (s.length:Int)):rd s p ∈ s:=by
 unfold rd
 rw [List.getD_eq_getElem?_getD,List.getElem?_eq_getElem (by omega)]
 exact List.getElem_mem _
theorem open_tot {l:List Int} (hl:l.length ≤ 1048576) (hb:∀ x ∈ l,0 ≤ x ∧ x ≤ 255):spec_l1Open.f l = some (l,0) ∧ RdOk l 0 :=
 ⟨rfl,by omega,by omega,hl,hb⟩
theorem next_tot {s:List Int} {p:Int} (h:RdOk s p):∃ v q,spec_l1Rd_next.f s p = some (v,q) ∧ 0 ≤ v ∧ v ≤ 255 ∧ RdOk s q:=by
 obtain ⟨h0,h1,h2,h3⟩:=h
 unfold spec_l1Rd_next.f
 by_cases c:p ≥ (s.length:Int)
 ·rw [if_pos c]
  exact ⟨0,p,rfl,by omega,by omega,h0,h1,h2,h3⟩
 ·have hm:=h3 _ (rd_mem h0 (show p < (s.length:Int) by omega))
  have e:p + 1 - 1 = p:=by omega
  rw [if_neg c,w64_in (n:=p + 1) (by omega) (by omega),w64_in (n:=p + 1 - 1) (by omega) (by omega),e,if_pos h0,if_pos (by omega),w64_in (n:=rd s p) (by omega) (by omega)]
  exact ⟨_,_,rfl,hm.1,hm.2,by omega,by omega,h2,h3⟩
theorem below_tot {s:List Int} {p:Int} (h:RdOk s p) (n:Int):∃ v q,spec_l1Rd_below.f s p n = some (v,q) ∧ 0 ≤ v ∧ (1 ≤ n → v < n) ∧ RdOk s q:=by
 unfold spec_l1Rd_below.f
 by_cases c:n ≤ 1
 ·rw [if_pos c]
  exact ⟨0,p,rfl,by omega,by omega,h⟩
 ·rw [if_neg c]
  obtain ⟨v,q,e1,v0,v1,h1⟩:=next_tot h
  by_cases c2:n ≤ 256
  ·rw [if_pos c2,e1]
   simp only [Option.bind_some]
   rw [if_neg (by omega),tmod_pos _ v0]
   exact ⟨_,_,rfl,Int.emod_nonneg _ (by omega),fun _ => Int.emod_lt_of_pos _ (by omega),h1⟩
  ·obtain ⟨u,r,e2,u0,u1,h2⟩:=next_tot h1
   rw [if_neg c2,e1]
   simp only [Option.bind_some]
   rw [e2]
   simp only [Option.bind_some]
   rw [if_neg (by omega),w64_in (n:=v * 256) (by omega) (by omega),w64_in (n:=v * 256 + u) (by omega) (by omega),tmod_pos _ (by omega)]
   exact ⟨_,_,rfl,Int.emod_nonneg _ (by omega),fun _ => Int.emod_lt_of_pos _ (by omega),h2⟩
theorem once_tot {s:List Int} {p:Int} (h:RdOk s p) (n:Int):∃ b q,spec_l1Rd_once.f s p n = some (b,q) ∧ RdOk s q:=by
 obtain ⟨v,q,e,_,_,hq⟩:=below_tot h n
 unfold spec_l1Rd_once.f
 rw [e]
 exact ⟨_,_,rfl,hq⟩
theorem word_tot_l {s:List Int}:∀ (k:Nat) (x i p:Int),RdOk s p → 0 ≤ i → i ≤ 8 → 8 - i < k → ∃ v q,spec_l1Rd_word.l0 k x i s p = some (v,q) ∧ RdOk s q:=by
 intro k
 induction k with
 | zero => intros;omega
 | succ k ih =>
  intro x i p h i0 i1 hk
  simp only [spec_l1Rd_word.l0]
  by_cases c:i < 8
  ·obtain ⟨v,q,e,_,_,hq⟩:=next_tot h
   rw [if_pos c,e]
   simp only [Option.bind_some]
   rw [w64_in (n:=i + 1) (by omega) (by omega)]
   exact ih _ _ _ hq (by omega) (by omega) (by omega)
  ·rw [if_neg c]
   exact ⟨_,_,rfl,h⟩
theorem word_tot {s:List Int} {p:Int} (h:RdOk s p) {k:Nat} (hk:9 ≤ k):∃ v q,spec_l1Rd_word.f k s p = some (v,q) ∧ RdOk s q :=
 word_tot_l k 0 0 p h (by omega) (by omega) (by omega)
theorem near_tot {s:List Int} {p:Int} (h:RdOk s p) {k:Nat} (hk:9 ≤ k) (lo hi:Int) (hlo:-4294967296 ≤ lo) (hhi:hi ≤ 4294967296):∃ v q,spec_l1Rd_near.f k s p lo hi = some (v,q) ∧ RdOk s q:=by
 unfold spec_l1Rd_near.f
 obtain ⟨v,q,e,_,_,hq⟩:=below_tot h 8
 rw [e]
 simp only [Option.bind_some]
 by_cases c0:v = 0
 ·rw [if_pos c0];exact ⟨_,_,rfl,hq⟩
 ·rw [if_neg c0]
  by_cases c1:v = 1
  ·rw [if_pos c1];exact ⟨_,_,rfl,hq⟩
  ·rw [if_neg c1]
   by_cases c2:hi < lo
   ·rw [if_pos c2];exact ⟨_,_,rfl,hq⟩
   ·rw [if_neg c2]
    obtain ⟨x,r,e2,hr⟩:=word_tot hq hk
    rw [e2]
    simp only [Option.bind_some]
    rw [w64_in (n:=hi - lo) (by omega) (by omega),w64_in (n:=hi - lo + 1) (by omega) (by omega),u64_in (n:=hi - lo + 1) (by omega) (by omega),if_neg (by omega)]
    exact ⟨_,_,rfl,hr⟩
theorem off_tot {s:List Int} {p:Int} (h:RdOk s p) {k:Nat} (hk:9 ≤ k) (lo hi:Int) (hlo:-4294967296 ≤ lo) (hhi:hi ≤ 4294967296):∃ v q,spec_l1Rd_off.f k s p lo hi = some (v,q) ∧ RdOk s q:=by
 unfold spec_l1Rd_off.f
 obtain ⟨b,q,e,hq⟩:=once_tot h 24
 rw [e]
 simp only [Option.bind_some]
 by_cases c:b = true
 ·rw [if_pos c]
  obtain ⟨v,r,e2,v0,v1,hr⟩:=below_tot hq 4
  rw [e2]
  simp only [Option.bind_some]
  have v4:=v1 (by omega)
  rw [if_pos v0,if_pos (by simp only [List.length_cons,List.length_nil];omega)]
  exact ⟨_,_,rfl,hr⟩
 ·rw [if_neg c]
  obtain ⟨v,r,e2,hr⟩:=near_tot hq hk lo hi hlo hhi
  rw [e2]
  exact ⟨_,_,rfl,hr⟩
theorem byte_tot {s:List Int} {p:Int} (h:RdOk s p):∃ v q,spec_l1Rd_byte.f s p = some (v,q) ∧ 0 ≤ v ∧ v ≤ 255 ∧ RdOk s q:=by
 unfold spec_l1Rd_byte.f
 obtain ⟨b,q,e,hq⟩:=once_tot h 2
 rw [e]
 simp only [Option.bind_some]
 by_cases c:b = true
 ·rw [if_pos c]
  obtain ⟨v,r,e2,v0,v1,hr⟩:=below_tot hq 8
  rw [e2]
  simp only [Option.bind_some]
  have v4:=v1 (by omega)
  rw [if_pos v0,if_pos (by simp only [List.length_cons,List.length_nil];omega)]
  refine ⟨_,_,rfl,?_,?_,hr⟩
  ·rcases (show v = 0 ∨ v = 1 ∨ v = 2 ∨ v = 3 ∨ v = 4 ∨ v = 5 ∨ v = 6 ∨ v = 7 by omega) with rfl | rfl | rfl | rfl | rfl | rfl | rfl | rfl <;> decide
  ·rcases (show v = 0 ∨ v = 1 ∨ v = 2 ∨ v = 3 ∨ v = 4 ∨ v = 5 ∨ v = 6 ∨ v = 7 by omega) with rfl | rfl | rfl | rfl | rfl | rfl | rfl | rfl <;> decide
 ·rw [if_neg c]
  obtain ⟨v,r,e2,v0,v1,hr⟩:=below_tot hq 256
  rw [e2]
  have:=v1 (by omega)
  exact ⟨_,_,rfl,v0,by omega,hr⟩
theorem bytes_wf {l:List Int} (h:∀ x ∈ l,(Lit.int .u8 x).wf = true):∀ x ∈ l,0 ≤ x ∧ x ≤ 255:=by
 intro x hx
 have h1:=h x hx
 have e0:IntKind.u8.min = 0:=rfl
 have e1:IntKind.u8.max = 255:=rfl
 simp only [Lit.wf,e0,e1,Bool.and_eq_true,decide_eq_true_eq] at h1
 exact h1
theorem below_T {s:List Int} {p:Int} (h:RdOk s p) (n:Int):Tot (fun _ => spec_l1Rd_below.f s p n) (fun r => 0 ≤ r.1 ∧ (1 ≤ n → r.1 < n) ∧ RdOk s r.2):=by
 obtain ⟨v,q,e,h0,h1,h2⟩:=below_tot h n
 exact Tot.of e ⟨h0,h1,h2⟩
theorem once_T {s:List Int} {p:Int} (h:RdOk s p) (n:Int):Tot (fun _ => spec_l1Rd_once.f s p n) (fun r => RdOk s r.2):=by
 obtain ⟨v,q,e,h0⟩:=once_tot h n
 exact Tot.of e h0
theorem byte_T {s:List Int} {p:Int} (h:RdOk s p):Tot (fun _ => spec_l1Rd_byte.f s p) (fun r => 0 ≤ r.1 ∧ r.1 ≤ 255 ∧ RdOk s r.2):=by
 obtain ⟨v,q,e,h0,h1,h2⟩:=byte_tot h
 exact Tot.of e ⟨h0,h1,h2⟩
theorem off_T {s:List Int} {p:Int} (h:RdOk s p) (lo hi:Int) (hlo:-4294967296 ≤ lo) (hhi:hi ≤ 4294967296):Tot (fun k => spec_l1Rd_off.f k s p lo hi) (fun r => RdOk s r.2):=by
 obtain ⟨v,q,e,h2⟩:=off_tot h (k:=9) (Nat.le_refl _) lo hi hlo hhi
 exact Tot.lift (fun k => spec_l1Rd_off.mono _ _ _ _ k) e h2
theorem all256 {P:Int → Prop} (h:∀ n:Fin 256,P ((n.val:Nat):Int)) {n:Int} (h0:0 ≤ n) (h1:n < 256):P n:=by
 have:=h ⟨n.toNat,by omega⟩
 rwa [show ((n.toNat:Nat):Int) = n by omega] at this
def vS (o:Option ByteArray):ByteArray:=o.getD ⟨#[]⟩
def tm (cb:Bool) (n:Int):ByteArray:=vS (impl_TemplateOf.f 40 n cb)
def hk (cb:Bool) (n:Int):Nat :=
 if (tm cb n).size = 0 then 0 else
 match impl_holeOf.f 40 (tm cb n) with
 | some h => if h = ⟨#[110,56]⟩ then 2 else if h = ⟨#[101,56]⟩ then 3 else if h = ⟨#[110,49,54]⟩ then 4 else 1
 | none => 9
def holeS (h:Nat):ByteArray:=if h = 2 then ⟨#[110,56]⟩ else if h = 3 then ⟨#[101,56]⟩ else if h = 4 then ⟨#[110,49,54]⟩ else ⟨#[]⟩
def lenK (cb:Bool) (h:Nat):Int:=if h = 0 then 0 else if cb = true then 2 else if h = 1 then 1 else if h = 4 then 3 else 2
def hp (cb:Bool) (n:Int):Int:=match spec_l3Hole.f 40 (tm cb n) with
 | some r => r.1
 | none => -2
def QC (cb:Bool) (n:Int):Prop :=
 impl_TemplateOf.f 40 n cb = some (tm cb n) ∧ spec_l3Template.f 40 n cb = some (tm cb n) ∧ ((tm cb n).size = 0 ↔ hk cb n = 0) ∧ hk cb n ≤ 4 ∧
 impl_holeOf.f 40 (tm cb n) = some (holeS (hk cb n)) ∧ spec_l3Hole.f 40 (tm cb n) = some (hp cb n,holeS (hk cb n)) ∧ (cb = true → hk cb n = 1) ∧ (tm cb n).size ≤ 24 ∧ (cb = false → n = 203 → hk cb n = 0)
instance (cb:Bool) (n:Int):Decidable (QC cb n):=by unfold QC;infer_instance
set_option maxRecDepth 100000 in
theorem qc1:∀ n:Fin 256,QC true ((n.val:Nat):Int):=by decide +kernel
set_option maxRecDepth 100000 in
theorem qc0:∀ n:Fin 256,QC false ((n.val:Nat):Int):=by decide +kernel
theorem qc (cb:Bool) {n:Int} (h0:0 ≤ n) (h1:n < 256):QC cb n:=by
 cases cb
 ·exact all256 qc0 h0 h1
 ·exact all256 qc1 h0 h1
theorem toL (a:ByteArray):a.toList = a.data.toList:=ByteArray.toList_eq a
theorem nil_size (a:ByteArray):a.toList = ([]:List UInt8) ↔ a.size = 0:=by
 rw [toL]
 constructor
 ·intro h
  have:=congrArg List.length h
  rwa [Array.length_toList] at this
 ·intro h
  exact List.eq_nil_of_length_eq_zero (by rw [Array.length_toList];exact h)
theorem holeS_nil (h:Nat) (hh:h ≤ 4):(holeS h).toList = ([]:List UInt8) ↔ h ≤ 1:=by
 rw [toL]
 rcases (show h = 0 ∨ h = 1 ∨ h = 2 ∨ h = 3 ∨ h = 4 by omega) with rfl | rfl | rfl | rfl | rfl <;> decide
theorem holeS_n16 (h:Nat) (hh:h ≤ 4):(holeS h).toList = ([110,49,54]:List UInt8) ↔ h = 4:=by
 rw [toL]
 rcases (show h = 0 ∨ h = 1 ∨ h = 2 ∨ h = 3 ∨ h = 4 by omega) with rfl | rfl | rfl | rfl | rfl <;> decide
theorem holeS_n8 (h:Nat) (hh:h ≤ 4):(holeS h).toList = ([110,56]:List UInt8) ↔ h = 2:=by
 rw [toL]
 rcases (show h = 0 ∨ h = 1 ∨ h = 2 ∨ h = 3 ∨ h = 4 by omega) with rfl | rfl | rfl | rfl | rfl <;> decide
theorem holeS_e8 (h:Nat) (hh:h ≤ 4):(holeS h).toList = ([101,56]:List UInt8) ↔ h = 3:=by
 rw [toL]
 rcases (show h = 0 ∨ h = 1 ∨ h = 2 ∨ h = 3 ∨ h = 4 by omega) with rfl | rfl | rfl | rfl | rfl <;> decide
theorem tmI_T (cb:Bool) {n:Int} (h0:0 ≤ n) (h1:n < 256):Tot (fun k => impl_TemplateOf.f k n cb) (· = tm cb n) :=
 Tot.lift (fun k => impl_TemplateOf.mono _ _ k) (qc cb h0 h1).1 rfl
theorem tmS_T (cb:Bool) {n:Int} (h0:0 ≤ n) (h1:n < 256):Tot (fun k => spec_l3Template.f k n cb) (· = tm cb n) :=
 Tot.lift (fun k => spec_l3Template.mono _ _ k) (qc cb h0 h1).2.1 rfl
theorem hoI_T (cb:Bool) {n:Int} (h0:0 ≤ n) (h1:n < 256):Tot (fun k => impl_holeOf.f k (tm cb n)) (· = holeS (hk cb n)) :=
 Tot.lift (fun k => impl_holeOf.mono _ k) (qc cb h0 h1).2.2.2.2.1 rfl
theorem hoS_T (cb:Bool) {n:Int} (h0:0 ≤ n) (h1:n < 256):Tot (fun k => spec_l3Hole.f k (tm cb n)) (· = (hp cb n,holeS (hk cb n))) :=
 Tot.lift (fun k => spec_l3Hole.mono _ k) (qc cb h0 h1).2.2.2.2.2.1 rfl
theorem hk_le (cb:Bool) {n:Int} (h0:0 ≤ n) (h1:n < 256):hk cb n ≤ 4:=(qc cb h0 h1).2.2.2.1
theorem tm_nil (cb:Bool) {n:Int} (h0:0 ≤ n) (h1:n < 256):(tm cb n).toList = ([]:List UInt8) ↔ hk cb n = 0:=(nil_size _).trans (qc cb h0 h1).2.2.1
theorem hk_cb {n:Int} (h0:0 ≤ n) (h1:n < 256):hk true n = 1:=(qc true h0 h1).2.2.2.2.2.2.1 rfl
theorem withinI (a lo hi:Int):impl_within.f a lo hi = some (decide (lo ≤ a ∧ a ≤ hi)):=by
 unfold impl_within.f
 by_cases h:a ≥ lo
 ·rw [if_pos h];simp [show lo ≤ a from h]
 ·rw [if_neg h];simp [show ¬ lo ≤ a from h]
theorem inS (a lo hi:Int):spec_l1In.f a lo hi = some (decide (lo ≤ a ∧ a ≤ hi)):=by
 unfold spec_l1In.f
 by_cases h:a ≥ lo
 ·rw [if_pos h];simp [show lo ≤ a from h]
 ·rw [if_neg h];simp [show ¬ lo ≤ a from h]
theorem byteI (a:Int):impl_isByte.f a = some (decide (0 ≤ a ∧ a ≤ 255)):=by unfold impl_isByte.f;rw [withinI];rfl
theorem lenJ (k:Nat) (h:ByteArray) (x:Bool):impl_LengthOf.j0 (k + 1) h x = if x = true then some 2 else if h.toList = ([110,49,54]:List UInt8) then some 3 else some 1:=by
 rw [impl_LengthOf.j0]
theorem lenI_T (cb:Bool) {n:Int} (h0:0 ≤ n) (h1:n < 256):Tot (fun k => impl_LengthOf.f k n cb) (· = lenK cb (hk cb n)):=by
 have hle:=hk_le cb h0 h1
 unfold impl_LengthOf.f
 refine Tot.bind (tmI_T cb h0 h1) ?_
 rintro _ rfl
 refine Tot.bind (hoI_T cb h0 h1) ?_
 rintro _ rfl
 unfold lenK
 refine Tot.ite (fun h => Tot.ret (by rw [if_pos ((tm_nil cb h0 h1).1 h)])) (fun h => ?_)
 rw [if_neg (fun e => h ((tm_nil cb h0 h1).2 e))]
 have hne:hk cb n ≠ 0:=fun e => h ((tm_nil cb h0 h1).2 e)
 refine Tot.ite (fun hc => ?_) (fun hc => ?_)
 ·rw [if_pos hc]
  exact Tot.step (fun k => lenJ k _ _) (Tot.yes rfl (Tot.ret rfl))
 rw [if_neg hc]
 refine Tot.ite (fun h8 => ?_) (fun h8 => ?_)
 ·have:=(holeS_n8 _ hle).1 h8
  exact Tot.step (fun k => lenJ k _ _) (Tot.yes rfl (Tot.ret (by rw [if_neg (by omega),if_neg (by omega)])))
 have g8:hk cb n ≠ 2:=fun e => h8 ((holeS_n8 _ hle).2 e)
 refine Tot.step (fun k => lenJ k _ _) (Tot.ite (fun he => Tot.ret ?_) (fun he => ?_))
 ·have:=(holeS_e8 _ hle).1 (eq_of_beq he)
  rw [if_neg (by omega),if_neg (by omega)]
 have ge:hk cb n ≠ 3:=fun e => he (beq_iff_eq.2 ((holeS_e8 _ hle).2 e))
 refine Tot.ite (fun hw => Tot.ret ?_) (fun hw => Tot.ret ?_)
 ·have:=(holeS_n16 _ hle).1 hw
  rw [if_neg (by omega),if_pos this]
 ·have:hk cb n ≠ 4:=fun e => hw ((holeS_n16 _ hle).2 e)
  rw [if_pos (by omega)]
theorem lenS3_T (cb:Bool) {n:Int} (h0:0 ≤ n) (h1:n < 256):Tot (fun k => spec_l3Length.f k n cb) (· = lenK cb (hk cb n)):=by
 have hle:=hk_le cb h0 h1
 unfold spec_l3Length.f
 refine Tot.bind (tmS_T cb h0 h1) ?_
 rintro _ rfl
 unfold lenK
 refine Tot.ite (fun h => Tot.ret (by rw [if_pos ((tm_nil cb h0 h1).1 h)])) (fun h => ?_)
 have hne:hk cb n ≠ 0:=fun e => h ((tm_nil cb h0 h1).2 e)
 rw [if_neg hne]
 refine Tot.ite (fun hc => Tot.ret (by rw [if_pos hc])) (fun hc => ?_)
 rw [if_neg hc]
 refine Tot.bind (hoS_T cb h0 h1) ?_
 rintro _ rfl
 refine Tot.ite (fun hz => Tot.ret ?_) (fun hz => ?_)
 ·have:=(holeS_nil _ hle).1 hz
  rw [if_pos (by omega)]
 have gz:¬ hk cb n ≤ 1:=fun e => hz ((holeS_nil _ hle).2 e)
 have g1:¬ hk cb n = 1:=by omega
 rw [if_neg g1]
 refine Tot.ite (fun hw => Tot.ret ?_) (fun hw => Tot.ret ?_)
 ·rw [if_pos ((holeS_n16 _ hle).1 hw)]
 ·rw [if_neg (fun e => hw ((holeS_n16 _ hle).2 e))]
def okV (h:Nat) (m:Int):Bool:=if h = 0 then false else if h = 1 then decide (m = 0) else if h = 4 then decide (0 ≤ m ∧ m ≤ 65535) else decide (0 ≤ m ∧ m ≤ 255)
theorem tmpl_T {n:Int} (h0:0 ≤ n) (h1:n < 256) (b:Bool):Tot (fun k => spec_l3Template.f k n b) (fun t => t.size ≤ 24) :=
 (tmS_T b h0 h1).mono (fun t e => by rw [e];exact (qc b h0 h1).2.2.2.2.2.2.2.1)
def holes:List ByteArray:=[(⟨#[110,49,54]⟩:ByteArray),(⟨#[110,56]⟩:ByteArray),(⟨#[101,56]⟩:ByteArray)]
theorem hole_l1_T (s:ByteArray) (hs:s.size ≤ 1000) (i:Int) (h0:0 ≤ i) (h1:i < 3) (P:Int × ByteArray → Prop) (hP:∀ p,P (p,rdOf ByteArray.empty holes i)) (hn:Tot (fun k => spec_l3Hole.l0 k s holes (i + 1)) P) :
  ∀ (d:Nat) (p:Int),0 ≤ p → p ≤ 1001 → 1001 - p ≤ d → Tot (fun k => spec_l3Hole.l1 k s holes i p) P:=by
 have hz:2 ≤ (rdOf ByteArray.empty holes i).size ∧ (rdOf ByteArray.empty holes i).size ≤ 3:=by
  rcases (show i = 0 ∨ i = 1 ∨ i = 2 by omega) with rfl | rfl | rfl <;> decide
 have hl:((holes.length:Nat):Int) = 3:=rfl
 intro d
 induction d with
 | zero =>
  intro p p0 p1 pd
  have e:wrap64 (p + ((rdOf ByteArray.empty holes i).size:Int)) = p + (rdOf ByteArray.empty holes i).size:=w64_in (by omega) (by omega)
  refine Tot.step (fun k => spec_l3Hole.l1.eq_2 _ _ _ _ k) ?_
  refine Tot.yes h0 (Tot.yes (by rw [hl];exact h1) ?_)
  rw [e,w64_in (n:=i + 1) (by omega) (by omega)]
  exact Tot.no (by omega) hn
 | succ d ih =>
  intro p p0 p1 pd
  have e:wrap64 (p + ((rdOf ByteArray.empty holes i).size:Int)) = p + (rdOf ByteArray.empty holes i).size:=w64_in (by omega) (by omega)
  refine Tot.step (fun k => spec_l3Hole.l1.eq_2 _ _ _ _ k) ?_
  refine Tot.yes h0 (Tot.yes (by rw [hl];exact h1) ?_)
  rw [e,w64_in (n:=i + 1) (by omega) (by omega),w64_in (n:=p + 1) (by omega) (by omega)]
  refine Tot.ite (fun hc => ?_) (fun _ => hn)
  refine Tot.yes p0 (Tot.yes (by omega) (Tot.ite (fun _ => Tot.ret (hP _)) (fun _ => ih _ (by omega) (by omega) (by omega))))
theorem hole_T (s:ByteArray) (hs:s.size ≤ 1000):Tot (fun k => spec_l3Hole.f k s) (fun _ => True):=by
 have h3:Tot (fun k => spec_l3Hole.l0 k s holes (2 + 1)) (fun _ => True):=Tot.step (fun k => spec_l3Hole.l0.eq_2 _ _ _ k) (Tot.no (by decide) (Tot.ret trivial))
 have h2:Tot (fun k => spec_l3Hole.l0 k s holes (1 + 1)) (fun _ => True):=Tot.step (fun k => spec_l3Hole.l0.eq_2 _ _ _ k) (Tot.yes (by decide) (hole_l1_T s hs 2 (by omega) (by omega) _ (fun _ => trivial) h3 1001 0 (by omega) (by omega) (by omega)))
 have h1:Tot (fun k => spec_l3Hole.l0 k s holes (0 + 1)) (fun _ => True):=Tot.step (fun k => spec_l3Hole.l0.eq_2 _ _ _ k) (Tot.yes (by decide) (hole_l1_T s hs 1 (by omega) (by omega) _ (fun _ => trivial) h2 1001 0 (by omega) (by omega) (by omega)))
 exact Tot.step (fun k => spec_l3Hole.l0.eq_2 _ _ _ k) (Tot.yes (by decide) (hole_l1_T s hs 0 (by omega) (by omega) _ (fun _ => trivial) h1 1001 0 (by omega) (by omega) (by omega)))
theorem len_T {n:Int} (h0:0 ≤ n) (h1:n < 256) (b:Bool):Tot (fun k => spec_l3Length.f k n b) (fun r => 0 ≤ r ∧ r ≤ 3):=by
 unfold spec_l3Length.f
 refine Tot.bind (tmpl_T h0 h1 b) fun t ht => ?_
 refine Tot.ite (fun _ => Tot.ret (by omega)) (fun _ => Tot.ite (fun _ => Tot.ret (by omega)) (fun _ => ?_))
 refine Tot.bind (hole_T t (by omega)) fun r _ => ?_
 exact Tot.ite (fun _ => Tot.ret (by omega)) (fun _ => Tot.ite (fun _ => Tot.ret (by omega)) (fun _ => Tot.ret (by omega)))
theorem sIn_eq (a lo hi:Int):spec_l1In.f a lo hi = some (decide (lo ≤ a ∧ a ≤ hi)):=by
 unfold spec_l1In.f
 by_cases h:a ≥ lo
 ·rw [if_pos h];simp [show lo ≤ a from h]
 ·rw [if_neg h];simp [show ¬ lo ≤ a from h]
theorem lengthOf_T (n:Int) (b:Bool):Tot (fun k => spec_LengthOf.f k n b) (fun r => 0 ≤ r ∧ r ≤ 3 ∧ (r ≠ 0 → 0 ≤ n ∧ n < 256)):=by
 unfold spec_LengthOf.f
 refine Tot.bind (Tot.of (sIn_eq _ _ _) rfl) ?_
 rintro _ rfl
 refine Tot.ite (fun h => ?_) (fun _ => Tot.ret (by omega))
 have h:=of_decide_eq_true h
 refine Tot.bind (len_T h.1 (by omega) b) fun r hr => Tot.ret (by omega)
theorem insOk_T (n:Int) (b:Bool) (m:Int):Tot (fun k => spec_InsOk.f k n b m) (fun r => r = true → 0 ≤ n ∧ n < 256):=by
 unfold spec_InsOk.f
 refine Tot.bind (lengthOf_T n b) fun r hr => ?_
 refine Tot.ite (fun _ => Tot.ret (fun h => by cases h)) (fun h => ?_)
 have hn:=hr.2.2 h
 refine Tot.bind (tmpl_T hn.1 hn.2 b) fun t ht => ?_
 refine Tot.bind (hole_T t (by omega)) fun r _ => ?_
 have j0:∀ x:Bool,Tot (fun k => spec_InsOk.j0 k x n b m) (fun r => r = true → 0 ≤ n ∧ n < 256):=fun x =>
  Tot.step (fun k => spec_InsOk.j0.eq_2 _ _ _ _ k) (Tot.ite (fun _ => Tot.bind (Tot.of (sIn_eq _ _ _) rfl) (fun _ _ => Tot.ret (fun _ => hn))) (fun _ => Tot.ret (fun _ => hn)))
 exact Tot.ite (fun _ => Tot.bind (Tot.of (sIn_eq _ _ _) rfl) (fun _ _ => Tot.ret (fun _ => hn))) (fun _ => Tot.ite (fun _ => j0 _) (fun _ => j0 _))
theorem insBytes_T (n:Int) (b:Bool) (m:Int):Tot (fun k => spec_InsBytes.f k n b m) (fun r => r.size ≤ 3):=by
 unfold spec_InsBytes.f
 refine Tot.bind (insOk_T n b m) fun r hr => ?_
 refine Tot.ite (fun h => ?_) (fun _ => Tot.ret (Nat.zero_le _))
 have hn:=hr h
 refine Tot.ite (fun _ => Tot.ret (by rw [strOfNums_size];simp)) (fun _ => ?_)
 refine Tot.bind (len_T hn.1 hn.2 false) fun r _ => ?_
 refine Tot.ite (fun _ => ?_) (fun _ => Tot.ite (fun _ => ?_) (fun _ => ?_))
 all_goals exact Tot.ret (by rw [strOfNums_size];simp)
theorem ins_j1_T {s:List Int} {p:Int} (h:RdOk s p) (n:Int) (b:Bool) (m:Int):Tot (fun k => spec_l1Rd_ins.j1 k s p n b m) (fun r => RdOk s r.2.2.2):=by
 refine Tot.step (fun k => spec_l1Rd_ins.j1.eq_2 _ _ _ _ _ k) ?_
 refine Tot.bind (once_T h 40) fun r hr => ?_
 exact Tot.ite (fun _ => Tot.bind (off_T hr 0 255 (by omega) (by omega)) fun q hq => Tot.ret hq) (fun _ => Tot.ret hr)
theorem ins_j0_T {s:List Int} {p:Int} (h:RdOk s p) (x:Bool) (n:Int) (b:Bool) (m:Int):Tot (fun k => spec_l1Rd_ins.j0 k x s p n b m) (fun r => RdOk s r.2.2.2):=by
 refine Tot.step (fun k => spec_l1Rd_ins.j0.eq_2 _ _ _ _ _ _ k) ?_
 exact Tot.ite (fun _ => Tot.bind (byte_T h) fun v hv => ins_j1_T hv.2.2 _ _ _) (fun _ => ins_j1_T h _ _ _)
theorem ins_T {s:List Int} {p:Int} (h:RdOk s p):Tot (fun k => spec_l1Rd_ins.f k s p) (fun r => RdOk s r.2.2.2):=by
 unfold spec_l1Rd_ins.f
 refine Tot.bind (below_T h 256) fun r hr => ?_
 refine Tot.bind (once_T hr.2.2 4) fun q hq => ?_
 refine Tot.bind (tmpl_T hr.1 (hr.2.1 (by omega)) q.1) fun t ht => ?_
 refine Tot.bind (hole_T t (by omega)) fun u _ => ?_
 refine Tot.ite (fun _ => Tot.bind (below_T hq 65536) fun v hv => ins_j1_T hv.2.2 _ _ _) (fun _ => ?_)
 exact Tot.ite (fun _ => ins_j0_T hq _ _ _ _) (fun _ => ins_j0_T hq _ _ _ _)
theorem plainI_j0_T {s:List Int} {p:Int} (h:RdOk s p) (x:Bool) (n:Int) (b:Bool) (m:Int):Tot (fun k => spec_l1Rd_plain.j0 k x s p n b m) (fun r => RdOk s r.2.2.2):=by
 refine Tot.step (fun k => spec_l1Rd_plain.j0.eq_2 _ _ _ _ _ _ k) ?_
 refine Tot.ite (fun _ => Tot.ret h) (fun _ => ?_)
 refine Tot.bind (below_T h 10) fun r hr => ?_
 have h1:=hr.2.2
 refine Tot.ite (fun _ => Tot.bind (byte_T h1) fun v hv => Tot.ret hv.2.2) (fun _ => ?_)
 refine Tot.ite (fun _ => Tot.bind (Tot.of rfl rfl) ?_) (fun _ => ?_)
 ·rintro _ rfl
  refine Tot.bind (below_T h1 5) fun v hv => ?_
  exact Tot.yes hv.1 (Tot.yes (hv.2.1 (by omega)) (Tot.ret hv.2.2))
 refine Tot.ite (fun _ => Tot.ret h1) (fun _ => ?_)
 refine Tot.ite (fun _ => Tot.ret h1) (fun _ => ?_)
 refine Tot.ite (fun _ => Tot.bind (Tot.of rfl rfl) ?_) (fun _ => ?_)
 ·rintro _ rfl
  refine Tot.bind (below_T h1 6) fun v hv => ?_
  exact Tot.yes hv.1 (Tot.yes (hv.2.1 (by omega)) (Tot.ret hv.2.2))
 exact Tot.ite (fun _ => Tot.ite (fun _ => Tot.ret h1) (fun _ => Tot.ret h1)) (fun _ => Tot.ret h1)
theorem plainI_T {s:List Int} {p:Int} (h:RdOk s p):Tot (fun k => spec_l1Rd_plain.f k s p) (fun r => RdOk s r.2.2.2):=by
 unfold spec_l1Rd_plain.f
 refine Tot.bind (ins_T h) fun r hr => ?_
 exact Tot.ite (fun _ => plainI_j0_T hr _ _ _ _) (fun _ => Tot.bind (once_T hr 6) fun q hq => plainI_j0_T hq _ _ _ _)
theorem rom_l1_T {s:List Int} (n x:Int) (hx0:0 ≤ x) (hx1:x < n) (hn:n ≤ 4) (P:ByteArray × Int → Prop) (hk:∀ L q,(L.length:Int) = n * 256 → RdOk s q → Tot (fun k => spec_l1Rd_rom.l0 k n L (x + 1) s q) P) :
  ∀ (d:Nat) (L:List Int) (a p:Int),d ≤ 16 → x * 256 ≤ a → a + 3 * d ≤ x * 256 + 48 → (L.length:Int) = n * 256 → RdOk s p → Tot (fun k => spec_l1Rd_rom.l1 k n L x a (d:Int) s p) P:=by
 have e1:wrap64 (x + 1) = x + 1:=w64_in (by omega) (by omega)
 have e2:wrap64 ((x + 1) * 256) = (x + 1) * 256:=w64_in (by omega) (by omega)
 intro d
 induction d with
 | zero =>
  intro L a p hd ha0 ha1 hL hp
  refine Tot.step (fun k => spec_l1Rd_rom.l1.eq_2 _ _ _ _ _ _ _ k) ?_
  rw [e1]
  exact Tot.no (by decide) (hk L p hL hp)
 | succ d ih =>
  intro L a p hd ha0 ha1 hL hp
  refine Tot.step (fun k => spec_l1Rd_rom.l1.eq_2 _ _ _ _ _ _ _ k) ?_
  rw [e1,e2]
  refine Tot.yes (by omega) (Tot.bind (plainI_T hp) fun r hr => Tot.bind (insBytes_T _ _ _) fun t ht => ?_)
  refine Tot.yes (by omega) (Tot.yes (by omega) (Tot.yes (by omega) ?_))
  rw [show wrap64 (((d + 1:Nat):Int) - 1) = (d:Int) by rw [w64_in (by omega) (by omega)];omega,w64_in (n:=a + (t.size:Int)) (by omega) (by omega)]
  exact ih _ _ _ (by omega) (by omega) (by omega) (by rw [cpy_length (by omega)];exact hL) hr
theorem rom_l0_T {s:List Int} (n:Int) (hn0:2 ≤ n) (hn:n ≤ 4):∀ (d:Nat) (L:List Int) (x p:Int),0 ≤ x → x + d = n → (L.length:Int) = n * 256 → RdOk s p → Tot (fun k => spec_l1Rd_rom.l0 k n L x s p) (fun r => r.1.size ≤ 1024 ∧ RdOk s r.2):=by
 intro d
 induction d with
 | zero =>
  intro L x p hx hd hL hp
  refine Tot.step (fun k => spec_l1Rd_rom.l0.eq_2 _ _ _ _ _ k) ?_
  refine Tot.no (by omega) (Tot.bind (once_T hp 30) fun r hr => ?_)
  refine Tot.ite (fun _ => Tot.yes (by omega) (Tot.ret ⟨?_,hr⟩)) (fun _ => Tot.ret ⟨?_,hr⟩)
  ·show (strOfNums _).size ≤ 1024
   rw [strOfNums_size,List.length_drop]
   omega
  ·show (strOfNums _).size ≤ 1024
   rw [strOfNums_size]
   omega
 | succ d ih =>
  intro L x p hx hd hL hp
  refine Tot.step (fun k => spec_l1Rd_rom.l0.eq_2 _ _ _ _ _ k) ?_
  refine Tot.yes (by omega) (Tot.bind (below_T hp 16) fun r hr => ?_)
  have hr1:=hr.2.1 (by omega)
  have hr0:=hr.1
  rw [w64_in (n:=x * 256) (by omega) (by omega),w64_in (n:=1 + r.1) (by omega) (by omega)]
  have:=rom_l1_T n x hx (by omega) hn _ (fun L q hL hq => ih L (x + 1) q (by omega) (by omega) hL hq) (1 + r.1).toNat L (x * 256) r.2 (by omega) (by omega) (by omega) hL hr.2.2
  rw [Int.toNat_of_nonneg (by omega)] at this
  exact this
theorem rom_T {s:List Int} {p:Int} (h:RdOk s p):Tot (fun k => spec_l1Rd_rom.f k s p) (fun r => r.1.size ≤ 1024 ∧ RdOk s r.2):=by
 unfold spec_l1Rd_rom.f
 refine Tot.bind (below_T h 3) fun r hr => ?_
 have hr1:=hr.2.1 (by omega)
 have hr0:=hr.1
 rw [w64_in (n:=2 + r.1) (by omega) (by omega),w64_in (n:=(2 + r.1) * 256) (by omega) (by omega)]
 refine Tot.yes (by omega) (Tot.yes (by omega) ?_)
 exact rom_l0_T (2 + r.1) (by omega) (by omega) (2 + r.1).toNat _ 0 _ (by omega) (by omega) (by rw [List.length_replicate];omega) hr.2.2
def rdI (s:ByteArray) (p:Int):Int × Bool × Int × Int :=
 if p < 0 ∨ (s.size:Int) ≤ p then (0,false,0,0) else
 if bt s p = 203 then (if (s.size:Int) < p + 2 then (0,false,0,0) else (bt s (p + 1),true,0,2)) else
 if lenK false (hk false (bt s p)) = 0 ∨ (s.size:Int) < p + lenK false (hk false (bt s p)) then (0,false,0,0) else
 (bt s p,false,(if lenK false (hk false (bt s p)) = 1 then 0 else if lenK false (hk false (bt s p)) = 2 then bt s (p + 1) else bt s (p + 1) + 256 * bt s (p + 2)),lenK false (hk false (bt s p)))
theorem rdI_out {s:ByteArray} {p:Int} (h:p < 0 ∨ (s.size:Int) ≤ p):rdI s p = (0,false,0,0):=by unfold rdI;rw [if_pos h]
theorem rdI_cut {s:ByteArray} {p:Int} (h:bt s p = 203) (h2:(s.size:Int) < p + 2):rdI s p = (0,false,0,0):=by
 unfold rdI
 by_cases h0:p < 0 ∨ (s.size:Int) ≤ p
 ·rw [if_pos h0]
 ·rw [if_neg h0,if_pos h,if_pos h2]
theorem rdI_cb {s:ByteArray} {p:Int} (h0:0 ≤ p) (h:bt s p = 203) (h2:p + 2 ≤ (s.size:Int)):rdI s p = (bt s (p + 1),true,0,2):=by
 unfold rdI
 rw [if_neg (show ¬ (p < 0 ∨ (s.size:Int) ≤ p) by omega),if_pos h,if_neg (show ¬ (s.size:Int) < p + 2 by omega)]
theorem rdI_none {s:ByteArray} {p L:Int} (hL:lenK false (hk false (bt s p)) = L) (hc:¬ bt s p = 203) (h:L = 0 ∨ (s.size:Int) < p + L):rdI s p = (0,false,0,0):=by
 unfold rdI
 by_cases h0:p < 0 ∨ (s.size:Int) ≤ p
 ·rw [if_pos h0]
 ·rw [if_neg h0,if_neg hc,if_pos (by rw [hL];exact h)]
theorem rdI_some {s:ByteArray} {p L:Int} (hL:lenK false (hk false (bt s p)) = L) (h0:0 ≤ p) (hc:¬ bt s p = 203) (h1:1 ≤ L) (h:p + L ≤ (s.size:Int)):rdI s p = (bt s p,false,(if L = 1 then 0 else if L = 2 then bt s (p + 1) else bt s (p + 1) + 256 * bt s (p + 2)),L):=by
 unfold rdI
 rw [if_neg (show ¬ (p < 0 ∨ (s.size:Int) ≤ p) by omega),if_neg hc,hL,if_neg (show ¬ (L = 0 ∨ (s.size:Int) < p + L) by omega)]
theorem btL (s:ByteArray) (i:Int):bt s i = (bytesOf s).getD i.toNat 0:=by rw [← rd_bytesOf];rfl
theorem btRange (s:ByteArray) (i:Int):0 ≤ bt s i ∧ bt s i < 256:=by
 unfold bt
 split
 ·rename_i h
  have:=(s[i.toNat]'h).toNat_lt
  omega
 ·omega
theorem bytesOf_rest' (a:ByteArray) (i:Nat):bytesOf (a.extract i a.size) = (bytesOf a).drop i:=by
 unfold bytesOf
 rw [ByteArray.data_extract,Array.toList_extract,List.extract_eq_take_drop,List.map_take,List.map_drop,List.take_of_length_le]
 rw [List.length_drop,List.length_map,Array.length_toList]
 exact Nat.le_refl _
theorem bt_rest (s:ByteArray) (p i:Int) (h0:0 ≤ p) (h1:0 ≤ i):bt (s.extract p.toNat s.size) i = bt s (p + i):=by
 rw [btL,btL,bytesOf_rest',List.getD_eq_getElem?_getD,List.getD_eq_getElem?_getD,List.getElem?_drop,show p.toNat + i.toNat = (p + i).toNat by omega]
theorem size_rest (s:ByteArray) (p:Int) (h0:0 ≤ p) (h1:p ≤ s.size):((s.extract p.toNat s.size).size:Int) = s.size - p:=by
 rw [ByteArray.size_extract];omega
theorem or_b {x b:Int} (hx:0 ≤ x) (hx1:x < 16777216) (hb:0 ≤ b) (hb1:b < 256):Go.bits .or .i64 (x * 256) b = 256 * x + b:=by
 obtain ⟨m,rfl⟩:=Int.eq_ofNat_of_zero_le hx
 obtain ⟨n,rfl⟩:=Int.eq_ofNat_of_zero_le hb
 have:=bits_or (m * 256) n (by omega) (by omega)
 rw [show ((m:Int) * 256) = ((m * 256:Nat):Int) by omega,this]
 have h2:2 ^ 8 * m + n = 2 ^ 8 * m ||| n:=Nat.two_pow_add_eq_or_of_lt (by omega) m
 rw [show m * 256 ||| n = 2 ^ 8 * m + n by rw [h2,Nat.mul_comm]]
 omega
theorem lenK_range (h:Nat):0 ≤ lenK false h ∧ lenK false h ≤ 3:=by
 unfold lenK
 split
 ·omega
 ·rw [if_neg (by decide)]
  split
  ·omega
  ·split <;> omega
theorem readI_T (s:ByteArray) (p:Int) (hs:s.size ≤ 1152921504606846976):Tot (fun k => impl_ReadIns.f k s p) (· = rdI s p):=by
 unfold impl_ReadIns.f
 refine Tot.bind (Tot.of (withinI _ _ _) rfl) ?_
 rintro _ rfl
 have w1:wrap64 ((s.size:Int) - 1) = s.size - 1:=w64_in (by omega) (by omega)
 rw [w1]
 refine Tot.ite (fun hw => ?_) (fun hw => Tot.ret ?_)
 ·have hw:=of_decide_eq_true hw
  have hz:=size_rest s p hw.1 (by omega)
  have b0:bt (s.extract p.toNat s.size) 0 = bt s p:=by rw [bt_rest s p 0 hw.1 (by decide),Int.add_zero]
  have b1:bt (s.extract p.toNat s.size) 1 = bt s (p + 1):=bt_rest s p 1 hw.1 (by decide)
  have b2:bt (s.extract p.toNat s.size) 2 = bt s (p + 2):=bt_rest s p 2 hw.1 (by decide)
  generalize s.extract p.toNat s.size = t at *
  have r0:=btRange s p
  have r1:=btRange s (p + 1)
  have r2:=btRange s (p + 2)
  refine Tot.yes hw.1 (Tot.yes (by omega) (Tot.yes (by omega) ?_))
  rw [b0,b1,w64_in (n:=bt s p) (by omega) (by omega),w64_in (n:=bt s (p + 1)) (by omega) (by omega)]
  refine Tot.ite (fun hc => ?_) (fun hc => ?_)
  ·refine Tot.ite (fun h2 => Tot.ret (rdI_cut hc (by omega)).symm) (fun h2 => ?_)
   refine Tot.yes (by omega) (Tot.ret (rdI_cb hw.1 hc (by omega)).symm)
  refine Tot.bind (lenI_T false r0.1 r0.2) ?_
  rintro _ rfl
  have hL:=lenK_range (hk false (bt s p))
  obtain ⟨L,eL⟩:∃ L,lenK false (hk false (bt s p)) = L:=⟨_,rfl⟩
  rw [eL] at hL ⊢
  refine Tot.ite (fun hz0 => Tot.step (fun k => impl_ReadIns.j0.eq_2 _ _ _ _ _ _ k) (Tot.yes rfl (Tot.ret (rdI_none eL hc (.inl hz0)).symm))) (fun hz0 => ?_)
  refine Tot.step (fun k => impl_ReadIns.j0.eq_2 _ _ _ _ _ _ k) (Tot.ite (fun hl => Tot.ret (rdI_none eL hc (by have:=of_decide_eq_true hl;omega)).symm) (fun hl => ?_))
  have hl:¬ (t.size:Int) < L:=fun e => hl (decide_eq_true e)
  rw [w64_in (n:=L - 1) (by omega) (by omega),rdI_some eL hw.1 hc (by omega) (by omega)]
  have w0:wrap64 (1 - 1) = 0:=by decide +kernel
  have w01:wrap64 (2 - 1) = 1:=by decide +kernel
  have l0:∀ x:Int,Tot (fun k => impl_ReadIns.l0 k t L 0 (bt s p) false x) (· = (bt s p,false,x,L)):=fun x =>
   Tot.step (fun k => impl_ReadIns.l0.eq_2 _ _ _ _ _ _ k) (Tot.no (by decide) (Tot.ret rfl))
  have l1:∀ x:Int,0 ≤ x → x < 65536 → 1 < (t.size:Int) → Tot (fun k => impl_ReadIns.l0 k t L 1 (bt s p) false x) (· = (bt s p,false,256 * x + bt s (p + 1),L)):=fun x x0 x1 ht =>
   Tot.step (fun k => impl_ReadIns.l0.eq_2 _ _ _ _ _ _ k) (Tot.yes (by decide) (Tot.yes (by decide) (Tot.yes ht (by
    rw [b1,w64_in (n:=x * 256) (by omega) (by omega),w64_in (n:=bt s (p + 1)) (by omega) (by omega),or_b x0 (by omega) r1.1 r1.2,w0]
    exact l0 _))))
  rcases (show L = 1 ∨ L = 2 ∨ L = 3 by omega) with rfl | rfl | rfl
  ·exact l0 0
  ·exact Tot.mono (l1 0 (by decide) (by decide) (by omega)) (fun _ h => by rw [h];simp)
  ·refine Tot.step (fun k => impl_ReadIns.l0.eq_2 _ _ _ _ _ _ k) (Tot.yes (by decide) (Tot.yes (by decide) (Tot.yes (by omega) ?_)))
   rw [show (3:Int) - 1 = 2 from rfl,b2,w64_in (n:=0 * 256) (by decide) (by decide),w64_in (n:=bt s (p + 2)) (by omega) (by omega),or_b (by decide) (by decide) r2.1 r2.2,w01]
   refine Tot.mono (l1 _ (by omega) (by omega) (by omega)) (fun _ h => by
    rw [h]
    simp only [Prod.mk.injEq,true_and,and_true]
    rw [if_neg (by decide),if_neg (by decide)]
    omega)
 ·have hw:¬ (0 ≤ p ∧ p ≤ (s.size:Int) - 1):=fun e => hw (decide_eq_true e)
  exact (rdI_out (by omega)).symm
theorem atS (s:ByteArray) (p:Int) (h0:0 ≤ p) (h1:p < s.size):spec_l3At.f s p = some (bt s p):=by
 have:=btRange s p
 unfold spec_l3At.f
 rw [if_pos h0,if_pos h1,w64_in (by omega) (by omega)]
theorem readS_T (s:ByteArray) (p:Int) (hs:s.size ≤ 1152921504606846976) (hp:-1152921504606846976 ≤ p ∧ p ≤ 1152921504606846976):Tot (fun k => spec_ReadIns.f k s p) (· = rdI s p):=by
 unfold spec_ReadIns.f
 have w1:wrap64 ((s.size:Int) - p) = s.size - p:=w64_in (by omega) (by omega)
 rw [w1]
 refine Tot.ite (fun hn => Tot.step (fun k => spec_ReadIns.j0.eq_2 _ _ _ _ k) (Tot.yes rfl (Tot.ret (rdI_out (.inl hn)).symm))) (fun hn => ?_)
 refine Tot.step (fun k => spec_ReadIns.j0.eq_2 _ _ _ _ k) (Tot.ite (fun hd => Tot.ret (rdI_out (by have:=of_decide_eq_true hd;omega)).symm) (fun hd => ?_))
 have hd:¬ ((s.size:Int) - p) < 1:=fun e => hd (decide_eq_true e)
 have r0:=btRange s p
 have r1:=btRange s (p + 1)
 have r2:=btRange s (p + 2)
 rw [w64_in (n:=p + 1) (by omega) (by omega)]
 refine Tot.bind (Tot.of (atS s p (by omega) (by omega)) rfl) ?_
 rintro _ rfl
 refine Tot.ite (fun hc => ?_) (fun hc => ?_)
 ·refine Tot.ite (fun h2 => Tot.ret (rdI_cut hc (by omega)).symm) (fun h2 => ?_)
  refine Tot.bind (Tot.of (atS s (p + 1) (by omega) (by omega)) rfl) ?_
  rintro _ rfl
  exact Tot.ret (rdI_cb (by omega) hc (by omega)).symm
 refine Tot.bind (lenS3_T false r0.1 r0.2) ?_
 rintro _ rfl
 have hL:=lenK_range (hk false (bt s p))
 obtain ⟨L,eL⟩:∃ L,lenK false (hk false (bt s p)) = L:=⟨_,rfl⟩
 rw [eL] at hL ⊢
 refine Tot.ite (fun hz0 => Tot.step (fun k => spec_ReadIns.j1.eq_2 _ _ _ _ _ _ _ k) (Tot.yes rfl (Tot.ret (rdI_none eL hc (.inl hz0)).symm))) (fun hz0 => ?_)
 refine Tot.step (fun k => spec_ReadIns.j1.eq_2 _ _ _ _ _ _ _ k) (Tot.ite (fun hl => Tot.ret (rdI_none eL hc (by have:=of_decide_eq_true hl;omega)).symm) (fun hl => ?_))
 have hl:¬ L > (s.size:Int) - p:=fun e => hl (decide_eq_true e)
 rw [w64_in (n:=p + 1) (by omega) (by omega),rdI_some eL (by omega) hc (by omega) (by omega)]
 have j2:∀ x:Int,L ≤ 2 → Tot (fun k => spec_ReadIns.j2 k s p L (bt s p) false x) (· = (bt s p,false,x,L)):=fun x h2 =>
  Tot.step (fun k => spec_ReadIns.j2.eq_2 _ _ _ _ _ _ k) (Tot.no (by omega) (Tot.ret rfl))
 rcases (show L = 1 ∨ L = 2 ∨ L = 3 by omega) with rfl | rfl | rfl
 ·exact Tot.no (by decide) (j2 0 (by decide))
 ·refine Tot.yes (by decide) (Tot.bind (Tot.of (atS s (p + 1) (by omega) (by omega)) rfl) ?_)
  rintro _ rfl
  exact j2 _ (by decide)
 ·refine Tot.yes (by decide) (Tot.bind (Tot.of (atS s (p + 1) (by omega) (by omega)) rfl) ?_)
  rintro _ rfl
  refine Tot.step (fun k => spec_ReadIns.j2.eq_2 _ _ _ _ _ _ k) (Tot.yes (by decide) ?_)
  rw [w64_in (n:=p + 2) (by omega) (by omega)]
  refine Tot.bind (Tot.of (atS s (p + 2) (by omega) (by omega)) rfl) ?_
  rintro _ rfl
  rw [w64_in (n:=256 * bt s (p + 2)) (by omega) (by omega),w64_in (n:=bt s (p + 1) + 256 * bt s (p + 2)) (by omega) (by omega)]
  exact Tot.ret rfl
def sgV (m:Int):Int:=if 0 ≤ m ∧ m ≤ 255 then (if m > 127 then m - 256 else m) else 0
theorem sgV_range (m:Int):-128 ≤ sgV m ∧ sgV m ≤ 127:=by
 unfold sgV
 split
 ·split <;> omega
 ·omega
theorem sgI (m:Int):impl_SignedOf.f m = some (sgV m):=by
 unfold impl_SignedOf.f sgV
 rw [byteI,Option.bind_some]
 by_cases h:0 ≤ m ∧ m ≤ 255
 ·rw [if_pos (decide_eq_true h),if_pos h]
  by_cases g:m > 127
  ·rw [if_pos g,if_pos g,w64_in (by omega) (by omega)]
  ·rw [if_neg g,if_neg g]
 ·rw [if_neg (by simp;omega),if_neg h]
theorem sgS (m:Int):spec_SignedOf.f m = some (sgV m):=by
 unfold spec_SignedOf.f sgV
 rw [inS,Option.bind_some]
 by_cases h:0 ≤ m ∧ m ≤ 255
 ·rw [if_pos (decide_eq_true h),if_pos h]
  by_cases g:m > 127
  ·rw [if_pos g,if_pos g,w64_in (by omega) (by omega)]
  ·rw [if_neg g,if_neg g]
 ·rw [if_neg (by simp;omega),if_neg h]
theorem rd_pos {s:ByteArray} {p:Int} (h:(rdI s p).2.2.2 ≠ 0):1 ≤ (rdI s p).2.2.2 ∧ (rdI s p).2.2.2 ≤ 3 ∧ p + (rdI s p).2.2.2 ≤ s.size ∧ (0 ≤ (rdI s p).1 ∧ (rdI s p).1 < 256) ∧ okV (hk (rdI s p).2.1 (rdI s p).1) (rdI s p).2.2.1 = true ∧ (hk (rdI s p).2.1 (rdI s p).1 = 3 → (rdI s p).2.2.2 = 2):=by
 have r0:=btRange s p
 have r1:=btRange s (p + 1)
 have r2:=btRange s (p + 2)
 by_cases ho:p < 0 ∨ (s.size:Int) ≤ p
 ·rw [rdI_out ho] at h;exact absurd rfl h
 by_cases hc:bt s p = 203
 ·by_cases h2:(s.size:Int) < p + 2
  ·rw [rdI_cut hc h2] at h;exact absurd rfl h
  ·rw [rdI_cb (by omega) hc (by omega)]
   have hh:=hk_cb r1.1 r1.2
   refine ⟨by dsimp only;omega,by dsimp only;omega,by dsimp only;omega,r1,by dsimp only;rw [hh];rfl,fun _ => rfl⟩
 ·obtain ⟨L,eL⟩:∃ L,lenK false (hk false (bt s p)) = L:=⟨_,rfl⟩
  by_cases hl:L = 0 ∨ (s.size:Int) < p + L
  ·rw [rdI_none eL hc hl] at h;exact absurd rfl h
  have hL:=lenK_range (hk false (bt s p))
  have hle:=hk_le false r0.1 r0.2
  rw [eL] at hL
  rw [rdI_some eL (by omega) hc (by omega) (by omega)]
  dsimp only
  refine ⟨by omega,by omega,by omega,r0,?_,?_⟩
  ·rcases (show hk false (bt s p) = 0 ∨ hk false (bt s p) = 1 ∨ hk false (bt s p) = 2 ∨ hk false (bt s p) = 3 ∨ hk false (bt s p) = 4 by omega) with e | e | e | e | e <;> rw [e] at eL ⊢ <;> simp [lenK] at eL <;> subst eL <;> simp [okV] <;> omega
  ·intro e
   rw [e] at eL
   rw [← eL]
   rfl
theorem rdI_shift {s t:ByteArray} {o p:Int} (ho:0 ≤ o) (hp:0 ≤ p) (hs:(t.size:Int) = o + s.size) (hb:∀ j:Int,0 ≤ j → bt t (o + j) = bt s j):rdI t (o + p) = rdI s p:=by
 have b0:=hb p hp
 have b1:=hb (p + 1) (by omega)
 have b2:=hb (p + 2) (by omega)
 rw [← Int.add_assoc] at b1 b2
 unfold rdI
 rw [b0,b1,b2,hs]
 have e1:(o + p < 0 ∨ o + (s.size:Int) ≤ o + p) ↔ (p < 0 ∨ (s.size:Int) ≤ p):=by omega
 have e2:(o + (s.size:Int) < o + p + 2) ↔ ((s.size:Int) < p + 2):=by omega
 have e3:∀ L:Int,(L = 0 ∨ o + (s.size:Int) < o + p + L) ↔ (L = 0 ∨ (s.size:Int) < p + L):=by intro L;omega
 simp only [e1,e2,e3]
structure Bk (R s:ByteArray) (o base:Int):Prop where
 o0:0 ≤ o
 al:o % 256 = 0
 hi:o + 256 ≤ R.size
 sz:s.size = 256
 lim:R.size ≤ 4096
 bt_:∀ j:Int,0 ≤ j → j < 256 → bt R (o + j) = bt s j
 up:((R.extract 0 (o + 256).toNat).size:Int) = o + s.size ∧ ∀ j:Int,0 ≤ j → bt (R.extract 0 (o + 256).toNat) (o + j) = bt s j
 ba:(o = 0 ∧ base = 0) ∨ (256 ≤ o ∧ base = 256)
theorem bytesOf_ext (a:ByteArray) (i j:Nat):bytesOf (a.extract i j) = ((bytesOf a).drop i).take (j - i):=by
 unfold bytesOf
 rw [ByteArray.data_extract,Array.toList_extract,List.extract_eq_take_drop,List.map_take,List.map_drop]
theorem bk_of {R:ByteArray} {b:Int} (hb:0 ≤ b) (h:(b + 1) * 256 ≤ R.size) (hl:R.size ≤ 4096):Bk R (R.extract (b * 256).toNat ((b + 1) * 256).toNat) (b * 256) (if b > 0 then 256 else 0):=by
 have hz:((R.extract (b * 256).toNat ((b + 1) * 256).toNat).size:Int) = 256:=by rw [ByteArray.size_extract];omega
 have hB:(bytesOf R).length = R.size:=bytesOf_length R
 have hg:∀ j:Int,0 ≤ j → bt (R.extract (b * 256).toNat ((b + 1) * 256).toNat) j = if j < 256 then bt R (b * 256 + j) else 0:=by
  intro j hj
  rw [btL,bytesOf_ext,List.getD_eq_getElem?_getD,List.getElem?_take]
  by_cases c:j < 256
  ·rw [if_pos (by omega),if_pos c,btL,List.getElem?_drop,List.getD_eq_getElem?_getD,show (b * 256).toNat + j.toNat = (b * 256 + j).toNat by omega]
  ·rw [if_neg (by omega),if_neg c];rfl
 refine ⟨by omega,by omega,by omega,by omega,hl,fun j j0 j1 => by rw [hg j j0,if_pos j1],⟨?_,fun j hj => ?_⟩,?_⟩
 ·rw [hz,ByteArray.size_extract];omega
 ·rw [hg j hj,btL,bytesOf_ext,List.getD_eq_getElem?_getD,List.getElem?_take,List.drop_zero]
  by_cases c:j < 256
  ·rw [if_pos (by omega),if_pos c,btL,List.getD_eq_getElem?_getD]
  ·rw [if_neg (by omega),if_neg c];rfl
 ·by_cases c:b > 0
  ·rw [if_pos c];right;omega
  ·rw [if_neg c];left;omega
section
variable {R s:ByteArray} {o base:Int} (H:Bk R s o base)
include H
theorem endOf_ {p:Int} (hp0:0 ≤ p) (hp1:p < 256):wrap64 ((wrap64 ((wrap64 (Int.tdiv (o + p) 256)) + 1)) * 256) = o + 256:=by
 have:=H.o0;have:=H.hi;have:=H.lim;have:=H.al
 rw [tdiv_pos _ (by omega),w64_in (n:=(o + p) / 256) (by omega) (by omega),w64_in (n:=(o + p) / 256 + 1) (by omega) (by omega),w64_in (by omega) (by omega)]
 omega
theorem inBank_T {p:Int} (hp0:0 ≤ p) (hp1:p < 256):Tot (fun k => impl_inBank.f k R (o + p)) (· = rdI s p):=by
 have:=H.o0;have:=H.hi;have:=H.lim
 unfold impl_inBank.f
 rw [endOf_ H hp0 hp1]
 refine Tot.yes (by omega) (Tot.yes H.hi ?_)
 refine Tot.bind (readI_T _ (o + p) (by rw [ByteArray.size_extract];omega)) ?_
 rintro _ rfl
 rw [rdI_shift H.o0 hp0 H.up.1 H.up.2]
 exact Tot.ret rfl
end
def banksV (R:ByteArray):Int:=if (R.size:Int) % 256 = 0 ∧ 2 ≤ (R.size:Int) / 256 ∧ (R.size:Int) / 256 ≤ 16 then (R.size:Int) / 256 else 0
theorem banksI (R:ByteArray) (hR:R.size ≤ 1152921504606846976):impl_banksOf.f R 2 = some (banksV R):=by
 unfold impl_banksOf.f banksV
 rw [w64_in (n:=(R.size:Int) / 256) (by omega) (by omega)]
 by_cases h:(R.size:Int) % 256 = 0
 ·rw [if_pos h,withinI,Option.bind_some]
  by_cases g:2 ≤ (R.size:Int) / 256 ∧ (R.size:Int) / 256 ≤ 16
  ·rw [if_pos (decide_eq_true g),if_pos ⟨h,g⟩]
  ·rw [if_neg (by rw [decide_eq_false g];decide),if_neg (fun e => g e.2)]
 ·rw [if_neg h,if_neg (fun e => h e.1)]
theorem banksS (R:ByteArray) (hR:R.size ≤ 1152921504606846976):spec_l5Banks.f R = some (banksV R):=by
 unfold spec_l5Banks.f banksV
 rw [w64_in (n:=(R.size:Int) / 256) (by omega) (by omega)]
 by_cases h:(R.size:Int) % 256 = 0
 ·rw [if_pos h,inS,Option.bind_some]
  by_cases g:2 ≤ (R.size:Int) / 256 ∧ (R.size:Int) / 256 ≤ 16
  ·rw [if_pos (decide_eq_true g),if_pos ⟨h,g⟩]
  ·rw [if_neg (by rw [decide_eq_false g];decide),if_neg (fun e => g e.2)]
 ·rw [if_neg h,if_neg (fun e => h e.1)]
def jk (cb:Bool) (n:Int):Nat :=
 if hk cb n = 3 ∧ n < 64 then 1 else
 if (hk cb n = 4 ∧ 192 ≤ n ∧ n % 8 ≠ 2) ∨ (194 ≤ n ∧ n % 8 = 2 ∧ n < 224 ∧ cb = false) then 2 else
 if 192 ≤ n ∧ n % 8 = 7 ∧ cb = false then 3 else 0
def goV (cb:Bool) (n:Int):Bool:=cb || !(n == 195 || n == 24 || n == 201 || n == 217 || n == 233)
def wordV (cb:Bool) (n:Int):List UInt8:=(Lib.cut (tm cb n).data.toList [32]).1
def restV (cb:Bool) (n:Int):List UInt8:=(Lib.cut (tm cb n).data.toList [32]).2.1
def QJ (cb:Bool) (n:Int):Prop :=
 (wordV cb n = [106,114] ↔ jk cb n = 1) ∧
 (((wordV cb n = [106,112] ∨ wordV cb n = [99,97,108,108]) ∧ restV cb n ≠ [104,108]) ↔ jk cb n = 2) ∧
 (wordV cb n = [114,115,116] ↔ jk cb n = 3) ∧
 (jk cb n = 3 → Go.bits .and .i64 n 56 = n / 8 % 8 * 8) ∧
 (jk cb n = 2 → hk cb n = 4) ∧
 goV cb n = !((tm cb n).data.toList == [106,112,32,110,49,54] || (tm cb n).data.toList == [106,114,32,101,56] || (tm cb n).data.toList == [114,101,116] || (tm cb n).data.toList == [114,101,116,105] || (tm cb n).data.toList == [106,112,32,104,108])
instance (cb:Bool) (n:Int):Decidable (QJ cb n):=by unfold QJ;infer_instance
set_option maxRecDepth 100000 in
theorem qj1:∀ n:Fin 256,QJ true ((n.val:Nat):Int):=by decide +kernel
set_option maxRecDepth 100000 in
theorem qj0:∀ n:Fin 256,QJ false ((n.val:Nat):Int):=by decide +kernel
theorem qj (cb:Bool) {n:Int} (h0:0 ≤ n) (h1:n < 256):QJ cb n:=by
 cases cb
 ·exact all256 qj0 h0 h1
 ·exact all256 qj1 h0 h1
def placeV (t b:Int):Int:=if 0 ≤ t ∧ t ≤ 255 then t else if 256 ≤ t ∧ t ≤ 511 ∧ b > 0 then b * 256 + t - 256 else -1
def plL (t b:Int):List Int:=if placeV t b = -1 then [] else [placeV t b]
theorem placeV_lo {t b:Int} (h:0 ≤ t ∧ t ≤ 255):placeV t b = t:=if_pos h
theorem placeV_hi {t b:Int} (h:256 ≤ t ∧ t ≤ 511) (e:b > 0):placeV t b = b * 256 + t - 256:=by
 unfold placeV
 rw [if_neg (show ¬ (0 ≤ t ∧ t ≤ 255) by omega),if_pos ⟨h.1,h.2,e⟩]
theorem placeV_no {t b:Int} (c:¬ (0 ≤ t ∧ t ≤ 255)) (d:¬ (256 ≤ t ∧ t ≤ 511 ∧ b > 0)):placeV t b = -1:=by
 unfold placeV
 rw [if_neg c,if_neg d]
theorem plL_some {t b p:Int} (h:placeV t b = p) (hp:0 ≤ p):plL t b = [p]:=by
 unfold plL
 rw [h,if_neg (show ¬ p = -1 by omega)]
theorem plL_no {t b:Int} (h:placeV t b = -1):plL t b = []:=by
 unfold plL
 rw [h];rfl
theorem placeV_none (b:Int):plL (-1) b = []:=plL_no (placeV_no (by omega) (by omega))
theorem placeI {t b:Int} (h0:0 ≤ b) (h1:b ≤ 15):impl_placeFrom.f t b = some (placeV t b):=by
 unfold impl_placeFrom.f placeV
 rw [withinI,Option.bind_some]
 by_cases c:0 ≤ t ∧ t ≤ 255
 ·rw [if_pos (decide_eq_true c),if_pos c]
 rw [if_neg (by rw [decide_eq_false c];decide),if_neg c,withinI,Option.bind_some]
 by_cases d:256 ≤ t ∧ t ≤ 511
 ·rw [if_pos (decide_eq_true d)]
  by_cases e:b > 0
  ·rw [if_pos e,if_pos ⟨d.1,d.2,e⟩,w64_in (n:=b * 256) (by omega) (by omega),w64_in (n:=b * 256 + t) (by omega) (by omega),w64_in (by omega) (by omega)]
  ·rw [if_neg e,if_neg (fun x => e x.2.2)]
 ·rw [if_neg (by rw [decide_eq_false d];decide),if_neg (fun x => d ⟨x.1,x.2.1⟩)]
def toV (cb:Bool) (c m a:Int):Int:=if jk cb c = 1 then a + sgV m else if jk cb c = 2 then m else if jk cb c = 3 then c / 8 % 8 * 8 else -1
section
variable {x9:Int} (h0:0 ≤ x9) (h1:x9 ≤ 15) {x12:List Int} (hl:x12.length ≤ 1)
include h0 h1 hl
theorem j8T (t:Int):Tot (fun k => spec_l13Next.j8 k x9 x12 t) (· = x12 ++ plL t x9):=by
 refine Tot.step (fun k => spec_l13Next.j8.eq_2 _ _ _ k) ?_
 refine Tot.bind (Tot.of (inS _ _ _) rfl) ?_
 rintro _ rfl
 refine Tot.ite (fun h => Tot.yes (by omega) (Tot.ret ?_)) (fun h => ?_)
 ·have c:=of_decide_eq_true h
  rw [plL_some (placeV_lo c) c.1]
 have c:¬ (0 ≤ t ∧ t ≤ 255):=fun e => h (decide_eq_true e)
 refine Tot.bind (Tot.of (inS _ _ _) rfl) ?_
 rintro _ rfl
 refine Tot.ite (fun h => Tot.ite (fun e => Tot.yes (by omega) (Tot.ret ?_)) (fun e => Tot.ret ?_)) (fun h => Tot.ret ?_)
 ·have d:=of_decide_eq_true h
  rw [w64_in (n:=x9 * 256) (by omega) (by omega),w64_in (n:=x9 * 256 + t) (by omega) (by omega),w64_in (by omega) (by omega),plL_some (placeV_hi d e) (by omega)]
 ·rw [plL_no (placeV_no c (fun x => e x.2.2)),List.append_nil]
 ·rw [plL_no (placeV_no c (fun x => h (decide_eq_true ⟨x.1,x.2.1⟩))),List.append_nil]
variable {c m:Int} {cb:Bool} (c0:0 ≤ c) (c1:c < 256)
include c0 c1
theorem j7T (b:Bool):Tot (fun k => spec_l13Next.j7 k x9 x12 (-1) b c cb m) (· = x12 ++ plL (if b = true then c / 8 % 8 * 8 else -1) x9):=by
 refine Tot.step (fun k => spec_l13Next.j7.eq_2 _ _ _ _ _ _ _ k) ?_
 refine Tot.ite (fun h => ?_) (fun h => ?_)
 ·rw [if_pos h,tdiv_pos _ c0,w64_in (n:=c / 8) (by omega) (by omega),tmod_pos _ (by omega),w64_in (by omega) (by omega)]
  exact j8T h0 h1 hl _
 ·rw [if_neg h]
  exact j8T h0 h1 hl _
theorem j6T (b:Bool):Tot (fun k => spec_l13Next.j6 k x9 x12 (-1) b c cb m) (· = x12 ++ plL (if b = true then m else if 192 ≤ c ∧ c % 8 = 7 ∧ cb = false then c / 8 % 8 * 8 else -1) x9):=by
 refine Tot.step (fun k => spec_l13Next.j6.eq_2 _ _ _ _ _ _ _ k) ?_
 refine Tot.ite (fun h => ?_) (fun h => ?_)
 ·rw [if_pos h]
  exact j8T h0 h1 hl _
 rw [if_neg h,tmod_pos _ c0]
 have go:∀ b:Bool,(b = true ↔ (192 ≤ c ∧ c % 8 = 7 ∧ cb = false)) → Tot (fun k => spec_l13Next.j7 k x9 x12 (-1) b c cb m) (· = x12 ++ plL (if 192 ≤ c ∧ c % 8 = 7 ∧ cb = false then c / 8 % 8 * 8 else -1) x9):=by
  intro b hb
  have:=j7T h0 h1 hl (m:=m) (cb:=cb) c0 c1 b
  by_cases e:b = true
  ·rw [if_pos e] at this;rw [if_pos (hb.1 e)];exact this
  ·rw [if_neg e] at this;rw [if_neg (fun x => e (hb.2 x))];exact this
 refine Tot.ite (fun g => Tot.ite (fun d => go _ ?_) (fun d => go _ ?_)) (fun g => go _ ?_)
 ·have g':192 ≤ c:=g
  cases cb <;> simp [g',d]
 ·simp [d]
 ·have g':¬ 192 ≤ c:=g
  simp [g']
theorem j5T (b:Bool):Tot (fun k => spec_l13Next.j5 k x9 x12 (-1) b c cb m) (· = x12 ++ plL (if b = true ∨ (194 ≤ c ∧ c % 8 = 2 ∧ c < 224 ∧ cb = false) then m else if 192 ≤ c ∧ c % 8 = 7 ∧ cb = false then c / 8 % 8 * 8 else -1) x9):=by
 refine Tot.step (fun k => spec_l13Next.j5.eq_2 _ _ _ _ _ _ _ k) ?_
 have go:∀ d:Bool,(d = true ↔ (b = true ∨ (194 ≤ c ∧ c % 8 = 2 ∧ c < 224 ∧ cb = false))) → Tot (fun k => spec_l13Next.j6 k x9 x12 (-1) d c cb m) (· = x12 ++ plL (if b = true ∨ (194 ≤ c ∧ c % 8 = 2 ∧ c < 224 ∧ cb = false) then m else if 192 ≤ c ∧ c % 8 = 7 ∧ cb = false then c / 8 % 8 * 8 else -1) x9):=by
  intro d hd
  have:=j6T h0 h1 hl (m:=m) (cb:=cb) c0 c1 d
  by_cases e:d = true
  ·rw [if_pos e] at this;rw [if_pos (hd.1 e)];exact this
  ·rw [if_neg e] at this;rw [if_neg (fun x => e (hd.2 x))];exact this
 rw [tmod_pos _ c0]
 refine Tot.ite (fun h => go _ ?_) (fun h => Tot.ite (fun g => Tot.ite (fun d => Tot.ite (fun e => go _ ?_) (fun e => go _ ?_)) (fun d => go _ ?_)) (fun g => go _ ?_))
 ·simp [h]
 ·have g':194 ≤ c:=g
  cases cb <;> simp [h,g',d,e]
 ·simp [h,e]
 ·simp [h,d]
 ·have g':¬ 194 ≤ c:=g
  simp [h,g']
theorem j3T (n x10 x11:Int) (hn:hk cb c = 3 → n = 2) (hx:0 ≤ x10 ∧ x10 < 256) (hy:0 ≤ x11 ∧ x11 ≤ 256):Tot (fun k => spec_l13Next.j3 k n x9 x10 x11 x12 c cb m) (· = x12 ++ plL (toV cb c m (x11 + x10 + 2)) x9):=by
 have hle:=hk_le cb c0 c1
 have hcb:cb = true → hk cb c = 1:=fun e => by rw [e];exact hk_cb c0 c1
 have rg:=sgV_range m
 refine Tot.step (fun k => spec_l13Next.j3.eq_2 _ _ _ _ _ _ _ _ k) ?_
 refine Tot.bind (tmS_T cb c0 c1) ?_
 rintro _ rfl
 refine Tot.bind (hoS_T cb c0 c1) ?_
 rintro _ rfl
 have go:∀ d:Bool,(d = true ↔ (hk cb c = 3 ∧ c < 64)) → Tot (fun k => spec_l13Next.j4 k n x9 x10 x11 x12 (holeS (hk cb c)) (-1) d c cb m) (· = x12 ++ plL (toV cb c m (x11 + x10 + 2)) x9):=by
  intro d hd
  refine Tot.step (fun k => spec_l13Next.j4.eq_2 _ _ _ _ _ _ _ _ _ _ _ k) ?_
  unfold toV jk
  by_cases e:d = true
  ·have e3:=hd.1 e
   rw [hn e3.1]
   refine Tot.yes e (Tot.bind (Tot.of (sgS m) rfl) ?_)
   rintro _ rfl
   rw [if_pos e3,if_pos rfl,w64_in (n:=x11 + x10) (by omega) (by omega),w64_in (n:=x11 + x10 + 2) (by omega) (by omega),w64_in (by omega) (by omega)]
   exact j8T h0 h1 hl _
  refine Tot.no e ?_
  have e3:¬ (hk cb c = 3 ∧ c < 64):=fun x => e (hd.2 x)
  rw [if_neg e3,tmod_pos _ c0]
  have fin:∀ b:Bool,(b = true ↔ (hk cb c = 4 ∧ 192 ≤ c ∧ c % 8 ≠ 2)) → Tot (fun k => spec_l13Next.j5 k x9 x12 (-1) b c cb m) (· = x12 ++ plL (if (if (hk cb c = 4 ∧ 192 ≤ c ∧ c % 8 ≠ 2) ∨ (194 ≤ c ∧ c % 8 = 2 ∧ c < 224 ∧ cb = false) then 2 else if 192 ≤ c ∧ c % 8 = 7 ∧ cb = false then 3 else 0) = 1 then x11 + x10 + 2 + sgV m else if (if (hk cb c = 4 ∧ 192 ≤ c ∧ c % 8 ≠ 2) ∨ (194 ≤ c ∧ c % 8 = 2 ∧ c < 224 ∧ cb = false) then 2 else if 192 ≤ c ∧ c % 8 = 7 ∧ cb = false then 3 else 0) = 2 then m else if (if (hk cb c = 4 ∧ 192 ≤ c ∧ c % 8 ≠ 2) ∨ (194 ≤ c ∧ c % 8 = 2 ∧ c < 224 ∧ cb = false) then 2 else if 192 ≤ c ∧ c % 8 = 7 ∧ cb = false then 3 else 0) = 3 then c / 8 % 8 * 8 else -1) x9):=by
   intro b hb
   have:=j5T h0 h1 hl (m:=m) (cb:=cb) c0 c1 b
   simp only [hb] at this
   by_cases p:(hk cb c = 4 ∧ 192 ≤ c ∧ c % 8 ≠ 2) ∨ (194 ≤ c ∧ c % 8 = 2 ∧ c < 224 ∧ cb = false)
   ·rw [if_pos p] at this ⊢
    exact this
   ·rw [if_neg p] at this ⊢
    by_cases q:192 ≤ c ∧ c % 8 = 7 ∧ cb = false
    ·rw [if_pos q] at this ⊢
     exact this
    ·rw [if_neg q] at this ⊢
     exact this
  refine Tot.ite (fun hw => Tot.ite (fun g => fin _ ?_) (fun g => fin _ ?_)) (fun hw => fin _ ?_)
  ·have h4:=(holeS_n16 _ hle).1 hw
   have g':192 ≤ c:=g
   simp [h4,g']
  ·have g':¬ 192 ≤ c:=g
   simp [g']
  ·have h4:¬ hk cb c = 4:=fun e => hw ((holeS_n16 _ hle).2 e)
   simp [h4]
 refine Tot.ite (fun h8 => go _ ?_) (fun h8 => go _ ?_)
 ·have:=(holeS_e8 _ hle).1 h8
  simp [this]
 ·have:¬ hk cb c = 3:=fun e => h8 ((holeS_e8 _ hle).2 e)
  simp [this]
end
def goL (cb:Bool) (c:Int) (x:Int):List Int:=if goV cb c = true then [x] else []
theorem nextS_T {R:ByteArray} {x n c m:Int} {cb:Bool} (x0:0 ≤ x) (x1:x < 4096) (c0:0 ≤ c) (c1:c < 256) (n0:0 ≤ n) (n1:n ≤ 3) (hn:hk cb c = 3 → n = 2) :
  Tot (fun k => spec_l13Next.f k R x c cb m n) (· = goL cb c (x + n) ++ plL (toV cb c m ((if x < 256 then x else x % 256 + 256) + 2)) (x / 256)):=by
 unfold spec_l13Next.f
 rw [tdiv_pos _ x0,tmod_pos _ x0,w64_in (n:=x / 256) (by omega) (by omega)]
 have go:∀ x11:Int,0 ≤ x11 ∧ x11 ≤ 256 → x11 + x % 256 = (if x < 256 then x else x % 256 + 256) → Tot (fun k => spec_l13Next.j0 k x n (x / 256) (x % 256) x11 c cb m) (· = goL cb c (x + n) ++ plL (toV cb c m ((if x < 256 then x else x % 256 + 256) + 2)) (x / 256)):=by
  intro x11 hx he
  rw [← he]
  have j2:∀ b:Bool,(b = goV cb c) → Tot (fun k => spec_l13Next.j2 k x n (x / 256) (x % 256) x11 [] b c cb m) (· = goL cb c (x + n) ++ plL (toV cb c m (x11 + x % 256 + 2)) (x / 256)):=by
   rintro _ rfl
   refine Tot.step (fun k => spec_l13Next.j2.eq_2 _ _ _ _ _ _ _ _ _ _ k) ?_
   unfold goL
   refine Tot.ite (fun h => Tot.yes (by decide) ?_) (fun h => ?_)
   ·rw [if_pos h,w64_in (n:=x + n) (by omega) (by omega)]
    exact j3T (x9:=x / 256) (by omega) (by omega) (x12:=[x + n]) (Nat.le_refl _) c0 c1 n _ _ hn (by omega) hx
   ·rw [if_neg h]
    exact j3T (x9:=x / 256) (by omega) (by omega) (x12:=[]) (by decide) c0 c1 n _ _ hn (by omega) hx
  have j1:∀ b:Bool,(b = (c == 195 || c == 24 || c == 201 || c == 217 || c == 233)) → Tot (fun k => spec_l13Next.j1 k x n (x / 256) (x % 256) x11 [] b c cb m) (· = goL cb c (x + n) ++ plL (toV cb c m (x11 + x % 256 + 2)) (x / 256)):=by
   intro b hb
   refine Tot.step (fun k => spec_l13Next.j1.eq_2 _ _ _ _ _ _ _ _ _ _ k) ?_
   refine Tot.ite (fun h => j2 _ ?_) (fun h => j2 _ ?_)
   ·unfold goV;rw [h];rfl
   ·unfold goV;rw [hb,show cb = false by simpa using h];rfl
  refine Tot.step (fun k => spec_l13Next.j0.eq_2 _ _ _ _ _ _ _ _ k) ?_
  refine Tot.bind (Tot.of rfl rfl) ?_
  rintro _ rfl
  refine Tot.ite (fun h => j1 _ ?_) (fun h => Tot.ite (fun h2 => j1 _ ?_) (fun h2 => Tot.ite (fun h3 => j1 _ ?_) (fun h3 => Tot.ite (fun h4 => j1 _ ?_) (fun h4 => j1 _ ?_))))
  ·simp [h]
  ·simp [h2]
  ·simp [h3]
  ·simp [h4]
  ·simp [h,h2,h3,h4]
 refine Tot.ite (fun h => go 256 (by decide) ?_) (fun h => go 0 (by decide) ?_)
 ·rw [if_neg (by omega)];omega
 ·rw [if_pos (by omega)];omega
theorem goesI_T (cb:Bool) {c:Int} (c0:0 ≤ c) (c1:c < 256) (m:Int):Tot (fun k => impl_goesOn.f k c cb m) (· = goV cb c):=by
 have q:=(qj cb c0 c1).2.2.2.2.2
 unfold impl_goesOn.f
 refine Tot.bind (tmI_T cb c0 c1) ?_
 rintro _ rfl
 rw [toL]
 have go:∀ b:Bool,b = !goV cb c → Tot (fun k => impl_goesOn.j0 k b) (· = goV cb c):=by
  rintro _ rfl
  refine Tot.step (fun k => impl_goesOn.j0.eq_2 _ k) ?_
  refine Tot.ite (fun h => Tot.ret ?_) (fun h => Tot.ret ?_)
  ·revert h;cases goV cb c <;> simp
  ·revert h;cases goV cb c <;> simp
 refine Tot.ite (fun h => go _ ?_) (fun h => Tot.ite (fun h2 => go _ ?_) (fun h2 => Tot.ite (fun h3 => go _ ?_) (fun h3 => Tot.ite (fun h4 => go _ ?_) (fun h4 => go _ ?_))))
 ·rw [q,h];rfl
 ·rw [q,h2];rfl
 ·rw [q,h3];rfl
 ·rw [q,h4];rfl
 ·rw [q,beq_eq_false_iff_ne.2 h,beq_eq_false_iff_ne.2 h2,beq_eq_false_iff_ne.2 h3,beq_eq_false_iff_ne.2 h4]
  simp
theorem jumpsI_T (cb:Bool) {c:Int} (c0:0 ≤ c) (c1:c < 256) {x:Int} (x0:0 ≤ x) (x1:x < 4096) (m:Int) :
  Tot (fun k => impl_jumps.f k c cb m x) (· = (if jk cb c = 0 then 0 else toV cb c m ((if x < 256 then x else x % 256 + 256) + 2),decide (jk cb c ≠ 0))):=by
 obtain ⟨q1,q2,q3,q4,q5,_⟩:=qj cb c0 c1
 have hz:=(qc cb c0 c1).2.2.2.2.2.2.2.1
 have rg:=sgV_range m
 unfold impl_jumps.f
 refine Tot.bind (tmI_T cb c0 c1) ?_
 rintro _ rfl
 refine Tot.bind (P:=fun r => r.1.toList = wordV cb c ∧ r.2.1.toList = restV cb c) (Tot.of (g:=strings_Cut.f (tm cb c) (⟨#[32]⟩:ByteArray)) (r:=(⟨(wordV cb c).toArray⟩,⟨(restV cb c).toArray⟩,(Lib.cut (tm cb c).data.toList [32]).2.2)) ?_ ?_) ?_
 ·unfold strings_Cut.f
  rw [if_pos (by omega)]
  rfl
 ·exact ⟨by rw [toL],by rw [toL]⟩
 rintro ⟨w1,w2,w3⟩ ⟨e1,e2⟩
 dsimp only at e1 e2 ⊢
 rw [e1,e2]
 unfold toV
 have j0:∀ (b:Bool),(b = true ↔ jk cb c = 2) → jk cb c ≠ 1 → Tot (fun k => impl_jumps.j0 k w1 b c cb m) (· = (if jk cb c = 0 then 0 else if jk cb c = 1 then (if x < 256 then x else x % 256 + 256) + 2 + sgV m else if jk cb c = 2 then m else if jk cb c = 3 then c / 8 % 8 * 8 else -1,decide (jk cb c ≠ 0))):=by
  intro b hb n1
  refine Tot.step (fun k => impl_jumps.j0.eq_2 _ _ _ _ _ k) ?_
  rw [e1]
  refine Tot.ite (fun h => Tot.ret ?_) (fun h => Tot.ite (fun g => Tot.ret ?_) (fun g => Tot.ret ?_))
  ·rw [hb.1 h];rfl
  ·have:=q3.1 g
   rw [q4 this,this];rfl
  ·have n2:jk cb c ≠ 2:=fun e => h (hb.2 e)
   have n3:jk cb c ≠ 3:=fun e => g (q3.2 e)
   have:jk cb c = 0:=by
    revert n1 n2 n3
    unfold jk
    split
    ·simp
    ·split
     ·simp
     ·split <;> simp
   rw [this];rfl
 refine Tot.ite (fun h => ?_) (fun h => ?_)
 ·have j1:=q1.1 h
  refine Tot.bind (P:=fun t => t = (if x < 256 then x else x % 256 + 256)) ?_ ?_
  ·unfold impl_addrOf.f
   refine Tot.ite (fun g => Tot.ret (by rw [if_pos g])) (fun g => Tot.ret ?_)
   rw [if_neg g,tmod_pos _ x0,w64_in (by omega) (by omega)]
  rintro _ rfl
  refine Tot.bind (Tot.of (sgI m) rfl) ?_
  rintro _ rfl
  refine Tot.ret ?_
  have hx:0 ≤ (if x < 256 then x else x % 256 + 256) ∧ (if x < 256 then x else x % 256 + 256) < 512:=by split <;> omega
  rw [j1,w64_in (n:=(if x < 256 then x else x % 256 + 256) + 2) (by omega) (by omega),w64_in (by omega) (by omega)]
  rfl
 have n1:jk cb c ≠ 1:=fun e => h (q1.2 e)
 refine Tot.ite (fun g => j0 _ ?_ n1) (fun g => Tot.ite (fun g2 => j0 _ ?_ n1) (fun g2 => j0 _ ?_ n1))
 ·rw [← q2,bne_iff_ne]
  exact ⟨fun e => ⟨.inl g,e⟩,fun e => e.2⟩
 ·rw [← q2,bne_iff_ne]
  exact ⟨fun e => ⟨.inr g2,e⟩,fun e => e.2⟩
 ·rw [← q2]
  constructor
  ·intro e;exact absurd e (by decide)
  ·rintro ⟨e | e,_⟩
   ·exact absurd e g
   ·exact absurd e g2
theorem bytesOf_append (a b:ByteArray):bytesOf (a ++ b) = bytesOf a ++ bytesOf b:=by
 unfold bytesOf
 rw [ByteArray.data_append,Array.toList_append,List.map_append]
theorem cpy_get (xs ys:List Int) (lo m:Nat) (h:lo ≤ xs.length) (p:Nat) :
  (cpy xs lo m ys)[p]? = if lo ≤ p ∧ p < lo + min ys.length m then ys[p - lo]? else xs[p]?:=by
 unfold cpy
 have h1:(xs.take lo).length = lo:=by rw [List.length_take];omega
 have h2:(xs.take lo ++ ys.take m).length = lo + min ys.length m:=by rw [List.length_append,h1,List.length_take];omega
 by_cases a:p < lo + min ys.length m
 ·rw [List.getElem?_append_left (by omega)]
  by_cases b:lo ≤ p
  ·rw [if_pos ⟨b,a⟩,List.getElem?_append_right (by omega),h1,List.getElem?_take,if_pos (by omega)]
  ·rw [if_neg (by omega),List.getElem?_append_left (by omega),List.getElem?_take,if_pos (by omega)]
 ·rw [if_neg (by omega),List.getElem?_append_right (by omega),h2,List.getElem?_drop,show lo + min ys.length m + (p - (lo + min ys.length m)) = p by omega]
theorem bytesOf_strOfNums {xs:List Int} (h:∀ x ∈ xs,0 ≤ x ∧ x < 256):bytesOf (strOfNums xs) = xs:=by
 unfold bytesOf
 rw [strOfNums_data,List.map_map]
 conv => rhs;rw [← List.map_id xs]
 refine List.map_congr_left fun x hx => ?_
 have:=h x hx
 simp only [Function.comp,id]
 rw [UInt8.toNat_ofNat']
 omega
def Fit (m:List Int) (x n:Int):Prop:=∀ j:Int,0 ≤ j → j < n → rd m (x + j) = 100
def putK (m:List Int) (x:Nat):Nat → List Int
 | 0 => m.set x 99
 | j + 1 => (putK m x j).set (x + 1 + j) 46
theorem putK_length (m:List Int) (x:Nat):∀ j,(putK m x j).length = m.length
 | 0 => List.length_set
 | j + 1 => by rw [putK,List.length_set,putK_length m x j]
theorem putK_get {m:List Int} {x:Nat}:∀ (j:Nat),x + j < m.length → ∀ p,(putK m x j)[p]? = if p = x then some 99 else if x < p ∧ p ≤ x + j then some 46 else m[p]?
 | 0,h,p => by
  rw [putK,List.getElem?_set]
  by_cases e:x = p
  ·rw [if_pos e,if_pos (by omega),if_pos e.symm]
  ·rw [if_neg e,if_neg (fun x => e x.symm),if_neg (by omega)]
 | j + 1,h,p => by
  rw [putK,List.getElem?_set,putK_get j (by omega) p,putK_length]
  by_cases e:x + 1 + j = p
  ·rw [if_pos e,if_pos (by omega),if_neg (by omega),if_pos (by omega)]
  ·rw [if_neg e]
   by_cases g:p = x
   ·rw [if_pos g,if_pos g]
   ·rw [if_neg g,if_neg g]
    by_cases q:x < p ∧ p ≤ x + j
    ·rw [if_pos q,if_pos (by omega)]
    ·rw [if_neg q,if_neg (by omega)]
theorem count_set_le (l:List Int) (i:Nat) (v:Int) (hv:v ≠ 100):(l.set i v).count 100 ≤ l.count 100:=by
 by_cases h:i < l.length
 ·rw [List.count_set h,beq_eq_false_iff_ne.2 hv,if_neg (show ¬ (false = true) by decide)]
  omega
 ·rw [List.set_eq_of_length_le (by omega)]
  exact Nat.le_refl _
theorem putK_count {m:List Int} {x:Nat} (h:m[x]? = some 100):∀ j,(putK m x j).count 100 < m.count 100
 | 0 => by
  obtain ⟨hx,e⟩:=List.getElem?_eq_some_iff.1 h
  have:0 < m.count 100:=List.count_pos_iff.2 (e ▸ List.getElem_mem hx)
  rw [putK,List.count_set hx,e]
  simp
  omega
 | j + 1 => by
  have:=putK_count h j
  have:=count_set_le (putK m x j) (x + 1 + j) 46 (by decide)
  rw [putK]
  omega
theorem rd_some {m:List Int} {i:Int} (h:i.toNat < m.length):m[i.toNat]? = some (rd m i):=by
 unfold rd
 rw [List.getD_eq_getElem?_getD,List.getElem?_eq_getElem h]
 rfl
theorem rd_of {m:List Int} {i:Int} {v:Int} (h:m[i.toNat]? = some v):rd m i = v:=by
 unfold rd
 rw [List.getD_eq_getElem?_getD,h]
 rfl
theorem all_fit {m:List Int} {x n:Int} (x0:0 ≤ x) (n0:0 ≤ n) (h:x + n ≤ m.length):((m.take (x + n).toNat).drop x.toNat).all (· == 100) = true ↔ Fit m x n:=by
 have hg:∀ i:Nat,((m.take (x + n).toNat).drop x.toNat)[i]? = if (i:Int) < n then m[(x + i).toNat]? else none:=by
  intro i
  rw [List.getElem?_drop,List.getElem?_take]
  by_cases c:(i:Int) < n
  ·rw [if_pos (by omega),if_pos c,show x.toNat + i = (x + i).toNat by omega]
  ·rw [if_neg (by omega),if_neg c]
 rw [List.all_eq_true]
 constructor
 ·intro H j j0 j1
  have e:=hg j.toNat
  rw [if_pos (by omega),show (x + (j.toNat:Int)) = x + j by omega,rd_some (m:=m) (i:=x + j) (by omega)] at e
  have:=H _ (List.mem_of_getElem? e)
  simpa using this
 ·intro H a ha
  obtain ⟨i,hi⟩:=List.mem_iff_getElem?.1 ha
  rw [hg] at hi
  by_cases c:(i:Int) < n
  ·rw [if_pos c] at hi
   have:=H i (by omega) c
   rw [rd_of hi] at this
   simpa using this
  ·rw [if_neg c] at hi
   cases hi
theorem isData_T (l:List Int) (hl:l.length ≤ 1000000):Tot (fun k => impl_isData.f k l) (· = l.all (· == 100)):=by
 have go:∀ (d i:Nat),l.length - i = d → i ≤ l.length → Tot (fun k => impl_isData.l0 k l (l.length:Int) (i:Int)) (· = (l.drop i).all (· == 100)):=by
  intro d
  induction d with
  | zero =>
   intro i h1 h2
   refine Tot.step (fun k => impl_isData.l0.eq_2 _ _ _ k) (Tot.no (by omega) (Tot.ret ?_))
   rw [List.drop_eq_nil_of_le (by omega)];rfl
  | succ d ih =>
   intro i h1 h2
   have hi:i < l.length:=by omega
   have e:l.drop i = rd l (i:Int) :: l.drop (i + 1):=by
    rw [List.drop_eq_getElem_cons hi]
    congr 1
    exact (rd_of (i:=(i:Int)) (List.getElem?_eq_getElem hi)).symm
   refine Tot.step (fun k => impl_isData.l0.eq_2 _ _ _ k) (Tot.yes (by omega) (Tot.yes (by omega) (Tot.yes (by omega) (Tot.ite (fun h => ?_) (fun h => Tot.ret ?_)))))
   ·rw [e,List.all_cons,h,w64_in (by omega) (by omega)]
    exact ih (i + 1) (by omega) (by omega)
   ·rw [e,List.all_cons,beq_eq_false_iff_ne.2 h];rfl
 have:=go _ 0 rfl (Nat.zero_le _)
 exact this
def insV (R:ByteArray) (x:Int):Int × Bool × Int × Int:=rdI (R.extract (x / 256 * 256).toNat ((x / 256 + 1) * 256).toNat) (x % 256)
section
variable {R:ByteArray} (hb:banksV R ≠ 0)
include hb
theorem romSize:(R.size:Int) % 256 = 0 ∧ 512 ≤ R.size ∧ R.size ≤ 4096:=by
 unfold banksV at hb
 split at hb
 ·omega
 ·exact absurd rfl hb
variable {x:Int} (x0:0 ≤ x) (x1:x < R.size)
include x0 x1
theorem bankAt:Bk R (R.extract (x / 256 * 256).toNat ((x / 256 + 1) * 256).toNat) (x / 256 * 256) (if x / 256 > 0 then 256 else 0):=by
 have:=romSize hb
 exact bk_of (by omega) (by omega) (by omega)
theorem insI_T:Tot (fun k => impl_inBank.f k R x) (· = insV R x):=by
 have:=inBank_T (bankAt hb x0 x1) (p:=x % 256) (by omega) (by omega)
 rw [show x / 256 * 256 + x % 256 = x by omega] at this
 exact this
theorem insS_T:Tot (fun k => spec_ReadIns.f k (R.extract x.toNat ((x / 256 + 1) * 256).toNat) 0) (· = insV R x):=by
 have z:=romSize hb
 have H:=bankAt hb x0 x1
 have hB:(bytesOf R).length = R.size:=bytesOf_length R
 have e:insV R x = rdI (R.extract x.toNat ((x / 256 + 1) * 256).toNat) 0:=by
  have:=rdI_shift (s:=R.extract x.toNat ((x / 256 + 1) * 256).toNat) (t:=R.extract (x / 256 * 256).toNat ((x / 256 + 1) * 256).toNat) (o:=x % 256) (p:=0) (by omega) (by omega) (by rw [ByteArray.size_extract,ByteArray.size_extract];omega) (by
   intro j hj
   rw [btL,btL,bytesOf_ext,bytesOf_ext,List.getD_eq_getElem?_getD,List.getD_eq_getElem?_getD,List.getElem?_take,List.getElem?_take,List.getElem?_drop,List.getElem?_drop]
   by_cases c:x + j < (x / 256 + 1) * 256
   ·rw [if_pos (by omega),if_pos (by omega),show (x / 256 * 256).toNat + (x % 256 + j).toNat = x.toNat + j.toNat by omega]
   ·rw [if_neg (by omega),if_neg (by omega)])
  rw [Int.add_zero] at this
  exact this
 rw [e]
 exact readS_T _ 0 (by rw [ByteArray.size_extract];omega) (by omega)
theorem insV_pos (h:(insV R x).2.2.2 ≠ 0):1 ≤ (insV R x).2.2.2 ∧ (insV R x).2.2.2 ≤ 3 ∧ x % 256 + (insV R x).2.2.2 ≤ 256 ∧ (0 ≤ (insV R x).1 ∧ (insV R x).1 < 256) ∧ (hk (insV R x).2.1 (insV R x).1 = 3 → (insV R x).2.2.2 = 2):=by
 have H:=bankAt hb x0 x1
 have r:=rd_pos h
 have hz:=H.sz
 rw [show ((R.extract (x / 256 * 256).toNat ((x / 256 + 1) * 256).toNat).size:Int) = 256 by omega] at r
 exact ⟨r.1,r.2.1,r.2.2.1,r.2.2.2.1,r.2.2.2.2.2⟩
end
def nextI (R:ByteArray) (x:Int):List Int:=goL (insV R x).2.1 (insV R x).1 (x + (insV R x).2.2.2) ++ (if jk (insV R x).2.1 (insV R x).1 = 0 then [] else [placeV (toV (insV R x).2.1 (insV R x).1 (insV R x).2.2.1 ((if x < 256 then x else x % 256 + 256) + 2)) (x / 256)])
def nextS (R:ByteArray) (x:Int):List Int:=goL (insV R x).2.1 (insV R x).1 (x + (insV R x).2.2.2) ++ plL (toV (insV R x).2.1 (insV R x).1 (insV R x).2.2.1 ((if x < 256 then x else x % 256 + 256) + 2)) (x / 256)
inductive Sub:List Int → List Int → Prop
 | nil:Sub [] []
 | cons (x:Int) {a b:List Int}:Sub a b → Sub (x :: a) (x :: b)
 | skip {a b:List Int}:Sub a b → Sub (-1 :: a) b
theorem Sub.refl:∀ a,Sub a a
 | [] => .nil
 | x :: a => .cons x (Sub.refl a)
theorem Sub.append {a b c d:List Int} (h:Sub a b) (g:Sub c d):Sub (a ++ c) (b ++ d):=by
 induction h with
 | nil => exact g
 | cons x _ ih => exact .cons x ih
 | skip _ ih => exact .skip ih
theorem next_sub (R:ByteArray) (x:Int):Sub (nextI R x) (nextS R x):=by
 unfold nextI nextS
 refine (Sub.refl _).append ?_
 by_cases h:jk (insV R x).2.1 (insV R x).1 = 0
 ·rw [if_pos h,show toV (insV R x).2.1 (insV R x).1 (insV R x).2.2.1 ((if x < 256 then x else x % 256 + 256) + 2) = -1 by unfold toV;rw [h];rfl,placeV_none]
  exact .nil
 ·rw [if_neg h]
  unfold plL
  generalize placeV (toV (insV R x).2.1 (insV R x).1 (insV R x).2.2.1 ((if x < 256 then x else x % 256 + 256) + 2)) (x / 256) = p
  by_cases e:p = -1
  ·rw [if_pos e,e];exact .skip .nil
  ·rw [if_neg e];exact .cons _ .nil
theorem goL_len (cb:Bool) (c x:Int):(goL cb c x).length ≤ 1:=by unfold goL;split <;> simp
theorem next_len (R:ByteArray) (x:Int):(nextI R x).length ≤ 2 ∧ (nextS R x).length ≤ 2:=by
 unfold nextI nextS plL
 generalize placeV (toV (insV R x).2.1 (insV R x).1 (insV R x).2.2.1 ((if x < 256 then x else x % 256 + 256) + 2)) (x / 256) = p
 rw [List.length_append,List.length_append]
 have:=goL_len (insV R x).2.1 (insV R x).1 (x + (insV R x).2.2.2)
 constructor
 ·by_cases e:jk (insV R x).2.1 (insV R x).1 = 0
  ·rw [if_pos e,List.length_nil];omega
  ·rw [if_neg e,List.length_singleton];omega
 ·by_cases e:p = -1
  ·rw [if_pos e,List.length_nil];omega
  ·rw [if_neg e,List.length_singleton];omega
theorem reps_dot (n:Nat):bytesOf (⟨(Lib.repeatL [46] n).toArray⟩:ByteArray) = List.replicate n 46:=by
 have h:Lib.repeatL [46] n = List.replicate n 46:=by
  have:=Lib.repeatL_replicate 46 1 n
  rw [Nat.mul_one] at this
  exact this
 rw [h]
 unfold bytesOf
 simp
theorem reps_d (n:Nat):bytesOf (⟨(Lib.repeatL [100] n).toArray⟩:ByteArray) = List.replicate n 100:=by
 have h:Lib.repeatL [100] n = List.replicate n 100:=by
  have:=Lib.repeatL_replicate 100 1 n
  rw [Nat.mul_one] at this
  exact this
 rw [h]
 unfold bytesOf
 simp
theorem cpy_put {m:List Int} {x n:Int} (x0:0 ≤ x) (n0:1 ≤ n) (h:x + n ≤ m.length):cpy m x.toNat (m.length - x.toNat) (99 :: List.replicate (n - 1).toNat 46) = putK m x.toNat (n - 1).toNat:=by
 apply List.ext_getElem?
 intro p
 rw [cpy_get m _ _ _ (by omega),putK_get (n - 1).toNat (by omega),List.length_cons,List.length_replicate]
 by_cases c:p = x.toNat
 ·rw [if_pos (by omega),if_pos c,c,Nat.sub_self];rfl
 ·rw [if_neg c]
  by_cases d:x.toNat < p ∧ p ≤ x.toNat + (n - 1).toNat
  ·rw [if_pos d,if_pos (by omega)]
   obtain ⟨q,hq⟩:∃ q,p - x.toNat = q + 1:=⟨p - x.toNat - 1,by omega⟩
   rw [hq,List.getElem?_cons_succ,List.getElem?_replicate,if_pos (by omega)]
  ·rw [if_neg d,if_neg (by omega)]
section
variable {R:ByteArray} (hb:banksV R ≠ 0)
include hb
section
variable {m q:List Int} {k:Int} (hm:m.length = R.size) (k0:0 ≤ k) (k1:k < q.length) (hq:q.length ≤ 20000) {P:ByteArray → Prop}
include hm k0 k1 hq
theorem impl_at (h:Tot (fun j => if decide (0 ≤ rd q k ∧ rd q k ≤ (R.size:Int) - 1) = true then ((impl_inBank.f j R (rd q k)).bind fun bt513 => (if bt513.2.2.2 = 0 then (impl_MarksOf.j2 j R m q k (rd q k) bt513.2.2.2 true bt513.1 bt513.2.1 bt513.2.2.1) else (if 0 ≤ (rd q k) then (if (rd q k) ≤ (wrap64 ((rd q k) + bt513.2.2.2)) then (if (wrap64 ((rd q k) + bt513.2.2.2)) ≤ (m.length:Int) then ((impl_isData.f j ((m.take ((wrap64 ((rd q k) + bt513.2.2.2)):Int).toNat).drop ((rd q k):Int).toNat)).bind fun t522 => (impl_MarksOf.j2 j R m q k (rd q k) bt513.2.2.2 (!t522) bt513.1 bt513.2.1 bt513.2.2.1)) else (none)) else (none)) else (none)))) else (impl_MarksOf.l0 j R m q (wrap64 (k + 1)))) P):Tot (fun j => impl_MarksOf.l0 j R m q k) P:=by
 have z:=romSize hb
 refine Tot.step (fun j => impl_MarksOf.l0.eq_2 _ _ _ _ j) (Tot.yes k1 (Tot.yes k0 ?_))
 rw [w64_in (n:=(R.size:Int) - 1) (by omega) (by omega)]
 refine Tot.bind (Tot.of (withinI _ _ _) rfl) ?_
 rintro _ rfl
 exact h
theorem impl_out (hx:¬ (0 ≤ rd q k ∧ rd q k < R.size)) (h:Tot (fun j => impl_MarksOf.l0 j R m q (k + 1)) P):Tot (fun j => impl_MarksOf.l0 j R m q k) P:=by
 refine impl_at hb hm k0 k1 hq (Tot.no (by simp;omega) ?_)
 rw [w64_in (n:=k + 1) (by omega) (by omega)]
 exact h
theorem impl_skip (hx:0 ≤ rd q k ∧ rd q k < R.size) (hn:(insV R (rd q k)).2.2.2 = 0 ∨ ¬ Fit m (rd q k) (insV R (rd q k)).2.2.2) (h:Tot (fun j => impl_MarksOf.l0 j R m q (k + 1)) P):Tot (fun j => impl_MarksOf.l0 j R m q k) P:=by
 have z:=romSize hb
 have j2:∀ b:Bool,b = true → ∀ n c cb i,Tot (fun j => impl_MarksOf.j2 j R m q k (rd q k) n b c cb i) P:=by
  rintro _ rfl n c cb i
  refine Tot.step (fun j => impl_MarksOf.j2.eq_2 _ _ _ _ _ _ _ _ _ _ j) (Tot.yes rfl ?_)
  rw [w64_in (n:=k + 1) (by omega) (by omega)]
  exact h
 refine impl_at hb hm k0 k1 hq (Tot.yes (by simp;omega) ?_)
 refine Tot.bind (insI_T hb hx.1 hx.2) ?_
 rintro _ rfl
 by_cases h0:(insV R (rd q k)).2.2.2 = 0
 ·exact Tot.yes h0 (j2 _ rfl _ _ _ _)
 have r:=insV_pos hb hx.1 hx.2 h0
 refine Tot.no h0 ?_
 rw [w64_in (n:=rd q k + (insV R (rd q k)).2.2.2) (by omega) (by omega)]
 refine Tot.yes hx.1 (Tot.yes (by omega) (Tot.yes (by omega) ?_))
 refine Tot.bind (isData_T _ (by rw [List.length_drop,List.length_take];omega)) ?_
 rintro _ rfl
 refine j2 _ ?_ _ _ _ _
 rcases hn with hn | hn
 ·exact absurd hn h0
 ·rw [Bool.not_eq_true',Bool.eq_false_iff]
  exact fun e => hn ((all_fit hx.1 (by omega) (by omega)).1 e)
theorem impl_put (hx:0 ≤ rd q k ∧ rd q k < R.size) (h0:(insV R (rd q k)).2.2.2 ≠ 0) (hf:Fit m (rd q k) (insV R (rd q k)).2.2.2) (h:Tot (fun j => impl_MarksOf.l0 j R (putK m (rd q k).toNat ((insV R (rd q k)).2.2.2 - 1).toNat) (q ++ nextI R (rd q k)) (k + 1)) P):Tot (fun j => impl_MarksOf.l0 j R m q k) P:=by
 have z:=romSize hb
 have r:=insV_pos hb hx.1 hx.2 h0
 refine impl_at hb hm k0 k1 hq (Tot.yes (by simp;omega) ?_)
 refine Tot.bind (insI_T hb hx.1 hx.2) ?_
 rintro _ rfl
 refine Tot.no h0 ?_
 rw [w64_in (n:=rd q k + (insV R (rd q k)).2.2.2) (by omega) (by omega)]
 refine Tot.yes hx.1 (Tot.yes (by omega) (Tot.yes (by omega) ?_))
 refine Tot.bind (isData_T _ (by rw [List.length_drop,List.length_take];omega)) ?_
 rintro _ rfl
 rw [(all_fit hx.1 (by omega) (by omega)).2 hf]
 refine Tot.step (fun j => impl_MarksOf.j2.eq_2 _ _ _ _ _ _ _ _ _ _ j) (Tot.no (by decide) (Tot.yes hx.1 (Tot.yes (by omega) ?_)))
 rw [w64_in (n:=(insV R (rd q k)).2.2.2 - 1) (by omega) (by omega)]
 refine Tot.bind (P:=fun t => t = (⟨(Lib.repeatL [46] ((insV R (rd q k)).2.2.2 - 1).toNat).toArray⟩:ByteArray)) (Tot.of (r:=(⟨(Lib.repeatL [46] ((insV R (rd q k)).2.2.2 - 1).toNat).toArray⟩:ByteArray)) ?_ rfl) ?_
 ·unfold strings_Repeat.f
  rw [if_pos (by omega),if_pos (by omega),if_pos (by show 1 * _ ≤ _;omega)]
 rintro _ rfl
 have hz:(⟨(Lib.repeatL [46] ((insV R (rd q k)).2.2.2 - 1).toNat).toArray⟩:ByteArray).size = ((insV R (rd q k)).2.2.2 - 1).toNat:=by
  rw [← bytesOf_length,reps_dot,List.length_replicate]
 refine Tot.yes (by rw [hz];omega) ?_
 refine Tot.bind (Tot.of rfl rfl) ?_
 rintro _ rfl
 rw [bytesOf_append,reps_dot,show bytesOf (⟨#[99]⟩:ByteArray) ++ List.replicate ((insV R (rd q k)).2.2.2 - 1).toNat 46 = 99 :: List.replicate ((insV R (rd q k)).2.2.2 - 1).toNat 46 from rfl,cpy_put hx.1 r.1 (by omega)]
 have j3:∀ qq,qq.length ≤ 20001 → qq = q ++ goL (insV R (rd q k)).2.1 (insV R (rd q k)).1 (rd q k + (insV R (rd q k)).2.2.2) → Tot (fun j => impl_MarksOf.j3 j R (putK m (rd q k).toNat ((insV R (rd q k)).2.2.2 - 1).toNat) qq k (rd q k) (insV R (rd q k)).1 (insV R (rd q k)).2.1 (insV R (rd q k)).2.2.1) P:=by
  intro qq hl e
  refine Tot.step (fun j => impl_MarksOf.j3.eq_2 _ _ _ _ _ _ _ _ j) ?_
  refine Tot.bind (jumpsI_T _ r.2.2.2.1.1 r.2.2.2.1.2 hx.1 (by omega) _) ?_
  rintro _ rfl
  rw [tdiv_pos _ hx.1,w64_in (n:=rd q k / 256) (by omega) (by omega),w64_in (n:=k + 1) (by omega) (by omega)]
  unfold nextI at h
  rw [← List.append_assoc,← e] at h
  by_cases hj:jk (insV R (rd q k)).2.1 (insV R (rd q k)).1 = 0
  ·rw [if_pos hj,List.append_nil] at h
   refine Tot.no (by simp [hj]) h
  ·rw [if_neg hj] at h
   refine Tot.yes (decide_eq_true hj) ?_
   rw [if_neg hj]
   refine Tot.bind (Tot.of (placeI (by omega) (by omega)) rfl) ?_
   rintro _ rfl
   exact Tot.yes (by omega) h
 refine Tot.bind (goesI_T _ r.2.2.2.1.1 r.2.2.2.1.2 _) ?_
 rintro _ rfl
 refine Tot.ite (fun hg => Tot.yes (by omega) (j3 _ ?_ ?_)) (fun hg => j3 _ (by omega) ?_)
 ·rw [List.length_append,List.length_singleton];omega
 ·rw [w64_in (by omega) (by omega)];unfold goL;rw [if_pos hg]
 ·unfold goL;rw [if_neg hg,List.append_nil]
end
section
variable {m q:List Int} {x:Int} (hm:m.length = R.size) (hq:q.length ≤ 20000) {P:ByteArray → Prop}
include hm hq
theorem spec_at (h:Tot (fun j => if decide (0 ≤ x ∧ x ≤ (R.size:Int) - 1) = true then (if 0 ≤ x then (if x < (m.length:Int) then (spec_MarksOf.j3 j R m q x ((rd m x) != 100)) else (none)) else (none)) else (spec_MarksOf.j3 j R m q x true)) P):Tot (fun j => spec_MarksOf.l1 j R m (x :: q)) P:=by
 have z:=romSize hb
 refine Tot.step (fun j => spec_MarksOf.l1.eq_2 _ _ _ j) ?_
 rw [show rd (x :: q) 0 = x from rfl]
 refine Tot.yes (by rw [List.length_cons];omega) (Tot.yes (by rw [List.length_cons];omega) (Tot.bind (Tot.of rfl rfl) ?_))
 rintro _ rfl
 refine Tot.yes (by rw [List.length_cons];omega) (Tot.bind (Tot.of rfl rfl) ?_)
 rintro _ rfl
 refine Tot.yes (by show 0 + q.length < _;omega) (Tot.bind (Tot.of rfl rfl) ?_)
 rintro _ rfl
 rw [w64_in (n:=(R.size:Int) - 1) (by omega) (by omega)]
 refine Tot.bind (Tot.of (inS _ _ _) rfl) ?_
 rintro _ rfl
 exact h
theorem spec_j3t (h:Tot (fun j => spec_MarksOf.l1 j R m q) P) (b:Bool) (e:b = true):Tot (fun j => spec_MarksOf.j3 j R m q x b) P :=
 Tot.step (fun j => spec_MarksOf.j3.eq_2 _ _ _ _ _ j) (Tot.yes e h)
theorem spec_out (hx:¬ (0 ≤ x ∧ x < R.size)) (h:Tot (fun j => spec_MarksOf.l1 j R m q) P):Tot (fun j => spec_MarksOf.l1 j R m (x :: q)) P :=
 spec_at hb hm hq (Tot.no (by simp;omega) (spec_j3t hb hm hq h _ rfl))
theorem spec_in (hx:0 ≤ x ∧ x < R.size) (h1:rd m x = 100) (h:Tot (fun j => spec_MarksOf.l2 j R m q x (insV R x).2.2.2 (decide ((insV R x).2.2.2 > 0)) 1 (insV R x).1 (insV R x).2.1 (insV R x).2.2.1) P):Tot (fun j => spec_MarksOf.l1 j R m (x :: q)) P:=by
 have z:=romSize hb
 refine spec_at hb hm hq (Tot.yes (by simp;omega) (Tot.yes hx.1 (Tot.yes (by omega) ?_)))
 rw [h1]
 refine Tot.step (fun j => spec_MarksOf.j3.eq_2 _ _ _ _ _ j) (Tot.no (by decide) ?_)
 rw [tdiv_pos _ hx.1,w64_in (n:=x / 256) (by omega) (by omega),w64_in (n:=x / 256 + 1) (by omega) (by omega),w64_in (n:=(x / 256 + 1) * 256) (by omega) (by omega)]
 refine Tot.yes hx.1 (Tot.yes (by omega) (Tot.yes (by omega) ?_))
 refine Tot.bind (insS_T hb hx.1 hx.2) ?_
 rintro _ rfl
 exact h
theorem spec_l2T (hx:0 ≤ x ∧ x < R.size) (h0:(insV R x).2.2.2 ≠ 0) (hy:Fit m x (insV R x).2.2.2 → Tot (fun j => spec_MarksOf.l3 j R (m.set x.toNat 99) q x (insV R x).2.2.2 1 (insV R x).1 (insV R x).2.1 (insV R x).2.2.1) P) (hn:¬ Fit m x (insV R x).2.2.2 → Tot (fun j => spec_MarksOf.l1 j R m q) P) :
  ∀ (d:Nat) (i:Int) (b:Bool),((insV R x).2.2.2 - i).toNat = d → 1 ≤ i → i ≤ (insV R x).2.2.2 → (b = true ↔ Fit m x i) → Tot (fun j => spec_MarksOf.l2 j R m q x (insV R x).2.2.2 b i (insV R x).1 (insV R x).2.1 (insV R x).2.2.1) P:=by
 have z:=romSize hb
 have r:=insV_pos hb hx.1 hx.2 h0
 intro d
 induction d with
 | zero =>
  intro i b hd i0 i1 hi
  have e:i = (insV R x).2.2.2:=by omega
  refine Tot.step (fun j => spec_MarksOf.l2.eq_2 _ _ _ _ _ _ _ _ _ _ j) (Tot.no (by omega) (Tot.ite (fun h => Tot.yes hx.1 (Tot.yes (by omega) (hy (e ▸ hi.1 h)))) (fun h => hn (fun g => h (hi.2 (e ▸ g))))))
 | succ d ih =>
  intro i b hd i0 i1 hi
  refine Tot.step (fun j => spec_MarksOf.l2.eq_2 _ _ _ _ _ _ _ _ _ _ j) (Tot.yes (by omega) ?_)
  rw [w64_in (n:=i + 1) (by omega) (by omega),w64_in (n:=x + i) (by omega) (by omega)]
  refine Tot.ite (fun h => Tot.yes (by omega) (Tot.yes (by omega) (ih (i + 1) _ (by omega) (by omega) (by omega) ?_))) (fun h => ih (i + 1) _ (by omega) (by omega) (by omega) ?_)
  ·rw [beq_iff_eq]
   constructor
   ·intro e j j0 j1
    by_cases c:j < i
    ·exact hi.1 h j j0 c
    ·rw [show j = i by omega];exact e
   ·intro e;exact e i (by omega) (by omega)
  ·constructor
   ·intro e;exact absurd e (by decide)
   ·intro e;exact absurd (hi.2 (fun j j0 j1 => e j j0 (by omega))) h
theorem spec_skip (hx:0 ≤ x ∧ x < R.size) (hn:(insV R x).2.2.2 = 0 ∨ ¬ Fit m x (insV R x).2.2.2) (h:Tot (fun j => spec_MarksOf.l1 j R m q) P):Tot (fun j => spec_MarksOf.l1 j R m (x :: q)) P:=by
 have z:=romSize hb
 by_cases h1:rd m x = 100
 ·refine spec_in hb hm hq hx h1 ?_
  by_cases h0:(insV R x).2.2.2 = 0
  ·rw [h0]
   exact Tot.step (fun j => spec_MarksOf.l2.eq_2 _ _ _ _ _ _ _ _ _ _ j) (Tot.no (by decide) (Tot.no (by decide) h))
  ·have r:=insV_pos hb hx.1 hx.2 h0
   refine spec_l2T hb hm hq hx h0 (fun g => absurd g (hn.resolve_left h0)) (fun _ => h) _ 1 _ rfl (by decide) r.1 ?_
   constructor
   ·intro _ j j0 j1
    rw [show x + j = x by omega];exact h1
   ·intro _;exact decide_eq_true (by omega)
 ·refine spec_at hb hm hq (Tot.yes (by simp;omega) (Tot.yes hx.1 (Tot.yes (by omega) (spec_j3t hb hm hq h _ (bne_iff_ne.2 h1)))))
theorem spec_put (hx:0 ≤ x ∧ x < R.size) (h0:(insV R x).2.2.2 ≠ 0) (hf:Fit m x (insV R x).2.2.2) (h:Tot (fun j => spec_MarksOf.l1 j R (putK m x.toNat ((insV R x).2.2.2 - 1).toNat) (q ++ nextS R x)) P):Tot (fun j => spec_MarksOf.l1 j R m (x :: q)) P:=by
 have z:=romSize hb
 have r:=insV_pos hb hx.1 hx.2 h0
 have h1:rd m x = 100:=by
  have:=hf 0 (by omega) (by omega)
  rwa [Int.add_zero] at this
 have l3:∀ (d:Nat) (i:Nat),((insV R x).2.2.2 - 1).toNat - i = d → i ≤ ((insV R x).2.2.2 - 1).toNat → Tot (fun j => spec_MarksOf.l3 j R (putK m x.toNat i) q x (insV R x).2.2.2 ((i:Int) + 1) (insV R x).1 (insV R x).2.1 (insV R x).2.2.1) P:=by
  intro d
  induction d with
  | zero =>
   intro i hd hi
   rw [show i = ((insV R x).2.2.2 - 1).toNat by omega]
   refine Tot.step (fun j => spec_MarksOf.l3.eq_2 _ _ _ _ _ _ _ _ _ j) (Tot.no (by omega) ?_)
   refine Tot.bind (nextS_T hx.1 (by omega) r.2.2.2.1.1 r.2.2.2.1.2 (by omega) (by omega) r.2.2.2.2) ?_
   rintro _ rfl
   exact Tot.yes (by have:=(next_len R x).2;unfold nextS at this;omega) h
  | succ d ih =>
   intro i hd hi
   refine Tot.step (fun j => spec_MarksOf.l3.eq_2 _ _ _ _ _ _ _ _ _ j) (Tot.yes (by omega) ?_)
   rw [w64_in (n:=x + ((i:Int) + 1)) (by omega) (by omega),w64_in (n:=(i:Int) + 1 + 1) (by omega) (by omega)]
   refine Tot.yes (by omega) (Tot.yes (by rw [putK_length];omega) ?_)
   rw [show (x + ((i:Int) + 1)).toNat = x.toNat + 1 + i by omega]
   exact ih (i + 1) (by omega) (by omega)
 refine spec_in hb hm hq hx h1 (spec_l2T hb hm hq hx h0 (fun _ => l3 _ 0 rfl (Nat.zero_le _)) (fun g => absurd hf g) _ 1 _ rfl (by decide) r.1 ?_)
 constructor
 ·intro _ j j0 j1
  rw [show x + j = x by omega];exact h1
 ·intro _;exact decide_eq_true (by omega)
end
theorem both_T {I:List Int → Prop} (hI:∀ (m:List Int) (x:Int),m.length = R.size → 0 ≤ x → x < R.size → (insV R x).2.2.2 ≠ 0 → Fit m x (insV R x).2.2.2 → I m → I (putK m x.toNat ((insV R x).2.2.2 - 1).toNat)) :
  ∀ (f:Nat) (m qI:List Int) (k:Int) (qS:List Int),I m → m.length = R.size → 0 ≤ k → k ≤ qI.length → Sub (qI.drop k.toNat) qS → (qI.length - k.toNat) + 3 * m.count 100 ≤ f → qI.length + 2 * m.count 100 ≤ 20000 → qS.length + 2 * m.count 100 ≤ 20000 →
   ∃ r,I r ∧ r.length = R.size ∧ Tot (fun j => impl_MarksOf.l0 j R m qI k) (· = strOfNums r) ∧ Tot (fun j => spec_MarksOf.l1 j R m qS) (· = strOfNums r):=by
 have z:=romSize hb
 intro f
 induction f with
 | zero =>
  intro m qI k qS i0 hm k0 k1 hs hf l1 l2
  have e:qI.drop k.toNat = []:=List.drop_eq_nil_of_le (by omega)
  rw [e] at hs
  cases hs
  exact ⟨m,i0,hm,Tot.step (fun j => impl_MarksOf.l0.eq_2 _ _ _ _ j) (Tot.no (by omega) (Tot.ret rfl)),Tot.step (fun j => spec_MarksOf.l1.eq_2 _ _ _ j) (Tot.no (by decide) (Tot.ret rfl))⟩
 | succ f ih =>
  intro m qI k qS i0 hm k0 k1 hs hf l1 l2
  by_cases hk:k < qI.length
  rotate_left
  ·have e:qI.drop k.toNat = []:=List.drop_eq_nil_of_le (by omega)
   rw [e] at hs
   cases hs
   exact ⟨m,i0,hm,Tot.step (fun j => impl_MarksOf.l0.eq_2 _ _ _ _ j) (Tot.no (by omega) (Tot.ret rfl)),Tot.step (fun j => spec_MarksOf.l1.eq_2 _ _ _ j) (Tot.no (by decide) (Tot.ret rfl))⟩
  have e:qI.drop k.toNat = rd qI k :: qI.drop (k + 1).toNat:=by
   rw [List.drop_eq_getElem_cons (by omega),show (k + 1).toNat = k.toNat + 1 by omega]
   congr 1
   exact (rd_of (List.getElem?_eq_getElem (by omega))).symm
  obtain ⟨x,hx⟩:∃ x,x = rd qI k:=⟨_,rfl⟩
  rw [← hx] at e
  rw [e] at hs
  generalize hd:qI.drop (k + 1).toNat = D at hs
  cases hs with
  | cons _ hs =>
   rename_i b
   rw [List.length_cons] at l2
   by_cases hr:0 ≤ x ∧ x < R.size
   ·by_cases hp:(insV R x).2.2.2 ≠ 0 ∧ Fit m x (insV R x).2.2.2
    ·have r:=insV_pos hb hr.1 hr.2 hp.1
     have h1:m[x.toNat]? = some 100:=by
      have:=hp.2 0 (by omega) (by omega)
      rw [Int.add_zero] at this
      rw [rd_some (by omega),this]
     have c:=putK_count h1 ((insV R x).2.2.2 - 1).toNat
     have nl:=next_len R x
     obtain ⟨r,r0,r1,r2,r3⟩:=ih (putK m x.toNat ((insV R x).2.2.2 - 1).toNat) (qI ++ nextI R x) (k + 1) (b ++ nextS R x) (hI m x hm hr.1 hr.2 hp.1 hp.2 i0) (by rw [putK_length];exact hm) (by omega) (by rw [List.length_append];omega) (by rw [List.drop_append_of_le_length (by omega),hd];exact hs.append (next_sub R x)) (by rw [List.length_append];omega) (by rw [List.length_append];omega) (by rw [List.length_append];omega)
     refine ⟨r,r0,r1,?_,spec_put hb hm (by omega) hr hp.1 hp.2 r3⟩
     rw [hx] at hr hp r2
     exact impl_put hb hm k0 hk (by omega) hr hp.1 hp.2 r2
    ·obtain ⟨r,r0,r1,r2,r3⟩:=ih m qI (k + 1) b i0 hm (by omega) (by omega) (by rw [hd];exact hs) (by omega) l1 (by omega)
     have hp':(insV R x).2.2.2 = 0 ∨ ¬ Fit m x (insV R x).2.2.2:=by
      by_cases g:(insV R x).2.2.2 = 0
      ·exact .inl g
      ·exact .inr (fun q => hp ⟨g,q⟩)
     refine ⟨r,r0,r1,?_,spec_skip hb hm (by omega) hr hp' r3⟩
     rw [hx] at hr hp'
     exact impl_skip hb hm k0 hk (by omega) hr hp' r2
   ·obtain ⟨r,r0,r1,r2,r3⟩:=ih m qI (k + 1) b i0 hm (by omega) (by omega) (by rw [hd];exact hs) (by omega) l1 (by omega)
    refine ⟨r,r0,r1,?_,spec_out hb hm (by omega) hr r3⟩
    rw [hx] at hr
    exact impl_out hb hm k0 hk (by omega) hr r2
  | skip hs =>
   obtain ⟨r,r0,r1,r2,r3⟩:=ih m qI (k + 1) qS i0 hm (by omega) (by omega) (by rw [hd];exact hs) (by omega) l1 l2
   exact ⟨r,r0,r1,impl_out hb hm k0 hk (by omega) (by omega) r2,r3⟩
end
theorem marksBoth {R:ByteArray} (hR:R.size ≤ 1152921504606846976) {I:List Int → Prop} (h100:I (List.replicate R.size 100)) (hI:banksV R ≠ 0 → ∀ (m:List Int) (x:Int),m.length = R.size → 0 ≤ x → x < R.size → (insV R x).2.2.2 ≠ 0 → Fit m x (insV R x).2.2.2 → I m → I (putK m x.toNat ((insV R x).2.2.2 - 1).toNat)) (q:List Int) :
  ∃ v,(v = (⟨#[]⟩:ByteArray) ∧ (banksV R = 0 ∨ 100 < q.length) ∨ banksV R ≠ 0 ∧ ∃ r,I r ∧ r.length = R.size ∧ v = strOfNums r) ∧ Tot (fun k => impl_MarksOf.f k R q) (· = v) ∧ Tot (fun k => spec_MarksOf.f k R q) (· = v):=by
 unfold impl_MarksOf.f spec_MarksOf.f
 by_cases hb:banksV R = 0
 ·refine ⟨⟨#[]⟩,.inl ⟨rfl,.inl hb⟩,Tot.bind (Tot.of (banksI R hR) rfl) ?_,Tot.bind (Tot.of (banksS R hR) rfl) ?_⟩
  ·rintro _ rfl
   exact Tot.yes hb (Tot.step (fun k => impl_MarksOf.j0.eq_2 _ _ _ k) (Tot.yes rfl (Tot.ret rfl)))
  ·rintro _ rfl
   exact Tot.yes hb (Tot.step (fun k => spec_MarksOf.j0.eq_2 _ _ _ k) (Tot.yes rfl (Tot.ret rfl)))
 have z:=romSize hb
 by_cases hq:(q.length:Int) > 100
 ·refine ⟨⟨#[]⟩,.inl ⟨rfl,.inr (by omega)⟩,Tot.bind (Tot.of (banksI R hR) rfl) ?_,Tot.bind (Tot.of (banksS R hR) rfl) ?_⟩
  ·rintro _ rfl
   exact Tot.no hb (Tot.step (fun k => impl_MarksOf.j0.eq_2 _ _ _ k) (Tot.yes (decide_eq_true hq) (Tot.ret rfl)))
  ·rintro _ rfl
   exact Tot.no hb (Tot.step (fun k => spec_MarksOf.j0.eq_2 _ _ _ k) (Tot.yes (decide_eq_true hq) (Tot.ret rfl)))
 have hc:(List.replicate R.size (100:Int)).count 100 = R.size:=by rw [List.count_replicate_self]
 obtain ⟨r,r0,r1,r2,r3⟩:=both_T hb (hI hb) (100 + 3 * 4096) (List.replicate R.size 100) q 0 q h100 List.length_replicate (by decide) (by omega) (Sub.refl q) (by rw [hc];omega) (by rw [hc];omega) (by rw [hc];omega)
 refine ⟨strOfNums r,.inr ⟨hb,r,r0,r1,rfl⟩,Tot.bind (Tot.of (banksI R hR) rfl) ?_,Tot.bind (Tot.of (banksS R hR) rfl) ?_⟩
 ·rintro _ rfl
  refine Tot.no hb (Tot.step (fun k => impl_MarksOf.j0.eq_2 _ _ _ k) (Tot.no (by rw [decide_eq_false hq];decide) ?_))
  refine Tot.bind (P:=fun t => t = (⟨(Lib.repeatL [100] R.size).toArray⟩:ByteArray)) (Tot.of (r:=(⟨(Lib.repeatL [100] R.size).toArray⟩:ByteArray)) ?_ rfl) ?_
  ·unfold strings_Repeat.f
   rw [if_pos (by omega),if_pos (by omega),if_pos (by show 1 * _ ≤ _;omega)]
   rfl
  rintro _ rfl
  have hz:(⟨(Lib.repeatL [100] R.size).toArray⟩:ByteArray).size = R.size:=by rw [← bytesOf_length,reps_d,List.length_replicate]
  refine Tot.yes (by rw [hz];omega) (Tot.bind (Tot.of rfl rfl) ?_)
  rintro _ rfl
  refine Tot.yes (by show 0 + q.length < _;omega) ?_
  rw [reps_d]
  exact r2
 ·rintro _ rfl
  refine Tot.no hb (Tot.step (fun k => spec_MarksOf.j0.eq_2 _ _ _ k) (Tot.no (by rw [decide_eq_false hq];decide) ?_))
  have go:∀ (d i:Nat),R.size - i = d → i ≤ R.size → Tot (fun k => spec_MarksOf.l0 k R q (List.replicate i 100) (i:Int)) (· = strOfNums r):=by
   intro d
   induction d with
   | zero =>
    intro i h1 h2
    refine Tot.step (fun k => spec_MarksOf.l0.eq_2 _ _ _ _ k) (Tot.no (by omega) (Tot.bind (Tot.of rfl rfl) ?_))
    rintro _ rfl
    refine Tot.yes (by show 0 + q.length < _;omega) ?_
    rw [show i = R.size by omega]
    exact r3
   | succ d ih =>
    intro i h1 h2
    refine Tot.step (fun k => spec_MarksOf.l0.eq_2 _ _ _ _ k) (Tot.yes (by omega) (Tot.yes (by rw [List.length_replicate];omega) ?_))
    rw [w64_in (by omega) (by omega),← List.replicate_succ']
    exact ih (i + 1) (by omega) (by omega)
  exact go _ 0 rfl (Nat.zero_le _)
def MInv (R:ByteArray) (m:List Int):Prop :=
 (∀ (p:Nat) (v:Int),m[p]? = some v → v = 46 ∨ v = 99 ∨ v = 100) ∧ (∀ p:Nat,m[p + 1]? = some 46 → m[p]? ≠ some 100) ∧
 ∀ i:Nat,m[i]? = some 99 → (insV R i).2.2.2 ≠ 0 ∧ (∀ k:Nat,1 ≤ k → (k:Int) < (insV R i).2.2.2 → m[i + k]? = some 46) ∧ m[i + (insV R i).2.2.2.toNat]? ≠ some 46
theorem MInv.start (R:ByteArray):MInv R (List.replicate R.size 100):=by
 have e:∀ (p:Nat) (v:Int),(List.replicate R.size (100:Int))[p]? = some v → v = 100:=by
  intro p v h
  rw [List.getElem?_replicate] at h
  split at h
  ·exact (Option.some.inj h).symm
  ·cases h
 refine ⟨fun p v h => .inr (.inr (e p v h)),fun p h => ?_,fun i h => ?_⟩
 ·exact absurd (e _ _ h) (by decide)
 ·exact absurd (e _ _ h) (by decide)
theorem MInv.put {R:ByteArray} (hb:banksV R ≠ 0) {m:List Int} {x:Int} (hm:m.length = R.size) (x0:0 ≤ x) (x1:x < R.size) (h0:(insV R x).2.2.2 ≠ 0) (hf:Fit m x (insV R x).2.2.2) (h:MInv R m):MInv R (putK m x.toNat ((insV R x).2.2.2 - 1).toNat):=by
 have z:=romSize hb
 have r:=insV_pos hb x0 x1 h0
 obtain ⟨i1,i2,i3⟩:=h
 have hg:=putK_get (m:=m) (x:=x.toNat) ((insV R x).2.2.2 - 1).toNat (by omega)
 have hfit:∀ p:Nat,x ≤ p → (p:Int) < x + (insV R x).2.2.2 → m[p]? = some 100:=by
  intro p p0 p1
  have:=hf ((p:Int) - x) (by omega) (by omega)
  rw [show x + ((p:Int) - x) = p by omega] at this
  rw [← this]
  exact rd_some (i:=(p:Int)) (by omega)
 have hout:∀ p:Nat,(p:Int) < x ∨ x + (insV R x).2.2.2 ≤ p → (putK m x.toNat ((insV R x).2.2.2 - 1).toNat)[p]? = m[p]?:=by
  intro p hp
  rw [hg,if_neg (by omega),if_neg (by omega)]
 have hin:∀ p:Nat,x ≤ p → (p:Int) < x + (insV R x).2.2.2 → (putK m x.toNat ((insV R x).2.2.2 - 1).toNat)[p]? = some (if (p:Int) = x then 99 else 46):=by
  intro p p0 p1
  rw [hg]
  by_cases c:p = x.toNat
  ·rw [if_pos c,if_pos (by omega)]
  ·rw [if_neg c,if_pos (by omega),if_neg (by omega)]
 refine ⟨fun p v hv => ?_,fun p hp hq => ?_,fun i hi => ?_⟩
 ·by_cases c:x ≤ p ∧ (p:Int) < x + (insV R x).2.2.2
  ·rw [hin p c.1 c.2] at hv
   have:=Option.some.inj hv
   rw [← this]
   split
   ·exact .inr (.inl rfl)
   ·exact .inl rfl
  ·rw [hout p (by omega)] at hv
   exact i1 p v hv
 ·by_cases c:x ≤ p ∧ (p:Int) < x + (insV R x).2.2.2
  ·rw [hin p c.1 c.2] at hq
   have:=Option.some.inj hq
   split at this <;> exact absurd this (by decide)
  rw [hout p (by omega)] at hq
  by_cases d:x ≤ (p + 1:Nat) ∧ ((p + 1:Nat):Int) < x + (insV R x).2.2.2
  ·rw [hin (p + 1) d.1 d.2,if_pos (by omega)] at hp
   exact absurd (Option.some.inj hp) (by decide)
  ·rw [hout (p + 1) (by omega)] at hp
   exact i2 p hp hq
 ·by_cases c:(i:Int) = x
  ·rw [c]
   refine ⟨h0,fun k k0 k1 => ?_,fun hk => ?_⟩
   ·rw [hin (i + k) (by omega) (by omega),if_neg (by omega)]
   ·rw [hout _ (by omega)] at hk
    obtain ⟨p,hp⟩:∃ p,i + (insV R x).2.2.2.toNat = p + 1:=⟨i + (insV R x).2.2.2.toNat - 1,by omega⟩
    rw [hp] at hk
    exact i2 p hk (hfit p (by omega) (by omega))
  ·have hi':¬ (x ≤ i ∧ (i:Int) < x + (insV R x).2.2.2):=by
    intro d
    rw [hin i d.1 d.2,if_neg c] at hi
    exact absurd (Option.some.inj hi) (by decide)
   rw [hout i (by omega)] at hi
   obtain ⟨j1,j2,j3⟩:=i3 i hi
   have j0:(insV R i).2.2.2.toNat = 0 ∨ 1 ≤ (insV R i).2.2.2.toNat:=by omega
   have old:∀ k:Nat,(k:Int) < (insV R i).2.2.2 → ¬ (x ≤ (i + k:Nat) ∧ ((i + k:Nat):Int) < x + (insV R x).2.2.2):=by
    intro k k1 d
    have e:=hfit (i + k) d.1 d.2
    by_cases k0:1 ≤ k
    ·rw [j2 k k0 k1] at e
     exact absurd (Option.some.inj e) (by decide)
    ·rw [show i + k = i by omega,hi] at e
     exact absurd (Option.some.inj e) (by decide)
   refine ⟨j1,fun k k0 k1 => ?_,fun hk => ?_⟩
   ·have:=old k k1
    rw [hout (i + k) (by omega)]
    exact j2 k k0 k1
   ·by_cases d:x ≤ (i + (insV R i).2.2.2.toNat:Nat) ∧ ((i + (insV R i).2.2.2.toNat:Nat):Int) < x + (insV R x).2.2.2
    ·rw [hin _ d.1 d.2] at hk
     by_cases g:((i + (insV R i).2.2.2.toNat:Nat):Int) = x
     ·rw [if_pos g] at hk
      exact absurd (Option.some.inj hk) (by decide)
     ·have ri:=insV_pos hb (x:=(i:Int)) (by omega) (by have:=(List.getElem?_eq_some_iff.1 hi).1;omega) j1
      exact old ((insV R i).2.2.2.toNat - 1) (by omega) ⟨by omega,by omega⟩
    ·rw [hout _ (by omega)] at hk
     exact j3 hk
theorem rdI_more {s t:ByteArray} {o p:Int} (ho:0 ≤ o) (hs:o + s.size ≤ t.size) (hb:∀ j:Int,0 ≤ j → j < s.size → bt t (o + j) = bt s j) (h:(rdI s p).2.2.2 ≠ 0):rdI t (o + p) = rdI s p:=by
 by_cases hp:p < 0 ∨ (s.size:Int) ≤ p
 ·rw [rdI_out hp] at h;exact absurd rfl h
 have b0:=hb p (by omega) (by omega)
 by_cases hc:bt s p = 203
 ·by_cases h2:(s.size:Int) < p + 2
  ·rw [rdI_cut hc h2] at h;exact absurd rfl h
  ·have b1:=hb (p + 1) (by omega) (by omega)
   rw [rdI_cb (by omega) hc (by omega),rdI_cb (by omega) (b0.trans hc) (by omega),Int.add_assoc,b1]
 ·obtain ⟨L,eL⟩:∃ L,lenK false (hk false (bt s p)) = L:=⟨_,rfl⟩
  by_cases hl:L = 0 ∨ (s.size:Int) < p + L
  ·rw [rdI_none eL hc hl] at h;exact absurd rfl h
  have hL:=lenK_range (hk false (bt s p))
  rw [eL] at hL
  rw [rdI_some eL (by omega) hc (by omega) (by omega),rdI_some (s:=t) (p:=o + p) (L:=L) (by rw [b0];exact eL) (by omega) (by rw [b0];exact hc) (by omega) (by omega),b0]
  by_cases l1:L = 1
  ·rw [if_pos l1,if_pos l1]
  ·have b1:=hb (p + 1) (by omega) (by omega)
   rw [if_neg l1,if_neg l1,Int.add_assoc,b1]
   by_cases l2:L = 2
   ·rw [if_pos l2,if_pos l2]
   ·have b2:=hb (p + 2) (by omega) (by omega)
    rw [if_neg l2,if_neg l2,Int.add_assoc,b2]
theorem whole_ins {R:ByteArray} (hb:banksV R ≠ 0) {x:Int} (x0:0 ≤ x) (x1:x < R.size) (h:(insV R x).2.2.2 ≠ 0):rdI R x = insV R x:=by
 have z:=romSize hb
 have H:=bankAt hb x0 x1
 have hz:=H.sz
 have:=rdI_more (s:=R.extract (x / 256 * 256).toNat ((x / 256 + 1) * 256).toNat) (t:=R) (o:=x / 256 * 256) (p:=x % 256) (by omega) (by omega) (fun j j0 j1 => H.bt_ j j0 (by omega)) h
 rwa [show x / 256 * 256 + x % 256 = x by omega] at this
theorem marksNone {R:ByteArray} (hb:banksV R ≠ 0):Tot (fun k => impl_MarksOf.f k R []) (· = strOfNums (List.replicate R.size 100)):=by
 have z:=romSize hb
 unfold impl_MarksOf.f
 refine Tot.bind (Tot.of (banksI R (by omega)) rfl) ?_
 rintro _ rfl
 refine Tot.no hb (Tot.step (fun k => impl_MarksOf.j0.eq_2 _ _ _ k) (Tot.no (by decide) ?_))
 refine Tot.bind (P:=fun t => t = (⟨(Lib.repeatL [100] R.size).toArray⟩:ByteArray)) (Tot.of (r:=(⟨(Lib.repeatL [100] R.size).toArray⟩:ByteArray)) ?_ rfl) ?_
 ·unfold strings_Repeat.f
  rw [if_pos (by omega),if_pos (by omega),if_pos (by show 1 * _ ≤ _;omega)]
  rfl
 rintro _ rfl
 have hz:(⟨(Lib.repeatL [100] R.size).toArray⟩:ByteArray).size = R.size:=by rw [← bytesOf_length,reps_d,List.length_replicate]
 refine Tot.yes (by rw [hz];omega) (Tot.bind (Tot.of rfl rfl) ?_)
 rintro _ rfl
 refine Tot.yes (by decide) ?_
 rw [reps_d]
 exact Tot.step (fun k => impl_MarksOf.l0.eq_2 _ _ _ _ k) (Tot.no (by decide) (Tot.ret rfl))
theorem drawFrom_T {s:List Int} (x5:ByteArray):∀ (d:Nat) (L:List Int) (p:Int),d ≤ 3 → L.length + d ≤ 10 → RdOk s p → Tot (fun k => spec_DrawMarksOf.l0 k x5 L (d:Int) s p) (fun r => r.1 = x5)
 | 0,L,p,_,_,hp => Tot.step (fun k => spec_DrawMarksOf.l0.eq_2 _ _ _ _ _ k) (Tot.no (by decide) (Tot.ret rfl))
 | d + 1,L,p,hd,hl,hp => by
  refine Tot.step (fun k => spec_DrawMarksOf.l0.eq_2 _ _ _ _ _ k) (Tot.yes (by omega) (Tot.bind (below_T hp 600) fun r hr => Tot.yes (by omega) ?_))
  rw [show wrap64 (((d + 1:Nat):Int) - 1) = (d:Int) by rw [w64_in (by omega) (by omega)];omega]
  exact drawFrom_T x5 d _ _ (by omega) (by rw [List.length_append,List.length_singleton];omega) hr.2.2
theorem drawMarks_T {l:List Int} (hl:l.length ≤ 1048576) (hb:∀ x ∈ l,0 ≤ x ∧ x ≤ 255):Tot (fun k => spec_DrawMarksOf.f k l) (fun r => r.1.size ≤ 1024):=by
 obtain ⟨e0,h0⟩:=open_tot hl hb
 unfold spec_DrawMarksOf.f
 refine Tot.bind (Tot.of e0 rfl) ?_
 rintro _ rfl
 refine Tot.bind (rom_T h0) fun r hr => ?_
 refine Tot.bind (below_T hr.2 3) fun q hq => ?_
 have q1:=hq.2.1 (by omega)
 have q0:=hq.1
 have:=drawFrom_T r.1 q.1.toNat [0] q.2 (by omega) (by rw [List.length_singleton];omega) hq.2.2
 rw [Int.toNat_of_nonneg q0] at this
 exact this.mono (fun a ha => by rw [ha];exact hr.1)
theorem FnMarks:laws_FnMarks.Pure:=by
 intro l hm hl hw
 refine Tot.done ?_
 unfold laws_FnMarks.f laws_big.f
 refine Tot.bind (Tot.of rfl rfl) ?_
 rintro _ rfl
 refine Tot.ite (fun _ => Tot.ret rfl) (fun hbig => ?_)
 refine Tot.bind (drawMarks_T (l:=l) (by simp at hbig;omega) (bytes_wf hw)) ?_
 rintro ⟨R,q⟩ hR
 have hR:R.size ≤ 1024:=hR
 dsimp only
 obtain ⟨v,hv,v1,v2⟩:=marksBoth (R:=R) (by omega) (I:=MInv R) (MInv.start R) (fun hb m x hm x0 x1 h0 hf h => MInv.put hb hm x0 x1 h0 hf h) q
 refine Tot.bind v1 ?_
 rintro _ rfl
 refine Tot.bind v2 ?_
 rintro _ rfl
 refine Tot.yes rfl ?_
 refine Tot.step (fun k => laws_FnMarks.j0.eq_2 _ _ _ _ k) ?_
 refine Tot.ite (fun _ => ?_) (fun hne => ?_)
 ·refine Tot.bind v2 ?_
  rintro _ rfl
  exact Tot.ret (by simp)
 rcases hv with ⟨rfl,_⟩ | ⟨hb,r,⟨i1,i2,i3⟩,hr,rfl⟩
 ·exact absurd (by rw [(nil_size _).2 rfl];rfl) hne
 have z:=romSize hb
 have hz:(strOfNums r).size = R.size:=by rw [strOfNums_size,hr]
 have hbt:∀ i:Int,bt (strOfNums r) i = rd r i:=by
  intro i
  rw [btL,bytesOf_strOfNums]
  ·rfl
  ·intro x hx
   obtain ⟨p,hp⟩:=List.mem_iff_getElem?.1 hx
   rcases i1 p x hp with rfl | rfl | rfl <;> decide
 have fin:∀ (d i:Nat),R.size - i = d → i ≤ R.size → Tot (fun k => laws_FnMarks.l2 k R (strOfNums r) (strOfNums (List.replicate R.size 100)) (i:Int)) (· = true):=by
  have hz2:(strOfNums (List.replicate R.size 100)).size = R.size:=by rw [strOfNums_size,List.length_replicate]
  intro d
  induction d with
  | zero =>
   intro i h1 h2
   refine Tot.step (fun k => laws_FnMarks.l2.eq_2 _ _ _ _ k) ?_
   rw [hz2,hz]
   exact Tot.no (by omega) (Tot.yes rfl (Tot.ret (by simp)))
  | succ d ih =>
   intro i h1 h2
   refine Tot.step (fun k => laws_FnMarks.l2.eq_2 _ _ _ _ k) ?_
   rw [hz2,hz]
   refine Tot.yes (by omega) (Tot.yes (by omega) (Tot.yes ?_ ?_))
   ·rw [btL,bytesOf_strOfNums (fun x hx => by rw [List.eq_of_mem_replicate hx];decide),List.getD_eq_getElem?_getD,List.getElem?_replicate,if_pos (by omega)]
    rfl
   ·rw [w64_in (by omega) (by omega)]
    exact ih (i + 1) (by omega) (by omega)
 have main:∀ (d i:Nat),R.size - i = d → i ≤ R.size → Tot (fun k => laws_FnMarks.l0 k R (strOfNums r) (i:Int)) (· = true):=by
  intro d
  induction d with
  | zero =>
   intro i h1 h2
   refine Tot.step (fun k => laws_FnMarks.l0.eq_2 _ _ _ k) ?_
   rw [hz]
   refine Tot.no (by omega) (Tot.bind (marksNone hb) ?_)
   rintro _ rfl
   exact fin _ 0 rfl (Nat.zero_le _)
  | succ d ih =>
   intro i h1 h2
   have next:=ih (i + 1) (by omega) (by omega)
   have ew:Unit → wrap64 ((i:Int) + 1) = ((i + 1:Nat):Int):=fun _ => by rw [w64_in (by omega) (by omega)];omega
   refine Tot.step (fun k => laws_FnMarks.l0.eq_2 _ _ _ k) ?_
   rw [hz,hbt,ew ()]
   refine Tot.yes (by omega) (Tot.yes (by omega) (Tot.ite (fun h99 => ?_) (fun _ => next)))
   have hi:r[i]? = some 99:=by
    have:=rd_some (m:=r) (i:=(i:Int)) (by omega)
    rw [h99] at this
    exact this
   obtain ⟨n0,n1,n2⟩:=i3 i hi
   have rp:=insV_pos hb (x:=(i:Int)) (by omega) (by omega) n0
   refine Tot.bind (readI_T R i (by omega)) ?_
   rintro _ rfl
   rw [whole_ins hb (by omega) (by omega) n0]
   obtain ⟨n,hn⟩:∃ n,n = (insV R i).2.2.2:=⟨_,rfl⟩
   rw [← hn] at n0 n1 n2 rp ⊢
   refine Tot.no n0 ?_
   rw [tdiv_pos _ (show (0:Int) ≤ i by omega),w64_in (n:=(i:Int) + n) (by omega) (by omega),w64_in (n:=(i:Int) + n - 1) (by omega) (by omega),tdiv_pos _ (by omega),w64_in (n:=(i:Int) / 256) (by omega) (by omega),w64_in (n:=((i:Int) + n - 1) / 256) (by omega) (by omega)]
   refine Tot.step (fun k => laws_FnMarks.j2.eq_2 _ _ _ _ _ k) (Tot.no ?_ ?_)
   ·rw [show (i:Int) / 256 = ((i:Int) + n - 1) / 256 by omega]
    simp
   have l1:∀ (e k:Nat),n.toNat - k = e → 1 ≤ k → (k:Int) ≤ n → Tot (fun j => laws_FnMarks.l1 j R (strOfNums r) (i:Int) n (k:Int)) (· = true):=by
    intro e
    induction e with
    | zero =>
     intro k g1 g2 g3
     refine Tot.step (fun j => laws_FnMarks.l1.eq_2 _ _ _ _ _ j) (Tot.no (by omega) ?_)
     rw [w64_in (n:=(i:Int) + n) (by omega) (by omega),hz,hbt,ew ()]
     refine Tot.ite (fun hlt => Tot.yes (by omega) (Tot.no ?_ next)) (fun _ => next)
     intro h46
     have:=rd_some (m:=r) (i:=(i:Int) + n) (by omega)
     rw [h46,show ((i:Int) + n).toNat = i + n.toNat by omega] at this
     exact n2 this
    | succ e ihe =>
     intro k g1 g2 g3
     refine Tot.step (fun j => laws_FnMarks.l1.eq_2 _ _ _ _ _ j) (Tot.yes (by omega) ?_)
     have h46:=n1 k g2 (by omega)
     have hlt:=(List.getElem?_eq_some_iff.1 h46).1
     rw [w64_in (n:=(i:Int) + (k:Int)) (by omega) (by omega),hz,hbt,w64_in (n:=(k:Int) + 1) (by omega) (by omega)]
     refine Tot.yes (by omega) (Tot.yes (by omega) (Tot.yes (rd_of (by rw [show ((i:Int) + (k:Int)).toNat = i + k by omega];exact h46)) ?_))
     exact ihe (k + 1) (by omega) (by omega) (by omega)
   exact l1 _ 1 rfl (Nat.le_refl _) (by omega)
 exact main _ 0 rfl (Nat.zero_le _)
end Go.Proofs.YtodlnnoekccmmaaGreatDoor.Pure
