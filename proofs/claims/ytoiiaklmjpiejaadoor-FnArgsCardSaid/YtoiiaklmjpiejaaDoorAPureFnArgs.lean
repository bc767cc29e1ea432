import Derived.Test.YtoiiaklmjpiejaaDoorAQFnArgsx
import Derived.Test.YtoiiaklmjpiejaaDoorALib
namespace Go.Proofs.YtoiiaklmjpiejaaDoor.Pure
open Go.RowKit Go.Proofs.YtoiiaklmjpiejaaDoor.QFnArgs Go.Proofs.YtoiiaklmjpiejaaDoorW.PrintWords Go.Proofs.YtoiiaklmjpiejaaDoorW.PrintLast Go.Proofs.YtoiiaklmjpiejaaDoorW.PrintMore Go.Proofs.YtoiiaklmjpiejaaDoor.Lib Go.Proofs.YtoiiaklmjpiejaaDoor.LibX Go.Proofs.YtoiiaklmjpiejaaDoor.LibE Go.Proofs.YtoiiaklmjpiejaaDoor.LibT
set_option linter.unusedSimpArgs false
set_option linter.unusedVariables false
set_option linter.unusedSectionVars false
def Tot {α:Type} (g:Nat → Option α) (P:α → Prop):Prop:=∃ K r,P r ∧ ∀ k,K ≤ k → g k = some r
theorem Tot.ret {α:Type} {r:α} {P:α → Prop} (h:P r):Tot (fun _ => some r) P:=⟨0,r,h,fun _ _ => rfl⟩
theorem Tot.of {α:Type} {g:Option α} {r:α} {P:α → Prop} (e:g = some r) (h:P r):Tot (fun _ => g) P:=⟨0,r,h,fun _ _ => e⟩
theorem Tot.bind {α β:Type} {g:Nat → Option α} {f:Nat → α → Option β} {P:α → Prop} {Q:β → Prop} (h:Tot g P) (hf:∀ a,P a → Tot (fun k => f k a) Q):Tot (fun k => (g k).bind (f k)) Q:=by
 obtain ⟨K,a,ha,hg⟩:=h
 obtain ⟨L,r,hr,hk⟩:=hf a ha
 exact ⟨max K L,r,hr,fun k hk' => by show (g k).bind (f k) = some r;rw [hg k (by omega)];exact hk k (by omega)⟩
theorem Tot.ite {α:Type} {c:Prop} [Decidable c] {g f:Nat → Option α} {P:α → Prop} (h1:c → Tot g P) (h2:¬ c → Tot f P):Tot (fun k => if c then g k else f k) P:=by
 by_cases h:c
 ·obtain ⟨K,r,hr,hk⟩:=h1 h
  exact ⟨K,r,hr,fun k hk' => by show (if c then g k else f k) = some r;rw [if_pos h];exact hk k hk'⟩
 ·obtain ⟨K,r,hr,hk⟩:=h2 h
  exact ⟨K,r,hr,fun k hk' => by show (if c then g k else f k) = some r;rw [if_neg h];exact hk k hk'⟩
theorem Tot.yes {α:Type} {c:Prop} [Decidable c] {g f:Nat → Option α} {P:α → Prop} (h:c) (h1:Tot g P):Tot (fun k => if c then g k else f k) P:=Tot.ite (fun _ => h1) (fun n => absurd h n)
theorem Tot.no {α:Type} {c:Prop} [Decidable c] {g f:Nat → Option α} {P:α → Prop} (h:¬ c) (h1:Tot f P):Tot (fun k => if c then g k else f k) P:=Tot.ite (fun n => absurd n h) (fun _ => h1)
theorem Tot.mono {α:Type} {g:Nat → Option α} {P Q:α → Prop} (h:Tot g P) (hi:∀ a,P a → Q a):Tot g Q:=by
 obtain ⟨K,r,hr,hk⟩:=h
 exact ⟨K,r,hi r hr,hk⟩
theorem Tot.step {α:Type} {g f:Nat → Option α} {P:α → Prop} (h:∀ k,g (k + 1) = f k) (hf:Tot f P):Tot g P:=by
 obtain ⟨K,r,hr,hk⟩:=hf
 exact ⟨K + 1,r,hr,fun k hk' => by obtain ⟨m,rfl⟩:∃ m,k = m + 1:=⟨k - 1,by omega⟩;rw [h];exact hk m (by omega)⟩
theorem Tot.eq {α:Type} {g:Nat → Option α} {r:α} (h:Tot g (fun x => x = r)):∃ K,∀ k,K ≤ k → g k = some r:=by
 obtain ⟨K,x,hx,hk⟩:=h
 subst hx
 exact ⟨K,hk⟩
theorem Tot.done {g:Nat → Option Bool} (h:Tot g (fun x => x = true)):∃ k,g k = some true:=by
 obtain ⟨K,hk⟩:=h.eq
 exact ⟨K,hk K (Nat.le_refl _)⟩
def RdOk (s:List Int) (p:Int):Prop:=0 ≤ p ∧ p ≤ s.length ∧ s.length ≤ 1048576 ∧ ∀ x ∈ s,0 ≤ x ∧ x ≤ 255
theorem rd_mem {s:List Int} {p:Int} (h0:0 ≤ p) (h1:p < (s.length:Int)):rd s p ∈ s:=by
 unfold rd
 rw [List.getD_eq_getElem?_getD,List.getElem?_eq_getElem (by omega)]
 exact List.getElem_mem _
theorem open_tot {l:List Int} (hl:l.length ≤ 1048576) (hb:∀ x ∈ l,0 ≤ x ∧ x ≤ 255):spec_l1Open.f l = some (l,0) ∧ RdOk l 0 :=
 ⟨rfl,by omega,by omega,hl,hb⟩
theorem next_tot {s:List Int} {p:Int} (h:RdOk s p):∃ v q,spec_l1Rd_next.f s p = some (v,q) ∧ 0 ≤ v ∧ v ≤ 255 ∧ RdOk s q:=by
 obtain ⟨h0,h1,h2,h3⟩:=h
 unfold spec_l1Rd_next.f
 by_cases c:p ≥ (s.length:Int)
 ·rw [if_pos c]
  exact ⟨0,p,rfl,by omega,by omega,h0,h1,h2,h3⟩
 ·have hm:=h3 _ (rd_mem h0 (show p < (s.length:Int) by omega))
  have e:p + 1 - 1 = p:=by omega
  rw [if_neg c,w64_in (n:=p + 1) (by omega) (by omega),w64_in (n:=p + 1 - 1) (by omega) (by omega),e,if_pos h0,if_pos (by omega),w64_in (n:=rd s p) (by omega) (by omega)]
  exact ⟨_,_,rfl,hm.1,hm.2,by omega,by omega,h2,h3⟩
theorem below_tot {s:List Int} {p:Int} (h:RdOk s p) (n:Int):∃ v q,spec_l1Rd_below.f s p n = some (v,q) ∧ 0 ≤ v ∧ (1 ≤ n → v < n) ∧ RdOk s q:=by
 unfold spec_l1Rd_below.f
 by_cases c:n ≤ 1
 ·rw [if_pos c]
  exact ⟨0,p,rfl,by omega,by omega,h⟩
 ·rw [if_neg c]
  obtain ⟨v,q,e1,v0,v1,h1⟩:=next_tot h
  by_cases c2:n ≤ 256
  ·rw [if_pos c2,e1]
   simp only [Option.bind_some]
   rw [if_neg (by omega),tmod_pos _ v0]
   exact ⟨_,_,rfl,Int.emod_nonneg _ (by omega),fun _ => Int.emod_lt_of_pos _ (by omega),h1⟩
  ·obtain ⟨u,r,e2,u0,u1,h2⟩:=next_tot h1
   rw [if_neg c2,e1]
   simp only [Option.bind_some]
   rw [e2]
   simp only [Option.bind_some]
   rw [if_neg (by omega),w64_in (n:=v * 256) (by omega) (by omega),w64_in (n:=v * 256 + u) (by omega) (by omega),tmod_pos _ (by omega)]
   exact ⟨_,_,rfl,Int.emod_nonneg _ (by omega),fun _ => Int.emod_lt_of_pos _ (by omega),h2⟩
theorem once_tot {s:List Int} {p:Int} (h:RdOk s p) (n:Int):∃ b q,spec_l1Rd_once.f s p n = some (b,q) ∧ RdOk s q:=by
 obtain ⟨v,q,e,_,_,hq⟩:=below_tot h n
 unfold spec_l1Rd_once.f
 rw [e]
 exact ⟨_,_,rfl,hq⟩
theorem bytes_wf {l:List Int} (h:∀ x ∈ l,(Lit.int .u8 x).wf = true):∀ x ∈ l,0 ≤ x ∧ x ≤ 255:=by
 intro x hx
 have h1:=h x hx
 have e0:IntKind.u8.min = 0:=rfl
 have e1:IntKind.u8.max = 255:=rfl
 simp only [Lit.wf,e0,e1,Bool.and_eq_true,decide_eq_true_eq] at h1
 exact h1
theorem below_T {s:List Int} {p:Int} (h:RdOk s p) (n:Int):Tot (fun _ => spec_l1Rd_below.f s p n) (fun r => 0 ≤ r.1 ∧ (1 ≤ n → r.1 < n) ∧ RdOk s r.2):=by
 obtain ⟨v,q,e,h0,h1,h2⟩:=below_tot h n
 exact Tot.of e ⟨h0,h1,h2⟩
theorem once_T {s:List Int} {p:Int} (h:RdOk s p) (n:Int):Tot (fun _ => spec_l1Rd_once.f s p n) (fun r => RdOk s r.2):=by
 obtain ⟨v,q,e,h0⟩:=once_tot h n
 exact Tot.of e h0
theorem hurt_tot {s:List Int} {p:Int} (h:RdOk s p) (a:ByteArray) (ha:a.size ≤ 4611686018427387904):∃ r q,spec_l1Rd_hurt.f s p a = some (r,q) ∧ r.size ≤ a.size + 1 ∧ RdOk s q:=by
 have one:∀ (ys:List ByteArray) (i:Int),(∀ y ∈ ys,y.size = 1) → (rdOf ByteArray.empty ys i).size ≤ 1:=by
  intro ys i hy
  unfold rdOf
  rw [List.getD_eq_getElem?_getD]
  by_cases c:i.toNat < ys.length
  ·rw [List.getElem?_eq_getElem c]
   exact Nat.le_of_eq (hy _ (List.getElem_mem _))
  ·rw [List.getElem?_eq_none (by omega)]
   exact Nat.zero_le _
 unfold spec_l1Rd_hurt.f
 obtain ⟨v,q,e,v0,v1,h1⟩:=below_tot h 6
 rw [e]
 simp only [Option.bind_some]
 by_cases c1:v = 1
 ·rw [if_pos c1,w64_in (n:=(a.size:Int) + 1) (by omega) (by omega)]
  obtain ⟨u,r,e2,u0,u1,h2⟩:=below_tot h1 ((a.size:Int) + 1)
  rw [e2]
  simp only [Option.bind_some]
  rw [if_pos u0,if_pos (by have:=u1 (by omega);omega)]
  exact ⟨_,_,rfl,by rw [ByteArray.size_extract];omega,h2⟩
 rw [if_neg c1]
 by_cases c2:v = 2
 ·rw [if_pos c2]
  by_cases c3:(a.size:Int) > 0
  ·rw [if_pos c3]
   obtain ⟨u,r,e2,u0,u1,h2⟩:=below_tot h1 (a.size:Int)
   have u2:=u1 (by omega)
   rw [e2]
   simp only [Option.bind_some]
   rw [if_pos u0,if_pos (by omega)]
   obtain ⟨x,t,e3,x0,x1,h3⟩:=below_tot h2 6
   rw [e3]
   simp only [Option.bind_some]
   have x2:=x1 (by omega)
   have o:=one ([(⟨#[48]⟩:ByteArray),(⟨#[97]⟩:ByteArray),(⟨#[32]⟩:ByteArray),(⟨#[44]⟩:ByteArray),(⟨#[36]⟩:ByteArray),(⟨#[43]⟩:ByteArray)]:List ByteArray) x (by intro y hy;simp only [List.mem_cons,List.not_mem_nil,or_false] at hy;rcases hy with rfl | rfl | rfl | rfl | rfl | rfl <;> rfl)
   generalize rdOf ByteArray.empty ([(⟨#[48]⟩:ByteArray),(⟨#[97]⟩:ByteArray),(⟨#[32]⟩:ByteArray),(⟨#[44]⟩:ByteArray),(⟨#[36]⟩:ByteArray),(⟨#[43]⟩:ByteArray)]:List ByteArray) x = z at o ⊢
   rw [if_pos x0,if_pos (by simpa using x2),if_pos (by rw [ByteArray.size_extract];omega),w64_in (n:=u + 1) (by omega) (by omega),if_pos (by omega),if_pos (by omega),if_pos (by rw [ByteArray.size_append,ByteArray.size_extract,ByteArray.size_extract];omega)]
   exact ⟨_,_,rfl,by rw [ByteArray.size_append,ByteArray.size_append,ByteArray.size_extract,ByteArray.size_extract];omega,h3⟩
  ·rw [if_neg c3]
   exact ⟨_,_,rfl,by omega,h1⟩
 rw [if_neg c2]
 by_cases c3:v = 3
 ·rw [if_pos c3]
  obtain ⟨x,t,e3,x0,x1,h3⟩:=below_tot h1 3
  have x2:=x1 (by omega)
  rw [e3]
  simp only [Option.bind_some]
  have o:=one ([(⟨#[32]⟩:ByteArray),(⟨#[48]⟩:ByteArray),(⟨#[120]⟩:ByteArray)]:List ByteArray) x (by intro y hy;simp only [List.mem_cons,List.not_mem_nil,or_false] at hy;rcases hy with rfl | rfl | rfl <;> rfl)
  generalize rdOf ByteArray.empty ([(⟨#[32]⟩:ByteArray),(⟨#[48]⟩:ByteArray),(⟨#[120]⟩:ByteArray)]:List ByteArray) x = z at o ⊢
  rw [if_pos x0,if_pos (by simpa using x2),if_pos (by omega)]
  exact ⟨_,_,rfl,by rw [ByteArray.size_append];omega,h3⟩
 ·rw [if_neg c3]
  exact ⟨_,_,rfl,by omega,h1⟩
def wsp (b:UInt8):List UInt8 → List UInt8 × List (List UInt8)
 | [] => ([],[])
 | c :: t => if c = b then ([],(wsp b t).1 :: (wsp b t).2) else (c :: (wsp b t).1,(wsp b t).2)
theorem index1 (b:UInt8):∀ (s:List UInt8),(Lib.index s [b] = -1 ∧ wsp b s = (s,[])) ∨ ∃ i:Nat,Lib.index s [b] = i ∧ wsp b s = (s.take i,(wsp b (s.drop (i + 1))).1 :: (wsp b (s.drop (i + 1))).2)
 | [] => .inl ⟨rfl,rfl⟩
 | c :: t => by
  by_cases h:c = b
  ·subst h
   right
   refine ⟨0,by simp [Lib.index],?_⟩
   simp [wsp]
  ·have hp:List.isPrefixOf [b] (c :: t) = false:=by simp [List.isPrefixOf];exact fun e => h e.symm
   rcases index1 b t with ⟨e1,e2⟩ | ⟨i,e1,e2⟩
   ·left
    constructor
    ·rw [Lib.index,hp,e1];rfl
    ·rw [wsp,if_neg h,e2]
   ·right
    refine ⟨i + 1,?_,?_⟩
    ·rw [Lib.index,hp,e1]
     have:((i:Int) == -1) = false:=by rw [beq_eq_false_iff_ne];omega
     simp [this]
    ·rw [wsp,if_neg h,e2]
     rfl
theorem splitK1 (b:UInt8):∀ (n:Nat) (s:List UInt8),s.length ≤ n → Lib.splitK [b] 0 (Lib.count s [b]) s = (wsp b s).1 :: (wsp b s).2
 | n,s,hn => by
  rcases index1 b s with ⟨e1,e2⟩ | ⟨i,e1,e2⟩
  ·rw [Lib.count_miss e1,e2];rfl
  ·have hc:=Lib.count_hit (s:=s) (sub:=[b]) (by simp) e1
   have hr:=Lib.index_room s [b] (by omega)
   rw [e1] at hr
   have hl:i + 1 ≤ s.length:=by simp at hr;omega
   rw [hc,Nat.add_comm 1,Lib.splitK,if_neg (by rw [e1];simp),e1,e2]
   match n,hn with
   | 0,hn => omega
   | n + 1,hn =>
    have:=splitK1 b n (s.drop (i + 1)) (by rw [List.length_drop];omega)
    simp only [List.length_singleton,Int.toNat_natCast,Nat.add_zero]
    rw [this]
theorem wsp_join (b:UInt8):∀ s:List UInt8,(wsp b s).1 ++ Lib.joinTail [b] (wsp b s).2 = s
 | [] => rfl
 | c :: t => by
  have ih:=wsp_join b t
  by_cases h:c = b
  ·rw [wsp,if_pos h,h]
   show Lib.joinTail [b] ((wsp b t).1 :: (wsp b t).2) = b :: t
   rw [show Lib.joinTail [b] ((wsp b t).1 :: (wsp b t).2) = b :: ((wsp b t).1 ++ Lib.joinTail [b] (wsp b t).2) from rfl,ih]
  ·rw [wsp,if_neg h]
   show c :: ((wsp b t).1 ++ Lib.joinTail [b] (wsp b t).2) = c :: t
   rw [ih]
def ne0 (w:List UInt8):Bool:=!w.isEmpty
def sqz:Nat → List UInt8 → List UInt8
 | _,[] => []
 | 0,c :: t => if c = 32 then sqz 0 t else c :: sqz 1 t
 | 1,c :: t => if c = 32 then sqz 2 t else c :: sqz 1 t
 | _ + 2,c :: t => if c = 32 then sqz 2 t else 32 :: c :: sqz 1 t
theorem joinTail_ne (w:List UInt8) (r:List (List UInt8)):Lib.joinTail [32] ((w :: r).filter ne0) = if w = [] then Lib.joinTail [32] (r.filter ne0) else 32 :: (w ++ Lib.joinTail [32] (r.filter ne0)):=by
 cases w with
 | nil => rfl
 | cons a t => rfl
theorem sqz_eq:∀ (s:List UInt8),sqz 0 s = Lib.join (((wsp 32 s).1 :: (wsp 32 s).2).filter ne0) [32] ∧ sqz 1 s = (wsp 32 s).1 ++ Lib.joinTail [32] ((wsp 32 s).2.filter ne0) ∧ sqz 2 s = Lib.joinTail [32] (((wsp 32 s).1 :: (wsp 32 s).2).filter ne0)
 | [] => ⟨rfl,rfl,rfl⟩
 | c :: t => by
  obtain ⟨h0,h1,h2⟩:=sqz_eq t
  by_cases h:c = 32
  ·subst h
   have e:wsp 32 (32 :: t) = ([],(wsp 32 t).1 :: (wsp 32 t).2):=by rw [wsp,if_pos rfl]
   rw [e]
   refine ⟨?_,?_,?_⟩
   ·rw [sqz,if_pos rfl,h0];rfl
   ·rw [sqz,if_pos rfl,h2];rfl
   ·rw [sqz,if_pos rfl,h2];rfl
  ·have e:wsp 32 (c :: t) = (c :: (wsp 32 t).1,(wsp 32 t).2):=by rw [wsp,if_neg h]
   rw [e]
   refine ⟨?_,?_,?_⟩
   ·rw [sqz,if_neg h,h1,List.filter_cons_of_pos rfl,Lib.join_cons];rfl
   ·rw [sqz,if_neg h,h1];rfl
   ·rw [sqz,if_neg h,h1,joinTail_ne,if_neg (by simp)];rfl
def rep2 (a b c:UInt8):List UInt8 → List UInt8
 | [] => []
 | [x] => [x]
 | x :: y :: t => if x = a ∧ y = b then c :: rep2 a b c t else x :: rep2 a b c (y :: t)
theorem index2 (a b:UInt8):∀ (s:List UInt8),(Lib.index s [a,b] = -1 ∧ ∀ c,rep2 a b c s = s) ∨ ∃ i:Nat,Lib.index s [a,b] = i ∧ i + 2 ≤ s.length ∧ ∀ c,rep2 a b c s = s.take i ++ [c] ++ rep2 a b c (s.drop (i + 2))
 | [] => .inl ⟨rfl,fun _ => rfl⟩
 | [x] => .inl ⟨by simp [Lib.index,List.isPrefixOf],fun _ => rfl⟩
 | x :: y :: t => by
  by_cases h:x = a ∧ y = b
  ·obtain ⟨rfl,rfl⟩:=h
   right
   refine ⟨0,by simp [Lib.index],by simp,fun c => ?_⟩
   rw [rep2,if_pos ⟨rfl,rfl⟩];rfl
  ·have hp:List.isPrefixOf [a,b] (x :: y :: t) = false:=by
    simp [List.isPrefixOf]
    intro e1 e2
    exact h ⟨e1.symm,e2.symm⟩
   rcases index2 a b (y :: t) with ⟨e1,e2⟩ | ⟨i,e1,e3,e2⟩
   ·left
    refine ⟨by rw [Lib.index,hp,e1];rfl,fun c => ?_⟩
    rw [rep2,if_neg h,e2]
   ·right
    refine ⟨i + 1,?_,by simp at e3 ⊢;omega,fun c => ?_⟩
    ·rw [Lib.index,hp,e1]
     have:((i:Int) == -1) = false:=by rw [beq_eq_false_iff_ne];omega
     simp [this]
    ·rw [rep2,if_neg h,e2]
     rfl
theorem replaceK2 (a b c:UInt8):∀ (n:Nat) (s:List UInt8),s.length ≤ n → Lib.replaceK [a,b] [c] (Lib.count s [a,b]) s = rep2 a b c s
 | n,s,hn => by
  rcases index2 a b s with ⟨e1,e2⟩ | ⟨i,e1,e3,e2⟩
  ·rw [Lib.count_miss e1,e2];rfl
  ·have hc:=Lib.count_hit (s:=s) (sub:=[a,b]) (by simp) e1
   rw [hc,Nat.add_comm 1,Lib.replaceK_hit _ _ _ _ _ e1,e2]
   match n,hn with
   | 0,hn => omega
   | n + 1,hn =>
    have:=replaceK2 a b c n (s.drop (i + 2)) (by rw [List.length_drop];omega)
    simp only [List.length_cons,List.length_nil]
    rw [this]
theorem replaceAll2 (a b c:UInt8) (s:List UInt8):Lib.replaceAll s [a,b] [c] = rep2 a b c s:=by
 unfold Lib.replaceAll Lib.replace Lib.replaceNum
 rw [if_neg (by simp),if_pos (.inl (by decide))]
 exact replaceK2 a b c s.length s (Nat.le_refl _)
def tdy:Nat → List UInt8 → List UInt8
 | _,[] => []
 | 0,c :: t => if c = 32 then tdy 0 t else c :: tdy (if c = 44 then 0 else 1) t
 | 1,c :: t => if c = 32 then tdy 2 t else c :: tdy (if c = 44 then 0 else 1) t
 | _ + 2,c :: t => if c = 32 then tdy 2 t else if c = 44 then 44 :: tdy 0 t else 32 :: c :: tdy 1 t
def rb (s:List UInt8):List UInt8:=rep2 32 44 44 s
def rc (s:List UInt8):List UInt8:=rep2 44 32 44 s
theorem rep2_skip (a b c x:UInt8) (t:List UInt8) (h:x ≠ a):rep2 a b c (x :: t) = x :: rep2 a b c t:=by
 cases t with
 | nil => rfl
 | cons y t => rw [rep2,if_neg (fun e => h e.1)]
theorem rep2_hit (a b c:UInt8) (t:List UInt8):rep2 a b c (a :: b :: t) = c :: rep2 a b c t:=by rw [rep2,if_pos ⟨rfl,rfl⟩]
theorem rep2_two (a b c y:UInt8) (t:List UInt8) (h:y ≠ b):rep2 a b c (a :: y :: t) = a :: rep2 a b c (y :: t):=by rw [rep2,if_neg (fun e => h e.2)]
theorem rc_word:∀ {c:UInt8} (t:List UInt8),c ≠ 32 → c ≠ 44 → rc (c :: t) = c :: rc t:=fun t _ h => rep2_skip _ _ _ _ t h
theorem tdy_eq:∀ (s:List UInt8),rc (rb (sqz 0 s)) = tdy 0 s ∧ rc (rb (sqz 1 s)) = tdy 1 s ∧ rc (rb (sqz 2 s)) = tdy 2 s ∧ rc (44 :: rb (sqz 1 s)) = 44 :: tdy 0 s ∧ rc (44 :: rb (sqz 2 s)) = 44 :: tdy 0 s
 | [] => ⟨rfl,rfl,rfl,rfl,rfl⟩
 | c :: t => by
  obtain ⟨p0,p1,p2,p3,p4⟩:=tdy_eq t
  by_cases h:c = 32
  ·subst h
   refine ⟨?_,?_,?_,?_,?_⟩
   ·rw [sqz,if_pos rfl,tdy,if_pos rfl];exact p0
   ·rw [sqz,if_pos rfl,tdy,if_pos rfl];exact p2
   ·rw [sqz,if_pos rfl,tdy,if_pos rfl];exact p2
   ·rw [sqz,if_pos rfl,tdy,if_pos rfl];exact p4
   ·rw [sqz,if_pos rfl,tdy,if_pos rfl];exact p4
  ·have e0:sqz 0 (c :: t) = c :: sqz 1 t:=by rw [sqz,if_neg h]
   have e1:sqz 1 (c :: t) = c :: sqz 1 t:=by rw [sqz,if_neg h]
   have e2:sqz 2 (c :: t) = 32 :: c :: sqz 1 t:=by rw [sqz,if_neg h]
   have b1:rb (c :: sqz 1 t) = c :: rb (sqz 1 t):=rep2_skip _ _ _ _ _ h
   by_cases g:c = 44
   ·subst g
    have b2:rb (32 :: 44 :: sqz 1 t) = 44 :: rb (sqz 1 t):=rep2_hit _ _ _ _
    have t0:tdy 0 (44 :: t) = 44 :: tdy 0 t:=by rw [tdy,if_neg h,if_pos rfl]
    have t1:tdy 1 (44 :: t) = 44 :: tdy 0 t:=by rw [tdy,if_neg h,if_pos rfl]
    have t2:tdy 2 (44 :: t) = 44 :: tdy 0 t:=by rw [tdy,if_neg h,if_pos rfl]
    have q:rc (44 :: 44 :: rb (sqz 1 t)) = 44 :: 44 :: tdy 0 t:=by
     show rep2 44 32 44 _ = _
     rw [rep2_two _ _ _ _ _ (by decide)]
     exact congrArg _ p3
    rw [e0,e1,e2,b1,b2,t0,t1,t2]
    exact ⟨p3,p3,p3,q,q⟩
   ·have b2:rb (32 :: c :: sqz 1 t) = 32 :: c :: rb (sqz 1 t):=by
     show rep2 32 44 44 _ = _
     rw [rep2_two _ _ _ _ _ g]
     exact congrArg _ b1
    have t0:tdy 0 (c :: t) = c :: tdy 1 t:=by rw [tdy,if_neg h,if_neg g]
    have t1:tdy 1 (c :: t) = c :: tdy 1 t:=by rw [tdy,if_neg h,if_neg g]
    have t2:tdy 2 (c :: t) = 32 :: c :: tdy 1 t:=by rw [tdy,if_neg h,if_neg g]
    have q1:rc (c :: rb (sqz 1 t)) = c :: tdy 1 t:=by rw [rc_word _ h g,p1]
    have q2:rc (32 :: c :: rb (sqz 1 t)) = 32 :: c :: tdy 1 t:=by
     show rep2 44 32 44 _ = _
     rw [rep2_skip _ _ _ _ _ (by decide)]
     exact congrArg _ q1
    have q3:rc (44 :: c :: rb (sqz 1 t)) = 44 :: c :: tdy 1 t:=by
     show rep2 44 32 44 _ = _
     rw [rep2_two _ _ _ _ _ h]
     exact congrArg _ q1
    have q4:rc (44 :: 32 :: c :: rb (sqz 1 t)) = 44 :: c :: tdy 1 t:=by
     show rep2 44 32 44 _ = _
     rw [rep2_hit]
     exact congrArg _ q1
    rw [e0,e1,e2,b1,b2,t0,t1,t2]
    exact ⟨q1,q1,q2,q3,q4⟩
theorem tdy_len:∀ (s:List UInt8),(tdy 0 s).length ≤ s.length ∧ (tdy 1 s).length ≤ s.length ∧ (tdy 2 s).length ≤ s.length + 1
 | [] => ⟨Nat.le_refl _,Nat.le_refl _,Nat.le_succ _⟩
 | c :: t => by
  obtain ⟨h0,h1,h2⟩:=tdy_len t
  by_cases h:c = 32
  ·simp only [tdy,if_pos h,List.length_cons];omega
  ·by_cases g:c = 44
   ·simp only [tdy,if_neg h,if_pos g,List.length_cons];omega
   ·simp only [tdy,if_neg h,if_neg g,List.length_cons];omega
def fineL:Nat → List UInt8 → Prop
 | k,[] => k ≠ 2
 | 0,c :: t => c ≠ 32 ∧ fineL (if c = 44 then 0 else 1) t
 | 1,c :: t => fineL (if c = 32 then 2 else if c = 44 then 0 else 1) t
 | _ + 2,c :: t => c ≠ 32 ∧ c ≠ 44 ∧ fineL 1 t
theorem tdy_fine:∀ (s:List UInt8),(tdy 0 s = s ↔ fineL 0 s) ∧ (tdy 1 s = s ↔ fineL 1 s) ∧ (tdy 2 s = 32 :: s ↔ fineL 2 s)
 | [] => by simp [tdy,fineL]
 | c :: t => by
  obtain ⟨h0,h1,h2⟩:=tdy_fine t
  have l:=tdy_len t
  by_cases h:c = 32
  ·subst h
   refine ⟨?_,?_,?_⟩
   ·simp only [tdy,fineL,if_pos]
    constructor
    ·intro e
     have:=congrArg List.length e
     rw [List.length_cons] at this
     omega
    ·intro e;exact absurd rfl e.1
   ·simp only [tdy,fineL,if_pos];exact h2
   ·simp only [tdy,fineL,if_pos]
    constructor
    ·intro e
     have:=congrArg List.length e
     rw [List.length_cons,List.length_cons] at this
     omega
    ·intro e;exact absurd rfl e.1
  ·by_cases g:c = 44
   ·subst g
    simp only [tdy,fineL,if_neg h,if_pos]
    refine ⟨⟨fun e => ⟨h,h0.1 (List.cons.inj e).2⟩,fun e => congrArg _ (h0.2 e.2)⟩,⟨fun e => h0.1 (List.cons.inj e).2,fun e => congrArg _ (h0.2 e)⟩,⟨fun e => absurd (List.cons.inj e).1 (by decide),fun e => absurd rfl e.2.1⟩⟩
   ·simp only [tdy,fineL,if_neg h,if_neg g]
    refine ⟨⟨fun e => ⟨h,h1.1 (List.cons.inj e).2⟩,fun e => congrArg _ (h1.2 e.2)⟩,⟨fun e => h1.1 (List.cons.inj e).2,fun e => congrArg _ (h1.2 e)⟩,⟨fun e => ⟨h,g,h1.1 (List.cons.inj (List.cons.inj e).2).2⟩,fun e => by rw [h1.2 e.2.2]⟩⟩
def pairsOk:List UInt8 → Prop
 | [] => True
 | [_] => True
 | x :: y :: t => ¬ (x = 32 ∧ (y = 32 ∨ y = 44)) ∧ ¬ (x = 44 ∧ y = 32) ∧ pairsOk (y :: t)
theorem fine_iff:∀ (s:List UInt8),(fineL 0 s ↔ s.head? ≠ some 32 ∧ pairsOk s ∧ s.getLast? ≠ some 32) ∧ (fineL 1 s ↔ pairsOk s ∧ s.getLast? ≠ some 32) ∧ (fineL 2 s ↔ s ≠ [] ∧ s.head? ≠ some 32 ∧ s.head? ≠ some 44 ∧ pairsOk s ∧ s.getLast? ≠ some 32)
 | [] => by simp [fineL,pairsOk]
 | [c] => by
  by_cases h:c = 32
  ·subst h;simp [fineL,pairsOk]
  ·by_cases g:c = 44
   ·subst g;simp [fineL,pairsOk]
   ·simp [fineL,pairsOk,h,g]
 | c :: d :: t => by
  obtain ⟨h0,h1,h2⟩:=fine_iff (d :: t)
  have e:(c :: d :: t).getLast? = (d :: t).getLast?:=by simp [List.getLast?_cons_cons]
  rw [e]
  by_cases h:c = 32
  ·subst h
   have f1:fineL 1 (32 :: d :: t) ↔ fineL 2 (d :: t):=by simp [fineL]
   have f0:¬ fineL 0 (32 :: d :: t):=by simp [fineL]
   have f2:¬ fineL 2 (32 :: d :: t):=by simp [fineL]
   have p:pairsOk (32 :: d :: t) ↔ (d ≠ 32 ∧ d ≠ 44) ∧ pairsOk (d :: t):=by simp [pairsOk]
   refine ⟨⟨fun x => absurd x f0,fun x => absurd rfl x.1⟩,?_,⟨fun x => absurd x f2,fun x => absurd rfl x.2.1⟩⟩
   rw [f1,h2,p]
   simp
   constructor
   ·rintro ⟨a,b,c,d⟩;exact ⟨⟨⟨a,b⟩,c⟩,d⟩
   ·rintro ⟨⟨⟨a,b⟩,c⟩,d⟩;exact ⟨a,b,c,d⟩
  ·by_cases g:c = 44
   ·subst g
    have f0:fineL 0 (44 :: d :: t) ↔ fineL 0 (d :: t):=by simp [fineL]
    have f1:fineL 1 (44 :: d :: t) ↔ fineL 0 (d :: t):=by simp [fineL]
    have f2:¬ fineL 2 (44 :: d :: t):=by simp [fineL]
    have p:pairsOk (44 :: d :: t) ↔ d ≠ 32 ∧ pairsOk (d :: t):=by simp [pairsOk]
    rw [f0,f1,h0,p]
    simp [f2,and_assoc]
   ·have f0:fineL 0 (c :: d :: t) ↔ fineL 1 (d :: t):=by simp [fineL,h,g]
    have f1:fineL 1 (c :: d :: t) ↔ fineL 1 (d :: t):=by simp [fineL,h,g]
    have f2:fineL 2 (c :: d :: t) ↔ fineL 1 (d :: t):=by simp [fineL,h,g]
    have p:pairsOk (c :: d :: t) ↔ pairsOk (d :: t):=by simp [pairsOk,h,g]
    rw [f0,f1,f2,h1,p]
    simp [h,g]
theorem toL (a:ByteArray):a.toList = a.data.toList:=ByteArray.toList_eq a
theorem datL (a:ByteArray):a.data.toList.length = a.size:=by rw [Array.length_toList];rfl
def mkB (l:List UInt8):ByteArray:=⟨l.toArray⟩
theorem mkB_data (a:ByteArray):mkB a.data.toList = a:=rfl
theorem bt_data {s:ByteArray} {i:Nat} (h:i < s.size):∃ u:UInt8,s.data.toList[i]? = some u ∧ bt s (i:Int) = (u.toNat:Int):=by
 have hl:i < s.data.toList.length:=by rw [datL];exact h
 refine ⟨s.data.toList[i],List.getElem?_eq_getElem hl,?_⟩
 unfold bt
 rw [dif_pos (show ((i:Int)).toNat < s.size by omega)]
 congr 2
theorem u8_lit (u:UInt8) (n:Nat) (hn:n < 256):(u.toNat:Int) = (n:Int) ↔ u = UInt8.ofNat n:=by
 constructor
 ·intro h
  apply UInt8.toNat_inj.1
  rw [UInt8.toNat_ofNat']
  omega
 ·intro h
  rw [h,UInt8.toNat_ofNat']
  omega
theorem u32 (u:UInt8):(u.toNat:Int) = 32 ↔ u = 32:=u8_lit u 32 (by decide)
theorem u44 (u:UInt8):(u.toNat:Int) = 44 ↔ u = 44:=u8_lit u 44 (by decide)
theorem sqz_len:∀ (s:List UInt8),(sqz 0 s).length ≤ s.length ∧ (sqz 1 s).length ≤ s.length ∧ (sqz 2 s).length ≤ s.length + 1
 | [] => ⟨Nat.le_refl _,Nat.le_refl _,Nat.le_succ _⟩
 | c :: t => by
  obtain ⟨h0,h1,h2⟩:=sqz_len t
  by_cases h:c = 32
  ·simp only [sqz,if_pos h,List.length_cons];omega
  ·simp only [sqz,if_neg h,List.length_cons];omega
theorem rep2_len (a b c:UInt8):∀ s:List UInt8,(rep2 a b c s).length ≤ s.length
 | [] => Nat.le_refl _
 | [_] => Nat.le_refl _
 | x :: y :: t => by
  rw [rep2]
  split
  ·have:=rep2_len a b c t
   simp only [List.length_cons];omega
  ·have:=rep2_len a b c (y :: t)
   simp only [List.length_cons] at this ⊢;omega
theorem words_eq (s:ByteArray):(LibT.wordsOf s).map (·.data.toList) = ((wsp 32 s.data.toList).1 :: (wsp 32 s.data.toList).2).filter ne0:=by
 unfold LibT.wordsOf
 have h:=splitK1 32 s.data.toList.length s.data.toList (Nat.le_refl _)
 have e:=Lib.splitB_data (⟨#[32]⟩:ByteArray) 0 (Lib.countB s ⟨#[32]⟩) s
 rw [show (⟨#[32]⟩:ByteArray).data.toList = [32] from rfl] at e
 rw [← h,show Lib.count s.data.toList [32] = Lib.countB s ⟨#[32]⟩ from rfl,← e,List.filter_map]
 congr 1
 congr 1
 funext x
 simp only [Function.comp]
 unfold LibT.noWord ne0
 rw [toL]
 cases x.data.toList <;> rfl
theorem joined_eq (s:ByteArray):Lib.join ((LibT.wordsOf s).map (·.data.toList)) [32] = sqz 0 s.data.toList:=by
 rw [words_eq,← (sqz_eq s.data.toList).1]
theorem slim1_eq (s:ByteArray):(LibT.slim1 s).data.toList = rb (sqz 0 s.data.toList):=by
 show Lib.replaceAll (LibT.joined s).data.toList [32,44] [44] = _
 rw [replaceAll2]
 show rb (Lib.join ((LibT.wordsOf s).map (·.data.toList)) [32]) = _
 rw [joined_eq]
theorem slim2_eq (s:ByteArray):(LibT.slim2 s).data.toList = tdy 0 s.data.toList:=by
 show Lib.replaceAll (LibT.slim1 s).data.toList [44,32] [44] = _
 rw [replaceAll2,slim1_eq]
 exact (tdy_eq s.data.toList).1
theorem tidied_V {s:ByteArray} (h:s.size ≤ 1000000):impl_tidied.f s = some (LibT.slim2 s):=by
 have z:=sqz_len s.data.toList
 rw [datL] at z
 unfold impl_tidied.f
 rw [if_pos h,if_pos (by rw [joined_eq];omega),if_pos]
 rw [← datL,slim1_eq]
 have:=rep2_len 32 44 44 (sqz 0 s.data.toList)
 unfold rb
 omega
def okc (c:Int):Prop:=¬ c < 32 ∧ ¬ c > 126 ∧ c ≠ 59
def AllOk (s:ByteArray):Prop:=∀ i:Nat,i < s.size → okc (bt s (i:Int))
def Fine (s:ByteArray):Prop:=AllOk s ∧ tdy 0 s.data.toList = s.data.toList
theorem areArgs_T {s:ByteArray} (h:s.size ≤ 1000000):Tot (fun k => impl_areArgs.f k s) (fun b => b = true ↔ Fine s):=by
 have go:∀ (d i:Nat),s.size - i = d → i ≤ s.size → (∀ j:Nat,j < i → okc (bt s (j:Int))) → Tot (fun k => impl_areArgs.l0 k s (s.size:Int) (i:Int)) (fun b => b = true ↔ Fine s):=by
  intro d
  induction d with
  | zero =>
   intro i h1 h2 hi
   refine Tot.step (fun k => impl_areArgs.l0.eq_2 _ _ _ k) (Tot.no (by omega) (Tot.bind (Tot.of (tidied_V h) rfl) ?_))
   rintro _ rfl
   refine Tot.ret ?_
   rw [beq_iff_eq,toL,toL,slim2_eq]
   exact ⟨fun e => ⟨fun j hj => hi j (by omega),e⟩,fun e => e.2⟩
  | succ d ih =>
   intro i h1 h2 hi
   refine Tot.step (fun k => impl_areArgs.l0.eq_2 _ _ _ k) (Tot.yes (by omega) (Tot.yes (by omega) (Tot.yes (by omega) ?_)))
   have j1:∀ b:Bool,(b = true ↔ ¬ okc (bt s (i:Int))) → Tot (fun k => impl_areArgs.j1 k s (s.size:Int) (i:Int) b) (fun b => b = true ↔ Fine s):=by
    intro b hb
    refine Tot.step (fun k => impl_areArgs.j1.eq_2 _ _ _ _ k) (Tot.ite (fun e => Tot.ret ?_) (fun e => ?_))
    ·exact ⟨fun x => absurd x (by decide),fun x => absurd (x.1 i (by omega)) (hb.1 e)⟩
    ·rw [w64_in (by omega) (by omega)]
     have ok:okc (bt s (i:Int)):=Classical.byContradiction fun x => e (hb.2 x)
     exact ih (i + 1) (by omega) (by omega) (fun j hj => by
      by_cases c:j < i
      ·exact hi j c
      ·rw [show j = i by omega];exact ok)
   unfold okc at j1
   refine Tot.ite (fun c => j1 _ ?_) (fun c => Tot.ite (fun c2 => j1 _ ?_) (fun c2 => j1 _ ?_))
   ·exact ⟨fun _ e => e.1 c,fun _ => rfl⟩
   ·exact ⟨fun _ e => e.2.1 c2,fun _ => rfl⟩
   ·rw [beq_iff_eq]
    exact ⟨fun e x => x.2.2 e,fun x => Classical.byContradiction fun y => x ⟨c,c2,y⟩⟩
 unfold impl_areArgs.f
 exact go _ 0 rfl (Nat.zero_le _) (fun j hj => absurd hj (Nat.not_lt_zero _))
theorem pairs_iff:∀ (l:List UInt8),pairsOk l ↔ ∀ (i:Nat) (x y:UInt8),l[i]? = some x → l[i + 1]? = some y → ¬ (x = 32 ∧ (y = 32 ∨ y = 44)) ∧ ¬ (x = 44 ∧ y = 32)
 | [] => ⟨fun _ i x y h => by simp at h,fun _ => trivial⟩
 | [c] => ⟨fun _ i x y _ h => by simp at h,fun _ => trivial⟩
 | c :: d :: t => by
  have ih:=pairs_iff (d :: t)
  constructor
  ·rintro ⟨h1,h2,h3⟩ i x y hx hy
   cases i with
   | zero =>
    have e1:c = x:=by simpa using hx
    have e2:d = y:=by simpa using hy
    subst e1;subst e2
    exact ⟨h1,h2⟩
   | succ i => exact ih.1 h3 i x y (by simpa using hx) (by simpa using hy)
  ·intro h
   have h0:=h 0 c d rfl rfl
   exact ⟨h0.1,h0.2,ih.2 (fun i x y hx hy => h (i + 1) x y (by simpa using hx) (by simpa using hy))⟩
def PairsI (s:ByteArray):Prop:=∀ i:Nat,i + 1 < s.size → ¬ (bt s (i:Int) = 32 ∧ (bt s ((i + 1:Nat):Int) = 32 ∨ bt s ((i + 1:Nat):Int) = 44)) ∧ ¬ (bt s (i:Int) = 44 ∧ bt s ((i + 1:Nat):Int) = 32)
theorem fine_S (s:ByteArray):Fine s ↔ PairsI s ∧ AllOk s ∧ (s.size = 0 ∨ (bt s 0 ≠ 32 ∧ bt s ((s.size - 1:Nat):Int) ≠ 32)):=by
 have hp:pairsOk s.data.toList ↔ PairsI s:=by
  rw [pairs_iff]
  constructor
  ·intro h i hi
   obtain ⟨x,x1,x2⟩:=bt_data (s:=s) (i:=i) (by omega)
   obtain ⟨y,y1,y2⟩:=bt_data (s:=s) (i:=i + 1) hi
   rw [x2,y2,u32,u32,u44,u44]
   exact h i x y x1 y1
  ·intro h i x y hx hy
   have hi:i + 1 < s.size:=by rw [← datL];exact (List.getElem?_eq_some_iff.1 hy).1
   obtain ⟨x',x1,x2⟩:=bt_data (s:=s) (i:=i) (by omega)
   obtain ⟨y',y1,y2⟩:=bt_data (s:=s) (i:=i + 1) hi
   have e1:x' = x:=by rw [hx] at x1;exact (Option.some.inj x1).symm
   have e2:y' = y:=by rw [hy] at y1;exact (Option.some.inj y1).symm
   have:=h i hi
   rw [x2,y2,u32,u32,u44,u44,e1,e2] at this
   exact this
 have hh:(s.data.toList.head? ≠ some 32 ∧ s.data.toList.getLast? ≠ some 32) ↔ (s.size = 0 ∨ (bt s 0 ≠ 32 ∧ bt s ((s.size - 1:Nat):Int) ≠ 32)):=by
  by_cases h0:s.size = 0
  ·have:s.data.toList = []:=List.eq_nil_of_length_eq_zero (by rw [datL];exact h0)
   rw [this]
   simp [h0]
  ·obtain ⟨x,x1,x2⟩:=bt_data (s:=s) (i:=0) (by omega)
   obtain ⟨y,y1,y2⟩:=bt_data (s:=s) (i:=s.size - 1) (by omega)
   rw [List.head?_eq_getElem?,List.getLast?_eq_getElem?,datL,x1,y1,show (0:Int) = ((0:Nat):Int) from rfl,x2,y2]
   constructor
   ·rintro ⟨a,b⟩
    exact .inr ⟨fun e => a (by rw [(u32 x).1 e]),fun e => b (by rw [(u32 y).1 e])⟩
   ·rintro (a | ⟨a,b⟩)
    ·exact absurd a h0
    ·exact ⟨fun e => a ((u32 x).2 (Option.some.inj e)),fun e => b ((u32 y).2 (Option.some.inj e))⟩
 unfold Fine
 rw [(tdy_fine s.data.toList).1,(fine_iff s.data.toList).1,← hp,← hh]
 constructor
 ·rintro ⟨a,b,c,d⟩;exact ⟨c,a,b,d⟩
 ·rintro ⟨a,b,c,d⟩;exact ⟨b,c,a,d⟩
theorem plainS_T {s:ByteArray} (h:s.size ≤ 1000000):Tot (fun k => spec_l7Plain.f k s) (fun b => b = true ↔ AllOk s ∧ (s.size = 0 ∨ (bt s 0 ≠ 32 ∧ bt s ((s.size - 1:Nat):Int) ≠ 32))):=by
 have go:∀ (d i:Nat),s.size - i = d → i ≤ s.size → (∀ j:Nat,j < i → okc (bt s (j:Int))) → Tot (fun k => spec_l7Plain.l0 k s (i:Int)) (fun b => b = true ↔ AllOk s ∧ (s.size = 0 ∨ (bt s 0 ≠ 32 ∧ bt s ((s.size - 1:Nat):Int) ≠ 32))):=by
  intro d
  induction d with
  | zero =>
   intro i h1 h2 hi
   have hall:AllOk s:=fun j hj => hi j (by omega)
   refine Tot.step (fun k => spec_l7Plain.l0.eq_2 _ _ k) (Tot.no (by omega) (Tot.ite (fun e => Tot.ret ?_) (fun e => ?_)))
   ·have:s.size = 0:=by rw [← datL,← toL,e];rfl
    simp [this,hall]
   ·have h0:s.size ≠ 0:=fun x => e (by rw [toL];exact List.eq_nil_of_length_eq_zero (by rw [datL];exact x))
    refine Tot.yes (by omega) (Tot.ite (fun c => Tot.ret ?_) (fun c => ?_))
    ·exact ⟨fun x => absurd x (by decide),fun x => absurd c (x.2.resolve_left h0).1⟩
    ·rw [w64_in (n:=(s.size:Int) - 1) (by omega) (by omega)]
     refine Tot.yes (by omega) (Tot.yes (by omega) (Tot.ret ?_))
     rw [bne_iff_ne,show (s.size:Int) - 1 = ((s.size - 1:Nat):Int) by omega]
     exact ⟨fun x => ⟨hall,.inr ⟨c,x⟩⟩,fun x => (x.2.resolve_left h0).2⟩
  | succ d ih =>
   intro i h1 h2 hi
   refine Tot.step (fun k => spec_l7Plain.l0.eq_2 _ _ k) (Tot.yes (by omega) (Tot.yes (by omega) ?_))
   have j1:∀ b:Bool,(b = true ↔ ¬ okc (bt s (i:Int))) → Tot (fun k => spec_l7Plain.j1 k s (i:Int) b) (fun b => b = true ↔ AllOk s ∧ (s.size = 0 ∨ (bt s 0 ≠ 32 ∧ bt s ((s.size - 1:Nat):Int) ≠ 32))):=by
    intro b hb
    refine Tot.step (fun k => spec_l7Plain.j1.eq_2 _ _ _ k) (Tot.ite (fun e => Tot.ret ?_) (fun e => ?_))
    ·exact ⟨fun x => absurd x (by decide),fun x => absurd (x.1 i (by omega)) (hb.1 e)⟩
    ·rw [w64_in (by omega) (by omega)]
     have ok:okc (bt s (i:Int)):=Classical.byContradiction fun x => e (hb.2 x)
     exact ih (i + 1) (by omega) (by omega) (fun j hj => by
      by_cases c:j < i
      ·exact hi j c
      ·rw [show j = i by omega];exact ok)
   unfold okc at j1
   refine Tot.ite (fun c => j1 _ ?_) (fun c => Tot.ite (fun c2 => j1 _ ?_) (fun c2 => j1 _ ?_))
   ·exact ⟨fun _ e => e.1 c,fun _ => rfl⟩
   ·exact ⟨fun _ e => e.2.1 c2,fun _ => rfl⟩
   ·rw [beq_iff_eq]
    exact ⟨fun e x => x.2.2 e,fun x => Classical.byContradiction fun y => x ⟨c,c2,y⟩⟩
 unfold spec_l7Plain.f
 exact go _ 0 rfl (Nat.zero_le _) (fun j hj => absurd hj (Nat.not_lt_zero _))
theorem argsS_T {s:ByteArray} (h:s.size ≤ 1000000):Tot (fun k => spec_l7Args.f k s) (fun b => b = true ↔ Fine s):=by
 let Bad:Nat → Prop:=fun i => (bt s (i:Int) = 32 ∧ (bt s ((i + 1:Nat):Int) = 32 ∨ bt s ((i + 1:Nat):Int) = 44)) ∨ (bt s (i:Int) = 44 ∧ bt s ((i + 1:Nat):Int) = 32)
 have go:∀ (d i:Nat),s.size - i = d → i ≤ s.size → (∀ j:Nat,j < i → j + 1 < s.size → ¬ Bad j) → Tot (fun k => spec_l7Args.l0 k s (i:Int)) (fun b => b = true ↔ Fine s):=by
  have fin:∀ i:Nat,i ≤ s.size → s.size ≤ i + 1 → (∀ j:Nat,j < i → j + 1 < s.size → ¬ Bad j) → Tot (fun k => spec_l7Args.l0 k s (i:Int)) (fun b => b = true ↔ Fine s):=by
   intro i h1 h2 hi
   refine Tot.step (fun k => spec_l7Args.l0.eq_2 _ _ k) (Tot.no (by rw [w64_in (by omega) (by omega)];omega) (Tot.bind (plainS_T h) fun b hb => Tot.ret ?_))
   rw [hb,fine_S]
   refine ⟨fun x => ⟨fun j hj => ?_,x⟩,fun x => x.2⟩
   have:=hi j (by omega) hj
   exact ⟨fun y => this (.inl y),fun y => this (.inr y)⟩
  intro d
  induction d with
  | zero => intro i h1 h2 hi;exact fin i h2 (by omega) hi
  | succ d ih =>
   intro i h1 h2 hi
   by_cases hlt:i + 1 < s.size
   rotate_left
   ·exact fin i h2 (by omega) hi
   have e1:Unit → wrap64 ((i:Int) + 1) = ((i + 1:Nat):Int):=fun _ => by rw [w64_in (by omega) (by omega)];omega
   refine Tot.step (fun k => spec_l7Args.l0.eq_2 _ _ k) ?_
   rw [e1 ()]
   refine Tot.yes (by omega) (Tot.yes (by omega) (Tot.yes (by omega) ?_))
   have j1:∀ b:Bool,(b = true ↔ Bad i) → Tot (fun k => spec_l7Args.j1 k s (i:Int) b) (fun b => b = true ↔ Fine s):=by
    intro b hb
    refine Tot.step (fun k => spec_l7Args.j1.eq_2 _ _ _ k) ?_
    rw [e1 ()]
    refine Tot.ite (fun e => Tot.ret ?_) (fun e => ?_)
    ·refine ⟨fun x => absurd x (by decide),fun x => ?_⟩
     have:=((fine_S s).1 x).1 i hlt
     rcases hb.1 e with y | y
     ·exact absurd y this.1
     ·exact absurd y this.2
    ·exact ih (i + 1) (by omega) (by omega) (fun j hj hj1 => by
      by_cases c:j < i
      ·exact hi j c hj1
      ·rw [show j = i by omega];exact fun y => e (hb.2 y))
   show Tot _ _
   refine Tot.ite (fun c => Tot.yes (by omega) (Tot.ite (fun c2 => j1 _ ?_) (fun c2 => Tot.ite (fun c3 => j1 _ ?_) (fun c3 => Tot.ite (fun c4 => j1 _ ?_) (fun c4 => j1 _ ?_))))) (fun c => Tot.ite (fun c4 => Tot.yes (by omega) (j1 _ ?_)) (fun c4 => j1 _ ?_))
   ·exact ⟨fun _ => .inl ⟨c,.inl c2⟩,fun _ => rfl⟩
   ·exact ⟨fun _ => .inl ⟨c,.inr c3⟩,fun _ => rfl⟩
   ·exact absurd (c.symm.trans c4) (by decide)
   ·refine ⟨fun x => absurd x (by decide),fun x => ?_⟩
    rcases x with ⟨_,x | x⟩ | ⟨x,_⟩
    ·exact absurd x c2
    ·exact absurd x c3
    ·exact absurd x c4
   ·rw [beq_iff_eq]
    exact ⟨fun x => .inr ⟨c4,x⟩,fun x => x.elim (fun y => absurd y.1 c) (fun y => y.2)⟩
   ·exact ⟨fun x => absurd x (by decide),fun x => x.elim (fun y => absurd y.1 c) (fun y => absurd y.1 c4)⟩
 unfold spec_l7Args.f
 exact go _ 0 rfl (Nat.zero_le _) (fun j hj => absurd hj (Nat.not_lt_zero _))
def argsL (l:List UInt8):List ByteArray:=((wsp 44 l).1 :: (wsp 44 l).2).map mkB
theorem splitI_V {s:ByteArray} (h:s.size ≤ 1000000):strings_Split.f s (⟨#[44]⟩:ByteArray) = some (argsL s.data.toList):=by
 unfold strings_Split.f
 rw [if_pos (by omega),if_pos (by decide)]
 congr 1
 have hk:=splitK1 44 s.data.toList.length s.data.toList (Nat.le_refl _)
 have e:=Lib.splitB_data (⟨#[44]⟩:ByteArray) 0 (Lib.countB s ⟨#[44]⟩) s
 rw [show (⟨#[44]⟩:ByteArray).data.toList = [44] from rfl,show Lib.countB s ⟨#[44]⟩ = Lib.count s.data.toList [44] from rfl,hk] at e
 unfold argsL
 rw [← e,List.map_map]
 conv => lhs;rw [← List.map_id (Lib.splitB (⟨#[44]⟩:ByteArray) 0 (Lib.countB s ⟨#[44]⟩) s)]
 rfl
theorem cut_T (c:Nat) (hc:c < 256) {s:ByteArray} (h:s.size ≤ 1000000):Tot (fun k => spec_l1Cut.f k s (c:Int)) (fun r => (r = (s,(⟨#[]⟩:ByteArray),false) ∧ wsp (UInt8.ofNat c) s.data.toList = (s.data.toList,[])) ∨
  ∃ i:Nat,i < s.size ∧ r = (s.extract 0 i,s.extract (i + 1) s.size,true) ∧ wsp (UInt8.ofNat c) s.data.toList = (s.data.toList.take i,(wsp (UInt8.ofNat c) (s.data.toList.drop (i + 1))).1 :: (wsp (UInt8.ofNat c) (s.data.toList.drop (i + 1))).2)):=by
 have go:∀ (d i:Nat),s.size - i = d → i ≤ s.size → wsp (UInt8.ofNat c) s.data.toList = (s.data.toList.take i ++ (wsp (UInt8.ofNat c) (s.data.toList.drop i)).1,(wsp (UInt8.ofNat c) (s.data.toList.drop i)).2) →
   Tot (fun k => spec_l1Cut.l0 k s (c:Int) (i:Int)) (fun r => (r = (s,(⟨#[]⟩:ByteArray),false) ∧ wsp (UInt8.ofNat c) s.data.toList = (s.data.toList,[])) ∨
    ∃ i:Nat,i < s.size ∧ r = (s.extract 0 i,s.extract (i + 1) s.size,true) ∧ wsp (UInt8.ofNat c) s.data.toList = (s.data.toList.take i,(wsp (UInt8.ofNat c) (s.data.toList.drop (i + 1))).1 :: (wsp (UInt8.ofNat c) (s.data.toList.drop (i + 1))).2)):=by
  intro d
  induction d with
  | zero =>
   intro i h1 h2 hi
   refine Tot.step (fun k => spec_l1Cut.l0.eq_2 _ _ _ k) (Tot.no (by omega) (Tot.ret (.inl ⟨rfl,?_⟩)))
   rw [hi,List.drop_eq_nil_of_le (by rw [datL];omega),List.take_of_length_le (by rw [datL];omega)]
   simp [wsp]
  | succ d ih =>
   intro i h1 h2 hi
   obtain ⟨u,u1,u2⟩:=bt_data (s:=s) (i:=i) (by omega)
   have hl:i < s.data.toList.length:=by rw [datL];omega
   have ed:s.data.toList.drop i = u :: s.data.toList.drop (i + 1):=by
    rw [List.drop_eq_getElem_cons hl]
    congr 1
    rw [List.getElem?_eq_getElem hl] at u1
    exact Option.some.inj u1
   have et:s.data.toList.take (i + 1) = s.data.toList.take i ++ [u]:=by
    rw [List.take_add_one,u1];rfl
   refine Tot.step (fun k => spec_l1Cut.l0.eq_2 _ _ _ k) (Tot.yes (by omega) (Tot.yes (by omega) ?_))
   rw [u2,w64_in (n:=(i:Int) + 1) (by omega) (by omega)]
   refine Tot.ite (fun e => Tot.yes (by omega) (Tot.yes (by omega) (Tot.yes (by omega) (Tot.ret (.inr ⟨i,by omega,?_,?_⟩))))) (fun e => ?_)
   ·rw [Int.toNat_natCast,show ((i:Int) + 1).toNat = i + 1 by omega]
   ·rw [hi,ed,wsp,if_pos ((u8_lit u c hc).1 e),List.append_nil]
   ·refine ih (i + 1) (by omega) (by omega) ?_
    rw [hi,ed,wsp,if_neg (fun x => e ((u8_lit u c hc).2 x)),et]
    simp
 unfold spec_l1Cut.f
 exact go _ 0 rfl (Nat.zero_le _) (by simp)
theorem ext_data (s:ByteArray) (i j:Nat):(s.extract i j).data.toList = (s.data.toList.drop i).take (j - i):=by
 rw [ByteArray.data_extract,Array.toList_extract,List.extract_eq_take_drop]
theorem loopS_T:∀ (n:Nat) (s:ByteArray) (out:List ByteArray),s.size ≤ n → s.size ≤ 1000000 → out.length + s.size ≤ 2000000 → Tot (fun k => spec_ArgsOf.l0 k out s true) (· = out ++ argsL s.data.toList)
 | n,s,out,hn,h,ho => by
  refine Tot.step (fun k => spec_ArgsOf.l0.eq_2 _ _ _ k) (Tot.yes rfl (Tot.bind (cut_T 44 (by decide) h) ?_))
  rintro r (⟨rfl,e⟩ | ⟨i,hi,rfl,e⟩)
  ·refine Tot.yes (by omega) (Tot.step (fun k => spec_ArgsOf.l0.eq_2 _ _ _ k) (Tot.no (by simp) (Tot.ret ?_)))
   unfold argsL
   rw [show (44:UInt8) = UInt8.ofNat 44 from rfl,e]
   rfl
  ·have hz:(s.extract (i + 1) s.size).size = s.size - (i + 1):=by rw [ByteArray.size_extract];omega
   have e1:(s.extract 0 i).data.toList = s.data.toList.take i:=by rw [ext_data,List.drop_zero,Nat.sub_zero]
   have e2:(s.extract (i + 1) s.size).data.toList = s.data.toList.drop (i + 1):=by
    rw [ext_data,List.take_of_length_le]
    rw [List.length_drop,datL]
    exact Nat.le_refl _
   refine Tot.yes (by omega) ?_
   match n,hn with
   | 0,hn => omega
   | n + 1,hn =>
    refine (loopS_T n (s.extract (i + 1) s.size) (out ++ [s.extract 0 i]) (by omega) (by omega) (by rw [List.length_append,List.length_singleton];omega)).mono ?_
    rintro _ rfl
    rw [e2,List.append_assoc]
    congr 1
    unfold argsL
    rw [show (44:UInt8) = UInt8.ofNat 44 from rfl,e]
    show [s.extract 0 i] ++ _ = mkB (s.data.toList.take i) :: _
    rw [← e1,mkB_data]
    rfl
theorem both_Args {s:ByteArray} (h:s.size ≤ 1000000):∃ L:List ByteArray,(L = [] ∨ L = argsL s.data.toList) ∧ Tot (fun k => impl_ArgsOf.f k s) (· = L) ∧ Tot (fun k => spec_ArgsOf.f k s) (· = L):=by
 unfold impl_ArgsOf.f spec_ArgsOf.f
 by_cases h0:s.toList = ([]:List UInt8)
 ·refine ⟨[],.inl rfl,Tot.yes h0 (Tot.ret rfl),Tot.bind (Tot.of rfl rfl) ?_⟩
  rintro _ rfl
  exact Tot.yes h0 (Tot.step (fun k => spec_ArgsOf.j0.eq_2 _ _ _ k) (Tot.yes rfl (Tot.ret rfl)))
 by_cases hf:Fine s
 ·refine ⟨argsL s.data.toList,.inr rfl,Tot.no h0 (Tot.bind (areArgs_T h) fun b hb => Tot.yes (hb.2 hf) (Tot.bind (Tot.of (splitI_V h) rfl) ?_)),Tot.bind (Tot.of rfl rfl) ?_⟩
  ·rintro _ rfl
   exact Tot.ret rfl
  ·rintro _ rfl
   refine Tot.no h0 (Tot.bind (argsS_T h) fun b hb => Tot.step (fun k => spec_ArgsOf.j0.eq_2 _ _ _ k) (Tot.no (by rw [hb.2 hf];decide) ?_))
   refine (loopS_T s.size s [] (Nat.le_refl _) h (by rw [List.length_nil];omega)).mono ?_
   rintro _ rfl
   rfl
 ·refine ⟨[],.inl rfl,Tot.no h0 (Tot.bind (areArgs_T h) fun b hb => Tot.no (fun e => hf (hb.1 e)) (Tot.ret rfl)),Tot.bind (Tot.of rfl rfl) ?_⟩
  rintro _ rfl
  refine Tot.no h0 (Tot.bind (argsS_T h) fun b hb => Tot.step (fun k => spec_ArgsOf.j0.eq_2 _ _ _ k) (Tot.yes ?_ (Tot.ret rfl)))
  rw [Bool.not_eq_true',Bool.eq_false_iff]
  exact fun e => hf (hb.1 e)
theorem same_T (L:List ByteArray) (hL:L.length ≤ 2000000):Tot (fun k => laws_sameTexts.f k L L) (· = true):=by
 have go:∀ (d i:Nat),L.length - i = d → i ≤ L.length → Tot (fun k => laws_sameTexts.l0 k L L (i:Int)) (· = true):=by
  intro d
  induction d with
  | zero =>
   intro i h1 h2
   exact Tot.step (fun k => laws_sameTexts.l0.eq_2 _ _ _ k) (Tot.no (by omega) (Tot.ret rfl))
  | succ d ih =>
   intro i h1 h2
   refine Tot.step (fun k => laws_sameTexts.l0.eq_2 _ _ _ k) (Tot.yes (by omega) (Tot.yes (by omega) (Tot.yes (by omega) (Tot.yes rfl ?_))))
   rw [w64_in (by omega) (by omega)]
   exact ih (i + 1) (by omega) (by omega)
 unfold laws_sameTexts.f
 exact Tot.yes rfl (go _ 0 rfl (Nat.zero_le _))
theorem wsp_len (b:UInt8):∀ l:List UInt8,(wsp b l).2.length ≤ l.length
 | [] => Nat.le_refl _
 | c :: t => by
  have:=wsp_len b t
  rw [wsp]
  split
  ·simp only [List.length_cons];omega
  ·simp only [List.length_cons];omega
theorem drawA_l0 {s:List Int}:∀ (d:Nat) (x:ByteArray) (p:Int),d ≤ 3 → x.size + 10 * d ≤ 100 → RdOk s p → Tot (fun k => spec_l1Rd_args.l0 k x (d:Int) s p) (fun r => r.1.size ≤ 100 ∧ RdOk s r.2)
 | 0,x,p,_,hx,hp => Tot.step (fun k => spec_l1Rd_args.l0.eq_2 _ _ _ _ k) (Tot.no (by decide) (Tot.ret ⟨by show x.size ≤ 100;omega,hp⟩))
 | d + 1,x,p,hd,hx,hp => by
  have hz:∀ v:Int,0 ≤ v → v < 6 → (rdOf ByteArray.empty ([(⟨#[97]⟩:ByteArray),(⟨#[91,104,108,43,93]⟩:ByteArray),(⟨#[49,43,50]⟩:ByteArray),(⟨#[120,32,121]⟩:ByteArray),(⟨#[36,49,50]⟩:ByteArray),(⟨#[110,122]⟩:ByteArray)]:List ByteArray) v).size ≤ 5:=by
   intro v v0 v1
   rcases (show v = 0 ∨ v = 1 ∨ v = 2 ∨ v = 3 ∨ v = 4 ∨ v = 5 by omega) with rfl | rfl | rfl | rfl | rfl | rfl <;> decide
  have e1:Unit → wrap64 (((d + 1:Nat):Int) - 1) = (d:Int):=fun _ => by rw [w64_in (by omega) (by omega)];omega
  refine Tot.step (fun k => spec_l1Rd_args.l0.eq_2 _ _ _ _ k) (Tot.yes (by omega) ?_)
  rw [e1 ()]
  clear e1
  refine Tot.ite (fun _ => Tot.bind (Tot.of rfl rfl) ?_) (fun _ => Tot.yes (by omega) (Tot.bind (Tot.of rfl rfl) ?_))
  ·rintro _ rfl
   refine Tot.bind (below_T hp 6) fun v hv => ?_
   have v1:=hv.2.1 (by omega)
   have z:=hz v.1 hv.1 v1
   refine Tot.yes hv.1 (Tot.yes (by simpa using v1) (Tot.yes (by omega) ?_))
   exact drawA_l0 d _ _ (by omega) (by rw [ByteArray.size_append];omega) hv.2.2
  ·rintro _ rfl
   refine Tot.bind (below_T hp 6) fun v hv => ?_
   have v1:=hv.2.1 (by omega)
   have z:=hz v.1 hv.1 v1
   have c1:(⟨#[44]⟩:ByteArray).size = 1:=rfl
   refine Tot.yes hv.1 (Tot.yes (by simpa using v1) (Tot.yes (by rw [ByteArray.size_append];omega) ?_))
   exact drawA_l0 d _ _ (by omega) (by rw [ByteArray.size_append,ByteArray.size_append];omega) hv.2.2
theorem drawA_T {s:List Int} {p:Int} (h:RdOk s p):Tot (fun k => spec_l1Rd_args.f k s p) (fun r => r.1.size ≤ 100 ∧ RdOk s r.2):=by
 unfold spec_l1Rd_args.f
 refine Tot.bind (below_T h 3) fun v hv => ?_
 have v1:=hv.2.1 (by omega)
 have v0:=hv.1
 have:=drawA_l0 v.1.toNat (⟨#[]⟩:ByteArray) v.2 (by omega) (by show 0 + _ ≤ 100;omega) hv.2.2
 rw [Int.toNat_of_nonneg v0] at this
 exact this
theorem drawArgs_T {l:List Int} (hl:l.length ≤ 1048576) (hb:∀ x ∈ l,0 ≤ x ∧ x ≤ 255):Tot (fun k => spec_DrawArgsOf.f k l) (fun r => r.size ≤ 1000):=by
 obtain ⟨e0,h0⟩:=open_tot hl hb
 unfold spec_DrawArgsOf.f
 refine Tot.bind (Tot.of e0 rfl) ?_
 rintro _ rfl
 refine Tot.bind (once_T h0 6) fun q hq => Tot.ite (fun _ => Tot.bind (drawA_T hq) fun a ha => ?_) (fun _ => Tot.bind (drawA_T hq) fun a ha => Tot.bind (Tot.of rfl rfl) ?_)
 ·have ha1:=ha.1
  obtain ⟨r,p,e,e1,e2⟩:=hurt_tot ha.2 a.1 (by omega)
  refine Tot.bind (Tot.of e rfl) ?_
  rintro _ rfl
  exact Tot.ret (by show r.size ≤ 1000;omega)
 ·rintro _ rfl
  have ha1:=ha.1
  refine Tot.bind (below_T ha.2 3) fun v hv => ?_
  have v1:=hv.2.1 (by omega)
  have z:(rdOf ByteArray.empty ([(⟨#[]⟩:ByteArray),(⟨#[44]⟩:ByteArray),(⟨#[44,44]⟩:ByteArray)]:List ByteArray) v.1).size ≤ 2:=by
   have v0:=hv.1
   rcases (show v.1 = 0 ∨ v.1 = 1 ∨ v.1 = 2 by omega) with e | e | e <;> rw [e] <;> decide
  exact Tot.yes hv.1 (Tot.yes (by simpa using v1) (Tot.yes (by omega) (Tot.ret (by rw [ByteArray.size_append];omega))))
theorem FnArgs:laws_FnArgs.Pure:=by
 intro l hm hl hw
 refine Tot.done ?_
 unfold laws_FnArgs.f laws_big.f
 refine Tot.bind (Tot.of rfl rfl) ?_
 rintro _ rfl
 refine Tot.ite (fun _ => Tot.ret rfl) (fun hbig => ?_)
 refine Tot.bind (drawArgs_T (l:=l) (by simp at hbig;omega) (bytes_wf hw)) fun s hs => ?_
 obtain ⟨L,hL,e1,e2⟩:=both_Args (s:=s) (by omega)
 have hlen:L.length ≤ 2000000:=by
  rcases hL with rfl | rfl
  ·exact Nat.zero_le _
  ·have:=wsp_len 44 s.data.toList
   rw [datL] at this
   unfold argsL
   rw [List.length_map,List.length_cons]
   omega
 have hsame:=same_T L hlen
 refine Tot.bind e1 ?_
 rintro _ rfl
 refine Tot.bind e2 ?_
 rintro _ rfl
 refine Tot.bind hsame ?_
 rintro _ rfl
 refine Tot.yes rfl (Tot.step (fun k => laws_FnArgs.j0.eq_2 _ _ _ k) (Tot.ite (fun _ => ?_) (fun hne => ?_)))
 ·refine Tot.bind e2 ?_
  rintro _ rfl
  refine Tot.bind hsame ?_
  rintro _ rfl
  exact Tot.ret rfl
 rcases hL with rfl | rfl
 ·exact absurd rfl hne
 have hz:(argsL s.data.toList).length = (wsp 44 s.data.toList).2.length + 1:=by unfold argsL;rw [List.length_map,List.length_cons]
 have hwj:=wsp_join 44 s.data.toList
 have go:∀ (d i:Nat) (x:ByteArray),(wsp 44 s.data.toList).2.length - i = d → i ≤ (wsp 44 s.data.toList).2.length → x.data.toList ++ Lib.joinTail [44] ((wsp 44 s.data.toList).2.drop i) = s.data.toList →
   Tot (fun k => laws_FnArgs.l0 k s (argsL s.data.toList) x ((i:Int) + 1)) (· = true):=by
  intro d
  induction d with
  | zero =>
   intro i x h1 h2 hx
   refine Tot.step (fun k => laws_FnArgs.l0.eq_2 _ _ _ _ k) (Tot.no (by omega) (Tot.ret ?_))
   rw [List.drop_eq_nil_of_le (by omega)] at hx
   rw [beq_iff_eq,toL,toL,← hx]
   exact (List.append_nil _).symm
  | succ d ih =>
   intro i x h1 h2 hx
   have hi:i < (wsp 44 s.data.toList).2.length:=by omega
   obtain ⟨y,hy⟩:∃ y,y = (wsp 44 s.data.toList).2[i]:=⟨_,rfl⟩
   have ed:(wsp 44 s.data.toList).2.drop i = y :: (wsp 44 s.data.toList).2.drop (i + 1):=by rw [hy];exact List.drop_eq_getElem_cons hi
   rw [ed,show Lib.joinTail [44] (y :: (wsp 44 s.data.toList).2.drop (i + 1)) = 44 :: (y ++ Lib.joinTail [44] ((wsp 44 s.data.toList).2.drop (i + 1))) from rfl] at hx
   have hlen2:=congrArg List.length hx
   rw [List.length_append,List.length_cons,List.length_append,datL,datL] at hlen2
   have er:rdOf ByteArray.empty (argsL s.data.toList) ((i:Int) + 1) = mkB y:=by
    unfold rdOf argsL
    rw [List.getD_eq_getElem?_getD,show ((i:Int) + 1).toNat = i + 1 by omega,List.map_cons,List.getElem?_cons_succ,List.getElem?_map,List.getElem?_eq_getElem hi,← hy]
    rfl
   have ez:(mkB y).size = y.length:=by rw [← datL];rfl
   have c1:(⟨#[44]⟩:ByteArray).size = 1:=rfl
   refine Tot.step (fun k => laws_FnArgs.l0.eq_2 _ _ _ _ k) (Tot.yes (by omega) ?_)
   rw [er,w64_in (n:=(i:Int) + 1 + 1) (by omega) (by omega)]
   refine Tot.yes (by omega) (Tot.yes (by omega) (Tot.yes (by rw [ByteArray.size_append];omega) ?_))
   have:=ih (i + 1) ((x ++ (⟨#[44]⟩:ByteArray)) ++ mkB y) (by omega) (by omega) (by
    refine Eq.trans ?_ hx
    rw [ByteArray.data_append,ByteArray.data_append,Array.toList_append,Array.toList_append]
    show (x.data.toList ++ [44]) ++ y ++ _ = _
    simp)
   exact this
 refine Tot.yes (by omega) ?_
 exact go _ 0 (mkB (wsp 44 s.data.toList).1) rfl (Nat.zero_le _) hwj
end Go.Proofs.YtoiiaklmjpiejaaDoor.Pure
