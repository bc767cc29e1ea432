import Derived.Test.YtoiiaklmjpiejaaDoorBQFnLinesx
import Derived.Test.YtoiiaklmjpiejaaDoorBLib
namespace Go.Proofs.YtoiiaklmjpiejaaDoor.Pure
open Go.RowKit Go.Proofs.YtoiiaklmjpiejaaDoor.QFnLines Go.Proofs.YtoiiaklmjpiejaaDoorW.PrintWords Go.Proofs.YtoiiaklmjpiejaaDoorW.PrintLast Go.Proofs.YtoiiaklmjpiejaaDoorW.PrintMore Go.Proofs.YtoiiaklmjpiejaaDoor.Lib Go.Proofs.YtoiiaklmjpiejaaDoor.LibX Go.Proofs.YtoiiaklmjpiejaaDoor.LibE Go.Proofs.YtoiiaklmjpiejaaDoor.LibT
set_option linter.unusedSimpArgs false
set_option linter.unusedVariables false
set_option linter.unusedSectionVars false
def Tot {α:Type} (g:Nat → Option α) (P:α → Prop):Prop:=∃ K r,P r ∧ ∀ k,K ≤ k → g k = some r
theorem Tot.ret {α:Type} {r:α} {P:α → Prop} (h:P r):Tot (fun _ => some r) P:=⟨0,r,h,fun _ _ => rfl⟩
theorem Tot.of {α:Type} {g:Option α} {r:α} {P:α → Prop} (e:g = some r) (h:P r):Tot (fun _ => g) P:=⟨0,r,h,fun _ _ => e⟩
theorem Tot.bind {α β:Type} {g:Nat → Option α} {f:Nat → α → Option β} {P:α → Prop} {Q:β → Prop} (h:Tot g P) (hf:∀ a,P a → Tot (fun k => f k a) Q):Tot (fun k => (g k).bind (f k)) Q:=by
 obtain ⟨K,a,ha,hg⟩:=h
 obtain ⟨L,r,hr,hk⟩:=hf a ha
 exact ⟨max K L,r,hr,fun k hk' => by show (g k).bind (f k) = some r;rw [hg k (by omega)];exact hk k (by omega)⟩
theorem Tot.ite {α:Type} {c:Prop} [Decidable c] {g f:Nat → Option α} {P:α → Prop} (h1:c → Tot g P) (h2:¬ c → Tot f P):Tot (fun k => if c then g k else f k) P:=by
 by_cases h:c
 ·obtain ⟨K,r,hr,hk⟩:=h1 h
  exact ⟨K,r,hr,fun k hk' => by show (if c then g k else f k) = some r;rw [if_pos h];exact hk k hk'⟩
 ·obtain ⟨K,r,hr,hk⟩:=h2 h
  exact ⟨K,r,hr,fun k hk' => by show (if c then g k else f k) = some r;rw [if_neg h];exact hk k hk'⟩
theorem Tot.yes {α:Type} {c:Prop} [Decidable c] {g f:Nat → Option α} {P:α → Prop} (h:c) (h1:Tot g P):Tot (fun k => if c then g k else f k) P:=Tot.ite (fun _ => h1) (fun n => absurd h n)
theorem Tot.no {α:Type} {c:Prop} [Decidable c] {g f:Nat → Option α} {P:α → Prop} (h:¬ c) (h1:Tot f P):Tot (fun k => if c then g k else f k) P:=Tot.ite (fun n => absurd n h) (fun _ => h1)
theorem Tot.mono {α:Type} {g:Nat → Option α} {P Q:α → Prop} (h:Tot g P) (hi:∀ a,P a → Q a):Tot g Q:=by
 obtain ⟨K,r,hr,hk⟩:=h
 exact ⟨K,r,hi r hr,hk⟩
theorem Tot.step {α:Type} {g f:Nat → Option α} {P:α → Prop} (h:∀ k,g (k + 1) = f k) (hf:Tot f P):Tot g P:=by
 obtain ⟨K,r,hr,hk⟩:=hf
 exact ⟨K + 1,r,hr,fun k hk' => by obtain ⟨m,rfl⟩:∃ m,k = m + 1:=⟨k - 1,by omega⟩;rw [h];exact hk m (by omega)⟩
theorem Tot.eq {α:Type} {g:Nat → Option α} {r:α} (h:Tot g (fun x => x = r)):∃ K,∀ k,K ≤ k → g k = some r:=by
 obtain ⟨K,x,hx,hk⟩:=h
 subst hx
 exact ⟨K,hk⟩
theorem Tot.done {g:Nat → Option Bool} (h:Tot g (fun x => x = true)):∃ k,g k = some true:=by
 obtain ⟨K,hk⟩:=h.eq
 exact ⟨K,hk K (Nat.le_refl _)⟩
def RdOk (s:List Int) (p:Int):Prop:=0 ≤ p ∧ p ≤ s.length ∧ s.length ≤ 1048576 ∧ ∀ x ∈ s,0 ≤ x ∧ x ≤ 255
theorem rd_mem {s:List Int} {p:Int} (h0:0 ≤ p) (h1:p < (s.length:Int)):rd s p ∈ s:=by
 unfold rd
 rw [List.getD_eq_getElem?_getD,List.getElem?_eq_getElem (by omega)]
 exact List.getElem_mem _
theorem open_tot {l:List Int} (hl:l.length ≤ 1048576) (hb:∀ x ∈ l,0 ≤ x ∧ x ≤ 255):spec_l1Open.f l = some (l,0) ∧ RdOk l 0 :=
 ⟨rfl,by omega,by omega,hl,hb⟩
theorem next_tot {s:List Int} {p:Int} (h:RdOk s p):∃ v q,spec_l1Rd_next.f s p = some (v,q) ∧ 0 ≤ v ∧ v ≤ 255 ∧ RdOk s q:=by
 obtain ⟨h0,h1,h2,h3⟩:=h
 unfold spec_l1Rd_next.f
 by_cases c:p ≥ (s.length:Int)
 ·rw [if_pos c]
  exact ⟨0,p,rfl,by omega,by omega,h0,h1,h2,h3⟩
 ·have hm:=h3 _ (rd_mem h0 (show p < (s.length:Int) by omega))
  have e:p + 1 - 1 = p:=by omega
  rw [if_neg c,w64_in (n:=p + 1) (by omega) (by omega),w64_in (n:=p + 1 - 1) (by omega) (by omega),e,if_pos h0,if_pos (by omega),w64_in (n:=rd s p) (by omega) (by omega)]
  exact ⟨_,_,rfl,hm.1,hm.2,by omega,by omega,h2,h3⟩
theorem below_tot {s:List Int} {p:Int} (h:RdOk s p) (n:Int):∃ v q,spec_l1Rd_below.f s p n = some (v,q) ∧ 0 ≤ v ∧ (1 ≤ n → v < n) ∧ RdOk s q:=by
 unfold spec_l1Rd_below.f
 by_cases c:n ≤ 1
 ·rw [if_pos c]
  exact ⟨0,p,rfl,by omega,by omega,h⟩
 ·rw [if_neg c]
  obtain ⟨v,q,e1,v0,v1,h1⟩:=next_tot h
  by_cases c2:n ≤ 256
  ·rw [if_pos c2,e1]
   simp only [Option.bind_some]
   rw [if_neg (by omega),tmod_pos _ v0]
   exact ⟨_,_,rfl,Int.emod_nonneg _ (by omega),fun _ => Int.emod_lt_of_pos _ (by omega),h1⟩
  ·obtain ⟨u,r,e2,u0,u1,h2⟩:=next_tot h1
   rw [if_neg c2,e1]
   simp only [Option.bind_some]
   rw [e2]
   simp only [Option.bind_some]
   rw [if_neg (by omega),w64_in (n:=v * 256) (by omega) (by omega),w64_in (n:=v * 256 + u) (by omega) (by omega),tmod_pos _ (by omega)]
   exact ⟨_,_,rfl,Int.emod_nonneg _ (by omega),fun _ => Int.emod_lt_of_pos _ (by omega),h2⟩
theorem once_tot {s:List Int} {p:Int} (h:RdOk s p) (n:Int):∃ b q,spec_l1Rd_once.f s p n = some (b,q) ∧ RdOk s q:=by
 obtain ⟨v,q,e,_,_,hq⟩:=below_tot h n
 unfold spec_l1Rd_once.f
 rw [e]
 exact ⟨_,_,rfl,hq⟩
theorem bytes_wf {l:List Int} (h:∀ x ∈ l,(Lit.int .u8 x).wf = true):∀ x ∈ l,0 ≤ x ∧ x ≤ 255:=by
 intro x hx
 have h1:=h x hx
 have e0:IntKind.u8.min = 0:=rfl
 have e1:IntKind.u8.max = 255:=rfl
 simp only [Lit.wf,e0,e1,Bool.and_eq_true,decide_eq_true_eq] at h1
 exact h1
theorem below_T {s:List Int} {p:Int} (h:RdOk s p) (n:Int):Tot (fun _ => spec_l1Rd_below.f s p n) (fun r => 0 ≤ r.1 ∧ (1 ≤ n → r.1 < n) ∧ RdOk s r.2):=by
 obtain ⟨v,q,e,h0,h1,h2⟩:=below_tot h n
 exact Tot.of e ⟨h0,h1,h2⟩
theorem once_T {s:List Int} {p:Int} (h:RdOk s p) (n:Int):Tot (fun _ => spec_l1Rd_once.f s p n) (fun r => RdOk s r.2):=by
 obtain ⟨v,q,e,h0⟩:=once_tot h n
 exact Tot.of e h0
theorem hurt_tot {s:List Int} {p:Int} (h:RdOk s p) (a:ByteArray) (ha:a.size ≤ 4611686018427387904):∃ r q,spec_l1Rd_hurt.f s p a = some (r,q) ∧ r.size ≤ a.size + 1 ∧ RdOk s q:=by
 have one:∀ (ys:List ByteArray) (i:Int),(∀ y ∈ ys,y.size = 1) → (rdOf ByteArray.empty ys i).size ≤ 1:=by
  intro ys i hy
  unfold rdOf
  rw [List.getD_eq_getElem?_getD]
  by_cases c:i.toNat < ys.length
  ·rw [List.getElem?_eq_getElem c]
   exact Nat.le_of_eq (hy _ (List.getElem_mem _))
  ·rw [List.getElem?_eq_none (by omega)]
   exact Nat.zero_le _
 unfold spec_l1Rd_hurt.f
 obtain ⟨v,q,e,v0,v1,h1⟩:=below_tot h 6
 rw [e]
 simp only [Option.bind_some]
 by_cases c1:v = 1
 ·rw [if_pos c1,w64_in (n:=(a.size:Int) + 1) (by omega) (by omega)]
  obtain ⟨u,r,e2,u0,u1,h2⟩:=below_tot h1 ((a.size:Int) + 1)
  rw [e2]
  simp only [Option.bind_some]
  rw [if_pos u0,if_pos (by have:=u1 (by omega);omega)]
  exact ⟨_,_,rfl,by rw [ByteArray.size_extract];omega,h2⟩
 rw [if_neg c1]
 by_cases c2:v = 2
 ·rw [if_pos c2]
  by_cases c3:(a.size:Int) > 0
  ·rw [if_pos c3]
   obtain ⟨u,r,e2,u0,u1,h2⟩:=below_tot h1 (a.size:Int)
   have u2:=u1 (by omega)
   rw [e2]
   simp only [Option.bind_some]
   rw [if_pos u0,if_pos (by omega)]
   obtain ⟨x,t,e3,x0,x1,h3⟩:=below_tot h2 6
   rw [e3]
   simp only [Option.bind_some]
   have x2:=x1 (by omega)
   have o:=one ([(⟨#[48]⟩:ByteArray),(⟨#[97]⟩:ByteArray),(⟨#[32]⟩:ByteArray),(⟨#[44]⟩:ByteArray),(⟨#[36]⟩:ByteArray),(⟨#[43]⟩:ByteArray)]:List ByteArray) x (by intro y hy;simp only [List.mem_cons,List.not_mem_nil,or_false] at hy;rcases hy with rfl | rfl | rfl | rfl | rfl | rfl <;> rfl)
   generalize rdOf ByteArray.empty ([(⟨#[48]⟩:ByteArray),(⟨#[97]⟩:ByteArray),(⟨#[32]⟩:ByteArray),(⟨#[44]⟩:ByteArray),(⟨#[36]⟩:ByteArray),(⟨#[43]⟩:ByteArray)]:List ByteArray) x = z at o ⊢
   rw [if_pos x0,if_pos (by simpa using x2),if_pos (by rw [ByteArray.size_extract];omega),w64_in (n:=u + 1) (by omega) (by omega),if_pos (by omega),if_pos (by omega),if_pos (by rw [ByteArray.size_append,ByteArray.size_extract,ByteArray.size_extract];omega)]
   exact ⟨_,_,rfl,by rw [ByteArray.size_append,ByteArray.size_append,ByteArray.size_extract,ByteArray.size_extract];omega,h3⟩
  ·rw [if_neg c3]
   exact ⟨_,_,rfl,by omega,h1⟩
 rw [if_neg c2]
 by_cases c3:v = 3
 ·rw [if_pos c3]
  obtain ⟨x,t,e3,x0,x1,h3⟩:=below_tot h1 3
  have x2:=x1 (by omega)
  rw [e3]
  simp only [Option.bind_some]
  have o:=one ([(⟨#[32]⟩:ByteArray),(⟨#[48]⟩:ByteArray),(⟨#[120]⟩:ByteArray)]:List ByteArray) x (by intro y hy;simp only [List.mem_cons,List.not_mem_nil,or_false] at hy;rcases hy with rfl | rfl | rfl <;> rfl)
  generalize rdOf ByteArray.empty ([(⟨#[32]⟩:ByteArray),(⟨#[48]⟩:ByteArray),(⟨#[120]⟩:ByteArray)]:List ByteArray) x = z at o ⊢
  rw [if_pos x0,if_pos (by simpa using x2),if_pos (by omega)]
  exact ⟨_,_,rfl,by rw [ByteArray.size_append];omega,h3⟩
 ·rw [if_neg c3]
  exact ⟨_,_,rfl,by omega,h1⟩
def wsp (b:UInt8):List UInt8 → List UInt8 × List (List UInt8)
 | [] => ([],[])
 | c :: t => if c = b then ([],(wsp b t).1 :: (wsp b t).2) else (c :: (wsp b t).1,(wsp b t).2)
theorem index1 (b:UInt8):∀ (s:List UInt8),(Lib.index s [b] = -1 ∧ wsp b s = (s,[])) ∨ ∃ i:Nat,Lib.index s [b] = i ∧ wsp b s = (s.take i,(wsp b (s.drop (i + 1))).1 :: (wsp b (s.drop (i + 1))).2)
 | [] => .inl ⟨rfl,rfl⟩
 | c :: t => by
  by_cases h:c = b
  ·subst h
   right
   refine ⟨0,by simp [Lib.index],?_⟩
   simp [wsp]
  ·have hp:List.isPrefixOf [b] (c :: t) = false:=by simp [List.isPrefixOf];exact fun e => h e.symm
   rcases index1 b t with ⟨e1,e2⟩ | ⟨i,e1,e2⟩
   ·left
    constructor
    ·rw [Lib.index,hp,e1];rfl
    ·rw [wsp,if_neg h,e2]
   ·right
    refine ⟨i + 1,?_,?_⟩
    ·rw [Lib.index,hp,e1]
     have:((i:Int) == -1) = false:=by rw [beq_eq_false_iff_ne];omega
     simp [this]
    ·rw [wsp,if_neg h,e2]
     rfl
theorem splitK1 (b:UInt8):∀ (n:Nat) (s:List UInt8),s.length ≤ n → Lib.splitK [b] 0 (Lib.count s [b]) s = (wsp b s).1 :: (wsp b s).2
 | n,s,hn => by
  rcases index1 b s with ⟨e1,e2⟩ | ⟨i,e1,e2⟩
  ·rw [Lib.count_miss e1,e2];rfl
  ·have hc:=Lib.count_hit (s:=s) (sub:=[b]) (by simp) e1
   have hr:=Lib.index_room s [b] (by omega)
   rw [e1] at hr
   have hl:i + 1 ≤ s.length:=by simp at hr;omega
   rw [hc,Nat.add_comm 1,Lib.splitK,if_neg (by rw [e1];simp),e1,e2]
   match n,hn with
   | 0,hn => omega
   | n + 1,hn =>
    have:=splitK1 b n (s.drop (i + 1)) (by rw [List.length_drop];omega)
    simp only [List.length_singleton,Int.toNat_natCast,Nat.add_zero]
    rw [this]
def ne0 (w:List UInt8):Bool:=!w.isEmpty
def sqz:Nat → List UInt8 → List UInt8
 | _,[] => []
 | 0,c :: t => if c = 32 then sqz 0 t else c :: sqz 1 t
 | 1,c :: t => if c = 32 then sqz 2 t else c :: sqz 1 t
 | _ + 2,c :: t => if c = 32 then sqz 2 t else 32 :: c :: sqz 1 t
theorem joinTail_ne (w:List UInt8) (r:List (List UInt8)):Lib.joinTail [32] ((w :: r).filter ne0) = if w = [] then Lib.joinTail [32] (r.filter ne0) else 32 :: (w ++ Lib.joinTail [32] (r.filter ne0)):=by
 cases w with
 | nil => rfl
 | cons a t => rfl
theorem sqz_eq:∀ (s:List UInt8),sqz 0 s = Lib.join (((wsp 32 s).1 :: (wsp 32 s).2).filter ne0) [32] ∧ sqz 1 s = (wsp 32 s).1 ++ Lib.joinTail [32] ((wsp 32 s).2.filter ne0) ∧ sqz 2 s = Lib.joinTail [32] (((wsp 32 s).1 :: (wsp 32 s).2).filter ne0)
 | [] => ⟨rfl,rfl,rfl⟩
 | c :: t => by
  obtain ⟨h0,h1,h2⟩:=sqz_eq t
  by_cases h:c = 32
  ·subst h
   have e:wsp 32 (32 :: t) = ([],(wsp 32 t).1 :: (wsp 32 t).2):=by rw [wsp,if_pos rfl]
   rw [e]
   refine ⟨?_,?_,?_⟩
   ·rw [sqz,if_pos rfl,h0];rfl
   ·rw [sqz,if_pos rfl,h2];rfl
   ·rw [sqz,if_pos rfl,h2];rfl
  ·have e:wsp 32 (c :: t) = (c :: (wsp 32 t).1,(wsp 32 t).2):=by rw [wsp,if_neg h]
   rw [e]
   refine ⟨?_,?_,?_⟩
   ·rw [sqz,if_neg h,h1,List.filter_cons_of_pos rfl,Lib.join_cons];rfl
   ·rw [sqz,if_neg h,h1];rfl
   ·rw [sqz,if_neg h,h1,joinTail_ne,if_neg (by simp)];rfl
def rep2 (a b c:UInt8):List UInt8 → List UInt8
 | [] => []
 | [x] => [x]
 | x :: y :: t => if x = a ∧ y = b then c :: rep2 a b c t else x :: rep2 a b c (y :: t)
theorem index2 (a b:UInt8):∀ (s:List UInt8),(Lib.index s [a,b] = -1 ∧ ∀ c,rep2 a b c s = s) ∨ ∃ i:Nat,Lib.index s [a,b] = i ∧ i + 2 ≤ s.length ∧ ∀ c,rep2 a b c s = s.take i ++ [c] ++ rep2 a b c (s.drop (i + 2))
 | [] => .inl ⟨rfl,fun _ => rfl⟩
 | [x] => .inl ⟨by simp [Lib.index,List.isPrefixOf],fun _ => rfl⟩
 | x :: y :: t => by
  by_cases h:x = a ∧ y = b
  ·obtain ⟨rfl,rfl⟩:=h
   right
   refine ⟨0,by simp [Lib.index],by simp,fun c => ?_⟩
   rw [rep2,if_pos ⟨rfl,rfl⟩];rfl
  ·have hp:List.isPrefixOf [a,b] (x :: y :: t) = false:=by
    simp [List.isPrefixOf]
    intro e1 e2
    exact h ⟨e1.symm,e2.symm⟩
   rcases index2 a b (y :: t) with ⟨e1,e2⟩ | ⟨i,e1,e3,e2⟩
   ·left
    refine ⟨by rw [Lib.index,hp,e1];rfl,fun c => ?_⟩
    rw [rep2,if_neg h,e2]
   ·right
    refine ⟨i + 1,?_,by simp at e3 ⊢;omega,fun c => ?_⟩
    ·rw [Lib.index,hp,e1]
     have:((i:Int) == -1) = false:=by rw [beq_eq_false_iff_ne];omega
     simp [this]
    ·rw [rep2,if_neg h,e2]
     rfl
theorem replaceK2 (a b c:UInt8):∀ (n:Nat) (s:List UInt8),s.length ≤ n → Lib.replaceK [a,b] [c] (Lib.count s [a,b]) s = rep2 a b c s
 | n,s,hn => by
  rcases index2 a b s with ⟨e1,e2⟩ | ⟨i,e1,e3,e2⟩
  ·rw [Lib.count_miss e1,e2];rfl
  ·have hc:=Lib.count_hit (s:=s) (sub:=[a,b]) (by simp) e1
   rw [hc,Nat.add_comm 1,Lib.replaceK_hit _ _ _ _ _ e1,e2]
   match n,hn with
   | 0,hn => omega
   | n + 1,hn =>
    have:=replaceK2 a b c n (s.drop (i + 2)) (by rw [List.length_drop];omega)
    simp only [List.length_cons,List.length_nil]
    rw [this]
theorem replaceAll2 (a b c:UInt8) (s:List UInt8):Lib.replaceAll s [a,b] [c] = rep2 a b c s:=by
 unfold Lib.replaceAll Lib.replace Lib.replaceNum
 rw [if_neg (by simp),if_pos (.inl (by decide))]
 exact replaceK2 a b c s.length s (Nat.le_refl _)
def tdy:Nat → List UInt8 → List UInt8
 | _,[] => []
 | 0,c :: t => if c = 32 then tdy 0 t else c :: tdy (if c = 44 then 0 else 1) t
 | 1,c :: t => if c = 32 then tdy 2 t else c :: tdy (if c = 44 then 0 else 1) t
 | _ + 2,c :: t => if c = 32 then tdy 2 t else if c = 44 then 44 :: tdy 0 t else 32 :: c :: tdy 1 t
def rb (s:List UInt8):List UInt8:=rep2 32 44 44 s
def rc (s:List UInt8):List UInt8:=rep2 44 32 44 s
theorem rep2_skip (a b c x:UInt8) (t:List UInt8) (h:x ≠ a):rep2 a b c (x :: t) = x :: rep2 a b c t:=by
 cases t with
 | nil => rfl
 | cons y t => rw [rep2,if_neg (fun e => h e.1)]
theorem rep2_hit (a b c:UInt8) (t:List UInt8):rep2 a b c (a :: b :: t) = c :: rep2 a b c t:=by rw [rep2,if_pos ⟨rfl,rfl⟩]
theorem rep2_two (a b c y:UInt8) (t:List UInt8) (h:y ≠ b):rep2 a b c (a :: y :: t) = a :: rep2 a b c (y :: t):=by rw [rep2,if_neg (fun e => h e.2)]
theorem rc_word:∀ {c:UInt8} (t:List UInt8),c ≠ 32 → c ≠ 44 → rc (c :: t) = c :: rc t:=fun t _ h => rep2_skip _ _ _ _ t h
theorem tdy_eq:∀ (s:List UInt8),rc (rb (sqz 0 s)) = tdy 0 s ∧ rc (rb (sqz 1 s)) = tdy 1 s ∧ rc (rb (sqz 2 s)) = tdy 2 s ∧ rc (44 :: rb (sqz 1 s)) = 44 :: tdy 0 s ∧ rc (44 :: rb (sqz 2 s)) = 44 :: tdy 0 s
 | [] => ⟨rfl,rfl,rfl,rfl,rfl⟩
 | c :: t => by
  obtain ⟨p0,p1,p2,p3,p4⟩:=tdy_eq t
  by_cases h:c = 32
  ·subst h
   refine ⟨?_,?_,?_,?_,?_⟩
   ·rw [sqz,if_pos rfl,tdy,if_pos rfl];exact p0
   ·rw [sqz,if_pos rfl,tdy,if_pos rfl];exact p2
   ·rw [sqz,if_pos rfl,tdy,if_pos rfl];exact p2
   ·rw [sqz,if_pos rfl,tdy,if_pos rfl];exact p4
   ·rw [sqz,if_pos rfl,tdy,if_pos rfl];exact p4
  ·have e0:sqz 0 (c :: t) = c :: sqz 1 t:=by rw [sqz,if_neg h]
   have e1:sqz 1 (c :: t) = c :: sqz 1 t:=by rw [sqz,if_neg h]
   have e2:sqz 2 (c :: t) = 32 :: c :: sqz 1 t:=by rw [sqz,if_neg h]
   have b1:rb (c :: sqz 1 t) = c :: rb (sqz 1 t):=rep2_skip _ _ _ _ _ h
   by_cases g:c = 44
   ·subst g
    have b2:rb (32 :: 44 :: sqz 1 t) = 44 :: rb (sqz 1 t):=rep2_hit _ _ _ _
    have t0:tdy 0 (44 :: t) = 44 :: tdy 0 t:=by rw [tdy,if_neg h,if_pos rfl]
    have t1:tdy 1 (44 :: t) = 44 :: tdy 0 t:=by rw [tdy,if_neg h,if_pos rfl]
    have t2:tdy 2 (44 :: t) = 44 :: tdy 0 t:=by rw [tdy,if_neg h,if_pos rfl]
    have q:rc (44 :: 44 :: rb (sqz 1 t)) = 44 :: 44 :: tdy 0 t:=by
     show rep2 44 32 44 _ = _
     rw [rep2_two _ _ _ _ _ (by decide)]
     exact congrArg _ p3
    rw [e0,e1,e2,b1,b2,t0,t1,t2]
    exact ⟨p3,p3,p3,q,q⟩
   ·have b2:rb (32 :: c :: sqz 1 t) = 32 :: c :: rb (sqz 1 t):=by
     show rep2 32 44 44 _ = _
     rw [rep2_two _ _ _ _ _ g]
     exact congrArg _ b1
    have t0:tdy 0 (c :: t) = c :: tdy 1 t:=by rw [tdy,if_neg h,if_neg g]
    have t1:tdy 1 (c :: t) = c :: tdy 1 t:=by rw [tdy,if_neg h,if_neg g]
    have t2:tdy 2 (c :: t) = 32 :: c :: tdy 1 t:=by rw [tdy,if_neg h,if_neg g]
    have q1:rc (c :: rb (sqz 1 t)) = c :: tdy 1 t:=by rw [rc_word _ h g,p1]
    have q2:rc (32 :: c :: rb (sqz 1 t)) = 32 :: c :: tdy 1 t:=by
     show rep2 44 32 44 _ = _
     rw [rep2_skip _ _ _ _ _ (by decide)]
     exact congrArg _ q1
    have q3:rc (44 :: c :: rb (sqz 1 t)) = 44 :: c :: tdy 1 t:=by
     show rep2 44 32 44 _ = _
     rw [rep2_two _ _ _ _ _ h]
     exact congrArg _ q1
    have q4:rc (44 :: 32 :: c :: rb (sqz 1 t)) = 44 :: c :: tdy 1 t:=by
     show rep2 44 32 44 _ = _
     rw [rep2_hit]
     exact congrArg _ q1
    rw [e0,e1,e2,b1,b2,t0,t1,t2]
    exact ⟨q1,q1,q2,q3,q4⟩
theorem tdy_len:∀ (s:List UInt8),(tdy 0 s).length ≤ s.length ∧ (tdy 1 s).length ≤ s.length ∧ (tdy 2 s).length ≤ s.length + 1
 | [] => ⟨Nat.le_refl _,Nat.le_refl _,Nat.le_succ _⟩
 | c :: t => by
  obtain ⟨h0,h1,h2⟩:=tdy_len t
  by_cases h:c = 32
  ·simp only [tdy,if_pos h,List.length_cons];omega
  ·by_cases g:c = 44
   ·simp only [tdy,if_neg h,if_pos g,List.length_cons];omega
   ·simp only [tdy,if_neg h,if_neg g,List.length_cons];omega
def fineL:Nat → List UInt8 → Prop
 | k,[] => k ≠ 2
 | 0,c :: t => c ≠ 32 ∧ fineL (if c = 44 then 0 else 1) t
 | 1,c :: t => fineL (if c = 32 then 2 else if c = 44 then 0 else 1) t
 | _ + 2,c :: t => c ≠ 32 ∧ c ≠ 44 ∧ fineL 1 t
theorem tdy_fine:∀ (s:List UInt8),(tdy 0 s = s ↔ fineL 0 s) ∧ (tdy 1 s = s ↔ fineL 1 s) ∧ (tdy 2 s = 32 :: s ↔ fineL 2 s)
 | [] => by simp [tdy,fineL]
 | c :: t => by
  obtain ⟨h0,h1,h2⟩:=tdy_fine t
  have l:=tdy_len t
  by_cases h:c = 32
  ·subst h
   refine ⟨?_,?_,?_⟩
   ·simp only [tdy,fineL,if_pos]
    constructor
    ·intro e
     have:=congrArg List.length e
     rw [List.length_cons] at this
     omega
    ·intro e;exact absurd rfl e.1
   ·simp only [tdy,fineL,if_pos];exact h2
   ·simp only [tdy,fineL,if_pos]
    constructor
    ·intro e
     have:=congrArg List.length e
     rw [List.length_cons,List.length_cons] at this
     omega
    ·intro e;exact absurd rfl e.1
  ·by_cases g:c = 44
   ·subst g
    simp only [tdy,fineL,if_neg h,if_pos]
    refine ⟨⟨fun e => ⟨h,h0.1 (List.cons.inj e).2⟩,fun e => congrArg _ (h0.2 e.2)⟩,⟨fun e => h0.1 (List.cons.inj e).2,fun e => congrArg _ (h0.2 e)⟩,⟨fun e => absurd (List.cons.inj e).1 (by decide),fun e => absurd rfl e.2.1⟩⟩
   ·simp only [tdy,fineL,if_neg h,if_neg g]
    refine ⟨⟨fun e => ⟨h,h1.1 (List.cons.inj e).2⟩,fun e => congrArg _ (h1.2 e.2)⟩,⟨fun e => h1.1 (List.cons.inj e).2,fun e => congrArg _ (h1.2 e)⟩,⟨fun e => ⟨h,g,h1.1 (List.cons.inj (List.cons.inj e).2).2⟩,fun e => by rw [h1.2 e.2.2]⟩⟩
def pairsOk:List UInt8 → Prop
 | [] => True
 | [_] => True
 | x :: y :: t => ¬ (x = 32 ∧ (y = 32 ∨ y = 44)) ∧ ¬ (x = 44 ∧ y = 32) ∧ pairsOk (y :: t)
theorem fine_iff:∀ (s:List UInt8),(fineL 0 s ↔ s.head? ≠ some 32 ∧ pairsOk s ∧ s.getLast? ≠ some 32) ∧ (fineL 1 s ↔ pairsOk s ∧ s.getLast? ≠ some 32) ∧ (fineL 2 s ↔ s ≠ [] ∧ s.head? ≠ some 32 ∧ s.head? ≠ some 44 ∧ pairsOk s ∧ s.getLast? ≠ some 32)
 | [] => by simp [fineL,pairsOk]
 | [c] => by
  by_cases h:c = 32
  ·subst h;simp [fineL,pairsOk]
  ·by_cases g:c = 44
   ·subst g;simp [fineL,pairsOk]
   ·simp [fineL,pairsOk,h,g]
 | c :: d :: t => by
  obtain ⟨h0,h1,h2⟩:=fine_iff (d :: t)
  have e:(c :: d :: t).getLast? = (d :: t).getLast?:=by simp [List.getLast?_cons_cons]
  rw [e]
  by_cases h:c = 32
  ·subst h
   have f1:fineL 1 (32 :: d :: t) ↔ fineL 2 (d :: t):=by simp [fineL]
   have f0:¬ fineL 0 (32 :: d :: t):=by simp [fineL]
   have f2:¬ fineL 2 (32 :: d :: t):=by simp [fineL]
   have p:pairsOk (32 :: d :: t) ↔ (d ≠ 32 ∧ d ≠ 44) ∧ pairsOk (d :: t):=by simp [pairsOk]
   refine ⟨⟨fun x => absurd x f0,fun x => absurd rfl x.1⟩,?_,⟨fun x => absurd x f2,fun x => absurd rfl x.2.1⟩⟩
   rw [f1,h2,p]
   simp
   constructor
   ·rintro ⟨a,b,c,d⟩;exact ⟨⟨⟨a,b⟩,c⟩,d⟩
   ·rintro ⟨⟨⟨a,b⟩,c⟩,d⟩;exact ⟨a,b,c,d⟩
  ·by_cases g:c = 44
   ·subst g
    have f0:fineL 0 (44 :: d :: t) ↔ fineL 0 (d :: t):=by simp [fineL]
    have f1:fineL 1 (44 :: d :: t) ↔ fineL 0 (d :: t):=by simp [fineL]
    have f2:¬ fineL 2 (44 :: d :: t):=by simp [fineL]
    have p:pairsOk (44 :: d :: t) ↔ d ≠ 32 ∧ pairsOk (d :: t):=by simp [pairsOk]
    rw [f0,f1,h0,p]
    simp [f2,and_assoc]
   ·have f0:fineL 0 (c :: d :: t) ↔ fineL 1 (d :: t):=by simp [fineL,h,g]
    have f1:fineL 1 (c :: d :: t) ↔ fineL 1 (d :: t):=by simp [fineL,h,g]
    have f2:fineL 2 (c :: d :: t) ↔ fineL 1 (d :: t):=by simp [fineL,h,g]
    have p:pairsOk (c :: d :: t) ↔ pairsOk (d :: t):=by simp [pairsOk,h,g]
    rw [f0,f1,f2,h1,p]
    simp [h,g]
def slimStep (o:List UInt8) (c:UInt8):List UInt8 :=
 if c = 32 ∧ (o.getLast? = some 32 ∨ o.getLast? = some 44) then o else (if c = 44 ∧ o.getLast? = some 32 then o.dropLast else o) ++ [c]
def trimL:List UInt8 → List UInt8
 | [] => []
 | c :: t => if c = 32 then trimL t else c :: t
def trimB (s:List UInt8):List UInt8:=(trimL (trimL s).reverse).reverse
theorem trimL_app (c:UInt8) (h:c ≠ 32) (r:List UInt8):∀ q:List UInt8,∃ u,trimL (q ++ [c]) = u ++ [c] ∧ trimL (q ++ c :: r) = u ++ c :: r
 | [] => ⟨[],by simp [trimL,h],by simp [trimL,h]⟩
 | d :: q => by
  obtain ⟨u,h1,h2⟩:=trimL_app c h r q
  by_cases e:d = 32
  ·exact ⟨u,by rw [List.cons_append,trimL,if_pos e,h1],by rw [List.cons_append,trimL,if_pos e,h2]⟩
  ·exact ⟨d :: q,by rw [List.cons_append,trimL,if_neg e];try rfl,by rw [List.cons_append,trimL,if_neg e];try rfl⟩
theorem trimL_word (q:List UInt8) (c:UInt8) (h:c ≠ 32) (r:List UInt8):trimL (q ++ c :: r) = trimL (q ++ [c]) ++ r:=by
 obtain ⟨u,h1,h2⟩:=trimL_app c h r q
 rw [h1,h2];simp
theorem trimB_word (q:List UInt8) (c:UInt8) (h:c ≠ 32):trimB (q ++ [c]) = trimL (q ++ [c]) ∧ trimB (q ++ [c,32]) = trimL (q ++ [c]):=by
 obtain ⟨u,h1,h2⟩:=trimL_app c h [32] q
 constructor
 ·unfold trimB
  rw [h1,List.reverse_append]
  simp [trimL,h]
 ·unfold trimB
  rw [h2,h1,List.reverse_append]
  simp [trimL,h]
theorem slim_eq:∀ (s:List UInt8),(trimB (s.foldl slimStep []) = tdy 0 s ∧ trimB (s.foldl slimStep [32]) = tdy 0 s) ∧ (∀ q,trimB (s.foldl slimStep (q ++ [44])) = trimL (q ++ [44]) ++ tdy 0 s) ∧
  (∀ q c,c ≠ 32 → c ≠ 44 → trimB (s.foldl slimStep (q ++ [c])) = trimL (q ++ [c]) ++ tdy 1 s) ∧ (∀ q c,c ≠ 32 → c ≠ 44 → trimB (s.foldl slimStep (q ++ [c,32])) = trimL (q ++ [c]) ++ tdy 2 s)
 | [] => ⟨⟨rfl,rfl⟩,fun q => by rw [List.foldl_nil,(trimB_word q 44 (by decide)).1];exact (List.append_nil _).symm,fun q c h _ => by rw [List.foldl_nil,(trimB_word q c h).1];exact (List.append_nil _).symm,fun q c h _ => by rw [List.foldl_nil,(trimB_word q c h).2];exact (List.append_nil _).symm⟩
 | c :: t => by
  obtain ⟨⟨a0,a1⟩,b,w,d⟩:=slim_eq t
  simp only [List.foldl_cons]
  by_cases h:c = 32
  ·subst h
   have e0:slimStep [] 32 = [32]:=by simp [slimStep]
   have e1:slimStep [32] 32 = [32]:=by simp [slimStep]
   have t0:tdy 0 (32 :: t) = tdy 0 t:=by rw [tdy,if_pos rfl]
   have t1:tdy 1 (32 :: t) = tdy 2 t:=by rw [tdy,if_pos rfl]
   have t2:tdy 2 (32 :: t) = tdy 2 t:=by rw [tdy,if_pos rfl]
   rw [e0,e1,t0,t1,t2]
   refine ⟨⟨a1,a1⟩,fun q => ?_,fun q c h g => ?_,fun q c h g => ?_⟩
   ·rw [show slimStep (q ++ [44]) 32 = q ++ [44] by simp [slimStep]];exact b q
   ·rw [show slimStep (q ++ [c]) 32 = q ++ [c,32] by simp [slimStep,h,g]];exact d q c h g
   ·rw [show slimStep (q ++ [c,32]) 32 = q ++ [c,32] by simp [slimStep]];exact d q c h g
  ·by_cases g:c = 44
   ·subst g
    have t0:tdy 0 (44 :: t) = 44 :: tdy 0 t:=by rw [tdy,if_neg h,if_pos rfl]
    have t1:tdy 1 (44 :: t) = 44 :: tdy 0 t:=by rw [tdy,if_neg h,if_pos rfl]
    have t2:tdy 2 (44 :: t) = 44 :: tdy 0 t:=by rw [tdy,if_neg h,if_pos rfl]
    have b0:=b []
    rw [show trimL ([] ++ [44]) = [44] from rfl] at b0
    rw [show slimStep [] 44 = [] ++ [44] from rfl,show slimStep [32] 44 = [] ++ [44] from rfl,t0,t1,t2]
    refine ⟨⟨b0,b0⟩,fun q => ?_,fun q c h g => ?_,fun q c h g => ?_⟩
    ·rw [show slimStep (q ++ [44]) 44 = (q ++ [44]) ++ [44] by simp [slimStep],b,List.append_assoc,List.singleton_append,trimL_word q 44 (by decide)];simp
    ·rw [show slimStep (q ++ [c]) 44 = (q ++ [c]) ++ [44] by simp [slimStep,h],b,List.append_assoc,List.singleton_append,trimL_word q c h];simp
    ·rw [show slimStep (q ++ [c,32]) 44 = (q ++ [c]) ++ [44] by simp [slimStep,List.dropLast_append_of_ne_nil],b,List.append_assoc,List.singleton_append,trimL_word q c h];simp
   ·have t0:tdy 0 (c :: t) = c :: tdy 1 t:=by rw [tdy,if_neg h,if_neg g]
    have t1:tdy 1 (c :: t) = c :: tdy 1 t:=by rw [tdy,if_neg h,if_neg g]
    have t2:tdy 2 (c :: t) = 32 :: c :: tdy 1 t:=by rw [tdy,if_neg h,if_neg g]
    have w0:=w [] c h g
    have w1:=w [32] c h g
    rw [show trimL ([] ++ [c]) = [c] by simp [trimL,h]] at w0
    rw [show trimL ([32] ++ [c]) = [c] by simp [trimL,h]] at w1
    rw [show slimStep [] c = [] ++ [c] by simp [slimStep,h,g],show slimStep [32] c = [32] ++ [c] by simp [slimStep,h,g],t0,t1,t2]
    refine ⟨⟨w0,w1⟩,fun q => ?_,fun q e he ge => ?_,fun q e he ge => ?_⟩
    ·rw [show slimStep (q ++ [44]) c = (q ++ [44]) ++ [c] by simp [slimStep,h,g],w _ c h g,List.append_assoc,List.singleton_append,trimL_word q 44 (by decide)];simp
    ·rw [show slimStep (q ++ [e]) c = (q ++ [e]) ++ [c] by simp [slimStep,h,g],w _ c h g,List.append_assoc,List.singleton_append,trimL_word q e he];simp
    ·rw [show slimStep (q ++ [e,32]) c = (q ++ [e,32]) ++ [c] by simp [slimStep,h,g],w _ c h g,show (q ++ [e,32]) ++ [c] = q ++ e :: [32,c] by simp,trimL_word q e he];simp
theorem toL (a:ByteArray):a.toList = a.data.toList:=ByteArray.toList_eq a
theorem datL (a:ByteArray):a.data.toList.length = a.size:=by rw [Array.length_toList];rfl
def mkB (l:List UInt8):ByteArray:=⟨l.toArray⟩
theorem mkB_data (a:ByteArray):mkB a.data.toList = a:=rfl
theorem ba_ext {a b:ByteArray} (h:a.data.toList = b.data.toList):a = b:=by
 have:=congrArg mkB h
 rwa [mkB_data,mkB_data] at this
theorem bt_data {s:ByteArray} {i:Nat} (h:i < s.size):∃ u:UInt8,s.data.toList[i]? = some u ∧ bt s (i:Int) = (u.toNat:Int):=by
 have hl:i < s.data.toList.length:=by rw [datL];exact h
 refine ⟨s.data.toList[i],List.getElem?_eq_getElem hl,?_⟩
 unfold bt
 rw [dif_pos (show ((i:Int)).toNat < s.size by omega)]
 congr 2
theorem u8_lit (u:UInt8) (n:Nat) (hn:n < 256):(u.toNat:Int) = (n:Int) ↔ u = UInt8.ofNat n:=by
 constructor
 ·intro h
  apply UInt8.toNat_inj.1
  rw [UInt8.toNat_ofNat']
  omega
 ·intro h
  rw [h,UInt8.toNat_ofNat']
  omega
theorem u32 (u:UInt8):(u.toNat:Int) = 32 ↔ u = 32:=u8_lit u 32 (by decide)
theorem u44 (u:UInt8):(u.toNat:Int) = 44 ↔ u = 44:=u8_lit u 44 (by decide)
theorem sqz_len:∀ (s:List UInt8),(sqz 0 s).length ≤ s.length ∧ (sqz 1 s).length ≤ s.length ∧ (sqz 2 s).length ≤ s.length + 1
 | [] => ⟨Nat.le_refl _,Nat.le_refl _,Nat.le_succ _⟩
 | c :: t => by
  obtain ⟨h0,h1,h2⟩:=sqz_len t
  by_cases h:c = 32
  ·simp only [sqz,if_pos h,List.length_cons];omega
  ·simp only [sqz,if_neg h,List.length_cons];omega
theorem rep2_len (a b c:UInt8):∀ s:List UInt8,(rep2 a b c s).length ≤ s.length
 | [] => Nat.le_refl _
 | [_] => Nat.le_refl _
 | x :: y :: t => by
  rw [rep2]
  split
  ·have:=rep2_len a b c t
   simp only [List.length_cons];omega
  ·have:=rep2_len a b c (y :: t)
   simp only [List.length_cons] at this ⊢;omega
theorem words_eq (s:ByteArray):(LibT.wordsOf s).map (·.data.toList) = ((wsp 32 s.data.toList).1 :: (wsp 32 s.data.toList).2).filter ne0:=by
 unfold LibT.wordsOf
 have h:=splitK1 32 s.data.toList.length s.data.toList (Nat.le_refl _)
 have e:=Lib.splitB_data (⟨#[32]⟩:ByteArray) 0 (Lib.countB s ⟨#[32]⟩) s
 rw [show (⟨#[32]⟩:ByteArray).data.toList = [32] from rfl] at e
 rw [← h,show Lib.count s.data.toList [32] = Lib.countB s ⟨#[32]⟩ from rfl,← e,List.filter_map]
 congr 1
 congr 1
 funext x
 simp only [Function.comp]
 unfold LibT.noWord ne0
 rw [toL]
 cases x.data.toList <;> rfl
theorem joined_eq (s:ByteArray):Lib.join ((LibT.wordsOf s).map (·.data.toList)) [32] = sqz 0 s.data.toList:=by
 rw [words_eq,← (sqz_eq s.data.toList).1]
theorem slim1_eq (s:ByteArray):(LibT.slim1 s).data.toList = rb (sqz 0 s.data.toList):=by
 show Lib.replaceAll (LibT.joined s).data.toList [32,44] [44] = _
 rw [replaceAll2]
 show rb (Lib.join ((LibT.wordsOf s).map (·.data.toList)) [32]) = _
 rw [joined_eq]
theorem slim2_eq (s:ByteArray):(LibT.slim2 s).data.toList = tdy 0 s.data.toList:=by
 show Lib.replaceAll (LibT.slim1 s).data.toList [44,32] [44] = _
 rw [replaceAll2,slim1_eq]
 exact (tdy_eq s.data.toList).1
theorem tidied_V {s:ByteArray} (h:s.size ≤ 1000000):impl_tidied.f s = some (LibT.slim2 s):=by
 have z:=sqz_len s.data.toList
 rw [datL] at z
 unfold impl_tidied.f
 rw [if_pos h,if_pos (by rw [joined_eq];omega),if_pos]
 rw [← datL,slim1_eq]
 have:=rep2_len 32 44 44 (sqz 0 s.data.toList)
 unfold rb
 omega
def okc (c:Int):Prop:=¬ c < 32 ∧ ¬ c > 126 ∧ c ≠ 59
def AllOk (s:ByteArray):Prop:=∀ i:Nat,i < s.size → okc (bt s (i:Int))
def Fine (s:ByteArray):Prop:=AllOk s ∧ tdy 0 s.data.toList = s.data.toList
theorem areArgs_T {s:ByteArray} (h:s.size ≤ 1000000):Tot (fun k => impl_areArgs.f k s) (fun b => b = true ↔ Fine s):=by
 have go:∀ (d i:Nat),s.size - i = d → i ≤ s.size → (∀ j:Nat,j < i → okc (bt s (j:Int))) → Tot (fun k => impl_areArgs.l0 k s (s.size:Int) (i:Int)) (fun b => b = true ↔ Fine s):=by
  intro d
  induction d with
  | zero =>
   intro i h1 h2 hi
   refine Tot.step (fun k => impl_areArgs.l0.eq_2 _ _ _ k) (Tot.no (by omega) (Tot.bind (Tot.of (tidied_V h) rfl) ?_))
   rintro _ rfl
   refine Tot.ret ?_
   rw [beq_iff_eq,toL,toL,slim2_eq]
   exact ⟨fun e => ⟨fun j hj => hi j (by omega),e⟩,fun e => e.2⟩
  | succ d ih =>
   intro i h1 h2 hi
   refine Tot.step (fun k => impl_areArgs.l0.eq_2 _ _ _ k) (Tot.yes (by omega) (Tot.yes (by omega) (Tot.yes (by omega) ?_)))
   have j1:∀ b:Bool,(b = true ↔ ¬ okc (bt s (i:Int))) → Tot (fun k => impl_areArgs.j1 k s (s.size:Int) (i:Int) b) (fun b => b = true ↔ Fine s):=by
    intro b hb
    refine Tot.step (fun k => impl_areArgs.j1.eq_2 _ _ _ _ k) (Tot.ite (fun e => Tot.ret ?_) (fun e => ?_))
    ·exact ⟨fun x => absurd x (by decide),fun x => absurd (x.1 i (by omega)) (hb.1 e)⟩
    ·rw [w64_in (by omega) (by omega)]
     have ok:okc (bt s (i:Int)):=Classical.byContradiction fun x => e (hb.2 x)
     exact ih (i + 1) (by omega) (by omega) (fun j hj => by
      by_cases c:j < i
      ·exact hi j c
      ·rw [show j = i by omega];exact ok)
   unfold okc at j1
   refine Tot.ite (fun c => j1 _ ?_) (fun c => Tot.ite (fun c2 => j1 _ ?_) (fun c2 => j1 _ ?_))
   ·exact ⟨fun _ e => e.1 c,fun _ => rfl⟩
   ·exact ⟨fun _ e => e.2.1 c2,fun _ => rfl⟩
   ·rw [beq_iff_eq]
    exact ⟨fun e x => x.2.2 e,fun x => Classical.byContradiction fun y => x ⟨c,c2,y⟩⟩
 unfold impl_areArgs.f
 exact go _ 0 rfl (Nat.zero_le _) (fun j hj => absurd hj (Nat.not_lt_zero _))
theorem pairs_iff:∀ (l:List UInt8),pairsOk l ↔ ∀ (i:Nat) (x y:UInt8),l[i]? = some x → l[i + 1]? = some y → ¬ (x = 32 ∧ (y = 32 ∨ y = 44)) ∧ ¬ (x = 44 ∧ y = 32)
 | [] => ⟨fun _ i x y h => by simp at h,fun _ => trivial⟩
 | [c] => ⟨fun _ i x y _ h => by simp at h,fun _ => trivial⟩
 | c :: d :: t => by
  have ih:=pairs_iff (d :: t)
  constructor
  ·rintro ⟨h1,h2,h3⟩ i x y hx hy
   cases i with
   | zero =>
    have e1:c = x:=by simpa using hx
    have e2:d = y:=by simpa using hy
    subst e1;subst e2
    exact ⟨h1,h2⟩
   | succ i => exact ih.1 h3 i x y (by simpa using hx) (by simpa using hy)
  ·intro h
   have h0:=h 0 c d rfl rfl
   exact ⟨h0.1,h0.2,ih.2 (fun i x y hx hy => h (i + 1) x y (by simpa using hx) (by simpa using hy))⟩
def PairsI (s:ByteArray):Prop:=∀ i:Nat,i + 1 < s.size → ¬ (bt s (i:Int) = 32 ∧ (bt s ((i + 1:Nat):Int) = 32 ∨ bt s ((i + 1:Nat):Int) = 44)) ∧ ¬ (bt s (i:Int) = 44 ∧ bt s ((i + 1:Nat):Int) = 32)
theorem fine_S (s:ByteArray):Fine s ↔ PairsI s ∧ AllOk s ∧ (s.size = 0 ∨ (bt s 0 ≠ 32 ∧ bt s ((s.size - 1:Nat):Int) ≠ 32)):=by
 have hp:pairsOk s.data.toList ↔ PairsI s:=by
  rw [pairs_iff]
  constructor
  ·intro h i hi
   obtain ⟨x,x1,x2⟩:=bt_data (s:=s) (i:=i) (by omega)
   obtain ⟨y,y1,y2⟩:=bt_data (s:=s) (i:=i + 1) hi
   rw [x2,y2,u32,u32,u44,u44]
   exact h i x y x1 y1
  ·intro h i x y hx hy
   have hi:i + 1 < s.size:=by rw [← datL];exact (List.getElem?_eq_some_iff.1 hy).1
   obtain ⟨x',x1,x2⟩:=bt_data (s:=s) (i:=i) (by omega)
   obtain ⟨y',y1,y2⟩:=bt_data (s:=s) (i:=i + 1) hi
   have e1:x' = x:=by rw [hx] at x1;exact (Option.some.inj x1).symm
   have e2:y' = y:=by rw [hy] at y1;exact (Option.some.inj y1).symm
   have:=h i hi
   rw [x2,y2,u32,u32,u44,u44,e1,e2] at this
   exact this
 have hh:(s.data.toList.head? ≠ some 32 ∧ s.data.toList.getLast? ≠ some 32) ↔ (s.size = 0 ∨ (bt s 0 ≠ 32 ∧ bt s ((s.size - 1:Nat):Int) ≠ 32)):=by
  by_cases h0:s.size = 0
  ·have:s.data.toList = []:=List.eq_nil_of_length_eq_zero (by rw [datL];exact h0)
   rw [this]
   simp [h0]
  ·obtain ⟨x,x1,x2⟩:=bt_data (s:=s) (i:=0) (by omega)
   obtain ⟨y,y1,y2⟩:=bt_data (s:=s) (i:=s.size - 1) (by omega)
   rw [List.head?_eq_getElem?,List.getLast?_eq_getElem?,datL,x1,y1,show (0:Int) = ((0:Nat):Int) from rfl,x2,y2]
   constructor
   ·rintro ⟨a,b⟩
    exact .inr ⟨fun e => a (by rw [(u32 x).1 e]),fun e => b (by rw [(u32 y).1 e])⟩
   ·rintro (a | ⟨a,b⟩)
    ·exact absurd a h0
    ·exact ⟨fun e => a ((u32 x).2 (Option.some.inj e)),fun e => b ((u32 y).2 (Option.some.inj e))⟩
 unfold Fine
 rw [(tdy_fine s.data.toList).1,(fine_iff s.data.toList).1,← hp,← hh]
 constructor
 ·rintro ⟨a,b,c,d⟩;exact ⟨c,a,b,d⟩
 ·rintro ⟨a,b,c,d⟩;exact ⟨b,c,a,d⟩
theorem plainS_T {s:ByteArray} (h:s.size ≤ 1000000):Tot (fun k => spec_l7Plain.f k s) (fun b => b = true ↔ AllOk s ∧ (s.size = 0 ∨ (bt s 0 ≠ 32 ∧ bt s ((s.size - 1:Nat):Int) ≠ 32))):=by
 have go:∀ (d i:Nat),s.size - i = d → i ≤ s.size → (∀ j:Nat,j < i → okc (bt s (j:Int))) → Tot (fun k => spec_l7Plain.l0 k s (i:Int)) (fun b => b = true ↔ AllOk s ∧ (s.size = 0 ∨ (bt s 0 ≠ 32 ∧ bt s ((s.size - 1:Nat):Int) ≠ 32))):=by
  intro d
  induction d with
  | zero =>
   intro i h1 h2 hi
   have hall:AllOk s:=fun j hj => hi j (by omega)
   refine Tot.step (fun k => spec_l7Plain.l0.eq_2 _ _ k) (Tot.no (by omega) (Tot.ite (fun e => Tot.ret ?_) (fun e => ?_)))
   ·have:s.size = 0:=by rw [← datL,← toL,e];rfl
    simp [this,hall]
   ·have h0:s.size ≠ 0:=fun x => e (by rw [toL];exact List.eq_nil_of_length_eq_zero (by rw [datL];exact x))
    refine Tot.yes (by omega) (Tot.ite (fun c => Tot.ret ?_) (fun c => ?_))
    ·exact ⟨fun x => absurd x (by decide),fun x => absurd c (x.2.resolve_left h0).1⟩
    ·rw [w64_in (n:=(s.size:Int) - 1) (by omega) (by omega)]
     refine Tot.yes (by omega) (Tot.yes (by omega) (Tot.ret ?_))
     rw [bne_iff_ne,show (s.size:Int) - 1 = ((s.size - 1:Nat):Int) by omega]
     exact ⟨fun x => ⟨hall,.inr ⟨c,x⟩⟩,fun x => (x.2.resolve_left h0).2⟩
  | succ d ih =>
   intro i h1 h2 hi
   refine Tot.step (fun k => spec_l7Plain.l0.eq_2 _ _ k) (Tot.yes (by omega) (Tot.yes (by omega) ?_))
   have j1:∀ b:Bool,(b = true ↔ ¬ okc (bt s (i:Int))) → Tot (fun k => spec_l7Plain.j1 k s (i:Int) b) (fun b => b = true ↔ AllOk s ∧ (s.size = 0 ∨ (bt s 0 ≠ 32 ∧ bt s ((s.size - 1:Nat):Int) ≠ 32))):=by
    intro b hb
    refine Tot.step (fun k => spec_l7Plain.j1.eq_2 _ _ _ k) (Tot.ite (fun e => Tot.ret ?_) (fun e => ?_))
    ·exact ⟨fun x => absurd x (by decide),fun x => absurd (x.1 i (by omega)) (hb.1 e)⟩
    ·rw [w64_in (by omega) (by omega)]
     have ok:okc (bt s (i:Int)):=Classical.byContradiction fun x => e (hb.2 x)
     exact ih (i + 1) (by omega) (by omega) (fun j hj => by
      by_cases c:j < i
      ·exact hi j c
      ·rw [show j = i by omega];exact ok)
   unfold okc at j1
   refine Tot.ite (fun c => j1 _ ?_) (fun c => Tot.ite (fun c2 => j1 _ ?_) (fun c2 => j1 _ ?_))
   ·exact ⟨fun _ e => e.1 c,fun _ => rfl⟩
   ·exact ⟨fun _ e => e.2.1 c2,fun _ => rfl⟩
   ·rw [beq_iff_eq]
    exact ⟨fun e x => x.2.2 e,fun x => Classical.byContradiction fun y => x ⟨c,c2,y⟩⟩
 unfold spec_l7Plain.f
 exact go _ 0 rfl (Nat.zero_le _) (fun j hj => absurd hj (Nat.not_lt_zero _))
theorem argsS_T {s:ByteArray} (h:s.size ≤ 1000000):Tot (fun k => spec_l7Args.f k s) (fun b => b = true ↔ Fine s):=by
 let Bad:Nat → Prop:=fun i => (bt s (i:Int) = 32 ∧ (bt s ((i + 1:Nat):Int) = 32 ∨ bt s ((i + 1:Nat):Int) = 44)) ∨ (bt s (i:Int) = 44 ∧ bt s ((i + 1:Nat):Int) = 32)
 have go:∀ (d i:Nat),s.size - i = d → i ≤ s.size → (∀ j:Nat,j < i → j + 1 < s.size → ¬ Bad j) → Tot (fun k => spec_l7Args.l0 k s (i:Int)) (fun b => b = true ↔ Fine s):=by
  have fin:∀ i:Nat,i ≤ s.size → s.size ≤ i + 1 → (∀ j:Nat,j < i → j + 1 < s.size → ¬ Bad j) → Tot (fun k => spec_l7Args.l0 k s (i:Int)) (fun b => b = true ↔ Fine s):=by
   intro i h1 h2 hi
   refine Tot.step (fun k => spec_l7Args.l0.eq_2 _ _ k) (Tot.no (by rw [w64_in (by omega) (by omega)];omega) (Tot.bind (plainS_T h) fun b hb => Tot.ret ?_))
   rw [hb,fine_S]
   refine ⟨fun x => ⟨fun j hj => ?_,x⟩,fun x => x.2⟩
   have:=hi j (by omega) hj
   exact ⟨fun y => this (.inl y),fun y => this (.inr y)⟩
  intro d
  induction d with
  | zero => intro i h1 h2 hi;exact fin i h2 (by omega) hi
  | succ d ih =>
   intro i h1 h2 hi
   by_cases hlt:i + 1 < s.size
   rotate_left
   ·exact fin i h2 (by omega) hi
   have e1:Unit → wrap64 ((i:Int) + 1) = ((i + 1:Nat):Int):=fun _ => by rw [w64_in (by omega) (by omega)];omega
   refine Tot.step (fun k => spec_l7Args.l0.eq_2 _ _ k) ?_
   rw [e1 ()]
   refine Tot.yes (by omega) (Tot.yes (by omega) (Tot.yes (by omega) ?_))
   have j1:∀ b:Bool,(b = true ↔ Bad i) → Tot (fun k => spec_l7Args.j1 k s (i:Int) b) (fun b => b = true ↔ Fine s):=by
    intro b hb
    refine Tot.step (fun k => spec_l7Args.j1.eq_2 _ _ _ k) ?_
    rw [e1 ()]
    refine Tot.ite (fun e => Tot.ret ?_) (fun e => ?_)
    ·refine ⟨fun x => absurd x (by decide),fun x => ?_⟩
     have:=((fine_S s).1 x).1 i hlt
     rcases hb.1 e with y | y
     ·exact absurd y this.1
     ·exact absurd y this.2
    ·exact ih (i + 1) (by omega) (by omega) (fun j hj hj1 => by
      by_cases c:j < i
      ·exact hi j c hj1
      ·rw [show j = i by omega];exact fun y => e (hb.2 y))
   show Tot _ _
   refine Tot.ite (fun c => Tot.yes (by omega) (Tot.ite (fun c2 => j1 _ ?_) (fun c2 => Tot.ite (fun c3 => j1 _ ?_) (fun c3 => Tot.ite (fun c4 => j1 _ ?_) (fun c4 => j1 _ ?_))))) (fun c => Tot.ite (fun c4 => Tot.yes (by omega) (j1 _ ?_)) (fun c4 => j1 _ ?_))
   ·exact ⟨fun _ => .inl ⟨c,.inl c2⟩,fun _ => rfl⟩
   ·exact ⟨fun _ => .inl ⟨c,.inr c3⟩,fun _ => rfl⟩
   ·exact absurd (c.symm.trans c4) (by decide)
   ·refine ⟨fun x => absurd x (by decide),fun x => ?_⟩
    rcases x with ⟨_,x | x⟩ | ⟨x,_⟩
    ·exact absurd x c2
    ·exact absurd x c3
    ·exact absurd x c4
   ·rw [beq_iff_eq]
    exact ⟨fun x => .inr ⟨c4,x⟩,fun x => x.elim (fun y => absurd y.1 c) (fun y => y.2)⟩
   ·exact ⟨fun x => absurd x (by decide),fun x => x.elim (fun y => absurd y.1 c) (fun y => absurd y.1 c4)⟩
 unfold spec_l7Args.f
 exact go _ 0 rfl (Nat.zero_le _) (fun j hj => absurd hj (Nat.not_lt_zero _))
theorem ext_data (s:ByteArray) (i j:Nat):(s.extract i j).data.toList = (s.data.toList.drop i).take (j - i):=by
 rw [ByteArray.data_extract,Array.toList_extract,List.extract_eq_take_drop]
theorem size0 (a:ByteArray):a.toList = ([]:List UInt8) ↔ a.size = 0:=by
 rw [toL]
 constructor
 ·intro h;rw [← datL,h];rfl
 ·intro h;exact List.eq_nil_of_length_eq_zero (by rw [datL];exact h)
theorem withinI (a lo hi:Int):impl_within.f a lo hi = some (decide (lo ≤ a ∧ a ≤ hi)):=by
 unfold impl_within.f
 by_cases h:a ≥ lo
 ·rw [if_pos h];simp [show lo ≤ a from h]
 ·rw [if_neg h];simp [show ¬ lo ≤ a from h]
theorem digI (c:Int):impl_isDigit.f c = some (decide (48 ≤ c ∧ c ≤ 57)):=by
 unfold impl_isDigit.f
 by_cases h:c ≥ 48
 ·rw [if_pos h];simp [show 48 ≤ c from h]
 ·rw [if_neg h];simp [show ¬ 48 ≤ c from h]
theorem smI (c:Int):impl_isSmall.f c = some (decide (97 ≤ c ∧ c ≤ 122)):=by
 unfold impl_isSmall.f
 by_cases h:c ≥ 97
 ·rw [if_pos h];simp [show 97 ≤ c from h]
 ·rw [if_neg h];simp [show ¬ 97 ≤ c from h]
def ltC (c:Int):Prop:=(97 ≤ c ∧ c ≤ 122) ∨ c = 95 ∨ c = 46
def nmC (c:Int):Prop:=ltC c ∨ (48 ≤ c ∧ c ≤ 57)
instance (c:Int):Decidable (ltC c):=by unfold ltC;infer_instance
instance (c:Int):Decidable (nmC c):=by unfold nmC;infer_instance
theorem ltS (c:Int):spec_l1Letter.f c = some (decide (ltC c)):=by
 unfold spec_l1Letter.f ltC
 by_cases h:c ≥ 97
 ·rw [if_pos h]
  by_cases g:c ≤ 122
  ·rw [if_pos g];simp [g,show 97 ≤ c from h]
  ·rw [if_neg g,if_neg (show ¬ c = 95 by omega)]
   simp [show ¬ c = 46 by omega,show ¬ c = 95 by omega,g]
 ·rw [if_neg h]
  by_cases g:c = 95
  ·rw [if_pos g];simp [g]
  ·rw [if_neg g]
   by_cases e:c = 46
   ·simp [e]
   ·simp [e,g,show ¬ 97 ≤ c from h]
def NameG (s:ByteArray):Prop:=1 ≤ s.size ∧ s.size ≤ 16 ∧ ltC (bt s 0) ∧ ∀ i:Nat,i < s.size → nmC (bt s (i:Int))
theorem nameI_T (s:ByteArray) (h:s.size ≤ 1000000):Tot (fun k => impl_NameOk.f k s) (fun b => b = true ↔ NameG s):=by
 have go:1 ≤ s.size → s.size ≤ 16 → ∀ (d i:Nat),s.size - i = d → i ≤ s.size → (∀ j:Nat,j < i → nmC (bt s (j:Int))) → Tot (fun k => impl_NameOk.l0 k s (s.size:Int) (i:Int)) (fun b => b = true ↔ ∀ i:Nat,i < s.size → nmC (bt s (i:Int))):=by
  intro z1 z2 d
  induction d with
  | zero =>
   intro i h1 h2 hi
   exact Tot.step (fun k => impl_NameOk.l0.eq_2 _ _ _ k) (Tot.no (by omega) (Tot.ret ⟨fun _ j hj => hi j (by omega),fun _ => rfl⟩))
  | succ d ih =>
   intro i h1 h2 hi
   refine Tot.step (fun k => impl_NameOk.l0.eq_2 _ _ _ k) (Tot.yes (by omega) (Tot.yes (by omega) (Tot.yes (by omega) ?_)))
   have j2:∀ b:Bool,(b = true ↔ ¬ nmC (bt s (i:Int))) → Tot (fun k => impl_NameOk.j2 k s (s.size:Int) (i:Int) b) (fun b => b = true ↔ ∀ i:Nat,i < s.size → nmC (bt s (i:Int))):=by
    intro b hb
    refine Tot.step (fun k => impl_NameOk.j2.eq_2 _ _ _ _ k) (Tot.ite (fun e => Tot.ret ?_) (fun e => ?_))
    ·exact ⟨fun x => absurd x (by decide),fun x => absurd (x i (by omega)) (hb.1 e)⟩
    ·rw [w64_in (by omega) (by omega)]
     have ok:nmC (bt s (i:Int)):=Classical.byContradiction fun x => e (hb.2 x)
     exact ih (i + 1) (by omega) (by omega) (fun j hj => by
      by_cases c:j < i
      ·exact hi j c
      ·rw [show j = i by omega];exact ok)
   unfold nmC ltC at j2
   generalize bt s (i:Int) = c at j2 ⊢
   refine Tot.bind (Tot.of (smI c) rfl) ?_
   rintro _ rfl
   refine Tot.ite (fun e => j2 _ ?_) (fun e => ?_)
   ·have:=of_decide_eq_true e
    exact ⟨fun x => absurd x (by decide),fun x => absurd (.inl (.inl this)) x⟩
   ·have n1:¬ (97 ≤ c ∧ c ≤ 122):=fun x => e (decide_eq_true x)
    refine Tot.bind (Tot.of (digI c) rfl) ?_
    rintro _ rfl
    refine Tot.ite (fun e => j2 _ ?_) (fun e => Tot.ite (fun g => j2 _ ?_) (fun g => j2 _ ?_))
    ·have:=of_decide_eq_true e
     exact ⟨fun x => absurd x (by decide),fun x => absurd (.inr this) x⟩
    ·exact ⟨fun x => absurd x (by decide),fun x => absurd (.inl (.inr (.inl g))) x⟩
    ·have n2:¬ (48 ≤ c ∧ c ≤ 57):=fun x => e (decide_eq_true x)
     rw [bne_iff_ne]
     constructor
     ·rintro x ((y | y | y) | y)
      ·exact n1 y
      ·exact g y
      ·exact x y
      ·exact n2 y
     ·intro x y
      exact x (.inl (.inr (.inr y)))
 unfold impl_NameOk.f
 refine Tot.bind (Tot.of (withinI _ _ _) rfl) ?_
 rintro _ rfl
 have j0:∀ (b:Bool),(b = false → 1 ≤ s.size ∧ s.size ≤ 16) → (b = true → ¬ NameG s) → (b = false → (∀ i:Nat,i < s.size → nmC (bt s (i:Int))) → ltC (bt s 0)) → Tot (fun k => impl_NameOk.j0 k s b) (fun b => b = true ↔ NameG s):=by
  intro b h1 h2 h3
  refine Tot.step (fun k => impl_NameOk.j0.eq_2 _ _ k) (Tot.ite (fun e => Tot.ret ⟨fun x => absurd x (by decide),fun x => absurd x (h2 e)⟩) (fun e => ?_))
  have e':b = false:=by simpa using e
  obtain ⟨z1,z2⟩:=h1 e'
  refine (go z1 z2 _ 0 rfl (Nat.zero_le _) (fun j hj => absurd hj (Nat.not_lt_zero _))).mono fun r hr => ?_
  rw [hr]
  exact ⟨fun x => ⟨z1,z2,h3 e' x,x⟩,fun x => x.2.2.2⟩
 refine Tot.ite (fun e => ?_) (fun e => j0 _ (fun x => absurd x (by decide)) (fun _ x => e (decide_eq_true (by have:=x.1;have:=x.2.1;omega))) (fun x => absurd x (by decide)))
 have z:=of_decide_eq_true e
 refine Tot.yes (by omega) ?_
 refine Tot.bind (Tot.of (digI _) rfl) ?_
 rintro _ rfl
 refine j0 _ (fun _ => by omega) (fun x y => ?_) (fun x y => ?_)
 ·have d:=of_decide_eq_true x
  have l:=y.2.2.1
  unfold ltC at l
  omega
 ·have d:=of_decide_eq_false x
  have:=y 0 (by omega)
  unfold nmC at this
  rcases this with q | q
  ·exact q
  ·exact absurd q d
theorem nameS_T (s:ByteArray) (h:s.size ≤ 1000000):Tot (fun k => spec_NameOk.f k s) (fun b => b = true ↔ NameG s):=by
 have go:1 ≤ s.size → s.size ≤ 16 → ∀ (d i:Nat),s.size - i = d → i ≤ s.size → (∀ j:Nat,j < i → nmC (bt s (j:Int))) → Tot (fun k => spec_NameOk.l0 k s (i:Int)) (fun b => b = true ↔ ∀ i:Nat,i < s.size → nmC (bt s (i:Int))):=by
  intro z1 z2 d
  induction d with
  | zero =>
   intro i h1 h2 hi
   exact Tot.step (fun k => spec_NameOk.l0.eq_2 _ _ k) (Tot.no (by omega) (Tot.ret ⟨fun _ j hj => hi j (by omega),fun _ => rfl⟩))
  | succ d ih =>
   intro i h1 h2 hi
   refine Tot.step (fun k => spec_NameOk.l0.eq_2 _ _ k) (Tot.yes (by omega) (Tot.yes (by omega) ?_))
   have j2:∀ b:Bool,(b = true ↔ ¬ nmC (bt s (i:Int))) → Tot (fun k => spec_NameOk.j2 k s (i:Int) b) (fun b => b = true ↔ ∀ i:Nat,i < s.size → nmC (bt s (i:Int))):=by
    intro b hb
    refine Tot.step (fun k => spec_NameOk.j2.eq_2 _ _ _ k) (Tot.ite (fun e => Tot.ret ?_) (fun e => ?_))
    ·exact ⟨fun x => absurd x (by decide),fun x => absurd (x i (by omega)) (hb.1 e)⟩
    ·rw [w64_in (by omega) (by omega)]
     have ok:nmC (bt s (i:Int)):=Classical.byContradiction fun x => e (hb.2 x)
     exact ih (i + 1) (by omega) (by omega) (fun j hj => by
      by_cases c:j < i
      ·exact hi j c
      ·rw [show j = i by omega];exact ok)
   unfold nmC at j2
   generalize bt s (i:Int) = c at j2 ⊢
   refine Tot.bind (Tot.of (ltS c) rfl) ?_
   rintro _ rfl
   refine Tot.ite (fun e => j2 _ ?_) (fun e => Tot.ite (fun g => j2 _ ?_) (fun g => j2 _ ?_))
   ·have:=of_decide_eq_true e
    exact ⟨fun x => absurd x (by decide),fun x => absurd (.inl this) x⟩
   ·have n1:¬ ltC c:=fun x => e (decide_eq_true x)
    have g':48 ≤ c:=g
    by_cases l:c ≤ 57
    ·simp [l,g']
    ·simp [l,n1]
   ·have n1:¬ ltC c:=fun x => e (decide_eq_true x)
    have g':¬ 48 ≤ c:=g
    simp [g',n1]
 unfold spec_NameOk.f
 have j0:∀ (b:Bool),(b = false → 1 ≤ s.size ∧ s.size ≤ 16 ∧ ltC (bt s 0)) → (b = true → ¬ NameG s) → Tot (fun k => spec_NameOk.j0 k s b) (fun b => b = true ↔ NameG s):=by
  intro b h1 h2
  refine Tot.step (fun k => spec_NameOk.j0.eq_2 _ _ k) (Tot.ite (fun e => Tot.ret ⟨fun x => absurd x (by decide),fun x => absurd x (h2 e)⟩) (fun e => ?_))
  obtain ⟨z1,z2,z3⟩:=h1 (by simpa using e)
  refine (go z1 z2 _ 0 rfl (Nat.zero_le _) (fun j hj => absurd hj (Nat.not_lt_zero _))).mono fun r hr => ?_
  rw [hr]
  exact ⟨fun x => ⟨z1,z2,z3,x⟩,fun x => x.2.2.2⟩
 refine Tot.ite (fun e => j0 _ (fun x => absurd x (by decide)) (fun _ x => by have:=x.1;omega)) (fun e => Tot.ite (fun g => j0 _ (fun x => absurd x (by decide)) (fun _ x => by have:=x.2.1;omega)) (fun g => Tot.yes (by omega) ?_))
 refine Tot.bind (Tot.of (ltS _) rfl) ?_
 rintro _ rfl
 refine j0 _ (fun x => ⟨by omega,by omega,?_⟩) (fun x y => ?_)
 ·simpa using x
 ·have:=y.2.2.1
  simp [this] at x
def OpG (s:ByteArray):Prop:=s.size ≤ 10 ∧ ∀ i:Nat,i < s.size → 97 ≤ bt s (i:Int) ∧ bt s (i:Int) ≤ 122
theorem opI_T (s:ByteArray) (h:s.size ≤ 1000000):Tot (fun k => impl_isOp.f k s 10) (fun b => b = true ↔ OpG s):=by
 have go:∀ (d i:Nat),s.size - i = d → i ≤ s.size → (∀ j:Nat,j < i → 97 ≤ bt s (j:Int) ∧ bt s (j:Int) ≤ 122) → Tot (fun k => impl_isOp.l0 k s 10 (s.size:Int) (i:Int)) (fun b => b = true ↔ OpG s):=by
  intro d
  induction d with
  | zero =>
   intro i h1 h2 hi
   refine Tot.step (fun k => impl_isOp.l0.eq_2 _ _ _ _ k) (Tot.no (by omega) (Tot.ret ?_))
   rw [decide_eq_true_iff]
   exact ⟨fun x => ⟨by omega,fun j hj => hi j (by omega)⟩,fun x => by have:=x.1;omega⟩
  | succ d ih =>
   intro i h1 h2 hi
   refine Tot.step (fun k => impl_isOp.l0.eq_2 _ _ _ _ k) (Tot.yes (by omega) (Tot.yes (by omega) (Tot.yes (by omega) ?_)))
   rw [w64_in (by omega) (by omega)]
   refine Tot.bind (Tot.of (smI _) rfl) ?_
   rintro _ rfl
   refine Tot.ite (fun e => ?_) (fun e => Tot.ret ⟨fun x => absurd x (by decide),fun x => absurd (decide_eq_true (x.2 i (by omega))) e⟩)
   have:=of_decide_eq_true e
   exact ih (i + 1) (by omega) (by omega) (fun j hj => by
    by_cases c:j < i
    ·exact hi j c
    ·rw [show j = i by omega];exact this)
 unfold impl_isOp.f
 exact go _ 0 rfl (Nat.zero_le _) (fun j hj => absurd hj (Nat.not_lt_zero _))
theorem opS_T (s:ByteArray) (h:s.size ≤ 1000000):Tot (fun k => spec_l7Op.f k s) (fun b => b = true ↔ OpG s):=by
 have go:∀ (d i:Nat),s.size - i = d → i ≤ s.size → (∀ j:Nat,j < i → 97 ≤ bt s (j:Int) ∧ bt s (j:Int) ≤ 122) → Tot (fun k => spec_l7Op.l0 k s (i:Int)) (fun b => b = true ↔ OpG s):=by
  intro d
  induction d with
  | zero =>
   intro i h1 h2 hi
   refine Tot.step (fun k => spec_l7Op.l0.eq_2 _ _ k) (Tot.no (by omega) (Tot.ret ?_))
   rw [decide_eq_true_iff]
   exact ⟨fun x => ⟨by omega,fun j hj => hi j (by omega)⟩,fun x => by have:=x.1;omega⟩
  | succ d ih =>
   intro i h1 h2 hi
   refine Tot.step (fun k => spec_l7Op.l0.eq_2 _ _ k) (Tot.yes (by omega) (Tot.yes (by omega) ?_))
   rw [w64_in (by omega) (by omega)]
   refine Tot.ite (fun e => Tot.ret ⟨fun x => absurd x (by decide),fun x => by have:=x.2 i (by omega);omega⟩) (fun e => Tot.ite (fun g => Tot.ret ⟨fun x => absurd x (by decide),fun x => by have:=x.2 i (by omega);omega⟩) (fun g => ?_))
   exact ih (i + 1) (by omega) (by omega) (fun j hj => by
    by_cases c:j < i
    ·exact hi j c
    ·rw [show j = i by omega];omega)
 unfold spec_l7Op.f
 exact go _ 0 rfl (Nat.zero_le _) (fun j hj => absurd hj (Nat.not_lt_zero _))
def cutL (c:UInt8):List UInt8 → List UInt8 × List UInt8 × Bool
 | [] => ([],[],false)
 | x :: t => if x = c then ([],t,true) else (x :: (cutL c t).1,(cutL c t).2.1,(cutL c t).2.2)
theorem cutL_index (c:UInt8):∀ s:List UInt8,(Lib.index s [c] = -1 ∧ cutL c s = (s,[],false)) ∨ ∃ i:Nat,Lib.index s [c] = i ∧ cutL c s = (s.take i,s.drop (i + 1),true)
 | [] => .inl ⟨rfl,rfl⟩
 | x :: t => by
  by_cases h:x = c
  ·subst h
   exact .inr ⟨0,by simp [Lib.index],by simp [cutL]⟩
  ·have hp:List.isPrefixOf [c] (x :: t) = false:=by simp [List.isPrefixOf];exact fun e => h e.symm
   rcases cutL_index c t with ⟨e1,e2⟩ | ⟨i,e1,e2⟩
   ·exact .inl ⟨by rw [Lib.index,hp,e1];rfl,by rw [cutL,if_neg h,e2]⟩
   ·refine .inr ⟨i + 1,?_,by rw [cutL,if_neg h,e2];rfl⟩
    rw [Lib.index,hp,e1]
    have:((i:Int) == -1) = false:=by rw [beq_eq_false_iff_ne];omega
    simp [this]
theorem cutI_V (c:UInt8) {s:ByteArray} (h:s.size ≤ 1000000):strings_Cut.f s (⟨#[c]⟩:ByteArray) = some (mkB (cutL c s.data.toList).1,mkB (cutL c s.data.toList).2.1,(cutL c s.data.toList).2.2):=by
 unfold strings_Cut.f
 rw [if_pos (by omega),show (⟨#[c]⟩:ByteArray).data.toList = [c] from rfl]
 unfold Lib.cut
 rcases cutL_index c s.data.toList with ⟨e1,e2⟩ | ⟨i,e1,e2⟩
 ·rw [e1,e2,if_neg (by decide)];rfl
 ·rw [e1,e2,if_pos (by omega)];rfl
theorem cutS_T (c:Nat) (hc:c < 256) {s:ByteArray} (h:s.size ≤ 1000000):Tot (fun k => spec_l1Cut.f k s (c:Int)) (· = (mkB (cutL (UInt8.ofNat c) s.data.toList).1,mkB (cutL (UInt8.ofNat c) s.data.toList).2.1,(cutL (UInt8.ofNat c) s.data.toList).2.2)):=by
 have go:∀ (d i:Nat),s.size - i = d → i ≤ s.size → cutL (UInt8.ofNat c) s.data.toList = (s.data.toList.take i ++ (cutL (UInt8.ofNat c) (s.data.toList.drop i)).1,(cutL (UInt8.ofNat c) (s.data.toList.drop i)).2) →
   Tot (fun k => spec_l1Cut.l0 k s (c:Int) (i:Int)) (· = (mkB (cutL (UInt8.ofNat c) s.data.toList).1,mkB (cutL (UInt8.ofNat c) s.data.toList).2.1,(cutL (UInt8.ofNat c) s.data.toList).2.2)):=by
  intro d
  induction d with
  | zero =>
   intro i h1 h2 hi
   refine Tot.step (fun k => spec_l1Cut.l0.eq_2 _ _ _ k) (Tot.no (by omega) (Tot.ret ?_))
   rw [hi,List.drop_eq_nil_of_le (by rw [datL];omega),List.take_of_length_le (by rw [datL];omega)]
   show _ = (mkB (s.data.toList ++ []),mkB [],false)
   rw [List.append_nil,mkB_data]
   rfl
  | succ d ih =>
   intro i h1 h2 hi
   obtain ⟨u,u1,u2⟩:=bt_data (s:=s) (i:=i) (by omega)
   have hl:i < s.data.toList.length:=by rw [datL];omega
   have ed:s.data.toList.drop i = u :: s.data.toList.drop (i + 1):=by
    rw [List.drop_eq_getElem_cons hl]
    congr 1
    rw [List.getElem?_eq_getElem hl] at u1
    exact Option.some.inj u1
   have et:s.data.toList.take (i + 1) = s.data.toList.take i ++ [u]:=by
    rw [List.take_add_one,u1];rfl
   refine Tot.step (fun k => spec_l1Cut.l0.eq_2 _ _ _ k) (Tot.yes (by omega) (Tot.yes (by omega) ?_))
   rw [u2,w64_in (n:=(i:Int) + 1) (by omega) (by omega)]
   refine Tot.ite (fun e => Tot.yes (by omega) (Tot.yes (by omega) (Tot.yes (by omega) (Tot.ret ?_)))) (fun e => ?_)
   ·rw [hi,ed,cutL,if_pos ((u8_lit u c hc).1 e)]
    show _ = (mkB (s.data.toList.take i ++ []),mkB (s.data.toList.drop (i + 1)),true)
    rw [List.append_nil,Int.toNat_natCast,show ((i:Int) + 1).toNat = i + 1 by omega]
    congr 1
    ·apply ba_ext;rw [ext_data,List.drop_zero,Nat.sub_zero];rfl
    congr 1
    apply ba_ext
    rw [ext_data,List.take_of_length_le (by rw [List.length_drop,datL];omega)]
    rfl
   ·refine ih (i + 1) (by omega) (by omega) ?_
    rw [hi,ed,cutL,if_neg (fun x => e ((u8_lit u c hc).2 x)),et]
    simp
 unfold spec_l1Cut.f
 exact go _ 0 rfl (Nat.zero_le _) (by simp)
theorem cutL_len (c:UInt8):∀ s:List UInt8,(cutL c s).1.length ≤ s.length ∧ (cutL c s).2.1.length ≤ s.length
 | [] => ⟨Nat.le_refl _,Nat.le_refl _⟩
 | x :: t => by
  have:=cutL_len c t
  rw [cutL]
  split
  ·simp only [List.length_cons,List.length_nil];omega
  ·simp only [List.length_cons];omega
theorem trimL_drop:∀ s:List UInt8,trimL s = s.dropWhile (· == 32)
 | [] => rfl
 | c :: t => by
  rw [trimL,List.dropWhile_cons]
  by_cases h:c = 32
  ·rw [if_pos h,h];exact trimL_drop t
  ·rw [if_neg h,beq_eq_false_iff_ne.2 h];rfl
theorem trimL_len:∀ s:List UInt8,(trimL s).length ≤ s.length
 | [] => Nat.le_refl _
 | c :: t => by
  have:=trimL_len t
  rw [trimL]
  split
  ·rw [List.length_cons];omega
  ·exact Nat.le_refl _
theorem trimB_len (s:List UInt8):(trimB s).length ≤ s.length:=by
 unfold trimB
 have h1:=trimL_len (trimL s).reverse
 have h2:=trimL_len s
 rw [List.length_reverse] at h1 ⊢
 omega
theorem headApp {q:List UInt8} (h:q ≠ []) (r:List UInt8):(q ++ r).head? = q.head?:=by
 cases q with
 | nil => exact absurd rfl h
 | cons a b => rfl
theorem lastApp (l:List UInt8) {r:List UInt8} (h:r ≠ []):(l ++ r).getLast? = r.getLast?:=by
 rw [List.getLast?_append]
 cases hr:r.getLast? with
 | none => exact absurd (List.getLast?_eq_none_iff.1 hr) h
 | some x => rfl
theorem blanks_or:∀ s:List UInt8,(∃ n,s = List.replicate n 32) ∨ ∃ n m q,s = List.replicate n 32 ++ q ++ List.replicate m 32 ∧ q.head? ≠ some 32 ∧ q.getLast? ≠ some 32 ∧ q ≠ []
 | [] => .inl ⟨0,rfl⟩
 | c :: t => by
  rcases blanks_or t with ⟨n,e⟩ | ⟨n,m,q,e,h1,h2,h3⟩
  ·by_cases h:c = 32
   ·exact .inl ⟨n + 1,by rw [e,h];rfl⟩
   ·exact .inr ⟨0,n,[c],by rw [e];rfl,by simpa using h,by simpa using h,by simp⟩
  ·by_cases h:c = 32
   ·exact .inr ⟨n + 1,m,q,by rw [e,h];rfl,h1,h2,h3⟩
   ·refine .inr ⟨0,m,c :: (List.replicate n 32 ++ q),by rw [e];simp,by simpa using h,?_,by simp⟩
    rw [List.getLast?_cons,lastApp _ h3]
    cases hq:q.getLast? with
    | none => exact absurd (List.getLast?_eq_none_iff.1 hq) h3
    | some x => rw [hq] at h2;simpa using h2
theorem trimL_rep (n:Nat) (q:List UInt8):trimL (List.replicate n 32 ++ q) = trimL q:=by
 induction n with
 | zero => rfl
 | succ n ih => rw [List.replicate_succ,List.cons_append,trimL,if_pos rfl];exact ih
theorem trimL_head {q:List UInt8} (h:q.head? ≠ some 32):trimL q = q:=by
 cases q with
 | nil => rfl
 | cons c t => rw [trimL,if_neg (by simpa using h)]
theorem trimB_mid {q:List UInt8} (n m:Nat) (h1:q.head? ≠ some 32) (h2:q.getLast? ≠ some 32) (h3:q ≠ []):trimB (List.replicate n 32 ++ q ++ List.replicate m 32) = q:=by
 unfold trimB
 have hh:(q ++ List.replicate m 32).head? ≠ some 32:=by rw [headApp h3];exact h1
 have hr:q.reverse.head? ≠ some 32:=by rw [List.head?_reverse];exact h2
 rw [List.append_assoc,trimL_rep,trimL_head hh,List.reverse_append,List.reverse_replicate,trimL_rep,trimL_head hr,List.reverse_reverse]
theorem trimB_rep (n:Nat):trimB (List.replicate n 32) = []:=by
 unfold trimB
 have:=trimL_rep n []
 rw [List.append_nil] at this
 rw [this]
 rfl
theorem trimB_ends (s:List UInt8):(trimB s).head? ≠ some 32 ∧ (trimB s).getLast? ≠ some 32:=by
 rcases blanks_or s with ⟨n,e⟩ | ⟨n,m,q,e,h1,h2,h3⟩
 ·rw [e,trimB_rep];simp
 ·rw [e,trimB_mid n m h1 h2 h3];exact ⟨h1,h2⟩
theorem trimB_id {s:List UInt8} (h1:s.head? ≠ some 32) (h2:s.getLast? ≠ some 32):trimB s = s:=by
 by_cases h3:s = []
 ·subst h3;rfl
 ·have:=trimB_mid 0 0 h1 h2 h3
  simpa using this
theorem trimV_eq (s:List UInt8):Lib.trimB s 32 = trimB s:=by
 unfold Lib.trimB Lib.trimLeftB Lib.trimRightB
 rw [← trimL_drop,← trimL_drop]
 rcases blanks_or s with ⟨n,e⟩ | ⟨n,m,q,e,h1,h2,h3⟩
 ·have:=trimL_rep n []
  rw [List.append_nil] at this
  rw [e,trimB_rep,List.reverse_replicate,this]
  rfl
 ·rw [e,trimB_mid n m h1 h2 h3,List.reverse_append,List.reverse_replicate,trimL_rep]
  have hr:(List.replicate n 32 ++ q).reverse.head? ≠ some 32:=by
   rw [List.head?_reverse,lastApp _ h3];exact h2
  rw [trimL_head hr,List.reverse_reverse,trimL_rep,trimL_head h1]
theorem trimI_V {s:ByteArray} (h:s.size ≤ 1000000):impl_trimmed.f s = some (mkB (trimB s.data.toList)):=by
 have e:strings_Trim.f s (⟨#[32]⟩:ByteArray) = some (mkB (Lib.trimB s.data.toList 32)):=by
  unfold strings_Trim.f
  rw [dif_pos (show (⟨#[32]⟩:ByteArray).size = 1 from rfl),if_pos (by decide),if_pos (by omega)]
  rfl
 unfold impl_trimmed.f
 rw [e,trimV_eq]
 rfl
theorem trimR_S:∀ (n:Nat) (s:ByteArray),s.size ≤ n → s.size ≤ 1000000 → Tot (fun k => spec_l7Trim.l1 k s) (· = mkB (trimL s.data.toList.reverse).reverse)
 | n,s,hn,h => by
  refine Tot.step (fun k => spec_l7Trim.l1.eq_2 _ k) (Tot.ite (fun e => Tot.ret ?_) (fun e => ?_))
  ·rw [toL] at e
   rw [e]
   apply ba_ext;rw [e];rfl
  ·have hz:s.size ≠ 0:=fun x => e ((size0 s).2 x)
   obtain ⟨u,u1,u2⟩:=bt_data (s:=s) (i:=s.size - 1) (by omega)
   have hD:s.data.toList = s.data.toList.take (s.size - 1) ++ [u]:=by
    have ht:s.data.toList.take (s.size - 1 + 1) = s.data.toList.take (s.size - 1) ++ [u]:=by rw [List.take_add_one,u1];rfl
    rw [← ht,List.take_of_length_le (by rw [datL];omega)]
   have er:s.data.toList.reverse = u :: (s.data.toList.take (s.size - 1)).reverse:=by
    conv => lhs;rw [hD]
    rw [List.reverse_append];rfl
   rw [w64_in (n:=(s.size:Int) - 1) (by omega) (by omega),show (s.size:Int) - 1 = ((s.size - 1:Nat):Int) by omega,u2]
   refine Tot.yes (by omega) (Tot.yes (by omega) (Tot.ite (fun c => Tot.yes (by omega) ?_) (fun c => Tot.ret ?_)))
   ·rw [er,trimL,if_pos ((u32 u).1 c),Int.toNat_natCast]
    match n,hn with
    | 0,hn => omega
    | n + 1,hn =>
     have:=trimR_S n (s.extract 0 (s.size - 1)) (by rw [ByteArray.size_extract];omega) (by rw [ByteArray.size_extract];omega)
     rw [ext_data,List.drop_zero,Nat.sub_zero] at this
     exact this
   ·rw [er,trimL,if_neg (fun x => c ((u32 u).2 x)),← er,List.reverse_reverse,mkB_data]
theorem trimS_T:∀ (n:Nat) (s:ByteArray),s.size ≤ n → s.size ≤ 1000000 → Tot (fun k => spec_l7Trim.l0 k s) (· = mkB (trimB s.data.toList))
 | n,s,hn,h => by
  refine Tot.step (fun k => spec_l7Trim.l0.eq_2 _ k) (Tot.ite (fun e => Tot.step (fun k => spec_l7Trim.j1.eq_2 _ k) ?_) (fun e => ?_))
  ·have:=trimR_S s.size s (Nat.le_refl _) h
   rw [toL] at e
   rw [e] at this ⊢
   exact this
  ·have hz:s.size ≠ 0:=fun x => e ((size0 s).2 x)
   obtain ⟨u,u1,u2⟩:=bt_data (s:=s) (i:=0) (by omega)
   have hl:0 < s.data.toList.length:=by rw [datL];omega
   have hD:s.data.toList = u :: s.data.toList.drop 1:=by
    have:=List.drop_eq_getElem_cons hl
    rw [List.drop_zero] at this
    rw [List.getElem?_eq_getElem hl] at u1
    rw [Option.some.inj u1] at this
    exact this
   rw [show (0:Int) = ((0:Nat):Int) from rfl,u2]
   refine Tot.yes (by omega) (Tot.ite (fun c => Tot.yes (by omega) ?_) (fun c => Tot.step (fun k => spec_l7Trim.j1.eq_2 _ k) ?_))
   ·match n,hn with
    | 0,hn => omega
    | n + 1,hn =>
     have:=trimS_T n (s.extract 1 s.size) (by rw [ByteArray.size_extract];omega) (by rw [ByteArray.size_extract];omega)
     have e2:(s.extract 1 s.size).data.toList = s.data.toList.drop 1:=by rw [ext_data,List.take_of_length_le (by rw [List.length_drop,datL];omega)]
     rw [e2] at this
     have e3:trimB s.data.toList = trimB (s.data.toList.drop 1):=by
      conv => lhs;rw [hD]
      unfold trimB
      rw [trimL,if_pos ((u32 u).1 c)]
     rw [e3]
     exact this
   ·have:=trimR_S s.size s (Nat.le_refl _) h
    have e3:trimB s.data.toList = (trimL s.data.toList.reverse).reverse:=by
     unfold trimB
     rw [trimL_head (q:=s.data.toList) (by rw [hD];simp;exact fun x => c ((u32 u).2 x))]
    rw [e3]
    exact this
theorem trimS {s:ByteArray} (h:s.size ≤ 1000000):Tot (fun k => spec_l7Trim.f k s) (· = mkB (trimB s.data.toList)):=by
 unfold spec_l7Trim.f
 exact trimS_T s.size s (Nat.le_refl _) h
theorem tidI_V {s:ByteArray} (h:s.size ≤ 1000000):impl_tidied.f s = some (mkB (tdy 0 s.data.toList)):=by
 rw [tidied_V h,← slim2_eq,mkB_data]
theorem mkB_size (l:List UInt8):(mkB l).size = l.length:=by rw [← datL];rfl
theorem slimS_T {s:ByteArray} (h:s.size ≤ 1000000):Tot (fun k => spec_l7Slim.f k s) (· = mkB (tdy 0 s.data.toList)):=by
 have go:∀ (d i:Nat) (o:ByteArray),s.size - i = d → i ≤ s.size → o.size ≤ i → (s.data.toList.drop i).foldl slimStep o.data.toList = s.data.toList.foldl slimStep [] → Tot (fun k => spec_l7Slim.l0 k s o (i:Int)) (· = mkB (tdy 0 s.data.toList)):=by
  intro d
  induction d with
  | zero =>
   intro i o h1 h2 ho hf
   rw [List.drop_eq_nil_of_le (by rw [datL];omega),List.foldl_nil] at hf
   refine Tot.step (fun k => spec_l7Slim.l0.eq_2 _ _ _ k) (Tot.no (by omega) (Tot.bind (trimS (s:=o) (by omega)) ?_))
   rintro _ rfl
   exact Tot.ret (by rw [hf,(slim_eq s.data.toList).1.1])
  | succ d ih =>
   intro i o h1 h2 ho hf
   obtain ⟨u,u1,u2⟩:=bt_data (s:=s) (i:=i) (by omega)
   have hl:i < s.data.toList.length:=by rw [datL];omega
   have ed:s.data.toList.drop i = u :: s.data.toList.drop (i + 1):=by
    rw [List.drop_eq_getElem_cons hl]
    congr 1
    rw [List.getElem?_eq_getElem hl] at u1
    exact Option.some.inj u1
   rw [ed,List.foldl_cons] at hf
   have ei:Unit → wrap64 ((i:Int) + 1) = ((i + 1:Nat):Int):=fun _ => by rw [w64_in (by omega) (by omega)];omega
   have one:(s.extract i (i + 1)).data.toList = [u]:=by
    rw [ext_data,ed,show i + 1 - i = 1 by omega];rfl
   have onez:(s.extract i (i + 1)).size = 1:=by rw [ByteArray.size_extract];omega
   -- the last byte of what is there
   have lastO:Unit → o.size ≠ 0 → ∃ v:UInt8,o.data.toList.getLast? = some v ∧ bt o ((o.size - 1:Nat):Int) = (v.toNat:Int):=by
    intro _ hz
    obtain ⟨v,v1,v2⟩:=bt_data (s:=o) (i:=o.size - 1) (by omega)
    exact ⟨v,by rw [List.getLast?_eq_getElem?,datL];exact v1,v2⟩
   have lastN:o.size = 0 → o.data.toList.getLast? = none:=fun hz => by
    have e:o.data.toList = []:=List.eq_nil_of_length_eq_zero (by rw [datL];exact hz)
    rw [e];rfl
   have j2:∀ b:Bool,¬ (u = 32 ∧ (o.data.toList.getLast? = some 32 ∨ o.data.toList.getLast? = some 44)) → (b = true ↔ (u = 44 ∧ o.data.toList.getLast? = some 32)) → Tot (fun k => spec_l7Slim.j2 k s o (i:Int) (o.size:Int) b) (· = mkB (tdy 0 s.data.toList)):=by
    intro b hn hb
    refine Tot.step (fun k => spec_l7Slim.j2.eq_2 _ _ _ _ _ k) ?_
    rw [ei ()]
    refine Tot.ite (fun e => ?_) (fun e => ?_)
    ·have hc:=hb.1 e
     have hz:o.size ≠ 0:=fun x => by rw [lastN x] at hc;exact absurd hc.2 (by simp)
     rw [w64_in (n:=(o.size:Int) - 1) (by omega) (by omega),show (o.size:Int) - 1 = ((o.size - 1:Nat):Int) by omega,Int.toNat_natCast,Int.toNat_natCast,Int.toNat_natCast]
     have e0:(o.extract 0 (o.size - 1)).data.toList = o.data.toList.dropLast:=by
      rw [ext_data,List.drop_zero,Nat.sub_zero,List.dropLast_eq_take,datL]
     have z0:(o.extract 0 (o.size - 1)).size = o.size - 1:=by rw [ByteArray.size_extract];omega
     refine Tot.yes (by omega) (Tot.yes (by omega) (Tot.yes (by omega) (Tot.yes (by omega) (Tot.yes (by omega) (Tot.yes (by omega) ?_)))))
     refine ih (i + 1) _ (by omega) (by omega) (by rw [ByteArray.size_append];omega) ?_
     rw [ByteArray.data_append,Array.toList_append,e0,one,← hf]
     congr 1
     unfold slimStep
     rw [if_neg hn,if_pos hc,hc.1]
    ·have hc:¬ (u = 44 ∧ o.data.toList.getLast? = some 32):=fun x => e (hb.2 x)
     rw [Int.toNat_natCast,Int.toNat_natCast]
     refine Tot.yes (by omega) (Tot.yes (by omega) (Tot.yes (by omega) (Tot.yes (by omega) ?_)))
     refine ih (i + 1) _ (by omega) (by omega) (by rw [ByteArray.size_append];omega) ?_
     rw [ByteArray.data_append,Array.toList_append,one,← hf]
     congr 1
     unfold slimStep
     rw [if_neg hn,if_neg hc]
   have j1:∀ b:Bool,(b = true ↔ (u = 32 ∧ (o.data.toList.getLast? = some 32 ∨ o.data.toList.getLast? = some 44))) → Tot (fun k => spec_l7Slim.j1 k s o (i:Int) (o.size:Int) b) (· = mkB (tdy 0 s.data.toList)):=by
    intro b hb
    refine Tot.step (fun k => spec_l7Slim.j1.eq_2 _ _ _ _ _ k) ?_
    rw [ei ()]
    refine Tot.ite (fun e => ?_) (fun e => ?_)
    ·refine ih (i + 1) o (by omega) (by omega) (by omega) ?_
     rw [← hf]
     congr 1
     unfold slimStep
     rw [if_pos (hb.1 e)]
    ·have hn:¬ (u = 32 ∧ (o.data.toList.getLast? = some 32 ∨ o.data.toList.getLast? = some 44)):=fun x => e (hb.2 x)
     rw [u2,w64_in (n:=(o.size:Int) - 1) (by omega) (by omega)]
     refine Tot.yes (by omega) (Tot.yes (by omega) (Tot.ite (fun c => Tot.ite (fun g => Tot.yes (by omega) (Tot.yes (by omega) ?_)) (fun g => j2 _ hn ?_)) (fun c => j2 _ hn ?_)))
     ·obtain ⟨v,v1,v2⟩:=lastO () (by omega)
      rw [show (o.size:Int) - 1 = ((o.size - 1:Nat):Int) by omega,v2]
      refine j2 _ hn ?_
      rw [beq_iff_eq,u32,v1]
      exact ⟨fun x => ⟨(u44 u).1 c,by rw [x]⟩,fun x => Option.some.inj x.2⟩
     ·rw [lastN (by omega)]
      exact ⟨fun x => absurd x (by decide),fun x => absurd x.2 (by simp)⟩
     ·exact ⟨fun x => absurd x (by decide),fun x => absurd ((u44 u).2 x.1) c⟩
   refine Tot.step (fun k => spec_l7Slim.l0.eq_2 _ _ _ k) (Tot.yes (by omega) (Tot.yes (by omega) ?_))
   rw [u2,w64_in (n:=(o.size:Int) - 1) (by omega) (by omega)]
   refine Tot.ite (fun c => Tot.ite (fun g => Tot.yes (by omega) (Tot.yes (by omega) ?_)) (fun g => j1 _ ?_)) (fun c => j1 _ ?_)
   ·obtain ⟨v,v1,v2⟩:=lastO () (by omega)
    have hu:=(u32 u).1 c
    rw [show (o.size:Int) - 1 = ((o.size - 1:Nat):Int) by omega,v2]
    refine Tot.ite (fun e => j1 _ ?_) (fun e => j1 _ ?_)
    ·rw [v1]
     exact ⟨fun _ => ⟨hu,.inl (by rw [(u32 v).1 e])⟩,fun _ => rfl⟩
    ·rw [beq_iff_eq,u44,v1]
     exact ⟨fun x => ⟨hu,.inr (by rw [x])⟩,fun x => x.2.elim (fun y => absurd ((u32 v).2 (Option.some.inj y)) e) (fun y => Option.some.inj y)⟩
   ·rw [lastN (by omega)]
    exact ⟨fun x => absurd x (by decide),fun x => absurd x.2 (by simp)⟩
   ·exact ⟨fun x => absurd x (by decide),fun x => absurd ((u32 u).2 x.1) c⟩
 unfold spec_l7Slim.f
 exact go _ 0 (⟨#[]⟩:ByteArray) rfl (Nat.zero_le _) (Nat.le_refl _) (by rw [List.drop_zero])
def hdL (a:List UInt8):List UInt8:=if a = [] then [] else a ++ [58]
def midL (a b:List UInt8):List UInt8:=if b = [] then hdL a else if a = [] then b else hdL a ++ 32 :: b
def txtL (a b c:List UInt8):List UInt8:=if c = [] then midL a b else midL a b ++ 32 :: c
theorem hdL_nil (a:List UInt8):hdL a = [] ↔ a = []:=by
 unfold hdL
 by_cases h:a = []
 ·simp [h]
 ·simp [h]
theorem txtL_len (a b c:List UInt8):(txtL a b c).length ≤ a.length + b.length + c.length + 3 ∧ c.length ≤ (txtL a b c).length:=by
 unfold txtL midL hdL
 by_cases h1:a = [] <;> by_cases h2:b = [] <;> by_cases h3:c = [] <;> simp [h1,h2,h3] <;> omega
theorem app_data (x y:ByteArray):(x ++ y).data.toList = x.data.toList ++ y.data.toList:=by rw [ByteArray.data_append,Array.toList_append]
theorem nilD (a:ByteArray):a.toList = ([]:List UInt8) ↔ a.data.toList = []:=by rw [toL]
section
variable {A B C:ByteArray} (hA:A.size ≤ 1000000) (hB:B.size ≤ 1000000) (hC:C.size ≤ 1000000)
include hA hB hC
theorem textS_T:Tot (fun k => spec_l7Text.f k A B C) (· = mkB (txtL A.data.toList B.data.toList C.data.toList)):=by
 have b1:(⟨#[32]⟩:ByteArray).size = 1:=rfl
 have j1:∀ x:ByteArray,x.size ≤ 4000000 → ∀ m,x.data.toList = m → Tot (fun k => spec_l7Text.j1 k x A B C) (· = mkB (if C.data.toList = [] then m else m ++ 32 :: C.data.toList)):=by
  rintro x hx _ rfl
  refine Tot.step (fun k => spec_l7Text.j1.eq_2 _ _ _ _ k) (Tot.ite (fun e => Tot.ret ?_) (fun e => Tot.yes (by omega) (Tot.yes (by rw [ByteArray.size_append];omega) (Tot.ret ?_))))
  ·rw [if_pos ((nilD C).1 e),mkB_data]
  ·rw [if_neg (fun z => e ((nilD C).2 z))]
   apply ba_ext
   rw [app_data,app_data]
   show (x.data.toList ++ [32]) ++ C.data.toList = x.data.toList ++ 32 :: C.data.toList
   simp
 have j0:∀ x:ByteArray,x.size ≤ 2000000 → x.data.toList = hdL A.data.toList → Tot (fun k => spec_l7Text.j0 k x A B C) (· = mkB (txtL A.data.toList B.data.toList C.data.toList)):=by
  intro x hx hd
  have h0:x.toList = ([]:List UInt8) ↔ A.data.toList = []:=by rw [nilD,hd,hdL_nil]
  refine Tot.step (fun k => spec_l7Text.j0.eq_2 _ _ _ _ k) ?_
  unfold txtL midL
  refine Tot.ite (fun e => ?_) (fun e => Tot.ite (fun g => Tot.yes (by omega) ?_) (fun g => Tot.yes (by omega) (Tot.yes (by rw [ByteArray.size_append];omega) ?_)))
  ·rw [if_pos ((nilD B).1 e)]
   exact j1 x (by omega) _ hd
  ·rw [if_neg (fun z => e ((nilD B).2 z)),if_pos (h0.1 g)]
   refine j1 _ (by rw [ByteArray.size_append];omega) _ ?_
   rw [app_data,(nilD x).1 g];rfl
  ·rw [if_neg (fun z => e ((nilD B).2 z)),if_neg (fun z => g (h0.2 z))]
   refine j1 _ (by rw [ByteArray.size_append,ByteArray.size_append];omega) _ ?_
   rw [app_data,app_data,hd]
   show (hdL A.data.toList ++ [32]) ++ B.data.toList = _
   simp
 have c1:(⟨#[58]⟩:ByteArray).size = 1:=rfl
 unfold spec_l7Text.f
 refine Tot.ite (fun e => j0 _ (by decide) ?_) (fun e => Tot.yes (by omega) (j0 _ (by rw [ByteArray.size_append];omega) ?_))
 ·unfold hdL;rw [if_pos ((nilD A).1 e)]
 ·unfold hdL;rw [if_neg (fun z => e ((nilD A).2 z)),app_data]
theorem joinV (l:List ByteArray) (h1:l.length ≤ 10) (h2:(Lib.join (l.map (·.data.toList)) [32]).length ≤ 10000000):strings_Join.f l (⟨#[32]⟩:ByteArray) = some (mkB (Lib.join (l.map (·.data.toList)) [32])):=by
 unfold strings_Join.f
 rw [if_pos (by omega),if_pos (by rw [show (⟨#[32]⟩:ByteArray).data.toList = [32] from rfl];omega)]
 rfl
theorem textI_T (h:B.size = 0 → C.size = 0):Tot (fun k => impl_lineText.f k A B C) (· = mkB (txtL A.data.toList B.data.toList C.data.toList)):=by
 have za:=datL A
 have zb:=datL B
 have zc:=datL C
 have hbc:B.data.toList = [] → C.data.toList = []:=fun e => List.eq_nil_of_length_eq_zero (by rw [datL];exact h (by rw [← datL,e];rfl))
 have j1:∀ l:List ByteArray,l.length ≤ 2 → (Lib.join (l.map (·.data.toList)) [32]).length ≤ 4000000 → Lib.join (l.map (·.data.toList)) [32] = midL A.data.toList B.data.toList → (C.data.toList ≠ [] → Lib.join ((l ++ [C]).map (·.data.toList)) [32] = midL A.data.toList B.data.toList ++ 32 :: C.data.toList) →
   Tot (fun k => impl_lineText.j1 k l A B C) (· = mkB (txtL A.data.toList B.data.toList C.data.toList)):=by
  intro l hl hz h1 h2
  refine Tot.step (fun k => impl_lineText.j1.eq_2 _ _ _ _ k) ?_
  unfold txtL
  refine Tot.ite (fun e => Tot.bind (Tot.of (joinV hA hB hC l (by omega) (by omega)) rfl) ?_) (fun e => Tot.yes (by omega) ?_)
  ·rintro _ rfl
   exact Tot.ret (by rw [if_pos ((nilD C).1 e),h1])
  ·have hc:C.data.toList ≠ []:=fun z => e ((nilD C).2 z)
   have e2:=h2 hc
   refine Tot.bind (Tot.of (joinV hA hB hC (l ++ [C]) (by rw [List.length_append,List.length_singleton];omega) (by rw [e2,← h1,List.length_append,List.length_cons];omega)) rfl) ?_
   rintro _ rfl
   exact Tot.ret (by rw [if_neg hc,e2])
 have c58:(A ++ (⟨#[58]⟩:ByteArray)).data.toList = A.data.toList ++ [58]:=by rw [app_data]
 unfold impl_lineText.f
 refine Tot.bind (Tot.of rfl rfl) ?_
 rintro _ rfl
 refine Tot.ite (fun ea => Tot.step (fun k => impl_lineText.j0.eq_2 _ _ _ _ k) (Tot.ite (fun eb => j1 _ (by decide) (by decide) ?_ ?_) (fun eb => Tot.yes (by decide) (j1 _ (Nat.le_succ _) ?_ ?_ ?_)))) (fun ea => Tot.yes (by omega) (Tot.yes (by decide) (Tot.step (fun k => impl_lineText.j0.eq_2 _ _ _ _ k) (Tot.ite (fun eb => j1 _ (Nat.le_succ _) ?_ ?_ ?_) (fun eb => Tot.yes (by simp) (j1 _ (Nat.le_refl _) ?_ ?_ ?_))))))
 ·have ea:=(nilD A).1 ea;have eb:=(nilD B).1 eb
  rw [ea,eb];rfl
 ·intro hc;exact absurd (hbc ((nilD B).1 eb)) hc
 ·simp [Lib.join,List.intercalate];omega
 ·have ea:=(nilD A).1 ea;have eb:B.data.toList ≠ []:=fun z => eb ((nilD B).2 z)
  simp [Lib.join,List.intercalate,midL,ea,eb]
 ·intro _
  have ea:=(nilD A).1 ea;have eb:B.data.toList ≠ []:=fun z => eb ((nilD B).2 z)
  simp [Lib.join,List.intercalate,midL,ea,eb]
 ·simp [Lib.join,List.intercalate,c58];omega
 ·have ea:A.data.toList ≠ []:=fun z => ea ((nilD A).2 z);have eb:=(nilD B).1 eb
  simp [Lib.join,List.intercalate,midL,hdL,ea,eb,c58]
 ·intro hc;exact absurd (hbc ((nilD B).1 eb)) hc
 ·simp [Lib.join,List.intercalate,c58];omega
 ·have ea:A.data.toList ≠ []:=fun z => ea ((nilD A).2 z);have eb:B.data.toList ≠ []:=fun z => eb ((nilD B).2 z)
  simp [Lib.join,List.intercalate,midL,hdL,ea,eb,c58]
 ·intro _
  have ea:A.data.toList ≠ []:=fun z => ea ((nilD A).2 z);have eb:B.data.toList ≠ []:=fun z => eb ((nilD B).2 z)
  simp [Lib.join,List.intercalate,midL,hdL,ea,eb,c58]
def OkP (A B C:ByteArray):Prop:=(A.size = 0 ∨ NameG A) ∧ OpG B ∧ Fine C ∧ (B.size = 0 → C.size = 0) ∧ (txtL A.data.toList B.data.toList C.data.toList).length ≤ 80
omit hA hB hC in
theorem ok_rest {p a b c d:Prop} (hp:p):(p ∧ a ∧ b ∧ c ∧ d) ↔ (a ∧ b ∧ c ∧ d):=⟨fun x => x.2,fun x => ⟨hp,x⟩⟩
theorem okI_T:Tot (fun k => impl_LineOk.f k A B C) (fun b => b = true ↔ OkP A B C):=by
 have tl:=txtL_len A.data.toList B.data.toList C.data.toList
 rw [datL,datL,datL] at tl
 have jt:∀ p:Prop,¬ p → Tot (fun k => impl_LineOk.j0 k true A B C) (fun b => b = true ↔ p):=fun p hp =>
  Tot.step (fun k => impl_LineOk.j0.eq_2 _ _ _ _ k) (Tot.yes rfl (Tot.ret ⟨fun x => absurd x (by decide),fun x => absurd x hp⟩))
 have jf:(B.size = 0 → C.size = 0) → ∀ p:Prop,(p ↔ (txtL A.data.toList B.data.toList C.data.toList).length ≤ 80) → Tot (fun k => impl_LineOk.j0 k false A B C) (fun b => b = true ↔ p):=by
  intro hbc p hp
  refine Tot.step (fun k => impl_LineOk.j0.eq_2 _ _ _ _ k) (Tot.no (by decide) (Tot.bind (textI_T hA hB hC hbc) ?_))
  rintro _ rfl
  refine Tot.ret ?_
  rw [decide_eq_true_iff,mkB_size,hp]
  omega
 have tail:Tot (fun k => (impl_isOp.f k B 10).bind fun t => if t = true then (if (C.size:Int) > 80 then impl_LineOk.j0 k true A B C else (impl_areArgs.f k C).bind fun u => if u = true then (if B.toList = ([]:List UInt8) then impl_LineOk.j0 k (C.toList != ([]:List UInt8)) A B C else impl_LineOk.j0 k false A B C) else impl_LineOk.j0 k true A B C) else impl_LineOk.j0 k true A B C) (fun b => b = true ↔ (OpG B ∧ Fine C ∧ (B.size = 0 → C.size = 0) ∧ (txtL A.data.toList B.data.toList C.data.toList).length ≤ 80)):=by
  refine Tot.bind (opI_T B hB) fun t ht => Tot.ite (fun e => Tot.ite (fun z => jt _ (fun x => by have:=x.2.2.2;omega)) (fun z => Tot.bind (areArgs_T hC) fun u hu => Tot.ite (fun g => Tot.ite (fun b0 => ?_) (fun b0 => ?_)) (fun g => jt _ (fun x => g (hu.2 x.2.1))))) (fun e => jt _ (fun x => e (ht.2 x.1)))
  ·have hb0:=(size0 B).1 b0
   by_cases c0:C.toList = ([]:List UInt8)
   ·have hc0:=(size0 C).1 c0
    rw [bne_eq_false_iff_eq.2 c0]
    exact jf (fun _ => hc0) _ ⟨fun x => x.2.2.2,fun x => ⟨ht.1 e,hu.1 g,fun _ => hc0,x⟩⟩
   ·rw [bne_iff_ne.2 c0]
    exact jt _ (fun x => c0 ((size0 C).2 (x.2.2.1 hb0)))
  ·have hb0:¬ B.size = 0:=fun x => b0 ((size0 B).2 x)
   exact jf (fun x => absurd x hb0) _ ⟨fun x => x.2.2.2,fun x => ⟨ht.1 e,hu.1 g,fun y => absurd y hb0,x⟩⟩
 unfold impl_LineOk.f OkP
 refine Tot.ite (fun a0 => ?_) (fun a0 => Tot.bind (nameI_T A hA) fun n hn => Tot.ite (fun e => ?_) (fun e => jt _ (fun x => ?_)))
 ·simp only [ok_rest (show A.size = 0 ∨ NameG A from .inl ((size0 A).1 a0))]
  exact tail
 ·simp only [ok_rest (show A.size = 0 ∨ NameG A from .inr (hn.1 e))]
  exact tail
 ·exact x.1.elim (fun y => a0 ((size0 A).2 y)) (fun y => e (hn.2 y))
theorem okS_T:Tot (fun k => spec_LineOk.f k A B C) (fun b => b = true ↔ OkP A B C):=by
 have jt:∀ p:Prop,¬ p → Tot (fun k => spec_LineOk.j0 k true A B C) (fun b => b = true ↔ p):=fun p hp =>
  Tot.step (fun k => spec_LineOk.j0.eq_2 _ _ _ _ k) (Tot.yes rfl (Tot.ret ⟨fun x => absurd x (by decide),fun x => absurd x hp⟩))
 have jf:∀ p:Prop,(p ↔ (txtL A.data.toList B.data.toList C.data.toList).length ≤ 80) → Tot (fun k => spec_LineOk.j0 k false A B C) (fun b => b = true ↔ p):=by
  intro p hp
  refine Tot.step (fun k => spec_LineOk.j0.eq_2 _ _ _ _ k) (Tot.no (by decide) (Tot.bind (textS_T hA hB hC) ?_))
  rintro _ rfl
  refine Tot.ret ?_
  rw [decide_eq_true_iff,mkB_size,hp]
  omega
 have tail:Tot (fun k => (spec_l7Op.f k B).bind fun t => if t = true then ((spec_l7Args.f k C).bind fun u => if u = true then (if B.toList = ([]:List UInt8) then spec_LineOk.j0 k (C.toList != ([]:List UInt8)) A B C else spec_LineOk.j0 k false A B C) else spec_LineOk.j0 k true A B C) else spec_LineOk.j0 k true A B C) (fun b => b = true ↔ (OpG B ∧ Fine C ∧ (B.size = 0 → C.size = 0) ∧ (txtL A.data.toList B.data.toList C.data.toList).length ≤ 80)):=by
  refine Tot.bind (opS_T B hB) fun t ht => Tot.ite (fun e => Tot.bind (argsS_T hC) fun u hu => Tot.ite (fun g => Tot.ite (fun b0 => ?_) (fun b0 => ?_)) (fun g => jt _ (fun x => g (hu.2 x.2.1)))) (fun e => jt _ (fun x => e (ht.2 x.1)))
  ·have hb0:=(size0 B).1 b0
   by_cases c0:C.toList = ([]:List UInt8)
   ·have hc0:=(size0 C).1 c0
    rw [bne_eq_false_iff_eq.2 c0]
    exact jf _ ⟨fun x => x.2.2.2,fun x => ⟨ht.1 e,hu.1 g,fun _ => hc0,x⟩⟩
   ·rw [bne_iff_ne.2 c0]
    exact jt _ (fun x => c0 ((size0 C).2 (x.2.2.1 hb0)))
  ·have hb0:¬ B.size = 0:=fun x => b0 ((size0 B).2 x)
   exact jf _ ⟨fun x => x.2.2.2,fun x => ⟨ht.1 e,hu.1 g,fun y => absurd y hb0,x⟩⟩
 unfold spec_LineOk.f OkP
 refine Tot.ite (fun a0 => ?_) (fun a0 => Tot.bind (nameS_T A hA) fun n hn => Tot.ite (fun e => ?_) (fun e => jt _ (fun x => ?_)))
 ·simp only [ok_rest (show A.size = 0 ∨ NameG A from .inl ((size0 A).1 a0))]
  exact tail
 ·simp only [ok_rest (show A.size = 0 ∨ NameG A from .inr (hn.1 e))]
  exact tail
 ·exact x.1.elim (fun y => a0 ((size0 A).2 y)) (fun y => e (hn.2 y))
theorem bothText:∃ v:ByteArray,(OkP A B C ∧ v = mkB (txtL A.data.toList B.data.toList C.data.toList) ∨ ¬ OkP A B C ∧ v = ⟨#[]⟩) ∧ Tot (fun k => impl_LineText.f k A B C) (· = v) ∧ Tot (fun k => spec_LineText.f k A B C) (· = v):=by
 unfold impl_LineText.f spec_LineText.f
 by_cases h:OkP A B C
 ·refine ⟨_,.inl ⟨h,rfl⟩,Tot.bind (okI_T hA hB hC) fun b hb => Tot.yes (hb.2 h) (Tot.bind (textI_T hA hB hC h.2.2.2.1) ?_),Tot.bind (okS_T hA hB hC) fun b hb => Tot.yes (hb.2 h) (Tot.bind (textS_T hA hB hC) ?_)⟩
  ·rintro _ rfl;exact Tot.ret rfl
  ·rintro _ rfl;exact Tot.ret rfl
 ·exact ⟨_,.inr ⟨h,rfl⟩,Tot.bind (okI_T hA hB hC) fun b hb => Tot.no (fun e => h (hb.1 e)) (Tot.ret rfl),Tot.bind (okS_T hA hB hC) fun b hb => Tot.no (fun e => h (hb.1 e)) (Tot.ret rfl)⟩
end
def LabR (r lab rest:List UInt8):Prop :=
 ((cutL 58 r).2.2 = true ∧ NameG (mkB (trimB (cutL 58 r).1)) ∧ lab = trimB (cutL 58 r).1 ∧ rest = trimB (cutL 58 r).2.1) ∨
 (¬ ((cutL 58 r).2.2 = true ∧ NameG (mkB (trimB (cutL 58 r).1))) ∧ lab = [] ∧ rest = r)
def OkR (lab rest:List UInt8):Prop:=OkP (mkB lab) (mkB (cutL 32 rest).1) (mkB (tdy 0 (cutL 32 rest).2.1))
def noLine:ByteArray × ByteArray × ByteArray × Bool:=(⟨#[]⟩,⟨#[]⟩,⟨#[]⟩,false)
def ReadR (D:List UInt8) (v:ByteArray × ByteArray × ByteArray × Bool):Prop :=
 (D.length > 240 ∧ v = noLine) ∨ (D.length ≤ 240 ∧ ∃ lab rest,LabR (trimB (cutL 59 D).1) lab rest ∧
  (OkR lab rest ∧ v = (mkB lab,mkB (cutL 32 rest).1,mkB (tdy 0 (cutL 32 rest).2.1),true) ∨ ¬ OkR lab rest ∧ v = noLine))
theorem bothRead {s:ByteArray} (h:s.size ≤ 1000000):∃ v,ReadR s.data.toList v ∧ Tot (fun k => impl_ReadLine.f k s) (· = v) ∧ Tot (fun k => spec_ReadLine.f k s) (· = v):=by
 unfold impl_ReadLine.f spec_ReadLine.f
 by_cases hb:(s.size:Int) > 240
 ·exact ⟨noLine,.inl ⟨by rw [datL];omega,rfl⟩,Tot.yes hb (Tot.ret rfl),Tot.yes hb (Tot.ret rfl)⟩
 have hD:s.data.toList.length ≤ 240:=by rw [datL];omega
 have l1:=(cutL_len 59 s.data.toList).1
 have l2:=trimB_len (cutL 59 s.data.toList).1
 obtain ⟨r,hr⟩:∃ r,r = trimB (cutL 59 s.data.toList).1:=⟨_,rfl⟩
 rw [← hr] at l2
 have zr:(mkB r).size ≤ 1000000:=by rw [mkB_size];omega
 have l3:=cutL_len 58 r
 have fin:∀ lab rest:List UInt8,lab.length ≤ 240 → rest.length ≤ 240 → ∃ v,(OkR lab rest ∧ v = (mkB lab,mkB (cutL 32 rest).1,mkB (tdy 0 (cutL 32 rest).2.1),true) ∨ ¬ OkR lab rest ∧ v = noLine) ∧
   Tot (fun k => impl_ReadLine.j1 k (mkB rest) (mkB lab) (⟨#[]⟩:ByteArray) (⟨#[]⟩:ByteArray)) (· = v) ∧ Tot (fun k => spec_ReadLine.j1 k (mkB rest) (mkB lab) (⟨#[]⟩:ByteArray) (⟨#[]⟩:ByteArray)) (· = v):=by
  intro lab rest zl zs
  have l4:=cutL_len 32 rest
  have l5:=(tdy_len (cutL 32 rest).2.1).1
  have zrest:(mkB rest).size ≤ 1000000:=by rw [mkB_size];omega
  have za:(mkB lab).size ≤ 1000000:=by rw [mkB_size];omega
  have zb:(mkB (cutL 32 rest).1).size ≤ 1000000:=by rw [mkB_size];omega
  have zc0:(mkB (cutL 32 rest).2.1).size ≤ 1000000:=by rw [mkB_size];omega
  have zc:(mkB (tdy 0 (cutL 32 rest).2.1)).size ≤ 1000000:=by rw [mkB_size];omega
  have goI:∀ (v:ByteArray × ByteArray × ByteArray × Bool),(OkR lab rest → v = (mkB lab,mkB (cutL 32 rest).1,mkB (tdy 0 (cutL 32 rest).2.1),true)) → (¬ OkR lab rest → v = noLine) → Tot (fun k => impl_ReadLine.j1 k (mkB rest) (mkB lab) (⟨#[]⟩:ByteArray) (⟨#[]⟩:ByteArray)) (· = v):=by
   intro v v1 v2
   refine Tot.step (fun k => impl_ReadLine.j1.eq_2 _ _ _ _ k) (Tot.bind (Tot.of (cutI_V 32 zrest) rfl) ?_)
   rintro _ rfl
   refine Tot.bind (Tot.of (tidI_V zc0) rfl) ?_
   rintro _ rfl
   exact Tot.bind (okI_T za zb zc) fun b hb => Tot.ite (fun e => Tot.ret (v1 (hb.1 e)).symm) (fun e => Tot.ret (v2 (fun x => e (hb.2 x))).symm)
  have goS:∀ (v:ByteArray × ByteArray × ByteArray × Bool),(OkR lab rest → v = (mkB lab,mkB (cutL 32 rest).1,mkB (tdy 0 (cutL 32 rest).2.1),true)) → (¬ OkR lab rest → v = noLine) → Tot (fun k => spec_ReadLine.j1 k (mkB rest) (mkB lab) (⟨#[]⟩:ByteArray) (⟨#[]⟩:ByteArray)) (· = v):=by
   intro v v1 v2
   refine Tot.step (fun k => spec_ReadLine.j1.eq_2 _ _ _ _ k) (Tot.bind (cutS_T 32 (by decide) zrest) ?_)
   rintro _ rfl
   refine Tot.bind (slimS_T zc0) ?_
   rintro _ rfl
   exact Tot.bind (okS_T za zb zc) fun b hb => Tot.ite (fun e => Tot.ret (v1 (hb.1 e)).symm) (fun e => Tot.ret (v2 (fun x => e (hb.2 x))).symm)
  by_cases ho:OkR lab rest
  ·exact ⟨_,.inl ⟨ho,rfl⟩,goI _ (fun _ => rfl) (fun x => absurd ho x),goS _ (fun _ => rfl) (fun x => absurd ho x)⟩
  ·exact ⟨_,.inr ⟨ho,rfl⟩,goI _ (fun x => absurd x ho) (fun _ => rfl),goS _ (fun x => absurd x ho) (fun _ => rfl)⟩
 have zc1:(mkB (cutL 58 r).1).size ≤ 1000000:=by rw [mkB_size];omega
 have zc2:(mkB (cutL 58 r).2.1).size ≤ 1000000:=by rw [mkB_size];omega
 have zt:=trimB_len (cutL 58 r).1
 have zt2:=trimB_len (cutL 58 r).2.1
 have znm:(mkB (trimB (cutL 58 r).1)).size ≤ 1000000:=by rw [mkB_size];omega
 have z59:(mkB (cutL 59 s.data.toList).1).size ≤ 1000000:=by rw [mkB_size];omega
 -- the way down to the label,both sides
 have downI:∀ (P:ByteArray × ByteArray × ByteArray × Bool → Prop),((cutL 58 r).2.2 = true → ∀ b:Bool,(b = true ↔ NameG (mkB (trimB (cutL 58 r).1))) → Tot (fun k => impl_ReadLine.j0 k (mkB r) (mkB (cutL 58 r).1) (mkB (cutL 58 r).2.1) b (⟨#[]⟩:ByteArray) (⟨#[]⟩:ByteArray) (⟨#[]⟩:ByteArray)) P) → ((cutL 58 r).2.2 ≠ true → Tot (fun k => impl_ReadLine.j0 k (mkB r) (mkB (cutL 58 r).1) (mkB (cutL 58 r).2.1) false (⟨#[]⟩:ByteArray) (⟨#[]⟩:ByteArray) (⟨#[]⟩:ByteArray)) P) →
   Tot (fun k => if (s.size:Int) > 240 then (some ((⟨#[]⟩:ByteArray),(⟨#[]⟩:ByteArray),(⟨#[]⟩:ByteArray),false)) else ((strings_Cut.f s (⟨#[59]⟩:ByteArray)).bind fun bt207 => ((impl_trimmed.f bt207.1).bind fun t210 => ((strings_Cut.f t210 (⟨#[58]⟩:ByteArray)).bind fun bt212 => (if bt212.2.2 = true then ((impl_trimmed.f bt212.1).bind fun t215 => ((impl_NameOk.f k t215).bind fun t216 => (impl_ReadLine.j0 k t210 bt212.1 bt212.2.1 t216 (⟨#[]⟩:ByteArray) (⟨#[]⟩:ByteArray) (⟨#[]⟩:ByteArray)))) else (impl_ReadLine.j0 k t210 bt212.1 bt212.2.1 false (⟨#[]⟩:ByteArray) (⟨#[]⟩:ByteArray) (⟨#[]⟩:ByteArray))))))) P:=by
  intro P h1 h2
  refine Tot.no hb (Tot.bind (Tot.of (cutI_V 59 h) rfl) ?_)
  rintro _ rfl
  refine Tot.bind (Tot.of (trimI_V z59) rfl) ?_
  rintro _ rfl
  rw [show mkB (trimB (mkB (cutL 59 s.data.toList).1).data.toList) = mkB r by rw [hr];rfl]
  refine Tot.bind (Tot.of (cutI_V 58 zr) rfl) ?_
  rintro _ rfl
  refine Tot.ite (fun e => Tot.bind (Tot.of (trimI_V zc1) rfl) ?_) (fun e => h2 e)
  rintro _ rfl
  exact Tot.bind (nameI_T _ znm) fun b hb => h1 e b hb
 have downS:∀ (P:ByteArray × ByteArray × ByteArray × Bool → Prop),((cutL 58 r).2.2 = true → ∀ b:Bool,(b = true ↔ NameG (mkB (trimB (cutL 58 r).1))) → Tot (fun k => spec_ReadLine.j0 k (mkB r) (mkB (cutL 58 r).1) (mkB (cutL 58 r).2.1) b (⟨#[]⟩:ByteArray) (⟨#[]⟩:ByteArray) (⟨#[]⟩:ByteArray)) P) → ((cutL 58 r).2.2 ≠ true → Tot (fun k => spec_ReadLine.j0 k (mkB r) (mkB (cutL 58 r).1) (mkB (cutL 58 r).2.1) false (⟨#[]⟩:ByteArray) (⟨#[]⟩:ByteArray) (⟨#[]⟩:ByteArray)) P) →
   Tot (fun k => if (s.size:Int) > 240 then (some ((⟨#[]⟩:ByteArray),(⟨#[]⟩:ByteArray),(⟨#[]⟩:ByteArray),false)) else ((spec_l1Cut.f k s 59).bind fun bt255 => ((spec_l7Trim.f k bt255.1).bind fun t258 => ((spec_l1Cut.f k t258 58).bind fun bt260 => (if bt260.2.2 = true then ((spec_l7Trim.f k bt260.1).bind fun t263 => ((spec_NameOk.f k t263).bind fun t264 => (spec_ReadLine.j0 k t258 bt260.1 bt260.2.1 t264 (⟨#[]⟩:ByteArray) (⟨#[]⟩:ByteArray) (⟨#[]⟩:ByteArray)))) else (spec_ReadLine.j0 k t258 bt260.1 bt260.2.1 false (⟨#[]⟩:ByteArray) (⟨#[]⟩:ByteArray) (⟨#[]⟩:ByteArray))))))) P:=by
  intro P h1 h2
  refine Tot.no hb (Tot.bind (cutS_T 59 (by decide) h) ?_)
  rintro _ rfl
  refine Tot.bind (trimS z59) ?_
  rintro _ rfl
  rw [show mkB (trimB (mkB (cutL (UInt8.ofNat 59) s.data.toList).1).data.toList) = mkB r by rw [hr];rfl]
  refine Tot.bind (cutS_T 58 (by decide) zr) ?_
  rintro _ rfl
  refine Tot.ite (fun e => Tot.bind (trimS zc1) ?_) (fun e => h2 e)
  rintro _ rfl
  exact Tot.bind (nameS_T _ znm) fun b hb => h1 e b hb
 by_cases hN:(cutL 58 r).2.2 = true ∧ NameG (mkB (trimB (cutL 58 r).1))
 ·obtain ⟨v,v1,v2,v3⟩:=fin (trimB (cutL 58 r).1) (trimB (cutL 58 r).2.1) (by omega) (by omega)
  refine ⟨v,.inr ⟨hD,_,_,.inl ⟨by rw [← hr];exact hN.1,by rw [← hr];exact hN.2,rfl,rfl⟩,by rw [← hr];exact v1⟩,downI _ (fun _ b hb => ?_) (fun x => absurd hN.1 x),downS _ (fun _ b hb => ?_) (fun x => absurd hN.1 x)⟩
  ·refine Tot.step (fun k => impl_ReadLine.j0.eq_2 _ _ _ _ _ _ _ k) (Tot.yes (hb.2 hN.2) (Tot.bind (Tot.of (trimI_V zc1) rfl) ?_))
   rintro _ rfl
   refine Tot.bind (Tot.of (trimI_V zc2) rfl) ?_
   rintro _ rfl
   exact v2
  ·refine Tot.step (fun k => spec_ReadLine.j0.eq_2 _ _ _ _ _ _ _ k) (Tot.yes (hb.2 hN.2) (Tot.bind (trimS zc1) ?_))
   rintro _ rfl
   refine Tot.bind (trimS zc2) ?_
   rintro _ rfl
   exact v3
 ·obtain ⟨v,v1,v2,v3⟩:=fin [] r (by decide) (by omega)
  refine ⟨v,.inr ⟨hD,_,_,.inr ⟨by rw [← hr];exact hN,rfl,rfl⟩,by rw [← hr];exact v1⟩,downI _ (fun e b hb => ?_) (fun _ => ?_),downS _ (fun e b hb => ?_) (fun _ => ?_)⟩
  ·exact Tot.step (fun k => impl_ReadLine.j0.eq_2 _ _ _ _ _ _ _ k) (Tot.no (fun x => hN ⟨e,hb.1 x⟩) v2)
  ·exact Tot.step (fun k => impl_ReadLine.j0.eq_2 _ _ _ _ _ _ _ k) (Tot.no (by decide) v2)
  ·exact Tot.step (fun k => spec_ReadLine.j0.eq_2 _ _ _ _ _ _ _ k) (Tot.no (fun x => hN ⟨e,hb.1 x⟩) v3)
  ·exact Tot.step (fun k => spec_ReadLine.j0.eq_2 _ _ _ _ _ _ _ k) (Tot.no (by decide) v3)
theorem cutL_no (c:UInt8):∀ (q:List UInt8),(∀ u ∈ q,u ≠ c) → cutL c q = (q,[],false)
 | [],_ => rfl
 | x :: t,h => by
  rw [cutL,if_neg (h x (List.mem_cons_self ..)),cutL_no c t (fun u hu => h u (List.mem_cons_of_mem _ hu))]
theorem cutL_yes (c:UInt8) (r:List UInt8):∀ (q:List UInt8),(∀ u ∈ q,u ≠ c) → cutL c (q ++ c :: r) = (q,r,true)
 | [],_ => by simp [cutL]
 | x :: t,h => by
  rw [List.cons_append,cutL,if_neg (h x (List.mem_cons_self ..)),cutL_yes c r t (fun u hu => h u (List.mem_cons_of_mem _ hu))]
theorem cutL_back (c:UInt8):∀ (q:List UInt8),(cutL c q).2.2 = true → q = (cutL c q).1 ++ c :: (cutL c q).2.1 ∧ ∀ u ∈ (cutL c q).1,u ≠ c
 | [],h => by simp [cutL] at h
 | x :: t,h => by
  by_cases e:x = c
  ·subst e
   simp [cutL]
  ·rw [cutL,if_neg e] at h ⊢
   obtain ⟨h1,h2⟩:=cutL_back c t h
   refine ⟨by dsimp only;rw [List.cons_append,← h1],fun u hu => ?_⟩
   rcases List.mem_cons.1 hu with rfl | hu
   ·exact e
   ·exact h2 u hu
theorem cutL_false (c:UInt8):∀ (q:List UInt8),(cutL c q).2.2 ≠ true → cutL c q = (q,[],false) ∧ ∀ u ∈ q,u ≠ c
 | [],_ => ⟨rfl,fun u hu => absurd hu (by simp)⟩
 | x :: t,h => by
  by_cases e:x = c
  ·rw [cutL,if_pos e] at h;exact absurd rfl h
  ·rw [cutL,if_neg e] at h ⊢
   obtain ⟨h1,h2⟩:=cutL_false c t h
   refine ⟨by rw [h1],fun u hu => ?_⟩
   rcases List.mem_cons.1 hu with rfl | hu
   ·exact e
   ·exact h2 u hu
theorem mem_bt {s:ByteArray} {u:UInt8} (h:u ∈ s.data.toList):∃ i:Nat,i < s.size ∧ bt s (i:Int) = (u.toNat:Int):=by
 obtain ⟨i,hi⟩:=List.mem_iff_getElem?.1 h
 have hl:i < s.size:=by rw [← datL];exact (List.getElem?_eq_some_iff.1 hi).1
 obtain ⟨v,v1,v2⟩:=bt_data hl
 rw [hi] at v1
 exact ⟨i,hl,by rw [v2,Option.some.inj v1]⟩
theorem name_chars {s:ByteArray} (h:NameG s):∀ u ∈ s.data.toList,u ≠ 58 ∧ u ≠ 59 ∧ u ≠ 32:=by
 intro u hu
 obtain ⟨i,hi,e⟩:=mem_bt hu
 have:=h.2.2.2 i hi
 rw [e] at this
 unfold nmC ltC at this
 refine ⟨?_,?_,?_⟩ <;> rintro rfl <;> revert this <;> decide
theorem op_chars {s:ByteArray} (h:OpG s):∀ u ∈ s.data.toList,u ≠ 58 ∧ u ≠ 59 ∧ u ≠ 32:=by
 intro u hu
 obtain ⟨i,hi,e⟩:=mem_bt hu
 have:=h.2 i hi
 rw [e] at this
 refine ⟨?_,?_,?_⟩ <;> rintro rfl <;> revert this <;> decide
theorem fine_chars {s:ByteArray} (h:Fine s):∀ u ∈ s.data.toList,u ≠ 59:=by
 intro u hu
 obtain ⟨i,hi,e⟩:=mem_bt hu
 have:=(h.1 i hi).2.2
 rw [e] at this
 rintro rfl
 exact this (by decide)
theorem fine_ends {s:ByteArray} (h:Fine s):s.data.toList.head? ≠ some 32 ∧ s.data.toList.getLast? ≠ some 32:=by
 have:=(fine_iff s.data.toList).1.1 ((tdy_fine s.data.toList).1.1 h.2)
 exact ⟨this.1,this.2.2⟩
theorem ne_of_all {q:List UInt8} (h:∀ u ∈ q,u ≠ 32):q.head? ≠ some 32 ∧ q.getLast? ≠ some 32:=by
 constructor
 ·intro e
  exact h 32 (List.mem_of_mem_head? e) rfl
 ·intro e
  exact h 32 (List.mem_of_mem_getLast? e) rfl
def bodyL (b c:List UInt8):List UInt8:=if b = [] then [] else if c = [] then b else b ++ 32 :: c
section
variable {a b c:List UInt8} (hbc:b = [] → c = [])
include hbc
theorem txt_none (ha:a = []):txtL a b c = bodyL b c:=by
 unfold txtL midL hdL bodyL
 by_cases h2:b = []
 ·simp [ha,h2,hbc h2]
 ·by_cases h3:c = []
  ·simp [ha,h2,h3]
  ·simp [ha,h2,h3]
theorem txt_some (ha:a ≠ []):txtL a b c = a ++ 58 :: (if b = [] then [] else 32 :: bodyL b c):=by
 unfold txtL midL hdL bodyL
 by_cases h2:b = []
 ·simp [ha,h2,hbc h2]
 ·by_cases h3:c = []
  ·simp [ha,h2,h3]
  ·simp [ha,h2,h3]
omit hbc in
theorem body_ends (hb:∀ u ∈ b,u ≠ 32) (hc:c.getLast? ≠ some 32):(bodyL b c).head? ≠ some 32 ∧ (bodyL b c).getLast? ≠ some 32:=by
 unfold bodyL
 by_cases h2:b = []
 ·rw [if_pos h2];simp
 ·have:=ne_of_all hb
  by_cases h3:c = []
  ·rw [if_neg h2,if_pos h3];exact this
  ·rw [if_neg h2,if_neg h3]
   refine ⟨by rw [headApp h2];exact this.1,?_⟩
   rw [lastApp _ (by simp),List.getLast?_cons]
   cases hq:c.getLast? with
   | none => exact absurd (List.getLast?_eq_none_iff.1 hq) h3
   | some x => rw [hq] at hc;simpa using hc
end
theorem rep_mid (p m:List UInt8) (T:List UInt8) (n k:Nat) (h1:T.head? ≠ some 32) (h2:T.getLast? ≠ some 32):trimB (List.replicate n 32 ++ T ++ List.replicate k 32) = T:=by
 by_cases h3:T = []
 ·subst h3
  rw [List.append_nil,List.replicate_append_replicate,trimB_rep]
 ·exact trimB_mid n k h1 h2 h3
theorem blank_stays {b t:List UInt8} {x:UInt8} (hb:b ≠ []) (h1:b.head? ≠ some 32) (hx:x ≠ 32):(32:UInt8) ∈ trimB (b ++ 32 :: x :: t):=by
 unfold trimB
 rw [trimL_head (q:=b ++ 32 :: x :: t) (by rw [headApp hb];exact h1),show b ++ 32 :: x :: t = (b ++ [32]) ++ x :: t by simp,List.reverse_append,List.reverse_cons,List.append_assoc,List.singleton_append,trimL_word _ x hx,List.reverse_append,List.reverse_reverse]
 simp
theorem readBack {A B C:ByteArray} (h:OkP A B C) (hcol:A.size = 0 → C.data.toList.head? ≠ some 58) {D:List UInt8} (hD:D = txtL A.data.toList B.data.toList C.data.toList ∨ D = [32,32] ++ txtL A.data.toList B.data.toList C.data.toList ++ [32,59,32,120,58,32,121]) {v:ByteArray × ByteArray × ByteArray × Bool} (hv:ReadR D v):v = (A,B,C,true):=by
 obtain ⟨hA,hB,hC,hbc,hlen⟩:=h
 have hOk:OkP A B C:=⟨hA,hB,hC,hbc,hlen⟩
 have ob:=op_chars hB
 have fc:=fine_chars hC
 have fe:=fine_ends hC
 have na:∀ u ∈ A.data.toList,u ≠ 58 ∧ u ≠ 59 ∧ u ≠ 32:=by
  rcases hA with z | z
  ·intro u hu
   rw [List.eq_nil_of_length_eq_zero (by rw [datL];exact z:A.data.toList.length = 0)] at hu
   exact absurd hu (by simp)
  ·exact name_chars z
 obtain ⟨a,ea⟩:∃ a,a = A.data.toList:=⟨_,rfl⟩
 obtain ⟨b,eb⟩:∃ b,b = B.data.toList:=⟨_,rfl⟩
 obtain ⟨c,ec⟩:∃ c,c = C.data.toList:=⟨_,rfl⟩
 have hbc':b = [] → c = []:=fun e => by
  rw [ec];exact List.eq_nil_of_length_eq_zero (by rw [datL];exact hbc (by rw [← datL,← eb,e];rfl))
 rw [← ea,← eb,← ec] at hD hlen
 rw [← ea] at na;rw [← eb] at ob;rw [← ec] at fc fe hcol
 have hb32:∀ u ∈ b,u ≠ 32:=fun u hu => (ob u hu).2.2
 have be:=body_ends (b:=b) (c:=c) hb32 fe.2
 have body59:∀ u ∈ bodyL b c,u ≠ 59:=by
  intro u hu
  unfold bodyL at hu
  by_cases h2:b = []
  ·rw [if_pos h2] at hu;exact absurd hu (by simp)
  ·by_cases h3:c = []
   ·rw [if_neg h2,if_pos h3] at hu;exact (ob u hu).2.1
   ·rw [if_neg h2,if_neg h3] at hu
    rcases List.mem_append.1 hu with x | x
    ·exact (ob u x).2.1
    ·rcases List.mem_cons.1 x with rfl | x
     ·decide
     ·exact fc u x
 have t59:∀ u ∈ txtL a b c,u ≠ 59:=by
  intro u hu
  by_cases h1:a = []
  ·rw [txt_none hbc' h1] at hu;exact body59 u hu
  ·rw [txt_some hbc' h1] at hu
   rcases List.mem_append.1 hu with x | x
   ·exact (na u x).2.1
   ·rcases List.mem_cons.1 x with rfl | x
    ·decide
    ·by_cases h2:b = []
     ·rw [if_pos h2] at x;exact absurd x (by simp)
     ·rw [if_neg h2] at x
      rcases List.mem_cons.1 x with rfl | x
      ·decide
      ·exact body59 u x
 have te:(txtL a b c).head? ≠ some 32 ∧ (txtL a b c).getLast? ≠ some 32:=by
  by_cases h1:a = []
  ·rw [txt_none hbc' h1];exact be
  ·rw [txt_some hbc' h1]
   refine ⟨by rw [headApp h1];exact (ne_of_all (fun u hu => (na u hu).2.2)).1,?_⟩
   rw [lastApp _ (by simp)]
   by_cases h2:b = []
   ·rw [if_pos h2];decide
   ·rw [if_neg h2,show (58:UInt8) :: 32 :: bodyL b c = [58,32] ++ bodyL b c from rfl,lastApp]
    ·exact be.2
    ·unfold bodyL;rw [if_neg h2];split
     ·exact h2
     ·simp
 -- what is left of it ahead of the comment,without blanks at the ends
 have hT:D.length ≤ 240 ∧ trimB (cutL 59 D).1 = txtL a b c:=by
  rcases hD with rfl | rfl
  ·refine ⟨by omega,?_⟩
   rw [cutL_no 59 _ t59]
   exact trimB_id te.1 te.2
  ·refine ⟨by simp;omega,?_⟩
   have e:[32,32] ++ txtL a b c ++ [32,59,32,120,58,32,121] = ([32,32] ++ txtL a b c ++ [32]) ++ 59 :: [32,120,58,32,121]:=by simp
   rw [e,cutL_yes 59]
   ·exact rep_mid [] [] _ 2 1 te.1 te.2
   ·intro u hu
    rcases List.mem_append.1 hu with x | x
    ·rcases List.mem_append.1 x with y | y
     ·rcases List.mem_cons.1 y with rfl | y
      ·decide
      ·rcases List.mem_cons.1 y with rfl | y
       ·decide
       ·exact absurd y (by simp)
     ·exact t59 u y
    ·rcases List.mem_cons.1 x with rfl | x
     ·decide
     ·exact absurd x (by simp)
 -- the label
 have hLab:∀ lab rest,LabR (txtL a b c) lab rest → lab = a ∧ rest = bodyL b c:=by
  intro lab rest hl
  by_cases h1:a = []
  ·have e0:txtL a b c = bodyL b c:=txt_none hbc' h1
   have no:¬ ((cutL 58 (txtL a b c)).2.2 = true ∧ NameG (mkB (trimB (cutL 58 (txtL a b c)).1))):=by
    rintro ⟨f1,f2⟩
    obtain ⟨k1,k2⟩:=cutL_back 58 _ f1
    rw [e0] at f1 f2 k1 k2
    have h58:(58:UInt8) ∈ bodyL b c:=by rw [k1];simp
    unfold bodyL at h58
    by_cases h2:b = []
    ·rw [if_pos h2] at h58;exact absurd h58 (by simp)
    by_cases h3:c = []
    ·rw [if_neg h2,if_pos h3] at h58;exact (ob _ h58).1 rfl
    have eB:bodyL b c = b ++ 32 :: c:=by unfold bodyL;rw [if_neg h2,if_neg h3]
    have hc58:(cutL 58 c).2.2 = true:=by
     apply Classical.byContradiction
     intro x
     have:=(cutL_false 58 c x).2
     rw [if_neg h2,if_neg h3] at h58
     rcases List.mem_append.1 h58 with y | y
     ·exact (ob _ y).1 rfl
     ·rcases List.mem_cons.1 y with y | y
      ·exact absurd y (by decide)
      ·exact this _ y rfl
    obtain ⟨m1,m2⟩:=cutL_back 58 c hc58
    have hz:A.size = 0:=by rw [← datL,← ea,h1];rfl
    have hc0:=hcol hz
    obtain ⟨c1,hc1⟩:∃ c1,c1 = (cutL 58 c).1:=⟨_,rfl⟩
    rw [← hc1] at m1 m2
    cases c1 with
    | nil => rw [m1] at hc0;exact hc0 rfl
    | cons x t =>
     have hx:x ≠ 32:=by
      intro e
      rw [m1,e] at fe
      exact fe.1 rfl
     have ecut:cutL 58 (bodyL b c) = (b ++ 32 :: x :: t,(cutL 58 c).2.1,true):=by
      rw [eB]
      conv => lhs;rw [m1]
      rw [show b ++ 32 :: (x :: t ++ 58 :: (cutL 58 c).2.1) = (b ++ 32 :: x :: t) ++ 58 :: (cutL 58 c).2.1 by simp,cutL_yes 58]
      intro u hu
      rcases List.mem_append.1 hu with y | y
      ·exact (ob u y).1
      ·rcases List.mem_cons.1 y with rfl | y
       ·decide
       ·exact m2 u y
     rw [ecut] at f2
     have:=name_chars f2 32 (by
      show (32:UInt8) ∈ trimB (b ++ 32 :: x :: t)
      exact blank_stays h2 (ne_of_all hb32).1 hx)
     exact this.2.2 rfl
   rcases hl with ⟨f1,f2,_⟩ | ⟨_,g1,g2⟩
   ·exact absurd ⟨f1,f2⟩ no
   ·exact ⟨by rw [g1,h1],by rw [g2,e0]⟩
  ·have hn:NameG A:=by
    rcases hA with z | z
    ·exact absurd (by rw [ea];exact List.eq_nil_of_length_eq_zero (by rw [datL];exact z)) h1
    ·exact z
   have ecut:cutL 58 (txtL a b c) = (a,(if b = [] then [] else 32 :: bodyL b c),true):=by
    rw [txt_some hbc' h1]
    exact cutL_yes 58 _ a (fun u hu => (na u hu).1)
   have eta:trimB a = a:=by
    have:=ne_of_all (fun u hu => (na u hu).2.2)
    exact trimB_id this.1 this.2
   have etb:trimB (if b = [] then [] else 32 :: bodyL b c) = bodyL b c:=by
    by_cases h2:b = []
    ·rw [if_pos h2];unfold bodyL;rw [if_pos h2];rfl
    ·rw [if_neg h2]
     have:=rep_mid [] [] (bodyL b c) 1 0 be.1 be.2
     simpa using this
   rcases hl with ⟨_,_,g1,g2⟩ | ⟨no,_⟩
   ·rw [ecut] at g1 g2
    exact ⟨by rw [g1];exact eta,by rw [g2];exact etb⟩
   ·rw [ecut] at no
    refine absurd ⟨rfl,?_⟩ no
    show NameG (mkB (trimB a))
    rw [eta,ea,mkB_data];exact hn
 have hBody:(cutL 32 (bodyL b c)).1 = b ∧ tdy 0 (cutL 32 (bodyL b c)).2.1 = c:=by
  unfold bodyL
  by_cases h2:b = []
  ·rw [if_pos h2,h2,hbc' h2];exact ⟨rfl,rfl⟩
  ·by_cases h3:c = []
   ·rw [if_neg h2,if_pos h3,cutL_no 32 b hb32,h3];exact ⟨rfl,rfl⟩
   ·rw [if_neg h2,if_neg h3,cutL_yes 32 c b hb32]
    refine ⟨rfl,?_⟩
    show tdy 0 c = c
    rw [ec];exact hC.2
 rcases hv with ⟨x,_⟩ | ⟨_,lab,rest,hl,hv⟩
 ·omega
 rw [hT.2] at hl
 obtain ⟨rfl,rfl⟩:=hLab lab rest hl
 have e1:mkB lab = A:=by rw [ea,mkB_data]
 have e2:mkB (cutL 32 (bodyL b c)).1 = B:=by rw [hBody.1,eb,mkB_data]
 have e3:mkB (tdy 0 (cutL 32 (bodyL b c)).2.1) = C:=by rw [hBody.2,ec,mkB_data]
 unfold OkR at hv
 rw [e1,e2,e3] at hv
 rcases hv with ⟨_,e⟩ | ⟨no,_⟩
 ·exact e
 ·exact absurd hOk no
theorem tdy_head:∀ s:List UInt8,(tdy 0 s).head? = (trimL s).head?
 | [] => rfl
 | c :: t => by
  by_cases h:c = 32
  ·rw [tdy,if_pos h,trimL,if_pos h];exact tdy_head t
  ·rw [tdy,if_neg h,trimL,if_neg h];rfl
theorem trimL_split:∀ s:List UInt8,∃ n,s = List.replicate n 32 ++ trimL s
 | [] => ⟨0,rfl⟩
 | c :: t => by
  by_cases h:c = 32
  ·obtain ⟨n,e⟩:=trimL_split t
   exact ⟨n + 1,by rw [trimL,if_pos h,List.replicate_succ,List.cons_append,← e,h]⟩
  ·exact ⟨0,by rw [trimL,if_neg h];rfl⟩
theorem readHead {D:List UInt8} {v:ByteArray × ByteArray × ByteArray × Bool} (hv:ReadR D v) (ht:v.2.2.2 = true):OkP v.1 v.2.1 v.2.2.1 ∧ (v.1.size = 0 → v.2.2.1.data.toList.head? ≠ some 58):=by
 rcases hv with ⟨_,rfl⟩ | ⟨_,lab,rest,hl,⟨ho,rfl⟩ | ⟨_,rfl⟩⟩
 ·exact absurd ht (by decide)
 rotate_left
 ·exact absurd ht (by decide)
 refine ⟨ho,fun hz hh => ?_⟩
 have hz:lab = []:=List.eq_nil_of_length_eq_zero (by rw [← mkB_size];exact hz)
 rcases hl with ⟨_,f2,f3,_⟩ | ⟨no,_,rfl⟩
 ·have:=f2.1
  rw [← f3,hz] at this
  exact absurd this (by decide)
 have hh:(tdy 0 (cutL 32 (trimB (cutL 59 D).1)).2.1).head? = some 58:=hh
 have re:=trimB_ends (cutL 59 D).1
 generalize trimB (cutL 59 D).1 = r at no hh re ho
 rw [tdy_head] at hh
 have f32:(cutL 32 r).2.2 = true:=by
  apply Classical.byContradiction
  intro x
  rw [(cutL_false 32 r x).1] at hh
  exact absurd hh (by simp [trimL])
 obtain ⟨k1,k2⟩:=cutL_back 32 r f32
 have hop:OpG (mkB (cutL 32 r).1):=ho.2.1
 obtain ⟨b,eb⟩:∃ b,b = (cutL 32 r).1:=⟨_,rfl⟩
 obtain ⟨c0,ec⟩:∃ c0,c0 = (cutL 32 r).2.1:=⟨_,rfl⟩
 rw [← eb,← ec] at k1;rw [← eb] at k2 hop;rw [← ec] at hh
 have ob:=op_chars hop
 obtain ⟨n,en⟩:=trimL_split c0
 obtain ⟨t,et⟩:∃ t,trimL c0 = 58 :: t:=by
  cases hq:trimL c0 with
  | nil => rw [hq] at hh;exact absurd hh (by simp)
  | cons x t => rw [hq] at hh;exact ⟨t,by rw [Option.some.inj hh]⟩
 rw [et] at en
 have hb:b ≠ []:=by
  intro e
  rw [k1,e] at re
  exact re.1 rfl
 have er:r = (b ++ List.replicate (n + 1) 32) ++ 58 :: t:=by
  rw [k1,en,List.replicate_succ];simp
 have ecut:cutL 58 r = (b ++ List.replicate (n + 1) 32,t,true):=by
  rw [er]
  refine cutL_yes 58 t _ (fun u hu => ?_)
  rcases List.mem_append.1 hu with y | y
  ·exact (ob u y).1
  ·rw [List.eq_of_mem_replicate y];decide
 rw [ecut] at no
 refine no ⟨rfl,?_⟩
 have hne:=ne_of_all k2
 have:trimB (b ++ List.replicate (n + 1) 32) = b:=by
  have:=trimB_mid 0 (n + 1) hne.1 hne.2 hb
  simpa using this
 show NameG (mkB (trimB (b ++ List.replicate (n + 1) 32)))
 rw [this]
 have hz1:1 ≤ (mkB b).size:=by rw [mkB_size];exact List.length_pos_iff.2 hb
 refine ⟨hz1,by have:=hop.1;omega,?_,fun i hi => ?_⟩
 ·have:=hop.2 0 (by omega)
  exact .inl ⟨this.1,this.2⟩
 ·have:=hop.2 i hi
  exact .inl (.inl ⟨this.1,this.2⟩)
def no58 (a:ByteArray):Prop:=∀ u ∈ a.data.toList,u ≠ 58
theorem no58_app {a b:ByteArray} (ha:no58 a) (hb:no58 b):no58 (a ++ b):=by
 intro u hu
 rw [app_data] at hu
 exact (List.mem_append.1 hu).elim (ha u) (hb u)
theorem rd6:∀ v:Int,0 ≤ v → v < 6 → (rdOf ByteArray.empty ([(⟨#[97]⟩:ByteArray),(⟨#[91,104,108,43,93]⟩:ByteArray),(⟨#[49,43,50]⟩:ByteArray),(⟨#[120,32,121]⟩:ByteArray),(⟨#[36,49,50]⟩:ByteArray),(⟨#[110,122]⟩:ByteArray)]:List ByteArray) v).size ≤ 5 ∧ no58 (rdOf ByteArray.empty ([(⟨#[97]⟩:ByteArray),(⟨#[91,104,108,43,93]⟩:ByteArray),(⟨#[49,43,50]⟩:ByteArray),(⟨#[120,32,121]⟩:ByteArray),(⟨#[36,49,50]⟩:ByteArray),(⟨#[110,122]⟩:ByteArray)]:List ByteArray) v):=by
 intro v v0 v1
 unfold no58
 rcases (show v = 0 ∨ v = 1 ∨ v = 2 ∨ v = 3 ∨ v = 4 ∨ v = 5 by omega) with rfl | rfl | rfl | rfl | rfl | rfl <;> decide
theorem drawA2 {s:List Int}:∀ (d:Nat) (x:ByteArray) (p:Int),d ≤ 3 → x.size + 10 * d ≤ 100 → no58 x → RdOk s p → Tot (fun k => spec_l1Rd_args.l0 k x (d:Int) s p) (fun r => r.1.size ≤ 100 ∧ no58 r.1 ∧ RdOk s r.2)
 | 0,x,p,_,hx,hn,hp => Tot.step (fun k => spec_l1Rd_args.l0.eq_2 _ _ _ _ k) (Tot.no (by decide) (Tot.ret ⟨by show x.size ≤ 100;omega,hn,hp⟩))
 | d + 1,x,p,hd,hx,hn,hp => by
  have e1:Unit → wrap64 (((d + 1:Nat):Int) - 1) = (d:Int):=fun _ => by rw [w64_in (by omega) (by omega)];omega
  have hc:no58 (⟨#[44]⟩:ByteArray):=by unfold no58;decide
  refine Tot.step (fun k => spec_l1Rd_args.l0.eq_2 _ _ _ _ k) (Tot.yes (by omega) ?_)
  rw [e1 ()]
  clear e1
  refine Tot.ite (fun _ => Tot.bind (Tot.of rfl rfl) ?_) (fun _ => Tot.yes (by omega) (Tot.bind (Tot.of rfl rfl) ?_))
  ·rintro _ rfl
   refine Tot.bind (below_T hp 6) fun v hv => ?_
   have v1:=hv.2.1 (by omega)
   obtain ⟨z,zn⟩:=rd6 v.1 hv.1 v1
   refine Tot.yes hv.1 (Tot.yes (by simpa using v1) (Tot.yes (by omega) ?_))
   exact drawA2 d _ _ (by omega) (by rw [ByteArray.size_append];omega) (no58_app hn zn) hv.2.2
  ·rintro _ rfl
   refine Tot.bind (below_T hp 6) fun v hv => ?_
   have v1:=hv.2.1 (by omega)
   obtain ⟨z,zn⟩:=rd6 v.1 hv.1 v1
   have c1:(⟨#[44]⟩:ByteArray).size = 1:=rfl
   refine Tot.yes hv.1 (Tot.yes (by simpa using v1) (Tot.yes (by rw [ByteArray.size_append];omega) ?_))
   exact drawA2 d _ _ (by omega) (by rw [ByteArray.size_append,ByteArray.size_append];omega) (no58_app (no58_app hn hc) zn) hv.2.2
theorem no58_nil:no58 (⟨#[]⟩:ByteArray):=by unfold no58;decide
theorem drawA2_T {s:List Int} {p:Int} (h:RdOk s p):Tot (fun k => spec_l1Rd_args.f k s p) (fun r => r.1.size ≤ 100 ∧ no58 r.1 ∧ RdOk s r.2):=by
 unfold spec_l1Rd_args.f
 refine Tot.bind (below_T h 3) fun v hv => ?_
 have v1:=hv.2.1 (by omega)
 have v0:=hv.1
 have:=drawA2 v.1.toNat (⟨#[]⟩:ByteArray) v.2 (by omega) (by show 0 + _ ≤ 100;omega) no58_nil hv.2.2
 rw [Int.toNat_of_nonneg v0] at this
 exact this
def Drawn (r:ByteArray × ByteArray × ByteArray):Prop:=r.1.size ≤ 20 ∧ r.2.1.size ≤ 20 ∧ r.2.2.size ≤ 120 ∧ no58 r.2.2
theorem drawLine_T {l:List Int} (hl:l.length ≤ 1048576) (hb:∀ x ∈ l,0 ≤ x ∧ x ≤ 255):Tot (fun k => spec_DrawLineOk.f k l) Drawn:=by
 obtain ⟨e0,h0⟩:=open_tot hl hb
 have j2:∀ (A B C:ByteArray) (p:Int),A.size ≤ 20 → B.size ≤ 20 → C.size ≤ 100 → no58 C → RdOk l p → Tot (fun k => spec_DrawLineOk.j2 k l p A B C) Drawn:=by
  intro A B C p hA hB hC hn hp
  refine Tot.step (fun k => spec_DrawLineOk.j2.eq_2 _ _ _ _ _ k) (Tot.bind (once_T hp 20) fun q hq => Tot.ite (fun _ => Tot.bind (Tot.of rfl rfl) ?_) (fun _ => Tot.ret ⟨hA,hB,by show C.size ≤ 120;omega,hn⟩))
  rintro _ rfl
  refine Tot.bind (below_T hq 4) fun v hv => ?_
  have v1:=hv.2.1 (by omega)
  have v0:=hv.1
  have z:(rdOf ByteArray.empty ([(⟨#[32]⟩:ByteArray),(⟨#[59]⟩:ByteArray),(⟨#[44,32,98]⟩:ByteArray),(⟨#[32,32,99]⟩:ByteArray)]:List ByteArray) v.1).size ≤ 3 ∧ no58 (rdOf ByteArray.empty ([(⟨#[32]⟩:ByteArray),(⟨#[59]⟩:ByteArray),(⟨#[44,32,98]⟩:ByteArray),(⟨#[32,32,99]⟩:ByteArray)]:List ByteArray) v.1):=by
   unfold no58
   rcases (show v.1 = 0 ∨ v.1 = 1 ∨ v.1 = 2 ∨ v.1 = 3 by omega) with e | e | e | e <;> rw [e] <;> decide
  refine Tot.yes v0 (Tot.yes (by simpa using v1) (Tot.yes (by omega) (Tot.ret ⟨hA,hB,?_,no58_app hn z.2⟩)))
  show (C ++ _).size ≤ 120
  rw [ByteArray.size_append]
  have:=z.1
  omega
 have j1:∀ (b:Bool) (A B C:ByteArray) (p:Int),A.size ≤ 20 → B.size ≤ 20 → C.size ≤ 100 → no58 C → RdOk l p → Tot (fun k => spec_DrawLineOk.j1 k b l p A B C) Drawn:=by
  intro b A B C p hA hB hC hn hp
  exact Tot.step (fun k => spec_DrawLineOk.j1.eq_2 _ _ _ _ _ _ k) (Tot.ite (fun _ => j2 _ _ _ _ hA hB (by decide) no58_nil hp) (fun _ => j2 _ _ _ _ hA hB hC hn hp))
 have j0:∀ (A B C:ByteArray) (p:Int),A.size ≤ 20 → B.size ≤ 20 → C.size ≤ 100 → no58 C → RdOk l p → Tot (fun k => spec_DrawLineOk.j0 k l p A B C) Drawn:=by
  intro A B C p hA hB hC hn hp
  exact Tot.step (fun k => spec_DrawLineOk.j0.eq_2 _ _ _ _ _ k) (Tot.ite (fun _ => Tot.bind (once_T hp 4) fun q hq => j1 _ _ _ _ _ hA hB hC hn hq) (fun _ => j1 _ _ _ _ _ hA hB hC hn hp))
 unfold spec_DrawLineOk.f
 refine Tot.bind (Tot.of e0 rfl) ?_
 rintro _ rfl
 refine Tot.bind (Tot.of rfl rfl) ?_
 rintro _ rfl
 refine Tot.bind (below_T h0 6) fun v hv => ?_
 have v1:=hv.2.1 (by omega)
 have v0:=hv.1
 refine Tot.yes v0 (Tot.yes (by simpa using v1) (Tot.bind (drawA2_T hv.2.2) fun a ha => Tot.bind (once_T ha.2.2 2) fun q hq => ?_))
 have z:(rdOf ByteArray.empty ([(⟨#[108,100]⟩:ByteArray),(⟨#[]⟩:ByteArray),(⟨#[100,98]⟩:ByteArray),(⟨#[115,101,99,116,105,111,110]⟩:ByteArray),(⟨#[76,100]⟩:ByteArray),(⟨#[97,98,99,100,101,102,103,104,105,106,107]⟩:ByteArray)]:List ByteArray) v.1).size ≤ 20:=by
  rcases (show v.1 = 0 ∨ v.1 = 1 ∨ v.1 = 2 ∨ v.1 = 3 ∨ v.1 = 4 ∨ v.1 = 5 by omega) with e | e | e | e | e | e <;> rw [e] <;> decide
 refine Tot.ite (fun _ => Tot.bind (Tot.of rfl rfl) ?_) (fun _ => j0 _ _ _ _ (by decide) z ha.1 ha.2.1 hq)
 rintro _ rfl
 refine Tot.bind (below_T hq 4) fun u hu => ?_
 have u1:=hu.2.1 (by omega)
 have u0:=hu.1
 have z2:(rdOf ByteArray.empty ([(⟨#[120]⟩:ByteArray),(⟨#[46,121]⟩:ByteArray),(⟨#[108,111,111,112]⟩:ByteArray),(⟨#[49]⟩:ByteArray)]:List ByteArray) u.1).size ≤ 20:=by
  rcases (show u.1 = 0 ∨ u.1 = 1 ∨ u.1 = 2 ∨ u.1 = 3 by omega) with e | e | e | e <;> rw [e] <;> decide
 exact Tot.yes u0 (Tot.yes (by simpa using u1) (j0 _ _ _ _ z2 z ha.1 ha.2.1 hu.2.2))
theorem drawText_T {l:List Int} (hl:l.length ≤ 1048576) (hb:∀ x ∈ l,0 ≤ x ∧ x ≤ 255):Tot (fun k => spec_DrawLineText.f k l) Drawn:=by
 unfold spec_DrawLineText.f
 exact Tot.bind (drawLine_T hl hb) fun r hr => Tot.ret hr
theorem drawRead_T {l:List Int} (hl:l.length ≤ 1048576) (hb:∀ x ∈ l,0 ≤ x ∧ x ≤ 255):Tot (fun k => spec_DrawReadLine.f k l) (fun r => r.size ≤ 10000):=by
 obtain ⟨e0,h0⟩:=open_tot hl hb
 unfold spec_DrawReadLine.f
 refine Tot.bind (Tot.of e0 rfl) ?_
 rintro _ rfl
 refine Tot.bind (drawLine_T hl hb) ?_
 rintro ⟨A,B,C⟩ ⟨hA,hB,hC,hn⟩
 dsimp only at hA hB hC ⊢
 obtain ⟨v,hv,_,v2⟩:=bothText (A:=A) (B:=B) (C:=C) (by omega) (by omega) (by omega)
 have hz:v.size ≤ 200:=by
  rcases hv with ⟨_,rfl⟩ | ⟨_,rfl⟩
  ·have:=(txtL_len A.data.toList B.data.toList C.data.toList).1
   rw [datL,datL,datL] at this
   rw [mkB_size];omega
  ·decide
 refine Tot.bind v2 ?_
 rintro z rfl
 refine Tot.bind (below_T h0 5) fun q hq => ?_
 have c1:(⟨#[32,32]⟩:ByteArray).size = 2:=rfl
 have c2:(⟨#[32,32,59,32,99,111,109,109,101,110,116,58,32,120]⟩:ByteArray).size = 14:=rfl
 refine Tot.ite (fun _ => Tot.yes (by omega) (Tot.yes (by rw [ByteArray.size_append];omega) (Tot.ret ?_))) (fun _ => Tot.ite (fun _ => Tot.ret (by decide)) (fun _ => Tot.ite (fun _ => ?_) (fun _ => Tot.ret (by omega))))
 ·rw [ByteArray.size_append,ByteArray.size_append];omega
 ·obtain ⟨r,p,e,e1,e2⟩:=hurt_tot hq.2.2 z (by omega)
  refine Tot.bind (Tot.of e rfl) ?_
  rintro _ rfl
  exact Tot.ret (by show r.size ≤ 10000;omega)
theorem FnLines:laws_FnLines.Pure:=by
 intro l hm hl hw
 refine Tot.done ?_
 unfold laws_FnLines.f laws_big.f
 refine Tot.bind (Tot.of rfl rfl) ?_
 rintro _ rfl
 refine Tot.ite (fun _ => Tot.ret rfl) (fun hbig => ?_)
 have hll:l.length ≤ 1048576:=by simp at hbig;omega
 -- what is read,written,is read as the same
 have j3:∀ v:List UInt8 × ByteArray × ByteArray × ByteArray × Bool,ReadR v.1 v.2 → v.2.2.2.2 = true → Tot (fun k => laws_FnLines.j3 k v.2.2.2.2 v.2.2.2.2 (!v.2.2.2.2) v.2.1 v.2.2.1 v.2.2.2.1 v.2.1 v.2.2.1 v.2.2.2.1) (· = true):=by
  rintro ⟨D,A,B,C,t⟩ hv ht
  dsimp only at hv ht ⊢
  obtain ⟨ho,hc⟩:=readHead hv ht
  dsimp only at ho hc
  have tl:=txtL_len A.data.toList B.data.toList C.data.toList
  have hA:A.size ≤ 1000000:=by
   rcases ho.1 with z | z
   ·omega
   ·have:=z.2.1;omega
  have hB:B.size ≤ 1000000:=by have:=ho.2.1.1;omega
  have hC:C.size ≤ 1000000:=by have:=ho.2.2.2.2;rw [← datL];omega
  obtain ⟨s,hs,s1,_⟩:=bothText hA hB hC
  have hs:s = mkB (txtL A.data.toList B.data.toList C.data.toList):=by
   rcases hs with ⟨_,e⟩ | ⟨no,_⟩
   ·exact e
   ·exact absurd ho no
  obtain ⟨w,w1,w2,_⟩:=bothRead (s:=s) (by rw [hs,mkB_size];have:=ho.2.2.2.2;omega)
  have ew:=readBack ho hc (D:=s.data.toList) (.inl (by rw [hs];rfl)) w1
  refine Tot.step (fun k => laws_FnLines.j3.eq_2 _ _ _ _ _ _ _ _ _ k) (Tot.no (by rw [ht];decide) (Tot.bind s1 ?_))
  rintro _ rfl
  refine Tot.bind w2 ?_
  rintro _ rfl
  refine Tot.bind (okI_T hA hB hC) fun b hb => Tot.yes (hb.2 ho) (Tot.yes (by rw [ew]) (Tot.ret ?_))
  rw [ew]
  simp
 have j2:Tot (fun k => laws_FnLines.j2 k l) (· = true):=by
  refine Tot.step (fun k => laws_FnLines.j2.eq_2 _ k) (Tot.bind (drawRead_T hll (bytes_wf hw)) fun t ht => ?_)
  obtain ⟨v,v1,v2,v3⟩:=bothRead (s:=t) (by omega)
  refine Tot.bind v2 ?_
  rintro z rfl
  refine Tot.bind v3 ?_
  rintro v rfl
  refine Tot.no (by simp) (Tot.no (by simp) ?_)
  by_cases hb:v.2.2.2 = true
  ·exact j3 (t.data.toList,v) v1 hb
  ·refine Tot.step (fun k => laws_FnLines.j3.eq_2 _ _ _ _ _ _ _ _ _ k) (Tot.yes (by simpa using hb) (Tot.yes (by simp) (Tot.ret (by simp))))
 have j1:∀ b:Bool,b = false → Tot (fun k => laws_FnLines.j1 k l b) (· = true):=by
  rintro _ rfl
  exact Tot.step (fun k => laws_FnLines.j1.eq_2 _ _ k) (Tot.no (by decide) j2)
 refine Tot.bind (drawText_T hll (bytes_wf hw)) ?_
 rintro ⟨A,B,C⟩ ⟨hA,hB,hC,hn⟩
 dsimp only at hA hB hC hn ⊢
 have hA:A.size ≤ 1000000:=by omega
 have hB:B.size ≤ 1000000:=by omega
 have hC:C.size ≤ 1000000:=by omega
 obtain ⟨s,hs,s1,s2⟩:=bothText hA hB hC
 have hz:s.size ≤ 1000:=by
  rcases hs with ⟨_,rfl⟩ | ⟨_,rfl⟩
  ·have:=(txtL_len A.data.toList B.data.toList C.data.toList).1
   rw [datL,datL,datL] at this
   rw [mkB_size];omega
  ·decide
 refine Tot.bind s1 ?_
 rintro z rfl
 refine Tot.bind s2 ?_
 rintro s rfl
 refine Tot.yes rfl (Tot.bind (okI_T hA hB hC) fun b hb => Tot.bind (okS_T hA hB hC) fun b' hb' => ?_)
 have ebb:b = b':=by
  by_cases h:OkP A B C
  ·rw [hb.2 h,hb'.2 h]
  ·rw [Bool.eq_false_iff.2 (fun e => h (hb.1 e)),Bool.eq_false_iff.2 (fun e => h (hb'.1 e))]
 subst ebb
 refine Tot.step (fun k => laws_FnLines.j0.eq_2 _ _ _ _ _ _ k) (Tot.no (by simp) (Tot.bind (okI_T hA hB hC) fun c hc => Tot.ite (fun e => ?_) (fun _ => j2)))
 have ho:=hc.1 e
 have hs':s = mkB (txtL A.data.toList B.data.toList C.data.toList):=by
  rcases hs with ⟨_,e⟩ | ⟨no,_⟩
  ·exact e
  ·exact absurd ho no
 have hcol:A.size = 0 → C.data.toList.head? ≠ some 58:=fun _ hh => hn 58 (List.mem_of_mem_head? hh) rfl
 have c1:(⟨#[32,32]⟩:ByteArray).size = 2:=rfl
 have c2:(⟨#[32,59,32,120,58,32,121]⟩:ByteArray).size = 7:=rfl
 obtain ⟨v,v1,v2,_⟩:=bothRead (s:=s) (by omega)
 have ev:=readBack ho hcol (.inl (by rw [hs'];rfl)) v1
 obtain ⟨u,u1,u2,_⟩:=bothRead (s:=((⟨#[32,32]⟩:ByteArray) ++ s) ++ (⟨#[32,59,32,120,58,32,121]⟩:ByteArray)) (by rw [ByteArray.size_append,ByteArray.size_append];omega)
 have eu:=readBack ho hcol (.inr (by rw [app_data,app_data,hs'];rfl)) u1
 refine Tot.bind v2 ?_
 intro x ex
 refine Tot.yes (by omega) (Tot.yes (by rw [ByteArray.size_append];omega) (Tot.bind u2 ?_))
 intro y ey
 rw [ex,ey,ev,eu]
 refine Tot.yes rfl (Tot.no (by simp) (Tot.yes rfl (j1 _ (by simp))))
end Go.Proofs.YtoiiaklmjpiejaaDoor.Pure
