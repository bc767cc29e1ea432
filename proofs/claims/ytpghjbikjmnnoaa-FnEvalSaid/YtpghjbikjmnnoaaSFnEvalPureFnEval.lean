import Derived.Test.YtpghjbikjmnnoaaSFnEvalQFnEvalx
import Derived.Test.YtpghjbikjmnnoaaSFnEvalXEv2
import Derived.Sort.Walk0
namespace Go.Proofs.Ytpghjbikjmnnoaa.Pure
open Go.RowKit Go.Proofs.Ytpghjbikjmnnoaa.QFnEval Go.Proofs.YtpghjbikjmnnoaaW.PrintWords Go.Proofs.YtpghjbikjmnnoaaW.PrintLast Go.Proofs.YtpghjbikjmnnoaaW.PrintMore Go.Proofs.Ytpghjbikjmnnoaa.Lib Go.Proofs.Ytpghjbikjmnnoaa.LibX Go.Proofs.Ytpghjbikjmnnoaa.LibCv Go.Proofs.Ytpghjbikjmnnoaa.LibNm Go.Proofs.Ytpghjbikjmnnoaa.XEv1 Go.Proofs.Ytpghjbikjmnnoaa.XEv2
open Go.Proofs.Ytpghjbikjmnnoaa.LibG (S45 rd_T45 z45 S33 rd_T33 z33)
open Go.Proofs.Ytpghjbikjmnnoaa.XNmZ (Tot)
set_option linter.unusedSimpArgs false
set_option linter.unusedVariables false
def SN (l:List ByteArray):Prop:=l.Pairwise (fun a b => a.data.toList < b.data.toList)
theorem SN.eq {a b:List ByteArray} (ha:SN a) (hb:SN b) (h:∀ x,x ∈ a ↔ x ∈ b):a = b:=by
 have nd:∀ {l:List ByteArray},SN l → l.Nodup:=fun h => List.Pairwise.imp (fun {x y} hxy e => by subst e;exact List.lt_irrefl _ hxy) h
 have hp:a.Perm b:=(List.perm_ext_iff_of_nodup (nd ha) (nd hb)).2 h
 refine List.Perm.eq_of_pairwise (le:=fun x y:ByteArray => x.data.toList < y.data.toList) (fun x y _ _ h1 h2 => ?_) ha hb hp
 exact absurd (List.lt_trans h1 h2) (List.lt_irrefl _)
theorem le_lt {x y z:List UInt8} (h1:x ≤ y) (h2:y < z):x < z:=by
 rcases Decidable.em (x < z) with h | h
 ·exact h
 ·exact absurd h2 (by have:z ≤ y:=List.le_trans (List.not_lt.1 h) h1;exact List.not_lt.2 this)
theorem le_ne {x y:List UInt8} (h:x ≤ y) (hn:x ≠ y):x < y:=by
 rcases Decidable.em (x < y) with g | g
 ·exact g
 ·exact absurd (List.le_antisymm h (List.not_lt.1 g)) hn
theorem comp_up (zs:List (List UInt8)) (hs:∀ i j,i ≤ j → j < zs.length → zs.toArray[i]! ≤ zs.toArray[j]!):∀ m,m ≤ zs.length → (Lib.compactUpTo zs.toArray m).Pairwise (· < ·) ∧ (∀ x,x ∈ Lib.compactUpTo zs.toArray m ↔ ∃ j,j < m ∧ zs.toArray[j]! = x):=by
 intro m
 induction m with
 | zero =>
  intro _
  have:Lib.compactUpTo zs.toArray 0 = []:=rfl
  rw [this]
  exact ⟨List.Pairwise.nil,fun x => Iff.intro (fun h => by cases h) (fun ⟨j,h,_⟩ => absurd h (Nat.not_lt_zero _))⟩
 | succ m ih =>
  intro hm
  obtain ⟨h1,h2⟩:=ih (by omega)
  rw [Lib.compactUpTo_succ]
  by_cases hk:Lib.keeps zs.toArray m = true
  ·rw [if_pos hk]
   have hk:m = 0 ∨ zs.toArray[m]! ≠ zs.toArray[m - 1]!:=of_decide_eq_true hk
   refine ⟨List.pairwise_append.2 ⟨h1,List.pairwise_singleton _ _,fun x hx y hy => ?_⟩,fun x => ?_⟩
   ·rw [List.mem_singleton] at hy
    subst hy
    obtain ⟨j,hj,rfl⟩:=(h2 x).1 hx
    rcases hk with hk | hk
    ·omega
    ·exact le_lt (hs j (m - 1) (by omega) (by omega)) (le_ne (hs (m - 1) m (by omega) (by omega)) (fun e => hk e.symm))
   ·rw [List.mem_append,h2,List.mem_singleton]
    constructor
    ·rintro (⟨j,hj,e⟩ | e)
     ·exact ⟨j,by omega,e⟩
     ·exact ⟨m,by omega,e.symm⟩
    ·rintro ⟨j,hj,e⟩
     by_cases c:j < m
     ·exact .inl ⟨j,c,e⟩
     ·obtain rfl:j = m:=by omega
      exact .inr e.symm
  ·rw [if_neg hk,List.append_nil]
   have hk:¬ (m = 0 ∨ zs.toArray[m]! ≠ zs.toArray[m - 1]!):=fun h => hk (decide_eq_true h)
   have hm0:m ≠ 0:=fun h => hk (.inl h)
   have he:zs.toArray[m]! = zs.toArray[m - 1]!:=Classical.byContradiction fun h => hk (.inr h)
   refine ⟨h1,fun x => ?_⟩
   rw [h2]
   constructor
   ·rintro ⟨j,hj,e⟩
    exact ⟨j,by omega,e⟩
   ·rintro ⟨j,hj,e⟩
    by_cases c:j < m
    ·exact ⟨j,c,e⟩
    ·obtain rfl:j = m:=by omega
     exact ⟨j - 1,by omega,by rw [← he,e]⟩
theorem comp_sort (l:List (List UInt8)):(Lib.compact (l.mergeSort fun x y => decide (x ≤ y))).Pairwise (· < ·) ∧ ∀ x,x ∈ Lib.compact (l.mergeSort fun x y => decide (x ≤ y)) ↔ x ∈ l:=by
 have tr:∀ a b c:List UInt8,decide (a ≤ b) = true → decide (b ≤ c) = true → decide (a ≤ c) = true:=fun a b c h1 h2 => by simp only [decide_eq_true_eq] at *;exact List.le_trans h1 h2
 have tot_:∀ a b:List UInt8,(decide (a ≤ b) || decide (b ≤ a)) = true:=fun a b => by simp only [Bool.or_eq_true,decide_eq_true_eq];exact List.le_total a b
 have hp:=List.pairwise_mergeSort tr tot_ l
 generalize hz:(l.mergeSort fun x y => decide (x ≤ y)) = zs at hp ⊢
 have hm:∀ x,x ∈ zs ↔ x ∈ l:=fun x => by rw [← hz];exact (List.mergeSort_perm l _).mem_iff
 have at_:∀ i (h:i < zs.length),zs.toArray[i]! = zs[i]:=fun i h => by
  rw [getElem!_pos zs.toArray i (by simpa using h)]
  simp
 have hs:∀ i j,i ≤ j → j < zs.length → zs.toArray[i]! ≤ zs.toArray[j]!:=by
  intro i j hij hj
  rw [at_ i (by omega),at_ j hj]
  by_cases c:i = j
  ·subst c;exact List.le_refl _
  ·exact of_decide_eq_true (List.pairwise_iff_getElem.1 hp i j (by omega) hj (by omega))
 obtain ⟨h1,h2⟩:=comp_up zs hs zs.length (Nat.le_refl _)
 refine ⟨h1,fun x => ?_⟩
 rw [show Lib.compact zs = Lib.compactUpTo zs.toArray zs.length from rfl,h2,← hm,List.mem_iff_getElem]
 constructor
 ·rintro ⟨j,hj,e⟩
  exact ⟨j,hj,by rw [← at_ j hj];exact e⟩
 ·rintro ⟨j,hj,e⟩
  exact ⟨j,hj,by rw [at_ j hj];exact e⟩
theorem comp_B (xs:List ByteArray):SN (compB (sortB xs)) ∧ ∀ x,x ∈ compB (sortB xs) ↔ x ∈ xs:=by
 have hb:(sortB xs).map ofB = (xs.map ofB).mergeSort fun x y => decide (x ≤ y):=by
  unfold sortB
  rw [List.map_map]
  conv => rhs;rw [← List.map_id ((xs.map ofB).mergeSort fun x y => decide (x ≤ y))]
  rfl
 obtain ⟨h1,h2⟩:=comp_sort (xs.map ofB)
 unfold compB
 rw [hb]
 refine ⟨List.pairwise_map.2 h1,fun x => ?_⟩
 rw [List.mem_map]
 constructor
 ·rintro ⟨l,hl,rfl⟩
  obtain ⟨y,hy,e⟩:=List.mem_map.1 ((h2 l).1 hl)
  have:toB l = y:=by rw [← e];rfl
  rw [this]
  exact hy
 ·intro hx
  exact ⟨ofB x,(h2 _).2 (List.mem_map.2 ⟨x,hx,rfl⟩),rfl⟩
theorem rdB_at {ys:List ByteArray} {i:Nat} (h:i < ys.length):rdOf ByteArray.empty ys (i:Int) = ys[i]:=by
 unfold rdOf
 rw [Int.toNat_natCast,List.getD_eq_getElem?_getD,List.getElem?_eq_getElem h]
 rfl
def RdOk (s:List Int) (p:Int):Prop:=0 ≤ p ∧ p ≤ s.length ∧ s.length ≤ 1048576 ∧ ∀ x ∈ s,0 ≤ x ∧ x ≤ 255
theorem rd_mem {s:List Int} {p:Int} (h0:0 ≤ p) (h1:p < (s.length:Int)):rd s p ∈ s:=by
 unfold rd
 rw [List.getD_eq_getElem?_getD,List.getElem?_eq_getElem (by omega)]
 exact List.getElem_mem _
theorem open_tot {l:List Int} (hl:l.length ≤ 1048576) (hb:∀ x ∈ l,0 ≤ x ∧ x ≤ 255):spec_l1Open.f l = some (l,0) ∧ RdOk l 0 :=
 ⟨rfl,by omega,by omega,hl,hb⟩
theorem next_tot {s:List Int} {p:Int} (h:RdOk s p):∃ v q,spec_l1Rd_next.f s p = some (v,q) ∧ 0 ≤ v ∧ v ≤ 255 ∧ RdOk s q:=by
 obtain ⟨h0,h1,h2,h3⟩:=h
 unfold spec_l1Rd_next.f
 by_cases c:p ≥ (s.length:Int)
 ·rw [if_pos c]
  exact ⟨0,p,rfl,by omega,by omega,h0,h1,h2,h3⟩
 ·have hm:=h3 _ (rd_mem h0 (show p < (s.length:Int) by omega))
  have e:p + 1 - 1 = p:=by omega
  rw [if_neg c,w64_in (n:=p + 1) (by omega) (by omega),w64_in (n:=p + 1 - 1) (by omega) (by omega),e,if_pos h0,if_pos (by omega),w64_in (n:=rd s p) (by omega) (by omega)]
  exact ⟨_,_,rfl,hm.1,hm.2,by omega,by omega,h2,h3⟩
theorem below_tot {s:List Int} {p:Int} (h:RdOk s p) (n:Int):∃ v q,spec_l1Rd_below.f s p n = some (v,q) ∧ 0 ≤ v ∧ (1 ≤ n → v < n) ∧ RdOk s q:=by
 unfold spec_l1Rd_below.f
 by_cases c:n ≤ 1
 ·rw [if_pos c]
  exact ⟨0,p,rfl,by omega,by omega,h⟩
 ·rw [if_neg c]
  obtain ⟨v,q,e1,v0,v1,h1⟩:=next_tot h
  by_cases c2:n ≤ 256
  ·rw [if_pos c2,e1]
   simp only [Option.bind_some]
   rw [if_neg (by omega),tmod_pos _ v0]
   exact ⟨_,_,rfl,Int.emod_nonneg _ (by omega),fun _ => Int.emod_lt_of_pos _ (by omega),h1⟩
  ·obtain ⟨u,r,e2,u0,u1,h2⟩:=next_tot h1
   rw [if_neg c2,e1]
   simp only [Option.bind_some]
   rw [e2]
   simp only [Option.bind_some]
   rw [if_neg (by omega),w64_in (n:=v * 256) (by omega) (by omega),w64_in (n:=v * 256 + u) (by omega) (by omega),tmod_pos _ (by omega)]
   exact ⟨_,_,rfl,Int.emod_nonneg _ (by omega),fun _ => Int.emod_lt_of_pos _ (by omega),h2⟩
theorem once_tot {s:List Int} {p:Int} (h:RdOk s p) (n:Int):∃ b q,spec_l1Rd_once.f s p n = some (b,q) ∧ RdOk s q:=by
 obtain ⟨v,q,e,_,_,hq⟩:=below_tot h n
 unfold spec_l1Rd_once.f
 rw [e]
 exact ⟨_,_,rfl,hq⟩
theorem word_tot_l {s:List Int}:∀ (k:Nat) (x i p:Int),RdOk s p → 0 ≤ i → i ≤ 8 → 8 - i < k → ∃ v q,spec_l1Rd_word.l0 k x i s p = some (v,q) ∧ RdOk s q:=by
 intro k
 induction k with
 | zero => intros;omega
 | succ k ih =>
  intro x i p h i0 i1 hk
  simp only [spec_l1Rd_word.l0]
  by_cases c:i < 8
  ·obtain ⟨v,q,e,_,_,hq⟩:=next_tot h
   rw [if_pos c,e]
   simp only [Option.bind_some]
   rw [w64_in (n:=i + 1) (by omega) (by omega)]
   exact ih _ _ _ hq (by omega) (by omega) (by omega)
  ·rw [if_neg c]
   exact ⟨_,_,rfl,h⟩
theorem word_tot {s:List Int} {p:Int} (h:RdOk s p) {k:Nat} (hk:9 ≤ k):∃ v q,spec_l1Rd_word.f k s p = some (v,q) ∧ RdOk s q :=
 word_tot_l k 0 0 p h (by omega) (by omega) (by omega)
theorem near_tot {s:List Int} {p:Int} (h:RdOk s p) {k:Nat} (hk:9 ≤ k) (lo hi:Int) (hlo:-4294967296 ≤ lo) (hhi:hi ≤ 4294967296):∃ v q,spec_l1Rd_near.f k s p lo hi = some (v,q) ∧ RdOk s q:=by
 unfold spec_l1Rd_near.f
 obtain ⟨v,q,e,_,_,hq⟩:=below_tot h 8
 rw [e]
 simp only [Option.bind_some]
 by_cases c0:v = 0
 ·rw [if_pos c0];exact ⟨_,_,rfl,hq⟩
 ·rw [if_neg c0]
  by_cases c1:v = 1
  ·rw [if_pos c1];exact ⟨_,_,rfl,hq⟩
  ·rw [if_neg c1]
   by_cases c2:hi < lo
   ·rw [if_pos c2];exact ⟨_,_,rfl,hq⟩
   ·rw [if_neg c2]
    obtain ⟨x,r,e2,hr⟩:=word_tot hq hk
    rw [e2]
    simp only [Option.bind_some]
    rw [w64_in (n:=hi - lo) (by omega) (by omega),w64_in (n:=hi - lo + 1) (by omega) (by omega),u64_in (n:=hi - lo + 1) (by omega) (by omega),if_neg (by omega)]
    exact ⟨_,_,rfl,hr⟩
theorem off_tot {s:List Int} {p:Int} (h:RdOk s p) {k:Nat} (hk:9 ≤ k) (lo hi:Int) (hlo:-4294967296 ≤ lo) (hhi:hi ≤ 4294967296):∃ v q,spec_l1Rd_off.f k s p lo hi = some (v,q) ∧ RdOk s q:=by
 unfold spec_l1Rd_off.f
 obtain ⟨b,q,e,hq⟩:=once_tot h 24
 rw [e]
 simp only [Option.bind_some]
 by_cases c:b = true
 ·rw [if_pos c]
  obtain ⟨v,r,e2,v0,v1,hr⟩:=below_tot hq 4
  rw [e2]
  simp only [Option.bind_some]
  have v4:=v1 (by omega)
  rw [if_pos v0,if_pos (by simp only [List.length_cons,List.length_nil];omega)]
  exact ⟨_,_,rfl,hr⟩
 ·rw [if_neg c]
  obtain ⟨v,r,e2,hr⟩:=near_tot hq hk lo hi hlo hhi
  rw [e2]
  exact ⟨_,_,rfl,hr⟩
theorem off_T {s:List Int} {p:Int} (h:RdOk s p) (lo hi:Int) (hlo:-4294967296 ≤ lo) (hhi:hi ≤ 4294967296):Tot (fun k => spec_l1Rd_off.f k s p lo hi) (fun r => RdOk s r.2):=by
 obtain ⟨v,q,e,h2⟩:=off_tot h (k:=9) (Nat.le_refl _) lo hi hlo hhi
 exact Tot.lift (fun k => spec_l1Rd_off.mono _ _ _ _ k) e h2
theorem bytes_wf {l:List Int} (h:∀ x ∈ l,(Lit.int .u8 x).wf = true):∀ x ∈ l,0 ≤ x ∧ x ≤ 255:=by
 intro x hx
 have h1:=h x hx
 have e0:IntKind.u8.min = 0:=rfl
 have e1:IntKind.u8.max = 255:=rfl
 simp only [Lit.wf,e0,e1,Bool.and_eq_true,decide_eq_true_eq] at h1
 exact h1
theorem below_T {s:List Int} {p:Int} (h:RdOk s p) (n:Int):Tot (fun _ => spec_l1Rd_below.f s p n) (fun r => 0 ≤ r.1 ∧ (1 ≤ n → r.1 < n) ∧ RdOk s r.2):=by
 obtain ⟨v,q,e,h0,h1,h2⟩:=below_tot h n
 exact Tot.of e ⟨h0,h1,h2⟩
theorem once_T {s:List Int} {p:Int} (h:RdOk s p) (n:Int):Tot (fun _ => spec_l1Rd_once.f s p n) (fun r => RdOk s r.2):=by
 obtain ⟨v,q,e,h0⟩:=once_tot h n
 exact Tot.of e h0
theorem ev_in (F:ByteArray → Option SY):∀ (e:List EX) (h:Int) (st:List Int),StOk st → okFrom h e → I32 (ev F st e).1
 | [],h,st,hs,_ => st_rd hs 0
 | x :: l,h,st,hs,ho => by
  have z:I32 0:=by unfold I32;omega
  obtain ⟨hn,ho⟩:=ho
  rw [ev]
  by_cases c:x.f0 = 1
  ·rw [if_pos c]
   rw [if_pos (by omega)] at ho
   have hw:0 ≤ x.f1 ∧ x.f1 ≤ 65535:=by rcases hn with h | h | h <;> omega
   exact ev_in F l _ _ (st_put hs (word_in hw)) ho
  ·rw [if_neg c]
   by_cases c3:x.f0 ≤ 3
   ·rw [if_pos c3]
    rw [if_pos c3] at ho
    rcases F x.f2 with _ | y
    ·exact z
    ·exact ev_in F l _ _ (st_put hs (w32_in _)) ho
   ·rw [if_neg c3]
    rw [if_neg c3] at ho
    by_cases c7:x.f0 ≤ 7
    ·rw [if_pos c7]
     rw [if_pos c7] at ho
     exact ev_in F l _ _ (st_set hs (sgF_in (st_rd hs _)) _) ho.2
    ·rw [if_neg c7]
     rw [if_neg c7] at ho
     by_cases c8:(opF x.f0 (rd st ((st.length:Int) - 2)) (rd st ((st.length:Int) - 1))).2 = true
     ·rw [if_pos c8]
      exact ev_in F l _ _ (st_put (st_take hs _) (opF_in (st_rd hs _) (st_rd hs _))) ho.2
     ·rw [if_neg c8]
      exact z
def asks (x:EX):Prop:=¬ x.f0 = 1 ∧ x.f0 ≤ 3
theorem ev_code (F:ByteArray → Option SY):∀ (e:List EX) (st:List Int),((ev F st e).2 = 0 ∧ ∀ x ∈ e,asks x → ¬ F x.f2 = none) ∨ ((ev F st e).2 = 2 ∧ ∃ x ∈ e,asks x ∧ F x.f2 = none) ∨ (ev F st e).2 = 3
 | [],st => .inl ⟨rfl,fun x h => by cases h⟩
 | x :: l,st => by
  have nx:∀ st',(asks x → ¬ F x.f2 = none) → (((ev F st' l).2 = 0 ∧ ∀ y ∈ x :: l,asks y → ¬ F y.f2 = none) ∨ ((ev F st' l).2 = 2 ∧ ∃ y ∈ x :: l,asks y ∧ F y.f2 = none) ∨ (ev F st' l).2 = 3):=by
   intro st' hx
   rcases ev_code F l st' with h | h | h
   ·refine .inl ⟨h.1,fun y hy => ?_⟩
    rcases List.mem_cons.1 hy with rfl | hy
    ·exact hx
    ·exact h.2 y hy
   ·obtain ⟨h1,y,hy,h2⟩:=h
    exact .inr (.inl ⟨h1,y,List.mem_cons_of_mem _ hy,h2⟩)
   ·exact .inr (.inr h)
  rw [ev]
  by_cases c:x.f0 = 1
  ·rw [if_pos c]
   exact nx _ (fun h => absurd c h.1)
  ·rw [if_neg c]
   by_cases c3:x.f0 ≤ 3
   ·rw [if_pos c3]
    rcases hF:F x.f2 with _ | y
    ·exact .inr (.inl ⟨rfl,x,List.mem_cons_self,⟨c,c3⟩,hF⟩)
    ·exact nx _ (fun _ h => by rw [hF] at h;cases h)
   ·rw [if_neg c3]
    have no:asks x → ¬ F x.f2 = none:=fun h => absurd h.2 c3
    by_cases c7:x.f0 ≤ 7
    ·rw [if_pos c7]
     exact nx _ no
    ·rw [if_neg c7]
     split
     ·exact nx _ no
     ·exact .inr (.inr rfl)
theorem ev_congr {F G:ByteArray → Option SY}:∀ (e:List EX) (st:List Int),(∀ x ∈ e,F x.f2 = G x.f2) → ev F st e = ev G st e
 | [],st,_ => rfl
 | x :: l,st,h => by
  have ih:∀ st',ev F st' l = ev G st' l:=fun st' => ev_congr l st' fun y hy => h y (List.mem_cons_of_mem _ hy)
  rw [ev,ev,h x List.mem_cons_self]
  simp only [ih]
def EvR (e:List EX) (l:List SY) (r:Int × Int):Prop:=(OkE e ∧ l.length ≤ 200 ∧ r = ev (findS l) [] e) ∨ ((¬ OkE e ∨ 200 < l.length) ∧ r = (0,1))
theorem EvR.one {e:List EX} {l:List SY} {a b:Int × Int} (ha:EvR e l a) (hb:EvR e l b):a = b:=by
 rcases ha with ha | ha <;> rcases hb with hb | hb
 ·rw [ha.2.2,hb.2.2]
 ·rcases hb.1 with h | h
  ·exact absurd ha.1 h
  ·have:=ha.2.1;omega
 ·rcases ha.1 with h | h
  ·exact absurd hb.1 h
  ·have:=hb.2.1;omega
 ·rw [ha.2,hb.2]
theorem evalI_T {e:List EX} {l:List SY} (hs:SeenE e) (hl:l.length ≤ 1000000):Tot (fun k => impl_EvalExpr.f k e l) (EvR e l):=by
 unfold impl_EvalExpr.f
 refine Tot.bind (exI_T hs) fun t ht => Tot.ite (fun c => ?_) (fun c => Tot.ret (.inr ⟨.inl fun h => c (ht.2 h),rfl⟩))
 have ho:=ht.1 c
 refine Tot.ite (fun c2 => Tot.ret (.inr ⟨.inr (by omega),rfl⟩)) (fun c2 => ?_)
 have hv:=evI_T hl ho.1 _ 0 [] rfl (Nat.zero_le _) (Nat.le_refl _) (fun v h => by cases h) (by rw [List.drop_zero];exact ho.2)
 rw [List.drop_zero] at hv
 unfold impl_evaluated.f
 refine Tot.bind hv ?_
 rintro _ rfl
 exact Tot.ret (.inl ⟨ho,by omega,rfl⟩)
theorem evalS_T {e:List EX} {l:List SY} (hs:SeenE e) (hl:l.length ≤ 1000000):Tot (fun k => spec_EvalExpr.f k e l) (EvR e l):=by
 unfold spec_EvalExpr.f
 refine Tot.bind (exS_T hs) fun t ht => Tot.ite (fun c => ?_) (fun c => Tot.ret (.inr ⟨.inl fun h => c (ht.2 h),rfl⟩))
 have ho:=ht.1 c
 refine Tot.ite (fun c2 => Tot.ret (.inr ⟨.inr (by omega),rfl⟩)) (fun c2 => ?_)
 have hv:=evS_T hl ho.1 _ 0 [] rfl (Nat.zero_le _) (Nat.le_refl _) (fun v h => by cases h) (by rw [List.drop_zero];exact ho.2)
 rw [List.drop_zero] at hv
 unfold spec_l2Eval.f
 refine Tot.bind hv ?_
 rintro _ rfl
 exact Tot.ret (.inl ⟨ho,by omega,rfl⟩)
def NamesR (e:List EX) (r:List ByteArray):Prop:=(OkE e ∧ SN r ∧ (∀ x,x ∈ r ↔ x ∈ namesF e) ∧ r.length ≤ e.length) ∨ (¬ OkE e ∧ r = [])
theorem namesI_T {e:List EX} (hs:SeenE e):Tot (fun k => impl_NamesIn.f k e) (NamesR e):=by
 unfold impl_NamesIn.f
 refine Tot.bind (exI_T hs) fun t ht => Tot.ite (fun c => ?_) (fun c => Tot.ret (.inr ⟨fun h => c (ht.2 h),rfl⟩))
 have ho:=ht.1 c
 refine Tot.bind (P:=fun r => r = compB (sortB (namesF e))) (Tot.of (r:=compB (sortB (namesF e))) (by unfold impl_namesIn.f;rw [if_pos (by have:=ho.1;omega)]) rfl) ?_
 rintro _ rfl
 have hc:=comp_B (namesF e)
 refine Tot.ret (.inl ⟨ho,hc.1,hc.2,?_⟩)
 have h1:=namesF_len e
 unfold compB sortB
 rw [List.length_map]
 refine Nat.le_trans (comp_len _) ?_
 rw [List.length_map,List.length_map,List.length_mergeSort,List.length_map]
 exact h1
theorem nm_in {e:List EX} {nm:ByteArray}:nm ∈ namesF e ↔ ∃ x ∈ e,x.f2 = nm ∧ ¬ x.f2.toList = ([]:List UInt8):=by
 induction e with
 | nil => exact ⟨fun h => (by cases h),fun ⟨x,h,_⟩ => (by cases h)⟩
 | cons y l ih =>
  rw [namesF]
  constructor
  ·intro h
   split at h
   ·obtain ⟨x,hx,h⟩:=ih.1 h
    exact ⟨x,List.mem_cons_of_mem _ hx,h⟩
   ·rename_i c
    rcases List.mem_cons.1 h with h | h
    ·exact ⟨y,List.mem_cons_self,h.symm,c⟩
    ·obtain ⟨x,hx,h⟩:=ih.1 h
     exact ⟨x,List.mem_cons_of_mem _ hx,h⟩
  ·rintro ⟨x,hx,h1,h2⟩
   rcases List.mem_cons.1 hx with rfl | hx
   ·rw [if_neg h2,h1];exact List.mem_cons_self
   ·have:=ih.2 ⟨x,hx,h1,h2⟩
    split
    ·exact this
    ·exact List.mem_cons_of_mem _ this
theorem ok_node:∀ {e:List EX} {h:Int},okFrom h e → ∀ x ∈ e,NodeG x.f0 x.f1 x.f2
 | y :: l,h,ho,x,hx => by
  obtain ⟨hn,ho⟩:=ho
  rcases List.mem_cons.1 hx with rfl | hx
  ·exact hn
  ·split at ho
   ·exact ok_node ho x hx
   ·split at ho
    ·exact ok_node ho.2 x hx
    ·exact ok_node ho.2 x hx
theorem asks_iff {e:List EX} {h:Int} (ho:okFrom h e) {x:EX} (hx:x ∈ e):asks x ↔ ¬ x.f2.toList = ([]:List UInt8):=by
 rw [size0]
 rcases ok_node ho x hx with h | h | h
 ·exact ⟨fun a => absurd h.1 a.1,fun a => absurd h.2.2 a⟩
 ·refine ⟨fun _ => ?_,fun _ => ⟨by omega,by omega⟩⟩
  have:=h.2.2.1
  omega
 ·exact ⟨fun a => by have:=a.2;omega,fun a => absurd h.2.2 a⟩
def TX (B:Nat) (t:ByteArray):Prop:=t.size ≤ B ∧ (122:UInt8) ∉ t.data.toList
instance (B:Nat) (t:ByteArray):Decidable (TX B t):=by unfold TX;exact inferInstance
theorem TX.app {a b:Nat} {x y:ByteArray} (hx:TX a x) (hy:TX b y):TX (a + b) (x ++ y):=by
 refine ⟨by rw [ByteArray.size_append];have:=hx.1;have:=hy.1;omega,?_⟩
 rw [show (x ++ y).data.toList = x.data.toList ++ y.data.toList by simp]
 exact fun h => (List.mem_append.1 h).elim hx.2 hy.2
theorem TX.le {a b:Nat} {x:ByteArray} (h:TX a x) (hab:a ≤ b):TX b x:=⟨Nat.le_trans h.1 hab,h.2⟩
theorem pick_T {s:List Int} {p:Int} (h:RdOk s p) (ys:List ByteArray) (n:Int) (hn:(ys.length:Int) = n) (h1:1 ≤ n) (B:Nat) (hB:∀ y ∈ ys,TX B y):Tot (fun _ => (some (ys:List ByteArray)).bind fun y => ((spec_l1Rd_below.f s p n).bind fun bt => (if 0 ≤ bt.1 then (if bt.1 < (y.length:Int) then (some (rdOf ByteArray.empty y bt.1,bt.2)) else (none)) else (none)))) (fun r => TX B r.1 ∧ RdOk s r.2):=by
 refine Tot.bind (f:=fun _ y => ((spec_l1Rd_below.f s p n).bind fun bt => (if 0 ≤ bt.1 then (if bt.1 < (y.length:Int) then (some (rdOf ByteArray.empty y bt.1,bt.2)) else (none)) else (none)))) (Tot.of rfl rfl) ?_
 rintro _ rfl
 refine Tot.bind (below_T h n) fun v hv => ?_
 have v1:=hv.2.1 h1
 have v0:=hv.1
 refine Tot.yes v0 (Tot.yes (by omega) (Tot.ret ⟨?_,hv.2.2⟩))
 have:rdOf ByteArray.empty ys v.1 = ys[v.1.toNat]'(by omega):=by
  have:=rdB_at (ys:=ys) (i:=v.1.toNat) (by omega)
  rwa [show ((v.1.toNat:Nat):Int) = v.1 by omega] at this
 show TX B (rdOf ByteArray.empty ys v.1)
 rw [this]
 exact hB _ (List.getElem_mem _)
theorem at_TX {ys:List ByteArray} {n:Int} (hn:(ys.length:Int) = n) {B:Nat} (hB:∀ y ∈ ys,TX B y) {v:Int} (h0:0 ≤ v) (h1:v < n):TX B (rdOf ByteArray.empty ys v):=by
 have e:rdOf ByteArray.empty ys v = ys[v.toNat]'(by omega):=by
  have:=rdB_at (ys:=ys) (i:=v.toNat) (by omega)
  rwa [show ((v.toNat:Nat):Int) = v by omega] at this
 rw [e]
 exact hB _ (List.getElem_mem _)
theorem name_T {s:List Int} {p:Int} (h:RdOk s p):Tot (fun _ => spec_l1Rd_name.f s p) (fun r => TX 5 r.1 ∧ RdOk s r.2):=by
 unfold spec_l1Rd_name.f
 exact pick_T h _ 4 rfl (by decide) 5 (by decide)
def BD:Nat → Nat
 | 0 => 5
 | n + 1 => 2 * BD n + 6
theorem infix_T {s:List Int}:∀ (n:Nat) (deep p:Int),deep + n = 4 → -1000 ≤ deep → n ≤ 3 → RdOk s p → Tot (fun k => spec_l1Rd_infix.f k s p deep) (fun r => TX (BD n) r.1 ∧ RdOk s r.2):=by
 intro n
 induction n with
 | zero =>
  intro deep p hd hw hn hp
  refine Tot.step (fun k => spec_l1Rd_infix.f.eq_2 _ _ _ k) (Tot.yes (by omega) (Tot.bind (name_T hp) fun v hv => ?_))
  refine pick_T hv.2 _ 5 rfl (by decide) 5 (fun y hy => ?_)
  simp only [List.mem_cons,List.not_mem_nil,or_false] at hy
  rcases hy with rfl | rfl | rfl | rfl | rfl
  ·decide
  ·decide
  ·exact hv.1
  ·decide
  ·decide
 | succ n ih =>
  intro deep p hd hw hn hp
  have e1:wrap64 (deep + 1) = deep + 1:=w64_in (by omega) (by omega)
  have hB:BD n ≤ 1000:=by
   rcases (show n = 0 ∨ n = 1 ∨ n = 2 by omega) with rfl | rfl | rfl <;> decide
  have hB5:5 ≤ BD n:=by
   rcases (show n = 0 ∨ n = 1 ∨ n = 2 by omega) with rfl | rfl | rfl <;> decide
  have hBn:BD (n + 1) = 2 * BD n + 6:=rfl
  have sub:∀ q,RdOk s q → Tot (fun k => spec_l1Rd_infix.f k s q (wrap64 (deep + 1))) (fun r => TX (BD n) r.1 ∧ RdOk s r.2):=fun q hq => by rw [e1];exact ih (deep + 1) q (by omega) (by omega) (by omega) hq
  have j0:∀ (x15:Int) (b:Bool) (q:Int),RdOk s q → Tot (fun k => spec_l1Rd_infix.j0 k deep x15 b s q) (fun r => TX (BD (n + 1)) r.1 ∧ RdOk s r.2):=by
   intro x15 b q hq
   refine Tot.step (fun k => spec_l1Rd_infix.j0.eq_2 _ _ _ _ _ k) (Tot.ite (fun _ => ?_) (fun _ => Tot.ite (fun _ => ?_) (fun _ => ?_)))
   ·refine Tot.bind (sub q hq) fun r hr => ?_
    refine Tot.bind (Tot.of rfl rfl) ?_
    intro ys hys
    refine Tot.bind (below_T hr.2 10) fun v hv => ?_
    have v1:=hv.2.1 (by omega)
    have v0:=hv.1
    have hl:(ys.length:Int) = 10:=by rw [← hys];rfl
    have hz:TX 2 (rdOf ByteArray.empty ys v.1):=at_TX hl (by rw [← hys];decide) v0 v1
    have hr1:=hr.1.1
    have hz1:=hz.1
    refine Tot.yes v0 (Tot.yes (by omega) (Tot.yes (by omega) (Tot.bind (sub _ hv.2.2) fun r2 hr2 => Tot.yes (by rw [ByteArray.size_append];have:=hr2.1.1;omega) (Tot.ret ⟨?_,hr2.2⟩))))
    exact ((hr.1.app hz).app hr2.1).le (by omega)
   ·refine Tot.bind (sub q hq) fun r hr => Tot.yes (by have:=hr.1.1;omega) (Tot.ret ⟨?_,hr.2⟩)
    exact ((show TX 1 (⟨#[126]⟩:ByteArray) by decide).app hr.1).le (by omega)
   ·refine Tot.bind (name_T hq) fun v hv => ?_
    refine (pick_T hv.2 _ 5 rfl (by decide) 5 (fun y hy => ?_)).mono fun r hr => ⟨hr.1.le (by omega),hr.2⟩
    simp only [List.mem_cons,List.not_mem_nil,or_false] at hy
    rcases hy with rfl | rfl | rfl | rfl | rfl
    ·decide
    ·decide
    ·decide
    ·exact hv.1
    ·decide
  refine Tot.step (fun k => spec_l1Rd_infix.f.eq_2 _ _ _ k) (Tot.no (by omega) (Tot.bind (below_T hp 9) fun v hv => ?_))
  have b1:TX 1 (⟨#[45]⟩:ByteArray):=by decide
  have b2:TX 1 (⟨#[40]⟩:ByteArray):=by decide
  have b3:TX 1 (⟨#[41]⟩:ByteArray):=by decide
  have b4:TX 5 (⟨#[98,97,110,107,40]⟩:ByteArray):=by decide
  have z1:=b1.1
  have z2:=b2.1
  have z3:=b3.1
  have z4:=b4.1
  refine Tot.ite (fun _ => ?_) (fun _ => Tot.ite (fun _ => ?_) (fun _ => Tot.ite (fun _ => ?_) (fun _ => Tot.ite (fun _ => ?_) (fun _ => ?_))))
  ·refine Tot.bind (sub _ hv.2.2) fun r hr => Tot.yes (by have:=hr.1.1;omega) (Tot.ret ⟨?_,hr.2⟩)
   exact (b1.app hr.1).le (by omega)
  ·refine Tot.bind (sub _ hv.2.2) fun r hr => Tot.yes (by have:=hr.1.1;omega) (Tot.yes (by rw [ByteArray.size_append];have:=hr.1.1;omega) (Tot.ret ⟨?_,hr.2⟩))
   exact ((b2.app hr.1).app b3).le (by omega)
  ·refine Tot.bind (Tot.of rfl rfl) ?_
   intro ys hys
   refine Tot.bind (below_T hv.2.2 2) fun u hu => ?_
   have u1:=hu.2.1 (by omega)
   have u0:=hu.1
   have hl:(ys.length:Int) = 2:=by rw [← hys];rfl
   have hz:TX 5 (rdOf ByteArray.empty ys u.1):=at_TX hl (by rw [← hys];decide) u0 u1
   have hz1:=hz.1
   refine Tot.yes u0 (Tot.yes (by omega) (Tot.bind (sub _ hu.2.2) fun r hr => Tot.yes (by have:=hr.1.1;omega) (Tot.yes (by rw [ByteArray.size_append];have:=hr.1.1;omega) (Tot.ret ⟨?_,hr.2⟩))))
   exact ((hz.app hr.1).app b3).le (by omega)
  ·refine Tot.bind (name_T hv.2.2) fun r hr => Tot.yes (by have:=hr.1.1;omega) (Tot.yes (by rw [ByteArray.size_append];have:=hr.1.1;omega) (Tot.ret ⟨?_,hr.2⟩))
   exact ((b4.app hr.1).app b3).le (by omega)
  ·exact Tot.ite (fun _ => j0 _ _ _ hv.2.2) (fun _ => j0 _ _ _ hv.2.2)
def NoZ (e:List EX):Prop:=SeenE e ∧ ∀ x ∈ e,(122:UInt8) ∉ x.f2.data.toList
theorem noz_set {e:List EX} (h:NoZ e) (i:Nat) (x:EX) (hx:x.f2.size ≤ 1000000 ∧ (122:UInt8) ∉ x.f2.data.toList):NoZ (e.set i x):=by
 refine ⟨⟨by rw [List.length_set];exact h.1.1,fun y hy => ?_⟩,fun y hy => ?_⟩
 ·rcases List.mem_or_eq_of_mem_set hy with hy | rfl
  ·exact h.1.2 y hy
  ·exact hx.1
 ·rcases List.mem_or_eq_of_mem_set hy with hy | rfl
  ·exact h.2 y hy
  ·exact hx.2
theorem expr_T {s:List Int} {p:Int} (h:RdOk s p):Tot (fun k => spec_l1Rd_expr.f k s p) (fun r => NoZ r.1 ∧ RdOk s r.2):=by
 unfold spec_l1Rd_expr.f
 refine Tot.bind (infix_T 3 1 p rfl (by decide) (Nat.le_refl _) h) fun t ht => ?_
 have hz:t.1.size ≤ 1000:=Nat.le_trans ht.1.1 (by decide)
 refine Tot.bind (XNmZ.compiled_T hz) fun c hc => ?_
 have hsn:NoZ c.1:=⟨⟨by have:=hc.1.1;omega,fun x hx => by have:=(hc.1.2 x hx).1;omega⟩,fun x hx hu => ht.1.2 ((hc.1.2 x hx).2 _ hu)⟩
 refine Tot.ite (fun ok => ?_) (fun _ => Tot.ret ⟨⟨⟨show 1 ≤ 1000000 by decide,fun x hx => by rw [List.mem_singleton.1 hx];exact (show (0:Nat) ≤ 1000000 by decide)⟩,fun x hx => by rw [List.mem_singleton.1 hx];exact (show (122:UInt8) ∉ (⟨#[]⟩:ByteArray).data.toList by decide)⟩,ht.2⟩)
 have hne:=hc.2 ok
 refine Tot.bind (once_T ht.2 20) fun q hq => Tot.ite (fun _ => ?_) (fun _ => Tot.ret ⟨hsn,hq⟩)
 refine Tot.bind (below_T hq (c.1.length:Int)) fun v hv => ?_
 have v1:=hv.2.1 (by omega)
 refine Tot.bind (off_T hv.2.2 1 17 (by omega) (by omega)) fun u hu => Tot.yes hv.1 (Tot.yes v1 (Tot.ret ⟨?_,?_⟩))
 ·refine noz_set hsn _ _ ?_
  have e:(rd_T45 c.1 v.1) = c.1[v.1.toNat]'(by have:=hv.1;omega):=by
   have:=rdE_at (l:=c.1) (i:=v.1.toNat) (by have:=hv.1;omega)
   rwa [show ((v.1.toNat:Nat):Int) = v.1 by have:=hv.1;omega] at this
  show (rd_T45 c.1 v.1).f2.size ≤ 1000000 ∧ (122:UInt8) ∉ (rd_T45 c.1 v.1).f2.data.toList
  rw [e]
  exact ⟨hsn.1.2 _ (List.getElem_mem _),hsn.2 _ (List.getElem_mem _)⟩
 ·exact hu
theorem syms_T {s:List Int} {p:Int} (h:RdOk s p):Tot (fun k => spec_l1Rd_syms.f k s p) (fun r => r.1.length ≤ 4):=by
 unfold spec_l1Rd_syms.f
 generalize hys:([(⟨#[97,49]⟩:ByteArray),(⟨#[108,111,111,112]⟩:ByteArray),(⟨#[120,46,121]⟩:ByteArray),(⟨#[101,110,100,95]⟩:ByteArray)]:List ByteArray) = ys
 have hl:ys.length = 4:=by rw [← hys];rfl
 clear hys
 have go:∀ (d i:Nat) (r:List SY) (q:Int),4 - i = d → i ≤ 4 → r.length ≤ i → RdOk s q → Tot (fun k => spec_l1Rd_syms.l0 k r ys (i:Int) s q) (fun r => r.1.length ≤ 4):=by
  intro d
  induction d with
  | zero =>
   intro i r q h1 h2 h3 hq
   exact Tot.step (fun k => spec_l1Rd_syms.l0.eq_2 _ _ _ _ _ k) (Tot.no (by omega) (Tot.ret (by show r.length ≤ 4;omega)))
  | succ d ih =>
   intro i r q h1 h2 h3 hq
   have e1:wrap64 ((i:Int) + 1) = ((i + 1:Nat):Int):=by rw [w64_in (by omega) (by omega)];rfl
   refine Tot.step (fun k => spec_l1Rd_syms.l0.eq_2 _ _ _ _ _ k) (Tot.yes (by omega) (Tot.bind (once_T hq 4) fun v hv => ?_))
   rw [e1]
   refine Tot.ite (fun _ => ih (i + 1) r _ (by omega) (by omega) (by omega) hv) (fun _ => Tot.yes (by omega) ?_)
   refine Tot.bind (below_T hv 4) fun u hu => Tot.bind (below_T hu.2.2 600) fun x hx => Tot.yes (by omega) ?_
   exact ih (i + 1) _ _ (by omega) (by omega) (by rw [List.length_append];simp;omega) hx.2.2
 exact go _ 0 [] p rfl (Nat.zero_le _) (Nat.zero_le _) h
theorem drawE_T {l:List Int} (hl:l.length ≤ 1048576) (hb:∀ x ∈ l,0 ≤ x ∧ x ≤ 255):Tot (fun k => spec_DrawEvalExpr.f k l) (fun r => NoZ r.1 ∧ r.2.length ≤ 4):=by
 obtain ⟨e0,h0⟩:=open_tot hl hb
 unfold spec_DrawEvalExpr.f
 refine Tot.bind (Tot.of e0 rfl) ?_
 rintro _ rfl
 exact Tot.bind (expr_T h0) fun r hr => Tot.bind (syms_T hr.2) fun u hu => Tot.ret ⟨hr.1,hu⟩
theorem find_zz {l:List SY} {nm:ByteArray} (h:(122:UInt8) ∉ nm.data.toList) (y:SY) (hy:y.f0 = (⟨#[122,122]⟩:ByteArray)):findS (l ++ [y]) nm = findS l nm:=by
 unfold findS
 rw [List.find?_append,List.find?_cons_of_neg,List.find?_nil,Option.or_none]
 rw [hy,beq_iff_eq,toL,toL]
 intro e
 rw [← e] at h
 exact h (by decide)
theorem EvR.zz {e:List EX} {l:List SY} (hz:NoZ e) (h4:l.length ≤ 4) {r:Int × Int} (hr:EvR e l r) (y:SY) (hy:y.f0 = (⟨#[122,122]⟩:ByteArray)) {q:Int × Int} (hq:EvR e (l ++ [y]) q):q = r:=by
 refine EvR.one hq ?_
 rcases hr with hr | hr
 ·refine .inl ⟨hr.1,by rw [List.length_append];simp;omega,?_⟩
  rw [hr.2.2]
  exact ev_congr e [] fun x hx => (find_zz (hz.2 x hx) y hy).symm
 ·refine .inr ⟨.inl ?_,hr.2⟩
  rcases hr.1 with h | h
  ·exact h
  ·omega
theorem all_T {e:List EX} {l:List SY} {a b:Int} {ns:List ByteArray} (hl:l.length ≤ 4) (hn:ns.length ≤ 1000000)
  (fin:∀ t:Bool,(t = true ↔ ∀ x ∈ ns,¬ findS l x = none) → Tot (fun k => (some (([]:List SY):List SY)).bind fun y350 => (if y350.length + l.length < 4398046511104 then ((some (y350 ++ l:List SY)).bind fun y353 => (if y353.length < 4398046511104 then ((impl_EvalExpr.f k e (y353 ++ [(⟨(⟨#[122,122]⟩:ByteArray),0,9⟩:SY)])).bind fun bt359 => (if bt359.1 = a then (if bt359.2 = b then (if b = 2 then (if t = true then (some false) else (if b = 0 then (some false) else (if a ≥ (-2147483648) then (some (decide (a ≤ 2147483647))) else (some false)))) else (if b = 0 then (if t = true then (if a ≥ (-2147483648) then (some (decide (a ≤ 2147483647))) else (some false)) else (some false)) else (if a ≥ (-2147483648) then (some (decide (a ≤ 2147483647))) else (some false)))) else (some false)) else (some false))) else (none))) else (none))) (· = true)) :
  Tot (fun k => laws_FnEval.l0 k e l a b ns true 0) (· = true):=by
 have go:∀ (d i:Nat) (t:Bool),ns.length - i = d → i ≤ ns.length → (t = true ↔ ∀ x ∈ ns.take i,¬ findS l x = none) → Tot (fun k => laws_FnEval.l0 k e l a b ns t (i:Int)) (· = true):=by
  intro d
  induction d with
  | zero =>
   intro i t h1 h2 ht
   rw [List.take_of_length_le (by omega)] at ht
   exact Tot.step (fun k => laws_FnEval.l0.eq_2 _ _ _ _ _ _ _ k) (Tot.no (by omega) (fin t ht))
  | succ d ih =>
   intro i t h1 h2 ht
   have hil:i < ns.length:=by omega
   have e1:wrap64 ((i:Int) + 1) = ((i + 1:Nat):Int):=by rw [w64_in (by omega) (by omega)];rfl
   have inner:∀ (d j:Nat) (u:Bool),l.length - j = d → j ≤ l.length → (u = true ↔ ¬ findS (l.take j) ns[i] = none) → Tot (fun k => laws_FnEval.l1 k e l a b ns t (i:Int) u (j:Int)) (· = true):=by
    intro d
    induction d with
    | zero =>
     intro j u g1 g2 hu
     rw [List.take_of_length_le (by omega)] at hu
     have hs:ns.take (i + 1) = ns.take i ++ [ns[i]]:=List.take_succ_eq_append_getElem hil
     refine Tot.step (fun k => laws_FnEval.l1.eq_2 _ _ _ _ _ _ _ _ _ k) (Tot.no (by omega) ?_)
     rw [e1]
     refine Tot.ite (fun c => ih (i + 1) u (by omega) (by omega) ?_) (fun c => ih (i + 1) false (by omega) (by omega) ?_)
     ·rw [hu,hs]
      refine ⟨fun h x hx => ?_,fun h => h _ (List.mem_append.2 (.inr (List.mem_singleton.2 rfl)))⟩
      rcases List.mem_append.1 hx with hx | hx
      ·exact ht.1 c x hx
      ·rw [List.mem_singleton.1 hx];exact h
     ·refine ⟨fun h => (by cases h),fun h => absurd (ht.2 fun x hx => h x ?_) c⟩
      rw [hs]
      exact List.mem_append.2 (.inl hx)
    | succ d ihd =>
     intro j u g1 g2 hu
     have hjl:j < l.length:=by omega
     have e2:wrap64 ((j:Int) + 1) = ((j + 1:Nat):Int):=by rw [w64_in (by omega) (by omega)];rfl
     have hs:l.take (j + 1) = l.take j ++ [l[j]]:=List.take_succ_eq_append_getElem hjl
     have hf:findS (l.take (j + 1)) ns[i] = (findS (l.take j) ns[i]).or (findS [l[j]] ns[i]):=by
      unfold findS
      rw [hs,List.find?_append]
     refine Tot.step (fun k => laws_FnEval.l1.eq_2 _ _ _ _ _ _ _ _ _ k) (Tot.yes (by omega) (Tot.ite (fun c => ?_) (fun c => ?_)))
     ·rw [e2]
      refine ihd (j + 1) true (by omega) (by omega) ⟨fun _ => ?_,fun _ => rfl⟩
      rw [hf]
      have:=hu.1 c
      rcases hq:findS (l.take j) ns[i] with _ | y
      ·exact absurd hq this
      ·exact fun h => by cases h
     ·refine Tot.yes (by omega) (Tot.yes (by omega) (Tot.yes (by omega) ?_))
      rw [e2]
      refine ihd (j + 1) _ (by omega) (by omega) ?_
      have h0:findS (l.take j) ns[i] = none:=Classical.byContradiction fun h => c (hu.2 h)
      rw [hf,h0,rdY_at hjl,rdB_at hil,Option.none_or]
      unfold findS
      by_cases q:l[j].f0.toList = ns[i].toList
      ·rw [List.find?_cons_of_pos (by simpa using q)]
       simp [q]
      ·rw [List.find?_cons_of_neg (by simpa using q)]
       simp [q]
   refine Tot.step (fun k => laws_FnEval.l0.eq_2 _ _ _ _ _ _ _ k) (Tot.yes (by omega) ?_)
   exact inner _ 0 false rfl (Nat.zero_le _) (by simp [findS])
 exact go _ 0 true rfl (Nat.zero_le _) (by simp)
theorem FnEval:laws_FnEval.Pure:=by
 intro l _ _ hw
 refine Tot.done ?_
 unfold laws_FnEval.f laws_big.f
 refine Tot.bind (Tot.of rfl rfl) ?_
 rintro _ rfl
 refine Tot.ite (fun _ => Tot.ret rfl) (fun hbig => ?_)
 have hl:l.length ≤ 1048576:=by simp at hbig;omega
 have hb:=bytes_wf hw
 refine Tot.bind (drawE_T hl hb) fun r hr => ?_
 obtain ⟨e,sy⟩:=r
 obtain ⟨hz,h4⟩:=hr
 have hs:=hz.1
 have h4:sy.length ≤ 4:=h4
 refine Tot.bind (evalI_T hs (by show sy.length ≤ 1000000;omega)) fun a ha => Tot.bind (evalS_T hs (by show sy.length ≤ 1000000;omega)) fun b hb => ?_
 obtain rfl:=EvR.one ha hb
 refine Tot.yes rfl (Tot.yes rfl ?_)
 refine Tot.step (fun k => laws_FnEval.j0.eq_2 _ _ _ _ _ _ _ k) (Tot.ite (fun c => Tot.yes rfl (Tot.ret (by simp))) (fun c => ?_))
 have c1:¬ a.2 = 1:=fun h => c (by rw [h];rfl)
 have hv:=show EvR e sy a from ha
 have ha:=hv
 rcases hv with hv | hv
 case inr => exact absurd (by rw [hv.2]) c1
 obtain ⟨ho,h200,hv⟩:=hv
 refine Tot.bind (namesI_T hs) fun ns hns => ?_
 rcases hns with hns | hns
 case inr => exact absurd ho hns.1
 have hin:=ev_in (findS sy) e 0 [] (fun v h => by cases h) ho.2
 rw [← hv] at hin
 have hcode:=ev_code (findS sy) e []
 rw [← hv] at hcode
 refine all_T h4 (by have h1:ns.length ≤ e.length:=hns.2.2.2;have h2:e.length ≤ 30:=ho.1;omega) fun t ht => ?_
 refine Tot.bind (Tot.of rfl rfl) ?_
 rintro _ rfl
 refine Tot.yes (by simp;omega) (Tot.bind (Tot.of rfl rfl) ?_)
 rintro _ rfl
 refine Tot.yes (by simp;omega) (Tot.bind (evalI_T hs (by simp;omega)) fun q hq => ?_)
 obtain rfl:=EvR.zz hz h4 ha _ rfl (show EvR e (sy ++ [_]) q from hq)
 refine Tot.yes rfl (Tot.yes rfl ?_)
 have rng:Tot (fun _ => if q.1 ≥ (-2147483648) then (some (decide (q.1 ≤ 2147483647))) else (some false)) (· = true):=Tot.yes hin.1 (Tot.ret (decide_eq_true hin.2))
 have hall:t = true ↔ ∀ x ∈ e,asks x → ¬ findS sy x.f2 = none:=by
  rw [ht]
  constructor
  ·intro h x hx ha
   exact h _ ((hns.2.2.1 _).2 (nm_in.2 ⟨x,hx,rfl,(asks_iff ho.2 hx).1 ha⟩))
  ·intro h nm hnm
   obtain ⟨x,hx,rfl,h2⟩:=nm_in.1 ((hns.2.2.1 _).1 hnm)
   exact h x hx ((asks_iff ho.2 hx).2 h2)
 rcases hcode with h | h | h
 ·rw [h.1]
  exact Tot.no (by decide) (Tot.yes rfl (Tot.yes (hall.2 h.2) rng))
 ·obtain ⟨h1,x,hx,hxa,hxn⟩:=h
  rw [h1]
  exact Tot.yes rfl (Tot.no (fun h => hall.1 h x hx hxa hxn) (Tot.no (by decide) rng))
 ·rw [h]
  exact Tot.no (by decide) (Tot.no (by decide) rng)
end Go.Proofs.Ytpghjbikjmnnoaa.Pure
