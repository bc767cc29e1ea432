import Derived.Test.YtodlnnoekccmmaaGreatDoorIXIt5
import Derived.Test.YtodlnnoekccmmaaGreatDoorILib
namespace Go.Proofs.YtodlnnoekccmmaaGreatDoor.Pure
open Go.RowKit Go.Proofs.YtodlnnoekccmmaaGreatDoor.QFnInsTexts Go.Proofs.YtodlnnoekccmmaaGreatDoor.XIt Go.Proofs.YtodlnnoekccmmaaGreatDoorW.PrintWords Go.Proofs.YtodlnnoekccmmaaGreatDoorW.PrintLast Go.Proofs.YtodlnnoekccmmaaGreatDoorW.PrintMore Go.Proofs.YtodlnnoekccmmaaGreatDoor.Lib Go.Proofs.YtodlnnoekccmmaaGreatDoor.LibX Go.Proofs.YtodlnnoekccmmaaGreatDoor.LibE
set_option linter.unusedSimpArgs false
set_option linter.unusedVariables false
def RdOk (s:List Int) (p:Int):Prop:=0 ≤ p ∧ p ≤ s.length ∧ s.length ≤ 1048576 ∧ ∀ x ∈ s,0 ≤ x ∧ x ≤ 255
theorem rd_mem {s:List Int} {p:Int} (h0:0 ≤ p) (h1:p < (s.length:Int)):rd s p ∈ s:=by
 unfold rd
 rw [List.getD_eq_getElem?_getD,List.getElem?_eq_getElem (by omega)]
 exact List.getElem_mem _
theorem open_tot {l:List Int} (hl:l.length ≤ 1048576) (hb:∀ x ∈ l,0 ≤ x ∧ x ≤ 255):spec_l1Open.f l = some (l,0) ∧ RdOk l 0 :=
 ⟨rfl,by omega,by omega,hl,hb⟩
theorem next_tot {s:List Int} {p:Int} (h:RdOk s p):∃ v q,spec_l1Rd_next.f s p = some (v,q) ∧ 0 ≤ v ∧ v ≤ 255 ∧ RdOk s q:=by
 obtain ⟨h0,h1,h2,h3⟩:=h
 unfold spec_l1Rd_next.f
 by_cases c:p ≥ (s.length:Int)
 ·rw [if_pos c]
  exact ⟨0,p,rfl,by omega,by omega,h0,h1,h2,h3⟩
 ·have hm:=h3 _ (rd_mem h0 (show p < (s.length:Int) by omega))
  have e:p + 1 - 1 = p:=by omega
  rw [if_neg c,w64_in (n:=p + 1) (by omega) (by omega),w64_in (n:=p + 1 - 1) (by omega) (by omega),e,if_pos h0,if_pos (by omega),w64_in (n:=rd s p) (by omega) (by omega)]
  exact ⟨_,_,rfl,hm.1,hm.2,by omega,by omega,h2,h3⟩
theorem below_tot {s:List Int} {p:Int} (h:RdOk s p) (n:Int):∃ v q,spec_l1Rd_below.f s p n = some (v,q) ∧ 0 ≤ v ∧ (1 ≤ n → v < n) ∧ RdOk s q:=by
 unfold spec_l1Rd_below.f
 by_cases c:n ≤ 1
 ·rw [if_pos c]
  exact ⟨0,p,rfl,by omega,by omega,h⟩
 ·rw [if_neg c]
  obtain ⟨v,q,e1,v0,v1,h1⟩:=next_tot h
  by_cases c2:n ≤ 256
  ·rw [if_pos c2,e1]
   simp only [Option.bind_some]
   rw [if_neg (by omega),tmod_pos _ v0]
   exact ⟨_,_,rfl,Int.emod_nonneg _ (by omega),fun _ => Int.emod_lt_of_pos _ (by omega),h1⟩
  ·obtain ⟨u,r,e2,u0,u1,h2⟩:=next_tot h1
   rw [if_neg c2,e1]
   simp only [Option.bind_some]
   rw [e2]
   simp only [Option.bind_some]
   rw [if_neg (by omega),w64_in (n:=v * 256) (by omega) (by omega),w64_in (n:=v * 256 + u) (by omega) (by omega),tmod_pos _ (by omega)]
   exact ⟨_,_,rfl,Int.emod_nonneg _ (by omega),fun _ => Int.emod_lt_of_pos _ (by omega),h2⟩
theorem once_tot {s:List Int} {p:Int} (h:RdOk s p) (n:Int):∃ b q,spec_l1Rd_once.f s p n = some (b,q) ∧ RdOk s q:=by
 obtain ⟨v,q,e,_,_,hq⟩:=below_tot h n
 unfold spec_l1Rd_once.f
 rw [e]
 exact ⟨_,_,rfl,hq⟩
theorem word_tot_l {s:List Int}:∀ (k:Nat) (x i p:Int),RdOk s p → 0 ≤ i → i ≤ 8 → 8 - i < k → ∃ v q,spec_l1Rd_word.l0 k x i s p = some (v,q) ∧ RdOk s q:=by
 intro k
 induction k with
 | zero => intros;omega
 | succ k ih =>
  intro x i p h i0 i1 hk
  simp only [spec_l1Rd_word.l0]
  by_cases c:i < 8
  ·obtain ⟨v,q,e,_,_,hq⟩:=next_tot h
   rw [if_pos c,e]
   simp only [Option.bind_some]
   rw [w64_in (n:=i + 1) (by omega) (by omega)]
   exact ih _ _ _ hq (by omega) (by omega) (by omega)
  ·rw [if_neg c]
   exact ⟨_,_,rfl,h⟩
theorem word_tot {s:List Int} {p:Int} (h:RdOk s p) {k:Nat} (hk:9 ≤ k):∃ v q,spec_l1Rd_word.f k s p = some (v,q) ∧ RdOk s q :=
 word_tot_l k 0 0 p h (by omega) (by omega) (by omega)
theorem near_tot {s:List Int} {p:Int} (h:RdOk s p) {k:Nat} (hk:9 ≤ k) (lo hi:Int) (hlo:-4294967296 ≤ lo) (hhi:hi ≤ 4294967296):∃ v q,spec_l1Rd_near.f k s p lo hi = some (v,q) ∧ RdOk s q:=by
 unfold spec_l1Rd_near.f
 obtain ⟨v,q,e,_,_,hq⟩:=below_tot h 8
 rw [e]
 simp only [Option.bind_some]
 by_cases c0:v = 0
 ·rw [if_pos c0];exact ⟨_,_,rfl,hq⟩
 ·rw [if_neg c0]
  by_cases c1:v = 1
  ·rw [if_pos c1];exact ⟨_,_,rfl,hq⟩
  ·rw [if_neg c1]
   by_cases c2:hi < lo
   ·rw [if_pos c2];exact ⟨_,_,rfl,hq⟩
   ·rw [if_neg c2]
    obtain ⟨x,r,e2,hr⟩:=word_tot hq hk
    rw [e2]
    simp only [Option.bind_some]
    rw [w64_in (n:=hi - lo) (by omega) (by omega),w64_in (n:=hi - lo + 1) (by omega) (by omega),u64_in (n:=hi - lo + 1) (by omega) (by omega),if_neg (by omega)]
    exact ⟨_,_,rfl,hr⟩
theorem off_tot {s:List Int} {p:Int} (h:RdOk s p) {k:Nat} (hk:9 ≤ k) (lo hi:Int) (hlo:-4294967296 ≤ lo) (hhi:hi ≤ 4294967296):∃ v q,spec_l1Rd_off.f k s p lo hi = some (v,q) ∧ RdOk s q:=by
 unfold spec_l1Rd_off.f
 obtain ⟨b,q,e,hq⟩:=once_tot h 24
 rw [e]
 simp only [Option.bind_some]
 by_cases c:b = true
 ·rw [if_pos c]
  obtain ⟨v,r,e2,v0,v1,hr⟩:=below_tot hq 4
  rw [e2]
  simp only [Option.bind_some]
  have v4:=v1 (by omega)
  rw [if_pos v0,if_pos (by simp only [List.length_cons,List.length_nil];omega)]
  exact ⟨_,_,rfl,hr⟩
 ·rw [if_neg c]
  obtain ⟨v,r,e2,hr⟩:=near_tot hq hk lo hi hlo hhi
  rw [e2]
  exact ⟨_,_,rfl,hr⟩
theorem byte_tot {s:List Int} {p:Int} (h:RdOk s p):∃ v q,spec_l1Rd_byte.f s p = some (v,q) ∧ 0 ≤ v ∧ v ≤ 255 ∧ RdOk s q:=by
 unfold spec_l1Rd_byte.f
 obtain ⟨b,q,e,hq⟩:=once_tot h 2
 rw [e]
 simp only [Option.bind_some]
 by_cases c:b = true
 ·rw [if_pos c]
  obtain ⟨v,r,e2,v0,v1,hr⟩:=below_tot hq 8
  rw [e2]
  simp only [Option.bind_some]
  have v4:=v1 (by omega)
  rw [if_pos v0,if_pos (by simp only [List.length_cons,List.length_nil];omega)]
  refine ⟨_,_,rfl,?_,?_,hr⟩
  ·rcases (show v = 0 ∨ v = 1 ∨ v = 2 ∨ v = 3 ∨ v = 4 ∨ v = 5 ∨ v = 6 ∨ v = 7 by omega) with rfl | rfl | rfl | rfl | rfl | rfl | rfl | rfl <;> decide
  ·rcases (show v = 0 ∨ v = 1 ∨ v = 2 ∨ v = 3 ∨ v = 4 ∨ v = 5 ∨ v = 6 ∨ v = 7 by omega) with rfl | rfl | rfl | rfl | rfl | rfl | rfl | rfl <;> decide
 ·rw [if_neg c]
  obtain ⟨v,r,e2,v0,v1,hr⟩:=below_tot hq 256
  rw [e2]
  have:=v1 (by omega)
  exact ⟨_,_,rfl,v0,by omega,hr⟩
theorem below_T {s:List Int} {p:Int} (h:RdOk s p) (n:Int):Tot (fun _ => spec_l1Rd_below.f s p n) (fun r => 0 ≤ r.1 ∧ (1 ≤ n → r.1 < n) ∧ RdOk s r.2):=by
 obtain ⟨v,q,e,h0,h1,h2⟩:=below_tot h n
 exact Tot.of e ⟨h0,h1,h2⟩
theorem once_T {s:List Int} {p:Int} (h:RdOk s p) (n:Int):Tot (fun _ => spec_l1Rd_once.f s p n) (fun r => RdOk s r.2):=by
 obtain ⟨v,q,e,h0⟩:=once_tot h n
 exact Tot.of e h0
theorem byte_T {s:List Int} {p:Int} (h:RdOk s p):Tot (fun _ => spec_l1Rd_byte.f s p) (fun r => 0 ≤ r.1 ∧ r.1 ≤ 255 ∧ RdOk s r.2):=by
 obtain ⟨v,q,e,h0,h1,h2⟩:=byte_tot h
 exact Tot.of e ⟨h0,h1,h2⟩
theorem off_T {s:List Int} {p:Int} (h:RdOk s p) (lo hi:Int) (hlo:-4294967296 ≤ lo) (hhi:hi ≤ 4294967296):Tot (fun k => spec_l1Rd_off.f k s p lo hi) (fun r => RdOk s r.2):=by
 obtain ⟨v,q,e,h2⟩:=off_tot h (k:=9) (Nat.le_refl _) lo hi hlo hhi
 exact Tot.lift (fun k => spec_l1Rd_off.mono _ _ _ _ k) e h2
theorem bytes_wf {l:List Int} (h:∀ x ∈ l,(Lit.int .u8 x).wf = true):∀ x ∈ l,0 ≤ x ∧ x ≤ 255:=by
 intro x hx
 have h1:=h x hx
 have e0:IntKind.u8.min = 0:=rfl
 have e1:IntKind.u8.max = 255:=rfl
 simp only [Lit.wf,e0,e1,Bool.and_eq_true,decide_eq_true_eq] at h1
 exact h1
theorem insD1_T {s:List Int} {p:Int} (h:RdOk s p) {n:Int} (hn:0 ≤ n ∧ n < 256) (b:Bool) (m:Int):Tot (fun k => spec_l1Rd_ins.j1 k s p n b m) (fun r => (0 ≤ r.1 ∧ r.1 < 256) ∧ RdOk s r.2.2.2):=by
 refine Tot.step (fun k => spec_l1Rd_ins.j1.eq_2 _ _ _ _ _ k) ?_
 refine Tot.bind (once_T h 40) fun r hr => ?_
 exact Tot.ite (fun _ => Tot.bind (off_T hr 0 255 (by omega) (by omega)) fun q hq => Tot.ret ⟨hn,hq⟩) (fun _ => Tot.ret ⟨hn,hr⟩)
theorem insD0_T {s:List Int} {p:Int} (h:RdOk s p) (x:Bool) {n:Int} (hn:0 ≤ n ∧ n < 256) (b:Bool) (m:Int):Tot (fun k => spec_l1Rd_ins.j0 k x s p n b m) (fun r => (0 ≤ r.1 ∧ r.1 < 256) ∧ RdOk s r.2.2.2):=by
 refine Tot.step (fun k => spec_l1Rd_ins.j0.eq_2 _ _ _ _ _ _ k) ?_
 exact Tot.ite (fun _ => Tot.bind (byte_T h) fun v hv => insD1_T hv.2.2 hn _ _) (fun _ => insD1_T h hn _ _)
theorem insD_T {s:List Int} {p:Int} (h:RdOk s p):Tot (fun k => spec_l1Rd_ins.f k s p) (fun r => (0 ≤ r.1 ∧ r.1 < 256) ∧ RdOk s r.2.2.2):=by
 unfold spec_l1Rd_ins.f
 refine Tot.bind (below_T h 256) fun r hr => ?_
 have hn:0 ≤ r.1 ∧ r.1 < 256:=⟨hr.1,hr.2.1 (by omega)⟩
 refine Tot.bind (once_T hr.2.2 4) fun q hq => ?_
 refine Tot.bind (tmS_T q.1 hn.1 hn.2) ?_
 rintro _ rfl
 refine Tot.bind (hoS_T q.1 hn.1 hn.2) ?_
 rintro _ rfl
 refine Tot.ite (fun _ => Tot.bind (below_T hq 65536) fun v hv => insD1_T hv.2.2 hn _ _) (fun _ => ?_)
 exact Tot.ite (fun _ => insD0_T hq _ hn _ _) (fun _ => insD0_T hq _ hn _ _)
theorem hurt_tot {s:List Int} {p:Int} (h:RdOk s p) (a:ByteArray) (ha:a.size ≤ 4611686018427387904):∃ r q,spec_l1Rd_hurt.f s p a = some (r,q) ∧ r.size ≤ a.size + 1 ∧ RdOk s q:=by
 have one:∀ (ys:List ByteArray) (i:Int),(∀ y ∈ ys,y.size = 1) → (rdOf ByteArray.empty ys i).size ≤ 1:=by
  intro ys i hy
  unfold rdOf
  rw [List.getD_eq_getElem?_getD]
  by_cases c:i.toNat < ys.length
  ·rw [List.getElem?_eq_getElem c]
   exact Nat.le_of_eq (hy _ (List.getElem_mem _))
  ·rw [List.getElem?_eq_none (by omega)]
   exact Nat.zero_le _
 unfold spec_l1Rd_hurt.f
 obtain ⟨v,q,e,v0,v1,h1⟩:=below_tot h 6
 rw [e]
 simp only [Option.bind_some]
 by_cases c1:v = 1
 ·rw [if_pos c1,w64_in (n:=(a.size:Int) + 1) (by omega) (by omega)]
  obtain ⟨u,r,e2,u0,u1,h2⟩:=below_tot h1 ((a.size:Int) + 1)
  rw [e2]
  simp only [Option.bind_some]
  rw [if_pos u0,if_pos (by have:=u1 (by omega);omega)]
  exact ⟨_,_,rfl,by rw [ByteArray.size_extract];omega,h2⟩
 rw [if_neg c1]
 by_cases c2:v = 2
 ·rw [if_pos c2]
  by_cases c3:(a.size:Int) > 0
  ·rw [if_pos c3]
   obtain ⟨u,r,e2,u0,u1,h2⟩:=below_tot h1 (a.size:Int)
   have u2:=u1 (by omega)
   rw [e2]
   simp only [Option.bind_some]
   rw [if_pos u0,if_pos (by omega)]
   obtain ⟨x,t,e3,x0,x1,h3⟩:=below_tot h2 6
   rw [e3]
   simp only [Option.bind_some]
   have x2:=x1 (by omega)
   have o:=one ([(⟨#[48]⟩:ByteArray),(⟨#[97]⟩:ByteArray),(⟨#[32]⟩:ByteArray),(⟨#[44]⟩:ByteArray),(⟨#[36]⟩:ByteArray),(⟨#[43]⟩:ByteArray)]:List ByteArray) x (by intro y hy;simp only [List.mem_cons,List.not_mem_nil,or_false] at hy;rcases hy with rfl | rfl | rfl | rfl | rfl | rfl <;> rfl)
   generalize rdOf ByteArray.empty ([(⟨#[48]⟩:ByteArray),(⟨#[97]⟩:ByteArray),(⟨#[32]⟩:ByteArray),(⟨#[44]⟩:ByteArray),(⟨#[36]⟩:ByteArray),(⟨#[43]⟩:ByteArray)]:List ByteArray) x = z at o ⊢
   rw [if_pos x0,if_pos (by simpa using x2),if_pos (by rw [ByteArray.size_extract];omega),w64_in (n:=u + 1) (by omega) (by omega),if_pos (by omega),if_pos (by omega),if_pos (by rw [ByteArray.size_append,ByteArray.size_extract,ByteArray.size_extract];omega)]
   exact ⟨_,_,rfl,by rw [ByteArray.size_append,ByteArray.size_append,ByteArray.size_extract,ByteArray.size_extract];omega,h3⟩
  ·rw [if_neg c3]
   exact ⟨_,_,rfl,by omega,h1⟩
 rw [if_neg c2]
 by_cases c3:v = 3
 ·rw [if_pos c3]
  obtain ⟨x,t,e3,x0,x1,h3⟩:=below_tot h1 3
  have x2:=x1 (by omega)
  rw [e3]
  simp only [Option.bind_some]
  have o:=one ([(⟨#[32]⟩:ByteArray),(⟨#[48]⟩:ByteArray),(⟨#[120]⟩:ByteArray)]:List ByteArray) x (by intro y hy;simp only [List.mem_cons,List.not_mem_nil,or_false] at hy;rcases hy with rfl | rfl | rfl <;> rfl)
  generalize rdOf ByteArray.empty ([(⟨#[32]⟩:ByteArray),(⟨#[48]⟩:ByteArray),(⟨#[120]⟩:ByteArray)]:List ByteArray) x = z at o ⊢
  rw [if_pos x0,if_pos (by simpa using x2),if_pos (by omega)]
  exact ⟨_,_,rfl,by rw [ByteArray.size_append];omega,h3⟩
 ·rw [if_neg c3]
  exact ⟨_,_,rfl,by omega,h1⟩
theorem hurt_T {s:List Int} {p:Int} (h:RdOk s p) (a:ByteArray) (ha:a.size ≤ 20):Tot (fun _ => spec_l1Rd_hurt.f s p a) (fun _ => True):=by
 obtain ⟨r,q,e,_,_⟩:=hurt_tot h a (by omega)
 exact Tot.of e trivial
theorem txt_le {cb:Bool} {n m:Int} (h0:0 ≤ n) (h1:n < 256):(txtV cb n m).size ≤ 20:=by
 cases ho:okV (hk cb n) m with
 | true => exact (txt_size h0 h1 ho).2
 | false => unfold txtV;rw [ho,if_neg (by decide)];decide
theorem drawA_T {l:List Int} (hl:l.length ≤ 1048576) (hb:∀ x ∈ l,0 ≤ x ∧ x ≤ 255):Tot (fun k => spec_DrawInsText.f k l) (fun r => 0 ≤ r.1 ∧ r.1 < 256):=by
 obtain ⟨e0,hr⟩:=open_tot hl hb
 unfold spec_DrawInsText.f spec_DrawInsOk.f
 refine Tot.bind (P:=fun r => 0 ≤ r.1 ∧ r.1 < 256) (Tot.bind (Tot.of e0 rfl) ?_) fun r hr => Tot.ret hr
 rintro _ rfl
 exact Tot.bind (insD_T hr) fun r h => Tot.ret h.1
theorem drawB_T {l:List Int} (hl:l.length ≤ 1048576) (hb:∀ x ∈ l,0 ≤ x ∧ x ≤ 255):Tot (fun k => spec_DrawReadInsText.f k l) (fun _ => True):=by
 obtain ⟨e0,hr⟩:=open_tot hl hb
 unfold spec_DrawReadInsText.f
 refine Tot.bind (Tot.of e0 rfl) ?_
 rintro _ rfl
 refine Tot.bind (insD_T hr) fun r h => ?_
 refine Tot.bind (txtS_T r.2.1 h.1.1 h.1.2 r.2.2.1) ?_
 rintro _ rfl
 refine Tot.bind (once_T h.2 3) fun q hq => ?_
 refine Tot.ite (fun _ => ?_) (fun _ => Tot.ret trivial)
 exact Tot.bind (hurt_T hq _ (txt_le h.1.1 h.1.2)) fun _ _ => Tot.ret trivial
theorem lawJ {l:List Int} (hl:l.length ≤ 1048576) (hb:∀ x ∈ l,0 ≤ x ∧ x ≤ 255):Tot (fun k => laws_FnInsTexts.j0 k l false) (· = true):=by
 refine Tot.step (fun k => laws_FnInsTexts.j0.eq_2 _ _ k) (Tot.no (by decide) ?_)
 refine Tot.bind (drawB_T hl hb) fun s _ => ?_
 refine Tot.bind (readI s) fun a ha => ?_
 refine Tot.bind (readS s) fun b hb => ?_
 have e:a.2.2.2 = b.2.2.2:=by
  rcases ha with ha | ha <;> rcases hb with hb | hb
  ·rw [ha.1,hb.1]
  ·exact absurd ha.2.2.2.2 (hb.2 _ _ _ ha.2.1 ha.2.2.1 ha.2.2.2.1)
  ·exact absurd hb.2.2.2.2 (ha.2 _ _ _ hb.2.1 hb.2.2.1 hb.2.2.2.1)
  ·rw [ha.1,hb.1]
 refine Tot.yes (by rw [e];simp) (Tot.ite (fun h => ?_) (fun _ => Tot.ret rfl))
 rcases ha with ha | ha
 ·refine Tot.bind (txtI_T a.2.1 ha.2.1 ha.2.2.1 a.2.2.1) ?_
  rintro _ rfl
  exact Tot.ret (by rw [ha.2.2.2.2];simp)
 ·rw [ha.1] at h;cases h
theorem FnInsTexts:laws_FnInsTexts.Pure:=by
 intro l _ _ hw
 refine Tot.done ?_
 unfold laws_FnInsTexts.f laws_big.f
 refine Tot.bind (Tot.of rfl rfl) ?_
 rintro _ rfl
 refine Tot.ite (fun _ => Tot.ret rfl) (fun hbig => ?_)
 have hl:l.length ≤ 1048576:=by simp at hbig;omega
 have hb:=bytes_wf hw
 refine Tot.bind (drawA_T hl hb) fun c hc => ?_
 obtain ⟨n,cb,m⟩:=c
 obtain ⟨h0,h1⟩:=hc
 dsimp only at h0 h1 ⊢
 refine Tot.bind (txtI_T cb h0 h1 m) ?_
 rintro _ rfl
 refine Tot.bind (readI _) fun r hr => ?_
 refine Tot.bind (txtS_T cb h0 h1 m) ?_
 rintro _ rfl
 refine Tot.yes rfl ?_
 refine Tot.bind (okI_T cb h0 h1 m) ?_
 rintro _ rfl
 have last:=lawJ hl hb
 cases ho:okV (hk cb n) m with
 | true =>
  have hf:XIt.Found (txtV cb n m) r:=by
   rcases hr with h | h
   ·exact h
   ·exact absurd rfl (h.2 cb n m h0 h1 ho)
  obtain ⟨hok,a0,a1,a2,a3⟩:=hf
  obtain ⟨e1,e2,e3⟩:=one_read a0 a1 h0 h1 a2 ho a3
  rw [hok,e1,e2,e3]
  refine Tot.no (by decide) (Tot.yes rfl ?_)
  simp only [beq_self_eq_true,Bool.not_true,Bool.or_self]
  exact last
 | false =>
  have hz:txtV cb n m = ⟨#[]⟩:=by unfold txtV;rw [ho,if_neg (by decide)]
  have hf:r.2.2.2 = false:=by
   rcases hr with h | h
   ·have:=txt_size h.2.1 h.2.2.1 h.2.2.2.1
    rw [h.2.2.2.2,hz] at this
    exact absurd this.1 (by decide)
   ·exact h.1
  rw [hf]
  exact Tot.no (by decide) (Tot.no (by decide) last)
end Go.Proofs.YtodlnnoekccmmaaGreatDoor.Pure
