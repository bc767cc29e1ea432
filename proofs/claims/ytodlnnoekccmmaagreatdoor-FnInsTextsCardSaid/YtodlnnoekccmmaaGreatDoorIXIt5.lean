import Derived.Test.YtodlnnoekccmmaaGreatDoorIXIt2
import Derived.Test.YtodlnnoekccmmaaGreatDoorIXIt4
import Derived.Test.YtodlnnoekccmmaaGreatDoorILib
namespace Go.Proofs.YtodlnnoekccmmaaGreatDoor.XIt
open Go.RowKit Go.Proofs.YtodlnnoekccmmaaGreatDoor.QFnInsTexts Go.Proofs.YtodlnnoekccmmaaGreatDoorW.PrintWords Go.Proofs.YtodlnnoekccmmaaGreatDoorW.PrintLast Go.Proofs.YtodlnnoekccmmaaGreatDoorW.PrintMore Go.Proofs.YtodlnnoekccmmaaGreatDoor.Lib Go.Proofs.YtodlnnoekccmmaaGreatDoor.LibX Go.Proofs.YtodlnnoekccmmaaGreatDoor.LibE
set_option linter.unusedSimpArgs false
set_option linter.unusedVariables false
/-! ### the loops -/
theorem Tot.all {α ι:Type} {g:Nat → Option α} {C:ι → Prop} {Q:ι → α → Prop} {P:α → Prop} (h:Tot g P) (hq:∀ x,C x → Tot g (Q x)):Tot g (fun a => P a ∧ ∀ x,C x → Q x a):=by
 obtain ⟨K,r,hp,hk⟩:=h
 refine ⟨K,r,⟨hp,fun x hx => ?_⟩,hk⟩
 obtain ⟨L,u,hu,hl⟩:=hq x hx
 have e1:=hk (max K L) (by omega)
 have e2:=hl (max K L) (by omega)
 rw [e1] at e2
 rw [Option.some.inj e2]
 exact hu
theorem tlE {a b:ByteArray} (h:a.toList = b.toList):a = b:=baE (by rw [← toL,← toL];exact h)
def IsT (s:ByteArray) (r:Int × Bool × Int × Bool):Prop:=0 ≤ r.1 ∧ r.1 < 256 ∧ okV (hk r.2.1 r.1) r.2.2.1 = true ∧ txtV r.2.1 r.1 r.2.2.1 = s
def Found (s:ByteArray) (r:Int × Bool × Int × Bool):Prop:=r.2.2.2 = true ∧ IsT s r
def NoT (s:ByteArray) (i:Int):Prop:=∀ n m,i ≤ n → n < 256 → 2 ≤ hk false n → okV (hk false n) m = true → txtV false n m ≠ s
def Miss (s:ByteArray):Prop:=∀ cb n m,0 ≤ n → n < 256 → okV (hk cb n) m = true → txtV cb n m ≠ s
theorem okNe {cb:Bool} {n m:Int} {s:ByteArray} (hs:1 ≤ s.size) (e:txtV cb n m = s):okV (hk cb n) m = true:=by
 cases h:okV (hk cb n) m with
 | true => rfl
 | false =>
  unfold txtV at e
  rw [h,if_neg (by decide)] at e
  subst e
  exact absurd hs (by decide)
def QS (cb:Bool) (n:Int):Prop:=(tm cb n).size ≤ 14
instance (cb:Bool) (n:Int):Decidable (QS cb n):=by unfold QS;infer_instance
set_option maxRecDepth 100000 in
theorem qs1:∀ n:Fin 256,QS true ((n.val:Nat):Int):=by decide +kernel
set_option maxRecDepth 100000 in
theorem qs0:∀ n:Fin 256,QS false ((n.val:Nat):Int):=by decide +kernel
theorem qs (cb:Bool) {n:Int} (h0:0 ≤ n) (h1:n < 256):QS cb n:=by
 cases cb
 ·exact all256 qs0 h0 h1
 ·exact all256 qs1 h0 h1
theorem ok_ne0 {h:Nat} {m:Int} (ho:okV h m = true):h ≠ 0:=fun e => by rw [e] at ho;exact absurd ho (by simp [okV])
theorem txt_size {cb:Bool} {n m:Int} (h0:0 ≤ n) (h1:n < 256) (ho:okV (hk cb n) m = true):1 ≤ (txtV cb n m).size ∧ (txtV cb n m).size ≤ 20:=by
 have q:(tm cb n).size ≤ 14:=qs cb h0 h1
 have hz:=(qc cb h0 h1).2.2.1
 have hne:=ok_ne0 ho
 have hle:=hk_le cb h0 h1
 by_cases c:hk cb n ≤ 1
 ·have e:txtV cb n m = tm cb n:=by unfold txtV;rw [if_pos ho,if_pos c]
  rw [e]
  have:(tm cb n).size ≠ 0:=fun z => hne (hz.1 z)
  omega
 ·obtain ⟨x1,x2,_,_⟩:=(qx cb h0 h1).2.2 (by omega)
  have f2:=(fill_facts (hk cb n) (by omega) m).2
  have:=putV_size (tm cb n) (hp cb n) (holeLen (hk cb n)) (fillV (hk cb n) m) x1 x2
  unfold txtV
  rw [if_pos ho,if_neg c]
  omega
theorem rd2 (s:ByteArray) (hs:1 ≤ s.size) {i:Int} (h0:0 ≤ i) (h1:i < 256) (v:Int) (b:Bool) (ih:Tot (fun k => impl_ReadInsText.l0 k s (i + 1)) (fun r => Found s r ∨ (r.2.2.2 = false ∧ NoT s (i + 1)))) :
  Tot (fun k => impl_ReadInsText.j2 k s i v b i) (fun r => Found s r ∨ (r.2.2.2 = false ∧ (b = true → txtV false i v ≠ s) ∧ NoT s (i + 1))):=by
 refine Tot.step (fun k => impl_ReadInsText.j2.eq_2 _ _ _ _ _ k) ?_
 rw [w64_in (n:=i + 1) (by omega) (by omega)]
 refine Tot.ite (fun hb => ?_) (fun hb => ih.mono fun r hr => hr.imp id fun h => ⟨h.1,fun e => absurd e hb,h.2⟩)
 refine Tot.bind (txtI_T false h0 h1 v) ?_
 rintro _ rfl
 refine Tot.ite (fun e => Tot.ret (.inl ⟨rfl,h0,h1,okNe hs (tlE e),tlE e⟩)) (fun e => ih.mono fun r hr => hr.imp id fun h => ⟨h.1,fun _ z => e (by rw [z]),h.2⟩)
theorem rdL (s:ByteArray) (hs:1 ≤ s.size) (hs2:s.size ≤ 20):∀ c:Nat,∀ i:Int,0 ≤ i → i + c = 256 → Tot (fun k => impl_ReadInsText.l0 k s i) (fun r => Found s r ∨ (r.2.2.2 = false ∧ NoT s i)):=by
 intro c
 induction c with
 | zero =>
  intro i h0 hi
  exact Tot.step (fun k => impl_ReadInsText.l0.eq_2 _ _ k) (Tot.no (by omega) (Tot.ret (.inr ⟨rfl,fun n m a b => by omega⟩)))
 | succ c ih =>
  intro i h0 hi
  have ih:=ih (i + 1) (by omega) (by omega)
  have h1:i < 256:=by omega
  have hle:=hk_le false h0 h1
  have next:(∀ m,okV (hk false i) m = true → 2 ≤ hk false i → txtV false i m ≠ s) → Tot (fun k => impl_ReadInsText.l0 k s (i + 1)) (fun r => Found s r ∨ (r.2.2.2 = false ∧ NoT s i)):=by
   intro no
   refine ih.mono fun r hr => hr.imp id fun h => ⟨h.1,fun n m a b g o => ?_⟩
   rcases Int.lt_or_eq_of_le a with a | rfl
   ·exact h.2 n m (by omega) b g o
   ·exact no m o g
  have fin:∀ v b,(∀ m,okV (hk false i) m = true → 2 ≤ hk false i → txtV false i m = s → b = true ∧ v = m) → Tot (fun k => impl_ReadInsText.j2 k s i v b i) (fun r => Found s r ∨ (r.2.2.2 = false ∧ NoT s i)):=by
   intro v b no
   refine (rd2 s hs h0 h1 v b ih).mono fun r hr => hr.imp id fun h => ⟨h.1,fun n m a b' g o => ?_⟩
   rcases Int.lt_or_eq_of_le a with a | rfl
   ·exact h.2.2 n m (by omega) b' g o
   ·intro e
    obtain ⟨hb,rfl⟩:=no m o g e
    exact h.2.1 hb e
  refine Tot.step (fun k => impl_ReadInsText.l0.eq_2 _ _ k) (Tot.yes h1 ?_)
  rw [w64_in (n:=i + 1) (by omega) (by omega)]
  refine Tot.bind (tmI_T false h0 h1) ?_
  rintro _ rfl
  refine Tot.bind (hoI_T false h0 h1) ?_
  rintro _ rfl
  refine Tot.ite (fun hn => next fun m o g => by have:=(holeS_nil _ hle).1 hn;omega) (fun hn => ?_)
  have hh:2 ≤ hk false i:=by have:¬ hk false i ≤ 1:=fun e => hn ((holeS_nil _ hle).2 e);omega
  obtain ⟨mid,ok,e,hm,hc⟩:=inHole_T false h0 h1 hh s hs2
  have at':∀ m,okV (hk false i) m = true → txtV false i m = s → mid = fillV (hk false i) m ∧ ok = true:=fun m o e => hc _ (by rw [← e,txt_PQ false h0 h1 o hh])
  refine Tot.bind (Tot.of e rfl) ?_
  rintro _ rfl
  refine Tot.ite (fun hok => ?_) (fun hok => next fun m o g e => hok (at' m o e).2)
  refine Tot.bind (Tot.all (C:=fun m => okV (hk false i) m = true ∧ (hk false i = 2 ∨ hk false i = 4) ∧ mid = fillV (hk false i) m) (Q:=fun m a => a = (m,true)) (rnI mid hm) fun m h => by rw [h.2.2];exact num_fill h.2.1 h.1) fun a ha => ?_
  refine Tot.ite (fun h8 => ?_) (fun h8 => fin _ _ fun m o g e => ?_)
  ·have e3:=(holeS_e8 _ hle).1 h8
   have ep:strconv_ParseInt.f mid 10 64 = some (parseV mid):=by unfold strconv_ParseInt.f;rw [if_pos rfl,if_pos rfl,if_pos (by omega)]
   refine Tot.bind (Tot.of ep rfl) ?_
   rintro _ rfl
   have key:∀ m,okV (hk false i) m = true → txtV false i m = s → parseV mid = (sgV m,none) ∧ Go.bits .and .i64 (sgV m) 255 = m ∧ (-128 ≤ sgV m ∧ sgV m ≤ 127):=by
    intro m o e
    have em:=(at' m o e).1
    rw [e3] at em o
    have hm:0 ≤ m ∧ m ≤ 255:=by simpa [okV] using o
    rw [em]
    exact (qp hm.1 hm.2).2.2
   refine Tot.ite (fun hz => ?_) (fun hz => fin _ _ fun m o g e => ?_)
   ·refine Tot.bind (Tot.of (withinI _ _ _) rfl) ?_
    rintro _ rfl
    refine fin _ _ fun m o g e => ?_
    obtain ⟨k1,k2,k3⟩:=key m o e
    rw [k1]
    exact ⟨decide_eq_true k3,k2⟩
   ·obtain ⟨k1,k2,k3⟩:=key m o e
    rw [k1] at hz
    exact absurd rfl hz
  ·have em:=(at' m o e).1
   have n3:hk false i ≠ 3:=fun x => h8 ((holeS_e8 _ hle).2 x)
   have:=ha.2 m ⟨o,by omega,em⟩
   rw [this]
   exact ⟨rfl,rfl⟩
def NoW (s:ByteArray) (cb:Bool) (i:Int):Prop:=∀ n,i ≤ n → n < 256 → hk cb n = 1 → tm cb n ≠ s
theorem wh1 (s:ByteArray) (hs:1 ≤ s.size) (cb:Bool) (ys:List Bool) (x9 x10:Int) (R:Int × Bool × Int × Bool → Prop) (tail:Tot (fun k => impl_wholeIns.l0 k s ys x9 (wrap64 (x10 + 1))) R):∀ c:Nat,∀ i:Int,0 ≤ i → i + c = 256 → Tot (fun k => impl_wholeIns.l1 k s cb ys x9 x10 i) (fun r => Found s r ∨ (R r ∧ NoW s cb i)):=by
 intro c
 induction c with
 | zero =>
  intro i h0 hi
  exact Tot.step (fun k => impl_wholeIns.l1.eq_2 _ _ _ _ _ _ k) (Tot.no (by omega) (tail.mono fun r hr => .inr ⟨hr,fun n a b => by omega⟩))
 | succ c ih =>
  intro i h0 hi
  have ih:=ih (i + 1) (by omega) (by omega)
  have h1:i < 256:=by omega
  have hle:=hk_le cb h0 h1
  have j:∀ b:Bool,(b = true → hk cb i = 1 ∧ tm cb i = s) → (b = false → hk cb i = 1 → tm cb i ≠ s) → Tot (fun k => impl_wholeIns.j2 k s cb i ys x9 x10 i b) (fun r => Found s r ∨ (R r ∧ NoW s cb i)):=by
   intro b hb hb2
   refine Tot.step (fun k => impl_wholeIns.j2.eq_2 _ _ _ _ _ _ _ _ k) ?_
   rw [w64_in (n:=i + 1) (by omega) (by omega)]
   refine Tot.ite (fun h => Tot.ret (.inl ?_)) (fun h => ih.mono fun r hr => hr.imp id fun h' => ⟨h'.1,fun n a b' g => ?_⟩)
   ·obtain ⟨g1,g2⟩:=hb h
    have ho:okV (hk cb i) 0 = true:=by rw [g1];rfl
    refine ⟨rfl,h0,h1,ho,?_⟩
    show txtV cb i 0 = s
    unfold txtV
    rw [if_pos ho,if_pos (by omega)]
    exact g2
   ·rcases Int.lt_or_eq_of_le a with a | rfl
    ·exact h'.2 n (by omega) b' g
    ·exact hb2 (by simpa using h) g
  refine Tot.step (fun k => impl_wholeIns.l1.eq_2 _ _ _ _ _ _ k) (Tot.yes h1 ?_)
  refine Tot.bind (tmI_T cb h0 h1) ?_
  rintro _ rfl
  refine Tot.ite (fun hn => j false (by simp) fun _ g => by have:=(tm_nil cb h0 h1).1 hn;omega) (fun hn => ?_)
  refine Tot.ite (fun he => ?_) (fun he => j false (by simp) fun _ _ e => he (by rw [e]))
  refine Tot.bind (hoI_T cb h0 h1) ?_
  rintro _ rfl
  have hn0:hk cb i ≠ 0:=fun e => hn ((tm_nil cb h0 h1).2 e)
  refine j _ (fun hb => ⟨by have:=(holeS_nil _ hle).1 (eq_of_beq hb);omega,tlE he⟩) (fun hb g => ?_)
  exfalso
  have:=(holeS_nil _ hle).2 (by omega)
  rw [this] at hb
  simp at hb
theorem wh_T (s:ByteArray) (hs:1 ≤ s.size):Tot (fun k => impl_wholeIns.f k s) (fun r => Found s r ∨ (r.2.2.2 = false ∧ ∀ cb,NoW s cb 0)):=by
 unfold impl_wholeIns.f
 refine Tot.bind (Tot.of rfl rfl) ?_
 rintro _ rfl
 have t2:Tot (fun k => impl_wholeIns.l0 k s [false,true] 2 (wrap64 (1 + 1))) (fun r => r.2.2.2 = false):=by
  rw [show wrap64 (1 + 1) = 2 from w64_in (by decide) (by decide)]
  exact Tot.step (fun k => impl_wholeIns.l0.eq_2 _ _ _ _ k) (Tot.no (by decide) (Tot.ret rfl))
 have t1:Tot (fun k => impl_wholeIns.l0 k s [false,true] 2 (wrap64 (0 + 1))) (fun r => Found s r ∨ (r.2.2.2 = false ∧ NoW s true 0)):=by
  rw [show wrap64 (0 + 1) = 1 from w64_in (by decide) (by decide)]
  exact Tot.step (fun k => impl_wholeIns.l0.eq_2 _ _ _ _ k) (Tot.yes (by decide) (Tot.yes (by decide) (Tot.yes (by decide) (wh1 s hs true [false,true] 2 1 _ t2 256 0 (by decide) (by decide)))))
 refine Tot.step (fun k => impl_wholeIns.l0.eq_2 _ _ _ _ k) (Tot.yes (by decide) (Tot.yes (by decide) (Tot.yes (by decide) ((wh1 s hs false [false,true] 2 0 _ t1 256 0 (by decide) (by decide)).mono fun r hr => ?_))))
 rcases hr with h | ⟨h | h,h2⟩
 ·exact .inl h
 ·exact .inl h
 ·exact .inr ⟨h.1,fun cb => by cases cb;exact h2;exact h.2⟩
theorem readI (s:ByteArray):Tot (fun k => impl_ReadInsText.f k s) (fun r => Found s r ∨ (r.2.2.2 = false ∧ Miss s)):=by
 have jt:Tot (fun k => impl_ReadInsText.j0 k s true) (fun r => r.2.2.2 = false):=Tot.step (fun k => impl_ReadInsText.j0.eq_2 _ _ k) (Tot.yes rfl (Tot.ret rfl))
 unfold impl_ReadInsText.f
 refine Tot.ite (fun h => jt.mono fun r hr => .inr ⟨hr,fun cb n m a b o e => ?_⟩) (fun h => ?_)
 ·have:=txt_size a b o
  rw [e] at this
  omega
 by_cases hz:s.size = 0
 ·have e:(s.toList == ([]:List UInt8)) = true:=by rw [(nil_size s).2 hz];rfl
  rw [e]
  refine jt.mono fun r hr => .inr ⟨hr,fun cb n m a b o e => ?_⟩
  have:=txt_size a b o
  rw [e] at this
  omega
 have e:(s.toList == ([]:List UInt8)) = false:=by
  rw [beq_eq_false_iff_ne]
  exact fun x => hz ((nil_size s).1 x)
 rw [e]
 refine Tot.step (fun k => impl_ReadInsText.j0.eq_2 _ _ k) (Tot.no (by decide) ?_)
 refine Tot.bind (wh_T s (by omega)) fun r hr => ?_
 refine Tot.ite (fun hb => Tot.ret (.inl ?_)) (fun hb => ?_)
 ·rcases hr with h | h
  ·exact ⟨rfl,h.2⟩
  ·rw [h.1] at hb;cases hb
 ·have hr:∀ cb,NoW s cb 0:=by
   rcases hr with h | h
   ·exact absurd h.1 hb
   ·exact h.2
  refine (rdL s (by omega) (by omega) 256 0 (by decide) (by decide)).mono fun r h' => h'.imp id fun h' => ⟨h'.1,fun cb n m a b o e => ?_⟩
  have hne:=ok_ne0 o
  have hle:=hk_le cb a b
  by_cases c:hk cb n ≤ 1
  ·have e2:txtV cb n m = tm cb n:=by unfold txtV;rw [if_pos o,if_pos c]
   exact hr cb n a b (by omega) (by rw [← e2];exact e)
  ·cases cb with
   | true => rw [hk_cb a b] at c;omega
   | false => exact h'.2 n m a b (by omega) o e
/-! ### the same by the other side -/
def ixI (cb:Bool) (n:Int):Int:=if cb = true then 256 + n else n
def NoS (s:ByteArray) (i:Int):Prop:=∀ cb n m,0 ≤ n → n < 256 → i ≤ ixI cb n → okV (hk cb n) m = true → txtV cb n m ≠ s
theorem rs3 (s:ByteArray) (hs:1 ≤ s.size) {i:Int} (hi:0 ≤ i ∧ i < 512) (cb:Bool) {n:Int} (h0:0 ≤ n) (h1:n < 256) (hx:ixI cb n = i) (m:Int) (ih:Tot (fun k => spec_ReadInsText.l0 k s (i + 1)) (fun r => Found s r ∨ (r.2.2.2 = false ∧ NoS s (i + 1)))) :
  Tot (fun k => spec_ReadInsText.j3 k s i n cb m) (fun r => Found s r ∨ (r.2.2.2 = false ∧ txtV cb n m ≠ s ∧ NoS s (i + 1))):=by
 refine Tot.step (fun k => spec_ReadInsText.j3.eq_2 _ _ _ _ _ k) ?_
 rw [w64_in (n:=i + 1) (by omega) (by omega)]
 refine Tot.bind (txtS_T cb h0 h1 m) ?_
 rintro _ rfl
 exact Tot.ite (fun e => Tot.ret (.inl ⟨rfl,h0,h1,okNe hs (tlE e),tlE e⟩)) (fun e => ih.mono fun r hr => hr.imp id fun h => ⟨h.1,fun z => e (by rw [z]),h.2⟩)
theorem rs2 (s:ByteArray) (hs2:s.size ≤ 20) {i:Int} (hi:0 ≤ i ∧ i < 512) (cb:Bool) {n:Int} (h0:0 ≤ n) (h1:n < 256) (hx:ixI cb n = i) (b:Bool) (hb:b = decide (hk cb n = 0)) (ih:Tot (fun k => spec_ReadInsText.l0 k s (i + 1)) (fun r => Found s r ∨ (r.2.2.2 = false ∧ NoS s (i + 1)))) :
  Tot (fun k => spec_ReadInsText.j2 k s i b n cb 0) (fun r => Found s r ∨ (r.2.2.2 = false ∧ NoS s i)):=by
 have hle:=hk_le cb h0 h1
 have up:(∀ m,okV (hk cb n) m = true → txtV cb n m ≠ s) → NoS s (i + 1) → NoS s i:=by
  intro no h cb' n' m a b' g o
  by_cases c:i = ixI cb' n'
  ·have:cb' = cb ∧ n' = n:=by
    unfold ixI at hx c
    cases cb <;> cases cb' <;> simp at hx c ⊢ <;> omega
   obtain ⟨rfl,rfl⟩:=this
   exact no m o
  ·exact h cb' n' m a b' (by omega) o
 have next:(∀ m,okV (hk cb n) m = true → txtV cb n m ≠ s) → Tot (fun k => spec_ReadInsText.l0 k s (i + 1)) (fun r => Found s r ∨ (r.2.2.2 = false ∧ NoS s i)):=fun no => ih.mono fun r hr => hr.imp id fun h => ⟨h.1,up no h.2⟩
 have fin:1 ≤ s.size → ∀ v,(∀ m,okV (hk cb n) m = true → txtV cb n m = s → v = m) → Tot (fun k => spec_ReadInsText.j3 k s i n cb v) (fun r => Found s r ∨ (r.2.2.2 = false ∧ NoS s i)):=by
  intro hs v no
  refine (rs3 s hs hi cb h0 h1 hx v ih).mono fun r hr => hr.imp id fun h => ⟨h.1,up (fun m o e => ?_) h.2.2⟩
  have:=no m o e
  subst this
  exact h.2.1 e
 refine Tot.step (fun k => spec_ReadInsText.j2.eq_2 _ _ _ _ _ _ k) ?_
 rw [w64_in (n:=i + 1) (by omega) (by omega)]
 subst hb
 refine Tot.ite (fun h => next fun m o => absurd (of_decide_eq_true h) (ok_ne0 o)) (fun h => ?_)
 have hne:hk cb n ≠ 0:=fun e => h (decide_eq_true e)
 refine Tot.bind (tmS_T cb h0 h1) ?_
 rintro _ rfl
 by_cases c:hk cb n ≤ 1
 ·refine Tot.bind (fits_no cb h0 h1 c s) ?_
  rintro _ rfl
  have et:∀ m,okV (hk cb n) m = true → txtV cb n m = tm cb n:=fun m o => by unfold txtV;rw [if_pos o,if_pos c]
  refine Tot.ite (fun hb => ?_) (fun hb => next fun m o e => hb ?_)
  ·have es:s = tm cb n:=tlE (eq_of_beq hb)
   have hz:(tm cb n).size ≠ 0:=fun z => hne ((qc cb h0 h1).2.2.1.1 z)
   refine Tot.yes ((nil_size _).2 rfl) (fin (by rw [es];omega) 0 fun m o _ => ?_)
   have e1:hk cb n = 1:=by omega
   rw [e1] at o
   have:m = 0:=by simpa [okV] using o
   exact this.symm
  ·rw [← e,et m o];simp
 ·refine Tot.bind (fits_T cb h0 h1 (by omega) s hs2) fun a ha => ?_
  obtain ⟨⟨a1,a2⟩,a3⟩:=ha
  have at':∀ m,okV (hk cb n) m = true → txtV cb n m = s → a = (fillV (hk cb n) m,true):=fun m o e => a3 _ (fill_pos (by omega) o) (by rw [← e,txt_PQ cb h0 h1 o (by omega)])
  refine Tot.ite (fun hb => ?_) (fun hb => next fun m o e => hb (by rw [at' m o e]))
  have hs:1 ≤ s.size:=by
   rcases Nat.eq_zero_or_pos s.size with z | p
   ·rw [a2 z] at hb;cases hb
   ·exact p
  refine Tot.ite (fun hn => fin hs 0 fun m o e => ?_) (fun hn => ?_)
  ·have:=at' m o e
   rw [this] at hn
   have hz:(fillV (hk cb n) m).size = 0:=(nil_size _).1 hn
   have:=fill_pos (h:=hk cb n) (by omega) o
   omega
  ·refine Tot.bind (Tot.all (C:=fun m => okV (hk cb n) m = true ∧ a.1 = fillV (hk cb n) m) (Q:=fun m v => v = m) (immS a.1 a1) fun m h => by rw [h.2];exact imm_fill (by omega) h.1) fun v hv => ?_
   exact fin hs v fun m o e => hv.2 m ⟨o,by rw [at' m o e]⟩
theorem rsL (s:ByteArray) (hs2:s.size ≤ 20):∀ c:Nat,∀ i:Int,0 ≤ i → i + c = 512 → Tot (fun k => spec_ReadInsText.l0 k s i) (fun r => Found s r ∨ (r.2.2.2 = false ∧ NoS s i)):=by
 intro c
 induction c with
 | zero =>
  intro i h0 hi
  refine Tot.step (fun k => spec_ReadInsText.l0.eq_2 _ _ k) (Tot.no (by omega) ?_)
  refine Tot.step (fun k => spec_ReadInsText.j1.eq_2 _ _ _ k) (Tot.no (by decide) (Tot.ret (.inr ⟨rfl,fun cb n m a b g => ?_⟩)))
  unfold ixI at g
  split at g <;> omega
 | succ c ih =>
  intro i h0 hi
  have ih:=ih (i + 1) (by omega) (by omega)
  have et:Int.tmod i 256 = i % 256:=Int.tmod_eq_emod_of_nonneg h0
  refine Tot.step (fun k => spec_ReadInsText.l0.eq_2 _ _ k) (Tot.yes (by omega) ?_)
  refine Tot.step (fun k => spec_ReadInsText.j1.eq_2 _ _ _ k) (Tot.yes (decide_eq_true (by omega)) ?_)
  refine Tot.ite (fun h => ?_) (fun h => ?_)
  ·rw [et,decide_eq_true h]
   refine rs2 s hs2 (by omega) true (by omega) (by omega) (by unfold ixI;rw [if_pos rfl];omega) false ?_ ih
   rw [hk_cb (by omega) (by omega)];rfl
  ·rw [et,decide_eq_false h]
   have e2:i % 256 = i:=by omega
   refine Tot.bind (lenS3_T false (n:=i % 256) (by omega) (by omega)) ?_
   rintro _ rfl
   refine rs2 s hs2 (by omega) false (by omega) (by omega) (by unfold ixI;rw [if_neg (by decide)];omega) _ ?_ ih
   have hle:=hk_le false (n:=i % 256) (by omega) (by omega)
   generalize hk false (i % 256) = h at hle ⊢
   unfold lenK
   have:h = 0 ∨ h = 1 ∨ h = 2 ∨ h = 3 ∨ h = 4:=by omega
   rcases this with rfl | rfl | rfl | rfl | rfl <;> decide
theorem readS (s:ByteArray):Tot (fun k => spec_ReadInsText.f k s) (fun r => Found s r ∨ (r.2.2.2 = false ∧ Miss s)):=by
 unfold spec_ReadInsText.f
 by_cases hs:s.size ≤ 20
 ·refine (rsL s hs 512 0 (by decide) (by decide)).mono fun r hr => hr.imp id fun h => ⟨h.1,fun cb n m a b o => h.2 cb n m a b ?_ o⟩
  unfold ixI;split <;> omega
 ·refine Tot.step (fun k => spec_ReadInsText.l0.eq_2 _ _ k) (Tot.yes (by decide) ?_)
  refine Tot.step (fun k => spec_ReadInsText.j1.eq_2 _ _ _ k) (Tot.no (by rw [decide_eq_false (by omega)];decide) (Tot.ret (.inr ⟨rfl,fun cb n m a b o e => ?_⟩)))
  have:=txt_size a b o
  rw [e] at this
  omega
/-- A text has one reading. -/
theorem one_read {cb cb':Bool} {n n' m m':Int} (h0:0 ≤ n) (h1:n < 256) (g0:0 ≤ n') (g1:n' < 256) (ho:okV (hk cb n) m = true) (ho':okV (hk cb' n') m' = true) (e:txtV cb n m = txtV cb' n' m'):cb = cb' ∧ n = n' ∧ m = m':=by
 obtain ⟨rfl,rfl⟩:=one_code h0 h1 g0 g1 ho ho' e
 refine ⟨rfl,rfl,?_⟩
 have hle:=hk_le cb h0 h1
 have hne:=ok_ne0 ho
 by_cases c:hk cb n ≤ 1
 ·have e1:hk cb n = 1:=by omega
  rw [e1] at ho ho'
  have a:m = 0:=by simpa [okV] using ho
  have b:m' = 0:=by simpa [okV] using ho'
  omega
 ·rw [txt_PQ cb h0 h1 ho (by omega),txt_PQ cb h0 h1 ho' (by omega)] at e
  have ef:=apC e
  obtain ⟨K,hk1⟩:=(imm_fill (h:=hk cb n) (by omega) ho).eq
  obtain ⟨L,hk2⟩:=(imm_fill (h:=hk cb n) (by omega) ho').eq
  have e1:=hk1 (max K L) (by omega)
  have e2:=hk2 (max K L) (by omega)
  rw [ef,e2] at e1
  exact (Option.some.inj e1).symm
end Go.Proofs.YtodlnnoekccmmaaGreatDoor.XIt
