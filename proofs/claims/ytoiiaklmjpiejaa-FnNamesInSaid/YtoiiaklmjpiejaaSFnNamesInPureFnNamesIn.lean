import Derived.Test.YtoiiaklmjpiejaaSFnNamesInQFnNamesInx
import Derived.Test.YtoiiaklmjpiejaaSFnNamesInXNm1
import Derived.Sort.Walk0
import Derived.Test.YtoiiaklmjpiejaaSFnNamesInLib
namespace Go.Proofs.Ytoiiaklmjpiejaa.Pure
open Go.RowKit Go.Proofs.Ytoiiaklmjpiejaa.QFnNamesIn Go.Proofs.YtoiiaklmjpiejaaW.PrintWords Go.Proofs.YtoiiaklmjpiejaaW.PrintLast Go.Proofs.YtoiiaklmjpiejaaW.PrintMore Go.Proofs.Ytoiiaklmjpiejaa.Lib Go.Proofs.Ytoiiaklmjpiejaa.LibX Go.Proofs.Ytoiiaklmjpiejaa.LibCv Go.Proofs.Ytoiiaklmjpiejaa.LibNm
open Go.Proofs.Ytoiiaklmjpiejaa.LibG (S30 rd_T30 z30)
open Go.Proofs.Ytoiiaklmjpiejaa.XNm1 (Tot)
set_option linter.unusedSimpArgs false
set_option linter.unusedVariables false
theorem toL (a:ByteArray):a.toList = a.data.toList:=ByteArray.toList_eq a
theorem datL (a:ByteArray):a.data.toList.length = a.size:=by rw [Array.length_toList];rfl
def mkB (l:List UInt8):ByteArray:=⟨l.toArray⟩
theorem mkB_data (a:ByteArray):mkB a.data.toList = a:=rfl
theorem ba_ext {a b:ByteArray} (h:a.data.toList = b.data.toList):a = b:=by
 have:=congrArg mkB h
 rwa [mkB_data,mkB_data] at this
theorem bt_data {s:ByteArray} {i:Nat} (h:i < s.size):∃ u:UInt8,s.data.toList[i]? = some u ∧ bt s (i:Int) = (u.toNat:Int):=by
 have hl:i < s.data.toList.length:=by rw [datL];exact h
 refine ⟨s.data.toList[i],List.getElem?_eq_getElem hl,?_⟩
 unfold bt
 rw [dif_pos (show ((i:Int)).toNat < s.size by omega)]
 congr 2
theorem u8_lit (u:UInt8) (n:Nat) (hn:n < 256):(u.toNat:Int) = (n:Int) ↔ u = UInt8.ofNat n:=by
 constructor
 ·intro h
  apply UInt8.toNat_inj.1
  rw [UInt8.toNat_ofNat']
  omega
 ·intro h
  rw [h,UInt8.toNat_ofNat']
  omega
theorem u32 (u:UInt8):(u.toNat:Int) = 32 ↔ u = 32:=u8_lit u 32 (by decide)
theorem u44 (u:UInt8):(u.toNat:Int) = 44 ↔ u = 44:=u8_lit u 44 (by decide)
theorem nil_size (a:ByteArray):a.toList = ([]:List UInt8) ↔ a.size = 0:=by
 rw [toL]
 constructor
 ·intro h
  have:=congrArg List.length h
  rwa [Array.length_toList] at this
 ·intro h
  exact List.eq_nil_of_length_eq_zero (by rw [Array.length_toList];exact h)
theorem size0 (a:ByteArray):a.toList = ([]:List UInt8) ↔ a.size = 0:=by
 rw [toL]
 constructor
 ·intro h;rw [← datL,h];rfl
 ·intro h;exact List.eq_nil_of_length_eq_zero (by rw [datL];exact h)
theorem withinI (a lo hi:Int):impl_within.f a lo hi = some (decide (lo ≤ a ∧ a ≤ hi)):=by
 unfold impl_within.f
 by_cases h:a ≥ lo
 ·rw [if_pos h];simp [show lo ≤ a from h]
 ·rw [if_neg h];simp [show ¬ lo ≤ a from h]
theorem digI (c:Int):impl_isDigit.f c = some (decide (48 ≤ c ∧ c ≤ 57)):=by
 unfold impl_isDigit.f
 by_cases h:c ≥ 48
 ·rw [if_pos h];simp [show 48 ≤ c from h]
 ·rw [if_neg h];simp [show ¬ 48 ≤ c from h]
theorem smI (c:Int):impl_isSmall.f c = some (decide (97 ≤ c ∧ c ≤ 122)):=by
 unfold impl_isSmall.f
 by_cases h:c ≥ 97
 ·rw [if_pos h];simp [show 97 ≤ c from h]
 ·rw [if_neg h];simp [show ¬ 97 ≤ c from h]
def ltC (c:Int):Prop:=(97 ≤ c ∧ c ≤ 122) ∨ c = 95 ∨ c = 46
def nmC (c:Int):Prop:=ltC c ∨ (48 ≤ c ∧ c ≤ 57)
instance (c:Int):Decidable (ltC c):=by unfold ltC;infer_instance
instance (c:Int):Decidable (nmC c):=by unfold nmC;infer_instance
theorem ltS (c:Int):spec_l1Letter.f c = some (decide (ltC c)):=by
 unfold spec_l1Letter.f ltC
 by_cases h:c ≥ 97
 ·rw [if_pos h]
  by_cases g:c ≤ 122
  ·rw [if_pos g];simp [g,show 97 ≤ c from h]
  ·rw [if_neg g,if_neg (show ¬ c = 95 by omega)]
   simp [show ¬ c = 46 by omega,show ¬ c = 95 by omega,g]
 ·rw [if_neg h]
  by_cases g:c = 95
  ·rw [if_pos g];simp [g]
  ·rw [if_neg g]
   by_cases e:c = 46
   ·simp [e]
   ·simp [e,g,show ¬ 97 ≤ c from h]
def NameG (s:ByteArray):Prop:=1 ≤ s.size ∧ s.size ≤ 16 ∧ ltC (bt s 0) ∧ ∀ i:Nat,i < s.size → nmC (bt s (i:Int))
theorem nameI_T (s:ByteArray) (h:s.size ≤ 1000000):Tot (fun k => impl_NameOk.f k s) (fun b => b = true ↔ NameG s):=by
 have go:1 ≤ s.size → s.size ≤ 16 → ∀ (d i:Nat),s.size - i = d → i ≤ s.size → (∀ j:Nat,j < i → nmC (bt s (j:Int))) → Tot (fun k => impl_NameOk.l0 k s (s.size:Int) (i:Int)) (fun b => b = true ↔ ∀ i:Nat,i < s.size → nmC (bt s (i:Int))):=by
  intro z1 z2 d
  induction d with
  | zero =>
   intro i h1 h2 hi
   exact Tot.step (fun k => impl_NameOk.l0.eq_2 _ _ _ k) (Tot.no (by omega) (Tot.ret ⟨fun _ j hj => hi j (by omega),fun _ => rfl⟩))
  | succ d ih =>
   intro i h1 h2 hi
   refine Tot.step (fun k => impl_NameOk.l0.eq_2 _ _ _ k) (Tot.yes (by omega) (Tot.yes (by omega) (Tot.yes (by omega) ?_)))
   have j2:∀ b:Bool,(b = true ↔ ¬ nmC (bt s (i:Int))) → Tot (fun k => impl_NameOk.j2 k s (s.size:Int) (i:Int) b) (fun b => b = true ↔ ∀ i:Nat,i < s.size → nmC (bt s (i:Int))):=by
    intro b hb
    refine Tot.step (fun k => impl_NameOk.j2.eq_2 _ _ _ _ k) (Tot.ite (fun e => Tot.ret ?_) (fun e => ?_))
    ·exact ⟨fun x => absurd x (by decide),fun x => absurd (x i (by omega)) (hb.1 e)⟩
    ·rw [w64_in (by omega) (by omega)]
     have ok:nmC (bt s (i:Int)):=Classical.byContradiction fun x => e (hb.2 x)
     exact ih (i + 1) (by omega) (by omega) (fun j hj => by
      by_cases c:j < i
      ·exact hi j c
      ·rw [show j = i by omega];exact ok)
   unfold nmC ltC at j2
   generalize bt s (i:Int) = c at j2 ⊢
   refine Tot.bind (Tot.of (smI c) rfl) ?_
   rintro _ rfl
   refine Tot.ite (fun e => j2 _ ?_) (fun e => ?_)
   ·have:=of_decide_eq_true e
    exact ⟨fun x => absurd x (by decide),fun x => absurd (.inl (.inl this)) x⟩
   ·have n1:¬ (97 ≤ c ∧ c ≤ 122):=fun x => e (decide_eq_true x)
    refine Tot.bind (Tot.of (digI c) rfl) ?_
    rintro _ rfl
    refine Tot.ite (fun e => j2 _ ?_) (fun e => Tot.ite (fun g => j2 _ ?_) (fun g => j2 _ ?_))
    ·have:=of_decide_eq_true e
     exact ⟨fun x => absurd x (by decide),fun x => absurd (.inr this) x⟩
    ·exact ⟨fun x => absurd x (by decide),fun x => absurd (.inl (.inr (.inl g))) x⟩
    ·have n2:¬ (48 ≤ c ∧ c ≤ 57):=fun x => e (decide_eq_true x)
     rw [bne_iff_ne]
     constructor
     ·rintro x ((y | y | y) | y)
      ·exact n1 y
      ·exact g y
      ·exact x y
      ·exact n2 y
     ·intro x y
      exact x (.inl (.inr (.inr y)))
 unfold impl_NameOk.f
 refine Tot.bind (Tot.of (withinI _ _ _) rfl) ?_
 rintro _ rfl
 have j0:∀ (b:Bool),(b = false → 1 ≤ s.size ∧ s.size ≤ 16) → (b = true → ¬ NameG s) → (b = false → (∀ i:Nat,i < s.size → nmC (bt s (i:Int))) → ltC (bt s 0)) → Tot (fun k => impl_NameOk.j0 k s b) (fun b => b = true ↔ NameG s):=by
  intro b h1 h2 h3
  refine Tot.step (fun k => impl_NameOk.j0.eq_2 _ _ k) (Tot.ite (fun e => Tot.ret ⟨fun x => absurd x (by decide),fun x => absurd x (h2 e)⟩) (fun e => ?_))
  have e':b = false:=by simpa using e
  obtain ⟨z1,z2⟩:=h1 e'
  refine (go z1 z2 _ 0 rfl (Nat.zero_le _) (fun j hj => absurd hj (Nat.not_lt_zero _))).mono fun r hr => ?_
  rw [hr]
  exact ⟨fun x => ⟨z1,z2,h3 e' x,x⟩,fun x => x.2.2.2⟩
 refine Tot.ite (fun e => ?_) (fun e => j0 _ (fun x => absurd x (by decide)) (fun _ x => e (decide_eq_true (by have:=x.1;have:=x.2.1;omega))) (fun x => absurd x (by decide)))
 have z:=of_decide_eq_true e
 refine Tot.yes (by omega) ?_
 refine Tot.bind (Tot.of (digI _) rfl) ?_
 rintro _ rfl
 refine j0 _ (fun _ => by omega) (fun x y => ?_) (fun x y => ?_)
 ·have d:=of_decide_eq_true x
  have l:=y.2.2.1
  unfold ltC at l
  omega
 ·have d:=of_decide_eq_false x
  have:=y 0 (by omega)
  unfold nmC at this
  rcases this with q | q
  ·exact q
  ·exact absurd q d
theorem nameS_T (s:ByteArray) (h:s.size ≤ 1000000):Tot (fun k => spec_NameOk.f k s) (fun b => b = true ↔ NameG s):=by
 have go:1 ≤ s.size → s.size ≤ 16 → ∀ (d i:Nat),s.size - i = d → i ≤ s.size → (∀ j:Nat,j < i → nmC (bt s (j:Int))) → Tot (fun k => spec_NameOk.l0 k s (i:Int)) (fun b => b = true ↔ ∀ i:Nat,i < s.size → nmC (bt s (i:Int))):=by
  intro z1 z2 d
  induction d with
  | zero =>
   intro i h1 h2 hi
   exact Tot.step (fun k => spec_NameOk.l0.eq_2 _ _ k) (Tot.no (by omega) (Tot.ret ⟨fun _ j hj => hi j (by omega),fun _ => rfl⟩))
  | succ d ih =>
   intro i h1 h2 hi
   refine Tot.step (fun k => spec_NameOk.l0.eq_2 _ _ k) (Tot.yes (by omega) (Tot.yes (by omega) ?_))
   have j2:∀ b:Bool,(b = true ↔ ¬ nmC (bt s (i:Int))) → Tot (fun k => spec_NameOk.j2 k s (i:Int) b) (fun b => b = true ↔ ∀ i:Nat,i < s.size → nmC (bt s (i:Int))):=by
    intro b hb
    refine Tot.step (fun k => spec_NameOk.j2.eq_2 _ _ _ k) (Tot.ite (fun e => Tot.ret ?_) (fun e => ?_))
    ·exact ⟨fun x => absurd x (by decide),fun x => absurd (x i (by omega)) (hb.1 e)⟩
    ·rw [w64_in (by omega) (by omega)]
     have ok:nmC (bt s (i:Int)):=Classical.byContradiction fun x => e (hb.2 x)
     exact ih (i + 1) (by omega) (by omega) (fun j hj => by
      by_cases c:j < i
      ·exact hi j c
      ·rw [show j = i by omega];exact ok)
   unfold nmC at j2
   generalize bt s (i:Int) = c at j2 ⊢
   refine Tot.bind (Tot.of (ltS c) rfl) ?_
   rintro _ rfl
   refine Tot.ite (fun e => j2 _ ?_) (fun e => Tot.ite (fun g => j2 _ ?_) (fun g => j2 _ ?_))
   ·have:=of_decide_eq_true e
    exact ⟨fun x => absurd x (by decide),fun x => absurd (.inl this) x⟩
   ·have n1:¬ ltC c:=fun x => e (decide_eq_true x)
    have g':48 ≤ c:=g
    by_cases l:c ≤ 57
    ·simp [l,g']
    ·simp [l,n1]
   ·have n1:¬ ltC c:=fun x => e (decide_eq_true x)
    have g':¬ 48 ≤ c:=g
    simp [g',n1]
 unfold spec_NameOk.f
 have j0:∀ (b:Bool),(b = false → 1 ≤ s.size ∧ s.size ≤ 16 ∧ ltC (bt s 0)) → (b = true → ¬ NameG s) → Tot (fun k => spec_NameOk.j0 k s b) (fun b => b = true ↔ NameG s):=by
  intro b h1 h2
  refine Tot.step (fun k => spec_NameOk.j0.eq_2 _ _ k) (Tot.ite (fun e => Tot.ret ⟨fun x => absurd x (by decide),fun x => absurd x (h2 e)⟩) (fun e => ?_))
  obtain ⟨z1,z2,z3⟩:=h1 (by simpa using e)
  refine (go z1 z2 _ 0 rfl (Nat.zero_le _) (fun j hj => absurd hj (Nat.not_lt_zero _))).mono fun r hr => ?_
  rw [hr]
  exact ⟨fun x => ⟨z1,z2,z3,x⟩,fun x => x.2.2.2⟩
 refine Tot.ite (fun e => j0 _ (fun x => absurd x (by decide)) (fun _ x => by have:=x.1;omega)) (fun e => Tot.ite (fun g => j0 _ (fun x => absurd x (by decide)) (fun _ x => by have:=x.2.1;omega)) (fun g => Tot.yes (by omega) ?_))
 refine Tot.bind (Tot.of (ltS _) rfl) ?_
 rintro _ rfl
 refine j0 _ (fun x => ⟨by omega,by omega,?_⟩) (fun x y => ?_)
 ·simpa using x
 ·have:=y.2.2.1
  simp [this] at x
theorem inS (a lo hi:Int):spec_l1In.f a lo hi = some (decide (lo ≤ a ∧ a ≤ hi)):=by
 unfold spec_l1In.f
 by_cases h:a ≥ lo
 ·rw [if_pos h];simp [show lo ≤ a from h]
 ·rw [if_neg h];simp [show ¬ lo ≤ a from h]
def NodeG (a b:Int) (c:ByteArray):Prop:=(a = 1 ∧ (0 ≤ b ∧ b ≤ 65535) ∧ c.size = 0) ∨ ((a = 2 ∨ a = 3) ∧ b = 0 ∧ NameG c) ∨ ((4 ≤ a ∧ a ≤ 17) ∧ b = 0 ∧ c.size = 0)
theorem takesS (a:Int):spec_l2Takes.f a = some (if 1 ≤ a ∧ a ≤ 3 then 0 else if 4 ≤ a ∧ a ≤ 7 then 1 else if 8 ≤ a ∧ a ≤ 17 then 2 else -1):=by
 unfold spec_l2Takes.f
 rw [inS,inS,inS]
 simp only [Option.bind_some,decide_eq_true_eq]
 split
 ·rfl
 ·split
  ·rfl
  ·split <;> rfl
theorem nodeS_T (a b:Int) (c:ByteArray) (hc:c.size ≤ 1000000):Tot (fun k => spec_l2Node.f k a b c) (fun t => t = true ↔ NodeG a b c):=by
 have j0:∀ t:Bool,a ≠ 1 → (t = true ↔ a = 2 ∨ a = 3) → Tot (fun k => spec_l2Node.j0 k t a b c) (fun t => t = true ↔ NodeG a b c):=by
  intro t h1 ht
  refine Tot.step (fun k => spec_l2Node.j0.eq_2 _ _ _ _ k) (Tot.ite (fun e => ?_) (fun e => ?_))
  ·have h2:=ht.1 e
   refine Tot.ite (fun eb => ?_) (fun eb => Tot.ret (Iff.intro (fun x => by cases x) (fun x => ?_)))
   ·refine Tot.bind (nameS_T c hc) fun q hq => Tot.ret ?_
    rw [hq]
    refine Iff.intro (fun n => .inr (.inl ⟨h2,eb,n⟩)) (fun x => ?_)
    rcases x with x | x | x
    ·exact absurd x.1 h1
    ·exact x.2.2
    ·omega
   ·rcases x with x | x | x
    ·exact absurd x.1 h1
    ·exact absurd x.2.1 eb
    ·exact absurd x.2.1 eb
  ·have h2:¬ (a = 2 ∨ a = 3):=fun x => e (ht.2 x)
   have no:∀ y:Prop,(NodeG a b c → y) → (¬ y) → Tot (fun _ => some false) (fun t => t = true ↔ NodeG a b c):=fun y h n => Tot.ret (Iff.intro (fun x => by cases x) (fun x => absurd (h x) n))
   refine Tot.ite (fun eb => ?_) (fun eb => no (b = 0) (fun x => ?_) eb)
   ·refine Tot.ite (fun ec => ?_) (fun ec => no (c.size = 0) (fun x => ?_) (fun z => ec ((size0 c).2 z)))
    ·refine Tot.bind (Tot.of (takesS a) rfl) ?_
     rintro _ rfl
     refine Tot.ret ?_
     rw [decide_eq_true_eq]
     have hcs:=(size0 c).1 ec
     refine Iff.intro (fun x => ?_) (fun x => ?_)
     ·refine .inr (.inr ⟨?_,eb,hcs⟩)
      split at x
      ·omega
      ·split at x
       ·omega
       ·split at x
        ·omega
        ·omega
     ·rcases x with x | x | x
      ·exact absurd x.1 h1
      ·exact absurd x.1 h2
      ·rw [if_neg (by omega)]
       by_cases h7:4 ≤ a ∧ a ≤ 7
       ·rw [if_pos h7];decide
       ·rw [if_neg h7,if_pos (by omega)];decide
    ·rcases x with x | x | x
     ·exact absurd x.1 h1
     ·exact absurd x.1 h2
     ·exact x.2.2
   ·rcases x with x | x | x
    ·exact absurd x.1 h1
    ·exact x.2.1
    ·exact x.2.1
 unfold spec_l2Node.f
 refine Tot.ite (fun e => ?_) (fun e => Tot.ite (fun e2 => j0 _ e (by simp [e2])) (fun e2 => j0 _ e (by simp [e2])))
 refine Tot.bind (Tot.of (inS _ _ _) rfl) ?_
 rintro _ rfl
 refine Tot.ite (fun q => Tot.ret ?_) (fun q => Tot.ret (Iff.intro (fun x => by cases x) (fun x => ?_)))
 ·rw [beq_iff_eq,size0]
  refine Iff.intro (fun z => .inl ⟨e,of_decide_eq_true q,z⟩) (fun x => ?_)
  rcases x with x | x | x
  ·exact x.2.2
  ·omega
  ·exact x.2.2
 ·rcases x with x | x | x
  ·exact absurd (decide_eq_true x.2.1) q
  ·omega
  ·omega
def okFrom:Int → List S30 → Prop
 | h,[] => h = 1
 | h,x :: l => NodeG x.f0 x.f1 x.f2 ∧ (if x.f0 ≤ 3 then okFrom (h + 1) l else if x.f0 ≤ 7 then 1 ≤ h ∧ okFrom h l else 2 ≤ h ∧ okFrom (h - 1) l)
def OkE (e:List S30):Prop:=e.length ≤ 30 ∧ okFrom 0 e
def SeenE (e:List S30):Prop:=e.length ≤ 1000000 ∧ ∀ x ∈ e,x.f2.size ≤ 1000000
theorem rdE_at {l:List S30} {i:Nat} (h:i < l.length):rd_T30 l (i:Int) = l[i]:=by
 unfold rd_T30
 rw [Int.toNat_natCast,List.getD_eq_getElem?_getD,List.getElem?_eq_getElem h]
 rfl
theorem drop_at {l:List S30} {i:Nat} (h:i < l.length):l.drop i = rd_T30 l (i:Int) :: l.drop (i + 1):=by
 rw [rdE_at h];exact List.drop_eq_getElem_cons h
theorem SeenE.at {l:List S30} (h:SeenE l) {i:Nat} (hi:i < l.length):(rd_T30 l (i:Int)).f2.size ≤ 1000000:=by
 rw [rdE_at hi];exact h.2 _ (List.getElem_mem _)
theorem exS_T {e:List S30} (hs:SeenE e):Tot (fun k => spec_ExprOk.f k e) (fun t => t = true ↔ OkE e):=by
 have hlen:=hs.1
 have go:∀ (d i:Nat) (h:Int),e.length - i = d → i ≤ e.length → 0 ≤ h → h ≤ (i:Int) → Tot (fun k => spec_ExprOk.l0 k e h (i:Int)) (fun t => t = true ↔ e.length ≤ 30 ∧ okFrom h (e.drop i)):=by
  intro d
  induction d with
  | zero =>
   intro i h h1 h2 h3 h4
   refine Tot.step (fun k => spec_ExprOk.l0.eq_2 _ _ _ k) (Tot.no (by omega) ?_)
   rw [List.drop_eq_nil_of_le (by omega)]
   refine Tot.ite (fun c => Tot.ret ?_) (fun c => Tot.ret (Iff.intro (fun x => by cases x) (fun x => by omega)))
   rw [beq_iff_eq]
   exact ⟨fun x => ⟨by omega,x⟩,fun x => x.2⟩
  | succ d ih =>
   intro i h h1 h2 h3 h4
   have hil:i < e.length:=by omega
   refine Tot.step (fun k => spec_ExprOk.l0.eq_2 _ _ _ k) (Tot.yes (by omega) (Tot.yes (by omega) ?_))
   rw [drop_at hil]
   refine Tot.bind (nodeS_T _ _ _ (hs.at hil)) fun t ht => Tot.ite (fun c => ?_) (fun c => Tot.ret (Iff.intro (fun x => by cases x) (fun x => absurd (ht.2 x.2.1) c)))
   have hn:=ht.1 c
   have hr:1 ≤ (rd_T30 e (i:Int)).f0 ∧ (rd_T30 e (i:Int)).f0 ≤ 17:=by
    rcases hn with x | x | x <;> omega
   refine Tot.bind (Tot.of (takesS _) rfl) ?_
   rintro _ rfl
   have e1:wrap64 ((i:Int) + 1) = ((i + 1:Nat):Int):=by rw [w64_in (by omega) (by omega)];rfl
   generalize rd_T30 e (i:Int) = x at hn hr ⊢
   have key:∀ (t h':Int),(if 1 ≤ x.f0 ∧ x.f0 ≤ 3 then (0:Int) else if 4 ≤ x.f0 ∧ x.f0 ≤ 7 then 1 else if 8 ≤ x.f0 ∧ x.f0 ≤ 17 then 2 else -1) = t → h' = h - t + 1 → (0 ≤ t ∧ t ≤ 2) → (t ≤ h → (okFrom h (x :: e.drop (i + 1)) ↔ okFrom h' (e.drop (i + 1)))) → (h < t → ¬ okFrom h (x :: e.drop (i + 1))) →
     Tot (fun k => if (if 1 ≤ x.f0 ∧ x.f0 ≤ 3 then (0:Int) else if 4 ≤ x.f0 ∧ x.f0 ≤ 7 then 1 else if 8 ≤ x.f0 ∧ x.f0 ≤ 17 then 2 else -1) > h then some false else (spec_l2Takes.f x.f0).bind fun t235 => spec_ExprOk.l0 k e (wrap64 (wrap64 (h - t235) + 1)) (wrap64 ((i:Int) + 1))) (fun t => t = true ↔ e.length ≤ 30 ∧ okFrom h (x :: e.drop (i + 1))):=by
    intro t h' et eh tb h5 h6
    rw [et]
    refine Tot.ite (fun c => Tot.ret (Iff.intro (fun y => by cases y) (fun y => absurd y.2 (h6 c)))) (fun c => ?_)
    refine Tot.bind (Tot.of (takesS _) rfl) ?_
    rintro _ rfl
    rw [et,w64_in (n:=h - t) (by omega) (by omega),w64_in (n:=h - t + 1) (by omega) (by omega),e1,← eh,h5 (by omega)]
    exact ih (i + 1) h' (by omega) (by omega) (by omega) (by omega)
   by_cases c3:x.f0 ≤ 3
   ·refine key 0 (h + 1) (by rw [if_pos (by omega)]) (by omega) (by decide) (fun _ => ?_) (fun c => ?_)
    ·rw [okFrom,if_pos c3];exact ⟨fun y => y.2,fun y => ⟨hn,y⟩⟩
    ·omega
   ·by_cases c7:x.f0 ≤ 7
    ·refine key 1 h (by rw [if_neg (by omega),if_pos (by omega)]) (by omega) (by decide) (fun c => ?_) (fun c => ?_)
     ·rw [okFrom,if_neg c3,if_pos c7];exact ⟨fun y => y.2.2,fun y => ⟨hn,c,y⟩⟩
     ·rw [okFrom,if_neg c3,if_pos c7];exact fun y => by have:=y.2.1;omega
    ·refine key 2 (h - 1) (by rw [if_neg (by omega),if_neg (by omega),if_pos (by omega)]) (by omega) (by decide) (fun c => ?_) (fun c => ?_)
     ·rw [okFrom,if_neg c3,if_neg c7];exact ⟨fun y => y.2.2,fun y => ⟨hn,c,y⟩⟩
     ·rw [okFrom,if_neg c3,if_neg c7];exact fun y => by have:=y.2.1;omega
 unfold spec_ExprOk.f
 exact go _ 0 0 rfl (Nat.zero_le _) (by decide) (by decide)
theorem wordI (a:Int):impl_isWord.f a = some (decide (0 ≤ a ∧ a ≤ 65535)):=by unfold impl_isWord.f;rw [withinI];rfl
theorem nodeI_T (a b:Int) (c:ByteArray) (hc:c.size ≤ 1000000):Tot (fun k => impl_isNode.f k a b c) (fun t => t = true ↔ NodeG a b c):=by
 have j0:∀ t:Bool,a ≠ 1 → (t = true ↔ a = 2 ∨ a = 3) → Tot (fun k => impl_isNode.j0 k t a b c) (fun t => t = true ↔ NodeG a b c):=by
  intro t h1 ht
  refine Tot.step (fun k => impl_isNode.j0.eq_2 _ _ _ _ k) (Tot.ite (fun e => ?_) (fun e => ?_))
  ·have h2:=ht.1 e
   refine Tot.ite (fun eb => ?_) (fun eb => Tot.ret (Iff.intro (fun x => by cases x) (fun x => ?_)))
   ·refine Tot.bind (nameI_T c hc) fun q hq => Tot.ret ?_
    rw [hq]
    refine Iff.intro (fun n => .inr (.inl ⟨h2,eb,n⟩)) (fun x => ?_)
    rcases x with x | x | x
    ·exact absurd x.1 h1
    ·exact x.2.2
    ·omega
   ·rcases x with x | x | x
    ·exact absurd x.1 h1
    ·exact absurd x.2.1 eb
    ·exact absurd x.2.1 eb
  ·have h2:¬ (a = 2 ∨ a = 3):=fun x => e (ht.2 x)
   refine Tot.bind (Tot.of (withinI _ _ _) rfl) ?_
   rintro _ rfl
   have no:∀ y:Prop,(NodeG a b c → y) → (¬ y) → Tot (fun _ => some false) (fun t => t = true ↔ NodeG a b c):=fun y h n => Tot.ret (Iff.intro (fun x => by cases x) (fun x => absurd (h x) n))
   refine Tot.ite (fun ea => ?_) (fun ea => no (4 ≤ a ∧ a ≤ 17) (fun x => ?_) (fun z => ea (decide_eq_true z)))
   ·have ea:=of_decide_eq_true ea
    refine Tot.ite (fun eb => Tot.ret ?_) (fun eb => no (b = 0) (fun x => ?_) eb)
    ·rw [beq_iff_eq,size0]
     refine Iff.intro (fun z => .inr (.inr ⟨ea,eb,z⟩)) (fun x => ?_)
     rcases x with x | x | x
     ·exact absurd x.1 h1
     ·exact absurd x.1 h2
     ·exact x.2.2
    ·rcases x with x | x | x
     ·exact absurd x.1 h1
     ·exact x.2.1
     ·exact x.2.1
   ·rcases x with x | x | x
    ·exact absurd x.1 h1
    ·exact absurd x.1 h2
    ·exact x.1
 unfold impl_isNode.f
 refine Tot.ite (fun e => ?_) (fun e => Tot.ite (fun e2 => j0 _ e (by simp [e2])) (fun e2 => j0 _ e (by simp [e2])))
 refine Tot.bind (Tot.of (wordI _) rfl) ?_
 rintro _ rfl
 refine Tot.ite (fun q => Tot.ret ?_) (fun q => Tot.ret (Iff.intro (fun x => by cases x) (fun x => ?_)))
 ·rw [beq_iff_eq,size0]
  refine Iff.intro (fun z => .inl ⟨e,of_decide_eq_true q,z⟩) (fun x => ?_)
  rcases x with x | x | x
  ·exact x.2.2
  ·omega
  ·exact x.2.2
 ·rcases x with x | x | x
  ·exact absurd (decide_eq_true x.2.1) q
  ·omega
  ·omega
theorem exI_T {e:List S30} (hs:SeenE e):Tot (fun k => impl_ExprOk.f k e) (fun t => t = true ↔ OkE e):=by
 have hlen:=hs.1
 have go:∀ (d i:Nat) (h:Int),e.length - i = d → i ≤ e.length → 0 ≤ h → h ≤ (i:Int) → Tot (fun k => impl_ExprOk.l0 k h e (e.length:Int) (i:Int)) (fun t => t = true ↔ okFrom h (e.drop i)):=by
  intro d
  induction d with
  | zero =>
   intro i h h1 h2 h3 h4
   refine Tot.step (fun k => impl_ExprOk.l0.eq_2 _ _ _ _ k) (Tot.no (by omega) (Tot.ret ?_))
   rw [List.drop_eq_nil_of_le (by omega),beq_iff_eq]
   exact Iff.rfl
  | succ d ih =>
   intro i h h1 h2 h3 h4
   have hil:i < e.length:=by omega
   refine Tot.step (fun k => impl_ExprOk.l0.eq_2 _ _ _ _ k) (Tot.yes (by omega) (Tot.yes (by omega) (Tot.yes (by omega) ?_)))
   rw [drop_at hil]
   refine Tot.bind (nodeI_T _ _ _ (hs.at hil)) fun t ht => Tot.ite (fun c => ?_) (fun c => Tot.ret (Iff.intro (fun x => by cases x) (fun x => absurd (ht.2 x.1) c)))
   have hn:=ht.1 c
   have e1:wrap64 ((i:Int) + 1) = ((i + 1:Nat):Int):=by rw [w64_in (by omega) (by omega)];rfl
   rw [e1]
   generalize rd_T30 e (i:Int) = x at hn ⊢
   refine Tot.ite (fun c3 => ?_) (fun c3 => ?_)
   ·rw [w64_in (n:=h + 1) (by omega) (by omega),okFrom,if_pos c3]
    exact (ih (i + 1) (h + 1) (by omega) (by omega) (by omega) (by omega)).mono fun t q => q.trans ⟨fun y => ⟨hn,y⟩,fun y => y.2⟩
   ·refine Tot.ite (fun c7 => ?_) (fun c7 => ?_)
    ·rw [okFrom,if_neg c3,if_pos c7]
     refine Tot.ite (fun c => Tot.ret (Iff.intro (fun y => by cases y) (fun y => by have:=y.2.1;omega))) (fun c => ?_)
     exact (ih (i + 1) h (by omega) (by omega) (by omega) (by omega)).mono fun t q => q.trans ⟨fun y => ⟨hn,by omega,y⟩,fun y => y.2.2⟩
    ·rw [okFrom,if_neg c3,if_neg c7]
     refine Tot.ite (fun c => Tot.ret (Iff.intro (fun y => by cases y) (fun y => by have:=y.2.1;omega))) (fun c => ?_)
     rw [w64_in (n:=h - 1) (by omega) (by omega)]
     exact (ih (i + 1) (h - 1) (by omega) (by omega) (by omega) (by omega)).mono fun t q => q.trans ⟨fun y => ⟨hn,by omega,y⟩,fun y => y.2.2⟩
 unfold impl_ExprOk.f
 refine Tot.ite (fun c => Tot.ret (Iff.intro (fun y => by cases y) (fun y => by have:=y.1;omega))) (fun c => ?_)
 exact (go _ 0 0 rfl (Nat.zero_le _) (by decide) (by decide)).mono fun t q => q.trans ⟨fun y => ⟨by omega,y⟩,fun y => y.2⟩
def SN (l:List ByteArray):Prop:=l.Pairwise (fun a b => a.data.toList < b.data.toList)
theorem lessB (a b:ByteArray):Op.bytesLess a.toList b.toList = decide (a.data.toList < b.data.toList):=by rw [Go.Proofs.bytesLess_eq,toL,toL]
theorem SN.eq {a b:List ByteArray} (ha:SN a) (hb:SN b) (h:∀ x,x ∈ a ↔ x ∈ b):a = b:=by
 have nd:∀ {l:List ByteArray},SN l → l.Nodup:=fun h => List.Pairwise.imp (fun {x y} hxy e => by subst e;exact List.lt_irrefl _ hxy) h
 have hp:a.Perm b:=(List.perm_ext_iff_of_nodup (nd ha) (nd hb)).2 h
 refine List.Perm.eq_of_pairwise (le:=fun x y:ByteArray => x.data.toList < y.data.toList) (fun x y _ _ h1 h2 => ?_) ha hb hp
 exact absurd (List.lt_trans h1 h2) (List.lt_irrefl _)
theorem le_lt {x y z:List UInt8} (h1:x ≤ y) (h2:y < z):x < z:=by
 rcases Decidable.em (x < z) with h | h
 ·exact h
 ·exact absurd h2 (by have:z ≤ y:=List.le_trans (List.not_lt.1 h) h1;exact List.not_lt.2 this)
theorem le_ne {x y:List UInt8} (h:x ≤ y) (hn:x ≠ y):x < y:=by
 rcases Decidable.em (x < y) with g | g
 ·exact g
 ·exact absurd (List.le_antisymm h (List.not_lt.1 g)) hn
theorem comp_up (zs:List (List UInt8)) (hs:∀ i j,i ≤ j → j < zs.length → zs.toArray[i]! ≤ zs.toArray[j]!):∀ m,m ≤ zs.length → (Lib.compactUpTo zs.toArray m).Pairwise (· < ·) ∧ (∀ x,x ∈ Lib.compactUpTo zs.toArray m ↔ ∃ j,j < m ∧ zs.toArray[j]! = x):=by
 intro m
 induction m with
 | zero =>
  intro _
  have:Lib.compactUpTo zs.toArray 0 = []:=rfl
  rw [this]
  exact ⟨List.Pairwise.nil,fun x => Iff.intro (fun h => by cases h) (fun ⟨j,h,_⟩ => absurd h (Nat.not_lt_zero _))⟩
 | succ m ih =>
  intro hm
  obtain ⟨h1,h2⟩:=ih (by omega)
  rw [Lib.compactUpTo_succ]
  by_cases hk:Lib.keeps zs.toArray m = true
  ·rw [if_pos hk]
   have hk:m = 0 ∨ zs.toArray[m]! ≠ zs.toArray[m - 1]!:=of_decide_eq_true hk
   refine ⟨List.pairwise_append.2 ⟨h1,List.pairwise_singleton _ _,fun x hx y hy => ?_⟩,fun x => ?_⟩
   ·rw [List.mem_singleton] at hy
    subst hy
    obtain ⟨j,hj,rfl⟩:=(h2 x).1 hx
    rcases hk with hk | hk
    ·omega
    ·exact le_lt (hs j (m - 1) (by omega) (by omega)) (le_ne (hs (m - 1) m (by omega) (by omega)) (fun e => hk e.symm))
   ·rw [List.mem_append,h2,List.mem_singleton]
    constructor
    ·rintro (⟨j,hj,e⟩ | e)
     ·exact ⟨j,by omega,e⟩
     ·exact ⟨m,by omega,e.symm⟩
    ·rintro ⟨j,hj,e⟩
     by_cases c:j < m
     ·exact .inl ⟨j,c,e⟩
     ·obtain rfl:j = m:=by omega
      exact .inr e.symm
  ·rw [if_neg hk,List.append_nil]
   have hk:¬ (m = 0 ∨ zs.toArray[m]! ≠ zs.toArray[m - 1]!):=fun h => hk (decide_eq_true h)
   have hm0:m ≠ 0:=fun h => hk (.inl h)
   have he:zs.toArray[m]! = zs.toArray[m - 1]!:=Classical.byContradiction fun h => hk (.inr h)
   refine ⟨h1,fun x => ?_⟩
   rw [h2]
   constructor
   ·rintro ⟨j,hj,e⟩
    exact ⟨j,by omega,e⟩
   ·rintro ⟨j,hj,e⟩
    by_cases c:j < m
    ·exact ⟨j,c,e⟩
    ·obtain rfl:j = m:=by omega
     exact ⟨j - 1,by omega,by rw [← he,e]⟩
theorem comp_sort (l:List (List UInt8)):(Lib.compact (l.mergeSort fun x y => decide (x ≤ y))).Pairwise (· < ·) ∧ ∀ x,x ∈ Lib.compact (l.mergeSort fun x y => decide (x ≤ y)) ↔ x ∈ l:=by
 have tr:∀ a b c:List UInt8,decide (a ≤ b) = true → decide (b ≤ c) = true → decide (a ≤ c) = true:=fun a b c h1 h2 => by simp only [decide_eq_true_eq] at *;exact List.le_trans h1 h2
 have tot_:∀ a b:List UInt8,(decide (a ≤ b) || decide (b ≤ a)) = true:=fun a b => by simp only [Bool.or_eq_true,decide_eq_true_eq];exact List.le_total a b
 have hp:=List.pairwise_mergeSort tr tot_ l
 generalize hz:(l.mergeSort fun x y => decide (x ≤ y)) = zs at hp ⊢
 have hm:∀ x,x ∈ zs ↔ x ∈ l:=fun x => by rw [← hz];exact (List.mergeSort_perm l _).mem_iff
 have at_:∀ i (h:i < zs.length),zs.toArray[i]! = zs[i]:=fun i h => by
  rw [getElem!_pos zs.toArray i (by simpa using h)]
  simp
 have hs:∀ i j,i ≤ j → j < zs.length → zs.toArray[i]! ≤ zs.toArray[j]!:=by
  intro i j hij hj
  rw [at_ i (by omega),at_ j hj]
  by_cases c:i = j
  ·subst c;exact List.le_refl _
  ·exact of_decide_eq_true (List.pairwise_iff_getElem.1 hp i j (by omega) hj (by omega))
 obtain ⟨h1,h2⟩:=comp_up zs hs zs.length (Nat.le_refl _)
 refine ⟨h1,fun x => ?_⟩
 rw [show Lib.compact zs = Lib.compactUpTo zs.toArray zs.length from rfl,h2,← hm,List.mem_iff_getElem]
 constructor
 ·rintro ⟨j,hj,e⟩
  exact ⟨j,hj,by rw [← at_ j hj];exact e⟩
 ·rintro ⟨j,hj,e⟩
  exact ⟨j,hj,by rw [at_ j hj];exact e⟩
theorem comp_B (xs:List ByteArray):SN (compB (sortB xs)) ∧ ∀ x,x ∈ compB (sortB xs) ↔ x ∈ xs:=by
 have hb:(sortB xs).map ofB = (xs.map ofB).mergeSort fun x y => decide (x ≤ y):=by
  unfold sortB
  rw [List.map_map]
  conv => rhs;rw [← List.map_id ((xs.map ofB).mergeSort fun x y => decide (x ≤ y))]
  rfl
 obtain ⟨h1,h2⟩:=comp_sort (xs.map ofB)
 unfold compB
 rw [hb]
 refine ⟨List.pairwise_map.2 h1,fun x => ?_⟩
 rw [List.mem_map]
 constructor
 ·rintro ⟨l,hl,rfl⟩
  obtain ⟨y,hy,e⟩:=List.mem_map.1 ((h2 l).1 hl)
  have:toB l = y:=by rw [← e];rfl
  rw [this]
  exact hy
 ·intro hx
  exact ⟨ofB x,(h2 _).2 (List.mem_map.2 ⟨x,hx,rfl⟩),rfl⟩
theorem rdB_at {ys:List ByteArray} {i:Nat} (h:i < ys.length):rdOf ByteArray.empty ys (i:Int) = ys[i]:=by
 unfold rdOf
 rw [Int.toNat_natCast,List.getD_eq_getElem?_getD,List.getElem?_eq_getElem h]
 rfl
theorem put_T {l:List ByteArray} (hs:SN l) (hl:l.length ≤ 1000000) (s:ByteArray):Tot (fun k => spec_l2Put.f k l s) (fun r => SN r ∧ (∀ x,x ∈ r ↔ x ∈ l ∨ x = s) ∧ r.length ≤ l.length + 1):=by
 have j1:∀ i:Nat,i ≤ l.length → (∀ j (h:j < i) (h':j < l.length),l[j].data.toList < s.data.toList) → (∀ h:i < l.length,¬ l[i].data.toList < s.data.toList) → Tot (fun k => spec_l2Put.j1 k l s (i:Int)) (fun r => SN r ∧ (∀ x,x ∈ r ↔ x ∈ l ∨ x = s) ∧ r.length ≤ l.length + 1):=by
  intro i hi hlow hup
  have el:([]:List ByteArray).length = 0:=rfl
  have ins:(∀ h:i < l.length,l[i].data.toList ≠ s.data.toList) → SN ((([] ++ l.take i) ++ [s]) ++ l.drop i) ∧ (∀ x,x ∈ (([] ++ l.take i) ++ [s]) ++ l.drop i ↔ x ∈ l ∨ x = s) ∧ ((([] ++ l.take i) ++ [s]) ++ l.drop i).length ≤ l.length + 1:=by
   intro hne
   rw [List.nil_append]
   have hsp:∀ x,x ∈ l ↔ x ∈ l.take i ∨ x ∈ l.drop i:=fun x => by rw [← List.mem_append,List.take_append_drop]
   refine ⟨?_,fun x => ?_,by rw [List.length_append,List.length_append,List.length_singleton,List.length_take,List.length_drop];omega⟩
   ·refine List.pairwise_append.2 ⟨List.pairwise_append.2 ⟨hs.take,List.pairwise_singleton _ _,fun x hx y hy => ?_⟩,hs.drop,fun x hx y hy => ?_⟩
    ·rw [List.mem_singleton] at hy
     subst hy
     obtain ⟨j,hj,rfl⟩:=List.mem_iff_getElem.1 hx
     rw [List.length_take] at hj
     rw [List.getElem_take]
     exact hlow j (by omega) (by omega)
    ·have hyi:s.data.toList < y.data.toList:=by
      obtain ⟨j,hj,rfl⟩:=List.mem_iff_getElem.1 hy
      rw [List.length_drop] at hj
      rw [List.getElem_drop]
      have hil:i < l.length:=by omega
      have h0:s.data.toList < l[i].data.toList:=le_ne (List.not_lt.1 (hup hil)) (fun e => hne hil e.symm)
      by_cases c:j = 0
      ·subst c;exact h0
      ·exact List.lt_trans h0 (List.pairwise_iff_getElem.1 hs i (i + j) hil (by omega) (by omega))
     rcases List.mem_append.1 hx with hx | hx
     ·obtain ⟨j,hj,rfl⟩:=List.mem_iff_getElem.1 hx
      rw [List.length_take] at hj
      rw [List.getElem_take]
      exact List.lt_trans (hlow j (by omega) (by omega)) hyi
     ·rw [List.mem_singleton] at hx
      subst hx
      exact hyi
   ·rw [List.mem_append,List.mem_append,List.mem_singleton,hsp]
    constructor
    ·rintro ((h | h) | h)
     ·exact .inl (.inl h)
     ·exact .inr h
     ·exact .inl (.inr h)
    ·rintro ((h | h) | h)
     ·exact .inl (.inl h)
     ·exact .inr h
     ·exact .inl (.inr h)
  have fin_:(∀ h:i < l.length,l[i].data.toList ≠ s.data.toList) → Tot (fun k => (some (([]:List ByteArray):List ByteArray)).bind fun y238 => (if (i:Int) ≤ (l.length:Int) then ((some (l.take ((i:Int)).toNat:List ByteArray)).bind fun y241 => (if y238.length + y241.length < 8796093022208 then ((some (y238 ++ y241:List ByteArray)).bind fun y245 => (if y245.length < 8796093022208 then ((some (y245 ++ [s]:List ByteArray)).bind fun y248 => ((some (l.drop ((i:Int)).toNat:List ByteArray)).bind fun y251 => (if y248.length + y251.length < 8796093022208 then (some (y248 ++ y251)) else (none)))) else (none))) else (none))) else (none))) (fun r => SN r ∧ (∀ x,x ∈ r ↔ x ∈ l ∨ x = s) ∧ r.length ≤ l.length + 1):=by
   intro hne
   have:=ins hne
   have hlen:=this.2.2
   rw [List.length_append,List.length_append,List.length_append,List.length_singleton] at hlen
   refine Tot.bind (Tot.of rfl rfl) ?_
   rintro _ rfl
   refine Tot.yes (by omega) (Tot.bind (Tot.of rfl rfl) ?_)
   rintro _ rfl
   rw [Int.toNat_natCast]
   refine Tot.yes (by omega) (Tot.bind (Tot.of rfl rfl) ?_)
   rintro _ rfl
   refine Tot.yes (by rw [List.length_append];omega) (Tot.bind (Tot.of rfl rfl) ?_)
   rintro _ rfl
   refine Tot.bind (Tot.of rfl rfl) ?_
   rintro _ rfl
   exact Tot.yes (by rw [List.length_append,List.length_append,List.length_singleton];omega) (Tot.ret this)
  refine Tot.step (fun k => spec_l2Put.j1.eq_2 _ _ _ k) (Tot.ite (fun c => ?_) (fun c => ?_))
  ·have hil:i < l.length:=by omega
   refine Tot.yes (by omega) (Tot.ite (fun e => Tot.ret ?_) (fun e => ?_))
   ·rw [rdB_at hil,toL,toL] at e
    have e2:l[i] = s:=ba_ext e
    refine ⟨hs,fun x => ⟨fun h => .inl h,fun h => ?_⟩,by omega⟩
    rcases h with h | h
    ·exact h
    ·rw [h,← e2];exact List.getElem_mem _
   ·exact fin_ (fun _ e2 => e (by rw [rdB_at hil,toL,toL];exact e2))
  ·have hf:=fin_ (fun h => absurd h (by omega))
   refine Tot.congr (fun k => ?_) hf
   simp only [Option.bind_some]
   rw [if_pos (show (0:Int) ≤ (i:Int) by omega)]
 have go:∀ (d i:Nat),l.length - i = d → i ≤ l.length → (∀ j (h:j < i) (h':j < l.length),l[j].data.toList < s.data.toList) → Tot (fun k => spec_l2Put.l0 k l s (i:Int)) (fun r => SN r ∧ (∀ x,x ∈ r ↔ x ∈ l ∨ x = s) ∧ r.length ≤ l.length + 1):=by
  intro d
  induction d with
  | zero =>
   intro i h1 h2 h3
   exact Tot.step (fun k => spec_l2Put.l0.eq_2 _ _ _ k) (Tot.no (by omega) (j1 i h2 h3 (fun h => by omega)))
  | succ d ih =>
   intro i h1 h2 h3
   have hil:i < l.length:=by omega
   refine Tot.step (fun k => spec_l2Put.l0.eq_2 _ _ _ k) (Tot.yes (by omega) (Tot.yes (by omega) ?_))
   rw [rdB_at hil,lessB]
   refine Tot.ite (fun c => ?_) (fun c => j1 i h2 h3 (fun _ h => c (decide_eq_true h)))
   rw [w64_in (n:=(i:Int) + 1) (by omega) (by omega)]
   exact ih (i + 1) (by omega) (by omega) (fun j hj hj' => by
    by_cases e:j < i
    ·exact h3 j e hj'
    ·obtain rfl:j = i:=by omega
     exact of_decide_eq_true c)
 unfold spec_l2Put.f
 exact go _ 0 rfl (Nat.zero_le _) (fun j h => by omega)
def NamesR (e:List S30) (r:List ByteArray):Prop:=(OkE e ∧ SN r ∧ (∀ x,x ∈ r ↔ x ∈ namesF e) ∧ r.length ≤ e.length) ∨ (¬ OkE e ∧ r = [])
theorem NamesR.one {e:List S30} {a b:List ByteArray} (ha:NamesR e a) (hb:NamesR e b):a = b:=by
 rcases ha with ha | ha <;> rcases hb with hb | hb
 ·exact SN.eq ha.2.1 hb.2.1 (fun x => (ha.2.2.1 x).trans (hb.2.2.1 x).symm)
 ·exact absurd ha.1 hb.1
 ·exact absurd hb.1 ha.1
 ·rw [ha.2,hb.2]
theorem namesI_T {e:List S30} (hs:SeenE e):Tot (fun k => impl_NamesIn.f k e) (NamesR e):=by
 unfold impl_NamesIn.f
 refine Tot.bind (exI_T hs) fun t ht => Tot.ite (fun c => ?_) (fun c => Tot.ret (.inr ⟨fun h => c (ht.2 h),rfl⟩))
 have ho:=ht.1 c
 refine Tot.bind (P:=fun r => r = compB (sortB (namesF e))) (Tot.of (r:=compB (sortB (namesF e))) (by unfold impl_namesIn.f;rw [if_pos (by have:=ho.1;omega)]) rfl) ?_
 rintro _ rfl
 have hc:=comp_B (namesF e)
 refine Tot.ret (.inl ⟨ho,hc.1,hc.2,?_⟩)
 have h1:=namesF_len e
 unfold compB sortB
 rw [List.length_map]
 refine Nat.le_trans (comp_len _) ?_
 rw [List.length_map,List.length_map,List.length_mergeSort,List.length_map]
 exact h1
theorem take_nm {e:List S30} {i:Nat} (h:i < e.length):namesF (e.take (i + 1)) = if (rd_T30 e (i:Int)).f2.toList = ([]:List UInt8) then namesF (e.take i) else namesF (e.take i) ++ [(rd_T30 e (i:Int)).f2]:=by
 rw [show e.take (i + 1) = e.take i ++ [rd_T30 e (i:Int)] by rw [rdE_at h,List.take_append_getElem h],namesF_app]
theorem namesS_T {e:List S30} (hs:SeenE e):Tot (fun k => spec_NamesIn.f k e) (NamesR e):=by
 have hlen:=hs.1
 have go:∀ (d i:Nat) (out:List ByteArray),e.length - i = d → i ≤ e.length → SN out → out.length ≤ i → (∀ x,x ∈ out ↔ x ∈ namesF (e.take i)) → (i = 0 ∨ OkE e) → (i = 0 → out = []) → Tot (fun k => spec_NamesIn.l0 k e out (i:Int)) (NamesR e):=by
  intro d
  induction d with
  | zero =>
   intro i out h1 h2 h3 h4 h5 h6 h7
   refine Tot.step (fun k => spec_NamesIn.l0.eq_2 _ _ _ k) (Tot.bind (exS_T hs) fun t ht => ?_)
   have fin_:Tot (fun k => spec_NamesIn.j1 k e out (i:Int) false) (NamesR e):=by
    refine Tot.step (fun k => spec_NamesIn.j1.eq_2 _ _ _ _ k) (Tot.no (by decide) (Tot.ret ?_))
    by_cases ho:OkE e
    ·exact .inl ⟨ho,h3,fun x => by rw [h5 x,List.take_of_length_le (by omega)],by omega⟩
    ·exact .inr ⟨ho,h7 (h6.resolve_right ho)⟩
   refine Tot.ite (fun _ => ?_) (fun _ => fin_)
   rw [show decide ((i:Int) < (e.length:Int)) = false from decide_eq_false (by omega)]
   exact fin_
  | succ d ih =>
   intro i out h1 h2 h3 h4 h5 h6 h7
   have hil:i < e.length:=by omega
   refine Tot.step (fun k => spec_NamesIn.l0.eq_2 _ _ _ k) (Tot.bind (exS_T hs) fun t ht => Tot.ite (fun c => ?_) (fun c => ?_))
   ·have ho:=ht.1 c
    rw [show decide ((i:Int) < (e.length:Int)) = true from decide_eq_true (by omega)]
    refine Tot.step (fun k => spec_NamesIn.j1.eq_2 _ _ _ _ k) (Tot.yes rfl (Tot.yes (by omega) (Tot.yes (by omega) ?_)))
    have e1:wrap64 ((i:Int) + 1) = ((i + 1:Nat):Int):=by rw [w64_in (by omega) (by omega)];rfl
    rw [e1]
    have tk:=take_nm hil
    refine Tot.ite (fun z => ?_) (fun z => ?_)
    ·rw [if_pos z] at tk
     exact ih (i + 1) out (by omega) (by omega) h3 (by omega) (fun x => by rw [tk];exact h5 x) (.inr ho) (fun h => by omega)
    ·rw [if_neg z] at tk
     refine Tot.bind (put_T h3 (by omega) _) fun r hr => ?_
     exact ih (i + 1) r (by omega) (by omega) hr.1 (by have:=hr.2.2;omega) (fun x => by rw [tk,hr.2.1,List.mem_append,List.mem_singleton,h5 x]) (.inr ho) (fun h => by omega)
   ·have hn:¬ OkE e:=fun h => c (ht.2 h)
    refine Tot.step (fun k => spec_NamesIn.j1.eq_2 _ _ _ _ k) (Tot.no (by decide) (Tot.ret (.inr ⟨hn,h7 (h6.resolve_right hn)⟩)))
 unfold spec_NamesIn.f
 exact go _ 0 [] rfl (Nat.zero_le _) List.Pairwise.nil (Nat.le_refl _) (fun x => by rw [List.take_zero];exact Iff.rfl) (.inl rfl) (fun _ => rfl)
def RdOk (s:List Int) (p:Int):Prop:=0 ≤ p ∧ p ≤ s.length ∧ s.length ≤ 1048576 ∧ ∀ x ∈ s,0 ≤ x ∧ x ≤ 255
theorem rd_mem {s:List Int} {p:Int} (h0:0 ≤ p) (h1:p < (s.length:Int)):rd s p ∈ s:=by
 unfold rd
 rw [List.getD_eq_getElem?_getD,List.getElem?_eq_getElem (by omega)]
 exact List.getElem_mem _
theorem open_tot {l:List Int} (hl:l.length ≤ 1048576) (hb:∀ x ∈ l,0 ≤ x ∧ x ≤ 255):spec_l1Open.f l = some (l,0) ∧ RdOk l 0 :=
 ⟨rfl,by omega,by omega,hl,hb⟩
theorem next_tot {s:List Int} {p:Int} (h:RdOk s p):∃ v q,spec_l1Rd_next.f s p = some (v,q) ∧ 0 ≤ v ∧ v ≤ 255 ∧ RdOk s q:=by
 obtain ⟨h0,h1,h2,h3⟩:=h
 unfold spec_l1Rd_next.f
 by_cases c:p ≥ (s.length:Int)
 ·rw [if_pos c]
  exact ⟨0,p,rfl,by omega,by omega,h0,h1,h2,h3⟩
 ·have hm:=h3 _ (rd_mem h0 (show p < (s.length:Int) by omega))
  have e:p + 1 - 1 = p:=by omega
  rw [if_neg c,w64_in (n:=p + 1) (by omega) (by omega),w64_in (n:=p + 1 - 1) (by omega) (by omega),e,if_pos h0,if_pos (by omega),w64_in (n:=rd s p) (by omega) (by omega)]
  exact ⟨_,_,rfl,hm.1,hm.2,by omega,by omega,h2,h3⟩
theorem below_tot {s:List Int} {p:Int} (h:RdOk s p) (n:Int):∃ v q,spec_l1Rd_below.f s p n = some (v,q) ∧ 0 ≤ v ∧ (1 ≤ n → v < n) ∧ RdOk s q:=by
 unfold spec_l1Rd_below.f
 by_cases c:n ≤ 1
 ·rw [if_pos c]
  exact ⟨0,p,rfl,by omega,by omega,h⟩
 ·rw [if_neg c]
  obtain ⟨v,q,e1,v0,v1,h1⟩:=next_tot h
  by_cases c2:n ≤ 256
  ·rw [if_pos c2,e1]
   simp only [Option.bind_some]
   rw [if_neg (by omega),tmod_pos _ v0]
   exact ⟨_,_,rfl,Int.emod_nonneg _ (by omega),fun _ => Int.emod_lt_of_pos _ (by omega),h1⟩
  ·obtain ⟨u,r,e2,u0,u1,h2⟩:=next_tot h1
   rw [if_neg c2,e1]
   simp only [Option.bind_some]
   rw [e2]
   simp only [Option.bind_some]
   rw [if_neg (by omega),w64_in (n:=v * 256) (by omega) (by omega),w64_in (n:=v * 256 + u) (by omega) (by omega),tmod_pos _ (by omega)]
   exact ⟨_,_,rfl,Int.emod_nonneg _ (by omega),fun _ => Int.emod_lt_of_pos _ (by omega),h2⟩
theorem once_tot {s:List Int} {p:Int} (h:RdOk s p) (n:Int):∃ b q,spec_l1Rd_once.f s p n = some (b,q) ∧ RdOk s q:=by
 obtain ⟨v,q,e,_,_,hq⟩:=below_tot h n
 unfold spec_l1Rd_once.f
 rw [e]
 exact ⟨_,_,rfl,hq⟩
theorem word_tot_l {s:List Int}:∀ (k:Nat) (x i p:Int),RdOk s p → 0 ≤ i → i ≤ 8 → 8 - i < k → ∃ v q,spec_l1Rd_word.l0 k x i s p = some (v,q) ∧ RdOk s q:=by
 intro k
 induction k with
 | zero => intros;omega
 | succ k ih =>
  intro x i p h i0 i1 hk
  simp only [spec_l1Rd_word.l0]
  by_cases c:i < 8
  ·obtain ⟨v,q,e,_,_,hq⟩:=next_tot h
   rw [if_pos c,e]
   simp only [Option.bind_some]
   rw [w64_in (n:=i + 1) (by omega) (by omega)]
   exact ih _ _ _ hq (by omega) (by omega) (by omega)
  ·rw [if_neg c]
   exact ⟨_,_,rfl,h⟩
theorem word_tot {s:List Int} {p:Int} (h:RdOk s p) {k:Nat} (hk:9 ≤ k):∃ v q,spec_l1Rd_word.f k s p = some (v,q) ∧ RdOk s q :=
 word_tot_l k 0 0 p h (by omega) (by omega) (by omega)
theorem near_tot {s:List Int} {p:Int} (h:RdOk s p) {k:Nat} (hk:9 ≤ k) (lo hi:Int) (hlo:-4294967296 ≤ lo) (hhi:hi ≤ 4294967296):∃ v q,spec_l1Rd_near.f k s p lo hi = some (v,q) ∧ RdOk s q:=by
 unfold spec_l1Rd_near.f
 obtain ⟨v,q,e,_,_,hq⟩:=below_tot h 8
 rw [e]
 simp only [Option.bind_some]
 by_cases c0:v = 0
 ·rw [if_pos c0];exact ⟨_,_,rfl,hq⟩
 ·rw [if_neg c0]
  by_cases c1:v = 1
  ·rw [if_pos c1];exact ⟨_,_,rfl,hq⟩
  ·rw [if_neg c1]
   by_cases c2:hi < lo
   ·rw [if_pos c2];exact ⟨_,_,rfl,hq⟩
   ·rw [if_neg c2]
    obtain ⟨x,r,e2,hr⟩:=word_tot hq hk
    rw [e2]
    simp only [Option.bind_some]
    rw [w64_in (n:=hi - lo) (by omega) (by omega),w64_in (n:=hi - lo + 1) (by omega) (by omega),u64_in (n:=hi - lo + 1) (by omega) (by omega),if_neg (by omega)]
    exact ⟨_,_,rfl,hr⟩
theorem off_tot {s:List Int} {p:Int} (h:RdOk s p) {k:Nat} (hk:9 ≤ k) (lo hi:Int) (hlo:-4294967296 ≤ lo) (hhi:hi ≤ 4294967296):∃ v q,spec_l1Rd_off.f k s p lo hi = some (v,q) ∧ RdOk s q:=by
 unfold spec_l1Rd_off.f
 obtain ⟨b,q,e,hq⟩:=once_tot h 24
 rw [e]
 simp only [Option.bind_some]
 by_cases c:b = true
 ·rw [if_pos c]
  obtain ⟨v,r,e2,v0,v1,hr⟩:=below_tot hq 4
  rw [e2]
  simp only [Option.bind_some]
  have v4:=v1 (by omega)
  rw [if_pos v0,if_pos (by simp only [List.length_cons,List.length_nil];omega)]
  exact ⟨_,_,rfl,hr⟩
 ·rw [if_neg c]
  obtain ⟨v,r,e2,hr⟩:=near_tot hq hk lo hi hlo hhi
  rw [e2]
  exact ⟨_,_,rfl,hr⟩
theorem off_T {s:List Int} {p:Int} (h:RdOk s p) (lo hi:Int) (hlo:-4294967296 ≤ lo) (hhi:hi ≤ 4294967296):Tot (fun k => spec_l1Rd_off.f k s p lo hi) (fun r => RdOk s r.2):=by
 obtain ⟨v,q,e,h2⟩:=off_tot h (k:=9) (Nat.le_refl _) lo hi hlo hhi
 exact Tot.lift (fun k => spec_l1Rd_off.mono _ _ _ _ k) e h2
theorem bytes_wf {l:List Int} (h:∀ x ∈ l,(Lit.int .u8 x).wf = true):∀ x ∈ l,0 ≤ x ∧ x ≤ 255:=by
 intro x hx
 have h1:=h x hx
 have e0:IntKind.u8.min = 0:=rfl
 have e1:IntKind.u8.max = 255:=rfl
 simp only [Lit.wf,e0,e1,Bool.and_eq_true,decide_eq_true_eq] at h1
 exact h1
theorem below_T {s:List Int} {p:Int} (h:RdOk s p) (n:Int):Tot (fun _ => spec_l1Rd_below.f s p n) (fun r => 0 ≤ r.1 ∧ (1 ≤ n → r.1 < n) ∧ RdOk s r.2):=by
 obtain ⟨v,q,e,h0,h1,h2⟩:=below_tot h n
 exact Tot.of e ⟨h0,h1,h2⟩
theorem once_T {s:List Int} {p:Int} (h:RdOk s p) (n:Int):Tot (fun _ => spec_l1Rd_once.f s p n) (fun r => RdOk s r.2):=by
 obtain ⟨v,q,e,h0⟩:=once_tot h n
 exact Tot.of e h0
theorem name_T {s:List Int} {p:Int} (h:RdOk s p):Tot (fun _ => spec_l1Rd_name.f s p) (fun r => r.1.size ≤ 5 ∧ RdOk s r.2):=by
 unfold spec_l1Rd_name.f
 refine Tot.bind (f:=fun _ y109 => (spec_l1Rd_below.f s p 4).bind fun bt112 => (if 0 ≤ bt112.1 then (if bt112.1 < (y109.length:Int) then (some (rdOf ByteArray.empty y109 bt112.1,bt112.2)) else (none)) else (none))) (Tot.of rfl rfl) ?_
 rintro _ rfl
 refine Tot.bind (below_T h 4) fun v hv => ?_
 have v1:=hv.2.1 (by omega)
 have v0:=hv.1
 refine Tot.yes v0 (Tot.yes (by simpa using v1) (Tot.ret ⟨?_,hv.2.2⟩))
 show (rdOf ByteArray.empty ([(⟨#[97,49]⟩:ByteArray),(⟨#[108,111,111,112]⟩:ByteArray),(⟨#[120,46,121]⟩:ByteArray),(⟨#[101,110,100,95]⟩:ByteArray)]:List ByteArray) v.1).size ≤ 5
 rcases (show v.1 = 0 ∨ v.1 = 1 ∨ v.1 = 2 ∨ v.1 = 3 by omega) with e | e | e | e <;> rw [e] <;> decide
theorem pick_T {s:List Int} {p:Int} (h:RdOk s p) (ys:List ByteArray) (n:Int) (hn:(ys.length:Int) = n) (h1:1 ≤ n) (B:Nat) (hB:∀ y ∈ ys,y.size ≤ B):Tot (fun _ => (some (ys:List ByteArray)).bind fun y => ((spec_l1Rd_below.f s p n).bind fun bt => (if 0 ≤ bt.1 then (if bt.1 < (y.length:Int) then (some (rdOf ByteArray.empty y bt.1,bt.2)) else (none)) else (none)))) (fun r => r.1.size ≤ B ∧ RdOk s r.2):=by
 refine Tot.bind (f:=fun _ y => ((spec_l1Rd_below.f s p n).bind fun bt => (if 0 ≤ bt.1 then (if bt.1 < (y.length:Int) then (some (rdOf ByteArray.empty y bt.1,bt.2)) else (none)) else (none)))) (Tot.of rfl rfl) ?_
 rintro _ rfl
 refine Tot.bind (below_T h n) fun v hv => ?_
 have v1:=hv.2.1 h1
 have v0:=hv.1
 refine Tot.yes v0 (Tot.yes (by omega) (Tot.ret ⟨?_,hv.2.2⟩))
 have:rdOf ByteArray.empty ys v.1 = ys[v.1.toNat]'(by omega):=by
  have:=rdB_at (ys:=ys) (i:=v.1.toNat) (by omega)
  rwa [show ((v.1.toNat:Nat):Int) = v.1 by omega] at this
 show (rdOf ByteArray.empty ys v.1).size ≤ B
 rw [this]
 exact hB _ (List.getElem_mem _)
def BD:Nat → Nat
 | 0 => 5
 | n + 1 => 2 * BD n + 6
theorem infix_T {s:List Int}:∀ (n:Nat) (deep p:Int),deep + n = 4 → -1000 ≤ deep → n ≤ 3 → RdOk s p → Tot (fun k => spec_l1Rd_infix.f k s p deep) (fun r => r.1.size ≤ BD n ∧ RdOk s r.2):=by
 intro n
 induction n with
 | zero =>
  intro deep p hd hw hn hp
  refine Tot.step (fun k => spec_l1Rd_infix.f.eq_2 _ _ _ k) (Tot.yes (by omega) (Tot.bind (name_T hp) fun v hv => ?_))
  refine pick_T hv.2 _ 5 rfl (by decide) 5 (fun y hy => ?_)
  simp only [List.mem_cons,List.not_mem_nil,or_false] at hy
  rcases hy with rfl | rfl | rfl | rfl | rfl
  ·decide
  ·decide
  ·exact hv.1
  ·decide
  ·decide
 | succ n ih =>
  intro deep p hd hw hn hp
  have e1:wrap64 (deep + 1) = deep + 1:=w64_in (by omega) (by omega)
  have hB:BD n ≤ 1000:=by
   rcases (show n = 0 ∨ n = 1 ∨ n = 2 by omega) with rfl | rfl | rfl <;> decide
  have hB5:5 ≤ BD n:=by
   rcases (show n = 0 ∨ n = 1 ∨ n = 2 by omega) with rfl | rfl | rfl <;> decide
  have hBn:BD (n + 1) = 2 * BD n + 6:=rfl
  have sub:∀ q,RdOk s q → Tot (fun k => spec_l1Rd_infix.f k s q (wrap64 (deep + 1))) (fun r => r.1.size ≤ BD n ∧ RdOk s r.2):=fun q hq => by rw [e1];exact ih (deep + 1) q (by omega) (by omega) (by omega) hq
  have j0:∀ (x15:Int) (b:Bool) (q:Int),RdOk s q → Tot (fun k => spec_l1Rd_infix.j0 k deep x15 b s q) (fun r => r.1.size ≤ BD (n + 1) ∧ RdOk s r.2):=by
   intro x15 b q hq
   refine Tot.step (fun k => spec_l1Rd_infix.j0.eq_2 _ _ _ _ _ k) (Tot.ite (fun _ => ?_) (fun _ => Tot.ite (fun _ => ?_) (fun _ => ?_)))
   ·refine Tot.bind (sub q hq) fun r hr => ?_
    refine Tot.bind (Tot.of rfl rfl) ?_
    intro ys hys
    refine Tot.bind (below_T hr.2 10) fun v hv => ?_
    have v1:=hv.2.1 (by omega)
    have v0:=hv.1
    have hl:(ys.length:Int) = 10:=by rw [← hys];rfl
    have hz:(rdOf ByteArray.empty ys v.1).size ≤ 2:=by
     have e:rdOf ByteArray.empty ys v.1 = ys[v.1.toNat]'(by omega):=by
      have:=rdB_at (ys:=ys) (i:=v.1.toNat) (by omega)
      rwa [show ((v.1.toNat:Nat):Int) = v.1 by omega] at this
     rw [e]
     have hm:=List.getElem_mem (l:=ys) (n:=v.1.toNat) (by omega)
     have hall:∀ y ∈ ys,y.size ≤ 2:=by
      rw [← hys]
      intro y hy
      simp only [List.mem_cons,List.not_mem_nil,or_false] at hy
      rcases hy with rfl | rfl | rfl | rfl | rfl | rfl | rfl | rfl | rfl | rfl <;> decide
     exact hall _ hm
    have hr1:=hr.1
    refine Tot.yes v0 (Tot.yes (by omega) (Tot.yes (by omega) (Tot.bind (sub _ hv.2.2) fun r2 hr2 => Tot.yes (by rw [ByteArray.size_append];have:=hr2.1;omega) (Tot.ret ⟨?_,hr2.2⟩))))
    show ((_ ++ _) ++ _:ByteArray).size ≤ _
    rw [ByteArray.size_append,ByteArray.size_append]
    have:=hr2.1
    omega
   ·refine Tot.bind (sub q hq) fun r hr => Tot.yes (by have:=hr.1;omega) (Tot.ret ⟨?_,hr.2⟩)
    show ((⟨#[126]⟩:ByteArray) ++ r.1).size ≤ _
    rw [ByteArray.size_append,show (⟨#[126]⟩:ByteArray).size = 1 from rfl]
    have:=hr.1
    omega
   ·refine Tot.bind (name_T hq) fun v hv => ?_
    refine (pick_T hv.2 _ 5 rfl (by decide) 5 (fun y hy => ?_)).mono fun r hr => ⟨by have:=hr.1;omega,hr.2⟩
    simp only [List.mem_cons,List.not_mem_nil,or_false] at hy
    rcases hy with rfl | rfl | rfl | rfl | rfl
    ·decide
    ·decide
    ·decide
    ·exact hv.1
    ·decide
  refine Tot.step (fun k => spec_l1Rd_infix.f.eq_2 _ _ _ k) (Tot.no (by omega) (Tot.bind (below_T hp 9) fun v hv => ?_))
  have b1:(⟨#[45]⟩:ByteArray).size = 1:=rfl
  have b2:(⟨#[40]⟩:ByteArray).size = 1:=rfl
  have b3:(⟨#[41]⟩:ByteArray).size = 1:=rfl
  have b4:(⟨#[98,97,110,107,40]⟩:ByteArray).size = 5:=rfl
  refine Tot.ite (fun _ => ?_) (fun _ => Tot.ite (fun _ => ?_) (fun _ => Tot.ite (fun _ => ?_) (fun _ => Tot.ite (fun _ => ?_) (fun _ => ?_))))
  ·refine Tot.bind (sub _ hv.2.2) fun r hr => Tot.yes (by have:=hr.1;omega) (Tot.ret ⟨?_,hr.2⟩)
   show ((⟨#[45]⟩:ByteArray) ++ r.1).size ≤ _
   rw [ByteArray.size_append]
   have:=hr.1
   omega
  ·refine Tot.bind (sub _ hv.2.2) fun r hr => Tot.yes (by have:=hr.1;omega) (Tot.yes (by rw [ByteArray.size_append];have:=hr.1;omega) (Tot.ret ⟨?_,hr.2⟩))
   show (((⟨#[40]⟩:ByteArray) ++ r.1) ++ (⟨#[41]⟩:ByteArray)).size ≤ _
   rw [ByteArray.size_append,ByteArray.size_append]
   have:=hr.1
   omega
  ·refine Tot.bind (Tot.of rfl rfl) ?_
   intro ys hys
   refine Tot.bind (below_T hv.2.2 2) fun u hu => ?_
   have u1:=hu.2.1 (by omega)
   have u0:=hu.1
   have hl:(ys.length:Int) = 2:=by rw [← hys];rfl
   have hz:(rdOf ByteArray.empty ys u.1).size ≤ 5:=by
    have e:rdOf ByteArray.empty ys u.1 = ys[u.1.toNat]'(by omega):=by
     have:=rdB_at (ys:=ys) (i:=u.1.toNat) (by omega)
     rwa [show ((u.1.toNat:Nat):Int) = u.1 by omega] at this
    rw [e]
    have hm:=List.getElem_mem (l:=ys) (n:=u.1.toNat) (by omega)
    have hall:∀ y ∈ ys,y.size ≤ 5:=by
     rw [← hys]
     intro y hy
     simp only [List.mem_cons,List.not_mem_nil,or_false] at hy
     rcases hy with rfl | rfl <;> decide
    exact hall _ hm
   refine Tot.yes u0 (Tot.yes (by omega) (Tot.bind (sub _ hu.2.2) fun r hr => Tot.yes (by have:=hr.1;omega) (Tot.yes (by rw [ByteArray.size_append];have:=hr.1;omega) (Tot.ret ⟨?_,hr.2⟩))))
   show ((_ ++ r.1) ++ (⟨#[41]⟩:ByteArray):ByteArray).size ≤ _
   rw [ByteArray.size_append,ByteArray.size_append]
   have:=hr.1
   omega
  ·refine Tot.bind (name_T hv.2.2) fun r hr => Tot.yes (by have:=hr.1;omega) (Tot.yes (by rw [ByteArray.size_append];have:=hr.1;omega) (Tot.ret ⟨?_,hr.2⟩))
   show (((⟨#[98,97,110,107,40]⟩:ByteArray) ++ r.1) ++ (⟨#[41]⟩:ByteArray)).size ≤ _
   rw [ByteArray.size_append,ByteArray.size_append]
   have:=hr.1
   omega
  ·exact Tot.ite (fun _ => j0 _ _ _ hv.2.2) (fun _ => j0 _ _ _ hv.2.2)
theorem seen_set {e:List S30} (h:SeenE e) (i:Nat) (x:S30) (hx:x.f2.size ≤ 1000000):SeenE (e.set i x):=by
 refine ⟨by rw [List.length_set];exact h.1,fun y hy => ?_⟩
 rcases List.mem_or_eq_of_mem_set hy with hy | rfl
 ·exact h.2 y hy
 ·exact hx
theorem expr_T {s:List Int} {p:Int} (h:RdOk s p):Tot (fun k => spec_l1Rd_expr.f k s p) (fun r => SeenE r.1):=by
 unfold spec_l1Rd_expr.f
 refine Tot.bind (infix_T 3 1 p rfl (by decide) (Nat.le_refl _) h) fun t ht => ?_
 have hz:t.1.size ≤ 1000:=Nat.le_trans ht.1 (by decide)
 refine Tot.bind (XNm1.compiled_T hz) fun c hc => ?_
 have hsn:SeenE c.1:=⟨by have:=hc.1.1;omega,fun x hx => by have:=hc.1.2 x hx;omega⟩
 refine Tot.ite (fun ok => ?_) (fun _ => Tot.ret ⟨show 1 ≤ 1000000 by decide,fun x hx => by rw [List.mem_singleton.1 hx];exact (show (0:Nat) ≤ 1000000 by decide)⟩)
 have hne:=hc.2 ok
 refine Tot.bind (once_T ht.2 20) fun q hq => Tot.ite (fun _ => ?_) (fun _ => Tot.ret hsn)
 refine Tot.bind (below_T hq (c.1.length:Int)) fun v hv => ?_
 have v1:=hv.2.1 (by omega)
 refine Tot.bind (off_T hv.2.2 1 17 (by omega) (by omega)) fun u hu => Tot.yes hv.1 (Tot.yes v1 (Tot.ret ?_))
 refine seen_set hsn _ _ ?_
 have e:(rd_T30 c.1 v.1) = c.1[v.1.toNat]'(by have:=hv.1;omega):=by
  have:=rdE_at (l:=c.1) (i:=v.1.toNat) (by have:=hv.1;omega)
  rwa [show ((v.1.toNat:Nat):Int) = v.1 by have:=hv.1;omega] at this
 show (rd_T30 c.1 v.1).f2.size ≤ 1000000
 rw [e]
 exact hsn.2 _ (List.getElem_mem _)
theorem drawE_T {l:List Int} (hl:l.length ≤ 1048576) (hb:∀ x ∈ l,0 ≤ x ∧ x ≤ 255):Tot (fun k => spec_DrawNamesIn.f k l) SeenE:=by
 obtain ⟨e0,h0⟩:=open_tot hl hb
 unfold spec_DrawNamesIn.f spec_DrawExprOk.f
 refine Tot.bind (P:=SeenE) (Tot.bind (Tot.of e0 rfl) ?_) fun r hr => Tot.ret hr
 rintro _ rfl
 exact Tot.bind (expr_T h0) fun r hr => Tot.ret hr
theorem same_T {l:List ByteArray} (hl:l.length ≤ 1000000):Tot (fun k => laws_sameTexts.f k l l) (· = true):=by
 have go:∀ (d i:Nat),l.length - i = d → i ≤ l.length → Tot (fun k => laws_sameTexts.l0 k l l (i:Int)) (· = true):=by
  intro d
  induction d with
  | zero =>
   intro i h1 h2
   exact Tot.step (fun k => laws_sameTexts.l0.eq_2 _ _ _ k) (Tot.no (by omega) (Tot.ret rfl))
  | succ d ih =>
   intro i h1 h2
   refine Tot.step (fun k => laws_sameTexts.l0.eq_2 _ _ _ k) (Tot.yes (by omega) (Tot.yes (by omega) (Tot.yes (by omega) (Tot.yes rfl ?_))))
   rw [w64_in (n:=(i:Int) + 1) (by omega) (by omega)]
   exact ih (i + 1) (by omega) (by omega)
 unfold laws_sameTexts.f
 exact Tot.yes rfl (go _ 0 rfl (Nat.zero_le _))
theorem nm_mem {x:ByteArray}:∀ {e:List S30},x ∈ namesF e → ∃ j,∃ h:j < e.length,e[j].f2 = x
 | y :: l,h => by
  rw [namesF] at h
  split at h
  ·obtain ⟨j,hj,e⟩:=nm_mem h
   exact ⟨j + 1,by rw [List.length_cons];omega,by simpa using e⟩
  ·rcases List.mem_cons.1 h with h | h
   ·exact ⟨0,by rw [List.length_cons];omega,by simpa using h.symm⟩
   ·obtain ⟨j,hj,e⟩:=nm_mem h
    exact ⟨j + 1,by rw [List.length_cons];omega,by simpa using e⟩
theorem rise_T {e:List S30} (hs:SeenE e) {l:List ByteArray} (hl:l.length ≤ 1000000) (hr:SN l) (hm:∀ x ∈ l,x ∈ namesF e):Tot (fun k => laws_FnNamesIn.l0 k e l 0) (· = true):=by
 have hlen:=hs.1
 have go:∀ (d i:Nat),l.length - i = d → i ≤ l.length → Tot (fun k => laws_FnNamesIn.l0 k e l (i:Int)) (· = true):=by
  intro d
  induction d with
  | zero =>
   intro i h1 h2
   exact Tot.step (fun k => laws_FnNamesIn.l0.eq_2 _ _ _ k) (Tot.no (by omega) (Tot.ret rfl))
  | succ d ih =>
   intro i h1 h2
   have hil:i < l.length:=by omega
   have j2:Tot (fun k => laws_FnNamesIn.j2 k e l (i:Int) false) (· = true):=by
    refine Tot.step (fun k => laws_FnNamesIn.j2.eq_2 _ _ _ _ k) (Tot.no (by decide) ?_)
    rw [w64_in (n:=(i:Int) + 1) (by omega) (by omega)]
    exact ih (i + 1) (by omega) (by omega)
   obtain ⟨m,hme,hmx⟩:=nm_mem (hm _ (List.getElem_mem hil))
   have inner:∀ (d j:Nat) (b:Bool),e.length - j = d → j ≤ e.length → (b = true ∨ j ≤ m) → Tot (fun k => laws_FnNamesIn.l1 k e l (i:Int) b (j:Int)) (· = true):=by
    intro d
    induction d with
    | zero =>
     intro j b g1 g2 g3
     have hb:b = true:=g3.resolve_right (by omega)
     refine Tot.step (fun k => laws_FnNamesIn.l1.eq_2 _ _ _ _ _ k) (Tot.no (by omega) (Tot.yes hb ?_))
     refine Tot.ite (fun c => ?_) (fun _ => j2)
     rw [w64_in (n:=(i:Int) - 1) (by omega) (by omega)]
     refine Tot.yes (by omega) (Tot.yes (by omega) (Tot.yes (by omega) (Tot.yes (by omega) ?_)))
     have hlt:Op.bytesLess (rdOf ByteArray.empty l ((i:Int) - 1)).toList (rdOf ByteArray.empty l (i:Int)).toList = true:=by
      rw [show (i:Int) - 1 = ((i - 1:Nat):Int) by omega,rdB_at (show i - 1 < l.length by omega),rdB_at hil,lessB]
      exact decide_eq_true (List.pairwise_iff_getElem.1 hr (i - 1) i (by omega) hil (by omega))
     rw [hlt]
     exact j2
    | succ d ihd =>
     intro j b g1 g2 g3
     have hje:j < e.length:=by omega
     have e1:wrap64 ((j:Int) + 1) = ((j + 1:Nat):Int):=by rw [w64_in (by omega) (by omega)];rfl
     refine Tot.step (fun k => laws_FnNamesIn.l1.eq_2 _ _ _ _ _ k) (Tot.yes (by omega) (Tot.ite (fun _ => ?_) (fun c => ?_)))
     ·rw [e1]
      exact ihd (j + 1) true (by omega) (by omega) (.inl rfl)
     ·refine Tot.yes (by omega) (Tot.yes (by omega) (Tot.yes (by omega) ?_))
      rw [e1]
      refine ihd (j + 1) _ (by omega) (by omega) ?_
      have hjm:j ≤ m:=g3.resolve_left c
      by_cases q:j = m
      ·subst q
       refine .inl ?_
       rw [rdE_at hje,rdB_at hil,hmx]
       simp
      ·exact .inr (by omega)
   refine Tot.step (fun k => laws_FnNamesIn.l0.eq_2 _ _ _ k) (Tot.yes (by omega) ?_)
   exact inner _ 0 false rfl (Nat.zero_le _) (.inr (Nat.zero_le _))
 exact go _ 0 rfl (Nat.zero_le _)
theorem FnNamesIn:laws_FnNamesIn.Pure:=by
 intro l _ _ hw
 refine Tot.done ?_
 unfold laws_FnNamesIn.f laws_big.f
 refine Tot.bind (Tot.of rfl rfl) ?_
 rintro _ rfl
 refine Tot.ite (fun _ => Tot.ret rfl) (fun hbig => ?_)
 have hl:l.length ≤ 1048576:=by simp at hbig;omega
 have hb:=bytes_wf hw
 refine Tot.bind (drawE_T hl hb) fun e he => ?_
 refine Tot.bind (namesI_T he) fun a ha => Tot.bind (namesS_T he) fun b hb => ?_
 obtain rfl:=NamesR.one ha hb
 have hlen:a.length ≤ 1000000:=by
  rcases ha with h | h
  ·have h1:=h.2.2.2
   have h3:=he.1
   omega
  ·rw [h.2];decide
 refine Tot.bind (same_T hlen) ?_
 rintro _ rfl
 refine Tot.yes rfl ?_
 rcases ha with h | h
 ·exact rise_T he hlen h.2.1 (fun x hx => (h.2.2.1 x).1 hx)
 ·rw [h.2]
  exact rise_T he (by decide) List.Pairwise.nil (fun x hx => by cases hx)
end Go.Proofs.Ytoiiaklmjpiejaa.Pure
