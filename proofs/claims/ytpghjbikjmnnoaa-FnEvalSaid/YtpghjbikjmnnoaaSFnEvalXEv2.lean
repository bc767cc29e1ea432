/- What an expression tells: the program's and the reference's. -/
import Derived.Test.YtpghjbikjmnnoaaSFnEvalQFnEvalx9
import Derived.Test.YtpghjbikjmnnoaaSFnEvalXEv1
import Derived.Test.YtpghjbikjmnnoaaSFnEvalXNmZ
import Derived.Test.YtpghjbikjmnnoaaSFnEvalLib
namespace Go.Proofs.Ytpghjbikjmnnoaa.XEv2
open Go.RowKit Go.Proofs.Ytpghjbikjmnnoaa.QFnEval Go.Proofs.YtpghjbikjmnnoaaW.PrintWords Go.Proofs.YtpghjbikjmnnoaaW.PrintLast Go.Proofs.YtpghjbikjmnnoaaW.PrintMore Go.Proofs.Ytpghjbikjmnnoaa.Lib Go.Proofs.Ytpghjbikjmnnoaa.LibX Go.Proofs.Ytpghjbikjmnnoaa.LibIx Go.Proofs.Ytpghjbikjmnnoaa.XEv1
open Go.Proofs.Ytpghjbikjmnnoaa.LibG (S45 rd_T45 z45 S33 rd_T33 z33 spec_l2Sym.l0 spec_l2Sym.l0.eq_2)
open Go.Proofs.Ytpghjbikjmnnoaa.XNmZ (Tot)
set_option linter.unusedSimpArgs false
set_option linter.unusedVariables false
/-! ### the frame is XNm1's -/
/-! ### a list of arguments,byte by byte -/
theorem toL (a:ByteArray):a.toList = a.data.toList:=ByteArray.toList_eq a
theorem datL (a:ByteArray):a.data.toList.length = a.size:=by rw [Array.length_toList];rfl
def mkB (l:List UInt8):ByteArray:=⟨l.toArray⟩
theorem mkB_data (a:ByteArray):mkB a.data.toList = a:=rfl
theorem ba_ext {a b:ByteArray} (h:a.data.toList = b.data.toList):a = b:=by
 have:=congrArg mkB h
 rwa [mkB_data,mkB_data] at this
theorem bt_data {s:ByteArray} {i:Nat} (h:i < s.size):∃ u:UInt8,s.data.toList[i]? = some u ∧ bt s (i:Int) = (u.toNat:Int):=by
 have hl:i < s.data.toList.length:=by rw [datL];exact h
 refine ⟨s.data.toList[i],List.getElem?_eq_getElem hl,?_⟩
 unfold bt
 rw [dif_pos (show ((i:Int)).toNat < s.size by omega)]
 congr 2
theorem u8_lit (u:UInt8) (n:Nat) (hn:n < 256):(u.toNat:Int) = (n:Int) ↔ u = UInt8.ofNat n:=by
 constructor
 ·intro h
  apply UInt8.toNat_inj.1
  rw [UInt8.toNat_ofNat']
  omega
 ·intro h
  rw [h,UInt8.toNat_ofNat']
  omega
theorem u32 (u:UInt8):(u.toNat:Int) = 32 ↔ u = 32:=u8_lit u 32 (by decide)
theorem u44 (u:UInt8):(u.toNat:Int) = 44 ↔ u = 44:=u8_lit u 44 (by decide)
theorem nil_size (a:ByteArray):a.toList = ([]:List UInt8) ↔ a.size = 0:=by
 rw [toL]
 constructor
 ·intro h
  have:=congrArg List.length h
  rwa [Array.length_toList] at this
 ·intro h
  exact List.eq_nil_of_length_eq_zero (by rw [Array.length_toList];exact h)
/-! ### names and ops -/
theorem size0 (a:ByteArray):a.toList = ([]:List UInt8) ↔ a.size = 0:=by
 rw [toL]
 constructor
 ·intro h;rw [← datL,h];rfl
 ·intro h;exact List.eq_nil_of_length_eq_zero (by rw [datL];exact h)
theorem withinI (a lo hi:Int):impl_within.f a lo hi = some (decide (lo ≤ a ∧ a ≤ hi)):=by
 unfold impl_within.f
 by_cases h:a ≥ lo
 ·rw [if_pos h];simp [show lo ≤ a from h]
 ·rw [if_neg h];simp [show ¬ lo ≤ a from h]
theorem digI (c:Int):impl_isDigit.f c = some (decide (48 ≤ c ∧ c ≤ 57)):=by
 unfold impl_isDigit.f
 by_cases h:c ≥ 48
 ·rw [if_pos h];simp [show 48 ≤ c from h]
 ·rw [if_neg h];simp [show ¬ 48 ≤ c from h]
theorem smI (c:Int):impl_isSmall.f c = some (decide (97 ≤ c ∧ c ≤ 122)):=by
 unfold impl_isSmall.f
 by_cases h:c ≥ 97
 ·rw [if_pos h];simp [show 97 ≤ c from h]
 ·rw [if_neg h];simp [show ¬ 97 ≤ c from h]
/-- A letter as names begin with. -/
def ltC (c:Int):Prop:=(97 ≤ c ∧ c ≤ 122) ∨ c = 95 ∨ c = 46
def nmC (c:Int):Prop:=ltC c ∨ (48 ≤ c ∧ c ≤ 57)
instance (c:Int):Decidable (ltC c):=by unfold ltC;infer_instance
instance (c:Int):Decidable (nmC c):=by unfold nmC;infer_instance
theorem ltS (c:Int):spec_l1Letter.f c = some (decide (ltC c)):=by
 unfold spec_l1Letter.f ltC
 by_cases h:c ≥ 97
 ·rw [if_pos h]
  by_cases g:c ≤ 122
  ·rw [if_pos g];simp [g,show 97 ≤ c from h]
  ·rw [if_neg g,if_neg (show ¬ c = 95 by omega)]
   simp [show ¬ c = 46 by omega,show ¬ c = 95 by omega,g]
 ·rw [if_neg h]
  by_cases g:c = 95
  ·rw [if_pos g];simp [g]
  ·rw [if_neg g]
   by_cases e:c = 46
   ·simp [e]
   ·simp [e,g,show ¬ 97 ≤ c from h]
def NameG (s:ByteArray):Prop:=1 ≤ s.size ∧ s.size ≤ 16 ∧ ltC (bt s 0) ∧ ∀ i:Nat,i < s.size → nmC (bt s (i:Int))
theorem nameI_T (s:ByteArray) (h:s.size ≤ 1000000):Tot (fun k => impl_NameOk.f k s) (fun b => b = true ↔ NameG s):=by
 have go:1 ≤ s.size → s.size ≤ 16 → ∀ (d i:Nat),s.size - i = d → i ≤ s.size → (∀ j:Nat,j < i → nmC (bt s (j:Int))) → Tot (fun k => impl_NameOk.l0 k s (s.size:Int) (i:Int)) (fun b => b = true ↔ ∀ i:Nat,i < s.size → nmC (bt s (i:Int))):=by
  intro z1 z2 d
  induction d with
  | zero =>
   intro i h1 h2 hi
   exact Tot.step (fun k => impl_NameOk.l0.eq_2 _ _ _ k) (Tot.no (by omega) (Tot.ret ⟨fun _ j hj => hi j (by omega),fun _ => rfl⟩))
  | succ d ih =>
   intro i h1 h2 hi
   refine Tot.step (fun k => impl_NameOk.l0.eq_2 _ _ _ k) (Tot.yes (by omega) (Tot.yes (by omega) (Tot.yes (by omega) ?_)))
   have j2:∀ b:Bool,(b = true ↔ ¬ nmC (bt s (i:Int))) → Tot (fun k => impl_NameOk.j2 k s (s.size:Int) (i:Int) b) (fun b => b = true ↔ ∀ i:Nat,i < s.size → nmC (bt s (i:Int))):=by
    intro b hb
    refine Tot.step (fun k => impl_NameOk.j2.eq_2 _ _ _ _ k) (Tot.ite (fun e => Tot.ret ?_) (fun e => ?_))
    ·exact ⟨fun x => absurd x (by decide),fun x => absurd (x i (by omega)) (hb.1 e)⟩
    ·rw [w64_in (by omega) (by omega)]
     have ok:nmC (bt s (i:Int)):=Classical.byContradiction fun x => e (hb.2 x)
     exact ih (i + 1) (by omega) (by omega) (fun j hj => by
      by_cases c:j < i
      ·exact hi j c
      ·rw [show j = i by omega];exact ok)
   unfold nmC ltC at j2
   generalize bt s (i:Int) = c at j2 ⊢
   refine Tot.bind (Tot.of (smI c) rfl) ?_
   rintro _ rfl
   refine Tot.ite (fun e => j2 _ ?_) (fun e => ?_)
   ·have:=of_decide_eq_true e
    exact ⟨fun x => absurd x (by decide),fun x => absurd (.inl (.inl this)) x⟩
   ·have n1:¬ (97 ≤ c ∧ c ≤ 122):=fun x => e (decide_eq_true x)
    refine Tot.bind (Tot.of (digI c) rfl) ?_
    rintro _ rfl
    refine Tot.ite (fun e => j2 _ ?_) (fun e => Tot.ite (fun g => j2 _ ?_) (fun g => j2 _ ?_))
    ·have:=of_decide_eq_true e
     exact ⟨fun x => absurd x (by decide),fun x => absurd (.inr this) x⟩
    ·exact ⟨fun x => absurd x (by decide),fun x => absurd (.inl (.inr (.inl g))) x⟩
    ·have n2:¬ (48 ≤ c ∧ c ≤ 57):=fun x => e (decide_eq_true x)
     rw [bne_iff_ne]
     constructor
     ·rintro x ((y | y | y) | y)
      ·exact n1 y
      ·exact g y
      ·exact x y
      ·exact n2 y
     ·intro x y
      exact x (.inl (.inr (.inr y)))
 unfold impl_NameOk.f
 refine Tot.bind (Tot.of (withinI _ _ _) rfl) ?_
 rintro _ rfl
 have j0:∀ (b:Bool),(b = false → 1 ≤ s.size ∧ s.size ≤ 16) → (b = true → ¬ NameG s) → (b = false → (∀ i:Nat,i < s.size → nmC (bt s (i:Int))) → ltC (bt s 0)) → Tot (fun k => impl_NameOk.j0 k s b) (fun b => b = true ↔ NameG s):=by
  intro b h1 h2 h3
  refine Tot.step (fun k => impl_NameOk.j0.eq_2 _ _ k) (Tot.ite (fun e => Tot.ret ⟨fun x => absurd x (by decide),fun x => absurd x (h2 e)⟩) (fun e => ?_))
  have e':b = false:=by simpa using e
  obtain ⟨z1,z2⟩:=h1 e'
  refine (go z1 z2 _ 0 rfl (Nat.zero_le _) (fun j hj => absurd hj (Nat.not_lt_zero _))).mono fun r hr => ?_
  rw [hr]
  exact ⟨fun x => ⟨z1,z2,h3 e' x,x⟩,fun x => x.2.2.2⟩
 refine Tot.ite (fun e => ?_) (fun e => j0 _ (fun x => absurd x (by decide)) (fun _ x => e (decide_eq_true (by have:=x.1;have:=x.2.1;omega))) (fun x => absurd x (by decide)))
 have z:=of_decide_eq_true e
 refine Tot.yes (by omega) ?_
 refine Tot.bind (Tot.of (digI _) rfl) ?_
 rintro _ rfl
 refine j0 _ (fun _ => by omega) (fun x y => ?_) (fun x y => ?_)
 ·have d:=of_decide_eq_true x
  have l:=y.2.2.1
  unfold ltC at l
  omega
 ·have d:=of_decide_eq_false x
  have:=y 0 (by omega)
  unfold nmC at this
  rcases this with q | q
  ·exact q
  ·exact absurd q d
theorem nameS_T (s:ByteArray) (h:s.size ≤ 1000000):Tot (fun k => spec_NameOk.f k s) (fun b => b = true ↔ NameG s):=by
 have go:1 ≤ s.size → s.size ≤ 16 → ∀ (d i:Nat),s.size - i = d → i ≤ s.size → (∀ j:Nat,j < i → nmC (bt s (j:Int))) → Tot (fun k => spec_NameOk.l0 k s (i:Int)) (fun b => b = true ↔ ∀ i:Nat,i < s.size → nmC (bt s (i:Int))):=by
  intro z1 z2 d
  induction d with
  | zero =>
   intro i h1 h2 hi
   exact Tot.step (fun k => spec_NameOk.l0.eq_2 _ _ k) (Tot.no (by omega) (Tot.ret ⟨fun _ j hj => hi j (by omega),fun _ => rfl⟩))
  | succ d ih =>
   intro i h1 h2 hi
   refine Tot.step (fun k => spec_NameOk.l0.eq_2 _ _ k) (Tot.yes (by omega) (Tot.yes (by omega) ?_))
   have j2:∀ b:Bool,(b = true ↔ ¬ nmC (bt s (i:Int))) → Tot (fun k => spec_NameOk.j2 k s (i:Int) b) (fun b => b = true ↔ ∀ i:Nat,i < s.size → nmC (bt s (i:Int))):=by
    intro b hb
    refine Tot.step (fun k => spec_NameOk.j2.eq_2 _ _ _ k) (Tot.ite (fun e => Tot.ret ?_) (fun e => ?_))
    ·exact ⟨fun x => absurd x (by decide),fun x => absurd (x i (by omega)) (hb.1 e)⟩
    ·rw [w64_in (by omega) (by omega)]
     have ok:nmC (bt s (i:Int)):=Classical.byContradiction fun x => e (hb.2 x)
     exact ih (i + 1) (by omega) (by omega) (fun j hj => by
      by_cases c:j < i
      ·exact hi j c
      ·rw [show j = i by omega];exact ok)
   unfold nmC at j2
   generalize bt s (i:Int) = c at j2 ⊢
   refine Tot.bind (Tot.of (ltS c) rfl) ?_
   rintro _ rfl
   refine Tot.ite (fun e => j2 _ ?_) (fun e => Tot.ite (fun g => j2 _ ?_) (fun g => j2 _ ?_))
   ·have:=of_decide_eq_true e
    exact ⟨fun x => absurd x (by decide),fun x => absurd (.inl this) x⟩
   ·have n1:¬ ltC c:=fun x => e (decide_eq_true x)
    have g':48 ≤ c:=g
    by_cases l:c ≤ 57
    ·simp [l,g']
    ·simp [l,n1]
   ·have n1:¬ ltC c:=fun x => e (decide_eq_true x)
    have g':¬ 48 ≤ c:=g
    simp [g',n1]
 unfold spec_NameOk.f
 have j0:∀ (b:Bool),(b = false → 1 ≤ s.size ∧ s.size ≤ 16 ∧ ltC (bt s 0)) → (b = true → ¬ NameG s) → Tot (fun k => spec_NameOk.j0 k s b) (fun b => b = true ↔ NameG s):=by
  intro b h1 h2
  refine Tot.step (fun k => spec_NameOk.j0.eq_2 _ _ k) (Tot.ite (fun e => Tot.ret ⟨fun x => absurd x (by decide),fun x => absurd x (h2 e)⟩) (fun e => ?_))
  obtain ⟨z1,z2,z3⟩:=h1 (by simpa using e)
  refine (go z1 z2 _ 0 rfl (Nat.zero_le _) (fun j hj => absurd hj (Nat.not_lt_zero _))).mono fun r hr => ?_
  rw [hr]
  exact ⟨fun x => ⟨z1,z2,z3,x⟩,fun x => x.2.2.2⟩
 refine Tot.ite (fun e => j0 _ (fun x => absurd x (by decide)) (fun _ x => by have:=x.1;omega)) (fun e => Tot.ite (fun g => j0 _ (fun x => absurd x (by decide)) (fun _ x => by have:=x.2.1;omega)) (fun g => Tot.yes (by omega) ?_))
 refine Tot.bind (Tot.of (ltS _) rfl) ?_
 rintro _ rfl
 refine j0 _ (fun x => ⟨by omega,by omega,?_⟩) (fun x y => ?_)
 ·simpa using x
 ·have:=y.2.2.1
  simp [this] at x
/-! ### is an expression right: the reference's -/
theorem inS (a lo hi:Int):spec_l1In.f a lo hi = some (decide (lo ≤ a ∧ a ≤ hi)):=by
 unfold spec_l1In.f
 by_cases h:a ≥ lo
 ·rw [if_pos h];simp [show lo ≤ a from h]
 ·rw [if_neg h];simp [show ¬ lo ≤ a from h]
def NodeG (a b:Int) (c:ByteArray):Prop:=(a = 1 ∧ (0 ≤ b ∧ b ≤ 65535) ∧ c.size = 0) ∨ ((a = 2 ∨ a = 3) ∧ b = 0 ∧ NameG c) ∨ ((4 ≤ a ∧ a ≤ 17) ∧ b = 0 ∧ c.size = 0)
theorem takesS (a:Int):spec_l2Takes.f a = some (if 1 ≤ a ∧ a ≤ 3 then 0 else if 4 ≤ a ∧ a ≤ 7 then 1 else if 8 ≤ a ∧ a ≤ 17 then 2 else -1):=by
 unfold spec_l2Takes.f
 rw [inS,inS,inS]
 simp only [Option.bind_some,decide_eq_true_eq]
 split
 ·rfl
 ·split
  ·rfl
  ·split <;> rfl
theorem nodeS_T (a b:Int) (c:ByteArray) (hc:c.size ≤ 1000000):Tot (fun k => spec_l2Node.f k a b c) (fun t => t = true ↔ NodeG a b c):=by
 have j0:∀ t:Bool,a ≠ 1 → (t = true ↔ a = 2 ∨ a = 3) → Tot (fun k => spec_l2Node.j0 k t a b c) (fun t => t = true ↔ NodeG a b c):=by
  intro t h1 ht
  refine Tot.step (fun k => spec_l2Node.j0.eq_2 _ _ _ _ k) (Tot.ite (fun e => ?_) (fun e => ?_))
  ·have h2:=ht.1 e
   refine Tot.ite (fun eb => ?_) (fun eb => Tot.ret (Iff.intro (fun x => by cases x) (fun x => ?_)))
   ·refine Tot.bind (nameS_T c hc) fun q hq => Tot.ret ?_
    rw [hq]
    refine Iff.intro (fun n => .inr (.inl ⟨h2,eb,n⟩)) (fun x => ?_)
    rcases x with x | x | x
    ·exact absurd x.1 h1
    ·exact x.2.2
    ·omega
   ·rcases x with x | x | x
    ·exact absurd x.1 h1
    ·exact absurd x.2.1 eb
    ·exact absurd x.2.1 eb
  ·have h2:¬ (a = 2 ∨ a = 3):=fun x => e (ht.2 x)
   have no:∀ y:Prop,(NodeG a b c → y) → (¬ y) → Tot (fun _ => some false) (fun t => t = true ↔ NodeG a b c):=fun y h n => Tot.ret (Iff.intro (fun x => by cases x) (fun x => absurd (h x) n))
   refine Tot.ite (fun eb => ?_) (fun eb => no (b = 0) (fun x => ?_) eb)
   ·refine Tot.ite (fun ec => ?_) (fun ec => no (c.size = 0) (fun x => ?_) (fun z => ec ((size0 c).2 z)))
    ·refine Tot.bind (Tot.of (takesS a) rfl) ?_
     rintro _ rfl
     refine Tot.ret ?_
     rw [decide_eq_true_eq]
     have hcs:=(size0 c).1 ec
     refine Iff.intro (fun x => ?_) (fun x => ?_)
     ·refine .inr (.inr ⟨?_,eb,hcs⟩)
      split at x
      ·omega
      ·split at x
       ·omega
       ·split at x
        ·omega
        ·omega
     ·rcases x with x | x | x
      ·exact absurd x.1 h1
      ·exact absurd x.1 h2
      ·rw [if_neg (by omega)]
       by_cases h7:4 ≤ a ∧ a ≤ 7
       ·rw [if_pos h7];decide
       ·rw [if_neg h7,if_pos (by omega)];decide
    ·rcases x with x | x | x
     ·exact absurd x.1 h1
     ·exact absurd x.1 h2
     ·exact x.2.2
   ·rcases x with x | x | x
    ·exact absurd x.1 h1
    ·exact x.2.1
    ·exact x.2.1
 unfold spec_l2Node.f
 refine Tot.ite (fun e => ?_) (fun e => Tot.ite (fun e2 => j0 _ e (by simp [e2])) (fun e2 => j0 _ e (by simp [e2])))
 refine Tot.bind (Tot.of (inS _ _ _) rfl) ?_
 rintro _ rfl
 refine Tot.ite (fun q => Tot.ret ?_) (fun q => Tot.ret (Iff.intro (fun x => by cases x) (fun x => ?_)))
 ·rw [beq_iff_eq,size0]
  refine Iff.intro (fun z => .inl ⟨e,of_decide_eq_true q,z⟩) (fun x => ?_)
  rcases x with x | x | x
  ·exact x.2.2
  ·omega
  ·exact x.2.2
 ·rcases x with x | x | x
  ·exact absurd (decide_eq_true x.2.1) q
  ·omega
  ·omega
/-- From a place on,with so many values at hand. -/
def okFrom:Int → List S45 → Prop
 | h,[] => h = 1
 | h,x :: l => NodeG x.f0 x.f1 x.f2 ∧ (if x.f0 ≤ 3 then okFrom (h + 1) l else if x.f0 ≤ 7 then 1 ≤ h ∧ okFrom h l else 2 ≤ h ∧ okFrom (h - 1) l)
def OkE (e:List S45):Prop:=e.length ≤ 30 ∧ okFrom 0 e
/-- The nodes' names can be looked at. -/
def SeenE (e:List S45):Prop:=e.length ≤ 1000000 ∧ ∀ x ∈ e,x.f2.size ≤ 1000000
theorem rdE_at {l:List S45} {i:Nat} (h:i < l.length):rd_T45 l (i:Int) = l[i]:=by
 unfold rd_T45
 rw [Int.toNat_natCast,List.getD_eq_getElem?_getD,List.getElem?_eq_getElem h]
 rfl
theorem drop_at {l:List S45} {i:Nat} (h:i < l.length):l.drop i = rd_T45 l (i:Int) :: l.drop (i + 1):=by
 rw [rdE_at h];exact List.drop_eq_getElem_cons h
theorem SeenE.at {l:List S45} (h:SeenE l) {i:Nat} (hi:i < l.length):(rd_T45 l (i:Int)).f2.size ≤ 1000000:=by
 rw [rdE_at hi];exact h.2 _ (List.getElem_mem _)
theorem exS_T {e:List S45} (hs:SeenE e):Tot (fun k => spec_ExprOk.f k e) (fun t => t = true ↔ OkE e):=by
 have hlen:=hs.1
 have go:∀ (d i:Nat) (h:Int),e.length - i = d → i ≤ e.length → 0 ≤ h → h ≤ (i:Int) → Tot (fun k => spec_ExprOk.l0 k e h (i:Int)) (fun t => t = true ↔ e.length ≤ 30 ∧ okFrom h (e.drop i)):=by
  intro d
  induction d with
  | zero =>
   intro i h h1 h2 h3 h4
   refine Tot.step (fun k => spec_ExprOk.l0.eq_2 _ _ _ k) (Tot.no (by omega) ?_)
   rw [List.drop_eq_nil_of_le (by omega)]
   refine Tot.ite (fun c => Tot.ret ?_) (fun c => Tot.ret (Iff.intro (fun x => by cases x) (fun x => by omega)))
   rw [beq_iff_eq]
   exact ⟨fun x => ⟨by omega,x⟩,fun x => x.2⟩
  | succ d ih =>
   intro i h h1 h2 h3 h4
   have hil:i < e.length:=by omega
   refine Tot.step (fun k => spec_ExprOk.l0.eq_2 _ _ _ k) (Tot.yes (by omega) (Tot.yes (by omega) ?_))
   rw [drop_at hil]
   refine Tot.bind (nodeS_T _ _ _ (hs.at hil)) fun t ht => Tot.ite (fun c => ?_) (fun c => Tot.ret (Iff.intro (fun x => by cases x) (fun x => absurd (ht.2 x.2.1) c)))
   have hn:=ht.1 c
   have hr:1 ≤ (rd_T45 e (i:Int)).f0 ∧ (rd_T45 e (i:Int)).f0 ≤ 17:=by
    rcases hn with x | x | x <;> omega
   refine Tot.bind (Tot.of (takesS _) rfl) ?_
   rintro _ rfl
   have e1:wrap64 ((i:Int) + 1) = ((i + 1:Nat):Int):=by rw [w64_in (by omega) (by omega)];rfl
   generalize rd_T45 e (i:Int) = x at hn hr ⊢
   have key:∀ (t h':Int),(if 1 ≤ x.f0 ∧ x.f0 ≤ 3 then (0:Int) else if 4 ≤ x.f0 ∧ x.f0 ≤ 7 then 1 else if 8 ≤ x.f0 ∧ x.f0 ≤ 17 then 2 else -1) = t → h' = h - t + 1 → (0 ≤ t ∧ t ≤ 2) → (t ≤ h → (okFrom h (x :: e.drop (i + 1)) ↔ okFrom h' (e.drop (i + 1)))) → (h < t → ¬ okFrom h (x :: e.drop (i + 1))) →
     Tot (fun k => if (if 1 ≤ x.f0 ∧ x.f0 ≤ 3 then (0:Int) else if 4 ≤ x.f0 ∧ x.f0 ≤ 7 then 1 else if 8 ≤ x.f0 ∧ x.f0 ≤ 17 then 2 else -1) > h then some false else (spec_l2Takes.f x.f0).bind fun t235 => spec_ExprOk.l0 k e (wrap64 (wrap64 (h - t235) + 1)) (wrap64 ((i:Int) + 1))) (fun t => t = true ↔ e.length ≤ 30 ∧ okFrom h (x :: e.drop (i + 1))):=by
    intro t h' et eh tb h5 h6
    rw [et]
    refine Tot.ite (fun c => Tot.ret (Iff.intro (fun y => by cases y) (fun y => absurd y.2 (h6 c)))) (fun c => ?_)
    refine Tot.bind (Tot.of (takesS _) rfl) ?_
    rintro _ rfl
    rw [et,w64_in (n:=h - t) (by omega) (by omega),w64_in (n:=h - t + 1) (by omega) (by omega),e1,← eh,h5 (by omega)]
    exact ih (i + 1) h' (by omega) (by omega) (by omega) (by omega)
   by_cases c3:x.f0 ≤ 3
   ·refine key 0 (h + 1) (by rw [if_pos (by omega)]) (by omega) (by decide) (fun _ => ?_) (fun c => ?_)
    ·rw [okFrom,if_pos c3];exact ⟨fun y => y.2,fun y => ⟨hn,y⟩⟩
    ·omega
   ·by_cases c7:x.f0 ≤ 7
    ·refine key 1 h (by rw [if_neg (by omega),if_pos (by omega)]) (by omega) (by decide) (fun c => ?_) (fun c => ?_)
     ·rw [okFrom,if_neg c3,if_pos c7];exact ⟨fun y => y.2.2,fun y => ⟨hn,c,y⟩⟩
     ·rw [okFrom,if_neg c3,if_pos c7];exact fun y => by have:=y.2.1;omega
    ·refine key 2 (h - 1) (by rw [if_neg (by omega),if_neg (by omega),if_pos (by omega)]) (by omega) (by decide) (fun c => ?_) (fun c => ?_)
     ·rw [okFrom,if_neg c3,if_neg c7];exact ⟨fun y => y.2.2,fun y => ⟨hn,c,y⟩⟩
     ·rw [okFrom,if_neg c3,if_neg c7];exact fun y => by have:=y.2.1;omega
 unfold spec_ExprOk.f
 exact go _ 0 0 rfl (Nat.zero_le _) (by decide) (by decide)
/-! ### is an expression right: the program's -/
theorem wordI (a:Int):impl_isWord.f a = some (decide (0 ≤ a ∧ a ≤ 65535)):=by unfold impl_isWord.f;rw [withinI];rfl
theorem nodeI_T (a b:Int) (c:ByteArray) (hc:c.size ≤ 1000000):Tot (fun k => impl_isNode.f k a b c) (fun t => t = true ↔ NodeG a b c):=by
 have j0:∀ t:Bool,a ≠ 1 → (t = true ↔ a = 2 ∨ a = 3) → Tot (fun k => impl_isNode.j0 k t a b c) (fun t => t = true ↔ NodeG a b c):=by
  intro t h1 ht
  refine Tot.step (fun k => impl_isNode.j0.eq_2 _ _ _ _ k) (Tot.ite (fun e => ?_) (fun e => ?_))
  ·have h2:=ht.1 e
   refine Tot.ite (fun eb => ?_) (fun eb => Tot.ret (Iff.intro (fun x => by cases x) (fun x => ?_)))
   ·refine Tot.bind (nameI_T c hc) fun q hq => Tot.ret ?_
    rw [hq]
    refine Iff.intro (fun n => .inr (.inl ⟨h2,eb,n⟩)) (fun x => ?_)
    rcases x with x | x | x
    ·exact absurd x.1 h1
    ·exact x.2.2
    ·omega
   ·rcases x with x | x | x
    ·exact absurd x.1 h1
    ·exact absurd x.2.1 eb
    ·exact absurd x.2.1 eb
  ·have h2:¬ (a = 2 ∨ a = 3):=fun x => e (ht.2 x)
   refine Tot.bind (Tot.of (withinI _ _ _) rfl) ?_
   rintro _ rfl
   have no:∀ y:Prop,(NodeG a b c → y) → (¬ y) → Tot (fun _ => some false) (fun t => t = true ↔ NodeG a b c):=fun y h n => Tot.ret (Iff.intro (fun x => by cases x) (fun x => absurd (h x) n))
   refine Tot.ite (fun ea => ?_) (fun ea => no (4 ≤ a ∧ a ≤ 17) (fun x => ?_) (fun z => ea (decide_eq_true z)))
   ·have ea:=of_decide_eq_true ea
    refine Tot.ite (fun eb => Tot.ret ?_) (fun eb => no (b = 0) (fun x => ?_) eb)
    ·rw [beq_iff_eq,size0]
     refine Iff.intro (fun z => .inr (.inr ⟨ea,eb,z⟩)) (fun x => ?_)
     rcases x with x | x | x
     ·exact absurd x.1 h1
     ·exact absurd x.1 h2
     ·exact x.2.2
    ·rcases x with x | x | x
     ·exact absurd x.1 h1
     ·exact x.2.1
     ·exact x.2.1
   ·rcases x with x | x | x
    ·exact absurd x.1 h1
    ·exact absurd x.1 h2
    ·exact x.1
 unfold impl_isNode.f
 refine Tot.ite (fun e => ?_) (fun e => Tot.ite (fun e2 => j0 _ e (by simp [e2])) (fun e2 => j0 _ e (by simp [e2])))
 refine Tot.bind (Tot.of (wordI _) rfl) ?_
 rintro _ rfl
 refine Tot.ite (fun q => Tot.ret ?_) (fun q => Tot.ret (Iff.intro (fun x => by cases x) (fun x => ?_)))
 ·rw [beq_iff_eq,size0]
  refine Iff.intro (fun z => .inl ⟨e,of_decide_eq_true q,z⟩) (fun x => ?_)
  rcases x with x | x | x
  ·exact x.2.2
  ·omega
  ·exact x.2.2
 ·rcases x with x | x | x
  ·exact absurd (decide_eq_true x.2.1) q
  ·omega
  ·omega
theorem exI_T {e:List S45} (hs:SeenE e):Tot (fun k => impl_ExprOk.f k e) (fun t => t = true ↔ OkE e):=by
 have hlen:=hs.1
 have go:∀ (d i:Nat) (h:Int),e.length - i = d → i ≤ e.length → 0 ≤ h → h ≤ (i:Int) → Tot (fun k => impl_ExprOk.l0 k h e (e.length:Int) (i:Int)) (fun t => t = true ↔ okFrom h (e.drop i)):=by
  intro d
  induction d with
  | zero =>
   intro i h h1 h2 h3 h4
   refine Tot.step (fun k => impl_ExprOk.l0.eq_2 _ _ _ _ k) (Tot.no (by omega) (Tot.ret ?_))
   rw [List.drop_eq_nil_of_le (by omega),beq_iff_eq]
   exact Iff.rfl
  | succ d ih =>
   intro i h h1 h2 h3 h4
   have hil:i < e.length:=by omega
   refine Tot.step (fun k => impl_ExprOk.l0.eq_2 _ _ _ _ k) (Tot.yes (by omega) (Tot.yes (by omega) (Tot.yes (by omega) ?_)))
   rw [drop_at hil]
   refine Tot.bind (nodeI_T _ _ _ (hs.at hil)) fun t ht => Tot.ite (fun c => ?_) (fun c => Tot.ret (Iff.intro (fun x => by cases x) (fun x => absurd (ht.2 x.1) c)))
   have hn:=ht.1 c
   have e1:wrap64 ((i:Int) + 1) = ((i + 1:Nat):Int):=by rw [w64_in (by omega) (by omega)];rfl
   rw [e1]
   generalize rd_T45 e (i:Int) = x at hn ⊢
   refine Tot.ite (fun c3 => ?_) (fun c3 => ?_)
   ·rw [w64_in (n:=h + 1) (by omega) (by omega),okFrom,if_pos c3]
    exact (ih (i + 1) (h + 1) (by omega) (by omega) (by omega) (by omega)).mono fun t q => q.trans ⟨fun y => ⟨hn,y⟩,fun y => y.2⟩
   ·refine Tot.ite (fun c7 => ?_) (fun c7 => ?_)
    ·rw [okFrom,if_neg c3,if_pos c7]
     refine Tot.ite (fun c => Tot.ret (Iff.intro (fun y => by cases y) (fun y => by have:=y.2.1;omega))) (fun c => ?_)
     exact (ih (i + 1) h (by omega) (by omega) (by omega) (by omega)).mono fun t q => q.trans ⟨fun y => ⟨hn,by omega,y⟩,fun y => y.2.2⟩
    ·rw [okFrom,if_neg c3,if_neg c7]
     refine Tot.ite (fun c => Tot.ret (Iff.intro (fun y => by cases y) (fun y => by have:=y.2.1;omega))) (fun c => ?_)
     rw [w64_in (n:=h - 1) (by omega) (by omega)]
     exact (ih (i + 1) (h - 1) (by omega) (by omega) (by omega) (by omega)).mono fun t q => q.trans ⟨fun y => ⟨hn,by omega,y⟩,fun y => y.2.2⟩
 unfold impl_ExprOk.f
 refine Tot.ite (fun c => Tot.ret (Iff.intro (fun y => by cases y) (fun y => by have:=y.1;omega))) (fun c => ?_)
 exact (go _ 0 0 rfl (Nat.zero_le _) (by decide) (by decide)).mono fun t q => q.trans ⟨fun y => ⟨by omega,y⟩,fun y => y.2⟩
/-! ### what an expression tells -/
abbrev SY:=S33
abbrev EX:=S45
def findS (l:List SY) (nm:ByteArray):Option SY:=l.find? (fun y => y.f0.toList == nm.toList)
theorem rdY_at {l:List SY} {i:Nat} (h:i < l.length):rd_T33 l (i:Int) = l[i]:=by
 unfold rd_T33
 rw [Int.toNat_natCast,List.getD_eq_getElem?_getD,List.getElem?_eq_getElem h]
 rfl
theorem rd_at {l:List Int} {i:Nat} (h:i < l.length):rd l (i:Int) = l[i]:=by
 unfold rd
 rw [Int.toNat_natCast,List.getD_eq_getElem?_getD,List.getElem?_eq_getElem h]
 rfl
theorem sym_T {l:List SY} (hl:l.length ≤ 1000000) (nm:ByteArray):Tot (fun k => l2Sym_idx.f k l nm) (fun r => (r < 0 ∧ findS l nm = none) ∨ (0 ≤ r ∧ r < (l.length:Int) ∧ findS l nm = some (rd_T33 l r))):=by
 have go:∀ (d i:Nat),l.length - i = d → i ≤ l.length → findS l nm = findS (l.drop i) nm → Tot (fun k => spec_l2Sym.l0 k l nm (i:Int)) (fun r => (r < 0 ∧ findS l nm = none) ∨ (0 ≤ r ∧ r < (l.length:Int) ∧ findS l nm = some (rd_T33 l r))):=by
  intro d
  induction d with
  | zero =>
   intro i h1 h2 h3
   refine Tot.step (fun k => spec_l2Sym.l0.eq_2 _ _ _ k) (Tot.no (by omega) (Tot.ret (.inl ⟨by decide,?_⟩)))
   rw [h3,List.drop_eq_nil_of_le (by omega)]
   rfl
  | succ d ih =>
   intro i h1 h2 h3
   have hil:i < l.length:=by omega
   have hd:l.drop i = l[i] :: l.drop (i + 1):=List.drop_eq_getElem_cons hil
   refine Tot.step (fun k => spec_l2Sym.l0.eq_2 _ _ _ k) (Tot.yes (by omega) (Tot.yes (by omega) (Tot.ite (fun c => Tot.ret (.inr ⟨by omega,by omega,?_⟩)) (fun c => ?_))))
   ·rw [h3,hd]
    rw [rdY_at hil] at c ⊢
    unfold findS
    rw [List.find?_cons_of_pos (by simpa using c)]
   ·rw [w64_in (n:=(i:Int) + 1) (by omega) (by omega)]
    refine ih (i + 1) (by omega) (by omega) ?_
    rw [h3,hd]
    rw [rdY_at hil] at c
    unfold findS
    rw [List.find?_cons_of_neg (by simpa using c)]
 exact go _ 0 rfl (Nat.zero_le _) (by rw [List.drop_zero])
def sgF (a x:Int):Int:=if a = 4 then wrap32 (-x) else if a = 5 then Go.bits .xor .i32 (-1) x else if a = 6 then Go.bits .and .i32 (x / 256) 255 else Go.bits .and .i32 x 255
def opF (a x y:Int):Int × Bool:=if a = 8 then (wrap32 (x + y),true) else if a = 9 then (wrap32 (x - y),true) else if a = 10 then (wrap32 (x * y),true) else if a = 11 then (if y = 0 then (0,false) else (wrap32 (Int.tdiv x y),true)) else if a = 12 then (if y = 0 then (0,false) else (Int.tmod x y,true)) else
 if a = 13 then (Go.bits .and .i32 x y,true) else if a = 14 then (Go.bits .xor .i32 x y,true) else if a = 15 then (Go.bits .or .i32 x y,true) else if a = 16 then (shl .i32 x (y % 32),true) else (shr .i32 x (y % 32),true)
theorem signedI (a x:Int):impl_signed.f a x = some (sgF a x):=by
 unfold impl_signed.f sgF
 repeat' split
 all_goals rfl
theorem operI (a x y:Int):impl_operated.f a x y = some (opF a x y):=by
 unfold impl_operated.f opF
 simp only [cnt_u,show (0:Int) ≤ y % 32 by omega,if_true]
 repeat' split
 all_goals rfl
theorem div256 {x:Int} (h:I32 x):I32 (x / 256):=by unfold I32 at *;omega
theorem c255:I32 255:=by unfold I32;omega
theorem cm1:I32 (-1):=by unfold I32;omega
theorem sgF_in {a x:Int} (h:I32 x):I32 (sgF a x):=by
 unfold sgF
 repeat' split
 ·exact w32_in _
 ·exact (xor32 cm1 h).2
 ·exact (and32 (div256 h) c255).2
 ·exact (and32 h c255).2
theorem opF_in {a x y:Int} (hx:I32 x) (hy:I32 y):I32 (opF a x y).1:=by
 have z:I32 0:=by unfold I32;omega
 unfold opF
 repeat' split
 ·exact w32_in _
 ·exact w32_in _
 ·exact w32_in _
 ·exact z
 ·exact w32_in _
 ·exact z
 ·exact tmod_in hx
 ·exact (and32 hx hy).2
 ·exact (xor32 hx hy).2
 ·exact (or32 hx hy).2
 ·exact (shl_32 hx (by omega) (by omega)).2
 ·exact (shr_32 hx (by omega) (by omega)).2
theorem twoS {a x y:Int} (hx:I32 x) (hy:I32 y):spec_l2Two.f a x y = some (opF a x y):=by
 have h1:=hx.1
 have h2:=hx.2
 have h3:=hy.1
 have h4:=hy.2
 have hm:=mul_in (a:=x) (b:=y) (M:=2147483648) (N:=2147483648) ⟨by omega,by omega⟩ ⟨by omega,by omega⟩ (by decide)
 have e1:wrap64 (wrap32 (wrap64 (x + y))) = wrap32 (x + y):=by rw [w64_id (x:=x + y) (by omega) (by omega),w64_32]
 have e2:wrap64 (wrap32 (wrap64 (x - y))) = wrap32 (x - y):=by rw [w64_id (x:=x - y) (by omega) (by omega),w64_32]
 have e3:wrap64 (wrap32 (wrap64 (x * y))) = wrap32 (x * y):=by rw [w64_id (x:=x * y) (by omega) (by omega),w64_32]
 have hd:=tdiv_in (a:=x) (b:=y) hx
 have e4:wrap64 (wrap32 (wrap64 (Int.tdiv x y))) = wrap32 (Int.tdiv x y):=by rw [w64_id (x:=Int.tdiv x y) (by omega) (by omega),w64_32]
 have e5:wrap64 (wrap32 (Int.tmod x y)) = Int.tmod x y:=by rw [w64_32,w32_id (tmod_in hx)]
 have hs:=(shl_32 hx (n:=y % 32) (by omega) (by omega)).1
 have ht:=(shr_32 hx (n:=y % 32) (by omega) (by omega)).1
 unfold spec_l2Two.f opF spec_l2Wrap.f
 simp only [cnt_i,show (0:Int) ≤ y % 32 by omega,if_true,Option.bind_some,e1,e2,e3,e4,e5,hs,ht,(and32 hx hy).1,(or32 hx hy).1,(xor32 hx hy).1]
 repeat' split
 all_goals rfl
/-- What is told of the nodes from a place on,with a stack of values. -/
def ev (F:ByteArray → Option SY):List Int → List EX → Int × Int
 | st,[] => (rd st 0,0)
 | st,x :: l => if x.f0 = 1 then ev F (st ++ [x.f1]) l else if x.f0 ≤ 3 then (match F x.f2 with | none => (0,2) | some y => ev F (st ++ [wrap32 (if x.f0 = 3 then y.f1 else y.f2)]) l) else
  if x.f0 ≤ 7 then ev F (st.set (st.length - 1) (sgF x.f0 (rd st ((st.length:Int) - 1)))) l else
  if (opF x.f0 (rd st ((st.length:Int) - 2)) (rd st ((st.length:Int) - 1))).2 = true then ev F (st.take (st.length - 2) ++ [(opF x.f0 (rd st ((st.length:Int) - 2)) (rd st ((st.length:Int) - 1))).1]) l else (0,3)
def StOk (st:List Int):Prop:=∀ v ∈ st,I32 v
theorem st_rd {st:List Int} (h:StOk st) (i:Int):I32 (rd st i):=by
 unfold rd
 rw [List.getD_eq_getElem?_getD]
 rcases e:st[i.toNat]? with _ | v
 ·show I32 0
  unfold I32
  omega
 ·exact h v (List.mem_of_getElem? e)
theorem st_put {st:List Int} (h:StOk st) {v:Int} (hv:I32 v):StOk (st ++ [v]):=fun u hu => by
 rcases List.mem_append.1 hu with hu | hu
 ·exact h u hu
 ·rw [List.mem_singleton.1 hu];exact hv
theorem st_set {st:List Int} (h:StOk st) {v:Int} (hv:I32 v) (i:Nat):StOk (st.set i v):=fun u hu => by
 rcases List.mem_or_eq_of_mem_set hu with hu | rfl
 ·exact h u hu
 ·exact hv
theorem st_take {st:List Int} (h:StOk st) (i:Nat):StOk (st.take i):=fun u hu => h u (List.mem_of_mem_take hu)
theorem word_in {x:Int} (h:0 ≤ x ∧ x ≤ 65535):I32 x:=by unfold I32;omega
/-- The program's. -/
theorem evI_T {e:List EX} {l:List SY} (hl:l.length ≤ 1000000) (he:e.length ≤ 30):∀ (d i:Nat) (st:List Int),e.length - i = d → i ≤ e.length → st.length ≤ i → StOk st → okFrom (st.length:Int) (e.drop i) →
  Tot (fun k => impl_evaluated.l0 k l st e (e.length:Int) (i:Int)) (· = ev (findS l) st (e.drop i)):=by
 intro d
 induction d with
 | zero =>
  intro i st h1 h2 h3 hs ho
  rw [List.drop_eq_nil_of_le (by omega)] at ho ⊢
  have ho:(st.length:Int) = 1:=ho
  refine Tot.step (fun k => impl_evaluated.l0.eq_2 _ _ _ _ _ k) (Tot.no (by omega) (Tot.yes (by omega) (Tot.ret ?_)))
  have:=st_rd hs 0
  rw [ev,w64_id (by have:=this.1;omega) (by have:=this.2;omega)]
 | succ d ih =>
  intro i st h1 h2 h3 hs ho
  have hil:i < e.length:=by omega
  have e1:wrap64 ((i:Int) + 1) = ((i + 1:Nat):Int):=by rw [w64_in (by omega) (by omega)];rfl
  rw [drop_at hil] at ho ⊢
  refine Tot.step (fun k => impl_evaluated.l0.eq_2 _ _ _ _ _ k) (Tot.yes (by omega) (Tot.yes (by omega) (Tot.yes (by omega) ?_)))
  rw [e1]
  generalize rd_T45 e (i:Int) = x at ho ⊢
  obtain ⟨hn,ho⟩:=ho
  rw [ev]
  refine Tot.ite (fun c => ?_) (fun c => ?_)
  ·rw [if_pos c]
   rw [if_pos (by omega)] at ho
   have hw:0 ≤ x.f1 ∧ x.f1 ≤ 65535:=by rcases hn with h | h | h <;> omega
   rw [w32_id (word_in hw)]
   refine Tot.yes (by omega) (ih (i + 1) _ (by omega) (by omega) (by rw [List.length_append];simp;omega) (st_put hs (word_in hw)) ?_)
   rw [List.length_append]
   simpa using ho
  ·rw [if_neg c]
   refine Tot.ite (fun c3 => ?_) (fun c3 => ?_)
   ·rw [if_pos c3]
    rw [if_pos c3] at ho
    have nx:∀ v:Int,Tot (fun k => if st.length < 35184372088832 then impl_evaluated.l0 k l (st ++ [wrap32 v]) e (e.length:Int) ((i + 1:Nat):Int) else none) (· = ev (findS l) (st ++ [wrap32 v]) (e.drop (i + 1))):=fun v =>
     Tot.yes (by omega) (ih (i + 1) _ (by omega) (by omega) (by rw [List.length_append];simp;omega) (st_put hs (w32_in _)) (by rw [List.length_append];simpa using ho))
    refine Tot.bind (sym_T hl x.f2) fun r hr => Tot.ite (fun cr => ?_) (fun cr => ?_)
    ·rcases hr with hr | hr
     ·rw [hr.2];exact Tot.ret rfl
     ·omega
    ·rcases hr with hr | hr
     ·omega
     ·rw [hr.2.2]
      refine Tot.yes hr.1 (Tot.yes hr.2.1 (Tot.ite (fun c4 => ?_) (fun c4 => ?_)))
      ·refine (nx _).mono fun a h => h.trans ?_
       show _ = ev (findS l) (st ++ [wrap32 (if x.f0 = 3 then (rd_T33 l r).f1 else (rd_T33 l r).f2)]) _
       rw [if_pos c4]
      ·refine (nx _).mono fun a h => h.trans ?_
       show _ = ev (findS l) (st ++ [wrap32 (if x.f0 = 3 then (rd_T33 l r).f1 else (rd_T33 l r).f2)]) _
       rw [if_neg c4]
   ·rw [if_neg c3]
    rw [if_neg c3] at ho
    refine Tot.ite (fun c7 => ?_) (fun c7 => ?_)
    ·rw [if_pos c7]
     rw [if_pos c7] at ho
     have hp:=ho.1
     rw [w64_in (n:=(st.length:Int) - 1) (by omega) (by omega)]
     refine Tot.yes (by omega) (Tot.yes (by omega) (Tot.bind (Tot.of (signedI _ _) rfl) ?_))
     rintro _ rfl
     rw [show ((st.length:Int) - 1).toNat = st.length - 1 by omega]
     refine ih (i + 1) _ (by omega) (by omega) (by rw [List.length_set];omega) (st_set hs (sgF_in (st_rd hs _)) _) ?_
     rw [List.length_set]
     exact ho.2
    ·rw [if_neg c7]
     rw [if_neg c7] at ho
     have hp:=ho.1
     rw [w64_in (n:=(st.length:Int) - 1) (by omega) (by omega),w64_in (n:=(st.length:Int) - 2) (by omega) (by omega)]
     refine Tot.yes (by omega) (Tot.yes (by omega) (Tot.yes (by omega) (Tot.yes (by omega) (Tot.bind (Tot.of (operI _ _ _) rfl) ?_))))
     rintro _ rfl
     refine Tot.ite (fun c8 => ?_) (fun c8 => ?_)
     ·rw [if_pos c8]
      refine Tot.yes (by omega) (Tot.bind (Tot.of rfl rfl) ?_)
      rintro _ rfl
      rw [show ((st.length:Int) - 2).toNat = st.length - 2 by omega]
      have hlt:(st.take (st.length - 2)).length = st.length - 2:=by rw [List.length_take];omega
      refine Tot.yes (by omega) (ih (i + 1) _ (by omega) (by omega) (by rw [List.length_append,hlt];simp;omega) (st_put (st_take hs _) (opF_in (st_rd hs _) (st_rd hs _))) ?_)
      rw [List.length_append,hlt,show ((st.length - 2 + [(opF x.f0 (rd st ((st.length:Int) - 2)) (rd st ((st.length:Int) - 1))).1].length:Nat):Int) = (st.length:Int) - 1 by simp;omega]
      exact ho.2
     ·rw [if_neg c8]
      exact Tot.ret rfl
/-- The reference's. -/
theorem evS_T {e:List EX} {l:List SY} (hl:l.length ≤ 1000000) (he:e.length ≤ 30):∀ (d i:Nat) (st:List Int),e.length - i = d → i ≤ e.length → st.length ≤ i → StOk st → okFrom (st.length:Int) (e.drop i) →
  Tot (fun k => spec_l2Eval.l0 k e l st (i:Int)) (· = ev (findS l) st (e.drop i)):=by
 intro d
 induction d with
 | zero =>
  intro i st h1 h2 h3 hs ho
  rw [List.drop_eq_nil_of_le (by omega)] at ho ⊢
  have ho:(st.length:Int) = 1:=ho
  exact Tot.step (fun k => spec_l2Eval.l0.eq_2 _ _ _ _ k) (Tot.no (by omega) (Tot.yes (by omega) (Tot.ret rfl)))
 | succ d ih =>
  intro i st h1 h2 h3 hs ho
  have hil:i < e.length:=by omega
  have e1:wrap64 ((i:Int) + 1) = ((i + 1:Nat):Int):=by rw [w64_in (by omega) (by omega)];rfl
  rw [drop_at hil] at ho ⊢
  have i0:(0:Int) ≤ (i:Int):=by omega
  have i1:(i:Int) < (e.length:Int):=by omega
  refine Tot.step (fun k => spec_l2Eval.l0.eq_2 _ _ _ _ k) (Tot.yes i1 (Tot.yes i0 ?_))
  have j1:∀ b:Bool,¬ (rd_T45 e (i:Int)).f0 = 1 → (b = true ↔ (rd_T45 e (i:Int)).f0 ≤ 3) → Tot (fun k => spec_l2Eval.j1 k e l st (i:Int) (st.length:Int) (rd_T45 e (i:Int)).f0 b) (· = ev (findS l) st (rd_T45 e (i:Int) :: e.drop (i + 1))):=by
   intro b c hb
   refine Tot.step (fun k => spec_l2Eval.j1.eq_2 _ _ _ _ _ _ _ k) ?_
   rw [e1]
   generalize rd_T45 e (i:Int) = x at ho c hb ⊢
   obtain ⟨hn,ho⟩:=ho
   rw [ev,if_neg c]
   refine Tot.ite (fun cb => ?_) (fun cb => ?_)
   ·have c3:=hb.1 cb
    rw [if_pos c3]
    rw [if_pos c3] at ho
    have nx:∀ v:Int,Tot (fun k => (spec_l2Wrap.f v).bind fun t => if st.length < 17592186044416 then spec_l2Eval.l0 k e l (st ++ [t]) ((i + 1:Nat):Int) else none) (· = ev (findS l) (st ++ [wrap32 v]) (e.drop (i + 1))):=fun v => by
     refine Tot.bind (Tot.of (show spec_l2Wrap.f v = some (wrap32 v) by unfold spec_l2Wrap.f;rw [w64_32]) rfl) ?_
     rintro _ rfl
     exact Tot.yes (by omega) (ih (i + 1) _ (by omega) (by omega) (by rw [List.length_append];simp;omega) (st_put hs (w32_in _)) (by rw [List.length_append];simpa using ho))
    refine Tot.yes i0 (Tot.yes i1 ?_)
    refine Tot.bind (sym_T hl x.f2) fun r hr => Tot.ite (fun cr => ?_) (fun cr => ?_)
    ·rcases hr with hr | hr
     ·rw [hr.2];exact Tot.ret rfl
     ·omega
    ·rcases hr with hr | hr
     ·omega
     ·rw [hr.2.2]
      refine Tot.yes hr.1 (Tot.yes hr.2.1 (Tot.ite (fun c4 => ?_) (fun c4 => ?_)))
      ·refine (nx _).mono fun a h => h.trans ?_
       show _ = ev (findS l) (st ++ [wrap32 (if x.f0 = 3 then (rd_T33 l r).f1 else (rd_T33 l r).f2)]) _
       rw [if_pos c4]
      ·refine (nx _).mono fun a h => h.trans ?_
       show _ = ev (findS l) (st ++ [wrap32 (if x.f0 = 3 then (rd_T33 l r).f1 else (rd_T33 l r).f2)]) _
       rw [if_neg c4]
   ·have c3:¬ x.f0 ≤ 3:=fun h => cb (hb.2 h)
    rw [if_neg c3]
    rw [if_neg c3] at ho
    have nx:∀ v:Int,1 ≤ (st.length:Int) → v = sgF x.f0 (rd st ((st.length:Int) - 1)) → x.f0 ≤ 7 → Tot (fun k => spec_l2Eval.l0 k e l (st.set ((st.length:Int) - 1).toNat v) ((i + 1:Nat):Int)) (· = ev (findS l) (st.set (st.length - 1) (sgF x.f0 (rd st ((st.length:Int) - 1)))) (e.drop (i + 1))):=by
     rintro _ hp rfl c7
     rw [if_pos c7] at ho
     rw [show ((st.length:Int) - 1).toNat = st.length - 1 by omega]
     refine ih (i + 1) _ (by omega) (by omega) (by rw [List.length_set];omega) (st_set hs (sgF_in (st_rd hs _)) _) ?_
     rw [List.length_set]
     exact ho.2
    have hr:=st_rd hs ((st.length:Int) - 1)
    have hp:1 ≤ (st.length:Int):=by
     by_cases c7:x.f0 ≤ 7
     ·rw [if_pos c7] at ho;exact ho.1
     ·rw [if_neg c7] at ho;have:=ho.1;omega
    rw [w64_in (n:=(st.length:Int) - 1) (by omega) (by omega),w64_in (n:=(st.length:Int) - 2) (by omega) (by omega)]
    refine Tot.ite (fun c4 => ?_) (fun c4 => Tot.ite (fun c5 => ?_) (fun c5 => Tot.ite (fun c6 => ?_) (fun c6 => Tot.ite (fun c7 => ?_) (fun c7 => ?_))))
    ·rw [if_pos (show x.f0 ≤ 7 by omega)]
     refine Tot.yes (by omega) (Tot.yes (by omega) (Tot.bind (Tot.of (show spec_l2Wrap.f _ = some (wrap32 (-(rd st ((st.length:Int) - 1)))) by unfold spec_l2Wrap.f;rw [w64_32,w64_id (by have:=hr.2;omega) (by have:=hr.1;omega)]) rfl) ?_))
     rintro _ rfl
     exact nx _ hp (by unfold sgF;rw [if_pos c4]) (by omega)
    ·rw [if_pos (show x.f0 ≤ 7 by omega)]
     refine Tot.yes (by omega) (Tot.yes (by omega) (nx _ hp ?_ (by omega)))
     unfold sgF;rw [if_neg c4,if_pos c5];exact (xor32 cm1 hr).1
    ·rw [if_pos (show x.f0 ≤ 7 by omega)]
     refine Tot.yes (by omega) (Tot.yes (by omega) (nx _ hp ?_ (by omega)))
     unfold sgF;rw [if_neg c4,if_neg c5,if_pos c6];exact (and32 (div256 hr) c255).1
    ·rw [if_pos (show x.f0 ≤ 7 by omega)]
     refine Tot.yes (by omega) (Tot.yes (by omega) (nx _ hp ?_ (by omega)))
     unfold sgF;rw [if_neg c4,if_neg c5,if_neg c6];exact (and32 hr c255).1
    ·have c8:¬ x.f0 ≤ 7:=by rcases hn with h | h | h <;> omega
     rw [if_neg c8]
     rw [if_neg c8] at ho
     have hp:=ho.1
     refine Tot.yes i0 (Tot.yes i1 (Tot.yes (by omega) (Tot.yes (by omega) (Tot.yes (by omega) (Tot.yes (by omega) (Tot.bind (Tot.of (twoS (st_rd hs _) (st_rd hs _)) rfl) ?_))))))
     rintro _ rfl
     refine Tot.ite (fun c8 => ?_) (fun c8 => ?_)
     ·rw [if_pos c8]
      refine Tot.yes (by omega) (Tot.bind (Tot.of rfl rfl) ?_)
      rintro _ rfl
      rw [show ((st.length:Int) - 2).toNat = st.length - 2 by omega]
      have hlt:(st.take (st.length - 2)).length = st.length - 2:=by rw [List.length_take];omega
      refine Tot.yes (by omega) (ih (i + 1) _ (by omega) (by omega) (by rw [List.length_append,hlt];simp;omega) (st_put (st_take hs _) (opF_in (st_rd hs _) (st_rd hs _))) ?_)
      rw [List.length_append,hlt,show ((st.length - 2 + [(opF x.f0 (rd st ((st.length:Int) - 2)) (rd st ((st.length:Int) - 1))).1].length:Nat):Int) = (st.length:Int) - 1 by simp;omega]
      exact ho.2
     ·rw [if_neg c8]
      exact Tot.ret rfl
  have hk:1 ≤ (rd_T45 e (i:Int)).f0:=by rcases ho.1 with h | h | h <;> omega
  refine Tot.ite (fun c => ?_) (fun c => ?_)
  ·rw [e1]
   generalize rd_T45 e (i:Int) = x at ho c ⊢
   obtain ⟨hn,ho⟩:=ho
   rw [ev,if_pos c]
   rw [if_pos (by omega)] at ho
   have hw:0 ≤ x.f1 ∧ x.f1 ≤ 65535:=by rcases hn with h | h | h <;> omega
   refine Tot.yes (by omega) (ih (i + 1) _ (by omega) (by omega) (by rw [List.length_append];simp;omega) (st_put hs (word_in hw)) ?_)
   rw [List.length_append]
   simpa using ho
  ·refine Tot.ite (fun c2 => j1 _ c ?_) (fun c2 => j1 _ c ?_)
   ·rw [beq_iff_eq];omega
   ·rw [beq_iff_eq];omega
end Go.Proofs.Ytpghjbikjmnnoaa.XEv2
