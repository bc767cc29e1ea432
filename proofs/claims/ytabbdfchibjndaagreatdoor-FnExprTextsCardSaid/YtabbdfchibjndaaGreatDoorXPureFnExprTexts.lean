import Derived.Test.YtabbdfchibjndaaGreatDoorXQFnExprTextsx
import Derived.Test.YtabbdfchibjndaaGreatDoorXXEx1
namespace Go.Proofs.YtabbdfchibjndaaGreatDoor.Pure
open Go.RowKit Go.Proofs.YtabbdfchibjndaaGreatDoor.QFnExprTexts Go.Proofs.YtabbdfchibjndaaGreatDoorW.PrintWords Go.Proofs.YtabbdfchibjndaaGreatDoorW.PrintLast Go.Proofs.YtabbdfchibjndaaGreatDoorW.PrintMore Go.Proofs.YtabbdfchibjndaaGreatDoor.Lib Go.Proofs.YtabbdfchibjndaaGreatDoor.LibX Go.Proofs.YtabbdfchibjndaaGreatDoor.LibE Go.Proofs.YtabbdfchibjndaaGreatDoor.LibCv
open Go.Proofs.YtabbdfchibjndaaGreatDoor.LibG (S43 rd_T43 z43)
open Go.Proofs.YtabbdfchibjndaaGreatDoor.LibCp (W18 W18_len)
open Go.Proofs.YtabbdfchibjndaaGreatDoor.XEx1 (Tot gd gd_app opw compiled_T)
set_option linter.unusedSimpArgs false
set_option linter.unusedVariables false
theorem toL (a:ByteArray):a.toList = a.data.toList:=ByteArray.toList_eq a
theorem datL (a:ByteArray):a.data.toList.length = a.size:=by rw [Array.length_toList];rfl
def mkB (l:List UInt8):ByteArray:=⟨l.toArray⟩
theorem mkB_data (a:ByteArray):mkB a.data.toList = a:=rfl
theorem ba_ext {a b:ByteArray} (h:a.data.toList = b.data.toList):a = b:=by
 have:=congrArg mkB h
 rwa [mkB_data,mkB_data] at this
theorem bt_data {s:ByteArray} {i:Nat} (h:i < s.size):∃ u:UInt8,s.data.toList[i]? = some u ∧ bt s (i:Int) = (u.toNat:Int):=by
 have hl:i < s.data.toList.length:=by rw [datL];exact h
 refine ⟨s.data.toList[i],List.getElem?_eq_getElem hl,?_⟩
 unfold bt
 rw [dif_pos (show ((i:Int)).toNat < s.size by omega)]
 congr 2
theorem u8_lit (u:UInt8) (n:Nat) (hn:n < 256):(u.toNat:Int) = (n:Int) ↔ u = UInt8.ofNat n:=by
 constructor
 ·intro h
  apply UInt8.toNat_inj.1
  rw [UInt8.toNat_ofNat']
  omega
 ·intro h
  rw [h,UInt8.toNat_ofNat']
  omega
theorem u32 (u:UInt8):(u.toNat:Int) = 32 ↔ u = 32:=u8_lit u 32 (by decide)
theorem u44 (u:UInt8):(u.toNat:Int) = 44 ↔ u = 44:=u8_lit u 44 (by decide)
theorem nil_size (a:ByteArray):a.toList = ([]:List UInt8) ↔ a.size = 0:=by
 rw [toL]
 constructor
 ·intro h
  have:=congrArg List.length h
  rwa [Array.length_toList] at this
 ·intro h
  exact List.eq_nil_of_length_eq_zero (by rw [Array.length_toList];exact h)
theorem size0 (a:ByteArray):a.toList = ([]:List UInt8) ↔ a.size = 0:=by
 rw [toL]
 constructor
 ·intro h;rw [← datL,h];rfl
 ·intro h;exact List.eq_nil_of_length_eq_zero (by rw [datL];exact h)
theorem withinI (a lo hi:Int):impl_within.f a lo hi = some (decide (lo ≤ a ∧ a ≤ hi)):=by
 unfold impl_within.f
 by_cases h:a ≥ lo
 ·rw [if_pos h];simp [show lo ≤ a from h]
 ·rw [if_neg h];simp [show ¬ lo ≤ a from h]
theorem digI (c:Int):impl_isDigit.f c = some (decide (48 ≤ c ∧ c ≤ 57)):=by
 unfold impl_isDigit.f
 by_cases h:c ≥ 48
 ·rw [if_pos h];simp [show 48 ≤ c from h]
 ·rw [if_neg h];simp [show ¬ 48 ≤ c from h]
theorem smI (c:Int):impl_isSmall.f c = some (decide (97 ≤ c ∧ c ≤ 122)):=by
 unfold impl_isSmall.f
 by_cases h:c ≥ 97
 ·rw [if_pos h];simp [show 97 ≤ c from h]
 ·rw [if_neg h];simp [show ¬ 97 ≤ c from h]
def ltC (c:Int):Prop:=(97 ≤ c ∧ c ≤ 122) ∨ c = 95 ∨ c = 46
def nmC (c:Int):Prop:=ltC c ∨ (48 ≤ c ∧ c ≤ 57)
instance (c:Int):Decidable (ltC c):=by unfold ltC;infer_instance
instance (c:Int):Decidable (nmC c):=by unfold nmC;infer_instance
theorem ltS (c:Int):spec_l1Letter.f c = some (decide (ltC c)):=by
 unfold spec_l1Letter.f ltC
 by_cases h:c ≥ 97
 ·rw [if_pos h]
  by_cases g:c ≤ 122
  ·rw [if_pos g];simp [g,show 97 ≤ c from h]
  ·rw [if_neg g,if_neg (show ¬ c = 95 by omega)]
   simp [show ¬ c = 46 by omega,show ¬ c = 95 by omega,g]
 ·rw [if_neg h]
  by_cases g:c = 95
  ·rw [if_pos g];simp [g]
  ·rw [if_neg g]
   by_cases e:c = 46
   ·simp [e]
   ·simp [e,g,show ¬ 97 ≤ c from h]
def NameG (s:ByteArray):Prop:=1 ≤ s.size ∧ s.size ≤ 16 ∧ ltC (bt s 0) ∧ ∀ i:Nat,i < s.size → nmC (bt s (i:Int))
theorem nameI_T (s:ByteArray) (h:s.size ≤ 1000000):Tot (fun k => impl_NameOk.f k s) (fun b => b = true ↔ NameG s):=by
 have go:1 ≤ s.size → s.size ≤ 16 → ∀ (d i:Nat),s.size - i = d → i ≤ s.size → (∀ j:Nat,j < i → nmC (bt s (j:Int))) → Tot (fun k => impl_NameOk.l0 k s (s.size:Int) (i:Int)) (fun b => b = true ↔ ∀ i:Nat,i < s.size → nmC (bt s (i:Int))):=by
  intro z1 z2 d
  induction d with
  | zero =>
   intro i h1 h2 hi
   exact Tot.step (fun k => impl_NameOk.l0.eq_2 _ _ _ k) (Tot.no (by omega) (Tot.ret ⟨fun _ j hj => hi j (by omega),fun _ => rfl⟩))
  | succ d ih =>
   intro i h1 h2 hi
   refine Tot.step (fun k => impl_NameOk.l0.eq_2 _ _ _ k) (Tot.yes (by omega) (Tot.yes (by omega) (Tot.yes (by omega) ?_)))
   have j2:∀ b:Bool,(b = true ↔ ¬ nmC (bt s (i:Int))) → Tot (fun k => impl_NameOk.j2 k s (s.size:Int) (i:Int) b) (fun b => b = true ↔ ∀ i:Nat,i < s.size → nmC (bt s (i:Int))):=by
    intro b hb
    refine Tot.step (fun k => impl_NameOk.j2.eq_2 _ _ _ _ k) (Tot.ite (fun e => Tot.ret ?_) (fun e => ?_))
    ·exact ⟨fun x => absurd x (by decide),fun x => absurd (x i (by omega)) (hb.1 e)⟩
    ·rw [w64_in (by omega) (by omega)]
     have ok:nmC (bt s (i:Int)):=Classical.byContradiction fun x => e (hb.2 x)
     exact ih (i + 1) (by omega) (by omega) (fun j hj => by
      by_cases c:j < i
      ·exact hi j c
      ·rw [show j = i by omega];exact ok)
   unfold nmC ltC at j2
   generalize bt s (i:Int) = c at j2 ⊢
   refine Tot.bind (Tot.of (smI c) rfl) ?_
   rintro _ rfl
   refine Tot.ite (fun e => j2 _ ?_) (fun e => ?_)
   ·have:=of_decide_eq_true e
    exact ⟨fun x => absurd x (by decide),fun x => absurd (.inl (.inl this)) x⟩
   ·have n1:¬ (97 ≤ c ∧ c ≤ 122):=fun x => e (decide_eq_true x)
    refine Tot.bind (Tot.of (digI c) rfl) ?_
    rintro _ rfl
    refine Tot.ite (fun e => j2 _ ?_) (fun e => Tot.ite (fun g => j2 _ ?_) (fun g => j2 _ ?_))
    ·have:=of_decide_eq_true e
     exact ⟨fun x => absurd x (by decide),fun x => absurd (.inr this) x⟩
    ·exact ⟨fun x => absurd x (by decide),fun x => absurd (.inl (.inr (.inl g))) x⟩
    ·have n2:¬ (48 ≤ c ∧ c ≤ 57):=fun x => e (decide_eq_true x)
     rw [bne_iff_ne]
     constructor
     ·rintro x ((y | y | y) | y)
      ·exact n1 y
      ·exact g y
      ·exact x y
      ·exact n2 y
     ·intro x y
      exact x (.inl (.inr (.inr y)))
 unfold impl_NameOk.f
 refine Tot.bind (Tot.of (withinI _ _ _) rfl) ?_
 rintro _ rfl
 have j0:∀ (b:Bool),(b = false → 1 ≤ s.size ∧ s.size ≤ 16) → (b = true → ¬ NameG s) → (b = false → (∀ i:Nat,i < s.size → nmC (bt s (i:Int))) → ltC (bt s 0)) → Tot (fun k => impl_NameOk.j0 k s b) (fun b => b = true ↔ NameG s):=by
  intro b h1 h2 h3
  refine Tot.step (fun k => impl_NameOk.j0.eq_2 _ _ k) (Tot.ite (fun e => Tot.ret ⟨fun x => absurd x (by decide),fun x => absurd x (h2 e)⟩) (fun e => ?_))
  have e':b = false:=by simpa using e
  obtain ⟨z1,z2⟩:=h1 e'
  refine (go z1 z2 _ 0 rfl (Nat.zero_le _) (fun j hj => absurd hj (Nat.not_lt_zero _))).mono fun r hr => ?_
  rw [hr]
  exact ⟨fun x => ⟨z1,z2,h3 e' x,x⟩,fun x => x.2.2.2⟩
 refine Tot.ite (fun e => ?_) (fun e => j0 _ (fun x => absurd x (by decide)) (fun _ x => e (decide_eq_true (by have:=x.1;have:=x.2.1;omega))) (fun x => absurd x (by decide)))
 have z:=of_decide_eq_true e
 refine Tot.yes (by omega) ?_
 refine Tot.bind (Tot.of (digI _) rfl) ?_
 rintro _ rfl
 refine j0 _ (fun _ => by omega) (fun x y => ?_) (fun x y => ?_)
 ·have d:=of_decide_eq_true x
  have l:=y.2.2.1
  unfold ltC at l
  omega
 ·have d:=of_decide_eq_false x
  have:=y 0 (by omega)
  unfold nmC at this
  rcases this with q | q
  ·exact q
  ·exact absurd q d
theorem nameS_T (s:ByteArray) (h:s.size ≤ 1000000):Tot (fun k => spec_NameOk.f k s) (fun b => b = true ↔ NameG s):=by
 have go:1 ≤ s.size → s.size ≤ 16 → ∀ (d i:Nat),s.size - i = d → i ≤ s.size → (∀ j:Nat,j < i → nmC (bt s (j:Int))) → Tot (fun k => spec_NameOk.l0 k s (i:Int)) (fun b => b = true ↔ ∀ i:Nat,i < s.size → nmC (bt s (i:Int))):=by
  intro z1 z2 d
  induction d with
  | zero =>
   intro i h1 h2 hi
   exact Tot.step (fun k => spec_NameOk.l0.eq_2 _ _ k) (Tot.no (by omega) (Tot.ret ⟨fun _ j hj => hi j (by omega),fun _ => rfl⟩))
  | succ d ih =>
   intro i h1 h2 hi
   refine Tot.step (fun k => spec_NameOk.l0.eq_2 _ _ k) (Tot.yes (by omega) (Tot.yes (by omega) ?_))
   have j2:∀ b:Bool,(b = true ↔ ¬ nmC (bt s (i:Int))) → Tot (fun k => spec_NameOk.j2 k s (i:Int) b) (fun b => b = true ↔ ∀ i:Nat,i < s.size → nmC (bt s (i:Int))):=by
    intro b hb
    refine Tot.step (fun k => spec_NameOk.j2.eq_2 _ _ _ k) (Tot.ite (fun e => Tot.ret ?_) (fun e => ?_))
    ·exact ⟨fun x => absurd x (by decide),fun x => absurd (x i (by omega)) (hb.1 e)⟩
    ·rw [w64_in (by omega) (by omega)]
     have ok:nmC (bt s (i:Int)):=Classical.byContradiction fun x => e (hb.2 x)
     exact ih (i + 1) (by omega) (by omega) (fun j hj => by
      by_cases c:j < i
      ·exact hi j c
      ·rw [show j = i by omega];exact ok)
   unfold nmC at j2
   generalize bt s (i:Int) = c at j2 ⊢
   refine Tot.bind (Tot.of (ltS c) rfl) ?_
   rintro _ rfl
   refine Tot.ite (fun e => j2 _ ?_) (fun e => Tot.ite (fun g => j2 _ ?_) (fun g => j2 _ ?_))
   ·have:=of_decide_eq_true e
    exact ⟨fun x => absurd x (by decide),fun x => absurd (.inl this) x⟩
   ·have n1:¬ ltC c:=fun x => e (decide_eq_true x)
    have g':48 ≤ c:=g
    by_cases l:c ≤ 57
    ·simp [l,g']
    ·simp [l,n1]
   ·have n1:¬ ltC c:=fun x => e (decide_eq_true x)
    have g':¬ 48 ≤ c:=g
    simp [g',n1]
 unfold spec_NameOk.f
 have j0:∀ (b:Bool),(b = false → 1 ≤ s.size ∧ s.size ≤ 16 ∧ ltC (bt s 0)) → (b = true → ¬ NameG s) → Tot (fun k => spec_NameOk.j0 k s b) (fun b => b = true ↔ NameG s):=by
  intro b h1 h2
  refine Tot.step (fun k => spec_NameOk.j0.eq_2 _ _ k) (Tot.ite (fun e => Tot.ret ⟨fun x => absurd x (by decide),fun x => absurd x (h2 e)⟩) (fun e => ?_))
  obtain ⟨z1,z2,z3⟩:=h1 (by simpa using e)
  refine (go z1 z2 _ 0 rfl (Nat.zero_le _) (fun j hj => absurd hj (Nat.not_lt_zero _))).mono fun r hr => ?_
  rw [hr]
  exact ⟨fun x => ⟨z1,z2,z3,x⟩,fun x => x.2.2.2⟩
 refine Tot.ite (fun e => j0 _ (fun x => absurd x (by decide)) (fun _ x => by have:=x.1;omega)) (fun e => Tot.ite (fun g => j0 _ (fun x => absurd x (by decide)) (fun _ x => by have:=x.2.1;omega)) (fun g => Tot.yes (by omega) ?_))
 refine Tot.bind (Tot.of (ltS _) rfl) ?_
 rintro _ rfl
 refine j0 _ (fun x => ⟨by omega,by omega,?_⟩) (fun x y => ?_)
 ·simpa using x
 ·have:=y.2.2.1
  simp [this] at x
theorem ex1 (s:ByteArray) (h:s.size ≤ 20):(s.extract 1 s.size).size ≤ 20:=by rw [ByteArray.size_extract];omega
theorem digT (c:Int):Tot (fun k => spec_l1Digit.f k c) (fun _ => True):=by
 have j:∀ b,Tot (fun k => spec_l1Digit.j0 k c b) (fun _ => True):=fun b =>
  Tot.step (fun k => spec_l1Digit.j0.eq_2 _ _ k) (Tot.ite (fun _ => Tot.ret trivial) (fun _ => Tot.ite (fun _ => Tot.ite (fun _ => Tot.ret trivial) (fun _ => Tot.ret trivial)) (fun _ => Tot.ret trivial)))
 unfold spec_l1Digit.f
 exact Tot.ite (fun _ => j _) (fun _ => j _)
theorem baseT (s:ByteArray) (B:Int) (hs:s.size ≤ 20):∀ r i:Nat,i + r = s.size → ∀ v:Int,Tot (fun k => spec_l1Base.l0 k s B v (i:Int)) (fun _ => True):=by
 intro r
 induction r with
 | zero =>
  intro i hi v
  exact Tot.step (fun k => spec_l1Base.l0.eq_2 _ _ _ _ k) (Tot.no (by omega) (Tot.ret trivial))
 | succ r ih =>
  intro i hi v
  refine Tot.step (fun k => spec_l1Base.l0.eq_2 _ _ _ _ k) (Tot.yes (by omega) (Tot.yes (by omega) ?_))
  refine Tot.bind (digT _) fun t _ => ?_
  refine Tot.ite (fun _ => Tot.ret trivial) (fun _ => Tot.ite (fun _ => Tot.ret trivial) (fun _ => ?_))
  rw [w64_in (n:=(i:Int) + 1) (by omega) (by omega)]
  exact ih (i + 1) (by omega) _
theorem baseF (s:ByteArray) (B:Int) (hs:s.size ≤ 20):Tot (fun k => spec_l1Base.f k s B) (fun _ => True):=baseT s B hs s.size 0 (by omega) 0
theorem rnS (s:ByteArray) (hs:s.size ≤ 20):Tot (fun k => spec_ReadNum.f k s) (fun _ => True):=by
 have j:∀ b:Bool,(b = false → 1 ≤ s.size) → Tot (fun k => spec_ReadNum.j0 k s b) (fun _ => True):=by
  intro b hb
  refine Tot.step (fun k => spec_ReadNum.j0.eq_2 _ _ k) (Tot.ite (fun _ => Tot.ret trivial) (fun h => ?_))
  have h1:=hb (by simpa using h)
  refine Tot.yes (by omega) (Tot.ite (fun _ => Tot.yes (by omega) (Tot.bind (baseF _ _ (ex1 s hs)) fun a _ => Tot.ret trivial)) (fun _ => ?_))
  refine Tot.ite (fun _ => Tot.yes (by omega) (Tot.bind (baseF _ _ (ex1 s hs)) fun a _ => Tot.ret trivial)) (fun _ => ?_)
  exact Tot.bind (baseF _ _ hs) fun a _ => Tot.ret trivial
 unfold spec_ReadNum.f
 refine Tot.ite (fun _ => j true (by simp)) (fun _ => j _ (fun h => ?_))
 rcases Nat.eq_zero_or_pos s.size with z | p
 ·have:=(nil_size s).2 z
  rw [this] at h;simp at h
 ·exact p
theorem rnA (s:ByteArray) (hs:s.size ≤ 1000000):Tot (fun k => spec_ReadNum.f k s) (fun _ => True):=by
 by_cases h:s.size ≤ 20
 ·exact rnS s h
 ·unfold spec_ReadNum.f
  exact Tot.yes (by omega) (Tot.step (fun k => spec_ReadNum.j0.eq_2 _ _ k) (Tot.yes rfl (Tot.ret trivial)))
theorem words_W18:spec_l2Words.f = some W18:=rfl
theorem ext_L (s:ByteArray) (i j:Nat):(s.extract i j).data.toList = (s.data.toList.drop i).take (j - i):=by
 rw [ByteArray.data_extract,Array.toList_extract,List.extract_eq_take_drop]
def wsp (b:UInt8):List UInt8 → List UInt8 × List (List UInt8)
 | [] => ([],[])
 | c :: t => if c = b then ([],(wsp b t).1 :: (wsp b t).2) else (c :: (wsp b t).1,(wsp b t).2)
theorem index1 (b:UInt8):∀ (s:List UInt8),(Lib.index s [b] = -1 ∧ wsp b s = (s,[])) ∨ ∃ i:Nat,Lib.index s [b] = i ∧ wsp b s = (s.take i,(wsp b (s.drop (i + 1))).1 :: (wsp b (s.drop (i + 1))).2)
 | [] => .inl ⟨rfl,rfl⟩
 | c :: t => by
  by_cases h:c = b
  ·subst h
   right
   refine ⟨0,by simp [Lib.index],?_⟩
   simp [wsp]
  ·have hp:List.isPrefixOf [b] (c :: t) = false:=by simp [List.isPrefixOf];exact fun e => h e.symm
   rcases index1 b t with ⟨e1,e2⟩ | ⟨i,e1,e2⟩
   ·left
    constructor
    ·rw [Lib.index,hp,e1];rfl
    ·rw [wsp,if_neg h,e2]
   ·right
    refine ⟨i + 1,?_,?_⟩
    ·rw [Lib.index,hp,e1]
     have:((i:Int) == -1) = false:=by rw [beq_eq_false_iff_ne];omega
     simp [this]
    ·rw [wsp,if_neg h,e2]
     rfl
theorem splitK1 (b:UInt8):∀ (n:Nat) (s:List UInt8),s.length ≤ n → Lib.splitK [b] 0 (Lib.count s [b]) s = (wsp b s).1 :: (wsp b s).2
 | n,s,hn => by
  rcases index1 b s with ⟨e1,e2⟩ | ⟨i,e1,e2⟩
  ·rw [Lib.count_miss e1,e2];rfl
  ·have hc:=Lib.count_hit (s:=s) (sub:=[b]) (by simp) e1
   have hr:=Lib.index_room s [b] (by omega)
   rw [e1] at hr
   have hl:i + 1 ≤ s.length:=by simp at hr;omega
   rw [hc,Nat.add_comm 1,Lib.splitK,if_neg (by rw [e1];simp),e1,e2]
   match n,hn with
   | 0,hn => omega
   | n + 1,hn =>
    have:=splitK1 b n (s.drop (i + 1)) (by rw [List.length_drop];omega)
    simp only [List.length_singleton,Int.toNat_natCast,Nat.add_zero]
    rw [this]
theorem inS (a lo hi:Int):spec_l1In.f a lo hi = some (decide (lo ≤ a ∧ a ≤ hi)):=by
 unfold spec_l1In.f
 by_cases h:a ≥ lo
 ·rw [if_pos h];simp [show lo ≤ a from h]
 ·rw [if_neg h];simp [show ¬ lo ≤ a from h]
def NodeG (a b:Int) (c:ByteArray):Prop:=(a = 1 ∧ (0 ≤ b ∧ b ≤ 65535) ∧ c.size = 0) ∨ ((a = 2 ∨ a = 3) ∧ b = 0 ∧ NameG c) ∨ ((4 ≤ a ∧ a ≤ 17) ∧ b = 0 ∧ c.size = 0)
theorem takesS (a:Int):spec_l2Takes.f a = some (if 1 ≤ a ∧ a ≤ 3 then 0 else if 4 ≤ a ∧ a ≤ 7 then 1 else if 8 ≤ a ∧ a ≤ 17 then 2 else -1):=by
 unfold spec_l2Takes.f
 rw [inS,inS,inS]
 simp only [Option.bind_some,decide_eq_true_eq]
 split
 ·rfl
 ·split
  ·rfl
  ·split <;> rfl
theorem nodeS_T (a b:Int) (c:ByteArray) (hc:c.size ≤ 1000000):Tot (fun k => spec_l2Node.f k a b c) (fun t => t = true ↔ NodeG a b c):=by
 have j0:∀ t:Bool,a ≠ 1 → (t = true ↔ a = 2 ∨ a = 3) → Tot (fun k => spec_l2Node.j0 k t a b c) (fun t => t = true ↔ NodeG a b c):=by
  intro t h1 ht
  refine Tot.step (fun k => spec_l2Node.j0.eq_2 _ _ _ _ k) (Tot.ite (fun e => ?_) (fun e => ?_))
  ·have h2:=ht.1 e
   refine Tot.ite (fun eb => ?_) (fun eb => Tot.ret (Iff.intro (fun x => by cases x) (fun x => ?_)))
   ·refine Tot.bind (nameS_T c hc) fun q hq => Tot.ret ?_
    rw [hq]
    refine Iff.intro (fun n => .inr (.inl ⟨h2,eb,n⟩)) (fun x => ?_)
    rcases x with x | x | x
    ·exact absurd x.1 h1
    ·exact x.2.2
    ·omega
   ·rcases x with x | x | x
    ·exact absurd x.1 h1
    ·exact absurd x.2.1 eb
    ·exact absurd x.2.1 eb
  ·have h2:¬ (a = 2 ∨ a = 3):=fun x => e (ht.2 x)
   have no:∀ y:Prop,(NodeG a b c → y) → (¬ y) → Tot (fun _ => some false) (fun t => t = true ↔ NodeG a b c):=fun y h n => Tot.ret (Iff.intro (fun x => by cases x) (fun x => absurd (h x) n))
   refine Tot.ite (fun eb => ?_) (fun eb => no (b = 0) (fun x => ?_) eb)
   ·refine Tot.ite (fun ec => ?_) (fun ec => no (c.size = 0) (fun x => ?_) (fun z => ec ((size0 c).2 z)))
    ·refine Tot.bind (Tot.of (takesS a) rfl) ?_
     rintro _ rfl
     refine Tot.ret ?_
     rw [decide_eq_true_eq]
     have hcs:=(size0 c).1 ec
     refine Iff.intro (fun x => ?_) (fun x => ?_)
     ·refine .inr (.inr ⟨?_,eb,hcs⟩)
      split at x
      ·omega
      ·split at x
       ·omega
       ·split at x
        ·omega
        ·omega
     ·rcases x with x | x | x
      ·exact absurd x.1 h1
      ·exact absurd x.1 h2
      ·rw [if_neg (by omega)]
       by_cases h7:4 ≤ a ∧ a ≤ 7
       ·rw [if_pos h7];decide
       ·rw [if_neg h7,if_pos (by omega)];decide
    ·rcases x with x | x | x
     ·exact absurd x.1 h1
     ·exact absurd x.1 h2
     ·exact x.2.2
   ·rcases x with x | x | x
    ·exact absurd x.1 h1
    ·exact x.2.1
    ·exact x.2.1
 unfold spec_l2Node.f
 refine Tot.ite (fun e => ?_) (fun e => Tot.ite (fun e2 => j0 _ e (by simp [e2])) (fun e2 => j0 _ e (by simp [e2])))
 refine Tot.bind (Tot.of (inS _ _ _) rfl) ?_
 rintro _ rfl
 refine Tot.ite (fun q => Tot.ret ?_) (fun q => Tot.ret (Iff.intro (fun x => by cases x) (fun x => ?_)))
 ·rw [beq_iff_eq,size0]
  refine Iff.intro (fun z => .inl ⟨e,of_decide_eq_true q,z⟩) (fun x => ?_)
  rcases x with x | x | x
  ·exact x.2.2
  ·omega
  ·exact x.2.2
 ·rcases x with x | x | x
  ·exact absurd (decide_eq_true x.2.1) q
  ·omega
  ·omega
def okFrom:Int → List S43 → Prop
 | h,[] => h = 1
 | h,x :: l => NodeG x.f0 x.f1 x.f2 ∧ (if x.f0 ≤ 3 then okFrom (h + 1) l else if x.f0 ≤ 7 then 1 ≤ h ∧ okFrom h l else 2 ≤ h ∧ okFrom (h - 1) l)
def OkE (e:List S43):Prop:=e.length ≤ 30 ∧ okFrom 0 e
def SeenE (e:List S43):Prop:=e.length ≤ 1000000 ∧ ∀ x ∈ e,x.f2.size ≤ 1000000
theorem rdE_at {l:List S43} {i:Nat} (h:i < l.length):rd_T43 l (i:Int) = l[i]:=by
 unfold rd_T43
 rw [Int.toNat_natCast,List.getD_eq_getElem?_getD,List.getElem?_eq_getElem h]
 rfl
theorem drop_at {l:List S43} {i:Nat} (h:i < l.length):l.drop i = rd_T43 l (i:Int) :: l.drop (i + 1):=by
 rw [rdE_at h];exact List.drop_eq_getElem_cons h
theorem SeenE.at {l:List S43} (h:SeenE l) {i:Nat} (hi:i < l.length):(rd_T43 l (i:Int)).f2.size ≤ 1000000:=by
 rw [rdE_at hi];exact h.2 _ (List.getElem_mem _)
theorem exS_T {e:List S43} (hs:SeenE e):Tot (fun k => spec_ExprOk.f k e) (fun t => t = true ↔ OkE e):=by
 have hlen:=hs.1
 have go:∀ (d i:Nat) (h:Int),e.length - i = d → i ≤ e.length → 0 ≤ h → h ≤ (i:Int) → Tot (fun k => spec_ExprOk.l0 k e h (i:Int)) (fun t => t = true ↔ e.length ≤ 30 ∧ okFrom h (e.drop i)):=by
  intro d
  induction d with
  | zero =>
   intro i h h1 h2 h3 h4
   refine Tot.step (fun k => spec_ExprOk.l0.eq_2 _ _ _ k) (Tot.no (by omega) ?_)
   rw [List.drop_eq_nil_of_le (by omega)]
   refine Tot.ite (fun c => Tot.ret ?_) (fun c => Tot.ret (Iff.intro (fun x => by cases x) (fun x => by omega)))
   rw [beq_iff_eq]
   exact ⟨fun x => ⟨by omega,x⟩,fun x => x.2⟩
  | succ d ih =>
   intro i h h1 h2 h3 h4
   have hil:i < e.length:=by omega
   refine Tot.step (fun k => spec_ExprOk.l0.eq_2 _ _ _ k) (Tot.yes (by omega) (Tot.yes (by omega) ?_))
   rw [drop_at hil]
   refine Tot.bind (nodeS_T _ _ _ (hs.at hil)) fun t ht => Tot.ite (fun c => ?_) (fun c => Tot.ret (Iff.intro (fun x => by cases x) (fun x => absurd (ht.2 x.2.1) c)))
   have hn:=ht.1 c
   have hr:1 ≤ (rd_T43 e (i:Int)).f0 ∧ (rd_T43 e (i:Int)).f0 ≤ 17:=by
    rcases hn with x | x | x <;> omega
   refine Tot.bind (Tot.of (takesS _) rfl) ?_
   rintro _ rfl
   have e1:wrap64 ((i:Int) + 1) = ((i + 1:Nat):Int):=by rw [w64_in (by omega) (by omega)];rfl
   generalize rd_T43 e (i:Int) = x at hn hr ⊢
   have key:∀ (t h':Int),(if 1 ≤ x.f0 ∧ x.f0 ≤ 3 then (0:Int) else if 4 ≤ x.f0 ∧ x.f0 ≤ 7 then 1 else if 8 ≤ x.f0 ∧ x.f0 ≤ 17 then 2 else -1) = t → h' = h - t + 1 → (0 ≤ t ∧ t ≤ 2) → (t ≤ h → (okFrom h (x :: e.drop (i + 1)) ↔ okFrom h' (e.drop (i + 1)))) → (h < t → ¬ okFrom h (x :: e.drop (i + 1))) →
     Tot (fun k => if (if 1 ≤ x.f0 ∧ x.f0 ≤ 3 then (0:Int) else if 4 ≤ x.f0 ∧ x.f0 ≤ 7 then 1 else if 8 ≤ x.f0 ∧ x.f0 ≤ 17 then 2 else -1) > h then some false else (spec_l2Takes.f x.f0).bind fun t235 => spec_ExprOk.l0 k e (wrap64 (wrap64 (h - t235) + 1)) (wrap64 ((i:Int) + 1))) (fun t => t = true ↔ e.length ≤ 30 ∧ okFrom h (x :: e.drop (i + 1))):=by
    intro t h' et eh tb h5 h6
    rw [et]
    refine Tot.ite (fun c => Tot.ret (Iff.intro (fun y => by cases y) (fun y => absurd y.2 (h6 c)))) (fun c => ?_)
    refine Tot.bind (Tot.of (takesS _) rfl) ?_
    rintro _ rfl
    rw [et,w64_in (n:=h - t) (by omega) (by omega),w64_in (n:=h - t + 1) (by omega) (by omega),e1,← eh,h5 (by omega)]
    exact ih (i + 1) h' (by omega) (by omega) (by omega) (by omega)
   by_cases c3:x.f0 ≤ 3
   ·refine key 0 (h + 1) (by rw [if_pos (by omega)]) (by omega) (by decide) (fun _ => ?_) (fun c => ?_)
    ·rw [okFrom,if_pos c3];exact ⟨fun y => y.2,fun y => ⟨hn,y⟩⟩
    ·omega
   ·by_cases c7:x.f0 ≤ 7
    ·refine key 1 h (by rw [if_neg (by omega),if_pos (by omega)]) (by omega) (by decide) (fun c => ?_) (fun c => ?_)
     ·rw [okFrom,if_neg c3,if_pos c7];exact ⟨fun y => y.2.2,fun y => ⟨hn,c,y⟩⟩
     ·rw [okFrom,if_neg c3,if_pos c7];exact fun y => by have:=y.2.1;omega
    ·refine key 2 (h - 1) (by rw [if_neg (by omega),if_neg (by omega),if_pos (by omega)]) (by omega) (by decide) (fun c => ?_) (fun c => ?_)
     ·rw [okFrom,if_neg c3,if_neg c7];exact ⟨fun y => y.2.2,fun y => ⟨hn,c,y⟩⟩
     ·rw [okFrom,if_neg c3,if_neg c7];exact fun y => by have:=y.2.1;omega
 unfold spec_ExprOk.f
 exact go _ 0 0 rfl (Nat.zero_le _) (by decide) (by decide)
theorem wordI (a:Int):impl_isWord.f a = some (decide (0 ≤ a ∧ a ≤ 65535)):=by unfold impl_isWord.f;rw [withinI];rfl
theorem nodeI_T (a b:Int) (c:ByteArray) (hc:c.size ≤ 1000000):Tot (fun k => impl_isNode.f k a b c) (fun t => t = true ↔ NodeG a b c):=by
 have j0:∀ t:Bool,a ≠ 1 → (t = true ↔ a = 2 ∨ a = 3) → Tot (fun k => impl_isNode.j0 k t a b c) (fun t => t = true ↔ NodeG a b c):=by
  intro t h1 ht
  refine Tot.step (fun k => impl_isNode.j0.eq_2 _ _ _ _ k) (Tot.ite (fun e => ?_) (fun e => ?_))
  ·have h2:=ht.1 e
   refine Tot.ite (fun eb => ?_) (fun eb => Tot.ret (Iff.intro (fun x => by cases x) (fun x => ?_)))
   ·refine Tot.bind (nameI_T c hc) fun q hq => Tot.ret ?_
    rw [hq]
    refine Iff.intro (fun n => .inr (.inl ⟨h2,eb,n⟩)) (fun x => ?_)
    rcases x with x | x | x
    ·exact absurd x.1 h1
    ·exact x.2.2
    ·omega
   ·rcases x with x | x | x
    ·exact absurd x.1 h1
    ·exact absurd x.2.1 eb
    ·exact absurd x.2.1 eb
  ·have h2:¬ (a = 2 ∨ a = 3):=fun x => e (ht.2 x)
   refine Tot.bind (Tot.of (withinI _ _ _) rfl) ?_
   rintro _ rfl
   have no:∀ y:Prop,(NodeG a b c → y) → (¬ y) → Tot (fun _ => some false) (fun t => t = true ↔ NodeG a b c):=fun y h n => Tot.ret (Iff.intro (fun x => by cases x) (fun x => absurd (h x) n))
   refine Tot.ite (fun ea => ?_) (fun ea => no (4 ≤ a ∧ a ≤ 17) (fun x => ?_) (fun z => ea (decide_eq_true z)))
   ·have ea:=of_decide_eq_true ea
    refine Tot.ite (fun eb => Tot.ret ?_) (fun eb => no (b = 0) (fun x => ?_) eb)
    ·rw [beq_iff_eq,size0]
     refine Iff.intro (fun z => .inr (.inr ⟨ea,eb,z⟩)) (fun x => ?_)
     rcases x with x | x | x
     ·exact absurd x.1 h1
     ·exact absurd x.1 h2
     ·exact x.2.2
    ·rcases x with x | x | x
     ·exact absurd x.1 h1
     ·exact x.2.1
     ·exact x.2.1
   ·rcases x with x | x | x
    ·exact absurd x.1 h1
    ·exact absurd x.1 h2
    ·exact x.1
 unfold impl_isNode.f
 refine Tot.ite (fun e => ?_) (fun e => Tot.ite (fun e2 => j0 _ e (by simp [e2])) (fun e2 => j0 _ e (by simp [e2])))
 refine Tot.bind (Tot.of (wordI _) rfl) ?_
 rintro _ rfl
 refine Tot.ite (fun q => Tot.ret ?_) (fun q => Tot.ret (Iff.intro (fun x => by cases x) (fun x => ?_)))
 ·rw [beq_iff_eq,size0]
  refine Iff.intro (fun z => .inl ⟨e,of_decide_eq_true q,z⟩) (fun x => ?_)
  rcases x with x | x | x
  ·exact x.2.2
  ·omega
  ·exact x.2.2
 ·rcases x with x | x | x
  ·exact absurd (decide_eq_true x.2.1) q
  ·omega
  ·omega
theorem exI_T {e:List S43} (hs:SeenE e):Tot (fun k => impl_ExprOk.f k e) (fun t => t = true ↔ OkE e):=by
 have hlen:=hs.1
 have go:∀ (d i:Nat) (h:Int),e.length - i = d → i ≤ e.length → 0 ≤ h → h ≤ (i:Int) → Tot (fun k => impl_ExprOk.l0 k h e (e.length:Int) (i:Int)) (fun t => t = true ↔ okFrom h (e.drop i)):=by
  intro d
  induction d with
  | zero =>
   intro i h h1 h2 h3 h4
   refine Tot.step (fun k => impl_ExprOk.l0.eq_2 _ _ _ _ k) (Tot.no (by omega) (Tot.ret ?_))
   rw [List.drop_eq_nil_of_le (by omega),beq_iff_eq]
   exact Iff.rfl
  | succ d ih =>
   intro i h h1 h2 h3 h4
   have hil:i < e.length:=by omega
   refine Tot.step (fun k => impl_ExprOk.l0.eq_2 _ _ _ _ k) (Tot.yes (by omega) (Tot.yes (by omega) (Tot.yes (by omega) ?_)))
   rw [drop_at hil]
   refine Tot.bind (nodeI_T _ _ _ (hs.at hil)) fun t ht => Tot.ite (fun c => ?_) (fun c => Tot.ret (Iff.intro (fun x => by cases x) (fun x => absurd (ht.2 x.1) c)))
   have hn:=ht.1 c
   have e1:wrap64 ((i:Int) + 1) = ((i + 1:Nat):Int):=by rw [w64_in (by omega) (by omega)];rfl
   rw [e1]
   generalize rd_T43 e (i:Int) = x at hn ⊢
   refine Tot.ite (fun c3 => ?_) (fun c3 => ?_)
   ·rw [w64_in (n:=h + 1) (by omega) (by omega),okFrom,if_pos c3]
    exact (ih (i + 1) (h + 1) (by omega) (by omega) (by omega) (by omega)).mono fun t q => q.trans ⟨fun y => ⟨hn,y⟩,fun y => y.2⟩
   ·refine Tot.ite (fun c7 => ?_) (fun c7 => ?_)
    ·rw [okFrom,if_neg c3,if_pos c7]
     refine Tot.ite (fun c => Tot.ret (Iff.intro (fun y => by cases y) (fun y => by have:=y.2.1;omega))) (fun c => ?_)
     exact (ih (i + 1) h (by omega) (by omega) (by omega) (by omega)).mono fun t q => q.trans ⟨fun y => ⟨hn,by omega,y⟩,fun y => y.2.2⟩
    ·rw [okFrom,if_neg c3,if_neg c7]
     refine Tot.ite (fun c => Tot.ret (Iff.intro (fun y => by cases y) (fun y => by have:=y.2.1;omega))) (fun c => ?_)
     rw [w64_in (n:=h - 1) (by omega) (by omega)]
     exact (ih (i + 1) (h - 1) (by omega) (by omega) (by omega) (by omega)).mono fun t q => q.trans ⟨fun y => ⟨hn,by omega,y⟩,fun y => y.2.2⟩
 unfold impl_ExprOk.f
 refine Tot.ite (fun c => Tot.ret (Iff.intro (fun y => by cases y) (fun y => by have:=y.1;omega))) (fun c => ?_)
 exact (go _ 0 0 rfl (Nat.zero_le _) (by decide) (by decide)).mono fun t q => q.trans ⟨fun y => ⟨by omega,y⟩,fun y => y.2⟩
def valD (acc:Nat):List UInt8 → Nat
 | [] => acc
 | c :: r => valD (acc * 10 + (c.toNat - 48)) r
theorem valD_app (l m:List UInt8):∀ acc,valD acc (l ++ m) = valD (valD acc l) m:=by
 induction l with
 | nil => intro acc;rfl
 | cons c l ih => intro acc;exact ih _
theorem valD_le (l:List UInt8):∀ acc,acc ≤ valD acc l:=by
 induction l with
 | nil => intro acc;exact Nat.le_refl _
 | cons c l ih => intro acc;exact Nat.le_trans (by omega) (ih _)
theorem dig_nat {d:Nat} (h:d < 10):(UInt8.ofNat (48 + d)).toNat = 48 + d:=by rw [UInt8.toNat_ofNat'];omega
theorem decs_byte:∀ (u:Nat),∀ c ∈ Lib.decDigits u,48 ≤ c.toNat ∧ c.toNat ≤ 57:=by
 intro u
 induction u using Nat.strongRecOn with
 | _ u ih =>
  intro c hc
  by_cases h:u < 10
  ·rw [Lib.decDigits_one h,List.mem_singleton] at hc
   subst hc
   rw [dig_nat h];omega
  ·rw [Lib.decDigits,dif_neg h] at hc
   rcases List.mem_append.1 hc with hc | hc
   ·exact ih _ (by omega) c hc
   ·rw [List.mem_singleton] at hc
    subst hc
    rw [dig_nat (by omega)];omega
theorem valD_decs (u:Nat):valD 0 (Lib.decDigits u) = u:=by
 induction u using Nat.strongRecOn with
 | _ u ih =>
  by_cases h:u < 10
  ·rw [Lib.decDigits_one h]
   show 0 * 10 + ((UInt8.ofNat (48 + u)).toNat - 48) = u
   rw [dig_nat h];omega
  ·rw [Lib.decDigits,dif_neg h,valD_app,ih _ (by omega)]
   show u / 10 * 10 + ((UInt8.ofNat (48 + u % 10)).toNat - 48) = u
   rw [dig_nat (by omega)];omega
theorem decs_ne (u:Nat):Lib.decDigits u ≠ []:=by
 intro h
 have:=Lib.decDigits_length u
 rw [h] at this
 have:=Lib.nDigits_pos u
 simp at *
 omega
theorem decs_len {u:Nat} (h:u ≤ 65535):(Lib.decDigits u).length ≤ 5:=by
 rw [Lib.decDigits_length]
 by_cases h1:u < 10
 ·rw [Lib.nDigits_small h1];omega
 ·rw [Lib.nDigits_big h1]
  by_cases h2:u / 10 < 10
  ·rw [Lib.nDigits_small h2];omega
  ·rw [Lib.nDigits_big h2]
   by_cases h3:u / 10 / 10 < 10
   ·rw [Lib.nDigits_small h3];omega
   ·rw [Lib.nDigits_big h3]
    by_cases h4:u / 10 / 10 / 10 < 10
    ·rw [Lib.nDigits_small h4];omega
    ·rw [Lib.nDigits_big h4,Lib.nDigits_small (by omega)];omega
def decB (n:Int):ByteArray:=⟨(Lib.itoa n).toArray⟩
theorem itoa_in {n:Int} (h:0 ≤ n):Lib.itoa n = Lib.decDigits n.toNat:=by unfold Lib.itoa;rw [if_neg (by omega)]
theorem wsp_one (b:UInt8):∀ {w:List UInt8},b ∉ w → wsp b w = (w,[])
 | [],_ => rfl
 | c :: w,h => by
  have h1:¬ c = b:=fun e => h (by rw [e];exact List.mem_cons_self)
  rw [wsp,if_neg h1,wsp_one b (w:=w) (fun e => h (List.mem_cons_of_mem _ e))]
theorem wsp_app (b:UInt8) (t:List UInt8):∀ {w:List UInt8},b ∉ w → wsp b (w ++ b :: t) = (w,(wsp b t).1 :: (wsp b t).2)
 | [],_ => by rw [List.nil_append,wsp,if_pos rfl]
 | c :: w,h => by
  have h1:¬ c = b:=fun e => h (by rw [e];exact List.mem_cons_self)
  rw [List.cons_append,wsp,if_neg h1,wsp_app b t (w:=w) (fun e => h (List.mem_cons_of_mem _ e))]
def jn (b:UInt8):List (List UInt8) → List UInt8
 | [] => []
 | [w] => w
 | w :: v :: l => w ++ b :: jn b (v :: l)
theorem join_jn (b:UInt8):∀ ws:List (List UInt8),Lib.join ws [b] = jn b ws
 | [] => rfl
 | [w] => Lib.join_one _ _
 | w :: v :: l => by
  rw [jn,← join_jn b (v :: l)]
  simp [Lib.join,List.intercalate]
theorem wsp_jn (b:UInt8):∀ (w:List UInt8) (l:List (List UInt8)),(∀ x ∈ w :: l,b ∉ x) → wsp b (jn b (w :: l)) = (w,l)
 | w,[],h => wsp_one b (h w List.mem_cons_self)
 | w,v :: l,h => by
  rw [jn,wsp_app b _ (h w List.mem_cons_self),wsp_jn b v l fun x hx => h x (List.mem_cons_of_mem _ hx)]
abbrev EX:=S43
def opL:List (List UInt8):=[[110,101,103],[110,111,116],[104,105,103,104],[108,111,119],[43],[45],[42],[47],[37],[38],[94],[124],[60,60],[62,62]]
def txtL (x:EX):List UInt8:=if x.f0 = 1 then Lib.itoa x.f1 else if x.f0 = 2 then x.f2.data.toList else if x.f0 = 3 then 35 :: x.f2.data.toList else opL.getD (x.f0 - 4).toNat []
def nop (x:EX):Prop:=x.f0 = 2 → x.f2.data.toList ∉ opw
theorem emp_of {a:ByteArray} (h:a.size = 0):a = (⟨#[]⟩:ByteArray):=by
 apply ba_ext
 have:a.data.toList.length = 0:=by rw [datL];exact h
 rw [List.eq_nil_of_length_eq_zero this]
theorem node_cases {x:EX} (h:NodeG x.f0 x.f1 x.f2):(∃ n:Int,(0 ≤ n ∧ n ≤ 65535) ∧ x = ⟨1,n,⟨#[]⟩⟩) ∨ (∃ a,NameG a ∧ x = ⟨2,0,a⟩) ∨ (∃ a,NameG a ∧ x = ⟨3,0,a⟩) ∨ ∃ j:Fin 14,x = ⟨(j.val:Int) + 4,0,⟨#[]⟩⟩:=by
 obtain ⟨a,b,c⟩:=x
 rcases h with ⟨h1,h2,h3⟩ | ⟨h1,h2,h3⟩ | ⟨h1,h2,h3⟩
 ·have h1:a = 1:=h1
  subst h1
  obtain rfl:c = (⟨#[]⟩:ByteArray):=emp_of h3
  exact .inl ⟨b,h2,rfl⟩
 ·have h2:b = 0:=h2
  subst h2
  rcases h1 with h1 | h1
  ·have h1:a = 2:=h1
   subst h1
   exact .inr (.inl ⟨c,h3,rfl⟩)
  ·have h1:a = 3:=h1
   subst h1
   exact .inr (.inr (.inl ⟨c,h3,rfl⟩))
 ·have h2:b = 0:=h2
  have h1:4 ≤ a ∧ a ≤ 17:=h1
  subst h2
  refine .inr (.inr (.inr ⟨⟨(a - 4).toNat,by omega⟩,?_⟩))
  obtain rfl:c = (⟨#[]⟩:ByteArray):=emp_of h3
  congr 1
  show a = (((a - 4).toNat:Nat):Int) + 4
  omega
theorem name_byte {a:ByteArray} (h:NameG a):∀ u ∈ a.data.toList,nmC (u.toNat:Int):=by
 intro u hu
 obtain ⟨i,hi,e⟩:=List.mem_iff_getElem.1 hu
 have hl:i < a.size:=by rw [datL] at hi;exact hi
 obtain ⟨v,h1,h2⟩:=bt_data hl
 rw [List.getElem?_eq_getElem hi,e] at h1
 have:=h.2.2.2 i hl
 rw [h2] at this
 obtain rfl:=Option.some.inj h1
 exact this
theorem name_head {a:ByteArray} (h:NameG a):∃ u r,a.data.toList = u :: r ∧ ltC (u.toNat:Int):=by
 obtain ⟨v,h1,h2⟩:=bt_data (s:=a) (i:=0) (by have:=h.1;omega)
 cases hl:a.data.toList with
 | nil => rw [hl] at h1;cases h1
 | cons u r =>
  rw [hl] at h1
  obtain rfl:=Option.some.inj h1
  refine ⟨u,r,rfl,?_⟩
  rw [← h2]
  exact h.2.2.1
theorem itoa_head {n:Int} (h0:0 ≤ n):∃ u r,Lib.itoa n = u :: r ∧ (48 ≤ u.toNat ∧ u.toNat ≤ 57):=by
 rw [itoa_in h0]
 cases hl:Lib.decDigits n.toNat with
 | nil => exact absurd hl (decs_ne _)
 | cons u r => exact ⟨u,r,rfl,decs_byte n.toNat u (by rw [hl];exact List.mem_cons_self)⟩
theorem opL_free:∀ j:Fin 14,(32:UInt8) ∉ opL.getD j.val [] ∧ opL.getD j.val [] ≠ [] ∧ (opL.getD j.val []).length ≤ 4:=by decide
theorem txt_op (j:Fin 14):txtL ⟨(j.val:Int) + 4,0,⟨#[]⟩⟩ = opL.getD j.val []:=by
 unfold txtL
 show (if (j.val:Int) + 4 = 1 then _ else if (j.val:Int) + 4 = 2 then _ else if (j.val:Int) + 4 = 3 then _ else _) = _
 rw [if_neg (by omega),if_neg (by omega),if_neg (by omega)]
 congr 1
 show ((j.val:Int) + 4 - 4).toNat = j.val
 omega
theorem txt_facts {x:EX} (h:NodeG x.f0 x.f1 x.f2):(32:UInt8) ∉ txtL x ∧ txtL x ≠ [] ∧ (txtL x).length ≤ 17:=by
 rcases node_cases h with ⟨n,hn,rfl⟩ | ⟨a,ha,rfl⟩ | ⟨a,ha,rfl⟩ | ⟨j,rfl⟩
 ·show (32:UInt8) ∉ Lib.itoa n ∧ Lib.itoa n ≠ [] ∧ (Lib.itoa n).length ≤ 17
  rw [itoa_in hn.1]
  refine ⟨fun hm => ?_,decs_ne _,Nat.le_trans (decs_len (by omega)) (by decide)⟩
  have:=(decs_byte _ _ hm).1
  exact absurd this (by decide)
 ·show (32:UInt8) ∉ a.data.toList ∧ a.data.toList ≠ [] ∧ a.data.toList.length ≤ 17
  refine ⟨fun hm => ?_,fun e => ?_,by rw [datL];have:=ha.2.1;omega⟩
  ·exact absurd (name_byte ha _ hm) (by decide)
  ·obtain ⟨u,r,h,_⟩:=name_head ha
   rw [e] at h;cases h
 ·show (32:UInt8) ∉ 35 :: a.data.toList ∧ 35 :: a.data.toList ≠ [] ∧ (35 :: a.data.toList).length ≤ 17
  refine ⟨fun hm => ?_,by simp,by rw [List.length_cons,datL];have:=ha.2.1;omega⟩
  rcases List.mem_cons.1 hm with hm | hm
  ·exact absurd hm (by decide)
  ·exact absurd (name_byte ha _ hm) (by decide)
 ·rw [txt_op j]
  obtain ⟨h1,h2,h3⟩:=opL_free j
  exact ⟨h1,h2,by omega⟩
theorem nop_word {u:UInt8} {r:List UInt8} (h:(48 ≤ u.toNat ∧ u.toNat ≤ 57) ∨ u = 35):(u :: r) ∉ opL:=by
 intro hm
 unfold opL at hm
 simp only [List.mem_cons,List.not_mem_nil,or_false,List.cons.injEq] at hm
 rcases hm with e | e | e | e | e | e | e | e | e | e | e | e | e | e <;> rw [e.1] at h <;> exact absurd h (by decide)
theorem nop_name {u:UInt8} {r:List UInt8} (h:ltC (u.toNat:Int)) (ho:(u :: r) ∉ opw):(u :: r) ∉ opL:=by
 intro hm
 apply ho
 unfold opL at hm
 simp only [List.mem_cons,List.not_mem_nil,or_false] at hm
 unfold opw
 simp only [List.mem_cons,List.not_mem_nil,or_false]
 rcases hm with e | e | e | e | e | e | e | e | e | e | e | e | e | e
 ·exact .inl e
 ·exact .inr (.inl e)
 ·exact .inr (.inr (.inl e))
 ·exact .inr (.inr (.inr e))
 all_goals
  rw [List.cons.injEq] at e
  rw [e.1] at h
  exact absurd h (by decide)
theorem txt_nop {x:EX} (h:NodeG x.f0 x.f1 x.f2) (hp:nop x) (h4:x.f0 ≤ 3):txtL x ∉ opL:=by
 rcases node_cases h with ⟨n,hn,rfl⟩ | ⟨a,ha,rfl⟩ | ⟨a,ha,rfl⟩ | ⟨j,rfl⟩
 ·show Lib.itoa n ∉ opL
  obtain ⟨u,r,e,hu⟩:=itoa_head hn.1
  rw [e]
  exact nop_word (.inl hu)
 ·show a.data.toList ∉ opL
  obtain ⟨u,r,e,hu⟩:=name_head ha
  have ho:a.data.toList ∉ opw:=hp rfl
  rw [e] at ho ⊢
  exact nop_name hu ho
 ·exact nop_word (.inr rfl)
 ·have h4:(j.val:Int) + 4 ≤ 3:=h4
  omega
theorem digS {c:Int} (h:48 ≤ c ∧ c ≤ 57):Tot (fun k => spec_l1Digit.f k c) (· = c - 48):=by
 unfold spec_l1Digit.f
 refine Tot.yes h.1 (Tot.step (fun k => spec_l1Digit.j0.eq_2 _ _ k) (Tot.yes (decide_eq_true h.2) (Tot.ret ?_)))
 show (c - 48) % 256 = c - 48
 omega
theorem digS_no {c:Int} (h:¬ (48 ≤ c ∧ c ≤ 57)) (h1:0 ≤ c ∧ c ≤ 255):Tot (fun k => spec_l1Digit.f k c) (fun d => 10 ≤ d):=by
 have j0:∀ b:Bool,b = false → Tot (fun k => spec_l1Digit.j0 k c b) (fun d => 10 ≤ d):=by
  intro b hb
  refine Tot.step (fun k => spec_l1Digit.j0.eq_2 _ _ k) (Tot.no (by rw [hb];decide) (Tot.ite (fun q => Tot.ite (fun q2 => Tot.ret ?_) (fun _ => Tot.ret (by decide))) (fun _ => Tot.ret (by decide))))
  show 10 ≤ (c - 65) % 256 + 10
  omega
 unfold spec_l1Digit.f
 exact Tot.ite (fun q => j0 _ (decide_eq_false (by omega))) (fun q => j0 _ rfl)
theorem bt_at {s:ByteArray} {i:Nat} (h:i < s.data.toList.length):bt s (i:Int) = ((s.data.toList[i]).toNat:Int):=by
 have hl:i < s.size:=by rw [datL] at h;exact h
 obtain ⟨v,h1,h2⟩:=bt_data hl
 rw [List.getElem?_eq_getElem h] at h1
 rw [h2,← Option.some.inj h1]
theorem baseS_T {s:ByteArray} {V:Nat} (hd:∀ c ∈ s.data.toList,48 ≤ c.toNat ∧ c.toNat ≤ 57) (hV:valD 0 s.data.toList = V) (hv:V ≤ 65535) (hne:s.data.toList ≠ []) (hz:s.size ≤ 20):Tot (fun k => spec_l1Base.f k s 10) (· = ((V:Int),true)):=by
 have go:∀ (d i:Nat) (v:Nat),s.size - i = d → i ≤ s.size → valD v (s.data.toList.drop i) = V → Tot (fun k => spec_l1Base.l0 k s 10 (v:Int) (i:Int)) (· = ((V:Int),true)):=by
  intro d
  induction d with
  | zero =>
   intro i v h1 h2 h3
   refine Tot.step (fun k => spec_l1Base.l0.eq_2 _ _ _ _ k) (Tot.no (by omega) (Tot.ret ?_))
   rw [List.drop_eq_nil_of_le (by rw [datL];omega)] at h3
   have h3:v = V:=h3
   rw [h3]
   congr 1
   rw [bne_iff_ne,toL]
   exact hne
  | succ d ih =>
   intro i v h1 h2 h3
   have hil:i < s.data.toList.length:=by rw [datL];omega
   have hc:=hd _ (List.getElem_mem hil)
   have hb:=bt_at hil
   rw [List.drop_eq_getElem_cons hil] at h3
   have hsz:i < s.size:=by omega
   have e2:Unit → wrap64 ((i:Int) + 1) = ((i + 1:Nat):Int):=fun _ => by rw [w64_in (by omega) (by omega)];rfl
   have ih:=fun v => ih (i + 1) v (by omega) (by omega)
   generalize s.data.toList[i] = u at hc hb h3
   have hle:=valD_le (s.data.toList.drop (i + 1)) (v * 10 + (u.toNat - 48))
   have h3:valD (v * 10 + (u.toNat - 48)) (s.data.toList.drop (i + 1)) = V:=h3
   have ih:=ih _ h3
   rw [h3] at hle
   clear h3
   obtain ⟨t,ht⟩:∃ t:Nat,u.toNat = 48 + t:=⟨u.toNat - 48,by omega⟩
   rw [ht] at hle ih hb hc
   rw [show 48 + t - 48 = t by omega] at hle ih
   have ht9:t < 10:=by omega
   have hvt:v * 10 + t ≤ 65535:=by omega
   clear hle hc hV hv
   refine Tot.step (fun k => spec_l1Base.l0.eq_2 _ _ _ _ k) (Tot.yes (by omega) (Tot.yes (by omega) ?_))
   rw [hb]
   refine Tot.bind (digS (by omega)) ?_
   rintro _ rfl
   have e0:Unit → wrap64 ((v:Int) * 10) = (v:Int) * 10:=fun _ => w64_in (by omega) (by omega)
   have e1:Unit → wrap64 ((v:Int) * 10 + (((48 + t:Nat):Int) - 48)) = ((v * 10 + t:Nat):Int):=fun _ => by rw [w64_in (by omega) (by omega)];omega
   rw [e0 (),e1 (),e2 ()]
   exact Tot.no (by omega) (Tot.no (by omega) ih)
 unfold spec_l1Base.f
 exact go _ 0 0 rfl (Nat.zero_le _) hV
theorem numS_T {s:ByteArray} {n:Int} (h0:0 ≤ n) (h1:n ≤ 65535) (hs:s.data.toList = Lib.itoa n):Tot (fun k => spec_ReadNum.f k s) (· = (n,true)):=by
 obtain ⟨u,r,e,hu⟩:=itoa_head h0
 have hz:s.size ≤ 5:=by rw [← datL,hs,itoa_in h0];exact decs_len (by omega)
 have hne:s.data.toList ≠ []:=by rw [hs,e];simp
 have hz1:1 ≤ s.size:=by
  rw [← datL,hs,e,List.length_cons];omega
 have hb:bt s 0 = (u.toNat:Int):=by
  have h:=bt_at (s:=s) (i:=0) (by rw [datL];omega)
  rw [show bt s 0 = bt s ((0:Nat):Int) from rfl,h]
  congr 2
  simp only [hs,e]
  rfl
 have hbase:=baseS_T (s:=s) (V:=n.toNat) (by rw [hs,itoa_in h0];exact decs_byte _) (by rw [hs,itoa_in h0,valD_decs]) (by omega) hne (by omega)
 rw [show ((n.toNat:Nat):Int) = n by omega] at hbase
 unfold spec_ReadNum.f
 refine Tot.no (by omega) (Tot.step (fun k => spec_ReadNum.j0.eq_2 _ _ k) (Tot.no (by rw [beq_iff_eq,toL];exact hne) (Tot.yes (by omega) ?_)))
 rw [hb]
 refine Tot.no (by omega) (Tot.no (by omega) (Tot.bind hbase ?_))
 rintro _ rfl
 exact Tot.ret rfl
theorem numS_no {s:ByteArray} {u:UInt8} {r:List UInt8} (hs:s.data.toList = u :: r) (hz:s.size ≤ 20) (hu:¬ (48 ≤ u.toNat ∧ u.toNat ≤ 57) ∧ u.toNat ≠ 36 ∧ u.toNat ≠ 37):Tot (fun k => spec_ReadNum.f k s) (fun r => r.2 = false):=by
 have hz1:1 ≤ s.size:=by rw [← datL,hs,List.length_cons];omega
 have hb:bt s 0 = (u.toNat:Int):=by
  have h:=bt_at (s:=s) (i:=0) (by rw [datL];omega)
  rw [show bt s 0 = bt s ((0:Nat):Int) from rfl,h]
  congr 2
  simp only [hs]
  rfl
 have hu8:=u.toNat_lt
 have hne:s.data.toList ≠ []:=by rw [hs];simp
 have hbase:Tot (fun k => spec_l1Base.f k s 10) (fun r => r.2 = false):=by
  unfold spec_l1Base.f
  refine Tot.step (fun k => spec_l1Base.l0.eq_2 _ _ _ _ k) (Tot.yes (by omega) (Tot.yes (by decide) ?_))
  rw [hb]
  exact Tot.bind (digS_no (by omega) (by omega)) fun d hd => Tot.yes hd (Tot.ret rfl)
 have j0:∀ b:Bool,Tot (fun k => spec_ReadNum.j0 k s b) (fun r => r.2 = false):=by
  intro b
  refine Tot.step (fun k => spec_ReadNum.j0.eq_2 _ _ k) (Tot.ite (fun _ => Tot.ret rfl) (fun _ => Tot.yes (by omega) ?_))
  rw [hb]
  exact Tot.no (by omega) (Tot.no (by omega) (Tot.bind hbase fun a ha => Tot.ret ha))
 unfold spec_ReadNum.f
 exact Tot.ite (fun _ => j0 _) (fun _ => j0 _)
theorem okE_ne {e:List EX} (h:OkE e):1 ≤ e.length:=by
 rcases e with _ | ⟨x,l⟩
 ·exact absurd (show (0:Int) = 1 from h.2) (by decide)
 ·simp
theorem W18_d:∀ j:Fin 14,(rdOf ByteArray.empty W18 ((j.val:Int) + 4)).data.toList = opL.getD j.val []:=by decide
theorem W18_op (j:Fin 14):(rdOf ByteArray.empty W18 ((j.val:Int) + 4)).toList = opL.getD j.val []:=by rw [toL];exact W18_d j
theorem opL_one:∀ i j:Fin 14,opL.getD i.val [] = opL.getD j.val [] → i = j:=by decide
theorem opL_get {w:List UInt8} (h:w ∈ opL):∃ j:Fin 14,w = opL.getD j.val []:=by
 obtain ⟨i,hi,e⟩:=List.mem_iff_getElem.1 h
 have hi':i < 14:=hi
 refine ⟨⟨i,hi'⟩,?_⟩
 rw [List.getD_eq_getElem?_getD,List.getElem?_eq_getElem hi,← e];rfl
theorem opL_mem (j:Fin 14):opL.getD j.val [] ∈ opL:=by revert j;decide
theorem opw_sub {w:List UInt8} (h:w ∈ opw):w ∈ opL:=by
 unfold opw at h
 unfold opL
 simp only [List.mem_cons,List.not_mem_nil,or_false] at h ⊢
 rcases h with e | e | e | e <;> simp [e]
theorem wordS_op {w:ByteArray} (j:Fin 14) (hw:w.data.toList = opL.getD j.val []):Tot (fun k => spec_l2Word.f k w) (· = ((j.val:Int) + 4,0,(⟨#[]⟩:ByteArray))):=by
 have go:∀ (d i:Nat),j.val - i = d → i ≤ j.val → Tot (fun k => spec_l2Word.l0 k w W18 ((i:Int) + 4)) (· = ((j.val:Int) + 4,0,(⟨#[]⟩:ByteArray))):=by
  intro d
  induction d with
  | zero =>
   intro i h1 h2
   obtain rfl:i = j.val:=by omega
   refine Tot.step (fun k => spec_l2Word.l0.eq_2 _ _ _ k) (Tot.yes (by omega) (Tot.yes (by omega) (Tot.yes (by rw [W18_len];omega) (Tot.yes ?_ (Tot.ret rfl)))))
   rw [W18_op j,toL,hw]
  | succ d ih =>
   intro i h1 h2
   have hne:¬ opL.getD i [] = w.data.toList:=by
    rw [hw]
    intro e
    have:=congrArg Fin.val (opL_one ⟨i,by omega⟩ j e)
    have:i = j.val:=this
    omega
   refine Tot.step (fun k => spec_l2Word.l0.eq_2 _ _ _ k) (Tot.yes (by omega) (Tot.yes (by omega) (Tot.yes (by rw [W18_len];omega) (Tot.no ?_ ?_))))
   ·have:=W18_op ⟨i,by omega⟩
    rw [show ((i:Int) + 4) = (((⟨i,by omega⟩:Fin 14).val:Int) + 4) from rfl,this,toL]
    exact hne
   ·have e:Unit → wrap64 ((i:Int) + 4 + 1) = ((i + 1:Nat):Int) + 4:=fun _ => by rw [w64_in (by omega) (by omega)];omega
    rw [e ()]
    exact ih (i + 1) (by omega) (by omega)
 unfold spec_l2Word.f
 refine Tot.bind (Tot.of words_W18 rfl) ?_
 rintro _ rfl
 exact go _ 0 rfl (Nat.zero_le _)
theorem wordS_no {w:ByteArray} (hw:w.data.toList ∉ opL) {P:Int × Int × ByteArray → Prop} (ht:Tot (fun k => (spec_ReadNum.f k w).bind fun bt337 => (if bt337.2 = true then (some (1,bt337.1,(⟨#[]⟩:ByteArray))) else (if w.toList = ([]:List UInt8) then (some (2,0,w)) else (if 0 < (w.size:Int) then (if (bt w 0) = 35 then (if 1 ≤ (w.size:Int) then (some (3,0,w.extract 1 w.size)) else (none)) else (some (2,0,w))) else (none))))) P):Tot (fun k => spec_l2Word.f k w) P:=by
 have go:∀ (d i:Nat),14 - i = d → i ≤ 14 → Tot (fun k => spec_l2Word.l0 k w W18 ((i:Int) + 4)) P:=by
  intro d
  induction d with
  | zero =>
   intro i h1 h2
   obtain rfl:i = 14:=by omega
   exact Tot.step (fun k => spec_l2Word.l0.eq_2 _ _ _ k) (Tot.no (by decide) ht)
  | succ d ih =>
   intro i h1 h2
   refine Tot.step (fun k => spec_l2Word.l0.eq_2 _ _ _ k) (Tot.yes (by omega) (Tot.yes (by omega) (Tot.yes (by rw [W18_len];omega) (Tot.no ?_ ?_))))
   ·have:=W18_op ⟨i,by omega⟩
    rw [show ((i:Int) + 4) = (((⟨i,by omega⟩:Fin 14).val:Int) + 4) from rfl,this,toL]
    exact fun e => hw (by rw [← e];exact opL_mem ⟨i,by omega⟩)
   ·have e:Unit → wrap64 ((i:Int) + 4 + 1) = ((i + 1:Nat):Int) + 4:=fun _ => by rw [w64_in (by omega) (by omega)];omega
    rw [e ()]
    exact ih (i + 1) (by omega) (by omega)
 unfold spec_l2Word.f
 refine Tot.bind (Tot.of words_W18 rfl) ?_
 rintro _ rfl
 exact go _ 0 rfl (Nat.zero_le _)
theorem Tot.both {α:Type} {g:Nat → Option α} {P Q:α → Prop} (h:Tot g P) (h2:Tot g Q):Tot g (fun x => P x ∧ Q x):=by
 obtain ⟨K,r,hr,hk⟩:=h
 obtain ⟨L,q,hq,hl⟩:=h2
 have e:=(hk (max K L) (by omega)).symm.trans (hl (max K L) (by omega))
 obtain rfl:=Option.some.inj e
 exact ⟨K,r,⟨hr,hq⟩,hk⟩
theorem wordS_any {w:ByteArray} (hw:w.size ≤ 1000000):Tot (fun k => spec_l2Word.f k w) (fun r => (r.1 = 2 → r.2.2.data.toList ∉ opw) ∧ r.2.2.size ≤ w.size):=by
 have z0:(⟨#[]⟩:ByteArray).size ≤ w.size:=Nat.zero_le _
 by_cases h:w.data.toList ∈ opL
 ·obtain ⟨j,e⟩:=opL_get h
  refine (wordS_op j e).mono ?_
  rintro _ rfl
  refine ⟨fun h2 => ?_,z0⟩
  have:(j.val:Int) + 4 = 2:=h2
  omega
 ·refine wordS_no h (Tot.bind (rnA w hw) fun r _ => Tot.ite (fun _ => Tot.ret ⟨fun e => absurd (show (1:Int) = 2 from e) (by decide),z0⟩) (fun _ => Tot.ite (fun _ => Tot.ret ⟨fun _ m => h (opw_sub m),Nat.le_refl _⟩) (fun c => ?_)))
  have hz:1 ≤ w.size:=by
   rcases Nat.eq_zero_or_pos w.size with z | z
   ·exact absurd ((nil_size w).2 z) c
   ·exact z
  exact Tot.yes (by omega) (Tot.ite (fun _ => Tot.yes (by omega) (Tot.ret ⟨fun e => absurd (show (3:Int) = 2 from e) (by decide),by show (w.extract 1 w.size).size ≤ _;rw [ByteArray.size_extract];omega⟩)) (fun _ => Tot.ret ⟨fun _ m => h (opw_sub m),Nat.le_refl _⟩))
theorem wordS_txt {x:EX} {w:ByteArray} (h:NodeG x.f0 x.f1 x.f2) (hp:nop x) (hw:w.data.toList = txtL x):Tot (fun k => spec_l2Word.f k w) (· = (x.f0,x.f1,x.f2)):=by
 have hf:=txt_facts h
 have hz:w.size ≤ 17:=by rw [← datL,hw];exact hf.2.2
 have hb:∀ {u:UInt8} {r:List UInt8},txtL x = u :: r → 1 ≤ w.size ∧ bt w 0 = (u.toNat:Int):=by
  intro u r e
  rw [e] at hw
  have hz1:1 ≤ w.size:=by rw [← datL,hw,List.length_cons];omega
  refine ⟨hz1,?_⟩
  have h:=bt_at (s:=w) (i:=0) (by rw [datL];omega)
  rw [show bt w 0 = bt w ((0:Nat):Int) from rfl,h]
  congr 2
  simp only [hw]
  rfl
 rcases node_cases h with ⟨n,hn,rfl⟩ | ⟨a,ha,rfl⟩ | ⟨a,ha,rfl⟩ | ⟨j,rfl⟩
 ·refine wordS_no (by rw [hw];exact txt_nop h hp (by show (1:Int) ≤ 3;decide)) (Tot.bind (numS_T hn.1 hn.2 hw) ?_)
  rintro _ rfl
  exact Tot.yes rfl (Tot.ret rfl)
 ·obtain ⟨u,r,e,hu⟩:=name_head ha
  obtain rfl:w = a:=ba_ext hw
  obtain ⟨h1,h2⟩:=hb e
  have hq:=hu
  unfold ltC at hq
  refine wordS_no (by rw [hw];exact txt_nop h hp (by show (2:Int) ≤ 3;decide)) (Tot.bind (numS_no e (by omega) ⟨by omega,by omega,by omega⟩) fun q hq2 => Tot.no (by rw [hq2];decide) (Tot.no (fun c => by have:=(nil_size w).1 c;omega) (Tot.yes (by omega) (Tot.no ?_ (Tot.ret rfl)))))
  rw [h2];omega
 ·have e:txtL ⟨3,0,a⟩ = 35 :: a.data.toList:=rfl
  obtain ⟨h1,h2⟩:=hb e
  rw [e] at hw
  refine wordS_no (by rw [hw];exact nop_word (.inr rfl)) (Tot.bind (numS_no hw (by omega) ⟨by decide,by decide,by decide⟩) fun q hq2 => Tot.no (by rw [hq2];decide) (Tot.no (fun c => by have:=(nil_size w).1 c;omega) (Tot.yes (by omega) (Tot.yes (by rw [h2];rfl) (Tot.yes (by omega) (Tot.ret ?_))))))
  have:w.extract 1 w.size = a:=by
   apply ba_ext
   rw [ext_L,hw,List.drop_succ_cons,List.drop_zero,List.take_of_length_le]
   have hl:=congrArg List.length hw
   rw [datL,List.length_cons] at hl
   omega
  rw [this]
 ·rw [txt_op j] at hw
  exact wordS_op j hw
theorem one_dig {d:Nat} (h:d < 10):(strOfNums [(wrap64 (48 + (d:Int))) % 256]).data.toList = [UInt8.ofNat (48 + d)]:=by
 rw [strOfNums_data,w64_in (by omega) (by omega)]
 show [UInt8.ofNat ((48 + (d:Int)) % 256).toNat] = _
 rw [show ((48 + (d:Int)) % 256).toNat = 48 + d by omega]
theorem decS_T {n:Int} (h0:0 ≤ n) (h1:n ≤ 65535):Tot (fun k => spec_l1Dec.f k n) (· = decB n):=by
 have go:∀ (m:Nat) (x:ByteArray),x.size + (Lib.decDigits m).length ≤ 20 → m ≤ 65535 → Lib.decDigits m ++ x.data.toList = Lib.itoa n → Tot (fun k => spec_l1Dec.l0 k (m:Int) x) (· = decB n):=by
  intro m
  induction m using Nat.strongRecOn with
  | _ m ih =>
   intro x hl hm he
   have em:Int.tmod (m:Int) 10 = ((m % 10:Nat):Int):=by rw [Int.tmod_eq_emod_of_nonneg (by omega)];rfl
   have ed:Int.tdiv (m:Int) 10 = ((m / 10:Nat):Int):=by rw [Int.tdiv_eq_ediv_of_nonneg (by omega)];rfl
   have ez:∀ v:Int,(strOfNums [v]).size = 1:=fun v => by rw [strOfNums_size];rfl
   refine Tot.step (fun k => spec_l1Dec.l0.eq_2 _ _ k) (Tot.ite (fun c => ?_) (fun c => ?_))
   ·have hs:¬ m < 10:=by omega
    rw [Lib.decDigits,dif_neg hs] at he hl
    rw [List.length_append,List.length_singleton] at hl
    refine Tot.bind (Tot.of rfl rfl) ?_
    rintro _ rfl
    refine Tot.yes (by rw [ez];omega) ?_
    rw [em,ed,w64_in (n:=((m / 10:Nat):Int)) (by omega) (by omega)]
    refine ih (m / 10) (by omega) _ (by rw [ByteArray.size_append,ez];omega) (by omega) ?_
    rw [ByteArray.data_append,Array.toList_append,one_dig (by omega),← he,List.append_assoc]
   ·have hs:m < 10:=by omega
    rw [Lib.decDigits_one hs] at he
    refine Tot.bind (Tot.of rfl rfl) ?_
    rintro _ rfl
    refine Tot.yes (by rw [ez];omega) (Tot.ret ?_)
    apply ba_ext
    rw [ByteArray.data_append,Array.toList_append,one_dig hs,he]
    rfl
 refine Tot.step (fun k => spec_l1Dec.f.eq_2 _ k) (Tot.no (by omega) ?_)
 have:=go n.toNat ⟨#[]⟩ (by have:=decs_len (u:=n.toNat) (by omega);show 0 + _ ≤ 20;omega) (by omega) (by rw [itoa_in h0];exact List.append_nil _)
 rwa [show ((n.toNat:Nat):Int) = n by omega] at this
theorem jn_snoc (b:UInt8) (w:List UInt8):∀ {l:List (List UInt8)},l ≠ [] → jn b (l ++ [w]) = jn b l ++ b :: w
 | [v],_ => rfl
 | v :: u :: l,_ => by
  have:=jn_snoc b w (l:=u :: l) (by simp)
  show v ++ b :: jn b ((u :: l) ++ [w]) = (v ++ b :: jn b (u :: l)) ++ b :: w
  rw [this];simp
theorem ok_node:∀ {e:List EX} {h:Int},okFrom h e → ∀ x ∈ e,NodeG x.f0 x.f1 x.f2
 | y :: l,h,ho,x,hx => by
  obtain ⟨hn,ho⟩:=ho
  rcases List.mem_cons.1 hx with rfl | hx
  ·exact hn
  ·split at ho
   ·exact ok_node ho x hx
   ·split at ho
    ·exact ok_node ho.2 x hx
    ·exact ok_node ho.2 x hx
def upTo (e:List EX) (i:Nat):List UInt8:=jn 32 ((e.take i).map txtL)
theorem upTo_next {e:List EX} {i:Nat} (h:i < e.length):upTo e (i + 1) = (if i = 0 then [] else upTo e i ++ [32]) ++ txtL e[i]:=by
 unfold upTo
 rw [List.take_succ_eq_append_getElem h,List.map_append,List.map_singleton]
 by_cases hi:i = 0
 ·subst hi
  rw [if_pos rfl];rfl
 ·rw [if_neg hi,jn_snoc]
  ·simp
  ·intro e1
   have:=congrArg List.length e1
   rw [List.length_map,List.length_take,List.length_nil] at this
   omega
def TextR (e:List EX) (t:ByteArray):Prop:=(OkE e ∧ t.data.toList = jn 32 (e.map txtL)) ∨ (¬ OkE e ∧ t = (⟨#[]⟩:ByteArray))
theorem textS_T {e:List EX} (hs:SeenE e):Tot (fun k => spec_ExprText.f k e) (TextR e):=by
 unfold spec_ExprText.f
 refine Tot.bind (exS_T hs) fun t ht => Tot.ite (fun c => ?_) (fun c => Tot.ret (.inr ⟨fun h => c (ht.2 h),rfl⟩))
 have ho:=ht.1 c
 have h30:=ho.1
 have go:∀ (d i:Nat) (x:ByteArray),e.length - i = d → i ≤ e.length → x.data.toList = upTo e i → x.size ≤ 20 * i → Tot (fun k => spec_ExprText.l0 k e x (i:Int)) (TextR e):=by
  intro d
  induction d with
  | zero =>
   intro i x h1 h2 h3 h4
   refine Tot.step (fun k => spec_ExprText.l0.eq_2 _ _ _ k) (Tot.no (by omega) (Tot.ret (.inl ⟨ho,?_⟩)))
   rw [h3,upTo,List.take_of_length_le (by omega)]
  | succ d ih =>
   intro i x h1 h2 h3 h4
   have hil:i < e.length:=by omega
   have e1:Unit → wrap64 ((i:Int) + 1) = ((i + 1:Nat):Int):=fun _ => by rw [w64_in (by omega) (by omega)];rfl
   have hn:=ok_node ho.2 _ (List.getElem_mem hil)
   have hf:=txt_facts hn
   have nx:=upTo_next hil
   have j1:∀ y:ByteArray,y.size ≤ 20 * i + 1 → y.data.toList = (if i = 0 then [] else upTo e i ++ [32]) → Tot (fun k => spec_ExprText.j1 k e y (i:Int)) (TextR e):=by
    intro y hy hd
    have fin:∀ z:ByteArray,z.data.toList = y.data.toList ++ txtL e[i] → Tot (fun k => spec_ExprText.l0 k e z (wrap64 ((i:Int) + 1))) (TextR e):=by
     intro z hz
     rw [e1 ()]
     refine ih (i + 1) z (by omega) (by omega) (by rw [hz,hd,nx]) ?_
     rw [← datL,hz,List.length_append,datL];omega
    refine Tot.step (fun k => spec_ExprText.j1.eq_2 _ _ _ k) (Tot.yes (by omega) (Tot.yes (by omega) ?_))
    rw [rdE_at hil]
    generalize e[i] = q at hn hf fin
    rcases node_cases hn with ⟨n,hr,rfl⟩ | ⟨a,ha,rfl⟩ | ⟨a,ha,rfl⟩ | ⟨j,rfl⟩
    ·refine Tot.yes rfl (Tot.bind (decS_T hr.1 hr.2) ?_)
     rintro _ rfl
     have hl:(decB n).size ≤ 17:=by rw [← datL];exact hf.2.2
     refine Tot.yes (by show y.size + (decB n).size ≤ _;omega) (fin _ ?_)
     rw [ByteArray.data_append,Array.toList_append];rfl
    ·have:=ha.2.1
     refine Tot.no (by show ¬ (2:Int) = 1;decide) (Tot.yes rfl (Tot.yes (by show y.size + a.size ≤ _;omega) (fin _ ?_)))
     rw [ByteArray.data_append,Array.toList_append];rfl
    ·have:=ha.2.1
     refine Tot.no (by show ¬ (3:Int) = 1;decide) (Tot.no (by show ¬ (3:Int) = 2;decide) (Tot.yes rfl (Tot.yes (by omega) (Tot.yes ?_ (fin _ ?_)))))
     ·rw [ByteArray.size_append]
      show y.size + 1 + a.size ≤ _
      omega
     ·rw [ByteArray.data_append,Array.toList_append,ByteArray.data_append,Array.toList_append,List.append_assoc];rfl
    ·have hop:=W18_op j
     rw [toL] at hop
     have hl:(rdOf ByteArray.empty W18 ((j.val:Int) + 4)).size ≤ 17:=by
      rw [← datL,hop]
      have:=(opL_free j).2.2
      omega
     refine Tot.no (by show ¬ (j.val:Int) + 4 = 1;omega) (Tot.no (by show ¬ (j.val:Int) + 4 = 2;omega) (Tot.no (by show ¬ (j.val:Int) + 4 = 3;omega) (Tot.bind (Tot.of words_W18 rfl) ?_)))
     rintro _ rfl
     refine Tot.yes (by show 0 ≤ (j.val:Int) + 4;omega) (Tot.yes (by show (j.val:Int) + 4 < (W18.length:Int);rw [W18_len];omega) (Tot.yes (by show y.size + (rdOf ByteArray.empty W18 ((j.val:Int) + 4)).size ≤ _;omega) (fin _ ?_)))
     rw [ByteArray.data_append,Array.toList_append,txt_op j]
     show _ ++ (rdOf ByteArray.empty W18 ((j.val:Int) + 4)).data.toList = _
     rw [hop]
   refine Tot.step (fun k => spec_ExprText.l0.eq_2 _ _ _ k) (Tot.yes (by omega) (Tot.ite (fun c => ?_) (fun c => ?_)))
   ·refine Tot.yes (by omega) (j1 _ (by rw [ByteArray.size_append];show x.size + 1 ≤ _;omega) ?_)
    rw [if_neg (by omega),ByteArray.data_append,Array.toList_append,h3]
   ·obtain rfl:i = 0:=by omega
    exact j1 _ (by omega) (by rw [if_pos rfl,h3];rfl)
 exact go _ 0 ⟨#[]⟩ rfl (Nat.zero_le _) rfl (Nat.zero_le _)
def Each (P:ByteArray → EX → Prop):List ByteArray → List EX → Prop
 | [],[] => True
 | w :: ws,x :: xs => P w x ∧ Each P ws xs
 | _,_ => False
theorem Each.len {P:ByteArray → EX → Prop}:∀ {ws:List ByteArray} {xs:List EX},Each P ws xs → ws.length = xs.length
 | [],[],_ => rfl
 | w :: ws,x :: xs,h => by rw [List.length_cons,List.length_cons,Each.len h.2]
 | [],x :: xs,h => h.elim
 | w :: ws,[],h => h.elim
theorem Each.snoc {P:ByteArray → EX → Prop} {w:ByteArray} {x:EX} (hp:P w x):∀ {ws:List ByteArray} {xs:List EX},Each P ws xs → Each P (ws ++ [w]) (xs ++ [x])
 | [],[],_ => ⟨hp,trivial⟩
 | v :: ws,y :: xs,h => ⟨h.1,Each.snoc hp h.2⟩
 | [],x :: xs,h => h.elim
 | w :: ws,[],h => h.elim
def wordsL (d:List UInt8):List ByteArray:=((wsp 32 d).1 :: (wsp 32 d).2).map mkB
def RS (w:ByteArray) (x:EX):Prop:=Tot (fun k => spec_l2Word.f k w) (· = (x.f0,x.f1,x.f2)) ∧ nop x ∧ x.f2.size ≤ 1000000
def GoodS (s:ByteArray) (ys:List EX):Prop:=Each RS (wordsL s.data.toList) ys ∧ OkE ys ∧ jn 32 (ys.map txtL) = s.data.toList
theorem ext_data (s:ByteArray) (i j:Nat):(s.extract i j).data.toList = (s.data.toList.drop i).take (j - i):=ext_L s i j
theorem cut_T (c:Nat) (hc:c < 256) {s:ByteArray} (h:s.size ≤ 1000000):Tot (fun k => spec_l1Cut.f k s (c:Int)) (fun r => (r = (s,(⟨#[]⟩:ByteArray),false) ∧ wsp (UInt8.ofNat c) s.data.toList = (s.data.toList,[])) ∨
  ∃ i:Nat,i < s.size ∧ r = (s.extract 0 i,s.extract (i + 1) s.size,true) ∧ wsp (UInt8.ofNat c) s.data.toList = (s.data.toList.take i,(wsp (UInt8.ofNat c) (s.data.toList.drop (i + 1))).1 :: (wsp (UInt8.ofNat c) (s.data.toList.drop (i + 1))).2)):=by
 have go:∀ (d i:Nat),s.size - i = d → i ≤ s.size → wsp (UInt8.ofNat c) s.data.toList = (s.data.toList.take i ++ (wsp (UInt8.ofNat c) (s.data.toList.drop i)).1,(wsp (UInt8.ofNat c) (s.data.toList.drop i)).2) →
   Tot (fun k => spec_l1Cut.l0 k s (c:Int) (i:Int)) (fun r => (r = (s,(⟨#[]⟩:ByteArray),false) ∧ wsp (UInt8.ofNat c) s.data.toList = (s.data.toList,[])) ∨
    ∃ i:Nat,i < s.size ∧ r = (s.extract 0 i,s.extract (i + 1) s.size,true) ∧ wsp (UInt8.ofNat c) s.data.toList = (s.data.toList.take i,(wsp (UInt8.ofNat c) (s.data.toList.drop (i + 1))).1 :: (wsp (UInt8.ofNat c) (s.data.toList.drop (i + 1))).2)):=by
  intro d
  induction d with
  | zero =>
   intro i h1 h2 hi
   refine Tot.step (fun k => spec_l1Cut.l0.eq_2 _ _ _ k) (Tot.no (by omega) (Tot.ret (.inl ⟨rfl,?_⟩)))
   rw [hi,List.drop_eq_nil_of_le (by rw [datL];omega),List.take_of_length_le (by rw [datL];omega)]
   simp [wsp]
  | succ d ih =>
   intro i h1 h2 hi
   obtain ⟨u,u1,u2⟩:=bt_data (s:=s) (i:=i) (by omega)
   have hl:i < s.data.toList.length:=by rw [datL];omega
   have ed:s.data.toList.drop i = u :: s.data.toList.drop (i + 1):=by
    rw [List.drop_eq_getElem_cons hl]
    congr 1
    rw [List.getElem?_eq_getElem hl] at u1
    exact Option.some.inj u1
   have et:s.data.toList.take (i + 1) = s.data.toList.take i ++ [u]:=by
    rw [List.take_add_one,u1];rfl
   refine Tot.step (fun k => spec_l1Cut.l0.eq_2 _ _ _ k) (Tot.yes (by omega) (Tot.yes (by omega) ?_))
   rw [u2,w64_in (n:=(i:Int) + 1) (by omega) (by omega)]
   refine Tot.ite (fun e => Tot.yes (by omega) (Tot.yes (by omega) (Tot.yes (by omega) (Tot.ret (.inr ⟨i,by omega,?_,?_⟩))))) (fun e => ?_)
   ·rw [Int.toNat_natCast,show ((i:Int) + 1).toNat = i + 1 by omega]
   ·rw [hi,ed,wsp,if_pos ((u8_lit u c hc).1 e),List.append_nil]
   ·refine ih (i + 1) (by omega) (by omega) ?_
    rw [hi,ed,wsp,if_neg (fun x => e ((u8_lit u c hc).2 x)),et]
    simp
 unfold spec_l1Cut.f
 exact go _ 0 rfl (Nat.zero_le _) (by simp)
theorem RS.one {w:ByteArray} {x y:EX} (h:RS w x) (g:RS w y):x = y:=by
 obtain ⟨K,r,hr,hk⟩:=h.1
 obtain ⟨L,q,hq,hl⟩:=g.1
 have e:=(hk (max K L) (by omega)).symm.trans (hl (max K L) (by omega))
 have e:=Option.some.inj e
 rw [hr,hq] at e
 obtain ⟨a,b,c⟩:=x
 obtain ⟨a',b',c'⟩:=y
 simp only [Prod.mk.injEq] at e
 obtain ⟨rfl,rfl,rfl⟩:=e
 rfl
theorem Each.one:∀ {ws:List ByteArray} {xs ys:List EX},Each RS ws xs → Each RS ws ys → xs = ys
 | [],[],[],_,_ => rfl
 | w :: ws,x :: xs,y :: ys,h,g => by rw [RS.one h.1 g.1,Each.one h.2 g.2]
 | [],[],y :: ys,_,g => g.elim
 | [],x :: xs,_,h,_ => h.elim
 | w :: ws,[],_,h,_ => h.elim
 | w :: ws,x :: xs,[],_,g => g.elim
theorem rs_T {w:ByteArray} (hw:w.size ≤ 1000000):Tot (fun k => spec_l2Word.f k w) (fun r => RS w ⟨r.1,r.2.1,r.2.2⟩):=by
 obtain ⟨K,r,hr,hk⟩:=wordS_any hw
 exact ⟨K,r,⟨⟨K,r,rfl,hk⟩,hr.1,Nat.le_trans hr.2 hw⟩,hk⟩
theorem Each.seen:∀ {ws:List ByteArray} {xs:List EX},Each RS ws xs → ∀ x ∈ xs,x.f2.size ≤ 1000000
 | [],[],_,x,hx => by cases hx
 | w :: ws,y :: xs,h,x,hx => by
  rcases List.mem_cons.1 hx with rfl | hx
  ·exact h.1.2.2
  ·exact Each.seen h.2 x hx
 | [],x :: xs,h,_,_ => h.elim
 | w :: ws,[],h,_,_ => h.elim
theorem jn_ne {b:UInt8}:∀ {l:List (List UInt8)},l ≠ [] → (∀ w ∈ l,w ≠ []) → jn b l ≠ []
 | [w],_,h => h w List.mem_cons_self
 | w :: v :: l,_,_ => by rw [jn];simp
theorem okE_ne' {e:List EX} (h:OkE e):jn 32 (e.map txtL) ≠ []:=by
 have h1:=okE_ne h
 refine jn_ne (fun e1 => ?_) (fun w hw => ?_)
 ·have:=congrArg List.length e1
  rw [List.length_map,List.length_nil] at this
  omega
 ·obtain ⟨x,hx,rfl⟩:=List.mem_map.1 hw
  exact (txt_facts (ok_node h.2 x hx)).2.1
theorem readS_T {s:ByteArray} (hs:s.size ≤ 100000):Tot (fun k => spec_ReadExpr.f k s) (fun r => r.2 = true ↔ ∃ ys,GoodS s ys):=by
 have tl:∀ (rest:ByteArray) (out:List EX) (done:List ByteArray),Each RS done out → out.length ≤ 31 → (wordsL s.data.toList = done ∨ (out.length = 31 ∧ ∃ l,wordsL s.data.toList = done ++ l)) → Tot (fun k => spec_ReadExpr.j1 k s out rest false) (fun r => r.2 = true ↔ ∃ ys,GoodS s ys):=by
  intro rest out done hE hl hd
  have hsee:SeenE out:=⟨by omega,hE.seen⟩
  refine Tot.step (fun k => spec_ReadExpr.j1.eq_2 _ _ _ _ k) (Tot.no (by decide) (Tot.ite (fun c => Tot.ret ⟨fun x => (by cases x),fun ⟨ys,h⟩ => ?_⟩) (fun c => ?_)))
  ·rw [toL] at c
   exact absurd (h.2.2.trans c) (okE_ne' h.2.1)
  ·rw [toL] at c
   refine Tot.bind (textS_T hsee) fun t ht => Tot.ite (fun q => Tot.ret ⟨fun _ => ?_,fun _ => rfl⟩) (fun q => Tot.ret ⟨fun x => (by cases x),fun ⟨ys,h⟩ => ?_⟩)
   ·rw [toL,toL] at q
    rcases ht with ⟨ho,ht⟩ | ⟨_,rfl⟩
    ·refine ⟨out,?_,ho,ht.symm.trans q⟩
     rcases hd with hd | hd
     ·rw [hd];exact hE
     ·have:=ho.1;omega
    ·exact absurd q.symm c
   ·rw [toL,toL] at q
    rcases hd with hd | ⟨h31,l,hd⟩
    ·obtain rfl:ys = out:=by
      have:=h.1
      rw [hd] at this
      exact this.one hE
     rcases ht with ⟨_,ht⟩ | ⟨ho,_⟩
     ·exact absurd (ht.trans h.2.2) q
     ·exact absurd h.2.1 ho
    ·have h1:=h.1.len
     rw [hd,List.length_append,hE.len] at h1
     have:=h.2.1.1
     omega
 have go:∀ (d:Nat) (out:List EX) (rest:ByteArray) (more:Bool) (done:List ByteArray),out.length + d = 31 → Each RS done out → rest.size ≤ 100000 → (more = true → wordsL s.data.toList = done ++ wordsL rest.data.toList) → (more = false → wordsL s.data.toList = done) → Tot (fun k => spec_ReadExpr.l0 k s out rest more) (fun r => r.2 = true ↔ ∃ ys,GoodS s ys):=by
  intro d
  induction d with
  | zero =>
   intro out rest more done h1 hE hr hm hm2
   refine Tot.step (fun k => spec_ReadExpr.l0.eq_2 _ _ _ _ k) (Tot.ite (fun c => ?_) (fun c => ?_))
   ·rw [show decide ((out.length:Int) ≤ 30) = false from decide_eq_false (by omega)]
    exact tl rest out done hE (by omega) (.inr ⟨by omega,_,hm c⟩)
   ·exact tl rest out done hE (by omega) (.inl (hm2 (by simpa using c)))
  | succ d ih =>
   intro out rest more done h1 hE hr hm hm2
   refine Tot.step (fun k => spec_ReadExpr.l0.eq_2 _ _ _ _ k) (Tot.ite (fun c => ?_) (fun c => ?_))
   ·rw [show decide ((out.length:Int) ≤ 30) = true from decide_eq_true (by omega)]
    have hw:=hm c
    refine Tot.step (fun k => spec_ReadExpr.j1.eq_2 _ _ _ _ k) (Tot.yes rfl (Tot.bind (cut_T 32 (by decide) (by omega)) ?_))
    rintro r (⟨rfl,e⟩ | ⟨i,hi,rfl,e⟩)
    ·refine Tot.bind (rs_T (w:=rest) (by omega)) fun x hx => Tot.yes (by omega) ?_
     refine ih _ _ false (done ++ [rest]) (by rw [List.length_append,List.length_singleton];omega) (hE.snoc hx) (by show (0:Nat) ≤ _;omega) (fun x => by cases x) (fun _ => ?_)
     rw [hw]
     unfold wordsL
     rw [show (32:UInt8) = UInt8.ofNat 32 from rfl,e]
     rfl
    ·have hz:(rest.extract 0 i).size ≤ 1000000:=by rw [ByteArray.size_extract];omega
     refine Tot.bind (rs_T (w:=rest.extract 0 i) hz) fun x hx => Tot.yes (by omega) ?_
     refine ih _ _ true (done ++ [rest.extract 0 i]) (by rw [List.length_append,List.length_singleton];omega) (hE.snoc hx) (by show (rest.extract (i + 1) rest.size).size ≤ _;rw [ByteArray.size_extract];omega) (fun _ => ?_) (fun x => by cases x)
     have e1:rest.extract 0 i = mkB (rest.data.toList.take i):=by
      apply ba_ext
      rw [ext_data,List.drop_zero,Nat.sub_zero];rfl
     have e2:(rest.extract (i + 1) rest.size).data.toList = rest.data.toList.drop (i + 1):=by
      rw [ext_data,List.take_of_length_le]
      rw [List.length_drop,datL]
      exact Nat.le_refl _
     show _ = (done ++ [rest.extract 0 i]) ++ wordsL (rest.extract (i + 1) rest.size).data.toList
     rw [hw,e1,e2]
     unfold wordsL
     rw [show (32:UInt8) = UInt8.ofNat 32 from rfl,e]
     simp
   ·exact tl rest out done hE (by omega) (.inl (hm2 (by simpa using c)))
 unfold spec_ReadExpr.f
 exact go 31 [] s true [] rfl trivial hs (fun _ => rfl) (fun x => by cases x)
theorem pu_ok (M:Nat):∀ (l:List UInt8) (acc:Nat),(∀ c ∈ l,48 ≤ c.toNat ∧ c.toNat ≤ 57) → valD acc l ≤ M → valD acc l ≤ 65535 → Lib.parseUintM M acc l = .ok (valD acc l)
 | [],acc,_,_,_ => rfl
 | c :: l,acc,h,h1,h2 => by
  have hc:=h c List.mem_cons_self
  have e:=valD_le l (acc * 10 + (c.toNat - 48))
  have h1':valD (acc * 10 + (c.toNat - 48)) l ≤ M:=h1
  have h2':valD (acc * 10 + (c.toNat - 48)) l ≤ 65535:=h2
  rw [Lib.parseUintM,if_pos hc,if_neg (by omega),if_neg (by omega)]
  exact pu_ok M l _ (fun x hx => h x (List.mem_cons_of_mem _ hx)) h1' h2'
theorem parse_dec {n:Int} (h0:0 ≤ n) (h1:n ≤ 65535):parseV (decB n) = (n,none):=by
 unfold parseV
 have hd:=decs_byte n.toNat
 have hv:=valD_decs n.toNat
 have hp:=pu_ok (2 ^ 64 - 1) (Lib.decDigits n.toNat) 0 hd (by rw [hv];omega) (by rw [hv];omega)
 rw [hv] at hp
 have hn:=decs_ne n.toNat
 have e:Lib.parseIntB 64 (decB n).data.toList = .ok n:=by
  rw [show (decB n).data.toList = Lib.decDigits n.toNat from itoa_in h0]
  cases hl:Lib.decDigits n.toNat with
  | nil => exact absurd hl hn
  | cons c r =>
   rw [hl] at hp
   have hc:=hd c (by rw [hl];exact List.mem_cons_self)
   unfold Lib.parseIntB
   simp only
   rw [if_neg (show ¬ (c.toNat = 43 ∨ c.toNat = 45) by omega)]
   have e2:Lib.parseUintB 64 (c :: r) = .ok n.toNat:=by
    unfold Lib.parseUintB
    rw [if_neg (by simp)]
    exact hp
   rw [e2]
   simp only
   rw [if_neg (by omega),if_neg (by omega),if_neg (by omega)]
   congr 1
   omega
 rw [e]
theorem parse_no {l:List UInt8} (h:∀ c r,l = c :: r → ¬ (48 ≤ c.toNat ∧ c.toNat ≤ 57) ∧ c.toNat ≠ 43 ∧ c.toNat ≠ 45):parseV (mkB l) = (0,some 0):=by
 have e:Lib.parseIntB 64 (mkB l).data.toList = .«syntax»:=by
  show Lib.parseIntB 64 l = .«syntax»
  cases l with
  | nil => rfl
  | cons c r =>
   obtain ⟨h1,h2,h3⟩:=h c r rfl
   unfold Lib.parseIntB
   simp only
   rw [if_neg (show ¬ (c.toNat = 43 ∨ c.toNat = 45) by omega)]
   have e2:Lib.parseUintB 64 (c :: r) = .«syntax»:=by
    unfold Lib.parseUintB
    rw [if_neg (by simp),Lib.parseUintM,if_neg h1]
   rw [e2]
 unfold parseV
 rw [e]
def OPB:List ByteArray:=opL.map mkB
theorem splitI_V {s:ByteArray} (h:s.size ≤ 1000000):strings_Split.f s (⟨#[32]⟩:ByteArray) = some (wordsL s.data.toList):=by
 unfold strings_Split.f
 rw [if_pos (by omega),if_pos (by decide)]
 congr 1
 have hk:=splitK1 32 s.data.toList.length s.data.toList (Nat.le_refl _)
 have e:=Lib.splitB_data (⟨#[32]⟩:ByteArray) 0 (Lib.countB s ⟨#[32]⟩) s
 rw [show (⟨#[32]⟩:ByteArray).data.toList = [32] from rfl,show Lib.countB s ⟨#[32]⟩ = Lib.count s.data.toList [32] from rfl,hk] at e
 unfold wordsL
 rw [← e,List.map_map]
 conv => lhs;rw [← List.map_id (Lib.splitB (⟨#[32]⟩:ByteArray) 0 (Lib.countB s ⟨#[32]⟩) s)]
 rfl
theorem opsI:impl_opWords.f = some OPB:=by
 unfold impl_opWords.f
 rw [splitI_V (by decide),Option.bind_some]
 rfl
theorem OPB_len:OPB.length = 14:=rfl
theorem OPB_d:∀ j:Fin 14,(rdOf ByteArray.empty OPB (j.val:Int)).data.toList = opL.getD j.val []:=by decide
theorem idxI_yes {w:ByteArray} (j:Fin 14) (hw:w.data.toList = opL.getD j.val []):Tot (fun k => slices_Index_string_string.f k OPB w) (· = (j.val:Int)):=by
 have go:∀ (d i:Nat),j.val - i = d → i ≤ j.val → Tot (fun k => slices_Index_string_string.l0 k OPB w (OPB.length:Int) (i:Int)) (· = (j.val:Int)):=by
  intro d
  induction d with
  | zero =>
   intro i h1 h2
   obtain rfl:i = j.val:=by omega
   refine Tot.step (fun k => slices_Index_string_string.l0.eq_2 _ _ _ _ k) (Tot.yes (by rw [OPB_len];omega) (Tot.yes (by omega) (Tot.yes (by rw [OPB_len];omega) (Tot.yes ?_ (Tot.ret rfl)))))
   rw [toL,toL,hw,OPB_d j]
  | succ d ih =>
   intro i h1 h2
   have e:Unit → wrap64 ((i:Int) + 1) = ((i + 1:Nat):Int):=fun _ => by rw [w64_in (by omega) (by omega)];rfl
   refine Tot.step (fun k => slices_Index_string_string.l0.eq_2 _ _ _ _ k) (Tot.yes (by rw [OPB_len];omega) (Tot.yes (by omega) (Tot.yes (by rw [OPB_len];omega) (Tot.no ?_ ?_))))
   ·rw [toL,toL,hw]
    have:=OPB_d ⟨i,by omega⟩
    intro q
    have:=congrArg Fin.val (opL_one j ⟨i,by omega⟩ (q.trans this))
    have:j.val = i:=this
    omega
   ·rw [e ()]
    exact ih (i + 1) (by omega) (by omega)
 unfold slices_Index_string_string.f
 exact go _ 0 rfl (Nat.zero_le _)
theorem idxI_no {w:ByteArray} (hw:w.data.toList ∉ opL):Tot (fun k => slices_Index_string_string.f k OPB w) (· = -1):=by
 have go:∀ (d i:Nat),14 - i = d → i ≤ 14 → Tot (fun k => slices_Index_string_string.l0 k OPB w (OPB.length:Int) (i:Int)) (· = -1):=by
  intro d
  induction d with
  | zero =>
   intro i h1 h2
   exact Tot.step (fun k => slices_Index_string_string.l0.eq_2 _ _ _ _ k) (Tot.no (by rw [OPB_len];omega) (Tot.ret rfl))
  | succ d ih =>
   intro i h1 h2
   have e:Unit → wrap64 ((i:Int) + 1) = ((i + 1:Nat):Int):=fun _ => by rw [w64_in (by omega) (by omega)];rfl
   refine Tot.step (fun k => slices_Index_string_string.l0.eq_2 _ _ _ _ k) (Tot.yes (by rw [OPB_len];omega) (Tot.yes (by omega) (Tot.yes (by rw [OPB_len];omega) (Tot.no ?_ ?_))))
   ·rw [toL,toL]
    intro q
    rw [OPB_d ⟨i,by omega⟩] at q
    exact hw (by rw [q];exact opL_mem ⟨i,by omega⟩)
   ·rw [e ()]
    exact ih (i + 1) (by omega) (by omega)
 unfold slices_Index_string_string.f
 exact go _ 0 rfl (Nat.zero_le _)
theorem cutI_yes {w:ByteArray} {r:List UInt8} (h:w.data.toList = 35 :: r):strings_CutPrefix.f w (⟨#[35]⟩:ByteArray) = some (mkB r,true):=by
 have hl:w.size = r.length + 1:=by rw [← datL,h,List.length_cons]
 have h1:(⟨#[35]⟩:ByteArray).size = 1:=rfl
 have e1:(w.extract 0 ((1:Int)).toNat).toList = ([35]:List UInt8):=by rw [toL,ext_L,h];rfl
 have e2:w.extract ((1:Int)).toNat w.size = mkB r:=by
  apply ba_ext
  rw [ext_L,h]
  show (List.drop 1 (35 :: r)).take (w.size - 1) = r
  rw [List.drop_succ_cons,List.drop_zero,List.take_of_length_le (by omega)]
 unfold strings_CutPrefix.f stringslite_CutPrefix.f stringslite_HasPrefix.f
 rw [h1,show ((1:Nat):Int) = 1 from rfl,if_pos (show (w.size:Int) ≥ 1 by omega),if_pos (by decide),if_pos (show (1:Int) ≤ (w.size:Int) by omega),e1,toL,Option.bind_some,if_pos (by decide),if_pos (by decide),if_pos (show (1:Int) ≤ (w.size:Int) by omega),e2]
 rfl
theorem cutI_no {w:ByteArray} (h:∀ r,w.data.toList ≠ 35 :: r):strings_CutPrefix.f w (⟨#[35]⟩:ByteArray) = some (w,false):=by
 have h1:(⟨#[35]⟩:ByteArray).size = 1:=rfl
 unfold strings_CutPrefix.f stringslite_CutPrefix.f stringslite_HasPrefix.f
 rw [h1,show ((1:Nat):Int) = 1 from rfl]
 by_cases c:(w.size:Int) ≥ 1
 ·rw [if_pos c,if_pos (by decide),if_pos (show (1:Int) ≤ (w.size:Int) by omega)]
  have e1:((w.extract 0 ((1:Int)).toNat).toList == (⟨#[35]⟩:ByteArray).toList) = false:=by
   rw [beq_eq_false_iff_ne,toL,toL,ext_L]
   intro q
   cases hl:w.data.toList with
   | nil => rw [hl] at q;cases q
   | cons u r =>
    rw [hl] at q
    have q:u :: [] = [35]:=q
    rw [List.cons.injEq] at q
    exact h r (by rw [hl,q.1])
  rw [e1,Option.bind_some,if_neg (by decide)]
  rfl
 ·rw [if_neg c,Option.bind_some,if_neg (by decide)]
  rfl
theorem parseI {w:ByteArray} (h:w.size ≤ 1000000):strconv_ParseInt.f w 10 64 = some (parseV w):=by unfold strconv_ParseInt.f;rw [if_pos rfl,if_pos rfl,if_pos (by omega)]
def RI (w:ByteArray) (x:EX):Prop:=(∃ r,w.data.toList = 35 :: r ∧ x = ⟨3,0,mkB r⟩) ∨ ((∀ r,w.data.toList ≠ 35 :: r) ∧ ((∃ j:Fin 14,w.data.toList = opL.getD j.val [] ∧ x = ⟨(j.val:Int) + 4,0,⟨#[]⟩⟩) ∨ (w.data.toList ∉ opL ∧ (((parseV w).2 = none ∧ x = ⟨1,(parseV w).1,⟨#[]⟩⟩) ∨ (¬ (parseV w).2 = none ∧ x = ⟨2,0,w⟩)))))
theorem RI.one {w:ByteArray} {x y:EX} (h:RI w x) (g:RI w y):x = y:=by
 rcases h with ⟨r,h1,rfl⟩ | ⟨h0,h⟩ <;> rcases g with ⟨q,g1,rfl⟩ | ⟨g0,g⟩
 ·rw [h1] at g1
  rw [(List.cons.inj g1).2]
 ·exact absurd h1 (g0 r)
 ·exact absurd g1 (h0 q)
 ·rcases h with ⟨j,h1,rfl⟩ | ⟨h1,h⟩ <;> rcases g with ⟨i,g1,rfl⟩ | ⟨g1,g⟩
  ·rw [opL_one j i (h1.symm.trans g1)]
  ·exact absurd (by rw [h1];exact opL_mem j) g1
  ·exact absurd (by rw [g1];exact opL_mem i) h1
  ·rcases h with ⟨h2,rfl⟩ | ⟨h2,rfl⟩ <;> rcases g with ⟨g2,rfl⟩ | ⟨g2,rfl⟩
   ·rfl
   ·exact absurd h2 g2
   ·exact absurd g2 h2
   ·rfl
theorem RI.nop {w:ByteArray} {x:EX} (h:RI w x):nop x:=by
 intro e
 rcases h with ⟨r,h1,rfl⟩ | ⟨h0,⟨j,h1,rfl⟩ | ⟨h1,⟨h2,rfl⟩ | ⟨h2,rfl⟩⟩⟩
 ·exact absurd (show (3:Int) = 2 from e) (by decide)
 ·have:(j.val:Int) + 4 = 2:=e
  omega
 ·exact absurd (show (1:Int) = 2 from e) (by decide)
 ·exact fun m => h1 (opw_sub m)
theorem mkB_size (l:List UInt8):(mkB l).size = l.length:=by rw [← datL];rfl
theorem RI.size {w:ByteArray} {x:EX} (h:RI w x):x.f2.size ≤ w.size:=by
 rcases h with ⟨r,h1,rfl⟩ | ⟨h0,⟨j,h1,rfl⟩ | ⟨h1,⟨h2,rfl⟩ | ⟨h2,rfl⟩⟩⟩
 ·show (mkB r).size ≤ _
  rw [mkB_size,← datL w,h1,List.length_cons];omega
 ·exact Nat.zero_le _
 ·exact Nat.zero_le _
 ·exact Nat.le_refl _
theorem RI_txt {x:EX} {w:ByteArray} (h:NodeG x.f0 x.f1 x.f2) (hp:nop x) (hw:w.data.toList = txtL x):RI w x:=by
 rcases node_cases h with ⟨n,hn,rfl⟩ | ⟨a,ha,rfl⟩ | ⟨a,ha,rfl⟩ | ⟨j,rfl⟩
 ·have hno:=txt_nop h hp (by show (1:Int) ≤ 3;decide)
  obtain ⟨u,r,e,hu⟩:=itoa_head hn.1
  obtain rfl:w = decB n:=ba_ext hw
  refine .inr ⟨fun q hq => ?_,.inr ⟨by rw [hw];exact hno,.inl ⟨by rw [parse_dec hn.1 hn.2],by rw [parse_dec hn.1 hn.2]⟩⟩⟩
  rw [hw] at hq
  have hq:=e.symm.trans hq
  rw [(List.cons.inj hq).1] at hu
  exact absurd hu (by decide)
 ·have hno:=txt_nop h hp (by show (2:Int) ≤ 3;decide)
  obtain ⟨u,r,e,hu⟩:=name_head ha
  obtain rfl:w = a:=ba_ext hw
  have hp2:parseV w = (0,some 0):=by
   have:=parse_no (l:=w.data.toList) (fun c q hc => by
    rw [e] at hc
    rw [← (List.cons.inj hc).1]
    unfold ltC at hu
    omega)
   exact this
  refine .inr ⟨fun q hq => ?_,.inr ⟨by rw [hw];exact hno,.inr ⟨by rw [hp2];exact fun x => (by cases x),rfl⟩⟩⟩
  have hq:=e.symm.trans hq
  rw [(List.cons.inj hq).1] at hu
  exact absurd hu (by decide)
 ·exact .inl ⟨a.data.toList,hw,rfl⟩
 ·rw [txt_op j] at hw
  refine .inr ⟨fun q hq => ?_,.inl ⟨j,hw,rfl⟩⟩
  rw [hw] at hq
  exact absurd hq (by
   have:∀ j:Fin 14,(opL.getD j.val []).head? ≠ some 35:=by decide
   intro e
   exact this j (by rw [e];rfl))
theorem EachI.one:∀ {ws:List ByteArray} {xs ys:List EX},Each RI ws xs → Each RI ws ys → xs = ys
 | [],[],[],_,_ => rfl
 | w :: ws,x :: xs,y :: ys,h,g => by rw [RI.one h.1 g.1,EachI.one h.2 g.2]
 | [],[],y :: ys,_,g => g.elim
 | [],x :: xs,_,h,_ => h.elim
 | w :: ws,[],_,h,_ => h.elim
 | w :: ws,x :: xs,[],_,g => g.elim
theorem EachI.nop:∀ {ws:List ByteArray} {xs:List EX},Each RI ws xs → ∀ x ∈ xs,nop x
 | [],[],_,x,hx => by cases hx
 | w :: ws,y :: xs,h,x,hx => by
  rcases List.mem_cons.1 hx with rfl | hx
  ·exact h.1.nop
  ·exact EachI.nop h.2 x hx
 | [],x :: xs,h,_,_ => h.elim
 | w :: ws,[],h,_,_ => h.elim
theorem EachS.nop:∀ {ws:List ByteArray} {xs:List EX},Each RS ws xs → ∀ x ∈ xs,nop x
 | [],[],_,x,hx => by cases hx
 | w :: ws,y :: xs,h,x,hx => by
  rcases List.mem_cons.1 hx with rfl | hx
  ·exact h.1.2.1
  ·exact EachS.nop h.2 x hx
 | [],x :: xs,h,_,_ => h.elim
 | w :: ws,[],h,_,_ => h.elim
def GoodI (s:ByteArray) (ys:List EX):Prop:=Each RI (wordsL s.data.toList) ys ∧ OkE ys ∧ jn 32 (ys.map txtL) = s.data.toList
theorem Each.of {P:ByteArray → EX → Prop}:∀ {xs:List EX},(∀ x ∈ xs,P (mkB (txtL x)) x) → Each P ((xs.map txtL).map mkB) xs
 | [],_ => trivial
 | x :: xs,h => ⟨h x List.mem_cons_self,Each.of fun y hy => h y (List.mem_cons_of_mem _ hy)⟩
theorem words_of {xs:List EX} {s:List UInt8} (ho:OkE xs) (hs:jn 32 (xs.map txtL) = s):wordsL s = (xs.map txtL).map mkB:=by
 have h1:=okE_ne ho
 cases xs with
 | nil => exact absurd h1 (by decide)
 | cons x l =>
  have hj:=wsp_jn 32 (txtL x) (l.map txtL) (fun w hw => by
   rcases List.mem_cons.1 hw with rfl | hw
   ·exact (txt_facts (ok_node ho.2 x List.mem_cons_self)).1
   ·obtain ⟨y,hy,rfl⟩:=List.mem_map.1 hw
    exact (txt_facts (ok_node ho.2 y (List.mem_cons_of_mem _ hy))).1)
  unfold wordsL
  rw [← hs,show (x :: l).map txtL = txtL x :: l.map txtL from rfl,hj]
theorem good_I {s:ByteArray} {xs:List EX} (ho:OkE xs) (hn:∀ x ∈ xs,nop x) (hs:jn 32 (xs.map txtL) = s.data.toList):GoodI s xs :=
 ⟨by rw [words_of ho hs];exact Each.of fun x hx => RI_txt (ok_node ho.2 x hx) (hn x hx) rfl,ho,hs⟩
theorem nodeG_size {x:EX} (h:NodeG x.f0 x.f1 x.f2):x.f2.size ≤ 16:=by
 rcases h with h | h | h
 ·have:=h.2.2;omega
 ·exact h.2.2.2.1
 ·have:=h.2.2;omega
theorem good_S {s:ByteArray} {xs:List EX} (ho:OkE xs) (hn:∀ x ∈ xs,nop x) (hs:jn 32 (xs.map txtL) = s.data.toList):GoodS s xs :=
 ⟨by rw [words_of ho hs];exact Each.of fun x hx => ⟨wordS_txt (ok_node ho.2 x hx) (hn x hx) rfl,hn x hx,Nat.le_trans (nodeG_size (ok_node ho.2 x hx)) (by decide)⟩,ho,hs⟩
theorem decI {n:Int} (h0:0 ≤ n) (h1:n ≤ 65535):impl_decimal.f n = some (decB n):=by
 unfold impl_decimal.f strconv_FormatInt.f
 rw [if_pos rfl,if_pos (by omega),if_pos (by omega)]
 rfl
theorem jn_len {b:UInt8} {m:Nat}:∀ {l:List (List UInt8)},(∀ w ∈ l,w.length ≤ m) → (jn b l).length ≤ (m + 1) * l.length
 | [],_ => Nat.zero_le _
 | [w],h => by
  have:=h w List.mem_cons_self
  show w.length ≤ (m + 1) * 1
  omega
 | w :: v :: l,h => by
  have h1:=h w List.mem_cons_self
  have h2:=jn_len (b:=b) (l:=v :: l) fun x hx => h x (List.mem_cons_of_mem _ hx)
  rw [jn,List.length_append,List.length_cons,List.length_cons,Nat.mul_succ]
  omega
theorem okE_len {e:List EX} (ho:OkE e):(jn 32 (e.map txtL)).length ≤ 18 * e.length:=by
 have:=jn_len (b:=32) (m:=17) (l:=e.map txtL) fun w hw => by
  obtain ⟨x,hx,rfl⟩:=List.mem_map.1 hw
  exact (txt_facts (ok_node ho.2 x hx)).2.2
 rwa [List.length_map] at this
theorem exprI_T {e:List EX} (ho:OkE e):Tot (fun k => impl_exprText.f k e) (fun t => t.data.toList = jn 32 (e.map txtL)):=by
 have h30:=ho.1
 have go:∀ (d i:Nat) (l:List ByteArray),e.length - i = d → i ≤ e.length → l.length = i → l.map (·.data.toList) = (e.take i).map txtL → Tot (fun k => impl_exprText.l0 k l e (e.length:Int) (i:Int)) (fun t => t.data.toList = jn 32 (e.map txtL)):=by
  intro d
  induction d with
  | zero =>
   intro i l h1 h2 hl h3
   rw [List.take_of_length_le (by omega)] at h3
   have hj:strings_Join.f l (⟨#[32]⟩:ByteArray) = some (mkB (jn 32 (e.map txtL))):=by
    unfold strings_Join.f
    rw [show (⟨#[32]⟩:ByteArray).data.toList = [32] from rfl,h3,join_jn]
    have:=okE_len ho
    rw [if_pos (by omega),if_pos (by omega)]
    rfl
   refine Tot.step (fun k => impl_exprText.l0.eq_2 _ _ _ _ k) (Tot.no (by omega) (Tot.bind (Tot.of hj rfl) ?_))
   rintro _ rfl
   exact Tot.ret rfl
  | succ d ih =>
   intro i l h1 h2 hl h3
   have hil:i < e.length:=by omega
   have e1:Unit → wrap64 ((i:Int) + 1) = ((i + 1:Nat):Int):=fun _ => by rw [w64_in (by omega) (by omega)];rfl
   have hn:=ok_node ho.2 _ (List.getElem_mem hil)
   have fin:∀ z:ByteArray,z.data.toList = txtL e[i] → Tot (fun k => impl_exprText.l0 k (l ++ [z]) e (e.length:Int) (wrap64 ((i:Int) + 1))) (fun t => t.data.toList = jn 32 (e.map txtL)):=by
    intro z hz
    rw [e1 ()]
    refine ih (i + 1) _ (by omega) (by omega) (by rw [List.length_append,List.length_singleton];omega) ?_
    rw [List.map_append,h3,List.take_succ_eq_append_getElem hil,List.map_append,List.map_singleton,List.map_singleton,hz]
   refine Tot.step (fun k => impl_exprText.l0.eq_2 _ _ _ _ k) (Tot.yes (by omega) (Tot.yes (by omega) (Tot.yes (by omega) ?_)))
   rw [rdE_at hil]
   generalize e[i] = q at hn fin
   rcases node_cases hn with ⟨n,hr,rfl⟩ | ⟨a,ha,rfl⟩ | ⟨a,ha,rfl⟩ | ⟨j,rfl⟩
   ·refine Tot.yes rfl (Tot.bind (Tot.of (decI hr.1 hr.2) rfl) ?_)
    rintro _ rfl
    exact Tot.yes (by omega) (fin _ rfl)
   ·exact Tot.no (by show ¬ (2:Int) = 1;decide) (Tot.yes rfl (Tot.yes (by omega) (fin _ rfl)))
   ·have:=ha.2.1
    refine Tot.no (by show ¬ (3:Int) = 1;decide) (Tot.no (by show ¬ (3:Int) = 2;decide) (Tot.yes rfl (Tot.yes (by show 1 + a.size ≤ _;omega) (Tot.yes (by omega) (fin _ ?_)))))
    rw [ByteArray.data_append,Array.toList_append];rfl
   ·have ew:wrap64 ((j.val:Int) + 4 - 4) = (j.val:Int):=by rw [w64_in (by omega) (by omega)];omega
    refine Tot.no (by show ¬ (j.val:Int) + 4 = 1;omega) (Tot.no (by show ¬ (j.val:Int) + 4 = 2;omega) (Tot.no (by show ¬ (j.val:Int) + 4 = 3;omega) (Tot.bind (Tot.of opsI rfl) ?_)))
    rintro _ rfl
    have hd:=OPB_d j
    refine Tot.yes ?_ (Tot.yes ?_ (Tot.yes (by omega) (fin _ ?_)))
    ·show 0 ≤ wrap64 ((j.val:Int) + 4 - 4)
     rw [ew];omega
    ·show wrap64 ((j.val:Int) + 4 - 4) < (OPB.length:Int)
     rw [ew,OPB_len];omega
    ·show (rdOf ByteArray.empty OPB (wrap64 ((j.val:Int) + 4 - 4))).data.toList = _
     rw [ew,hd,txt_op j]
 unfold impl_exprText.f
 exact go _ 0 [] rfl (Nat.zero_le _) rfl rfl
theorem textI_T {e:List EX} (hs:SeenE e):Tot (fun k => impl_ExprText.f k e) (TextR e):=by
 unfold impl_ExprText.f
 refine Tot.bind (exI_T hs) fun t ht => Tot.ite (fun c => ?_) (fun c => Tot.ret (.inr ⟨fun h => c (ht.2 h),rfl⟩))
 exact Tot.bind (exprI_T (ht.1 c)) fun a ha => Tot.ret (.inl ⟨ht.1 c,ha⟩)
theorem wsp_size (b:UInt8):∀ l:List UInt8,(wsp b l).2.length ≤ l.length ∧ (wsp b l).1.length ≤ l.length ∧ ∀ q ∈ (wsp b l).2,q.length ≤ l.length
 | [] => ⟨Nat.le_refl _,Nat.le_refl _,fun q h => by cases h⟩
 | c :: t => by
  obtain ⟨h1,h2,h3⟩:=wsp_size b t
  rw [wsp]
  split
  ·refine ⟨by simp only [List.length_cons];omega,Nat.zero_le _,fun q hq => ?_⟩
   simp only [List.length_cons]
   rcases List.mem_cons.1 hq with rfl | hq
   ·omega
   ·have:=h3 q hq;omega
  ·refine ⟨by simp only [List.length_cons];omega,by simp only [List.length_cons];omega,fun q hq => ?_⟩
   simp only [List.length_cons]
   have:=h3 q hq
   omega
theorem words_size {s:ByteArray}:∀ x ∈ wordsL s.data.toList,x.size ≤ s.size:=by
 obtain ⟨h1,h2,h3⟩:=wsp_size 32 s.data.toList
 rw [datL] at h1 h2
 intro x hx
 unfold wordsL at hx
 obtain ⟨q,hq,rfl⟩:=List.mem_map.1 hx
 rw [mkB_size]
 rcases List.mem_cons.1 hq with rfl | hq
 ·exact h2
 ·have:=h3 q hq;rw [datL] at this;exact this
theorem rdB_at {ys:List ByteArray} {i:Nat} (h:i < ys.length):rdOf ByteArray.empty ys (i:Int) = ys[i]:=by
 unfold rdOf
 rw [Int.toNat_natCast,List.getD_eq_getElem?_getD,List.getElem?_eq_getElem h]
 rfl
theorem EachI.size:∀ {ws:List ByteArray} {xs:List EX} {m:Nat},Each RI ws xs → (∀ w ∈ ws,w.size ≤ m) → ∀ x ∈ xs,x.f2.size ≤ m
 | [],[],_,_,_,x,hx => by cases hx
 | w :: ws,y :: xs,m,h,hm,x,hx => by
  rcases List.mem_cons.1 hx with rfl | hx
  ·exact Nat.le_trans h.1.size (hm w List.mem_cons_self)
  ·exact EachI.size h.2 (fun v hv => hm v (List.mem_cons_of_mem _ hv)) x hx
 | [],x :: xs,_,h,_,_,_ => h.elim
 | w :: ws,[],_,h,_,_,_ => h.elim
def ReadR (s:ByteArray) (r:List EX × Bool):Prop:=(r.2 = true ∧ GoodI s r.1) ∨ (r.2 = false ∧ ¬ ∃ xs,GoodI s xs)
theorem readI_T {s:ByteArray} (hs:s.size ≤ 100000):Tot (fun k => impl_ReadExpr.f k s) (ReadR s):=by
 unfold impl_ReadExpr.f
 refine Tot.bind (Tot.of (splitI_V (by omega)) rfl) ?_
 rintro _ rfl
 have hz:=words_size (s:=s)
 have hG:∀ xs,GoodI s xs → Each RI (wordsL s.data.toList) xs:=fun xs h => h.1
 have hW:∀ xs,Each RI (wordsL s.data.toList) xs → OkE xs → jn 32 (xs.map txtL) = s.data.toList → GoodI s xs:=fun xs h1 h2 h3 => ⟨h1,h2,h3⟩
 generalize wordsL s.data.toList = ws at hz hG hW
 refine Tot.ite (fun c => Tot.ret (.inr ⟨rfl,fun ⟨xs,h⟩ => ?_⟩)) (fun c => ?_)
 ·have h1:=(hG xs h).len
  have:=h.2.1.1
  omega
 have go:∀ (d i:Nat) (out:List EX),ws.length - i = d → i ≤ ws.length → Each RI (ws.take i) out → Tot (fun k => impl_ReadExpr.l0 k s out ws (ws.length:Int) (i:Int)) (ReadR s):=by
  intro d
  induction d with
  | zero =>
   intro i out h1 h2 hE
   rw [List.take_of_length_le (by omega)] at hE
   have hl:=hE.len
   have hsee:SeenE out:=⟨by omega,fun x hx => Nat.le_trans (EachI.size hE hz x hx) (by omega)⟩
   refine Tot.step (fun k => impl_ReadExpr.l0.eq_2 _ _ _ _ _ k) (Tot.no (by omega) (Tot.bind (exI_T hsee) fun t ht => Tot.ite (fun c => ?_) (fun c => Tot.ret (.inr ⟨rfl,fun ⟨xs,h⟩ => ?_⟩))))
   ·refine Tot.bind (exprI_T (ht.1 c)) fun a ha => Tot.ite (fun q => Tot.ret (.inl ⟨rfl,hW _ hE (ht.1 c) ?_⟩)) (fun q => Tot.ret (.inr ⟨rfl,fun ⟨xs,h⟩ => ?_⟩))
    ·rw [toL,toL] at q
     exact ha.symm.trans q
    ·obtain rfl:=EachI.one (hG xs h) hE
     rw [toL,toL] at q
     exact q (ha.trans h.2.2)
   ·obtain rfl:=EachI.one (hG xs h) hE
    exact c (ht.2 h.2.1)
  | succ d ih =>
   intro i out h1 h2 hE
   have hil:i < ws.length:=by omega
   have hl:out.length = i:=by have:=hE.len;rw [List.length_take] at this;omega
   have e1:Unit → wrap64 ((i:Int) + 1) = ((i + 1:Nat):Int):=fun _ => by rw [w64_in (by omega) (by omega)];rfl
   have hzi:=hz _ (List.getElem_mem hil)
   have fin:∀ x:EX,RI ws[i] x → Tot (fun k => if out.length < 4398046511104 then (impl_ReadExpr.l0 k s (out ++ [x]) ws (ws.length:Int) (wrap64 ((i:Int) + 1))) else none) (ReadR s):=by
    intro x hx
    refine Tot.yes (by omega) ?_
    rw [e1 ()]
    refine ih (i + 1) _ (by omega) (by omega) ?_
    rw [List.take_succ_eq_append_getElem hil]
    exact hE.snoc hx
   refine Tot.step (fun k => impl_ReadExpr.l0.eq_2 _ _ _ _ _ k) (Tot.yes (by omega) (Tot.yes (by omega) (Tot.yes (by omega) ?_)))
   rw [rdB_at hil]
   generalize ws[i] = w at hzi fin
   have ops:∀ {f:Nat → List ByteArray → Option (List EX × Bool)},Tot (fun k => f k OPB) (ReadR s) → Tot (fun k => (impl_opWords.f).bind (f k)) (ReadR s):=fun h => Tot.bind (Tot.of opsI rfl) fun _ e => by subst e;exact h
   by_cases h35:∃ r,w.data.toList = 35 :: r
   ·obtain ⟨r,hr⟩:=h35
    refine Tot.bind (Tot.of (cutI_yes hr) rfl) ?_
    rintro _ rfl
    refine Tot.bind (Tot.of (parseI (w:=w) (by omega)) rfl) ?_
    rintro _ rfl
    refine ops ?_
    have hix:Tot (fun k => slices_Index_string_string.f k OPB w) (fun _ => True):=(idxI_no (w:=w) (by rw [hr];exact nop_word (.inr rfl))).mono fun _ _ => trivial
    exact Tot.bind hix fun _ _ => Tot.yes rfl (fin _ (.inl ⟨r,hr,rfl⟩))
   ·have h35':∀ r,w.data.toList ≠ 35 :: r:=fun r e => h35 ⟨r,e⟩
    refine Tot.bind (Tot.of (cutI_no h35') rfl) ?_
    rintro _ rfl
    refine Tot.bind (Tot.of (parseI (w:=w) (by omega)) rfl) ?_
    rintro _ rfl
    refine ops ?_
    by_cases hop:w.data.toList ∈ opL
    ·obtain ⟨j,hj⟩:=opL_get hop
     refine Tot.bind (idxI_yes j hj) ?_
     rintro _ rfl
     have ew:wrap64 (4 + (j.val:Int)) = (j.val:Int) + 4:=by rw [w64_in (by omega) (by omega)];omega
     refine Tot.no Bool.false_ne_true (Tot.yes (by omega) ?_)
     rw [ew]
     exact fin _ (.inr ⟨h35',.inl ⟨j,hj,rfl⟩⟩)
    ·refine Tot.bind (idxI_no hop) ?_
     rintro _ rfl
     refine Tot.no Bool.false_ne_true (Tot.no (by decide) (Tot.ite (fun c => ?_) (fun c => ?_)))
     ·exact fin _ (.inr ⟨h35',.inr ⟨hop,.inl ⟨by simpa using c,rfl⟩⟩⟩)
     ·exact fin _ (.inr ⟨h35',.inr ⟨hop,.inr ⟨by simpa using c,rfl⟩⟩⟩)
 exact go _ 0 [] rfl (Nat.zero_le _) trivial
def RdOk (s:List Int) (p:Int):Prop:=0 ≤ p ∧ p ≤ s.length ∧ s.length ≤ 1048576 ∧ ∀ x ∈ s,0 ≤ x ∧ x ≤ 255
theorem rd_mem {s:List Int} {p:Int} (h0:0 ≤ p) (h1:p < (s.length:Int)):rd s p ∈ s:=by
 unfold rd
 rw [List.getD_eq_getElem?_getD,List.getElem?_eq_getElem (by omega)]
 exact List.getElem_mem _
theorem open_tot {l:List Int} (hl:l.length ≤ 1048576) (hb:∀ x ∈ l,0 ≤ x ∧ x ≤ 255):spec_l1Open.f l = some (l,0) ∧ RdOk l 0 :=
 ⟨rfl,by omega,by omega,hl,hb⟩
theorem next_tot {s:List Int} {p:Int} (h:RdOk s p):∃ v q,spec_l1Rd_next.f s p = some (v,q) ∧ 0 ≤ v ∧ v ≤ 255 ∧ RdOk s q:=by
 obtain ⟨h0,h1,h2,h3⟩:=h
 unfold spec_l1Rd_next.f
 by_cases c:p ≥ (s.length:Int)
 ·rw [if_pos c]
  exact ⟨0,p,rfl,by omega,by omega,h0,h1,h2,h3⟩
 ·have hm:=h3 _ (rd_mem h0 (show p < (s.length:Int) by omega))
  have e:p + 1 - 1 = p:=by omega
  rw [if_neg c,w64_in (n:=p + 1) (by omega) (by omega),w64_in (n:=p + 1 - 1) (by omega) (by omega),e,if_pos h0,if_pos (by omega),w64_in (n:=rd s p) (by omega) (by omega)]
  exact ⟨_,_,rfl,hm.1,hm.2,by omega,by omega,h2,h3⟩
theorem below_tot {s:List Int} {p:Int} (h:RdOk s p) (n:Int):∃ v q,spec_l1Rd_below.f s p n = some (v,q) ∧ 0 ≤ v ∧ (1 ≤ n → v < n) ∧ RdOk s q:=by
 unfold spec_l1Rd_below.f
 by_cases c:n ≤ 1
 ·rw [if_pos c]
  exact ⟨0,p,rfl,by omega,by omega,h⟩
 ·rw [if_neg c]
  obtain ⟨v,q,e1,v0,v1,h1⟩:=next_tot h
  by_cases c2:n ≤ 256
  ·rw [if_pos c2,e1]
   simp only [Option.bind_some]
   rw [if_neg (by omega),tmod_pos _ v0]
   exact ⟨_,_,rfl,Int.emod_nonneg _ (by omega),fun _ => Int.emod_lt_of_pos _ (by omega),h1⟩
  ·obtain ⟨u,r,e2,u0,u1,h2⟩:=next_tot h1
   rw [if_neg c2,e1]
   simp only [Option.bind_some]
   rw [e2]
   simp only [Option.bind_some]
   rw [if_neg (by omega),w64_in (n:=v * 256) (by omega) (by omega),w64_in (n:=v * 256 + u) (by omega) (by omega),tmod_pos _ (by omega)]
   exact ⟨_,_,rfl,Int.emod_nonneg _ (by omega),fun _ => Int.emod_lt_of_pos _ (by omega),h2⟩
theorem once_tot {s:List Int} {p:Int} (h:RdOk s p) (n:Int):∃ b q,spec_l1Rd_once.f s p n = some (b,q) ∧ RdOk s q:=by
 obtain ⟨v,q,e,_,_,hq⟩:=below_tot h n
 unfold spec_l1Rd_once.f
 rw [e]
 exact ⟨_,_,rfl,hq⟩
theorem word_tot_l {s:List Int}:∀ (k:Nat) (x i p:Int),RdOk s p → 0 ≤ i → i ≤ 8 → 8 - i < k → ∃ v q,spec_l1Rd_word.l0 k x i s p = some (v,q) ∧ RdOk s q:=by
 intro k
 induction k with
 | zero => intros;omega
 | succ k ih =>
  intro x i p h i0 i1 hk
  simp only [spec_l1Rd_word.l0]
  by_cases c:i < 8
  ·obtain ⟨v,q,e,_,_,hq⟩:=next_tot h
   rw [if_pos c,e]
   simp only [Option.bind_some]
   rw [w64_in (n:=i + 1) (by omega) (by omega)]
   exact ih _ _ _ hq (by omega) (by omega) (by omega)
  ·rw [if_neg c]
   exact ⟨_,_,rfl,h⟩
theorem word_tot {s:List Int} {p:Int} (h:RdOk s p) {k:Nat} (hk:9 ≤ k):∃ v q,spec_l1Rd_word.f k s p = some (v,q) ∧ RdOk s q :=
 word_tot_l k 0 0 p h (by omega) (by omega) (by omega)
theorem near_tot {s:List Int} {p:Int} (h:RdOk s p) {k:Nat} (hk:9 ≤ k) (lo hi:Int) (hlo:-4294967296 ≤ lo) (hhi:hi ≤ 4294967296):∃ v q,spec_l1Rd_near.f k s p lo hi = some (v,q) ∧ RdOk s q:=by
 unfold spec_l1Rd_near.f
 obtain ⟨v,q,e,_,_,hq⟩:=below_tot h 8
 rw [e]
 simp only [Option.bind_some]
 by_cases c0:v = 0
 ·rw [if_pos c0];exact ⟨_,_,rfl,hq⟩
 ·rw [if_neg c0]
  by_cases c1:v = 1
  ·rw [if_pos c1];exact ⟨_,_,rfl,hq⟩
  ·rw [if_neg c1]
   by_cases c2:hi < lo
   ·rw [if_pos c2];exact ⟨_,_,rfl,hq⟩
   ·rw [if_neg c2]
    obtain ⟨x,r,e2,hr⟩:=word_tot hq hk
    rw [e2]
    simp only [Option.bind_some]
    rw [w64_in (n:=hi - lo) (by omega) (by omega),w64_in (n:=hi - lo + 1) (by omega) (by omega),u64_in (n:=hi - lo + 1) (by omega) (by omega),if_neg (by omega)]
    exact ⟨_,_,rfl,hr⟩
theorem off_tot {s:List Int} {p:Int} (h:RdOk s p) {k:Nat} (hk:9 ≤ k) (lo hi:Int) (hlo:-4294967296 ≤ lo) (hhi:hi ≤ 4294967296):∃ v q,spec_l1Rd_off.f k s p lo hi = some (v,q) ∧ RdOk s q:=by
 unfold spec_l1Rd_off.f
 obtain ⟨b,q,e,hq⟩:=once_tot h 24
 rw [e]
 simp only [Option.bind_some]
 by_cases c:b = true
 ·rw [if_pos c]
  obtain ⟨v,r,e2,v0,v1,hr⟩:=below_tot hq 4
  rw [e2]
  simp only [Option.bind_some]
  have v4:=v1 (by omega)
  rw [if_pos v0,if_pos (by simp only [List.length_cons,List.length_nil];omega)]
  exact ⟨_,_,rfl,hr⟩
 ·rw [if_neg c]
  obtain ⟨v,r,e2,hr⟩:=near_tot hq hk lo hi hlo hhi
  rw [e2]
  exact ⟨_,_,rfl,hr⟩
theorem off_T {s:List Int} {p:Int} (h:RdOk s p) (lo hi:Int) (hlo:-4294967296 ≤ lo) (hhi:hi ≤ 4294967296):Tot (fun k => spec_l1Rd_off.f k s p lo hi) (fun r => RdOk s r.2):=by
 obtain ⟨v,q,e,h2⟩:=off_tot h (k:=9) (Nat.le_refl _) lo hi hlo hhi
 exact Tot.lift (fun k => spec_l1Rd_off.mono _ _ _ _ k) e h2
theorem bytes_wf {l:List Int} (h:∀ x ∈ l,(Lit.int .u8 x).wf = true):∀ x ∈ l,0 ≤ x ∧ x ≤ 255:=by
 intro x hx
 have h1:=h x hx
 have e0:IntKind.u8.min = 0:=rfl
 have e1:IntKind.u8.max = 255:=rfl
 simp only [Lit.wf,e0,e1,Bool.and_eq_true,decide_eq_true_eq] at h1
 exact h1
theorem below_T {s:List Int} {p:Int} (h:RdOk s p) (n:Int):Tot (fun _ => spec_l1Rd_below.f s p n) (fun r => 0 ≤ r.1 ∧ (1 ≤ n → r.1 < n) ∧ RdOk s r.2):=by
 obtain ⟨v,q,e,h0,h1,h2⟩:=below_tot h n
 exact Tot.of e ⟨h0,h1,h2⟩
theorem once_T {s:List Int} {p:Int} (h:RdOk s p) (n:Int):Tot (fun _ => spec_l1Rd_once.f s p n) (fun r => RdOk s r.2):=by
 obtain ⟨v,q,e,h0⟩:=once_tot h n
 exact Tot.of e h0
theorem hurt_tot {s:List Int} {p:Int} (h:RdOk s p) (a:ByteArray) (ha:a.size ≤ 4611686018427387904):∃ r q,spec_l1Rd_hurt.f s p a = some (r,q) ∧ r.size ≤ a.size + 1 ∧ RdOk s q:=by
 have one:∀ (ys:List ByteArray) (i:Int),(∀ y ∈ ys,y.size = 1) → (rdOf ByteArray.empty ys i).size ≤ 1:=by
  intro ys i hy
  unfold rdOf
  rw [List.getD_eq_getElem?_getD]
  by_cases c:i.toNat < ys.length
  ·rw [List.getElem?_eq_getElem c]
   exact Nat.le_of_eq (hy _ (List.getElem_mem _))
  ·rw [List.getElem?_eq_none (by omega)]
   exact Nat.zero_le _
 unfold spec_l1Rd_hurt.f
 obtain ⟨v,q,e,v0,v1,h1⟩:=below_tot h 6
 rw [e]
 simp only [Option.bind_some]
 by_cases c1:v = 1
 ·rw [if_pos c1,w64_in (n:=(a.size:Int) + 1) (by omega) (by omega)]
  obtain ⟨u,r,e2,u0,u1,h2⟩:=below_tot h1 ((a.size:Int) + 1)
  rw [e2]
  simp only [Option.bind_some]
  rw [if_pos u0,if_pos (by have:=u1 (by omega);omega)]
  exact ⟨_,_,rfl,by rw [ByteArray.size_extract];omega,h2⟩
 rw [if_neg c1]
 by_cases c2:v = 2
 ·rw [if_pos c2]
  by_cases c3:(a.size:Int) > 0
  ·rw [if_pos c3]
   obtain ⟨u,r,e2,u0,u1,h2⟩:=below_tot h1 (a.size:Int)
   have u2:=u1 (by omega)
   rw [e2]
   simp only [Option.bind_some]
   rw [if_pos u0,if_pos (by omega)]
   obtain ⟨x,t,e3,x0,x1,h3⟩:=below_tot h2 6
   rw [e3]
   simp only [Option.bind_some]
   have x2:=x1 (by omega)
   have o:=one ([(⟨#[48]⟩:ByteArray),(⟨#[97]⟩:ByteArray),(⟨#[32]⟩:ByteArray),(⟨#[44]⟩:ByteArray),(⟨#[36]⟩:ByteArray),(⟨#[43]⟩:ByteArray)]:List ByteArray) x (by intro y hy;simp only [List.mem_cons,List.not_mem_nil,or_false] at hy;rcases hy with rfl | rfl | rfl | rfl | rfl | rfl <;> rfl)
   generalize rdOf ByteArray.empty ([(⟨#[48]⟩:ByteArray),(⟨#[97]⟩:ByteArray),(⟨#[32]⟩:ByteArray),(⟨#[44]⟩:ByteArray),(⟨#[36]⟩:ByteArray),(⟨#[43]⟩:ByteArray)]:List ByteArray) x = z at o ⊢
   rw [if_pos x0,if_pos (by simpa using x2),if_pos (by rw [ByteArray.size_extract];omega),w64_in (n:=u + 1) (by omega) (by omega),if_pos (by omega),if_pos (by omega),if_pos (by rw [ByteArray.size_append,ByteArray.size_extract,ByteArray.size_extract];omega)]
   exact ⟨_,_,rfl,by rw [ByteArray.size_append,ByteArray.size_append,ByteArray.size_extract,ByteArray.size_extract];omega,h3⟩
  ·rw [if_neg c3]
   exact ⟨_,_,rfl,by omega,h1⟩
 rw [if_neg c2]
 by_cases c3:v = 3
 ·rw [if_pos c3]
  obtain ⟨x,t,e3,x0,x1,h3⟩:=below_tot h1 3
  have x2:=x1 (by omega)
  rw [e3]
  simp only [Option.bind_some]
  have o:=one ([(⟨#[32]⟩:ByteArray),(⟨#[48]⟩:ByteArray),(⟨#[120]⟩:ByteArray)]:List ByteArray) x (by intro y hy;simp only [List.mem_cons,List.not_mem_nil,or_false] at hy;rcases hy with rfl | rfl | rfl <;> rfl)
  generalize rdOf ByteArray.empty ([(⟨#[32]⟩:ByteArray),(⟨#[48]⟩:ByteArray),(⟨#[120]⟩:ByteArray)]:List ByteArray) x = z at o ⊢
  rw [if_pos x0,if_pos (by simpa using x2),if_pos (by omega)]
  exact ⟨_,_,rfl,by rw [ByteArray.size_append];omega,h3⟩
 ·rw [if_neg c3]
  exact ⟨_,_,rfl,by omega,h1⟩
def TX (B:Nat) (t:ByteArray):Prop:=t.size ≤ B ∧ gd t.data.toList = true
instance (B:Nat) (t:ByteArray):Decidable (TX B t):=by unfold TX;exact inferInstance
theorem TX.app {a b:Nat} {x y:ByteArray} (hx:TX a x) (hy:TX b y):TX (a + b) (x ++ y):=by
 refine ⟨by rw [ByteArray.size_append];have:=hx.1;have:=hy.1;omega,?_⟩
 rw [show (x ++ y).data.toList = x.data.toList ++ y.data.toList by simp]
 exact gd_app hx.2 hy.2
theorem TX.le {a b:Nat} {x:ByteArray} (h:TX a x) (hab:a ≤ b):TX b x:=⟨Nat.le_trans h.1 hab,h.2⟩
theorem pick_T {s:List Int} {p:Int} (h:RdOk s p) (ys:List ByteArray) (n:Int) (hn:(ys.length:Int) = n) (h1:1 ≤ n) (P:ByteArray → Prop) (hB:∀ y ∈ ys,P y):Tot (fun _ => (some (ys:List ByteArray)).bind fun y => ((spec_l1Rd_below.f s p n).bind fun bt => (if 0 ≤ bt.1 then (if bt.1 < (y.length:Int) then (some (rdOf ByteArray.empty y bt.1,bt.2)) else (none)) else (none)))) (fun r => P r.1 ∧ RdOk s r.2):=by
 refine Tot.bind (f:=fun _ y => ((spec_l1Rd_below.f s p n).bind fun bt => (if 0 ≤ bt.1 then (if bt.1 < (y.length:Int) then (some (rdOf ByteArray.empty y bt.1,bt.2)) else (none)) else (none)))) (Tot.of rfl rfl) ?_
 rintro _ rfl
 refine Tot.bind (below_T h n) fun v hv => ?_
 have v1:=hv.2.1 h1
 have v0:=hv.1
 refine Tot.yes v0 (Tot.yes (by omega) (Tot.ret ⟨?_,hv.2.2⟩))
 have:rdOf ByteArray.empty ys v.1 = ys[v.1.toNat]'(by omega):=by
  have:=rdB_at (ys:=ys) (i:=v.1.toNat) (by omega)
  rwa [show ((v.1.toNat:Nat):Int) = v.1 by omega] at this
 show P (rdOf ByteArray.empty ys v.1)
 rw [this]
 exact hB _ (List.getElem_mem _)
theorem at_TX {ys:List ByteArray} {n:Int} (hn:(ys.length:Int) = n) {B:Nat} (hB:∀ y ∈ ys,TX B y) {v:Int} (h0:0 ≤ v) (h1:v < n):TX B (rdOf ByteArray.empty ys v):=by
 have e:rdOf ByteArray.empty ys v = ys[v.toNat]'(by omega):=by
  have:=rdB_at (ys:=ys) (i:=v.toNat) (by omega)
  rwa [show ((v.toNat:Nat):Int) = v by omega] at this
 rw [e]
 exact hB _ (List.getElem_mem _)
def NX (t:ByteArray):Prop:=TX 5 t ∧ gd (((⟨#[98,97,110,107,40]⟩:ByteArray) ++ t) ++ (⟨#[41]⟩:ByteArray)).data.toList = true
instance (t:ByteArray):Decidable (NX t):=by unfold NX;exact inferInstance
theorem name_T {s:List Int} {p:Int} (h:RdOk s p):Tot (fun _ => spec_l1Rd_name.f s p) (fun r => NX r.1 ∧ RdOk s r.2):=by
 unfold spec_l1Rd_name.f
 exact pick_T h _ 4 rfl (by decide) NX (by decide)
def BD:Nat → Nat
 | 0 => 5
 | n + 1 => 2 * BD n + 6
theorem infix_T {s:List Int}:∀ (n:Nat) (deep p:Int),deep + n = 4 → -1000 ≤ deep → n ≤ 3 → RdOk s p → Tot (fun k => spec_l1Rd_infix.f k s p deep) (fun r => TX (BD n) r.1 ∧ RdOk s r.2):=by
 intro n
 induction n with
 | zero =>
  intro deep p hd hw hn hp
  refine Tot.step (fun k => spec_l1Rd_infix.f.eq_2 _ _ _ k) (Tot.yes (by omega) (Tot.bind (name_T hp) fun v hv => ?_))
  refine pick_T hv.2 _ 5 rfl (by decide) (TX 5) (fun y hy => ?_)
  simp only [List.mem_cons,List.not_mem_nil,or_false] at hy
  rcases hy with rfl | rfl | rfl | rfl | rfl
  ·decide
  ·decide
  ·exact hv.1.1
  ·decide
  ·decide
 | succ n ih =>
  intro deep p hd hw hn hp
  have e1:wrap64 (deep + 1) = deep + 1:=w64_in (by omega) (by omega)
  have hB:BD n ≤ 1000:=by
   rcases (show n = 0 ∨ n = 1 ∨ n = 2 by omega) with rfl | rfl | rfl <;> decide
  have hB5:5 ≤ BD n:=by
   rcases (show n = 0 ∨ n = 1 ∨ n = 2 by omega) with rfl | rfl | rfl <;> decide
  have hBn:BD (n + 1) = 2 * BD n + 6:=rfl
  have sub:∀ q,RdOk s q → Tot (fun k => spec_l1Rd_infix.f k s q (wrap64 (deep + 1))) (fun r => TX (BD n) r.1 ∧ RdOk s r.2):=fun q hq => by rw [e1];exact ih (deep + 1) q (by omega) (by omega) (by omega) hq
  have j0:∀ (x15:Int) (b:Bool) (q:Int),RdOk s q → Tot (fun k => spec_l1Rd_infix.j0 k deep x15 b s q) (fun r => TX (BD (n + 1)) r.1 ∧ RdOk s r.2):=by
   intro x15 b q hq
   refine Tot.step (fun k => spec_l1Rd_infix.j0.eq_2 _ _ _ _ _ k) (Tot.ite (fun _ => ?_) (fun _ => Tot.ite (fun _ => ?_) (fun _ => ?_)))
   ·refine Tot.bind (sub q hq) fun r hr => ?_
    refine Tot.bind (Tot.of rfl rfl) ?_
    intro ys hys
    refine Tot.bind (below_T hr.2 10) fun v hv => ?_
    have v1:=hv.2.1 (by omega)
    have v0:=hv.1
    have hl:(ys.length:Int) = 10:=by rw [← hys];rfl
    have hz:TX 2 (rdOf ByteArray.empty ys v.1):=at_TX hl (by rw [← hys];decide) v0 v1
    have hr1:=hr.1.1
    have hz1:=hz.1
    refine Tot.yes v0 (Tot.yes (by omega) (Tot.yes (by omega) (Tot.bind (sub _ hv.2.2) fun r2 hr2 => Tot.yes (by rw [ByteArray.size_append];have:=hr2.1.1;omega) (Tot.ret ⟨?_,hr2.2⟩))))
    exact ((hr.1.app hz).app hr2.1).le (by omega)
   ·refine Tot.bind (sub q hq) fun r hr => Tot.yes (by have:=hr.1.1;omega) (Tot.ret ⟨?_,hr.2⟩)
    exact ((show TX 1 (⟨#[126]⟩:ByteArray) by decide).app hr.1).le (by omega)
   ·refine Tot.bind (name_T hq) fun v hv => ?_
    refine (pick_T hv.2 _ 5 rfl (by decide) (TX 5) (fun y hy => ?_)).mono fun r hr => ⟨hr.1.le (by omega),hr.2⟩
    simp only [List.mem_cons,List.not_mem_nil,or_false] at hy
    rcases hy with rfl | rfl | rfl | rfl | rfl
    ·decide
    ·decide
    ·decide
    ·exact hv.1.1
    ·decide
  refine Tot.step (fun k => spec_l1Rd_infix.f.eq_2 _ _ _ k) (Tot.no (by omega) (Tot.bind (below_T hp 9) fun v hv => ?_))
  have b1:TX 1 (⟨#[45]⟩:ByteArray):=by decide
  have b2:TX 1 (⟨#[40]⟩:ByteArray):=by decide
  have b3:TX 1 (⟨#[41]⟩:ByteArray):=by decide
  have b4:(⟨#[98,97,110,107,40]⟩:ByteArray).size ≤ 5:=by decide
  have z1:=b1.1
  have z2:=b2.1
  have z3:=b3.1
  have z4:=b4
  refine Tot.ite (fun _ => ?_) (fun _ => Tot.ite (fun _ => ?_) (fun _ => Tot.ite (fun _ => ?_) (fun _ => Tot.ite (fun _ => ?_) (fun _ => ?_))))
  ·refine Tot.bind (sub _ hv.2.2) fun r hr => Tot.yes (by have:=hr.1.1;omega) (Tot.ret ⟨?_,hr.2⟩)
   exact (b1.app hr.1).le (by omega)
  ·refine Tot.bind (sub _ hv.2.2) fun r hr => Tot.yes (by have:=hr.1.1;omega) (Tot.yes (by rw [ByteArray.size_append];have:=hr.1.1;omega) (Tot.ret ⟨?_,hr.2⟩))
   exact ((b2.app hr.1).app b3).le (by omega)
  ·refine Tot.bind (Tot.of rfl rfl) ?_
   intro ys hys
   refine Tot.bind (below_T hv.2.2 2) fun u hu => ?_
   have u1:=hu.2.1 (by omega)
   have u0:=hu.1
   have hl:(ys.length:Int) = 2:=by rw [← hys];rfl
   have hz:TX 5 (rdOf ByteArray.empty ys u.1):=at_TX hl (by rw [← hys];decide) u0 u1
   have hz1:=hz.1
   refine Tot.yes u0 (Tot.yes (by omega) (Tot.bind (sub _ hu.2.2) fun r hr => Tot.yes (by have:=hr.1.1;omega) (Tot.yes (by rw [ByteArray.size_append];have:=hr.1.1;omega) (Tot.ret ⟨?_,hr.2⟩))))
   exact ((hz.app hr.1).app b3).le (by omega)
  ·refine Tot.bind (name_T hv.2.2) fun r hr => Tot.yes (by have:=hr.1.1.1;omega) (Tot.yes (by rw [ByteArray.size_append];have:=hr.1.1.1;omega) (Tot.ret ⟨⟨?_,hr.1.2⟩,hr.2⟩))
   rw [ByteArray.size_append,ByteArray.size_append]
   have:=hr.1.1.1
   omega
  ·exact Tot.ite (fun _ => j0 _ _ _ hv.2.2) (fun _ => j0 _ _ _ hv.2.2)
def NoZ (e:List EX):Prop:=SeenE e ∧ ∀ x ∈ e,x.f2.data.toList ∉ opw
theorem noz_set {e:List EX} (h:NoZ e) (i:Nat) (x:EX) (hx:x.f2.size ≤ 1000000 ∧ x.f2.data.toList ∉ opw):NoZ (e.set i x):=by
 refine ⟨⟨by rw [List.length_set];exact h.1.1,fun y hy => ?_⟩,fun y hy => ?_⟩
 ·rcases List.mem_or_eq_of_mem_set hy with hy | rfl
  ·exact h.1.2 y hy
  ·exact hx.1
 ·rcases List.mem_or_eq_of_mem_set hy with hy | rfl
  ·exact h.2 y hy
  ·exact hx.2
theorem expr_T {s:List Int} {p:Int} (h:RdOk s p):Tot (fun k => spec_l1Rd_expr.f k s p) (fun r => NoZ r.1 ∧ RdOk s r.2):=by
 unfold spec_l1Rd_expr.f
 refine Tot.bind (infix_T 3 1 p rfl (by decide) (Nat.le_refl _) h) fun t ht => ?_
 have hz:t.1.size ≤ 1000:=Nat.le_trans ht.1.1 (by decide)
 refine Tot.bind (compiled_T hz ht.1.2) fun c hc => ?_
 have hsn:NoZ c.1:=⟨⟨by have:=hc.1.1;omega,fun x hx => by have:=(hc.1.2 x hx).1;omega⟩,fun x hx => (hc.1.2 x hx).2⟩
 refine Tot.ite (fun ok => ?_) (fun _ => Tot.ret ⟨⟨⟨show 1 ≤ 1000000 by decide,fun x hx => by rw [List.mem_singleton.1 hx];exact (show (0:Nat) ≤ 1000000 by decide)⟩,fun x hx => by rw [List.mem_singleton.1 hx];exact (show (⟨#[]⟩:ByteArray).data.toList ∉ opw by decide)⟩,ht.2⟩)
 have hne:=hc.2 ok
 refine Tot.bind (once_T ht.2 20) fun q hq => Tot.ite (fun _ => ?_) (fun _ => Tot.ret ⟨hsn,hq⟩)
 refine Tot.bind (below_T hq (c.1.length:Int)) fun v hv => ?_
 have v1:=hv.2.1 (by omega)
 refine Tot.bind (off_T hv.2.2 1 17 (by omega) (by omega)) fun u hu => Tot.yes hv.1 (Tot.yes v1 (Tot.ret ⟨?_,?_⟩))
 ·refine noz_set hsn _ _ ?_
  have e:(rd_T43 c.1 v.1) = c.1[v.1.toNat]'(by have:=hv.1;omega):=by
   have:=rdE_at (l:=c.1) (i:=v.1.toNat) (by have:=hv.1;omega)
   rwa [show ((v.1.toNat:Nat):Int) = v.1 by have:=hv.1;omega] at this
  show (rd_T43 c.1 v.1).f2.size ≤ 1000000 ∧ (rd_T43 c.1 v.1).f2.data.toList ∉ opw
  rw [e]
  exact ⟨hsn.1.2 _ (List.getElem_mem _),hsn.2 _ (List.getElem_mem _)⟩
 ·exact hu
theorem TextR.size {e:List EX} {t:ByteArray} (h:TextR e t):t.size ≤ 1000:=by
 rcases h with ⟨ho,h⟩ | ⟨_,rfl⟩
 ·have h1:=okE_len ho
  have h2:=ho.1
  rw [← datL,h];omega
 ·exact Nat.zero_le _
theorem TextR.one {e:List EX} {a b:ByteArray} (ha:TextR e a) (hb:TextR e b):a = b:=by
 rcases ha with ⟨ho,ha⟩ | ⟨hn,rfl⟩ <;> rcases hb with ⟨ho',hb⟩ | ⟨hn',rfl⟩
 ·exact ba_ext (ha.trans hb.symm)
 ·exact absurd ho hn'
 ·exact absurd ho' hn
 ·rfl
theorem drawE_T {l:List Int} (hl:l.length ≤ 1048576) (hb:∀ x ∈ l,0 ≤ x ∧ x ≤ 255):Tot (fun k => spec_DrawExprText.f k l) NoZ:=by
 obtain ⟨e0,h0⟩:=open_tot hl hb
 unfold spec_DrawExprText.f spec_DrawExprOk.f
 refine Tot.bind (P:=NoZ) ?_ fun r hr => Tot.ret hr
 refine Tot.bind (Tot.of e0 rfl) ?_
 rintro _ rfl
 exact Tot.bind (expr_T h0) fun r hr => Tot.ret hr.1
theorem drawR_T {l:List Int} (hl:l.length ≤ 1048576) (hb:∀ x ∈ l,0 ≤ x ∧ x ≤ 255):Tot (fun k => spec_DrawReadExpr.f k l) (fun t => t.size ≤ 100000):=by
 obtain ⟨e0,h0⟩:=open_tot hl hb
 unfold spec_DrawReadExpr.f
 refine Tot.bind (Tot.of e0 rfl) ?_
 rintro _ rfl
 refine Tot.bind (expr_T h0) fun r hr => Tot.bind (textS_T hr.1.1) fun t ht => ?_
 have hz:=ht.size
 obtain ⟨u,q,e,hu,_⟩:=hurt_tot hr.2 t (by omega)
 refine Tot.bind (Tot.of e rfl) ?_
 rintro _ rfl
 exact Tot.ret (by show u.size ≤ _;omega)
theorem same_T {e:List EX} (h:e.length ≤ 1000000):Tot (fun k => laws_sameExpr.f k e e) (· = true):=by
 have go:∀ (d i:Nat),e.length - i = d → i ≤ e.length → Tot (fun k => laws_sameExpr.l0 k e e (i:Int)) (· = true):=by
  intro d
  induction d with
  | zero =>
   intro i h1 h2
   exact Tot.step (fun k => laws_sameExpr.l0.eq_2 _ _ _ k) (Tot.no (by omega) (Tot.ret rfl))
  | succ d ih =>
   intro i h1 h2
   have e1:Unit → wrap64 ((i:Int) + 1) = ((i + 1:Nat):Int):=fun _ => by rw [w64_in (by omega) (by omega)];rfl
   refine Tot.step (fun k => laws_sameExpr.l0.eq_2 _ _ _ k) (Tot.yes (by omega) (Tot.yes (by omega) (Tot.yes (by omega) (Tot.no (by simp) ?_))))
   rw [e1 ()]
   exact ih (i + 1) (by omega) (by omega)
 unfold laws_sameExpr.f
 exact Tot.yes rfl (go _ 0 rfl (Nat.zero_le _))
theorem FnExprTexts:laws_FnExprTexts.Pure:=by
 intro l _ _ hw
 refine Tot.done ?_
 unfold laws_FnExprTexts.f laws_big.f
 refine Tot.bind (Tot.of rfl rfl) ?_
 rintro _ rfl
 refine Tot.ite (fun _ => Tot.ret rfl) (fun hbig => ?_)
 have hl:l.length ≤ 1048576:=by simp at hbig;omega
 have hb:=bytes_wf hw
 have fin:Tot (fun k => laws_FnExprTexts.j0 k l false) (· = true):=by
  refine Tot.step (fun k => laws_FnExprTexts.j0.eq_2 _ _ k) (Tot.no (by decide) (Tot.bind (drawR_T hl hb) fun t ht => ?_))
  refine Tot.bind (readI_T ht) fun a ha => Tot.bind (readS_T ht) fun b hb => ?_
  have hab:a.2 = b.2:=by
   rcases ha with ⟨h1,h2⟩ | ⟨h1,h2⟩
   ·rw [h1]
    exact (hb.2 ⟨_,good_S h2.2.1 (EachI.nop h2.1) h2.2.2⟩).symm
   ·rw [h1]
    cases hb2:b.2 with
    | false => rfl
    | true =>
     obtain ⟨ys,hy⟩:=hb.1 hb2
     exact absurd ⟨ys,good_I hy.2.1 (EachS.nop hy.1) hy.2.2⟩ h2
  refine Tot.yes (by rw [hab];exact beq_self_eq_true _) (Tot.ite (fun c => ?_) (fun c => Tot.ret rfl))
  rcases ha with ⟨h1,h2⟩ | ⟨h1,h2⟩
  ·have h30:=h2.2.1.1
   refine Tot.bind (textI_T (e:=a.1) ⟨by omega,fun x hx => Nat.le_trans (nodeG_size (ok_node h2.2.1.2 x hx)) (by decide)⟩) fun u hu => Tot.ret ?_
   rcases hu with ⟨_,hu⟩ | ⟨hn,_⟩
   ·rw [toL,toL,hu,h2.2.2]
    exact beq_self_eq_true _
   ·exact absurd h2.2.1 hn
  ·rw [h1] at c
   cases c
 refine Tot.bind (drawE_T hl hb) fun e he => ?_
 have hs:=he.1
 refine Tot.bind (textI_T hs) fun a ha => ?_
 have hz:=ha.size
 refine Tot.bind (readI_T (by omega)) fun r hr => Tot.bind (textS_T hs) fun b hb => ?_
 obtain rfl:=TextR.one ha hb
 have hok:r.2 = true ↔ OkE e:=by
  rcases ha with ⟨ho,ha⟩ | ⟨hn,rfl⟩
  ·refine ⟨fun _ => ho,fun _ => ?_⟩
   rcases hr with ⟨h1,h2⟩ | ⟨h1,h2⟩
   ·exact h1
   ·exact absurd ⟨e,good_I ho (fun x hx _ => he.2 x hx) ha.symm⟩ h2
  ·refine ⟨fun h => ?_,fun h => absurd h hn⟩
   rcases hr with ⟨h1,h2⟩ | ⟨h1,h2⟩
   ·exact absurd h2.2.2 (okE_ne' h2.2.1)
   ·rw [h1] at h;cases h
 have hsame:OkE e → r.1 = e:=by
  intro ho
  rcases ha with ⟨_,ha⟩ | ⟨hn,_⟩
  ·rcases hr with ⟨h1,h2⟩ | ⟨h1,h2⟩
   ·exact EachI.one h2.1 (good_I ho (fun x hx _ => he.2 x hx) ha.symm).1
   ·rw [hok.2 ho] at h1;cases h1
  ·exact absurd ho hn
 refine Tot.yes rfl (Tot.bind (exI_T hs) fun t ht => ?_)
 have e1:r.2 = t:=by rw [Bool.eq_iff_iff,hok,ht]
 refine Tot.no (by rw [e1];simp) (Tot.bind (exI_T hs) fun t1 ht1 => Tot.bind (exS_T hs) fun t2 ht2 => ?_)
 have e2:t1 = t2:=by rw [Bool.eq_iff_iff,ht1,ht2]
 refine Tot.no (by rw [e2];simp) (Tot.ite (fun c => ?_) (fun c => fin))
 rw [hsame (hok.1 c)]
 refine Tot.bind (same_T hs.1) ?_
 rintro _ rfl
 exact fin
end Go.Proofs.YtabbdfchibjndaaGreatDoor.Pure
