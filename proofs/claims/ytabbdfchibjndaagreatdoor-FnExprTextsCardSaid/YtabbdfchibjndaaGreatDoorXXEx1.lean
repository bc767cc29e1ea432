import Derived.Test.YtabbdfchibjndaaGreatDoorXLibCv
import Derived.Test.YtabbdfchibjndaaGreatDoorXLib
namespace Go.Proofs.YtabbdfchibjndaaGreatDoor.XEx1
open Go.RowKit Go.Proofs.YtabbdfchibjndaaGreatDoorW.PrintWords Go.Proofs.YtabbdfchibjndaaGreatDoorW.PrintLast Go.Proofs.YtabbdfchibjndaaGreatDoorW.PrintMore Go.Proofs.YtabbdfchibjndaaGreatDoor.Lib Go.Proofs.YtabbdfchibjndaaGreatDoor.LibX Go.Proofs.YtabbdfchibjndaaGreatDoor.LibG Go.Proofs.YtabbdfchibjndaaGreatDoor.LibCp Go.Proofs.YtabbdfchibjndaaGreatDoor.LibCv
set_option linter.unusedSimpArgs false
set_option linter.unusedVariables false
set_option linter.unusedSectionVars false
/-- From some number of rounds on it answers one and the same,and P holds of the answer. -/
def Tot {α:Type} (g:Nat → Option α) (P:α → Prop):Prop:=∃ K r,P r ∧ ∀ k,K ≤ k → g k = some r
theorem Tot.ret {α:Type} {r:α} {P:α → Prop} (h:P r):Tot (fun _ => some r) P:=⟨0,r,h,fun _ _ => rfl⟩
theorem Tot.of {α:Type} {g:Option α} {r:α} {P:α → Prop} (e:g = some r) (h:P r):Tot (fun _ => g) P:=⟨0,r,h,fun _ _ => e⟩
theorem Tot.bind {α β:Type} {g:Nat → Option α} {f:Nat → α → Option β} {P:α → Prop} {Q:β → Prop} (h:Tot g P) (hf:∀ a,P a → Tot (fun k => f k a) Q):Tot (fun k => (g k).bind (f k)) Q:=by
 obtain ⟨K,a,ha,hg⟩:=h
 obtain ⟨L,r,hr,hk⟩:=hf a ha
 exact ⟨max K L,r,hr,fun k hk' => by show (g k).bind (f k) = some r;rw [hg k (by omega)];exact hk k (by omega)⟩
theorem Tot.ite {α:Type} {c:Prop} [Decidable c] {g f:Nat → Option α} {P:α → Prop} (h1:c → Tot g P) (h2:¬ c → Tot f P):Tot (fun k => if c then g k else f k) P:=by
 by_cases h:c
 ·obtain ⟨K,r,hr,hk⟩:=h1 h
  exact ⟨K,r,hr,fun k hk' => by show (if c then g k else f k) = some r;rw [if_pos h];exact hk k hk'⟩
 ·obtain ⟨K,r,hr,hk⟩:=h2 h
  exact ⟨K,r,hr,fun k hk' => by show (if c then g k else f k) = some r;rw [if_neg h];exact hk k hk'⟩
theorem Tot.yes {α:Type} {c:Prop} [Decidable c] {g f:Nat → Option α} {P:α → Prop} (h:c) (h1:Tot g P):Tot (fun k => if c then g k else f k) P:=Tot.ite (fun _ => h1) (fun n => absurd h n)
theorem Tot.no {α:Type} {c:Prop} [Decidable c] {g f:Nat → Option α} {P:α → Prop} (h:¬ c) (h1:Tot f P):Tot (fun k => if c then g k else f k) P:=Tot.ite (fun n => absurd n h) (fun _ => h1)
theorem Tot.mono {α:Type} {g:Nat → Option α} {P Q:α → Prop} (h:Tot g P) (hi:∀ a,P a → Q a):Tot g Q:=by
 obtain ⟨K,r,hr,hk⟩:=h
 exact ⟨K,r,hi r hr,hk⟩
theorem Tot.step {α:Type} {g f:Nat → Option α} {P:α → Prop} (h:∀ k,g (k + 1) = f k) (hf:Tot f P):Tot g P:=by
 obtain ⟨K,r,hr,hk⟩:=hf
 exact ⟨K + 1,r,hr,fun k hk' => by obtain ⟨m,rfl⟩:∃ m,k = m + 1:=⟨k - 1,by omega⟩;rw [h];exact hk m (by omega)⟩
theorem Tot.lift {α:Type} {g:Nat → Option α} {P:α → Prop} (hm:∀ k,LeO (g k) (g (k + 1))) {k:Nat} {r:α} (e:g k = some r) (h:P r):Tot g P:=⟨k,r,h,fun _ hk => at_rounds hm hk e⟩
theorem Tot.congr {α:Type} {g f:Nat → Option α} {P:α → Prop} (h:∀ k,g k = f k) (hf:Tot f P):Tot g P:=by
 obtain ⟨K,r,hr,hk⟩:=hf
 exact ⟨K,r,hr,fun k hk' => (h k).trans (hk k hk')⟩
theorem Tot.eq {α:Type} {g:Nat → Option α} {r:α} (h:Tot g (fun x => x = r)):∃ K,∀ k,K ≤ k → g k = some r:=by
 obtain ⟨K,x,hx,hk⟩:=h
 subst hx
 exact ⟨K,hk⟩
theorem Tot.done {g:Nat → Option Bool} (h:Tot g (fun x => x = true)):∃ k,g k = some true:=by
 obtain ⟨K,hk⟩:=h.eq
 exact ⟨K,hk K (Nat.le_refl _)⟩
/-! ### a list of arguments,byte by byte -/
theorem toL (a:ByteArray):a.toList = a.data.toList:=ByteArray.toList_eq a
theorem datL (a:ByteArray):a.data.toList.length = a.size:=by rw [Array.length_toList];rfl
def mkB (l:List UInt8):ByteArray:=⟨l.toArray⟩
theorem mkB_data (a:ByteArray):mkB a.data.toList = a:=rfl
theorem ba_ext {a b:ByteArray} (h:a.data.toList = b.data.toList):a = b:=by
 have:=congrArg mkB h
 rwa [mkB_data,mkB_data] at this
theorem bt_data {s:ByteArray} {i:Nat} (h:i < s.size):∃ u:UInt8,s.data.toList[i]? = some u ∧ bt s (i:Int) = (u.toNat:Int):=by
 have hl:i < s.data.toList.length:=by rw [datL];exact h
 refine ⟨s.data.toList[i],List.getElem?_eq_getElem hl,?_⟩
 unfold bt
 rw [dif_pos (show ((i:Int)).toNat < s.size by omega)]
 congr 2
theorem u8_lit (u:UInt8) (n:Nat) (hn:n < 256):(u.toNat:Int) = (n:Int) ↔ u = UInt8.ofNat n:=by
 constructor
 ·intro h
  apply UInt8.toNat_inj.1
  rw [UInt8.toNat_ofNat']
  omega
 ·intro h
  rw [h,UInt8.toNat_ofNat']
  omega
theorem u32 (u:UInt8):(u.toNat:Int) = 32 ↔ u = 32:=u8_lit u 32 (by decide)
theorem u44 (u:UInt8):(u.toNat:Int) = 44 ↔ u = 44:=u8_lit u 44 (by decide)
theorem nil_size (a:ByteArray):a.toList = ([]:List UInt8) ↔ a.size = 0:=by
 rw [toL]
 constructor
 ·intro h
  have:=congrArg List.length h
  rwa [Array.length_toList] at this
 ·intro h
  exact List.eq_nil_of_length_eq_zero (by rw [Array.length_toList];exact h)
/-! ### names and ops -/
theorem size0 (a:ByteArray):a.toList = ([]:List UInt8) ↔ a.size = 0:=by
 rw [toL]
 constructor
 ·intro h;rw [← datL,h];rfl
 ·intro h;exact List.eq_nil_of_length_eq_zero (by rw [datL];exact h)
/-- A letter as names begin with. -/
def ltC (c:Int):Prop:=(97 ≤ c ∧ c ≤ 122) ∨ c = 95 ∨ c = 46
def nmC (c:Int):Prop:=ltC c ∨ (48 ≤ c ∧ c ≤ 57)
instance (c:Int):Decidable (ltC c):=by unfold ltC;infer_instance
instance (c:Int):Decidable (nmC c):=by unfold nmC;infer_instance
theorem ltS (c:Int):spec_l1Letter.f c = some (decide (ltC c)):=by
 unfold spec_l1Letter.f ltC
 by_cases h:c ≥ 97
 ·rw [if_pos h]
  by_cases g:c ≤ 122
  ·rw [if_pos g];simp [g,show 97 ≤ c from h]
  ·rw [if_neg g,if_neg (show ¬ c = 95 by omega)]
   simp [show ¬ c = 46 by omega,show ¬ c = 95 by omega,g]
 ·rw [if_neg h]
  by_cases g:c = 95
  ·rw [if_pos g];simp [g]
  ·rw [if_neg g]
   by_cases e:c = 46
   ·simp [e]
   ·simp [e,g,show ¬ 97 ≤ c from h]
def NameG (s:ByteArray):Prop:=1 ≤ s.size ∧ s.size ≤ 16 ∧ ltC (bt s 0) ∧ ∀ i:Nat,i < s.size → nmC (bt s (i:Int))
theorem nameS_T (s:ByteArray) (h:s.size ≤ 1000000):Tot (fun k => spec_NameOk.f k s) (fun b => b = true ↔ NameG s):=by
 have go:1 ≤ s.size → s.size ≤ 16 → ∀ (d i:Nat),s.size - i = d → i ≤ s.size → (∀ j:Nat,j < i → nmC (bt s (j:Int))) → Tot (fun k => spec_NameOk.l0 k s (i:Int)) (fun b => b = true ↔ ∀ i:Nat,i < s.size → nmC (bt s (i:Int))):=by
  intro z1 z2 d
  induction d with
  | zero =>
   intro i h1 h2 hi
   exact Tot.step (fun k => spec_NameOk.l0.eq_2 _ _ k) (Tot.no (by omega) (Tot.ret ⟨fun _ j hj => hi j (by omega),fun _ => rfl⟩))
  | succ d ih =>
   intro i h1 h2 hi
   refine Tot.step (fun k => spec_NameOk.l0.eq_2 _ _ k) (Tot.yes (by omega) (Tot.yes (by omega) ?_))
   have go2:nmC (bt s (i:Int)) → Tot (fun k => spec_NameOk.l0 k s (wrap64 ((i:Int) + 1))) (fun b => b = true ↔ ∀ i:Nat,i < s.size → nmC (bt s (i:Int))):=by
    intro ok
    rw [w64_in (by omega) (by omega)]
    exact ih (i + 1) (by omega) (by omega) (fun j hj => by
     by_cases c:j < i
     ·exact hi j c
     ·rw [show j = i by omega];exact ok)
   have no2:¬ nmC (bt s (i:Int)) → Tot (fun _ => some false) (fun b => b = true ↔ ∀ i:Nat,i < s.size → nmC (bt s (i:Int))):=fun n => Tot.ret ⟨fun x => absurd x (by decide),fun x => absurd (x i (by omega)) n⟩
   unfold nmC at go2 no2
   generalize bt s (i:Int) = c at go2 no2 ⊢
   refine Tot.bind (Tot.of (ltS c) rfl) ?_
   rintro _ rfl
   refine Tot.ite (fun e => go2 (.inl (of_decide_eq_true e))) (fun e => ?_)
   have n1:¬ ltC c:=fun x => e (decide_eq_true x)
   refine Tot.ite (fun g => Tot.ite (fun l => go2 (.inr ⟨g,l⟩)) (fun l => no2 ?_)) (fun g => no2 ?_)
   ·rintro (x | x)
    ·exact n1 x
    ·exact l x.2
   ·rintro (x | x)
    ·exact n1 x
    ·exact g x.1
 unfold spec_NameOk.f
 have j0:∀ (b:Bool),(b = false → 1 ≤ s.size ∧ s.size ≤ 16 ∧ ltC (bt s 0)) → (b = true → ¬ NameG s) → Tot (fun k => spec_NameOk.j0 k s b) (fun b => b = true ↔ NameG s):=by
  intro b h1 h2
  refine Tot.step (fun k => spec_NameOk.j0.eq_2 _ _ k) (Tot.ite (fun e => Tot.ret ⟨fun x => absurd x (by decide),fun x => absurd x (h2 e)⟩) (fun e => ?_))
  obtain ⟨z1,z2,z3⟩:=h1 (by simpa using e)
  refine (go z1 z2 _ 0 rfl (Nat.zero_le _) (fun j hj => absurd hj (Nat.not_lt_zero _))).mono fun r hr => ?_
  rw [hr]
  exact ⟨fun x => ⟨z1,z2,z3,x⟩,fun x => x.2.2.2⟩
 refine Tot.ite (fun e => j0 _ (fun x => absurd x (by decide)) (fun _ x => by have:=x.1;omega)) (fun e => Tot.ite (fun g => j0 _ (fun x => absurd x (by decide)) (fun _ x => by have:=x.2.1;omega)) (fun g => Tot.yes (by omega) ?_))
 refine Tot.bind (Tot.of (ltS _) rfl) ?_
 rintro _ rfl
 refine j0 _ (fun x => ⟨by omega,by omega,?_⟩) (fun x y => ?_)
 ·simpa using x
 ·have:=y.2.2.1
  simp [this] at x
/-! ### the reference's reader of numbers -/
theorem ex1 (s:ByteArray) (h:s.size ≤ 20):(s.extract 1 s.size).size ≤ 20:=by rw [ByteArray.size_extract];omega
theorem digT (c:Int):Tot (fun k => spec_l1Digit.f k c) (fun _ => True):=by
 have j:∀ b,Tot (fun k => spec_l1Digit.j0 k c b) (fun _ => True):=fun b =>
  Tot.step (fun k => spec_l1Digit.j0.eq_2 _ _ k) (Tot.ite (fun _ => Tot.ret trivial) (fun _ => Tot.ite (fun _ => Tot.ite (fun _ => Tot.ret trivial) (fun _ => Tot.ret trivial)) (fun _ => Tot.ret trivial)))
 unfold spec_l1Digit.f
 exact Tot.ite (fun _ => j _) (fun _ => j _)
theorem baseT (s:ByteArray) (B:Int) (hs:s.size ≤ 20):∀ r i:Nat,i + r = s.size → ∀ v:Int,Tot (fun k => spec_l1Base.l0 k s B v (i:Int)) (fun _ => True):=by
 intro r
 induction r with
 | zero =>
  intro i hi v
  exact Tot.step (fun k => spec_l1Base.l0.eq_2 _ _ _ _ k) (Tot.no (by omega) (Tot.ret trivial))
 | succ r ih =>
  intro i hi v
  refine Tot.step (fun k => spec_l1Base.l0.eq_2 _ _ _ _ k) (Tot.yes (by omega) (Tot.yes (by omega) ?_))
  refine Tot.bind (digT _) fun t _ => ?_
  refine Tot.ite (fun _ => Tot.ret trivial) (fun _ => Tot.ite (fun _ => Tot.ret trivial) (fun _ => ?_))
  rw [w64_in (n:=(i:Int) + 1) (by omega) (by omega)]
  exact ih (i + 1) (by omega) _
theorem baseF (s:ByteArray) (B:Int) (hs:s.size ≤ 20):Tot (fun k => spec_l1Base.f k s B) (fun _ => True):=baseT s B hs s.size 0 (by omega) 0
theorem rnS (s:ByteArray) (hs:s.size ≤ 20):Tot (fun k => spec_ReadNum.f k s) (fun _ => True):=by
 have j:∀ b:Bool,(b = false → 1 ≤ s.size) → Tot (fun k => spec_ReadNum.j0 k s b) (fun _ => True):=by
  intro b hb
  refine Tot.step (fun k => spec_ReadNum.j0.eq_2 _ _ k) (Tot.ite (fun _ => Tot.ret trivial) (fun h => ?_))
  have h1:=hb (by simpa using h)
  refine Tot.yes (by omega) (Tot.ite (fun _ => Tot.yes (by omega) (Tot.bind (baseF _ _ (ex1 s hs)) fun a _ => Tot.ret trivial)) (fun _ => ?_))
  refine Tot.ite (fun _ => Tot.yes (by omega) (Tot.bind (baseF _ _ (ex1 s hs)) fun a _ => Tot.ret trivial)) (fun _ => ?_)
  exact Tot.bind (baseF _ _ hs) fun a _ => Tot.ret trivial
 unfold spec_ReadNum.f
 refine Tot.ite (fun _ => j true (by simp)) (fun _ => j _ (fun h => ?_))
 rcases Nat.eq_zero_or_pos s.size with z | p
 ·have:=(nil_size s).2 z
  rw [this] at h;simp at h
 ·exact p
/-! ### a formula's nodes are always told -/
theorem rnA (s:ByteArray) (hs:s.size ≤ 1000000):Tot (fun k => spec_ReadNum.f k s) (fun _ => True):=by
 by_cases h:s.size ≤ 20
 ·exact rnS s h
 ·unfold spec_ReadNum.f
  exact Tot.yes (by omega) (Tot.step (fun k => spec_ReadNum.j0.eq_2 _ _ k) (Tot.yes rfl (Tot.ret trivial)))
theorem word_T (s:ByteArray) (hs:s.size ≤ 1000000):∀ d i:Nat,i + d = s.size → Tot (fun k => wordE k s (i:Int)) (fun e => (i:Int) ≤ e ∧ e ≤ (s.size:Int)):=by
 intro d
 induction d with
 | zero =>
  intro i hi
  exact Tot.step (fun k => wordE.eq_2 _ _ k) (Tot.no (by omega) (Tot.ret (by omega)))
 | succ d ih =>
  intro i hi
  refine Tot.step (fun k => wordE.eq_2 _ _ k) (Tot.yes (by omega) ?_)
  refine Tot.bind (Tot.of (ltS _) rfl) ?_
  rintro _ rfl
  refine Tot.ite (fun _ => ?_) (fun _ => Tot.ret (by omega))
  exact (ih (i + 1) (by omega)).mono fun e he => by omega
theorem wordA (s:ByteArray) (hs:s.size ≤ 1000000) {a:Int} (h0:0 ≤ a) (h1:a ≤ (s.size:Int)):Tot (fun k => wordE k s a) (fun e => a ≤ e ∧ e ≤ (s.size:Int)):=by
 have:=word_T s hs (s.size - a.toNat) a.toNat (by omega)
 rwa [show ((a.toNat:Nat):Int) = a by omega] at this
/-- The words of ops that names could be. -/
def opw:List (List UInt8):=[[110,101,103],[110,111,116],[104,105,103,104],[108,111,119]]
/-- What has to stand behind a byte of a drawn text: no name that is cut out of it is such a word. -/
def alts (c:UInt8):List (List UInt8):=if c = 107 then [[40,97],[40,108,111,111],[40,120],[40,101]] else if c = 103 then [[104,40]] else if c = 119 then [[40]] else if c = 110 then [[100],[107]] else [[]]
def gd:List UInt8 → Bool
 | [] => true
 | c :: l => (alts c).any (fun p => p.isPrefixOf l) && gd l
theorem gd_drop {l:List UInt8} (h:gd l = true):∀ i:Nat,gd (l.drop i) = true:=by
 induction l with
 | nil => intro i;rw [List.drop_nil];rfl
 | cons c l ih =>
  intro i
  cases i with
  | zero => exact h
  | succ i =>
   rw [gd,Bool.and_eq_true] at h
   exact ih h.2 i
theorem pre_app {p:List UInt8}:∀ (q r:List UInt8),List.isPrefixOf p q = true → List.isPrefixOf p (q ++ r) = true:=by
 induction p with
 | nil => intro q r _;cases q <;> cases r <;> rfl
 | cons a p ih =>
  intro q r h
  cases q with
  | nil => cases h
  | cons b q =>
   have h:((a == b) && List.isPrefixOf p q) = true:=h
   rw [Bool.and_eq_true] at h
   show ((a == b) && List.isPrefixOf p (q ++ r)) = true
   rw [h.1,ih q r h.2];rfl
theorem gd_app {a b:List UInt8} (ha:gd a = true) (hb:gd b = true):gd (a ++ b) = true:=by
 induction a with
 | nil => exact hb
 | cons c a ih =>
  rw [gd,Bool.and_eq_true] at ha
  rw [List.cons_append,gd,Bool.and_eq_true]
  refine ⟨?_,ih ha.2⟩
  obtain ⟨p,hp,h⟩:=List.any_eq_true.1 ha.1
  exact List.any_eq_true.2 ⟨p,hp,pre_app _ _ h⟩
theorem ext_L (s:ByteArray) (i j:Nat):(s.extract i j).data.toList = (s.data.toList.drop i).take (j - i):=by
 rw [ByteArray.data_extract,Array.toList_extract,List.extract_eq_take_drop]
theorem isF_at {s x:ByteArray} {a:Int} (h0:0 ≤ a) (h:isF s a x = true):∃ r,s.data.toList.drop a.toNat = x.data.toList ++ r:=by
 unfold isF at h
 rw [Bool.and_eq_true,beq_iff_eq,toL,toL,ext_L] at h
 exact ⟨_,by rw [← h.2,List.take_append_drop]⟩
theorem isF_of {s x:ByteArray} {a:Int} {r:List UInt8} (h0:0 ≤ a) (h1:a ≤ (s.size:Int)) (h:s.data.toList.drop a.toNat = x.data.toList ++ r):isF s a x = true:=by
 have hl:=congrArg List.length h
 rw [List.length_drop,datL,List.length_append,datL] at hl
 unfold isF
 rw [Bool.and_eq_true,beq_iff_eq,toL,toL,ext_L,h]
 refine ⟨decide_eq_true (by omega),?_⟩
 rw [show (a + (x.size:Int)).toNat - a.toNat = x.data.toList.length by rw [datL];omega,List.take_left]
def BKW:ByteArray:=⟨#[98,97,110,107,40]⟩
theorem tail_nm {s:ByteArray} (hg:gd s.data.toList = true) {a:Int} (j:Nat) (h0:0 ≤ a) (h1:a ≤ (s.size:Int)) (hh:isF s a (⟨#[104,105,103,104,40]⟩:ByteArray) = false) (hl:isF s a (⟨#[108,111,119,40]⟩:ByteArray) = false):(s.extract a.toNat j).data.toList ∉ opw:=by
 rw [ext_L]
 have hd:=gd_drop hg a.toNat
 have kh:=fun r => isF_of (x:=(⟨#[104,105,103,104,40]⟩:ByteArray)) (a:=a) (s:=s) (r:=r) h0 h1
 have kl:=fun r => isF_of (x:=(⟨#[108,111,119,40]⟩:ByteArray)) (a:=a) (s:=s) (r:=r) h0 h1
 simp only [hh] at kh
 simp only [hl] at kl
 generalize s.data.toList.drop a.toNat = d at hd kh kl ⊢
 have key:∀ w:List UInt8,d.take (j - a.toNat) = w → ∃ r,d = w ++ r:=fun w h => ⟨d.drop (j - a.toNat),by rw [← h,List.take_append_drop]⟩
 intro hm
 unfold opw at hm
 simp only [List.mem_cons,List.not_mem_nil,or_false] at hm
 rcases hm with h | h | h | h
 ·obtain ⟨r,rfl⟩:=key _ h
  simp [gd,alts,List.isPrefixOf] at hd
 ·obtain ⟨r,rfl⟩:=key _ h
  simp [gd,alts,List.isPrefixOf] at hd
 ·obtain ⟨r,rfl⟩:=key _ h
  cases r with
  | nil => revert hd;decide
  | cons c r =>
   simp [gd,alts,List.isPrefixOf] at hd
   obtain ⟨hc,_⟩:=hd
   exact absurd (kh r (by rw [← hc];rfl)) (by decide)
 ·obtain ⟨r,rfl⟩:=key _ h
  cases r with
  | nil => revert hd;decide
  | cons c r =>
   simp [gd,alts,List.isPrefixOf] at hd
   obtain ⟨hc,_⟩:=hd
   exact absurd (kl r (by rw [← hc];rfl)) (by decide)
theorem bank_nm {s:ByteArray} (hg:gd s.data.toList = true) {a:Int} (j:Nat) (h0:0 ≤ a) (hb:isF s a BKW = true):(s.extract (a + (BKW.size:Int)).toNat j).data.toList ∉ opw:=by
 obtain ⟨r,hr⟩:=isF_at h0 hb
 have hd:=gd_drop hg a.toNat
 rw [hr] at hd
 have e:s.data.toList.drop (a + (BKW.size:Int)).toNat = r:=by
  have h5:BKW.size = 5:=rfl
  rw [show (a + (BKW.size:Int)).toNat = a.toNat + 5 by omega,← List.drop_drop,hr]
  rfl
 rw [ext_L,e]
 generalize j - (a + (BKW.size:Int)).toNat = n
 have key:∀ w:List UInt8,r.take n = w → ∃ q,r = w ++ q:=fun w h => ⟨r.drop n,by rw [← h,List.take_append_drop]⟩
 intro hm
 unfold opw at hm
 simp only [List.mem_cons,List.not_mem_nil,or_false] at hm
 rcases hm with h | h | h | h
 all_goals
  obtain ⟨q,rfl⟩:=key _ h
  simp [BKW,gd,alts,List.isPrefixOf] at hd
def InT (s x:ByteArray):Prop:=x.size ≤ 1000 ∧ x.data.toList ∉ opw
theorem emp_in (s:ByteArray):InT s (⟨#[]⟩:ByteArray):=⟨by decide,by decide⟩
def Nod (s:ByteArray) (o:List EN):Prop:=o.length ≤ 30 ∧ ∀ x ∈ o,InT s x.f2
theorem nod_nil (s:ByteArray):Nod s []:=⟨by decide,fun x h => by cases h⟩
theorem nod_put {s:ByteArray} (kd n:Int) (nm:ByteArray) (hn:InT s nm) {o:List EN} (ho:Nod s o) (b:Bool):Nod s (putF kd n nm o b).1:=by
 unfold putF
 split
 ·exact ho
 ·refine ⟨by rw [List.length_append,List.length_singleton];omega,fun x hx => ?_⟩
  rcases List.mem_append.1 hx with hx | hx
  ·exact ho.2 x hx
  ·rw [List.mem_singleton] at hx
   subst hx
   exact hn
theorem need_le {s:ByteArray} {a:Int} (b:Bool) (h1:a ≤ (s.size:Int)):a ≤ (needF s a b).1 ∧ (needF s a b).1 ≤ (s.size:Int):=by
 unfold needF
 split
 ·exact ⟨Int.le_refl _,h1⟩
 ·split
  ·rename_i h
   have:=isF_le h
   exact ⟨by omega,this⟩
  ·exact ⟨Int.le_refl _,h1⟩
/-- What comes of a value,of a level. -/
def Res (s:ByteArray) (a:Int) (r:PR):Prop:=(a ≤ r.1 ∧ r.1 ≤ (s.size:Int)) ∧ Nod s r.2.1
section
variable {s:ByteArray} (hs:s.size ≤ 1000) (hg:gd s.data.toList = true)
include hs hg
theorem hl_T {lev:Nat → Int → Int → Int → List EN → Bool → Option PR} {deep a:Int} {o:List EN} (h1:a ≤ (s.size:Int)) (h:Tot (fun k => lev k 1 (wrap64 (deep + 1)) a o false) (Res s a)):Tot (fun k => hlG (lev k) s deep a o) (Res s a):=by
 unfold hlG
 refine Tot.bind h fun r hr => Tot.ret ?_
 have:=need_le r.2.2 hr.1.2
 exact ⟨⟨by show a ≤ (needF s r.1 r.2.2).1;have:=hr.1.1;omega,this.2⟩,nod_put _ _ _ (emp_in s) hr.2 _⟩
theorem br_T {lev:Nat → Int → Int → Int → List EN → Bool → Option PR} {deep a:Int} {o:List EN} (h1:a ≤ (s.size:Int)) (h:Tot (fun k => lev k 1 (wrap64 (deep + 1)) a o false) (Res s a)):Tot (fun k => brG (lev k) s deep a o) (Res s a):=by
 unfold brG
 refine Tot.bind h fun r hr => Tot.ret ?_
 have:=need_le r.2.2 hr.1.2
 exact ⟨⟨by show a ≤ (needF s r.1 r.2.2).1;have:=hr.1.1;omega,this.2⟩,hr.2⟩
theorem ext_le (i j:Nat):(s.extract i j).size ≤ 1000:=by rw [ByteArray.size_extract];omega
theorem bank_T {a:Int} {o:List EN} (h0:0 ≤ a) (hb:isF s a BKW = true) (ho:Nod s o):Tot (fun k => bankG k s (a + (BKW.size:Int)) o) (Res s (a + (BKW.size:Int))):=by
 have h1:=isF_le hb
 have nm:=fun j => bank_nm hg j h0 hb
 unfold bankG
 refine Tot.bind (wordA s (by omega) (by omega) h1) fun e he => Tot.bind (nameS_T _ (by have:=ext_le hs hg (a + (BKW.size:Int)).toNat e.toNat;omega)) fun t _ => Tot.ret ?_
 have hn:=need_le (s:=s) (a:=e) false he.2
 cases t with
 | true => exact ⟨⟨by show a + (BKW.size:Int) ≤ (needF s e false).1;omega,hn.2⟩,nod_put _ _ _ ⟨ext_le hs hg _ _,nm _⟩ ho _⟩
 | false => exact ⟨he,nod_put _ _ _ ⟨ext_le hs hg _ _,nm _⟩ ho _⟩
theorem tail_T {a:Int} {o:List EN} {sg:ByteArray} (hz:sg.size ≤ 1) (pl:Bool) (h0:0 ≤ a) (h1:a ≤ (s.size:Int)) (ho:Nod s o) (hp:pl = true → isF s a (⟨#[104,105,103,104,40]⟩:ByteArray) = false ∧ isF s a (⟨#[108,111,119,40]⟩:ByteArray) = false):Tot (fun k => tailG k s sg pl a o) (Res s a):=by
 unfold tailG
 refine Tot.bind (wordA s (by omega) h0 h1) fun e he => ?_
 have hx:=ext_le hs hg a.toNat e.toNat
 refine Tot.yes (by omega) (Tot.bind (rnA _ (by rw [ByteArray.size_append];omega)) fun r _ => ?_)
 refine Tot.ite (fun _ => Tot.ret ⟨he,nod_put _ _ _ (emp_in s) ho _⟩) (fun _ => Tot.ite (fun c => ?_) (fun _ => Tot.ret ⟨he,ho⟩))
 exact Tot.bind (nameS_T _ (by omega)) fun t _ => Tot.ite (fun _ => Tot.ret ⟨he,nod_put _ _ _ ⟨ext_le hs hg _ _,tail_nm hg _ h0 h1 (hp c).1 (hp c).2⟩ ho _⟩) (fun _ => Tot.ret ⟨he,ho⟩)
/-- A value,where what it calls is told. -/
theorem val_T {n:Nat} {deep:Int} (hd:deep + n = 31) (hv:∀ (a:Int) (o:List EN),deep ≤ 30 → 0 ≤ a → a ≤ (s.size:Int) → Nod s o → Tot (fun k => valF k s (deep + 1) a o false) (Res s a)) (hl:∀ (a:Int) (o:List EN),deep ≤ 30 → 0 ≤ a → a ≤ (s.size:Int) → Nod s o → Tot (fun k => levF k s 1 (deep + 1) a o false) (Res s a)) (hw:-1000 ≤ deep) :
  ∀ (a:Int) (o:List EN) (b:Bool),0 ≤ a → a ≤ (s.size:Int) → Nod s o → Tot (fun k => valF k s deep a o b) (Res s a):=by
 intro a o b h0 h1 ho
 refine Tot.step (fun k => valF.eq_2 _ _ _ _ _ k) ?_
 unfold valG
 have e1:wrap64 (deep + 1) = deep + 1:=w64_in (by omega) (by omega)
 refine Tot.ite (fun _ => Tot.ret ⟨⟨Int.le_refl _,h1⟩,ho⟩) (fun c => ?_)
 have hd30:deep ≤ 30:=by omega
 refine Tot.ite (fun _ => Tot.ret ⟨⟨Int.le_refl _,h1⟩,ho⟩) (fun _ => ?_)
 refine Tot.ite (fun y => ?_) (fun _ => ?_)
 ·have:=isF_le y
  rw [e1]
  refine Tot.bind (hv _ o hd30 (by omega) this ho) fun r hr => Tot.ret ⟨⟨by show a ≤ r.1;have:=hr.1.1;omega,hr.1.2⟩,nod_put _ _ _ (emp_in s) hr.2 _⟩
 refine Tot.ite (fun y => ?_) (fun _ => ?_)
 ·have:=isF_le y
  rw [e1]
  refine Tot.bind (hv _ o hd30 (by omega) this ho) fun r hr => Tot.ret ⟨⟨by show a ≤ r.1;have:=hr.1.1;omega,hr.1.2⟩,nod_put _ _ _ (emp_in s) hr.2 _⟩
 refine Tot.ite (fun y => ?_) (fun nh => ?_)
 ·have:=isF_le y
  exact (hl_T hs hg (lev:=fun k l d a o b => levF k s l d a o b) this (by rw [e1];exact hl _ o hd30 (by omega) this ho)).mono fun r hr => ⟨⟨by have:=hr.1.1;omega,hr.1.2⟩,hr.2⟩
 refine Tot.ite (fun y => ?_) (fun nl => ?_)
 ·have:=isF_le y
  exact (hl_T hs hg (lev:=fun k l d a o b => levF k s l d a o b) this (by rw [e1];exact hl _ o hd30 (by omega) this ho)).mono fun r hr => ⟨⟨by have:=hr.1.1;omega,hr.1.2⟩,hr.2⟩
 refine Tot.ite (fun y => ?_) (fun _ => ?_)
 ·have:=isF_le y
  exact (bank_T hs hg h0 y ho).mono fun r hr => ⟨⟨by have:=hr.1.1;omega,hr.1.2⟩,hr.2⟩
 refine Tot.ite (fun y => ?_) (fun _ => ?_)
 ·have:=isF_le y
  exact (br_T hs hg (lev:=fun k l d a o b => levF k s l d a o b) this (by rw [e1];exact hl _ o hd30 (by omega) this ho)).mono fun r hr => ⟨⟨by have:=hr.1.1;omega,hr.1.2⟩,hr.2⟩
 refine Tot.ite (fun y => ?_) (fun _ => ?_)
 ·have:=isF_le y
  exact (tail_T hs hg (by decide) _ (by omega) this ho (fun h => by cases h)).mono fun r hr => ⟨⟨by have:=hr.1.1;omega,hr.1.2⟩,hr.2⟩
 refine Tot.ite (fun y => ?_) (fun _ => ?_)
 ·have:=isF_le y
  exact (tail_T hs hg (by decide) _ (by omega) this ho (fun h => by cases h)).mono fun r hr => ⟨⟨by have:=hr.1.1;omega,hr.1.2⟩,hr.2⟩
 exact tail_T hs hg (by decide) _ h0 h1 ho (fun _ => ⟨by simpa using nh,by simpa using nl⟩)
theorem lvl_T (x:Int):Tot (fun k => spec_l2Level.f k x) (fun r => 1 ≤ r ∧ r ≤ 6):=by
 unfold spec_l2Level.f
 have j2:∀ (y:Int) (b:Bool),Tot (fun k => spec_l2Level.j2 k y b) (fun r => 1 ≤ r ∧ r ≤ 6):=by
  intro y b
  refine Tot.step (fun k => spec_l2Level.j2.eq_2 _ _ k) ?_
  repeat' first
   | (refine Tot.ite (fun _ => ?_) (fun _ => ?_))
   | (exact Tot.ret (by decide))
 have j1:∀ (y:Int) (b:Bool),Tot (fun k => spec_l2Level.j1 k y b) (fun r => 1 ≤ r ∧ r ≤ 6):=by
  intro y b
  refine Tot.step (fun k => spec_l2Level.j1.eq_2 _ _ k) ?_
  repeat' first
   | (refine Tot.ite (fun _ => ?_) (fun _ => ?_))
   | (exact Tot.ret (by decide))
   | (exact j2 _ _)
 have j0:∀ (y:Int) (b:Bool),Tot (fun k => spec_l2Level.j0 k y b) (fun r => 1 ≤ r ∧ r ≤ 6):=by
  intro y b
  refine Tot.step (fun k => spec_l2Level.j0.eq_2 _ _ k) ?_
  repeat' first
   | (refine Tot.ite (fun _ => ?_) (fun _ => ?_))
   | (exact Tot.ret (by decide))
   | (exact j1 _ _)
   | (exact j2 _ _)
 repeat' first
  | (refine Tot.ite (fun _ => ?_) (fun _ => ?_))
  | (exact j0 _ _)
theorem W18_pos:∀ i:Fin 10,1 ≤ (rdOf ByteArray.empty W18 ((i.val:Int) + 8)).size:=by decide
/-- A level,where a value there and a level further in are told. -/
theorem lev_T {deep:Int} (hw:-1000 ≤ deep ∧ deep ≤ 31) (hv:∀ (a:Int) (o:List EN) (b:Bool),0 ≤ a → a ≤ (s.size:Int) → Nod s o → Tot (fun k => valF k s deep a o b) (fun r => Res s a r ∧ (30 < deep → r.2.2 = true))) (hl:∀ (least a:Int) (o:List EN),deep ≤ 30 → 0 ≤ a → a ≤ (s.size:Int) → Nod s o → Tot (fun k => levF k s least (deep + 1) a o false) (Res s a)) :
  ∀ (least a:Int) (o:List EN) (b:Bool),0 ≤ a → a ≤ (s.size:Int) → Nod s o → Tot (fun k => levF k s least deep a o b) (Res s a):=by
 have e1:wrap64 (deep + 1) = deep + 1:=w64_in (by omega) (by omega)
 intro least
 have loop:∀ (d:Nat) (a:Int) (o:List EN) (b:Bool),((s.size:Int) - a).toNat = d → 0 ≤ a → a ≤ (s.size:Int) → Nod s o → (30 < deep → b = true) → Tot (fun k => levL k s least deep a o b) (Res s a):=by
  intro d
  induction d using Nat.strongRecOn with
  | _ d ih =>
   intro a o b hd h0 h1 ho hb
   refine Tot.step (fun k => levL.eq_2 _ _ _ _ _ _ k) ?_
   refine Tot.ite (fun _ => Tot.ret ⟨⟨Int.le_refl _,h1⟩,ho⟩) (fun cb => ?_)
   have hd30:deep ≤ 30:=by
    rcases Int.lt_or_le 30 deep with c | c
    ·exact absurd (hb c) cb
    ·exact c
   refine Tot.ite (fun _ => Tot.ret ⟨⟨Int.le_refl _,h1⟩,ho⟩) (fun cx => ?_)
   have hro:=opF_range s a 10 (Nat.le_refl _)
   generalize opF s a 10 = x at cx hro ⊢
   obtain ⟨x0,x1,xf⟩:8 ≤ x ∧ x ≤ 17 ∧ isF s a (rdOf ByteArray.empty W18 x) = true:=hro.resolve_left cx
   have hle:=isF_le xf
   have hpos:1 ≤ (rdOf ByteArray.empty W18 x).size:=by
    have:=W18_pos hs hg ⟨(x - 8).toNat,by omega⟩
    rwa [show (((x - 8).toNat:Nat):Int) + 8 = x by omega] at this
   refine Tot.bind (lvl_T hs hg x) fun lv hlv => Tot.ite (fun _ => Tot.ret ⟨⟨Int.le_refl _,h1⟩,ho⟩) (fun _ => ?_)
   rw [e1]
   refine Tot.bind (hl _ _ o hd30 (by omega) hle ho) fun r hr => ?_
   have hr1:=hr.1
   refine (ih ((s.size:Int) - r.1).toNat (by omega) r.1 _ _ rfl (by omega) hr1.2 (nod_put _ _ _ (emp_in s) hr.2 _) (fun c => by omega)).mono fun q hq => ⟨⟨by have:=hq.1.1;omega,hq.1.2⟩,hq.2⟩
 intro a o b h0 h1 ho
 refine Tot.step (fun k => levF.eq_2 _ _ _ _ _ _ k) (Tot.bind (hv a o b h0 h1 ho) fun r hr => ?_)
 exact (loop _ r.1 r.2.1 r.2.2 rfl (by have:=hr.1.1.1;omega) hr.1.1.2 hr.1.2 hr.2).mono fun q hq => ⟨⟨by have:=hq.1.1;have:=hr.1.1.1;omega,hq.1.2⟩,hq.2⟩
theorem val_deep {deep:Int} (hd:30 < deep):∀ (a:Int) (o:List EN) (b:Bool),0 ≤ a → a ≤ (s.size:Int) → Nod s o → Tot (fun k => valF k s deep a o b) (fun r => Res s a r ∧ (30 < deep → r.2.2 = true)):=by
 intro a o b h0 h1 ho
 refine Tot.step (fun k => valF.eq_2 _ _ _ _ _ k) ?_
 unfold valG
 exact Tot.yes hd (Tot.ret ⟨⟨⟨Int.le_refl _,h1⟩,ho⟩,fun _ => rfl⟩)
theorem both_T:∀ (n:Nat) (deep:Int),deep + n = 31 → -1000 ≤ deep → (∀ (a:Int) (o:List EN) (b:Bool),0 ≤ a → a ≤ (s.size:Int) → Nod s o → Tot (fun k => valF k s deep a o b) (fun r => Res s a r ∧ (30 < deep → r.2.2 = true))) ∧ (∀ (least a:Int) (o:List EN) (b:Bool),0 ≤ a → a ≤ (s.size:Int) → Nod s o → Tot (fun k => levF k s least deep a o b) (Res s a)):=by
 intro n
 induction n with
 | zero =>
  intro deep hd hw
  have hv:=val_deep hs hg (deep:=deep) (by omega)
  exact ⟨hv,lev_T hs hg ⟨hw,by omega⟩ hv (fun _ _ _ c => by omega)⟩
 | succ n ih =>
  intro deep hd hw
  obtain ⟨iv,il⟩:=ih (deep + 1) (by omega) (by omega)
  have hv:∀ (a:Int) (o:List EN) (b:Bool),0 ≤ a → a ≤ (s.size:Int) → Nod s o → Tot (fun k => valF k s deep a o b) (fun r => Res s a r ∧ (30 < deep → r.2.2 = true)):=fun a o b h0 h1 ho =>
   (val_T hs hg (n:=n + 1) hd (fun a o _ h0 h1 ho => (iv a o false h0 h1 ho).mono fun _ h => h.1) (fun a o _ h0 h1 ho => il 1 a o false h0 h1 ho) hw a o b h0 h1 ho).mono fun r hr => ⟨hr,fun c => by omega⟩
  exact ⟨hv,lev_T hs hg ⟨hw,by omega⟩ hv (fun least a o _ h0 h1 ho => il least a o false h0 h1 ho)⟩
end
/-! ### is an expression right: the reference's -/
theorem inS (a lo hi:Int):spec_l1In.f a lo hi = some (decide (lo ≤ a ∧ a ≤ hi)):=by
 unfold spec_l1In.f
 by_cases h:a ≥ lo
 ·rw [if_pos h];simp [show lo ≤ a from h]
 ·rw [if_neg h];simp [show ¬ lo ≤ a from h]
def NodeG (a b:Int) (c:ByteArray):Prop:=(a = 1 ∧ (0 ≤ b ∧ b ≤ 65535) ∧ c.size = 0) ∨ ((a = 2 ∨ a = 3) ∧ b = 0 ∧ NameG c) ∨ ((4 ≤ a ∧ a ≤ 17) ∧ b = 0 ∧ c.size = 0)
theorem takesS (a:Int):spec_l2Takes.f a = some (if 1 ≤ a ∧ a ≤ 3 then 0 else if 4 ≤ a ∧ a ≤ 7 then 1 else if 8 ≤ a ∧ a ≤ 17 then 2 else -1):=by
 unfold spec_l2Takes.f
 rw [inS,inS,inS]
 simp only [Option.bind_some,decide_eq_true_eq]
 split
 ·rfl
 ·split
  ·rfl
  ·split <;> rfl
theorem nodeS_T (a b:Int) (c:ByteArray) (hc:c.size ≤ 1000000):Tot (fun k => spec_l2Node.f k a b c) (fun t => t = true ↔ NodeG a b c):=by
 have j0:∀ t:Bool,a ≠ 1 → (t = true ↔ a = 2 ∨ a = 3) → Tot (fun k => spec_l2Node.j0 k t a b c) (fun t => t = true ↔ NodeG a b c):=by
  intro t h1 ht
  refine Tot.step (fun k => spec_l2Node.j0.eq_2 _ _ _ _ k) (Tot.ite (fun e => ?_) (fun e => ?_))
  ·have h2:=ht.1 e
   refine Tot.ite (fun eb => ?_) (fun eb => Tot.ret (Iff.intro (fun x => by cases x) (fun x => ?_)))
   ·refine Tot.bind (nameS_T c hc) fun q hq => Tot.ret ?_
    rw [hq]
    refine Iff.intro (fun n => .inr (.inl ⟨h2,eb,n⟩)) (fun x => ?_)
    rcases x with x | x | x
    ·exact absurd x.1 h1
    ·exact x.2.2
    ·omega
   ·rcases x with x | x | x
    ·exact absurd x.1 h1
    ·exact absurd x.2.1 eb
    ·exact absurd x.2.1 eb
  ·have h2:¬ (a = 2 ∨ a = 3):=fun x => e (ht.2 x)
   have no:∀ y:Prop,(NodeG a b c → y) → (¬ y) → Tot (fun _ => some false) (fun t => t = true ↔ NodeG a b c):=fun y h n => Tot.ret (Iff.intro (fun x => by cases x) (fun x => absurd (h x) n))
   refine Tot.ite (fun eb => ?_) (fun eb => no (b = 0) (fun x => ?_) eb)
   ·refine Tot.ite (fun ec => ?_) (fun ec => no (c.size = 0) (fun x => ?_) (fun z => ec ((size0 c).2 z)))
    ·refine Tot.bind (Tot.of (takesS a) rfl) ?_
     rintro _ rfl
     refine Tot.ret ?_
     rw [decide_eq_true_eq]
     have hcs:=(size0 c).1 ec
     refine Iff.intro (fun x => ?_) (fun x => ?_)
     ·refine .inr (.inr ⟨?_,eb,hcs⟩)
      split at x
      ·omega
      ·split at x
       ·omega
       ·split at x
        ·omega
        ·omega
     ·rcases x with x | x | x
      ·exact absurd x.1 h1
      ·exact absurd x.1 h2
      ·rw [if_neg (by omega)]
       by_cases h7:4 ≤ a ∧ a ≤ 7
       ·rw [if_pos h7];decide
       ·rw [if_neg h7,if_pos (by omega)];decide
    ·rcases x with x | x | x
     ·exact absurd x.1 h1
     ·exact absurd x.1 h2
     ·exact x.2.2
   ·rcases x with x | x | x
    ·exact absurd x.1 h1
    ·exact x.2.1
    ·exact x.2.1
 unfold spec_l2Node.f
 refine Tot.ite (fun e => ?_) (fun e => Tot.ite (fun e2 => j0 _ e (by simp [e2])) (fun e2 => j0 _ e (by simp [e2])))
 refine Tot.bind (Tot.of (inS _ _ _) rfl) ?_
 rintro _ rfl
 refine Tot.ite (fun q => Tot.ret ?_) (fun q => Tot.ret (Iff.intro (fun x => by cases x) (fun x => ?_)))
 ·rw [beq_iff_eq,size0]
  refine Iff.intro (fun z => .inl ⟨e,of_decide_eq_true q,z⟩) (fun x => ?_)
  rcases x with x | x | x
  ·exact x.2.2
  ·omega
  ·exact x.2.2
 ·rcases x with x | x | x
  ·exact absurd (decide_eq_true x.2.1) q
  ·omega
  ·omega
/-- From a place on,with so many values at hand. -/
def okFrom:Int → List S43 → Prop
 | h,[] => h = 1
 | h,x :: l => NodeG x.f0 x.f1 x.f2 ∧ (if x.f0 ≤ 3 then okFrom (h + 1) l else if x.f0 ≤ 7 then 1 ≤ h ∧ okFrom h l else 2 ≤ h ∧ okFrom (h - 1) l)
def OkE (e:List S43):Prop:=e.length ≤ 30 ∧ okFrom 0 e
/-- The nodes' names can be looked at. -/
def SeenE (e:List S43):Prop:=e.length ≤ 1000000 ∧ ∀ x ∈ e,x.f2.size ≤ 1000000
theorem rdE_at {l:List S43} {i:Nat} (h:i < l.length):rd_T43 l (i:Int) = l[i]:=by
 unfold rd_T43
 rw [Int.toNat_natCast,List.getD_eq_getElem?_getD,List.getElem?_eq_getElem h]
 rfl
theorem drop_at {l:List S43} {i:Nat} (h:i < l.length):l.drop i = rd_T43 l (i:Int) :: l.drop (i + 1):=by
 rw [rdE_at h];exact List.drop_eq_getElem_cons h
theorem SeenE.at {l:List S43} (h:SeenE l) {i:Nat} (hi:i < l.length):(rd_T43 l (i:Int)).f2.size ≤ 1000000:=by
 rw [rdE_at hi];exact h.2 _ (List.getElem_mem _)
theorem exS_T {e:List S43} (hs:SeenE e):Tot (fun k => spec_ExprOk.f k e) (fun t => t = true ↔ OkE e):=by
 have hlen:=hs.1
 have go:∀ (d i:Nat) (h:Int),e.length - i = d → i ≤ e.length → 0 ≤ h → h ≤ (i:Int) → Tot (fun k => spec_ExprOk.l0 k e h (i:Int)) (fun t => t = true ↔ e.length ≤ 30 ∧ okFrom h (e.drop i)):=by
  intro d
  induction d with
  | zero =>
   intro i h h1 h2 h3 h4
   refine Tot.step (fun k => spec_ExprOk.l0.eq_2 _ _ _ k) (Tot.no (by omega) ?_)
   rw [List.drop_eq_nil_of_le (by omega)]
   refine Tot.ite (fun c => Tot.ret ?_) (fun c => Tot.ret (Iff.intro (fun x => by cases x) (fun x => by omega)))
   rw [beq_iff_eq]
   exact ⟨fun x => ⟨by omega,x⟩,fun x => x.2⟩
  | succ d ih =>
   intro i h h1 h2 h3 h4
   have hil:i < e.length:=by omega
   refine Tot.step (fun k => spec_ExprOk.l0.eq_2 _ _ _ k) (Tot.yes (by omega) (Tot.yes (by omega) ?_))
   rw [drop_at hil]
   refine Tot.bind (nodeS_T _ _ _ (hs.at hil)) fun t ht => Tot.ite (fun c => ?_) (fun c => Tot.ret (Iff.intro (fun x => by cases x) (fun x => absurd (ht.2 x.2.1) c)))
   have hn:=ht.1 c
   have hr:1 ≤ (rd_T43 e (i:Int)).f0 ∧ (rd_T43 e (i:Int)).f0 ≤ 17:=by
    rcases hn with x | x | x <;> omega
   refine Tot.bind (Tot.of (takesS _) rfl) ?_
   rintro _ rfl
   have e1:wrap64 ((i:Int) + 1) = ((i + 1:Nat):Int):=by rw [w64_in (by omega) (by omega)];rfl
   generalize rd_T43 e (i:Int) = x at hn hr ⊢
   have key:∀ (t h':Int),(if 1 ≤ x.f0 ∧ x.f0 ≤ 3 then (0:Int) else if 4 ≤ x.f0 ∧ x.f0 ≤ 7 then 1 else if 8 ≤ x.f0 ∧ x.f0 ≤ 17 then 2 else -1) = t → h' = h - t + 1 → (0 ≤ t ∧ t ≤ 2) → (t ≤ h → (okFrom h (x :: e.drop (i + 1)) ↔ okFrom h' (e.drop (i + 1)))) → (h < t → ¬ okFrom h (x :: e.drop (i + 1))) →
     Tot (fun k => if (if 1 ≤ x.f0 ∧ x.f0 ≤ 3 then (0:Int) else if 4 ≤ x.f0 ∧ x.f0 ≤ 7 then 1 else if 8 ≤ x.f0 ∧ x.f0 ≤ 17 then 2 else -1) > h then some false else (spec_l2Takes.f x.f0).bind fun t235 => spec_ExprOk.l0 k e (wrap64 (wrap64 (h - t235) + 1)) (wrap64 ((i:Int) + 1))) (fun t => t = true ↔ e.length ≤ 30 ∧ okFrom h (x :: e.drop (i + 1))):=by
    intro t h' et eh tb h5 h6
    rw [et]
    refine Tot.ite (fun c => Tot.ret (Iff.intro (fun y => by cases y) (fun y => absurd y.2 (h6 c)))) (fun c => ?_)
    refine Tot.bind (Tot.of (takesS _) rfl) ?_
    rintro _ rfl
    rw [et,w64_in (n:=h - t) (by omega) (by omega),w64_in (n:=h - t + 1) (by omega) (by omega),e1,← eh,h5 (by omega)]
    exact ih (i + 1) h' (by omega) (by omega) (by omega) (by omega)
   by_cases c3:x.f0 ≤ 3
   ·refine key 0 (h + 1) (by rw [if_pos (by omega)]) (by omega) (by decide) (fun _ => ?_) (fun c => ?_)
    ·rw [okFrom,if_pos c3];exact ⟨fun y => y.2,fun y => ⟨hn,y⟩⟩
    ·omega
   ·by_cases c7:x.f0 ≤ 7
    ·refine key 1 h (by rw [if_neg (by omega),if_pos (by omega)]) (by omega) (by decide) (fun c => ?_) (fun c => ?_)
     ·rw [okFrom,if_neg c3,if_pos c7];exact ⟨fun y => y.2.2,fun y => ⟨hn,c,y⟩⟩
     ·rw [okFrom,if_neg c3,if_pos c7];exact fun y => by have:=y.2.1;omega
    ·refine key 2 (h - 1) (by rw [if_neg (by omega),if_neg (by omega),if_pos (by omega)]) (by omega) (by decide) (fun c => ?_) (fun c => ?_)
     ·rw [okFrom,if_neg c3,if_neg c7];exact ⟨fun y => y.2.2,fun y => ⟨hn,c,y⟩⟩
     ·rw [okFrom,if_neg c3,if_neg c7];exact fun y => by have:=y.2.1;omega
 unfold spec_ExprOk.f
 exact go _ 0 0 rfl (Nat.zero_le _) (by decide) (by decide)
theorem okE_ne {e:List EN} (h:OkE e):1 ≤ e.length:=by
 rcases e with _ | ⟨x,l⟩
 ·exact absurd (show (0:Int) = 1 from h.2) (by decide)
 ·simp
/-- What Compiled tells: nodes that can be looked at;one at least,where it says so. -/
theorem compiled_T {s:ByteArray} (hs:s.size ≤ 1000) (hg:gd s.data.toList = true):Tot (fun k => spec_Compiled.f k s) (fun r => Nod s r.1 ∧ (r.2 = true → 1 ≤ r.1.length)):=by
 unfold spec_Compiled.f
 refine Tot.yes (by omega) (Tot.ite (fun _ => Tot.ret ⟨(nod_nil s),fun e => by cases e⟩) (fun _ => ?_))
 refine Tot.bind ((both_T hs hg 30 1 rfl (by decide)).2 1 0 [] false (Int.le_refl _) (by omega) (nod_nil s)) fun r hr => ?_
 refine Tot.ite (fun _ => Tot.ret ⟨(nod_nil s),fun e => by cases e⟩) (fun _ => Tot.ite (fun _ => ?_) (fun _ => Tot.ret ⟨(nod_nil s),fun e => by cases e⟩))
 refine Tot.bind (exS_T ⟨by have:=hr.2.1;omega,fun x hx => by have:=(hr.2.2 x hx).1;omega⟩) fun t ht => Tot.ite (fun c => Tot.ret ⟨hr.2,fun _ => okE_ne (ht.1 c)⟩) (fun _ => Tot.ret ⟨(nod_nil s),fun e => by cases e⟩)
end Go.Proofs.YtabbdfchibjndaaGreatDoor.XEx1
