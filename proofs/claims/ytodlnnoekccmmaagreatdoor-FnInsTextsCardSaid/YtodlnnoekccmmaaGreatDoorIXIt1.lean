import Derived.Test.YtodlnnoekccmmaaGreatDoorIQFnInsTextsx
import Derived.Test.YtodlnnoekccmmaaGreatDoorILib
namespace Go.Proofs.YtodlnnoekccmmaaGreatDoor.XIt
open Go.RowKit Go.Proofs.YtodlnnoekccmmaaGreatDoor.QFnInsTexts Go.Proofs.YtodlnnoekccmmaaGreatDoorW.PrintWords Go.Proofs.YtodlnnoekccmmaaGreatDoorW.PrintLast Go.Proofs.YtodlnnoekccmmaaGreatDoorW.PrintMore Go.Proofs.YtodlnnoekccmmaaGreatDoor.Lib Go.Proofs.YtodlnnoekccmmaaGreatDoor.LibX Go.Proofs.YtodlnnoekccmmaaGreatDoor.LibE
set_option linter.unusedSimpArgs false
set_option linter.unusedVariables false
/-- From some number of rounds on it answers one and the same,and P holds of the answer. -/
def Tot {α:Type} (g:Nat → Option α) (P:α → Prop):Prop:=∃ K r,P r ∧ ∀ k,K ≤ k → g k = some r
theorem Tot.ret {α:Type} {r:α} {P:α → Prop} (h:P r):Tot (fun _ => some r) P:=⟨0,r,h,fun _ _ => rfl⟩
theorem Tot.of {α:Type} {g:Option α} {r:α} {P:α → Prop} (e:g = some r) (h:P r):Tot (fun _ => g) P:=⟨0,r,h,fun _ _ => e⟩
theorem Tot.bind {α β:Type} {g:Nat → Option α} {f:Nat → α → Option β} {P:α → Prop} {Q:β → Prop} (h:Tot g P) (hf:∀ a,P a → Tot (fun k => f k a) Q):Tot (fun k => (g k).bind (f k)) Q:=by
 obtain ⟨K,a,ha,hg⟩:=h
 obtain ⟨L,r,hr,hk⟩:=hf a ha
 exact ⟨max K L,r,hr,fun k hk' => by show (g k).bind (f k) = some r;rw [hg k (by omega)];exact hk k (by omega)⟩
theorem Tot.ite {α:Type} {c:Prop} [Decidable c] {g f:Nat → Option α} {P:α → Prop} (h1:c → Tot g P) (h2:¬ c → Tot f P):Tot (fun k => if c then g k else f k) P:=by
 by_cases h:c
 ·obtain ⟨K,r,hr,hk⟩:=h1 h
  exact ⟨K,r,hr,fun k hk' => by show (if c then g k else f k) = some r;rw [if_pos h];exact hk k hk'⟩
 ·obtain ⟨K,r,hr,hk⟩:=h2 h
  exact ⟨K,r,hr,fun k hk' => by show (if c then g k else f k) = some r;rw [if_neg h];exact hk k hk'⟩
theorem Tot.yes {α:Type} {c:Prop} [Decidable c] {g f:Nat → Option α} {P:α → Prop} (h:c) (h1:Tot g P):Tot (fun k => if c then g k else f k) P:=Tot.ite (fun _ => h1) (fun n => absurd h n)
theorem Tot.no {α:Type} {c:Prop} [Decidable c] {g f:Nat → Option α} {P:α → Prop} (h:¬ c) (h1:Tot f P):Tot (fun k => if c then g k else f k) P:=Tot.ite (fun n => absurd n h) (fun _ => h1)
theorem Tot.mono {α:Type} {g:Nat → Option α} {P Q:α → Prop} (h:Tot g P) (hi:∀ a,P a → Q a):Tot g Q:=by
 obtain ⟨K,r,hr,hk⟩:=h
 exact ⟨K,r,hi r hr,hk⟩
theorem Tot.step {α:Type} {g f:Nat → Option α} {P:α → Prop} (h:∀ k,g (k + 1) = f k) (hf:Tot f P):Tot g P:=by
 obtain ⟨K,r,hr,hk⟩:=hf
 exact ⟨K + 1,r,hr,fun k hk' => by obtain ⟨m,rfl⟩:∃ m,k = m + 1:=⟨k - 1,by omega⟩;rw [h];exact hk m (by omega)⟩
theorem Tot.lift {α:Type} {g:Nat → Option α} {P:α → Prop} (hm:∀ k,LeO (g k) (g (k + 1))) {k:Nat} {r:α} (e:g k = some r) (h:P r):Tot g P:=⟨k,r,h,fun _ hk => at_rounds hm hk e⟩
theorem Tot.congr {α:Type} {g f:Nat → Option α} {P:α → Prop} (h:∀ k,g k = f k) (hf:Tot f P):Tot g P:=by
 obtain ⟨K,r,hr,hk⟩:=hf
 exact ⟨K,r,hr,fun k hk' => (h k).trans (hk k hk')⟩
theorem Tot.eq {α:Type} {g:Nat → Option α} {r:α} (h:Tot g (fun x => x = r)):∃ K,∀ k,K ≤ k → g k = some r:=by
 obtain ⟨K,x,hx,hk⟩:=h
 subst hx
 exact ⟨K,hk⟩
theorem Tot.done {g:Nat → Option Bool} (h:Tot g (fun x => x = true)):∃ k,g k = some true:=by
 obtain ⟨K,hk⟩:=h.eq
 exact ⟨K,hk K (Nat.le_refl _)⟩
theorem all256 {P:Int → Prop} (h:∀ n:Fin 256,P ((n.val:Nat):Int)) {n:Int} (h0:0 ≤ n) (h1:n < 256):P n:=by
 have:=h ⟨n.toNat,by omega⟩
 rwa [show ((n.toNat:Nat):Int) = n by omega] at this
def vI (o:Option Int):Int:=o.getD (-1)
def vS (o:Option ByteArray):ByteArray:=o.getD ⟨#[]⟩
/-! ### the codes: what each of the 512 templates is,by the kernel's run -/
def tm (cb:Bool) (n:Int):ByteArray:=vS (impl_TemplateOf.f 40 n cb)
/-- 0: there is no such instruction;1: no hole;2: n8;3: e8;4: n16. -/
def hk (cb:Bool) (n:Int):Nat :=
 if (tm cb n).size = 0 then 0 else
 match impl_holeOf.f 40 (tm cb n) with
 | some h => if h = ⟨#[110,56]⟩ then 2 else if h = ⟨#[101,56]⟩ then 3 else if h = ⟨#[110,49,54]⟩ then 4 else 1
 | none => 9
def holeS (h:Nat):ByteArray:=if h = 2 then ⟨#[110,56]⟩ else if h = 3 then ⟨#[101,56]⟩ else if h = 4 then ⟨#[110,49,54]⟩ else ⟨#[]⟩
def lenK (cb:Bool) (h:Nat):Int:=if h = 0 then 0 else if cb = true then 2 else if h = 1 then 1 else if h = 4 then 3 else 2
/-- Where the hole of a template stands. -/
def hp (cb:Bool) (n:Int):Int:=match spec_l3Hole.f 40 (tm cb n) with
 | some r => r.1
 | none => -2
def QC (cb:Bool) (n:Int):Prop :=
 impl_TemplateOf.f 40 n cb = some (tm cb n) ∧ spec_l3Template.f 40 n cb = some (tm cb n) ∧ ((tm cb n).size = 0 ↔ hk cb n = 0) ∧ hk cb n ≤ 4 ∧
 impl_holeOf.f 40 (tm cb n) = some (holeS (hk cb n)) ∧ spec_l3Hole.f 40 (tm cb n) = some (hp cb n,holeS (hk cb n)) ∧ (cb = true → hk cb n = 1) ∧ (tm cb n).size ≤ 24 ∧ (cb = false → n = 203 → hk cb n = 0)
instance (cb:Bool) (n:Int):Decidable (QC cb n):=by unfold QC;infer_instance
set_option maxRecDepth 100000 in
theorem qc1:∀ n:Fin 256,QC true ((n.val:Nat):Int):=by decide +kernel
set_option maxRecDepth 100000 in
theorem qc0:∀ n:Fin 256,QC false ((n.val:Nat):Int):=by decide +kernel
theorem qc (cb:Bool) {n:Int} (h0:0 ≤ n) (h1:n < 256):QC cb n:=by
 cases cb
 ·exact all256 qc0 h0 h1
 ·exact all256 qc1 h0 h1
theorem toL (a:ByteArray):a.toList = a.data.toList:=ByteArray.toList_eq a
theorem nil_size (a:ByteArray):a.toList = ([]:List UInt8) ↔ a.size = 0:=by
 rw [toL]
 constructor
 ·intro h
  have:=congrArg List.length h
  rwa [Array.length_toList] at this
 ·intro h
  exact List.eq_nil_of_length_eq_zero (by rw [Array.length_toList];exact h)
theorem holeS_nil (h:Nat) (hh:h ≤ 4):(holeS h).toList = ([]:List UInt8) ↔ h ≤ 1:=by
 rw [toL]
 rcases (show h = 0 ∨ h = 1 ∨ h = 2 ∨ h = 3 ∨ h = 4 by omega) with rfl | rfl | rfl | rfl | rfl <;> decide
theorem holeS_n16 (h:Nat) (hh:h ≤ 4):(holeS h).toList = ([110,49,54]:List UInt8) ↔ h = 4:=by
 rw [toL]
 rcases (show h = 0 ∨ h = 1 ∨ h = 2 ∨ h = 3 ∨ h = 4 by omega) with rfl | rfl | rfl | rfl | rfl <;> decide
theorem holeS_n8 (h:Nat) (hh:h ≤ 4):(holeS h).toList = ([110,56]:List UInt8) ↔ h = 2:=by
 rw [toL]
 rcases (show h = 0 ∨ h = 1 ∨ h = 2 ∨ h = 3 ∨ h = 4 by omega) with rfl | rfl | rfl | rfl | rfl <;> decide
theorem holeS_e8 (h:Nat) (hh:h ≤ 4):(holeS h).toList = ([101,56]:List UInt8) ↔ h = 3:=by
 rw [toL]
 rcases (show h = 0 ∨ h = 1 ∨ h = 2 ∨ h = 3 ∨ h = 4 by omega) with rfl | rfl | rfl | rfl | rfl <;> decide
theorem tmI_T (cb:Bool) {n:Int} (h0:0 ≤ n) (h1:n < 256):Tot (fun k => impl_TemplateOf.f k n cb) (· = tm cb n) :=
 Tot.lift (fun k => impl_TemplateOf.mono _ _ k) (qc cb h0 h1).1 rfl
theorem tmS_T (cb:Bool) {n:Int} (h0:0 ≤ n) (h1:n < 256):Tot (fun k => spec_l3Template.f k n cb) (· = tm cb n) :=
 Tot.lift (fun k => spec_l3Template.mono _ _ k) (qc cb h0 h1).2.1 rfl
theorem hoI_T (cb:Bool) {n:Int} (h0:0 ≤ n) (h1:n < 256):Tot (fun k => impl_holeOf.f k (tm cb n)) (· = holeS (hk cb n)) :=
 Tot.lift (fun k => impl_holeOf.mono _ k) (qc cb h0 h1).2.2.2.2.1 rfl
theorem hoS_T (cb:Bool) {n:Int} (h0:0 ≤ n) (h1:n < 256):Tot (fun k => spec_l3Hole.f k (tm cb n)) (· = (hp cb n,holeS (hk cb n))) :=
 Tot.lift (fun k => spec_l3Hole.mono _ k) (qc cb h0 h1).2.2.2.2.2.1 rfl
theorem hk_le (cb:Bool) {n:Int} (h0:0 ≤ n) (h1:n < 256):hk cb n ≤ 4:=(qc cb h0 h1).2.2.2.1
theorem tm_nil (cb:Bool) {n:Int} (h0:0 ≤ n) (h1:n < 256):(tm cb n).toList = ([]:List UInt8) ↔ hk cb n = 0:=(nil_size _).trans (qc cb h0 h1).2.2.1
theorem hk_cb {n:Int} (h0:0 ≤ n) (h1:n < 256):hk true n = 1:=(qc true h0 h1).2.2.2.2.2.2.1 rfl
theorem hk_203:hk false 203 = 0:=(qc false (n:=203) (by decide) (by decide)).2.2.2.2.2.2.2.2 rfl rfl
theorem withinI (a lo hi:Int):impl_within.f a lo hi = some (decide (lo ≤ a ∧ a ≤ hi)):=by
 unfold impl_within.f
 by_cases h:a ≥ lo
 ·rw [if_pos h];simp [show lo ≤ a from h]
 ·rw [if_neg h];simp [show ¬ lo ≤ a from h]
theorem inS (a lo hi:Int):spec_l1In.f a lo hi = some (decide (lo ≤ a ∧ a ≤ hi)):=by
 unfold spec_l1In.f
 by_cases h:a ≥ lo
 ·rw [if_pos h];simp [show lo ≤ a from h]
 ·rw [if_neg h];simp [show ¬ lo ≤ a from h]
theorem byteI (a:Int):impl_isByte.f a = some (decide (0 ≤ a ∧ a ≤ 255)):=by unfold impl_isByte.f;rw [withinI];rfl
theorem wordI (a:Int):impl_isWord.f a = some (decide (0 ≤ a ∧ a ≤ 65535)):=by unfold impl_isWord.f;rw [withinI];rfl
theorem lenS3_T (cb:Bool) {n:Int} (h0:0 ≤ n) (h1:n < 256):Tot (fun k => spec_l3Length.f k n cb) (· = lenK cb (hk cb n)):=by
 have hle:=hk_le cb h0 h1
 unfold spec_l3Length.f
 refine Tot.bind (tmS_T cb h0 h1) ?_
 rintro _ rfl
 unfold lenK
 refine Tot.ite (fun h => Tot.ret (by rw [if_pos ((tm_nil cb h0 h1).1 h)])) (fun h => ?_)
 have hne:hk cb n ≠ 0:=fun e => h ((tm_nil cb h0 h1).2 e)
 rw [if_neg hne]
 refine Tot.ite (fun hc => Tot.ret (by rw [if_pos hc])) (fun hc => ?_)
 rw [if_neg hc]
 refine Tot.bind (hoS_T cb h0 h1) ?_
 rintro _ rfl
 refine Tot.ite (fun hz => Tot.ret ?_) (fun hz => ?_)
 ·have:=(holeS_nil _ hle).1 hz
  rw [if_pos (by omega)]
 have gz:¬ hk cb n ≤ 1:=fun e => hz ((holeS_nil _ hle).2 e)
 have g1:¬ hk cb n = 1:=by omega
 rw [if_neg g1]
 refine Tot.ite (fun hw => Tot.ret ?_) (fun hw => Tot.ret ?_)
 ·rw [if_pos ((holeS_n16 _ hle).1 hw)]
 ·rw [if_neg (fun e => hw ((holeS_n16 _ hle).2 e))]
/-- Is an instruction right? -/
def okV (h:Nat) (m:Int):Bool:=if h = 0 then false else if h = 1 then decide (m = 0) else if h = 4 then decide (0 ≤ m ∧ m ≤ 65535) else decide (0 ≤ m ∧ m ≤ 255)
theorem lenS_T (cb:Bool) {n:Int} (h0:0 ≤ n) (h1:n < 256):Tot (fun k => spec_LengthOf.f k n cb) (· = lenK cb (hk cb n)):=by
 unfold spec_LengthOf.f
 refine Tot.bind (Tot.of (inS _ _ _) rfl) ?_
 rintro _ rfl
 refine Tot.yes (decide_eq_true ⟨h0,by omega⟩) ?_
 exact Tot.bind (lenS3_T cb h0 h1) (fun _ h => Tot.ret h)
theorem okI_T (cb:Bool) {n:Int} (h0:0 ≤ n) (h1:n < 256) (m:Int):Tot (fun k => impl_InsOk.f k n cb m) (· = okV (hk cb n) m):=by
 have hle:=hk_le cb h0 h1
 unfold impl_InsOk.f okV
 refine Tot.bind (tmI_T cb h0 h1) ?_
 rintro _ rfl
 refine Tot.ite (fun h => Tot.ret (by rw [if_pos ((tm_nil cb h0 h1).1 h)])) (fun h => ?_)
 have hne:hk cb n ≠ 0:=fun e => h ((tm_nil cb h0 h1).2 e)
 rw [if_neg hne]
 refine Tot.bind (hoI_T cb h0 h1) ?_
 rintro _ rfl
 refine Tot.ite (fun hz => Tot.ret ?_) (fun hz => ?_)
 ·have:=(holeS_nil _ hle).1 hz
  rw [if_pos (by omega)]
  by_cases e:m = 0
  ·rw [e];rfl
  ·rw [beq_eq_false_iff_ne.2 e,decide_eq_false e]
 have gz:¬ hk cb n ≤ 1:=fun e => hz ((holeS_nil _ hle).2 e)
 have g1:¬ hk cb n = 1:=by omega
 rw [if_neg g1]
 refine Tot.ite (fun hw => ?_) (fun hw => ?_)
 ·rw [if_pos ((holeS_n16 _ hle).1 hw)]
  refine Tot.bind (Tot.of (wordI m) rfl) ?_
  rintro _ rfl
  exact Tot.ret rfl
 ·rw [if_neg (fun e => hw ((holeS_n16 _ hle).2 e))]
  refine Tot.bind (Tot.of (byteI m) rfl) ?_
  rintro _ rfl
  exact Tot.ret rfl
theorem okS_T (cb:Bool) {n:Int} (h0:0 ≤ n) (h1:n < 256) (m:Int):Tot (fun k => spec_InsOk.f k n cb m) (· = okV (hk cb n) m):=by
 have hle:=hk_le cb h0 h1
 unfold spec_InsOk.f okV
 refine Tot.bind (lenS_T cb h0 h1) ?_
 rintro _ rfl
 unfold lenK
 by_cases hne:hk cb n = 0
 ·rw [if_pos hne,if_pos hne]
  exact Tot.yes rfl (Tot.ret rfl)
 rw [if_neg hne,if_neg hne]
 refine Tot.no (by split <;> (try split) <;> (try split) <;> omega) ?_
 refine Tot.bind (tmS_T cb h0 h1) ?_
 rintro _ rfl
 refine Tot.bind (hoS_T cb h0 h1) ?_
 rintro _ rfl
 refine Tot.ite (fun hw => ?_) (fun hw => ?_)
 ·have:=(holeS_n16 _ hle).1 hw
  rw [if_neg (by omega),if_pos this]
  refine Tot.bind (Tot.of (inS m _ _) rfl) ?_
  rintro _ rfl
  exact Tot.ret rfl
 have gw:hk cb n ≠ 4:=fun e => hw ((holeS_n16 _ hle).2 e)
 have jj:∀ x:Bool,(x = true ↔ (hk cb n = 2 ∨ hk cb n = 3)) → Tot (fun k => spec_InsOk.j0 k x n cb m) (· = (if hk cb n = 1 then decide (m = 0) else if hk cb n = 4 then decide (0 ≤ m ∧ m ≤ 65535) else decide (0 ≤ m ∧ m ≤ 255))):=fun x hx =>
  Tot.step (fun k => spec_InsOk.j0.eq_2 _ _ _ _ k) (Tot.ite (fun h => by
   have:=hx.1 h
   rw [if_neg (by omega),if_neg gw]
   refine Tot.bind (Tot.of (inS m _ _) rfl) ?_
   rintro _ rfl
   exact Tot.ret rfl) (fun h => by
   have:¬ (hk cb n = 2 ∨ hk cb n = 3):=fun e => h (hx.2 e)
   rw [if_pos (by omega)]
   refine Tot.ret ?_
   by_cases e:m = 0
   ·rw [e];rfl
   ·rw [beq_eq_false_iff_ne.2 e,decide_eq_false e]))
 refine Tot.ite (fun h8 => jj _ ?_) (fun h8 => jj _ ?_)
 ·exact ⟨fun _ => .inl ((holeS_n8 _ hle).1 h8),fun _ => beq_iff_eq.2 h8⟩
 ·have g8:hk cb n ≠ 2:=fun e => h8 ((holeS_n8 _ hle).2 e)
  exact ⟨fun e => .inr ((holeS_e8 _ hle).1 (eq_of_beq e)),fun e => beq_iff_eq.2 ((holeS_e8 _ hle).2 (by omega))⟩
theorem str_app (a b:List Int):strOfNums a ++ strOfNums b = strOfNums (a ++ b):=by
 apply ByteArray.ext
 rw [ByteArray.data_append]
 apply Array.ext'
 rw [Array.toList_append,strOfNums_data,strOfNums_data,strOfNums_data,List.map_append]
/-! ### HexOf -/
def upD (v:Int):Int:=if v < 10 then 48 + v else 55 + v
def hexUp (n:Int):Nat → List Int
 | 0 => []
 | k + 1 => upD (n / 16 ^ k % 16) :: hexUp n k
theorem hexUp_length (n:Int) (k:Nat):(hexUp n k).length = k:=by
 induction k with
 | zero => rfl
 | succ k ih => rw [hexUp,List.length_cons,ih]
theorem upD_range:∀ v:Fin 16,48 ≤ upD (v.val:Int) ∧ upD (v.val:Int) ≤ 70:=by decide
theorem upD_byte {v:Int} (h0:0 ≤ v) (h1:v < 16):0 ≤ upD v ∧ upD v < 256:=by
 have:=upD_range ⟨v.toNat,by omega⟩
 rw [show ((v.toNat:Nat):Int) = v by omega] at this
 omega
theorem hexUp_bytes (n:Int) (k:Nat):∀ x ∈ hexUp n k,0 ≤ x ∧ x < 256:=by
 induction k with
 | zero => intro x hx;cases hx
 | succ k ih =>
  intro x hx
  rw [hexUp,List.mem_cons] at hx
  rcases hx with rfl | hx
  ·exact upD_byte (Int.emod_nonneg _ (by decide)) (Int.emod_lt_of_pos _ (by decide))
  ·exact ih x hx
/-- What HexOf tells. -/
def hexV (n d:Int):ByteArray:=if (1 ≤ d ∧ d ≤ 4) ∧ (0 ≤ n ∧ n ≤ 65535) ∧ n < 16 ^ d.toNat then strOfNums (36 :: hexUp n d.toNat) else ⟨#[]⟩
theorem hexV_none {n d:Int} (h:¬ ((1 ≤ d ∧ d ≤ 4) ∧ (0 ≤ n ∧ n ≤ 65535) ∧ n < 16 ^ d.toNat)):hexV n d = ⟨#[]⟩:=by rw [hexV,if_neg h]
def DIG:ByteArray:=⟨#[48,49,50,51,52,53,54,55,56,57,65,66,67,68,69,70]⟩
theorem dig_cut:∀ v:Fin 16,DIG.extract v.val (v.val + 1) = strOfNums [upD (v.val:Int)]:=by decide +kernel
theorem str_cons (a:Int) (L:List Int):strOfNums [a] ++ strOfNums L = strOfNums (a :: L):=str_app [a] L
theorem pow_pos16 (k:Nat):(0:Int) < 16 ^ k:=Int.pow_pos (by decide)
theorem div_step (n:Int) (k:Nat):n / 16 ^ k / 16 = n / 16 ^ (k + 1):=by
 rw [Int.pow_succ,Int.ediv_ediv,if_neg (fun e => by have:=pow_pos16 k;omega)]
 omega
theorem hexS_loop (n:Int) (hn0:0 ≤ n) (hn1:n ≤ 65535) (d:Nat) (hd:d ≤ 4):∀ r i:Nat,i + r = d → Tot (fun k => spec_HexOf.l0 k (n / 16 ^ i) (d:Int) (strOfNums (hexUp n i)) (i:Int)) (· = if n / 16 ^ d > 0 then ⟨#[]⟩ else strOfNums (36 :: hexUp n d)):=by
 intro r
 induction r with
 | zero =>
  intro i hi
  obtain rfl:i = d:=by omega
  refine Tot.step (fun k => spec_HexOf.l0.eq_2 _ _ _ _ k) (Tot.no (by omega) ?_)
  refine Tot.ite (fun h => Tot.ret (by rw [if_pos h])) (fun h => ?_)
  refine Tot.yes (by rw [strOfNums_size,hexUp_length];omega) (Tot.ret ?_)
  rw [if_neg h]
  exact str_cons 36 _
 | succ r ih =>
  intro i hi
  have q0:0 ≤ n / 16 ^ i:=Int.ediv_nonneg hn0 (Int.le_of_lt (pow_pos16 i))
  have q1:n / 16 ^ i ≤ 65535:=Int.le_trans (Int.ediv_le_self _ hn0) hn1
  refine Tot.step (fun k => spec_HexOf.l0.eq_2 _ _ _ _ k) (Tot.yes (by omega) ?_)
  rw [tmod_pos _ q0,tdiv_pos _ q0]
  have m0:0 ≤ n / 16 ^ i % 16:=Int.emod_nonneg _ (by decide)
  have m1:n / 16 ^ i % 16 < 16:=Int.emod_lt_of_pos _ (by decide)
  rw [w64_in (n:=n / 16 ^ i % 16 + 1) (by omega) (by omega),w64_in (n:=n / 16 ^ i / 16) (by omega) (by omega),w64_in (n:=(i:Int) + 1) (by omega) (by omega)]
  have ec:(⟨#[48,49,50,51,52,53,54,55,56,57,65,66,67,68,69,70]⟩:ByteArray).extract (n / 16 ^ i % 16).toNat (n / 16 ^ i % 16 + 1).toNat = strOfNums [upD (n / 16 ^ i % 16)]:=by
   have:=dig_cut ⟨(n / 16 ^ i % 16).toNat,by omega⟩
   rw [show (((n / 16 ^ i % 16).toNat:Nat):Int) = n / 16 ^ i % 16 by omega] at this
   rw [show (n / 16 ^ i % 16 + 1).toNat = (n / 16 ^ i % 16).toNat + 1 by omega]
   exact this
  rw [ec,str_cons,div_step]
  refine Tot.yes m0 (Tot.yes (by omega) (Tot.yes (by omega) (Tot.yes (by rw [strOfNums_size,strOfNums_size,hexUp_length];simp;omega) ?_)))
  exact ih (i + 1) (by omega)
theorem hexS_T (n d:Int):Tot (fun k => spec_HexOf.f k n d) (· = hexV n d):=by
 unfold spec_HexOf.f
 have hin:∀ (a lo hi:Int),spec_l1In.f a lo hi = some (decide (lo ≤ a ∧ a ≤ hi)):=by
  intro a lo hi
  unfold spec_l1In.f
  by_cases h:a ≥ lo
  ·rw [if_pos h];simp [show lo ≤ a from h]
  ·rw [if_neg h];simp [show ¬ lo ≤ a from h]
 refine Tot.bind (Tot.of (hin _ _ _) rfl) ?_
 rintro _ rfl
 refine Tot.ite (fun h => ?_) (fun h => Tot.step (fun k => spec_HexOf.j0.eq_2 _ _ _ k) (Tot.yes rfl (Tot.ret (hexV_none (fun e => h (decide_eq_true e.1))).symm)))
 have hd:=of_decide_eq_true h
 refine Tot.bind (Tot.of (hin _ _ _) rfl) ?_
 rintro _ rfl
 refine Tot.step (fun k => spec_HexOf.j0.eq_2 _ _ _ k) (Tot.ite (fun h => Tot.ret (hexV_none (fun e => by have:=e.2.1;simp [this] at h)).symm) (fun h => ?_))
 have hn:0 ≤ n ∧ n ≤ 65535:=by simpa using h
 obtain ⟨D,rfl⟩:∃ D:Nat,d = D:=⟨d.toNat,by omega⟩
 have hl:=hexS_loop n hn.1 hn.2 D (by omega) D 0 (by omega)
 rw [Int.pow_zero,Int.ediv_one] at hl
 refine Tot.mono hl (fun r hr => ?_)
 rw [hr]
 by_cases hq:n < 16 ^ D
 ·rw [if_neg (by rw [Int.ediv_eq_zero_of_lt hn.1 hq];decide),hexV,if_pos ⟨hd,hn,by rw [Int.toNat_natCast];exact hq⟩,Int.toNat_natCast]
 ·have h1:1 ≤ n / 16 ^ D:=by rw [Int.le_ediv_iff_mul_le (pow_pos16 D)];omega
  rw [if_pos (show n / 16 ^ D > 0 by omega),hexV_none (fun e => hq (by have:=e.2.2;rwa [Int.toNat_natCast] at this))]
/-! #### .. and the program's -/
theorem up_of_low:∀ v:Fin 16,Lib.upperB (UInt8.ofNat (LibF.hexDig v.val).toNat) = UInt8.ofNat (upD (v.val:Int)).toNat ∧ (UInt8.ofNat (LibF.hexDig v.val).toNat).toNat < 128:=by decide
theorem upper_low (n:Nat) (k:Nat):Lib.toUpperA ((LibF.hexLow n k).map fun x => UInt8.ofNat x.toNat) = (hexUp (n:Int) k).map (fun x => UInt8.ofNat x.toNat) ∧ ((LibF.hexLow n k).map fun x => UInt8.ofNat x.toNat).all (fun b => decide (b.toNat < 128)) = true:=by
 induction k with
 | zero => exact ⟨rfl,rfl⟩
 | succ k ih =>
  have h:=up_of_low ⟨n / 16 ^ k % 16,Nat.mod_lt _ (by decide)⟩
  have e:(((n / 16 ^ k % 16:Nat)):Int) = (n:Int) / 16 ^ k % 16:=by
   rw [Int.natCast_emod,Int.natCast_ediv,Int.natCast_pow];rfl
  simp only [e] at h
  constructor
  ·rw [LibF.hexLow,hexUp,List.map_cons,List.map_cons]
   show Lib.upperB _ :: Lib.toUpperA _ = _
   rw [h.1,ih.1]
  ·rw [LibF.hexLow,List.map_cons,List.all_cons,ih.2,Bool.and_true]
   exact decide_eq_true h.2
theorem strOf_map (L:List Int):strOfNums L = ⟨(L.map fun x => UInt8.ofNat x.toNat).toArray⟩:=rfl
theorem hexUp_more (n:Int) (k:Nat) (hn0:0 ≤ n) (hn:n < 16 ^ k):∀ c,hexUp n (k + c) = List.replicate c 48 ++ hexUp n k:=by
 intro c
 induction c with
 | zero => rfl
 | succ c ih =>
  have hz:n / 16 ^ (k + c) = 0:=Int.ediv_eq_zero_of_lt hn0 (Int.lt_of_lt_of_le hn (by
   rw [Int.pow_add]
   have h1:=pow_pos16 k
   have h2:(1:Int) ≤ 16 ^ c:=pow_pos16 c
   calc (16:Int) ^ k = 16 ^ k * 1:=(Int.mul_one _).symm
    _ ≤ 16 ^ k * 16 ^ c:=Int.mul_le_mul_of_nonneg_left h2 (Int.le_of_lt h1)))
  rw [show k + (c + 1) = (k + c) + 1 by omega,hexUp,ih,hz,List.replicate_succ]
  rfl
theorem hexK_spec (n:Nat) (hn:n < 65536):(n:Int) < 16 ^ (LibF.hexK n + 1) ∧ (∀ d:Nat,1 ≤ d → d ≤ 4 → (n:Int) < 16 ^ d → LibF.hexK n + 1 ≤ d) ∧ LibF.hexK n ≤ 3:=by
 unfold LibF.hexK
 refine ⟨?_,?_,?_⟩
 ·split
  ·simp;omega
  ·split
   ·simp;omega
   ·split <;> simp <;> omega
 ·intro d h1 h4 hd
  rcases (show d = 1 ∨ d = 2 ∨ d = 3 ∨ d = 4 by omega) with rfl | rfl | rfl | rfl <;> simp at hd <;> (repeat' split) <;> omega
 ·(repeat' split) <;> omega
theorem rep48 (c:Nat):Lib.repeatL [48] c = (List.replicate c (48:Int)).map (fun x => UInt8.ofNat x.toNat):=by
 induction c with
 | zero => rfl
 | succ c ih => rw [Lib.repeatL,ih,List.replicate_succ];rfl
theorem hexDigits_eq (n:Int) (d:Nat) (hn0:0 ≤ n) (hn1:n ≤ 65535) (hd0:1 ≤ d) (hd1:d ≤ 4) (hlt:n < 16 ^ d):impl_hexDigits.f n (d:Int) = some (strOfNums (hexUp n d)):=by
 obtain ⟨m,rfl⟩:∃ m:Nat,n = m:=⟨n.toNat,by omega⟩
 obtain ⟨s1,s2,s3⟩:=hexK_spec m (by omega)
 have s2:=s2 d hd0 hd1 hlt
 unfold impl_hexDigits.f
 have e1:strconv_FormatInt.f (m:Int) 16 = some (strOfNums (LibF.hexLow m (LibF.hexK m + 1))):=by
  unfold strconv_FormatInt.f
  rw [if_neg (by decide),if_pos rfl,if_pos hn0,if_pos (by omega),Int.toNat_natCast]
  rfl
 rw [e1,Option.bind_some]
 have e2:strings_ToUpper.f (strOfNums (LibF.hexLow m (LibF.hexK m + 1))) = some (strOfNums (hexUp (m:Int) (LibF.hexK m + 1))):=by
  unfold strings_ToUpper.f
  obtain ⟨u1,u2⟩:=upper_low m (LibF.hexK m + 1)
  rw [if_pos (by rw [strOfNums_size,LibF.hexLow_length];omega),strOfNums_data,if_pos u2,u1]
  rfl
 rw [e2,Option.bind_some]
 have ez:((strOfNums (hexUp (m:Int) (LibF.hexK m + 1))).size:Int) = LibF.hexK m + 1:=by rw [strOfNums_size,hexUp_length];rfl
 rw [ez,w64_in (n:=(d:Int) - (LibF.hexK m + 1)) (by omega) (by omega),show mx 0 ((d:Int) - ((LibF.hexK m:Int) + 1)) = ((d - (LibF.hexK m + 1):Nat):Int) by unfold mx;omega]
 obtain ⟨c,hc⟩:∃ c,d - (LibF.hexK m + 1) = c:=⟨_,rfl⟩
 rw [hc]
 have e3:strings_Repeat.f (⟨#[48]⟩:ByteArray) (c:Int) = some (strOfNums (List.replicate c 48)):=by
  unfold strings_Repeat.f
  rw [if_pos (by omega),if_pos (by omega),if_pos (by have:(⟨#[48]⟩:ByteArray).size = 1:=rfl;rw [this,Int.toNat_natCast];omega),Int.toNat_natCast]
  have:(⟨#[48]⟩:ByteArray).data.toList = [48]:=rfl
  rw [this,rep48]
  rfl
 rw [e3,Option.bind_some,if_pos (by rw [strOfNums_size,strOfNums_size,hexUp_length,List.length_replicate];omega),str_app,← hexUp_more (m:Int) _ hn0 s1,show LibF.hexK m + 1 + c = d by omega]
theorem hexI_T (n d:Int):Tot (fun k => impl_HexOf.f k n d) (· = hexV n d):=by
 unfold impl_HexOf.f
 have wi:∀ (a lo hi:Int),impl_within.f a lo hi = some (decide (lo ≤ a ∧ a ≤ hi)):=by
  intro a lo hi
  unfold impl_within.f
  by_cases h:a ≥ lo
  ·rw [if_pos h];simp [show lo ≤ a from h]
  ·rw [if_neg h];simp [show ¬ lo ≤ a from h]
 have wo:∀ a:Int,impl_isWord.f a = some (decide (0 ≤ a ∧ a ≤ 65535)):=by intro a;unfold impl_isWord.f;rw [wi];rfl
 refine Tot.bind (Tot.of (wi _ _ _) rfl) ?_
 rintro _ rfl
 refine Tot.ite (fun h => ?_) (fun h => Tot.step (fun k => impl_HexOf.j0.eq_2 _ _ _ k) (Tot.yes rfl (Tot.ret (hexV_none (fun e => h (decide_eq_true e.1))).symm)))
 have hd:=of_decide_eq_true h
 refine Tot.bind (Tot.of (wo _) rfl) ?_
 rintro _ rfl
 refine Tot.ite (fun h => ?_) (fun h => Tot.step (fun k => impl_HexOf.j0.eq_2 _ _ _ k) (Tot.yes rfl (Tot.ret (hexV_none (fun e => h (decide_eq_true e.2.1))).symm)))
 have hn:=of_decide_eq_true h
 obtain ⟨D,rfl⟩:∃ D:Nat,d = D:=⟨d.toNat,by omega⟩
 rw [w64_in (n:=4 * (D:Int)) (by omega) (by omega)]
 have es:shr .i64 n (4 * (D:Int)) = n / 16 ^ D:=by
  unfold shr
  rw [show (4 * (D:Int)).toNat = 4 * D by omega,Nat.min_eq_left (by show 4 * D ≤ 64;omega),Int.pow_mul]
  rfl
 rw [es]
 refine Tot.yes (by omega) (Tot.step (fun k => impl_HexOf.j0.eq_2 _ _ _ k) (Tot.ite (fun h => Tot.ret ?_) (fun h => ?_)))
 ·have:=of_decide_eq_true h
  refine (hexV_none (fun e => ?_)).symm
  have e2:=e.2.2
  rw [Int.toNat_natCast] at e2
  rw [Int.ediv_eq_zero_of_lt hn.1 e2] at this
  omega
 ·have hq:n < 16 ^ D:=by
   have h1:¬ n / 16 ^ D > 0:=fun e => h (decide_eq_true e)
   rcases Int.lt_or_le n (16 ^ D) with a | a
   ·exact a
   ·have:1 ≤ n / 16 ^ D:=by rw [Int.le_ediv_iff_mul_le (pow_pos16 D)];omega
    omega
  refine Tot.bind (Tot.of (hexDigits_eq n D hn.1 hn.2 (by omega) (by omega) hq) rfl) ?_
  rintro _ rfl
  refine Tot.yes (by rw [strOfNums_size,hexUp_length];omega) (Tot.ret ?_)
  rw [hexV,if_pos ⟨hd,hn,by rw [Int.toNat_natCast];exact hq⟩,Int.toNat_natCast]
  exact str_cons 36 _
/-! ### an instruction's text -/
def holeLen (h:Nat):Nat:=if h = 4 then 3 else 2
def QX (cb:Bool) (n:Int):Prop :=
 strings_HasPrefix.f (tm cb n) (⟨#[106,114,32]⟩:ByteArray) = some (decide (hk cb n = 3 ∧ n < 64)) ∧
 (hk cb n = 3 ∧ n < 64 → (Lib.cut (tm cb n).data.toList [32]).1 = [106,114]) ∧
 (2 ≤ hk cb n → 1 ≤ hp cb n ∧ hp cb n + holeLen (hk cb n) ≤ (tm cb n).size ∧ Lib.index (tm cb n).data.toList (holeS (hk cb n)).data.toList = hp cb n ∧ Lib.countB (tm cb n) (holeS (hk cb n)) = 1)
instance (cb:Bool) (n:Int):Decidable (QX cb n):=by unfold QX;infer_instance
set_option maxRecDepth 100000 in
theorem qx1:∀ n:Fin 256,QX true ((n.val:Nat):Int):=by decide +kernel
set_option maxRecDepth 100000 in
theorem qx0:∀ n:Fin 256,QX false ((n.val:Nat):Int):=by decide +kernel
theorem qx (cb:Bool) {n:Int} (h0:0 ≤ n) (h1:n < 256):QX cb n:=by
 cases cb
 ·exact all256 qx0 h0 h1
 ·exact all256 qx1 h0 h1
def decV (n:Int):ByteArray:=vS (impl_decimal.f n)
def QD (n:Int):Prop:=impl_decimal.f n = some (decV n) ∧ spec_l1Dec.f 40 n = some (decV n) ∧ decV n ≠ ⟨#[101,56]⟩ ∧ 1 ≤ (decV n).size ∧ (decV n).size ≤ 4
instance (n:Int):Decidable (QD n):=by unfold QD;infer_instance
set_option maxRecDepth 100000 in
theorem qd':∀ n:Fin 430,QD ((n.val:Int) - 130):=by decide +kernel
theorem qd {n:Int} (h0:-130 ≤ n) (h1:n < 300):QD n:=by
 have:=qd' ⟨(n + 130).toNat,by omega⟩
 rwa [show (((n + 130).toNat:Nat):Int) - 130 = n by omega] at this
theorem decS_T {n:Int} (h0:-130 ≤ n) (h1:n < 300):Tot (fun k => spec_l1Dec.f k n) (· = decV n):=Tot.lift (fun k => spec_l1Dec.mono _ k) (qd h0 h1).2.1 rfl
/-- A byte as a number with a sign. -/
def sgV (m:Int):Int:=if 0 ≤ m ∧ m ≤ 255 then (if m > 127 then m - 256 else m) else 0
theorem sgV_range (m:Int):-128 ≤ sgV m ∧ sgV m ≤ 127:=by
 unfold sgV
 split
 ·split <;> omega
 ·omega
theorem sgI (m:Int):impl_SignedOf.f m = some (sgV m):=by
 unfold impl_SignedOf.f sgV
 rw [byteI,Option.bind_some]
 by_cases h:0 ≤ m ∧ m ≤ 255
 ·rw [if_pos (decide_eq_true h),if_pos h]
  by_cases g:m > 127
  ·rw [if_pos g,if_pos g,w64_in (by omega) (by omega)]
  ·rw [if_neg g,if_neg g]
 ·rw [if_neg (by simp;omega),if_neg h]
theorem sgS (m:Int):spec_SignedOf.f m = some (sgV m):=by
 unfold spec_SignedOf.f sgV
 rw [inS,Option.bind_some]
 by_cases h:0 ≤ m ∧ m ≤ 255
 ·rw [if_pos (decide_eq_true h),if_pos h]
  by_cases g:m > 127
  ·rw [if_pos g,if_pos g,w64_in (by omega) (by omega)]
  ·rw [if_neg g,if_neg g]
 ·rw [if_neg (by simp;omega),if_neg h]
/-- t with f in the place of the len bytes at p. -/
def putV (t:ByteArray) (p:Int) (len:Nat) (f:ByteArray):ByteArray:=(t.extract 0 p.toNat ++ f) ++ t.extract (p + len).toNat t.size
theorem putV_size (t:ByteArray) (p:Int) (len:Nat) (f:ByteArray) (h0:1 ≤ p) (h:p + len ≤ t.size):1 ≤ (putV t p len f).size ∧ (putV t p len f).size ≤ t.size + f.size:=by
 unfold putV
 rw [ByteArray.size_append,ByteArray.size_append,ByteArray.size_extract,ByteArray.size_extract]
 omega
theorem replace_one (t h f:ByteArray) (p:Int) (hp:0 ≤ p) (hix:Lib.index t.data.toList h.data.toList = p) (hcnt:Lib.countB t h = 1) (hne:h ≠ f) (h1:1 ≤ h.size) (hsz:t.size ≤ 1000) (hf:f.size ≤ 1000) :
  strings_Replace.f t h f 1 = some (putV t p h.size f):=by
 unfold strings_Replace.f
 rw [if_pos (by omega),if_pos h1,if_pos (by rw [hcnt];omega)]
 congr 1
 have hc:Lib.count t.data.toList h.data.toList = 1:=hcnt
 have hned:(h.data.toList == f.data.toList) = false:=by
  rw [beq_eq_false_iff_ne]
  intro e
  apply hne
  cases h;cases f;congr 1;exact Array.ext' e
 have hnum:Lib.replaceNum t.data.toList h.data.toList 1 = 1:=by
  unfold Lib.replaceNum
  rw [hc,if_neg (by decide)]
  rfl
 have hm:¬ (p == -1) = true:=by simp;omega
 unfold Lib.replace
 rw [if_neg (by rw [hned];decide),hnum,Lib.replaceK,hix,if_neg hm,Lib.replaceK]
 unfold putV
 apply ByteArray.ext
 rw [ByteArray.data_append,ByteArray.data_append,ByteArray.data_extract,ByteArray.data_extract]
 apply Array.ext'
 rw [Array.toList_append,Array.toList_append,Array.toList_extract,Array.toList_extract,List.extract_eq_take_drop,List.extract_eq_take_drop,List.drop_zero,Nat.sub_zero]
 have hl:h.data.toList.length = h.size:=by rw [Array.length_toList];rfl
 have e2:((t.data.toList.drop (p + (h.size:Int)).toNat).take (t.size - (p + (h.size:Int)).toNat)) = t.data.toList.drop (p + (h.size:Int)).toNat:=by
  apply List.take_of_length_le
  rw [List.length_drop,Array.length_toList]
  exact Nat.le_refl _
 rw [e2,show (p + (h.size:Int)).toNat = p.toNat + h.size by omega,hl]
def fillV (h:Nat) (m:Int):ByteArray:=if h = 4 then hexV m 4 else if h = 2 then hexV m 2 else decV (sgV m)
def txtV (cb:Bool) (n m:Int):ByteArray:=if okV (hk cb n) m = true then (if hk cb n ≤ 1 then tm cb n else putV (tm cb n) (hp cb n) (holeLen (hk cb n)) (fillV (hk cb n) m)) else ⟨#[]⟩
theorem hexV_size (n d:Int):(hexV n d).size ≤ 5:=by
 unfold hexV
 split
 ·rw [strOfNums_size,List.length_cons,hexUp_length];omega
 ·exact Nat.zero_le _
theorem hexV_ne (n d:Int) (h:Nat) (hh:h = 2 ∨ h = 3 ∨ h = 4):holeS h ≠ hexV n d:=by
 intro e
 unfold hexV at e
 split at e
 ·have e1:=congrArg (fun s:ByteArray => s.data.toList) e
  simp only [strOfNums_data,List.map_cons] at e1
  rcases hh with rfl | rfl | rfl <;> simp [holeS] at e1
 ·have e1:=congrArg (fun s:ByteArray => s.size) e
  rcases hh with rfl | rfl | rfl <;> exact absurd e1 (by decide)
theorem fill_facts (h:Nat) (hh:h = 2 ∨ h = 3 ∨ h = 4) (m:Int):holeS h ≠ fillV h m ∧ (fillV h m).size ≤ 5:=by
 have r:=sgV_range m
 have q:=qd (n:=sgV m) (by omega) (by omega)
 unfold fillV
 rcases hh with rfl | rfl | rfl
 ·rw [if_neg (by decide),if_pos rfl];exact ⟨hexV_ne _ _ _ (by decide),hexV_size _ _⟩
 ·rw [if_neg (by decide),if_neg (by decide)];exact ⟨fun e => q.2.2.1 e.symm,Nat.le_trans q.2.2.2.2 (by decide)⟩
 ·rw [if_pos rfl];exact ⟨hexV_ne _ _ _ (by decide),hexV_size _ _⟩
theorem holeS_size (h:Nat) (hh:h = 2 ∨ h = 3 ∨ h = 4):(holeS h).size = holeLen h:=by rcases hh with rfl | rfl | rfl <;> rfl
theorem fillI_T (h:Nat) (hh:h = 2 ∨ h = 3 ∨ h = 4) (m:Int):Tot (fun k => impl_filling.f k (holeS h) m) (· = fillV h m):=by
 have r:=sgV_range m
 have q:=qd (n:=sgV m) (by omega) (by omega)
 unfold impl_filling.f fillV
 rcases hh with rfl | rfl | rfl
 ·refine Tot.yes ((holeS_n8 2 (by decide)).2 rfl) (Tot.bind (hexI_T m 2) ?_)
  rintro _ rfl
  exact Tot.ret rfl
 ·refine Tot.no (fun e => by have:=(holeS_n8 3 (by decide)).1 e;omega) (Tot.no (fun e => by have:=(holeS_n16 3 (by decide)).1 e;omega) (Tot.bind (Tot.of (sgI m) rfl) ?_))
  rintro _ rfl
  refine Tot.bind (Tot.of q.1 rfl) ?_
  rintro _ rfl
  exact Tot.ret rfl
 ·refine Tot.no (fun e => by have:=(holeS_n8 4 (by decide)).1 e;omega) (Tot.yes ((holeS_n16 4 (by decide)).2 rfl) (Tot.bind (hexI_T m 4) ?_))
  rintro _ rfl
  exact Tot.ret rfl
theorem txtI_T (cb:Bool) {n:Int} (h0:0 ≤ n) (h1:n < 256) (m:Int):Tot (fun k => impl_InsText.f k n cb m) (· = txtV cb n m):=by
 have hle:=hk_le cb h0 h1
 have q:=qx cb h0 h1
 have hz:=(qc cb h0 h1).2.2.2.2.2.2.2.1
 unfold impl_InsText.f txtV
 refine Tot.bind (okI_T cb h0 h1 m) ?_
 rintro _ rfl
 refine Tot.ite (fun ho => ?_) (fun ho => Tot.ret (by rw [if_neg ho]))
 rw [if_pos ho]
 refine Tot.bind (tmI_T cb h0 h1) ?_
 rintro _ rfl
 refine Tot.bind (hoI_T cb h0 h1) ?_
 rintro _ rfl
 refine Tot.ite (fun hn => Tot.ret (by rw [if_pos ((holeS_nil _ hle).1 hn)])) (fun hn => ?_)
 have hn2:¬ hk cb n ≤ 1:=fun e => hn ((holeS_nil _ hle).2 e)
 have hh:hk cb n = 2 ∨ hk cb n = 3 ∨ hk cb n = 4:=by omega
 rw [if_neg hn2]
 obtain ⟨x1,x2,x3,x4⟩:=q.2.2 (by omega)
 obtain ⟨f1,f2⟩:=fill_facts (hk cb n) hh m
 refine Tot.bind (fillI_T (hk cb n) hh m) ?_
 rintro _ rfl
 have hs:=holeS_size (hk cb n) hh
 refine Tot.bind (Tot.of (replace_one (tm cb n) (holeS (hk cb n)) (fillV (hk cb n) m) (hp cb n) (by omega) x3 x4 f1 (by rw [hs];unfold holeLen;split <;> omega) (by omega) (by omega)) rfl) ?_
 rintro _ rfl
 exact Tot.ret (by rw [hs])
theorem txtS_T (cb:Bool) {n:Int} (h0:0 ≤ n) (h1:n < 256) (m:Int):Tot (fun k => spec_InsText.f k n cb m) (· = txtV cb n m):=by
 have hle:=hk_le cb h0 h1
 have q:=qx cb h0 h1
 have hz:=(qc cb h0 h1).2.2.2.2.2.2.2.1
 have rg:=sgV_range m
 unfold spec_InsText.f txtV
 refine Tot.bind (okS_T cb h0 h1 m) ?_
 rintro _ rfl
 refine Tot.ite (fun ho => ?_) (fun ho => Tot.ret (by rw [if_neg ho]))
 rw [if_pos ho]
 refine Tot.bind (tmS_T cb h0 h1) ?_
 rintro _ rfl
 refine Tot.bind (hoS_T cb h0 h1) ?_
 rintro _ rfl
 have fin:∀ (len:Nat) (f:ByteArray) (g:Nat → Option ByteArray),len ≤ 3 → 1 ≤ hp cb n → hp cb n + len ≤ (tm cb n).size → f.size ≤ 5 → Tot g (· = f) →
   Tot (fun k => if 0 ≤ hp cb n then (if hp cb n ≤ ((tm cb n).size:Int) then ((g k).bind fun t => if ((tm cb n).extract 0 (hp cb n:Int).toNat).size + t.size ≤ 9223372036854775807 then (if 0 ≤ wrap64 (hp cb n + (len:Int)) then (if wrap64 (hp cb n + (len:Int)) ≤ ((tm cb n).size:Int) then (if (((tm cb n).extract 0 (hp cb n:Int).toNat) ++ t).size + ((tm cb n).extract (wrap64 (hp cb n + (len:Int)):Int).toNat (tm cb n).size).size ≤ 9223372036854775807 then some ((((tm cb n).extract 0 (hp cb n:Int).toNat) ++ t) ++ ((tm cb n).extract (wrap64 (hp cb n + (len:Int)):Int).toNat (tm cb n).size)) else none) else none) else none) else none) else none) else none) (· = putV (tm cb n) (hp cb n) len f):=by
  intro len f g hlen p1 p2 hf hg
  rw [w64_in (n:=hp cb n + (len:Int)) (by omega) (by omega)]
  refine Tot.yes (by omega) (Tot.yes (by omega) (Tot.bind hg ?_))
  rintro _ rfl
  refine Tot.yes (by rw [ByteArray.size_extract];omega) (Tot.yes (by omega) (Tot.yes (by omega) (Tot.yes ?_ (Tot.ret rfl))))
  rw [ByteArray.size_append,ByteArray.size_extract,ByteArray.size_extract]
  omega
 refine Tot.ite (fun hw => ?_) (fun hw => ?_)
 ·have e4:=(holeS_n16 _ hle).1 hw
  have qq:=q.2.2 (by omega)
  have f2:=(fill_facts (hk cb n) (by omega) m).2
  rw [e4] at qq f2 ⊢
  exact fin 3 (fillV 4 m) (fun k => spec_HexOf.f k m 4) (by decide) qq.1 qq.2.1 f2 (hexS_T m 4)
 have n4:hk cb n ≠ 4:=fun e => hw ((holeS_n16 _ hle).2 e)
 refine Tot.ite (fun hw => ?_) (fun hw => ?_)
 ·have e4:=(holeS_n8 _ hle).1 hw
  have qq:=q.2.2 (by omega)
  have f2:=(fill_facts (hk cb n) (by omega) m).2
  rw [e4] at qq f2 ⊢
  exact fin 2 (fillV 2 m) (fun k => spec_HexOf.f k m 2) (by decide) qq.1 qq.2.1 f2 (hexS_T m 2)
 have n2:hk cb n ≠ 2:=fun e => hw ((holeS_n8 _ hle).2 e)
 refine Tot.ite (fun hw => ?_) (fun hw => ?_)
 ·have e4:=(holeS_e8 _ hle).1 hw
  have qq:=q.2.2 (by omega)
  have f2:=(fill_facts (hk cb n) (by omega) m).2
  rw [e4] at qq f2 ⊢
  refine Tot.congr (f:=fun k => if 0 ≤ hp cb n then (if hp cb n ≤ ((tm cb n).size:Int) then ((spec_l1Dec.f k (sgV m)).bind fun t => if ((tm cb n).extract 0 (hp cb n:Int).toNat).size + t.size ≤ 9223372036854775807 then (if 0 ≤ wrap64 (hp cb n + ((2:Nat):Int)) then (if wrap64 (hp cb n + ((2:Nat):Int)) ≤ ((tm cb n).size:Int) then (if (((tm cb n).extract 0 (hp cb n:Int).toNat) ++ t).size + ((tm cb n).extract (wrap64 (hp cb n + ((2:Nat):Int)):Int).toNat (tm cb n).size).size ≤ 9223372036854775807 then some ((((tm cb n).extract 0 (hp cb n:Int).toNat) ++ t) ++ ((tm cb n).extract (wrap64 (hp cb n + ((2:Nat):Int)):Int).toNat (tm cb n).size)) else none) else none) else none) else none) else none) else none) (fun k => ?_) ?_
  ·rw [sgS,Option.bind_some]
   rfl
  ·exact fin 2 (fillV 3 m) (fun k => spec_l1Dec.f k (sgV m)) (by decide) qq.1 qq.2.1 f2 (decS_T (by omega) (by omega))
 have n3:hk cb n ≠ 3:=fun e => hw ((holeS_e8 _ hle).2 e)
 exact Tot.ret (by rw [if_pos (by omega)])
def keys0:List Nat:=[7637895,684764020,910444782,921567730,364720792,279245132,400753843,81321330,542971007,20715554,115477432,441469304,364720793,279245133,418945290,81736344,356776659,821842546,515528728,921568258,364720794,279245134,437136737,7913767,217220888,20716082,115616296,441469832,364720795,279245135,455328184,7915345,506544300,449051176,305066245,921569317,364720798,279245138,509902525,6942508,332713875,20717141,480322552,441470891,364720802,279245142,582668313,6877295,88141019,712529373,341449139,921572214,790904382,863108844,211266624,7980574,914310601,20720038,480323078,441473788,364720791,279245131,382562396,6873870,716352669,716352670,716352671,716352672,716352675,716352679,400083550,716352668,716421838,716421839,716421840,716421841,716421844,716421848,684272287,716421837,716491007,716491008,716491009,716491010,716491013,716491017,968461024,716491006,716560176,716560177,716560178,716560179,716560182,716560186,252649754,716560175,716767683,716767684,716767685,716767686,716767689,716767693,105215958,716767682,717044359,717044360,717044361,717044362,717044365,717044369,241970899,717044358,780270969,780270970,780270971,780270972,780270975,780270979,898648394,780270968,716283500,716283501,716283502,716283503,716283506,716283510,115894813,716283499,381592475,381592476,381592477,381592478,381592481,381592485,115851236,381592474,597241949,597241950,597241951,597241952,597241955,597241959,65239282,597241948,993571460,993571461,993571462,993571463,993571466,993571470,308663050,993571459,378336018,378336019,378336020,378336021,378336024,378336028,451342637,378336017,223479824,223479825,223479826,223479827,223479830,223479834,225289325,223479823,546234026,546234027,546234028,546234029,546234032,546234036,143900057,546234025,549757089,549757090,549757091,549757092,549757095,549757099,757293595,549757088,570791214,570791215,570791216,570791217,570791220,570791224,924743983,570791213,729369372,931728212,120546795,561012827,586431519,407920893,358823437,797647869,261328414,7911945,21094631,0,361269100,941390458,74634700,797647877,729369349,931728740,80484662,0,546369386,407921421,309295365,797648132,261328391,80841626,981032505,0,321206967,0,502375253,797648140,303262056,931729799,50741880,0,0,407922480,775196518,797648395,721337895,180838835,933623452,0,0,0,659551049,797648403,879139320,931727952,756191595,26405,0,407920633,586116611,797648658,487654875,964684911,585393156,26668,0,0,118091444,797648666]
def keys1:List Nat:=[387492646,387492647,387492648,387492649,387492652,387492656,763137349,387492645,496641328,496641329,496641330,496641331,496641334,496641338,212961192,496641327,81303710,81303711,81303712,81303713,81303716,81303720,897090,81303709,81718724,81718725,81718726,81718727,81718730,81718734,706029505,81718723,171704834,171704835,171704836,171704837,171704840,171704844,245371829,171704833,280853516,280853517,280853518,280853519,280853522,280853526,695195679,280853515,791743094,791743095,791743096,791743097,791743100,791743104,311178298,791743093,281614375,281614376,281614377,281614378,281614381,281614385,821271765,281614374,90392615,90392616,90392617,90392618,90392621,90392625,333335245,90392614,90461784,90461785,90461786,90461787,90461790,90461794,617523982,90461783,90530953,90530954,90530955,90530956,90530959,90530963,901712719,90530952,90600122,90600123,90600124,90600125,90600128,90600132,185901449,90600121,90669291,90669292,90669293,90669294,90669297,90669301,470090186,90669290,90738460,90738461,90738462,90738463,90738466,90738470,754278923,90738459,90807629,90807630,90807631,90807632,90807635,90807639,38467653,90807628,90876798,90876799,90876800,90876801,90876804,90876808,322656390,90876797,35484072,35484073,35484074,35484075,35484078,35484082,490495586,35484071,35553241,35553242,35553243,35553244,35553247,35553251,774684323,35553240,35622410,35622411,35622412,35622413,35622416,35622420,58873053,35622409,35691579,35691580,35691581,35691582,35691585,35691589,343061790,35691578,35760748,35760749,35760750,35760751,35760754,35760758,627250527,35760747,35829917,35829918,35829919,35829920,35829923,35829927,911439264,35829916,35899086,35899087,35899088,35899089,35899092,35899096,195627994,35899085,35968255,35968256,35968257,35968258,35968261,35968265,479816731,35968254,561471911,561471912,561471913,561471914,561471917,561471921,319329259,561471910,561541080,561541081,561541082,561541083,561541086,561541090,603517996,561541079,561610249,561610250,561610251,561610252,561610255,561610259,887706733,561610248,561679418,561679419,561679420,561679421,561679424,561679428,171895463,561679417,561748587,561748588,561748589,561748590,561748593,561748597,456084200,561748586,561817756,561817757,561817758,561817759,561817762,561817766,740272937,561817755,561886925,561886926,561886927,561886928,561886931,561886935,24461667,561886924,561956094,561956095,561956096,561956097,561956100,561956104,308650404,561956093]
def keyOf (b:ByteArray):Nat:=b.data.toList.foldl (fun a x => (a * 263 + x.toNat) % 1000000007) 0
def keyAt (cb:Bool) (n:Int):Nat:=if cb = true then keys1.getD n.toNat 0 else keys0.getD n.toNat 0
def QT (cb:Bool) (n:Int):Prop :=
 keyOf (tm cb n) = keyAt cb n ∧ (keyAt cb n = 0 → (tm cb n).size = 0)
instance (cb:Bool) (n:Int):Decidable (QT cb n):=by unfold QT;infer_instance
set_option maxRecDepth 100000 in
theorem qt1:∀ n:Fin 256,QT true ((n.val:Nat):Int):=by decide +kernel
set_option maxRecDepth 100000 in
theorem qt0:∀ n:Fin 256,QT false ((n.val:Nat):Int):=by decide +kernel
theorem qt (cb:Bool) {n:Int} (h0:0 ≤ n) (h1:n < 256):QT cb n:=by
 cases cb
 ·exact all256 qt0 h0 h1
 ·exact all256 qt1 h0 h1
set_option maxRecDepth 100000 in
theorem apart:(keys0 ++ keys1).Pairwise (fun a b => a = b → a = 0):=by decide +kernel
theorem len0:keys0.length = 256:=by decide +kernel
theorem len1:keys1.length = 256:=by decide +kernel
def ix (cb:Bool) (n:Int):Nat:=if cb = true then 256 + n.toNat else n.toNat
theorem ix_lt (cb:Bool) {n:Int} (h0:0 ≤ n) (h1:n < 256):ix cb n < (keys0 ++ keys1).length:=by
 rw [List.length_append,len0,len1]
 unfold ix
 split <;> omega
theorem key_ix (cb:Bool) {n:Int} (h0:0 ≤ n) (h1:n < 256):keyAt cb n = (keys0 ++ keys1)[ix cb n]'(ix_lt cb h0 h1):=by
 have e:(keys0 ++ keys1)[ix cb n]? = some ((keys0 ++ keys1)[ix cb n]'(ix_lt cb h0 h1)):=List.getElem?_eq_getElem _
 have e2:(keys0 ++ keys1)[ix cb n]? = some (keyAt cb n):=by
  unfold keyAt ix
  cases cb
  ·rw [if_neg (by decide),if_neg (by decide),List.getElem?_append_left (by rw [len0];omega),List.getD_eq_getElem?_getD,List.getElem?_eq_getElem (by rw [len0];omega)]
   rfl
  ·rw [if_pos rfl,if_pos rfl,List.getElem?_append_right (by rw [len0];omega),len0,Nat.add_sub_cancel_left,List.getD_eq_getElem?_getD,List.getElem?_eq_getElem (by rw [len1];omega)]
   rfl
 exact Option.some.inj (e2.symm.trans e)
/-- Two places have two templates,where there is one at all. -/
theorem two {cb cb':Bool} {n n':Int} (h0:0 ≤ n) (h1:n < 256) (g0:0 ≤ n') (g1:n' < 256) (hne:ix cb n ≠ ix cb' n') (hz:(tm cb n).size ≠ 0):tm cb' n' ≠ tm cb n:=by
 intro e
 have q:=qt cb h0 h1
 have q':=qt cb' g0 g1
 have hk:keyAt cb n = keyAt cb' n':=by rw [← q.1,← q'.1,e]
 have hn0:keyAt cb n ≠ 0:=fun z => hz (q.2 z)
 rw [key_ix cb h0 h1,key_ix cb' g0 g1] at hk
 rw [key_ix cb h0 h1] at hn0
 have ap:=List.pairwise_iff_getElem.1 apart
 rcases Nat.lt_or_gt_of_ne hne with h | h
 ·exact hn0 (ap _ _ (ix_lt cb h0 h1) (ix_lt cb' g0 g1) h hk)
 ·exact hn0 (hk.trans (ap _ _ (ix_lt cb' g0 g1) (ix_lt cb h0 h1) h hk.symm))
end Go.Proofs.YtodlnnoekccmmaaGreatDoor.XIt
