import Derived.Test.YtoiiaklmjpiejaaDoorSQFnSymTextsx
import Derived.Test.YtoiiaklmjpiejaaDoorSLib
namespace Go.Proofs.YtoiiaklmjpiejaaDoor.XSy
open Go.RowKit Go.Proofs.YtoiiaklmjpiejaaDoor.QFnSymTexts Go.Proofs.YtoiiaklmjpiejaaDoorW.PrintWords Go.Proofs.YtoiiaklmjpiejaaDoorW.PrintLast Go.Proofs.YtoiiaklmjpiejaaDoorW.PrintMore Go.Proofs.YtoiiaklmjpiejaaDoor.Lib Go.Proofs.YtoiiaklmjpiejaaDoor.LibX Go.Proofs.YtoiiaklmjpiejaaDoor.LibE Go.Proofs.YtoiiaklmjpiejaaDoor.LibG Go.Proofs.YtoiiaklmjpiejaaDoor.LibSY
set_option linter.unusedSimpArgs false
set_option linter.unusedVariables false
/-- From some number of rounds on it answers one and the same,and P holds of the answer. -/
def Tot {α:Type} (g:Nat → Option α) (P:α → Prop):Prop:=∃ K r,P r ∧ ∀ k,K ≤ k → g k = some r
theorem Tot.ret {α:Type} {r:α} {P:α → Prop} (h:P r):Tot (fun _ => some r) P:=⟨0,r,h,fun _ _ => rfl⟩
theorem Tot.of {α:Type} {g:Option α} {r:α} {P:α → Prop} (e:g = some r) (h:P r):Tot (fun _ => g) P:=⟨0,r,h,fun _ _ => e⟩
theorem Tot.bind {α β:Type} {g:Nat → Option α} {f:Nat → α → Option β} {P:α → Prop} {Q:β → Prop} (h:Tot g P) (hf:∀ a,P a → Tot (fun k => f k a) Q):Tot (fun k => (g k).bind (f k)) Q:=by
 obtain ⟨K,a,ha,hg⟩:=h
 obtain ⟨L,r,hr,hk⟩:=hf a ha
 exact ⟨max K L,r,hr,fun k hk' => by show (g k).bind (f k) = some r;rw [hg k (by omega)];exact hk k (by omega)⟩
theorem Tot.ite {α:Type} {c:Prop} [Decidable c] {g f:Nat → Option α} {P:α → Prop} (h1:c → Tot g P) (h2:¬ c → Tot f P):Tot (fun k => if c then g k else f k) P:=by
 by_cases h:c
 ·obtain ⟨K,r,hr,hk⟩:=h1 h
  exact ⟨K,r,hr,fun k hk' => by show (if c then g k else f k) = some r;rw [if_pos h];exact hk k hk'⟩
 ·obtain ⟨K,r,hr,hk⟩:=h2 h
  exact ⟨K,r,hr,fun k hk' => by show (if c then g k else f k) = some r;rw [if_neg h];exact hk k hk'⟩
theorem Tot.yes {α:Type} {c:Prop} [Decidable c] {g f:Nat → Option α} {P:α → Prop} (h:c) (h1:Tot g P):Tot (fun k => if c then g k else f k) P:=Tot.ite (fun _ => h1) (fun n => absurd h n)
theorem Tot.no {α:Type} {c:Prop} [Decidable c] {g f:Nat → Option α} {P:α → Prop} (h:¬ c) (h1:Tot f P):Tot (fun k => if c then g k else f k) P:=Tot.ite (fun n => absurd n h) (fun _ => h1)
theorem Tot.mono {α:Type} {g:Nat → Option α} {P Q:α → Prop} (h:Tot g P) (hi:∀ a,P a → Q a):Tot g Q:=by
 obtain ⟨K,r,hr,hk⟩:=h
 exact ⟨K,r,hi r hr,hk⟩
theorem Tot.step {α:Type} {g f:Nat → Option α} {P:α → Prop} (h:∀ k,g (k + 1) = f k) (hf:Tot f P):Tot g P:=by
 obtain ⟨K,r,hr,hk⟩:=hf
 exact ⟨K + 1,r,hr,fun k hk' => by obtain ⟨m,rfl⟩:∃ m,k = m + 1:=⟨k - 1,by omega⟩;rw [h];exact hk m (by omega)⟩
theorem Tot.lift {α:Type} {g:Nat → Option α} {P:α → Prop} (hm:∀ k,LeO (g k) (g (k + 1))) {k:Nat} {r:α} (e:g k = some r) (h:P r):Tot g P:=⟨k,r,h,fun _ hk => at_rounds hm hk e⟩
theorem Tot.congr {α:Type} {g f:Nat → Option α} {P:α → Prop} (h:∀ k,g k = f k) (hf:Tot f P):Tot g P:=by
 obtain ⟨K,r,hr,hk⟩:=hf
 exact ⟨K,r,hr,fun k hk' => (h k).trans (hk k hk')⟩
theorem Tot.eq {α:Type} {g:Nat → Option α} {r:α} (h:Tot g (fun x => x = r)):∃ K,∀ k,K ≤ k → g k = some r:=by
 obtain ⟨K,x,hx,hk⟩:=h
 subst hx
 exact ⟨K,hk⟩
theorem Tot.done {g:Nat → Option Bool} (h:Tot g (fun x => x = true)):∃ k,g k = some true:=by
 obtain ⟨K,hk⟩:=h.eq
 exact ⟨K,hk K (Nat.le_refl _)⟩
theorem str_app (a b:List Int):strOfNums a ++ strOfNums b = strOfNums (a ++ b):=by
 apply ByteArray.ext
 rw [ByteArray.data_append]
 apply Array.ext'
 rw [Array.toList_append,strOfNums_data,strOfNums_data,strOfNums_data,List.map_append]
/-! ### HexOf -/
def upD (v:Int):Int:=if v < 10 then 48 + v else 55 + v
def hexUp (n:Int):Nat → List Int
 | 0 => []
 | k + 1 => upD (n / 16 ^ k % 16) :: hexUp n k
theorem hexUp_length (n:Int) (k:Nat):(hexUp n k).length = k:=by
 induction k with
 | zero => rfl
 | succ k ih => rw [hexUp,List.length_cons,ih]
theorem upD_range:∀ v:Fin 16,48 ≤ upD (v.val:Int) ∧ upD (v.val:Int) ≤ 70:=by decide
theorem upD_byte {v:Int} (h0:0 ≤ v) (h1:v < 16):0 ≤ upD v ∧ upD v < 256:=by
 have:=upD_range ⟨v.toNat,by omega⟩
 rw [show ((v.toNat:Nat):Int) = v by omega] at this
 omega
theorem hexUp_bytes (n:Int) (k:Nat):∀ x ∈ hexUp n k,0 ≤ x ∧ x < 256:=by
 induction k with
 | zero => intro x hx;cases hx
 | succ k ih =>
  intro x hx
  rw [hexUp,List.mem_cons] at hx
  rcases hx with rfl | hx
  ·exact upD_byte (Int.emod_nonneg _ (by decide)) (Int.emod_lt_of_pos _ (by decide))
  ·exact ih x hx
/-- What HexOf tells. -/
def hexV (n d:Int):ByteArray:=if (1 ≤ d ∧ d ≤ 4) ∧ (0 ≤ n ∧ n ≤ 65535) ∧ n < 16 ^ d.toNat then strOfNums (36 :: hexUp n d.toNat) else ⟨#[]⟩
theorem hexV_none {n d:Int} (h:¬ ((1 ≤ d ∧ d ≤ 4) ∧ (0 ≤ n ∧ n ≤ 65535) ∧ n < 16 ^ d.toNat)):hexV n d = ⟨#[]⟩:=by rw [hexV,if_neg h]
def DIG:ByteArray:=⟨#[48,49,50,51,52,53,54,55,56,57,65,66,67,68,69,70]⟩
theorem dig_cut:∀ v:Fin 16,DIG.extract v.val (v.val + 1) = strOfNums [upD (v.val:Int)]:=by decide +kernel
theorem str_cons (a:Int) (L:List Int):strOfNums [a] ++ strOfNums L = strOfNums (a :: L):=str_app [a] L
theorem pow_pos16 (k:Nat):(0:Int) < 16 ^ k:=Int.pow_pos (by decide)
theorem div_step (n:Int) (k:Nat):n / 16 ^ k / 16 = n / 16 ^ (k + 1):=by
 rw [Int.pow_succ,Int.ediv_ediv,if_neg (fun e => by have:=pow_pos16 k;omega)]
 omega
theorem hexS_loop (n:Int) (hn0:0 ≤ n) (hn1:n ≤ 65535) (d:Nat) (hd:d ≤ 4):∀ r i:Nat,i + r = d → Tot (fun k => spec_HexOf.l0 k (n / 16 ^ i) (d:Int) (strOfNums (hexUp n i)) (i:Int)) (· = if n / 16 ^ d > 0 then ⟨#[]⟩ else strOfNums (36 :: hexUp n d)):=by
 intro r
 induction r with
 | zero =>
  intro i hi
  obtain rfl:i = d:=by omega
  refine Tot.step (fun k => spec_HexOf.l0.eq_2 _ _ _ _ k) (Tot.no (by omega) ?_)
  refine Tot.ite (fun h => Tot.ret (by rw [if_pos h])) (fun h => ?_)
  refine Tot.yes (by rw [strOfNums_size,hexUp_length];omega) (Tot.ret ?_)
  rw [if_neg h]
  exact str_cons 36 _
 | succ r ih =>
  intro i hi
  have q0:0 ≤ n / 16 ^ i:=Int.ediv_nonneg hn0 (Int.le_of_lt (pow_pos16 i))
  have q1:n / 16 ^ i ≤ 65535:=Int.le_trans (Int.ediv_le_self _ hn0) hn1
  refine Tot.step (fun k => spec_HexOf.l0.eq_2 _ _ _ _ k) (Tot.yes (by omega) ?_)
  rw [tmod_pos _ q0,tdiv_pos _ q0]
  have m0:0 ≤ n / 16 ^ i % 16:=Int.emod_nonneg _ (by decide)
  have m1:n / 16 ^ i % 16 < 16:=Int.emod_lt_of_pos _ (by decide)
  rw [w64_in (n:=n / 16 ^ i % 16 + 1) (by omega) (by omega),w64_in (n:=n / 16 ^ i / 16) (by omega) (by omega),w64_in (n:=(i:Int) + 1) (by omega) (by omega)]
  have ec:(⟨#[48,49,50,51,52,53,54,55,56,57,65,66,67,68,69,70]⟩:ByteArray).extract (n / 16 ^ i % 16).toNat (n / 16 ^ i % 16 + 1).toNat = strOfNums [upD (n / 16 ^ i % 16)]:=by
   have:=dig_cut ⟨(n / 16 ^ i % 16).toNat,by omega⟩
   rw [show (((n / 16 ^ i % 16).toNat:Nat):Int) = n / 16 ^ i % 16 by omega] at this
   rw [show (n / 16 ^ i % 16 + 1).toNat = (n / 16 ^ i % 16).toNat + 1 by omega]
   exact this
  rw [ec,str_cons,div_step]
  refine Tot.yes m0 (Tot.yes (by omega) (Tot.yes (by omega) (Tot.yes (by rw [strOfNums_size,strOfNums_size,hexUp_length];simp;omega) ?_)))
  exact ih (i + 1) (by omega)
theorem hexS_T (n d:Int):Tot (fun k => spec_HexOf.f k n d) (· = hexV n d):=by
 unfold spec_HexOf.f
 have hin:∀ (a lo hi:Int),spec_l1In.f a lo hi = some (decide (lo ≤ a ∧ a ≤ hi)):=by
  intro a lo hi
  unfold spec_l1In.f
  by_cases h:a ≥ lo
  ·rw [if_pos h];simp [show lo ≤ a from h]
  ·rw [if_neg h];simp [show ¬ lo ≤ a from h]
 refine Tot.bind (Tot.of (hin _ _ _) rfl) ?_
 rintro _ rfl
 refine Tot.ite (fun h => ?_) (fun h => Tot.step (fun k => spec_HexOf.j0.eq_2 _ _ _ k) (Tot.yes rfl (Tot.ret (hexV_none (fun e => h (decide_eq_true e.1))).symm)))
 have hd:=of_decide_eq_true h
 refine Tot.bind (Tot.of (hin _ _ _) rfl) ?_
 rintro _ rfl
 refine Tot.step (fun k => spec_HexOf.j0.eq_2 _ _ _ k) (Tot.ite (fun h => Tot.ret (hexV_none (fun e => by have:=e.2.1;simp [this] at h)).symm) (fun h => ?_))
 have hn:0 ≤ n ∧ n ≤ 65535:=by simpa using h
 obtain ⟨D,rfl⟩:∃ D:Nat,d = D:=⟨d.toNat,by omega⟩
 have hl:=hexS_loop n hn.1 hn.2 D (by omega) D 0 (by omega)
 rw [Int.pow_zero,Int.ediv_one] at hl
 refine Tot.mono hl (fun r hr => ?_)
 rw [hr]
 by_cases hq:n < 16 ^ D
 ·rw [if_neg (by rw [Int.ediv_eq_zero_of_lt hn.1 hq];decide),hexV,if_pos ⟨hd,hn,by rw [Int.toNat_natCast];exact hq⟩,Int.toNat_natCast]
 ·have h1:1 ≤ n / 16 ^ D:=by rw [Int.le_ediv_iff_mul_le (pow_pos16 D)];omega
  rw [if_pos (show n / 16 ^ D > 0 by omega),hexV_none (fun e => hq (by have:=e.2.2;rwa [Int.toNat_natCast] at this))]
/-! #### .. and the program's -/
theorem up_of_low:∀ v:Fin 16,Lib.upperB (UInt8.ofNat (LibF.hexDig v.val).toNat) = UInt8.ofNat (upD (v.val:Int)).toNat ∧ (UInt8.ofNat (LibF.hexDig v.val).toNat).toNat < 128:=by decide
theorem upper_low (n:Nat) (k:Nat):Lib.toUpperA ((LibF.hexLow n k).map fun x => UInt8.ofNat x.toNat) = (hexUp (n:Int) k).map (fun x => UInt8.ofNat x.toNat) ∧ ((LibF.hexLow n k).map fun x => UInt8.ofNat x.toNat).all (fun b => decide (b.toNat < 128)) = true:=by
 induction k with
 | zero => exact ⟨rfl,rfl⟩
 | succ k ih =>
  have h:=up_of_low ⟨n / 16 ^ k % 16,Nat.mod_lt _ (by decide)⟩
  have e:(((n / 16 ^ k % 16:Nat)):Int) = (n:Int) / 16 ^ k % 16:=by
   rw [Int.natCast_emod,Int.natCast_ediv,Int.natCast_pow];rfl
  simp only [e] at h
  constructor
  ·rw [LibF.hexLow,hexUp,List.map_cons,List.map_cons]
   show Lib.upperB _ :: Lib.toUpperA _ = _
   rw [h.1,ih.1]
  ·rw [LibF.hexLow,List.map_cons,List.all_cons,ih.2,Bool.and_true]
   exact decide_eq_true h.2
theorem strOf_map (L:List Int):strOfNums L = ⟨(L.map fun x => UInt8.ofNat x.toNat).toArray⟩:=rfl
theorem hexUp_more (n:Int) (k:Nat) (hn0:0 ≤ n) (hn:n < 16 ^ k):∀ c,hexUp n (k + c) = List.replicate c 48 ++ hexUp n k:=by
 intro c
 induction c with
 | zero => rfl
 | succ c ih =>
  have hz:n / 16 ^ (k + c) = 0:=Int.ediv_eq_zero_of_lt hn0 (Int.lt_of_lt_of_le hn (by
   rw [Int.pow_add]
   have h1:=pow_pos16 k
   have h2:(1:Int) ≤ 16 ^ c:=pow_pos16 c
   calc (16:Int) ^ k = 16 ^ k * 1:=(Int.mul_one _).symm
    _ ≤ 16 ^ k * 16 ^ c:=Int.mul_le_mul_of_nonneg_left h2 (Int.le_of_lt h1)))
  rw [show k + (c + 1) = (k + c) + 1 by omega,hexUp,ih,hz,List.replicate_succ]
  rfl
theorem hexK_spec (n:Nat) (hn:n < 65536):(n:Int) < 16 ^ (LibF.hexK n + 1) ∧ (∀ d:Nat,1 ≤ d → d ≤ 4 → (n:Int) < 16 ^ d → LibF.hexK n + 1 ≤ d) ∧ LibF.hexK n ≤ 3:=by
 unfold LibF.hexK
 refine ⟨?_,?_,?_⟩
 ·split
  ·simp;omega
  ·split
   ·simp;omega
   ·split <;> simp <;> omega
 ·intro d h1 h4 hd
  rcases (show d = 1 ∨ d = 2 ∨ d = 3 ∨ d = 4 by omega) with rfl | rfl | rfl | rfl <;> simp at hd <;> (repeat' split) <;> omega
 ·(repeat' split) <;> omega
theorem rep48 (c:Nat):Lib.repeatL [48] c = (List.replicate c (48:Int)).map (fun x => UInt8.ofNat x.toNat):=by
 induction c with
 | zero => rfl
 | succ c ih => rw [Lib.repeatL,ih,List.replicate_succ];rfl
theorem hexDigits_eq (n:Int) (d:Nat) (hn0:0 ≤ n) (hn1:n ≤ 65535) (hd0:1 ≤ d) (hd1:d ≤ 4) (hlt:n < 16 ^ d):impl_hexDigits.f n (d:Int) = some (strOfNums (hexUp n d)):=by
 obtain ⟨m,rfl⟩:∃ m:Nat,n = m:=⟨n.toNat,by omega⟩
 obtain ⟨s1,s2,s3⟩:=hexK_spec m (by omega)
 have s2:=s2 d hd0 hd1 hlt
 unfold impl_hexDigits.f
 have e1:strconv_FormatInt.f (m:Int) 16 = some (strOfNums (LibF.hexLow m (LibF.hexK m + 1))):=by
  unfold strconv_FormatInt.f
  rw [if_neg (by decide),if_pos rfl,if_pos hn0,if_pos (by omega),Int.toNat_natCast]
  rfl
 rw [e1,Option.bind_some]
 have e2:strings_ToUpper.f (strOfNums (LibF.hexLow m (LibF.hexK m + 1))) = some (strOfNums (hexUp (m:Int) (LibF.hexK m + 1))):=by
  unfold strings_ToUpper.f
  obtain ⟨u1,u2⟩:=upper_low m (LibF.hexK m + 1)
  rw [if_pos (by rw [strOfNums_size,LibF.hexLow_length];omega),strOfNums_data,if_pos u2,u1]
  rfl
 rw [e2,Option.bind_some]
 have ez:((strOfNums (hexUp (m:Int) (LibF.hexK m + 1))).size:Int) = LibF.hexK m + 1:=by rw [strOfNums_size,hexUp_length];rfl
 rw [ez,w64_in (n:=(d:Int) - (LibF.hexK m + 1)) (by omega) (by omega),show mx 0 ((d:Int) - ((LibF.hexK m:Int) + 1)) = ((d - (LibF.hexK m + 1):Nat):Int) by unfold mx;omega]
 obtain ⟨c,hc⟩:∃ c,d - (LibF.hexK m + 1) = c:=⟨_,rfl⟩
 rw [hc]
 have e3:strings_Repeat.f (⟨#[48]⟩:ByteArray) (c:Int) = some (strOfNums (List.replicate c 48)):=by
  unfold strings_Repeat.f
  rw [if_pos (by omega),if_pos (by omega),if_pos (by have:(⟨#[48]⟩:ByteArray).size = 1:=rfl;rw [this,Int.toNat_natCast];omega),Int.toNat_natCast]
  have:(⟨#[48]⟩:ByteArray).data.toList = [48]:=rfl
  rw [this,rep48]
  rfl
 rw [e3,Option.bind_some,if_pos (by rw [strOfNums_size,strOfNums_size,hexUp_length,List.length_replicate];omega),str_app,← hexUp_more (m:Int) _ hn0 s1,show LibF.hexK m + 1 + c = d by omega]
/-! ### a list of arguments,byte by byte -/
theorem toL (a:ByteArray):a.toList = a.data.toList:=ByteArray.toList_eq a
theorem datL (a:ByteArray):a.data.toList.length = a.size:=by rw [Array.length_toList];rfl
def mkB (l:List UInt8):ByteArray:=⟨l.toArray⟩
theorem mkB_data (a:ByteArray):mkB a.data.toList = a:=rfl
theorem ba_ext {a b:ByteArray} (h:a.data.toList = b.data.toList):a = b:=by
 have:=congrArg mkB h
 rwa [mkB_data,mkB_data] at this
theorem bt_data {s:ByteArray} {i:Nat} (h:i < s.size):∃ u:UInt8,s.data.toList[i]? = some u ∧ bt s (i:Int) = (u.toNat:Int):=by
 have hl:i < s.data.toList.length:=by rw [datL];exact h
 refine ⟨s.data.toList[i],List.getElem?_eq_getElem hl,?_⟩
 unfold bt
 rw [dif_pos (show ((i:Int)).toNat < s.size by omega)]
 congr 2
theorem u8_lit (u:UInt8) (n:Nat) (hn:n < 256):(u.toNat:Int) = (n:Int) ↔ u = UInt8.ofNat n:=by
 constructor
 ·intro h
  apply UInt8.toNat_inj.1
  rw [UInt8.toNat_ofNat']
  omega
 ·intro h
  rw [h,UInt8.toNat_ofNat']
  omega
theorem u32 (u:UInt8):(u.toNat:Int) = 32 ↔ u = 32:=u8_lit u 32 (by decide)
theorem u44 (u:UInt8):(u.toNat:Int) = 44 ↔ u = 44:=u8_lit u 44 (by decide)
theorem nil_size (a:ByteArray):a.toList = ([]:List UInt8) ↔ a.size = 0:=by
 rw [toL]
 constructor
 ·intro h
  have:=congrArg List.length h
  rwa [Array.length_toList] at this
 ·intro h
  exact List.eq_nil_of_length_eq_zero (by rw [Array.length_toList];exact h)
theorem bytesStr {xs:List Int} (h:∀ x ∈ xs,0 ≤ x ∧ x < 256):bytesOf (strOfNums xs) = xs:=by
 unfold bytesOf
 rw [strOfNums_data,List.map_map]
 conv => rhs;rw [← List.map_id xs]
 refine List.map_congr_left fun x hx => ?_
 have:=h x hx
 simp only [Function.comp,id]
 rw [UInt8.toNat_ofNat']
 omega
theorem btL (s:ByteArray) (i:Int):bt s i = (bytesOf s).getD i.toNat 0:=by rw [← rd_bytesOf];rfl
theorem hexUp_at (n:Int):∀ (d i:Nat),i < d → (hexUp n d).getD i 0 = upD (n / 16 ^ (d - 1 - i) % 16)
 | 0,i,h => by omega
 | d + 1,0,_ => by simp [hexUp]
 | d + 1,i + 1,h => by
  rw [hexUp,List.getD_cons_succ,hexUp_at n d i (by omega),show d + 1 - 1 - (i + 1) = d - 1 - i by omega]
theorem index_up:∀ v:Fin 16,strings_IndexByte.f DIG (upD (v.val:Int)) = some (v.val:Int):=by decide +kernel
theorem value_loop (n:Int) (hn0:0 ≤ n) (hn1:n ≤ 65535) (d:Nat) (h1:1 ≤ d) (h4:d ≤ 4) (hlt:n < 16 ^ d):∀ r i:Nat,i + r = d → Tot (fun k => impl_valueOf.l0 k (strOfNums (hexUp n d)) DIG (n / 16 ^ (d - i)) (d:Int) (i:Int)) (· = (n,true)):=by
 have hB:=bytesStr (hexUp_bytes n d)
 have hz:(strOfNums (hexUp n d)).size = d:=by rw [strOfNums_size,hexUp_length]
 intro r
 induction r with
 | zero =>
  intro i hi
  obtain rfl:i = d:=by omega
  refine Tot.step (fun k => impl_valueOf.l0.eq_2 _ _ _ _ _ k) (Tot.no (by omega) (Tot.no (fun e => by have:=(nil_size _).1 e;omega) (Tot.ret ?_)))
  rw [Nat.sub_self,Int.pow_zero,Int.ediv_one,decide_eq_true hn1]
 | succ r ih =>
  intro i hi
  have q0:0 ≤ n / 16 ^ (d - i):=Int.ediv_nonneg hn0 (Int.le_of_lt (pow_pos16 _))
  have q1:n / 16 ^ (d - i) ≤ 65535:=Int.le_trans (Int.ediv_le_self _ hn0) hn1
  have hs:=div_step n (d - 1 - i)
  rw [show d - 1 - i + 1 = d - i by omega] at hs
  have p0:0 ≤ n / 16 ^ (d - 1 - i):=Int.ediv_nonneg hn0 (Int.le_of_lt (pow_pos16 _))
  have p1:n / 16 ^ (d - 1 - i) ≤ 65535:=Int.le_trans (Int.ediv_le_self _ hn0) hn1
  have eb:bt (strOfNums (hexUp n d)) (i:Int) = upD (n / 16 ^ (d - 1 - i) % 16):=by rw [btL,hB,Int.toNat_natCast,hexUp_at n d i (by omega)]
  have ix:strings_IndexByte.f DIG (upD (n / 16 ^ (d - 1 - i) % 16)) = some (n / 16 ^ (d - 1 - i) % 16):=by
   have:=index_up ⟨(n / 16 ^ (d - 1 - i) % 16).toNat,by omega⟩
   rwa [show (((n / 16 ^ (d - 1 - i) % 16).toNat:Nat):Int) = n / 16 ^ (d - 1 - i) % 16 by omega] at this
  refine Tot.step (fun k => impl_valueOf.l0.eq_2 _ _ _ _ _ k) (Tot.yes (by omega) (Tot.yes (by omega) (Tot.yes (by omega) ?_)))
  rw [eb]
  refine Tot.bind (Tot.of ix rfl) ?_
  rintro _ rfl
  refine Tot.no (by omega) (Tot.no (by omega) ?_)
  have ed:(DIG.size:Int) = 16:=rfl
  rw [ed,w64_in (n:=n / 16 ^ (d - i) * 16) (by omega) (by omega),w64_in (n:=n / 16 ^ (d - i) * 16 + n / 16 ^ (d - 1 - i) % 16) (by omega) (by omega),w64_in (n:=(i:Int) + 1) (by omega) (by omega)]
  have:=ih (i + 1) (by omega)
  rw [show d - (i + 1) = d - 1 - i by omega] at this
  rw [show n / 16 ^ (d - i) * 16 + n / 16 ^ (d - 1 - i) % 16 = n / 16 ^ (d - 1 - i) by omega]
  exact this
theorem value_T (n:Int) (hn0:0 ≤ n) (hn1:n ≤ 65535) (d:Nat) (h1:1 ≤ d) (h4:d ≤ 4) (hlt:n < 16 ^ d):Tot (fun k => impl_valueOf.f k (strOfNums (hexUp n d)) DIG) (· = (n,true)):=by
 have h:=value_loop n hn0 hn1 d h1 h4 hlt d 0 (by omega)
 rw [Nat.sub_zero,Int.ediv_eq_zero_of_lt hn0 hlt] at h
 unfold impl_valueOf.f
 rw [strOfNums_size,hexUp_length]
 exact h
theorem str_first (x:Int) (L:List Int):(strOfNums (x :: L)).extract 0 1 = strOfNums [x]:=by
 apply ByteArray.ext
 rw [ByteArray.data_extract]
 apply Array.ext'
 rw [Array.toList_extract,strOfNums_data,strOfNums_data,List.extract_eq_take_drop]
 simp
theorem str_rest (x:Int) (L:List Int):(strOfNums (x :: L)).extract 1 (strOfNums (x :: L)).size = strOfNums L:=by
 apply ByteArray.ext
 rw [ByteArray.data_extract]
 apply Array.ext'
 rw [Array.toList_extract,strOfNums_data,strOfNums_data,List.extract_eq_take_drop,strOfNums_size,List.map_cons,List.drop_succ_cons,List.drop_zero,List.take_of_length_le (by rw [List.length_map,List.length_cons];omega)]
theorem dollar (L:List Int):strings_HasPrefix.f (strOfNums (36 :: L)) (⟨#[36]⟩:ByteArray) = some true:=by
 unfold strings_HasPrefix.f stringslite_HasPrefix.f
 have e1:((⟨#[36]⟩:ByteArray).size:Int) = 1:=rfl
 rw [e1,strOfNums_size,if_pos (by rw [List.length_cons];omega),if_pos (by decide),if_pos (by rw [List.length_cons];omega),Option.bind_some]
 rw [show (1:Int).toNat = 1 from rfl,str_first,ByteArray.toList_eq,ByteArray.toList_eq,strOfNums_data]
 rfl
theorem readNum_T (n:Int) (hn0:0 ≤ n) (hn1:n ≤ 65535) (d:Nat) (h1:1 ≤ d) (h4:d ≤ 4) (hlt:n < 16 ^ d):Tot (fun k => impl_ReadNum.f k (strOfNums (36 :: hexUp n d))) (· = (n,true)):=by
 unfold impl_ReadNum.f
 have hz:((strOfNums (36 :: hexUp n d)).size:Int) = d + 1:=by rw [strOfNums_size,List.length_cons,hexUp_length];rfl
 refine Tot.no (by omega) ?_
 refine Tot.bind (Tot.of (dollar _) rfl) ?_
 rintro _ rfl
 refine Tot.yes rfl (Tot.yes (by omega) ?_)
 rw [str_rest]
 refine Tot.bind (value_T n hn0 hn1 d h1 h4 hlt) ?_
 rintro _ rfl
 exact Tot.step (fun k => impl_ReadNum.j0.eq_2 _ _ k) (Tot.yes rfl (Tot.ret rfl))
/-! ### names and ops -/
theorem size0 (a:ByteArray):a.toList = ([]:List UInt8) ↔ a.size = 0:=by
 rw [toL]
 constructor
 ·intro h;rw [← datL,h];rfl
 ·intro h;exact List.eq_nil_of_length_eq_zero (by rw [datL];exact h)
theorem withinI (a lo hi:Int):impl_within.f a lo hi = some (decide (lo ≤ a ∧ a ≤ hi)):=by
 unfold impl_within.f
 by_cases h:a ≥ lo
 ·rw [if_pos h];simp [show lo ≤ a from h]
 ·rw [if_neg h];simp [show ¬ lo ≤ a from h]
theorem digI (c:Int):impl_isDigit.f c = some (decide (48 ≤ c ∧ c ≤ 57)):=by
 unfold impl_isDigit.f
 by_cases h:c ≥ 48
 ·rw [if_pos h];simp [show 48 ≤ c from h]
 ·rw [if_neg h];simp [show ¬ 48 ≤ c from h]
theorem smI (c:Int):impl_isSmall.f c = some (decide (97 ≤ c ∧ c ≤ 122)):=by
 unfold impl_isSmall.f
 by_cases h:c ≥ 97
 ·rw [if_pos h];simp [show 97 ≤ c from h]
 ·rw [if_neg h];simp [show ¬ 97 ≤ c from h]
/-- A letter as names begin with. -/
def ltC (c:Int):Prop:=(97 ≤ c ∧ c ≤ 122) ∨ c = 95 ∨ c = 46
def nmC (c:Int):Prop:=ltC c ∨ (48 ≤ c ∧ c ≤ 57)
instance (c:Int):Decidable (ltC c):=by unfold ltC;infer_instance
instance (c:Int):Decidable (nmC c):=by unfold nmC;infer_instance
theorem ltS (c:Int):spec_l1Letter.f c = some (decide (ltC c)):=by
 unfold spec_l1Letter.f ltC
 by_cases h:c ≥ 97
 ·rw [if_pos h]
  by_cases g:c ≤ 122
  ·rw [if_pos g];simp [g,show 97 ≤ c from h]
  ·rw [if_neg g,if_neg (show ¬ c = 95 by omega)]
   simp [show ¬ c = 46 by omega,show ¬ c = 95 by omega,g]
 ·rw [if_neg h]
  by_cases g:c = 95
  ·rw [if_pos g];simp [g]
  ·rw [if_neg g]
   by_cases e:c = 46
   ·simp [e]
   ·simp [e,g,show ¬ 97 ≤ c from h]
def NameG (s:ByteArray):Prop:=1 ≤ s.size ∧ s.size ≤ 16 ∧ ltC (bt s 0) ∧ ∀ i:Nat,i < s.size → nmC (bt s (i:Int))
theorem nameI_T (s:ByteArray) (h:s.size ≤ 1000000):Tot (fun k => impl_NameOk.f k s) (fun b => b = true ↔ NameG s):=by
 have go:1 ≤ s.size → s.size ≤ 16 → ∀ (d i:Nat),s.size - i = d → i ≤ s.size → (∀ j:Nat,j < i → nmC (bt s (j:Int))) → Tot (fun k => impl_NameOk.l0 k s (s.size:Int) (i:Int)) (fun b => b = true ↔ ∀ i:Nat,i < s.size → nmC (bt s (i:Int))):=by
  intro z1 z2 d
  induction d with
  | zero =>
   intro i h1 h2 hi
   exact Tot.step (fun k => impl_NameOk.l0.eq_2 _ _ _ k) (Tot.no (by omega) (Tot.ret ⟨fun _ j hj => hi j (by omega),fun _ => rfl⟩))
  | succ d ih =>
   intro i h1 h2 hi
   refine Tot.step (fun k => impl_NameOk.l0.eq_2 _ _ _ k) (Tot.yes (by omega) (Tot.yes (by omega) (Tot.yes (by omega) ?_)))
   have j2:∀ b:Bool,(b = true ↔ ¬ nmC (bt s (i:Int))) → Tot (fun k => impl_NameOk.j2 k s (s.size:Int) (i:Int) b) (fun b => b = true ↔ ∀ i:Nat,i < s.size → nmC (bt s (i:Int))):=by
    intro b hb
    refine Tot.step (fun k => impl_NameOk.j2.eq_2 _ _ _ _ k) (Tot.ite (fun e => Tot.ret ?_) (fun e => ?_))
    ·exact ⟨fun x => absurd x (by decide),fun x => absurd (x i (by omega)) (hb.1 e)⟩
    ·rw [w64_in (by omega) (by omega)]
     have ok:nmC (bt s (i:Int)):=Classical.byContradiction fun x => e (hb.2 x)
     exact ih (i + 1) (by omega) (by omega) (fun j hj => by
      by_cases c:j < i
      ·exact hi j c
      ·rw [show j = i by omega];exact ok)
   unfold nmC ltC at j2
   generalize bt s (i:Int) = c at j2 ⊢
   refine Tot.bind (Tot.of (smI c) rfl) ?_
   rintro _ rfl
   refine Tot.ite (fun e => j2 _ ?_) (fun e => ?_)
   ·have:=of_decide_eq_true e
    exact ⟨fun x => absurd x (by decide),fun x => absurd (.inl (.inl this)) x⟩
   ·have n1:¬ (97 ≤ c ∧ c ≤ 122):=fun x => e (decide_eq_true x)
    refine Tot.bind (Tot.of (digI c) rfl) ?_
    rintro _ rfl
    refine Tot.ite (fun e => j2 _ ?_) (fun e => Tot.ite (fun g => j2 _ ?_) (fun g => j2 _ ?_))
    ·have:=of_decide_eq_true e
     exact ⟨fun x => absurd x (by decide),fun x => absurd (.inr this) x⟩
    ·exact ⟨fun x => absurd x (by decide),fun x => absurd (.inl (.inr (.inl g))) x⟩
    ·have n2:¬ (48 ≤ c ∧ c ≤ 57):=fun x => e (decide_eq_true x)
     rw [bne_iff_ne]
     constructor
     ·rintro x ((y | y | y) | y)
      ·exact n1 y
      ·exact g y
      ·exact x y
      ·exact n2 y
     ·intro x y
      exact x (.inl (.inr (.inr y)))
 unfold impl_NameOk.f
 refine Tot.bind (Tot.of (withinI _ _ _) rfl) ?_
 rintro _ rfl
 have j0:∀ (b:Bool),(b = false → 1 ≤ s.size ∧ s.size ≤ 16) → (b = true → ¬ NameG s) → (b = false → (∀ i:Nat,i < s.size → nmC (bt s (i:Int))) → ltC (bt s 0)) → Tot (fun k => impl_NameOk.j0 k s b) (fun b => b = true ↔ NameG s):=by
  intro b h1 h2 h3
  refine Tot.step (fun k => impl_NameOk.j0.eq_2 _ _ k) (Tot.ite (fun e => Tot.ret ⟨fun x => absurd x (by decide),fun x => absurd x (h2 e)⟩) (fun e => ?_))
  have e':b = false:=by simpa using e
  obtain ⟨z1,z2⟩:=h1 e'
  refine (go z1 z2 _ 0 rfl (Nat.zero_le _) (fun j hj => absurd hj (Nat.not_lt_zero _))).mono fun r hr => ?_
  rw [hr]
  exact ⟨fun x => ⟨z1,z2,h3 e' x,x⟩,fun x => x.2.2.2⟩
 refine Tot.ite (fun e => ?_) (fun e => j0 _ (fun x => absurd x (by decide)) (fun _ x => e (decide_eq_true (by have:=x.1;have:=x.2.1;omega))) (fun x => absurd x (by decide)))
 have z:=of_decide_eq_true e
 refine Tot.yes (by omega) ?_
 refine Tot.bind (Tot.of (digI _) rfl) ?_
 rintro _ rfl
 refine j0 _ (fun _ => by omega) (fun x y => ?_) (fun x y => ?_)
 ·have d:=of_decide_eq_true x
  have l:=y.2.2.1
  unfold ltC at l
  omega
 ·have d:=of_decide_eq_false x
  have:=y 0 (by omega)
  unfold nmC at this
  rcases this with q | q
  ·exact q
  ·exact absurd q d
theorem nameS_T (s:ByteArray) (h:s.size ≤ 1000000):Tot (fun k => spec_NameOk.f k s) (fun b => b = true ↔ NameG s):=by
 have go:1 ≤ s.size → s.size ≤ 16 → ∀ (d i:Nat),s.size - i = d → i ≤ s.size → (∀ j:Nat,j < i → nmC (bt s (j:Int))) → Tot (fun k => spec_NameOk.l0 k s (i:Int)) (fun b => b = true ↔ ∀ i:Nat,i < s.size → nmC (bt s (i:Int))):=by
  intro z1 z2 d
  induction d with
  | zero =>
   intro i h1 h2 hi
   exact Tot.step (fun k => spec_NameOk.l0.eq_2 _ _ k) (Tot.no (by omega) (Tot.ret ⟨fun _ j hj => hi j (by omega),fun _ => rfl⟩))
  | succ d ih =>
   intro i h1 h2 hi
   refine Tot.step (fun k => spec_NameOk.l0.eq_2 _ _ k) (Tot.yes (by omega) (Tot.yes (by omega) ?_))
   have j2:∀ b:Bool,(b = true ↔ ¬ nmC (bt s (i:Int))) → Tot (fun k => spec_NameOk.j2 k s (i:Int) b) (fun b => b = true ↔ ∀ i:Nat,i < s.size → nmC (bt s (i:Int))):=by
    intro b hb
    refine Tot.step (fun k => spec_NameOk.j2.eq_2 _ _ _ k) (Tot.ite (fun e => Tot.ret ?_) (fun e => ?_))
    ·exact ⟨fun x => absurd x (by decide),fun x => absurd (x i (by omega)) (hb.1 e)⟩
    ·rw [w64_in (by omega) (by omega)]
     have ok:nmC (bt s (i:Int)):=Classical.byContradiction fun x => e (hb.2 x)
     exact ih (i + 1) (by omega) (by omega) (fun j hj => by
      by_cases c:j < i
      ·exact hi j c
      ·rw [show j = i by omega];exact ok)
   unfold nmC at j2
   generalize bt s (i:Int) = c at j2 ⊢
   refine Tot.bind (Tot.of (ltS c) rfl) ?_
   rintro _ rfl
   refine Tot.ite (fun e => j2 _ ?_) (fun e => Tot.ite (fun g => j2 _ ?_) (fun g => j2 _ ?_))
   ·have:=of_decide_eq_true e
    exact ⟨fun x => absurd x (by decide),fun x => absurd (.inl this) x⟩
   ·have n1:¬ ltC c:=fun x => e (decide_eq_true x)
    have g':48 ≤ c:=g
    by_cases l:c ≤ 57
    ·simp [l,g']
    ·simp [l,n1]
   ·have n1:¬ ltC c:=fun x => e (decide_eq_true x)
    have g':¬ 48 ≤ c:=g
    simp [g',n1]
 unfold spec_NameOk.f
 have j0:∀ (b:Bool),(b = false → 1 ≤ s.size ∧ s.size ≤ 16 ∧ ltC (bt s 0)) → (b = true → ¬ NameG s) → Tot (fun k => spec_NameOk.j0 k s b) (fun b => b = true ↔ NameG s):=by
  intro b h1 h2
  refine Tot.step (fun k => spec_NameOk.j0.eq_2 _ _ k) (Tot.ite (fun e => Tot.ret ⟨fun x => absurd x (by decide),fun x => absurd x (h2 e)⟩) (fun e => ?_))
  obtain ⟨z1,z2,z3⟩:=h1 (by simpa using e)
  refine (go z1 z2 _ 0 rfl (Nat.zero_le _) (fun j hj => absurd hj (Nat.not_lt_zero _))).mono fun r hr => ?_
  rw [hr]
  exact ⟨fun x => ⟨z1,z2,z3,x⟩,fun x => x.2.2.2⟩
 refine Tot.ite (fun e => j0 _ (fun x => absurd x (by decide)) (fun _ x => by have:=x.1;omega)) (fun e => Tot.ite (fun g => j0 _ (fun x => absurd x (by decide)) (fun _ x => by have:=x.2.1;omega)) (fun g => Tot.yes (by omega) ?_))
 refine Tot.bind (Tot.of (ltS _) rfl) ?_
 rintro _ rfl
 refine j0 _ (fun x => ⟨by omega,by omega,?_⟩) (fun x y => ?_)
 ·simpa using x
 ·have:=y.2.2.1
  simp [this] at x
theorem ext_data (s:ByteArray) (i j:Nat):(s.extract i j).data.toList = (s.data.toList.drop i).take (j - i):=by
 rw [ByteArray.data_extract,Array.toList_extract,List.extract_eq_take_drop]
/-! ### what stands ahead of a byte,and behind it -/
def cutL (c:UInt8):List UInt8 → List UInt8 × List UInt8 × Bool
 | [] => ([],[],false)
 | x :: t => if x = c then ([],t,true) else (x :: (cutL c t).1,(cutL c t).2.1,(cutL c t).2.2)
theorem cutS_T (c:Nat) (hc:c < 256) {s:ByteArray} (h:s.size ≤ 1000000):Tot (fun k => spec_l1Cut.f k s (c:Int)) (· = (mkB (cutL (UInt8.ofNat c) s.data.toList).1,mkB (cutL (UInt8.ofNat c) s.data.toList).2.1,(cutL (UInt8.ofNat c) s.data.toList).2.2)):=by
 have go:∀ (d i:Nat),s.size - i = d → i ≤ s.size → cutL (UInt8.ofNat c) s.data.toList = (s.data.toList.take i ++ (cutL (UInt8.ofNat c) (s.data.toList.drop i)).1,(cutL (UInt8.ofNat c) (s.data.toList.drop i)).2) →
   Tot (fun k => spec_l1Cut.l0 k s (c:Int) (i:Int)) (· = (mkB (cutL (UInt8.ofNat c) s.data.toList).1,mkB (cutL (UInt8.ofNat c) s.data.toList).2.1,(cutL (UInt8.ofNat c) s.data.toList).2.2)):=by
  intro d
  induction d with
  | zero =>
   intro i h1 h2 hi
   refine Tot.step (fun k => spec_l1Cut.l0.eq_2 _ _ _ k) (Tot.no (by omega) (Tot.ret ?_))
   rw [hi,List.drop_eq_nil_of_le (by rw [datL];omega),List.take_of_length_le (by rw [datL];omega)]
   show _ = (mkB (s.data.toList ++ []),mkB [],false)
   rw [List.append_nil,mkB_data]
   rfl
  | succ d ih =>
   intro i h1 h2 hi
   obtain ⟨u,u1,u2⟩:=bt_data (s:=s) (i:=i) (by omega)
   have hl:i < s.data.toList.length:=by rw [datL];omega
   have ed:s.data.toList.drop i = u :: s.data.toList.drop (i + 1):=by
    rw [List.drop_eq_getElem_cons hl]
    congr 1
    rw [List.getElem?_eq_getElem hl] at u1
    exact Option.some.inj u1
   have et:s.data.toList.take (i + 1) = s.data.toList.take i ++ [u]:=by
    rw [List.take_add_one,u1];rfl
   refine Tot.step (fun k => spec_l1Cut.l0.eq_2 _ _ _ k) (Tot.yes (by omega) (Tot.yes (by omega) ?_))
   rw [u2,w64_in (n:=(i:Int) + 1) (by omega) (by omega)]
   refine Tot.ite (fun e => Tot.yes (by omega) (Tot.yes (by omega) (Tot.yes (by omega) (Tot.ret ?_)))) (fun e => ?_)
   ·rw [hi,ed,cutL,if_pos ((u8_lit u c hc).1 e)]
    show _ = (mkB (s.data.toList.take i ++ []),mkB (s.data.toList.drop (i + 1)),true)
    rw [List.append_nil,Int.toNat_natCast,show ((i:Int) + 1).toNat = i + 1 by omega]
    congr 1
    ·apply ba_ext;rw [ext_data,List.drop_zero,Nat.sub_zero];rfl
    congr 1
    apply ba_ext
    rw [ext_data,List.take_of_length_le (by rw [List.length_drop,datL];omega)]
    rfl
   ·refine ih (i + 1) (by omega) (by omega) ?_
    rw [hi,ed,cutL,if_neg (fun x => e ((u8_lit u c hc).2 x)),et]
    simp
 unfold spec_l1Cut.f
 exact go _ 0 rfl (Nat.zero_le _) (by simp)
theorem cutL_len (c:UInt8):∀ s:List UInt8,(cutL c s).1.length ≤ s.length ∧ (cutL c s).2.1.length ≤ s.length
 | [] => ⟨Nat.le_refl _,Nat.le_refl _⟩
 | x :: t => by
  have:=cutL_len c t
  rw [cutL]
  split
  ·simp only [List.length_cons,List.length_nil];omega
  ·simp only [List.length_cons];omega
theorem cutL_yes (c:UInt8) (r:List UInt8):∀ (q:List UInt8),(∀ u ∈ q,u ≠ c) → cutL c (q ++ c :: r) = (q,r,true)
 | [],_ => by simp [cutL]
 | x :: t,h => by
  rw [List.cons_append,cutL,if_neg (h x (List.mem_cons_self ..)),cutL_yes c r t (fun u hu => h u (List.mem_cons_of_mem _ hu))]
theorem cutL_back (c:UInt8):∀ (q:List UInt8),(cutL c q).2.2 = true → q = (cutL c q).1 ++ c :: (cutL c q).2.1 ∧ ∀ u ∈ (cutL c q).1,u ≠ c
 | [],h => by simp [cutL] at h
 | x :: t,h => by
  by_cases e:x = c
  ·subst e
   simp [cutL]
  ·rw [cutL,if_neg e] at h ⊢
   obtain ⟨h1,h2⟩:=cutL_back c t h
   refine ⟨by dsimp only;rw [List.cons_append,← h1],fun u hu => ?_⟩
   rcases List.mem_cons.1 hu with rfl | hu
   ·exact e
   ·exact h2 u hu
theorem cutL_false (c:UInt8):∀ (q:List UInt8),(cutL c q).2.2 ≠ true → cutL c q = (q,[],false) ∧ ∀ u ∈ q,u ≠ c
 | [],_ => ⟨rfl,fun u hu => absurd hu (by simp)⟩
 | x :: t,h => by
  by_cases e:x = c
  ·rw [cutL,if_pos e] at h;exact absurd rfl h
  ·rw [cutL,if_neg e] at h ⊢
   obtain ⟨h1,h2⟩:=cutL_false c t h
   refine ⟨by rw [h1],fun u hu => ?_⟩
   rcases List.mem_cons.1 hu with rfl | hu
   ·exact e
   ·exact h2 u hu
theorem mem_bt {s:ByteArray} {u:UInt8} (h:u ∈ s.data.toList):∃ i:Nat,i < s.size ∧ bt s (i:Int) = (u.toNat:Int):=by
 obtain ⟨i,hi⟩:=List.mem_iff_getElem?.1 h
 have hl:i < s.size:=by rw [← datL];exact (List.getElem?_eq_some_iff.1 hi).1
 obtain ⟨v,v1,v2⟩:=bt_data hl
 rw [hi] at v1
 exact ⟨i,hl,by rw [v2,Option.some.inj v1]⟩
theorem cutL_lt (c:UInt8) {q:List UInt8} (h:(cutL c q).2.2 = true):(cutL c q).1.length + (cutL c q).2.1.length < q.length:=by
 have e:=congrArg List.length (cutL_back c q h).1
 rw [List.length_append,List.length_cons] at e
 omega
theorem mkB_size (l:List UInt8):(mkB l).size = l.length:=by rw [← datL];rfl
theorem app_data (x y:ByteArray):(x ++ y).data.toList = x.data.toList ++ y.data.toList:=by rw [ByteArray.data_append,Array.toList_append]
theorem nilD (a:ByteArray):a.toList = ([]:List UInt8) ↔ a.data.toList = []:=by rw [toL]
/-! ### a text without needless blanks,byte by byte -/
/-- The words between a byte and the next of its kind. -/
def wsp (b:UInt8):List UInt8 → List UInt8 × List (List UInt8)
 | [] => ([],[])
 | c :: t => if c = b then ([],(wsp b t).1 :: (wsp b t).2) else (c :: (wsp b t).1,(wsp b t).2)
theorem index1 (b:UInt8):∀ (s:List UInt8),(Lib.index s [b] = -1 ∧ wsp b s = (s,[])) ∨ ∃ i:Nat,Lib.index s [b] = i ∧ wsp b s = (s.take i,(wsp b (s.drop (i + 1))).1 :: (wsp b (s.drop (i + 1))).2)
 | [] => .inl ⟨rfl,rfl⟩
 | c :: t => by
  by_cases h:c = b
  ·subst h
   right
   refine ⟨0,by simp [Lib.index],?_⟩
   simp [wsp]
  ·have hp:List.isPrefixOf [b] (c :: t) = false:=by simp [List.isPrefixOf];exact fun e => h e.symm
   rcases index1 b t with ⟨e1,e2⟩ | ⟨i,e1,e2⟩
   ·left
    constructor
    ·rw [Lib.index,hp,e1];rfl
    ·rw [wsp,if_neg h,e2]
   ·right
    refine ⟨i + 1,?_,?_⟩
    ·rw [Lib.index,hp,e1]
     have:((i:Int) == -1) = false:=by rw [beq_eq_false_iff_ne];omega
     simp [this]
    ·rw [wsp,if_neg h,e2]
     rfl
theorem splitK1 (b:UInt8):∀ (n:Nat) (s:List UInt8),s.length ≤ n → Lib.splitK [b] 0 (Lib.count s [b]) s = (wsp b s).1 :: (wsp b s).2
 | n,s,hn => by
  rcases index1 b s with ⟨e1,e2⟩ | ⟨i,e1,e2⟩
  ·rw [Lib.count_miss e1,e2];rfl
  ·have hc:=Lib.count_hit (s:=s) (sub:=[b]) (by simp) e1
   have hr:=Lib.index_room s [b] (by omega)
   rw [e1] at hr
   have hl:i + 1 ≤ s.length:=by simp at hr;omega
   rw [hc,Nat.add_comm 1,Lib.splitK,if_neg (by rw [e1];simp),e1,e2]
   match n,hn with
   | 0,hn => omega
   | n + 1,hn =>
    have:=splitK1 b n (s.drop (i + 1)) (by rw [List.length_drop];omega)
    simp only [List.length_singleton,Int.toNat_natCast,Nat.add_zero]
    rw [this]
/-! ### the readers of numbers -/
theorem idxI (D:ByteArray) (c:Int):∃ v,strings_IndexByte.f D c = some v:=⟨_,rfl⟩
theorem preI (s p:ByteArray):∃ b,strings_HasPrefix.f s p = some b:=by
 unfold strings_HasPrefix.f stringslite_HasPrefix.f
 by_cases h:(s.size:Int) ≥ (p.size:Int)
 ·rw [if_pos h,if_pos (by omega),if_pos (by omega)];exact ⟨_,rfl⟩
 ·rw [if_neg h];exact ⟨_,rfl⟩
theorem valT (s D:ByteArray) (hs:s.size ≤ 20):∀ r i:Nat,i + r = s.size → ∀ v:Int,Tot (fun k => impl_valueOf.l0 k s D v (s.size:Int) (i:Int)) (fun _ => True):=by
 intro r
 induction r with
 | zero =>
  intro i hi v
  exact Tot.step (fun k => impl_valueOf.l0.eq_2 _ _ _ _ _ k) (Tot.no (by omega) (Tot.ite (fun _ => Tot.ret trivial) (fun _ => Tot.ret trivial)))
 | succ r ih =>
  intro i hi v
  obtain ⟨t,e⟩:=idxI D (bt s (i:Int))
  refine Tot.step (fun k => impl_valueOf.l0.eq_2 _ _ _ _ _ k) (Tot.yes (by omega) (Tot.yes (by omega) (Tot.yes (by omega) ?_)))
  refine Tot.bind (Tot.of e rfl) ?_
  rintro z rfl
  refine Tot.ite (fun _ => Tot.ret trivial) (fun _ => Tot.ite (fun _ => Tot.ret trivial) (fun _ => ?_))
  rw [w64_in (n:=(i:Int) + 1) (by omega) (by omega)]
  exact ih (i + 1) (by omega) _
theorem valF (s D:ByteArray) (hs:s.size ≤ 20):Tot (fun k => impl_valueOf.f k s D) (fun _ => True):=valT s D hs s.size 0 (by omega) 0
theorem rnj (v:Int) (b:Bool):Tot (fun k => impl_ReadNum.j0 k v b) (fun _ => True) :=
 Tot.step (fun k => impl_ReadNum.j0.eq_2 _ _ k) (Tot.ite (fun _ => Tot.ret trivial) (fun _ => Tot.ret trivial))
theorem ex1 (s:ByteArray) (h:s.size ≤ 20):(s.extract 1 s.size).size ≤ 20:=by rw [ByteArray.size_extract];omega
theorem pre_one {s:ByteArray} {c:UInt8} (h:strings_HasPrefix.f s (⟨#[c]⟩:ByteArray) = some true):1 ≤ s.size:=by
 unfold strings_HasPrefix.f stringslite_HasPrefix.f at h
 have e1:((⟨#[c]⟩:ByteArray).size:Int) = 1:=rfl
 rw [e1] at h
 by_cases c:(s.size:Int) ≥ 1
 ·omega
 ·rw [if_neg c] at h;cases h
theorem rnI (s:ByteArray) (hs:s.size ≤ 20):Tot (fun k => impl_ReadNum.f k s) (fun _ => True):=by
 unfold impl_ReadNum.f
 refine Tot.ite (fun _ => rnj _ _) (fun _ => ?_)
 obtain ⟨b,e⟩:=preI s (⟨#[36]⟩:ByteArray)
 refine Tot.bind (Tot.of e rfl) ?_
 rintro z rfl
 refine Tot.ite (fun hb => ?_) (fun _ => ?_)
 ·subst hb
  have:=pre_one e
  exact Tot.yes (by omega) (Tot.bind (valF _ _ (ex1 s hs)) fun a _ => rnj _ _)
 obtain ⟨b2,e2⟩:=preI s (⟨#[37]⟩:ByteArray)
 refine Tot.bind (Tot.of e2 rfl) ?_
 rintro z2 rfl
 refine Tot.ite (fun hb => ?_) (fun _ => ?_)
 ·subst hb
  have:=pre_one e2
  exact Tot.yes (by omega) (Tot.bind (valF _ _ (ex1 s hs)) fun a _ => rnj _ _)
 exact Tot.bind (valF _ _ hs) fun a _ => rnj _ _
theorem digT (c:Int):Tot (fun k => spec_l1Digit.f k c) (fun _ => True):=by
 have j:∀ b,Tot (fun k => spec_l1Digit.j0 k c b) (fun _ => True):=fun b =>
  Tot.step (fun k => spec_l1Digit.j0.eq_2 _ _ k) (Tot.ite (fun _ => Tot.ret trivial) (fun _ => Tot.ite (fun _ => Tot.ite (fun _ => Tot.ret trivial) (fun _ => Tot.ret trivial)) (fun _ => Tot.ret trivial)))
 unfold spec_l1Digit.f
 exact Tot.ite (fun _ => j _) (fun _ => j _)
theorem baseT (s:ByteArray) (B:Int) (hs:s.size ≤ 20):∀ r i:Nat,i + r = s.size → ∀ v:Int,Tot (fun k => spec_l1Base.l0 k s B v (i:Int)) (fun _ => True):=by
 intro r
 induction r with
 | zero =>
  intro i hi v
  exact Tot.step (fun k => spec_l1Base.l0.eq_2 _ _ _ _ k) (Tot.no (by omega) (Tot.ret trivial))
 | succ r ih =>
  intro i hi v
  refine Tot.step (fun k => spec_l1Base.l0.eq_2 _ _ _ _ k) (Tot.yes (by omega) (Tot.yes (by omega) ?_))
  refine Tot.bind (digT _) fun t _ => ?_
  refine Tot.ite (fun _ => Tot.ret trivial) (fun _ => Tot.ite (fun _ => Tot.ret trivial) (fun _ => ?_))
  rw [w64_in (n:=(i:Int) + 1) (by omega) (by omega)]
  exact ih (i + 1) (by omega) _
theorem baseF (s:ByteArray) (B:Int) (hs:s.size ≤ 20):Tot (fun k => spec_l1Base.f k s B) (fun _ => True):=baseT s B hs s.size 0 (by omega) 0
theorem dig_up:∀ v:Fin 16,spec_l1Digit.f 4 (upD (v.val:Int)) = some (v.val:Int):=by decide +kernel
theorem digU {v:Int} (h0:0 ≤ v) (h1:v < 16):Tot (fun k => spec_l1Digit.f k (upD v)) (· = v):=by
 have:=dig_up ⟨v.toNat,by omega⟩
 rw [show ((v.toNat:Nat):Int) = v by omega] at this
 exact Tot.lift (fun k => spec_l1Digit.mono _ k) this rfl
theorem base_loop (n:Int) (hn0:0 ≤ n) (hn1:n ≤ 65535) (d:Nat) (h1:1 ≤ d) (h4:d ≤ 4) (hlt:n < 16 ^ d):∀ r i:Nat,i + r = d → Tot (fun k => spec_l1Base.l0 k (strOfNums (hexUp n d)) 16 (n / 16 ^ (d - i)) (i:Int)) (· = (n,true)):=by
 have hB:=bytesStr (hexUp_bytes n d)
 have hz:(strOfNums (hexUp n d)).size = d:=by rw [strOfNums_size,hexUp_length]
 intro r
 induction r with
 | zero =>
  intro i hi
  obtain rfl:i = d:=by omega
  refine Tot.step (fun k => spec_l1Base.l0.eq_2 _ _ _ _ k) (Tot.no (by omega) (Tot.ret ?_))
  rw [Nat.sub_self,Int.pow_zero,Int.ediv_one]
  congr 1
  rw [bne_iff_ne]
  intro e
  have:=(nil_size _).1 e
  omega
 | succ r ih =>
  intro i hi
  have q0:0 ≤ n / 16 ^ (d - i):=Int.ediv_nonneg hn0 (Int.le_of_lt (pow_pos16 _))
  have q1:n / 16 ^ (d - i) ≤ 65535:=Int.le_trans (Int.ediv_le_self _ hn0) hn1
  have hs:=div_step n (d - 1 - i)
  rw [show d - 1 - i + 1 = d - i by omega] at hs
  have p0:0 ≤ n / 16 ^ (d - 1 - i):=Int.ediv_nonneg hn0 (Int.le_of_lt (pow_pos16 _))
  have p1:n / 16 ^ (d - 1 - i) ≤ 65535:=Int.le_trans (Int.ediv_le_self _ hn0) hn1
  have eb:bt (strOfNums (hexUp n d)) (i:Int) = upD (n / 16 ^ (d - 1 - i) % 16):=by rw [btL,hB,Int.toNat_natCast,hexUp_at n d i (by omega)]
  refine Tot.step (fun k => spec_l1Base.l0.eq_2 _ _ _ _ k) (Tot.yes (by omega) (Tot.yes (by omega) ?_))
  rw [eb]
  refine Tot.bind (digU (by omega) (by omega)) ?_
  rintro _ rfl
  rw [w64_in (n:=n / 16 ^ (d - i) * 16) (by omega) (by omega),w64_in (n:=n / 16 ^ (d - i) * 16 + n / 16 ^ (d - 1 - i) % 16) (by omega) (by omega),w64_in (n:=(i:Int) + 1) (by omega) (by omega)]
  rw [show n / 16 ^ (d - i) * 16 + n / 16 ^ (d - 1 - i) % 16 = n / 16 ^ (d - 1 - i) by omega]
  have:=ih (i + 1) (by omega)
  rw [show d - (i + 1) = d - 1 - i by omega] at this
  exact Tot.no (by omega) (Tot.no (by omega) this)
/-! ### the lines of symbols,byte by byte -/
def uL (L:List Int):List UInt8:=L.map fun x => UInt8.ofNat x.toNat
theorem uL_len (L:List Int):(uL L).length = L.length:=List.length_map _
def symB (x:S54):List UInt8:=uL (hexUp x.f1 2) ++ 58 :: (uL (hexUp x.f2 4) ++ 32 :: x.f0.data.toList)
def symL:List S54 → List UInt8
 | [] => []
 | x :: l => symB x ++ 10 :: symL l
theorem symL_snoc (x:S54):∀ l:List S54,symL (l ++ [x]) = symL l ++ (symB x ++ [10])
 | [] => by simp [symL]
 | y :: l => by
  rw [List.cons_append,symL,symL_snoc x l,symL]
  simp
theorem symB_len (x:S54):(symB x).length = 8 + x.f0.size:=by
 unfold symB
 rw [List.length_append,List.length_cons,List.length_append,List.length_cons,uL_len,uL_len,hexUp_length,hexUp_length,datL]
 omega
theorem symL_len:∀ l:List S54,9 * l.length ≤ (symL l).length
 | [] => Nat.le_refl _
 | x :: l => by
  have:=symL_len l
  have:=symB_len x
  rw [symL,List.length_append,List.length_cons,List.length_cons]
  omega
/-- A right symbol. -/
def SymG (x:S54):Prop:=NameG x.f0 ∧ (0 ≤ x.f1 ∧ x.f1 ≤ 255) ∧ (0 ≤ x.f2 ∧ x.f2 ≤ 65535)
theorem uL_no10 {n:Int} {k:Nat} {u:UInt8} (h:u ∈ uL (hexUp n k)):u ≠ 10:=by
 obtain ⟨x,hx,rfl⟩:=List.mem_map.1 h
 have hr:48 ≤ x ∧ x ≤ 70:=by
  clear h
  induction k with
  | zero => cases hx
  | succ k ih =>
   rw [hexUp,List.mem_cons] at hx
   rcases hx with rfl | hx
   ·have:=upD_range ⟨(n / 16 ^ k % 16).toNat,by have:=Int.emod_lt_of_pos (n / 16 ^ k) (show (0:Int) < 16 by decide);omega⟩
    have h0:=Int.emod_nonneg (n / 16 ^ k) (show (16:Int) ≠ 0 by decide)
    rwa [show (((n / 16 ^ k % 16).toNat:Nat):Int) = n / 16 ^ k % 16 by omega] at this
   ·exact ih hx
 intro e
 have:=congrArg UInt8.toNat e
 rw [UInt8.toNat_ofNat'] at this
 have h10:(10:UInt8).toNat = 10:=rfl
 omega
theorem name_no10 {s:ByteArray} (h:NameG s):∀ u ∈ s.data.toList,u ≠ 10:=by
 intro u hu e
 obtain ⟨i,hi,hb⟩:=mem_bt hu
 have:=h.2.2.2 i hi
 rw [hb,e] at this
 revert this
 decide
theorem symB_no10 {x:S54} (h:NameG x.f0):∀ u ∈ symB x,u ≠ 10:=by
 intro u hu
 unfold symB at hu
 rcases List.mem_append.1 hu with hu | hu
 ·exact uL_no10 hu
 ·rcases List.mem_cons.1 hu with rfl | hu
  ·decide
  ·rcases List.mem_append.1 hu with hu | hu
   ·exact uL_no10 hu
   ·rcases List.mem_cons.1 hu with rfl | hu
    ·decide
    ·exact name_no10 h u hu
theorem wsp_ahead (b:UInt8) (r:List UInt8):∀ q:List UInt8,(∀ u ∈ q,u ≠ b) → wsp b (q ++ b :: r) = (q,(wsp b r).1 :: (wsp b r).2)
 | [],_ => by rw [List.nil_append,wsp,if_pos rfl]
 | c :: q,h => by
  rw [List.cons_append,wsp,if_neg (h c List.mem_cons_self),wsp_ahead b r q (fun u hu => h u (List.mem_cons_of_mem _ hu))]
theorem wsp_syms:∀ l:List S54,(∀ x ∈ l,NameG x.f0) → (wsp 10 (symL l)).1 :: (wsp 10 (symL l)).2 = l.map symB ++ [[]]
 | [],_ => rfl
 | x :: l,h => by
  rw [symL,wsp_ahead 10 _ _ (symB_no10 (h x List.mem_cons_self)),wsp_syms l (fun y hy => h y (List.mem_cons_of_mem _ hy))]
  rfl
/-- A line's parts. -/
theorem sym_bank (x:S54):(mkB (symB x)).extract 0 2 = strOfNums (hexUp x.f1 2):=by
 apply ba_ext
 rw [ext_data,strOfNums_data]
 show ((symB x).drop 0).take 2 = uL (hexUp x.f1 2)
 unfold symB
 rw [List.drop_zero,List.take_append_of_le_length (by rw [uL_len,hexUp_length];omega),List.take_of_length_le (by rw [uL_len,hexUp_length];omega)]
theorem sym_value (x:S54):(mkB (symB x)).extract 3 7 = strOfNums (hexUp x.f2 4):=by
 apply ba_ext
 rw [ext_data,strOfNums_data]
 show ((symB x).drop 3).take 4 = uL (hexUp x.f2 4)
 have e:symB x = (uL (hexUp x.f1 2) ++ [58]) ++ (uL (hexUp x.f2 4) ++ 32 :: x.f0.data.toList):=by unfold symB;simp
 rw [e,List.drop_append_of_le_length (by simp [uL_len,hexUp_length]),List.drop_of_length_le (by simp [uL_len,hexUp_length]),List.nil_append,List.take_append_of_le_length (by rw [uL_len,hexUp_length];omega),List.take_of_length_le (by rw [uL_len,hexUp_length];omega)]
theorem sym_name (x:S54):(mkB (symB x)).extract 8 (mkB (symB x)).size = x.f0:=by
 apply ba_ext
 rw [ext_data,mkB_size]
 show ((symB x).drop 8).take _ = _
 have e:symB x = (uL (hexUp x.f1 2) ++ 58 :: (uL (hexUp x.f2 4) ++ [32])) ++ x.f0.data.toList:=by unfold symB;simp
 have z:(uL (hexUp x.f1 2) ++ 58 :: (uL (hexUp x.f2 4) ++ [32])).length = 8:=by simp [uL_len,hexUp_length]
 rw [List.take_of_length_le (by rw [List.length_drop];omega),e,List.drop_append_of_le_length (by omega),List.drop_of_length_le (by omega),List.nil_append]
theorem dollar_app (L:List Int):(⟨#[36]⟩:ByteArray) ++ strOfNums L = strOfNums (36 :: L):=str_cons 36 L
/-! ### a text of symbols: both sides -/
theorem byteI (a:Int):impl_isByte.f a = some (decide (0 ≤ a ∧ a ≤ 255)):=by unfold impl_isByte.f;rw [withinI];rfl
theorem wordI (a:Int):impl_isWord.f a = some (decide (0 ≤ a ∧ a ≤ 65535)):=by unfold impl_isWord.f;rw [withinI];rfl
theorem inS (a lo hi:Int):spec_l1In.f a lo hi = some (decide (lo ≤ a ∧ a ≤ hi)):=by
 unfold spec_l1In.f
 by_cases h:a ≥ lo
 ·rw [if_pos h];simp [show lo ≤ a from h]
 ·rw [if_neg h];simp [show ¬ lo ≤ a from h]
theorem byteS (a:Int):spec_l4Byte.f a = some (decide (0 ≤ a ∧ a ≤ 255)):=by unfold spec_l4Byte.f;rw [inS];rfl
theorem wordS (a:Int):spec_l4Word.f a = some (decide (0 ≤ a ∧ a ≤ 65535)):=by unfold spec_l4Word.f;rw [inS];rfl
/-- The names of a list are not too long to be looked at. -/
def Seen (l:List S54):Prop:=l.length ≤ 1000000 ∧ ∀ x ∈ l,x.f0.size ≤ 1000000
theorem rdT_at {l:List S54} {i:Nat} (h:i < l.length):rd_T54 l (i:Int) = l[i]:=by
 unfold rd_T54
 rw [Int.toNat_natCast,List.getD_eq_getElem?_getD,List.getElem?_eq_getElem h]
 rfl
theorem Seen.at {l:List S54} (h:Seen l) {i:Nat} (hi:i < l.length):(rd_T54 l (i:Int)).f0.size ≤ 1000000:=by
 rw [rdT_at hi];exact h.2 _ (List.getElem_mem _)
/-- Does the name at this place come behind the one ahead of it? -/
def Ris (l:List S54) (i:Nat):Prop:=0 < i → Op.bytesLess ((rd_T54 l ((i:Int) - 1)).f0.toList) ((rd_T54 l (i:Int)).f0.toList) = true
def AtG (l:List S54) (i:Nat):Prop:=SymG (rd_T54 l (i:Int)) ∧ Ris l i ∧ i < 800
/-- Right symbols. -/
def RightL (l:List S54):Prop:=∀ i:Nat,i < l.length → AtG l i
theorem RightL.len {l:List S54} (h:RightL l):l.length ≤ 800:=by
 rcases Nat.lt_or_ge 800 l.length with c | c
 ·exact absurd (h 800 c).2.2 (Nat.lt_irrefl _)
 ·exact c
theorem RightL.sym {l:List S54} (h:RightL l):∀ x ∈ l,SymG x:=by
 intro x hx
 obtain ⟨i,hi,rfl⟩:=List.mem_iff_getElem.1 hx
 have:=(h i hi).1
 rwa [rdT_at hi] at this
theorem RightL.seen {l:List S54} (h:RightL l):Seen l:=⟨by have:=h.len;omega,fun x hx => by have:=(h.sym x hx).1.2.1;omega⟩
theorem symL_le:∀ l:List S54,(∀ x ∈ l,NameG x.f0) → (symL l).length ≤ 25 * l.length
 | [],_ => Nat.le_refl _
 | x :: l,h => by
  have:=symL_le l (fun y hy => h y (List.mem_cons_of_mem _ hy))
  have:=symB_len x
  have:=(h x List.mem_cons_self).2.1
  rw [symL,List.length_append,List.length_cons,List.length_cons]
  omega
theorem take_snoc {l:List S54} {i:Nat} (h:i < l.length):l.take (i + 1) = l.take i ++ [rd_T54 l (i:Int)]:=by
 rw [rdT_at h,List.take_append_getElem h]
/-- What both tell of a list of symbols. -/
def TextR (l:List S54) (s:ByteArray):Prop:=(RightL l ∧ s = mkB (symL l)) ∨ (¬ RightL l ∧ s = ⟨#[]⟩)
theorem hexV_ok {n:Int} {d:Nat} (hd:1 ≤ d ∧ d ≤ 4) (h0:0 ≤ n) (h1:n ≤ 65535) (h2:n < 16 ^ d):hexV n (d:Int) = strOfNums (36 :: hexUp n d):=by
 have c:(1 ≤ (d:Int) ∧ (d:Int) ≤ 4) ∧ (0 ≤ n ∧ n ≤ 65535) ∧ n < 16 ^ (d:Int).toNat:=⟨by omega,⟨h0,h1⟩,by rw [Int.toNat_natCast];exact h2⟩
 rw [hexV,if_pos c,Int.toNat_natCast]
theorem line_snoc {l:List S54} {i:Nat} (h:i < l.length):((((((mkB (symL (l.take i)) ++ strOfNums (hexUp (rd_T54 l (i:Int)).f1 2)) ++ (⟨#[58]⟩:ByteArray)) ++ strOfNums (hexUp (rd_T54 l (i:Int)).f2 4)) ++ (⟨#[32]⟩:ByteArray)) ++ (rd_T54 l (i:Int)).f0) ++ (⟨#[10]⟩:ByteArray)) = mkB (symL (l.take (i + 1))):=by
 apply ba_ext
 rw [take_snoc h,symL_snoc]
 simp only [app_data,strOfNums_data]
 show (((((symL (l.take i) ++ uL (hexUp (rd_T54 l (i:Int)).f1 2)) ++ [58]) ++ uL (hexUp (rd_T54 l (i:Int)).f2 4)) ++ [32]) ++ (rd_T54 l (i:Int)).f0.data.toList) ++ [10] = symL (l.take i) ++ (symB (rd_T54 l (i:Int)) ++ [10])
 unfold symB
 simp
theorem textS_T {l:List S54} (hl:Seen l):Tot (fun k => spec_SymText.f k l) (TextR l):=by
 have go:∀ (d i:Nat),l.length - i = d → i ≤ l.length → (∀ j:Nat,j < i → AtG l j) → Tot (fun k => spec_SymText.l0 k l (mkB (symL (l.take i))) (i:Int)) (TextR l):=by
  intro d
  induction d with
  | zero =>
   intro i h1 h2 hi
   refine Tot.step (fun k => spec_SymText.l0.eq_2 _ _ _ k) (Tot.no (by omega) (Tot.ret (.inl ⟨fun j hj => hi j (by omega),?_⟩)))
   rw [List.take_of_length_le (by omega)]
  | succ d ih =>
   intro i h1 h2 hi
   have hlen:=hl.1
   have hil:i < l.length:=by omega
   have hx:=hl.at hil
   have key:AtG l i → Tot (fun k => spec_SymText.j1 k l (mkB (symL (l.take i))) (i:Int) false (rd_T54 l (i:Int)).f0 (rd_T54 l (i:Int)).f1 (rd_T54 l (i:Int)).f2) (TextR l):=by
    intro ha
    have hz:(symL (l.take i)).length ≤ 20000:=by
     have:=symL_le (l.take i) (fun x hx => by
      obtain ⟨j,hj,rfl⟩:=List.mem_iff_getElem.1 hx
      have hj2:j < i:=by rw [List.length_take] at hj;omega
      have:=(hi j hj2).1.1
      rwa [rdT_at (by omega),← List.getElem_take] at this)
     rw [List.length_take] at this
     have:=ha.2.2
     omega
    have hs:=mkB_size (symL (l.take i))
    obtain ⟨⟨hn,hb,hw⟩,_,_⟩:=ha
    have hn2:=hn.2.1
    refine Tot.step (fun k => spec_SymText.j1.eq_2 _ _ _ _ _ _ _ k) (Tot.no (by decide) ?_)
    refine Tot.bind (hexS_T _ 2) ?_
    rintro _ rfl
    rw [show (2:Int) = ((2:Nat):Int) from rfl,hexV_ok (d:=2) (by decide) hb.1 (by omega) (by show _ < (256:Int);omega),str_rest]
    have z1:(strOfNums (36 :: hexUp (rd_T54 l (i:Int)).f1 2)).size = 3:=by rw [strOfNums_size,List.length_cons,hexUp_length]
    have z2:(strOfNums (hexUp (rd_T54 l (i:Int)).f1 2)).size = 2:=by rw [strOfNums_size,hexUp_length]
    have z3:(strOfNums (36 :: hexUp (rd_T54 l (i:Int)).f2 4)).size = 5:=by rw [strOfNums_size,List.length_cons,hexUp_length]
    have z4:(strOfNums (hexUp (rd_T54 l (i:Int)).f2 4)).size = 4:=by rw [strOfNums_size,hexUp_length]
    have b1:(⟨#[58]⟩:ByteArray).size = 1:=rfl
    have b2:(⟨#[32]⟩:ByteArray).size = 1:=rfl
    refine Tot.yes (by omega) (Tot.yes (by omega) (Tot.yes (by rw [ByteArray.size_append];omega) ?_))
    refine Tot.bind (hexS_T _ 4) ?_
    rintro _ rfl
    rw [show (4:Int) = ((4:Nat):Int) from rfl,hexV_ok (d:=4) (by decide) hw.1 hw.2 (by show _ < (65536:Int);omega),str_rest]
    refine Tot.yes (by omega) (Tot.yes (by rw [ByteArray.size_append,ByteArray.size_append];omega) (Tot.yes (by rw [ByteArray.size_append,ByteArray.size_append,ByteArray.size_append];omega) (Tot.yes (by rw [ByteArray.size_append,ByteArray.size_append,ByteArray.size_append,ByteArray.size_append];omega) (Tot.yes (by rw [ByteArray.size_append,ByteArray.size_append,ByteArray.size_append,ByteArray.size_append,ByteArray.size_append];omega) ?_))))
    rw [line_snoc hil,w64_in (n:=(i:Int) + 1) (by omega) (by omega)]
    exact ih (i + 1) (by omega) (by omega) (fun j hj => by
     by_cases c:j < i
     ·exact hi j c
     ·rw [show j = i by omega];exact ⟨⟨hn,hb,hw⟩,by assumption,by assumption⟩)
   have j1:∀ b:Bool,(b = true ↔ ¬ AtG l i) → Tot (fun k => spec_SymText.j1 k l (mkB (symL (l.take i))) (i:Int) b (rd_T54 l (i:Int)).f0 (rd_T54 l (i:Int)).f1 (rd_T54 l (i:Int)).f2) (TextR l):=by
    intro b hb
    cases b with
    | true =>
     refine Tot.step (fun k => spec_SymText.j1.eq_2 _ _ _ _ _ _ _ k) (Tot.yes rfl (Tot.ret (.inr ⟨fun R => hb.1 rfl (R i hil),rfl⟩)))
    | false => exact key (Classical.byContradiction fun n => by have:=hb.2 n;cases this)
   have bad:¬ AtG l i → Tot (fun k => spec_SymText.j1 k l (mkB (symL (l.take i))) (i:Int) true (rd_T54 l (i:Int)).f0 (rd_T54 l (i:Int)).f1 (rd_T54 l (i:Int)).f2) (TextR l):=fun n => j1 true ⟨fun _ => n,fun _ => rfl⟩
   refine Tot.step (fun k => spec_SymText.l0.eq_2 _ _ _ k) (Tot.yes (by omega) (Tot.yes (by omega) ?_))
   refine Tot.bind (nameS_T _ hx) fun b hb => Tot.ite (fun c => ?_) (fun c => bad (fun a => c (hb.2 a.1.1)))
   have g1:=hb.1 c
   refine Tot.bind (Tot.of (byteS _) rfl) ?_
   rintro _ rfl
   refine Tot.ite (fun c => ?_) (fun c => bad (fun a => c (decide_eq_true a.1.2.1)))
   have g2:=of_decide_eq_true c
   refine Tot.bind (Tot.of (wordS _) rfl) ?_
   rintro _ rfl
   refine Tot.ite (fun c => ?_) (fun c => bad (fun a => c (decide_eq_true a.1.2.2)))
   have g3:=of_decide_eq_true c
   have last:Ris l i → Tot (fun k => spec_SymText.j1 k l (mkB (symL (l.take i))) (i:Int) (decide ((i:Int) ≥ 800)) (rd_T54 l (i:Int)).f0 (rd_T54 l (i:Int)).f1 (rd_T54 l (i:Int)).f2) (TextR l):=by
    intro hr
    refine j1 _ ?_
    rw [decide_eq_true_eq]
    exact ⟨fun c a => by have:=a.2.2;omega,fun n => Classical.byContradiction fun c => n ⟨⟨g1,g2,g3⟩,hr,by omega⟩⟩
   refine Tot.ite (fun c => ?_) (fun c => last (fun h => absurd (show (i:Int) > 0 by omega) c))
   rw [w64_in (n:=(i:Int) - 1) (by omega) (by omega)]
   refine Tot.yes (by omega) (Tot.yes (by omega) (Tot.ite (fun e => last (fun _ => e)) (fun e => bad (fun a => e (a.2.1 (by omega))))))
 unfold spec_SymText.f
 exact go _ 0 rfl (Nat.zero_le _) (fun j hj => absurd hj (Nat.not_lt_zero _))
/-! #### the program's -/
theorem symI_T {x:ByteArray} {b v:Int} (h:x.size ≤ 1000000):Tot (fun k => impl_isSym.f k x b v) (fun r => r = true ↔ SymG ⟨x,b,v⟩):=by
 unfold impl_isSym.f
 refine Tot.bind (nameI_T _ h) fun t ht => Tot.ite (fun c => ?_) (fun c => Tot.ret (Iff.intro (fun e => by cases e) (fun e => absurd (ht.2 e.1) c)))
 have g1:=ht.1 c
 refine Tot.bind (Tot.of (byteI _) rfl) ?_
 rintro _ rfl
 refine Tot.ite (fun c => ?_) (fun c => Tot.ret (Iff.intro (fun e => by cases e) (fun e => absurd (decide_eq_true e.2.1) c)))
 have g2:=of_decide_eq_true c
 refine Tot.bind (Tot.of (wordI _) rfl) ?_
 rintro _ rfl
 exact Tot.ret ⟨fun e => ⟨g1,g2,of_decide_eq_true e⟩,fun e => decide_eq_true e.2.2⟩
theorem areI_T {l:List S54} (hl:Seen l):Tot (fun k => impl_areSyms.f k l) (fun r => r = true ↔ RightL l):=by
 have hlen:=hl.1
 have go:∀ (d i:Nat),l.length - i = d → i ≤ l.length → (∀ j:Nat,j < i → SymG (rd_T54 l (j:Int)) ∧ Ris l j) → Tot (fun k => impl_areSyms.l0 k l l (l.length:Int) (i:Int)) (fun r => r = true ↔ RightL l):=by
  intro d
  induction d with
  | zero =>
   intro i h1 h2 hi
   refine Tot.step (fun k => impl_areSyms.l0.eq_2 _ _ _ _ k) (Tot.no (by omega) (Tot.ret ?_))
   rw [decide_eq_true_eq]
   exact ⟨fun e j hj => ⟨(hi j (by omega)).1,(hi j (by omega)).2,by omega⟩,fun R => by have:=R.len;omega⟩
  | succ d ih =>
   intro i h1 h2 hi
   have hil:i < l.length:=by omega
   refine Tot.step (fun k => impl_areSyms.l0.eq_2 _ _ _ _ k) (Tot.yes (by omega) (Tot.yes (by omega) (Tot.yes (by omega) ?_)))
   have j1:∀ b:Bool,(b = true → ¬ RightL l) → (b = false → SymG (rd_T54 l (i:Int)) ∧ Ris l i) → Tot (fun k => impl_areSyms.j1 k l l (l.length:Int) (i:Int) b) (fun r => r = true ↔ RightL l):=by
    intro b h3 h4
    refine Tot.step (fun k => impl_areSyms.j1.eq_2 _ _ _ _ _ k) (Tot.ite (fun e => Tot.ret (Iff.intro (fun x => by cases x) (fun R => absurd R (h3 e)))) (fun e => ?_))
    rw [w64_in (n:=(i:Int) + 1) (by omega) (by omega)]
    exact ih (i + 1) (by omega) (by omega) (fun j hj => by
     by_cases c:j < i
     ·exact hi j c
     ·rw [show j = i by omega];exact h4 (by simpa using e))
   refine Tot.bind (symI_T (hl.at hil)) fun t ht => Tot.ite (fun c => ?_) (fun c => j1 true (fun _ R => c (ht.2 (R i hil).1)) (fun e => by cases e))
   have g1:SymG (rd_T54 l (i:Int)):=ht.1 c
   refine Tot.ite (fun c => ?_) (fun c => j1 false (fun e => by cases e) (fun _ => ⟨g1,fun h => absurd (show (i:Int) > 0 by omega) c⟩))
   rw [w64_in (n:=(i:Int) - 1) (by omega) (by omega)]
   refine Tot.yes (by omega) (Tot.yes (by omega) (j1 _ (fun e R => ?_) (fun e => ⟨g1,fun _ => by simpa using e⟩)))
   have:=(R i hil).2.1 (by omega)
   rw [this] at e
   cases e
 unfold impl_areSyms.f
 exact go _ 0 rfl (Nat.zero_le _) (fun j hj => absurd hj (Nat.not_lt_zero _))
end Go.Proofs.YtoiiaklmjpiejaaDoor.XSy
