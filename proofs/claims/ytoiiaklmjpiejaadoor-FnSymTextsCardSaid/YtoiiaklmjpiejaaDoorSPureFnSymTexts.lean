import Derived.Test.YtoiiaklmjpiejaaDoorSXSy1
import Derived.Test.YtoiiaklmjpiejaaDoorSLib
namespace Go.Proofs.YtoiiaklmjpiejaaDoor.Pure
open Go.RowKit Go.Proofs.YtoiiaklmjpiejaaDoor.QFnSymTexts Go.Proofs.YtoiiaklmjpiejaaDoor.XSy Go.Proofs.YtoiiaklmjpiejaaDoorW.PrintWords Go.Proofs.YtoiiaklmjpiejaaDoorW.PrintLast Go.Proofs.YtoiiaklmjpiejaaDoorW.PrintMore Go.Proofs.YtoiiaklmjpiejaaDoor.Lib Go.Proofs.YtoiiaklmjpiejaaDoor.LibX Go.Proofs.YtoiiaklmjpiejaaDoor.LibE Go.Proofs.YtoiiaklmjpiejaaDoor.LibG Go.Proofs.YtoiiaklmjpiejaaDoor.LibSY
set_option linter.unusedSimpArgs false
set_option linter.unusedVariables false
def RdOk (s:List Int) (p:Int):Prop:=0 ≤ p ∧ p ≤ s.length ∧ s.length ≤ 1048576 ∧ ∀ x ∈ s,0 ≤ x ∧ x ≤ 255
theorem rd_mem {s:List Int} {p:Int} (h0:0 ≤ p) (h1:p < (s.length:Int)):rd s p ∈ s:=by
 unfold rd
 rw [List.getD_eq_getElem?_getD,List.getElem?_eq_getElem (by omega)]
 exact List.getElem_mem _
theorem open_tot {l:List Int} (hl:l.length ≤ 1048576) (hb:∀ x ∈ l,0 ≤ x ∧ x ≤ 255):spec_l1Open.f l = some (l,0) ∧ RdOk l 0 :=
 ⟨rfl,by omega,by omega,hl,hb⟩
theorem next_tot {s:List Int} {p:Int} (h:RdOk s p):∃ v q,spec_l1Rd_next.f s p = some (v,q) ∧ 0 ≤ v ∧ v ≤ 255 ∧ RdOk s q:=by
 obtain ⟨h0,h1,h2,h3⟩:=h
 unfold spec_l1Rd_next.f
 by_cases c:p ≥ (s.length:Int)
 ·rw [if_pos c]
  exact ⟨0,p,rfl,by omega,by omega,h0,h1,h2,h3⟩
 ·have hm:=h3 _ (rd_mem h0 (show p < (s.length:Int) by omega))
  have e:p + 1 - 1 = p:=by omega
  rw [if_neg c,w64_in (n:=p + 1) (by omega) (by omega),w64_in (n:=p + 1 - 1) (by omega) (by omega),e,if_pos h0,if_pos (by omega),w64_in (n:=rd s p) (by omega) (by omega)]
  exact ⟨_,_,rfl,hm.1,hm.2,by omega,by omega,h2,h3⟩
theorem below_tot {s:List Int} {p:Int} (h:RdOk s p) (n:Int):∃ v q,spec_l1Rd_below.f s p n = some (v,q) ∧ 0 ≤ v ∧ (1 ≤ n → v < n) ∧ RdOk s q:=by
 unfold spec_l1Rd_below.f
 by_cases c:n ≤ 1
 ·rw [if_pos c]
  exact ⟨0,p,rfl,by omega,by omega,h⟩
 ·rw [if_neg c]
  obtain ⟨v,q,e1,v0,v1,h1⟩:=next_tot h
  by_cases c2:n ≤ 256
  ·rw [if_pos c2,e1]
   simp only [Option.bind_some]
   rw [if_neg (by omega),tmod_pos _ v0]
   exact ⟨_,_,rfl,Int.emod_nonneg _ (by omega),fun _ => Int.emod_lt_of_pos _ (by omega),h1⟩
  ·obtain ⟨u,r,e2,u0,u1,h2⟩:=next_tot h1
   rw [if_neg c2,e1]
   simp only [Option.bind_some]
   rw [e2]
   simp only [Option.bind_some]
   rw [if_neg (by omega),w64_in (n:=v * 256) (by omega) (by omega),w64_in (n:=v * 256 + u) (by omega) (by omega),tmod_pos _ (by omega)]
   exact ⟨_,_,rfl,Int.emod_nonneg _ (by omega),fun _ => Int.emod_lt_of_pos _ (by omega),h2⟩
theorem once_tot {s:List Int} {p:Int} (h:RdOk s p) (n:Int):∃ b q,spec_l1Rd_once.f s p n = some (b,q) ∧ RdOk s q:=by
 obtain ⟨v,q,e,_,_,hq⟩:=below_tot h n
 unfold spec_l1Rd_once.f
 rw [e]
 exact ⟨_,_,rfl,hq⟩
theorem bytes_wf {l:List Int} (h:∀ x ∈ l,(Lit.int .u8 x).wf = true):∀ x ∈ l,0 ≤ x ∧ x ≤ 255:=by
 intro x hx
 have h1:=h x hx
 have e0:IntKind.u8.min = 0:=rfl
 have e1:IntKind.u8.max = 255:=rfl
 simp only [Lit.wf,e0,e1,Bool.and_eq_true,decide_eq_true_eq] at h1
 exact h1
theorem below_T {s:List Int} {p:Int} (h:RdOk s p) (n:Int):Tot (fun _ => spec_l1Rd_below.f s p n) (fun r => 0 ≤ r.1 ∧ (1 ≤ n → r.1 < n) ∧ RdOk s r.2):=by
 obtain ⟨v,q,e,h0,h1,h2⟩:=below_tot h n
 exact Tot.of e ⟨h0,h1,h2⟩
theorem once_T {s:List Int} {p:Int} (h:RdOk s p) (n:Int):Tot (fun _ => spec_l1Rd_once.f s p n) (fun r => RdOk s r.2):=by
 obtain ⟨v,q,e,h0⟩:=once_tot h n
 exact Tot.of e h0
theorem hurt_tot {s:List Int} {p:Int} (h:RdOk s p) (a:ByteArray) (ha:a.size ≤ 4611686018427387904):∃ r q,spec_l1Rd_hurt.f s p a = some (r,q) ∧ r.size ≤ a.size + 1 ∧ RdOk s q:=by
 have one:∀ (ys:List ByteArray) (i:Int),(∀ y ∈ ys,y.size = 1) → (rdOf ByteArray.empty ys i).size ≤ 1:=by
  intro ys i hy
  unfold rdOf
  rw [List.getD_eq_getElem?_getD]
  by_cases c:i.toNat < ys.length
  ·rw [List.getElem?_eq_getElem c]
   exact Nat.le_of_eq (hy _ (List.getElem_mem _))
  ·rw [List.getElem?_eq_none (by omega)]
   exact Nat.zero_le _
 unfold spec_l1Rd_hurt.f
 obtain ⟨v,q,e,v0,v1,h1⟩:=below_tot h 6
 rw [e]
 simp only [Option.bind_some]
 by_cases c1:v = 1
 ·rw [if_pos c1,w64_in (n:=(a.size:Int) + 1) (by omega) (by omega)]
  obtain ⟨u,r,e2,u0,u1,h2⟩:=below_tot h1 ((a.size:Int) + 1)
  rw [e2]
  simp only [Option.bind_some]
  rw [if_pos u0,if_pos (by have:=u1 (by omega);omega)]
  exact ⟨_,_,rfl,by rw [ByteArray.size_extract];omega,h2⟩
 rw [if_neg c1]
 by_cases c2:v = 2
 ·rw [if_pos c2]
  by_cases c3:(a.size:Int) > 0
  ·rw [if_pos c3]
   obtain ⟨u,r,e2,u0,u1,h2⟩:=below_tot h1 (a.size:Int)
   have u2:=u1 (by omega)
   rw [e2]
   simp only [Option.bind_some]
   rw [if_pos u0,if_pos (by omega)]
   obtain ⟨x,t,e3,x0,x1,h3⟩:=below_tot h2 6
   rw [e3]
   simp only [Option.bind_some]
   have x2:=x1 (by omega)
   have o:=one ([(⟨#[48]⟩:ByteArray),(⟨#[97]⟩:ByteArray),(⟨#[32]⟩:ByteArray),(⟨#[44]⟩:ByteArray),(⟨#[36]⟩:ByteArray),(⟨#[43]⟩:ByteArray)]:List ByteArray) x (by intro y hy;simp only [List.mem_cons,List.not_mem_nil,or_false] at hy;rcases hy with rfl | rfl | rfl | rfl | rfl | rfl <;> rfl)
   generalize rdOf ByteArray.empty ([(⟨#[48]⟩:ByteArray),(⟨#[97]⟩:ByteArray),(⟨#[32]⟩:ByteArray),(⟨#[44]⟩:ByteArray),(⟨#[36]⟩:ByteArray),(⟨#[43]⟩:ByteArray)]:List ByteArray) x = z at o ⊢
   rw [if_pos x0,if_pos (by simpa using x2),if_pos (by rw [ByteArray.size_extract];omega),w64_in (n:=u + 1) (by omega) (by omega),if_pos (by omega),if_pos (by omega),if_pos (by rw [ByteArray.size_append,ByteArray.size_extract,ByteArray.size_extract];omega)]
   exact ⟨_,_,rfl,by rw [ByteArray.size_append,ByteArray.size_append,ByteArray.size_extract,ByteArray.size_extract];omega,h3⟩
  ·rw [if_neg c3]
   exact ⟨_,_,rfl,by omega,h1⟩
 rw [if_neg c2]
 by_cases c3:v = 3
 ·rw [if_pos c3]
  obtain ⟨x,t,e3,x0,x1,h3⟩:=below_tot h1 3
  have x2:=x1 (by omega)
  rw [e3]
  simp only [Option.bind_some]
  have o:=one ([(⟨#[32]⟩:ByteArray),(⟨#[48]⟩:ByteArray),(⟨#[120]⟩:ByteArray)]:List ByteArray) x (by intro y hy;simp only [List.mem_cons,List.not_mem_nil,or_false] at hy;rcases hy with rfl | rfl | rfl <;> rfl)
  generalize rdOf ByteArray.empty ([(⟨#[32]⟩:ByteArray),(⟨#[48]⟩:ByteArray),(⟨#[120]⟩:ByteArray)]:List ByteArray) x = z at o ⊢
  rw [if_pos x0,if_pos (by simpa using x2),if_pos (by omega)]
  exact ⟨_,_,rfl,by rw [ByteArray.size_append];omega,h3⟩
 ·rw [if_neg c3]
  exact ⟨_,_,rfl,by omega,h1⟩
theorem baseS_hex (n:Int) (hn0:0 ≤ n) (hn1:n ≤ 65535) (d:Nat) (h1:1 ≤ d) (h4:d ≤ 4) (hlt:n < 16 ^ d):Tot (fun k => spec_l1Base.f k (strOfNums (hexUp n d)) 16) (· = (n,true)):=by
 have h:=base_loop n hn0 hn1 d h1 h4 hlt d 0 (by omega)
 rw [Nat.sub_zero,Int.ediv_eq_zero_of_lt hn0 hlt] at h
 exact h
theorem right_nil:RightL []:=fun i h => absurd h (Nat.not_lt_zero _)
theorem small_ext {s:ByteArray} {i j n:Nat} (h:s.size ≤ n):(s.extract i j).size ≤ n:=by rw [ByteArray.size_extract];omega
def Told (s:ByteArray) (r:List S54 × Bool):Prop:=r.2 = true → ∃ l,RightL l ∧ s = mkB (symL l)
theorem readS_T {s:ByteArray} (hs:s.size ≤ 1000):Tot (fun k => spec_ReadSyms.f k s) (Told s):=by
 have stop:∀ out:List S54,Seen out → Tot (fun k => (spec_SymText.f k out).bind fun t256 => if t256.toList = s.toList then some (out,true) else some (([]:List S54),false)) (Told s):=by
  intro out ho
  refine Tot.bind (textS_T ho) fun t ht => Tot.ite (fun e => Tot.ret fun _ => ?_) (fun _ => Tot.ret fun e => by cases e)
  have e2:t = s:=ba_ext (by rw [toL,toL] at e;exact e)
  subst e2
  rcases ht with ⟨h1,h2⟩ | ⟨_,h2⟩
  ·exact ⟨out,h1,h2⟩
  ·exact ⟨[],right_nil,h2⟩
 have go:∀ (n:Nat) (rest:ByteArray) (out:List S54),rest.size ≤ n → rest.size ≤ 1000 → out.length + rest.size ≤ 2000 → (∀ x ∈ out,x.f0.size ≤ 1000) → Tot (fun k => spec_ReadSyms.l0 k s out rest) (Told s):=by
  intro n
  induction n with
  | zero =>
   intro rest out h1 h2 h3 h4
   have hr:rest.toList = []:=(size0 rest).2 (by omega)
   exact Tot.step (fun k => spec_ReadSyms.l0.eq_2 _ _ _ k) (Tot.yes hr (Tot.step (fun k => spec_ReadSyms.j1.eq_2 _ _ _ _ k) (Tot.no (by decide) (stop out ⟨by omega,fun x hx => by have:=h4 x hx;omega⟩))))
  | succ n ih =>
   intro rest out h1 h2 h3 h4
   have hO:Seen out:=⟨by omega,fun x hx => by have:=h4 x hx;omega⟩
   have no:Tot (fun k => spec_ReadSyms.j1 k s out rest false) (Told s):=Tot.step (fun k => spec_ReadSyms.j1.eq_2 _ _ _ _ k) (Tot.no (by decide) (stop out hO))
   have bad:∀ (a b:ByteArray),Tot (fun k => spec_ReadSyms.j2 k s out a b true) (Told s):=fun a b => Tot.step (fun k => spec_ReadSyms.j2.eq_2 _ _ _ _ _ k) (Tot.yes rfl (Tot.ret fun e => by cases e))
   have one:Tot (fun k => spec_ReadSyms.j1 k s out rest true) (Told s):=by
    refine Tot.step (fun k => spec_ReadSyms.j1.eq_2 _ _ _ _ k) (Tot.yes rfl ?_)
    refine Tot.bind (cutS_T 10 (by decide) (by omega)) ?_
    rintro _ rfl
    dsimp only
    have z1:=cutL_len (UInt8.ofNat 10) rest.data.toList
    rw [datL] at z1
    refine Tot.ite (fun _ => bad _ _) (fun c => ?_)
    rw [mkB_size] at c
    cases he:(cutL (UInt8.ofNat 10) rest.data.toList).2.2 with
    | false => exact bad _ _
    | true =>
     have z2:=cutL_lt (UInt8.ofNat 10) he
     rw [datL] at z2
     have zl:=mkB_size (cutL (UInt8.ofNat 10) rest.data.toList).1
     have zr:=mkB_size (cutL (UInt8.ofNat 10) rest.data.toList).2.1
     refine Tot.step (fun k => spec_ReadSyms.j2.eq_2 _ _ _ _ _ k) (Tot.no (by decide) (Tot.yes (by decide) (Tot.yes (by omega) ?_)))
     refine Tot.bind (baseF _ 16 (by rw [ByteArray.size_extract];omega)) fun b1 _ => ?_
     refine Tot.yes (by decide) (Tot.yes (by omega) ?_)
     refine Tot.bind (baseF _ 16 (by rw [ByteArray.size_extract];omega)) fun b2 _ => ?_
     refine Tot.ite (fun _ => ?_) (fun _ => Tot.ret fun e => by cases e)
     refine Tot.ite (fun _ => ?_) (fun _ => Tot.ret fun e => by cases e)
     refine Tot.yes (by omega) (Tot.yes (by omega) ?_)
     refine ih _ _ (by omega) (by omega) (by rw [List.length_append,List.length_singleton];omega) (fun x hx => ?_)
     rcases List.mem_append.1 hx with hx | hx
     ·exact h4 x hx
     ·rw [List.mem_singleton] at hx
      subst hx
      exact small_ext (by omega)
   refine Tot.step (fun k => spec_ReadSyms.l0.eq_2 _ _ _ k) (Tot.ite (fun _ => no) (fun _ => ?_))
   cases decide ((out.length:Int) ≤ 800)
   ·exact no
   ·exact one
 unfold spec_ReadSyms.f
 exact go _ s [] (Nat.le_refl _) hs (by show 0 + s.size ≤ 2000;omega) (fun x hx => by cases hx)
theorem readS_B {l:List S54} (hR:RightL l):Tot (fun k => spec_ReadSyms.f k (mkB (symL l))) (· = (l,true)):=by
 have hn:=hR.len
 have hz:(symL l).length ≤ 20000:=by have:=symL_le l (fun x hx => (hR.sym x hx).1);omega
 have go:∀ (d i:Nat),l.length - i = d → i ≤ l.length → Tot (fun k => spec_ReadSyms.l0 k (mkB (symL l)) (l.take i) (mkB (symL (l.drop i)))) (· = (l,true)):=by
  intro d
  induction d with
  | zero =>
   intro i h1 h2
   have e:i = l.length:=by omega
   subst e
   rw [List.take_length,List.drop_length]
   refine Tot.step (fun k => spec_ReadSyms.l0.eq_2 _ _ _ k) (Tot.yes ((nilD _).2 rfl) (Tot.step (fun k => spec_ReadSyms.j1.eq_2 _ _ _ _ k) (Tot.no (by decide) ?_)))
   refine Tot.bind (textS_T hR.seen) fun t ht => ?_
   have e:t = mkB (symL l):=by
    rcases ht with ⟨_,e⟩ | ⟨n,_⟩
    ·exact e
    ·exact absurd hR n
   subst e
   exact Tot.yes rfl (Tot.ret rfl)
  | succ d ih =>
   intro i h1 h2
   have hil:i < l.length:=by omega
   have ed:l.drop i = rd_T54 l (i:Int) :: l.drop (i + 1):=by rw [rdT_at hil];exact List.drop_eq_getElem_cons hil
   have hg:=(hR i hil).1
   have hc:cutL (UInt8.ofNat 10) (mkB (symL (l.drop i))).data.toList = (symB (rd_T54 l (i:Int)),symL (l.drop (i + 1)),true):=by
    show cutL 10 (symL (l.drop i)) = _
    rw [ed,symL]
    exact cutL_yes 10 _ _ (symB_no10 hg.1)
   have zb:=symB_len (rd_T54 l (i:Int))
   have zm:=mkB_size (symB (rd_T54 l (i:Int)))
   have hn1:=hg.1.1
   have hrest:¬ (mkB (symL (l.drop i))).toList = []:=by
    rw [nilD]
    show ¬ symL (l.drop i) = []
    rw [ed,symL]
    simp
   have hsz:(mkB (symL (l.drop i))).size ≤ 1000000:=by
    rw [mkB_size]
    have:=symL_le (l.drop i) (fun x hx => (hR.sym x (List.mem_of_mem_drop hx)).1)
    rw [List.length_drop] at this
    omega
   refine Tot.step (fun k => spec_ReadSyms.l0.eq_2 _ _ _ k) (Tot.no hrest ?_)
   have hlt:(decide (((l.take i).length:Int) ≤ 800)) = true:=decide_eq_true (by rw [List.length_take];omega)
   rw [hlt]
   refine Tot.step (fun k => spec_ReadSyms.j1.eq_2 _ _ _ _ k) (Tot.yes rfl ?_)
   refine Tot.bind (cutS_T 10 (by decide) hsz) ?_
   rintro _ rfl
   rw [hc]
   dsimp only
   refine Tot.no (by omega) ?_
   refine Tot.step (fun k => spec_ReadSyms.j2.eq_2 _ _ _ _ _ k) (Tot.no (by decide) (Tot.yes (by decide) (Tot.yes (by omega) ?_)))
   rw [sym_bank,sym_value,sym_name]
   refine Tot.bind (baseS_hex _ hg.2.1.1 (by have:=hg.2.1.2;omega) 2 (by decide) (by decide) (by show _ < (256:Int);have:=hg.2.1.2;omega)) ?_
   rintro _ rfl
   refine Tot.yes (by decide) (Tot.yes (by omega) ?_)
   refine Tot.bind (baseS_hex _ hg.2.2.1 hg.2.2.2 4 (by decide) (by decide) (by show _ < (65536:Int);have:=hg.2.2.2;omega)) ?_
   rintro _ rfl
   refine Tot.yes rfl (Tot.yes rfl (Tot.yes (by omega) (Tot.yes (by rw [List.length_take];omega) ?_)))
   have:=ih (i + 1) (by omega) (by omega)
   rw [take_snoc hil] at this
   exact this
 unfold spec_ReadSyms.f
 exact go _ 0 rfl (Nat.zero_le _)
theorem joinV2 (A B:ByteArray) (h:A.size + B.size ≤ 1000000):strings_Join.f [A,B] (⟨#[32]⟩:ByteArray) = some (mkB (A.data.toList ++ 32 :: B.data.toList)):=by
 have e:Lib.join ([A,B].map (·.data.toList)) (⟨#[32]⟩:ByteArray).data.toList = A.data.toList ++ 32 :: B.data.toList:=by
  rw [show (⟨#[32]⟩:ByteArray).data.toList = [32] from rfl]
  simp [Lib.join,List.intercalate]
 have z:(A.data.toList ++ 32 :: B.data.toList).length ≤ 1000001:=by rw [List.length_append,List.length_cons,datL,datL];omega
 unfold strings_Join.f
 rw [if_pos (show ([A,B]:List ByteArray).length ≤ 140737488355328 by show 2 ≤ 140737488355328;decide),e,if_pos (by omega)]
 rfl
theorem texI_T {l:List S54} (hR:RightL l):Tot (fun k => impl_symText.f k l) (· = mkB (symL l)):=by
 have hn:=hR.len
 have go:∀ (d i:Nat),l.length - i = d → i ≤ l.length → Tot (fun k => impl_symText.l0 k l (mkB (symL (l.take i))) (i:Int)) (· = mkB (symL l)):=by
  intro d
  induction d with
  | zero =>
   intro i h1 h2
   refine Tot.step (fun k => impl_symText.l0.eq_2 _ _ _ k) (Tot.no (by omega) (Tot.ret ?_))
   rw [List.take_of_length_le (by omega)]
  | succ d ih =>
   intro i h1 h2
   have hil:i < l.length:=by omega
   obtain ⟨hg,hb,hw⟩:=(hR i hil).1
   have hg2:=hg.2.1
   have z2:(strOfNums (hexUp (rd_T54 l (i:Int)).f1 2)).size = 2:=by rw [strOfNums_size,hexUp_length]
   have z4:(strOfNums (hexUp (rd_T54 l (i:Int)).f2 4)).size = 4:=by rw [strOfNums_size,hexUp_length]
   have b1:(⟨#[58]⟩:ByteArray).size = 1:=rfl
   have zz:((strOfNums (hexUp (rd_T54 l (i:Int)).f1 2) ++ (⟨#[58]⟩:ByteArray)) ++ strOfNums (hexUp (rd_T54 l (i:Int)).f2 4)).size = 7:=by rw [ByteArray.size_append,ByteArray.size_append];omega
   have hz:(symL (l.take i)).length ≤ 20000:=by
    have:=symL_le (l.take i) (fun x hx => (hR.sym x (List.mem_of_mem_take hx)).1)
    rw [List.length_take] at this
    omega
   have hs:=mkB_size (symL (l.take i))
   refine Tot.step (fun k => impl_symText.l0.eq_2 _ _ _ k) (Tot.yes (by omega) ?_)
   refine Tot.bind (Tot.of (hexDigits_eq _ 2 hb.1 (by omega) (by decide) (by decide) (by show _ < (256:Int);omega)) rfl) ?_
   rintro _ rfl
   refine Tot.bind (Tot.of (hexDigits_eq _ 4 hw.1 hw.2 (by decide) (by decide) (by show _ < (65536:Int);omega)) rfl) ?_
   rintro _ rfl
   have zj:=mkB_size (((strOfNums (hexUp (rd_T54 l (i:Int)).f1 2) ++ (⟨#[58]⟩:ByteArray)) ++ strOfNums (hexUp (rd_T54 l (i:Int)).f2 4)).data.toList ++ 32 :: (rd_T54 l (i:Int)).f0.data.toList)
   rw [List.length_append,List.length_cons,datL,datL,zz] at zj
   have esp:impl_spaced.f [(strOfNums (hexUp (rd_T54 l (i:Int)).f1 2) ++ (⟨#[58]⟩:ByteArray)) ++ strOfNums (hexUp (rd_T54 l (i:Int)).f2 4),(rd_T54 l (i:Int)).f0] = some (mkB (((strOfNums (hexUp (rd_T54 l (i:Int)).f1 2) ++ (⟨#[58]⟩:ByteArray)) ++ strOfNums (hexUp (rd_T54 l (i:Int)).f2 4)).data.toList ++ 32 :: (rd_T54 l (i:Int)).f0.data.toList) ++ (⟨#[10]⟩:ByteArray)):=by
    unfold impl_spaced.f
    rw [joinV2 _ _ (by omega),Option.bind_some,if_pos (by omega)]
   refine Tot.bind (Tot.of esp rfl) ?_
   rintro _ rfl
   have b10:(⟨#[10]⟩:ByteArray).size = 1:=rfl
   refine Tot.yes (by rw [ByteArray.size_append];omega) ?_
   have e:mkB (symL (l.take i)) ++ (mkB (((strOfNums (hexUp (rd_T54 l (i:Int)).f1 2) ++ (⟨#[58]⟩:ByteArray)) ++ strOfNums (hexUp (rd_T54 l (i:Int)).f2 4)).data.toList ++ 32 :: (rd_T54 l (i:Int)).f0.data.toList) ++ (⟨#[10]⟩:ByteArray)) = mkB (symL (l.take (i + 1))):=by
    rw [← line_snoc hil]
    apply ba_ext
    simp only [app_data]
    show _ ++ ((_ ++ 32 :: _) ++ [10]) = (((_ ++ [32]) ++ _) ++ [10])
    (try simp only [app_data])
    simp
   rw [e]
   exact ih (i + 1) (by omega) (by omega)
 unfold impl_symText.f
 exact Tot.yes (by omega) (go _ 0 rfl (Nat.zero_le _))
theorem textI_T {l:List S54} (hl:Seen l):Tot (fun k => impl_SymText.f k l) (TextR l):=by
 unfold impl_SymText.f
 refine Tot.bind (areI_T hl) fun t ht => Tot.ite (fun c => ?_) (fun c => Tot.ret (.inr ⟨fun R => c (ht.2 R),rfl⟩))
 have R:=ht.1 c
 refine Tot.bind (texI_T R) ?_
 rintro _ rfl
 exact Tot.ret (.inl ⟨R,rfl⟩)
def linesL (d:List UInt8):List ByteArray:=((wsp 10 d).1 :: (wsp 10 d).2).map mkB
theorem splitI_V {s:ByteArray} (h:s.size ≤ 1000000):strings_Split.f s (⟨#[10]⟩:ByteArray) = some (linesL s.data.toList):=by
 unfold strings_Split.f
 rw [if_pos (by omega),if_pos (by decide)]
 congr 1
 have hk:=splitK1 10 s.data.toList.length s.data.toList (Nat.le_refl _)
 have e:=Lib.splitB_data (⟨#[10]⟩:ByteArray) 0 (Lib.countB s ⟨#[10]⟩) s
 rw [show (⟨#[10]⟩:ByteArray).data.toList = [10] from rfl,show Lib.countB s ⟨#[10]⟩ = Lib.count s.data.toList [10] from rfl,hk] at e
 unfold linesL
 rw [← e,List.map_map]
 conv => lhs;rw [← List.map_id (Lib.splitB (⟨#[10]⟩:ByteArray) 0 (Lib.countB s ⟨#[10]⟩) s)]
 rfl
theorem wsp_size (b:UInt8):∀ l:List UInt8,(wsp b l).2.length ≤ l.length ∧ (wsp b l).1.length ≤ l.length ∧ ∀ q ∈ (wsp b l).2,q.length ≤ l.length
 | [] => ⟨Nat.le_refl _,Nat.le_refl _,fun q h => by cases h⟩
 | c :: t => by
  obtain ⟨h1,h2,h3⟩:=wsp_size b t
  rw [wsp]
  split
  ·refine ⟨by simp only [List.length_cons];omega,Nat.zero_le _,fun q hq => ?_⟩
   simp only [List.length_cons]
   rcases List.mem_cons.1 hq with rfl | hq
   ·omega
   ·have:=h3 q hq;omega
  ·refine ⟨by simp only [List.length_cons];omega,by simp only [List.length_cons];omega,fun q hq => ?_⟩
   simp only [List.length_cons]
   have:=h3 q hq
   omega
theorem lines_size {s:ByteArray}:(linesL s.data.toList).length ≤ s.size + 1 ∧ 1 ≤ (linesL s.data.toList).length ∧ ∀ x ∈ linesL s.data.toList,x.size ≤ s.size:=by
 obtain ⟨h1,h2,h3⟩:=wsp_size 10 s.data.toList
 rw [datL] at h1 h2
 unfold linesL
 refine ⟨by rw [List.length_map,List.length_cons];omega,by rw [List.length_map,List.length_cons];omega,fun x hx => ?_⟩
 obtain ⟨q,hq,rfl⟩:=List.mem_map.1 hx
 rw [mkB_size]
 rcases List.mem_cons.1 hq with rfl | hq
 ·exact h2
 ·have:=h3 q hq;rw [datL] at this;exact this
theorem rdOf_at {ys:List ByteArray} {i:Nat} (h:i < ys.length):rdOf ByteArray.empty ys (i:Int) = ys[i]:=by
 unfold rdOf
 rw [Int.toNat_natCast,List.getD_eq_getElem?_getD,List.getElem?_eq_getElem h]
 rfl
def ToldI (s:ByteArray) (r:List S54 × Bool):Prop:=r.2 = true → RightL r.1 ∧ s = mkB (symL r.1)
theorem readI_T {s:ByteArray} (hs:s.size ≤ 1000):Tot (fun k => impl_ReadSyms.f k s) (ToldI s):=by
 obtain ⟨l1,l2,l3⟩:=lines_size (s:=s)
 unfold impl_ReadSyms.f
 refine Tot.bind (Tot.of (splitI_V (by omega)) rfl) ?_
 rintro _ rfl
 refine Tot.ite (fun _ => Tot.ret fun e => by cases e) (fun c => ?_)
 rw [w64_in (n:=((linesL s.data.toList).length:Int) - 1) (by omega) (by omega)]
 refine Tot.yes (by omega) (Tot.yes (by omega) (Tot.bind (Tot.of rfl rfl) ?_))
 intro ys hys
 have hm:∀ x ∈ ys,x.size ≤ 1000:=fun x hx => by
  rw [← hys] at hx
  have:=l3 x (List.mem_of_mem_take hx);omega
 have hl:ys.length ≤ 1000:=by rw [← hys,List.length_take];omega
 clear hys
 have go:∀ (d i:Nat) (out:List S54),ys.length - i = d → i ≤ ys.length → out.length ≤ i → (∀ x ∈ out,x.f0.size ≤ 1000) → Tot (fun k => impl_ReadSyms.l0 k s out ys (ys.length:Int) (i:Int)) (ToldI s):=by
  intro d
  induction d with
  | zero =>
   intro i out h1 h2 h3 h4
   refine Tot.step (fun k => impl_ReadSyms.l0.eq_2 _ _ _ _ _ k) (Tot.no (by omega) ?_)
   refine Tot.bind (areI_T ⟨by omega,fun x hx => by have:=h4 x hx;omega⟩) fun t ht => Tot.ite (fun e => ?_) (fun _ => Tot.ret fun e => by cases e)
   have R:=ht.1 e
   refine Tot.bind (texI_T R) ?_
   rintro _ rfl
   refine Tot.ite (fun e => Tot.ret fun _ => ⟨R,?_⟩) (fun _ => Tot.ret fun e => by cases e)
   rw [toL,toL] at e
   exact (ba_ext e).symm
  | succ d ih =>
   intro i out h1 h2 h3 h4
   have hil:i < ys.length:=by omega
   have hz:(rdOf ByteArray.empty ys (i:Int)).size ≤ 1000:=by rw [rdOf_at hil];exact hm _ (List.getElem_mem _)
   have b1:(⟨#[36]⟩:ByteArray).size = 1:=rfl
   refine Tot.step (fun k => impl_ReadSyms.l0.eq_2 _ _ _ _ _ k) (Tot.yes (by omega) (Tot.yes (by omega) (Tot.yes (by omega) ?_)))
   refine Tot.ite (fun _ => Tot.ret fun e => by cases e) (fun c => ?_)
   refine Tot.yes (by decide) (Tot.yes (by omega) (Tot.yes (by rw [ByteArray.size_extract];omega) ?_))
   refine Tot.bind (rnI _ (by rw [ByteArray.size_append,ByteArray.size_extract];omega)) fun b1 _ => ?_
   refine Tot.yes (by decide) (Tot.yes (by omega) (Tot.yes (by rw [ByteArray.size_extract];omega) ?_))
   refine Tot.bind (rnI _ (by rw [ByteArray.size_append,ByteArray.size_extract];omega)) fun b2 _ => ?_
   refine Tot.yes (by omega) (Tot.yes (by omega) ?_)
   rw [w64_in (n:=(i:Int) + 1) (by omega) (by omega)]
   refine ih (i + 1) _ (by omega) (by omega) (by rw [List.length_append,List.length_singleton];omega) (fun x hx => ?_)
   rcases List.mem_append.1 hx with hx | hx
   ·exact h4 x hx
   ·rw [List.mem_singleton] at hx
    subst hx
    exact small_ext hz
 exact go _ 0 [] rfl (Nat.zero_le _) (Nat.le_refl _) (fun x hx => by cases hx)
theorem readI_B {l:List S54} (hR:RightL l):Tot (fun k => impl_ReadSyms.f k (mkB (symL l))) (· = (l,true)):=by
 have hn:=hR.len
 have hz:(symL l).length ≤ 20000:=by have:=symL_le l (fun x hx => (hR.sym x hx).1);omega
 have hL:linesL (mkB (symL l)).data.toList = l.map (fun x => mkB (symB x)) ++ [mkB []]:=by
  unfold linesL
  show ((wsp 10 (symL l)).1 :: (wsp 10 (symL l)).2).map mkB = _
  rw [wsp_syms l (fun x hx => (hR.sym x hx).1),List.map_append,List.map_map]
  rfl
 have hlen:(linesL (mkB (symL l)).data.toList).length = l.length + 1:=by rw [hL,List.length_append,List.length_map,List.length_singleton]
 unfold impl_ReadSyms.f
 refine Tot.bind (Tot.of (splitI_V (by rw [mkB_size];omega)) rfl) ?_
 rintro _ rfl
 rw [hlen]
 refine Tot.no (by omega) ?_
 rw [w64_in (n:=((l.length + 1:Nat):Int) - 1) (by omega) (by omega)]
 refine Tot.yes (by omega) (Tot.yes (by omega) (Tot.bind (Tot.of rfl rfl) ?_))
 have ht:(linesL (mkB (symL l)).data.toList).take (((l.length + 1:Nat):Int) - 1).toNat = l.map (fun x => mkB (symB x)):=by
  rw [hL,show (((l.length + 1:Nat):Int) - 1).toNat = l.length by omega,List.take_append_of_le_length (by rw [List.length_map];omega),List.take_of_length_le (by rw [List.length_map];omega)]
 rw [ht]
 rintro _ rfl
 rw [List.length_map]
 have go:∀ (d i:Nat),l.length - i = d → i ≤ l.length → Tot (fun k => impl_ReadSyms.l0 k (mkB (symL l)) (l.take i) (l.map (fun x => mkB (symB x))) (l.length:Int) (i:Int)) (· = (l,true)):=by
  intro d
  induction d with
  | zero =>
   intro i h1 h2
   refine Tot.step (fun k => impl_ReadSyms.l0.eq_2 _ _ _ _ _ k) (Tot.no (by omega) ?_)
   rw [List.take_of_length_le (by omega)]
   refine Tot.bind (areI_T hR.seen) fun t ht => Tot.yes (ht.2 hR) ?_
   refine Tot.bind (texI_T hR) ?_
   rintro _ rfl
   exact Tot.yes rfl (Tot.ret rfl)
  | succ d ih =>
   intro i h1 h2
   have hil:i < l.length:=by omega
   have er:rdOf ByteArray.empty (l.map (fun x => mkB (symB x))) (i:Int) = mkB (symB (rd_T54 l (i:Int))):=by
    rw [rdOf_at (by rw [List.length_map];exact hil),List.getElem_map,rdT_at hil]
   obtain ⟨hg,hb,hw⟩:=(hR i hil).1
   have hg2:=hg.2.1
   have zb:=symB_len (rd_T54 l (i:Int))
   have zm:=mkB_size (symB (rd_T54 l (i:Int)))
   have z2:(strOfNums (hexUp (rd_T54 l (i:Int)).f1 2)).size = 2:=by rw [strOfNums_size,hexUp_length]
   have z4:(strOfNums (hexUp (rd_T54 l (i:Int)).f2 4)).size = 4:=by rw [strOfNums_size,hexUp_length]
   refine Tot.step (fun k => impl_ReadSyms.l0.eq_2 _ _ _ _ _ k) (Tot.yes (by omega) (Tot.yes (by omega) (Tot.yes (by rw [List.length_map];omega) ?_)))
   rw [er,sym_bank,sym_value,sym_name,dollar_app,dollar_app]
   refine Tot.no (by omega) (Tot.yes (by decide) (Tot.yes (by omega) (Tot.yes (by omega) ?_)))
   refine Tot.bind (readNum_T _ hb.1 (by omega) 2 (by decide) (by decide) (by show _ < (256:Int);omega)) ?_
   rintro _ rfl
   refine Tot.yes (by decide) (Tot.yes (by omega) (Tot.yes (by omega) ?_))
   refine Tot.bind (readNum_T _ hw.1 hw.2 4 (by decide) (by decide) (by show _ < (65536:Int);omega)) ?_
   rintro _ rfl
   refine Tot.yes (by omega) (Tot.yes (by rw [List.length_take];omega) ?_)
   rw [w64_in (n:=(i:Int) + 1) (by omega) (by omega)]
   have:=ih (i + 1) (by omega) (by omega)
   rw [take_snoc hil] at this
   exact this
 exact go _ 0 rfl (Nat.zero_le _)
def Few (l:List S54):Prop:=l.length ≤ 3 ∧ ∀ x ∈ l,x.f0.size ≤ 2000
theorem Few.seen {l:List S54} (h:Few l):Seen l:=⟨by have:=h.1;omega,fun x hx => by have:=h.2 x hx;omega⟩
theorem rd3 (i:Int):(rdOf ByteArray.empty ([(⟨#[97]⟩:ByteArray),(⟨#[98,46,120]⟩:ByteArray),(⟨#[122,122]⟩:ByteArray)]:List ByteArray) i).size ≤ 2000:=by
 unfold rdOf
 generalize i.toNat = n
 match n with
 | 0 => decide
 | 1 => decide
 | 2 => decide
 | n + 3 => show 0 ≤ 2000;omega
theorem drawS_T {l:List Int} (hl:l.length ≤ 1048576) (hb:∀ x ∈ l,0 ≤ x ∧ x ≤ 255):Tot (fun k => spec_DrawSymText.f k l) Few:=by
 obtain ⟨e0,h0⟩:=open_tot hl hb
 have go:∀ (d i:Nat) (out:List S54) (p:Int),3 - i = d → i ≤ 3 → out.length ≤ i → (∀ x ∈ out,x.f0.size ≤ 2000) → RdOk l p → Tot (fun k => spec_DrawSymText.l0 k out ([(⟨#[97]⟩:ByteArray),(⟨#[98,46,120]⟩:ByteArray),(⟨#[122,122]⟩:ByteArray)]:List ByteArray) (i:Int) l p) Few:=by
  intro d
  induction d with
  | zero =>
   intro i out p h1 h2 h3 h4 hp
   exact Tot.step (fun k => spec_DrawSymText.l0.eq_2 _ _ _ _ _ k) (Tot.no (by simp;omega) (Tot.ret ⟨by omega,h4⟩))
  | succ d ih =>
   intro i out p h1 h2 h3 h4 hp
   refine Tot.step (fun k => spec_DrawSymText.l0.eq_2 _ _ _ _ _ k) (Tot.yes (by simp;omega) ?_)
   rw [w64_in (n:=(i:Int) + 1) (by omega) (by omega)]
   refine Tot.bind (once_T hp 2) fun q hq => Tot.ite (fun _ => ?_) (fun _ => ih (i + 1) _ _ (by omega) (by omega) (by omega) h4 hq)
   refine Tot.yes (by omega) ?_
   refine Tot.bind (below_T hq 16) fun b hb => Tot.bind (below_T hb.2.2 70000) fun v hv => Tot.yes (by omega) ?_
   refine ih (i + 1) _ _ (by omega) (by omega) (by rw [List.length_append,List.length_singleton];omega) (fun x hx => ?_) hv.2.2
   rcases List.mem_append.1 hx with hx | hx
   ·exact h4 x hx
   ·rw [List.mem_singleton] at hx
    subst hx
    exact rd3 _
 unfold spec_DrawSymText.f
 refine Tot.bind (Tot.of e0 rfl) ?_
 rintro _ rfl
 exact go _ 0 [] 0 rfl (Nat.zero_le _) (Nat.le_refl _) (fun x hx => by cases hx) h0
theorem text_few {l:List S54} (h:Few l) {s:ByteArray} (ht:TextR l s):s.size ≤ 75:=by
 rcases ht with ⟨R,rfl⟩ | ⟨_,rfl⟩
 ·rw [mkB_size]
  have:=symL_le l (fun x hx => (R.sym x hx).1)
  have:=h.1
  omega
 ·decide
theorem drawR_T {l:List Int} (hl:l.length ≤ 1048576) (hb:∀ x ∈ l,0 ≤ x ∧ x ≤ 255):Tot (fun k => spec_DrawReadSyms.f k l) (fun s => s.size ≤ 1000):=by
 obtain ⟨e0,h0⟩:=open_tot hl hb
 unfold spec_DrawReadSyms.f
 refine Tot.bind (Tot.of e0 rfl) ?_
 rintro _ rfl
 refine Tot.bind (drawS_T hl hb) fun x hx => Tot.bind (textS_T hx.seen) fun s hs => ?_
 have hz:=text_few hx hs
 refine Tot.bind (once_T h0 2) fun q hq => Tot.ite (fun _ => Tot.ret (by omega)) (fun _ => ?_)
 obtain ⟨r,p,e,e1,_⟩:=hurt_tot hq s (by omega)
 refine Tot.bind (Tot.of e rfl) ?_
 rintro _ rfl
 exact Tot.ret (by show r.size ≤ 1000;omega)
theorem same_T {l:List S54} (hl:l.length ≤ 1000000):Tot (fun k => laws_sameSyms.f k l l) (· = true):=by
 have go:∀ (d i:Nat),l.length - i = d → i ≤ l.length → Tot (fun k => laws_sameSyms.l0 k l l (i:Int)) (· = true):=by
  intro d
  induction d with
  | zero =>
   intro i h1 h2
   exact Tot.step (fun k => laws_sameSyms.l0.eq_2 _ _ _ k) (Tot.no (by omega) (Tot.ret rfl))
  | succ d ih =>
   intro i h1 h2
   refine Tot.step (fun k => laws_sameSyms.l0.eq_2 _ _ _ k) (Tot.yes (by omega) (Tot.yes (by omega) (Tot.yes (by omega) (Tot.no (by simp) ?_))))
   rw [w64_in (n:=(i:Int) + 1) (by omega) (by omega)]
   exact ih (i + 1) (by omega) (by omega)
 unfold laws_sameSyms.f
 exact Tot.yes rfl (go _ 0 rfl (Nat.zero_le _))
theorem lawJ {l:List Int} (hl:l.length ≤ 1048576) (hb:∀ x ∈ l,0 ≤ x ∧ x ≤ 255):Tot (fun k => laws_FnSymTexts.j0 k l false) (· = true):=by
 refine Tot.step (fun k => laws_FnSymTexts.j0.eq_2 _ _ k) (Tot.no (by decide) ?_)
 refine Tot.bind (drawR_T hl hb) fun s hs => ?_
 by_cases hx:∃ l,RightL l ∧ s = mkB (symL l)
 ·obtain ⟨m,R,rfl⟩:=hx
  refine Tot.bind (readI_B R) ?_
  rintro _ rfl
  refine Tot.bind (readS_B R) ?_
  rintro _ rfl
  refine Tot.yes rfl (Tot.yes rfl (Tot.bind (textI_T R.seen) fun t ht => Tot.ret ?_))
  rcases ht with ⟨_,rfl⟩ | ⟨n,_⟩
  ·simp
  ·exact absurd R n
 ·refine Tot.bind (readI_T hs) fun a ha => Tot.bind (readS_T hs) fun b hb => ?_
  have e1:a.2 = false:=Bool.eq_false_iff.2 fun e => hx ⟨_,ha e⟩
  have e2:b.2 = false:=Bool.eq_false_iff.2 fun e => hx (hb e)
  rw [e1,e2]
  exact Tot.yes rfl (Tot.no (by decide) (Tot.ret rfl))
theorem FnSymTexts:laws_FnSymTexts.Pure:=by
 intro l _ _ hw
 refine Tot.done ?_
 unfold laws_FnSymTexts.f laws_big.f
 refine Tot.bind (Tot.of rfl rfl) ?_
 rintro _ rfl
 refine Tot.ite (fun _ => Tot.ret rfl) (fun hbig => ?_)
 have hl:l.length ≤ 1048576:=by simp at hbig;omega
 have hb:=bytes_wf hw
 have last:=lawJ hl hb
 refine Tot.bind (drawS_T hl hb) fun m hm => ?_
 by_cases R:RightL m
 ·refine Tot.bind (textI_T hm.seen) fun s hs => ?_
  have e:s = mkB (symL m):=by
   rcases hs with ⟨_,e⟩ | ⟨n,_⟩
   ·exact e
   ·exact absurd R n
  subst e
  refine Tot.bind (readI_B R) ?_
  rintro _ rfl
  refine Tot.bind (textS_T hm.seen) fun s hs => ?_
  have e:s = mkB (symL m):=by
   rcases hs with ⟨_,e⟩ | ⟨n,_⟩
   ·exact e
   ·exact absurd R n
  subst e
  refine Tot.yes rfl (Tot.ite (fun _ => last) (fun _ => Tot.yes rfl (Tot.bind (same_T (show m.length ≤ 1000000 by have:=hm.1;omega)) ?_)))
  rintro _ rfl
  exact last
 ·refine Tot.bind (textI_T hm.seen) fun s hs => ?_
  have e:s = ⟨#[]⟩:=by
   rcases hs with ⟨r,_⟩ | ⟨_,e⟩
   ·exact absurd r R
   ·exact e
  subst e
  refine Tot.bind (readI_T (by decide)) fun a _ => Tot.bind (textS_T hm.seen) fun s hs => ?_
  have e:s = ⟨#[]⟩:=by
   rcases hs with ⟨r,_⟩ | ⟨_,e⟩
   ·exact absurd r R
   ·exact e
  subst e
  exact Tot.yes rfl (Tot.yes ((nilD _).2 rfl) last)
end Go.Proofs.YtoiiaklmjpiejaaDoor.Pure
