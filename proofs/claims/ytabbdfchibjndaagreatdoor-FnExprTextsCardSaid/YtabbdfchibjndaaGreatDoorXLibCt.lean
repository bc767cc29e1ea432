import Derived.Test.YtabbdfchibjndaaGreatDoorXLibCs
namespace Go.Proofs.YtabbdfchibjndaaGreatDoor.LibCp
open Go.BigFrame Go.RowKit Go.Proofs.YtabbdfchibjndaaGreatDoorW.PrintWords Go.Proofs.YtabbdfchibjndaaGreatDoorW.PrintLast Go.Proofs.YtabbdfchibjndaaGreatDoorW.PrintMore Go.Proofs.YtabbdfchibjndaaGreatDoor.LibX Go.Proofs.YtabbdfchibjndaaGreatDoor.LibG
attribute [local go_sem] max2_int min2_int max_two min_two max_three min_three max_four min_four
set_option linter.unusedVariables false
set_option linter.unusedSimpArgs false
def W18:List ByteArray:=(spec_l2Words.f).getD []
theorem words_W18:spec_l2Words.f = some W18:=rfl
theorem W18_len:W18.length = 18:=rfl
theorem W18_size:∀ i:Fin 18,(rdOf ByteArray.empty W18 (i.val:Int)).size ≤ 4:=by decide
theorem W18_le {i:Int} (h0:0 ≤ i) (h1:i < 18):(rdOf ByteArray.empty W18 i).size ≤ 4:=by
 have:=W18_size ⟨i.toNat,by omega⟩
 rwa [show ((i.toNat:Nat):Int) = i by omega] at this
def opF (s:ByteArray) (a:Int):Nat → Int
 | 0 => 0
 | j + 1 => if isF s a (rdOf ByteArray.empty W18 ((j:Int) + 8)) = true then (j:Int) + 8 else opF s a j
theorem opF_range (s:ByteArray) (a:Int):∀ j:Nat,j ≤ 10 → opF s a j = 0 ∨ (8 ≤ opF s a j ∧ opF s a j ≤ 17 ∧ isF s a (rdOf ByteArray.empty W18 (opF s a j)) = true)
 | 0,_ => .inl rfl
 | j + 1,h => by
  rw [opF]
  cases e:isF s a (rdOf ByteArray.empty W18 ((j:Int) + 8)) with
  | true => rw [if_pos rfl];exact .inr ⟨by omega,by omega,e⟩
  | false => rw [if_neg (by decide)];exact opF_range s a j (by omega)
set_option maxHeartbeats 8000000 in
set_option maxRecDepth 100000 in
theorem op_calls (g:Nat) (s:ByteArray) (a:Int) (o:List EN) (b:Bool) (w0 w:World) (hI:IsP w0 w g s a o b) (hB:Below w0.heap.size w0 w) (h0:0 ≤ a) (h1:a ≤ (s.size:Int)) (hs:s.size ≤ 1000000) :
  Calls Tryz.prog 82 #[.pointer (some ⟨g,0,none⟩)] w fun e w' => e = .returned (.int .i64 (opF s a 10)) ∧ IsP w0 w' g s a o b ∧ Below w0.heap.size w0 w':=by
 have HI:=Aside0.mk hI
 have HB:=Aside0.mk hB
 have H0:=Aside0.mk h0
 have H1:=Aside0.mk h1
 have HS:=Aside0.mk hs
 clear hI hB h0 h1 hs
 obtain ⟨c0,c1,c3,f1,f3⟩:=HI.out.cells
 go_enter Tryz.func82,Tryz.ntmps82
 go_wp2_with (go_at_call 22;refine (spec_l2Words.calls W18 _ words_W18).mono ?_;rintro e w2 ⟨v0,rfl,HO,hb⟩;have hI:=IsP.below HI.out hb;have hB:=below_step HB.out hb;clear HI HB c0 c1 c3 f1 f3 hb;have HI:=Aside0.mk hI;have HB:=Aside0.mk hB;clear hI hB;obtain ⟨Ao,co,eo⟩:=Kd.R_slice HO;subst eo;have HC:=Aside0.mk (Kd.R_reads' HO).2.2;clear HO)
 go_loopg [4] 10 (fun kq v4 w' => v4 = .int .i64 ((kq:Int) + 7) ∧ Aside0 (opF s a kq = opF s a 10) ∧ Aside0 (kq ≤ 10) ∧ Aside0 (Kd.C Kd.string w' Ao W18.length W18) ∧ Aside0 (IsP w0 w' g s a o b) ∧ Aside0 (Below w0.heap.size w0 w'))
 case atStart => exact ⟨rfl,⟨rfl⟩,⟨Nat.le_refl _⟩,HC,HI,HB⟩
 case round =>
  clear HC HI HB
  obtain ⟨rfl,HA,HK1,HC,HI,HB⟩:=hrel
  obtain ⟨c0,c1,c3,f1,f3⟩:=HI.out.cells
  cases gk with
  | zero =>
   obtain ⟨x,hx⟩:∃ x:Int,(((0:Nat):Int) + 7) = x:=⟨_,rfl⟩
   rw [hx]
   have q0:decide ((8:Int) ≤ x) = false:=decide_eq_false (by omega)
   clear hx
   have hz:opF s a 10 = 0:=HA.out.symm
   go_wp2
   go_ret
   exact ⟨by rw [hz];rfl,HI.out,HB.out⟩
  | succ j =>
   have hj:j + 1 ≤ 10:=HK1.out
   have hA:(if isF s a (rdOf ByteArray.empty W18 ((j:Int) + 8)) = true then (j:Int) + 8 else opF s a j) = opF s a 10:=HA.out
   obtain ⟨x,hx⟩:∃ x:Int,(j:Int) + 8 = x:=⟨_,rfl⟩
   have hx2:(((j + 1:Nat):Int) + 7) = x:=by omega
   rw [hx] at hA
   rw [hx2]
   have q0:decide ((8:Int) ≤ x) = true:=decide_eq_true (by omega)
   have p4:0 ≤ x:=by omega
   have p5:x < (W18.length:Int):=by rw [W18_len];omega
   obtain ⟨ad,ead,hcx⟩:=Kd.at_string HC.out x p4 p5
   cases ead
   have hy4:=W18_le p4 (by rw [W18_len] at p5;exact p5)
   generalize rdOf ByteArray.empty W18 x = y at hcx hA hy4
   have e1:Unit → wrap64 ((s.size:Int) - a) = (s.size:Int) - a:=fun _ => by have:=H0.out;have:=H1.out;have:=HS.out;unfold wrap64;omega
   have e2:Unit → wrap64 (a + (y.size:Int)) = a + (y.size:Int):=fun _ => by have:=H0.out;have:=H1.out;have:=HS.out;unfold wrap64;omega
   have e3:Unit → wrap64 (x - 1) = (j:Int) + 7:=fun _ => by unfold wrap64;omega
   replace p4:=eq_true p4
   replace p5:=eq_true p5
   have p1:(0 ≤ a) = True:=eq_true H0.out
   have p1b:decide (0 ≤ a) = true:=decide_eq_true H0.out
   have go_on:Unit → isF s a y = false → opF s a j = opF s a 10:=fun _ he => by rw [he,if_neg (by decide)] at hA;exact hA
   have stop:Unit → isF s a y = true → x = opF s a 10:=fun _ he => by rw [he,if_pos rfl] at hA;exact hA
   clear hA hx hx2
   by_cases q:(y.size:Int) ≤ (s.size:Int) - a
   ·have q2:decide ((y.size:Int) ≤ wrap64 ((s.size:Int) - a)) = true:=decide_eq_true (by have:=e1 ();omega)
    have p2:(a ≤ wrap64 (a + (y.size:Int))) = True:=eq_true (by have:=e2 ();omega)
    have p3:(wrap64 (a + (y.size:Int)) ≤ (s.size:Int)) = True:=eq_true (by have:=e2 ();omega)
    have p2b:decide (a ≤ wrap64 (a + (y.size:Int))) = true:=decide_eq_true (by have:=e2 ();omega)
    have p3b:decide (wrap64 (a + (y.size:Int)) ≤ (s.size:Int)) = true:=decide_eq_true (by have:=e2 ();omega)
    cases hm:((s.extract a.toNat (wrap64 (a + (y.size:Int))).toNat).toList == y.toList) with
    | true =>
     have hF:isF s a y = true:=by unfold isF;rw [decide_eq_true q,← e2 (),hm];rfl
     have hS:=Aside0.mk (stop () hF)
     clear q hF go_on stop hj
     go_wp2
     go_quiet (fail)
     go_wp2
     go_ret
     exact ⟨by rw [hS.out];rfl,IsP.drewN HI.out _,pw_below_drewN HB.out _⟩
    | false =>
     have hF:isF s a y = false:=by unfold isF;rw [decide_eq_true q,← e2 (),hm];rfl
     have hS:=Aside0.mk (go_on () hF)
     clear q hF go_on stop
     go_wp2
     go_quiet (fail)
     go_wp2
     go_roundg j
     case measure => exact Nat.lt_succ_self _
     case rel => exact ⟨by rw [← e3 ()],hS,⟨by omega⟩,⟨Kd.C_drewN HC.out _⟩,⟨IsP.drewN HI.out _⟩,⟨pw_below_drewN HB.out _⟩⟩
   ·have q2:decide ((y.size:Int) ≤ wrap64 ((s.size:Int) - a)) = false:=decide_eq_false (by have:=e1 ();omega)
    have hF:isF s a y = false:=by unfold isF;rw [decide_eq_false q];rfl
    have hS:=Aside0.mk (go_on () hF)
    clear q hF go_on stop e2
    go_wp2
    go_quiet (fail)
    go_wp2
    go_roundg j
    case measure => exact Nat.lt_succ_self _
    case rel => exact ⟨by rw [← e3 ()],hS,⟨by omega⟩,⟨Kd.C_drewN HC.out _⟩,⟨IsP.drewN HI.out _⟩,⟨pw_below_drewN HB.out _⟩⟩
end Go.Proofs.YtabbdfchibjndaaGreatDoor.LibCp
