import Derived.Test.YtabbdfchibjndaaGreatDoorXLibCp
namespace Go.Proofs.YtabbdfchibjndaaGreatDoor.LibCp
open Go.BigFrame Go.RowKit Go.Proofs.YtabbdfchibjndaaGreatDoorW.PrintWords Go.Proofs.YtabbdfchibjndaaGreatDoorW.PrintLast Go.Proofs.YtabbdfchibjndaaGreatDoorW.PrintMore Go.Proofs.YtabbdfchibjndaaGreatDoor.LibX Go.Proofs.YtabbdfchibjndaaGreatDoor.LibG
attribute [local go_sem] max2_int min2_int max_two min_two max_three min_three max_four min_four
set_option linter.unusedVariables false
set_option linter.unusedSimpArgs false
def wdF (t:Bool) (c:Int):Bool:=t || ((decide (48 ≤ c) && decide (c ≤ 57)) || (decide (65 ≤ c) && decide (c ≤ 70)))
def wordE:Nat → ByteArray → Int → Option Int
  | 0,_,_ => none
  | k + 1,s,i => if i < (s.size:Int) then (spec_l1Letter.f (bt s i)).bind fun t => (if wdF t (bt s i) = true then wordE k s (i + 1) else some i) else some i
theorem wordE_mono:∀ (k:Nat) (s:ByteArray) (i:Int),LeO (wordE k s i) (wordE (k + 1) s i)
  | 0 => fun _ _ r h => by simp [wordE] at h
  | k + 1 => fun s i => by
    have ih:=wordE_mono k
    unfold wordE
    repeat' first
      | (with_reducible exact ih _ _)
      | (with_reducible exact LeO.refl _)
      | (with_reducible refine LeO.ite ?_ ?_)
      | (with_reducible refine LeO.bind ?_ (fun _ => ?_))
theorem word_lex:Region.lexB .any (opsOf Tryz.f100 2) = true:=by kernel_rfl
theorem wd_cases (t d1 d2 d3 d4:Bool):t = true ∨ (t = false ∧ d1 = true ∧ d2 = true) ∨ (t = false ∧ d1 = true ∧ d2 = false ∧ d3 = true ∧ d4 = true) ∨ (t = false ∧ d1 = false ∧ d3 = true ∧ d4 = true) ∨ (t = false ∧ d1 = true ∧ d2 = false ∧ d3 = false) ∨ (t = false ∧ d1 = true ∧ d2 = false ∧ d3 = true ∧ d4 = false) ∨ (t = false ∧ d1 = false ∧ d3 = false) ∨ (t = false ∧ d1 = false ∧ d3 = true ∧ d4 = false):=by
  cases t <;> cases d1 <;> cases d2 <;> cases d3 <;> cases d4 <;> simp
set_option maxHeartbeats 16000000 in
set_option maxRecDepth 100000 in
theorem word_calls (k:Nat) (g:Nat) (s:ByteArray) (a:Int) (o:List EN) (b:Bool) (e:Int) (w0 w:World) (hI:IsP w0 w g s a o b) (hB:Below w0.heap.size w0 w) (h0:0 ≤ a) (h1:a ≤ (s.size:Int)) (hs:s.size ≤ 1000000) (h:wordE k s a = some e) :
    Calls Tryz.prog 100 #[.pointer (some ⟨g,0,none⟩)] w fun e' w' => e' = .returned (.string (s.extract a.toNat e.toNat)) ∧ IsP w0 w' g s e o b ∧ (a ≤ e ∧ e ≤ (s.size:Int)) ∧ Below w0.heap.size w0 w':=by
  obtain ⟨c0,c1,c3,f1,f3⟩:=hI.cells
  have hge:=hI.ge
  have HI:=Aside0.mk hI
  have HB:=Aside0.mk hB
  have H':=Aside0.mk h
  have H0:=Aside0.mk h0
  have HS:=Aside0.mk hs
  clear hI hB h h0 hs
  go_enter Tryz.func100,Tryz.ntmps100
  go_wp2
  go_loopg [8] k (fun kq v8 w' => ∃ (i:Int),Aside0 (a ≤ i ∧ i ≤ (s.size:Int)) ∧ Aside0 (wordE kq s i = some e) ∧ Aside0 (kq ≤ k) ∧ Aside0 (IsP w0 w' g s i o b) ∧ Aside0 (Below w0.heap.size w0 w'))
  case atStart => exact ⟨a,⟨by omega⟩,H',⟨Nat.le_refl _⟩,HI,HB⟩
  case round =>
    clear H' HI HB c0 c1 c3 f1 f3
    obtain ⟨i,HX,HA,HK1,HI,HB⟩:=hrel
    obtain ⟨c0,c1,c3,f1,f3⟩:=HI.out.cells
    cases gk with
    | zero => exact absurd HA.out (by simp [wordE])
    | succ k1 =>
      have H:=HA.out
      clear HA
      simp only [wordE] at H
      by_cases q:i < (s.size:Int)
      · rw [if_pos q] at H
        have q0:decide (i < (s.size:Int)) = true:=decide_eq_true q
        cases hL:spec_l1Letter.f (bt s i) with
        | none => rw [hL] at H;cases H
        | some t =>
        rw [hL,Option.bind_some] at H
        have HL:=Aside0.mk hL
        have p1:=eq_true (show 0 ≤ i by have:=HX.out.1;have:=H0.out;omega)
        have p2:=eq_true q
        have p1b:decide (0 ≤ i) = true:=decide_eq_true (by have:=HX.out.1;have:=H0.out;omega)
        have hx:=bt_at s i
        have e1:Unit → wrap64 (i + 1) = i + 1:=fun _ => by have:=HX.out;have:=H0.out;have:=HS.out;unfold wrap64;omega
        have hbd:a ≤ i + 1 ∧ i + 1 ≤ (s.size:Int):=by have:=HX.out;omega
        clear hL q
        generalize hd1:decide ((48:Int) ≤ bt s i) = d1 at *
        generalize hd2:decide (bt s i ≤ (57:Int)) = d2 at *
        generalize hd3:decide ((65:Int) ≤ bt s i) = d3 at *
        generalize hd4:decide (bt s i ≤ (70:Int)) = d4 at *
        unfold wdF at H
        rw [hd1,hd2,hd3,hd4] at H
        have HH:=Aside0.mk H
        clear H
        have r1:=eq_true H0.out
        have r1b:decide (0 ≤ a) = true:=decide_eq_true H0.out
        have r2:=eq_true HX.out.1
        have r2b:decide (a ≤ i) = true:=decide_eq_true HX.out.1
        have r3:=eq_true HX.out.2
        have r3b:decide (i ≤ (s.size:Int)) = true:=decide_eq_true HX.out.2
        rcases wd_cases t d1 d2 d3 d4 with rfl | ⟨rfl,rfl,rfl⟩ | ⟨rfl,rfl,rfl,rfl,rfl⟩ | ⟨rfl,rfl,rfl,rfl⟩ | ⟨rfl,rfl,rfl,rfl⟩ | ⟨rfl,rfl,rfl,rfl,rfl⟩ | ⟨rfl,rfl,rfl⟩ | ⟨rfl,rfl,rfl,rfl⟩ <;>
          (go_wp2
           try simp only [List.append_eq,List.cons_append,List.nil_append]
           refine wp_region_quiet_lit (by kernel_rfl) (by exact word_lex) ?_
           repeat (go_big_quiet_step (first | (go_at_call 63;refine Calls.quiet_of ((spec_l1Letter.calls _ _ _ HL.out).mono fun e w' ⟨he,nd,hd⟩ => ⟨he,nd,hd⟩))))
           refine wpQuiet_nil ?_
           intro _ hw'
           obtain ⟨nq,hw''⟩:=hw'
           subst hw''
           go_wp2
           first
           | (go_roundg k1
              case measure => have:=HK1.out;omega
              case rel => exact ⟨i + 1,⟨hbd⟩,⟨by simpa using HH.out⟩,⟨by have:=HK1.out;omega⟩,⟨by have h_:=IsP.set1 (IsP.drewN HI.out nq) (wrap64 (i + 1));rw [e1 ()] at h_ ⊢;exact h_⟩,⟨below_set (pw_below_drewN HB.out _) hge⟩⟩)
           | (go_quiet (fail)
              go_wp2
              go_ret
              have he:i = e:=by simpa using HH.out
              subst he
              exact ⟨rfl,IsP.drewN (IsP.drewN HI.out _) _,HX.out,pw_below_drewN (pw_below_drewN HB.out _) _⟩))
      · rw [if_neg q] at H
        have q0:decide (i < (s.size:Int)) = false:=decide_eq_false q
        have r1:=eq_true H0.out
        have r1b:decide (0 ≤ a) = true:=decide_eq_true H0.out
        have r2:=eq_true HX.out.1
        have r2b:decide (a ≤ i) = true:=decide_eq_true HX.out.1
        have r3:=eq_true HX.out.2
        have r3b:decide (i ≤ (s.size:Int)) = true:=decide_eq_true HX.out.2
        obtain rfl:=Option.some.inj H
        clear q
        go_wp2
        try simp only [List.append_eq,List.cons_append,List.nil_append]
        refine wp_region_quiet_lit (by kernel_rfl) (by exact word_lex) ?_
        repeat (go_big_quiet_step (first | (go_at_call 63;refine Calls.quiet_of ((spec_l1Letter.calls _ _ _ HL.out).mono fun e w' ⟨he,nd,hd⟩ => ⟨he,nd,hd⟩))))
        refine wpQuiet_nil ?_
        intro _ hw'
        obtain ⟨nq,hw''⟩:=hw'
        subst hw''
        go_wp2
        go_quiet (fail)
        go_wp2
        go_ret
        exact ⟨rfl,IsP.drewN (IsP.drewN HI.out _) _,HX.out,pw_below_drewN (pw_below_drewN HB.out _) _⟩
end Go.Proofs.YtabbdfchibjndaaGreatDoor.LibCp
