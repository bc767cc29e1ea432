import Derived.Test.YtabbdfchibjndaaGreatDoorXLibCr
namespace Go.Proofs.YtabbdfchibjndaaGreatDoor.LibCp
open Go.BigFrame Go.RowKit Go.Proofs.YtabbdfchibjndaaGreatDoorW.PrintWords Go.Proofs.YtabbdfchibjndaaGreatDoorW.PrintLast Go.Proofs.YtabbdfchibjndaaGreatDoorW.PrintMore Go.Proofs.YtabbdfchibjndaaGreatDoor.LibX Go.Proofs.YtabbdfchibjndaaGreatDoor.LibG
attribute [local go_sem] max2_int min2_int max_two min_two max_three min_three max_four min_four
set_option linter.unusedVariables false
set_option linter.unusedSimpArgs false
set_option maxHeartbeats 8000000 in
set_option maxRecDepth 100000 in
theorem value_dollar {lev:Int → Int → Int → List EN → Bool → Option PR} {val:Int → Int → List EN → Bool → Option PR} {s:ByteArray} (hs:s.size ≤ 1000000) (hl:LevC lev s) (hv:ValC val s) (k:Nat) (deep:Int) (g:Nat) (a:Int) (o:List EN) (r1:Int) (r2:List EN) (r3:Bool) (w0 w:World) (hI:IsP w0 w g s a o false) (hB:Below w0.heap.size w0 w) (h0:0 ≤ a) (h1:a ≤ (s.size:Int)) (cd:decide ((30:Int) < deep) = false) (n0:isF s a (⟨#[45]⟩:ByteArray) = false) (n1:isF s a (⟨#[126]⟩:ByteArray) = false) (n2:isF s a (⟨#[104,105,103,104,40]⟩:ByteArray) = false) (n3:isF s a (⟨#[108,111,119,40]⟩:ByteArray) = false) (n4:isF s a (⟨#[98,97,110,107,40]⟩:ByteArray) = false) (n5:isF s a (⟨#[40]⟩:ByteArray) = false) (y:isF s a (⟨#[36]⟩:ByteArray) = true) (a1:Int) (ha:a + ((⟨#[36]⟩:ByteArray).size:Int) = a1) (h:tailG k s (⟨#[36]⟩:ByteArray) false a1 o = some (r1,r2,r3)) :
  Calls Tryz.prog 81 #[.pointer (some ⟨g,0,none⟩),.int .i64 deep] w fun e w' => e = .returned (.tuple #[]) ∧ IsP w0 w' g s r1 r2 r3 ∧ (0 ≤ r1 ∧ r1 ≤ (s.size:Int)) ∧ Below w0.heap.size w0 w':=by
 have hge:=hI.ge
 have HI:=Aside0.mk hI
 have HB:=Aside0.mk hB
 clear hI hB
 obtain ⟨c0,c1,c3,f1,f3⟩:=HI.out.cells
 unfold tailG at h
 have hb1:a1 ≤ (s.size:Int):=ha ▸ isF_le y
 have hb0:0 ≤ a1:=by omega
 cases hw:wordE k s a1 with
 | none => rw [hw] at h;cases h
 | some e =>
 rw [hw,Option.bind_some] at h
 by_cases hz:(⟨#[36]⟩:ByteArray).size + (s.extract a1.toNat e.toNat).size ≤ 9223372036854775807
 rotate_left
 ·rw [if_neg hz] at h;cases h
 rw [if_pos hz] at h
 cases hq:spec_ReadNum.f k ((⟨#[36]⟩:ByteArray) ++ (s.extract a1.toNat e.toNat)) with
 | none => rw [hq] at h;cases h
 | some p =>
 obtain ⟨n,ok⟩:=p
 rw [hq,Option.bind_some] at h
 dsimp only at h
 have z1:(9223372036854775807 < (⟨#[36]⟩:ByteArray).size + (s.extract a1.toNat e.toNat).size) = False:=eq_false (by omega)
 have z2:(9223372036854775807 < 1 + (s.extract a1.toNat e.toNat).size) = False:=eq_false (by have:(⟨#[36]⟩:ByteArray).size = 1:=rfl;omega)
 have z3:=z2
 rw [ByteArray.size_extract] at z3
 clear hz
 cases ok with
 | true =>
  rw [if_pos rfl] at h
  have h:=Option.some.inj h
  obtain rfl:=congrArg Prod.fst h
  obtain rfl:=congrArg (fun z:PR => z.2.1) h
  obtain rfl:=congrArg (fun z:PR => z.2.2) h
  clear h
  go_enter Tryz.func81,Tryz.ntmps81
  go_wp2_with (first | (go_at_call 99;refine (is_no _ _ _ _ _ _ _ _ HI.out HB.out h0 h1 hs (by decide) (by assumption)).mono ?_;rintro e w2 ⟨rfl,hI,hB⟩;clear HI HB c0 c1 c3 f1 f3;have HI:=Aside0.mk hI;have HB:=Aside0.mk hB;clear hI hB;obtain ⟨c0,c1,c3,f1,f3⟩:=HI.out.cells) | (go_at_call 99;refine (is_yes _ _ _ _ _ _ _ _ _ HI.out HB.out h0 h1 hs (by decide) (by assumption) (by assumption)).mono ?_;rintro e w2 ⟨rfl,hI,hB⟩;clear HI HB c0 c1 c3 f1 f3;have HI:=Aside0.mk hI;have HB:=Aside0.mk hB;clear hI hB;obtain ⟨c0,c1,c3,f1,f3⟩:=HI.out.cells) | (go_at_call 100;refine (word_calls k _ _ _ _ _ _ _ _ HI.out HB.out hb0 hb1 hs hw).mono ?_;rintro e w2 ⟨rfl,hI,hE,hB⟩;clear HI HB c0 c1 c3 f1 f3;have HI:=Aside0.mk hI;have HB:=Aside0.mk hB;clear hI hB;obtain ⟨c0,c1,c3,f1,f3⟩:=HI.out.cells) | (go_at_call 47;refine (spec_ReadNum.calls k _ _ _ _ hq).mono ?_;rintro e w2 ⟨rfl,nd,hnd⟩;have hI:=IsP.drewN HI.out nd;rw [← hnd] at hI;have hB:=pw_below_drewN HB.out nd;rw [← hnd] at hB;clear hnd;clear HI HB c0 c1 c3 f1 f3;have HI:=Aside0.mk hI;have HB:=Aside0.mk hB;clear hI hB;obtain ⟨c0,c1,c3,f1,f3⟩:=HI.out.cells) | (go_at_call 41;refine (spec_NameOk.calls k _ _ _ hn).mono ?_;rintro e w2 ⟨rfl,nd,hnd⟩;have hI:=IsP.drewN HI.out nd;rw [← hnd] at hI;have hB:=pw_below_drewN HB.out nd;rw [← hnd] at hB;clear hnd;clear HI HB c0 c1 c3 f1 f3;have HI:=Aside0.mk hI;have HB:=Aside0.mk hB;clear hI hB;obtain ⟨c0,c1,c3,f1,f3⟩:=HI.out.cells) | (go_at_call 84;refine (put_calls _ _ _ _ _ _ _ _ _ _ HI.out HB.out).mono ?_;rintro e w2 ⟨rfl,hI,hB⟩;clear HI HB c0 c1 c3 f1 f3;have HI:=Aside0.mk hI;have HB:=Aside0.mk hB;clear hI hB;obtain ⟨c0,c1,c3,f1,f3⟩:=HI.out.cells))
  first | go_end0 | ((try simp only [Exit.inBlock,Exit.then]);refine bodyPost_ret (results_none rfl _ _ _) rfl ?_)
  exact ⟨rfl,HI.out,⟨Int.le_trans hb0 hE.1,hE.2⟩,HB.out⟩
 | false =>
  rw [if_neg (by decide)] at h
  rw [if_neg (by decide)] at h
  have h:=Option.some.inj h
  obtain rfl:=congrArg Prod.fst h
  obtain rfl:=congrArg (fun z:PR => z.2.1) h
  obtain rfl:=congrArg (fun z:PR => z.2.2) h
  clear h
  go_enter Tryz.func81,Tryz.ntmps81
  go_wp2_with (first | (go_at_call 99;refine (is_no _ _ _ _ _ _ _ _ HI.out HB.out h0 h1 hs (by decide) (by assumption)).mono ?_;rintro e w2 ⟨rfl,hI,hB⟩;clear HI HB c0 c1 c3 f1 f3;have HI:=Aside0.mk hI;have HB:=Aside0.mk hB;clear hI hB;obtain ⟨c0,c1,c3,f1,f3⟩:=HI.out.cells) | (go_at_call 99;refine (is_yes _ _ _ _ _ _ _ _ _ HI.out HB.out h0 h1 hs (by decide) (by assumption) (by assumption)).mono ?_;rintro e w2 ⟨rfl,hI,hB⟩;clear HI HB c0 c1 c3 f1 f3;have HI:=Aside0.mk hI;have HB:=Aside0.mk hB;clear hI hB;obtain ⟨c0,c1,c3,f1,f3⟩:=HI.out.cells) | (go_at_call 100;refine (word_calls k _ _ _ _ _ _ _ _ HI.out HB.out hb0 hb1 hs hw).mono ?_;rintro e w2 ⟨rfl,hI,hE,hB⟩;clear HI HB c0 c1 c3 f1 f3;have HI:=Aside0.mk hI;have HB:=Aside0.mk hB;clear hI hB;obtain ⟨c0,c1,c3,f1,f3⟩:=HI.out.cells) | (go_at_call 47;refine (spec_ReadNum.calls k _ _ _ _ hq).mono ?_;rintro e w2 ⟨rfl,nd,hnd⟩;have hI:=IsP.drewN HI.out nd;rw [← hnd] at hI;have hB:=pw_below_drewN HB.out nd;rw [← hnd] at hB;clear hnd;clear HI HB c0 c1 c3 f1 f3;have HI:=Aside0.mk hI;have HB:=Aside0.mk hB;clear hI hB;obtain ⟨c0,c1,c3,f1,f3⟩:=HI.out.cells) | (go_at_call 41;refine (spec_NameOk.calls k _ _ _ hn).mono ?_;rintro e w2 ⟨rfl,nd,hnd⟩;have hI:=IsP.drewN HI.out nd;rw [← hnd] at hI;have hB:=pw_below_drewN HB.out nd;rw [← hnd] at hB;clear hnd;clear HI HB c0 c1 c3 f1 f3;have HI:=Aside0.mk hI;have HB:=Aside0.mk hB;clear hI hB;obtain ⟨c0,c1,c3,f1,f3⟩:=HI.out.cells) | (go_at_call 84;refine (put_calls _ _ _ _ _ _ _ _ _ _ HI.out HB.out).mono ?_;rintro e w2 ⟨rfl,hI,hB⟩;clear HI HB c0 c1 c3 f1 f3;have HI:=Aside0.mk hI;have HB:=Aside0.mk hB;clear hI hB;obtain ⟨c0,c1,c3,f1,f3⟩:=HI.out.cells))
  first | go_end0 | ((try simp only [Exit.inBlock,Exit.then]);refine bodyPost_ret (results_none rfl _ _ _) rfl ?_)
  exact ⟨rfl,IsP.set3 HI.out _,⟨Int.le_trans hb0 hE.1,hE.2⟩,below_set HB.out hge⟩
set_option maxHeartbeats 8000000 in
set_option maxRecDepth 100000 in
theorem value_pct {lev:Int → Int → Int → List EN → Bool → Option PR} {val:Int → Int → List EN → Bool → Option PR} {s:ByteArray} (hs:s.size ≤ 1000000) (hl:LevC lev s) (hv:ValC val s) (k:Nat) (deep:Int) (g:Nat) (a:Int) (o:List EN) (r1:Int) (r2:List EN) (r3:Bool) (w0 w:World) (hI:IsP w0 w g s a o false) (hB:Below w0.heap.size w0 w) (h0:0 ≤ a) (h1:a ≤ (s.size:Int)) (cd:decide ((30:Int) < deep) = false) (n0:isF s a (⟨#[45]⟩:ByteArray) = false) (n1:isF s a (⟨#[126]⟩:ByteArray) = false) (n2:isF s a (⟨#[104,105,103,104,40]⟩:ByteArray) = false) (n3:isF s a (⟨#[108,111,119,40]⟩:ByteArray) = false) (n4:isF s a (⟨#[98,97,110,107,40]⟩:ByteArray) = false) (n5:isF s a (⟨#[40]⟩:ByteArray) = false) (n6:isF s a (⟨#[36]⟩:ByteArray) = false) (y:isF s a (⟨#[37]⟩:ByteArray) = true) (a1:Int) (ha:a + ((⟨#[37]⟩:ByteArray).size:Int) = a1) (h:tailG k s (⟨#[37]⟩:ByteArray) false a1 o = some (r1,r2,r3)) :
  Calls Tryz.prog 81 #[.pointer (some ⟨g,0,none⟩),.int .i64 deep] w fun e w' => e = .returned (.tuple #[]) ∧ IsP w0 w' g s r1 r2 r3 ∧ (0 ≤ r1 ∧ r1 ≤ (s.size:Int)) ∧ Below w0.heap.size w0 w':=by
 have hge:=hI.ge
 have HI:=Aside0.mk hI
 have HB:=Aside0.mk hB
 clear hI hB
 obtain ⟨c0,c1,c3,f1,f3⟩:=HI.out.cells
 unfold tailG at h
 have hb1:a1 ≤ (s.size:Int):=ha ▸ isF_le y
 have hb0:0 ≤ a1:=by omega
 cases hw:wordE k s a1 with
 | none => rw [hw] at h;cases h
 | some e =>
 rw [hw,Option.bind_some] at h
 by_cases hz:(⟨#[37]⟩:ByteArray).size + (s.extract a1.toNat e.toNat).size ≤ 9223372036854775807
 rotate_left
 ·rw [if_neg hz] at h;cases h
 rw [if_pos hz] at h
 cases hq:spec_ReadNum.f k ((⟨#[37]⟩:ByteArray) ++ (s.extract a1.toNat e.toNat)) with
 | none => rw [hq] at h;cases h
 | some p =>
 obtain ⟨n,ok⟩:=p
 rw [hq,Option.bind_some] at h
 dsimp only at h
 have z1:(9223372036854775807 < (⟨#[37]⟩:ByteArray).size + (s.extract a1.toNat e.toNat).size) = False:=eq_false (by omega)
 have z2:(9223372036854775807 < 1 + (s.extract a1.toNat e.toNat).size) = False:=eq_false (by have:(⟨#[37]⟩:ByteArray).size = 1:=rfl;omega)
 have z3:=z2
 rw [ByteArray.size_extract] at z3
 clear hz
 cases ok with
 | true =>
  rw [if_pos rfl] at h
  have h:=Option.some.inj h
  obtain rfl:=congrArg Prod.fst h
  obtain rfl:=congrArg (fun z:PR => z.2.1) h
  obtain rfl:=congrArg (fun z:PR => z.2.2) h
  clear h
  go_enter Tryz.func81,Tryz.ntmps81
  go_wp2_with (first | (go_at_call 99;refine (is_no _ _ _ _ _ _ _ _ HI.out HB.out h0 h1 hs (by decide) (by assumption)).mono ?_;rintro e w2 ⟨rfl,hI,hB⟩;clear HI HB c0 c1 c3 f1 f3;have HI:=Aside0.mk hI;have HB:=Aside0.mk hB;clear hI hB;obtain ⟨c0,c1,c3,f1,f3⟩:=HI.out.cells) | (go_at_call 99;refine (is_yes _ _ _ _ _ _ _ _ _ HI.out HB.out h0 h1 hs (by decide) (by assumption) (by assumption)).mono ?_;rintro e w2 ⟨rfl,hI,hB⟩;clear HI HB c0 c1 c3 f1 f3;have HI:=Aside0.mk hI;have HB:=Aside0.mk hB;clear hI hB;obtain ⟨c0,c1,c3,f1,f3⟩:=HI.out.cells) | (go_at_call 100;refine (word_calls k _ _ _ _ _ _ _ _ HI.out HB.out hb0 hb1 hs hw).mono ?_;rintro e w2 ⟨rfl,hI,hE,hB⟩;clear HI HB c0 c1 c3 f1 f3;have HI:=Aside0.mk hI;have HB:=Aside0.mk hB;clear hI hB;obtain ⟨c0,c1,c3,f1,f3⟩:=HI.out.cells) | (go_at_call 47;refine (spec_ReadNum.calls k _ _ _ _ hq).mono ?_;rintro e w2 ⟨rfl,nd,hnd⟩;have hI:=IsP.drewN HI.out nd;rw [← hnd] at hI;have hB:=pw_below_drewN HB.out nd;rw [← hnd] at hB;clear hnd;clear HI HB c0 c1 c3 f1 f3;have HI:=Aside0.mk hI;have HB:=Aside0.mk hB;clear hI hB;obtain ⟨c0,c1,c3,f1,f3⟩:=HI.out.cells) | (go_at_call 41;refine (spec_NameOk.calls k _ _ _ hn).mono ?_;rintro e w2 ⟨rfl,nd,hnd⟩;have hI:=IsP.drewN HI.out nd;rw [← hnd] at hI;have hB:=pw_below_drewN HB.out nd;rw [← hnd] at hB;clear hnd;clear HI HB c0 c1 c3 f1 f3;have HI:=Aside0.mk hI;have HB:=Aside0.mk hB;clear hI hB;obtain ⟨c0,c1,c3,f1,f3⟩:=HI.out.cells) | (go_at_call 84;refine (put_calls _ _ _ _ _ _ _ _ _ _ HI.out HB.out).mono ?_;rintro e w2 ⟨rfl,hI,hB⟩;clear HI HB c0 c1 c3 f1 f3;have HI:=Aside0.mk hI;have HB:=Aside0.mk hB;clear hI hB;obtain ⟨c0,c1,c3,f1,f3⟩:=HI.out.cells))
  first | go_end0 | ((try simp only [Exit.inBlock,Exit.then]);refine bodyPost_ret (results_none rfl _ _ _) rfl ?_)
  exact ⟨rfl,HI.out,⟨Int.le_trans hb0 hE.1,hE.2⟩,HB.out⟩
 | false =>
  rw [if_neg (by decide)] at h
  rw [if_neg (by decide)] at h
  have h:=Option.some.inj h
  obtain rfl:=congrArg Prod.fst h
  obtain rfl:=congrArg (fun z:PR => z.2.1) h
  obtain rfl:=congrArg (fun z:PR => z.2.2) h
  clear h
  go_enter Tryz.func81,Tryz.ntmps81
  go_wp2_with (first | (go_at_call 99;refine (is_no _ _ _ _ _ _ _ _ HI.out HB.out h0 h1 hs (by decide) (by assumption)).mono ?_;rintro e w2 ⟨rfl,hI,hB⟩;clear HI HB c0 c1 c3 f1 f3;have HI:=Aside0.mk hI;have HB:=Aside0.mk hB;clear hI hB;obtain ⟨c0,c1,c3,f1,f3⟩:=HI.out.cells) | (go_at_call 99;refine (is_yes _ _ _ _ _ _ _ _ _ HI.out HB.out h0 h1 hs (by decide) (by assumption) (by assumption)).mono ?_;rintro e w2 ⟨rfl,hI,hB⟩;clear HI HB c0 c1 c3 f1 f3;have HI:=Aside0.mk hI;have HB:=Aside0.mk hB;clear hI hB;obtain ⟨c0,c1,c3,f1,f3⟩:=HI.out.cells) | (go_at_call 100;refine (word_calls k _ _ _ _ _ _ _ _ HI.out HB.out hb0 hb1 hs hw).mono ?_;rintro e w2 ⟨rfl,hI,hE,hB⟩;clear HI HB c0 c1 c3 f1 f3;have HI:=Aside0.mk hI;have HB:=Aside0.mk hB;clear hI hB;obtain ⟨c0,c1,c3,f1,f3⟩:=HI.out.cells) | (go_at_call 47;refine (spec_ReadNum.calls k _ _ _ _ hq).mono ?_;rintro e w2 ⟨rfl,nd,hnd⟩;have hI:=IsP.drewN HI.out nd;rw [← hnd] at hI;have hB:=pw_below_drewN HB.out nd;rw [← hnd] at hB;clear hnd;clear HI HB c0 c1 c3 f1 f3;have HI:=Aside0.mk hI;have HB:=Aside0.mk hB;clear hI hB;obtain ⟨c0,c1,c3,f1,f3⟩:=HI.out.cells) | (go_at_call 41;refine (spec_NameOk.calls k _ _ _ hn).mono ?_;rintro e w2 ⟨rfl,nd,hnd⟩;have hI:=IsP.drewN HI.out nd;rw [← hnd] at hI;have hB:=pw_below_drewN HB.out nd;rw [← hnd] at hB;clear hnd;clear HI HB c0 c1 c3 f1 f3;have HI:=Aside0.mk hI;have HB:=Aside0.mk hB;clear hI hB;obtain ⟨c0,c1,c3,f1,f3⟩:=HI.out.cells) | (go_at_call 84;refine (put_calls _ _ _ _ _ _ _ _ _ _ HI.out HB.out).mono ?_;rintro e w2 ⟨rfl,hI,hB⟩;clear HI HB c0 c1 c3 f1 f3;have HI:=Aside0.mk hI;have HB:=Aside0.mk hB;clear hI hB;obtain ⟨c0,c1,c3,f1,f3⟩:=HI.out.cells))
  first | go_end0 | ((try simp only [Exit.inBlock,Exit.then]);refine bodyPost_ret (results_none rfl _ _ _) rfl ?_)
  exact ⟨rfl,IsP.set3 HI.out _,⟨Int.le_trans hb0 hE.1,hE.2⟩,below_set HB.out hge⟩
set_option maxHeartbeats 8000000 in
set_option maxRecDepth 100000 in
theorem value_plain {lev:Int → Int → Int → List EN → Bool → Option PR} {val:Int → Int → List EN → Bool → Option PR} {s:ByteArray} (hs:s.size ≤ 1000000) (hl:LevC lev s) (hv:ValC val s) (k:Nat) (deep:Int) (g:Nat) (a:Int) (o:List EN) (r1:Int) (r2:List EN) (r3:Bool) (w0 w:World) (hI:IsP w0 w g s a o false) (hB:Below w0.heap.size w0 w) (h0:0 ≤ a) (h1:a ≤ (s.size:Int)) (cd:decide ((30:Int) < deep) = false) (n0:isF s a (⟨#[45]⟩:ByteArray) = false) (n1:isF s a (⟨#[126]⟩:ByteArray) = false) (n2:isF s a (⟨#[104,105,103,104,40]⟩:ByteArray) = false) (n3:isF s a (⟨#[108,111,119,40]⟩:ByteArray) = false) (n4:isF s a (⟨#[98,97,110,107,40]⟩:ByteArray) = false) (n5:isF s a (⟨#[40]⟩:ByteArray) = false) (n6:isF s a (⟨#[36]⟩:ByteArray) = false) (n7:isF s a (⟨#[37]⟩:ByteArray) = false) (h:tailG k s (⟨#[]⟩:ByteArray) true a o = some (r1,r2,r3)) :
  Calls Tryz.prog 81 #[.pointer (some ⟨g,0,none⟩),.int .i64 deep] w fun e w' => e = .returned (.tuple #[]) ∧ IsP w0 w' g s r1 r2 r3 ∧ (0 ≤ r1 ∧ r1 ≤ (s.size:Int)) ∧ Below w0.heap.size w0 w':=by
 have hge:=hI.ge
 have HI:=Aside0.mk hI
 have HB:=Aside0.mk hB
 clear hI hB
 obtain ⟨c0,c1,c3,f1,f3⟩:=HI.out.cells
 unfold tailG at h
 cases hw:wordE k s a with
 | none => rw [hw] at h;cases h
 | some e =>
 rw [hw,Option.bind_some] at h
 by_cases hz:(⟨#[]⟩:ByteArray).size + (s.extract a.toNat e.toNat).size ≤ 9223372036854775807
 rotate_left
 ·rw [if_neg hz] at h;cases h
 rw [if_pos hz] at h
 cases hq:spec_ReadNum.f k ((⟨#[]⟩:ByteArray) ++ (s.extract a.toNat e.toNat)) with
 | none => rw [hq] at h;cases h
 | some p =>
 obtain ⟨n,ok⟩:=p
 rw [hq,Option.bind_some] at h
 dsimp only at h
 have z1:(9223372036854775807 < (⟨#[]⟩:ByteArray).size + (s.extract a.toNat e.toNat).size) = False:=eq_false (by omega)
 have z2:(9223372036854775807 < 0 + (s.extract a.toNat e.toNat).size) = False:=eq_false (by have:(⟨#[]⟩:ByteArray).size = 0:=rfl;omega)
 have z3:=z2
 rw [ByteArray.size_extract] at z3
 clear hz
 cases ok with
 | true =>
  rw [if_pos rfl] at h
  have h:=Option.some.inj h
  obtain rfl:=congrArg Prod.fst h
  obtain rfl:=congrArg (fun z:PR => z.2.1) h
  obtain rfl:=congrArg (fun z:PR => z.2.2) h
  clear h
  go_enter Tryz.func81,Tryz.ntmps81
  go_wp2_with (first | (go_at_call 99;refine (is_no _ _ _ _ _ _ _ _ HI.out HB.out h0 h1 hs (by decide) (by assumption)).mono ?_;rintro e w2 ⟨rfl,hI,hB⟩;clear HI HB c0 c1 c3 f1 f3;have HI:=Aside0.mk hI;have HB:=Aside0.mk hB;clear hI hB;obtain ⟨c0,c1,c3,f1,f3⟩:=HI.out.cells) | (go_at_call 100;refine (word_calls k _ _ _ _ _ _ _ _ HI.out HB.out h0 h1 hs hw).mono ?_;rintro e w2 ⟨rfl,hI,hE,hB⟩;clear HI HB c0 c1 c3 f1 f3;have HI:=Aside0.mk hI;have HB:=Aside0.mk hB;clear hI hB;obtain ⟨c0,c1,c3,f1,f3⟩:=HI.out.cells) | (go_at_call 47;refine (spec_ReadNum.calls k _ _ _ _ hq).mono ?_;rintro e w2 ⟨rfl,nd,hnd⟩;have hI:=IsP.drewN HI.out nd;rw [← hnd] at hI;have hB:=pw_below_drewN HB.out nd;rw [← hnd] at hB;clear hnd;clear HI HB c0 c1 c3 f1 f3;have HI:=Aside0.mk hI;have HB:=Aside0.mk hB;clear hI hB;obtain ⟨c0,c1,c3,f1,f3⟩:=HI.out.cells) | (go_at_call 41;refine (spec_NameOk.calls k _ _ _ hn).mono ?_;rintro e w2 ⟨rfl,nd,hnd⟩;have hI:=IsP.drewN HI.out nd;rw [← hnd] at hI;have hB:=pw_below_drewN HB.out nd;rw [← hnd] at hB;clear hnd;clear HI HB c0 c1 c3 f1 f3;have HI:=Aside0.mk hI;have HB:=Aside0.mk hB;clear hI hB;obtain ⟨c0,c1,c3,f1,f3⟩:=HI.out.cells) | (go_at_call 84;refine (put_calls _ _ _ _ _ _ _ _ _ _ HI.out HB.out).mono ?_;rintro e w2 ⟨rfl,hI,hB⟩;clear HI HB c0 c1 c3 f1 f3;have HI:=Aside0.mk hI;have HB:=Aside0.mk hB;clear hI hB;obtain ⟨c0,c1,c3,f1,f3⟩:=HI.out.cells))
  first | go_end0 | ((try simp only [Exit.inBlock,Exit.then]);refine bodyPost_ret (results_none rfl _ _ _) rfl ?_)
  exact ⟨rfl,HI.out,⟨Int.le_trans h0 hE.1,hE.2⟩,HB.out⟩
 | false =>
  rw [if_neg (by decide)] at h
  rw [if_pos rfl] at h
  cases hn:spec_NameOk.f k (s.extract a.toNat e.toNat) with
  | none => rw [hn] at h;cases h
  | some t =>
  rw [hn,Option.bind_some] at h
  cases t with
  | true =>
   rw [if_pos rfl] at h
   have h:=Option.some.inj h
   obtain rfl:=congrArg Prod.fst h
   obtain rfl:=congrArg (fun z:PR => z.2.1) h
   obtain rfl:=congrArg (fun z:PR => z.2.2) h
   clear h
   go_enter Tryz.func81,Tryz.ntmps81
   go_wp2_with (first | (go_at_call 99;refine (is_no _ _ _ _ _ _ _ _ HI.out HB.out h0 h1 hs (by decide) (by assumption)).mono ?_;rintro e w2 ⟨rfl,hI,hB⟩;clear HI HB c0 c1 c3 f1 f3;have HI:=Aside0.mk hI;have HB:=Aside0.mk hB;clear hI hB;obtain ⟨c0,c1,c3,f1,f3⟩:=HI.out.cells) | (go_at_call 100;refine (word_calls k _ _ _ _ _ _ _ _ HI.out HB.out h0 h1 hs hw).mono ?_;rintro e w2 ⟨rfl,hI,hE,hB⟩;clear HI HB c0 c1 c3 f1 f3;have HI:=Aside0.mk hI;have HB:=Aside0.mk hB;clear hI hB;obtain ⟨c0,c1,c3,f1,f3⟩:=HI.out.cells) | (go_at_call 47;refine (spec_ReadNum.calls k _ _ _ _ hq).mono ?_;rintro e w2 ⟨rfl,nd,hnd⟩;have hI:=IsP.drewN HI.out nd;rw [← hnd] at hI;have hB:=pw_below_drewN HB.out nd;rw [← hnd] at hB;clear hnd;clear HI HB c0 c1 c3 f1 f3;have HI:=Aside0.mk hI;have HB:=Aside0.mk hB;clear hI hB;obtain ⟨c0,c1,c3,f1,f3⟩:=HI.out.cells) | (go_at_call 41;refine (spec_NameOk.calls k _ _ _ hn).mono ?_;rintro e w2 ⟨rfl,nd,hnd⟩;have hI:=IsP.drewN HI.out nd;rw [← hnd] at hI;have hB:=pw_below_drewN HB.out nd;rw [← hnd] at hB;clear hnd;clear HI HB c0 c1 c3 f1 f3;have HI:=Aside0.mk hI;have HB:=Aside0.mk hB;clear hI hB;obtain ⟨c0,c1,c3,f1,f3⟩:=HI.out.cells) | (go_at_call 84;refine (put_calls _ _ _ _ _ _ _ _ _ _ HI.out HB.out).mono ?_;rintro e w2 ⟨rfl,hI,hB⟩;clear HI HB c0 c1 c3 f1 f3;have HI:=Aside0.mk hI;have HB:=Aside0.mk hB;clear hI hB;obtain ⟨c0,c1,c3,f1,f3⟩:=HI.out.cells))
   first | go_end0 | ((try simp only [Exit.inBlock,Exit.then]);refine bodyPost_ret (results_none rfl _ _ _) rfl ?_)
   exact ⟨rfl,HI.out,⟨Int.le_trans h0 hE.1,hE.2⟩,HB.out⟩
  | false =>
   rw [if_neg (by decide)] at h
   have h:=Option.some.inj h
   obtain rfl:=congrArg Prod.fst h
   obtain rfl:=congrArg (fun z:PR => z.2.1) h
   obtain rfl:=congrArg (fun z:PR => z.2.2) h
   clear h
   go_enter Tryz.func81,Tryz.ntmps81
   go_wp2_with (first | (go_at_call 99;refine (is_no _ _ _ _ _ _ _ _ HI.out HB.out h0 h1 hs (by decide) (by assumption)).mono ?_;rintro e w2 ⟨rfl,hI,hB⟩;clear HI HB c0 c1 c3 f1 f3;have HI:=Aside0.mk hI;have HB:=Aside0.mk hB;clear hI hB;obtain ⟨c0,c1,c3,f1,f3⟩:=HI.out.cells) | (go_at_call 100;refine (word_calls k _ _ _ _ _ _ _ _ HI.out HB.out h0 h1 hs hw).mono ?_;rintro e w2 ⟨rfl,hI,hE,hB⟩;clear HI HB c0 c1 c3 f1 f3;have HI:=Aside0.mk hI;have HB:=Aside0.mk hB;clear hI hB;obtain ⟨c0,c1,c3,f1,f3⟩:=HI.out.cells) | (go_at_call 47;refine (spec_ReadNum.calls k _ _ _ _ hq).mono ?_;rintro e w2 ⟨rfl,nd,hnd⟩;have hI:=IsP.drewN HI.out nd;rw [← hnd] at hI;have hB:=pw_below_drewN HB.out nd;rw [← hnd] at hB;clear hnd;clear HI HB c0 c1 c3 f1 f3;have HI:=Aside0.mk hI;have HB:=Aside0.mk hB;clear hI hB;obtain ⟨c0,c1,c3,f1,f3⟩:=HI.out.cells) | (go_at_call 41;refine (spec_NameOk.calls k _ _ _ hn).mono ?_;rintro e w2 ⟨rfl,nd,hnd⟩;have hI:=IsP.drewN HI.out nd;rw [← hnd] at hI;have hB:=pw_below_drewN HB.out nd;rw [← hnd] at hB;clear hnd;clear HI HB c0 c1 c3 f1 f3;have HI:=Aside0.mk hI;have HB:=Aside0.mk hB;clear hI hB;obtain ⟨c0,c1,c3,f1,f3⟩:=HI.out.cells) | (go_at_call 84;refine (put_calls _ _ _ _ _ _ _ _ _ _ HI.out HB.out).mono ?_;rintro e w2 ⟨rfl,hI,hB⟩;clear HI HB c0 c1 c3 f1 f3;have HI:=Aside0.mk hI;have HB:=Aside0.mk hB;clear hI hB;obtain ⟨c0,c1,c3,f1,f3⟩:=HI.out.cells))
   first | go_end0 | ((try simp only [Exit.inBlock,Exit.then]);refine bodyPost_ret (results_none rfl _ _ _) rfl ?_)
   exact ⟨rfl,IsP.set3 HI.out _,⟨Int.le_trans h0 hE.1,hE.2⟩,below_set HB.out hge⟩
set_option maxHeartbeats 8000000 in
set_option maxRecDepth 100000 in
theorem value_deep (g:Nat) (s:ByteArray) (deep a:Int) (o:List EN) (b:Bool) (w0 w:World) (hI:IsP w0 w g s a o b) (hB:Below w0.heap.size w0 w) (cd:decide ((30:Int) < deep) = true) :
  Calls Tryz.prog 81 #[.pointer (some ⟨g,0,none⟩),.int .i64 deep] w fun e w' => e = .returned (.tuple #[]) ∧ IsP w0 w' g s a o true ∧ Below w0.heap.size w0 w':=by
 have hge:=hI.ge
 have HI:=Aside0.mk hI
 have HB:=Aside0.mk hB
 clear hI hB
 obtain ⟨c0,c1,c3,f1,f3⟩:=HI.out.cells
 go_enter Tryz.func81,Tryz.ntmps81
 go_wp2
 first | go_end0 | ((try simp only [Exit.inBlock,Exit.then]);refine bodyPost_ret (results_none rfl _ _ _) rfl ?_)
 exact ⟨rfl,IsP.set3 HI.out _,below_set HB.out hge⟩
set_option maxHeartbeats 8000000 in
set_option maxRecDepth 100000 in
theorem value_bad (g:Nat) (s:ByteArray) (deep a:Int) (o:List EN) (w0 w:World) (hI:IsP w0 w g s a o true) (hB:Below w0.heap.size w0 w) (cd:decide ((30:Int) < deep) = false) :
  Calls Tryz.prog 81 #[.pointer (some ⟨g,0,none⟩),.int .i64 deep] w fun e w' => e = .returned (.tuple #[]) ∧ IsP w0 w' g s a o true ∧ Below w0.heap.size w0 w':=by
 have HI:=Aside0.mk hI
 have HB:=Aside0.mk hB
 clear hI hB
 obtain ⟨c0,c1,c3,f1,f3⟩:=HI.out.cells
 go_enter Tryz.func81,Tryz.ntmps81
 go_wp2
 first | go_end0 | ((try simp only [Exit.inBlock,Exit.then]);refine bodyPost_ret (results_none rfl _ _ _) rfl ?_)
 exact ⟨rfl,HI.out,HB.out⟩
theorem value_calls {lev:Int → Int → Int → List EN → Bool → Option PR} {val:Int → Int → List EN → Bool → Option PR} {s:ByteArray} (hs:s.size ≤ 1000000) (hl:LevC lev s) (hv:ValC val s) (k:Nat):ValC (fun deep a o b => valG lev val k s deep a o b) s:=by
 intro deep g a o b r1 r2 r3 w0 w hI hB h0 h1 h
 dsimp only at h
 unfold valG at h
 by_cases cd:30 < deep
 ·rw [if_pos cd] at h
  have h:=Option.some.inj h
  obtain rfl:=congrArg Prod.fst h
  obtain rfl:=congrArg (fun z:PR => z.2.1) h
  obtain rfl:=congrArg (fun z:PR => z.2.2) h
  clear h
  exact (value_deep g s deep a o b w0 w hI hB (decide_eq_true cd)).mono fun e w' ⟨x,y,z⟩ => ⟨x,y,⟨h0,h1⟩,z⟩
 rw [if_neg cd] at h
 have cd:=decide_eq_false cd
 by_cases cb:b = true
 ·subst cb
  rw [if_pos rfl] at h
  have h:=Option.some.inj h
  obtain rfl:=congrArg Prod.fst h
  obtain rfl:=congrArg (fun z:PR => z.2.1) h
  obtain rfl:=congrArg (fun z:PR => z.2.2) h
  clear h
  exact (value_bad g s deep a o w0 w hI hB cd).mono fun e w' ⟨x,y,z⟩ => ⟨x,y,⟨h0,h1⟩,z⟩
 rw [if_neg cb] at h
 obtain rfl:b = false:=by simpa using cb
 clear cb
 cases n0:isF s a (⟨#[45]⟩:ByteArray) with
 | true =>
  rw [if_pos n0] at h
  exact value_neg hs hl hv k deep g a o r1 r2 r3 w0 w hI hB h0 h1 cd  n0 _ rfl h
 | false =>
 rw [if_neg (by rw [n0];decide)] at h
 cases n1:isF s a (⟨#[126]⟩:ByteArray) with
 | true =>
  rw [if_pos n1] at h
  exact value_not hs hl hv k deep g a o r1 r2 r3 w0 w hI hB h0 h1 cd n0 n1 _ rfl h
 | false =>
 rw [if_neg (by rw [n1];decide)] at h
 cases n2:isF s a (⟨#[104,105,103,104,40]⟩:ByteArray) with
 | true =>
  rw [if_pos n2] at h
  exact value_high hs hl hv k deep g a o r1 r2 r3 w0 w hI hB h0 h1 cd n0 n1 n2 _ rfl h
 | false =>
 rw [if_neg (by rw [n2];decide)] at h
 cases n3:isF s a (⟨#[108,111,119,40]⟩:ByteArray) with
 | true =>
  rw [if_pos n3] at h
  exact value_low hs hl hv k deep g a o r1 r2 r3 w0 w hI hB h0 h1 cd n0 n1 n2 n3 _ rfl h
 | false =>
 rw [if_neg (by rw [n3];decide)] at h
 cases n4:isF s a (⟨#[98,97,110,107,40]⟩:ByteArray) with
 | true =>
  rw [if_pos n4] at h
  exact value_bank hs hl hv k deep g a o r1 r2 r3 w0 w hI hB h0 h1 cd n0 n1 n2 n3 n4 _ rfl h
 | false =>
 rw [if_neg (by rw [n4];decide)] at h
 cases n5:isF s a (⟨#[40]⟩:ByteArray) with
 | true =>
  rw [if_pos n5] at h
  exact value_br hs hl hv k deep g a o r1 r2 r3 w0 w hI hB h0 h1 cd n0 n1 n2 n3 n4 n5 _ rfl h
 | false =>
 rw [if_neg (by rw [n5];decide)] at h
 cases n6:isF s a (⟨#[36]⟩:ByteArray) with
 | true =>
  rw [if_pos n6] at h
  exact value_dollar hs hl hv k deep g a o r1 r2 r3 w0 w hI hB h0 h1 cd n0 n1 n2 n3 n4 n5 n6 _ rfl h
 | false =>
 rw [if_neg (by rw [n6];decide)] at h
 cases n7:isF s a (⟨#[37]⟩:ByteArray) with
 | true =>
  rw [if_pos n7] at h
  exact value_pct hs hl hv k deep g a o r1 r2 r3 w0 w hI hB h0 h1 cd n0 n1 n2 n3 n4 n5 n6 n7 _ rfl h
 | false =>
 rw [if_neg (by rw [n7];decide)] at h
 exact value_plain hs hl hv k deep g a o r1 r2 r3 w0 w hI hB h0 h1 cd n0 n1 n2 n3 n4 n5 n6 n7 h
end Go.Proofs.YtabbdfchibjndaaGreatDoor.LibCp
