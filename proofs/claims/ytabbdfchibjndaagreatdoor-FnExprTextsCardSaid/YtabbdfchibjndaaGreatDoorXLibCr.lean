import Derived.Test.YtabbdfchibjndaaGreatDoorXLibCq
namespace Go.Proofs.YtabbdfchibjndaaGreatDoor.LibCp
open Go.BigFrame Go.RowKit Go.Proofs.YtabbdfchibjndaaGreatDoorW.PrintWords Go.Proofs.YtabbdfchibjndaaGreatDoorW.PrintLast Go.Proofs.YtabbdfchibjndaaGreatDoorW.PrintMore Go.Proofs.YtabbdfchibjndaaGreatDoor.LibX Go.Proofs.YtabbdfchibjndaaGreatDoor.LibG
attribute [local go_sem] max2_int min2_int max_two min_two max_three min_three max_four min_four
set_option linter.unusedVariables false
set_option linter.unusedSimpArgs false
theorem isF_le {s:ByteArray} {a:Int} {x:ByteArray} (h:isF s a x = true):a + (x.size:Int) ≤ (s.size:Int):=by
 unfold isF at h
 rw [Bool.and_eq_true,decide_eq_true_eq] at h
 omega
theorem is_no (g:Nat) (s:ByteArray) (a:Int) (o:List EN) (b:Bool) (x:ByteArray) (w0 w:World) (hI:IsP w0 w g s a o b) (hB:Below w0.heap.size w0 w) (h0:0 ≤ a) (h1:a ≤ (s.size:Int)) (hs:s.size ≤ 1000000) (hx:x.size ≤ 1000) (hf:isF s a x = false) :
  Calls Tryz.prog 99 #[.pointer (some ⟨g,0,none⟩),.string x] w fun e w' => e = .returned (.bool false) ∧ IsP w0 w' g s a o b ∧ Below w0.heap.size w0 w' :=
 (is_calls g s a o b x w0 w hI hB h0 h1 hs hx).mono fun e w' ⟨he,h2,h3⟩ => ⟨by rw [he,hf],by rw [hf,if_neg (by decide)] at h2;exact h2,h3⟩
theorem is_yes (g:Nat) (s:ByteArray) (a:Int) (o:List EN) (b:Bool) (x:ByteArray) (a1:Int) (w0 w:World) (hI:IsP w0 w g s a o b) (hB:Below w0.heap.size w0 w) (h0:0 ≤ a) (h1:a ≤ (s.size:Int)) (hs:s.size ≤ 1000000) (hx:x.size ≤ 1000) (hf:isF s a x = true) (ha:a + (x.size:Int) = a1) :
  Calls Tryz.prog 99 #[.pointer (some ⟨g,0,none⟩),.string x] w fun e w' => e = .returned (.bool true) ∧ IsP w0 w' g s a1 o b ∧ Below w0.heap.size w0 w' :=
 (is_calls g s a o b x w0 w hI hB h0 h1 hs hx).mono fun e w' ⟨he,h2,h3⟩ => ⟨by rw [he,hf],by rw [hf,if_pos rfl,ha] at h2;exact h2,h3⟩
abbrev PR:=Int × List EN × Bool
def needF (s:ByteArray) (a:Int) (b:Bool):Int × Bool:=if b = true then (a,true) else if isF s a (⟨#[41]⟩:ByteArray) = true then (a + ((⟨#[41]⟩:ByteArray).size:Int),false) else (a,true)
def hlG (lev:Int → Int → Int → List EN → Bool → Option PR) (s:ByteArray) (deep a:Int) (o:List EN):Option PR :=
 (lev 1 (wrap64 (deep + 1)) a o false).bind fun r => some ((needF s r.1 r.2.2).1,putF (if bt s (wrap64 (a - 2)) = 104 then 6 else 7) 0 (⟨#[]⟩:ByteArray) r.2.1 (needF s r.1 r.2.2).2)
def bankG (k:Nat) (s:ByteArray) (a:Int) (o:List EN):Option PR :=
 (wordE k s a).bind fun e => (spec_NameOk.f k (s.extract a.toNat e.toNat)).bind fun t => some ((if t = true then needF s e false else (e,true)).1,putF 3 0 (s.extract a.toNat e.toNat) o (if t = true then needF s e false else (e,true)).2)
def brG (lev:Int → Int → Int → List EN → Bool → Option PR) (s:ByteArray) (deep a:Int) (o:List EN):Option PR :=
 (lev 1 (wrap64 (deep + 1)) a o false).bind fun r => some ((needF s r.1 r.2.2).1,r.2.1,(needF s r.1 r.2.2).2)
def tailG (k:Nat) (s:ByteArray) (sg:ByteArray) (pl:Bool) (a:Int) (o:List EN):Option PR :=
 (wordE k s a).bind fun e => if sg.size + (s.extract a.toNat e.toNat).size ≤ 9223372036854775807 then (spec_ReadNum.f k (sg ++ s.extract a.toNat e.toNat)).bind fun r => (if r.2 = true then some (e,putF 1 r.1 (⟨#[]⟩:ByteArray) o false) else if pl = true then (spec_NameOk.f k (s.extract a.toNat e.toNat)).bind fun t => (if t = true then some (e,putF 2 0 (s.extract a.toNat e.toNat) o false) else some (e,o,true)) else some (e,o,true)) else none
def valG (lev:Int → Int → Int → List EN → Bool → Option PR) (val:Int → Int → List EN → Bool → Option PR) (k:Nat) (s:ByteArray) (deep a:Int) (o:List EN) (b:Bool):Option PR :=
 if 30 < deep then some (a,o,true) else if b = true then some (a,o,true)
 else if isF s a (⟨#[45]⟩:ByteArray) = true then (val (wrap64 (deep + 1)) (a + ((⟨#[45]⟩:ByteArray).size:Int)) o false).bind fun r => some (r.1,putF 4 0 (⟨#[]⟩:ByteArray) r.2.1 r.2.2)
 else if isF s a (⟨#[126]⟩:ByteArray) = true then (val (wrap64 (deep + 1)) (a + ((⟨#[126]⟩:ByteArray).size:Int)) o false).bind fun r => some (r.1,putF 5 0 (⟨#[]⟩:ByteArray) r.2.1 r.2.2)
 else if isF s a (⟨#[104,105,103,104,40]⟩:ByteArray) = true then hlG lev s deep (a + ((⟨#[104,105,103,104,40]⟩:ByteArray).size:Int)) o
 else if isF s a (⟨#[108,111,119,40]⟩:ByteArray) = true then hlG lev s deep (a + ((⟨#[108,111,119,40]⟩:ByteArray).size:Int)) o
 else if isF s a (⟨#[98,97,110,107,40]⟩:ByteArray) = true then bankG k s (a + ((⟨#[98,97,110,107,40]⟩:ByteArray).size:Int)) o
 else if isF s a (⟨#[40]⟩:ByteArray) = true then brG lev s deep (a + ((⟨#[40]⟩:ByteArray).size:Int)) o
 else if isF s a (⟨#[36]⟩:ByteArray) = true then tailG k s (⟨#[36]⟩:ByteArray) false (a + ((⟨#[36]⟩:ByteArray).size:Int)) o
 else if isF s a (⟨#[37]⟩:ByteArray) = true then tailG k s (⟨#[37]⟩:ByteArray) false (a + ((⟨#[37]⟩:ByteArray).size:Int)) o
 else tailG k s (⟨#[]⟩:ByteArray) true a o
def LevC (lev:Int → Int → Int → List EN → Bool → Option PR) (s:ByteArray):Prop:=∀ (least deep:Int) (g:Nat) (a:Int) (o:List EN) (b:Bool) (r1:Int) (r2:List EN) (r3:Bool) (w0 w:World),IsP w0 w g s a o b → Below w0.heap.size w0 w → 0 ≤ a → a ≤ (s.size:Int) → lev least deep a o b = some (r1,r2,r3) →
 Calls Tryz.prog 65 #[.pointer (some ⟨g,0,none⟩),.int .i64 least,.int .i64 deep] w fun e w' => e = .returned (.tuple #[]) ∧ IsP w0 w' g s r1 r2 r3 ∧ (0 ≤ r1 ∧ r1 ≤ (s.size:Int)) ∧ Below w0.heap.size w0 w'
def ValC (val:Int → Int → List EN → Bool → Option PR) (s:ByteArray):Prop:=∀ (deep:Int) (g:Nat) (a:Int) (o:List EN) (b:Bool) (r1:Int) (r2:List EN) (r3:Bool) (w0 w:World),IsP w0 w g s a o b → Below w0.heap.size w0 w → 0 ≤ a → a ≤ (s.size:Int) → val deep a o b = some (r1,r2,r3) →
 Calls Tryz.prog 81 #[.pointer (some ⟨g,0,none⟩),.int .i64 deep] w fun e w' => e = .returned (.tuple #[]) ∧ IsP w0 w' g s r1 r2 r3 ∧ (0 ≤ r1 ∧ r1 ≤ (s.size:Int)) ∧ Below w0.heap.size w0 w'
set_option maxHeartbeats 8000000 in
set_option maxRecDepth 100000 in
theorem value_neg {lev:Int → Int → Int → List EN → Bool → Option PR} {val:Int → Int → List EN → Bool → Option PR} {s:ByteArray} (hs:s.size ≤ 1000000) (hl:LevC lev s) (hv:ValC val s) (k:Nat) (deep:Int) (g:Nat) (a:Int) (o:List EN) (r1:Int) (r2:List EN) (r3:Bool) (w0 w:World) (hI:IsP w0 w g s a o false) (hB:Below w0.heap.size w0 w) (h0:0 ≤ a) (h1:a ≤ (s.size:Int)) (cd:decide ((30:Int) < deep) = false) (y:isF s a (⟨#[45]⟩:ByteArray) = true) (a1:Int) (ha:a + ((⟨#[45]⟩:ByteArray).size:Int) = a1) (h:((val (wrap64 (deep + 1)) a1 o false).bind fun r => some (r.1,putF 4 0 (⟨#[]⟩:ByteArray) r.2.1 r.2.2)) = some (r1,r2,r3)) :
  Calls Tryz.prog 81 #[.pointer (some ⟨g,0,none⟩),.int .i64 deep] w fun e w' => e = .returned (.tuple #[]) ∧ IsP w0 w' g s r1 r2 r3 ∧ (0 ≤ r1 ∧ r1 ≤ (s.size:Int)) ∧ Below w0.heap.size w0 w':=by
 have hge:=hI.ge
 have HI:=Aside0.mk hI
 have HB:=Aside0.mk hB
 clear hI hB
 obtain ⟨c0,c1,c3,f1,f3⟩:=HI.out.cells
 have hb1:a1 ≤ (s.size:Int):=ha ▸ isF_le y
 have hb0:0 ≤ a1:=by omega
 cases hr:val (wrap64 (deep + 1)) a1 o false with
 | none => rw [hr] at h;cases h
 | some p =>
 obtain ⟨p1,p2,p3⟩:=p
 rw [hr,Option.bind_some] at h
 have h:=Option.some.inj h
 obtain rfl:=congrArg Prod.fst h
 obtain rfl:=congrArg (fun z:PR => z.2.1) h
 obtain rfl:=congrArg (fun z:PR => z.2.2) h
 clear h
 go_enter Tryz.func81,Tryz.ntmps81
 go_wp2_with (first | (go_at_call 99;refine (is_no _ _ _ _ _ _ _ _ HI.out HB.out h0 h1 hs (by decide) (by assumption)).mono ?_;rintro e w2 ⟨rfl,hI,hB⟩;clear HI HB c0 c1 c3 f1 f3;have HI:=Aside0.mk hI;have HB:=Aside0.mk hB;clear hI hB;obtain ⟨c0,c1,c3,f1,f3⟩:=HI.out.cells) | (go_at_call 99;refine (is_yes _ _ _ _ _ _ _ _ _ HI.out HB.out h0 h1 hs (by decide) (by assumption) (by assumption)).mono ?_;rintro e w2 ⟨rfl,hI,hB⟩;clear HI HB c0 c1 c3 f1 f3;have HI:=Aside0.mk hI;have HB:=Aside0.mk hB;clear hI hB;obtain ⟨c0,c1,c3,f1,f3⟩:=HI.out.cells) | (go_at_call 81;refine (hv _ _ _ _ _ _ _ _ _ _ HI.out HB.out hb0 hb1 hr).mono ?_;rintro e w2 ⟨rfl,hI,hR,hB⟩;clear HI HB c0 c1 c3 f1 f3;have HI:=Aside0.mk hI;have HB:=Aside0.mk hB;clear hI hB;obtain ⟨c0,c1,c3,f1,f3⟩:=HI.out.cells) | (go_at_call 84;refine (put_calls _ _ _ _ _ _ _ _ _ _ HI.out HB.out).mono ?_;rintro e w2 ⟨rfl,hI,hB⟩;clear HI HB c0 c1 c3 f1 f3;have HI:=Aside0.mk hI;have HB:=Aside0.mk hB;clear hI hB;obtain ⟨c0,c1,c3,f1,f3⟩:=HI.out.cells))
 first | go_end0 | ((try simp only [Exit.inBlock,Exit.then]);refine bodyPost_ret (results_none rfl _ _ _) rfl ?_)
 exact ⟨rfl,HI.out,hR,HB.out⟩
set_option maxHeartbeats 8000000 in
set_option maxRecDepth 100000 in
theorem value_not {lev:Int → Int → Int → List EN → Bool → Option PR} {val:Int → Int → List EN → Bool → Option PR} {s:ByteArray} (hs:s.size ≤ 1000000) (hl:LevC lev s) (hv:ValC val s) (k:Nat) (deep:Int) (g:Nat) (a:Int) (o:List EN) (r1:Int) (r2:List EN) (r3:Bool) (w0 w:World) (hI:IsP w0 w g s a o false) (hB:Below w0.heap.size w0 w) (h0:0 ≤ a) (h1:a ≤ (s.size:Int)) (cd:decide ((30:Int) < deep) = false) (n0:isF s a (⟨#[45]⟩:ByteArray) = false) (y:isF s a (⟨#[126]⟩:ByteArray) = true) (a1:Int) (ha:a + ((⟨#[126]⟩:ByteArray).size:Int) = a1) (h:((val (wrap64 (deep + 1)) a1 o false).bind fun r => some (r.1,putF 5 0 (⟨#[]⟩:ByteArray) r.2.1 r.2.2)) = some (r1,r2,r3)) :
  Calls Tryz.prog 81 #[.pointer (some ⟨g,0,none⟩),.int .i64 deep] w fun e w' => e = .returned (.tuple #[]) ∧ IsP w0 w' g s r1 r2 r3 ∧ (0 ≤ r1 ∧ r1 ≤ (s.size:Int)) ∧ Below w0.heap.size w0 w':=by
 have hge:=hI.ge
 have HI:=Aside0.mk hI
 have HB:=Aside0.mk hB
 clear hI hB
 obtain ⟨c0,c1,c3,f1,f3⟩:=HI.out.cells
 have hb1:a1 ≤ (s.size:Int):=ha ▸ isF_le y
 have hb0:0 ≤ a1:=by omega
 cases hr:val (wrap64 (deep + 1)) a1 o false with
 | none => rw [hr] at h;cases h
 | some p =>
 obtain ⟨p1,p2,p3⟩:=p
 rw [hr,Option.bind_some] at h
 have h:=Option.some.inj h
 obtain rfl:=congrArg Prod.fst h
 obtain rfl:=congrArg (fun z:PR => z.2.1) h
 obtain rfl:=congrArg (fun z:PR => z.2.2) h
 clear h
 go_enter Tryz.func81,Tryz.ntmps81
 go_wp2_with (first | (go_at_call 99;refine (is_no _ _ _ _ _ _ _ _ HI.out HB.out h0 h1 hs (by decide) (by assumption)).mono ?_;rintro e w2 ⟨rfl,hI,hB⟩;clear HI HB c0 c1 c3 f1 f3;have HI:=Aside0.mk hI;have HB:=Aside0.mk hB;clear hI hB;obtain ⟨c0,c1,c3,f1,f3⟩:=HI.out.cells) | (go_at_call 99;refine (is_yes _ _ _ _ _ _ _ _ _ HI.out HB.out h0 h1 hs (by decide) (by assumption) (by assumption)).mono ?_;rintro e w2 ⟨rfl,hI,hB⟩;clear HI HB c0 c1 c3 f1 f3;have HI:=Aside0.mk hI;have HB:=Aside0.mk hB;clear hI hB;obtain ⟨c0,c1,c3,f1,f3⟩:=HI.out.cells) | (go_at_call 81;refine (hv _ _ _ _ _ _ _ _ _ _ HI.out HB.out hb0 hb1 hr).mono ?_;rintro e w2 ⟨rfl,hI,hR,hB⟩;clear HI HB c0 c1 c3 f1 f3;have HI:=Aside0.mk hI;have HB:=Aside0.mk hB;clear hI hB;obtain ⟨c0,c1,c3,f1,f3⟩:=HI.out.cells) | (go_at_call 84;refine (put_calls _ _ _ _ _ _ _ _ _ _ HI.out HB.out).mono ?_;rintro e w2 ⟨rfl,hI,hB⟩;clear HI HB c0 c1 c3 f1 f3;have HI:=Aside0.mk hI;have HB:=Aside0.mk hB;clear hI hB;obtain ⟨c0,c1,c3,f1,f3⟩:=HI.out.cells))
 first | go_end0 | ((try simp only [Exit.inBlock,Exit.then]);refine bodyPost_ret (results_none rfl _ _ _) rfl ?_)
 exact ⟨rfl,HI.out,hR,HB.out⟩
set_option maxHeartbeats 8000000 in
set_option maxRecDepth 100000 in
theorem value_high {lev:Int → Int → Int → List EN → Bool → Option PR} {val:Int → Int → List EN → Bool → Option PR} {s:ByteArray} (hs:s.size ≤ 1000000) (hl:LevC lev s) (hv:ValC val s) (k:Nat) (deep:Int) (g:Nat) (a:Int) (o:List EN) (r1:Int) (r2:List EN) (r3:Bool) (w0 w:World) (hI:IsP w0 w g s a o false) (hB:Below w0.heap.size w0 w) (h0:0 ≤ a) (h1:a ≤ (s.size:Int)) (cd:decide ((30:Int) < deep) = false) (n0:isF s a (⟨#[45]⟩:ByteArray) = false) (n1:isF s a (⟨#[126]⟩:ByteArray) = false) (y:isF s a (⟨#[104,105,103,104,40]⟩:ByteArray) = true) (a1:Int) (ha:a + ((⟨#[104,105,103,104,40]⟩:ByteArray).size:Int) = a1) (h:hlG lev s deep a1 o = some (r1,r2,r3)) :
  Calls Tryz.prog 81 #[.pointer (some ⟨g,0,none⟩),.int .i64 deep] w fun e w' => e = .returned (.tuple #[]) ∧ IsP w0 w' g s r1 r2 r3 ∧ (0 ≤ r1 ∧ r1 ≤ (s.size:Int)) ∧ Below w0.heap.size w0 w':=by
 have hge:=hI.ge
 have HI:=Aside0.mk hI
 have HB:=Aside0.mk hB
 clear hI hB
 obtain ⟨c0,c1,c3,f1,f3⟩:=HI.out.cells
 unfold hlG at h
 have hb1:a1 ≤ (s.size:Int):=ha ▸ isF_le y
 have hb0:0 ≤ a1:=by omega
 cases hr:lev 1 (wrap64 (deep + 1)) a1 o false with
 | none => rw [hr] at h;cases h
 | some p =>
 obtain ⟨p1,p2,p3⟩:=p
 rw [hr,Option.bind_some] at h
 dsimp only at h
 have hb2:2 ≤ a1:=by have:((⟨#[104,105,103,104,40]⟩:ByteArray).size:Int) = 5:=rfl;omega
 obtain ⟨j,hj⟩:∃ j_:Int,wrap64 (a1 - 2) = j_:=⟨_,rfl⟩
 have hjw:IntKind.i64.wrap (a1 - 2) = j:=(i64_w _).trans hj
 have hj2:j = a1 - 2:=by rw [← hj];unfold wrap64;omega
 have q1:=eq_true (show 0 ≤ j by omega)
 have q2:=eq_true (show j < (s.size:Int) by omega)
 have hx:=bt_at s j
 rw [hj] at h
 clear hj2 hb2
 by_cases hk:bt s j = 104
 ·have hkb:(bt s j == 104) = true:=beq_iff_eq.mpr hk
  rw [if_pos hk] at h
  clear hk
  cases p3 with
  | true =>
   have hn:needF s p1 true = (p1,true):=by unfold needF;rw [if_pos rfl]
   rw [hn] at h
   clear hn
   have h:=Option.some.inj h
   obtain rfl:=congrArg Prod.fst h
   obtain rfl:=congrArg (fun z:PR => z.2.1) h
   obtain rfl:=congrArg (fun z:PR => z.2.2) h
   clear h
   go_enter Tryz.func81,Tryz.ntmps81
   go_wp2_with (first | (go_at_call 99;refine (is_no _ _ _ _ _ _ _ _ HI.out HB.out h0 h1 hs (by decide) (by assumption)).mono ?_;rintro e w2 ⟨rfl,hI,hB⟩;clear HI HB c0 c1 c3 f1 f3;have HI:=Aside0.mk hI;have HB:=Aside0.mk hB;clear hI hB;obtain ⟨c0,c1,c3,f1,f3⟩:=HI.out.cells) | (go_at_call 99;refine (is_yes _ _ _ _ _ _ _ _ _ HI.out HB.out h0 h1 hs (by decide) (by assumption) (by assumption)).mono ?_;rintro e w2 ⟨rfl,hI,hB⟩;clear HI HB c0 c1 c3 f1 f3;have HI:=Aside0.mk hI;have HB:=Aside0.mk hB;clear hI hB;obtain ⟨c0,c1,c3,f1,f3⟩:=HI.out.cells))
   go_quiet (fail)
   go_wp2_with (first | (go_at_call 65;refine (hl _ _ _ _ _ _ _ _ _ _ _ (IsP.drewN HI.out _) (pw_below_drewN HB.out _) hb0 hb1 hr).mono ?_;rintro e w2 ⟨rfl,hI,hR,hB⟩;clear HI HB c0 c1 c3 f1 f3;have HI:=Aside0.mk hI;have HB:=Aside0.mk hB;clear hI hB;obtain ⟨c0,c1,c3,f1,f3⟩:=HI.out.cells) | (go_at_call 99;refine (is_no _ _ _ _ _ _ _ _ HI.out HB.out hR.1 hR.2 hs (by decide) (by assumption)).mono ?_;rintro e w2 ⟨rfl,hI,hB⟩;clear HI HB c0 c1 c3 f1 f3;have HI:=Aside0.mk hI;have HB:=Aside0.mk hB;clear hI hB;obtain ⟨c0,c1,c3,f1,f3⟩:=HI.out.cells) | (go_at_call 99;refine (is_yes _ _ _ _ _ _ _ _ _ HI.out HB.out hR.1 hR.2 hs (by decide) (by assumption) (by assumption)).mono ?_;rintro e w2 ⟨rfl,hI,hB⟩;clear HI HB c0 c1 c3 f1 f3;have HI:=Aside0.mk hI;have HB:=Aside0.mk hB;clear hI hB;obtain ⟨c0,c1,c3,f1,f3⟩:=HI.out.cells) | (go_at_call 84;refine (put_calls _ _ _ _ _ _ _ _ _ _ (IsP.set3 HI.out _) (below_set HB.out hge)).mono ?_;rintro e w2 ⟨rfl,hI,hB⟩;clear HI HB c0 c1 c3 f1 f3;have HI:=Aside0.mk hI;have HB:=Aside0.mk hB;clear hI hB;obtain ⟨c0,c1,c3,f1,f3⟩:=HI.out.cells))
   first | go_end0 | ((try simp only [Exit.inBlock,Exit.then]);refine bodyPost_ret (results_none rfl _ _ _) rfl ?_)
   exact ⟨rfl,HI.out,hR,HB.out⟩
  | false =>
   cases hy:isF s p1 (⟨#[41]⟩:ByteArray) with
   | true =>
    obtain ⟨a2,ha2⟩:∃ a2:Int,p1 + ((⟨#[41]⟩:ByteArray).size:Int) = a2:=⟨_,rfl⟩
    have hle:=isF_le hy
    rw [ha2] at hle
    have hsz:((⟨#[41]⟩:ByteArray).size:Int) = 1:=rfl
    have hn:needF s p1 false = (a2,false):=by unfold needF;rw [if_neg (by decide),if_pos hy,ha2]
    rw [hn] at h
    clear hn
    have h:=Option.some.inj h
    obtain rfl:=congrArg Prod.fst h
    obtain rfl:=congrArg (fun z:PR => z.2.1) h
    obtain rfl:=congrArg (fun z:PR => z.2.2) h
    clear h
    go_enter Tryz.func81,Tryz.ntmps81
    go_wp2_with (first | (go_at_call 99;refine (is_no _ _ _ _ _ _ _ _ HI.out HB.out h0 h1 hs (by decide) (by assumption)).mono ?_;rintro e w2 ⟨rfl,hI,hB⟩;clear HI HB c0 c1 c3 f1 f3;have HI:=Aside0.mk hI;have HB:=Aside0.mk hB;clear hI hB;obtain ⟨c0,c1,c3,f1,f3⟩:=HI.out.cells) | (go_at_call 99;refine (is_yes _ _ _ _ _ _ _ _ _ HI.out HB.out h0 h1 hs (by decide) (by assumption) (by assumption)).mono ?_;rintro e w2 ⟨rfl,hI,hB⟩;clear HI HB c0 c1 c3 f1 f3;have HI:=Aside0.mk hI;have HB:=Aside0.mk hB;clear hI hB;obtain ⟨c0,c1,c3,f1,f3⟩:=HI.out.cells))
    go_quiet (fail)
    go_wp2_with (first | (go_at_call 65;refine (hl _ _ _ _ _ _ _ _ _ _ _ (IsP.drewN HI.out _) (pw_below_drewN HB.out _) hb0 hb1 hr).mono ?_;rintro e w2 ⟨rfl,hI,hR,hB⟩;clear HI HB c0 c1 c3 f1 f3;have HI:=Aside0.mk hI;have HB:=Aside0.mk hB;clear hI hB;obtain ⟨c0,c1,c3,f1,f3⟩:=HI.out.cells) | (go_at_call 99;refine (is_no _ _ _ _ _ _ _ _ HI.out HB.out hR.1 hR.2 hs (by decide) (by assumption)).mono ?_;rintro e w2 ⟨rfl,hI,hB⟩;clear HI HB c0 c1 c3 f1 f3;have HI:=Aside0.mk hI;have HB:=Aside0.mk hB;clear hI hB;obtain ⟨c0,c1,c3,f1,f3⟩:=HI.out.cells) | (go_at_call 99;refine (is_yes _ _ _ _ _ _ _ _ _ HI.out HB.out hR.1 hR.2 hs (by decide) (by assumption) (by assumption)).mono ?_;rintro e w2 ⟨rfl,hI,hB⟩;clear HI HB c0 c1 c3 f1 f3;have HI:=Aside0.mk hI;have HB:=Aside0.mk hB;clear hI hB;obtain ⟨c0,c1,c3,f1,f3⟩:=HI.out.cells) | (go_at_call 84;refine (put_calls _ _ _ _ _ _ _ _ _ _ (IsP.set3 HI.out _) (below_set HB.out hge)).mono ?_;rintro e w2 ⟨rfl,hI,hB⟩;clear HI HB c0 c1 c3 f1 f3;have HI:=Aside0.mk hI;have HB:=Aside0.mk hB;clear hI hB;obtain ⟨c0,c1,c3,f1,f3⟩:=HI.out.cells))
    first | go_end0 | ((try simp only [Exit.inBlock,Exit.then]);refine bodyPost_ret (results_none rfl _ _ _) rfl ?_)
    exact ⟨rfl,HI.out,⟨by have:=hR.1;omega,hle⟩,HB.out⟩
   | false =>
    have hn:needF s p1 false = (p1,true):=by unfold needF;rw [if_neg (by decide),if_neg (by rw [hy];decide)]
    rw [hn] at h
    clear hn
    have h:=Option.some.inj h
    obtain rfl:=congrArg Prod.fst h
    obtain rfl:=congrArg (fun z:PR => z.2.1) h
    obtain rfl:=congrArg (fun z:PR => z.2.2) h
    clear h
    go_enter Tryz.func81,Tryz.ntmps81
    go_wp2_with (first | (go_at_call 99;refine (is_no _ _ _ _ _ _ _ _ HI.out HB.out h0 h1 hs (by decide) (by assumption)).mono ?_;rintro e w2 ⟨rfl,hI,hB⟩;clear HI HB c0 c1 c3 f1 f3;have HI:=Aside0.mk hI;have HB:=Aside0.mk hB;clear hI hB;obtain ⟨c0,c1,c3,f1,f3⟩:=HI.out.cells) | (go_at_call 99;refine (is_yes _ _ _ _ _ _ _ _ _ HI.out HB.out h0 h1 hs (by decide) (by assumption) (by assumption)).mono ?_;rintro e w2 ⟨rfl,hI,hB⟩;clear HI HB c0 c1 c3 f1 f3;have HI:=Aside0.mk hI;have HB:=Aside0.mk hB;clear hI hB;obtain ⟨c0,c1,c3,f1,f3⟩:=HI.out.cells))
    go_quiet (fail)
    go_wp2_with (first | (go_at_call 65;refine (hl _ _ _ _ _ _ _ _ _ _ _ (IsP.drewN HI.out _) (pw_below_drewN HB.out _) hb0 hb1 hr).mono ?_;rintro e w2 ⟨rfl,hI,hR,hB⟩;clear HI HB c0 c1 c3 f1 f3;have HI:=Aside0.mk hI;have HB:=Aside0.mk hB;clear hI hB;obtain ⟨c0,c1,c3,f1,f3⟩:=HI.out.cells) | (go_at_call 99;refine (is_no _ _ _ _ _ _ _ _ HI.out HB.out hR.1 hR.2 hs (by decide) (by assumption)).mono ?_;rintro e w2 ⟨rfl,hI,hB⟩;clear HI HB c0 c1 c3 f1 f3;have HI:=Aside0.mk hI;have HB:=Aside0.mk hB;clear hI hB;obtain ⟨c0,c1,c3,f1,f3⟩:=HI.out.cells) | (go_at_call 99;refine (is_yes _ _ _ _ _ _ _ _ _ HI.out HB.out hR.1 hR.2 hs (by decide) (by assumption) (by assumption)).mono ?_;rintro e w2 ⟨rfl,hI,hB⟩;clear HI HB c0 c1 c3 f1 f3;have HI:=Aside0.mk hI;have HB:=Aside0.mk hB;clear hI hB;obtain ⟨c0,c1,c3,f1,f3⟩:=HI.out.cells) | (go_at_call 84;refine (put_calls _ _ _ _ _ _ _ _ _ _ (IsP.set3 HI.out _) (below_set HB.out hge)).mono ?_;rintro e w2 ⟨rfl,hI,hB⟩;clear HI HB c0 c1 c3 f1 f3;have HI:=Aside0.mk hI;have HB:=Aside0.mk hB;clear hI hB;obtain ⟨c0,c1,c3,f1,f3⟩:=HI.out.cells))
    first | go_end0 | ((try simp only [Exit.inBlock,Exit.then]);refine bodyPost_ret (results_none rfl _ _ _) rfl ?_)
    exact ⟨rfl,HI.out,hR,HB.out⟩
 ·have hkb:(bt s j == 104) = false:=beq_eq_false_iff_ne.mpr hk
  rw [if_neg hk] at h
  clear hk
  cases p3 with
  | true =>
   have hn:needF s p1 true = (p1,true):=by unfold needF;rw [if_pos rfl]
   rw [hn] at h
   clear hn
   have h:=Option.some.inj h
   obtain rfl:=congrArg Prod.fst h
   obtain rfl:=congrArg (fun z:PR => z.2.1) h
   obtain rfl:=congrArg (fun z:PR => z.2.2) h
   clear h
   go_enter Tryz.func81,Tryz.ntmps81
   go_wp2_with (first | (go_at_call 99;refine (is_no _ _ _ _ _ _ _ _ HI.out HB.out h0 h1 hs (by decide) (by assumption)).mono ?_;rintro e w2 ⟨rfl,hI,hB⟩;clear HI HB c0 c1 c3 f1 f3;have HI:=Aside0.mk hI;have HB:=Aside0.mk hB;clear hI hB;obtain ⟨c0,c1,c3,f1,f3⟩:=HI.out.cells) | (go_at_call 99;refine (is_yes _ _ _ _ _ _ _ _ _ HI.out HB.out h0 h1 hs (by decide) (by assumption) (by assumption)).mono ?_;rintro e w2 ⟨rfl,hI,hB⟩;clear HI HB c0 c1 c3 f1 f3;have HI:=Aside0.mk hI;have HB:=Aside0.mk hB;clear hI hB;obtain ⟨c0,c1,c3,f1,f3⟩:=HI.out.cells))
   go_quiet (fail)
   go_wp2_with (first | (go_at_call 65;refine (hl _ _ _ _ _ _ _ _ _ _ _ (IsP.drewN HI.out _) (pw_below_drewN HB.out _) hb0 hb1 hr).mono ?_;rintro e w2 ⟨rfl,hI,hR,hB⟩;clear HI HB c0 c1 c3 f1 f3;have HI:=Aside0.mk hI;have HB:=Aside0.mk hB;clear hI hB;obtain ⟨c0,c1,c3,f1,f3⟩:=HI.out.cells) | (go_at_call 99;refine (is_no _ _ _ _ _ _ _ _ HI.out HB.out hR.1 hR.2 hs (by decide) (by assumption)).mono ?_;rintro e w2 ⟨rfl,hI,hB⟩;clear HI HB c0 c1 c3 f1 f3;have HI:=Aside0.mk hI;have HB:=Aside0.mk hB;clear hI hB;obtain ⟨c0,c1,c3,f1,f3⟩:=HI.out.cells) | (go_at_call 99;refine (is_yes _ _ _ _ _ _ _ _ _ HI.out HB.out hR.1 hR.2 hs (by decide) (by assumption) (by assumption)).mono ?_;rintro e w2 ⟨rfl,hI,hB⟩;clear HI HB c0 c1 c3 f1 f3;have HI:=Aside0.mk hI;have HB:=Aside0.mk hB;clear hI hB;obtain ⟨c0,c1,c3,f1,f3⟩:=HI.out.cells) | (go_at_call 84;refine (put_calls _ _ _ _ _ _ _ _ _ _ (IsP.set3 HI.out _) (below_set HB.out hge)).mono ?_;rintro e w2 ⟨rfl,hI,hB⟩;clear HI HB c0 c1 c3 f1 f3;have HI:=Aside0.mk hI;have HB:=Aside0.mk hB;clear hI hB;obtain ⟨c0,c1,c3,f1,f3⟩:=HI.out.cells))
   first | go_end0 | ((try simp only [Exit.inBlock,Exit.then]);refine bodyPost_ret (results_none rfl _ _ _) rfl ?_)
   exact ⟨rfl,HI.out,hR,HB.out⟩
  | false =>
   cases hy:isF s p1 (⟨#[41]⟩:ByteArray) with
   | true =>
    obtain ⟨a2,ha2⟩:∃ a2:Int,p1 + ((⟨#[41]⟩:ByteArray).size:Int) = a2:=⟨_,rfl⟩
    have hle:=isF_le hy
    rw [ha2] at hle
    have hsz:((⟨#[41]⟩:ByteArray).size:Int) = 1:=rfl
    have hn:needF s p1 false = (a2,false):=by unfold needF;rw [if_neg (by decide),if_pos hy,ha2]
    rw [hn] at h
    clear hn
    have h:=Option.some.inj h
    obtain rfl:=congrArg Prod.fst h
    obtain rfl:=congrArg (fun z:PR => z.2.1) h
    obtain rfl:=congrArg (fun z:PR => z.2.2) h
    clear h
    go_enter Tryz.func81,Tryz.ntmps81
    go_wp2_with (first | (go_at_call 99;refine (is_no _ _ _ _ _ _ _ _ HI.out HB.out h0 h1 hs (by decide) (by assumption)).mono ?_;rintro e w2 ⟨rfl,hI,hB⟩;clear HI HB c0 c1 c3 f1 f3;have HI:=Aside0.mk hI;have HB:=Aside0.mk hB;clear hI hB;obtain ⟨c0,c1,c3,f1,f3⟩:=HI.out.cells) | (go_at_call 99;refine (is_yes _ _ _ _ _ _ _ _ _ HI.out HB.out h0 h1 hs (by decide) (by assumption) (by assumption)).mono ?_;rintro e w2 ⟨rfl,hI,hB⟩;clear HI HB c0 c1 c3 f1 f3;have HI:=Aside0.mk hI;have HB:=Aside0.mk hB;clear hI hB;obtain ⟨c0,c1,c3,f1,f3⟩:=HI.out.cells))
    go_quiet (fail)
    go_wp2_with (first | (go_at_call 65;refine (hl _ _ _ _ _ _ _ _ _ _ _ (IsP.drewN HI.out _) (pw_below_drewN HB.out _) hb0 hb1 hr).mono ?_;rintro e w2 ⟨rfl,hI,hR,hB⟩;clear HI HB c0 c1 c3 f1 f3;have HI:=Aside0.mk hI;have HB:=Aside0.mk hB;clear hI hB;obtain ⟨c0,c1,c3,f1,f3⟩:=HI.out.cells) | (go_at_call 99;refine (is_no _ _ _ _ _ _ _ _ HI.out HB.out hR.1 hR.2 hs (by decide) (by assumption)).mono ?_;rintro e w2 ⟨rfl,hI,hB⟩;clear HI HB c0 c1 c3 f1 f3;have HI:=Aside0.mk hI;have HB:=Aside0.mk hB;clear hI hB;obtain ⟨c0,c1,c3,f1,f3⟩:=HI.out.cells) | (go_at_call 99;refine (is_yes _ _ _ _ _ _ _ _ _ HI.out HB.out hR.1 hR.2 hs (by decide) (by assumption) (by assumption)).mono ?_;rintro e w2 ⟨rfl,hI,hB⟩;clear HI HB c0 c1 c3 f1 f3;have HI:=Aside0.mk hI;have HB:=Aside0.mk hB;clear hI hB;obtain ⟨c0,c1,c3,f1,f3⟩:=HI.out.cells) | (go_at_call 84;refine (put_calls _ _ _ _ _ _ _ _ _ _ (IsP.set3 HI.out _) (below_set HB.out hge)).mono ?_;rintro e w2 ⟨rfl,hI,hB⟩;clear HI HB c0 c1 c3 f1 f3;have HI:=Aside0.mk hI;have HB:=Aside0.mk hB;clear hI hB;obtain ⟨c0,c1,c3,f1,f3⟩:=HI.out.cells))
    first | go_end0 | ((try simp only [Exit.inBlock,Exit.then]);refine bodyPost_ret (results_none rfl _ _ _) rfl ?_)
    exact ⟨rfl,HI.out,⟨by have:=hR.1;omega,hle⟩,HB.out⟩
   | false =>
    have hn:needF s p1 false = (p1,true):=by unfold needF;rw [if_neg (by decide),if_neg (by rw [hy];decide)]
    rw [hn] at h
    clear hn
    have h:=Option.some.inj h
    obtain rfl:=congrArg Prod.fst h
    obtain rfl:=congrArg (fun z:PR => z.2.1) h
    obtain rfl:=congrArg (fun z:PR => z.2.2) h
    clear h
    go_enter Tryz.func81,Tryz.ntmps81
    go_wp2_with (first | (go_at_call 99;refine (is_no _ _ _ _ _ _ _ _ HI.out HB.out h0 h1 hs (by decide) (by assumption)).mono ?_;rintro e w2 ⟨rfl,hI,hB⟩;clear HI HB c0 c1 c3 f1 f3;have HI:=Aside0.mk hI;have HB:=Aside0.mk hB;clear hI hB;obtain ⟨c0,c1,c3,f1,f3⟩:=HI.out.cells) | (go_at_call 99;refine (is_yes _ _ _ _ _ _ _ _ _ HI.out HB.out h0 h1 hs (by decide) (by assumption) (by assumption)).mono ?_;rintro e w2 ⟨rfl,hI,hB⟩;clear HI HB c0 c1 c3 f1 f3;have HI:=Aside0.mk hI;have HB:=Aside0.mk hB;clear hI hB;obtain ⟨c0,c1,c3,f1,f3⟩:=HI.out.cells))
    go_quiet (fail)
    go_wp2_with (first | (go_at_call 65;refine (hl _ _ _ _ _ _ _ _ _ _ _ (IsP.drewN HI.out _) (pw_below_drewN HB.out _) hb0 hb1 hr).mono ?_;rintro e w2 ⟨rfl,hI,hR,hB⟩;clear HI HB c0 c1 c3 f1 f3;have HI:=Aside0.mk hI;have HB:=Aside0.mk hB;clear hI hB;obtain ⟨c0,c1,c3,f1,f3⟩:=HI.out.cells) | (go_at_call 99;refine (is_no _ _ _ _ _ _ _ _ HI.out HB.out hR.1 hR.2 hs (by decide) (by assumption)).mono ?_;rintro e w2 ⟨rfl,hI,hB⟩;clear HI HB c0 c1 c3 f1 f3;have HI:=Aside0.mk hI;have HB:=Aside0.mk hB;clear hI hB;obtain ⟨c0,c1,c3,f1,f3⟩:=HI.out.cells) | (go_at_call 99;refine (is_yes _ _ _ _ _ _ _ _ _ HI.out HB.out hR.1 hR.2 hs (by decide) (by assumption) (by assumption)).mono ?_;rintro e w2 ⟨rfl,hI,hB⟩;clear HI HB c0 c1 c3 f1 f3;have HI:=Aside0.mk hI;have HB:=Aside0.mk hB;clear hI hB;obtain ⟨c0,c1,c3,f1,f3⟩:=HI.out.cells) | (go_at_call 84;refine (put_calls _ _ _ _ _ _ _ _ _ _ (IsP.set3 HI.out _) (below_set HB.out hge)).mono ?_;rintro e w2 ⟨rfl,hI,hB⟩;clear HI HB c0 c1 c3 f1 f3;have HI:=Aside0.mk hI;have HB:=Aside0.mk hB;clear hI hB;obtain ⟨c0,c1,c3,f1,f3⟩:=HI.out.cells))
    first | go_end0 | ((try simp only [Exit.inBlock,Exit.then]);refine bodyPost_ret (results_none rfl _ _ _) rfl ?_)
    exact ⟨rfl,HI.out,hR,HB.out⟩
set_option maxHeartbeats 8000000 in
set_option maxRecDepth 100000 in
theorem value_low {lev:Int → Int → Int → List EN → Bool → Option PR} {val:Int → Int → List EN → Bool → Option PR} {s:ByteArray} (hs:s.size ≤ 1000000) (hl:LevC lev s) (hv:ValC val s) (k:Nat) (deep:Int) (g:Nat) (a:Int) (o:List EN) (r1:Int) (r2:List EN) (r3:Bool) (w0 w:World) (hI:IsP w0 w g s a o false) (hB:Below w0.heap.size w0 w) (h0:0 ≤ a) (h1:a ≤ (s.size:Int)) (cd:decide ((30:Int) < deep) = false) (n0:isF s a (⟨#[45]⟩:ByteArray) = false) (n1:isF s a (⟨#[126]⟩:ByteArray) = false) (n2:isF s a (⟨#[104,105,103,104,40]⟩:ByteArray) = false) (y:isF s a (⟨#[108,111,119,40]⟩:ByteArray) = true) (a1:Int) (ha:a + ((⟨#[108,111,119,40]⟩:ByteArray).size:Int) = a1) (h:hlG lev s deep a1 o = some (r1,r2,r3)) :
  Calls Tryz.prog 81 #[.pointer (some ⟨g,0,none⟩),.int .i64 deep] w fun e w' => e = .returned (.tuple #[]) ∧ IsP w0 w' g s r1 r2 r3 ∧ (0 ≤ r1 ∧ r1 ≤ (s.size:Int)) ∧ Below w0.heap.size w0 w':=by
 have hge:=hI.ge
 have HI:=Aside0.mk hI
 have HB:=Aside0.mk hB
 clear hI hB
 obtain ⟨c0,c1,c3,f1,f3⟩:=HI.out.cells
 unfold hlG at h
 have hb1:a1 ≤ (s.size:Int):=ha ▸ isF_le y
 have hb0:0 ≤ a1:=by omega
 cases hr:lev 1 (wrap64 (deep + 1)) a1 o false with
 | none => rw [hr] at h;cases h
 | some p =>
 obtain ⟨p1,p2,p3⟩:=p
 rw [hr,Option.bind_some] at h
 dsimp only at h
 have hb2:2 ≤ a1:=by have:((⟨#[108,111,119,40]⟩:ByteArray).size:Int) = 4:=rfl;omega
 obtain ⟨j,hj⟩:∃ j_:Int,wrap64 (a1 - 2) = j_:=⟨_,rfl⟩
 have hjw:IntKind.i64.wrap (a1 - 2) = j:=(i64_w _).trans hj
 have hj2:j = a1 - 2:=by rw [← hj];unfold wrap64;omega
 have q1:=eq_true (show 0 ≤ j by omega)
 have q2:=eq_true (show j < (s.size:Int) by omega)
 have hx:=bt_at s j
 rw [hj] at h
 clear hj2 hb2
 by_cases hk:bt s j = 104
 ·have hkb:(bt s j == 104) = true:=beq_iff_eq.mpr hk
  rw [if_pos hk] at h
  clear hk
  cases p3 with
  | true =>
   have hn:needF s p1 true = (p1,true):=by unfold needF;rw [if_pos rfl]
   rw [hn] at h
   clear hn
   have h:=Option.some.inj h
   obtain rfl:=congrArg Prod.fst h
   obtain rfl:=congrArg (fun z:PR => z.2.1) h
   obtain rfl:=congrArg (fun z:PR => z.2.2) h
   clear h
   go_enter Tryz.func81,Tryz.ntmps81
   go_wp2_with (first | (go_at_call 99;refine (is_no _ _ _ _ _ _ _ _ HI.out HB.out h0 h1 hs (by decide) (by assumption)).mono ?_;rintro e w2 ⟨rfl,hI,hB⟩;clear HI HB c0 c1 c3 f1 f3;have HI:=Aside0.mk hI;have HB:=Aside0.mk hB;clear hI hB;obtain ⟨c0,c1,c3,f1,f3⟩:=HI.out.cells) | (go_at_call 99;refine (is_yes _ _ _ _ _ _ _ _ _ HI.out HB.out h0 h1 hs (by decide) (by assumption) (by assumption)).mono ?_;rintro e w2 ⟨rfl,hI,hB⟩;clear HI HB c0 c1 c3 f1 f3;have HI:=Aside0.mk hI;have HB:=Aside0.mk hB;clear hI hB;obtain ⟨c0,c1,c3,f1,f3⟩:=HI.out.cells))
   go_quiet (fail)
   go_wp2_with (first | (go_at_call 65;refine (hl _ _ _ _ _ _ _ _ _ _ _ (IsP.drewN HI.out _) (pw_below_drewN HB.out _) hb0 hb1 hr).mono ?_;rintro e w2 ⟨rfl,hI,hR,hB⟩;clear HI HB c0 c1 c3 f1 f3;have HI:=Aside0.mk hI;have HB:=Aside0.mk hB;clear hI hB;obtain ⟨c0,c1,c3,f1,f3⟩:=HI.out.cells) | (go_at_call 99;refine (is_no _ _ _ _ _ _ _ _ HI.out HB.out hR.1 hR.2 hs (by decide) (by assumption)).mono ?_;rintro e w2 ⟨rfl,hI,hB⟩;clear HI HB c0 c1 c3 f1 f3;have HI:=Aside0.mk hI;have HB:=Aside0.mk hB;clear hI hB;obtain ⟨c0,c1,c3,f1,f3⟩:=HI.out.cells) | (go_at_call 99;refine (is_yes _ _ _ _ _ _ _ _ _ HI.out HB.out hR.1 hR.2 hs (by decide) (by assumption) (by assumption)).mono ?_;rintro e w2 ⟨rfl,hI,hB⟩;clear HI HB c0 c1 c3 f1 f3;have HI:=Aside0.mk hI;have HB:=Aside0.mk hB;clear hI hB;obtain ⟨c0,c1,c3,f1,f3⟩:=HI.out.cells) | (go_at_call 84;refine (put_calls _ _ _ _ _ _ _ _ _ _ (IsP.set3 HI.out _) (below_set HB.out hge)).mono ?_;rintro e w2 ⟨rfl,hI,hB⟩;clear HI HB c0 c1 c3 f1 f3;have HI:=Aside0.mk hI;have HB:=Aside0.mk hB;clear hI hB;obtain ⟨c0,c1,c3,f1,f3⟩:=HI.out.cells))
   first | go_end0 | ((try simp only [Exit.inBlock,Exit.then]);refine bodyPost_ret (results_none rfl _ _ _) rfl ?_)
   exact ⟨rfl,HI.out,hR,HB.out⟩
  | false =>
   cases hy:isF s p1 (⟨#[41]⟩:ByteArray) with
   | true =>
    obtain ⟨a2,ha2⟩:∃ a2:Int,p1 + ((⟨#[41]⟩:ByteArray).size:Int) = a2:=⟨_,rfl⟩
    have hle:=isF_le hy
    rw [ha2] at hle
    have hsz:((⟨#[41]⟩:ByteArray).size:Int) = 1:=rfl
    have hn:needF s p1 false = (a2,false):=by unfold needF;rw [if_neg (by decide),if_pos hy,ha2]
    rw [hn] at h
    clear hn
    have h:=Option.some.inj h
    obtain rfl:=congrArg Prod.fst h
    obtain rfl:=congrArg (fun z:PR => z.2.1) h
    obtain rfl:=congrArg (fun z:PR => z.2.2) h
    clear h
    go_enter Tryz.func81,Tryz.ntmps81
    go_wp2_with (first | (go_at_call 99;refine (is_no _ _ _ _ _ _ _ _ HI.out HB.out h0 h1 hs (by decide) (by assumption)).mono ?_;rintro e w2 ⟨rfl,hI,hB⟩;clear HI HB c0 c1 c3 f1 f3;have HI:=Aside0.mk hI;have HB:=Aside0.mk hB;clear hI hB;obtain ⟨c0,c1,c3,f1,f3⟩:=HI.out.cells) | (go_at_call 99;refine (is_yes _ _ _ _ _ _ _ _ _ HI.out HB.out h0 h1 hs (by decide) (by assumption) (by assumption)).mono ?_;rintro e w2 ⟨rfl,hI,hB⟩;clear HI HB c0 c1 c3 f1 f3;have HI:=Aside0.mk hI;have HB:=Aside0.mk hB;clear hI hB;obtain ⟨c0,c1,c3,f1,f3⟩:=HI.out.cells))
    go_quiet (fail)
    go_wp2_with (first | (go_at_call 65;refine (hl _ _ _ _ _ _ _ _ _ _ _ (IsP.drewN HI.out _) (pw_below_drewN HB.out _) hb0 hb1 hr).mono ?_;rintro e w2 ⟨rfl,hI,hR,hB⟩;clear HI HB c0 c1 c3 f1 f3;have HI:=Aside0.mk hI;have HB:=Aside0.mk hB;clear hI hB;obtain ⟨c0,c1,c3,f1,f3⟩:=HI.out.cells) | (go_at_call 99;refine (is_no _ _ _ _ _ _ _ _ HI.out HB.out hR.1 hR.2 hs (by decide) (by assumption)).mono ?_;rintro e w2 ⟨rfl,hI,hB⟩;clear HI HB c0 c1 c3 f1 f3;have HI:=Aside0.mk hI;have HB:=Aside0.mk hB;clear hI hB;obtain ⟨c0,c1,c3,f1,f3⟩:=HI.out.cells) | (go_at_call 99;refine (is_yes _ _ _ _ _ _ _ _ _ HI.out HB.out hR.1 hR.2 hs (by decide) (by assumption) (by assumption)).mono ?_;rintro e w2 ⟨rfl,hI,hB⟩;clear HI HB c0 c1 c3 f1 f3;have HI:=Aside0.mk hI;have HB:=Aside0.mk hB;clear hI hB;obtain ⟨c0,c1,c3,f1,f3⟩:=HI.out.cells) | (go_at_call 84;refine (put_calls _ _ _ _ _ _ _ _ _ _ (IsP.set3 HI.out _) (below_set HB.out hge)).mono ?_;rintro e w2 ⟨rfl,hI,hB⟩;clear HI HB c0 c1 c3 f1 f3;have HI:=Aside0.mk hI;have HB:=Aside0.mk hB;clear hI hB;obtain ⟨c0,c1,c3,f1,f3⟩:=HI.out.cells))
    first | go_end0 | ((try simp only [Exit.inBlock,Exit.then]);refine bodyPost_ret (results_none rfl _ _ _) rfl ?_)
    exact ⟨rfl,HI.out,⟨by have:=hR.1;omega,hle⟩,HB.out⟩
   | false =>
    have hn:needF s p1 false = (p1,true):=by unfold needF;rw [if_neg (by decide),if_neg (by rw [hy];decide)]
    rw [hn] at h
    clear hn
    have h:=Option.some.inj h
    obtain rfl:=congrArg Prod.fst h
    obtain rfl:=congrArg (fun z:PR => z.2.1) h
    obtain rfl:=congrArg (fun z:PR => z.2.2) h
    clear h
    go_enter Tryz.func81,Tryz.ntmps81
    go_wp2_with (first | (go_at_call 99;refine (is_no _ _ _ _ _ _ _ _ HI.out HB.out h0 h1 hs (by decide) (by assumption)).mono ?_;rintro e w2 ⟨rfl,hI,hB⟩;clear HI HB c0 c1 c3 f1 f3;have HI:=Aside0.mk hI;have HB:=Aside0.mk hB;clear hI hB;obtain ⟨c0,c1,c3,f1,f3⟩:=HI.out.cells) | (go_at_call 99;refine (is_yes _ _ _ _ _ _ _ _ _ HI.out HB.out h0 h1 hs (by decide) (by assumption) (by assumption)).mono ?_;rintro e w2 ⟨rfl,hI,hB⟩;clear HI HB c0 c1 c3 f1 f3;have HI:=Aside0.mk hI;have HB:=Aside0.mk hB;clear hI hB;obtain ⟨c0,c1,c3,f1,f3⟩:=HI.out.cells))
    go_quiet (fail)
    go_wp2_with (first | (go_at_call 65;refine (hl _ _ _ _ _ _ _ _ _ _ _ (IsP.drewN HI.out _) (pw_below_drewN HB.out _) hb0 hb1 hr).mono ?_;rintro e w2 ⟨rfl,hI,hR,hB⟩;clear HI HB c0 c1 c3 f1 f3;have HI:=Aside0.mk hI;have HB:=Aside0.mk hB;clear hI hB;obtain ⟨c0,c1,c3,f1,f3⟩:=HI.out.cells) | (go_at_call 99;refine (is_no _ _ _ _ _ _ _ _ HI.out HB.out hR.1 hR.2 hs (by decide) (by assumption)).mono ?_;rintro e w2 ⟨rfl,hI,hB⟩;clear HI HB c0 c1 c3 f1 f3;have HI:=Aside0.mk hI;have HB:=Aside0.mk hB;clear hI hB;obtain ⟨c0,c1,c3,f1,f3⟩:=HI.out.cells) | (go_at_call 99;refine (is_yes _ _ _ _ _ _ _ _ _ HI.out HB.out hR.1 hR.2 hs (by decide) (by assumption) (by assumption)).mono ?_;rintro e w2 ⟨rfl,hI,hB⟩;clear HI HB c0 c1 c3 f1 f3;have HI:=Aside0.mk hI;have HB:=Aside0.mk hB;clear hI hB;obtain ⟨c0,c1,c3,f1,f3⟩:=HI.out.cells) | (go_at_call 84;refine (put_calls _ _ _ _ _ _ _ _ _ _ (IsP.set3 HI.out _) (below_set HB.out hge)).mono ?_;rintro e w2 ⟨rfl,hI,hB⟩;clear HI HB c0 c1 c3 f1 f3;have HI:=Aside0.mk hI;have HB:=Aside0.mk hB;clear hI hB;obtain ⟨c0,c1,c3,f1,f3⟩:=HI.out.cells))
    first | go_end0 | ((try simp only [Exit.inBlock,Exit.then]);refine bodyPost_ret (results_none rfl _ _ _) rfl ?_)
    exact ⟨rfl,HI.out,hR,HB.out⟩
 ·have hkb:(bt s j == 104) = false:=beq_eq_false_iff_ne.mpr hk
  rw [if_neg hk] at h
  clear hk
  cases p3 with
  | true =>
   have hn:needF s p1 true = (p1,true):=by unfold needF;rw [if_pos rfl]
   rw [hn] at h
   clear hn
   have h:=Option.some.inj h
   obtain rfl:=congrArg Prod.fst h
   obtain rfl:=congrArg (fun z:PR => z.2.1) h
   obtain rfl:=congrArg (fun z:PR => z.2.2) h
   clear h
   go_enter Tryz.func81,Tryz.ntmps81
   go_wp2_with (first | (go_at_call 99;refine (is_no _ _ _ _ _ _ _ _ HI.out HB.out h0 h1 hs (by decide) (by assumption)).mono ?_;rintro e w2 ⟨rfl,hI,hB⟩;clear HI HB c0 c1 c3 f1 f3;have HI:=Aside0.mk hI;have HB:=Aside0.mk hB;clear hI hB;obtain ⟨c0,c1,c3,f1,f3⟩:=HI.out.cells) | (go_at_call 99;refine (is_yes _ _ _ _ _ _ _ _ _ HI.out HB.out h0 h1 hs (by decide) (by assumption) (by assumption)).mono ?_;rintro e w2 ⟨rfl,hI,hB⟩;clear HI HB c0 c1 c3 f1 f3;have HI:=Aside0.mk hI;have HB:=Aside0.mk hB;clear hI hB;obtain ⟨c0,c1,c3,f1,f3⟩:=HI.out.cells))
   go_quiet (fail)
   go_wp2_with (first | (go_at_call 65;refine (hl _ _ _ _ _ _ _ _ _ _ _ (IsP.drewN HI.out _) (pw_below_drewN HB.out _) hb0 hb1 hr).mono ?_;rintro e w2 ⟨rfl,hI,hR,hB⟩;clear HI HB c0 c1 c3 f1 f3;have HI:=Aside0.mk hI;have HB:=Aside0.mk hB;clear hI hB;obtain ⟨c0,c1,c3,f1,f3⟩:=HI.out.cells) | (go_at_call 99;refine (is_no _ _ _ _ _ _ _ _ HI.out HB.out hR.1 hR.2 hs (by decide) (by assumption)).mono ?_;rintro e w2 ⟨rfl,hI,hB⟩;clear HI HB c0 c1 c3 f1 f3;have HI:=Aside0.mk hI;have HB:=Aside0.mk hB;clear hI hB;obtain ⟨c0,c1,c3,f1,f3⟩:=HI.out.cells) | (go_at_call 99;refine (is_yes _ _ _ _ _ _ _ _ _ HI.out HB.out hR.1 hR.2 hs (by decide) (by assumption) (by assumption)).mono ?_;rintro e w2 ⟨rfl,hI,hB⟩;clear HI HB c0 c1 c3 f1 f3;have HI:=Aside0.mk hI;have HB:=Aside0.mk hB;clear hI hB;obtain ⟨c0,c1,c3,f1,f3⟩:=HI.out.cells) | (go_at_call 84;refine (put_calls _ _ _ _ _ _ _ _ _ _ (IsP.set3 HI.out _) (below_set HB.out hge)).mono ?_;rintro e w2 ⟨rfl,hI,hB⟩;clear HI HB c0 c1 c3 f1 f3;have HI:=Aside0.mk hI;have HB:=Aside0.mk hB;clear hI hB;obtain ⟨c0,c1,c3,f1,f3⟩:=HI.out.cells))
   first | go_end0 | ((try simp only [Exit.inBlock,Exit.then]);refine bodyPost_ret (results_none rfl _ _ _) rfl ?_)
   exact ⟨rfl,HI.out,hR,HB.out⟩
  | false =>
   cases hy:isF s p1 (⟨#[41]⟩:ByteArray) with
   | true =>
    obtain ⟨a2,ha2⟩:∃ a2:Int,p1 + ((⟨#[41]⟩:ByteArray).size:Int) = a2:=⟨_,rfl⟩
    have hle:=isF_le hy
    rw [ha2] at hle
    have hsz:((⟨#[41]⟩:ByteArray).size:Int) = 1:=rfl
    have hn:needF s p1 false = (a2,false):=by unfold needF;rw [if_neg (by decide),if_pos hy,ha2]
    rw [hn] at h
    clear hn
    have h:=Option.some.inj h
    obtain rfl:=congrArg Prod.fst h
    obtain rfl:=congrArg (fun z:PR => z.2.1) h
    obtain rfl:=congrArg (fun z:PR => z.2.2) h
    clear h
    go_enter Tryz.func81,Tryz.ntmps81
    go_wp2_with (first | (go_at_call 99;refine (is_no _ _ _ _ _ _ _ _ HI.out HB.out h0 h1 hs (by decide) (by assumption)).mono ?_;rintro e w2 ⟨rfl,hI,hB⟩;clear HI HB c0 c1 c3 f1 f3;have HI:=Aside0.mk hI;have HB:=Aside0.mk hB;clear hI hB;obtain ⟨c0,c1,c3,f1,f3⟩:=HI.out.cells) | (go_at_call 99;refine (is_yes _ _ _ _ _ _ _ _ _ HI.out HB.out h0 h1 hs (by decide) (by assumption) (by assumption)).mono ?_;rintro e w2 ⟨rfl,hI,hB⟩;clear HI HB c0 c1 c3 f1 f3;have HI:=Aside0.mk hI;have HB:=Aside0.mk hB;clear hI hB;obtain ⟨c0,c1,c3,f1,f3⟩:=HI.out.cells))
    go_quiet (fail)
    go_wp2_with (first | (go_at_call 65;refine (hl _ _ _ _ _ _ _ _ _ _ _ (IsP.drewN HI.out _) (pw_below_drewN HB.out _) hb0 hb1 hr).mono ?_;rintro e w2 ⟨rfl,hI,hR,hB⟩;clear HI HB c0 c1 c3 f1 f3;have HI:=Aside0.mk hI;have HB:=Aside0.mk hB;clear hI hB;obtain ⟨c0,c1,c3,f1,f3⟩:=HI.out.cells) | (go_at_call 99;refine (is_no _ _ _ _ _ _ _ _ HI.out HB.out hR.1 hR.2 hs (by decide) (by assumption)).mono ?_;rintro e w2 ⟨rfl,hI,hB⟩;clear HI HB c0 c1 c3 f1 f3;have HI:=Aside0.mk hI;have HB:=Aside0.mk hB;clear hI hB;obtain ⟨c0,c1,c3,f1,f3⟩:=HI.out.cells) | (go_at_call 99;refine (is_yes _ _ _ _ _ _ _ _ _ HI.out HB.out hR.1 hR.2 hs (by decide) (by assumption) (by assumption)).mono ?_;rintro e w2 ⟨rfl,hI,hB⟩;clear HI HB c0 c1 c3 f1 f3;have HI:=Aside0.mk hI;have HB:=Aside0.mk hB;clear hI hB;obtain ⟨c0,c1,c3,f1,f3⟩:=HI.out.cells) | (go_at_call 84;refine (put_calls _ _ _ _ _ _ _ _ _ _ (IsP.set3 HI.out _) (below_set HB.out hge)).mono ?_;rintro e w2 ⟨rfl,hI,hB⟩;clear HI HB c0 c1 c3 f1 f3;have HI:=Aside0.mk hI;have HB:=Aside0.mk hB;clear hI hB;obtain ⟨c0,c1,c3,f1,f3⟩:=HI.out.cells))
    first | go_end0 | ((try simp only [Exit.inBlock,Exit.then]);refine bodyPost_ret (results_none rfl _ _ _) rfl ?_)
    exact ⟨rfl,HI.out,⟨by have:=hR.1;omega,hle⟩,HB.out⟩
   | false =>
    have hn:needF s p1 false = (p1,true):=by unfold needF;rw [if_neg (by decide),if_neg (by rw [hy];decide)]
    rw [hn] at h
    clear hn
    have h:=Option.some.inj h
    obtain rfl:=congrArg Prod.fst h
    obtain rfl:=congrArg (fun z:PR => z.2.1) h
    obtain rfl:=congrArg (fun z:PR => z.2.2) h
    clear h
    go_enter Tryz.func81,Tryz.ntmps81
    go_wp2_with (first | (go_at_call 99;refine (is_no _ _ _ _ _ _ _ _ HI.out HB.out h0 h1 hs (by decide) (by assumption)).mono ?_;rintro e w2 ⟨rfl,hI,hB⟩;clear HI HB c0 c1 c3 f1 f3;have HI:=Aside0.mk hI;have HB:=Aside0.mk hB;clear hI hB;obtain ⟨c0,c1,c3,f1,f3⟩:=HI.out.cells) | (go_at_call 99;refine (is_yes _ _ _ _ _ _ _ _ _ HI.out HB.out h0 h1 hs (by decide) (by assumption) (by assumption)).mono ?_;rintro e w2 ⟨rfl,hI,hB⟩;clear HI HB c0 c1 c3 f1 f3;have HI:=Aside0.mk hI;have HB:=Aside0.mk hB;clear hI hB;obtain ⟨c0,c1,c3,f1,f3⟩:=HI.out.cells))
    go_quiet (fail)
    go_wp2_with (first | (go_at_call 65;refine (hl _ _ _ _ _ _ _ _ _ _ _ (IsP.drewN HI.out _) (pw_below_drewN HB.out _) hb0 hb1 hr).mono ?_;rintro e w2 ⟨rfl,hI,hR,hB⟩;clear HI HB c0 c1 c3 f1 f3;have HI:=Aside0.mk hI;have HB:=Aside0.mk hB;clear hI hB;obtain ⟨c0,c1,c3,f1,f3⟩:=HI.out.cells) | (go_at_call 99;refine (is_no _ _ _ _ _ _ _ _ HI.out HB.out hR.1 hR.2 hs (by decide) (by assumption)).mono ?_;rintro e w2 ⟨rfl,hI,hB⟩;clear HI HB c0 c1 c3 f1 f3;have HI:=Aside0.mk hI;have HB:=Aside0.mk hB;clear hI hB;obtain ⟨c0,c1,c3,f1,f3⟩:=HI.out.cells) | (go_at_call 99;refine (is_yes _ _ _ _ _ _ _ _ _ HI.out HB.out hR.1 hR.2 hs (by decide) (by assumption) (by assumption)).mono ?_;rintro e w2 ⟨rfl,hI,hB⟩;clear HI HB c0 c1 c3 f1 f3;have HI:=Aside0.mk hI;have HB:=Aside0.mk hB;clear hI hB;obtain ⟨c0,c1,c3,f1,f3⟩:=HI.out.cells) | (go_at_call 84;refine (put_calls _ _ _ _ _ _ _ _ _ _ (IsP.set3 HI.out _) (below_set HB.out hge)).mono ?_;rintro e w2 ⟨rfl,hI,hB⟩;clear HI HB c0 c1 c3 f1 f3;have HI:=Aside0.mk hI;have HB:=Aside0.mk hB;clear hI hB;obtain ⟨c0,c1,c3,f1,f3⟩:=HI.out.cells))
    first | go_end0 | ((try simp only [Exit.inBlock,Exit.then]);refine bodyPost_ret (results_none rfl _ _ _) rfl ?_)
    exact ⟨rfl,HI.out,hR,HB.out⟩
set_option maxHeartbeats 8000000 in
set_option maxRecDepth 100000 in
theorem value_bank {lev:Int → Int → Int → List EN → Bool → Option PR} {val:Int → Int → List EN → Bool → Option PR} {s:ByteArray} (hs:s.size ≤ 1000000) (hl:LevC lev s) (hv:ValC val s) (k:Nat) (deep:Int) (g:Nat) (a:Int) (o:List EN) (r1:Int) (r2:List EN) (r3:Bool) (w0 w:World) (hI:IsP w0 w g s a o false) (hB:Below w0.heap.size w0 w) (h0:0 ≤ a) (h1:a ≤ (s.size:Int)) (cd:decide ((30:Int) < deep) = false) (n0:isF s a (⟨#[45]⟩:ByteArray) = false) (n1:isF s a (⟨#[126]⟩:ByteArray) = false) (n2:isF s a (⟨#[104,105,103,104,40]⟩:ByteArray) = false) (n3:isF s a (⟨#[108,111,119,40]⟩:ByteArray) = false) (y:isF s a (⟨#[98,97,110,107,40]⟩:ByteArray) = true) (a1:Int) (ha:a + ((⟨#[98,97,110,107,40]⟩:ByteArray).size:Int) = a1) (h:bankG k s a1 o = some (r1,r2,r3)) :
  Calls Tryz.prog 81 #[.pointer (some ⟨g,0,none⟩),.int .i64 deep] w fun e w' => e = .returned (.tuple #[]) ∧ IsP w0 w' g s r1 r2 r3 ∧ (0 ≤ r1 ∧ r1 ≤ (s.size:Int)) ∧ Below w0.heap.size w0 w':=by
 have hge:=hI.ge
 have HI:=Aside0.mk hI
 have HB:=Aside0.mk hB
 clear hI hB
 obtain ⟨c0,c1,c3,f1,f3⟩:=HI.out.cells
 unfold bankG at h
 have hb1:a1 ≤ (s.size:Int):=ha ▸ isF_le y
 have hb0:0 ≤ a1:=by omega
 cases hw:wordE k s a1 with
 | none => rw [hw] at h;cases h
 | some e =>
 rw [hw,Option.bind_some] at h
 cases hn:spec_NameOk.f k (s.extract a1.toNat e.toNat) with
 | none => rw [hn] at h;cases h
 | some t =>
 rw [hn,Option.bind_some] at h
 cases t with
 | false =>
  rw [if_neg (by decide)] at h
  have h:=Option.some.inj h
  obtain rfl:=congrArg Prod.fst h
  obtain rfl:=congrArg (fun z:PR => z.2.1) h
  obtain rfl:=congrArg (fun z:PR => z.2.2) h
  clear h
  go_enter Tryz.func81,Tryz.ntmps81
  go_wp2_with (first | (go_at_call 99;refine (is_no _ _ _ _ _ _ _ _ HI.out HB.out h0 h1 hs (by decide) (by assumption)).mono ?_;rintro e w2 ⟨rfl,hI,hB⟩;clear HI HB c0 c1 c3 f1 f3;have HI:=Aside0.mk hI;have HB:=Aside0.mk hB;clear hI hB;obtain ⟨c0,c1,c3,f1,f3⟩:=HI.out.cells) | (go_at_call 99;refine (is_yes _ _ _ _ _ _ _ _ _ HI.out HB.out h0 h1 hs (by decide) (by assumption) (by assumption)).mono ?_;rintro e w2 ⟨rfl,hI,hB⟩;clear HI HB c0 c1 c3 f1 f3;have HI:=Aside0.mk hI;have HB:=Aside0.mk hB;clear hI hB;obtain ⟨c0,c1,c3,f1,f3⟩:=HI.out.cells) | (go_at_call 100;refine (word_calls k _ _ _ _ _ _ _ _ HI.out HB.out hb0 hb1 hs hw).mono ?_;rintro e w2 ⟨rfl,hI,hE,hB⟩;clear HI HB c0 c1 c3 f1 f3;have HI:=Aside0.mk hI;have HB:=Aside0.mk hB;clear hI hB;obtain ⟨c0,c1,c3,f1,f3⟩:=HI.out.cells) | (go_at_call 41;refine (spec_NameOk.calls k _ _ _ hn).mono ?_;rintro e w2 ⟨rfl,nd,hnd⟩;have hI:=IsP.drewN HI.out nd;rw [← hnd] at hI;have hB:=pw_below_drewN HB.out nd;rw [← hnd] at hB;clear hnd;clear HI HB c0 c1 c3 f1 f3;have HI:=Aside0.mk hI;have HB:=Aside0.mk hB;clear hI hB;obtain ⟨c0,c1,c3,f1,f3⟩:=HI.out.cells) | (go_at_call 99;refine (is_no _ _ _ _ _ _ _ _ HI.out HB.out (Int.le_trans hb0 hE.1) hE.2 hs (by decide) (by assumption)).mono ?_;rintro e w2 ⟨rfl,hI,hB⟩;clear HI HB c0 c1 c3 f1 f3;have HI:=Aside0.mk hI;have HB:=Aside0.mk hB;clear hI hB;obtain ⟨c0,c1,c3,f1,f3⟩:=HI.out.cells) | (go_at_call 99;refine (is_yes _ _ _ _ _ _ _ _ _ HI.out HB.out (Int.le_trans hb0 hE.1) hE.2 hs (by decide) (by assumption) (by assumption)).mono ?_;rintro e w2 ⟨rfl,hI,hB⟩;clear HI HB c0 c1 c3 f1 f3;have HI:=Aside0.mk hI;have HB:=Aside0.mk hB;clear hI hB;obtain ⟨c0,c1,c3,f1,f3⟩:=HI.out.cells) | (go_at_call 84;refine (put_calls _ _ _ _ _ _ _ _ _ _ (IsP.set3 HI.out _) (below_set HB.out hge)).mono ?_;rintro e w2 ⟨rfl,hI,hB⟩;clear HI HB c0 c1 c3 f1 f3;have HI:=Aside0.mk hI;have HB:=Aside0.mk hB;clear hI hB;obtain ⟨c0,c1,c3,f1,f3⟩:=HI.out.cells))
  first | go_end0 | ((try simp only [Exit.inBlock,Exit.then]);refine bodyPost_ret (results_none rfl _ _ _) rfl ?_)
  exact ⟨rfl,HI.out,⟨Int.le_trans hb0 hE.1,hE.2⟩,HB.out⟩
 | true =>
  rw [if_pos rfl] at h
  cases hy:isF s e (⟨#[41]⟩:ByteArray) with
  | true =>
   obtain ⟨a2,ha2⟩:∃ a2:Int,e + ((⟨#[41]⟩:ByteArray).size:Int) = a2:=⟨_,rfl⟩
   have hle:=isF_le hy
   rw [ha2] at hle
   have hsz:((⟨#[41]⟩:ByteArray).size:Int) = 1:=rfl
   have hnn:needF s e false = (a2,false):=by unfold needF;rw [if_neg (by decide),if_pos hy,ha2]
   rw [hnn] at h
   clear hnn
   have h:=Option.some.inj h
   obtain rfl:=congrArg Prod.fst h
   obtain rfl:=congrArg (fun z:PR => z.2.1) h
   obtain rfl:=congrArg (fun z:PR => z.2.2) h
   clear h
   go_enter Tryz.func81,Tryz.ntmps81
   go_wp2_with (first | (go_at_call 99;refine (is_no _ _ _ _ _ _ _ _ HI.out HB.out h0 h1 hs (by decide) (by assumption)).mono ?_;rintro e w2 ⟨rfl,hI,hB⟩;clear HI HB c0 c1 c3 f1 f3;have HI:=Aside0.mk hI;have HB:=Aside0.mk hB;clear hI hB;obtain ⟨c0,c1,c3,f1,f3⟩:=HI.out.cells) | (go_at_call 99;refine (is_yes _ _ _ _ _ _ _ _ _ HI.out HB.out h0 h1 hs (by decide) (by assumption) (by assumption)).mono ?_;rintro e w2 ⟨rfl,hI,hB⟩;clear HI HB c0 c1 c3 f1 f3;have HI:=Aside0.mk hI;have HB:=Aside0.mk hB;clear hI hB;obtain ⟨c0,c1,c3,f1,f3⟩:=HI.out.cells) | (go_at_call 100;refine (word_calls k _ _ _ _ _ _ _ _ HI.out HB.out hb0 hb1 hs hw).mono ?_;rintro e w2 ⟨rfl,hI,hE,hB⟩;clear HI HB c0 c1 c3 f1 f3;have HI:=Aside0.mk hI;have HB:=Aside0.mk hB;clear hI hB;obtain ⟨c0,c1,c3,f1,f3⟩:=HI.out.cells) | (go_at_call 41;refine (spec_NameOk.calls k _ _ _ hn).mono ?_;rintro e w2 ⟨rfl,nd,hnd⟩;have hI:=IsP.drewN HI.out nd;rw [← hnd] at hI;have hB:=pw_below_drewN HB.out nd;rw [← hnd] at hB;clear hnd;clear HI HB c0 c1 c3 f1 f3;have HI:=Aside0.mk hI;have HB:=Aside0.mk hB;clear hI hB;obtain ⟨c0,c1,c3,f1,f3⟩:=HI.out.cells) | (go_at_call 99;refine (is_no _ _ _ _ _ _ _ _ HI.out HB.out (Int.le_trans hb0 hE.1) hE.2 hs (by decide) (by assumption)).mono ?_;rintro e w2 ⟨rfl,hI,hB⟩;clear HI HB c0 c1 c3 f1 f3;have HI:=Aside0.mk hI;have HB:=Aside0.mk hB;clear hI hB;obtain ⟨c0,c1,c3,f1,f3⟩:=HI.out.cells) | (go_at_call 99;refine (is_yes _ _ _ _ _ _ _ _ _ HI.out HB.out (Int.le_trans hb0 hE.1) hE.2 hs (by decide) (by assumption) (by assumption)).mono ?_;rintro e w2 ⟨rfl,hI,hB⟩;clear HI HB c0 c1 c3 f1 f3;have HI:=Aside0.mk hI;have HB:=Aside0.mk hB;clear hI hB;obtain ⟨c0,c1,c3,f1,f3⟩:=HI.out.cells) | (go_at_call 84;refine (put_calls _ _ _ _ _ _ _ _ _ _ (IsP.set3 HI.out _) (below_set HB.out hge)).mono ?_;rintro e w2 ⟨rfl,hI,hB⟩;clear HI HB c0 c1 c3 f1 f3;have HI:=Aside0.mk hI;have HB:=Aside0.mk hB;clear hI hB;obtain ⟨c0,c1,c3,f1,f3⟩:=HI.out.cells))
   first | go_end0 | ((try simp only [Exit.inBlock,Exit.then]);refine bodyPost_ret (results_none rfl _ _ _) rfl ?_)
   exact ⟨rfl,HI.out,⟨by have:=hE.1;omega,hle⟩,HB.out⟩
  | false =>
   have hnn:needF s e false = (e,true):=by unfold needF;rw [if_neg (by decide),if_neg (by rw [hy];decide)]
   rw [hnn] at h
   clear hnn
   have h:=Option.some.inj h
   obtain rfl:=congrArg Prod.fst h
   obtain rfl:=congrArg (fun z:PR => z.2.1) h
   obtain rfl:=congrArg (fun z:PR => z.2.2) h
   clear h
   go_enter Tryz.func81,Tryz.ntmps81
   go_wp2_with (first | (go_at_call 99;refine (is_no _ _ _ _ _ _ _ _ HI.out HB.out h0 h1 hs (by decide) (by assumption)).mono ?_;rintro e w2 ⟨rfl,hI,hB⟩;clear HI HB c0 c1 c3 f1 f3;have HI:=Aside0.mk hI;have HB:=Aside0.mk hB;clear hI hB;obtain ⟨c0,c1,c3,f1,f3⟩:=HI.out.cells) | (go_at_call 99;refine (is_yes _ _ _ _ _ _ _ _ _ HI.out HB.out h0 h1 hs (by decide) (by assumption) (by assumption)).mono ?_;rintro e w2 ⟨rfl,hI,hB⟩;clear HI HB c0 c1 c3 f1 f3;have HI:=Aside0.mk hI;have HB:=Aside0.mk hB;clear hI hB;obtain ⟨c0,c1,c3,f1,f3⟩:=HI.out.cells) | (go_at_call 100;refine (word_calls k _ _ _ _ _ _ _ _ HI.out HB.out hb0 hb1 hs hw).mono ?_;rintro e w2 ⟨rfl,hI,hE,hB⟩;clear HI HB c0 c1 c3 f1 f3;have HI:=Aside0.mk hI;have HB:=Aside0.mk hB;clear hI hB;obtain ⟨c0,c1,c3,f1,f3⟩:=HI.out.cells) | (go_at_call 41;refine (spec_NameOk.calls k _ _ _ hn).mono ?_;rintro e w2 ⟨rfl,nd,hnd⟩;have hI:=IsP.drewN HI.out nd;rw [← hnd] at hI;have hB:=pw_below_drewN HB.out nd;rw [← hnd] at hB;clear hnd;clear HI HB c0 c1 c3 f1 f3;have HI:=Aside0.mk hI;have HB:=Aside0.mk hB;clear hI hB;obtain ⟨c0,c1,c3,f1,f3⟩:=HI.out.cells) | (go_at_call 99;refine (is_no _ _ _ _ _ _ _ _ HI.out HB.out (Int.le_trans hb0 hE.1) hE.2 hs (by decide) (by assumption)).mono ?_;rintro e w2 ⟨rfl,hI,hB⟩;clear HI HB c0 c1 c3 f1 f3;have HI:=Aside0.mk hI;have HB:=Aside0.mk hB;clear hI hB;obtain ⟨c0,c1,c3,f1,f3⟩:=HI.out.cells) | (go_at_call 99;refine (is_yes _ _ _ _ _ _ _ _ _ HI.out HB.out (Int.le_trans hb0 hE.1) hE.2 hs (by decide) (by assumption) (by assumption)).mono ?_;rintro e w2 ⟨rfl,hI,hB⟩;clear HI HB c0 c1 c3 f1 f3;have HI:=Aside0.mk hI;have HB:=Aside0.mk hB;clear hI hB;obtain ⟨c0,c1,c3,f1,f3⟩:=HI.out.cells) | (go_at_call 84;refine (put_calls _ _ _ _ _ _ _ _ _ _ (IsP.set3 HI.out _) (below_set HB.out hge)).mono ?_;rintro e w2 ⟨rfl,hI,hB⟩;clear HI HB c0 c1 c3 f1 f3;have HI:=Aside0.mk hI;have HB:=Aside0.mk hB;clear hI hB;obtain ⟨c0,c1,c3,f1,f3⟩:=HI.out.cells))
   first | go_end0 | ((try simp only [Exit.inBlock,Exit.then]);refine bodyPost_ret (results_none rfl _ _ _) rfl ?_)
   exact ⟨rfl,HI.out,⟨Int.le_trans hb0 hE.1,hE.2⟩,HB.out⟩
set_option maxHeartbeats 8000000 in
set_option maxRecDepth 100000 in
theorem value_br {lev:Int → Int → Int → List EN → Bool → Option PR} {val:Int → Int → List EN → Bool → Option PR} {s:ByteArray} (hs:s.size ≤ 1000000) (hl:LevC lev s) (hv:ValC val s) (k:Nat) (deep:Int) (g:Nat) (a:Int) (o:List EN) (r1:Int) (r2:List EN) (r3:Bool) (w0 w:World) (hI:IsP w0 w g s a o false) (hB:Below w0.heap.size w0 w) (h0:0 ≤ a) (h1:a ≤ (s.size:Int)) (cd:decide ((30:Int) < deep) = false) (n0:isF s a (⟨#[45]⟩:ByteArray) = false) (n1:isF s a (⟨#[126]⟩:ByteArray) = false) (n2:isF s a (⟨#[104,105,103,104,40]⟩:ByteArray) = false) (n3:isF s a (⟨#[108,111,119,40]⟩:ByteArray) = false) (n4:isF s a (⟨#[98,97,110,107,40]⟩:ByteArray) = false) (y:isF s a (⟨#[40]⟩:ByteArray) = true) (a1:Int) (ha:a + ((⟨#[40]⟩:ByteArray).size:Int) = a1) (h:brG lev s deep a1 o = some (r1,r2,r3)) :
  Calls Tryz.prog 81 #[.pointer (some ⟨g,0,none⟩),.int .i64 deep] w fun e w' => e = .returned (.tuple #[]) ∧ IsP w0 w' g s r1 r2 r3 ∧ (0 ≤ r1 ∧ r1 ≤ (s.size:Int)) ∧ Below w0.heap.size w0 w':=by
 have hge:=hI.ge
 have HI:=Aside0.mk hI
 have HB:=Aside0.mk hB
 clear hI hB
 obtain ⟨c0,c1,c3,f1,f3⟩:=HI.out.cells
 unfold brG at h
 have hb1:a1 ≤ (s.size:Int):=ha ▸ isF_le y
 have hb0:0 ≤ a1:=by omega
 cases hr:lev 1 (wrap64 (deep + 1)) a1 o false with
 | none => rw [hr] at h;cases h
 | some p =>
 obtain ⟨p1,p2,p3⟩:=p
 rw [hr,Option.bind_some] at h
 dsimp only at h
 cases p3 with
 | true =>
  have hn:needF s p1 true = (p1,true):=by unfold needF;rw [if_pos rfl]
  rw [hn] at h
  clear hn
  have h:=Option.some.inj h
  obtain rfl:=congrArg Prod.fst h
  obtain rfl:=congrArg (fun z:PR => z.2.1) h
  obtain rfl:=congrArg (fun z:PR => z.2.2) h
  clear h
  go_enter Tryz.func81,Tryz.ntmps81
  go_wp2_with (first | (go_at_call 99;refine (is_no _ _ _ _ _ _ _ _ HI.out HB.out h0 h1 hs (by decide) (by assumption)).mono ?_;rintro e w2 ⟨rfl,hI,hB⟩;clear HI HB c0 c1 c3 f1 f3;have HI:=Aside0.mk hI;have HB:=Aside0.mk hB;clear hI hB;obtain ⟨c0,c1,c3,f1,f3⟩:=HI.out.cells) | (go_at_call 99;refine (is_yes _ _ _ _ _ _ _ _ _ HI.out HB.out h0 h1 hs (by decide) (by assumption) (by assumption)).mono ?_;rintro e w2 ⟨rfl,hI,hB⟩;clear HI HB c0 c1 c3 f1 f3;have HI:=Aside0.mk hI;have HB:=Aside0.mk hB;clear hI hB;obtain ⟨c0,c1,c3,f1,f3⟩:=HI.out.cells) | (go_at_call 65;refine (hl _ _ _ _ _ _ _ _ _ _ _ HI.out HB.out hb0 hb1 hr).mono ?_;rintro e w2 ⟨rfl,hI,hR,hB⟩;clear HI HB c0 c1 c3 f1 f3;have HI:=Aside0.mk hI;have HB:=Aside0.mk hB;clear hI hB;obtain ⟨c0,c1,c3,f1,f3⟩:=HI.out.cells) | (go_at_call 99;refine (is_no _ _ _ _ _ _ _ _ HI.out HB.out hR.1 hR.2 hs (by decide) (by assumption)).mono ?_;rintro e w2 ⟨rfl,hI,hB⟩;clear HI HB c0 c1 c3 f1 f3;have HI:=Aside0.mk hI;have HB:=Aside0.mk hB;clear hI hB;obtain ⟨c0,c1,c3,f1,f3⟩:=HI.out.cells) | (go_at_call 99;refine (is_yes _ _ _ _ _ _ _ _ _ HI.out HB.out hR.1 hR.2 hs (by decide) (by assumption) (by assumption)).mono ?_;rintro e w2 ⟨rfl,hI,hB⟩;clear HI HB c0 c1 c3 f1 f3;have HI:=Aside0.mk hI;have HB:=Aside0.mk hB;clear hI hB;obtain ⟨c0,c1,c3,f1,f3⟩:=HI.out.cells))
  first | go_end0 | ((try simp only [Exit.inBlock,Exit.then]);refine bodyPost_ret (results_none rfl _ _ _) rfl ?_)
  exact ⟨rfl,IsP.set3 HI.out _,hR,below_set HB.out hge⟩
 | false =>
  cases hy:isF s p1 (⟨#[41]⟩:ByteArray) with
  | true =>
   obtain ⟨a2,ha2⟩:∃ a2:Int,p1 + ((⟨#[41]⟩:ByteArray).size:Int) = a2:=⟨_,rfl⟩
   have hle:=isF_le hy
   rw [ha2] at hle
   have hsz:((⟨#[41]⟩:ByteArray).size:Int) = 1:=rfl
   have hn:needF s p1 false = (a2,false):=by unfold needF;rw [if_neg (by decide),if_pos hy,ha2]
   rw [hn] at h
   clear hn
   have h:=Option.some.inj h
   obtain rfl:=congrArg Prod.fst h
   obtain rfl:=congrArg (fun z:PR => z.2.1) h
   obtain rfl:=congrArg (fun z:PR => z.2.2) h
   clear h
   go_enter Tryz.func81,Tryz.ntmps81
   go_wp2_with (first | (go_at_call 99;refine (is_no _ _ _ _ _ _ _ _ HI.out HB.out h0 h1 hs (by decide) (by assumption)).mono ?_;rintro e w2 ⟨rfl,hI,hB⟩;clear HI HB c0 c1 c3 f1 f3;have HI:=Aside0.mk hI;have HB:=Aside0.mk hB;clear hI hB;obtain ⟨c0,c1,c3,f1,f3⟩:=HI.out.cells) | (go_at_call 99;refine (is_yes _ _ _ _ _ _ _ _ _ HI.out HB.out h0 h1 hs (by decide) (by assumption) (by assumption)).mono ?_;rintro e w2 ⟨rfl,hI,hB⟩;clear HI HB c0 c1 c3 f1 f3;have HI:=Aside0.mk hI;have HB:=Aside0.mk hB;clear hI hB;obtain ⟨c0,c1,c3,f1,f3⟩:=HI.out.cells) | (go_at_call 65;refine (hl _ _ _ _ _ _ _ _ _ _ _ HI.out HB.out hb0 hb1 hr).mono ?_;rintro e w2 ⟨rfl,hI,hR,hB⟩;clear HI HB c0 c1 c3 f1 f3;have HI:=Aside0.mk hI;have HB:=Aside0.mk hB;clear hI hB;obtain ⟨c0,c1,c3,f1,f3⟩:=HI.out.cells) | (go_at_call 99;refine (is_no _ _ _ _ _ _ _ _ HI.out HB.out hR.1 hR.2 hs (by decide) (by assumption)).mono ?_;rintro e w2 ⟨rfl,hI,hB⟩;clear HI HB c0 c1 c3 f1 f3;have HI:=Aside0.mk hI;have HB:=Aside0.mk hB;clear hI hB;obtain ⟨c0,c1,c3,f1,f3⟩:=HI.out.cells) | (go_at_call 99;refine (is_yes _ _ _ _ _ _ _ _ _ HI.out HB.out hR.1 hR.2 hs (by decide) (by assumption) (by assumption)).mono ?_;rintro e w2 ⟨rfl,hI,hB⟩;clear HI HB c0 c1 c3 f1 f3;have HI:=Aside0.mk hI;have HB:=Aside0.mk hB;clear hI hB;obtain ⟨c0,c1,c3,f1,f3⟩:=HI.out.cells))
   first | go_end0 | ((try simp only [Exit.inBlock,Exit.then]);refine bodyPost_ret (results_none rfl _ _ _) rfl ?_)
   exact ⟨rfl,IsP.set3 HI.out _,⟨by have:=hR.1;omega,hle⟩,below_set HB.out hge⟩
  | false =>
   have hn:needF s p1 false = (p1,true):=by unfold needF;rw [if_neg (by decide),if_neg (by rw [hy];decide)]
   rw [hn] at h
   clear hn
   have h:=Option.some.inj h
   obtain rfl:=congrArg Prod.fst h
   obtain rfl:=congrArg (fun z:PR => z.2.1) h
   obtain rfl:=congrArg (fun z:PR => z.2.2) h
   clear h
   go_enter Tryz.func81,Tryz.ntmps81
   go_wp2_with (first | (go_at_call 99;refine (is_no _ _ _ _ _ _ _ _ HI.out HB.out h0 h1 hs (by decide) (by assumption)).mono ?_;rintro e w2 ⟨rfl,hI,hB⟩;clear HI HB c0 c1 c3 f1 f3;have HI:=Aside0.mk hI;have HB:=Aside0.mk hB;clear hI hB;obtain ⟨c0,c1,c3,f1,f3⟩:=HI.out.cells) | (go_at_call 99;refine (is_yes _ _ _ _ _ _ _ _ _ HI.out HB.out h0 h1 hs (by decide) (by assumption) (by assumption)).mono ?_;rintro e w2 ⟨rfl,hI,hB⟩;clear HI HB c0 c1 c3 f1 f3;have HI:=Aside0.mk hI;have HB:=Aside0.mk hB;clear hI hB;obtain ⟨c0,c1,c3,f1,f3⟩:=HI.out.cells) | (go_at_call 65;refine (hl _ _ _ _ _ _ _ _ _ _ _ HI.out HB.out hb0 hb1 hr).mono ?_;rintro e w2 ⟨rfl,hI,hR,hB⟩;clear HI HB c0 c1 c3 f1 f3;have HI:=Aside0.mk hI;have HB:=Aside0.mk hB;clear hI hB;obtain ⟨c0,c1,c3,f1,f3⟩:=HI.out.cells) | (go_at_call 99;refine (is_no _ _ _ _ _ _ _ _ HI.out HB.out hR.1 hR.2 hs (by decide) (by assumption)).mono ?_;rintro e w2 ⟨rfl,hI,hB⟩;clear HI HB c0 c1 c3 f1 f3;have HI:=Aside0.mk hI;have HB:=Aside0.mk hB;clear hI hB;obtain ⟨c0,c1,c3,f1,f3⟩:=HI.out.cells) | (go_at_call 99;refine (is_yes _ _ _ _ _ _ _ _ _ HI.out HB.out hR.1 hR.2 hs (by decide) (by assumption) (by assumption)).mono ?_;rintro e w2 ⟨rfl,hI,hB⟩;clear HI HB c0 c1 c3 f1 f3;have HI:=Aside0.mk hI;have HB:=Aside0.mk hB;clear hI hB;obtain ⟨c0,c1,c3,f1,f3⟩:=HI.out.cells))
   first | go_end0 | ((try simp only [Exit.inBlock,Exit.then]);refine bodyPost_ret (results_none rfl _ _ _) rfl ?_)
   exact ⟨rfl,IsP.set3 HI.out _,hR,below_set HB.out hge⟩
end Go.Proofs.YtabbdfchibjndaaGreatDoor.LibCp
