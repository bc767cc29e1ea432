/- The machine's side of a law,written by a program of this session for this claim. -/
import Derived.Test.YtabbdfchibjndaaGreatDoorXQq
import Derived.Test.YtabbdfchibjndaaGreatDoorXQFnExprTextsx0
import Derived.Test.YtabbdfchibjndaaGreatDoorXQFnExprTextsx2
namespace Go.Proofs.YtabbdfchibjndaaGreatDoor.QFnExprTexts
open Go.Proofs.YtabbdfchibjndaaGreatDoor.Qq
open Go.RowKit Go.Proofs.YtabbdfchibjndaaGreatDoor.LibX Go.Proofs.YtabbdfchibjndaaGreatDoor.LibE Go.Proofs.YtabbdfchibjndaaGreatDoor.LibG Go.Proofs.YtabbdfchibjndaaGreatDoor.LibCv Go.Proofs.YtabbdfchibjndaaGreatDoorW.PrintWords Go.Proofs.YtabbdfchibjndaaGreatDoorW.PrintLast Go.Proofs.YtabbdfchibjndaaGreatDoorW.PrintMore
attribute [local go_sem] max2_int min2_int max_two min_two max_three min_three max_four min_four   -- for this text's walks alone
set_option maxHeartbeats 8000000
set_option maxRecDepth 100000
set_option linter.unusedVariables false
set_option linter.unusedSimpArgs false
mutual
def spec_l1Rd_infix.j0:Nat → Int → Int → Bool → List Int → Int → Option (ByteArray × Int)
 | 0,_,_,_,_,_ => none
 | k + 1,x1,x15,x50,x1000,x1001 => if x50 = true then ((spec_l1Rd_infix.f k x1000 x1001 (wrap64 (x1 + 1))).bind fun bt139 => ((some (([(⟨#[43]⟩:ByteArray),(⟨#[45]⟩:ByteArray),(⟨#[42]⟩:ByteArray),(⟨#[47]⟩:ByteArray),(⟨#[37]⟩:ByteArray),(⟨#[38]⟩:ByteArray),(⟨#[94]⟩:ByteArray),(⟨#[124]⟩:ByteArray),(⟨#[60,60]⟩:ByteArray),(⟨#[62,62]⟩:ByteArray)]:List ByteArray):List ByteArray)).bind fun y141 => ((spec_l1Rd_below.f x1000 bt139.2 10).bind fun bt144 => (if 0 ≤ bt144.1 then (if bt144.1 < (y141.length:Int) then (if bt139.1.size + (rdOf ByteArray.empty y141 bt144.1).size ≤ 9223372036854775807 then ((spec_l1Rd_infix.f k x1000 bt144.2 (wrap64 (x1 + 1))).bind fun bt147 => (if (bt139.1 ++ (rdOf ByteArray.empty y141 bt144.1)).size + bt147.1.size ≤ 9223372036854775807 then (some ((bt139.1 ++ (rdOf ByteArray.empty y141 bt144.1)) ++ bt147.1,bt147.2)) else (none))) else (none)) else (none)) else (none))))) else (if x15 = 6 then ((spec_l1Rd_infix.f k x1000 x1001 (wrap64 (x1 + 1))).bind fun bt149 => (if 1 + bt149.1.size ≤ 9223372036854775807 then (some ((⟨#[126]⟩:ByteArray) ++ bt149.1,bt149.2)) else (none))) else ((spec_l1Rd_name.f x1000 x1001).bind fun bt151 => ((some (([(⟨#[48]⟩:ByteArray),(⟨#[55]⟩:ByteArray),(⟨#[36,49,50,51,52]⟩:ByteArray),bt151.1,(⟨#[50,48,48]⟩:ByteArray)]:List ByteArray):List ByteArray)).bind fun y153 => ((spec_l1Rd_below.f x1000 bt151.2 5).bind fun bt156 => (if 0 ≤ bt156.1 then (if bt156.1 < (y153.length:Int) then (some (rdOf ByteArray.empty y153 bt156.1,bt156.2)) else (none)) else (none))))))
def spec_l1Rd_infix.f:Nat → List Int → Int → Int → Option (ByteArray × Int)
 | 0,_,_,_ => none
 | k + 1,s0_0,s0_1,a1 => if a1 > 3 then ((spec_l1Rd_name.f s0_0 s0_1).bind fun bt115 => ((some (([(⟨#[49]⟩:ByteArray),(⟨#[36,70,70]⟩:ByteArray),bt115.1,(⟨#[37,49,48,49]⟩:ByteArray),(⟨#[54,53,53,51,53]⟩:ByteArray)]:List ByteArray):List ByteArray)).bind fun y117 => ((spec_l1Rd_below.f s0_0 bt115.2 5).bind fun bt120 => (if 0 ≤ bt120.1 then (if bt120.1 < (y117.length:Int) then (some (rdOf ByteArray.empty y117 bt120.1,bt120.2)) else (none)) else (none))))) else ((spec_l1Rd_below.f s0_0 s0_1 9).bind fun bt123 => (if bt123.1 = 0 then ((spec_l1Rd_infix.f k s0_0 bt123.2 (wrap64 (a1 + 1))).bind fun bt125 => (if 1 + bt125.1.size ≤ 9223372036854775807 then (some ((⟨#[45]⟩:ByteArray) ++ bt125.1,bt125.2)) else (none))) else (if bt123.1 = 1 then ((spec_l1Rd_infix.f k s0_0 bt123.2 (wrap64 (a1 + 1))).bind fun bt127 => (if 1 + bt127.1.size ≤ 9223372036854775807 then (if ((⟨#[40]⟩:ByteArray) ++ bt127.1).size + 1 ≤ 9223372036854775807 then (some (((⟨#[40]⟩:ByteArray) ++ bt127.1) ++ (⟨#[41]⟩:ByteArray),bt127.2)) else (none)) else (none))) else (if bt123.1 = 2 then ((some (([(⟨#[104,105,103,104,40]⟩:ByteArray),(⟨#[108,111,119,40]⟩:ByteArray)]:List ByteArray):List ByteArray)).bind fun y129 => ((spec_l1Rd_below.f s0_0 bt123.2 2).bind fun bt132 => (if 0 ≤ bt132.1 then (if bt132.1 < (y129.length:Int) then ((spec_l1Rd_infix.f k s0_0 bt132.2 (wrap64 (a1 + 1))).bind fun bt135 => (if (rdOf ByteArray.empty y129 bt132.1).size + bt135.1.size ≤ 9223372036854775807 then (if ((rdOf ByteArray.empty y129 bt132.1) ++ bt135.1).size + 1 ≤ 9223372036854775807 then (some (((rdOf ByteArray.empty y129 bt132.1) ++ bt135.1) ++ (⟨#[41]⟩:ByteArray),bt135.2)) else (none)) else (none))) else (none)) else (none)))) else (if bt123.1 = 3 then ((spec_l1Rd_name.f s0_0 bt123.2).bind fun bt137 => (if 5 + bt137.1.size ≤ 9223372036854775807 then (if ((⟨#[98,97,110,107,40]⟩:ByteArray) ++ bt137.1).size + 1 ≤ 9223372036854775807 then (some (((⟨#[98,97,110,107,40]⟩:ByteArray) ++ bt137.1) ++ (⟨#[41]⟩:ByteArray),bt137.2)) else (none)) else (none))) else (if bt123.1 = 4 then (spec_l1Rd_infix.j0 k a1 bt123.1 (bt123.1 == 4) s0_0 bt123.2) else (spec_l1Rd_infix.j0 k a1 bt123.1 (bt123.1 == 5) s0_0 bt123.2)))))))
end
theorem spec_l1Rd_infix.mono_l:∀ k,(∀ y0 y1 y2,LeO (spec_l1Rd_infix.f k y0 y1 y2) (spec_l1Rd_infix.f (k + 1) y0 y1 y2)) ∧ (∀ y0 y1 y2 y3 y4,LeO (spec_l1Rd_infix.j0 k y0 y1 y2 y3 y4) (spec_l1Rd_infix.j0 (k + 1) y0 y1 y2 y3 y4))
 | 0 => ⟨fun _ _ _ r h => by simp [spec_l1Rd_infix.f] at h,fun _ _ _ _ _ r h => by simp [spec_l1Rd_infix.j0] at h⟩
 | k + 1 => by
  obtain ⟨ih0,ih1⟩:=spec_l1Rd_infix.mono_l k
  refine ⟨?_,?_⟩
  ·intro y0 y1 y2
   unfold spec_l1Rd_infix.f
   repeat' first
   | (with_reducible first | exact ih0 _ _ _ | exact ih1 _ _ _ _ _ | exact LeO.refl _ | exact LeO.none _ | refine LeO.ite ?_ ?_ | refine LeO.bind ?_ (fun _ => ?_))
   | exact ih0 _ _ _
   | exact ih1 _ _ _ _ _
   | exact LeO.none _
   | refine LeO.ite ?_ ?_
   | refine LeO.bind ?_ (fun _ => ?_)
  intro y0 y1 y2 y3 y4
  unfold spec_l1Rd_infix.j0
  repeat' first
  | (with_reducible first | exact ih0 _ _ _ | exact ih1 _ _ _ _ _ | exact LeO.refl _ | exact LeO.none _ | refine LeO.ite ?_ ?_ | refine LeO.bind ?_ (fun _ => ?_))
  | exact ih0 _ _ _
  | exact ih1 _ _ _ _ _
  | exact LeO.none _
  | refine LeO.ite ?_ ?_
  | refine LeO.bind ?_ (fun _ => ?_)
theorem spec_l1Rd_infix.mono:∀ a0 a1 a2 k,LeO (spec_l1Rd_infix.f k a0 a1 a2) (spec_l1Rd_infix.f (k + 1) a0 a1 a2):=by
 intro a0 a1 a2 k
 obtain ⟨ih0,ih1⟩:=spec_l1Rd_infix.mono_l k
 exact ih0 a0 a1 a2
def spec_l1Rd_infix.T9:Bool × List (List Nat × List Nat):=(true,[([],[]),([],[]),([1],[1]),([0,2],[0,2]),([3],[3]),([],[]),([],[]),([6],[6]),([5,7,2],[5,7]),([4,8],[4,8]),([9],[9]),([10,8,0,1,2,3,4,5,6,7,8,9,10],[10])])
def spec_l1Rd_infix.B9:List Nat:=[0,0,2,7,15,0,0,64,230,511,1023,2047]
theorem spec_l1Rd_infix.tab9:rtab .any (opsOf Tryz.f44 9) = spec_l1Rd_infix.T9:=by kernel_rfl
theorem spec_l1Rd_infix.bits9:waitsOk spec_l1Rd_infix.T9.2 spec_l1Rd_infix.B9 = true:=by kernel_rfl
def spec_l1Rd_infix.T14:Bool × List (List Nat × List Nat):=(true,[([],[]),([],[]),([1],[1]),([0,2],[0,2]),([],[]),([],[]),([5,3],[5]),([4,6],[4,6]),([7],[7]),([3,8],[3,8]),([],[]),([],[]),([11],[11]),([10,12,6],[10,12]),([9,13],[9,13]),([14,13,0,1,2,3,4,5,6,7,8,9,10,11,12,13,14],[14])])
def spec_l1Rd_infix.B14:List Nat:=[0,0,2,7,0,0,47,127,255,511,0,0,2048,7279,16383,32767]
theorem spec_l1Rd_infix.tab14:rtab .any (opsOf Tryz.f44 14) = spec_l1Rd_infix.T14:=by kernel_rfl
theorem spec_l1Rd_infix.bits14:waitsOk spec_l1Rd_infix.T14.2 spec_l1Rd_infix.B14 = true:=by kernel_rfl
theorem spec_l1Rd_infix.calls (k:Nat):∀ (g:Nat) (s0_0:List Int) (s0_1:Int) (a1:Int) (r1:ByteArray) (r2:Int) (w0 w:World) (hI:IsS61 w0 w g s0_0 s0_1) (hB:Below w0.heap.size w0 w) (h:spec_l1Rd_infix.f k s0_0 s0_1 a1 = some (r1,r2)),
  Calls Tryz.prog 44 #[.pointer (some ⟨g,0,none⟩),.int .i64 a1] w fun e w' => e = .returned (.string r1) ∧ IsS61 w0 w' g s0_0 r2 ∧ Below w0.heap.size w0 w' ∧ KeepBut w w' g none:=by
 induction k using Nat.strongRecOn with
 | _ k ih =>
 intro g s0_0 s0_1 a1 r1 r2 w0 w hI hB h
 cases k with
 | zero => exact absurd h (by simp [spec_l1Rd_infix.f])
 | succ k =>
 simp only [spec_l1Rd_infix.f] at h
 have HI0:=Aside0.mk hI
 have HK:=Aside0.mk (KeepBut.refl w g none)
 have HL:=Aside0.mk hB.size
 clear hI
 have HW0:=Aside0.mk hB.size
 have HB:=Aside0.mk hB
 clear hB
 have H:(if a1 > 3 then ((spec_l1Rd_name.f s0_0 s0_1).bind fun bt115 => ((some (([(⟨#[49]⟩:ByteArray),(⟨#[36,70,70]⟩:ByteArray),bt115.1,(⟨#[37,49,48,49]⟩:ByteArray),(⟨#[54,53,53,51,53]⟩:ByteArray)]:List ByteArray):List ByteArray)).bind fun y117 => ((spec_l1Rd_below.f s0_0 bt115.2 5).bind fun bt120 => (if 0 ≤ bt120.1 then (if bt120.1 < (y117.length:Int) then (some (rdOf ByteArray.empty y117 bt120.1,bt120.2)) else (none)) else (none))))) else ((spec_l1Rd_below.f s0_0 s0_1 9).bind fun bt123 => (if bt123.1 = 0 then ((spec_l1Rd_infix.f k s0_0 bt123.2 (wrap64 (a1 + 1))).bind fun bt125 => (if 1 + bt125.1.size ≤ 9223372036854775807 then (some ((⟨#[45]⟩:ByteArray) ++ bt125.1,bt125.2)) else (none))) else (if bt123.1 = 1 then ((spec_l1Rd_infix.f k s0_0 bt123.2 (wrap64 (a1 + 1))).bind fun bt127 => (if 1 + bt127.1.size ≤ 9223372036854775807 then (if ((⟨#[40]⟩:ByteArray) ++ bt127.1).size + 1 ≤ 9223372036854775807 then (some (((⟨#[40]⟩:ByteArray) ++ bt127.1) ++ (⟨#[41]⟩:ByteArray),bt127.2)) else (none)) else (none))) else (if bt123.1 = 2 then ((some (([(⟨#[104,105,103,104,40]⟩:ByteArray),(⟨#[108,111,119,40]⟩:ByteArray)]:List ByteArray):List ByteArray)).bind fun y129 => ((spec_l1Rd_below.f s0_0 bt123.2 2).bind fun bt132 => (if 0 ≤ bt132.1 then (if bt132.1 < (y129.length:Int) then ((spec_l1Rd_infix.f k s0_0 bt132.2 (wrap64 (a1 + 1))).bind fun bt135 => (if (rdOf ByteArray.empty y129 bt132.1).size + bt135.1.size ≤ 9223372036854775807 then (if ((rdOf ByteArray.empty y129 bt132.1) ++ bt135.1).size + 1 ≤ 9223372036854775807 then (some (((rdOf ByteArray.empty y129 bt132.1) ++ bt135.1) ++ (⟨#[41]⟩:ByteArray),bt135.2)) else (none)) else (none))) else (none)) else (none)))) else (if bt123.1 = 3 then ((spec_l1Rd_name.f s0_0 bt123.2).bind fun bt137 => (if 5 + bt137.1.size ≤ 9223372036854775807 then (if ((⟨#[98,97,110,107,40]⟩:ByteArray) ++ bt137.1).size + 1 ≤ 9223372036854775807 then (some (((⟨#[98,97,110,107,40]⟩:ByteArray) ++ bt137.1) ++ (⟨#[41]⟩:ByteArray),bt137.2)) else (none)) else (none))) else (if bt123.1 = 4 then (spec_l1Rd_infix.j0 k a1 bt123.1 (bt123.1 == 4) s0_0 bt123.2) else (spec_l1Rd_infix.j0 k a1 bt123.1 (bt123.1 == 5) s0_0 bt123.2)))))))) = some (r1,r2):=h
 clear h
 by_cases c3:a1 > 3
 ·rw [if_pos c3] at H
  have c3b0:decide (3 < a1) = true:=decide_eq_true c3
  clear c3
  replace H:=Option.bind_eq_some_iff.mp H
  obtain ⟨⟨t115,t116⟩,A40,H⟩:=H
  try dsimp -simprocs -eta only at H
  have A4:=Aside0.mk A40
  clear A40
  obtain ⟨y117,hy117⟩:∃ y_:List ByteArray,y_ = (([(⟨#[49]⟩:ByteArray),(⟨#[36,70,70]⟩:ByteArray),t115,(⟨#[37,49,48,49]⟩:ByteArray),(⟨#[54,53,53,51,53]⟩:ByteArray)]:List ByteArray)):=⟨_,rfl⟩
  replace H:((spec_l1Rd_below.f s0_0 t116 5).bind fun bt120 => (if 0 ≤ bt120.1 then (if bt120.1 < (y117.length:Int) then (some (rdOf ByteArray.empty y117 bt120.1,bt120.2)) else (none)) else (none))) = some (r1,r2):=by first | (rw [hy117];exact H) | exact H
  have Ny117:=Aside0.mk hy117
  clear hy117
  replace H:=Option.bind_eq_some_iff.mp H
  obtain ⟨⟨t120,t121⟩,A50,H⟩:=H
  try dsimp -simprocs -eta only at H
  have A5:=Aside0.mk A50
  clear A50
  by_cases c6:0 ≤ t120
  rotate_left
  ·rw [if_neg c6] at H
   exact absurd H (by simp)
  rw [if_pos c6] at H
  have c6b0:=decide_eq_true c6
  clear c6
  by_cases c7:t120 < (y117.length:Int)
  rotate_left
  ·rw [if_neg c7] at H
   exact absurd H (by simp)
  rw [if_pos c7] at H
  have c7b0:=decide_eq_true c7
  clear c7
  simp only [Option.some.injEq,Prod.mk.injEq] at H
  obtain ⟨rfl,rfl⟩:=H
  go_enter Tryz.func44,Tryz.ntmps44
  go_wp2_with (first | ((with_reducible refine gate_callee (f:=66) rfl ?_);refine goesL_ (some 8) rfl rfl Tryz.func66 (by kernel_rfl) rfl #[.pointer (some ⟨g,0,none⟩)] rfl q22_ ?_;(with_reducible refine (spec_l1Rd_name.calls g s0_0 s0_1 t115 t116 w0 _ ?side1 ?side2 A4.out).mono ?_);(case side1 => exact q58_);(case side2 => exact q50_);rintro e w8 ⟨rfl,hi,hb,hk⟩;refine ⟨_,rfl,?_⟩;have n0_:=Aside0.mk (KeepBut.trans q19_ hk (.inl rfl));have n1_:=Aside0.mk (hb);have n2_:=Aside0.mk (hi);clear HK;clear HB;clear HI0;have HK:=n0_;have HB:=n1_;have HI0:=n2_;clear n0_ n1_ n2_;(try clear hb);(try clear hk);(try clear hi)) | ((with_reducible refine gate_dst (N:=9) rfl ?_);refine Kd.R_lit Kd.string _ 9 ?hg (N:=9) ?hd (xs:=([(⟨#[49]⟩:ByteArray),(⟨#[36,70,70]⟩:ByteArray),t115,(⟨#[37,49,48,49]⟩:ByteArray),(⟨#[54,53,53,51,53]⟩:ByteArray)]:List ByteArray)) (inner:=[.string (⟨#[49]⟩:ByteArray),.string (⟨#[36,70,70]⟩:ByteArray),.string t115,.string (⟨#[37,49,48,49]⟩:ByteArray),.string (⟨#[54,53,53,51,53]⟩:ByteArray)]) (ok:=fun _ => True) (okp:=fun _ => True) ?hr ?hp (fun _ hk => hk) trivial (Below.refl _ _) (Nat.le_refl _) (by simp) ?_;(case hd => rfl);(case hg => rfl);(case hr => exact q59_);(case hp => exact (Reps.one (show Kd.M Kd.string _ _ _ (⟨#[49]⟩:ByteArray) [.string (⟨#[49]⟩:ByteArray)] from rfl) (Reps.one (show Kd.M Kd.string _ _ _ (⟨#[36,70,70]⟩:ByteArray) [.string (⟨#[36,70,70]⟩:ByteArray)] from rfl) (Reps.one (show Kd.M Kd.string _ _ _ t115 [.string t115] from rfl) (Reps.one (show Kd.M Kd.string _ _ _ (⟨#[37,49,48,49]⟩:ByteArray) [.string (⟨#[37,49,48,49]⟩:ByteArray)] from rfl) (Reps.one (show Kd.M Kd.string _ _ _ (⟨#[54,53,53,51,53]⟩:ByteArray) [.string (⟨#[54,53,53,51,53]⟩:ByteArray)] from rfl) (Reps.none _ _)))))));intro v118 w9 ho10 hb hg_ hnew_;clear hg_ hnew_;(first | rw [← Ny117.out] at ho10 | (simp only [Int.reduceToNat] at ho10;rw [← Ny117.out] at ho10));have n0_:=Aside0.mk (Kd.R_lower ho10 (keep_size (w:=w) (g:=g) (row:=none) q19_));have n1_:=Aside0.mk (IsS61.below q18_ hb);have n2_:=Aside0.mk (KeepBut.trans q19_ (KeepBut.of_below hb g none) (.inl rfl));have n3_:=Aside0.mk (below_step q9_ hb);clear HI0;clear HK;clear HB;have HO119:=n0_;have HI0:=n1_;have HK:=n2_;have HB:=n3_;clear n0_ n1_ n2_ n3_;clear hb ho10) | ((with_reducible refine gate_callee (f:=42) rfl ?_);refine goesL_ (some 11) rfl rfl Tryz.func42 (by kernel_rfl) rfl #[.pointer (some ⟨g,0,none⟩),.int .i64 5] rfl q22_ ?_;(with_reducible refine (spec_l1Rd_below.calls g s0_0 t116 5 t120 t121 w0 _ ?side1 ?side2 A5.out).mono ?_);(case side1 => exact q58_);(case side2 => exact q50_);rintro e w11 ⟨rfl,hi,hb,hk⟩;refine ⟨_,rfl,?_⟩;have n0_:=Aside0.mk (Kd.R_mono (Kd.R_keep (IsS61.apart (show IsS61 w0 _ g s0_0 t116 from by repeat (first | (with_reducible first | exact HI0.out | apply IsS61.alloc | apply IsS61.drewN | apply IsS61.drew | apply IsS61.set_1) | exact HI0.out)) (by (with_reducible repeat (first | apply Kd.R_alloc | apply Kd.R_drewN | apply Kd.R_drew));exact HO119.out) (by decide)) hk (fun _ h => h.2)) (fun _ h => h.1));have n1_:=Aside0.mk (KeepBut.trans q19_ hk (.inl rfl));have n2_:=Aside0.mk (hb);have n3_:=Aside0.mk (hi);clear HO119;clear HK;clear HB;clear HI0;have HO119:=n0_;have HK:=n1_;have HB:=n2_;have HI0:=n3_;clear n0_ n1_ n2_ n3_;(try clear hb);(try clear hk);(try clear hi);obtain ⟨Ao12,co12,eo12⟩:=Kd.R_slice HO119.out;subst eo12;have p122:0 ≤ (t120:Int):=of_decide_eq_true q46_;have q122:t120 < (y117.length:Int):=of_decide_eq_true q46_;obtain ⟨ad122,e122,hx122_0⟩:=Kd.at_string (Kd.R_reads' HO119.out).2.2 t120 p122 q122;cases e122;replace p122:=eq_true p122;replace q122:=eq_true q122))
  go_ret
  exact ⟨q26_,q18_,q9_,q19_⟩
 rw [if_neg c3] at H
 have c3b0:decide (3 < a1) = false:=decide_eq_false c3
 clear c3
 replace H:=Option.bind_eq_some_iff.mp H
 obtain ⟨⟨t123,t124⟩,A130,H⟩:=H
 try dsimp -simprocs -eta only at H
 have A13:=Aside0.mk A130
 clear A130
 by_cases c14:t123 = 0
 ·rw [if_pos c14] at H
  have c14b0:(t123 == 0) = true:=beq_iff_eq.mpr c14
  have c14b1:(t123 != 0) = false:=bne_eq_false_iff_eq.mpr c14
  clear c14
  replace H:=Option.bind_eq_some_iff.mp H
  obtain ⟨⟨t125,t126⟩,A150,H⟩:=H
  try dsimp -simprocs -eta only at H
  have A15:=Aside0.mk A150
  clear A150
  by_cases c16:1 + t125.size ≤ 9223372036854775807
  rotate_left
  ·rw [if_neg c16] at H
   exact absurd H (by simp)
  rw [if_pos c16] at H
  have c16b0:=eq_true c16
  have c16b1:=decide_eq_true c16
  try have c16b2:(9223372036854775807 < 1 + t125.size) = False:=eq_false (Nat.not_lt.2 c16)
  simp only [Option.some.injEq,Prod.mk.injEq] at H
  obtain ⟨rfl,rfl⟩:=H
  go_enter Tryz.func44,Tryz.ntmps44
  go_wp2_with (first | ((with_reducible refine gate_callee (f:=42) rfl ?_);refine goesL_ (some 15) rfl rfl Tryz.func42 (by kernel_rfl) rfl #[.pointer (some ⟨g,0,none⟩),.int .i64 9] rfl q22_ ?_;(with_reducible refine (spec_l1Rd_below.calls g s0_0 s0_1 9 t123 t124 w0 _ ?side1 ?side2 A13.out).mono ?_);(case side1 => exact q58_);(case side2 => exact q50_);rintro e w17 ⟨rfl,hi,hb,hk⟩;refine ⟨_,rfl,?_⟩;have n0_:=Aside0.mk (KeepBut.trans q19_ hk (.inl rfl));have n1_:=Aside0.mk (hb);have n2_:=Aside0.mk (hi);clear HK;clear HB;clear HI0;have HK:=n0_;have HB:=n1_;have HI0:=n2_;clear n0_ n1_ n2_;(try clear hb);(try clear hk);(try clear hi)) | ((with_reducible refine gate_callee (f:=44) rfl ?_);refine goesL_ (some 21) rfl rfl Tryz.func44 (by kernel_rfl) rfl #[.pointer (some ⟨g,0,none⟩),.int .i64 (wrap64 (a1 + 1))] rfl q5_ ?_;(with_reducible refine (ih k (by omega) g s0_0 t124 (wrap64 (a1 + 1)) t125 t126 w0 _ ?side1 ?side2 A15.out).mono ?_);(case side1 => exact q58_);(case side2 => exact q50_);rintro e w18 ⟨rfl,hi,hb,hk⟩;refine ⟨_,rfl,?_⟩;have n0_:=Aside0.mk (KeepBut.trans q19_ hk (.inl rfl));have n1_:=Aside0.mk (hb);have n2_:=Aside0.mk (hi);clear HK;clear HB;clear HI0;have HK:=n0_;have HB:=n1_;have HI0:=n2_;clear n0_ n1_ n2_;(try clear hb);(try clear hk);(try clear hi)))
  go_ret
  exact ⟨q26_,q18_,q9_,q19_⟩
 rw [if_neg c14] at H
 have c14b0:(t123 == 0) = false:=beq_eq_false_iff_ne.mpr c14
 have c14b1:(t123 != 0) = true:=bne_iff_ne.mpr c14
 by_cases c19:t123 = 1
 ·rw [if_pos c19] at H
  have c19b0:(t123 == 1) = true:=beq_iff_eq.mpr c19
  have c19b1:(t123 != 1) = false:=bne_eq_false_iff_eq.mpr c19
  clear c19
  replace H:=Option.bind_eq_some_iff.mp H
  obtain ⟨⟨t127,t128⟩,A200,H⟩:=H
  try dsimp -simprocs -eta only at H
  have A20:=Aside0.mk A200
  clear A200
  by_cases c21:1 + t127.size ≤ 9223372036854775807
  rotate_left
  ·rw [if_neg c21] at H
   exact absurd H (by simp)
  rw [if_pos c21] at H
  have c21b0:=eq_true c21
  have c21b1:=decide_eq_true c21
  try have c21b2:(9223372036854775807 < 1 + t127.size) = False:=eq_false (Nat.not_lt.2 c21)
  by_cases c22:((⟨#[40]⟩:ByteArray) ++ t127).size + 1 ≤ 9223372036854775807
  rotate_left
  ·rw [if_neg c22] at H
   exact absurd H (by simp)
  rw [if_pos c22] at H
  have c22b0:=eq_true c22
  (try (have c22b0e:=c22b0;simp only [ByteArray.size_append,ByteArray.size_extract,Nat.min_self,Nat.sub_zero,show (⟨#[40]⟩:ByteArray).size = 1 from rfl] at c22b0e))
  have c22b1:=decide_eq_true c22
  (try (have c22b1e:=c22b1;simp only [ByteArray.size_append,ByteArray.size_extract,Nat.min_self,Nat.sub_zero,show (⟨#[40]⟩:ByteArray).size = 1 from rfl] at c22b1e))
  try have c22b2:(9223372036854775807 < ((⟨#[40]⟩:ByteArray) ++ t127).size + 1) = False:=eq_false (Nat.not_lt.2 c22)
  (try (have c22b2e:=c22b2;simp only [ByteArray.size_append,ByteArray.size_extract,Nat.min_self,Nat.sub_zero,show (⟨#[40]⟩:ByteArray).size = 1 from rfl] at c22b2e))
  simp only [Option.some.injEq,Prod.mk.injEq] at H
  obtain ⟨rfl,rfl⟩:=H
  go_enter Tryz.func44,Tryz.ntmps44
  go_wp2_with (first | ((with_reducible refine gate_callee (f:=42) rfl ?_);refine goesL_ (some 15) rfl rfl Tryz.func42 (by kernel_rfl) rfl #[.pointer (some ⟨g,0,none⟩),.int .i64 9] rfl q22_ ?_;(with_reducible refine (spec_l1Rd_below.calls g s0_0 s0_1 9 t123 t124 w0 _ ?side1 ?side2 A13.out).mono ?_);(case side1 => exact q58_);(case side2 => exact q50_);rintro e w23 ⟨rfl,hi,hb,hk⟩;refine ⟨_,rfl,?_⟩;have n0_:=Aside0.mk (KeepBut.trans q19_ hk (.inl rfl));have n1_:=Aside0.mk (hb);have n2_:=Aside0.mk (hi);clear HK;clear HB;clear HI0;have HK:=n0_;have HB:=n1_;have HI0:=n2_;clear n0_ n1_ n2_;(try clear hb);(try clear hk);(try clear hi)) | ((with_reducible refine gate_callee (f:=44) rfl ?_);refine goesL_ (some 28) rfl rfl Tryz.func44 (by kernel_rfl) rfl #[.pointer (some ⟨g,0,none⟩),.int .i64 (wrap64 (a1 + 1))] rfl q5_ ?_;(with_reducible refine (ih k (by omega) g s0_0 t124 (wrap64 (a1 + 1)) t127 t128 w0 _ ?side1 ?side2 A20.out).mono ?_);(case side1 => exact q58_);(case side2 => exact q50_);rintro e w24 ⟨rfl,hi,hb,hk⟩;refine ⟨_,rfl,?_⟩;have n0_:=Aside0.mk (KeepBut.trans q19_ hk (.inl rfl));have n1_:=Aside0.mk (hb);have n2_:=Aside0.mk (hi);clear HK;clear HB;clear HI0;have HK:=n0_;have HB:=n1_;have HI0:=n2_;clear n0_ n1_ n2_;(try clear hb);(try clear hk);(try clear hi)))
  go_ret
  exact ⟨q26_,q18_,q9_,q19_⟩
 rw [if_neg c19] at H
 have c19b0:(t123 == 1) = false:=beq_eq_false_iff_ne.mpr c19
 have c19b1:(t123 != 1) = true:=bne_iff_ne.mpr c19
 by_cases c25:t123 = 2
 ·rw [if_pos c25] at H
  have c25b0:(t123 == 2) = true:=beq_iff_eq.mpr c25
  have c25b1:(t123 != 2) = false:=bne_eq_false_iff_eq.mpr c25
  clear c25
  obtain ⟨y129,hy129⟩:∃ y_:List ByteArray,y_ = (([(⟨#[104,105,103,104,40]⟩:ByteArray),(⟨#[108,111,119,40]⟩:ByteArray)]:List ByteArray)):=⟨_,rfl⟩
  replace H:((spec_l1Rd_below.f s0_0 t124 2).bind fun bt132 => (if 0 ≤ bt132.1 then (if bt132.1 < (y129.length:Int) then ((spec_l1Rd_infix.f k s0_0 bt132.2 (wrap64 (a1 + 1))).bind fun bt135 => (if (rdOf ByteArray.empty y129 bt132.1).size + bt135.1.size ≤ 9223372036854775807 then (if ((rdOf ByteArray.empty y129 bt132.1) ++ bt135.1).size + 1 ≤ 9223372036854775807 then (some (((rdOf ByteArray.empty y129 bt132.1) ++ bt135.1) ++ (⟨#[41]⟩:ByteArray),bt135.2)) else (none)) else (none))) else (none)) else (none))) = some (r1,r2):=by first | (rw [hy129];exact H) | exact H
  have Ny129:=Aside0.mk hy129
  clear hy129
  replace H:=Option.bind_eq_some_iff.mp H
  obtain ⟨⟨t132,t133⟩,A260,H⟩:=H
  try dsimp -simprocs -eta only at H
  have A26:=Aside0.mk A260
  clear A260
  by_cases c27:0 ≤ t132
  rotate_left
  ·rw [if_neg c27] at H
   exact absurd H (by simp)
  rw [if_pos c27] at H
  have c27b0:=decide_eq_true c27
  clear c27
  by_cases c28:t132 < (y129.length:Int)
  rotate_left
  ·rw [if_neg c28] at H
   exact absurd H (by simp)
  rw [if_pos c28] at H
  have c28b0:=decide_eq_true c28
  clear c28
  replace H:=Option.bind_eq_some_iff.mp H
  obtain ⟨⟨t135,t136⟩,A290,H⟩:=H
  try dsimp -simprocs -eta only at H
  have A29:=Aside0.mk A290
  clear A290
  by_cases c30:(rdOf ByteArray.empty y129 t132).size + t135.size ≤ 9223372036854775807
  rotate_left
  ·rw [if_neg c30] at H
   exact absurd H (by simp)
  rw [if_pos c30] at H
  have c30b0:=eq_true c30
  have c30b1:=decide_eq_true c30
  try have c30b2:(9223372036854775807 < (rdOf ByteArray.empty y129 t132).size + t135.size) = False:=eq_false (Nat.not_lt.2 c30)
  by_cases c31:((rdOf ByteArray.empty y129 t132) ++ t135).size + 1 ≤ 9223372036854775807
  rotate_left
  ·rw [if_neg c31] at H
   exact absurd H (by simp)
  rw [if_pos c31] at H
  have c31b0:=eq_true c31
  (try (have c31b0e:=c31b0;simp only [ByteArray.size_append,ByteArray.size_extract,Nat.min_self,Nat.sub_zero] at c31b0e))
  have c31b1:=decide_eq_true c31
  (try (have c31b1e:=c31b1;simp only [ByteArray.size_append,ByteArray.size_extract,Nat.min_self,Nat.sub_zero] at c31b1e))
  try have c31b2:(9223372036854775807 < ((rdOf ByteArray.empty y129 t132) ++ t135).size + 1) = False:=eq_false (Nat.not_lt.2 c31)
  (try (have c31b2e:=c31b2;simp only [ByteArray.size_append,ByteArray.size_extract,Nat.min_self,Nat.sub_zero] at c31b2e))
  simp only [Option.some.injEq,Prod.mk.injEq] at H
  obtain ⟨rfl,rfl⟩:=H
  go_enter Tryz.func44,Tryz.ntmps44
  try go_wp2_with (first | ((with_reducible refine gate_callee (f:=42) rfl ?_);refine goesL_ (some 15) rfl rfl Tryz.func42 (by kernel_rfl) rfl #[.pointer (some ⟨g,0,none⟩),.int .i64 9] rfl q22_ ?_;(with_reducible refine (spec_l1Rd_below.calls g s0_0 s0_1 9 t123 t124 w0 _ ?side1 ?side2 A13.out).mono ?_);(case side1 => exact q58_);(case side2 => exact q50_);rintro e w32 ⟨rfl,hi,hb,hk⟩;refine ⟨_,rfl,?_⟩;have n0_:=Aside0.mk (KeepBut.trans q19_ hk (.inl rfl));have n1_:=Aside0.mk (hb);have n2_:=Aside0.mk (hi);clear HK;clear HB;clear HI0;have HK:=n0_;have HB:=n1_;have HI0:=n2_;clear n0_ n1_ n2_;(try clear hb);(try clear hk);(try clear hi)))
  have pi134:(0 ≤ (t132:Int)) = True:=eq_true (of_decide_eq_true q46_)
  have qi134:(t132 < (y129.length:Int)) = True:=eq_true (of_decide_eq_true q46_)
  have n0_:=Aside0.mk (IsS61.drew HI0.out)
  have n1_:=Aside0.mk (keep_drew HK.out)
  have n2_:=Aside0.mk (below_drew1 HB.out)
  clear HI0
  clear HK
  clear HB
  have HI0:=n0_
  have HK:=n1_
  have HB:=n2_
  clear n0_ n1_ n2_
  refine start_ (n:=12) (S:=fun w' => True) (ds:=[]) #[false,false,false,false,false,false,false,false,false,false,false,false] (by kernel_rfl) rfl rfl trivial (fun hHeld => ?_);refine with_tabW spec_l1Rd_infix.tab9 spec_l1Rd_infix.bits9 (fun HT_ HW_ => ?_)
  generalize w32.drew = w33 at HI0 HK HB hHeld ⊢
  refine pure_ (i:=1) (N:=some 34) (v:=?_) (a':=?_) #[false,true,false,false,false,false,false,false,false,false,false,false] rfl rfl (any_of HT_.out (by kernel_rfl)) (fun _ _ _ h => h) (Or.inl ⟨by rfl,?_⟩) ?_ ?_
  rotate_left
  ·intro w'
   go_simp
   with_reducible rfl
  rotate_left
  ·simp only [Act.put,List.setIfInBounds_toArray,List.set_cons_zero,List.set_cons_succ,i64_w,i32_w]
   rfl
  refine pure_ (i:=5) (N:=some 38) (v:=?_) (a':=?_) #[false,true,false,false,false,true,false,false,false,false,false,false] rfl rfl (any_of HT_.out (by kernel_rfl)) (fun _ _ _ h => h) (Or.inl ⟨by rfl,?_⟩) ?_ ?_
  rotate_left
  ·intro w'
   go_simp
   with_reducible rfl
  rotate_left
  ·simp only [Act.put,List.setIfInBounds_toArray,List.set_cons_zero,List.set_cons_succ,i64_w,i32_w]
   rfl
  refine pure_ (i:=6) (N:=some 39) (v:=?_) (a':=?_) #[false,true,false,false,false,true,true,false,false,false,false,false] rfl rfl (any_of HT_.out (by kernel_rfl)) (fun _ _ _ h => h) (Or.inl ⟨by rfl,?_⟩) ?_ ?_
  rotate_left
  ·intro w'
   go_simp
   with_reducible rfl
  rotate_left
  ·simp only [Act.put,List.setIfInBounds_toArray,List.set_cons_zero,List.set_cons_succ,i64_w,i32_w]
   rfl
  refine inv_at [0,2,3,4,7,8,9,10,11] (fun a0_ b a w' => ∃ (v130:Value) (adz_v130:Addr) (m3_:Value),a = putSel a0_ b [(0,33,v130),(2,35,.int .i64 t132),(3,36,m3_),(4,37,.string (rdOf ByteArray.empty y129 t132)),(7,40,.int .i64 (wrap64 (a1 + 1))),(8,41,.string t135),(9,42,.string ((rdOf ByteArray.empty y129 t132) ++ t135)),(10,43,.string (((rdOf ByteArray.empty y129 t132) ++ t135) ++ (⟨#[41]⟩:ByteArray))),(11,4,.string (((rdOf ByteArray.empty y129 t132) ++ t135) ++ (⟨#[41]⟩:ByteArray)))] ∧ (b 2 = false → IsS61 w0 w' g s0_0 t124) ∧ (KeepBut w w' g none) ∧ (Below w0.heap.size w0 w') ∧ (b 0 = true → Kd.R Kd.string 9 w' w.heap.size (fun _ => True) v130 y129) ∧ (b 0 = true → ∃ c_,(v130:Value) = .slice (some adz_v130) y129.length c_) ∧ (b 2 = true → b 8 = false → IsS61 w0 w' g s0_0 t133) ∧ (b 8 = true → IsS61 w0 w' g s0_0 t136) ∧ (b 3 = true → (m3_:Value) = .pointer (some (adz_v130.add (t132).toNat)))) HT_.out HW_.out (by kernel_rfl) (by kernel_rfl) ?_ ?_ ?_
  ·exact ⟨.bool false,⟨0,0,none⟩,.bool false,by simp only [putSel,Bool.false_eq_true,if_false],fun _ => HI0.out,HK.out,HB.out,fun h_ => absurd h_ (by decide),fun h_ => absurd h_ (by decide),fun h_ => absurd h_ (by decide),fun h_ => absurd h_ (by decide),fun h_ => absurd h_ (by decide)⟩
  ·skip
   clear HB HI0 HK
   refine steps_cons ?_ ?_
   ·rintro b a w' ⟨v130,adz_v130,m3_,ha,Q_HI0,Q_HK,Q_HB,Q_HO131,Q_HA_HO131,Q_HI0_e2,Q_HI0_e8,Q_X3_⟩ hb_ hon hoff
    refine ⟨_,rfl,fun K hK => ?_⟩
    replace ha:=Aside0.mk ha
    have HK:=Aside0.mk Q_HK
    have HB:=Aside0.mk Q_HB
    refine Kd.R_lit_step Kd.string _ 9 ?hg (N:=33) ?hd (xs:=([(⟨#[104,105,103,104,40]⟩:ByteArray),(⟨#[108,111,119,40]⟩:ByteArray)]:List ByteArray)) (inner:=[.string (⟨#[104,105,103,104,40]⟩:ByteArray),.string (⟨#[108,111,119,40]⟩:ByteArray)]) (ok:=fun _ => True) (okp:=fun _ => True) ?hr ?hp (fun _ hk => hk) trivial (Below.refl _ _) (Nat.le_refl _) (by simp) ?_;(case hd => rfl);(case hg => rfl);(case hr => exact q59_);(case hp => exact (Reps.one (show Kd.M Kd.string _ _ _ (⟨#[104,105,103,104,40]⟩:ByteArray) [.string (⟨#[104,105,103,104,40]⟩:ByteArray)] from rfl) (Reps.one (show Kd.M Kd.string _ _ _ (⟨#[108,111,119,40]⟩:ByteArray) [.string (⟨#[108,111,119,40]⟩:ByteArray)] from rfl) (Reps.none _ _))))
    intro v130 w34 ho35 hb hg_ hnew_
    clear hg_ hnew_
    (first | rw [← Ny129.out] at ho35 | (simp only [Int.reduceToNat] at ho35;rw [← Ny129.out] at ho35))
    have n0_:=Aside0.mk (Kd.R_lower ho35 (keep_size (w:=w) (g:=g) (row:=none) q19_))
    have n2_:=Aside0.mk (KeepBut.trans q19_ (KeepBut.of_below hb g none) (.inl rfl))
    have n3_:=Aside0.mk (below_step q24_ hb)
    have z_HI0:=fun (h0_:b 2 = false) => (show IsS61 w0 w34 g s0_0 t124 from by first | exact (IsS61.below q17_ hb))
    have z_HI0_e2:=fun (h0_:b 2 = true) (h1_:b 8 = false) => (show IsS61 w0 w34 g s0_0 t133 from by first | exact (IsS61.below (by repeat (first | (with_reducible first | exact (Q_HI0_e2 h0_ h1_) | apply IsS61.alloc | apply IsS61.drewN | apply IsS61.drew | apply IsS61.set_1) | exact (Q_HI0_e2 h0_ h1_))) hb))
    have z_HI0_e8:=fun (h0_:b 8 = true) => (show IsS61 w0 w34 g s0_0 t136 from by first | exact (IsS61.below (by repeat (first | (with_reducible first | exact (Q_HI0_e8 h0_) | apply IsS61.alloc | apply IsS61.drewN | apply IsS61.drew | apply IsS61.set_1) | exact (Q_HI0_e8 h0_))) hb))
    clear HK
    clear HB
    have HO131:=n0_
    have HK:=n2_
    have HB:=n3_
    clear n0_ n2_ n3_
    clear hb ho35
    obtain ⟨Ao36,co36,eo36⟩:=Kd.R_slice HO131.out
    subst eo36
    obtain ⟨ado36,fo36,_⟩:=Kd.at_string (Kd.R_reads' HO131.out).2.2 0 (by decide) (by rw [Ny129.out];simp)
    cases fo36
    refine hK.out _ _ ⟨.slice (some ado36) y129.length co36,ado36,m3_,(by rw [ha.out];exact putSel_upk 0 hb_ rfl rfl rfl),z_HI0,q19_,q24_,fun _ => (by (with_reducible repeat (first | apply Kd.R_alloc | apply Kd.R_drewN | apply Kd.R_drew));exact HO131.out),fun _ => ⟨_,rfl⟩,z_HI0_e2,z_HI0_e8,fun h0_ => absurd ((hoff 3 (by kernel_rfl)).symm.trans h0_) (by decide)⟩
   refine steps_cons ?_ ?_
   ·rintro b a w' ⟨v130,adz_v130,m3_,ha,Q_HI0,Q_HK,Q_HB,Q_HO131,Q_HA_HO131,Q_HI0_e2,Q_HI0_e8,Q_X3_⟩ hb_ hon hoff
    refine ⟨_,rfl,fun K hK => ?_⟩
    have e34:a.tmps[34]? = some (.pointer (some ⟨g,0,none⟩)):=by rw [ha];exact (putSel_off rfl).trans rfl
    replace ha:=Aside0.mk ha
    have HI0:=Aside0.mk (Q_HI0 hb_)
    have HK:=Aside0.mk Q_HK
    have HB:=Aside0.mk Q_HB
    refine goes_ Tryz.func42 (by kernel_rfl) rfl #[.pointer (some ⟨g,0,none⟩),.int .i64 2] (by rfl) rfl rfl (by first | (simp only [List.map_toArray,List.map_cons,List.map_nil,Act.eval,Array.getD_eq_getD_getElem?,Option.getD_some,e34];done) | (simp only [List.map_toArray,List.map_cons,List.map_nil,Act.eval,Array.getD_eq_getD_getElem?,Option.getD_some,e34];rfl)) ?_
    with_reducible refine (spec_l1Rd_below.calls g s0_0 t124 2 t132 t133 w0 _ ?side1 ?side2 A26.out).mono ?_
    (case side1 => exact q58_)
    (case side2 => exact q50_)
    rintro e w34 ⟨rfl,hi,hb,hk⟩
    refine ⟨_,rfl,?_⟩
    have n0_:=Aside0.mk (KeepBut.trans q19_ hk (.inl rfl))
    have n1_:=Aside0.mk (hb)
    have n2_:=Aside0.mk (hi)
    have z_HO131:=fun (h0_:b 0 = true) => (show Kd.R Kd.string 9 w34 w.heap.size (fun _ => True) v130 y129 from by first | exact (Kd.R_mono (Kd.R_keep (IsS61.apart (show IsS61 w0 _ g s0_0 t124 from by repeat (first | (with_reducible first | exact HI0.out | apply IsS61.alloc | apply IsS61.drewN | apply IsS61.drew | apply IsS61.set_1) | exact HI0.out)) q32_ (by decide)) hk (fun _ h => h.2)) (fun _ h => h.1)) | exact Kd.R_mono (Kd.R_mono (Kd.R_keep (IsS61.apart (show IsS61 w0 _ g s0_0 t124 from by repeat (first | (with_reducible first | exact HI0.out | apply IsS61.alloc | apply IsS61.drewN | apply IsS61.drew | apply IsS61.set_1) | exact HI0.out)) q32_ (by decide)) hk (fun _ h => h.2)) (fun _ h => h.1)) (fun _ h_ => by first | trivial | exact h_ | exact h_.1))
    clear HK
    clear HB
    clear HI0
    have HK:=n0_
    have HB:=n1_
    have HI0:=n2_
    clear n0_ n1_ n2_
    (try clear hb)
    (try clear hb2)
    (try clear hk)
    (try clear hi)
    refine hK.out _ _ ⟨v130,adz_v130,m3_,(by rw [ha.out];exact putSel_upk 1 hb_ rfl rfl rfl),fun h0_ => absurd ((up_self b 2).symm.trans h0_) (by decide),q19_,q9_,z_HO131,Q_HA_HO131,fun _ _ => q18_,fun h0_ => absurd ((hoff 8 (by kernel_rfl)).symm.trans h0_) (by decide),fun h0_ => absurd ((hoff 3 (by kernel_rfl)).symm.trans h0_) (by decide)⟩
   refine steps_cons ?_ ?_
   ·rintro b a w' ⟨v130,adz_v130,m3_,ha,Q_HI0,Q_HK,Q_HB,Q_HO131,Q_HA_HO131,Q_HI0_e2,Q_HI0_e8,Q_X3_⟩ hb_ hon hoff
    refine ⟨_,rfl,fun K hK => ?_⟩
    have e33:a.tmps[33]? = some (v130):=by rw [ha];exact putSel_on (e:=(0,33,v130)) 0 rfl rfl (hon 0 (by kernel_rfl)) rfl
    have e35:a.tmps[35]? = some (.int .i64 t132):=by rw [ha];exact putSel_on (e:=(2,35,.int .i64 t132)) 1 rfl rfl (hon 2 (by kernel_rfl)) rfl
    replace ha:=Aside0.mk ha
    have HK:=Aside0.mk Q_HK
    have HB:=Aside0.mk Q_HB
    have HO131:=Aside0.mk (Q_HO131 (hon 0 (by kernel_rfl)))
    have HA_HO131:=Aside0.mk (Q_HA_HO131 (hon 0 (by kernel_rfl)))
    obtain ⟨c_,hv_⟩:=HA_HO131.out
    rw [hv_] at e33
    refine value_ (w1:=w') (v:=.pointer (some (adz_v130.add (t132).toNat))) (by rfl) rfl ?_ ?_
    ·go_simp
     (try simp only [i64_w])
     try rfl
    refine hK.out _ _ ⟨v130,adz_v130,(.pointer (some (adz_v130.add (t132).toNat))),(by rw [ha.out];exact putSel_upk 2 hb_ rfl rfl rfl),fun h0_ => absurd ((hon 2 (by kernel_rfl)).symm.trans h0_) (by decide),Q_HK,Q_HB,Q_HO131,Q_HA_HO131,Q_HI0_e2,Q_HI0_e8,fun _ => rfl⟩
   refine steps_cons ?_ ?_
   ·rintro b a w' ⟨v130,adz_v130,m3_,ha,Q_HI0,Q_HK,Q_HB,Q_HO131,Q_HA_HO131,Q_HI0_e2,Q_HI0_e8,Q_X3_⟩ hb_ hon hoff
    refine ⟨_,rfl,fun K hK => ?_⟩
    have e36:a.tmps[36]? = some (m3_):=by rw [ha];exact putSel_on (e:=(3,36,m3_)) 2 rfl rfl (hon 3 (by kernel_rfl)) rfl
    rw [Q_X3_ (hon 3 (by kernel_rfl))] at e36
    replace ha:=Aside0.mk ha
    have HK:=Aside0.mk Q_HK
    have HB:=Aside0.mk Q_HB
    have HO131:=Aside0.mk (Q_HO131 (hon 0 (by kernel_rfl)))
    have HA_HO131:=Aside0.mk (Q_HA_HO131 (hon 0 (by kernel_rfl)))
    obtain ⟨c_,hv_⟩:=HA_HO131.out
    have hF_:=HO131.out
    rw [hv_] at hF_
    obtain ⟨ad_,ea_,hx_⟩:=Kd.at_string (Kd.R_reads' hF_).2.2 t132 (of_eq_true pi134) (of_eq_true qi134)
    cases ea_
    refine value_ (w1:=w') (v:=.string (rdOf ByteArray.empty y129 t132)) (by rfl) rfl ?_ ?_
    ·go_simp
     (try simp only [i64_w])
     try rfl
    refine hK.out _ _ ⟨v130,adz_v130,m3_,(by rw [ha.out];exact putSel_upk 3 hb_ rfl rfl rfl),fun h0_ => absurd ((hon 2 (by kernel_rfl)).symm.trans h0_) (by decide),Q_HK,Q_HB,Q_HO131,Q_HA_HO131,Q_HI0_e2,Q_HI0_e8,Q_X3_⟩
   refine steps_cons ?_ ?_
   ·rintro b a w' ⟨v130,adz_v130,m3_,ha,Q_HI0,Q_HK,Q_HB,Q_HO131,Q_HA_HO131,Q_HI0_e2,Q_HI0_e8,Q_X3_⟩ hb_ hon hoff
    refine ⟨_,rfl,fun K hK => ?_⟩
    have e39:a.tmps[39]? = some (.int .i64 a1):=by rw [ha];exact (putSel_off rfl).trans rfl
    replace ha:=Aside0.mk ha
    have HK:=Aside0.mk Q_HK
    have HB:=Aside0.mk Q_HB
    refine value_ (w1:=w') (v:=.int .i64 (wrap64 (a1 + 1))) (by rfl) rfl ?_ ?_
    ·go_simp
     (try simp only [i64_w])
     try rfl
    refine hK.out _ _ ⟨v130,adz_v130,m3_,(by rw [ha.out];exact putSel_upk 4 hb_ rfl rfl rfl),Q_HI0,Q_HK,Q_HB,Q_HO131,Q_HA_HO131,Q_HI0_e2,fun h0_ => absurd ((hoff 8 (by kernel_rfl)).symm.trans h0_) (by decide),Q_X3_⟩
   refine steps_cons ?_ ?_
   ·rintro b a w' ⟨v130,adz_v130,m3_,ha,Q_HI0,Q_HK,Q_HB,Q_HO131,Q_HA_HO131,Q_HI0_e2,Q_HI0_e8,Q_X3_⟩ hb_ hon hoff
    refine ⟨_,rfl,fun K hK => ?_⟩
    have e38:a.tmps[38]? = some (.pointer (some ⟨g,0,none⟩)):=by rw [ha];exact (putSel_off rfl).trans rfl
    have e40:a.tmps[40]? = some (.int .i64 (wrap64 (a1 + 1))):=by rw [ha];exact putSel_on (e:=(7,40,.int .i64 (wrap64 (a1 + 1)))) 4 rfl rfl (hon 7 (by kernel_rfl)) rfl
    replace ha:=Aside0.mk ha
    have HK:=Aside0.mk Q_HK
    have HB:=Aside0.mk Q_HB
    have HI0:=Aside0.mk (Q_HI0_e2 (hon 2 (by kernel_rfl)) hb_)
    refine goes_ Tryz.func44 (by kernel_rfl) rfl #[.pointer (some ⟨g,0,none⟩),.int .i64 (wrap64 (a1 + 1))] (by rfl) rfl rfl (by first | (simp only [List.map_toArray,List.map_cons,List.map_nil,Act.eval,Array.getD_eq_getD_getElem?,Option.getD_some,e38,e40];done) | (simp only [List.map_toArray,List.map_cons,List.map_nil,Act.eval,Array.getD_eq_getD_getElem?,Option.getD_some,e38,e40];rfl)) ?_
    with_reducible refine (ih k (by omega) g s0_0 t133 (wrap64 (a1 + 1)) t135 t136 w0 _ ?side1 ?side2 A29.out).mono ?_
    (case side1 => exact q58_)
    (case side2 => exact q50_)
    rintro e w36 ⟨rfl,hi,hb,hk⟩
    refine ⟨_,rfl,?_⟩
    have n0_:=Aside0.mk (KeepBut.trans q19_ hk (.inl rfl))
    have n1_:=Aside0.mk (hb)
    have n2_:=Aside0.mk (hi)
    have z_HO131:=fun (h0_:b 0 = true) => (show Kd.R Kd.string 9 w36 w.heap.size (fun _ => True) v130 y129 from by first | exact (Kd.R_mono (Kd.R_keep (IsS61.apart (show IsS61 w0 _ g s0_0 t133 from by repeat (first | (with_reducible first | exact HI0.out | apply IsS61.alloc | apply IsS61.drewN | apply IsS61.drew | apply IsS61.set_1) | exact HI0.out)) q32_ (by decide)) hk (fun _ h => h.2)) (fun _ h => h.1)) | exact Kd.R_mono (Kd.R_mono (Kd.R_keep (IsS61.apart (show IsS61 w0 _ g s0_0 t133 from by repeat (first | (with_reducible first | exact HI0.out | apply IsS61.alloc | apply IsS61.drewN | apply IsS61.drew | apply IsS61.set_1) | exact HI0.out)) q32_ (by decide)) hk (fun _ h => h.2)) (fun _ h => h.1)) (fun _ h_ => by first | trivial | exact h_ | exact h_.1))
    clear HK
    clear HB
    clear HI0
    have HK:=n0_
    have HB:=n1_
    have HI0:=n2_
    clear n0_ n1_ n2_
    (try clear hb)
    (try clear hb2)
    (try clear hk)
    (try clear hi)
    refine hK.out _ _ ⟨v130,adz_v130,m3_,(by rw [ha.out];exact putSel_upk 5 hb_ rfl rfl rfl),fun h0_ => absurd ((hon 2 (by kernel_rfl)).symm.trans h0_) (by decide),q19_,q9_,z_HO131,Q_HA_HO131,fun _ h1_ => absurd ((up_self b 8).symm.trans h1_) (by decide),fun _ => q18_,Q_X3_⟩
   refine steps_cons ?_ ?_
   ·rintro b a w' ⟨v130,adz_v130,m3_,ha,Q_HI0,Q_HK,Q_HB,Q_HO131,Q_HA_HO131,Q_HI0_e2,Q_HI0_e8,Q_X3_⟩ hb_ hon hoff
    refine ⟨_,rfl,fun K hK => ?_⟩
    have e37:a.tmps[37]? = some (.string (rdOf ByteArray.empty y129 t132)):=by rw [ha];exact putSel_on (e:=(4,37,.string (rdOf ByteArray.empty y129 t132))) 3 rfl rfl (hon 4 (by kernel_rfl)) rfl
    have e41:a.tmps[41]? = some (.string t135):=by rw [ha];exact putSel_on (e:=(8,41,.string t135)) 5 rfl rfl (hon 8 (by kernel_rfl)) rfl
    replace ha:=Aside0.mk ha
    have HK:=Aside0.mk Q_HK
    have HB:=Aside0.mk Q_HB
    have HO131:=Aside0.mk (Q_HO131 (hon 0 (by kernel_rfl)))
    have HA_HO131:=Aside0.mk (Q_HA_HO131 (hon 0 (by kernel_rfl)))
    have HI0:=Aside0.mk (Q_HI0_e8 (hon 8 (by kernel_rfl)))
    refine value_ (w1:=w') (v:=.string ((rdOf ByteArray.empty y129 t132) ++ t135)) (by rfl) rfl ?_ ?_
    ·go_simp
     (try simp only [i64_w])
     try rfl
    refine hK.out _ _ ⟨v130,adz_v130,m3_,(by rw [ha.out];exact putSel_upk 6 hb_ rfl rfl rfl),fun h0_ => absurd ((hon 2 (by kernel_rfl)).symm.trans h0_) (by decide),Q_HK,Q_HB,Q_HO131,Q_HA_HO131,fun _ h1_ => absurd ((hon 8 (by kernel_rfl)).symm.trans h1_) (by decide),Q_HI0_e8,Q_X3_⟩
   refine steps_cons ?_ ?_
   ·rintro b a w' ⟨v130,adz_v130,m3_,ha,Q_HI0,Q_HK,Q_HB,Q_HO131,Q_HA_HO131,Q_HI0_e2,Q_HI0_e8,Q_X3_⟩ hb_ hon hoff
    refine ⟨_,rfl,fun K hK => ?_⟩
    have e42:a.tmps[42]? = some (.string ((rdOf ByteArray.empty y129 t132) ++ t135)):=by rw [ha];exact putSel_on (e:=(9,42,.string ((rdOf ByteArray.empty y129 t132) ++ t135))) 6 rfl rfl (hon 9 (by kernel_rfl)) rfl
    replace ha:=Aside0.mk ha
    have HK:=Aside0.mk Q_HK
    have HB:=Aside0.mk Q_HB
    have HO131:=Aside0.mk (Q_HO131 (hon 0 (by kernel_rfl)))
    have HA_HO131:=Aside0.mk (Q_HA_HO131 (hon 0 (by kernel_rfl)))
    have HI0:=Aside0.mk (Q_HI0_e8 (hon 8 (by kernel_rfl)))
    refine value_ (w1:=w') (v:=.string (((rdOf ByteArray.empty y129 t132) ++ t135) ++ (⟨#[41]⟩:ByteArray))) (by rfl) rfl ?_ ?_
    ·go_simp
     (try simp only [i64_w])
     try rfl
    refine hK.out _ _ ⟨v130,adz_v130,m3_,(by rw [ha.out];exact putSel_upk 7 hb_ rfl rfl rfl),fun h0_ => absurd ((hon 2 (by kernel_rfl)).symm.trans h0_) (by decide),Q_HK,Q_HB,Q_HO131,Q_HA_HO131,fun _ h1_ => absurd ((hon 8 (by kernel_rfl)).symm.trans h1_) (by decide),Q_HI0_e8,Q_X3_⟩
   refine steps_cons ?_ ?_
   ·rintro b a w' ⟨v130,adz_v130,m3_,ha,Q_HI0,Q_HK,Q_HB,Q_HO131,Q_HA_HO131,Q_HI0_e2,Q_HI0_e8,Q_X3_⟩ hb_ hon hoff
    refine ⟨_,rfl,fun K hK => ?_⟩
    have e43:a.tmps[43]? = some (.string (((rdOf ByteArray.empty y129 t132) ++ t135) ++ (⟨#[41]⟩:ByteArray))):=by rw [ha];exact putSel_on (e:=(10,43,.string (((rdOf ByteArray.empty y129 t132) ++ t135) ++ (⟨#[41]⟩:ByteArray)))) 7 rfl rfl (hon 10 (by kernel_rfl)) rfl
    replace ha:=Aside0.mk ha
    have HK:=Aside0.mk Q_HK
    have HB:=Aside0.mk Q_HB
    have HO131:=Aside0.mk (Q_HO131 (hon 0 (by kernel_rfl)))
    have HA_HO131:=Aside0.mk (Q_HA_HO131 (hon 0 (by kernel_rfl)))
    have HI0:=Aside0.mk (Q_HI0_e8 (hon 8 (by kernel_rfl)))
    refine value_ (w1:=w') (v:=.string (((rdOf ByteArray.empty y129 t132) ++ t135) ++ (⟨#[41]⟩:ByteArray))) (by rfl) rfl ?_ ?_
    ·go_simp
     (try simp only [i64_w])
     try rfl
    refine hK.out _ _ ⟨v130,adz_v130,m3_,(by rw [ha.out];exact putSel_upk 8 hb_ rfl rfl rfl),fun h0_ => absurd ((hon 2 (by kernel_rfl)).symm.trans h0_) (by decide),Q_HK,Q_HB,Q_HO131,Q_HA_HO131,fun _ h1_ => absurd ((hon 8 (by kernel_rfl)).symm.trans h1_) (by decide),Q_HI0_e8,Q_X3_⟩
   exact steps_nil
  rintro b a w39 hall ⟨v130,adz_v130,m3_,ha,Q_HI0,Q_HK,Q_HB,Q_HO131,Q_HA_HO131,Q_HI0_e2,Q_HI0_e8,Q_X3_⟩
  clear HB HI0 HK
  have hb0_:=hall 0 (by kernel_rfl)
  have hb2_:=hall 2 (by kernel_rfl)
  have hb3_:=hall 3 (by kernel_rfl)
  have hb4_:=hall 4 (by kernel_rfl)
  have hb7_:=hall 7 (by kernel_rfl)
  have hb8_:=hall 8 (by kernel_rfl)
  have hb9_:=hall 9 (by kernel_rfl)
  have hb10_:=hall 10 (by kernel_rfl)
  have hb11_:=hall 11 (by kernel_rfl)
  subst ha
  obtain rfl:=Q_X3_ hb3_
  simp only [putSel,hb0_,hb2_,hb3_,hb4_,hb7_,hb8_,hb9_,hb10_,hb11_,if_true,Act.put,List.setIfInBounds_toArray,List.set_cons_zero,List.set_cons_succ]
  clear Q_HI0
  have HK:=Aside0.mk Q_HK
  clear Q_HK
  have HB:=Aside0.mk Q_HB
  clear Q_HB
  have HO131:=Aside0.mk (Q_HO131 hb0_)
  clear Q_HO131
  have HA_HO131:=Aside0.mk (Q_HA_HO131 hb0_)
  clear Q_HA_HO131
  clear Q_HI0_e2
  have HI0:=Aside0.mk (Q_HI0_e8 hb8_)
  clear Q_HI0_e8
  clear hall hb0_ hb2_ hb3_ hb4_ hb7_ hb8_ hb9_ hb10_ hb11_
  obtain ⟨co40,eo40⟩:=HA_HO131.out
  clear HA_HO131
  subst eo40
  try go_wp2
  go_ret
  exact ⟨q26_,q18_,q9_,q19_⟩
 rw [if_neg c25] at H
 have c25b0:(t123 == 2) = false:=beq_eq_false_iff_ne.mpr c25
 have c25b1:(t123 != 2) = true:=bne_iff_ne.mpr c25
 by_cases c41:t123 = 3
 ·rw [if_pos c41] at H
  have c41b0:(t123 == 3) = true:=beq_iff_eq.mpr c41
  have c41b1:(t123 != 3) = false:=bne_eq_false_iff_eq.mpr c41
  clear c41
  replace H:=Option.bind_eq_some_iff.mp H
  obtain ⟨⟨t137,t138⟩,A420,H⟩:=H
  try dsimp -simprocs -eta only at H
  have A42:=Aside0.mk A420
  clear A420
  by_cases c43:5 + t137.size ≤ 9223372036854775807
  rotate_left
  ·rw [if_neg c43] at H
   exact absurd H (by simp)
  rw [if_pos c43] at H
  have c43b0:=eq_true c43
  have c43b1:=decide_eq_true c43
  try have c43b2:(9223372036854775807 < 5 + t137.size) = False:=eq_false (Nat.not_lt.2 c43)
  by_cases c44:((⟨#[98,97,110,107,40]⟩:ByteArray) ++ t137).size + 1 ≤ 9223372036854775807
  rotate_left
  ·rw [if_neg c44] at H
   exact absurd H (by simp)
  rw [if_pos c44] at H
  have c44b0:=eq_true c44
  (try (have c44b0e:=c44b0;simp only [ByteArray.size_append,ByteArray.size_extract,Nat.min_self,Nat.sub_zero,show (⟨#[98,97,110,107,40]⟩:ByteArray).size = 5 from rfl] at c44b0e))
  have c44b1:=decide_eq_true c44
  (try (have c44b1e:=c44b1;simp only [ByteArray.size_append,ByteArray.size_extract,Nat.min_self,Nat.sub_zero,show (⟨#[98,97,110,107,40]⟩:ByteArray).size = 5 from rfl] at c44b1e))
  try have c44b2:(9223372036854775807 < ((⟨#[98,97,110,107,40]⟩:ByteArray) ++ t137).size + 1) = False:=eq_false (Nat.not_lt.2 c44)
  (try (have c44b2e:=c44b2;simp only [ByteArray.size_append,ByteArray.size_extract,Nat.min_self,Nat.sub_zero,show (⟨#[98,97,110,107,40]⟩:ByteArray).size = 5 from rfl] at c44b2e))
  simp only [Option.some.injEq,Prod.mk.injEq] at H
  obtain ⟨rfl,rfl⟩:=H
  go_enter Tryz.func44,Tryz.ntmps44
  go_wp2_with (first | ((with_reducible refine gate_callee (f:=42) rfl ?_);refine goesL_ (some 15) rfl rfl Tryz.func42 (by kernel_rfl) rfl #[.pointer (some ⟨g,0,none⟩),.int .i64 9] rfl q22_ ?_;(with_reducible refine (spec_l1Rd_below.calls g s0_0 s0_1 9 t123 t124 w0 _ ?side1 ?side2 A13.out).mono ?_);(case side1 => exact q58_);(case side2 => exact q50_);rintro e w45 ⟨rfl,hi,hb,hk⟩;refine ⟨_,rfl,?_⟩;have n0_:=Aside0.mk (KeepBut.trans q19_ hk (.inl rfl));have n1_:=Aside0.mk (hb);have n2_:=Aside0.mk (hi);clear HK;clear HB;clear HI0;have HK:=n0_;have HB:=n1_;have HI0:=n2_;clear n0_ n1_ n2_;(try clear hb);(try clear hk);(try clear hi)) | ((with_reducible refine gate_callee (f:=66) rfl ?_);refine goesL_ (some 47) rfl rfl Tryz.func66 (by kernel_rfl) rfl #[.pointer (some ⟨g,0,none⟩)] rfl q22_ ?_;(with_reducible refine (spec_l1Rd_name.calls g s0_0 t124 t137 t138 w0 _ ?side1 ?side2 A42.out).mono ?_);(case side1 => exact q58_);(case side2 => exact q50_);rintro e w46 ⟨rfl,hi,hb,hk⟩;refine ⟨_,rfl,?_⟩;have n0_:=Aside0.mk (KeepBut.trans q19_ hk (.inl rfl));have n1_:=Aside0.mk (hb);have n2_:=Aside0.mk (hi);clear HK;clear HB;clear HI0;have HK:=n0_;have HB:=n1_;have HI0:=n2_;clear n0_ n1_ n2_;(try clear hb);(try clear hk);(try clear hi)))
  go_ret
  exact ⟨q26_,q18_,q9_,q19_⟩
 rw [if_neg c41] at H
 have c41b0:(t123 == 3) = false:=beq_eq_false_iff_ne.mpr c41
 have c41b1:(t123 != 3) = true:=bne_iff_ne.mpr c41
 have HC47:=Aside0.mk H
 clear H
 go_enter Tryz.func44,Tryz.ntmps44
 go_upto_if 50 with (first | ((with_reducible refine gate_callee (f:=42) rfl ?_);refine goesL_ (some 15) rfl rfl Tryz.func42 (by kernel_rfl) rfl #[.pointer (some ⟨g,0,none⟩),.int .i64 9] rfl q22_ ?_;(with_reducible refine (spec_l1Rd_below.calls g s0_0 s0_1 9 t123 t124 w0 _ ?side1 ?side2 A13.out).mono ?_);(case side1 => exact q58_);(case side2 => exact q50_);rintro e w48 ⟨rfl,hi,hb,hk⟩;refine ⟨_,rfl,?_⟩;have n0_:=Aside0.mk (KeepBut.trans q19_ hk (.inl rfl));have n1_:=Aside0.mk (hb);have n2_:=Aside0.mk (hi);clear HK;clear HB;clear HI0;have HK:=n0_;have HB:=n1_;have HI0:=n2_;clear n0_ n1_ n2_;(try clear hb);(try clear hk);(try clear hi)))
 (try simp only [Act.put,List.setIfInBounds_toArray,List.set_cons_zero,List.set_cons_succ])
 go_cut [50] (fun v50 wc => ∃ (kq:Nat) (x50_46:Bool),v50 = .bool x50_46 ∧ Aside0 (spec_l1Rd_infix.j0 kq a1 t123 x50_46 s0_0 t124 = some (r1,r2)) ∧ Aside0 (kq ≤ k) ∧ Aside0 (IsS61 w0 wc g s0_0 t124) ∧ Aside0 (KeepBut w wc g none) ∧ Aside0 (Below w0.heap.size w0 wc))
 case first =>
  have H:=HC47.out
  clear HC47
  by_cases c49:t123 = 4
  ·rw [if_pos c49] at H
   have c49b0:(t123 == 4) = true:=beq_iff_eq.mpr c49
   have c49b1:(t123 != 4) = false:=bne_eq_false_iff_eq.mpr c49
   clear c49
   (first | rw [c49b0] | (simp only [i64_w,i32_w];rw [c49b0]) | rw [c49b9] | skip)
   have H':=Aside0.mk H
   clear H
   go_wp2
   go_meet
   case rel => exact ⟨_,((t123 == 4)),q31_,H',⟨q48_⟩,⟨q18_⟩,⟨q19_⟩,⟨q9_⟩⟩
  rw [if_neg c49] at H
  have c49b0:(t123 == 4) = false:=beq_eq_false_iff_ne.mpr c49
  have c49b1:(t123 != 4) = true:=bne_iff_ne.mpr c49
  (first | rw [c49b0] | (simp only [i64_w,i32_w];rw [c49b0]) | rw [c49b9] | skip)
  have H':=Aside0.mk H
  clear H
  go_wp2
  go_meet
  case rel => exact ⟨_,((t123 == 5)),q31_,H',⟨q48_⟩,⟨q18_⟩,⟨q19_⟩,⟨q9_⟩⟩
 clear HC47
 try clear c1
 try clear p1
 try clear q1
 try clear hx1
 try clear qi1
 try clear c2
 try clear p2
 try clear c3
 try clear c3b0
 try clear c4
 try clear c6
 try clear c6b0
 try clear p6
 try clear c7
 try clear c7b0
 try clear p12
 try clear q12
 try clear hx12
 try clear qi13
 try clear c14
 try clear c14b0
 try clear c14b1
 try clear c16
 try clear c16b0
 try clear c16b1
 try clear c16b2
 try clear c19
 try clear c19b0
 try clear c19b1
 try clear c21
 try clear c21b0
 try clear c21b1
 try clear c21b2
 try clear c22
 try clear c22b0
 try clear c22b1
 try clear c22b2
 try clear c25
 try clear c25b0
 try clear c25b1
 try clear c27
 try clear c27b0
 try clear c28
 try clear c28b0
 try clear c30
 try clear c30b0
 try clear c30b1
 try clear c30b2
 try clear c31
 try clear c31b0
 try clear c31b1
 try clear c31b2
 try clear c41
 try clear c41b0
 try clear c41b1
 try clear c42
 try clear c43
 try clear c43b0
 try clear c43b1
 try clear c43b2
 try clear c44
 try clear c44b0
 try clear c44b1
 try clear c44b2
 try clear c49
 try clear c49b0
 try clear c49b1
 try clear hx122_0
 try clear p122
 try clear q122
 obtain ⟨kq,x50_46,rfl,HA,HJ46,HI0,HK,HB⟩:=hcut
 cases kq with
 | zero => exact absurd HA.out (by simp [spec_l1Rd_infix.j0])
 | succ kj46 =>
  have H:=HA.out
  clear HA
  simp only [spec_l1Rd_infix.j0] at H
  by_cases c50:x50_46 = true
  ·subst c50
   rewrite [if_pos rfl] at H
   replace H:=Option.bind_eq_some_iff.mp H
   obtain ⟨⟨t139,t140⟩,A510,H⟩:=H
   try dsimp -simprocs -eta only at H
   have A51:=Aside0.mk A510
   clear A510
   obtain ⟨y141,hy141⟩:∃ y_:List ByteArray,y_ = (([(⟨#[43]⟩:ByteArray),(⟨#[45]⟩:ByteArray),(⟨#[42]⟩:ByteArray),(⟨#[47]⟩:ByteArray),(⟨#[37]⟩:ByteArray),(⟨#[38]⟩:ByteArray),(⟨#[94]⟩:ByteArray),(⟨#[124]⟩:ByteArray),(⟨#[60,60]⟩:ByteArray),(⟨#[62,62]⟩:ByteArray)]:List ByteArray)):=⟨_,rfl⟩
   replace H:((spec_l1Rd_below.f s0_0 t140 10).bind fun bt144 => (if 0 ≤ bt144.1 then (if bt144.1 < (y141.length:Int) then (if t139.size + (rdOf ByteArray.empty y141 bt144.1).size ≤ 9223372036854775807 then ((spec_l1Rd_infix.f kj46 s0_0 bt144.2 (wrap64 (a1 + 1))).bind fun bt147 => (if (t139 ++ (rdOf ByteArray.empty y141 bt144.1)).size + bt147.1.size ≤ 9223372036854775807 then (some ((t139 ++ (rdOf ByteArray.empty y141 bt144.1)) ++ bt147.1,bt147.2)) else (none))) else (none)) else (none)) else (none))) = some (r1,r2):=by first | (rw [hy141];exact H) | exact H
   have Ny141:=Aside0.mk hy141
   clear hy141
   replace H:=Option.bind_eq_some_iff.mp H
   obtain ⟨⟨t144,t145⟩,A520,H⟩:=H
   try dsimp -simprocs -eta only at H
   have A52:=Aside0.mk A520
   clear A520
   by_cases c53:0 ≤ t144
   rotate_left
   ·rw [if_neg c53] at H
    exact absurd H (by simp)
   rw [if_pos c53] at H
   have c53b0:=decide_eq_true c53
   clear c53
   by_cases c54:t144 < (y141.length:Int)
   rotate_left
   ·rw [if_neg c54] at H
    exact absurd H (by simp)
   rw [if_pos c54] at H
   have c54b0:=decide_eq_true c54
   clear c54
   by_cases c55:t139.size + (rdOf ByteArray.empty y141 t144).size ≤ 9223372036854775807
   rotate_left
   ·rw [if_neg c55] at H
    exact absurd H (by simp)
   rw [if_pos c55] at H
   have c55b0:=eq_true c55
   have c55b1:=decide_eq_true c55
   try have c55b2:(9223372036854775807 < t139.size + (rdOf ByteArray.empty y141 t144).size) = False:=eq_false (Nat.not_lt.2 c55)
   replace H:=Option.bind_eq_some_iff.mp H
   obtain ⟨⟨t147,t148⟩,A560,H⟩:=H
   try dsimp -simprocs -eta only at H
   have A56:=Aside0.mk A560
   clear A560
   by_cases c57:(t139 ++ (rdOf ByteArray.empty y141 t144)).size + t147.size ≤ 9223372036854775807
   rotate_left
   ·rw [if_neg c57] at H
    exact absurd H (by simp)
   rw [if_pos c57] at H
   have c57b0:=eq_true c57
   (try (have c57b0e:=c57b0;simp only [ByteArray.size_append,ByteArray.size_extract,Nat.min_self,Nat.sub_zero] at c57b0e))
   have c57b1:=decide_eq_true c57
   (try (have c57b1e:=c57b1;simp only [ByteArray.size_append,ByteArray.size_extract,Nat.min_self,Nat.sub_zero] at c57b1e))
   try have c57b2:(9223372036854775807 < (t139 ++ (rdOf ByteArray.empty y141 t144)).size + t147.size) = False:=eq_false (Nat.not_lt.2 c57)
   (try (have c57b2e:=c57b2;simp only [ByteArray.size_append,ByteArray.size_extract,Nat.min_self,Nat.sub_zero] at c57b2e))
   simp only [Option.some.injEq,Prod.mk.injEq] at H
   obtain ⟨rfl,rfl⟩:=H
   try go_wp2
   have pi146:(0 ≤ (t144:Int)) = True:=eq_true (of_decide_eq_true q46_)
   have qi146:(t144 < (y141.length:Int)) = True:=eq_true (of_decide_eq_true q46_)
   have n0_:=Aside0.mk (IsS61.drew HI0.out)
   have n1_:=Aside0.mk (keep_drew HK.out)
   have n2_:=Aside0.mk (below_drew1 HB.out)
   clear HI0
   clear HK
   clear HB
   have HI0:=n0_
   have HK:=n1_
   have HB:=n2_
   clear n0_ n1_ n2_
   refine start_ (n:=16) (S:=fun w' => True) (ds:=[]) #[false,false,false,false,false,false,false,false,false,false,false,false,false,false,false,false] (by kernel_rfl) rfl rfl trivial (fun hHeld => ?_);refine with_tabW spec_l1Rd_infix.tab14 spec_l1Rd_infix.bits14 (fun HT_ HW_ => ?_)
   generalize wc.drew = w58 at HI0 HK HB hHeld ⊢
   refine pure_ (i:=0) (N:=some 53) (v:=?_) (a':=?_) #[true,false,false,false,false,false,false,false,false,false,false,false,false,false,false,false] rfl rfl (any_of HT_.out (by kernel_rfl)) (fun _ _ _ h => h) (Or.inl ⟨by rfl,?_⟩) ?_ ?_
   rotate_left
   ·intro w'
    go_simp
    with_reducible rfl
   rotate_left
   ·simp only [Act.put,List.setIfInBounds_toArray,List.set_cons_zero,List.set_cons_succ,i64_w,i32_w]
    rfl
   refine pure_ (i:=1) (N:=some 54) (v:=?_) (a':=?_) #[true,true,false,false,false,false,false,false,false,false,false,false,false,false,false,false] rfl rfl (any_of HT_.out (by kernel_rfl)) (fun _ _ _ h => h) (Or.inl ⟨by rfl,?_⟩) ?_ ?_
   rotate_left
   ·intro w'
    go_simp
    with_reducible rfl
   rotate_left
   ·simp only [Act.put,List.setIfInBounds_toArray,List.set_cons_zero,List.set_cons_succ,i64_w,i32_w]
    rfl
   refine pure_ (i:=5) (N:=some 58) (v:=?_) (a':=?_) #[true,true,false,false,false,true,false,false,false,false,false,false,false,false,false,false] rfl rfl (any_of HT_.out (by kernel_rfl)) (fun _ _ _ h => h) (Or.inl ⟨by rfl,?_⟩) ?_ ?_
   rotate_left
   ·intro w'
    go_simp
    with_reducible rfl
   rotate_left
   ·simp only [Act.put,List.setIfInBounds_toArray,List.set_cons_zero,List.set_cons_succ,i64_w,i32_w]
    rfl
   refine pure_ (i:=10) (N:=some 63) (v:=?_) (a':=?_) #[true,true,false,false,false,true,false,false,false,false,true,false,false,false,false,false] rfl rfl (any_of HT_.out (by kernel_rfl)) (fun _ _ _ h => h) (Or.inl ⟨by rfl,?_⟩) ?_ ?_
   rotate_left
   ·intro w'
    go_simp
    with_reducible rfl
   rotate_left
   ·simp only [Act.put,List.setIfInBounds_toArray,List.set_cons_zero,List.set_cons_succ,i64_w,i32_w]
    rfl
   refine pure_ (i:=11) (N:=some 64) (v:=?_) (a':=?_) #[true,true,false,false,false,true,false,false,false,false,true,true,false,false,false,false] rfl rfl (any_of HT_.out (by kernel_rfl)) (fun _ _ _ h => h) (Or.inl ⟨by rfl,?_⟩) ?_ ?_
   rotate_left
   ·intro w'
    go_simp
    with_reducible rfl
   rotate_left
   ·simp only [Act.put,List.setIfInBounds_toArray,List.set_cons_zero,List.set_cons_succ,i64_w,i32_w]
    rfl
   refine inv_at [2,3,4,6,7,8,9,12,13,14,15] (fun a0_ b a w' => ∃ (v142:Value) (adz_v142:Addr) (m7_:Value),a = putSel a0_ b [(2,55,.int .i64 (wrap64 (a1 + 1))),(3,56,.string t139),(4,57,v142),(6,59,.int .i64 t144),(7,60,m7_),(8,61,.string (rdOf ByteArray.empty y141 t144)),(9,62,.string (t139 ++ (rdOf ByteArray.empty y141 t144))),(12,65,.int .i64 (wrap64 (a1 + 1))),(13,66,.string t147),(14,67,.string ((t139 ++ (rdOf ByteArray.empty y141 t144)) ++ t147)),(15,4,.string ((t139 ++ (rdOf ByteArray.empty y141 t144)) ++ t147))] ∧ (b 3 = false → IsS61 w0 w' g s0_0 t124) ∧ (KeepBut w w' g none) ∧ (Below w0.heap.size w0 w') ∧ (b 3 = true → b 6 = false → IsS61 w0 w' g s0_0 t140) ∧ (b 4 = true → Kd.R Kd.string 9 w' w.heap.size (fun _ => True) v142 y141) ∧ (b 4 = true → ∃ c_,(v142:Value) = .slice (some adz_v142) y141.length c_) ∧ (b 6 = true → b 13 = false → IsS61 w0 w' g s0_0 t145) ∧ (b 13 = true → IsS61 w0 w' g s0_0 t148) ∧ (b 7 = true → (m7_:Value) = .pointer (some (adz_v142.add (t144).toNat)))) HT_.out HW_.out (by kernel_rfl) (by kernel_rfl) ?_ ?_ ?_
   ·exact ⟨.bool false,⟨0,0,none⟩,.bool false,by simp only [putSel,Bool.false_eq_true,if_false],fun _ => HI0.out,HK.out,HB.out,fun h_ => absurd h_ (by decide),fun h_ => absurd h_ (by decide),fun h_ => absurd h_ (by decide),fun h_ => absurd h_ (by decide),fun h_ => absurd h_ (by decide),fun h_ => absurd h_ (by decide)⟩
   ·skip
    clear HB HI0 HK
    refine steps_cons ?_ ?_
    ·rintro b a w' ⟨v142,adz_v142,m7_,ha,Q_HI0,Q_HK,Q_HB,Q_HI0_e3,Q_HO143,Q_HA_HO143,Q_HI0_e6,Q_HI0_e13,Q_X7_⟩ hb_ hon hoff
     refine ⟨_,rfl,fun K hK => ?_⟩
     have e54:a.tmps[54]? = some (.int .i64 a1):=by rw [ha];exact (putSel_off rfl).trans rfl
     replace ha:=Aside0.mk ha
     have HI0:=Aside0.mk (Q_HI0 (hoff 3 (by kernel_rfl)))
     have HK:=Aside0.mk Q_HK
     have HB:=Aside0.mk Q_HB
     refine value_ (w1:=w') (v:=.int .i64 (wrap64 (a1 + 1))) (by rfl) rfl ?_ ?_
     ·go_simp
      (try simp only [i64_w])
      try rfl
     refine hK.out _ _ ⟨v142,adz_v142,m7_,(by rw [ha.out];exact putSel_upk 0 hb_ rfl rfl rfl),Q_HI0,Q_HK,Q_HB,fun h0_ _ => absurd ((hoff 3 (by kernel_rfl)).symm.trans h0_) (by decide),Q_HO143,Q_HA_HO143,fun h0_ _ => absurd ((hoff 6 (by kernel_rfl)).symm.trans h0_) (by decide),fun h0_ => absurd ((hoff 13 (by kernel_rfl)).symm.trans h0_) (by decide),fun h0_ => absurd ((hoff 7 (by kernel_rfl)).symm.trans h0_) (by decide)⟩
    refine steps_cons ?_ ?_
    ·rintro b a w' ⟨v142,adz_v142,m7_,ha,Q_HI0,Q_HK,Q_HB,Q_HI0_e3,Q_HO143,Q_HA_HO143,Q_HI0_e6,Q_HI0_e13,Q_X7_⟩ hb_ hon hoff
     refine ⟨_,rfl,fun K hK => ?_⟩
     have e53:a.tmps[53]? = some (.pointer (some ⟨g,0,none⟩)):=by rw [ha];exact (putSel_off rfl).trans rfl
     have e55:a.tmps[55]? = some (.int .i64 (wrap64 (a1 + 1))):=by rw [ha];exact putSel_on (e:=(2,55,.int .i64 (wrap64 (a1 + 1)))) 0 rfl rfl (hon 2 (by kernel_rfl)) rfl
     replace ha:=Aside0.mk ha
     have HI0:=Aside0.mk (Q_HI0 hb_)
     have HK:=Aside0.mk Q_HK
     have HB:=Aside0.mk Q_HB
     refine goes_ Tryz.func44 (by kernel_rfl) rfl #[.pointer (some ⟨g,0,none⟩),.int .i64 (wrap64 (a1 + 1))] (by rfl) rfl rfl (by first | (simp only [List.map_toArray,List.map_cons,List.map_nil,Act.eval,Array.getD_eq_getD_getElem?,Option.getD_some,e53,e55];done) | (simp only [List.map_toArray,List.map_cons,List.map_nil,Act.eval,Array.getD_eq_getD_getElem?,Option.getD_some,e53,e55];rfl)) ?_
     with_reducible refine (ih kj46 (by have:=HJ46.out;omega) g s0_0 t124 (wrap64 (a1 + 1)) t139 t140 w0 _ ?side1 ?side2 A51.out).mono ?_
     (case side1 => exact q58_)
     (case side2 => exact q50_)
     rintro e w59 ⟨rfl,hi,hb,hk⟩
     refine ⟨_,rfl,?_⟩
     have n0_:=Aside0.mk (KeepBut.trans q19_ hk (.inl rfl))
     have n1_:=Aside0.mk (hb)
     have n2_:=Aside0.mk (hi)
     have z_HO143:=fun (h0_:b 4 = true) => (show Kd.R Kd.string 9 w59 w.heap.size (fun _ => True) v142 y141 from by first | exact (Kd.R_mono (Kd.R_keep (IsS61.apart (show IsS61 w0 _ g s0_0 t124 from by repeat (first | (with_reducible first | exact HI0.out | apply IsS61.alloc | apply IsS61.drewN | apply IsS61.drew | apply IsS61.set_1) | exact HI0.out)) q33_ (by decide)) hk (fun _ h => h.2)) (fun _ h => h.1)) | exact Kd.R_mono (Kd.R_mono (Kd.R_keep (IsS61.apart (show IsS61 w0 _ g s0_0 t124 from by repeat (first | (with_reducible first | exact HI0.out | apply IsS61.alloc | apply IsS61.drewN | apply IsS61.drew | apply IsS61.set_1) | exact HI0.out)) q33_ (by decide)) hk (fun _ h => h.2)) (fun _ h => h.1)) (fun _ h_ => by first | trivial | exact h_ | exact h_.1))
     clear HK
     clear HB
     clear HI0
     have HK:=n0_
     have HB:=n1_
     have HI0:=n2_
     clear n0_ n1_ n2_
     (try clear hb)
     (try clear hb2)
     (try clear hk)
     (try clear hi)
     refine hK.out _ _ ⟨v142,adz_v142,m7_,(by rw [ha.out];exact putSel_upk 1 hb_ rfl rfl rfl),fun h0_ => absurd ((up_self b 3).symm.trans h0_) (by decide),q19_,q9_,fun _ _ => q18_,z_HO143,Q_HA_HO143,fun h0_ _ => absurd ((hoff 6 (by kernel_rfl)).symm.trans h0_) (by decide),fun h0_ => absurd ((hoff 13 (by kernel_rfl)).symm.trans h0_) (by decide),fun h0_ => absurd ((hoff 7 (by kernel_rfl)).symm.trans h0_) (by decide)⟩
    refine steps_cons ?_ ?_
    ·rintro b a w' ⟨v142,adz_v142,m7_,ha,Q_HI0,Q_HK,Q_HB,Q_HI0_e3,Q_HO143,Q_HA_HO143,Q_HI0_e6,Q_HI0_e13,Q_X7_⟩ hb_ hon hoff
     refine ⟨_,rfl,fun K hK => ?_⟩
     replace ha:=Aside0.mk ha
     have HK:=Aside0.mk Q_HK
     have HB:=Aside0.mk Q_HB
     refine Kd.R_lit_step Kd.string _ 9 ?hg (N:=57) ?hd (xs:=([(⟨#[43]⟩:ByteArray),(⟨#[45]⟩:ByteArray),(⟨#[42]⟩:ByteArray),(⟨#[47]⟩:ByteArray),(⟨#[37]⟩:ByteArray),(⟨#[38]⟩:ByteArray),(⟨#[94]⟩:ByteArray),(⟨#[124]⟩:ByteArray),(⟨#[60,60]⟩:ByteArray),(⟨#[62,62]⟩:ByteArray)]:List ByteArray)) (inner:=[.string (⟨#[43]⟩:ByteArray),.string (⟨#[45]⟩:ByteArray),.string (⟨#[42]⟩:ByteArray),.string (⟨#[47]⟩:ByteArray),.string (⟨#[37]⟩:ByteArray),.string (⟨#[38]⟩:ByteArray),.string (⟨#[94]⟩:ByteArray),.string (⟨#[124]⟩:ByteArray),.string (⟨#[60,60]⟩:ByteArray),.string (⟨#[62,62]⟩:ByteArray)]) (ok:=fun _ => True) (okp:=fun _ => True) ?hr ?hp (fun _ hk => hk) trivial (Below.refl _ _) (Nat.le_refl _) (by simp) ?_;(case hd => rfl);(case hg => rfl);(case hr => exact q59_);(case hp => exact (Reps.one (show Kd.M Kd.string _ _ _ (⟨#[43]⟩:ByteArray) [.string (⟨#[43]⟩:ByteArray)] from rfl) (Reps.one (show Kd.M Kd.string _ _ _ (⟨#[45]⟩:ByteArray) [.string (⟨#[45]⟩:ByteArray)] from rfl) (Reps.one (show Kd.M Kd.string _ _ _ (⟨#[42]⟩:ByteArray) [.string (⟨#[42]⟩:ByteArray)] from rfl) (Reps.one (show Kd.M Kd.string _ _ _ (⟨#[47]⟩:ByteArray) [.string (⟨#[47]⟩:ByteArray)] from rfl) (Reps.one (show Kd.M Kd.string _ _ _ (⟨#[37]⟩:ByteArray) [.string (⟨#[37]⟩:ByteArray)] from rfl) (Reps.one (show Kd.M Kd.string _ _ _ (⟨#[38]⟩:ByteArray) [.string (⟨#[38]⟩:ByteArray)] from rfl) (Reps.one (show Kd.M Kd.string _ _ _ (⟨#[94]⟩:ByteArray) [.string (⟨#[94]⟩:ByteArray)] from rfl) (Reps.one (show Kd.M Kd.string _ _ _ (⟨#[124]⟩:ByteArray) [.string (⟨#[124]⟩:ByteArray)] from rfl) (Reps.one (show Kd.M Kd.string _ _ _ (⟨#[60,60]⟩:ByteArray) [.string (⟨#[60,60]⟩:ByteArray)] from rfl) (Reps.one (show Kd.M Kd.string _ _ _ (⟨#[62,62]⟩:ByteArray) [.string (⟨#[62,62]⟩:ByteArray)] from rfl) (Reps.none _ _))))))))))))
     intro v142 w59 ho60 hb hg_ hnew_
     clear hg_ hnew_
     (first | rw [← Ny141.out] at ho60 | (simp only [Int.reduceToNat] at ho60;rw [← Ny141.out] at ho60))
     have n0_:=Aside0.mk (Kd.R_lower ho60 (keep_size (w:=w) (g:=g) (row:=none) q19_))
     have n2_:=Aside0.mk (KeepBut.trans q19_ (KeepBut.of_below hb g none) (.inl rfl))
     have n3_:=Aside0.mk (below_step q24_ hb)
     have z_HI0:=fun (h0_:b 3 = false) => (show IsS61 w0 w59 g s0_0 t124 from by first | exact (IsS61.below q17_ hb))
     have z_HI0_e3:=fun (h0_:b 3 = true) (h1_:b 6 = false) => (show IsS61 w0 w59 g s0_0 t140 from by first | exact (IsS61.below (by repeat (first | (with_reducible first | exact (Q_HI0_e3 h0_ h1_) | apply IsS61.alloc | apply IsS61.drewN | apply IsS61.drew | apply IsS61.set_1) | exact (Q_HI0_e3 h0_ h1_))) hb))
     have z_HI0_e6:=fun (h0_:b 6 = true) (h1_:b 13 = false) => (show IsS61 w0 w59 g s0_0 t145 from by first | exact (IsS61.below (by repeat (first | (with_reducible first | exact (Q_HI0_e6 h0_ h1_) | apply IsS61.alloc | apply IsS61.drewN | apply IsS61.drew | apply IsS61.set_1) | exact (Q_HI0_e6 h0_ h1_))) hb))
     have z_HI0_e13:=fun (h0_:b 13 = true) => (show IsS61 w0 w59 g s0_0 t148 from by first | exact (IsS61.below (by repeat (first | (with_reducible first | exact (Q_HI0_e13 h0_) | apply IsS61.alloc | apply IsS61.drewN | apply IsS61.drew | apply IsS61.set_1) | exact (Q_HI0_e13 h0_))) hb))
     clear HK
     clear HB
     have HO143:=n0_
     have HK:=n2_
     have HB:=n3_
     clear n0_ n2_ n3_
     clear hb ho60
     obtain ⟨Ao61,co61,eo61⟩:=Kd.R_slice HO143.out
     subst eo61
     obtain ⟨ado61,fo61,_⟩:=Kd.at_string (Kd.R_reads' HO143.out).2.2 0 (by decide) (by rw [Ny141.out];simp)
     cases fo61
     refine hK.out _ _ ⟨.slice (some ado61) y141.length co61,ado61,m7_,(by rw [ha.out];exact putSel_upk 2 hb_ rfl rfl rfl),z_HI0,q19_,q24_,z_HI0_e3,fun _ => (by (with_reducible repeat (first | apply Kd.R_alloc | apply Kd.R_drewN | apply Kd.R_drew));exact HO143.out),fun _ => ⟨_,rfl⟩,z_HI0_e6,z_HI0_e13,fun h0_ => absurd ((hoff 7 (by kernel_rfl)).symm.trans h0_) (by decide)⟩
    refine steps_cons ?_ ?_
    ·rintro b a w' ⟨v142,adz_v142,m7_,ha,Q_HI0,Q_HK,Q_HB,Q_HI0_e3,Q_HO143,Q_HA_HO143,Q_HI0_e6,Q_HI0_e13,Q_X7_⟩ hb_ hon hoff
     refine ⟨_,rfl,fun K hK => ?_⟩
     have e58:a.tmps[58]? = some (.pointer (some ⟨g,0,none⟩)):=by rw [ha];exact (putSel_off rfl).trans rfl
     replace ha:=Aside0.mk ha
     have HK:=Aside0.mk Q_HK
     have HB:=Aside0.mk Q_HB
     have HI0:=Aside0.mk (Q_HI0_e3 (hon 3 (by kernel_rfl)) hb_)
     refine goes_ Tryz.func42 (by kernel_rfl) rfl #[.pointer (some ⟨g,0,none⟩),.int .i64 10] (by rfl) rfl rfl (by first | (simp only [List.map_toArray,List.map_cons,List.map_nil,Act.eval,Array.getD_eq_getD_getElem?,Option.getD_some,e58];done) | (simp only [List.map_toArray,List.map_cons,List.map_nil,Act.eval,Array.getD_eq_getD_getElem?,Option.getD_some,e58];rfl)) ?_
     with_reducible refine (spec_l1Rd_below.calls g s0_0 t140 10 t144 t145 w0 _ ?side1 ?side2 A52.out).mono ?_
     (case side1 => exact q58_)
     (case side2 => exact q50_)
     rintro e w61 ⟨rfl,hi,hb,hk⟩
     refine ⟨_,rfl,?_⟩
     have n0_:=Aside0.mk (KeepBut.trans q19_ hk (.inl rfl))
     have n1_:=Aside0.mk (hb)
     have n2_:=Aside0.mk (hi)
     have z_HO143:=fun (h0_:b 4 = true) => (show Kd.R Kd.string 9 w61 w.heap.size (fun _ => True) v142 y141 from by first | exact (Kd.R_mono (Kd.R_keep (IsS61.apart (show IsS61 w0 _ g s0_0 t140 from by repeat (first | (with_reducible first | exact HI0.out | apply IsS61.alloc | apply IsS61.drewN | apply IsS61.drew | apply IsS61.set_1) | exact HI0.out)) q33_ (by decide)) hk (fun _ h => h.2)) (fun _ h => h.1)) | exact Kd.R_mono (Kd.R_mono (Kd.R_keep (IsS61.apart (show IsS61 w0 _ g s0_0 t140 from by repeat (first | (with_reducible first | exact HI0.out | apply IsS61.alloc | apply IsS61.drewN | apply IsS61.drew | apply IsS61.set_1) | exact HI0.out)) q33_ (by decide)) hk (fun _ h => h.2)) (fun _ h => h.1)) (fun _ h_ => by first | trivial | exact h_ | exact h_.1))
     clear HK
     clear HB
     clear HI0
     have HK:=n0_
     have HB:=n1_
     have HI0:=n2_
     clear n0_ n1_ n2_
     (try clear hb)
     (try clear hb2)
     (try clear hk)
     (try clear hi)
     refine hK.out _ _ ⟨v142,adz_v142,m7_,(by rw [ha.out];exact putSel_upk 3 hb_ rfl rfl rfl),fun h0_ => absurd ((hon 3 (by kernel_rfl)).symm.trans h0_) (by decide),q19_,q9_,fun _ h1_ => absurd ((up_self b 6).symm.trans h1_) (by decide),z_HO143,Q_HA_HO143,fun _ _ => q18_,fun h0_ => absurd ((hoff 13 (by kernel_rfl)).symm.trans h0_) (by decide),fun h0_ => absurd ((hoff 7 (by kernel_rfl)).symm.trans h0_) (by decide)⟩
    refine steps_cons ?_ ?_
    ·rintro b a w' ⟨v142,adz_v142,m7_,ha,Q_HI0,Q_HK,Q_HB,Q_HI0_e3,Q_HO143,Q_HA_HO143,Q_HI0_e6,Q_HI0_e13,Q_X7_⟩ hb_ hon hoff
     refine ⟨_,rfl,fun K hK => ?_⟩
     have e57:a.tmps[57]? = some (v142):=by rw [ha];exact putSel_on (e:=(4,57,v142)) 2 rfl rfl (hon 4 (by kernel_rfl)) rfl
     have e59:a.tmps[59]? = some (.int .i64 t144):=by rw [ha];exact putSel_on (e:=(6,59,.int .i64 t144)) 3 rfl rfl (hon 6 (by kernel_rfl)) rfl
     replace ha:=Aside0.mk ha
     have HK:=Aside0.mk Q_HK
     have HB:=Aside0.mk Q_HB
     have HO143:=Aside0.mk (Q_HO143 (hon 4 (by kernel_rfl)))
     have HA_HO143:=Aside0.mk (Q_HA_HO143 (hon 4 (by kernel_rfl)))
     obtain ⟨c_,hv_⟩:=HA_HO143.out
     rw [hv_] at e57
     refine value_ (w1:=w') (v:=.pointer (some (adz_v142.add (t144).toNat))) (by rfl) rfl ?_ ?_
     ·go_simp
      (try simp only [i64_w])
      try rfl
     refine hK.out _ _ ⟨v142,adz_v142,(.pointer (some (adz_v142.add (t144).toNat))),(by rw [ha.out];exact putSel_upk 4 hb_ rfl rfl rfl),fun h0_ => absurd ((hon 3 (by kernel_rfl)).symm.trans h0_) (by decide),Q_HK,Q_HB,fun _ h1_ => absurd ((hon 6 (by kernel_rfl)).symm.trans h1_) (by decide),Q_HO143,Q_HA_HO143,Q_HI0_e6,Q_HI0_e13,fun _ => rfl⟩
    refine steps_cons ?_ ?_
    ·rintro b a w' ⟨v142,adz_v142,m7_,ha,Q_HI0,Q_HK,Q_HB,Q_HI0_e3,Q_HO143,Q_HA_HO143,Q_HI0_e6,Q_HI0_e13,Q_X7_⟩ hb_ hon hoff
     refine ⟨_,rfl,fun K hK => ?_⟩
     have e60:a.tmps[60]? = some (m7_):=by rw [ha];exact putSel_on (e:=(7,60,m7_)) 4 rfl rfl (hon 7 (by kernel_rfl)) rfl
     rw [Q_X7_ (hon 7 (by kernel_rfl))] at e60
     replace ha:=Aside0.mk ha
     have HK:=Aside0.mk Q_HK
     have HB:=Aside0.mk Q_HB
     have HO143:=Aside0.mk (Q_HO143 (hon 4 (by kernel_rfl)))
     have HA_HO143:=Aside0.mk (Q_HA_HO143 (hon 4 (by kernel_rfl)))
     obtain ⟨c_,hv_⟩:=HA_HO143.out
     have hF_:=HO143.out
     rw [hv_] at hF_
     obtain ⟨ad_,ea_,hx_⟩:=Kd.at_string (Kd.R_reads' hF_).2.2 t144 (of_eq_true pi146) (of_eq_true qi146)
     cases ea_
     refine value_ (w1:=w') (v:=.string (rdOf ByteArray.empty y141 t144)) (by rfl) rfl ?_ ?_
     ·go_simp
      (try simp only [i64_w])
      try rfl
     refine hK.out _ _ ⟨v142,adz_v142,m7_,(by rw [ha.out];exact putSel_upk 5 hb_ rfl rfl rfl),fun h0_ => absurd ((hon 3 (by kernel_rfl)).symm.trans h0_) (by decide),Q_HK,Q_HB,fun _ h1_ => absurd ((hon 6 (by kernel_rfl)).symm.trans h1_) (by decide),Q_HO143,Q_HA_HO143,Q_HI0_e6,Q_HI0_e13,Q_X7_⟩
    refine steps_cons ?_ ?_
    ·rintro b a w' ⟨v142,adz_v142,m7_,ha,Q_HI0,Q_HK,Q_HB,Q_HI0_e3,Q_HO143,Q_HA_HO143,Q_HI0_e6,Q_HI0_e13,Q_X7_⟩ hb_ hon hoff
     refine ⟨_,rfl,fun K hK => ?_⟩
     have e56:a.tmps[56]? = some (.string t139):=by rw [ha];exact putSel_on (e:=(3,56,.string t139)) 1 rfl rfl (hon 3 (by kernel_rfl)) rfl
     have e61:a.tmps[61]? = some (.string (rdOf ByteArray.empty y141 t144)):=by rw [ha];exact putSel_on (e:=(8,61,.string (rdOf ByteArray.empty y141 t144))) 5 rfl rfl (hon 8 (by kernel_rfl)) rfl
     replace ha:=Aside0.mk ha
     have HK:=Aside0.mk Q_HK
     have HB:=Aside0.mk Q_HB
     have HO143:=Aside0.mk (Q_HO143 (hon 4 (by kernel_rfl)))
     have HA_HO143:=Aside0.mk (Q_HA_HO143 (hon 4 (by kernel_rfl)))
     refine value_ (w1:=w') (v:=.string (t139 ++ (rdOf ByteArray.empty y141 t144))) (by rfl) rfl ?_ ?_
     ·go_simp
      (try simp only [i64_w])
      try rfl
     refine hK.out _ _ ⟨v142,adz_v142,m7_,(by rw [ha.out];exact putSel_upk 6 hb_ rfl rfl rfl),fun h0_ => absurd ((hon 3 (by kernel_rfl)).symm.trans h0_) (by decide),Q_HK,Q_HB,fun _ h1_ => absurd ((hon 6 (by kernel_rfl)).symm.trans h1_) (by decide),Q_HO143,Q_HA_HO143,Q_HI0_e6,Q_HI0_e13,Q_X7_⟩
    refine steps_cons ?_ ?_
    ·rintro b a w' ⟨v142,adz_v142,m7_,ha,Q_HI0,Q_HK,Q_HB,Q_HI0_e3,Q_HO143,Q_HA_HO143,Q_HI0_e6,Q_HI0_e13,Q_X7_⟩ hb_ hon hoff
     refine ⟨_,rfl,fun K hK => ?_⟩
     have e64:a.tmps[64]? = some (.int .i64 a1):=by rw [ha];exact (putSel_off rfl).trans rfl
     replace ha:=Aside0.mk ha
     have HK:=Aside0.mk Q_HK
     have HB:=Aside0.mk Q_HB
     refine value_ (w1:=w') (v:=.int .i64 (wrap64 (a1 + 1))) (by rfl) rfl ?_ ?_
     ·go_simp
      (try simp only [i64_w])
      try rfl
     refine hK.out _ _ ⟨v142,adz_v142,m7_,(by rw [ha.out];exact putSel_upk 7 hb_ rfl rfl rfl),Q_HI0,Q_HK,Q_HB,Q_HI0_e3,Q_HO143,Q_HA_HO143,Q_HI0_e6,fun h0_ => absurd ((hoff 13 (by kernel_rfl)).symm.trans h0_) (by decide),Q_X7_⟩
    refine steps_cons ?_ ?_
    ·rintro b a w' ⟨v142,adz_v142,m7_,ha,Q_HI0,Q_HK,Q_HB,Q_HI0_e3,Q_HO143,Q_HA_HO143,Q_HI0_e6,Q_HI0_e13,Q_X7_⟩ hb_ hon hoff
     refine ⟨_,rfl,fun K hK => ?_⟩
     have e63:a.tmps[63]? = some (.pointer (some ⟨g,0,none⟩)):=by rw [ha];exact (putSel_off rfl).trans rfl
     have e65:a.tmps[65]? = some (.int .i64 (wrap64 (a1 + 1))):=by rw [ha];exact putSel_on (e:=(12,65,.int .i64 (wrap64 (a1 + 1)))) 7 rfl rfl (hon 12 (by kernel_rfl)) rfl
     replace ha:=Aside0.mk ha
     have HK:=Aside0.mk Q_HK
     have HB:=Aside0.mk Q_HB
     have HI0:=Aside0.mk (Q_HI0_e6 (hon 6 (by kernel_rfl)) hb_)
     refine goes_ Tryz.func44 (by kernel_rfl) rfl #[.pointer (some ⟨g,0,none⟩),.int .i64 (wrap64 (a1 + 1))] (by rfl) rfl rfl (by first | (simp only [List.map_toArray,List.map_cons,List.map_nil,Act.eval,Array.getD_eq_getD_getElem?,Option.getD_some,e63,e65];done) | (simp only [List.map_toArray,List.map_cons,List.map_nil,Act.eval,Array.getD_eq_getD_getElem?,Option.getD_some,e63,e65];rfl)) ?_
     with_reducible refine (ih kj46 (by have:=HJ46.out;omega) g s0_0 t145 (wrap64 (a1 + 1)) t147 t148 w0 _ ?side1 ?side2 A56.out).mono ?_
     (case side1 => exact q58_)
     (case side2 => exact q50_)
     rintro e w62 ⟨rfl,hi,hb,hk⟩
     refine ⟨_,rfl,?_⟩
     have n0_:=Aside0.mk (KeepBut.trans q19_ hk (.inl rfl))
     have n1_:=Aside0.mk (hb)
     have n2_:=Aside0.mk (hi)
     have z_HO143:=fun (h0_:b 4 = true) => (show Kd.R Kd.string 9 w62 w.heap.size (fun _ => True) v142 y141 from by first | exact (Kd.R_mono (Kd.R_keep (IsS61.apart (show IsS61 w0 _ g s0_0 t145 from by repeat (first | (with_reducible first | exact HI0.out | apply IsS61.alloc | apply IsS61.drewN | apply IsS61.drew | apply IsS61.set_1) | exact HI0.out)) q33_ (by decide)) hk (fun _ h => h.2)) (fun _ h => h.1)) | exact Kd.R_mono (Kd.R_mono (Kd.R_keep (IsS61.apart (show IsS61 w0 _ g s0_0 t145 from by repeat (first | (with_reducible first | exact HI0.out | apply IsS61.alloc | apply IsS61.drewN | apply IsS61.drew | apply IsS61.set_1) | exact HI0.out)) q33_ (by decide)) hk (fun _ h => h.2)) (fun _ h => h.1)) (fun _ h_ => by first | trivial | exact h_ | exact h_.1))
     clear HK
     clear HB
     clear HI0
     have HK:=n0_
     have HB:=n1_
     have HI0:=n2_
     clear n0_ n1_ n2_
     (try clear hb)
     (try clear hb2)
     (try clear hk)
     (try clear hi)
     refine hK.out _ _ ⟨v142,adz_v142,m7_,(by rw [ha.out];exact putSel_upk 8 hb_ rfl rfl rfl),fun h0_ => absurd ((hon 3 (by kernel_rfl)).symm.trans h0_) (by decide),q19_,q9_,fun _ h1_ => absurd ((hon 6 (by kernel_rfl)).symm.trans h1_) (by decide),z_HO143,Q_HA_HO143,fun _ h1_ => absurd ((up_self b 13).symm.trans h1_) (by decide),fun _ => q18_,Q_X7_⟩
    refine steps_cons ?_ ?_
    ·rintro b a w' ⟨v142,adz_v142,m7_,ha,Q_HI0,Q_HK,Q_HB,Q_HI0_e3,Q_HO143,Q_HA_HO143,Q_HI0_e6,Q_HI0_e13,Q_X7_⟩ hb_ hon hoff
     refine ⟨_,rfl,fun K hK => ?_⟩
     have e62:a.tmps[62]? = some (.string (t139 ++ (rdOf ByteArray.empty y141 t144))):=by rw [ha];exact putSel_on (e:=(9,62,.string (t139 ++ (rdOf ByteArray.empty y141 t144)))) 6 rfl rfl (hon 9 (by kernel_rfl)) rfl
     have e66:a.tmps[66]? = some (.string t147):=by rw [ha];exact putSel_on (e:=(13,66,.string t147)) 8 rfl rfl (hon 13 (by kernel_rfl)) rfl
     replace ha:=Aside0.mk ha
     have HK:=Aside0.mk Q_HK
     have HB:=Aside0.mk Q_HB
     have HO143:=Aside0.mk (Q_HO143 (hon 4 (by kernel_rfl)))
     have HA_HO143:=Aside0.mk (Q_HA_HO143 (hon 4 (by kernel_rfl)))
     have HI0:=Aside0.mk (Q_HI0_e13 (hon 13 (by kernel_rfl)))
     refine value_ (w1:=w') (v:=.string ((t139 ++ (rdOf ByteArray.empty y141 t144)) ++ t147)) (by rfl) rfl ?_ ?_
     ·go_simp
      (try simp only [i64_w])
      try rfl
     refine hK.out _ _ ⟨v142,adz_v142,m7_,(by rw [ha.out];exact putSel_upk 9 hb_ rfl rfl rfl),fun h0_ => absurd ((hon 3 (by kernel_rfl)).symm.trans h0_) (by decide),Q_HK,Q_HB,fun _ h1_ => absurd ((hon 6 (by kernel_rfl)).symm.trans h1_) (by decide),Q_HO143,Q_HA_HO143,fun _ h1_ => absurd ((hon 13 (by kernel_rfl)).symm.trans h1_) (by decide),Q_HI0_e13,Q_X7_⟩
    refine steps_cons ?_ ?_
    ·rintro b a w' ⟨v142,adz_v142,m7_,ha,Q_HI0,Q_HK,Q_HB,Q_HI0_e3,Q_HO143,Q_HA_HO143,Q_HI0_e6,Q_HI0_e13,Q_X7_⟩ hb_ hon hoff
     refine ⟨_,rfl,fun K hK => ?_⟩
     have e67:a.tmps[67]? = some (.string ((t139 ++ (rdOf ByteArray.empty y141 t144)) ++ t147)):=by rw [ha];exact putSel_on (e:=(14,67,.string ((t139 ++ (rdOf ByteArray.empty y141 t144)) ++ t147))) 9 rfl rfl (hon 14 (by kernel_rfl)) rfl
     replace ha:=Aside0.mk ha
     have HK:=Aside0.mk Q_HK
     have HB:=Aside0.mk Q_HB
     have HO143:=Aside0.mk (Q_HO143 (hon 4 (by kernel_rfl)))
     have HA_HO143:=Aside0.mk (Q_HA_HO143 (hon 4 (by kernel_rfl)))
     have HI0:=Aside0.mk (Q_HI0_e13 (hon 13 (by kernel_rfl)))
     refine value_ (w1:=w') (v:=.string ((t139 ++ (rdOf ByteArray.empty y141 t144)) ++ t147)) (by rfl) rfl ?_ ?_
     ·go_simp
      (try simp only [i64_w])
      try rfl
     refine hK.out _ _ ⟨v142,adz_v142,m7_,(by rw [ha.out];exact putSel_upk 10 hb_ rfl rfl rfl),fun h0_ => absurd ((hon 3 (by kernel_rfl)).symm.trans h0_) (by decide),Q_HK,Q_HB,fun _ h1_ => absurd ((hon 6 (by kernel_rfl)).symm.trans h1_) (by decide),Q_HO143,Q_HA_HO143,fun _ h1_ => absurd ((hon 13 (by kernel_rfl)).symm.trans h1_) (by decide),Q_HI0_e13,Q_X7_⟩
    exact steps_nil
   rintro b a w65 hall ⟨v142,adz_v142,m7_,ha,Q_HI0,Q_HK,Q_HB,Q_HI0_e3,Q_HO143,Q_HA_HO143,Q_HI0_e6,Q_HI0_e13,Q_X7_⟩
   clear HB HI0 HK
   have hb2_:=hall 2 (by kernel_rfl)
   have hb3_:=hall 3 (by kernel_rfl)
   have hb4_:=hall 4 (by kernel_rfl)
   have hb6_:=hall 6 (by kernel_rfl)
   have hb7_:=hall 7 (by kernel_rfl)
   have hb8_:=hall 8 (by kernel_rfl)
   have hb9_:=hall 9 (by kernel_rfl)
   have hb12_:=hall 12 (by kernel_rfl)
   have hb13_:=hall 13 (by kernel_rfl)
   have hb14_:=hall 14 (by kernel_rfl)
   have hb15_:=hall 15 (by kernel_rfl)
   subst ha
   obtain rfl:=Q_X7_ hb7_
   simp only [putSel,hb2_,hb3_,hb4_,hb6_,hb7_,hb8_,hb9_,hb12_,hb13_,hb14_,hb15_,if_true,Act.put,List.setIfInBounds_toArray,List.set_cons_zero,List.set_cons_succ]
   clear Q_HI0
   have HK:=Aside0.mk Q_HK
   clear Q_HK
   have HB:=Aside0.mk Q_HB
   clear Q_HB
   clear Q_HI0_e3
   have HO143:=Aside0.mk (Q_HO143 hb4_)
   clear Q_HO143
   have HA_HO143:=Aside0.mk (Q_HA_HO143 hb4_)
   clear Q_HA_HO143
   clear Q_HI0_e6
   have HI0:=Aside0.mk (Q_HI0_e13 hb13_)
   clear Q_HI0_e13
   clear hall hb2_ hb3_ hb4_ hb6_ hb7_ hb8_ hb9_ hb12_ hb13_ hb14_ hb15_
   obtain ⟨co66,eo66⟩:=HA_HO143.out
   clear HA_HO143
   subst eo66
   try go_wp2
   go_ret
   exact ⟨q26_,q18_,q9_,q19_⟩
  replace c50:=Bool.eq_false_iff.mpr c50
  subst c50
  rewrite [if_neg (show ¬ (false = true) by decide)] at H
  by_cases c67:t123 = 6
  ·rw [if_pos c67] at H
   have c67b0:(t123 == 6) = true:=beq_iff_eq.mpr c67
   have c67b1:(t123 != 6) = false:=bne_eq_false_iff_eq.mpr c67
   clear c67
   replace H:=Option.bind_eq_some_iff.mp H
   obtain ⟨⟨t149,t150⟩,A680,H⟩:=H
   try dsimp -simprocs -eta only at H
   have A68:=Aside0.mk A680
   clear A680
   by_cases c69:1 + t149.size ≤ 9223372036854775807
   rotate_left
   ·rw [if_neg c69] at H
    exact absurd H (by simp)
   rw [if_pos c69] at H
   have c69b0:=eq_true c69
   have c69b1:=decide_eq_true c69
   try have c69b2:(9223372036854775807 < 1 + t149.size) = False:=eq_false (Nat.not_lt.2 c69)
   simp only [Option.some.injEq,Prod.mk.injEq] at H
   obtain ⟨rfl,rfl⟩:=H
   go_wp2_with (first | ((with_reducible refine gate_callee (f:=44) rfl ?_);refine goesL_ (some 73) rfl rfl Tryz.func44 (by kernel_rfl) rfl #[.pointer (some ⟨g,0,none⟩),.int .i64 (wrap64 (a1 + 1))] rfl q5_ ?_;(with_reducible refine (ih kj46 (by have:=HJ46.out;omega) g s0_0 t124 (wrap64 (a1 + 1)) t149 t150 w0 _ ?side1 ?side2 A68.out).mono ?_);(case side1 => exact q58_);(case side2 => exact q50_);rintro e w70 ⟨rfl,hi,hb,hk⟩;refine ⟨_,rfl,?_⟩;have n0_:=Aside0.mk (KeepBut.trans q19_ hk (.inl rfl));have n1_:=Aside0.mk (hb);have n2_:=Aside0.mk (hi);clear HK;clear HB;clear HI0;have HK:=n0_;have HB:=n1_;have HI0:=n2_;clear n0_ n1_ n2_;(try clear hb);(try clear hk);(try clear hi)))
   go_ret
   exact ⟨q26_,q18_,q9_,q19_⟩
  rw [if_neg c67] at H
  have c67b0:(t123 == 6) = false:=beq_eq_false_iff_ne.mpr c67
  have c67b1:(t123 != 6) = true:=bne_iff_ne.mpr c67
  replace H:=Option.bind_eq_some_iff.mp H
  obtain ⟨⟨t151,t152⟩,A710,H⟩:=H
  try dsimp -simprocs -eta only at H
  have A71:=Aside0.mk A710
  clear A710
  obtain ⟨y153,hy153⟩:∃ y_:List ByteArray,y_ = (([(⟨#[48]⟩:ByteArray),(⟨#[55]⟩:ByteArray),(⟨#[36,49,50,51,52]⟩:ByteArray),t151,(⟨#[50,48,48]⟩:ByteArray)]:List ByteArray)):=⟨_,rfl⟩
  replace H:((spec_l1Rd_below.f s0_0 t152 5).bind fun bt156 => (if 0 ≤ bt156.1 then (if bt156.1 < (y153.length:Int) then (some (rdOf ByteArray.empty y153 bt156.1,bt156.2)) else (none)) else (none))) = some (r1,r2):=by first | (rw [hy153];exact H) | exact H
  have Ny153:=Aside0.mk hy153
  clear hy153
  replace H:=Option.bind_eq_some_iff.mp H
  obtain ⟨⟨t156,t157⟩,A720,H⟩:=H
  try dsimp -simprocs -eta only at H
  have A72:=Aside0.mk A720
  clear A720
  by_cases c73:0 ≤ t156
  rotate_left
  ·rw [if_neg c73] at H
   exact absurd H (by simp)
  rw [if_pos c73] at H
  have c73b0:=decide_eq_true c73
  clear c73
  by_cases c74:t156 < (y153.length:Int)
  rotate_left
  ·rw [if_neg c74] at H
   exact absurd H (by simp)
  rw [if_pos c74] at H
  have c74b0:=decide_eq_true c74
  clear c74
  simp only [Option.some.injEq,Prod.mk.injEq] at H
  obtain ⟨rfl,rfl⟩:=H
  go_wp2_with (first | ((with_reducible refine gate_callee (f:=66) rfl ?_);refine goesL_ (some 76) rfl rfl Tryz.func66 (by kernel_rfl) rfl #[.pointer (some ⟨g,0,none⟩)] rfl q22_ ?_;(with_reducible refine (spec_l1Rd_name.calls g s0_0 t124 t151 t152 w0 _ ?side1 ?side2 A71.out).mono ?_);(case side1 => exact q58_);(case side2 => exact q50_);rintro e w75 ⟨rfl,hi,hb,hk⟩;refine ⟨_,rfl,?_⟩;have n0_:=Aside0.mk (KeepBut.trans q19_ hk (.inl rfl));have n1_:=Aside0.mk (hb);have n2_:=Aside0.mk (hi);clear HK;clear HB;clear HI0;have HK:=n0_;have HB:=n1_;have HI0:=n2_;clear n0_ n1_ n2_;(try clear hb);(try clear hk);(try clear hi)) | ((with_reducible refine gate_dst (N:=77) rfl ?_);refine Kd.R_lit Kd.string _ 9 ?hg (N:=77) ?hd (xs:=([(⟨#[48]⟩:ByteArray),(⟨#[55]⟩:ByteArray),(⟨#[36,49,50,51,52]⟩:ByteArray),t151,(⟨#[50,48,48]⟩:ByteArray)]:List ByteArray)) (inner:=[.string (⟨#[48]⟩:ByteArray),.string (⟨#[55]⟩:ByteArray),.string (⟨#[36,49,50,51,52]⟩:ByteArray),.string t151,.string (⟨#[50,48,48]⟩:ByteArray)]) (ok:=fun _ => True) (okp:=fun _ => True) ?hr ?hp (fun _ hk => hk) trivial (Below.refl _ _) (Nat.le_refl _) (by simp) ?_;(case hd => rfl);(case hg => rfl);(case hr => exact q59_);(case hp => exact (Reps.one (show Kd.M Kd.string _ _ _ (⟨#[48]⟩:ByteArray) [.string (⟨#[48]⟩:ByteArray)] from rfl) (Reps.one (show Kd.M Kd.string _ _ _ (⟨#[55]⟩:ByteArray) [.string (⟨#[55]⟩:ByteArray)] from rfl) (Reps.one (show Kd.M Kd.string _ _ _ (⟨#[36,49,50,51,52]⟩:ByteArray) [.string (⟨#[36,49,50,51,52]⟩:ByteArray)] from rfl) (Reps.one (show Kd.M Kd.string _ _ _ t151 [.string t151] from rfl) (Reps.one (show Kd.M Kd.string _ _ _ (⟨#[50,48,48]⟩:ByteArray) [.string (⟨#[50,48,48]⟩:ByteArray)] from rfl) (Reps.none _ _)))))));intro v154 w76 ho77 hb hg_ hnew_;clear hg_ hnew_;(first | rw [← Ny153.out] at ho77 | (simp only [Int.reduceToNat] at ho77;rw [← Ny153.out] at ho77));have n0_:=Aside0.mk (Kd.R_lower ho77 (keep_size (w:=w) (g:=g) (row:=none) q19_));have n1_:=Aside0.mk (IsS61.below q18_ hb);have n2_:=Aside0.mk (KeepBut.trans q19_ (KeepBut.of_below hb g none) (.inl rfl));have n3_:=Aside0.mk (below_step q9_ hb);clear HI0;clear HK;clear HB;have HO155:=n0_;have HI0:=n1_;have HK:=n2_;have HB:=n3_;clear n0_ n1_ n2_ n3_;clear hb ho77) | ((with_reducible refine gate_callee (f:=42) rfl ?_);refine goesL_ (some 79) rfl rfl Tryz.func42 (by kernel_rfl) rfl #[.pointer (some ⟨g,0,none⟩),.int .i64 5] rfl q22_ ?_;(with_reducible refine (spec_l1Rd_below.calls g s0_0 t152 5 t156 t157 w0 _ ?side1 ?side2 A72.out).mono ?_);(case side1 => exact q58_);(case side2 => exact q50_);rintro e w78 ⟨rfl,hi,hb,hk⟩;refine ⟨_,rfl,?_⟩;have n0_:=Aside0.mk (Kd.R_mono (Kd.R_keep (IsS61.apart (show IsS61 w0 _ g s0_0 t152 from by repeat (first | (with_reducible first | exact HI0.out | apply IsS61.alloc | apply IsS61.drewN | apply IsS61.drew | apply IsS61.set_1) | exact HI0.out)) (by (with_reducible repeat (first | apply Kd.R_alloc | apply Kd.R_drewN | apply Kd.R_drew));exact HO155.out) (by decide)) hk (fun _ h => h.2)) (fun _ h => h.1));have n1_:=Aside0.mk (KeepBut.trans q19_ hk (.inl rfl));have n2_:=Aside0.mk (hb);have n3_:=Aside0.mk (hi);clear HO155;clear HK;clear HB;clear HI0;have HO155:=n0_;have HK:=n1_;have HB:=n2_;have HI0:=n3_;clear n0_ n1_ n2_ n3_;(try clear hb);(try clear hk);(try clear hi);obtain ⟨Ao79,co79,eo79⟩:=Kd.R_slice HO155.out;subst eo79;have p158:0 ≤ (t156:Int):=of_decide_eq_true q46_;have q158:t156 < (y153.length:Int):=of_decide_eq_true q46_;obtain ⟨ad158,e158,hx158_0⟩:=Kd.at_string (Kd.R_reads' HO155.out).2.2 t156 p158 q158;cases e158;replace p158:=eq_true p158;replace q158:=eq_true q158))
  go_ret
  exact ⟨q26_,q18_,q9_,q19_⟩
end Go.Proofs.YtabbdfchibjndaaGreatDoor.QFnExprTexts
