/- The machine's side of a law,written by a program of this session for this claim. -/
import Derived.Test.YtabbdfchibjndaaGreatDoorXQq
import Derived.Test.YtabbdfchibjndaaGreatDoorXQFnExprTextsx0
import Derived.Test.YtabbdfchibjndaaGreatDoorXQFnExprTextsx1
import Derived.Test.YtabbdfchibjndaaGreatDoorXQFnExprTextsx8
namespace Go.Proofs.YtabbdfchibjndaaGreatDoor.QFnExprTexts
open Go.Proofs.YtabbdfchibjndaaGreatDoor.Qq
open Go.RowKit Go.Proofs.YtabbdfchibjndaaGreatDoor.LibX Go.Proofs.YtabbdfchibjndaaGreatDoor.LibE Go.Proofs.YtabbdfchibjndaaGreatDoor.LibG Go.Proofs.YtabbdfchibjndaaGreatDoor.LibCv Go.Proofs.YtabbdfchibjndaaGreatDoorW.PrintWords Go.Proofs.YtabbdfchibjndaaGreatDoorW.PrintLast Go.Proofs.YtabbdfchibjndaaGreatDoorW.PrintMore
attribute [local go_sem] max2_int min2_int max_two min_two max_three min_three max_four min_four   -- for this text's walks alone
set_option maxHeartbeats 8000000
set_option maxRecDepth 100000
set_option linter.unusedVariables false
set_option linter.unusedSimpArgs false
attribute [local go_sem high] eqA43
mutual
def spec_l1Dec.l0:Nat → Int → ByteArray → Option (ByteArray)
 | 0,_,_ => none
 | k + 1,x0,x3 => if x0 ≥ 10 then ((some (([(wrap64 (48 + (Int.tmod x0 10))) % 256]:List Int):List Int)).bind fun y294 => (if (strOfNums y294).size + x3.size ≤ 9223372036854775807 then (spec_l1Dec.l0 k (wrap64 (Int.tdiv x0 10)) ((strOfNums y294) ++ x3)) else (none))) else ((some (([(wrap64 (48 + x0)) % 256]:List Int):List Int)).bind fun y297 => (if (strOfNums y297).size + x3.size ≤ 9223372036854775807 then (some ((strOfNums y297) ++ x3)) else (none)))
def spec_l1Dec.f:Nat → Int → Option (ByteArray)
 | 0,_ => none
 | k + 1,a0 => if a0 < 0 then ((spec_l1Dec.f k (wrap64 (-a0))).bind fun t293 => (if 1 + t293.size ≤ 9223372036854775807 then (some ((⟨#[45]⟩:ByteArray) ++ t293)) else (none))) else (spec_l1Dec.l0 k a0 (⟨#[]⟩:ByteArray))
end
theorem spec_l1Dec.mono_l:∀ k,(∀ y0,LeO (spec_l1Dec.f k y0) (spec_l1Dec.f (k + 1) y0)) ∧ (∀ y0 y1,LeO (spec_l1Dec.l0 k y0 y1) (spec_l1Dec.l0 (k + 1) y0 y1))
 | 0 => ⟨fun _ r h => by simp [spec_l1Dec.f] at h,fun _ _ r h => by simp [spec_l1Dec.l0] at h⟩
 | k + 1 => by
  obtain ⟨ih0,ih1⟩:=spec_l1Dec.mono_l k
  refine ⟨?_,?_⟩
  ·intro y0
   unfold spec_l1Dec.f
   repeat' first
   | (with_reducible first | exact ih0 _ | exact ih1 _ _ | exact LeO.refl _ | exact LeO.none _ | refine LeO.ite ?_ ?_ | refine LeO.bind ?_ (fun _ => ?_))
   | exact ih0 _
   | exact ih1 _ _
   | exact LeO.none _
   | refine LeO.ite ?_ ?_
   | refine LeO.bind ?_ (fun _ => ?_)
  intro y0 y1
  unfold spec_l1Dec.l0
  repeat' first
  | (with_reducible first | exact ih0 _ | exact ih1 _ _ | exact LeO.refl _ | exact LeO.none _ | refine LeO.ite ?_ ?_ | refine LeO.bind ?_ (fun _ => ?_))
  | exact ih0 _
  | exact ih1 _ _
  | exact LeO.none _
  | refine LeO.ite ?_ ?_
  | refine LeO.bind ?_ (fun _ => ?_)
theorem spec_l1Dec.mono:∀ a0 k,LeO (spec_l1Dec.f k a0) (spec_l1Dec.f (k + 1) a0):=by
 intro a0 k
 obtain ⟨ih0,ih1⟩:=spec_l1Dec.mono_l k
 exact ih0 a0
theorem spec_l1Dec.calls (k:Nat):∀ (a0:Int) (r:ByteArray) (w:World) (h:spec_l1Dec.f k a0 = some r),
  Calls Tryz.prog 21 #[.int .i64 a0] w fun e w' => e = .returned (.string r) ∧ Below w.heap.size w w':=by
 induction k using Nat.strongRecOn with
 | _ k ih =>
 intro a0 r w h
 cases k with
 | zero => exact absurd h (by simp [spec_l1Dec.f])
 | succ k =>
 simp only [spec_l1Dec.f] at h
 have HB:=Aside0.mk (Below.refl w.heap.size w)
 have H:(if a0 < 0 then ((spec_l1Dec.f k (wrap64 (-a0))).bind fun t293 => (if 1 + t293.size ≤ 9223372036854775807 then (some ((⟨#[45]⟩:ByteArray) ++ t293)) else (none))) else (spec_l1Dec.l0 k a0 (⟨#[]⟩:ByteArray))) = some r:=h
 clear h
 by_cases c2:a0 < 0
 ·rw [if_pos c2] at H
  have c2b0:=decide_eq_true c2
  clear c2
  replace H:=Option.bind_eq_some_iff.mp H
  obtain ⟨t293,A30,H⟩:=H
  have A3:=Aside0.mk A30
  clear A30
  by_cases c4:1 + t293.size ≤ 9223372036854775807
  rotate_left
  ·rw [if_neg c4] at H
   exact absurd H (by simp)
  rw [if_pos c4] at H
  have c4b0:=eq_true c4
  have c4b1:=decide_eq_true c4
  try have c4b2:(9223372036854775807 < 1 + t293.size) = False:=eq_false (Nat.not_lt.2 c4)
  obtain rfl:=Option.some.inj H
  go_enter Tryz.func21,Tryz.ntmps21
  go_wp2_with (first | ((with_reducible refine gate_callee (f:=21) rfl ?_);refine goesL_ (some 8) rfl rfl Tryz.func21 (by kernel_rfl) rfl #[.int .i64 (wrap64 (-a0))] rfl (by (try simp only [List.map_toArray,List.map_cons,List.map_nil]);first | done | rfl | (simp only [List.length_drop,List.length_take];rfl) | (refine Eq.trans (b:=#[.int .i64 ((-a0))]) rfl ?_;simp [wrap64] <;> omega)) ?_;(with_reducible refine (ih k (by omega) (wrap64 (-a0)) t293 _ A3.out).mono ?_);rintro e w5 ⟨rfl,hb⟩;refine ⟨_,rfl,?_⟩;replace HB:=Aside0.mk (below_step q24_ hb);(try clear hb)))
  go_ret
  exact ⟨q26_,q24_⟩
 rw [if_neg c2] at H
 have c2b0:=decide_eq_false c2
 clear c2
 have H':=Aside0.mk H
 clear H
 go_enter Tryz.func21,Tryz.ntmps21
 go_wp2
 go_loopg [0,3] k (fun kq v0 v3 w' => ∃ (x0_1:Int) (x3_1:ByteArray),v0 = .int .i64 x0_1 ∧ v3 = .string x3_1 ∧ Aside0 (spec_l1Dec.l0 kq x0_1 x3_1 = some r) ∧ Aside0 (kq ≤ k) ∧ Aside0 (Below w.heap.size w w'))
 case atStart => exact ⟨(a0),((⟨#[]⟩:ByteArray)),q31_,q31_,H',⟨Nat.le_refl _⟩,⟨q24_⟩⟩
 clear H'
 try clear c2
 try clear c2b0
 try clear p2
 try clear c4
 try clear c4b0
 try clear c4b1
 try clear c4b2
 obtain ⟨x0_1,x3_1,rfl,rfl,HA,HK1,HB⟩:=hrel
 cases gk with
 | zero => exact absurd HA.out (by simp [spec_l1Dec.l0])
 | succ k1 =>
  have H:=HA.out
  clear HA
  simp only [spec_l1Dec.l0] at H
  by_cases c6:x0_1 ≥ 10
  ·rw [if_pos c6] at H
   have c6b0:decide (10 ≤ x0_1) = true:=decide_eq_true c6
   clear c6
   obtain ⟨y294,hy294⟩:∃ y_:List Int,y_ = (([(wrap64 (48 + (Int.tmod x0_1 10))) % 256]:List Int)):=⟨_,rfl⟩
   replace H:(if (strOfNums y294).size + x3_1.size ≤ 9223372036854775807 then (spec_l1Dec.l0 k1 (wrap64 (Int.tdiv x0_1 10)) ((strOfNums y294) ++ x3_1)) else (none)) = some r:=by first | (rw [hy294];exact H) | exact H
   have Ny294:=Aside0.mk hy294
   clear hy294
   by_cases c7:(strOfNums y294).size + x3_1.size ≤ 9223372036854775807
   rotate_left
   ·rw [if_neg c7] at H
    exact absurd H (by simp)
   rw [if_pos c7] at H
   have c7b0:=eq_true c7
   have c7b1:=decide_eq_true c7
   try have c7b2:(9223372036854775807 < (strOfNums y294).size + x3_1.size) = False:=eq_false (Nat.not_lt.2 c7)
   have H':=Aside0.mk H
   clear H
   go_wp2_with (first | ((with_reducible refine gate_dst (N:=16) rfl ?_);refine Kd.R_lit (Kd.int .u8) _ 5 ?hg (N:=16) ?hd (xs:=([(wrap64 (48 + (Int.tmod x0_1 10))) % 256]:List Int)) (inner:=[.int .u8 ((wrap64 (48 + (Int.tmod x0_1 10))) % 256)]) (ok:=fun _ => True) (okp:=fun _ => True) ?hr ?hp (fun _ hk => hk) trivial (Below.refl _ _) (Nat.le_refl _) (by simp) ?_;(case hd => rfl);(case hg => rfl);(case hr => exact q59_);(case hp => exact (Reps.one (show Kd.M (Kd.int .u8) _ _ _ ((wrap64 (48 + (Int.tmod x0_1 10))) % 256) [.int .u8 ((wrap64 (48 + (Int.tmod x0_1 10))) % 256)] from rfl) (Reps.none _ _)));intro v295 w8 ho9 hb hg_ hnew_;clear hg_ hnew_;(first | rw [← Ny294.out] at ho9 | (simp only [Int.reduceToNat] at ho9;rw [← Ny294.out] at ho9));have n0_:=Aside0.mk (Kd.R_lower ho9 (below_size q24_));have n1_:=Aside0.mk (below_step q24_ hb);clear HB;have HO296:=n0_;have HB:=n1_;clear n0_ n1_;clear hb ho9;have hcv10:=own_string (P:=Tryz.prog) Tryz.underlying22 Tryz.underlying5 Tryz.underlying9 (Kd.own_of_R HO296.out);have hcvq10:=fun m_:Nat => own_string (P:=Tryz.prog) Tryz.underlying22 Tryz.underlying5 Tryz.underlying9 (Kd.own_of_R (Kd.R_drewN HO296.out m_))))
   go_roundg k1
   case measure => have:=HK1.out;omega
   case rel => exact ⟨(wrap64 (Int.tdiv x0_1 10)),((strOfNums y294) ++ x3_1),q31_,q31_,H',⟨by have:=HK1.out;omega⟩,⟨q24_⟩⟩
  rw [if_neg c6] at H
  have c6b0:decide (10 ≤ x0_1) = false:=decide_eq_false c6
  clear c6
  obtain ⟨y297,hy297⟩:∃ y_:List Int,y_ = (([(wrap64 (48 + x0_1)) % 256]:List Int)):=⟨_,rfl⟩
  replace H:(if (strOfNums y297).size + x3_1.size ≤ 9223372036854775807 then (some ((strOfNums y297) ++ x3_1)) else (none)) = some r:=by first | (rw [hy297];exact H) | exact H
  have Ny297:=Aside0.mk hy297
  clear hy297
  by_cases c11:(strOfNums y297).size + x3_1.size ≤ 9223372036854775807
  rotate_left
  ·rw [if_neg c11] at H
   exact absurd H (by simp)
  rw [if_pos c11] at H
  have c11b0:=eq_true c11
  have c11b1:=decide_eq_true c11
  try have c11b2:(9223372036854775807 < (strOfNums y297).size + x3_1.size) = False:=eq_false (Nat.not_lt.2 c11)
  obtain rfl:=Option.some.inj H
  go_wp2_with (first | ((with_reducible refine gate_dst (N:=25) rfl ?_);refine Kd.R_lit (Kd.int .u8) _ 5 ?hg (N:=25) ?hd (xs:=([(wrap64 (48 + x0_1)) % 256]:List Int)) (inner:=[.int .u8 ((wrap64 (48 + x0_1)) % 256)]) (ok:=fun _ => True) (okp:=fun _ => True) ?hr ?hp (fun _ hk => hk) trivial (Below.refl _ _) (Nat.le_refl _) (by simp) ?_;(case hd => rfl);(case hg => rfl);(case hr => exact q59_);(case hp => exact (Reps.one (show Kd.M (Kd.int .u8) _ _ _ ((wrap64 (48 + x0_1)) % 256) [.int .u8 ((wrap64 (48 + x0_1)) % 256)] from rfl) (Reps.none _ _)));intro v298 w12 ho13 hb hg_ hnew_;clear hg_ hnew_;(first | rw [← Ny297.out] at ho13 | (simp only [Int.reduceToNat] at ho13;rw [← Ny297.out] at ho13));have n0_:=Aside0.mk (Kd.R_lower ho13 (below_size q24_));have n1_:=Aside0.mk (below_step q24_ hb);clear HB;have HO299:=n0_;have HB:=n1_;clear n0_ n1_;clear hb ho13;have hcv14:=own_string (P:=Tryz.prog) Tryz.underlying22 Tryz.underlying5 Tryz.underlying9 (Kd.own_of_R HO299.out);have hcvq14:=fun m_:Nat => own_string (P:=Tryz.prog) Tryz.underlying22 Tryz.underlying5 Tryz.underlying9 (Kd.own_of_R (Kd.R_drewN HO299.out m_))))
  go_ret
  exact ⟨q26_,q24_⟩
def spec_l2Words.f :Option (List ByteArray):=some (([(⟨#[]⟩:ByteArray),(⟨#[]⟩:ByteArray),(⟨#[]⟩:ByteArray),(⟨#[]⟩:ByteArray),(⟨#[110,101,103]⟩:ByteArray),(⟨#[110,111,116]⟩:ByteArray),(⟨#[104,105,103,104]⟩:ByteArray),(⟨#[108,111,119]⟩:ByteArray),(⟨#[43]⟩:ByteArray),(⟨#[45]⟩:ByteArray),(⟨#[42]⟩:ByteArray),(⟨#[47]⟩:ByteArray),(⟨#[37]⟩:ByteArray),(⟨#[38]⟩:ByteArray),(⟨#[94]⟩:ByteArray),(⟨#[124]⟩:ByteArray),(⟨#[60,60]⟩:ByteArray),(⟨#[62,62]⟩:ByteArray)]:List ByteArray))
theorem spec_l2Words.calls  (r:List ByteArray) (w:World) (h:spec_l2Words.f  = some r) :
  Calls Tryz.prog 22 #[] w fun e w' => ∃ v0_:Value,e = .returned (v0_) ∧ Kd.R Kd.string 9 w' w.heap.size (fun _ => True) v0_ r ∧ Below w.heap.size w w':=by
 have HB:=Aside0.mk (Below.refl w.heap.size w)
 have H:=h;unfold spec_l2Words.f at H
 clear h
 obtain ⟨y300,hy300⟩:∃ y_:List ByteArray,y_ = (([(⟨#[]⟩:ByteArray),(⟨#[]⟩:ByteArray),(⟨#[]⟩:ByteArray),(⟨#[]⟩:ByteArray),(⟨#[110,101,103]⟩:ByteArray),(⟨#[110,111,116]⟩:ByteArray),(⟨#[104,105,103,104]⟩:ByteArray),(⟨#[108,111,119]⟩:ByteArray),(⟨#[43]⟩:ByteArray),(⟨#[45]⟩:ByteArray),(⟨#[42]⟩:ByteArray),(⟨#[47]⟩:ByteArray),(⟨#[37]⟩:ByteArray),(⟨#[38]⟩:ByteArray),(⟨#[94]⟩:ByteArray),(⟨#[124]⟩:ByteArray),(⟨#[60,60]⟩:ByteArray),(⟨#[62,62]⟩:ByteArray)]:List ByteArray)):=⟨_,rfl⟩
 replace H:(some y300) = some r:=by first | (rw [hy300];exact H) | exact H
 have Ny300:=Aside0.mk hy300
 clear hy300
 obtain rfl:=Option.some.inj H
 go_enter Tryz.func22,Tryz.ntmps22
 go_wp2_with (first | ((with_reducible refine gate_dst (N:=1) rfl ?_);refine Kd.R_lit Kd.string _ 9 ?hg (N:=1) ?hd (xs:=([(⟨#[]⟩:ByteArray),(⟨#[]⟩:ByteArray),(⟨#[]⟩:ByteArray),(⟨#[]⟩:ByteArray),(⟨#[110,101,103]⟩:ByteArray),(⟨#[110,111,116]⟩:ByteArray),(⟨#[104,105,103,104]⟩:ByteArray),(⟨#[108,111,119]⟩:ByteArray),(⟨#[43]⟩:ByteArray),(⟨#[45]⟩:ByteArray),(⟨#[42]⟩:ByteArray),(⟨#[47]⟩:ByteArray),(⟨#[37]⟩:ByteArray),(⟨#[38]⟩:ByteArray),(⟨#[94]⟩:ByteArray),(⟨#[124]⟩:ByteArray),(⟨#[60,60]⟩:ByteArray),(⟨#[62,62]⟩:ByteArray)]:List ByteArray)) (inner:=[.string (⟨#[]⟩:ByteArray),.string (⟨#[]⟩:ByteArray),.string (⟨#[]⟩:ByteArray),.string (⟨#[]⟩:ByteArray),.string (⟨#[110,101,103]⟩:ByteArray),.string (⟨#[110,111,116]⟩:ByteArray),.string (⟨#[104,105,103,104]⟩:ByteArray),.string (⟨#[108,111,119]⟩:ByteArray),.string (⟨#[43]⟩:ByteArray),.string (⟨#[45]⟩:ByteArray),.string (⟨#[42]⟩:ByteArray),.string (⟨#[47]⟩:ByteArray),.string (⟨#[37]⟩:ByteArray),.string (⟨#[38]⟩:ByteArray),.string (⟨#[94]⟩:ByteArray),.string (⟨#[124]⟩:ByteArray),.string (⟨#[60,60]⟩:ByteArray),.string (⟨#[62,62]⟩:ByteArray)]) (ok:=fun _ => True) (okp:=fun _ => True) ?hr ?hp (fun _ hk => hk) trivial (Below.refl _ _) (Nat.le_refl _) (by simp) ?_;(case hd => rfl);(case hg => rfl);(case hr => exact q59_);(case hp => exact (Reps.one (show Kd.M Kd.string _ _ _ (⟨#[]⟩:ByteArray) [.string (⟨#[]⟩:ByteArray)] from rfl) (Reps.one (show Kd.M Kd.string _ _ _ (⟨#[]⟩:ByteArray) [.string (⟨#[]⟩:ByteArray)] from rfl) (Reps.one (show Kd.M Kd.string _ _ _ (⟨#[]⟩:ByteArray) [.string (⟨#[]⟩:ByteArray)] from rfl) (Reps.one (show Kd.M Kd.string _ _ _ (⟨#[]⟩:ByteArray) [.string (⟨#[]⟩:ByteArray)] from rfl) (Reps.one (show Kd.M Kd.string _ _ _ (⟨#[110,101,103]⟩:ByteArray) [.string (⟨#[110,101,103]⟩:ByteArray)] from rfl) (Reps.one (show Kd.M Kd.string _ _ _ (⟨#[110,111,116]⟩:ByteArray) [.string (⟨#[110,111,116]⟩:ByteArray)] from rfl) (Reps.one (show Kd.M Kd.string _ _ _ (⟨#[104,105,103,104]⟩:ByteArray) [.string (⟨#[104,105,103,104]⟩:ByteArray)] from rfl) (Reps.one (show Kd.M Kd.string _ _ _ (⟨#[108,111,119]⟩:ByteArray) [.string (⟨#[108,111,119]⟩:ByteArray)] from rfl) (Reps.one (show Kd.M Kd.string _ _ _ (⟨#[43]⟩:ByteArray) [.string (⟨#[43]⟩:ByteArray)] from rfl) (Reps.one (show Kd.M Kd.string _ _ _ (⟨#[45]⟩:ByteArray) [.string (⟨#[45]⟩:ByteArray)] from rfl) (Reps.one (show Kd.M Kd.string _ _ _ (⟨#[42]⟩:ByteArray) [.string (⟨#[42]⟩:ByteArray)] from rfl) (Reps.one (show Kd.M Kd.string _ _ _ (⟨#[47]⟩:ByteArray) [.string (⟨#[47]⟩:ByteArray)] from rfl) (Reps.one (show Kd.M Kd.string _ _ _ (⟨#[37]⟩:ByteArray) [.string (⟨#[37]⟩:ByteArray)] from rfl) (Reps.one (show Kd.M Kd.string _ _ _ (⟨#[38]⟩:ByteArray) [.string (⟨#[38]⟩:ByteArray)] from rfl) (Reps.one (show Kd.M Kd.string _ _ _ (⟨#[94]⟩:ByteArray) [.string (⟨#[94]⟩:ByteArray)] from rfl) (Reps.one (show Kd.M Kd.string _ _ _ (⟨#[124]⟩:ByteArray) [.string (⟨#[124]⟩:ByteArray)] from rfl) (Reps.one (show Kd.M Kd.string _ _ _ (⟨#[60,60]⟩:ByteArray) [.string (⟨#[60,60]⟩:ByteArray)] from rfl) (Reps.one (show Kd.M Kd.string _ _ _ (⟨#[62,62]⟩:ByteArray) [.string (⟨#[62,62]⟩:ByteArray)] from rfl) (Reps.none _ _))))))))))))))))))));intro v301 w1 ho2 hb hg_ hnew_;clear hg_ hnew_;(first | rw [← Ny300.out] at ho2 | (simp only [Int.reduceToNat] at ho2;rw [← Ny300.out] at ho2));have n0_:=Aside0.mk (Kd.R_lower ho2 (below_size q24_));have n1_:=Aside0.mk (below_step q24_ hb);clear HB;have HO302:=n0_;have HB:=n1_;clear n0_ n1_;clear hb ho2))
 go_ret
 exact ⟨_,q26_,by (with_reducible repeat (first | apply Kd.R_alloc | apply Kd.R_drewN | apply Kd.R_drew));exact HO302.out,q24_⟩
mutual
def spec_ExprText.l0:Nat → List (S43) → ByteArray → Int → Option (ByteArray)
 | 0,_,_,_ => none
 | k + 1,x0,x3,x4 => if x4 < (x0.length:Int) then (if x4 > 0 then (if x3.size + 1 ≤ 9223372036854775807 then (spec_ExprText.j1 k x0 (x3 ++ (⟨#[32]⟩:ByteArray)) x4) else (none)) else (spec_ExprText.j1 k x0 x3 x4)) else (some x3)
def spec_ExprText.j1:Nat → List (S43) → ByteArray → Int → Option (ByteArray)
 | 0,_,_,_ => none
 | k + 1,x0,x3,x4 => if 0 ≤ x4 then (if x4 < (x0.length:Int) then (if ((rd_T43 x0 x4).f0) = 1 then ((spec_l1Dec.f k ((rd_T43 x0 x4).f1)).bind fun t306 => (if x3.size + t306.size ≤ 9223372036854775807 then (spec_ExprText.l0 k x0 (x3 ++ t306) (wrap64 (x4 + 1))) else (none))) else (if ((rd_T43 x0 x4).f0) = 2 then (if x3.size + ((rd_T43 x0 x4).f2).size ≤ 9223372036854775807 then (spec_ExprText.l0 k x0 (x3 ++ ((rd_T43 x0 x4).f2)) (wrap64 (x4 + 1))) else (none)) else (if ((rd_T43 x0 x4).f0) = 3 then (if x3.size + 1 ≤ 9223372036854775807 then (if (x3 ++ (⟨#[35]⟩:ByteArray)).size + ((rd_T43 x0 x4).f2).size ≤ 9223372036854775807 then (spec_ExprText.l0 k x0 ((x3 ++ (⟨#[35]⟩:ByteArray)) ++ ((rd_T43 x0 x4).f2)) (wrap64 (x4 + 1))) else (none)) else (none)) else ((spec_l2Words.f).bind fun t309 => (if 0 ≤ ((rd_T43 x0 x4).f0) then (if ((rd_T43 x0 x4).f0) < (t309.length:Int) then (if x3.size + (rdOf ByteArray.empty t309 ((rd_T43 x0 x4).f0)).size ≤ 9223372036854775807 then (spec_ExprText.l0 k x0 (x3 ++ (rdOf ByteArray.empty t309 ((rd_T43 x0 x4).f0))) (wrap64 (x4 + 1))) else (none)) else (none)) else (none)))))) else (none)) else (none)
end
def spec_ExprText.f (k:Nat) (l0:List (S43)):Option (ByteArray):=(spec_ExprOk.f k l0).bind fun t303 => (if t303 = true then (spec_ExprText.l0 k l0 (⟨#[]⟩:ByteArray) 0) else (some (⟨#[]⟩:ByteArray)))
theorem spec_ExprText.mono_l:∀ k,(∀ y0 y1 y2,LeO (spec_ExprText.l0 k y0 y1 y2) (spec_ExprText.l0 (k + 1) y0 y1 y2)) ∧ (∀ y0 y1 y2,LeO (spec_ExprText.j1 k y0 y1 y2) (spec_ExprText.j1 (k + 1) y0 y1 y2))
 | 0 => ⟨fun _ _ _ r h => by simp [spec_ExprText.l0] at h,fun _ _ _ r h => by simp [spec_ExprText.j1] at h⟩
 | k + 1 => by
  obtain ⟨ih0,ih1⟩:=spec_ExprText.mono_l k
  refine ⟨?_,?_⟩
  ·intro y0 y1 y2
   unfold spec_ExprText.l0
   repeat' first
   | (with_reducible first | exact ih0 _ _ _ | exact ih1 _ _ _ | exact spec_ExprOk.mono _ _ | exact spec_l1Dec.mono _ _ | exact LeO.refl _ | exact LeO.none _ | refine LeO.ite ?_ ?_ | refine LeO.bind ?_ (fun _ => ?_))
   | exact ih0 _ _ _
   | exact ih1 _ _ _
   | exact spec_ExprOk.mono _ _
   | exact spec_l1Dec.mono _ _
   | exact LeO.none _
   | refine LeO.ite ?_ ?_
   | refine LeO.bind ?_ (fun _ => ?_)
  intro y0 y1 y2
  unfold spec_ExprText.j1
  repeat' first
  | (with_reducible first | exact ih0 _ _ _ | exact ih1 _ _ _ | exact spec_ExprOk.mono _ _ | exact spec_l1Dec.mono _ _ | exact LeO.refl _ | exact LeO.none _ | refine LeO.ite ?_ ?_ | refine LeO.bind ?_ (fun _ => ?_))
  | exact ih0 _ _ _
  | exact ih1 _ _ _
  | exact spec_ExprOk.mono _ _
  | exact spec_l1Dec.mono _ _
  | exact LeO.none _
  | refine LeO.ite ?_ ?_
  | refine LeO.bind ?_ (fun _ => ?_)
theorem spec_ExprText.mono:∀ a0 k,LeO (spec_ExprText.f k a0) (spec_ExprText.f (k + 1) a0):=by
 intro a0 k
 obtain ⟨ih0,ih1⟩:=spec_ExprText.mono_l k
 unfold spec_ExprText.f
 repeat' first
   | (with_reducible first | exact ih0 _ _ _ | exact ih1 _ _ _ | exact spec_ExprOk.mono _ _ | exact spec_l1Dec.mono _ _ | exact LeO.refl _ | exact LeO.none _ | refine LeO.ite ?_ ?_ | refine LeO.bind ?_ (fun _ => ?_))
   | exact ih0 _ _ _
   | exact ih1 _ _ _
   | exact spec_ExprOk.mono _ _
   | exact spec_l1Dec.mono _ _
   | exact LeO.none _
   | refine LeO.ite ?_ ?_
   | refine LeO.bind ?_ (fun _ => ?_)
def spec_ExprText.T10:Bool × List (List Nat × List Nat):=(true,[([],[]),([],[]),([],[]),([],[]),([2,3],[2,3]),([4],[4]),([5],[5]),([1,6],[1,6]),([7],[7]),([0,8],[0,8]),([9,1,0,1,2,3,4,5,6,7,8,9],[0,9])])
def spec_ExprText.B10:List Nat:=[0,0,0,0,12,28,60,126,254,511,1023]
theorem spec_ExprText.tab10:rtab .any (opsOf Tryz.f8 10) = spec_ExprText.T10:=by kernel_rfl
theorem spec_ExprText.bits10:waitsOk spec_ExprText.T10.2 spec_ExprText.B10 = true:=by kernel_rfl
theorem spec_ExprText.calls (k:Nat) (A0:Option Addr) (c0:Nat) (l0:List (S43)) (r:ByteArray) (w:World) (hr0:Kd.C k43 w A0 l0.length l0) (hc0:l0.length ≤ c0) (h:spec_ExprText.f k l0 = some r) :
  Calls Tryz.prog 8 #[.slice A0 l0.length c0] w fun e w' => e = .returned (.string r) ∧ Below w.heap.size w w':=by
 have HR0:=Aside0.mk hr0
 have HC0:=Aside0.mk hc0
 clear hr0 hc0
 have HB:=Aside0.mk (Below.refl w.heap.size w)
 have H:=h;unfold spec_ExprText.f at H
 clear h
 replace H:=Option.bind_eq_some_iff.mp H
 obtain ⟨t303,A20,H⟩:=H
 have A2:=Aside0.mk A20
 clear A20
 by_cases c3:t303 = true
 ·subst c3
  rewrite [if_pos rfl] at H
  have H':=Aside0.mk H
  clear H
  go_enter Tryz.func8,Tryz.ntmps8
  go_wp2_with (first | ((with_reducible refine gate_callee (f:=10) rfl ?_);refine goesL_ (some 6) rfl rfl Tryz.func10 (by kernel_rfl) rfl #[.slice A0 l0.length c0] rfl q22_ ?_;(with_reducible refine (spec_ExprOk.calls k _ _ l0 true _ ?side1 ?side2 A2.out).mono ?_);(case side1 => exact q57_);(case side2 => exact HC0.out);rintro e w4 ⟨rfl,hb⟩;refine ⟨_,rfl,?_⟩;replace HB:=Aside0.mk (below_step q24_ hb);(try clear hb)))
  go_loopg [3,4] k (fun kq v3 v4 w' => ∃ (x3_1:ByteArray) (x4_1:Int),v3 = .string x3_1 ∧ v4 = .int .i64 x4_1 ∧ Aside0 (spec_ExprText.l0 kq l0 x3_1 x4_1 = some r) ∧ Aside0 (kq ≤ k) ∧ Aside0 (Below w.heap.size w w'))
  case atStart => exact ⟨((⟨#[]⟩:ByteArray)),(0),q31_,q31_,H',⟨Nat.le_refl _⟩,⟨q24_⟩⟩
  clear H'
  try clear c1
  try clear p2
  try clear c3
  obtain ⟨x3_1,x4_1,rfl,rfl,HA,HK1,HB⟩:=hrel
  cases gk with
  | zero => exact absurd HA.out (by simp [spec_ExprText.l0])
  | succ k1 =>
   have H:=HA.out
   clear HA
   simp only [spec_ExprText.l0] at H
   by_cases c5:x4_1 < (l0.length:Int)
   ·rw [if_pos c5] at H
    have c5b0:=decide_eq_true c5
    clear c5
    have HC6:=Aside0.mk H
    clear H
    go_upto_if 15 with (fail)
    go_cut [3] (fun v3 wc => ∃ (kq:Nat) (x3_5:ByteArray),v3 = .string x3_5 ∧ Aside0 (spec_ExprText.j1 kq l0 x3_5 x4_1 = some r) ∧ Aside0 (kq ≤ k1) ∧ Aside0 (Below w.heap.size w wc))
    case first =>
     have H:=HC6.out
     clear HC6
     by_cases c7:x4_1 > 0
     ·rw [if_pos c7] at H
      have c7b0:decide (0 < x4_1) = true:=decide_eq_true c7
      clear c7
      (first | rw [c7b0] | (simp only [i64_w,i32_w];rw [c7b0]) | rw [c7b9] | skip)
      by_cases c8:x3_1.size + 1 ≤ 9223372036854775807
      rotate_left
      ·rw [if_neg c8] at H
       exact absurd H (by simp)
      rw [if_pos c8] at H
      have c8b0:=eq_true c8
      have c8b1:=decide_eq_true c8
      try have c8b2:(9223372036854775807 < x3_1.size + 1) = False:=eq_false (Nat.not_lt.2 c8)
      have H':=Aside0.mk H
      clear H
      go_wp2
      go_meet
      case rel => exact ⟨_,(x3_1 ++ (⟨#[32]⟩:ByteArray)),q31_,H',⟨q45_⟩,⟨q24_⟩⟩
     rw [if_neg c7] at H
     have c7b0:decide (0 < x4_1) = false:=decide_eq_false c7
     clear c7
     (first | rw [c7b0] | (simp only [i64_w,i32_w];rw [c7b0]) | rw [c7b9] | skip)
     have H':=Aside0.mk H
     clear H
     go_wp2
     go_meet
     case rel => exact ⟨_,(x3_1),q31_,H',⟨q45_⟩,⟨q24_⟩⟩
    clear HC6
    try clear c1
    try clear p2 p2
    try clear c3
    try clear c5
    try clear c5b0
    try clear p6
    try clear c7
    try clear c7b0
    try clear c8
    try clear c8b0
    try clear c8b1
    try clear c8b2
    obtain ⟨kq,x3_5,rfl,HA,HJ5,HB⟩:=hcut
    cases kq with
    | zero => exact absurd HA.out (by simp [spec_ExprText.j1])
    | succ kj5 =>
     have H:=HA.out
     clear HA
     simp only [spec_ExprText.j1] at H
     by_cases c9:0 ≤ x4_1
     rotate_left
     ·rw [if_neg c9] at H
      exact absurd H (by simp)
     rw [if_pos c9] at H
     have c9b0:=decide_eq_true c9
     clear c9
     by_cases c10:x4_1 < (l0.length:Int)
     rotate_left
     ·rw [if_neg c10] at H
      exact absurd H (by simp)
     rw [if_pos c10] at H
     have c10b0:=decide_eq_true c10
     clear c10
     by_cases c11:((rd_T43 l0 x4_1).f0) = 1
     ·rw [if_pos c11] at H
      have c11b0:(((rd_T43 l0 x4_1).f0) == 1) = true:=beq_iff_eq.mpr c11
      have c11b1:(((rd_T43 l0 x4_1).f0) != 1) = false:=bne_eq_false_iff_eq.mpr c11
      clear c11
      replace H:=Option.bind_eq_some_iff.mp H
      obtain ⟨t306,A120,H⟩:=H
      have A12:=Aside0.mk A120
      clear A120
      by_cases c13:x3_5.size + t306.size ≤ 9223372036854775807
      rotate_left
      ·rw [if_neg c13] at H
       exact absurd H (by simp)
      rw [if_pos c13] at H
      have c13b0:=eq_true c13
      have c13b1:=decide_eq_true c13
      try have c13b2:(9223372036854775807 < x3_5.size + t306.size) = False:=eq_false (Nat.not_lt.2 c13)
      have H':=Aside0.mk H
      clear H
      have p304:0 ≤ (x4_1:Int):=of_decide_eq_true q46_
      have q304:x4_1 < (l0.length:Int):=of_decide_eq_true q46_
      obtain ⟨ad304,e304,hx304_0,hx304_1,hx304_2⟩:=at_T43 HR0.out x4_1 p304 q304
      cases e304
      replace hx304_0:=(HB.out.cell (World.block_lt_of_cell? w _ hx304_0)).trans hx304_0
      replace hx304_1:=(HB.out.cell (World.block_lt_of_cell? w _ hx304_1)).trans hx304_1
      replace hx304_2:=(HB.out.cell (World.block_lt_of_cell? w _ hx304_2)).trans hx304_2
      replace p304:=eq_true p304
      replace q304:=eq_true q304
      have p305:0 ≤ (x4_1:Int):=of_decide_eq_true q46_
      have q305:x4_1 < (l0.length:Int):=of_decide_eq_true q46_
      obtain ⟨ad305,e305,hx305_0,hx305_1,hx305_2⟩:=at_T43 HR0.out x4_1 p305 q305
      obtain rfl:ad304 = ad305:=(by injection e305)
      replace hx305_0:=(HB.out.cell (World.block_lt_of_cell? w _ hx305_0)).trans hx305_0
      replace hx305_1:=(HB.out.cell (World.block_lt_of_cell? w _ hx305_1)).trans hx305_1
      replace hx305_2:=(HB.out.cell (World.block_lt_of_cell? w _ hx305_2)).trans hx305_2
      replace p305:=eq_true p305
      replace q305:=eq_true q305
      go_wp2_with (first | ((with_reducible refine gate_callee (f:=21) rfl ?_);refine goesL_ (some 41) rfl rfl Tryz.func21 (by kernel_rfl) rfl #[.int .i64 ((rd_T43 l0 x4_1).f1)] rfl q22_ ?_;(with_reducible refine (spec_l1Dec.calls kj5 ((rd_T43 l0 x4_1).f1) t306 _ A12.out).mono ?_);rintro e w14 ⟨rfl,hb⟩;refine ⟨_,rfl,?_⟩;replace HB:=Aside0.mk (below_step q24_ hb);(try clear hb)))
      go_roundg kj5
      case measure => have:=HK1.out;have:=HJ5.out;omega
      case rel => exact ⟨(x3_5 ++ t306),(wrap64 (x4_1 + 1)),q31_,q31_,H',⟨q47_⟩,⟨q24_⟩⟩
     rw [if_neg c11] at H
     have c11b0:(((rd_T43 l0 x4_1).f0) == 1) = false:=beq_eq_false_iff_ne.mpr c11
     have c11b1:(((rd_T43 l0 x4_1).f0) != 1) = true:=bne_iff_ne.mpr c11
     by_cases c15:((rd_T43 l0 x4_1).f0) = 2
     ·rw [if_pos c15] at H
      have c15b0:(((rd_T43 l0 x4_1).f0) == 2) = true:=beq_iff_eq.mpr c15
      have c15b1:(((rd_T43 l0 x4_1).f0) != 2) = false:=bne_eq_false_iff_eq.mpr c15
      clear c15
      by_cases c16:x3_5.size + ((rd_T43 l0 x4_1).f2).size ≤ 9223372036854775807
      rotate_left
      ·rw [if_neg c16] at H
       exact absurd H (by simp)
      rw [if_pos c16] at H
      have c16b0:=eq_true c16
      have c16b1:=decide_eq_true c16
      try have c16b2:(9223372036854775807 < x3_5.size + ((rd_T43 l0 x4_1).f2).size) = False:=eq_false (Nat.not_lt.2 c16)
      have H':=Aside0.mk H
      clear H
      have p304:0 ≤ (x4_1:Int):=of_decide_eq_true q46_
      have q304:x4_1 < (l0.length:Int):=of_decide_eq_true q46_
      obtain ⟨ad304,e304,hx304_0,hx304_1,hx304_2⟩:=at_T43 HR0.out x4_1 p304 q304
      cases e304
      replace hx304_0:=(HB.out.cell (World.block_lt_of_cell? w _ hx304_0)).trans hx304_0
      replace hx304_1:=(HB.out.cell (World.block_lt_of_cell? w _ hx304_1)).trans hx304_1
      replace hx304_2:=(HB.out.cell (World.block_lt_of_cell? w _ hx304_2)).trans hx304_2
      replace p304:=eq_true p304
      replace q304:=eq_true q304
      have p307:0 ≤ (x4_1:Int):=of_decide_eq_true q46_
      have q307:x4_1 < (l0.length:Int):=of_decide_eq_true q46_
      obtain ⟨ad307,e307,hx307_0,hx307_1,hx307_2⟩:=at_T43 HR0.out x4_1 p307 q307
      obtain rfl:ad304 = ad307:=(by injection e307)
      replace hx307_0:=(HB.out.cell (World.block_lt_of_cell? w _ hx307_0)).trans hx307_0
      replace hx307_1:=(HB.out.cell (World.block_lt_of_cell? w _ hx307_1)).trans hx307_1
      replace hx307_2:=(HB.out.cell (World.block_lt_of_cell? w _ hx307_2)).trans hx307_2
      replace p307:=eq_true p307
      replace q307:=eq_true q307
      go_wp2
      go_roundg kj5
      case measure => have:=HK1.out;have:=HJ5.out;omega
      case rel => exact ⟨(x3_5 ++ ((rd_T43 l0 x4_1).f2)),(wrap64 (x4_1 + 1)),q31_,q31_,H',⟨q47_⟩,⟨q24_⟩⟩
     rw [if_neg c15] at H
     have c15b0:(((rd_T43 l0 x4_1).f0) == 2) = false:=beq_eq_false_iff_ne.mpr c15
     have c15b1:(((rd_T43 l0 x4_1).f0) != 2) = true:=bne_iff_ne.mpr c15
     by_cases c17:((rd_T43 l0 x4_1).f0) = 3
     ·rw [if_pos c17] at H
      have c17b0:(((rd_T43 l0 x4_1).f0) == 3) = true:=beq_iff_eq.mpr c17
      have c17b1:(((rd_T43 l0 x4_1).f0) != 3) = false:=bne_eq_false_iff_eq.mpr c17
      clear c17
      by_cases c18:x3_5.size + 1 ≤ 9223372036854775807
      rotate_left
      ·rw [if_neg c18] at H
       exact absurd H (by simp)
      rw [if_pos c18] at H
      have c18b0:=eq_true c18
      have c18b1:=decide_eq_true c18
      try have c18b2:(9223372036854775807 < x3_5.size + 1) = False:=eq_false (Nat.not_lt.2 c18)
      by_cases c19:(x3_5 ++ (⟨#[35]⟩:ByteArray)).size + ((rd_T43 l0 x4_1).f2).size ≤ 9223372036854775807
      rotate_left
      ·rw [if_neg c19] at H
       exact absurd H (by simp)
      rw [if_pos c19] at H
      have c19b0:=eq_true c19
      (try (have c19b0e:=c19b0;simp only [ByteArray.size_append,ByteArray.size_extract,Nat.min_self,Nat.sub_zero,show (⟨#[35]⟩:ByteArray).size = 1 from rfl] at c19b0e))
      have c19b1:=decide_eq_true c19
      (try (have c19b1e:=c19b1;simp only [ByteArray.size_append,ByteArray.size_extract,Nat.min_self,Nat.sub_zero,show (⟨#[35]⟩:ByteArray).size = 1 from rfl] at c19b1e))
      try have c19b2:(9223372036854775807 < (x3_5 ++ (⟨#[35]⟩:ByteArray)).size + ((rd_T43 l0 x4_1).f2).size) = False:=eq_false (Nat.not_lt.2 c19)
      (try (have c19b2e:=c19b2;simp only [ByteArray.size_append,ByteArray.size_extract,Nat.min_self,Nat.sub_zero,show (⟨#[35]⟩:ByteArray).size = 1 from rfl] at c19b2e))
      have H':=Aside0.mk H
      clear H
      have p304:0 ≤ (x4_1:Int):=of_decide_eq_true q46_
      have q304:x4_1 < (l0.length:Int):=of_decide_eq_true q46_
      obtain ⟨ad304,e304,hx304_0,hx304_1,hx304_2⟩:=at_T43 HR0.out x4_1 p304 q304
      cases e304
      replace hx304_0:=(HB.out.cell (World.block_lt_of_cell? w _ hx304_0)).trans hx304_0
      replace hx304_1:=(HB.out.cell (World.block_lt_of_cell? w _ hx304_1)).trans hx304_1
      replace hx304_2:=(HB.out.cell (World.block_lt_of_cell? w _ hx304_2)).trans hx304_2
      replace p304:=eq_true p304
      replace q304:=eq_true q304
      have p308:0 ≤ (x4_1:Int):=of_decide_eq_true q46_
      have q308:x4_1 < (l0.length:Int):=of_decide_eq_true q46_
      obtain ⟨ad308,e308,hx308_0,hx308_1,hx308_2⟩:=at_T43 HR0.out x4_1 p308 q308
      obtain rfl:ad304 = ad308:=(by injection e308)
      replace hx308_0:=(HB.out.cell (World.block_lt_of_cell? w _ hx308_0)).trans hx308_0
      replace hx308_1:=(HB.out.cell (World.block_lt_of_cell? w _ hx308_1)).trans hx308_1
      replace hx308_2:=(HB.out.cell (World.block_lt_of_cell? w _ hx308_2)).trans hx308_2
      replace p308:=eq_true p308
      replace q308:=eq_true q308
      go_wp2
      go_roundg kj5
      case measure => have:=HK1.out;have:=HJ5.out;omega
      case rel => exact ⟨((x3_5 ++ (⟨#[35]⟩:ByteArray)) ++ ((rd_T43 l0 x4_1).f2)),(wrap64 (x4_1 + 1)),q31_,q31_,H',⟨q47_⟩,⟨q24_⟩⟩
     rw [if_neg c17] at H
     have c17b0:(((rd_T43 l0 x4_1).f0) == 3) = false:=beq_eq_false_iff_ne.mpr c17
     have c17b1:(((rd_T43 l0 x4_1).f0) != 3) = true:=bne_iff_ne.mpr c17
     replace H:=Option.bind_eq_some_iff.mp H
     obtain ⟨t309,A200,H⟩:=H
     have A20:=Aside0.mk A200
     clear A200
     by_cases c21:0 ≤ ((rd_T43 l0 x4_1).f0)
     rotate_left
     ·rw [if_neg c21] at H
      exact absurd H (by simp)
     rw [if_pos c21] at H
     have c21b0:=decide_eq_true c21
     clear c21
     by_cases c22:((rd_T43 l0 x4_1).f0) < (t309.length:Int)
     rotate_left
     ·rw [if_neg c22] at H
      exact absurd H (by simp)
     rw [if_pos c22] at H
     have c22b0:=decide_eq_true c22
     clear c22
     by_cases c23:x3_5.size + (rdOf ByteArray.empty t309 ((rd_T43 l0 x4_1).f0)).size ≤ 9223372036854775807
     rotate_left
     ·rw [if_neg c23] at H
      exact absurd H (by simp)
     rw [if_pos c23] at H
     have c23b0:=eq_true c23
     have c23b1:=decide_eq_true c23
     try have c23b2:(9223372036854775807 < x3_5.size + (rdOf ByteArray.empty t309 ((rd_T43 l0 x4_1).f0)).size) = False:=eq_false (Nat.not_lt.2 c23)
     have H':=Aside0.mk H
     clear H
     have p304:0 ≤ (x4_1:Int):=of_decide_eq_true q46_
     have q304:x4_1 < (l0.length:Int):=of_decide_eq_true q46_
     obtain ⟨ad304,e304,hx304_0,hx304_1,hx304_2⟩:=at_T43 HR0.out x4_1 p304 q304
     cases e304
     replace hx304_0:=(HB.out.cell (World.block_lt_of_cell? w _ hx304_0)).trans hx304_0
     replace hx304_1:=(HB.out.cell (World.block_lt_of_cell? w _ hx304_1)).trans hx304_1
     replace hx304_2:=(HB.out.cell (World.block_lt_of_cell? w _ hx304_2)).trans hx304_2
     replace p304:=eq_true p304
     replace q304:=eq_true q304
     try go_wp2
     have n0_:=Aside0.mk (below_drew1 HB.out)
     clear HB
     have HB:=n0_
     clear n0_
     have p312:0 ≤ (x4_1:Int):=of_decide_eq_true q46_
     have q312:x4_1 < (l0.length:Int):=of_decide_eq_true q46_
     obtain ⟨ad312,e312,hx312_0,hx312_1,hx312_2⟩:=at_T43 HR0.out x4_1 p312 q312
     have hw312_2:=hx312_2
     have hw312_1:=hx312_1
     have hw312_0:=hx312_0
     obtain rfl:ad304 = ad312:=(by injection e312)
     replace hx312_0:=(HB.out.cell (World.block_lt_of_cell? w _ hx312_0)).trans hx312_0
     replace hx312_1:=(HB.out.cell (World.block_lt_of_cell? w _ hx312_1)).trans hx312_1
     replace hx312_2:=(HB.out.cell (World.block_lt_of_cell? w _ hx312_2)).trans hx312_2
     replace p312:=eq_true p312
     replace q312:=eq_true q312
     refine start_ (n:=11) (S:=fun w' => w'.cell? (ad304.add ((x4_1).toNat * 3)) = some (.int .i64 ((rd_T43 l0 x4_1).f0)) ∧ w'.cell? ⟨(ad304.add ((x4_1).toNat * 3)).block,(ad304.add ((x4_1).toNat * 3)).off + 1,none⟩ = some (.int .i64 ((rd_T43 l0 x4_1).f1)) ∧ w'.cell? ⟨(ad304.add ((x4_1).toNat * 3)).block,(ad304.add ((x4_1).toNat * 3)).off + 2,none⟩ = some (.string ((rd_T43 l0 x4_1).f2))) (ds:=[8]) #[false,false,false,false,false,false,false,false,false,false,false] (by kernel_rfl) rfl rfl ⟨((HB.out.cell (World.block_lt_of_cell? w _ hw312_0)).trans hw312_0),((HB.out.cell (World.block_lt_of_cell? w _ hw312_1)).trans hw312_1),((HB.out.cell (World.block_lt_of_cell? w _ hw312_2)).trans hw312_2)⟩ (fun hHeld => ?_);refine with_tabW spec_ExprText.tab10 spec_ExprText.bits10 (fun HT_ HW_ => ?_)
     generalize wc.drew = w24 at HB hx312_0 hx312_1 hx312_2 hHeld ⊢
     refine pure_ (i:=0) (N:=some 23) (v:=?_) (a':=?_) #[true,false,false,false,false,false,false,false,false,false,false] rfl rfl (any_of HT_.out (by kernel_rfl)) (fun _ _ _ h => h) (Or.inl ⟨by rfl,?_⟩) ?_ ?_
     rotate_left
     ·intro w'
      go_simp
      with_reducible rfl
     rotate_left
     ·simp only [Act.put,List.setIfInBounds_toArray,List.set_cons_zero,List.set_cons_succ,i64_w,i32_w]
      rfl
     refine pure_ (i:=2) (N:=some 25) (v:=?_) (a':=?_) #[true,false,true,false,false,false,false,false,false,false,false] rfl rfl (any_of HT_.out (by kernel_rfl)) (fun _ _ _ h => h) (Or.inl ⟨by rfl,?_⟩) ?_ ?_
     rotate_left
     ·intro w'
      go_simp
      with_reducible rfl
     rotate_left
     ·simp only [Act.put,List.setIfInBounds_toArray,List.set_cons_zero,List.set_cons_succ,i64_w,i32_w]
      rfl
     refine pure_ (i:=3) (N:=some 26) (v:=?_) (a':=?_) #[true,false,true,true,false,false,false,false,false,false,false] rfl rfl (any_of HT_.out (by kernel_rfl)) (fun _ _ _ h => h) (Or.inl ⟨by rfl,?_⟩) ?_ ?_
     rotate_left
     ·intro w'
      go_simp
      with_reducible rfl
     rotate_left
     ·simp only [Act.put,List.setIfInBounds_toArray,List.set_cons_zero,List.set_cons_succ,i64_w,i32_w]
      rfl
     refine pure_ (i:=4) (N:=some 27) (v:=?_) (a':=?_) #[true,false,true,true,true,false,false,false,false,false,false] rfl rfl (any_of HT_.out (by kernel_rfl)) (fun _ _ _ h => h) (Or.inl ⟨by rfl,?_⟩) ?_ ?_
     rotate_left
     ·intro w'
      go_simp
      with_reducible rfl
     rotate_left
     ·simp only [Act.put,List.setIfInBounds_toArray,List.set_cons_zero,List.set_cons_succ,i64_w,i32_w]
      rfl
     refine pure_ (i:=5) (N:=some 28) (v:=?_) (a':=?_) #[true,false,true,true,true,true,false,false,false,false,false] rfl rfl (any_of HT_.out (by kernel_rfl)) (fun _ _ _ h => h) (Or.inl ⟨by rfl,?_⟩) ?_ ?_
     rotate_left
     ·intro w'
      go_simp
      with_reducible rfl
     rotate_left
     ·simp only [Act.put,List.setIfInBounds_toArray,List.set_cons_zero,List.set_cons_succ,i64_w,i32_w]
      rfl
     refine take_ (i:=6) (N:=some 29) (v:=?_) (a':=?_) #[true,false,true,true,true,true,true,false,false,false,false] rfl rfl (take_ofW HT_.out HW_.out (by kernel_rfl)) (fun _ _ _ h => h) (Or.inl ⟨by rfl,?_⟩) hHeld ?_ ?_
     rotate_left
     ·rintro w' ⟨s0,s1,s2⟩
      go_simp
      with_reducible rfl
     rotate_left
     ·simp only [Act.put,List.setIfInBounds_toArray,List.set_cons_zero,List.set_cons_succ,i64_w,i32_w]
      rfl
     refine one_ (i:=1) (N:=some 24) #[true,true,true,true,true,true,true,false,false,false,false] rfl rfl (one_of HT_.out (by kernel_rfl)) (by decide) (fun K hK => ?_)
     refine goes_ Tryz.func22 (by kernel_rfl) rfl #[] (by rfl) rfl rfl q22_ ?_
     with_reducible refine (spec_l2Words.calls  t309 _ A20.out).mono ?_
     rintro e w25 ⟨v310,rfl,ho0,hb⟩
     skip
     refine ⟨_,rfl,?_⟩
     have n0_:=Aside0.mk (Kd.R_lower ho0 (below_size q24_))
     have n1_:=Aside0.mk (below_step q24_ hb)
     clear HB
     have HO311:=n0_
     have HB:=n1_
     clear n0_ n1_
     (try clear hb)
     (try clear hb2)
     (try clear hk)
     (try clear hi)
     (try clear ho0)
     obtain ⟨Ao26,co26,eo26⟩:=Kd.R_slice HO311.out
     (first | subst eo26 | (injection eo26 with f1_ f2_ f3_;have f4_:=f1_.symm;have f5_:=f3_.symm;clear f1_ f2_ f3_;subst f4_;subst f5_))
     have p313:0 ≤ (((rd_T43 l0 x4_1).f0):Int):=of_decide_eq_true q46_
     have q313:((rd_T43 l0 x4_1).f0) < (t309.length:Int):=of_decide_eq_true q46_
     obtain ⟨ad313,e313,hx313_0⟩:=Kd.at_string (Kd.R_reads' HO311.out).2.2 ((rd_T43 l0 x4_1).f0) p313 q313
     cases e313
     replace p313:=eq_true p313
     replace q313:=eq_true q313
     refine hK.out _ _ ⟨((HB.out.cell (World.block_lt_of_cell? w _ hw312_0)).trans hw312_0),((HB.out.cell (World.block_lt_of_cell? w _ hw312_1)).trans hw312_1),((HB.out.cell (World.block_lt_of_cell? w _ hw312_2)).trans hw312_2)⟩ (fun hHeld => ?_)
     clear hK K
     refine norm_ (a':=?_) ?_ ?_
     rotate_left
     ·show Act.put _ (some 24) _ = _
      simp only [Act.put,List.setIfInBounds_toArray,List.set_cons_zero,List.set_cons_succ,i64_w,i32_w]
      rfl
     refine pure_ (i:=7) (N:=some 30) (v:=?_) (a':=?_) #[true,true,true,true,true,true,true,true,false,false,false] rfl rfl (any_of HT_.out (by kernel_rfl)) (fun _ _ _ h => h) (Or.inl ⟨by rfl,?_⟩) ?_ ?_
     rotate_left
     ·intro w'
      go_simp
      with_reducible rfl
     rotate_left
     ·simp only [Act.put,List.setIfInBounds_toArray,List.set_cons_zero,List.set_cons_succ,i64_w,i32_w]
      rfl
     refine last_ (i:=8) (N:=some 31) #[true,true,true,true,true,true,true,true,true,false,false] rfl rfl (one_of HT_.out (by kernel_rfl)) (by decide) (fun K hK => ?_)
     refine value_ (w1:=?_) (v:=?_) (by rfl) rfl ?_ ?_
     rotate_left 2
     ·go_simp
      constructor
      ·rfl
      rfl
     refine hK.out _ _ ?_
     clear hK K
     refine norm_ (a':=?_) ?_ ?_
     rotate_left
     ·show Act.put _ (some 31) _ = _
      simp only [Act.put,List.setIfInBounds_toArray,List.set_cons_zero,List.set_cons_succ,i64_w,i32_w]
      rfl
     refine pure_ (i:=9) (N:=some 32) (v:=?_) (a':=?_) #[true,true,true,true,true,true,true,true,true,true,false] rfl rfl (any_of HT_.out (by kernel_rfl)) (fun _ _ _ h => h) (Or.inl ⟨by rfl,?_⟩) ?_ ?_
     rotate_left
     ·intro w'
      go_simp
      with_reducible rfl
     rotate_left
     ·simp only [Act.put,List.setIfInBounds_toArray,List.set_cons_zero,List.set_cons_succ,i64_w,i32_w]
      rfl
     refine pure_ (i:=10) (N:=some 3) (v:=?_) (a':=?_) #[true,true,true,true,true,true,true,true,true,true,true] rfl rfl (any_of HT_.out (by kernel_rfl)) (fun _ _ _ h => h) (Or.inl ⟨by rfl,?_⟩) ?_ ?_
     rotate_left
     ·intro w'
      go_simp
      with_reducible rfl
     rotate_left
     ·simp only [Act.put,List.setIfInBounds_toArray,List.set_cons_zero,List.set_cons_succ,i64_w,i32_w]
      rfl
     refine done_ (done_of HT_.out (by kernel_rfl)) ?_
     try go_wp2
     go_roundg kj5
     case measure => have:=HK1.out;have:=HJ5.out;omega
     case rel => exact ⟨(x3_5 ++ (rdOf ByteArray.empty t309 ((rd_T43 l0 x4_1).f0))),(wrap64 (x4_1 + 1)),q31_,q31_,H',⟨q47_⟩,⟨q24_⟩⟩
   rw [if_neg c5] at H
   have c5b0:=decide_eq_false c5
   clear c5
   obtain rfl:=Option.some.inj H
   go_wp2
   go_ret
   exact ⟨q26_,q24_⟩
 replace c3:=Bool.eq_false_iff.mpr c3
 subst c3
 rewrite [if_neg (show ¬ (false = true) by decide)] at H
 obtain rfl:=Option.some.inj H
 go_enter Tryz.func8,Tryz.ntmps8
 go_wp2_with (first | ((with_reducible refine gate_callee (f:=10) rfl ?_);refine goesL_ (some 6) rfl rfl Tryz.func10 (by kernel_rfl) rfl #[.slice A0 l0.length c0] rfl q22_ ?_;(with_reducible refine (spec_ExprOk.calls k _ _ l0 false _ ?side1 ?side2 A2.out).mono ?_);(case side1 => exact q57_);(case side2 => exact HC0.out);rintro e w27 ⟨rfl,hb⟩;refine ⟨_,rfl,?_⟩;replace HB:=Aside0.mk (below_step q24_ hb);(try clear hb)))
 go_ret
 exact ⟨q26_,q24_⟩
def laws_sameExpr.l0:Nat → List (S43) → List (S43) → Int → Option (Bool)
 | 0,_,_,_ => none
 | k + 1,x0,x1,x5 => if x5 < (x0.length:Int) then (if 0 ≤ x5 then (if x5 < (x1.length:Int) then (if (!(((rd_T43 x0 x5).f0) == ((rd_T43 x1 x5).f0)) || (!(((rd_T43 x0 x5).f1) == ((rd_T43 x1 x5).f1)) || (!((((rd_T43 x0 x5).f2).toList) == (((rd_T43 x1 x5).f2).toList))))) = true then (some false) else (laws_sameExpr.l0 k x0 x1 (wrap64 (x5 + 1)))) else (none)) else (none)) else (some true)
def laws_sameExpr.f (k:Nat) (l0:List (S43)) (l1:List (S43)):Option (Bool):=if (l0.length:Int) = (l1.length:Int) then (laws_sameExpr.l0 k l0 l1 0) else (some false)
theorem laws_sameExpr.mono_l:∀ k,(∀ y0 y1 y2,LeO (laws_sameExpr.l0 k y0 y1 y2) (laws_sameExpr.l0 (k + 1) y0 y1 y2))
 | 0 => fun _ _ _ r h => by simp [laws_sameExpr.l0] at h
 | k + 1 => by
  have ih0:=laws_sameExpr.mono_l k
  intro y0 y1 y2
  unfold laws_sameExpr.l0
  repeat' first
  | (with_reducible first | exact ih0 _ _ _ | exact LeO.refl _ | exact LeO.none _ | refine LeO.ite ?_ ?_ | refine LeO.bind ?_ (fun _ => ?_))
  | exact ih0 _ _ _
  | exact LeO.none _
  | refine LeO.ite ?_ ?_
  | refine LeO.bind ?_ (fun _ => ?_)
theorem laws_sameExpr.mono:∀ a0 a1 k,LeO (laws_sameExpr.f k a0 a1) (laws_sameExpr.f (k + 1) a0 a1):=by
 intro a0 a1 k
 have ih0:=laws_sameExpr.mono_l k
 unfold laws_sameExpr.f
 repeat' first
   | (with_reducible first | exact ih0 _ _ _ | exact LeO.refl _ | exact LeO.none _ | refine LeO.ite ?_ ?_ | refine LeO.bind ?_ (fun _ => ?_))
   | exact ih0 _ _ _
   | exact LeO.none _
   | refine LeO.ite ?_ ?_
   | refine LeO.bind ?_ (fun _ => ?_)
theorem laws_sameExpr.calls (k:Nat) (A0:Option Addr) (c0:Nat) (l0:List (S43)) (A1:Option Addr) (c1:Nat) (l1:List (S43)) (r:Bool) (w:World) (hr0:Kd.C k43 w A0 l0.length l0) (hc0:l0.length ≤ c0) (hr1:Kd.C k43 w A1 l1.length l1) (hc1:l1.length ≤ c1) (h:laws_sameExpr.f k l0 l1 = some r) :
  Calls Tryz.prog 11 #[.slice A0 l0.length c0,.slice A1 l1.length c1] w fun e w' => e = .returned (.bool r) ∧ Drawn0 w w':=by
 have hu43:=Tryz.underlying43
 have HR0:=Aside0.mk hr0
 have HC0:=Aside0.mk hc0
 clear hr0 hc0
 have HR1:=Aside0.mk hr1
 have HC1:=Aside0.mk hc1
 clear hr1 hc1
 have H:=h;unfold laws_sameExpr.f at H
 clear h
 by_cases c3:(l0.length:Int) = (l1.length:Int)
 ·rw [if_pos c3] at H
  have c3b0:((l0.length:Int) == (l1.length:Int)) = true:=beq_iff_eq.mpr c3
  have c3b1:((l0.length:Int) != (l1.length:Int)) = false:=bne_eq_false_iff_eq.mpr c3
  have c3b2:(l0.length == l1.length) = true:=by first | simpa using c3 | (simp at c3 ⊢;omega)
  clear c3
  have H':=Aside0.mk H
  clear H
  go_enter Tryz.func11,Tryz.ntmps11
  go_wp2
  repeat (go_quiet (fail);try go_wp2)
  go_loopg [5] k (fun kq v5 w' => ∃ (x5_1:Int),v5 = .int .i64 x5_1 ∧ Aside0 (laws_sameExpr.l0 kq l0 l1 x5_1 = some r) ∧ Aside0 (kq ≤ k) ∧ Drawn0 w w')
  case atStart => exact ⟨(0),q31_,H',⟨Nat.le_refl _⟩,q44_⟩
  clear H'
  try clear c1
  try clear p2
  try clear c3
  try clear c3b0
  try clear c3b1
  try clear c3b2
  obtain ⟨x5_1,rfl,HA,HK1,⟨m1,rfl⟩⟩:=hrel
  cases gk with
  | zero => exact absurd HA.out (by simp [laws_sameExpr.l0])
  | succ k1 =>
   have H:=HA.out
   clear HA
   simp only [laws_sameExpr.l0] at H
   by_cases c4:x5_1 < (l0.length:Int)
   ·rw [if_pos c4] at H
    have c4b0:=decide_eq_true c4
    clear c4
    by_cases c5:0 ≤ x5_1
    rotate_left
    ·rw [if_neg c5] at H
     exact absurd H (by simp)
    rw [if_pos c5] at H
    have c5b0:=decide_eq_true c5
    clear c5
    by_cases c6:x5_1 < (l1.length:Int)
    rotate_left
    ·rw [if_neg c6] at H
     exact absurd H (by simp)
    rw [if_pos c6] at H
    have c6b0:=decide_eq_true c6
    clear c6
    by_cases c7:(!(((rd_T43 l0 x5_1).f0) == ((rd_T43 l1 x5_1).f0)) || (!(((rd_T43 l0 x5_1).f1) == ((rd_T43 l1 x5_1).f1)) || (!((((rd_T43 l0 x5_1).f2).toList) == (((rd_T43 l1 x5_1).f2).toList))))) = true
    ·rw [if_pos c7] at H
     have c7b0:(!(((rd_T43 l0 x5_1).f0) == ((rd_T43 l1 x5_1).f0)) || (!(((rd_T43 l0 x5_1).f1) == ((rd_T43 l1 x5_1).f1)) || (!((((rd_T43 l0 x5_1).f2).toList) == (((rd_T43 l1 x5_1).f2).toList))))) = true:=c7
     clear c7
     obtain rfl:=Option.some.inj H
     have p314:0 ≤ (x5_1:Int):=of_decide_eq_true q46_
     have q314:x5_1 < (l0.length:Int):=of_decide_eq_true q46_
     obtain ⟨ad314,e314,hx314_0,hx314_1,hx314_2⟩:=at_T43 HR0.out x5_1 p314 q314
     cases e314
     replace p314:=eq_true p314
     replace q314:=eq_true q314
     have p315:0 ≤ (x5_1:Int):=of_decide_eq_true q46_
     have q315:x5_1 < (l1.length:Int):=of_decide_eq_true q46_
     obtain ⟨ad315,e315,hx315_0,hx315_1,hx315_2⟩:=at_T43 HR1.out x5_1 p315 q315
     cases e315
     replace p315:=eq_true p315
     replace q315:=eq_true q315
     go_wp2
     repeat (go_quiet (fail);try go_wp2)
     go_ret
     exact ⟨q31_,q44_⟩
    rw [if_neg c7] at H
    have c7b0:(!(((rd_T43 l0 x5_1).f0) == ((rd_T43 l1 x5_1).f0)) || (!(((rd_T43 l0 x5_1).f1) == ((rd_T43 l1 x5_1).f1)) || (!((((rd_T43 l0 x5_1).f2).toList) == (((rd_T43 l1 x5_1).f2).toList))))) = false:=by simpa using c7
    clear c7
    have H':=Aside0.mk H
    clear H
    have p314:0 ≤ (x5_1:Int):=of_decide_eq_true q46_
    have q314:x5_1 < (l0.length:Int):=of_decide_eq_true q46_
    obtain ⟨ad314,e314,hx314_0,hx314_1,hx314_2⟩:=at_T43 HR0.out x5_1 p314 q314
    cases e314
    replace p314:=eq_true p314
    replace q314:=eq_true q314
    have p315:0 ≤ (x5_1:Int):=of_decide_eq_true q46_
    have q315:x5_1 < (l1.length:Int):=of_decide_eq_true q46_
    obtain ⟨ad315,e315,hx315_0,hx315_1,hx315_2⟩:=at_T43 HR1.out x5_1 p315 q315
    cases e315
    replace p315:=eq_true p315
    replace q315:=eq_true q315
    go_wp2
    repeat (go_quiet (fail);try go_wp2)
    go_roundg k1
    case measure => have:=HK1.out;omega
    case rel => exact ⟨(wrap64 (x5_1 + 1)),q31_,H',⟨by have:=HK1.out;omega⟩,q44_⟩
   rw [if_neg c4] at H
   have c4b0:=decide_eq_false c4
   clear c4
   obtain rfl:=Option.some.inj H
   go_wp2
   repeat (go_quiet (fail);try go_wp2)
   go_ret
   exact ⟨q31_,q44_⟩
 rw [if_neg c3] at H
 have c3b0:((l0.length:Int) == (l1.length:Int)) = false:=beq_eq_false_iff_ne.mpr c3
 have c3b1:((l0.length:Int) != (l1.length:Int)) = true:=bne_iff_ne.mpr c3
 have c3b2:(l0.length == l1.length) = false:=by first | simpa using c3 | (simp at c3 ⊢;omega)
 obtain rfl:=Option.some.inj H
 go_enter Tryz.func11,Tryz.ntmps11
 go_wp2
 repeat (go_quiet (fail);try go_wp2)
 go_ret
 exact ⟨q31_,q44_⟩
end Go.Proofs.YtabbdfchibjndaaGreatDoor.QFnExprTexts
