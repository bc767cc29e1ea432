import Derived.Test.YtabbdfchibjndaaGreatDoorXLibCt
namespace Go.Proofs.YtabbdfchibjndaaGreatDoor.LibCp
open Go.BigFrame Go.RowKit Go.Proofs.YtabbdfchibjndaaGreatDoorW.PrintWords Go.Proofs.YtabbdfchibjndaaGreatDoorW.PrintLast Go.Proofs.YtabbdfchibjndaaGreatDoorW.PrintMore Go.Proofs.YtabbdfchibjndaaGreatDoor.LibX Go.Proofs.YtabbdfchibjndaaGreatDoor.LibG
attribute [local go_sem] max2_int min2_int max_two min_two max_three min_three max_four min_four
set_option linter.unusedVariables false
set_option linter.unusedSimpArgs false
mutual
def valF:Nat → ByteArray → Int → Int → List EN → Bool → Option PR
 | 0,_,_,_,_,_ => none
 | k + 1,s,deep,a,o,b => valG (fun l d a o b => levF k s l d a o b) (fun d a o b => valF k s d a o b) k s deep a o b
def levF:Nat → ByteArray → Int → Int → Int → List EN → Bool → Option PR
 | 0,_,_,_,_,_,_ => none
 | k + 1,s,least,deep,a,o,b => (valF k s deep a o b).bind fun r => levL k s least deep r.1 r.2.1 r.2.2
def levL:Nat → ByteArray → Int → Int → Int → List EN → Bool → Option PR
 | 0,_,_,_,_,_,_ => none
 | k + 1,s,least,deep,a,o,b => if b = true then some (a,o,true) else if opF s a 10 = 0 then some (a,o,false) else (spec_l2Level.f k (opF s a 10)).bind fun lv => if lv < least then some (a,o,false) else (levF k s (wrap64 (lv + 1)) (wrap64 (deep + 1)) (a + ((rdOf ByteArray.empty W18 (opF s a 10)).size:Int)) o false).bind fun r => levL k s least deep r.1 (putF (opF s a 10) 0 (⟨#[]⟩:ByteArray) r.2.1 r.2.2).1 (putF (opF s a 10) 0 (⟨#[]⟩:ByteArray) r.2.1 r.2.2).2
end
def level_T4:Bool × List (List Nat × List Nat):=(true,[([],[]),([],[]),([1],[1]),([2],[2]),([3],[3]),([],[]),([],[]),([5,6],[5,6]),([7],[7]),([8],[8]),([4,9],[4,9]),([0,0,1,2,3,4,5,6,7,8,9,10],[0]),([11,0,1,2,3,4,5,6,7,8,9,10],[11]),([12,10,5,0,1,2,3,4,5,6,7,8,9,10],[10,12])])
def level_B4:List Nat:=[0,0,2,6,14,0,0,96,224,480,1022,2047,4095,8191]
theorem level_tab4:rtab .any (opsOf Tryz.f65 4) = level_T4:=by kernel_rfl
theorem level_bits4:waitsOk level_T4.2 level_B4 = true:=by kernel_rfl
set_option maxHeartbeats 8000000 in
set_option maxRecDepth 100000 in
theorem level_step {s:ByteArray} (hs:s.size ≤ 1000000) (k:Nat) (hV:ValC (fun d a o b => valF k s d a o b) s) (hL:∀ j,j ≤ k → LevC (fun l d a o b => levF j s l d a o b) s):LevC (fun l d a o b => levF (k + 1) s l d a o b) s:=by
 intro least deep g a o b r1 r2 r3 w0 w hI hB h0 h1 h
 have hge:=hI.ge
 dsimp only at h
 simp only [levF] at h
 cases hr:valF k s deep a o b with
 | none => rw [hr] at h;cases h
 | some p =>
 obtain ⟨p1,p2,p3⟩:=p
 rw [hr,Option.bind_some] at h
 dsimp only at h
 have H':=Aside0.mk h
 clear h
 have HV:=Aside0.mk (hV deep g a o b p1 p2 p3 w0 w hI hB h0 h1 hr)
 have HL:=Aside0.mk hL
 clear hV hL hr hI hB
 go_enter Tryz.func65,Tryz.ntmps65
 go_wp2_with (go_at_call 81;refine (HV.out).mono ?_;rintro e w2 ⟨rfl,hI,hR,hB⟩;have HI:=Aside0.mk hI;have HB:=Aside0.mk hB;have HR:=Aside0.mk hR;clear hI hB hR HV)
 go_loopg [10] k (fun kq v10 w' => ∃ (a:Int) (o:List EN) (b:Bool),Aside0 (0 ≤ a ∧ a ≤ (s.size:Int)) ∧ Aside0 (levL kq s least deep a o b = some (r1,r2,r3)) ∧ Aside0 (kq ≤ k) ∧ Aside0 (IsP w0 w' g s a o b) ∧ Aside0 (Below w0.heap.size w0 w'))
 case atStart => exact ⟨p1,p2,p3,HR,H',⟨Nat.le_refl _⟩,HI,HB⟩
 case round =>
  clear H' HI HB HR h0 h1
  clear a o b p1 p2 p3
  obtain ⟨a,o,b,HR,HA,HK1,HI,HB⟩:=hrel
  obtain ⟨c0,c1,c3,f1,f3⟩:=HI.out.cells
  cases gk with
  | zero => exact absurd HA.out (by simp [levL])
  | succ k1 =>
  have h:=HA.out
  clear HA
  simp only [levL] at h
  cases b with
  | true =>
   rw [if_pos rfl] at h
   have h:=Option.some.inj h
   obtain rfl:=congrArg Prod.fst h
   obtain rfl:=congrArg (fun z:PR => z.2.1) h
   obtain rfl:=congrArg (fun z:PR => z.2.2) h
   clear h
   go_wp2
   first | go_end0 | ((try simp only [Exit.inBlock,Exit.then]);refine bodyPost_ret (results_none rfl _ _ _) rfl ?_)
   exact ⟨rfl,HI.out,HR.out,HB.out⟩
  | false =>
  rw [if_neg (by decide)] at h
  have hro:=opF_range s a 10 (Nat.le_refl _)
  obtain ⟨x,hx⟩:∃ x:Int,opF s a 10 = x:=⟨_,rfl⟩
  rw [hx] at h hro
  by_cases q:x = 0
  ·rw [if_pos q] at h
   have h:=Option.some.inj h
   obtain rfl:=congrArg Prod.fst h
   obtain rfl:=congrArg (fun z:PR => z.2.1) h
   obtain rfl:=congrArg (fun z:PR => z.2.2) h
   clear h
   have q0:(x == 0) = true:=beq_iff_eq.mpr q
   clear q hro
   go_wp2_with (first | (go_at_call 82;refine (op_calls _ _ _ _ _ _ _ HI.out HB.out HR.out.1 HR.out.2 hs).mono ?_;rintro e w2 ⟨rfl,hI,hB⟩;rw [hx];clear HI HB c0 c1 c3 f1 f3;have HI:=Aside0.mk hI;have HB:=Aside0.mk hB;clear hI hB;obtain ⟨c0,c1,c3,f1,f3⟩:=HI.out.cells))
   first | go_end0 | ((try simp only [Exit.inBlock,Exit.then]);refine bodyPost_ret (results_none rfl _ _ _) rfl ?_)
   exact ⟨rfl,HI.out,HR.out,HB.out⟩
  rw [if_neg q] at h
  have q0:(x == 0) = false:=beq_eq_false_iff_ne.mpr q
  obtain ⟨x0,x1,xf⟩:8 ≤ x ∧ x ≤ 17 ∧ isF s a (rdOf ByteArray.empty W18 x) = true:=by
   rcases hro with e | e
   ·exact absurd e q
   ·exact e
  clear hro q
  cases hlv:spec_l2Level.f k1 x with
  | none => rw [hlv] at h;cases h
  | some lv =>
  rw [hlv,Option.bind_some] at h
  by_cases ql:lv < least
  ·rw [if_pos ql] at h
   have h:=Option.some.inj h
   obtain rfl:=congrArg Prod.fst h
   obtain rfl:=congrArg (fun z:PR => z.2.1) h
   obtain rfl:=congrArg (fun z:PR => z.2.2) h
   clear h
   have ql0:decide (lv < least) = true:=decide_eq_true ql
   clear ql xf
   go_wp2_with (first | (go_at_call 82;refine (op_calls _ _ _ _ _ _ _ HI.out HB.out HR.out.1 HR.out.2 hs).mono ?_;rintro e w2 ⟨rfl,hI,hB⟩;rw [hx];clear HI HB c0 c1 c3 f1 f3;have HI:=Aside0.mk hI;have HB:=Aside0.mk hB;clear hI hB;obtain ⟨c0,c1,c3,f1,f3⟩:=HI.out.cells) | (go_at_call 83;refine (spec_l2Level.calls k1 _ _ _ hlv).mono ?_;rintro e w2 ⟨rfl,nd,hnd⟩;have hI:=IsP.drewN HI.out nd;rw [← hnd] at hI;have hB:=pw_below_drewN HB.out nd;rw [← hnd] at hB;clear hnd;clear HI HB c0 c1 c3 f1 f3;have HI:=Aside0.mk hI;have HB:=Aside0.mk hB;clear hI hB;obtain ⟨c0,c1,c3,f1,f3⟩:=HI.out.cells))
   first | go_end0 | ((try simp only [Exit.inBlock,Exit.then]);refine bodyPost_ret (results_none rfl _ _ _) rfl ?_)
   exact ⟨rfl,HI.out,HR.out,HB.out⟩
  rw [if_neg ql] at h
  have ql0:decide (lv < least) = false:=decide_eq_false ql
  clear ql
  have hle:=isF_le xf
  obtain ⟨y,hy⟩:∃ y,rdOf ByteArray.empty W18 x = y:=⟨_,rfl⟩
  rw [hy] at h hle
  obtain ⟨a1,ha1⟩:∃ a1:Int,a + (y.size:Int) = a1:=⟨_,rfl⟩
  rw [ha1] at h hle
  have e1:Unit → wrap64 (a + (y.size:Int)) = a1:=fun _ => by have:=HR.out;unfold wrap64;omega
  have hb0:0 ≤ a1:=by have:=HR.out.1;omega
  cases hr:levF k1 s (wrap64 (lv + 1)) (wrap64 (deep + 1)) a1 o false with
  | none => rw [hr] at h;cases h
  | some p =>
  obtain ⟨p1,p2,p3⟩:=p
  rw [hr,Option.bind_some] at h
  dsimp only at h
  have HN:=Aside0.mk h
  have HX:=Aside0.mk hx
  have HY:=Aside0.mk hy
  have HLE:=Aside0.mk hle
  clear h hx hy xf hle ha1
  go_wp2_with (first | (go_at_call 82;refine (op_calls _ _ _ _ _ _ _ HI.out HB.out HR.out.1 HR.out.2 hs).mono ?_;rintro e w2 ⟨rfl,hI,hB⟩;rw [HX.out];clear HI HB c0 c1 c3 f1 f3;have HI:=Aside0.mk hI;have HB:=Aside0.mk hB;clear hI hB;obtain ⟨c0,c1,c3,f1,f3⟩:=HI.out.cells) | (go_at_call 83;refine (spec_l2Level.calls k1 _ _ _ hlv).mono ?_;rintro e w2 ⟨rfl,nd,hnd⟩;have hI:=IsP.drewN HI.out nd;rw [← hnd] at hI;have hB:=pw_below_drewN HB.out nd;rw [← hnd] at hB;clear hnd;clear HI HB c0 c1 c3 f1 f3;have HI:=Aside0.mk hI;have HB:=Aside0.mk hB;clear hI hB;obtain ⟨c0,c1,c3,f1,f3⟩:=HI.out.cells))
  have n2_:=Aside0.mk (IsP.drew HI.out)
  have n3_:=Aside0.mk (below_drew1 HB.out)
  clear HB
  refine start_ (n:=14) (S:=fun w' => w'.cell? ⟨g,1,none⟩ = some (.int .i64 a)) (ds:=[13]) #[false,false,false,false,false,false,false,false,false,false,false,false,false,false] (by kernel_rfl) rfl rfl (n2_.out.cells.2.1) (fun hHeld => ?_);refine with_tabW level_tab4 level_bits4 (fun HT_ HW_ => ?_)
  clear HI c0 c1 c3 f1 f3
  have HI:=n2_
  have HB:=n3_
  clear n2_ n3_
  refine pure_ (i:=0) (N:=some 25) (v:=?_) (a':=?_) #[true,false,false,false,false,false,false,false,false,false,false,false,false,false] rfl rfl (any_of HT_.out (by kernel_rfl)) (fun _ _ _ h => h) (Or.inl ⟨by rfl,?_⟩) ?_ ?_
  rotate_left
  ·intro w'
   go_simp
   with_reducible rfl
  rotate_left
  ·simp only [Act.put,List.setIfInBounds_toArray,List.set_cons_zero,List.set_cons_succ,i64_w,i32_w]
   rfl
  refine pure_ (i:=1) (N:=some 26) (v:=?_) (a':=?_) #[true,true,false,false,false,false,false,false,false,false,false,false,false,false] rfl rfl (any_of HT_.out (by kernel_rfl)) (fun _ _ _ h => h) (Or.inl ⟨by rfl,?_⟩) ?_ ?_
  rotate_left
  ·intro w'
   go_simp
   with_reducible rfl
  rotate_left
  ·simp only [Act.put,List.setIfInBounds_toArray,List.set_cons_zero,List.set_cons_succ,i64_w,i32_w]
   rfl
  refine pure_ (i:=2) (N:=some 27) (v:=?_) (a':=?_) #[true,true,true,false,false,false,false,false,false,false,false,false,false,false] rfl rfl (any_of HT_.out (by kernel_rfl)) (fun _ _ _ h => h) (Or.inl ⟨by rfl,?_⟩) ?_ ?_
  rotate_left
  ·intro w'
   go_simp
   with_reducible rfl
  rotate_left
  ·simp only [Act.put,List.setIfInBounds_toArray,List.set_cons_zero,List.set_cons_succ,i64_w,i32_w]
   rfl
  refine pure_ (i:=3) (N:=some 28) (v:=?_) (a':=?_) #[true,true,true,true,false,false,false,false,false,false,false,false,false,false] rfl rfl (any_of HT_.out (by kernel_rfl)) (fun _ _ _ h => h) (Or.inl ⟨by rfl,?_⟩) ?_ ?_
  rotate_left
  ·intro w'
   go_simp
   with_reducible rfl
  rotate_left
  ·simp only [Act.put,List.setIfInBounds_toArray,List.set_cons_zero,List.set_cons_succ,i64_w,i32_w]
   rfl
  refine take_ (i:=4) (N:=some 29) (v:=?_) (a':=?_) #[true,true,true,true,true,false,false,false,false,false,false,false,false,false] rfl rfl (take_ofW HT_.out HW_.out (by kernel_rfl)) (fun _ _ _ h => h) (Or.inl ⟨by rfl,?_⟩) hHeld ?_ ?_
  rotate_left
  ·rintro w' s0
   go_simp
   with_reducible rfl
  rotate_left
  ·simp only [Act.put,List.setIfInBounds_toArray,List.set_cons_zero,List.set_cons_succ,i64_w,i32_w]
   rfl
  refine pure_ (i:=6) (N:=some 31) (v:=?_) (a':=?_) #[true,true,true,true,true,false,true,false,false,false,false,false,false,false] rfl rfl (any_of HT_.out (by kernel_rfl)) (fun _ _ _ h => h) (Or.inl ⟨by rfl,?_⟩) ?_ ?_
  rotate_left
  ·intro w'
   go_simp
   with_reducible rfl
  rotate_left
  ·simp only [Act.put,List.setIfInBounds_toArray,List.set_cons_zero,List.set_cons_succ,i64_w,i32_w]
   rfl
  refine one_ (i:=5) (N:=some 30) #[true,true,true,true,true,true,true,false,false,false,false,false,false,false] rfl rfl (one_of HT_.out (by kernel_rfl)) (by decide) (fun K hK => ?_)
  refine goes_ Tryz.func22 (by kernel_rfl) rfl #[] (by rfl) rfl rfl (by first | rfl | simp) ?_
  with_reducible refine (spec_l2Words.calls W18 _ words_W18).mono ?_
  rintro e w5 ⟨v30,rfl,HO,hb⟩
  refine ⟨_,rfl,?_⟩
  have hI:=IsP.below HI.out hb
  have hB:=below_step HB.out hb
  clear HI HB hb
  have HI:=Aside0.mk hI
  have HB:=Aside0.mk hB
  clear hI hB
  obtain ⟨c0,c1,c3,f1,f3⟩:=HI.out.cells
  obtain ⟨Ao,co,eo⟩:=Kd.R_slice HO
  subst eo
  have HC:=(Kd.R_reads' HO).2.2
  clear HO
  have p5:x < (W18.length:Int):=by rw [W18_len];omega
  have p4:0 ≤ x:=by omega
  obtain ⟨ad,ead,hcx⟩:=Kd.at_string HC x p4 p5
  cases ead
  rw [HY.out] at hcx
  clear HC
  replace p4:=eq_true p4
  replace p5:=eq_true p5
  refine hK.out _ _ c1 (fun hHeld => ?_)
  clear hK K
  refine norm_ (a':=?_) ?_ ?_
  rotate_left
  ·show Act.put _ (some 30) _ = _
   simp only [Act.put,List.setIfInBounds_toArray,List.set_cons_zero,List.set_cons_succ,i64_w,i32_w]
   rfl
  refine pure_ (i:=7) (N:=some 32) (v:=?_) (a':=?_) #[true,true,true,true,true,true,true,true,false,false,false,false,false,false] rfl rfl (any_of HT_.out (by kernel_rfl)) (fun _ _ _ h => h) (Or.inl ⟨by rfl,?_⟩) ?_ ?_
  rotate_left
  ·intro w'
   go_simp
   with_reducible rfl
  rotate_left
  ·simp only [Act.put,List.setIfInBounds_toArray,List.set_cons_zero,List.set_cons_succ,i64_w,i32_w]
   rfl
  refine one_ (i:=8) (N:=some 33) #[true,true,true,true,true,true,true,true,true,false,false,false,false,false] rfl rfl (one_of HT_.out (by kernel_rfl)) (by decide) (fun K hK => ?_)
  refine value_ (w1:=w5) (v:=.string y) (by rfl) rfl ?_ ?_
  ·go_simp
   try rfl
  refine hK.out _ _ c1 (fun hHeld => ?_)
  clear hK K
  refine norm_ (a':=?_) ?_ ?_
  rotate_left
  ·show Act.put _ (some 33) _ = _
   simp only [Act.put,List.setIfInBounds_toArray,List.set_cons_zero,List.set_cons_succ,i64_w,i32_w]
   rfl
  refine pure_ (i:=9) (N:=some 34) (v:=?_) (a':=?_) #[true,true,true,true,true,true,true,true,true,true,false,false,false,false] rfl rfl (any_of HT_.out (by kernel_rfl)) (fun _ _ _ h => h) (Or.inl ⟨by rfl,?_⟩) ?_ ?_
  rotate_left
  ·intro w'
   go_simp
   with_reducible rfl
  rotate_left
  ·simp only [Act.put,List.setIfInBounds_toArray,List.set_cons_zero,List.set_cons_succ,i64_w,i32_w]
   rfl
  refine pure_ (i:=10) (N:=some 35) (v:=?_) (a':=?_) #[true,true,true,true,true,true,true,true,true,true,true,false,false,false] rfl rfl (any_of HT_.out (by kernel_rfl)) (fun _ _ _ h => h) (Or.inl ⟨by rfl,?_⟩) ?_ ?_
  rotate_left
  ·intro w'
   go_simp
   with_reducible rfl
  rotate_left
  ·simp only [Act.put,List.setIfInBounds_toArray,List.set_cons_zero,List.set_cons_succ,i64_w,i32_w]
   rfl
  refine pure_ (i:=11) (N:=some 36) (v:=?_) (a':=?_) #[true,true,true,true,true,true,true,true,true,true,true,true,false,false] rfl rfl (any_of HT_.out (by kernel_rfl)) (fun _ _ _ h => h) (Or.inl ⟨by rfl,?_⟩) ?_ ?_
  rotate_left
  ·intro w'
   go_simp
   with_reducible rfl
  rotate_left
  ·simp only [Act.put,List.setIfInBounds_toArray,List.set_cons_zero,List.set_cons_succ,i64_w,i32_w]
   rfl
  refine pure_ (i:=12) (N:=some 37) (v:=?_) (a':=?_) #[true,true,true,true,true,true,true,true,true,true,true,true,true,false] rfl rfl (any_of HT_.out (by kernel_rfl)) (fun _ _ _ h => h) (Or.inl ⟨by rfl,?_⟩) ?_ ?_
  rotate_left
  ·intro w'
   go_simp
   with_reducible rfl
  rotate_left
  ·simp only [Act.put,List.setIfInBounds_toArray,List.set_cons_zero,List.set_cons_succ,i64_w,i32_w]
   rfl
  refine last_ (i:=13) (N:=none) #[true,true,true,true,true,true,true,true,true,true,true,true,true,true] rfl rfl (one_of HT_.out (by kernel_rfl)) (by decide) (fun K hK => ?_)
  refine skip_ (w1:=?_) (by rfl) rfl ?_ ?_
  rotate_left
  ·go_simp
   rfl
  refine hK.out _ _ ?_
  clear hK K
  refine done_ (done_of HT_.out (by kernel_rfl)) ?_
  have hI:=IsP.set1 HI.out (wrap64 (a + (y.size:Int)))
  have hB:=below_set (j:=1) (v:=.int .i64 (wrap64 (a + (y.size:Int)))) HB.out hge
  rw [e1 ()] at hI hB ⊢
  clear HI HB c0 c1 c3 f1 f3
  have HI:=Aside0.mk hI
  have HB:=Aside0.mk hB
  clear hI hB
  obtain ⟨c0,c1,c3,f1,f3⟩:=HI.out.cells
  go_wp2_with (first | (go_at_call 83;refine (spec_l2Level.calls k1 _ _ _ hlv).mono ?_;rintro e w2 ⟨rfl,nd,hnd⟩;have hI:=IsP.drewN HI.out nd;rw [← hnd] at hI;have hB:=pw_below_drewN HB.out nd;rw [← hnd] at hB;clear hnd;clear HI HB c0 c1 c3 f1 f3;have HI:=Aside0.mk hI;have HB:=Aside0.mk hB;clear hI hB;obtain ⟨c0,c1,c3,f1,f3⟩:=HI.out.cells) | (go_at_call 65;refine (HL.out k1 (by have:=HK1.out;omega) _ _ _ _ _ _ _ _ _ _ _ HI.out HB.out hb0 HLE.out hr).mono ?_;rintro e w2 ⟨rfl,hI,hR,hB⟩;clear HI HB c0 c1 c3 f1 f3;have HI:=Aside0.mk hI;have HB:=Aside0.mk hB;clear hI hB;obtain ⟨c0,c1,c3,f1,f3⟩:=HI.out.cells) | (go_at_call 84;refine (put_calls _ _ _ _ _ _ _ _ _ _ HI.out HB.out).mono ?_;rintro e w2 ⟨rfl,hI,hB⟩;clear HI HB c0 c1 c3 f1 f3;have HI:=Aside0.mk hI;have HB:=Aside0.mk hB;clear hI hB;obtain ⟨c0,c1,c3,f1,f3⟩:=HI.out.cells))
  go_roundg k1
  case measure => exact Nat.lt_succ_self _
  case rel => exact ⟨p1,_,_,⟨hR⟩,HN,⟨by have:=HK1.out;omega⟩,HI,HB⟩
end Go.Proofs.YtabbdfchibjndaaGreatDoor.LibCp
