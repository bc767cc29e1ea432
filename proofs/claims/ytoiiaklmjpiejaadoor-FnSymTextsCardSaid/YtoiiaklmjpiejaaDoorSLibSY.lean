import Derived.Test.YtoiiaklmjpiejaaDoorSLibB
import Derived.Test.YtoiiaklmjpiejaaDoorSLibX
import Derived.Test.YtoiiaklmjpiejaaDoorSLibG
namespace Go.Proofs.YtoiiaklmjpiejaaDoor.LibSY
open Go.RowKit Go.Proofs.YtoiiaklmjpiejaaDoorW.PrintWords Go.Proofs.YtoiiaklmjpiejaaDoorW.PrintLast Go.Proofs.YtoiiaklmjpiejaaDoorW.PrintMore Go.Proofs.YtoiiaklmjpiejaaDoor.LibB Go.Proofs.YtoiiaklmjpiejaaDoor.LibG
attribute [local go_sem] max2_int min2_int max_two min_two max_three min_three max_four min_four
set_option linter.unusedVariables false
set_option linter.unusedSimpArgs false
theorem bytes_tri:∀ x y:List UInt8,(Op.bytesLess x y || x == y) = !(Op.bytesLess y x)
 | [],[] => rfl
 | [],_ :: _ => rfl
 | _ :: _,[] => rfl
 | a :: x,b :: y => by
  have ih:=bytes_tri x y
  rw [Op.bytesLess,Op.bytesLess]
  rcases Nat.lt_trichotomy a.toNat b.toNat with h | h | h
  ·have h1:a < b:=UInt8.lt_iff_toNat_lt.2 h
   have h2:¬ b < a:=fun e => by have:=UInt8.lt_iff_toNat_lt.1 e;omega
   have h3:(b == a) = false:=beq_eq_false_iff_ne.2 (fun e => by rw [e] at h;omega)
   simp [h1,h2,h3]
  ·have h1:a = b:=UInt8.toNat_inj.1 h
   subst h1
   have h2:¬ a < a:=fun e => by have:=UInt8.lt_iff_toNat_lt.1 e;omega
   simp only [h2,decide_false,Bool.false_or,beq_self_eq_true,Bool.true_and,List.cons_beq_cons]
   exact ih
  ·have h1:b < a:=UInt8.lt_iff_toNat_lt.2 h
   have h2:¬ a < b:=fun e => by have:=UInt8.lt_iff_toNat_lt.1 e;omega
   have h3:(a == b) = false:=beq_eq_false_iff_ne.2 (fun e => by rw [e] at h;omega)
   simp [h1,h2,h3]
theorem leq_string (t:TypeId) (a b:ByteArray):binOp .leq t (.string a) (.string b) = pure (.bool !(Op.bytesLess b.toList a.toList)):=by
 rw [← bytes_tri]
 simp [binOp,Op.stringOp]
def impl_symText.l0:Nat → List S54 → ByteArray → Int → Option ByteArray
 | 0,_,_,_ => none
 | k + 1,l0,x,i => if i < (l0.length:Int) then ((impl_hexDigits.f (rd_T54 l0 i).f1 2).bind fun t => (impl_hexDigits.f (rd_T54 l0 i).f2 4).bind fun u => (impl_spaced.f [(t ++ (⟨#[58]⟩:ByteArray)) ++ u,(rd_T54 l0 i).f0]).bind fun v => if t.size + u.size + v.size + x.size + 10 ≤ 140737488355328 then impl_symText.l0 k l0 (x ++ v) (i + 1) else none) else some x
def impl_symText.f (k:Nat) (l0:List S54):Option ByteArray:=if l0.length ≤ 9223372036854775800 then impl_symText.l0 k l0 (⟨#[]⟩:ByteArray) 0 else none
def impl_symText.T5:Bool × List (List Nat × List Nat):=(true,[([],[]),([0],[0]),([1],[1]),([2],[2]),([],[]),([4],[4]),([5,2],[5]),([3,6],[3,6]),([],[]),([8],[8]),([7,9],[7,9]),([10,6],[10]),([11,11],[11])])
def impl_symText.B5:List Nat:=[0,1,3,7,0,16,55,127,0,256,1023,2047,4095]
theorem impl_symText.tab5:rtab .any (opsOf Tryd.f48 5) = impl_symText.T5:=by kernel_rfl
theorem impl_symText.bits5:waitsOk impl_symText.T5.2 impl_symText.B5 = true:=by kernel_rfl
set_option maxHeartbeats 8000000 in
set_option maxRecDepth 100000 in
theorem impl_symText.calls (k:Nat) (A0:Option Addr) (c0:Nat) (l0:List S54) (r:ByteArray) (w:World) (hr0:Kd.C k54 w A0 l0.length l0) (hc0:l0.length ≤ c0) (h:impl_symText.f k l0 = some r) (hG:Go.Proofs.YtoiiaklmjpiejaaDoor.LibW.GL w:=by first | exact hG | exact hG.below (by repeat (first | (with_reducible first | exact HB.out | apply Go.Proofs.YtoiiaklmjpiejaaDoorW.PrintWords.below_alloc | apply Go.Proofs.YtoiiaklmjpiejaaDoorW.PrintWords.pw_below_drewN | apply Go.Proofs.YtoiiaklmjpiejaaDoorW.PrintWords.below_drew1 | refine Go.Proofs.YtoiiaklmjpiejaaDoorW.PrintWords.below_set ?_ (Go.Proofs.YtoiiaklmjpiejaaDoorW.PrintWords.Aside0.out (by assumption))) | exact HB.out)) | exact hG.drewN _) :
  Calls Tryd.prog 48 #[.slice A0 l0.length c0] w fun e w' => e = .returned (.string r) ∧ Below w.heap.size w w':=by
 unfold impl_symText.f at h
 by_cases hs:l0.length ≤ 9223372036854775800
 rotate_left
 ·rw [if_neg hs] at h;cases h
 rw [if_pos hs] at h
 have hu54:=Tryd.underlying54
 have HR0:=Aside0.mk hr0
 have H':=Aside0.mk h
 have HI:=Aside0.mk (fresh w)
 have HB:=Aside0.mk ((Below.refl w.heap.size w).alloc (Nat.le_refl _) (.cells #[.pointer none,.slice none 0 0] 74))
 clear h hr0 hc0
 go_enter Tryd.func48,Tryd.ntmps48
 go_wp2
 go_loopg [8] k (fun kq v8 w' => ∃ (x:ByteArray) (x8:Int),v8 = .int .i64 x8 ∧ Aside0 (0 ≤ x8 ∧ x8 ≤ (l0.length:Int)) ∧ Aside0 (impl_symText.l0 kq l0 x x8 = some r) ∧ Aside0 (kq ≤ k) ∧ Aside0 (IsB w.heap.size w.heap.size x w') ∧ Aside0 (Below w.heap.size w w'))
 case atStart => exact ⟨(⟨#[]⟩:ByteArray),0,rfl,⟨by omega⟩,H',⟨Nat.le_refl _⟩,HI,HB⟩
 case round =>
  clear H' HI HB
  obtain ⟨x,x8,rfl,HX,HA,HK1,HI,HB⟩:=hrel
  cases gk with
  | zero => exact absurd HA.out (by simp [impl_symText.l0])
  | succ k1 =>
   have H:=HA.out
   clear HA
   simp only [impl_symText.l0] at H
   by_cases c2:x8 < (l0.length:Int)
   ·rw [if_pos c2] at H
    have c2b0:decide (x8 < (l0.length:Int)) = true:=decide_eq_true c2
    cases ht:impl_hexDigits.f (rd_T54 l0 x8).f1 2 with
    | none => rw [ht] at H;cases H
    | some t =>
    rw [ht,Option.bind_some] at H
    cases hu:impl_hexDigits.f (rd_T54 l0 x8).f2 4 with
    | none => rw [hu] at H;cases H
    | some u =>
    rw [hu,Option.bind_some] at H
    cases hv:impl_spaced.f [(t ++ (⟨#[58]⟩:ByteArray)) ++ u,(rd_T54 l0 x8).f0] with
    | none => rw [hv] at H;cases H
    | some v =>
    rw [hv,Option.bind_some] at H
    by_cases c5:t.size + u.size + v.size + x.size + 10 ≤ 140737488355328
    rotate_left
    ·rw [if_neg c5] at H;cases H
    rw [if_pos c5] at H
    have H':=Aside0.mk H
    clear H
    have p140:0 ≤ (x8:Int):=HX.out.1
    have q140:x8 < (l0.length:Int):=c2
    obtain ⟨ad140,e140,hx140_0,hx140_1,hx140_2⟩:=at_T54 HR0.out x8 p140 q140
    cases e140
    replace hx140_0:=(HB.out.cell (World.block_lt_of_cell? w _ hx140_0)).trans hx140_0
    replace hx140_1:=(HB.out.cell (World.block_lt_of_cell? w _ hx140_1)).trans hx140_1
    replace hx140_2:=(HB.out.cell (World.block_lt_of_cell? w _ hx140_2)).trans hx140_2
    have x81:∀ _:Unit,wrap64 (x8 + 1) = x8 + 1:=fun _ => by unfold wrap64;omega
    replace p140:=eq_true p140
    replace q140:=eq_true q140
    clear c2
    have p1:(9223372036854775807 < t.size + 1) = False:=eq_false (by omega)
    have p2:(9223372036854775807 < (t ++ (⟨#[58]⟩:ByteArray)).size + u.size) = False:=eq_false (by rw [ByteArray.size_append];show ¬ 9223372036854775807 < t.size + 1 + u.size;omega)
    have p2e:(9223372036854775807 < t.size + 1 + u.size) = False:=eq_false (by omega)
    try go_wp2_with (first | ((with_reducible refine gate_dst (N:=5) rfl ?_);refine box_event ?hg (N:=5) ?hd (cs:=#[.string (⟨#[]⟩:ByteArray),.int .i64 0,.int .i64 0]) (t:=54) ?hr ?_;(case hd => rfl);(case hg => rfl);(case hr => first | (go_simp;done) | (go_simp;rfl));intro gb hg w12 hbox hb;have n0_:=Aside0.mk (below_step HB.out hb);have n1_:=Aside0.mk hbox;have n2_:=Aside0.mk (show w.heap.size ≤ gb by rw [hg];exact HB.out.size);have n3_:=Aside0.mk (below_set (j:=2) (v:=.int .i64 (rd_T54 l0 x8).f2) (below_set (j:=1) (v:=.int .i64 (rd_T54 l0 x8).f1) (below_set (j:=0) (v:=.string (rd_T54 l0 x8).f0) hb (Nat.le_of_eq hg.symm)) (Nat.le_of_eq hg.symm)) (Nat.le_of_eq hg.symm));have n4_:=Aside0.mk (IsB.below HI.out n3_.out);clear HB HI n3_;have HB:=n0_;have BK:=n1_;have GE:=n2_;have HI:=n4_;clear n0_ n1_ n2_ n4_;clear hb hbox hg;have hcz0:w12.cell? ⟨gb,0,none⟩ = some (.string (⟨#[]⟩:ByteArray)):=(blk_cell BK.out 0).trans rfl;have hcz1:w12.cell? ⟨gb,1,none⟩ = some (.int .i64 0):=(blk_cell BK.out 1).trans rfl;have hcz2:w12.cell? ⟨gb,2,none⟩ = some (.int .i64 0):=(blk_cell BK.out 2).trans rfl;have hfz0:=blk_frozen BK.out 0;have hfz1:=blk_frozen BK.out 1;have hfz2:=blk_frozen BK.out 2))
    have n0_:Aside0 ((((w12.setCell ⟨gb,0,none⟩ (.string ((rd_T54 l0 x8).f0))).setCell ⟨gb,1,none⟩ (.int .i64 ((rd_T54 l0 x8).f1))).setCell ⟨gb,2,none⟩ (.int .i64 ((rd_T54 l0 x8).f2))).heap[gb]? = some (.cells #[.string ((rd_T54 l0 x8).f0),.int .i64 ((rd_T54 l0 x8).f1),.int .i64 ((rd_T54 l0 x8).f2)] 54 (0,0))):=⟨by refine blk_put (cs:=#[.string ((rd_T54 l0 x8).f0),.int .i64 ((rd_T54 l0 x8).f1),.int .i64 0]) ?_ 2 _ rfl;refine blk_put (cs:=#[.string ((rd_T54 l0 x8).f0),.int .i64 0,.int .i64 0]) ?_ 1 _ rfl;refine blk_put (cs:=#[.string (⟨#[]⟩:ByteArray),.int .i64 0,.int .i64 0]) ?_ 0 _ rfl;exact BK.out⟩
    have n1_:Aside0 (Below w.heap.size w (((w12.setCell ⟨gb,0,none⟩ (.string ((rd_T54 l0 x8).f0))).setCell ⟨gb,1,none⟩ (.int .i64 ((rd_T54 l0 x8).f1))).setCell ⟨gb,2,none⟩ (.int .i64 ((rd_T54 l0 x8).f2)))):=⟨below_set (below_set (below_set HB.out GE.out) GE.out) GE.out⟩
    clear BK HB
    generalize (((w12.setCell ⟨gb,0,none⟩ (.string ((rd_T54 l0 x8).f0))).setCell ⟨gb,1,none⟩ (.int .i64 ((rd_T54 l0 x8).f1))).setCell ⟨gb,2,none⟩ (.int .i64 ((rd_T54 l0 x8).f2))) = w14 at n0_ n1_ HI ⊢
    have BK:=Aside0.mk (blk_drew n0_.out)
    have HB:=Aside0.mk (below_drew1 n1_.out)
    have n2_:=Aside0.mk (show IsB w.heap.size w.heap.size x w14.drew from HI.out)
    clear n0_ n1_ HI
    have HI:=n2_
    clear n2_
    refine start_ (n:=13) (S:=fun w' => w'.cell? ⟨gb,0,none⟩ = some (.string ((rd_T54 l0 x8).f0)) ∧ w'.cell? ⟨gb,1,none⟩ = some (.int .i64 ((rd_T54 l0 x8).f1)) ∧ w'.cell? ⟨gb,2,none⟩ = some (.int .i64 ((rd_T54 l0 x8).f2))) (ds:=[12]) #[false,false,false,false,false,false,false,false,false,false,false,false,false] (by kernel_rfl) rfl rfl ⟨(blk_cell BK.out 0).trans rfl,(blk_cell BK.out 1).trans rfl,(blk_cell BK.out 2).trans rfl⟩ (fun hHeld => ?_);refine with_tabW impl_symText.tab5 impl_symText.bits5 (fun HT_ HW_ => ?_)
    generalize w14.drew = w15 at BK HB HI hHeld ⊢
    refine pure_ (i:=0) (N:=some 12) (v:=?_) (a':=?_) #[true,false,false,false,false,false,false,false,false,false,false,false,false] rfl rfl (any_of HT_.out (by kernel_rfl)) (fun _ _ _ h => h) (Or.inl ⟨by rfl,?_⟩) ?_ ?_
    rotate_left
    ·intro w'
     go_simp
     with_reducible rfl
    rotate_left
    ·simp only [Act.put,List.setIfInBounds_toArray,List.set_cons_zero,List.set_cons_succ,i64_w,i32_w]
     rfl
    refine pure_ (i:=4) (N:=some 16) (v:=?_) (a':=?_) #[true,false,false,false,true,false,false,false,false,false,false,false,false] rfl rfl (any_of HT_.out (by kernel_rfl)) (fun _ _ _ h => h) (Or.inl ⟨by rfl,?_⟩) ?_ ?_
    rotate_left
    ·intro w'
     go_simp
     with_reducible rfl
    rotate_left
    ·simp only [Act.put,List.setIfInBounds_toArray,List.set_cons_zero,List.set_cons_succ,i64_w,i32_w]
     rfl
    refine pure_ (i:=8) (N:=some 20) (v:=?_) (a':=?_) #[true,false,false,false,true,false,false,false,true,false,false,false,false] rfl rfl (any_of HT_.out (by kernel_rfl)) (fun _ _ _ h => h) (Or.inl ⟨by rfl,?_⟩) ?_ ?_
    rotate_left
    ·intro w'
     go_simp
     with_reducible rfl
    rotate_left
    ·simp only [Act.put,List.setIfInBounds_toArray,List.set_cons_zero,List.set_cons_succ,i64_w,i32_w]
     rfl
    refine take_ (i:=1) (N:=some 13) (v:=?_) (a':=?_) #[true,true,false,false,true,false,false,false,true,false,false,false,false] rfl rfl (take_ofW HT_.out HW_.out (by kernel_rfl)) (fun _ _ _ h => h) (Or.inl ⟨by rfl,?_⟩) hHeld ?_ ?_
    rotate_left
    ·rintro w' ⟨s0,s1,s2⟩
     go_simp
     with_reducible rfl
    rotate_left
    ·simp only [Act.put,List.setIfInBounds_toArray,List.set_cons_zero,List.set_cons_succ,i64_w,i32_w]
     rfl
    refine take_ (i:=5) (N:=some 17) (v:=?_) (a':=?_) #[true,true,false,false,true,true,false,false,true,false,false,false,false] rfl rfl (take_ofW HT_.out HW_.out (by kernel_rfl)) (fun _ _ _ h => h) (Or.inl ⟨by rfl,?_⟩) hHeld ?_ ?_
    rotate_left
    ·rintro w' ⟨s0,s1,s2⟩
     go_simp
     with_reducible rfl
    rotate_left
    ·simp only [Act.put,List.setIfInBounds_toArray,List.set_cons_zero,List.set_cons_succ,i64_w,i32_w]
     rfl
    refine take_ (i:=9) (N:=some 21) (v:=?_) (a':=?_) #[true,true,false,false,true,true,false,false,true,true,false,false,false] rfl rfl (take_ofW HT_.out HW_.out (by kernel_rfl)) (fun _ _ _ h => h) (Or.inl ⟨by rfl,?_⟩) hHeld ?_ ?_
    rotate_left
    ·rintro w' ⟨s0,s1,s2⟩
     go_simp
     with_reducible rfl
    rotate_left
    ·simp only [Act.put,List.setIfInBounds_toArray,List.set_cons_zero,List.set_cons_succ,i64_w,i32_w]
     rfl
    refine one_ (i:=2) (N:=some 14) #[true,true,true,false,true,true,false,false,true,true,false,false,false] rfl rfl (one_of HT_.out (by kernel_rfl)) (by decide) (fun K hK => ?_)
    refine goes_ Tryd.func70 (by kernel_rfl) rfl #[.int .i64 (rd_T54 l0 x8).f1,.int .i64 2] (by rfl) rfl rfl (by (try simp only [List.map_toArray,List.map_cons,List.map_nil]);first | done | rfl | (simp only [List.length_drop,List.length_take];rfl)) ?_
    with_reducible refine (impl_hexDigits.calls (rd_T54 l0 x8).f1 2 t _ ht (hG.below HB.out)).mono ?_
    rintro e w16 ⟨rfl,hb⟩
    refine ⟨_,rfl,?_⟩
    have n0_:=Aside0.mk (blk_below BK.out hb)
    have n1_:=Aside0.mk (below_step HB.out hb)
    have n2_:=Aside0.mk (IsB.below HI.out hb)
    clear BK HB HI hb
    have BK:=n0_
    have HB:=n1_
    have HI:=n2_
    clear n0_ n1_ n2_
    refine hK.out _ _ ⟨(blk_cell BK.out 0).trans rfl,(blk_cell BK.out 1).trans rfl,(blk_cell BK.out 2).trans rfl⟩ (fun hHeld => ?_)
    clear hK K
    refine norm_ (a':=?_) ?_ ?_
    rotate_left
    ·show Act.put _ (some 14) _ = _
     simp only [Act.put,List.setIfInBounds_toArray,List.set_cons_zero,List.set_cons_succ,i64_w,i32_w]
     rfl
    refine pure_ (i:=3) (N:=some 15) (v:=?_) (a':=?_) #[true,true,true,true,true,true,false,false,true,true,false,false,false] rfl rfl (any_of HT_.out (by kernel_rfl)) (fun _ _ _ h => h) (Or.inl ⟨by rfl,?_⟩) ?_ ?_
    rotate_left
    ·intro w'
     go_simp
     with_reducible rfl
    rotate_left
    ·simp only [Act.put,List.setIfInBounds_toArray,List.set_cons_zero,List.set_cons_succ,i64_w,i32_w]
     rfl
    refine one_ (i:=6) (N:=some 18) #[true,true,true,true,true,true,true,false,true,true,false,false,false] rfl rfl (one_of HT_.out (by kernel_rfl)) (by decide) (fun K hK => ?_)
    refine goes_ Tryd.func70 (by kernel_rfl) rfl #[.int .i64 (rd_T54 l0 x8).f2,.int .i64 4] (by rfl) rfl rfl (by (try simp only [List.map_toArray,List.map_cons,List.map_nil]);first | done | rfl | (simp only [List.length_drop,List.length_take];rfl)) ?_
    with_reducible refine (impl_hexDigits.calls (rd_T54 l0 x8).f2 4 u _ hu (hG.below HB.out)).mono ?_
    rintro e w17 ⟨rfl,hb⟩
    refine ⟨_,rfl,?_⟩
    have n0_:=Aside0.mk (blk_below BK.out hb)
    have n1_:=Aside0.mk (below_step HB.out hb)
    have n2_:=Aside0.mk (IsB.below HI.out hb)
    clear BK HB HI hb
    have BK:=n0_
    have HB:=n1_
    have HI:=n2_
    clear n0_ n1_ n2_
    refine hK.out _ _ ⟨(blk_cell BK.out 0).trans rfl,(blk_cell BK.out 1).trans rfl,(blk_cell BK.out 2).trans rfl⟩ (fun hHeld => ?_)
    clear hK K
    refine norm_ (a':=?_) ?_ ?_
    rotate_left
    ·show Act.put _ (some 18) _ = _
     simp only [Act.put,List.setIfInBounds_toArray,List.set_cons_zero,List.set_cons_succ,i64_w,i32_w]
     rfl
    refine pure_ (i:=7) (N:=some 19) (v:=?_) (a':=?_) #[true,true,true,true,true,true,true,true,true,true,false,false,false] rfl rfl (any_of HT_.out (by kernel_rfl)) (fun _ _ _ h => h) (Or.inl ⟨by rfl,?_⟩) ?_ ?_
    rotate_left
    ·intro w'
     go_simp
     with_reducible rfl
    rotate_left
    ·simp only [Act.put,List.setIfInBounds_toArray,List.set_cons_zero,List.set_cons_succ,i64_w,i32_w]
     rfl
    refine one_ (i:=10) (N:=some 22) #[true,true,true,true,true,true,true,true,true,true,true,false,false] rfl rfl (one_of HT_.out (by kernel_rfl)) (by decide) (fun K hK => ?_)
    refine Kd.R_lit_step Kd.string _ 9 ?hg (N:=22) ?hd (xs:=([(t ++ (⟨#[58]⟩:ByteArray)) ++ u,(rd_T54 l0 x8).f0]:List ByteArray)) (inner:=[.string ((t ++ (⟨#[58]⟩:ByteArray)) ++ u),.string (rd_T54 l0 x8).f0]) (ok:=fun _ => True) (okp:=fun _ => True) ?hr ?hp (fun _ hk => hk) trivial (Below.refl _ _) (Nat.le_refl _) (by simp) ?_;(case hd => rfl);(case hg => rfl);(case hr => first | (go_simp;done) | (go_simp;rfl));(case hp => exact (Reps.one (show Kd.M Kd.string _ _ _ ((t ++ (⟨#[58]⟩:ByteArray)) ++ u) [.string ((t ++ (⟨#[58]⟩:ByteArray)) ++ u)] from rfl) (Reps.one (show Kd.M Kd.string _ _ _ (rd_T54 l0 x8).f0 [.string (rd_T54 l0 x8).f0] from rfl) (Reps.none _ _))))
    intro v22 w18 HO hb _ _
    have n0_:=Aside0.mk (blk_below BK.out hb)
    have n1_:=Aside0.mk (below_step HB.out hb)
    have n2_:=Aside0.mk (IsB.below HI.out hb)
    clear BK HB HI hb
    have BK:=n0_
    have HB:=n1_
    have HI:=n2_
    clear n0_ n1_ n2_
    obtain ⟨Ao,co,eo⟩:=Kd.R_slice HO
    subst eo
    have HR:=(Kd.R_reads' HO).2
    clear HO
    refine hK.out _ _ ⟨(blk_cell BK.out 0).trans rfl,(blk_cell BK.out 1).trans rfl,(blk_cell BK.out 2).trans rfl⟩ (fun hHeld => ?_)
    clear hK K
    refine norm_ (a':=?_) ?_ ?_
    rotate_left
    ·show Act.put _ (some 22) _ = _
     simp only [Act.put,List.setIfInBounds_toArray,List.set_cons_zero,List.set_cons_succ,i64_w,i32_w]
     rfl
    refine one_ (i:=11) (N:=some 23) #[true,true,true,true,true,true,true,true,true,true,true,true,false] rfl rfl (one_of HT_.out (by kernel_rfl)) (by decide) (fun K hK => ?_)
    refine goes_ Tryd.func69 (by kernel_rfl) rfl #[.slice Ao [(t ++ (⟨#[58]⟩:ByteArray)) ++ u,(rd_T54 l0 x8).f0].length co] (by rfl) rfl rfl (by (try simp only [List.map_toArray,List.map_cons,List.map_nil]);first | done | rfl | (simp only [List.length_drop,List.length_take];rfl)) ?_
    with_reducible refine (impl_spaced.calls Ao co [(t ++ (⟨#[58]⟩:ByteArray)) ++ u,(rd_T54 l0 x8).f0] v _ HR.2 HR.1 hv).mono ?_
    rintro e w19 ⟨rfl,hb⟩
    refine ⟨_,rfl,?_⟩
    clear HR
    have n0_:=Aside0.mk (blk_below BK.out hb)
    have n1_:=Aside0.mk (below_step HB.out hb)
    have n2_:=Aside0.mk (IsB.below HI.out hb)
    clear BK HB HI hb
    have BK:=n0_
    have HB:=n1_
    have HI:=n2_
    clear n0_ n1_ n2_
    refine hK.out _ _ ⟨(blk_cell BK.out 0).trans rfl,(blk_cell BK.out 1).trans rfl,(blk_cell BK.out 2).trans rfl⟩ (fun hHeld => ?_)
    clear hK K
    refine norm_ (a':=?_) ?_ ?_
    rotate_left
    ·show Act.put _ (some 23) _ = _
     simp only [Act.put,List.setIfInBounds_toArray,List.set_cons_zero,List.set_cons_succ,i64_w,i32_w]
     rfl
    refine last_ (i:=12) (N:=some 24) #[true,true,true,true,true,true,true,true,true,true,true,true,true] rfl rfl (one_of HT_.out (by kernel_rfl)) (by decide) (fun K hK => ?_)
    refine goes_ Tryd.func68 (by kernel_rfl) rfl #[.pointer (some ⟨w.heap.size,0,none⟩),.string v] (by rfl) rfl rfl (by (try simp only [List.map_toArray,List.map_cons,List.map_nil]);first | done | rfl | (simp only [List.length_drop,List.length_take];rfl)) ?_
    with_reducible refine (bld_string _ _ x v _ HI.out (by omega) HB.out.size).mono ?_
    rintro e w20 ⟨rfl,hI,hb⟩
    refine ⟨_,rfl,?_⟩
    have HB2:=Aside0.mk (HB.out.trans hb)
    have HI2:=Aside0.mk hI
    clear HB HI hI hb BK
    refine hK.out _ _ ?_
    clear hK K
    refine norm_ (a':=?_) ?_ ?_
    rotate_left
    ·show Act.put _ (some 24) _ = _
     simp only [Act.put,List.setIfInBounds_toArray,List.set_cons_zero,List.set_cons_succ,i64_w,i32_w]
     rfl
    refine done_ (done_of HT_.out (by kernel_rfl)) ?_
    try go_wp2
    go_roundg k1
    case measure => have:=HK1.out;omega
    case rel => exact ⟨x ++ v,x8 + 1,(by simp only [x81 ()]),⟨by have:=HX.out.1;have:=of_eq_true q140;omega⟩,H',⟨by have:=HK1.out;omega⟩,HI2,HB2⟩
   ·rw [if_neg c2] at H
    have c2b0:decide (x8 < (l0.length:Int)) = false:=decide_eq_false c2
    obtain rfl:=Option.some.inj H
    go_wp2_with (go_at_call 71;refine (bld_text w.heap.size w.heap.size x _ HI.out HB.out.size).mono ?_;rintro e w2 ⟨rfl,hI,hB⟩)
    go_ret
    exact ⟨rfl,HB.out.trans hB⟩
end Go.Proofs.YtoiiaklmjpiejaaDoor.LibSY
