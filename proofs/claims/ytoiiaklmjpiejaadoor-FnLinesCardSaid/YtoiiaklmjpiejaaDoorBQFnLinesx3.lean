/- The machine's side of a law,written by a program of this session for this claim. -/
import Derived.Test.YtoiiaklmjpiejaaDoorBQq
import Derived.Test.YtoiiaklmjpiejaaDoorBQFnLinesx0
import Derived.Test.YtoiiaklmjpiejaaDoorBQFnLinesx2
namespace Go.Proofs.YtoiiaklmjpiejaaDoor.QFnLines
open Go.Proofs.YtoiiaklmjpiejaaDoor.Qq
open Go.RowKit Go.Proofs.YtoiiaklmjpiejaaDoor.LibX Go.Proofs.YtoiiaklmjpiejaaDoor.LibE Go.Proofs.YtoiiaklmjpiejaaDoor.LibCB Go.Proofs.YtoiiaklmjpiejaaDoor.LibT Go.Proofs.YtoiiaklmjpiejaaDoorW.PrintWords Go.Proofs.YtoiiaklmjpiejaaDoorW.PrintLast Go.Proofs.YtoiiaklmjpiejaaDoorW.PrintMore
attribute [local go_sem] max2_int min2_int max_two min_two max_three min_three max_four min_four   -- for this text's walks alone
set_option maxHeartbeats 8000000
set_option maxRecDepth 100000
set_option linter.unusedVariables false
set_option linter.unusedSimpArgs false
mutual
def spec_DrawLineOk.j0:Nat → List Int → Int → ByteArray → ByteArray → ByteArray → Option (ByteArray × ByteArray × ByteArray)
 | 0,_,_,_,_,_ => none
 | k + 1,x129000,x129001,x138000,x138001,x138002 => if x138001.toList = ([]:List UInt8) then ((spec_l1Rd_once.f x129000 x129001 4).bind fun bt146 => (spec_DrawLineOk.j1 k (!bt146.1) x129000 bt146.2 x138000 x138001 x138002)) else (spec_DrawLineOk.j1 k false x129000 x129001 x138000 x138001 x138002)
def spec_DrawLineOk.j1:Nat → Bool → List Int → Int → ByteArray → ByteArray → ByteArray → Option (ByteArray × ByteArray × ByteArray)
 | 0,_,_,_,_,_,_ => none
 | k + 1,x30,x129000,x129001,x138000,x138001,x138002 => if x30 = true then (spec_DrawLineOk.j2 k x129000 x129001 x138000 x138001 (⟨#[]⟩:ByteArray)) else (spec_DrawLineOk.j2 k x129000 x129001 x138000 x138001 x138002)
def spec_DrawLineOk.j2:Nat → List Int → Int → ByteArray → ByteArray → ByteArray → Option (ByteArray × ByteArray × ByteArray)
 | 0,_,_,_,_,_ => none
 | k + 1,x129000,x129001,x138000,x138001,x138002 => (spec_l1Rd_once.f x129000 x129001 20).bind fun bt148 => (if bt148.1 = true then ((some (([(⟨#[32]⟩:ByteArray),(⟨#[59]⟩:ByteArray),(⟨#[44,32,98]⟩:ByteArray),(⟨#[32,32,99]⟩:ByteArray)]:List ByteArray):List ByteArray)).bind fun y150 => ((spec_l1Rd_below.f x129000 bt148.2 4).bind fun bt153 => (if 0 ≤ bt153.1 then (if bt153.1 < (y150.length:Int) then (if x138002.size + (rdOf ByteArray.empty y150 bt153.1).size ≤ 9223372036854775807 then (some (x138000,x138001,x138002 ++ (rdOf ByteArray.empty y150 bt153.1))) else (none)) else (none)) else (none)))) else (some (x138000,x138001,x138002)))
end
def spec_DrawLineOk.f (k:Nat) (l0:List Int):Option (ByteArray × ByteArray × ByteArray):=(spec_l1Open.f l0).bind fun bt126 => ((some (([(⟨#[108,100]⟩:ByteArray),(⟨#[]⟩:ByteArray),(⟨#[100,98]⟩:ByteArray),(⟨#[115,101,99,116,105,111,110]⟩:ByteArray),(⟨#[76,100]⟩:ByteArray),(⟨#[97,98,99,100,101,102,103,104,105,106,107]⟩:ByteArray)]:List ByteArray):List ByteArray)).bind fun y129 => ((spec_l1Rd_below.f bt126.1 bt126.2 6).bind fun bt132 => (if 0 ≤ bt132.1 then (if bt132.1 < (y129.length:Int) then ((spec_l1Rd_args.f k bt126.1 bt132.2).bind fun bt135 => ((spec_l1Rd_once.f bt126.1 bt135.2 2).bind fun bt138 => (if bt138.1 = true then ((some (([(⟨#[120]⟩:ByteArray),(⟨#[46,121]⟩:ByteArray),(⟨#[108,111,111,112]⟩:ByteArray),(⟨#[49]⟩:ByteArray)]:List ByteArray):List ByteArray)).bind fun y140 => ((spec_l1Rd_below.f bt126.1 bt138.2 4).bind fun bt143 => (if 0 ≤ bt143.1 then (if bt143.1 < (y140.length:Int) then (spec_DrawLineOk.j0 k bt126.1 bt143.2 (rdOf ByteArray.empty y140 bt143.1) (rdOf ByteArray.empty y129 bt132.1) bt135.1) else (none)) else (none)))) else (spec_DrawLineOk.j0 k bt126.1 bt138.2 (⟨#[]⟩:ByteArray) (rdOf ByteArray.empty y129 bt132.1) bt135.1)))) else (none)) else (none))))
def spec_DrawLineOk.T2:Bool × List (List Nat × List Nat):=(true,[([],[]),([],[]),([1],[1]),([0,2],[0,2]),([3],[3]),([],[]),([5,2],[5]),([4,6],[4,6]),([],[]),([8,7,6,0,1,2,3,4,5,6,7,8],[7,8])])
def spec_DrawLineOk.B2:List Nat:=[0,0,2,7,15,0,38,127,0,511]
theorem spec_DrawLineOk.tab2:rtab .any (opsOf Tryd.f35 2) = spec_DrawLineOk.T2:=by kernel_rfl
theorem spec_DrawLineOk.bits2:waitsOk spec_DrawLineOk.T2.2 spec_DrawLineOk.B2 = true:=by kernel_rfl
def spec_DrawLineOk.T8:Bool × List (List Nat × List Nat):=(true,[([],[]),([0],[0]),([],[]),([],[]),([3],[3]),([2,4],[2,4]),([5],[5]),([1,6],[1,6]),([0,1,2,3,4,5,6,7],[]),([8,7,4,0,1,2,3,4,5,6,7],[7,8])])
def spec_DrawLineOk.B8:List Nat:=[0,1,0,0,8,28,60,127,255,511]
theorem spec_DrawLineOk.tab8:rtab .any (opsOf Tryd.f35 8) = spec_DrawLineOk.T8:=by kernel_rfl
theorem spec_DrawLineOk.bits8:waitsOk spec_DrawLineOk.T8.2 spec_DrawLineOk.B8 = true:=by kernel_rfl
theorem spec_DrawLineOk.calls (k:Nat) (A0:Option Addr) (c0:Nat) (l0:List Int) (r1:ByteArray) (r2:ByteArray) (r3:ByteArray) (w:World) (hr0:Kd.C (Kd.int .u8) w A0 l0.length l0) (hc0:l0.length ≤ c0) (h:spec_DrawLineOk.f k l0 = some (r1,r2,r3)) :
  Calls Tryd.prog 35 #[.slice A0 l0.length c0] w fun e w' => e = .returned (.agg #[.string r1,.string r2,.string r3]) ∧ Below w.heap.size w w':=by
 have hu29:=Tryd.underlying29
 have HR0:=Aside0.mk hr0
 have HC0:=Aside0.mk hc0
 clear hr0 hc0
 have HB:=Aside0.mk (Below.refl w.heap.size w)
 have H:=h;unfold spec_DrawLineOk.f at H
 clear h
 replace H:=Option.bind_eq_some_iff.mp H
 obtain ⟨⟨t126,t127⟩,A20,H⟩:=H
 try dsimp -simprocs -eta only at H
 have A2:=Aside0.mk A20
 clear A20
 obtain ⟨y129,hy129⟩:∃ y_:List ByteArray,y_ = (([(⟨#[108,100]⟩:ByteArray),(⟨#[]⟩:ByteArray),(⟨#[100,98]⟩:ByteArray),(⟨#[115,101,99,116,105,111,110]⟩:ByteArray),(⟨#[76,100]⟩:ByteArray),(⟨#[97,98,99,100,101,102,103,104,105,106,107]⟩:ByteArray)]:List ByteArray)):=⟨_,rfl⟩
 replace H:((spec_l1Rd_below.f t126 t127 6).bind fun bt132 => (if 0 ≤ bt132.1 then (if bt132.1 < (y129.length:Int) then ((spec_l1Rd_args.f k t126 bt132.2).bind fun bt135 => ((spec_l1Rd_once.f t126 bt135.2 2).bind fun bt138 => (if bt138.1 = true then ((some (([(⟨#[120]⟩:ByteArray),(⟨#[46,121]⟩:ByteArray),(⟨#[108,111,111,112]⟩:ByteArray),(⟨#[49]⟩:ByteArray)]:List ByteArray):List ByteArray)).bind fun y140 => ((spec_l1Rd_below.f t126 bt138.2 4).bind fun bt143 => (if 0 ≤ bt143.1 then (if bt143.1 < (y140.length:Int) then (spec_DrawLineOk.j0 k t126 bt143.2 (rdOf ByteArray.empty y140 bt143.1) (rdOf ByteArray.empty y129 bt132.1) bt135.1) else (none)) else (none)))) else (spec_DrawLineOk.j0 k t126 bt138.2 (⟨#[]⟩:ByteArray) (rdOf ByteArray.empty y129 bt132.1) bt135.1)))) else (none)) else (none))) = some (r1,r2,r3):=by first | (rw [hy129];exact H) | exact H
 have Ny129:=Aside0.mk hy129
 clear hy129
 replace H:=Option.bind_eq_some_iff.mp H
 obtain ⟨⟨t132,t133⟩,A30,H⟩:=H
 try dsimp -simprocs -eta only at H
 have A3:=Aside0.mk A30
 clear A30
 by_cases c4:0 ≤ t132
 rotate_left
 ·rw [if_neg c4] at H
  exact absurd H (by simp)
 rw [if_pos c4] at H
 have c4b0:=decide_eq_true c4
 clear c4
 by_cases c5:t132 < (y129.length:Int)
 rotate_left
 ·rw [if_neg c5] at H
  exact absurd H (by simp)
 rw [if_pos c5] at H
 have c5b0:=decide_eq_true c5
 clear c5
 replace H:=Option.bind_eq_some_iff.mp H
 obtain ⟨⟨t135,t136⟩,A60,H⟩:=H
 try dsimp -simprocs -eta only at H
 have A6:=Aside0.mk A60
 clear A60
 replace H:=Option.bind_eq_some_iff.mp H
 obtain ⟨⟨t138,t139⟩,A70,H⟩:=H
 try dsimp -simprocs -eta only at H
 have A7:=Aside0.mk A70
 clear A70
 have HC8:=Aside0.mk H
 clear H
 go_enter Tryd.func35,Tryd.ntmps35
 try go_wp2_with (first | ((with_reducible refine gate_dst (N:=2) rfl ?_);refine box_event ?hg (N:=2) ?hd (cs:=#[.string (⟨#[]⟩:ByteArray),.string (⟨#[]⟩:ByteArray),.string (⟨#[]⟩:ByteArray)]) (t:=29) ?hr ?_;(case hd => rfl);(case hg => rfl);(case hr => exact q130_);intro gb125 hg w9 hbox hb;have n0_:=Aside0.mk (below_step q83_ hb);have n1_:=Aside0.mk (hbox);have n2_:=Aside0.mk ((q64_:w.heap.size ≤ gb125));have n3_:=Aside0.mk ((q64_:w.heap.size ≤ gb125));clear HB;have HB:=n0_;have BK125:=n1_;have GW125:=n2_;have GE125:=n3_;clear n0_ n1_ n2_ n3_;clear hb hbox hg) | ((with_reducible refine gate_callee (f:=26) rfl ?_);refine goesL_ (some 6) rfl rfl Tryd.func26 (by kernel_rfl) rfl #[.slice A0 l0.length c0] rfl q82_ ?_;(with_reducible refine (spec_l1Open.calls _ _ l0 t126 t127 w _ ?side1 ?side2 ?side3 A2.out).mono ?_);(case side1 => repeat (first | (with_reducible first | exact HB.out | apply below_alloc | apply pw_below_drewN | apply below_drew1 | refine below_set ?_ GE125.out) | exact HB.out));(case side2 => exact HR0.out);(case side3 => exact HC0.out);rintro e w10 ⟨g128,rfl,hi,hb,hb2⟩;refine ⟨_,rfl,?_⟩;have n0_:=Aside0.mk (blk_below (g:=gb125) (o:=.cells #[.string (⟨#[]⟩:ByteArray),.string (⟨#[]⟩:ByteArray),.string (⟨#[]⟩:ByteArray)] 29 (0,0)) q85_ hb2);have n1_:=Aside0.mk (hb);have n2_:=Aside0.mk (hi);have n3_:=Aside0.mk (IsS62.ne_blk hi (blk_below (g:=gb125) (o:=.cells #[.string (⟨#[]⟩:ByteArray),.string (⟨#[]⟩:ByteArray),.string (⟨#[]⟩:ByteArray)] 29 (0,0)) q85_ hb2) (by decide));have n4_:=Aside0.mk (Ne.symm (IsS62.ne_blk hi (blk_below (g:=gb125) (o:=.cells #[.string (⟨#[]⟩:ByteArray),.string (⟨#[]⟩:ByteArray),.string (⟨#[]⟩:ByteArray)] 29 (0,0)) q85_ hb2) (by decide)));clear BK125;clear HB;have BK125:=n0_;have HB:=n1_;have HI128:=n2_;have NB128_125:=n3_;have NB125_128:=n4_;clear n0_ n1_ n2_ n3_ n4_;(try clear hb);(try clear hb2);(try clear hi)))
 have pi134:(0 ≤ (t132:Int)) = True:=eq_true (of_decide_eq_true q113_)
 have qi134:(t132 < (y129.length:Int)) = True:=eq_true (of_decide_eq_true q113_)
 have n0_:=Aside0.mk (blk_drew BK125.out)
 have n1_:=Aside0.mk (IsS62.drew HI128.out)
 have n2_:=Aside0.mk (below_drew1 HB.out)
 clear BK125
 clear HI128
 clear HB
 have BK125:=n0_
 have HI128:=n1_
 have HB:=n2_
 clear n0_ n1_ n2_
 refine start_ (n:=10) (S:=fun w' => True) (ds:=[]) #[false,false,false,false,false,false,false,false,false,false] (by kernel_rfl) rfl rfl trivial (fun hHeld => ?_);refine with_tabW spec_DrawLineOk.tab2 spec_DrawLineOk.bits2 (fun HT_ HW_ => ?_)
 generalize w10.drew = w11 at BK125 HI128 HB hHeld ⊢
 refine pure_ (i:=1) (N:=some 8) (v:=?_) (a':=?_) #[false,true,false,false,false,false,false,false,false,false] rfl rfl (any_of HT_.out (by kernel_rfl)) (fun _ _ _ h => h) (Or.inl ⟨by rfl,?_⟩) ?_ ?_
 rotate_left
 ·intro w'
  go_simp
  with_reducible rfl
 rotate_left
 ·simp only [Act.put,List.setIfInBounds_toArray,List.set_cons_zero,List.set_cons_succ,i64_w,i32_w]
  rfl
 refine pure_ (i:=5) (N:=some 12) (v:=?_) (a':=?_) #[false,true,false,false,false,true,false,false,false,false] rfl rfl (any_of HT_.out (by kernel_rfl)) (fun _ _ _ h => h) (Or.inl ⟨by rfl,?_⟩) ?_ ?_
 rotate_left
 ·intro w'
  go_simp
  with_reducible rfl
 rotate_left
 ·simp only [Act.put,List.setIfInBounds_toArray,List.set_cons_zero,List.set_cons_succ,i64_w,i32_w]
  rfl
 refine join_ (σ:=Value × Addr × Nat) 1 #[true,true,true,true,true,true,true,true,true,false] (fun s_ => [(7,s_.1),(9,.int .i64 t132),(11,.string (rdOf ByteArray.empty y129 t132)),(13,.string t135),(4,.pointer (some ⟨s_.2.2,0,none⟩)),(10,.pointer (some (s_.2.1.add (t132).toNat))),(14,.agg #[.string (⟨#[]⟩:ByteArray),.string (rdOf ByteArray.empty y129 t132),.string t135])]) (fun s_ w' => (Kd.R Kd.string 9 w' w.heap.size (fun _ => True) s_.1 y129) ∧ (∃ c_,(s_.1:Value) = .slice (some s_.2.1) y129.length c_) ∧ (w'.heap[gb125]? = some (.cells #[.string (⟨#[]⟩:ByteArray),.string (⟨#[]⟩:ByteArray),.string (⟨#[]⟩:ByteArray)] 29 (0,0))) ∧ (w'.heap[s_.2.2]? = some (.cells #[.string (⟨#[]⟩:ByteArray),.string (⟨#[]⟩:ByteArray),.string (⟨#[]⟩:ByteArray)] 29 (0,0))) ∧ (w.heap.size ≤ s_.2.2) ∧ (w.heap.size ≤ s_.2.2) ∧ (g128 ≠ s_.2.2) ∧ (s_.2.2 ≠ g128) ∧ (gb125 ≠ s_.2.2) ∧ (s_.2.2 ≠ gb125) ∧ (IsS62 w w' g128 t126 t136) ∧ (Below w.heap.size w w')) ?_ ?_
 rotate_left
 ·intro hJ0_2_4_6_8
  refine join_ (σ:=Value × Addr) 2 #[true,true,true,true,true,true,true,true,false,false] (fun s_ => [(7,s_.1),(9,.int .i64 t132),(11,.string (rdOf ByteArray.empty y129 t132)),(13,.string t135),(10,.pointer (some (s_.2.add (t132).toNat))),(14,.agg #[.string (⟨#[]⟩:ByteArray),.string (rdOf ByteArray.empty y129 t132),.string t135])]) (fun s_ w' => (Kd.R Kd.string 9 w' w.heap.size (fun _ => True) s_.1 y129) ∧ (∃ c_,(s_.1:Value) = .slice (some s_.2) y129.length c_) ∧ (w'.heap[gb125]? = some (.cells #[.string (⟨#[]⟩:ByteArray),.string (⟨#[]⟩:ByteArray),.string (⟨#[]⟩:ByteArray)] 29 (0,0))) ∧ (IsS62 w w' g128 t126 t136) ∧ (Below w.heap.size w w')) ?_ ?_
  rotate_left
  ·intro hJ0_2_4_6
   refine join_ (σ:=Value × Addr × Nat) 3 #[true,true,true,true,true,true,false,false,true,false] (fun s_ => [(7,s_.1),(9,.int .i64 t132),(11,.string (rdOf ByteArray.empty y129 t132)),(4,.pointer (some ⟨s_.2.2,0,none⟩)),(10,.pointer (some (s_.2.1.add (t132).toNat)))]) (fun s_ w' => (Kd.R Kd.string 9 w' w.heap.size (fun _ => True) s_.1 y129) ∧ (∃ c_,(s_.1:Value) = .slice (some s_.2.1) y129.length c_) ∧ (w'.heap[gb125]? = some (.cells #[.string (⟨#[]⟩:ByteArray),.string (⟨#[]⟩:ByteArray),.string (⟨#[]⟩:ByteArray)] 29 (0,0))) ∧ (w'.heap[s_.2.2]? = some (.cells #[.string (⟨#[]⟩:ByteArray),.string (⟨#[]⟩:ByteArray),.string (⟨#[]⟩:ByteArray)] 29 (0,0))) ∧ (w.heap.size ≤ s_.2.2) ∧ (w.heap.size ≤ s_.2.2) ∧ (g128 ≠ s_.2.2) ∧ (s_.2.2 ≠ g128) ∧ (gb125 ≠ s_.2.2) ∧ (s_.2.2 ≠ gb125) ∧ (IsS62 w w' g128 t126 t133) ∧ (Below w.heap.size w w')) ?_ ?_
   rotate_left
   ·intro hJ0_2_4_8
    refine join_ (σ:=Value × Addr × Nat) 3 #[true,true,true,true,false,true,true,false,true,false] (fun s_ => [(7,s_.1),(9,.int .i64 t132),(13,.string t135),(4,.pointer (some ⟨s_.2.2,0,none⟩)),(10,.pointer (some (s_.2.1.add (t132).toNat)))]) (fun s_ w' => (Kd.R Kd.string 9 w' w.heap.size (fun _ => True) s_.1 y129) ∧ (∃ c_,(s_.1:Value) = .slice (some s_.2.1) y129.length c_) ∧ (w'.heap[gb125]? = some (.cells #[.string (⟨#[]⟩:ByteArray),.string (⟨#[]⟩:ByteArray),.string (⟨#[]⟩:ByteArray)] 29 (0,0))) ∧ (w'.heap[s_.2.2]? = some (.cells #[.string (⟨#[]⟩:ByteArray),.string (⟨#[]⟩:ByteArray),.string (⟨#[]⟩:ByteArray)] 29 (0,0))) ∧ (w.heap.size ≤ s_.2.2) ∧ (w.heap.size ≤ s_.2.2) ∧ (g128 ≠ s_.2.2) ∧ (s_.2.2 ≠ g128) ∧ (gb125 ≠ s_.2.2) ∧ (s_.2.2 ≠ gb125) ∧ (IsS62 w w' g128 t126 t136) ∧ (Below w.heap.size w w')) ?_ ?_
    rotate_left
    ·intro hJ0_2_6_8
     refine join_ (σ:=Value × Addr) 4 #[true,true,true,true,true,true,false,false,false,false] (fun s_ => [(7,s_.1),(9,.int .i64 t132),(11,.string (rdOf ByteArray.empty y129 t132)),(10,.pointer (some (s_.2.add (t132).toNat)))]) (fun s_ w' => (Kd.R Kd.string 9 w' w.heap.size (fun _ => True) s_.1 y129) ∧ (∃ c_,(s_.1:Value) = .slice (some s_.2) y129.length c_) ∧ (w'.heap[gb125]? = some (.cells #[.string (⟨#[]⟩:ByteArray),.string (⟨#[]⟩:ByteArray),.string (⟨#[]⟩:ByteArray)] 29 (0,0))) ∧ (IsS62 w w' g128 t126 t133) ∧ (Below w.heap.size w w')) ?_ ?_
     rotate_left
     ·intro hJ0_2_4
      refine join_ (σ:=Value × Addr) 4 #[true,true,true,true,false,true,true,false,false,false] (fun s_ => [(7,s_.1),(9,.int .i64 t132),(13,.string t135),(10,.pointer (some (s_.2.add (t132).toNat)))]) (fun s_ w' => (Kd.R Kd.string 9 w' w.heap.size (fun _ => True) s_.1 y129) ∧ (∃ c_,(s_.1:Value) = .slice (some s_.2) y129.length c_) ∧ (w'.heap[gb125]? = some (.cells #[.string (⟨#[]⟩:ByteArray),.string (⟨#[]⟩:ByteArray),.string (⟨#[]⟩:ByteArray)] 29 (0,0))) ∧ (IsS62 w w' g128 t126 t136) ∧ (Below w.heap.size w w')) ?_ ?_
      rotate_left
      ·intro hJ0_2_6
       refine join_ (σ:=Value × Addr × Nat) 4 #[true,true,true,true,false,true,false,false,true,false] (fun s_ => [(7,s_.1),(9,.int .i64 t132),(4,.pointer (some ⟨s_.2.2,0,none⟩)),(10,.pointer (some (s_.2.1.add (t132).toNat)))]) (fun s_ w' => (Kd.R Kd.string 9 w' w.heap.size (fun _ => True) s_.1 y129) ∧ (∃ c_,(s_.1:Value) = .slice (some s_.2.1) y129.length c_) ∧ (w'.heap[gb125]? = some (.cells #[.string (⟨#[]⟩:ByteArray),.string (⟨#[]⟩:ByteArray),.string (⟨#[]⟩:ByteArray)] 29 (0,0))) ∧ (w'.heap[s_.2.2]? = some (.cells #[.string (⟨#[]⟩:ByteArray),.string (⟨#[]⟩:ByteArray),.string (⟨#[]⟩:ByteArray)] 29 (0,0))) ∧ (w.heap.size ≤ s_.2.2) ∧ (w.heap.size ≤ s_.2.2) ∧ (g128 ≠ s_.2.2) ∧ (s_.2.2 ≠ g128) ∧ (gb125 ≠ s_.2.2) ∧ (s_.2.2 ≠ gb125) ∧ (IsS62 w w' g128 t126 t133) ∧ (Below w.heap.size w w')) ?_ ?_
       rotate_left
       ·intro hJ0_2_8
        refine join_ (σ:=Nat) 5 #[false,true,true,false,false,true,true,false,true,false] (fun s_ => [(9,.int .i64 t132),(13,.string t135),(4,.pointer (some ⟨s_,0,none⟩))]) (fun s_ w' => (w'.heap[gb125]? = some (.cells #[.string (⟨#[]⟩:ByteArray),.string (⟨#[]⟩:ByteArray),.string (⟨#[]⟩:ByteArray)] 29 (0,0))) ∧ (w'.heap[s_]? = some (.cells #[.string (⟨#[]⟩:ByteArray),.string (⟨#[]⟩:ByteArray),.string (⟨#[]⟩:ByteArray)] 29 (0,0))) ∧ (w.heap.size ≤ s_) ∧ (w.heap.size ≤ s_) ∧ (g128 ≠ s_) ∧ (s_ ≠ g128) ∧ (gb125 ≠ s_) ∧ (s_ ≠ gb125) ∧ (IsS62 w w' g128 t126 t136) ∧ (Below w.heap.size w w')) ?_ ?_
        rotate_left
        ·intro hJ2_6_8
         refine join_ (σ:=Value × Addr) 5 #[true,true,true,true,false,true,false,false,false,false] (fun s_ => [(7,s_.1),(9,.int .i64 t132),(10,.pointer (some (s_.2.add (t132).toNat)))]) (fun s_ w' => (Kd.R Kd.string 9 w' w.heap.size (fun _ => True) s_.1 y129) ∧ (∃ c_,(s_.1:Value) = .slice (some s_.2) y129.length c_) ∧ (w'.heap[gb125]? = some (.cells #[.string (⟨#[]⟩:ByteArray),.string (⟨#[]⟩:ByteArray),.string (⟨#[]⟩:ByteArray)] 29 (0,0))) ∧ (IsS62 w w' g128 t126 t133) ∧ (Below w.heap.size w w')) ?_ ?_
         rotate_left
         ·intro hJ0_2
          refine join_ (σ:=Value × Addr × Nat) 6 #[true,true,false,false,false,true,false,false,true,false] (fun s_ => [(7,s_.1),(4,.pointer (some ⟨s_.2.2,0,none⟩))]) (fun s_ w' => (Kd.R Kd.string 9 w' w.heap.size (fun _ => True) s_.1 y129) ∧ (∃ c_,(s_.1:Value) = .slice (some s_.2.1) y129.length c_) ∧ (w'.heap[gb125]? = some (.cells #[.string (⟨#[]⟩:ByteArray),.string (⟨#[]⟩:ByteArray),.string (⟨#[]⟩:ByteArray)] 29 (0,0))) ∧ (w'.heap[s_.2.2]? = some (.cells #[.string (⟨#[]⟩:ByteArray),.string (⟨#[]⟩:ByteArray),.string (⟨#[]⟩:ByteArray)] 29 (0,0))) ∧ (w.heap.size ≤ s_.2.2) ∧ (w.heap.size ≤ s_.2.2) ∧ (g128 ≠ s_.2.2) ∧ (s_.2.2 ≠ g128) ∧ (gb125 ≠ s_.2.2) ∧ (s_.2.2 ≠ gb125) ∧ (IsS62 w w' g128 t126 t127) ∧ (Below w.heap.size w w')) ?_ ?_
          rotate_left
          ·intro hJ0_8
           refine join_ (σ:=Unit) 6 #[false,true,true,false,false,true,true,false,false,false] (fun s_ => [(9,.int .i64 t132),(13,.string t135)]) (fun s_ w' => (w'.heap[gb125]? = some (.cells #[.string (⟨#[]⟩:ByteArray),.string (⟨#[]⟩:ByteArray),.string (⟨#[]⟩:ByteArray)] 29 (0,0))) ∧ (IsS62 w w' g128 t126 t136) ∧ (Below w.heap.size w w')) ?_ ?_
           rotate_left
           ·intro hJ2_6
            refine join_ (σ:=Nat) 6 #[false,true,true,false,false,true,false,false,true,false] (fun s_ => [(9,.int .i64 t132),(4,.pointer (some ⟨s_,0,none⟩))]) (fun s_ w' => (w'.heap[gb125]? = some (.cells #[.string (⟨#[]⟩:ByteArray),.string (⟨#[]⟩:ByteArray),.string (⟨#[]⟩:ByteArray)] 29 (0,0))) ∧ (w'.heap[s_]? = some (.cells #[.string (⟨#[]⟩:ByteArray),.string (⟨#[]⟩:ByteArray),.string (⟨#[]⟩:ByteArray)] 29 (0,0))) ∧ (w.heap.size ≤ s_) ∧ (w.heap.size ≤ s_) ∧ (g128 ≠ s_) ∧ (s_ ≠ g128) ∧ (gb125 ≠ s_) ∧ (s_ ≠ gb125) ∧ (IsS62 w w' g128 t126 t133) ∧ (Below w.heap.size w w')) ?_ ?_
            rotate_left
            ·intro hJ2_8
             refine join_ (σ:=Value × Addr) 7 #[true,true,false,false,false,true,false,false,false,false] (fun s_ => [(7,s_.1)]) (fun s_ w' => (Kd.R Kd.string 9 w' w.heap.size (fun _ => True) s_.1 y129) ∧ (∃ c_,(s_.1:Value) = .slice (some s_.2) y129.length c_) ∧ (w'.heap[gb125]? = some (.cells #[.string (⟨#[]⟩:ByteArray),.string (⟨#[]⟩:ByteArray),.string (⟨#[]⟩:ByteArray)] 29 (0,0))) ∧ (IsS62 w w' g128 t126 t127) ∧ (Below w.heap.size w w')) ?_ ?_
             rotate_left
             ·intro hJ0
              refine join_ (σ:=Unit) 7 #[false,true,true,false,false,true,false,false,false,false] (fun s_ => [(9,.int .i64 t132)]) (fun s_ w' => (w'.heap[gb125]? = some (.cells #[.string (⟨#[]⟩:ByteArray),.string (⟨#[]⟩:ByteArray),.string (⟨#[]⟩:ByteArray)] 29 (0,0))) ∧ (IsS62 w w' g128 t126 t133) ∧ (Below w.heap.size w w')) ?_ ?_
              rotate_left
              ·intro hJ2
               refine join_ (σ:=Nat) 7 #[false,true,false,false,false,true,false,false,true,false] (fun s_ => [(4,.pointer (some ⟨s_,0,none⟩))]) (fun s_ w' => (w'.heap[gb125]? = some (.cells #[.string (⟨#[]⟩:ByteArray),.string (⟨#[]⟩:ByteArray),.string (⟨#[]⟩:ByteArray)] 29 (0,0))) ∧ (w'.heap[s_]? = some (.cells #[.string (⟨#[]⟩:ByteArray),.string (⟨#[]⟩:ByteArray),.string (⟨#[]⟩:ByteArray)] 29 (0,0))) ∧ (w.heap.size ≤ s_) ∧ (w.heap.size ≤ s_) ∧ (g128 ≠ s_) ∧ (s_ ≠ g128) ∧ (gb125 ≠ s_) ∧ (s_ ≠ gb125) ∧ (IsS62 w w' g128 t126 t127) ∧ (Below w.heap.size w w')) ?_ ?_
               rotate_left
               ·intro hJ8
                refine three_ (i:=0) (j:=2) (k:=8) (Ni:=some 7) (Nj:=some 9) (Nk:=some 4) #[true,true,false,false,false,true,false,false,false,false] #[false,true,true,false,false,true,false,false,false,false] #[false,true,false,false,false,true,false,false,true,false] rfl rfl rfl rfl rfl rfl (three_of HT_.out (by kernel_rfl)) (by decide) (by decide) (by decide) (fun K hK => ?_) (fun K hK => ?_) (fun K hK => ?_)
                ·skip
                 refine Kd.R_lit_step Kd.string _ 9 ?hg (N:=7) ?hd (xs:=([(⟨#[108,100]⟩:ByteArray),(⟨#[]⟩:ByteArray),(⟨#[100,98]⟩:ByteArray),(⟨#[115,101,99,116,105,111,110]⟩:ByteArray),(⟨#[76,100]⟩:ByteArray),(⟨#[97,98,99,100,101,102,103,104,105,106,107]⟩:ByteArray)]:List ByteArray)) (inner:=[.string (⟨#[108,100]⟩:ByteArray),.string (⟨#[]⟩:ByteArray),.string (⟨#[100,98]⟩:ByteArray),.string (⟨#[115,101,99,116,105,111,110]⟩:ByteArray),.string (⟨#[76,100]⟩:ByteArray),.string (⟨#[97,98,99,100,101,102,103,104,105,106,107]⟩:ByteArray)]) (ok:=fun _ => True) (okp:=fun _ => True) ?hr ?hp (fun _ hk => hk) trivial (Below.refl _ _) (Nat.le_refl _) (by simp) ?_;(case hd => rfl);(case hg => rfl);(case hr => exact q130_);(case hp => exact q116_)
                 intro v130 w12 ho13 hb hg_ hnew_
                 clear hg_ hnew_
                 (first | rw [← Ny129.out] at ho13 | (simp only [Int.reduceToNat] at ho13;rw [← Ny129.out] at ho13))
                 have n0_:=Aside0.mk (Kd.R_lower ho13 (below_size q48_))
                 have n1_:=Aside0.mk (blk_below (g:=gb125) (o:=.cells #[.string (⟨#[]⟩:ByteArray),.string (⟨#[]⟩:ByteArray),.string (⟨#[]⟩:ByteArray)] 29 (0,0)) q85_ hb)
                 have n2_:=Aside0.mk (IsS62.below q56_ hb)
                 have n3_:=Aside0.mk (below_step q48_ hb)
                 clear BK125
                 clear HI128
                 clear HB
                 have HO131:=n0_
                 have BK125:=n1_
                 have HI128:=n2_
                 have HB:=n3_
                 clear n0_ n1_ n2_ n3_
                 clear hb ho13
                 obtain ⟨Ao14,co14,eo14⟩:=Kd.R_slice HO131.out
                 subst eo14
                 obtain ⟨ado14,fo14,_⟩:=Kd.at_string (Kd.R_reads' HO131.out).2.2 0 (by decide) (by rw [Ny129.out];simp)
                 cases fo14
                 refine hK.out _ _ trivial (fun hHeld => ?_)
                 clear hK K
                 refine norm_ (a':=?_) ?_ ?_
                 rotate_left
                 ·show Act.put _ (some 7) _ = _
                  simp only [Act.put,List.setIfInBounds_toArray,List.set_cons_zero,List.set_cons_succ,i64_w,i32_w]
                  rfl
                 exact norm_ q47_ (hJ0 (.slice (some ado14) y129.length co14,ado14) _ ⟨q102_,⟨_,rfl⟩,q85_,q56_,q48_⟩)
                ·skip
                 refine goes_ Tryd.func30 (by kernel_rfl) rfl #[.pointer (some ⟨g128,0,none⟩),.int .i64 6] (by rfl) rfl rfl q82_ ?_
                 with_reducible refine (spec_l1Rd_below.calls g128 t126 t127 6 t132 t133 w _ ?side1 ?side2 A3.out).mono ?_
                 (case side1 => exact q122_)
                 (case side2 => exact q121_)
                 rintro e w12 ⟨rfl,hi,hb,hk⟩
                 refine ⟨_,rfl,?_⟩
                 have n0_:=Aside0.mk (KeepBut.blk hk (g':=gb125) (o:=.cells #[.string (⟨#[]⟩:ByteArray),.string (⟨#[]⟩:ByteArray),.string (⟨#[]⟩:ByteArray)] 29 (0,0)) q85_ NB125_128.out (by simp))
                 have n1_:=Aside0.mk (hb)
                 have n2_:=Aside0.mk (hi)
                 clear BK125
                 clear HB
                 clear HI128
                 have BK125:=n0_
                 have HB:=n1_
                 have HI128:=n2_
                 clear n0_ n1_ n2_
                 (try clear hb)
                 (try clear hb2)
                 (try clear hk)
                 (try clear hi)
                 refine hK.out _ _ trivial (fun hHeld => ?_)
                 clear hK K
                 refine norm_ (a':=?_) ?_ ?_
                 rotate_left
                 ·show Act.put _ (some 9) _ = _
                  simp only [Act.put,List.setIfInBounds_toArray,List.set_cons_zero,List.set_cons_succ,i64_w,i32_w]
                  rfl
                 exact norm_ q47_ (hJ2 () _ ⟨q85_,q56_,q48_⟩)
                skip
                refine box_step ?hg (N:=4) ?hd (cs:=#[.string (⟨#[]⟩:ByteArray),.string (⟨#[]⟩:ByteArray),.string (⟨#[]⟩:ByteArray)]) (t:=29) ?hr ?_;(case hd => rfl);(case hg => rfl);(case hr => exact q130_)
                intro gb137 hg w12 hbox hb
                have n0_:=Aside0.mk (blk_below (g:=gb125) (o:=.cells #[.string (⟨#[]⟩:ByteArray),.string (⟨#[]⟩:ByteArray),.string (⟨#[]⟩:ByteArray)] 29 (0,0)) q85_ hb)
                have n1_:=Aside0.mk (IsS62.below q56_ hb)
                have n2_:=Aside0.mk (below_step q48_ hb)
                have n3_:=Aside0.mk (hbox)
                have n4_:=Aside0.mk ((q32_:w.heap.size ≤ gb137))
                have n5_:=Aside0.mk ((q32_:w.heap.size ≤ gb137))
                have n6_:=Aside0.mk ((q21_:gb125 ≠ gb137))
                have n7_:=Aside0.mk ((q22_:gb137 ≠ gb125))
                have n8_:=Aside0.mk ((q23_:g128 ≠ gb137))
                have n9_:=Aside0.mk ((q24_:gb137 ≠ g128))
                clear BK125
                clear HI128
                clear HB
                have BK125:=n0_
                have HI128:=n1_
                have HB:=n2_
                have BK137:=n3_
                have GW137:=n4_
                have GE137:=n5_
                have NB125_137:=n6_
                have NB137_125:=n7_
                have NB128_137:=n8_
                have NB137_128:=n9_
                clear n0_ n1_ n2_ n3_ n4_ n5_ n6_ n7_ n8_ n9_
                clear hb hbox hg
                refine hK.out _ _ trivial (fun hHeld => ?_)
                clear hK K
                refine norm_ (a':=?_) ?_ ?_
                rotate_left
                ·show Act.put _ (some 4) _ = _
                 simp only [Act.put,List.setIfInBounds_toArray,List.set_cons_zero,List.set_cons_succ,i64_w,i32_w]
                 rfl
                exact norm_ q47_ (hJ8 (gb137) _ ⟨q85_,q86_,GW137.out,GE137.out,NB128_137.out,NB137_128.out,NB125_137.out,NB137_125.out,q40_,q39_⟩)
               skip
               rintro gb137 w13 ⟨h0_,h1_,h2_,h3_,h4_,h5_,h6_,h7_,h8_,h9_⟩
               have n0_:Aside0 (w13.heap[gb125]? = some (.cells #[.string (⟨#[]⟩:ByteArray),.string (⟨#[]⟩:ByteArray),.string (⟨#[]⟩:ByteArray)] 29 (0,0))):=⟨h0_⟩
               have n1_:Aside0 (w13.heap[gb137]? = some (.cells #[.string (⟨#[]⟩:ByteArray),.string (⟨#[]⟩:ByteArray),.string (⟨#[]⟩:ByteArray)] 29 (0,0))):=⟨h1_⟩
               have n2_:Aside0 (w.heap.size ≤ gb137):=⟨h2_⟩
               have n3_:Aside0 (w.heap.size ≤ gb137):=⟨h3_⟩
               have n4_:Aside0 (g128 ≠ gb137):=⟨h4_⟩
               have n5_:Aside0 (gb137 ≠ g128):=⟨h5_⟩
               have n6_:Aside0 (gb125 ≠ gb137):=⟨h6_⟩
               have n7_:Aside0 (gb137 ≠ gb125):=⟨h7_⟩
               have n8_:Aside0 (IsS62 w w13 g128 t126 t127):=⟨h8_⟩
               have n9_:Aside0 (Below w.heap.size w w13):=⟨h9_⟩
               clear BK125
               clear HI128
               clear HB
               clear h0_ h1_ h2_ h3_ h4_ h5_ h6_ h7_ h8_ h9_
               have BK125:=n0_
               have BK137:=n1_
               have GW137:=n2_
               have GE137:=n3_
               have NB128_137:=n4_
               have NB137_128:=n5_
               have NB125_137:=n6_
               have NB137_125:=n7_
               have HI128:=n8_
               have HB:=n9_
               clear n0_ n1_ n2_ n3_ n4_ n5_ n6_ n7_ n8_ n9_
               have hHeld:=trivial
               refine norm_ (a':=?_) ?_ ?_
               rotate_left
               ·simp only [putAll,Act.put,List.setIfInBounds_toArray,List.set_cons_zero,List.set_cons_succ]
                rfl
               refine two_ (i:=0) (j:=2) (Ni:=some 7) (Nj:=some 9) #[true,true,false,false,false,true,false,false,true,false] #[false,true,true,false,false,true,false,false,true,false] rfl rfl rfl rfl (two_of HT_.out (by kernel_rfl)) (by decide) (by decide) (fun K hK => ?_) (fun K hK => ?_)
               ·skip
                refine Kd.R_lit_step Kd.string _ 9 ?hg (N:=7) ?hd (xs:=([(⟨#[108,100]⟩:ByteArray),(⟨#[]⟩:ByteArray),(⟨#[100,98]⟩:ByteArray),(⟨#[115,101,99,116,105,111,110]⟩:ByteArray),(⟨#[76,100]⟩:ByteArray),(⟨#[97,98,99,100,101,102,103,104,105,106,107]⟩:ByteArray)]:List ByteArray)) (inner:=[.string (⟨#[108,100]⟩:ByteArray),.string (⟨#[]⟩:ByteArray),.string (⟨#[100,98]⟩:ByteArray),.string (⟨#[115,101,99,116,105,111,110]⟩:ByteArray),.string (⟨#[76,100]⟩:ByteArray),.string (⟨#[97,98,99,100,101,102,103,104,105,106,107]⟩:ByteArray)]) (ok:=fun _ => True) (okp:=fun _ => True) ?hr ?hp (fun _ hk => hk) trivial (Below.refl _ _) (Nat.le_refl _) (by simp) ?_;(case hd => rfl);(case hg => rfl);(case hr => exact q130_);(case hp => exact q116_)
                intro v130 w14 ho15 hb hg_ hnew_
                clear hg_ hnew_
                (first | rw [← Ny129.out] at ho15 | (simp only [Int.reduceToNat] at ho15;rw [← Ny129.out] at ho15))
                have n0_:=Aside0.mk (Kd.R_lower ho15 (below_size q39_))
                have n1_:=Aside0.mk (blk_below (g:=gb125) (o:=.cells #[.string (⟨#[]⟩:ByteArray),.string (⟨#[]⟩:ByteArray),.string (⟨#[]⟩:ByteArray)] 29 (0,0)) q85_ hb)
                have n2_:=Aside0.mk (IsS62.below q40_ hb)
                have n3_:=Aside0.mk (blk_below (g:=gb137) (o:=.cells #[.string (⟨#[]⟩:ByteArray),.string (⟨#[]⟩:ByteArray),.string (⟨#[]⟩:ByteArray)] 29 (0,0)) q86_ hb)
                have n4_:=Aside0.mk (below_step q39_ hb)
                clear BK125
                clear HI128
                clear BK137
                clear HB
                have HO131:=n0_
                have BK125:=n1_
                have HI128:=n2_
                have BK137:=n3_
                have HB:=n4_
                clear n0_ n1_ n2_ n3_ n4_
                clear hb ho15
                obtain ⟨Ao16,co16,eo16⟩:=Kd.R_slice HO131.out
                subst eo16
                obtain ⟨ado16,fo16,_⟩:=Kd.at_string (Kd.R_reads' HO131.out).2.2 0 (by decide) (by rw [Ny129.out];simp)
                cases fo16
                refine hK.out _ _ trivial (fun hHeld => ?_)
                clear hK K
                refine norm_ (a':=?_) ?_ ?_
                rotate_left
                ·show Act.put _ (some 7) _ = _
                 simp only [Act.put,List.setIfInBounds_toArray,List.set_cons_zero,List.set_cons_succ,i64_w,i32_w]
                 rfl
                exact norm_ q47_ (hJ0_8 (.slice (some ado16) y129.length co16,ado16,gb137) _ ⟨q102_,⟨_,rfl⟩,q85_,q86_,GW137.out,GE137.out,NB128_137.out,NB137_128.out,NB125_137.out,NB137_125.out,q40_,q39_⟩)
               skip
               refine goes_ Tryd.func30 (by kernel_rfl) rfl #[.pointer (some ⟨g128,0,none⟩),.int .i64 6] (by rfl) rfl rfl q82_ ?_
               with_reducible refine (spec_l1Rd_below.calls g128 t126 t127 6 t132 t133 w _ ?side1 ?side2 A3.out).mono ?_
               (case side1 => exact q120_)
               (case side2 => exact q119_)
               rintro e w14 ⟨rfl,hi,hb,hk⟩
               refine ⟨_,rfl,?_⟩
               have n0_:=Aside0.mk (KeepBut.blk hk (g':=gb125) (o:=.cells #[.string (⟨#[]⟩:ByteArray),.string (⟨#[]⟩:ByteArray),.string (⟨#[]⟩:ByteArray)] 29 (0,0)) q85_ NB125_128.out (by simp))
               have n1_:=Aside0.mk (KeepBut.blk hk (g':=gb137) (o:=.cells #[.string (⟨#[]⟩:ByteArray),.string (⟨#[]⟩:ByteArray),.string (⟨#[]⟩:ByteArray)] 29 (0,0)) q86_ NB137_128.out (by simp))
               have n2_:=Aside0.mk (hb)
               have n3_:=Aside0.mk (hi)
               clear BK125
               clear BK137
               clear HB
               clear HI128
               have BK125:=n0_
               have BK137:=n1_
               have HB:=n2_
               have HI128:=n3_
               clear n0_ n1_ n2_ n3_
               (try clear hb)
               (try clear hb2)
               (try clear hk)
               (try clear hi)
               refine hK.out _ _ trivial (fun hHeld => ?_)
               clear hK K
               refine norm_ (a':=?_) ?_ ?_
               rotate_left
               ·show Act.put _ (some 9) _ = _
                simp only [Act.put,List.setIfInBounds_toArray,List.set_cons_zero,List.set_cons_succ,i64_w,i32_w]
                rfl
               exact norm_ q47_ (hJ2_8 (gb137) _ ⟨q85_,q86_,GW137.out,GE137.out,NB128_137.out,NB137_128.out,NB125_137.out,NB137_125.out,q40_,q39_⟩)
              skip
              rintro _ w13 ⟨h0_,h1_,h2_⟩
              have n0_:Aside0 (w13.heap[gb125]? = some (.cells #[.string (⟨#[]⟩:ByteArray),.string (⟨#[]⟩:ByteArray),.string (⟨#[]⟩:ByteArray)] 29 (0,0))):=⟨h0_⟩
              have n1_:Aside0 (IsS62 w w13 g128 t126 t133):=⟨h1_⟩
              have n2_:Aside0 (Below w.heap.size w w13):=⟨h2_⟩
              clear BK125
              clear HI128
              clear HB
              clear h0_ h1_ h2_
              have BK125:=n0_
              have HI128:=n1_
              have HB:=n2_
              clear n0_ n1_ n2_
              have hHeld:=trivial
              refine norm_ (a':=?_) ?_ ?_
              rotate_left
              ·simp only [putAll,Act.put,List.setIfInBounds_toArray,List.set_cons_zero,List.set_cons_succ]
               rfl
              refine three_ (i:=0) (j:=6) (k:=8) (Ni:=some 7) (Nj:=some 13) (Nk:=some 4) #[true,true,true,false,false,true,false,false,false,false] #[false,true,true,false,false,true,true,false,false,false] #[false,true,true,false,false,true,false,false,true,false] rfl rfl rfl rfl rfl rfl (three_of HT_.out (by kernel_rfl)) (by decide) (by decide) (by decide) (fun K hK => ?_) (fun K hK => ?_) (fun K hK => ?_)
              ·skip
               refine Kd.R_lit_step Kd.string _ 9 ?hg (N:=7) ?hd (xs:=([(⟨#[108,100]⟩:ByteArray),(⟨#[]⟩:ByteArray),(⟨#[100,98]⟩:ByteArray),(⟨#[115,101,99,116,105,111,110]⟩:ByteArray),(⟨#[76,100]⟩:ByteArray),(⟨#[97,98,99,100,101,102,103,104,105,106,107]⟩:ByteArray)]:List ByteArray)) (inner:=[.string (⟨#[108,100]⟩:ByteArray),.string (⟨#[]⟩:ByteArray),.string (⟨#[100,98]⟩:ByteArray),.string (⟨#[115,101,99,116,105,111,110]⟩:ByteArray),.string (⟨#[76,100]⟩:ByteArray),.string (⟨#[97,98,99,100,101,102,103,104,105,106,107]⟩:ByteArray)]) (ok:=fun _ => True) (okp:=fun _ => True) ?hr ?hp (fun _ hk => hk) trivial (Below.refl _ _) (Nat.le_refl _) (by simp) ?_;(case hd => rfl);(case hg => rfl);(case hr => exact q130_);(case hp => exact q116_)
               intro v130 w14 ho15 hb hg_ hnew_
               clear hg_ hnew_
               (first | rw [← Ny129.out] at ho15 | (simp only [Int.reduceToNat] at ho15;rw [← Ny129.out] at ho15))
               have n0_:=Aside0.mk (Kd.R_lower ho15 (below_size q48_))
               have n1_:=Aside0.mk (blk_below (g:=gb125) (o:=.cells #[.string (⟨#[]⟩:ByteArray),.string (⟨#[]⟩:ByteArray),.string (⟨#[]⟩:ByteArray)] 29 (0,0)) q85_ hb)
               have n2_:=Aside0.mk (IsS62.below q56_ hb)
               have n3_:=Aside0.mk (below_step q48_ hb)
               clear BK125
               clear HI128
               clear HB
               have HO131:=n0_
               have BK125:=n1_
               have HI128:=n2_
               have HB:=n3_
               clear n0_ n1_ n2_ n3_
               clear hb ho15
               obtain ⟨Ao16,co16,eo16⟩:=Kd.R_slice HO131.out
               subst eo16
               obtain ⟨ado16,fo16,_⟩:=Kd.at_string (Kd.R_reads' HO131.out).2.2 0 (by decide) (by rw [Ny129.out];simp)
               cases fo16
               refine hK.out _ _ trivial (fun hHeld => ?_)
               clear hK K
               refine norm_ (a':=?_) ?_ ?_
               rotate_left
               ·show Act.put _ (some 7) _ = _
                simp only [Act.put,List.setIfInBounds_toArray,List.set_cons_zero,List.set_cons_succ,i64_w,i32_w]
                rfl
               refine pure_ (i:=3) (N:=some 10) (v:=?_) (a':=?_) #[true,true,true,true,false,true,false,false,false,false] rfl rfl (any_of HT_.out (by kernel_rfl)) (fun _ _ _ h => h) (Or.inl ⟨by rfl,?_⟩) ?_ ?_
               rotate_left
               ·intro w'
                go_simp
                with_reducible rfl
               rotate_left
               ·simp only [Act.put,List.setIfInBounds_toArray,List.set_cons_zero,List.set_cons_succ,i64_w,i32_w]
                rfl
               exact norm_ q47_ (hJ0_2 (.slice (some ado16) y129.length co16,ado16) _ ⟨q102_,⟨_,rfl⟩,q85_,q56_,q48_⟩)
              ·skip
               refine goes_ Tryd.func29 (by kernel_rfl) rfl #[.pointer (some ⟨g128,0,none⟩)] (by rfl) rfl rfl q82_ ?_
               with_reducible refine (spec_l1Rd_args.calls k g128 t126 t133 t135 t136 w _ ?side1 ?side2 A6.out).mono ?_
               (case side1 => exact q122_)
               (case side2 => exact q121_)
               rintro e w14 ⟨rfl,hi,hb,hk⟩
               refine ⟨_,rfl,?_⟩
               have n0_:=Aside0.mk (KeepBut.blk hk (g':=gb125) (o:=.cells #[.string (⟨#[]⟩:ByteArray),.string (⟨#[]⟩:ByteArray),.string (⟨#[]⟩:ByteArray)] 29 (0,0)) q85_ NB125_128.out (by simp))
               have n1_:=Aside0.mk (hb)
               have n2_:=Aside0.mk (hi)
               clear BK125
               clear HB
               clear HI128
               have BK125:=n0_
               have HB:=n1_
               have HI128:=n2_
               clear n0_ n1_ n2_
               (try clear hb)
               (try clear hb2)
               (try clear hk)
               (try clear hi)
               refine hK.out _ _ trivial (fun hHeld => ?_)
               clear hK K
               refine norm_ (a':=?_) ?_ ?_
               rotate_left
               ·show Act.put _ (some 13) _ = _
                simp only [Act.put,List.setIfInBounds_toArray,List.set_cons_zero,List.set_cons_succ,i64_w,i32_w]
                rfl
               exact norm_ q47_ (hJ2_6 () _ ⟨q85_,q56_,q48_⟩)
              skip
              refine box_step ?hg (N:=4) ?hd (cs:=#[.string (⟨#[]⟩:ByteArray),.string (⟨#[]⟩:ByteArray),.string (⟨#[]⟩:ByteArray)]) (t:=29) ?hr ?_;(case hd => rfl);(case hg => rfl);(case hr => exact q130_)
              intro gb137 hg w14 hbox hb
              have n0_:=Aside0.mk (blk_below (g:=gb125) (o:=.cells #[.string (⟨#[]⟩:ByteArray),.string (⟨#[]⟩:ByteArray),.string (⟨#[]⟩:ByteArray)] 29 (0,0)) q85_ hb)
              have n1_:=Aside0.mk (IsS62.below q56_ hb)
              have n2_:=Aside0.mk (below_step q48_ hb)
              have n3_:=Aside0.mk (hbox)
              have n4_:=Aside0.mk ((q32_:w.heap.size ≤ gb137))
              have n5_:=Aside0.mk ((q32_:w.heap.size ≤ gb137))
              have n6_:=Aside0.mk ((q21_:gb125 ≠ gb137))
              have n7_:=Aside0.mk ((q22_:gb137 ≠ gb125))
              have n8_:=Aside0.mk ((q25_:g128 ≠ gb137))
              have n9_:=Aside0.mk ((q26_:gb137 ≠ g128))
              clear BK125
              clear HI128
              clear HB
              have BK125:=n0_
              have HI128:=n1_
              have HB:=n2_
              have BK137:=n3_
              have GW137:=n4_
              have GE137:=n5_
              have NB125_137:=n6_
              have NB137_125:=n7_
              have NB128_137:=n8_
              have NB137_128:=n9_
              clear n0_ n1_ n2_ n3_ n4_ n5_ n6_ n7_ n8_ n9_
              clear hb hbox hg
              refine hK.out _ _ trivial (fun hHeld => ?_)
              clear hK K
              refine norm_ (a':=?_) ?_ ?_
              rotate_left
              ·show Act.put _ (some 4) _ = _
               simp only [Act.put,List.setIfInBounds_toArray,List.set_cons_zero,List.set_cons_succ,i64_w,i32_w]
               rfl
              exact norm_ q47_ (hJ2_8 (gb137) _ ⟨q85_,q86_,GW137.out,GE137.out,NB128_137.out,NB137_128.out,NB125_137.out,NB137_125.out,q40_,q39_⟩)
             skip
             rintro ⟨v130,adz_v130⟩ w15 ⟨h0_,h1_,h2_,h3_,h4_⟩
             have n0_:Aside0 (Kd.R Kd.string 9 w15 w.heap.size (fun _ => True) v130 y129):=⟨h0_⟩
             have n1_:Aside0 (∃ c_,(v130:Value) = .slice (some adz_v130) y129.length c_):=⟨h1_⟩
             have n2_:Aside0 (w15.heap[gb125]? = some (.cells #[.string (⟨#[]⟩:ByteArray),.string (⟨#[]⟩:ByteArray),.string (⟨#[]⟩:ByteArray)] 29 (0,0))):=⟨h2_⟩
             have n3_:Aside0 (IsS62 w w15 g128 t126 t127):=⟨h3_⟩
             have n4_:Aside0 (Below w.heap.size w w15):=⟨h4_⟩
             clear BK125
             clear HI128
             clear HB
             clear h0_ h1_ h2_ h3_ h4_
             have HO131:=n0_
             have HA_HO131:=n1_
             have BK125:=n2_
             have HI128:=n3_
             have HB:=n4_
             clear n0_ n1_ n2_ n3_ n4_
             have hHeld:=trivial
             obtain ⟨co16,eo16⟩:=HA_HO131.out
             clear HA_HO131
             subst eo16
             refine norm_ (a':=?_) ?_ ?_
             rotate_left
             ·simp only [putAll,Act.put,List.setIfInBounds_toArray,List.set_cons_zero,List.set_cons_succ]
              rfl
             refine two_ (i:=2) (j:=8) (Ni:=some 9) (Nj:=some 4) #[true,true,true,false,false,true,false,false,false,false] #[true,true,false,false,false,true,false,false,true,false] rfl rfl rfl rfl (two_of HT_.out (by kernel_rfl)) (by decide) (by decide) (fun K hK => ?_) (fun K hK => ?_)
             ·skip
              refine goes_ Tryd.func30 (by kernel_rfl) rfl #[.pointer (some ⟨g128,0,none⟩),.int .i64 6] (by rfl) rfl rfl q82_ ?_
              with_reducible refine (spec_l1Rd_below.calls g128 t126 t127 6 t132 t133 w _ ?side1 ?side2 A3.out).mono ?_
              (case side1 => exact q122_)
              (case side2 => exact q121_)
              rintro e w17 ⟨rfl,hi,hb,hk⟩
              refine ⟨_,rfl,?_⟩
              have n0_:=Aside0.mk (KeepBut.blk hk (g':=gb125) (o:=.cells #[.string (⟨#[]⟩:ByteArray),.string (⟨#[]⟩:ByteArray),.string (⟨#[]⟩:ByteArray)] 29 (0,0)) q85_ NB125_128.out (by simp))
              have n1_:=Aside0.mk (Kd.R_mono (Kd.R_keep (IsS62.apart (show IsS62 w _ g128 t126 t127 from by repeat (first | (with_reducible first | exact HI128.out | apply IsS62.alloc | apply IsS62.drewN | apply IsS62.drew | apply IsS62.set_1 | refine IsS62.far ?_ NB128_125.out _) | exact HI128.out)) q102_ (by decide)) hk (fun _ h => h.2)) (fun _ h => h.1))
              have n2_:=Aside0.mk (hb)
              have n3_:=Aside0.mk (hi)
              clear BK125
              clear HO131
              clear HB
              clear HI128
              have BK125:=n0_
              have HO131:=n1_
              have HB:=n2_
              have HI128:=n3_
              clear n0_ n1_ n2_ n3_
              (try clear hb)
              (try clear hb2)
              (try clear hk)
              (try clear hi)
              refine hK.out _ _ trivial (fun hHeld => ?_)
              clear hK K
              refine norm_ (a':=?_) ?_ ?_
              rotate_left
              ·show Act.put _ (some 9) _ = _
               simp only [Act.put,List.setIfInBounds_toArray,List.set_cons_zero,List.set_cons_succ,i64_w,i32_w]
               rfl
              refine pure_ (i:=3) (N:=some 10) (v:=?_) (a':=?_) #[true,true,true,true,false,true,false,false,false,false] rfl rfl (any_of HT_.out (by kernel_rfl)) (fun _ _ _ h => h) (Or.inl ⟨by rfl,?_⟩) ?_ ?_
              rotate_left
              ·intro w'
               go_simp
               with_reducible rfl
              rotate_left
              ·simp only [Act.put,List.setIfInBounds_toArray,List.set_cons_zero,List.set_cons_succ,i64_w,i32_w]
               rfl
              exact norm_ q47_ (hJ0_2 (.slice (some adz_v130) y129.length co16,adz_v130) _ ⟨q102_,⟨_,rfl⟩,q85_,q56_,q48_⟩)
             skip
             refine box_step ?hg (N:=4) ?hd (cs:=#[.string (⟨#[]⟩:ByteArray),.string (⟨#[]⟩:ByteArray),.string (⟨#[]⟩:ByteArray)]) (t:=29) ?hr ?_;(case hd => rfl);(case hg => rfl);(case hr => exact q130_)
             intro gb137 hg w17 hbox hb
             have n0_:=Aside0.mk (Kd.R_below q102_ hb)
             have n1_:=Aside0.mk (blk_below (g:=gb125) (o:=.cells #[.string (⟨#[]⟩:ByteArray),.string (⟨#[]⟩:ByteArray),.string (⟨#[]⟩:ByteArray)] 29 (0,0)) q85_ hb)
             have n2_:=Aside0.mk (IsS62.below q56_ hb)
             have n3_:=Aside0.mk (below_step q48_ hb)
             have n4_:=Aside0.mk (hbox)
             have n5_:=Aside0.mk ((q32_:w.heap.size ≤ gb137))
             have n6_:=Aside0.mk ((q32_:w.heap.size ≤ gb137))
             have n7_:=Aside0.mk ((q21_:gb125 ≠ gb137))
             have n8_:=Aside0.mk ((q22_:gb137 ≠ gb125))
             have n9_:=Aside0.mk ((q23_:g128 ≠ gb137))
             have n10_:=Aside0.mk ((q24_:gb137 ≠ g128))
             clear HO131
             clear BK125
             clear HI128
             clear HB
             have HO131:=n0_
             have BK125:=n1_
             have HI128:=n2_
             have HB:=n3_
             have BK137:=n4_
             have GW137:=n5_
             have GE137:=n6_
             have NB125_137:=n7_
             have NB137_125:=n8_
             have NB128_137:=n9_
             have NB137_128:=n10_
             clear n0_ n1_ n2_ n3_ n4_ n5_ n6_ n7_ n8_ n9_ n10_
             clear hb hbox hg
             refine hK.out _ _ trivial (fun hHeld => ?_)
             clear hK K
             refine norm_ (a':=?_) ?_ ?_
             rotate_left
             ·show Act.put _ (some 4) _ = _
              simp only [Act.put,List.setIfInBounds_toArray,List.set_cons_zero,List.set_cons_succ,i64_w,i32_w]
              rfl
             exact norm_ q47_ (hJ0_8 (.slice (some adz_v130) y129.length co16,adz_v130,gb137) _ ⟨q102_,⟨_,rfl⟩,q85_,q86_,GW137.out,GE137.out,NB128_137.out,NB137_128.out,NB125_137.out,NB137_125.out,q40_,q39_⟩)
            skip
            rintro gb137 w14 ⟨h0_,h1_,h2_,h3_,h4_,h5_,h6_,h7_,h8_,h9_⟩
            have n0_:Aside0 (w14.heap[gb125]? = some (.cells #[.string (⟨#[]⟩:ByteArray),.string (⟨#[]⟩:ByteArray),.string (⟨#[]⟩:ByteArray)] 29 (0,0))):=⟨h0_⟩
            have n1_:Aside0 (w14.heap[gb137]? = some (.cells #[.string (⟨#[]⟩:ByteArray),.string (⟨#[]⟩:ByteArray),.string (⟨#[]⟩:ByteArray)] 29 (0,0))):=⟨h1_⟩
            have n2_:Aside0 (w.heap.size ≤ gb137):=⟨h2_⟩
            have n3_:Aside0 (w.heap.size ≤ gb137):=⟨h3_⟩
            have n4_:Aside0 (g128 ≠ gb137):=⟨h4_⟩
            have n5_:Aside0 (gb137 ≠ g128):=⟨h5_⟩
            have n6_:Aside0 (gb125 ≠ gb137):=⟨h6_⟩
            have n7_:Aside0 (gb137 ≠ gb125):=⟨h7_⟩
            have n8_:Aside0 (IsS62 w w14 g128 t126 t133):=⟨h8_⟩
            have n9_:Aside0 (Below w.heap.size w w14):=⟨h9_⟩
            clear BK125
            clear HI128
            clear HB
            clear h0_ h1_ h2_ h3_ h4_ h5_ h6_ h7_ h8_ h9_
            have BK125:=n0_
            have BK137:=n1_
            have GW137:=n2_
            have GE137:=n3_
            have NB128_137:=n4_
            have NB137_128:=n5_
            have NB125_137:=n6_
            have NB137_125:=n7_
            have HI128:=n8_
            have HB:=n9_
            clear n0_ n1_ n2_ n3_ n4_ n5_ n6_ n7_ n8_ n9_
            have hHeld:=trivial
            refine norm_ (a':=?_) ?_ ?_
            rotate_left
            ·simp only [putAll,Act.put,List.setIfInBounds_toArray,List.set_cons_zero,List.set_cons_succ]
             rfl
            refine two_ (i:=0) (j:=6) (Ni:=some 7) (Nj:=some 13) #[true,true,true,false,false,true,false,false,true,false] #[false,true,true,false,false,true,true,false,true,false] rfl rfl rfl rfl (two_of HT_.out (by kernel_rfl)) (by decide) (by decide) (fun K hK => ?_) (fun K hK => ?_)
            ·skip
             refine Kd.R_lit_step Kd.string _ 9 ?hg (N:=7) ?hd (xs:=([(⟨#[108,100]⟩:ByteArray),(⟨#[]⟩:ByteArray),(⟨#[100,98]⟩:ByteArray),(⟨#[115,101,99,116,105,111,110]⟩:ByteArray),(⟨#[76,100]⟩:ByteArray),(⟨#[97,98,99,100,101,102,103,104,105,106,107]⟩:ByteArray)]:List ByteArray)) (inner:=[.string (⟨#[108,100]⟩:ByteArray),.string (⟨#[]⟩:ByteArray),.string (⟨#[100,98]⟩:ByteArray),.string (⟨#[115,101,99,116,105,111,110]⟩:ByteArray),.string (⟨#[76,100]⟩:ByteArray),.string (⟨#[97,98,99,100,101,102,103,104,105,106,107]⟩:ByteArray)]) (ok:=fun _ => True) (okp:=fun _ => True) ?hr ?hp (fun _ hk => hk) trivial (Below.refl _ _) (Nat.le_refl _) (by simp) ?_;(case hd => rfl);(case hg => rfl);(case hr => exact q130_);(case hp => exact q116_)
             intro v130 w15 ho16 hb hg_ hnew_
             clear hg_ hnew_
             (first | rw [← Ny129.out] at ho16 | (simp only [Int.reduceToNat] at ho16;rw [← Ny129.out] at ho16))
             have n0_:=Aside0.mk (Kd.R_lower ho16 (below_size q39_))
             have n1_:=Aside0.mk (blk_below (g:=gb125) (o:=.cells #[.string (⟨#[]⟩:ByteArray),.string (⟨#[]⟩:ByteArray),.string (⟨#[]⟩:ByteArray)] 29 (0,0)) q85_ hb)
             have n2_:=Aside0.mk (IsS62.below q40_ hb)
             have n3_:=Aside0.mk (blk_below (g:=gb137) (o:=.cells #[.string (⟨#[]⟩:ByteArray),.string (⟨#[]⟩:ByteArray),.string (⟨#[]⟩:ByteArray)] 29 (0,0)) q86_ hb)
             have n4_:=Aside0.mk (below_step q39_ hb)
             clear BK125
             clear HI128
             clear BK137
             clear HB
             have HO131:=n0_
             have BK125:=n1_
             have HI128:=n2_
             have BK137:=n3_
             have HB:=n4_
             clear n0_ n1_ n2_ n3_ n4_
             clear hb ho16
             obtain ⟨Ao17,co17,eo17⟩:=Kd.R_slice HO131.out
             subst eo17
             obtain ⟨ado17,fo17,_⟩:=Kd.at_string (Kd.R_reads' HO131.out).2.2 0 (by decide) (by rw [Ny129.out];simp)
             cases fo17
             refine hK.out _ _ trivial (fun hHeld => ?_)
             clear hK K
             refine norm_ (a':=?_) ?_ ?_
             rotate_left
             ·show Act.put _ (some 7) _ = _
              simp only [Act.put,List.setIfInBounds_toArray,List.set_cons_zero,List.set_cons_succ,i64_w,i32_w]
              rfl
             refine pure_ (i:=3) (N:=some 10) (v:=?_) (a':=?_) #[true,true,true,true,false,true,false,false,true,false] rfl rfl (any_of HT_.out (by kernel_rfl)) (fun _ _ _ h => h) (Or.inl ⟨by rfl,?_⟩) ?_ ?_
             rotate_left
             ·intro w'
              go_simp
              with_reducible rfl
             rotate_left
             ·simp only [Act.put,List.setIfInBounds_toArray,List.set_cons_zero,List.set_cons_succ,i64_w,i32_w]
              rfl
             exact norm_ q47_ (hJ0_2_8 (.slice (some ado17) y129.length co17,ado17,gb137) _ ⟨q102_,⟨_,rfl⟩,q85_,q86_,GW137.out,GE137.out,NB128_137.out,NB137_128.out,NB125_137.out,NB137_125.out,q40_,q39_⟩)
            skip
            refine goes_ Tryd.func29 (by kernel_rfl) rfl #[.pointer (some ⟨g128,0,none⟩)] (by rfl) rfl rfl q82_ ?_
            with_reducible refine (spec_l1Rd_args.calls k g128 t126 t133 t135 t136 w _ ?side1 ?side2 A6.out).mono ?_
            (case side1 => exact q120_)
            (case side2 => exact q119_)
            rintro e w15 ⟨rfl,hi,hb,hk⟩
            refine ⟨_,rfl,?_⟩
            have n0_:=Aside0.mk (KeepBut.blk hk (g':=gb125) (o:=.cells #[.string (⟨#[]⟩:ByteArray),.string (⟨#[]⟩:ByteArray),.string (⟨#[]⟩:ByteArray)] 29 (0,0)) q85_ NB125_128.out (by simp))
            have n1_:=Aside0.mk (KeepBut.blk hk (g':=gb137) (o:=.cells #[.string (⟨#[]⟩:ByteArray),.string (⟨#[]⟩:ByteArray),.string (⟨#[]⟩:ByteArray)] 29 (0,0)) q86_ NB137_128.out (by simp))
            have n2_:=Aside0.mk (hb)
            have n3_:=Aside0.mk (hi)
            clear BK125
            clear BK137
            clear HB
            clear HI128
            have BK125:=n0_
            have BK137:=n1_
            have HB:=n2_
            have HI128:=n3_
            clear n0_ n1_ n2_ n3_
            (try clear hb)
            (try clear hb2)
            (try clear hk)
            (try clear hi)
            refine hK.out _ _ trivial (fun hHeld => ?_)
            clear hK K
            refine norm_ (a':=?_) ?_ ?_
            rotate_left
            ·show Act.put _ (some 13) _ = _
             simp only [Act.put,List.setIfInBounds_toArray,List.set_cons_zero,List.set_cons_succ,i64_w,i32_w]
             rfl
            exact norm_ q47_ (hJ2_6_8 (gb137) _ ⟨q85_,q86_,GW137.out,GE137.out,NB128_137.out,NB137_128.out,NB125_137.out,NB137_125.out,q40_,q39_⟩)
           skip
           rintro _ w14 ⟨h0_,h1_,h2_⟩
           have n0_:Aside0 (w14.heap[gb125]? = some (.cells #[.string (⟨#[]⟩:ByteArray),.string (⟨#[]⟩:ByteArray),.string (⟨#[]⟩:ByteArray)] 29 (0,0))):=⟨h0_⟩
           have n1_:Aside0 (IsS62 w w14 g128 t126 t136):=⟨h1_⟩
           have n2_:Aside0 (Below w.heap.size w w14):=⟨h2_⟩
           clear BK125
           clear HI128
           clear HB
           clear h0_ h1_ h2_
           have BK125:=n0_
           have HI128:=n1_
           have HB:=n2_
           clear n0_ n1_ n2_
           have hHeld:=trivial
           refine norm_ (a':=?_) ?_ ?_
           rotate_left
           ·simp only [putAll,Act.put,List.setIfInBounds_toArray,List.set_cons_zero,List.set_cons_succ]
            rfl
           refine two_ (i:=0) (j:=8) (Ni:=some 7) (Nj:=some 4) #[true,true,true,false,false,true,true,false,false,false] #[false,true,true,false,false,true,true,false,true,false] rfl rfl rfl rfl (two_of HT_.out (by kernel_rfl)) (by decide) (by decide) (fun K hK => ?_) (fun K hK => ?_)
           ·skip
            refine Kd.R_lit_step Kd.string _ 9 ?hg (N:=7) ?hd (xs:=([(⟨#[108,100]⟩:ByteArray),(⟨#[]⟩:ByteArray),(⟨#[100,98]⟩:ByteArray),(⟨#[115,101,99,116,105,111,110]⟩:ByteArray),(⟨#[76,100]⟩:ByteArray),(⟨#[97,98,99,100,101,102,103,104,105,106,107]⟩:ByteArray)]:List ByteArray)) (inner:=[.string (⟨#[108,100]⟩:ByteArray),.string (⟨#[]⟩:ByteArray),.string (⟨#[100,98]⟩:ByteArray),.string (⟨#[115,101,99,116,105,111,110]⟩:ByteArray),.string (⟨#[76,100]⟩:ByteArray),.string (⟨#[97,98,99,100,101,102,103,104,105,106,107]⟩:ByteArray)]) (ok:=fun _ => True) (okp:=fun _ => True) ?hr ?hp (fun _ hk => hk) trivial (Below.refl _ _) (Nat.le_refl _) (by simp) ?_;(case hd => rfl);(case hg => rfl);(case hr => exact q130_);(case hp => exact q116_)
            intro v130 w15 ho16 hb hg_ hnew_
            clear hg_ hnew_
            (first | rw [← Ny129.out] at ho16 | (simp only [Int.reduceToNat] at ho16;rw [← Ny129.out] at ho16))
            have n0_:=Aside0.mk (Kd.R_lower ho16 (below_size q48_))
            have n1_:=Aside0.mk (blk_below (g:=gb125) (o:=.cells #[.string (⟨#[]⟩:ByteArray),.string (⟨#[]⟩:ByteArray),.string (⟨#[]⟩:ByteArray)] 29 (0,0)) q85_ hb)
            have n2_:=Aside0.mk (IsS62.below q56_ hb)
            have n3_:=Aside0.mk (below_step q48_ hb)
            clear BK125
            clear HI128
            clear HB
            have HO131:=n0_
            have BK125:=n1_
            have HI128:=n2_
            have HB:=n3_
            clear n0_ n1_ n2_ n3_
            clear hb ho16
            obtain ⟨Ao17,co17,eo17⟩:=Kd.R_slice HO131.out
            subst eo17
            obtain ⟨ado17,fo17,_⟩:=Kd.at_string (Kd.R_reads' HO131.out).2.2 0 (by decide) (by rw [Ny129.out];simp)
            cases fo17
            refine hK.out _ _ trivial (fun hHeld => ?_)
            clear hK K
            refine norm_ (a':=?_) ?_ ?_
            rotate_left
            ·show Act.put _ (some 7) _ = _
             simp only [Act.put,List.setIfInBounds_toArray,List.set_cons_zero,List.set_cons_succ,i64_w,i32_w]
             rfl
            refine pure_ (i:=3) (N:=some 10) (v:=?_) (a':=?_) #[true,true,true,true,false,true,true,false,false,false] rfl rfl (any_of HT_.out (by kernel_rfl)) (fun _ _ _ h => h) (Or.inl ⟨by rfl,?_⟩) ?_ ?_
            rotate_left
            ·intro w'
             go_simp
             with_reducible rfl
            rotate_left
            ·simp only [Act.put,List.setIfInBounds_toArray,List.set_cons_zero,List.set_cons_succ,i64_w,i32_w]
             rfl
            exact norm_ q47_ (hJ0_2_6 (.slice (some ado17) y129.length co17,ado17) _ ⟨q102_,⟨_,rfl⟩,q85_,q56_,q48_⟩)
           skip
           refine box_step ?hg (N:=4) ?hd (cs:=#[.string (⟨#[]⟩:ByteArray),.string (⟨#[]⟩:ByteArray),.string (⟨#[]⟩:ByteArray)]) (t:=29) ?hr ?_;(case hd => rfl);(case hg => rfl);(case hr => exact q130_)
           intro gb137 hg w15 hbox hb
           have n0_:=Aside0.mk (blk_below (g:=gb125) (o:=.cells #[.string (⟨#[]⟩:ByteArray),.string (⟨#[]⟩:ByteArray),.string (⟨#[]⟩:ByteArray)] 29 (0,0)) q85_ hb)
           have n1_:=Aside0.mk (IsS62.below q56_ hb)
           have n2_:=Aside0.mk (below_step q48_ hb)
           have n3_:=Aside0.mk (hbox)
           have n4_:=Aside0.mk ((q32_:w.heap.size ≤ gb137))
           have n5_:=Aside0.mk ((q32_:w.heap.size ≤ gb137))
           have n6_:=Aside0.mk ((q21_:gb125 ≠ gb137))
           have n7_:=Aside0.mk ((q22_:gb137 ≠ gb125))
           have n8_:=Aside0.mk ((q27_:g128 ≠ gb137))
           have n9_:=Aside0.mk ((q28_:gb137 ≠ g128))
           clear BK125
           clear HI128
           clear HB
           have BK125:=n0_
           have HI128:=n1_
           have HB:=n2_
           have BK137:=n3_
           have GW137:=n4_
           have GE137:=n5_
           have NB125_137:=n6_
           have NB137_125:=n7_
           have NB128_137:=n8_
           have NB137_128:=n9_
           clear n0_ n1_ n2_ n3_ n4_ n5_ n6_ n7_ n8_ n9_
           clear hb hbox hg
           refine hK.out _ _ trivial (fun hHeld => ?_)
           clear hK K
           refine norm_ (a':=?_) ?_ ?_
           rotate_left
           ·show Act.put _ (some 4) _ = _
            simp only [Act.put,List.setIfInBounds_toArray,List.set_cons_zero,List.set_cons_succ,i64_w,i32_w]
            rfl
           exact norm_ q47_ (hJ2_6_8 (gb137) _ ⟨q85_,q86_,GW137.out,GE137.out,NB128_137.out,NB137_128.out,NB125_137.out,NB137_125.out,q40_,q39_⟩)
          skip
          rintro ⟨v130,adz_v130,gb137⟩ w16 ⟨h0_,h1_,h2_,h3_,h4_,h5_,h6_,h7_,h8_,h9_,h10_,h11_⟩
          have n0_:Aside0 (Kd.R Kd.string 9 w16 w.heap.size (fun _ => True) v130 y129):=⟨h0_⟩
          have n1_:Aside0 (∃ c_,(v130:Value) = .slice (some adz_v130) y129.length c_):=⟨h1_⟩
          have n2_:Aside0 (w16.heap[gb125]? = some (.cells #[.string (⟨#[]⟩:ByteArray),.string (⟨#[]⟩:ByteArray),.string (⟨#[]⟩:ByteArray)] 29 (0,0))):=⟨h2_⟩
          have n3_:Aside0 (w16.heap[gb137]? = some (.cells #[.string (⟨#[]⟩:ByteArray),.string (⟨#[]⟩:ByteArray),.string (⟨#[]⟩:ByteArray)] 29 (0,0))):=⟨h3_⟩
          have n4_:Aside0 (w.heap.size ≤ gb137):=⟨h4_⟩
          have n5_:Aside0 (w.heap.size ≤ gb137):=⟨h5_⟩
          have n6_:Aside0 (g128 ≠ gb137):=⟨h6_⟩
          have n7_:Aside0 (gb137 ≠ g128):=⟨h7_⟩
          have n8_:Aside0 (gb125 ≠ gb137):=⟨h8_⟩
          have n9_:Aside0 (gb137 ≠ gb125):=⟨h9_⟩
          have n10_:Aside0 (IsS62 w w16 g128 t126 t127):=⟨h10_⟩
          have n11_:Aside0 (Below w.heap.size w w16):=⟨h11_⟩
          clear BK125
          clear HI128
          clear HB
          clear h0_ h1_ h2_ h3_ h4_ h5_ h6_ h7_ h8_ h9_ h10_ h11_
          have HO131:=n0_
          have HA_HO131:=n1_
          have BK125:=n2_
          have BK137:=n3_
          have GW137:=n4_
          have GE137:=n5_
          have NB128_137:=n6_
          have NB137_128:=n7_
          have NB125_137:=n8_
          have NB137_125:=n9_
          have HI128:=n10_
          have HB:=n11_
          clear n0_ n1_ n2_ n3_ n4_ n5_ n6_ n7_ n8_ n9_ n10_ n11_
          have hHeld:=trivial
          obtain ⟨co17,eo17⟩:=HA_HO131.out
          clear HA_HO131
          subst eo17
          refine norm_ (a':=?_) ?_ ?_
          rotate_left
          ·simp only [putAll,Act.put,List.setIfInBounds_toArray,List.set_cons_zero,List.set_cons_succ]
           rfl
          refine one_ (i:=2) (N:=some 9) #[true,true,true,false,false,true,false,false,true,false] rfl rfl (one_of HT_.out (by kernel_rfl)) (by decide) (fun K hK => ?_)
          refine goes_ Tryd.func30 (by kernel_rfl) rfl #[.pointer (some ⟨g128,0,none⟩),.int .i64 6] (by rfl) rfl rfl q82_ ?_
          with_reducible refine (spec_l1Rd_below.calls g128 t126 t127 6 t132 t133 w _ ?side1 ?side2 A3.out).mono ?_
          (case side1 => exact q120_)
          (case side2 => exact q119_)
          rintro e w18 ⟨rfl,hi,hb,hk⟩
          refine ⟨_,rfl,?_⟩
          have n0_:=Aside0.mk (KeepBut.blk hk (g':=gb125) (o:=.cells #[.string (⟨#[]⟩:ByteArray),.string (⟨#[]⟩:ByteArray),.string (⟨#[]⟩:ByteArray)] 29 (0,0)) q85_ NB125_128.out (by simp))
          have n1_:=Aside0.mk (Kd.R_mono (Kd.R_keep (IsS62.apart (show IsS62 w _ g128 t126 t127 from by repeat (first | (with_reducible first | exact HI128.out | apply IsS62.alloc | apply IsS62.drewN | apply IsS62.drew | apply IsS62.set_1 | refine IsS62.far ?_ NB128_125.out _ | refine IsS62.far ?_ NB128_137.out _) | exact HI128.out)) q102_ (by decide)) hk (fun _ h => h.2)) (fun _ h => h.1))
          have n2_:=Aside0.mk (KeepBut.blk hk (g':=gb137) (o:=.cells #[.string (⟨#[]⟩:ByteArray),.string (⟨#[]⟩:ByteArray),.string (⟨#[]⟩:ByteArray)] 29 (0,0)) q86_ NB137_128.out (by simp))
          have n3_:=Aside0.mk (hb)
          have n4_:=Aside0.mk (hi)
          clear BK125
          clear HO131
          clear BK137
          clear HB
          clear HI128
          have BK125:=n0_
          have HO131:=n1_
          have BK137:=n2_
          have HB:=n3_
          have HI128:=n4_
          clear n0_ n1_ n2_ n3_ n4_
          (try clear hb)
          (try clear hb2)
          (try clear hk)
          (try clear hi)
          refine hK.out _ _ trivial (fun hHeld => ?_)
          clear hK K
          refine norm_ (a':=?_) ?_ ?_
          rotate_left
          ·show Act.put _ (some 9) _ = _
           simp only [Act.put,List.setIfInBounds_toArray,List.set_cons_zero,List.set_cons_succ,i64_w,i32_w]
           rfl
          refine pure_ (i:=3) (N:=some 10) (v:=?_) (a':=?_) #[true,true,true,true,false,true,false,false,true,false] rfl rfl (any_of HT_.out (by kernel_rfl)) (fun _ _ _ h => h) (Or.inl ⟨by rfl,?_⟩) ?_ ?_
          rotate_left
          ·intro w'
           go_simp
           with_reducible rfl
          rotate_left
          ·simp only [Act.put,List.setIfInBounds_toArray,List.set_cons_zero,List.set_cons_succ,i64_w,i32_w]
           rfl
          exact norm_ q47_ (hJ0_2_8 (.slice (some adz_v130) y129.length co17,adz_v130,gb137) _ ⟨q102_,⟨_,rfl⟩,q85_,q86_,GW137.out,GE137.out,NB128_137.out,NB137_128.out,NB125_137.out,NB137_125.out,q40_,q39_⟩)
         skip
         rintro ⟨v130,adz_v130⟩ w16 ⟨h0_,h1_,h2_,h3_,h4_⟩
         have n0_:Aside0 (Kd.R Kd.string 9 w16 w.heap.size (fun _ => True) v130 y129):=⟨h0_⟩
         have n1_:Aside0 (∃ c_,(v130:Value) = .slice (some adz_v130) y129.length c_):=⟨h1_⟩
         have n2_:Aside0 (w16.heap[gb125]? = some (.cells #[.string (⟨#[]⟩:ByteArray),.string (⟨#[]⟩:ByteArray),.string (⟨#[]⟩:ByteArray)] 29 (0,0))):=⟨h2_⟩
         have n3_:Aside0 (IsS62 w w16 g128 t126 t133):=⟨h3_⟩
         have n4_:Aside0 (Below w.heap.size w w16):=⟨h4_⟩
         clear BK125
         clear HI128
         clear HB
         clear h0_ h1_ h2_ h3_ h4_
         have HO131:=n0_
         have HA_HO131:=n1_
         have BK125:=n2_
         have HI128:=n3_
         have HB:=n4_
         clear n0_ n1_ n2_ n3_ n4_
         have hHeld:=trivial
         obtain ⟨co17,eo17⟩:=HA_HO131.out
         clear HA_HO131
         subst eo17
         refine norm_ (a':=?_) ?_ ?_
         rotate_left
         ·simp only [putAll,Act.put,List.setIfInBounds_toArray,List.set_cons_zero,List.set_cons_succ]
          rfl
         refine three_ (i:=4) (j:=6) (k:=8) (Ni:=some 11) (Nj:=some 13) (Nk:=some 4) #[true,true,true,true,true,true,false,false,false,false] #[true,true,true,true,false,true,true,false,false,false] #[true,true,true,true,false,true,false,false,true,false] rfl rfl rfl rfl rfl rfl (three_of HT_.out (by kernel_rfl)) (by decide) (by decide) (by decide) (fun K hK => ?_) (fun K hK => ?_) (fun K hK => ?_)
         ·skip
          (have p134:0 ≤ (t132:Int):=of_decide_eq_true q113_;have q134:t132 < (y129.length:Int):=of_decide_eq_true q113_;obtain ⟨ad134,e134,hx134_0⟩:=Kd.at_string (Kd.R_reads' HO131.out).2.2 t132 p134 q134;obtain rfl:adz_v130 = ad134:=(by injection e134))
          refine value_ (w1:=?_) (v:=?_) (by rfl) rfl ?_ ?_
          rotate_left 2
          ·go_simp
           constructor
           ·rfl
           rfl
          clear hx134_0
          refine hK.out _ _ trivial (fun hHeld => ?_)
          clear hK K
          refine norm_ (a':=?_) ?_ ?_
          rotate_left
          ·show Act.put _ (some 11) _ = _
           simp only [Act.put,List.setIfInBounds_toArray,List.set_cons_zero,List.set_cons_succ,i64_w,i32_w]
           rfl
          exact norm_ q47_ (hJ0_2_4 (.slice (some adz_v130) y129.length co17,adz_v130) _ ⟨q102_,⟨_,rfl⟩,q85_,q56_,q48_⟩)
         ·skip
          refine goes_ Tryd.func29 (by kernel_rfl) rfl #[.pointer (some ⟨g128,0,none⟩)] (by rfl) rfl rfl q82_ ?_
          with_reducible refine (spec_l1Rd_args.calls k g128 t126 t133 t135 t136 w _ ?side1 ?side2 A6.out).mono ?_
          (case side1 => exact q122_)
          (case side2 => exact q121_)
          rintro e w18 ⟨rfl,hi,hb,hk⟩
          refine ⟨_,rfl,?_⟩
          have n0_:=Aside0.mk (KeepBut.blk hk (g':=gb125) (o:=.cells #[.string (⟨#[]⟩:ByteArray),.string (⟨#[]⟩:ByteArray),.string (⟨#[]⟩:ByteArray)] 29 (0,0)) q85_ NB125_128.out (by simp))
          have n1_:=Aside0.mk (Kd.R_mono (Kd.R_keep (IsS62.apart (show IsS62 w _ g128 t126 t133 from by repeat (first | (with_reducible first | exact HI128.out | apply IsS62.alloc | apply IsS62.drewN | apply IsS62.drew | apply IsS62.set_1 | refine IsS62.far ?_ NB128_125.out _) | exact HI128.out)) q102_ (by decide)) hk (fun _ h => h.2)) (fun _ h => h.1))
          have n2_:=Aside0.mk (hb)
          have n3_:=Aside0.mk (hi)
          clear BK125
          clear HO131
          clear HB
          clear HI128
          have BK125:=n0_
          have HO131:=n1_
          have HB:=n2_
          have HI128:=n3_
          clear n0_ n1_ n2_ n3_
          (try clear hb)
          (try clear hb2)
          (try clear hk)
          (try clear hi)
          refine hK.out _ _ trivial (fun hHeld => ?_)
          clear hK K
          refine norm_ (a':=?_) ?_ ?_
          rotate_left
          ·show Act.put _ (some 13) _ = _
           simp only [Act.put,List.setIfInBounds_toArray,List.set_cons_zero,List.set_cons_succ,i64_w,i32_w]
           rfl
          exact norm_ q47_ (hJ0_2_6 (.slice (some adz_v130) y129.length co17,adz_v130) _ ⟨q102_,⟨_,rfl⟩,q85_,q56_,q48_⟩)
         skip
         refine box_step ?hg (N:=4) ?hd (cs:=#[.string (⟨#[]⟩:ByteArray),.string (⟨#[]⟩:ByteArray),.string (⟨#[]⟩:ByteArray)]) (t:=29) ?hr ?_;(case hd => rfl);(case hg => rfl);(case hr => exact q130_)
         intro gb137 hg w18 hbox hb
         have n0_:=Aside0.mk (Kd.R_below q102_ hb)
         have n1_:=Aside0.mk (blk_below (g:=gb125) (o:=.cells #[.string (⟨#[]⟩:ByteArray),.string (⟨#[]⟩:ByteArray),.string (⟨#[]⟩:ByteArray)] 29 (0,0)) q85_ hb)
         have n2_:=Aside0.mk (IsS62.below q56_ hb)
         have n3_:=Aside0.mk (below_step q48_ hb)
         have n4_:=Aside0.mk (hbox)
         have n5_:=Aside0.mk ((q32_:w.heap.size ≤ gb137))
         have n6_:=Aside0.mk ((q32_:w.heap.size ≤ gb137))
         have n7_:=Aside0.mk ((q21_:gb125 ≠ gb137))
         have n8_:=Aside0.mk ((q22_:gb137 ≠ gb125))
         have n9_:=Aside0.mk ((q25_:g128 ≠ gb137))
         have n10_:=Aside0.mk ((q26_:gb137 ≠ g128))
         clear HO131
         clear BK125
         clear HI128
         clear HB
         have HO131:=n0_
         have BK125:=n1_
         have HI128:=n2_
         have HB:=n3_
         have BK137:=n4_
         have GW137:=n5_
         have GE137:=n6_
         have NB125_137:=n7_
         have NB137_125:=n8_
         have NB128_137:=n9_
         have NB137_128:=n10_
         clear n0_ n1_ n2_ n3_ n4_ n5_ n6_ n7_ n8_ n9_ n10_
         clear hb hbox hg
         refine hK.out _ _ trivial (fun hHeld => ?_)
         clear hK K
         refine norm_ (a':=?_) ?_ ?_
         rotate_left
         ·show Act.put _ (some 4) _ = _
          simp only [Act.put,List.setIfInBounds_toArray,List.set_cons_zero,List.set_cons_succ,i64_w,i32_w]
          rfl
         exact norm_ q47_ (hJ0_2_8 (.slice (some adz_v130) y129.length co17,adz_v130,gb137) _ ⟨q102_,⟨_,rfl⟩,q85_,q86_,GW137.out,GE137.out,NB128_137.out,NB137_128.out,NB125_137.out,NB137_125.out,q40_,q39_⟩)
        skip
        rintro gb137 w15 ⟨h0_,h1_,h2_,h3_,h4_,h5_,h6_,h7_,h8_,h9_⟩
        have n0_:Aside0 (w15.heap[gb125]? = some (.cells #[.string (⟨#[]⟩:ByteArray),.string (⟨#[]⟩:ByteArray),.string (⟨#[]⟩:ByteArray)] 29 (0,0))):=⟨h0_⟩
        have n1_:Aside0 (w15.heap[gb137]? = some (.cells #[.string (⟨#[]⟩:ByteArray),.string (⟨#[]⟩:ByteArray),.string (⟨#[]⟩:ByteArray)] 29 (0,0))):=⟨h1_⟩
        have n2_:Aside0 (w.heap.size ≤ gb137):=⟨h2_⟩
        have n3_:Aside0 (w.heap.size ≤ gb137):=⟨h3_⟩
        have n4_:Aside0 (g128 ≠ gb137):=⟨h4_⟩
        have n5_:Aside0 (gb137 ≠ g128):=⟨h5_⟩
        have n6_:Aside0 (gb125 ≠ gb137):=⟨h6_⟩
        have n7_:Aside0 (gb137 ≠ gb125):=⟨h7_⟩
        have n8_:Aside0 (IsS62 w w15 g128 t126 t136):=⟨h8_⟩
        have n9_:Aside0 (Below w.heap.size w w15):=⟨h9_⟩
        clear BK125
        clear HI128
        clear HB
        clear h0_ h1_ h2_ h3_ h4_ h5_ h6_ h7_ h8_ h9_
        have BK125:=n0_
        have BK137:=n1_
        have GW137:=n2_
        have GE137:=n3_
        have NB128_137:=n4_
        have NB137_128:=n5_
        have NB125_137:=n6_
        have NB137_125:=n7_
        have HI128:=n8_
        have HB:=n9_
        clear n0_ n1_ n2_ n3_ n4_ n5_ n6_ n7_ n8_ n9_
        have hHeld:=trivial
        refine norm_ (a':=?_) ?_ ?_
        rotate_left
        ·simp only [putAll,Act.put,List.setIfInBounds_toArray,List.set_cons_zero,List.set_cons_succ]
         rfl
        refine one_ (i:=0) (N:=some 7) #[true,true,true,false,false,true,true,false,true,false] rfl rfl (one_of HT_.out (by kernel_rfl)) (by decide) (fun K hK => ?_)
        refine Kd.R_lit_step Kd.string _ 9 ?hg (N:=7) ?hd (xs:=([(⟨#[108,100]⟩:ByteArray),(⟨#[]⟩:ByteArray),(⟨#[100,98]⟩:ByteArray),(⟨#[115,101,99,116,105,111,110]⟩:ByteArray),(⟨#[76,100]⟩:ByteArray),(⟨#[97,98,99,100,101,102,103,104,105,106,107]⟩:ByteArray)]:List ByteArray)) (inner:=[.string (⟨#[108,100]⟩:ByteArray),.string (⟨#[]⟩:ByteArray),.string (⟨#[100,98]⟩:ByteArray),.string (⟨#[115,101,99,116,105,111,110]⟩:ByteArray),.string (⟨#[76,100]⟩:ByteArray),.string (⟨#[97,98,99,100,101,102,103,104,105,106,107]⟩:ByteArray)]) (ok:=fun _ => True) (okp:=fun _ => True) ?hr ?hp (fun _ hk => hk) trivial (Below.refl _ _) (Nat.le_refl _) (by simp) ?_;(case hd => rfl);(case hg => rfl);(case hr => exact q130_);(case hp => exact q116_)
        intro v130 w16 ho17 hb hg_ hnew_
        clear hg_ hnew_
        (first | rw [← Ny129.out] at ho17 | (simp only [Int.reduceToNat] at ho17;rw [← Ny129.out] at ho17))
        have n0_:=Aside0.mk (Kd.R_lower ho17 (below_size q39_))
        have n1_:=Aside0.mk (blk_below (g:=gb125) (o:=.cells #[.string (⟨#[]⟩:ByteArray),.string (⟨#[]⟩:ByteArray),.string (⟨#[]⟩:ByteArray)] 29 (0,0)) q85_ hb)
        have n2_:=Aside0.mk (IsS62.below q40_ hb)
        have n3_:=Aside0.mk (blk_below (g:=gb137) (o:=.cells #[.string (⟨#[]⟩:ByteArray),.string (⟨#[]⟩:ByteArray),.string (⟨#[]⟩:ByteArray)] 29 (0,0)) q86_ hb)
        have n4_:=Aside0.mk (below_step q39_ hb)
        clear BK125
        clear HI128
        clear BK137
        clear HB
        have HO131:=n0_
        have BK125:=n1_
        have HI128:=n2_
        have BK137:=n3_
        have HB:=n4_
        clear n0_ n1_ n2_ n3_ n4_
        clear hb ho17
        obtain ⟨Ao18,co18,eo18⟩:=Kd.R_slice HO131.out
        subst eo18
        obtain ⟨ado18,fo18,_⟩:=Kd.at_string (Kd.R_reads' HO131.out).2.2 0 (by decide) (by rw [Ny129.out];simp)
        cases fo18
        refine hK.out _ _ trivial (fun hHeld => ?_)
        clear hK K
        refine norm_ (a':=?_) ?_ ?_
        rotate_left
        ·show Act.put _ (some 7) _ = _
         simp only [Act.put,List.setIfInBounds_toArray,List.set_cons_zero,List.set_cons_succ,i64_w,i32_w]
         rfl
        refine pure_ (i:=3) (N:=some 10) (v:=?_) (a':=?_) #[true,true,true,true,false,true,true,false,true,false] rfl rfl (any_of HT_.out (by kernel_rfl)) (fun _ _ _ h => h) (Or.inl ⟨by rfl,?_⟩) ?_ ?_
        rotate_left
        ·intro w'
         go_simp
         with_reducible rfl
        rotate_left
        ·simp only [Act.put,List.setIfInBounds_toArray,List.set_cons_zero,List.set_cons_succ,i64_w,i32_w]
         rfl
        exact norm_ q47_ (hJ0_2_6_8 (.slice (some ado18) y129.length co18,ado18,gb137) _ ⟨q102_,⟨_,rfl⟩,q85_,q86_,GW137.out,GE137.out,NB128_137.out,NB137_128.out,NB125_137.out,NB137_125.out,q40_,q39_⟩)
       skip
       rintro ⟨v130,adz_v130,gb137⟩ w17 ⟨h0_,h1_,h2_,h3_,h4_,h5_,h6_,h7_,h8_,h9_,h10_,h11_⟩
       have n0_:Aside0 (Kd.R Kd.string 9 w17 w.heap.size (fun _ => True) v130 y129):=⟨h0_⟩
       have n1_:Aside0 (∃ c_,(v130:Value) = .slice (some adz_v130) y129.length c_):=⟨h1_⟩
       have n2_:Aside0 (w17.heap[gb125]? = some (.cells #[.string (⟨#[]⟩:ByteArray),.string (⟨#[]⟩:ByteArray),.string (⟨#[]⟩:ByteArray)] 29 (0,0))):=⟨h2_⟩
       have n3_:Aside0 (w17.heap[gb137]? = some (.cells #[.string (⟨#[]⟩:ByteArray),.string (⟨#[]⟩:ByteArray),.string (⟨#[]⟩:ByteArray)] 29 (0,0))):=⟨h3_⟩
       have n4_:Aside0 (w.heap.size ≤ gb137):=⟨h4_⟩
       have n5_:Aside0 (w.heap.size ≤ gb137):=⟨h5_⟩
       have n6_:Aside0 (g128 ≠ gb137):=⟨h6_⟩
       have n7_:Aside0 (gb137 ≠ g128):=⟨h7_⟩
       have n8_:Aside0 (gb125 ≠ gb137):=⟨h8_⟩
       have n9_:Aside0 (gb137 ≠ gb125):=⟨h9_⟩
       have n10_:Aside0 (IsS62 w w17 g128 t126 t133):=⟨h10_⟩
       have n11_:Aside0 (Below w.heap.size w w17):=⟨h11_⟩
       clear BK125
       clear HI128
       clear HB
       clear h0_ h1_ h2_ h3_ h4_ h5_ h6_ h7_ h8_ h9_ h10_ h11_
       have HO131:=n0_
       have HA_HO131:=n1_
       have BK125:=n2_
       have BK137:=n3_
       have GW137:=n4_
       have GE137:=n5_
       have NB128_137:=n6_
       have NB137_128:=n7_
       have NB125_137:=n8_
       have NB137_125:=n9_
       have HI128:=n10_
       have HB:=n11_
       clear n0_ n1_ n2_ n3_ n4_ n5_ n6_ n7_ n8_ n9_ n10_ n11_
       have hHeld:=trivial
       obtain ⟨co18,eo18⟩:=HA_HO131.out
       clear HA_HO131
       subst eo18
       refine norm_ (a':=?_) ?_ ?_
       rotate_left
       ·simp only [putAll,Act.put,List.setIfInBounds_toArray,List.set_cons_zero,List.set_cons_succ]
        rfl
       refine two_ (i:=4) (j:=6) (Ni:=some 11) (Nj:=some 13) #[true,true,true,true,true,true,false,false,true,false] #[true,true,true,true,false,true,true,false,true,false] rfl rfl rfl rfl (two_of HT_.out (by kernel_rfl)) (by decide) (by decide) (fun K hK => ?_) (fun K hK => ?_)
       ·skip
        (have p134:0 ≤ (t132:Int):=of_decide_eq_true q113_;have q134:t132 < (y129.length:Int):=of_decide_eq_true q113_;obtain ⟨ad134,e134,hx134_0⟩:=Kd.at_string (Kd.R_reads' HO131.out).2.2 t132 p134 q134;obtain rfl:adz_v130 = ad134:=(by injection e134))
        refine value_ (w1:=?_) (v:=?_) (by rfl) rfl ?_ ?_
        rotate_left 2
        ·go_simp
         constructor
         ·rfl
         rfl
        clear hx134_0
        refine hK.out _ _ trivial (fun hHeld => ?_)
        clear hK K
        refine norm_ (a':=?_) ?_ ?_
        rotate_left
        ·show Act.put _ (some 11) _ = _
         simp only [Act.put,List.setIfInBounds_toArray,List.set_cons_zero,List.set_cons_succ,i64_w,i32_w]
         rfl
        exact norm_ q47_ (hJ0_2_4_8 (.slice (some adz_v130) y129.length co18,adz_v130,gb137) _ ⟨q102_,⟨_,rfl⟩,q85_,q86_,GW137.out,GE137.out,NB128_137.out,NB137_128.out,NB125_137.out,NB137_125.out,q40_,q39_⟩)
       skip
       refine goes_ Tryd.func29 (by kernel_rfl) rfl #[.pointer (some ⟨g128,0,none⟩)] (by rfl) rfl rfl q82_ ?_
       with_reducible refine (spec_l1Rd_args.calls k g128 t126 t133 t135 t136 w _ ?side1 ?side2 A6.out).mono ?_
       (case side1 => exact q120_)
       (case side2 => exact q119_)
       rintro e w19 ⟨rfl,hi,hb,hk⟩
       refine ⟨_,rfl,?_⟩
       have n0_:=Aside0.mk (KeepBut.blk hk (g':=gb125) (o:=.cells #[.string (⟨#[]⟩:ByteArray),.string (⟨#[]⟩:ByteArray),.string (⟨#[]⟩:ByteArray)] 29 (0,0)) q85_ NB125_128.out (by simp))
       have n1_:=Aside0.mk (Kd.R_mono (Kd.R_keep (IsS62.apart (show IsS62 w _ g128 t126 t133 from by repeat (first | (with_reducible first | exact HI128.out | apply IsS62.alloc | apply IsS62.drewN | apply IsS62.drew | apply IsS62.set_1 | refine IsS62.far ?_ NB128_125.out _ | refine IsS62.far ?_ NB128_137.out _) | exact HI128.out)) q102_ (by decide)) hk (fun _ h => h.2)) (fun _ h => h.1))
       have n2_:=Aside0.mk (KeepBut.blk hk (g':=gb137) (o:=.cells #[.string (⟨#[]⟩:ByteArray),.string (⟨#[]⟩:ByteArray),.string (⟨#[]⟩:ByteArray)] 29 (0,0)) q86_ NB137_128.out (by simp))
       have n3_:=Aside0.mk (hb)
       have n4_:=Aside0.mk (hi)
       clear BK125
       clear HO131
       clear BK137
       clear HB
       clear HI128
       have BK125:=n0_
       have HO131:=n1_
       have BK137:=n2_
       have HB:=n3_
       have HI128:=n4_
       clear n0_ n1_ n2_ n3_ n4_
       (try clear hb)
       (try clear hb2)
       (try clear hk)
       (try clear hi)
       refine hK.out _ _ trivial (fun hHeld => ?_)
       clear hK K
       refine norm_ (a':=?_) ?_ ?_
       rotate_left
       ·show Act.put _ (some 13) _ = _
        simp only [Act.put,List.setIfInBounds_toArray,List.set_cons_zero,List.set_cons_succ,i64_w,i32_w]
        rfl
       exact norm_ q47_ (hJ0_2_6_8 (.slice (some adz_v130) y129.length co18,adz_v130,gb137) _ ⟨q102_,⟨_,rfl⟩,q85_,q86_,GW137.out,GE137.out,NB128_137.out,NB137_128.out,NB125_137.out,NB137_125.out,q40_,q39_⟩)
      skip
      rintro ⟨v130,adz_v130⟩ w17 ⟨h0_,h1_,h2_,h3_,h4_⟩
      have n0_:Aside0 (Kd.R Kd.string 9 w17 w.heap.size (fun _ => True) v130 y129):=⟨h0_⟩
      have n1_:Aside0 (∃ c_,(v130:Value) = .slice (some adz_v130) y129.length c_):=⟨h1_⟩
      have n2_:Aside0 (w17.heap[gb125]? = some (.cells #[.string (⟨#[]⟩:ByteArray),.string (⟨#[]⟩:ByteArray),.string (⟨#[]⟩:ByteArray)] 29 (0,0))):=⟨h2_⟩
      have n3_:Aside0 (IsS62 w w17 g128 t126 t136):=⟨h3_⟩
      have n4_:Aside0 (Below w.heap.size w w17):=⟨h4_⟩
      clear BK125
      clear HI128
      clear HB
      clear h0_ h1_ h2_ h3_ h4_
      have HO131:=n0_
      have HA_HO131:=n1_
      have BK125:=n2_
      have HI128:=n3_
      have HB:=n4_
      clear n0_ n1_ n2_ n3_ n4_
      have hHeld:=trivial
      obtain ⟨co18,eo18⟩:=HA_HO131.out
      clear HA_HO131
      subst eo18
      refine norm_ (a':=?_) ?_ ?_
      rotate_left
      ·simp only [putAll,Act.put,List.setIfInBounds_toArray,List.set_cons_zero,List.set_cons_succ]
       rfl
      refine two_ (i:=4) (j:=8) (Ni:=some 11) (Nj:=some 4) #[true,true,true,true,true,true,true,false,false,false] #[true,true,true,true,false,true,true,false,true,false] rfl rfl rfl rfl (two_of HT_.out (by kernel_rfl)) (by decide) (by decide) (fun K hK => ?_) (fun K hK => ?_)
      ·skip
       (have p134:0 ≤ (t132:Int):=of_decide_eq_true q113_;have q134:t132 < (y129.length:Int):=of_decide_eq_true q113_;obtain ⟨ad134,e134,hx134_0⟩:=Kd.at_string (Kd.R_reads' HO131.out).2.2 t132 p134 q134;obtain rfl:adz_v130 = ad134:=(by injection e134))
       refine value_ (w1:=?_) (v:=?_) (by rfl) rfl ?_ ?_
       rotate_left 2
       ·go_simp
        constructor
        ·rfl
        rfl
       clear hx134_0
       refine hK.out _ _ trivial (fun hHeld => ?_)
       clear hK K
       refine norm_ (a':=?_) ?_ ?_
       rotate_left
       ·show Act.put _ (some 11) _ = _
        simp only [Act.put,List.setIfInBounds_toArray,List.set_cons_zero,List.set_cons_succ,i64_w,i32_w]
        rfl
       refine pure_ (i:=7) (N:=some 14) (v:=?_) (a':=?_) #[true,true,true,true,true,true,true,true,false,false] rfl rfl (any_of HT_.out (by kernel_rfl)) (fun _ _ _ h => h) (Or.inl ⟨by rfl,?_⟩) ?_ ?_
       rotate_left
       ·intro w'
        go_simp
        with_reducible rfl
       rotate_left
       ·simp only [Act.put,List.setIfInBounds_toArray,List.set_cons_zero,List.set_cons_succ,i64_w,i32_w]
        rfl
       exact norm_ q47_ (hJ0_2_4_6 (.slice (some adz_v130) y129.length co18,adz_v130) _ ⟨q102_,⟨_,rfl⟩,q85_,q56_,q48_⟩)
      skip
      refine box_step ?hg (N:=4) ?hd (cs:=#[.string (⟨#[]⟩:ByteArray),.string (⟨#[]⟩:ByteArray),.string (⟨#[]⟩:ByteArray)]) (t:=29) ?hr ?_;(case hd => rfl);(case hg => rfl);(case hr => exact q130_)
      intro gb137 hg w19 hbox hb
      have n0_:=Aside0.mk (Kd.R_below q102_ hb)
      have n1_:=Aside0.mk (blk_below (g:=gb125) (o:=.cells #[.string (⟨#[]⟩:ByteArray),.string (⟨#[]⟩:ByteArray),.string (⟨#[]⟩:ByteArray)] 29 (0,0)) q85_ hb)
      have n2_:=Aside0.mk (IsS62.below q56_ hb)
      have n3_:=Aside0.mk (below_step q48_ hb)
      have n4_:=Aside0.mk (hbox)
      have n5_:=Aside0.mk ((q32_:w.heap.size ≤ gb137))
      have n6_:=Aside0.mk ((q32_:w.heap.size ≤ gb137))
      have n7_:=Aside0.mk ((q21_:gb125 ≠ gb137))
      have n8_:=Aside0.mk ((q22_:gb137 ≠ gb125))
      have n9_:=Aside0.mk ((q27_:g128 ≠ gb137))
      have n10_:=Aside0.mk ((q28_:gb137 ≠ g128))
      clear HO131
      clear BK125
      clear HI128
      clear HB
      have HO131:=n0_
      have BK125:=n1_
      have HI128:=n2_
      have HB:=n3_
      have BK137:=n4_
      have GW137:=n5_
      have GE137:=n6_
      have NB125_137:=n7_
      have NB137_125:=n8_
      have NB128_137:=n9_
      have NB137_128:=n10_
      clear n0_ n1_ n2_ n3_ n4_ n5_ n6_ n7_ n8_ n9_ n10_
      clear hb hbox hg
      refine hK.out _ _ trivial (fun hHeld => ?_)
      clear hK K
      refine norm_ (a':=?_) ?_ ?_
      rotate_left
      ·show Act.put _ (some 4) _ = _
       simp only [Act.put,List.setIfInBounds_toArray,List.set_cons_zero,List.set_cons_succ,i64_w,i32_w]
       rfl
      exact norm_ q47_ (hJ0_2_6_8 (.slice (some adz_v130) y129.length co18,adz_v130,gb137) _ ⟨q102_,⟨_,rfl⟩,q85_,q86_,GW137.out,GE137.out,NB128_137.out,NB137_128.out,NB125_137.out,NB137_125.out,q40_,q39_⟩)
     skip
     rintro ⟨v130,adz_v130⟩ w16 ⟨h0_,h1_,h2_,h3_,h4_⟩
     have n0_:Aside0 (Kd.R Kd.string 9 w16 w.heap.size (fun _ => True) v130 y129):=⟨h0_⟩
     have n1_:Aside0 (∃ c_,(v130:Value) = .slice (some adz_v130) y129.length c_):=⟨h1_⟩
     have n2_:Aside0 (w16.heap[gb125]? = some (.cells #[.string (⟨#[]⟩:ByteArray),.string (⟨#[]⟩:ByteArray),.string (⟨#[]⟩:ByteArray)] 29 (0,0))):=⟨h2_⟩
     have n3_:Aside0 (IsS62 w w16 g128 t126 t133):=⟨h3_⟩
     have n4_:Aside0 (Below w.heap.size w w16):=⟨h4_⟩
     clear BK125
     clear HI128
     clear HB
     clear h0_ h1_ h2_ h3_ h4_
     have HO131:=n0_
     have HA_HO131:=n1_
     have BK125:=n2_
     have HI128:=n3_
     have HB:=n4_
     clear n0_ n1_ n2_ n3_ n4_
     have hHeld:=trivial
     obtain ⟨co17,eo17⟩:=HA_HO131.out
     clear HA_HO131
     subst eo17
     refine norm_ (a':=?_) ?_ ?_
     rotate_left
     ·simp only [putAll,Act.put,List.setIfInBounds_toArray,List.set_cons_zero,List.set_cons_succ]
      rfl
     refine two_ (i:=6) (j:=8) (Ni:=some 13) (Nj:=some 4) #[true,true,true,true,true,true,true,false,false,false] #[true,true,true,true,true,true,false,false,true,false] rfl rfl rfl rfl (two_of HT_.out (by kernel_rfl)) (by decide) (by decide) (fun K hK => ?_) (fun K hK => ?_)
     ·skip
      refine goes_ Tryd.func29 (by kernel_rfl) rfl #[.pointer (some ⟨g128,0,none⟩)] (by rfl) rfl rfl q82_ ?_
      with_reducible refine (spec_l1Rd_args.calls k g128 t126 t133 t135 t136 w _ ?side1 ?side2 A6.out).mono ?_
      (case side1 => exact q122_)
      (case side2 => exact q121_)
      rintro e w18 ⟨rfl,hi,hb,hk⟩
      refine ⟨_,rfl,?_⟩
      have n0_:=Aside0.mk (KeepBut.blk hk (g':=gb125) (o:=.cells #[.string (⟨#[]⟩:ByteArray),.string (⟨#[]⟩:ByteArray),.string (⟨#[]⟩:ByteArray)] 29 (0,0)) q85_ NB125_128.out (by simp))
      have n1_:=Aside0.mk (Kd.R_mono (Kd.R_keep (IsS62.apart (show IsS62 w _ g128 t126 t133 from by repeat (first | (with_reducible first | exact HI128.out | apply IsS62.alloc | apply IsS62.drewN | apply IsS62.drew | apply IsS62.set_1 | refine IsS62.far ?_ NB128_125.out _) | exact HI128.out)) q102_ (by decide)) hk (fun _ h => h.2)) (fun _ h => h.1))
      have n2_:=Aside0.mk (hb)
      have n3_:=Aside0.mk (hi)
      clear BK125
      clear HO131
      clear HB
      clear HI128
      have BK125:=n0_
      have HO131:=n1_
      have HB:=n2_
      have HI128:=n3_
      clear n0_ n1_ n2_ n3_
      (try clear hb)
      (try clear hb2)
      (try clear hk)
      (try clear hi)
      refine hK.out _ _ trivial (fun hHeld => ?_)
      clear hK K
      refine norm_ (a':=?_) ?_ ?_
      rotate_left
      ·show Act.put _ (some 13) _ = _
       simp only [Act.put,List.setIfInBounds_toArray,List.set_cons_zero,List.set_cons_succ,i64_w,i32_w]
       rfl
      refine pure_ (i:=7) (N:=some 14) (v:=?_) (a':=?_) #[true,true,true,true,true,true,true,true,false,false] rfl rfl (any_of HT_.out (by kernel_rfl)) (fun _ _ _ h => h) (Or.inl ⟨by rfl,?_⟩) ?_ ?_
      rotate_left
      ·intro w'
       go_simp
       with_reducible rfl
      rotate_left
      ·simp only [Act.put,List.setIfInBounds_toArray,List.set_cons_zero,List.set_cons_succ,i64_w,i32_w]
       rfl
      exact norm_ q47_ (hJ0_2_4_6 (.slice (some adz_v130) y129.length co17,adz_v130) _ ⟨q102_,⟨_,rfl⟩,q85_,q56_,q48_⟩)
     skip
     refine box_step ?hg (N:=4) ?hd (cs:=#[.string (⟨#[]⟩:ByteArray),.string (⟨#[]⟩:ByteArray),.string (⟨#[]⟩:ByteArray)]) (t:=29) ?hr ?_;(case hd => rfl);(case hg => rfl);(case hr => exact q130_)
     intro gb137 hg w18 hbox hb
     have n0_:=Aside0.mk (Kd.R_below q102_ hb)
     have n1_:=Aside0.mk (blk_below (g:=gb125) (o:=.cells #[.string (⟨#[]⟩:ByteArray),.string (⟨#[]⟩:ByteArray),.string (⟨#[]⟩:ByteArray)] 29 (0,0)) q85_ hb)
     have n2_:=Aside0.mk (IsS62.below q56_ hb)
     have n3_:=Aside0.mk (below_step q48_ hb)
     have n4_:=Aside0.mk (hbox)
     have n5_:=Aside0.mk ((q32_:w.heap.size ≤ gb137))
     have n6_:=Aside0.mk ((q32_:w.heap.size ≤ gb137))
     have n7_:=Aside0.mk ((q21_:gb125 ≠ gb137))
     have n8_:=Aside0.mk ((q22_:gb137 ≠ gb125))
     have n9_:=Aside0.mk ((q25_:g128 ≠ gb137))
     have n10_:=Aside0.mk ((q26_:gb137 ≠ g128))
     clear HO131
     clear BK125
     clear HI128
     clear HB
     have HO131:=n0_
     have BK125:=n1_
     have HI128:=n2_
     have HB:=n3_
     have BK137:=n4_
     have GW137:=n5_
     have GE137:=n6_
     have NB125_137:=n7_
     have NB137_125:=n8_
     have NB128_137:=n9_
     have NB137_128:=n10_
     clear n0_ n1_ n2_ n3_ n4_ n5_ n6_ n7_ n8_ n9_ n10_
     clear hb hbox hg
     refine hK.out _ _ trivial (fun hHeld => ?_)
     clear hK K
     refine norm_ (a':=?_) ?_ ?_
     rotate_left
     ·show Act.put _ (some 4) _ = _
      simp only [Act.put,List.setIfInBounds_toArray,List.set_cons_zero,List.set_cons_succ,i64_w,i32_w]
      rfl
     exact norm_ q47_ (hJ0_2_4_8 (.slice (some adz_v130) y129.length co17,adz_v130,gb137) _ ⟨q102_,⟨_,rfl⟩,q85_,q86_,GW137.out,GE137.out,NB128_137.out,NB137_128.out,NB125_137.out,NB137_125.out,q40_,q39_⟩)
    skip
    rintro ⟨v130,adz_v130,gb137⟩ w18 ⟨h0_,h1_,h2_,h3_,h4_,h5_,h6_,h7_,h8_,h9_,h10_,h11_⟩
    have n0_:Aside0 (Kd.R Kd.string 9 w18 w.heap.size (fun _ => True) v130 y129):=⟨h0_⟩
    have n1_:Aside0 (∃ c_,(v130:Value) = .slice (some adz_v130) y129.length c_):=⟨h1_⟩
    have n2_:Aside0 (w18.heap[gb125]? = some (.cells #[.string (⟨#[]⟩:ByteArray),.string (⟨#[]⟩:ByteArray),.string (⟨#[]⟩:ByteArray)] 29 (0,0))):=⟨h2_⟩
    have n3_:Aside0 (w18.heap[gb137]? = some (.cells #[.string (⟨#[]⟩:ByteArray),.string (⟨#[]⟩:ByteArray),.string (⟨#[]⟩:ByteArray)] 29 (0,0))):=⟨h3_⟩
    have n4_:Aside0 (w.heap.size ≤ gb137):=⟨h4_⟩
    have n5_:Aside0 (w.heap.size ≤ gb137):=⟨h5_⟩
    have n6_:Aside0 (g128 ≠ gb137):=⟨h6_⟩
    have n7_:Aside0 (gb137 ≠ g128):=⟨h7_⟩
    have n8_:Aside0 (gb125 ≠ gb137):=⟨h8_⟩
    have n9_:Aside0 (gb137 ≠ gb125):=⟨h9_⟩
    have n10_:Aside0 (IsS62 w w18 g128 t126 t136):=⟨h10_⟩
    have n11_:Aside0 (Below w.heap.size w w18):=⟨h11_⟩
    clear BK125
    clear HI128
    clear HB
    clear h0_ h1_ h2_ h3_ h4_ h5_ h6_ h7_ h8_ h9_ h10_ h11_
    have HO131:=n0_
    have HA_HO131:=n1_
    have BK125:=n2_
    have BK137:=n3_
    have GW137:=n4_
    have GE137:=n5_
    have NB128_137:=n6_
    have NB137_128:=n7_
    have NB125_137:=n8_
    have NB137_125:=n9_
    have HI128:=n10_
    have HB:=n11_
    clear n0_ n1_ n2_ n3_ n4_ n5_ n6_ n7_ n8_ n9_ n10_ n11_
    have hHeld:=trivial
    obtain ⟨co19,eo19⟩:=HA_HO131.out
    clear HA_HO131
    subst eo19
    refine norm_ (a':=?_) ?_ ?_
    rotate_left
    ·simp only [putAll,Act.put,List.setIfInBounds_toArray,List.set_cons_zero,List.set_cons_succ]
     rfl
    refine one_ (i:=4) (N:=some 11) #[true,true,true,true,true,true,true,false,true,false] rfl rfl (one_of HT_.out (by kernel_rfl)) (by decide) (fun K hK => ?_)
    (have p134:0 ≤ (t132:Int):=of_decide_eq_true q113_;have q134:t132 < (y129.length:Int):=of_decide_eq_true q113_;obtain ⟨ad134,e134,hx134_0⟩:=Kd.at_string (Kd.R_reads' HO131.out).2.2 t132 p134 q134;obtain rfl:adz_v130 = ad134:=(by injection e134))
    refine value_ (w1:=?_) (v:=?_) (by rfl) rfl ?_ ?_
    rotate_left 2
    ·go_simp
     constructor
     ·rfl
     rfl
    clear hx134_0
    refine hK.out _ _ trivial (fun hHeld => ?_)
    clear hK K
    refine norm_ (a':=?_) ?_ ?_
    rotate_left
    ·show Act.put _ (some 11) _ = _
     simp only [Act.put,List.setIfInBounds_toArray,List.set_cons_zero,List.set_cons_succ,i64_w,i32_w]
     rfl
    refine pure_ (i:=7) (N:=some 14) (v:=?_) (a':=?_) #[true,true,true,true,true,true,true,true,true,false] rfl rfl (any_of HT_.out (by kernel_rfl)) (fun _ _ _ h => h) (Or.inl ⟨by rfl,?_⟩) ?_ ?_
    rotate_left
    ·intro w'
     go_simp
     with_reducible rfl
    rotate_left
    ·simp only [Act.put,List.setIfInBounds_toArray,List.set_cons_zero,List.set_cons_succ,i64_w,i32_w]
     rfl
    exact norm_ q47_ (hJ0_2_4_6_8 (.slice (some adz_v130) y129.length co19,adz_v130,gb137) _ ⟨q102_,⟨_,rfl⟩,q85_,q86_,GW137.out,GE137.out,NB128_137.out,NB137_128.out,NB125_137.out,NB137_125.out,q40_,q39_⟩)
   skip
   rintro ⟨v130,adz_v130,gb137⟩ w17 ⟨h0_,h1_,h2_,h3_,h4_,h5_,h6_,h7_,h8_,h9_,h10_,h11_⟩
   have n0_:Aside0 (Kd.R Kd.string 9 w17 w.heap.size (fun _ => True) v130 y129):=⟨h0_⟩
   have n1_:Aside0 (∃ c_,(v130:Value) = .slice (some adz_v130) y129.length c_):=⟨h1_⟩
   have n2_:Aside0 (w17.heap[gb125]? = some (.cells #[.string (⟨#[]⟩:ByteArray),.string (⟨#[]⟩:ByteArray),.string (⟨#[]⟩:ByteArray)] 29 (0,0))):=⟨h2_⟩
   have n3_:Aside0 (w17.heap[gb137]? = some (.cells #[.string (⟨#[]⟩:ByteArray),.string (⟨#[]⟩:ByteArray),.string (⟨#[]⟩:ByteArray)] 29 (0,0))):=⟨h3_⟩
   have n4_:Aside0 (w.heap.size ≤ gb137):=⟨h4_⟩
   have n5_:Aside0 (w.heap.size ≤ gb137):=⟨h5_⟩
   have n6_:Aside0 (g128 ≠ gb137):=⟨h6_⟩
   have n7_:Aside0 (gb137 ≠ g128):=⟨h7_⟩
   have n8_:Aside0 (gb125 ≠ gb137):=⟨h8_⟩
   have n9_:Aside0 (gb137 ≠ gb125):=⟨h9_⟩
   have n10_:Aside0 (IsS62 w w17 g128 t126 t133):=⟨h10_⟩
   have n11_:Aside0 (Below w.heap.size w w17):=⟨h11_⟩
   clear BK125
   clear HI128
   clear HB
   clear h0_ h1_ h2_ h3_ h4_ h5_ h6_ h7_ h8_ h9_ h10_ h11_
   have HO131:=n0_
   have HA_HO131:=n1_
   have BK125:=n2_
   have BK137:=n3_
   have GW137:=n4_
   have GE137:=n5_
   have NB128_137:=n6_
   have NB137_128:=n7_
   have NB125_137:=n8_
   have NB137_125:=n9_
   have HI128:=n10_
   have HB:=n11_
   clear n0_ n1_ n2_ n3_ n4_ n5_ n6_ n7_ n8_ n9_ n10_ n11_
   have hHeld:=trivial
   obtain ⟨co18,eo18⟩:=HA_HO131.out
   clear HA_HO131
   subst eo18
   refine norm_ (a':=?_) ?_ ?_
   rotate_left
   ·simp only [putAll,Act.put,List.setIfInBounds_toArray,List.set_cons_zero,List.set_cons_succ]
    rfl
   refine one_ (i:=6) (N:=some 13) #[true,true,true,true,true,true,true,false,true,false] rfl rfl (one_of HT_.out (by kernel_rfl)) (by decide) (fun K hK => ?_)
   refine goes_ Tryd.func29 (by kernel_rfl) rfl #[.pointer (some ⟨g128,0,none⟩)] (by rfl) rfl rfl q82_ ?_
   with_reducible refine (spec_l1Rd_args.calls k g128 t126 t133 t135 t136 w _ ?side1 ?side2 A6.out).mono ?_
   (case side1 => exact q120_)
   (case side2 => exact q119_)
   rintro e w19 ⟨rfl,hi,hb,hk⟩
   refine ⟨_,rfl,?_⟩
   have n0_:=Aside0.mk (KeepBut.blk hk (g':=gb125) (o:=.cells #[.string (⟨#[]⟩:ByteArray),.string (⟨#[]⟩:ByteArray),.string (⟨#[]⟩:ByteArray)] 29 (0,0)) q85_ NB125_128.out (by simp))
   have n1_:=Aside0.mk (Kd.R_mono (Kd.R_keep (IsS62.apart (show IsS62 w _ g128 t126 t133 from by repeat (first | (with_reducible first | exact HI128.out | apply IsS62.alloc | apply IsS62.drewN | apply IsS62.drew | apply IsS62.set_1 | refine IsS62.far ?_ NB128_125.out _ | refine IsS62.far ?_ NB128_137.out _) | exact HI128.out)) q102_ (by decide)) hk (fun _ h => h.2)) (fun _ h => h.1))
   have n2_:=Aside0.mk (KeepBut.blk hk (g':=gb137) (o:=.cells #[.string (⟨#[]⟩:ByteArray),.string (⟨#[]⟩:ByteArray),.string (⟨#[]⟩:ByteArray)] 29 (0,0)) q86_ NB137_128.out (by simp))
   have n3_:=Aside0.mk (hb)
   have n4_:=Aside0.mk (hi)
   clear BK125
   clear HO131
   clear BK137
   clear HB
   clear HI128
   have BK125:=n0_
   have HO131:=n1_
   have BK137:=n2_
   have HB:=n3_
   have HI128:=n4_
   clear n0_ n1_ n2_ n3_ n4_
   (try clear hb)
   (try clear hb2)
   (try clear hk)
   (try clear hi)
   refine hK.out _ _ trivial (fun hHeld => ?_)
   clear hK K
   refine norm_ (a':=?_) ?_ ?_
   rotate_left
   ·show Act.put _ (some 13) _ = _
    simp only [Act.put,List.setIfInBounds_toArray,List.set_cons_zero,List.set_cons_succ,i64_w,i32_w]
    rfl
   refine pure_ (i:=7) (N:=some 14) (v:=?_) (a':=?_) #[true,true,true,true,true,true,true,true,true,false] rfl rfl (any_of HT_.out (by kernel_rfl)) (fun _ _ _ h => h) (Or.inl ⟨by rfl,?_⟩) ?_ ?_
   rotate_left
   ·intro w'
    go_simp
    with_reducible rfl
   rotate_left
   ·simp only [Act.put,List.setIfInBounds_toArray,List.set_cons_zero,List.set_cons_succ,i64_w,i32_w]
    rfl
   exact norm_ q47_ (hJ0_2_4_6_8 (.slice (some adz_v130) y129.length co18,adz_v130,gb137) _ ⟨q102_,⟨_,rfl⟩,q85_,q86_,GW137.out,GE137.out,NB128_137.out,NB137_128.out,NB125_137.out,NB137_125.out,q40_,q39_⟩)
  skip
  rintro ⟨v130,adz_v130⟩ w17 ⟨h0_,h1_,h2_,h3_,h4_⟩
  have n0_:Aside0 (Kd.R Kd.string 9 w17 w.heap.size (fun _ => True) v130 y129):=⟨h0_⟩
  have n1_:Aside0 (∃ c_,(v130:Value) = .slice (some adz_v130) y129.length c_):=⟨h1_⟩
  have n2_:Aside0 (w17.heap[gb125]? = some (.cells #[.string (⟨#[]⟩:ByteArray),.string (⟨#[]⟩:ByteArray),.string (⟨#[]⟩:ByteArray)] 29 (0,0))):=⟨h2_⟩
  have n3_:Aside0 (IsS62 w w17 g128 t126 t136):=⟨h3_⟩
  have n4_:Aside0 (Below w.heap.size w w17):=⟨h4_⟩
  clear BK125
  clear HI128
  clear HB
  clear h0_ h1_ h2_ h3_ h4_
  have HO131:=n0_
  have HA_HO131:=n1_
  have BK125:=n2_
  have HI128:=n3_
  have HB:=n4_
  clear n0_ n1_ n2_ n3_ n4_
  have hHeld:=trivial
  obtain ⟨co18,eo18⟩:=HA_HO131.out
  clear HA_HO131
  subst eo18
  refine norm_ (a':=?_) ?_ ?_
  rotate_left
  ·simp only [putAll,Act.put,List.setIfInBounds_toArray,List.set_cons_zero,List.set_cons_succ]
   rfl
  refine one_ (i:=8) (N:=some 4) #[true,true,true,true,true,true,true,true,true,false] rfl rfl (one_of HT_.out (by kernel_rfl)) (by decide) (fun K hK => ?_)
  refine box_step ?hg (N:=4) ?hd (cs:=#[.string (⟨#[]⟩:ByteArray),.string (⟨#[]⟩:ByteArray),.string (⟨#[]⟩:ByteArray)]) (t:=29) ?hr ?_;(case hd => rfl);(case hg => rfl);(case hr => exact q130_)
  intro gb137 hg w19 hbox hb
  have n0_:=Aside0.mk (Kd.R_below q102_ hb)
  have n1_:=Aside0.mk (blk_below (g:=gb125) (o:=.cells #[.string (⟨#[]⟩:ByteArray),.string (⟨#[]⟩:ByteArray),.string (⟨#[]⟩:ByteArray)] 29 (0,0)) q85_ hb)
  have n2_:=Aside0.mk (IsS62.below q56_ hb)
  have n3_:=Aside0.mk (below_step q48_ hb)
  have n4_:=Aside0.mk (hbox)
  have n5_:=Aside0.mk ((q32_:w.heap.size ≤ gb137))
  have n6_:=Aside0.mk ((q32_:w.heap.size ≤ gb137))
  have n7_:=Aside0.mk ((q21_:gb125 ≠ gb137))
  have n8_:=Aside0.mk ((q22_:gb137 ≠ gb125))
  have n9_:=Aside0.mk ((q27_:g128 ≠ gb137))
  have n10_:=Aside0.mk ((q28_:gb137 ≠ g128))
  clear HO131
  clear BK125
  clear HI128
  clear HB
  have HO131:=n0_
  have BK125:=n1_
  have HI128:=n2_
  have HB:=n3_
  have BK137:=n4_
  have GW137:=n5_
  have GE137:=n6_
  have NB125_137:=n7_
  have NB137_125:=n8_
  have NB128_137:=n9_
  have NB137_128:=n10_
  clear n0_ n1_ n2_ n3_ n4_ n5_ n6_ n7_ n8_ n9_ n10_
  clear hb hbox hg
  refine hK.out _ _ trivial (fun hHeld => ?_)
  clear hK K
  refine norm_ (a':=?_) ?_ ?_
  rotate_left
  ·show Act.put _ (some 4) _ = _
   simp only [Act.put,List.setIfInBounds_toArray,List.set_cons_zero,List.set_cons_succ,i64_w,i32_w]
   rfl
  exact norm_ q47_ (hJ0_2_4_6_8 (.slice (some adz_v130) y129.length co18,adz_v130,gb137) _ ⟨q102_,⟨_,rfl⟩,q85_,q86_,GW137.out,GE137.out,NB128_137.out,NB137_128.out,NB125_137.out,NB137_125.out,q40_,q39_⟩)
 rintro ⟨v130,adz_v130,gb137⟩ w18 ⟨h0_,h1_,h2_,h3_,h4_,h5_,h6_,h7_,h8_,h9_,h10_,h11_⟩
 have n0_:Aside0 (Kd.R Kd.string 9 w18 w.heap.size (fun _ => True) v130 y129):=⟨h0_⟩
 have n1_:Aside0 (∃ c_,(v130:Value) = .slice (some adz_v130) y129.length c_):=⟨h1_⟩
 have n2_:Aside0 (w18.heap[gb125]? = some (.cells #[.string (⟨#[]⟩:ByteArray),.string (⟨#[]⟩:ByteArray),.string (⟨#[]⟩:ByteArray)] 29 (0,0))):=⟨h2_⟩
 have n3_:Aside0 (w18.heap[gb137]? = some (.cells #[.string (⟨#[]⟩:ByteArray),.string (⟨#[]⟩:ByteArray),.string (⟨#[]⟩:ByteArray)] 29 (0,0))):=⟨h3_⟩
 have n4_:Aside0 (w.heap.size ≤ gb137):=⟨h4_⟩
 have n5_:Aside0 (w.heap.size ≤ gb137):=⟨h5_⟩
 have n6_:Aside0 (g128 ≠ gb137):=⟨h6_⟩
 have n7_:Aside0 (gb137 ≠ g128):=⟨h7_⟩
 have n8_:Aside0 (gb125 ≠ gb137):=⟨h8_⟩
 have n9_:Aside0 (gb137 ≠ gb125):=⟨h9_⟩
 have n10_:Aside0 (IsS62 w w18 g128 t126 t136):=⟨h10_⟩
 have n11_:Aside0 (Below w.heap.size w w18):=⟨h11_⟩
 clear BK125
 clear HI128
 clear HB
 clear h0_ h1_ h2_ h3_ h4_ h5_ h6_ h7_ h8_ h9_ h10_ h11_
 have HO131:=n0_
 have HA_HO131:=n1_
 have BK125:=n2_
 have BK137:=n3_
 have GW137:=n4_
 have GE137:=n5_
 have NB128_137:=n6_
 have NB137_128:=n7_
 have NB125_137:=n8_
 have NB137_125:=n9_
 have HI128:=n10_
 have HB:=n11_
 clear n0_ n1_ n2_ n3_ n4_ n5_ n6_ n7_ n8_ n9_ n10_ n11_
 have hHeld:=trivial
 obtain ⟨co19,eo19⟩:=HA_HO131.out
 clear HA_HO131
 subst eo19
 refine norm_ (a':=?_) ?_ ?_
 rotate_left
 ·simp only [putAll,Act.put,List.setIfInBounds_toArray,List.set_cons_zero,List.set_cons_succ]
  rfl
 refine one_ (i:=9) (N:=none) #[true,true,true,true,true,true,true,true,true,true] rfl rfl (one_of HT_.out (by kernel_rfl)) (by decide) (fun K hK => ?_)
 have hs20:w18.cell? ⟨gb137,0,none⟩ = some (.string (⟨#[]⟩:ByteArray)):=bz_ BK137 0
 have hfs20:=blk_frozen BK137.out 0
 have hns20_0:=NB125_137.out
 have hms20_0:=NB137_125.out
 have hs21:w18.cell? ⟨gb137,1,none⟩ = some (.string (⟨#[]⟩:ByteArray)):=bz_ BK137 1
 have hfs21:=blk_frozen BK137.out 1
 have hns21_0:=NB125_137.out
 have hms21_0:=NB137_125.out
 have hs22:w18.cell? ⟨gb137,2,none⟩ = some (.string (⟨#[]⟩:ByteArray)):=bz_ BK137 2
 have hfs22:=blk_frozen BK137.out 2
 have hns22_0:=NB125_137.out
 have hms22_0:=NB137_125.out
 refine skip_ (w1:=?_) (by rfl) rfl ?_ ?_
 rotate_left
 ·go_simp
  rfl
 refine hK.out _ _ trivial (fun hHeld => ?_)
 clear hK K
 refine done_ (done_of HT_.out (by kernel_rfl)) ?_
 go_upto_if 16 with (first | ((with_reducible refine gate_callee (f:=27) rfl ?_);refine goesL_ (some 16) rfl rfl Tryd.func27 (by kernel_rfl) rfl #[.pointer (some ⟨g128,0,none⟩),.int .i64 2] rfl q82_ ?_;(with_reducible refine (spec_l1Rd_once.calls g128 t126 t136 2 t138 t139 w _ ?side1 ?side2 A7.out).mono ?_);(case side1 => exact q120_);(case side2 => exact q119_);rintro e w23 ⟨rfl,hi,hb,hk⟩;refine ⟨_,rfl,?_⟩;have n0_:=Aside0.mk (KeepBut.blk hk (g':=gb125) (o:=.cells #[.string (⟨#[]⟩:ByteArray),.string (⟨#[]⟩:ByteArray),.string (⟨#[]⟩:ByteArray)] 29 (0,0)) (by (with_reducible repeat (first | refine blk_drewN ?_ _ | refine blk_drew ?_ | refine blk_alloc ?_ _));refine blk_far ?_ NB125_137.out _;(with_reducible repeat (first | refine blk_drewN ?_ _ | refine blk_drew ?_ | refine blk_alloc ?_ _));refine blk_far ?_ NB125_137.out _;(with_reducible repeat (first | refine blk_drewN ?_ _ | refine blk_drew ?_ | refine blk_alloc ?_ _));refine blk_far ?_ NB125_137.out _;(with_reducible repeat (first | refine blk_drewN ?_ _ | refine blk_drew ?_ | refine blk_alloc ?_ _));exact BK125.out) NB125_128.out (by simp));have n1_:=Aside0.mk (Kd.R_mono (Kd.R_keep (IsS62.apart (show IsS62 w _ g128 t126 t136 from by repeat (first | (with_reducible first | exact HI128.out | apply IsS62.alloc | apply IsS62.drewN | apply IsS62.drew | apply IsS62.set_1 | refine IsS62.far ?_ NB128_125.out _ | refine IsS62.far ?_ NB128_137.out _) | exact HI128.out)) (by (with_reducible repeat (first | apply Kd.R_alloc | apply Kd.R_drewN | apply Kd.R_drew));exact (Kd.R_mono (Kd.R_far (p:=⟨gb137,2,none⟩) (Kd.R_far (p:=⟨gb137,1,none⟩) (Kd.R_far (p:=⟨gb137,0,none⟩) (Kd.R_types HO131.out BK137.out (by decide)) (fun _ hk => hk.2) (.string (⟨#[]⟩:ByteArray))) (fun _ hk => hk.2) (.string (rdOf ByteArray.empty y129 t132))) (fun _ hk => hk.2) (.string t135)) (fun _ h_ => h_.1))) (by decide)) hk (fun _ h => h.2)) (fun _ h => h.1));have n2_:=Aside0.mk (KeepBut.blk hk (g':=gb137) (o:=.cells #[.string (⟨#[]⟩:ByteArray),.string (rdOf ByteArray.empty y129 t132),.string t135] 29 (0,0)) (by (with_reducible repeat (first | refine blk_drewN ?_ _ | refine blk_drew ?_ | refine blk_alloc ?_ _));refine blk_put (cs:=#[.string (⟨#[]⟩:ByteArray),.string (rdOf ByteArray.empty y129 t132),.string (⟨#[]⟩:ByteArray)]) ?_ 2 _ rfl;(with_reducible repeat (first | refine blk_drewN ?_ _ | refine blk_drew ?_ | refine blk_alloc ?_ _));refine blk_put (cs:=#[.string (⟨#[]⟩:ByteArray),.string (⟨#[]⟩:ByteArray),.string (⟨#[]⟩:ByteArray)]) ?_ 1 _ rfl;(with_reducible repeat (first | refine blk_drewN ?_ _ | refine blk_drew ?_ | refine blk_alloc ?_ _));refine blk_put (cs:=#[.string (⟨#[]⟩:ByteArray),.string (⟨#[]⟩:ByteArray),.string (⟨#[]⟩:ByteArray)]) ?_ 0 _ rfl;(with_reducible repeat (first | refine blk_drewN ?_ _ | refine blk_drew ?_ | refine blk_alloc ?_ _));exact BK137.out) NB137_128.out (by simp));have n3_:=Aside0.mk (hb);have n4_:=Aside0.mk (hi);clear BK125;clear HO131;clear BK137;clear HB;clear HI128;have BK125:=n0_;have HO131:=n1_;have BK137:=n2_;have HB:=n3_;have HI128:=n4_;clear n0_ n1_ n2_ n3_ n4_;(try clear hb);(try clear hk);(try clear hi)))
 (try simp only [Act.put,List.setIfInBounds_toArray,List.set_cons_zero,List.set_cons_succ])
 go_cut [] (fun wc => ∃ (kq:Nat) (x129001_7:Int) (x138000_7:ByteArray),Aside0 (spec_DrawLineOk.j0 kq t126 x129001_7 x138000_7 (rdOf ByteArray.empty y129 t132) t135 = some (r1,r2,r3)) ∧ Aside0 (kq ≤ k) ∧ Aside0 (wc.heap[gb125]? = some (.cells #[.string (⟨#[]⟩:ByteArray),.string (⟨#[]⟩:ByteArray),.string (⟨#[]⟩:ByteArray)] 29 (0,0))) ∧ Aside0 (wc.heap[gb137]? = some (.cells #[.string x138000_7,.string (rdOf ByteArray.empty y129 t132),.string t135] 29 (0,0))) ∧ Aside0 (IsS62 w wc g128 t126 x129001_7) ∧ Aside0 (Below w.heap.size w wc))
 case first =>
  have H:=HC8.out
  clear HC8
  by_cases c24:t138 = true
  ·subst c24
   rewrite [if_pos rfl] at H
   obtain ⟨y140,hy140⟩:∃ y_:List ByteArray,y_ = (([(⟨#[120]⟩:ByteArray),(⟨#[46,121]⟩:ByteArray),(⟨#[108,111,111,112]⟩:ByteArray),(⟨#[49]⟩:ByteArray)]:List ByteArray)):=⟨_,rfl⟩
   replace H:((spec_l1Rd_below.f t126 t139 4).bind fun bt143 => (if 0 ≤ bt143.1 then (if bt143.1 < (y140.length:Int) then (spec_DrawLineOk.j0 k t126 bt143.2 (rdOf ByteArray.empty y140 bt143.1) (rdOf ByteArray.empty y129 t132) t135) else (none)) else (none))) = some (r1,r2,r3):=by first | (rw [hy140];exact H) | exact H
   have Ny140:=Aside0.mk hy140
   clear hy140
   replace H:=Option.bind_eq_some_iff.mp H
   obtain ⟨⟨t143,t144⟩,A250,H⟩:=H
   try dsimp -simprocs -eta only at H
   have A25:=Aside0.mk A250
   clear A250
   by_cases c26:0 ≤ t143
   rotate_left
   ·rw [if_neg c26] at H
    exact absurd H (by simp)
   rw [if_pos c26] at H
   have c26b0:=decide_eq_true c26
   clear c26
   (first | rw [c26b0] | (simp only [i64_w,i32_w];rw [c26b0]) | rw [c26b9] | skip)
   by_cases c27:t143 < (y140.length:Int)
   rotate_left
   ·rw [if_neg c27] at H
    exact absurd H (by simp)
   rw [if_pos c27] at H
   have c27b0:=decide_eq_true c27
   clear c27
   have H':=Aside0.mk H
   clear H
   go_wp2_with (first | ((with_reducible refine gate_dst (N:=17) rfl ?_);refine Kd.R_lit Kd.string _ 9 ?hg (N:=17) ?hd (xs:=([(⟨#[120]⟩:ByteArray),(⟨#[46,121]⟩:ByteArray),(⟨#[108,111,111,112]⟩:ByteArray),(⟨#[49]⟩:ByteArray)]:List ByteArray)) (inner:=[.string (⟨#[120]⟩:ByteArray),.string (⟨#[46,121]⟩:ByteArray),.string (⟨#[108,111,111,112]⟩:ByteArray),.string (⟨#[49]⟩:ByteArray)]) (ok:=fun _ => True) (okp:=fun _ => True) ?hr ?hp (fun _ hk => hk) trivial (Below.refl _ _) (Nat.le_refl _) (by simp) ?_;(case hd => rfl);(case hg => rfl);(case hr => exact q130_);(case hp => exact (Reps.one (show Kd.M Kd.string _ _ _ (⟨#[120]⟩:ByteArray) [.string (⟨#[120]⟩:ByteArray)] from rfl) (Reps.one (show Kd.M Kd.string _ _ _ (⟨#[46,121]⟩:ByteArray) [.string (⟨#[46,121]⟩:ByteArray)] from rfl) (Reps.one (show Kd.M Kd.string _ _ _ (⟨#[108,111,111,112]⟩:ByteArray) [.string (⟨#[108,111,111,112]⟩:ByteArray)] from rfl) (Reps.one (show Kd.M Kd.string _ _ _ (⟨#[49]⟩:ByteArray) [.string (⟨#[49]⟩:ByteArray)] from rfl) (Reps.none _ _))))));intro v141 w28 ho29 hb hg_ hnew_;clear hg_ hnew_;(first | rw [← Ny140.out] at ho29 | (simp only [Int.reduceToNat] at ho29;rw [← Ny140.out] at ho29));have n0_:=Aside0.mk (Kd.R_elder' q102_ (Kd.R_base ho29) hb);have n1_:=Aside0.mk (Kd.R_lower (Kd.R_new' ho29 (Kd.R_lt q102_)) (below_size q39_));have n2_:=Aside0.mk (blk_below (g:=gb125) (o:=.cells #[.string (⟨#[]⟩:ByteArray),.string (⟨#[]⟩:ByteArray),.string (⟨#[]⟩:ByteArray)] 29 (0,0)) q85_ hb);have n3_:=Aside0.mk (IsS62.below q40_ hb);have n4_:=Aside0.mk (blk_below (g:=gb137) (o:=.cells #[.string (⟨#[]⟩:ByteArray),.string (rdOf ByteArray.empty y129 t132),.string t135] 29 (0,0)) q86_ hb);have n5_:=Aside0.mk (below_step q39_ hb);clear HO131;clear BK125;clear HI128;clear BK137;clear HB;have HO131:=n0_;have HO142:=n1_;have BK125:=n2_;have HI128:=n3_;have BK137:=n4_;have HB:=n5_;clear n0_ n1_ n2_ n3_ n4_ n5_;clear hb ho29) | ((with_reducible refine gate_callee (f:=30) rfl ?_);refine goesL_ (some 19) rfl rfl Tryd.func30 (by kernel_rfl) rfl #[.pointer (some ⟨g128,0,none⟩),.int .i64 4] rfl q82_ ?_;(with_reducible refine (spec_l1Rd_below.calls g128 t126 t139 4 t143 t144 w _ ?side1 ?side2 A25.out).mono ?_);(case side1 => exact q120_);(case side2 => exact q119_);rintro e w30 ⟨rfl,hi,hb,hk⟩;refine ⟨_,rfl,?_⟩;have n0_:=Aside0.mk (KeepBut.blk hk (g':=gb125) (o:=.cells #[.string (⟨#[]⟩:ByteArray),.string (⟨#[]⟩:ByteArray),.string (⟨#[]⟩:ByteArray)] 29 (0,0)) q85_ NB125_128.out (by simp));have n1_:=Aside0.mk (Kd.R_mono (Kd.R_keep (IsS62.apart (show IsS62 w _ g128 t126 t139 from by repeat (first | (with_reducible first | exact HI128.out | apply IsS62.alloc | apply IsS62.drewN | apply IsS62.drew | apply IsS62.set_1 | refine IsS62.far ?_ NB128_125.out _ | refine IsS62.far ?_ NB128_137.out _) | exact HI128.out)) q102_ (by decide)) hk (fun _ h => h.2)) (fun _ h => h.1));have n2_:=Aside0.mk (KeepBut.blk hk (g':=gb137) (o:=.cells #[.string (⟨#[]⟩:ByteArray),.string (rdOf ByteArray.empty y129 t132),.string t135] 29 (0,0)) q86_ NB137_128.out (by simp));have n3_:=Aside0.mk (Kd.R_mono (Kd.R_keep (IsS62.apart (show IsS62 w _ g128 t126 t139 from by repeat (first | (with_reducible first | exact HI128.out | apply IsS62.alloc | apply IsS62.drewN | apply IsS62.drew | apply IsS62.set_1 | refine IsS62.far ?_ NB128_125.out _ | refine IsS62.far ?_ NB128_137.out _) | exact HI128.out)) (by (with_reducible repeat (first | apply Kd.R_alloc | apply Kd.R_drewN | apply Kd.R_drew));exact HO142.out) (by decide)) hk (fun _ h => h.2)) (fun _ h => h.1));have n4_:=Aside0.mk (hb);have n5_:=Aside0.mk (hi);clear BK125;clear HO131;clear BK137;clear HO142;clear HB;clear HI128;have BK125:=n0_;have HO131:=n1_;have BK137:=n2_;have HO142:=n3_;have HB:=n4_;have HI128:=n5_;clear n0_ n1_ n2_ n3_ n4_ n5_;(try clear hb);(try clear hk);(try clear hi);obtain ⟨Ao31,co31,eo31⟩:=Kd.R_slice HO142.out;subst eo31;have p145:0 ≤ (t143:Int):=of_decide_eq_true q113_;have q145:t143 < (y140.length:Int):=of_decide_eq_true q113_;obtain ⟨ad145,e145,hx145_0⟩:=Kd.at_string (Kd.R_reads' HO142.out).2.2 t143 p145 q145;cases e145;replace p145:=eq_true p145;replace q145:=eq_true q145;have hnb32:=NB137_125.out;have hnc32:=NB125_137.out;have hnb33:=NB137_128.out;have hnc33:=NB128_137.out;have hcz34_0:w30.cell? ⟨gb137,0,none⟩ = some (.string (⟨#[]⟩:ByteArray)):=(blk_cell BK137.out 0).trans rfl;have hcz34_1:w30.cell? ⟨gb137,1,none⟩ = some (.string (rdOf ByteArray.empty y129 t132)):=(blk_cell BK137.out 1).trans rfl;have hcz34_2:w30.cell? ⟨gb137,2,none⟩ = some (.string t135):=(blk_cell BK137.out 2).trans rfl;have hfz34_0:=blk_frozen BK137.out 0;have hfz34_1:=blk_frozen BK137.out 1;have hfz34_2:=blk_frozen BK137.out 2))
   go_meet
   case rel => exact ⟨_,(t144),(rdOf ByteArray.empty y140 t143),H',⟨q115_⟩,⟨q31_⟩,⟨by (with_reducible repeat (first | refine blk_drewN ?_ _ | refine blk_drew ?_ | refine blk_alloc ?_ _));refine blk_put (cs:=#[.string (⟨#[]⟩:ByteArray),.string (rdOf ByteArray.empty y129 t132),.string t135]) ?_ 0 _ rfl;(with_reducible repeat (first | refine blk_drewN ?_ _ | refine blk_drew ?_ | refine blk_alloc ?_ _));exact BK137.out⟩,⟨q40_⟩,⟨q39_⟩⟩
  replace c24:=Bool.eq_false_iff.mpr c24
  subst c24
  rewrite [if_neg (show ¬ (false = true) by decide)] at H
  have H':=Aside0.mk H
  clear H
  go_wp2
  go_meet
  case rel => exact ⟨_,(t139),((⟨#[]⟩:ByteArray)),H',⟨q115_⟩,⟨q85_⟩,⟨q86_⟩,⟨q40_⟩,⟨q39_⟩⟩
 clear HC8
 try clear p1
 try clear q1
 try clear hx1
 try clear c2
 try clear p2
 try clear c3
 try clear p13
 try clear q13
 try clear hx13
 try clear p14
 try clear q14
 try clear hx14
 try clear c24
 try clear c26
 try clear c26b0
 try clear c27
 try clear c27b0
 try clear c29
 try clear c30
 try clear c32
 try clear c33
 try clear hcz34_0 hcz34_1 hcz34_2
 try clear hfz34_0 hfz34_1 hfz34_2
 try clear hx134_0
 try clear hx145_0
 try clear p134
 try clear p145
 try clear q134
 try clear q145
 obtain ⟨kq,x129001_7,x138000_7,HA,HJ7,BK125,BK137,HI128,HB⟩:=hcut
 cases kq with
 | zero => exact absurd HA.out (by simp [spec_DrawLineOk.j0])
 | succ kj7 =>
  have H:=HA.out
  clear HA
  simp only [spec_DrawLineOk.j0] at H
  have HC35:=Aside0.mk H
  clear H
  go_upto_region 5 with (fail)
  go_cut [30] (fun v30 wc => ∃ (kq:Nat) (x30_34:Bool) (x129001_34:Int),v30 = .bool x30_34 ∧ Aside0 (spec_DrawLineOk.j1 kq x30_34 t126 x129001_34 x138000_7 (rdOf ByteArray.empty y129 t132) t135 = some (r1,r2,r3)) ∧ Aside0 (kq ≤ kj7) ∧ Aside0 (wc.heap[gb125]? = some (.cells #[.string (⟨#[]⟩:ByteArray),.string (⟨#[]⟩:ByteArray),.string (⟨#[]⟩:ByteArray)] 29 (0,0))) ∧ Aside0 (wc.heap[gb137]? = some (.cells #[.string x138000_7,.string (rdOf ByteArray.empty y129 t132),.string t135] 29 (0,0))) ∧ Aside0 (IsS62 w wc g128 t126 x129001_34) ∧ Aside0 (Below w.heap.size w wc))
  case first =>
   have H:=HC35.out
   clear HC35
   by_cases c36:(rdOf ByteArray.empty y129 t132).toList = ([]:List UInt8)
   ·rw [if_pos c36] at H
    have c36b0:((rdOf ByteArray.empty y129 t132).toList == ([]:List UInt8)) = true:=beq_iff_eq.mpr c36
    have c36b1:((rdOf ByteArray.empty y129 t132).toList != ([]:List UInt8)) = false:=bne_eq_false_iff_eq.mpr c36
    have c36b9:(rdOf ByteArray.empty y129 t132).toList.isEmpty = true:=(isEmpty_beq _).trans c36b0
    clear c36
    (first | rw [c36b0] | (simp only [i64_w,i32_w];rw [c36b0]) | rw [c36b9] | skip)
    replace H:=Option.bind_eq_some_iff.mp H
    obtain ⟨⟨t146,t147⟩,A370,H⟩:=H
    try dsimp -simprocs -eta only at H
    have A37:=Aside0.mk A370
    clear A370
    have H':=Aside0.mk H
    clear H
    have hnb38:=NB137_125.out
    have hnc38:=NB125_137.out
    have hnb39:=NB137_128.out
    have hnc39:=NB128_137.out
    have hcz40_0:wc.cell? ⟨gb137,0,none⟩ = some (.string x138000_7):=bz_ BK137 0
    have hcz40_1:wc.cell? ⟨gb137,1,none⟩ = some (.string (rdOf ByteArray.empty y129 t132)):=bz_ BK137 1
    have hcz40_2:wc.cell? ⟨gb137,2,none⟩ = some (.string t135):=bz_ BK137 2
    have hfz40_0:=blk_frozen BK137.out 0
    have hfz40_1:=blk_frozen BK137.out 1
    have hfz40_2:=blk_frozen BK137.out 2
    go_wp2_with (first | (go_at_call 27;(with_reducible refine (spec_l1Rd_once.calls g128 t126 x129001_7 4 t146 t147 w _ ?side1 ?side2 A37.out).mono ?_);(case side1 => exact q120_);(case side2 => exact q119_);rintro e w41 ⟨rfl,hi,hb,hk⟩;have n0_:=Aside0.mk (KeepBut.blk hk (g':=gb125) (o:=.cells #[.string (⟨#[]⟩:ByteArray),.string (⟨#[]⟩:ByteArray),.string (⟨#[]⟩:ByteArray)] 29 (0,0)) q85_ NB125_128.out (by simp));have n1_:=Aside0.mk (KeepBut.blk hk (g':=gb137) (o:=.cells #[.string x138000_7,.string (rdOf ByteArray.empty y129 t132),.string t135] 29 (0,0)) q86_ NB137_128.out (by simp));have n2_:=Aside0.mk (hb);have n3_:=Aside0.mk (hi);clear BK125;clear BK137;clear HB;clear HI128;have BK125:=n0_;have BK137:=n1_;have HB:=n2_;have HI128:=n3_;clear n0_ n1_ n2_ n3_;(try clear hb);(try clear hk);(try clear hi)))
    go_meet
    case rel => exact ⟨_,(!t146),(t147),q101_,H',⟨q109_⟩,⟨q85_⟩,⟨q86_⟩,⟨q40_⟩,⟨q39_⟩⟩
   rw [if_neg c36] at H
   have c36b0:((rdOf ByteArray.empty y129 t132).toList == ([]:List UInt8)) = false:=beq_eq_false_iff_ne.mpr c36
   have c36b1:((rdOf ByteArray.empty y129 t132).toList != ([]:List UInt8)) = true:=bne_iff_ne.mpr c36
   have c36b9:(rdOf ByteArray.empty y129 t132).toList.isEmpty = false:=(isEmpty_beq _).trans c36b0
   (first | rw [c36b0] | (simp only [i64_w,i32_w];rw [c36b0]) | rw [c36b9] | skip)
   have H':=Aside0.mk H
   clear H
   have hnb42:=NB137_125.out
   have hnc42:=NB125_137.out
   have hnb43:=NB137_128.out
   have hnc43:=NB128_137.out
   have hcz44_0:wc.cell? ⟨gb137,0,none⟩ = some (.string x138000_7):=bz_ BK137 0
   have hcz44_1:wc.cell? ⟨gb137,1,none⟩ = some (.string (rdOf ByteArray.empty y129 t132)):=bz_ BK137 1
   have hcz44_2:wc.cell? ⟨gb137,2,none⟩ = some (.string t135):=bz_ BK137 2
   have hfz44_0:=blk_frozen BK137.out 0
   have hfz44_1:=blk_frozen BK137.out 1
   have hfz44_2:=blk_frozen BK137.out 2
   go_wp2
   go_meet
   case rel => exact ⟨_,(false),(x129001_7),q101_,H',⟨q109_⟩,⟨q85_⟩,⟨q86_⟩,⟨q40_⟩,⟨q39_⟩⟩
  clear HC35
  try clear p1 p1
  try clear q1 q1
  try clear hx1
  try clear c2
  try clear p2 p2
  try clear c3
  try clear c4
  try clear p6
  try clear p13 p13
  try clear q13 q13
  try clear hx13
  try clear p14 p14
  try clear q14 q14
  try clear hx14
  try clear c24
  try clear c26
  try clear c26b0
  try clear c27
  try clear c27b0
  try clear c29
  try clear c30
  try clear c32
  try clear c33
  try clear c36
  try clear c36b0
  try clear c36b1
  try clear c38
  try clear c39
  try clear c42
  try clear c43
  try clear hcz34_0 hcz34_1 hcz34_2
  try clear hcz40_0 hcz40_1 hcz40_2
  try clear hcz44_0 hcz44_1 hcz44_2
  try clear hfz34_0 hfz34_1 hfz34_2
  try clear hfz40_0 hfz40_1 hfz40_2
  try clear hfz44_0 hfz44_1 hfz44_2
  try clear hx134_0
  try clear hx145_0
  try clear p134
  try clear p145
  try clear q134
  try clear q145
  obtain ⟨kq,x30_34,x129001_34,rfl,HA,HJ34,BK125,BK137,HI128,HB⟩:=hcut
  cases kq with
  | zero => exact absurd HA.out (by simp [spec_DrawLineOk.j1])
  | succ kj34 =>
   have H:=HA.out
   clear HA
   simp only [spec_DrawLineOk.j1] at H
   have HC45:=Aside0.mk H
   clear H
   go_upto_if 30 with (fail)
   go_cut [] (fun wc => ∃ (kq:Nat) (x138002_44:ByteArray),Aside0 (spec_DrawLineOk.j2 kq t126 x129001_34 x138000_7 (rdOf ByteArray.empty y129 t132) x138002_44 = some (r1,r2,r3)) ∧ Aside0 (kq ≤ kj34) ∧ Aside0 (wc.heap[gb125]? = some (.cells #[.string (⟨#[]⟩:ByteArray),.string (⟨#[]⟩:ByteArray),.string (⟨#[]⟩:ByteArray)] 29 (0,0))) ∧ Aside0 (wc.heap[gb137]? = some (.cells #[.string x138000_7,.string (rdOf ByteArray.empty y129 t132),.string x138002_44] 29 (0,0))) ∧ Aside0 (IsS62 w wc g128 t126 x129001_34) ∧ Aside0 (Below w.heap.size w wc))
   case first =>
    have H:=HC45.out
    clear HC45
    by_cases c46:x30_34 = true
    ·subst c46
     rewrite [if_pos rfl] at H
     have H':=Aside0.mk H
     clear H
     have hnb47:=NB137_125.out
     have hnc47:=NB125_137.out
     have hnb48:=NB137_128.out
     have hnc48:=NB128_137.out
     have hcz49_0:wc.cell? ⟨gb137,0,none⟩ = some (.string x138000_7):=bz_ BK137 0
     have hcz49_1:wc.cell? ⟨gb137,1,none⟩ = some (.string (rdOf ByteArray.empty y129 t132)):=bz_ BK137 1
     have hcz49_2:wc.cell? ⟨gb137,2,none⟩ = some (.string t135):=bz_ BK137 2
     have hfz49_0:=blk_frozen BK137.out 0
     have hfz49_1:=blk_frozen BK137.out 1
     have hfz49_2:=blk_frozen BK137.out 2
     go_wp2
     go_meet
     case rel => exact ⟨_,((⟨#[]⟩:ByteArray)),H',⟨by have:=HJ7.out;have:=HJ34.out;first | omega | exact Nat.le_refl _⟩,⟨q31_⟩,⟨by (with_reducible repeat (first | refine blk_drewN ?_ _ | refine blk_drew ?_ | refine blk_alloc ?_ _));refine blk_put (cs:=#[.string x138000_7,.string (rdOf ByteArray.empty y129 t132),.string t135]) ?_ 2 _ rfl;(with_reducible repeat (first | refine blk_drewN ?_ _ | refine blk_drew ?_ | refine blk_alloc ?_ _));exact BK137.out⟩,⟨q40_⟩,⟨q39_⟩⟩
    replace c46:=Bool.eq_false_iff.mpr c46
    subst c46
    rewrite [if_neg (show ¬ (false = true) by decide)] at H
    have H':=Aside0.mk H
    clear H
    go_wp2
    go_meet
    case rel => exact ⟨_,(t135),H',⟨by have:=HJ7.out;have:=HJ34.out;first | omega | exact Nat.le_refl _⟩,⟨q85_⟩,⟨q86_⟩,⟨q40_⟩,⟨q39_⟩⟩
   clear HC45
   try clear p1 p1
   try clear q1 q1
   try clear hx1
   try clear c2
   try clear p2 p2
   try clear c3
   try clear c4
   try clear p6 p6
   try clear p13 p13
   try clear q13 q13
   try clear hx13
   try clear p14 p14
   try clear q14 q14
   try clear hx14
   try clear c24
   try clear c26
   try clear c26b0
   try clear c27
   try clear c27b0
   try clear c29
   try clear c30
   try clear c32
   try clear c33
   try clear c36
   try clear c36b0
   try clear c36b1
   try clear c38
   try clear c39
   try clear c42
   try clear c43
   try clear c46
   try clear c47
   try clear c48
   try clear hcz34_0 hcz34_1 hcz34_2
   try clear hcz40_0 hcz40_1 hcz40_2
   try clear hcz44_0 hcz44_1 hcz44_2
   try clear hcz49_0 hcz49_1 hcz49_2
   try clear hfz34_0 hfz34_1 hfz34_2
   try clear hfz40_0 hfz40_1 hfz40_2
   try clear hfz44_0 hfz44_1 hfz44_2
   try clear hfz49_0 hfz49_1 hfz49_2
   try clear hx134_0
   try clear hx145_0
   try clear p134
   try clear p145
   try clear q134
   try clear q145
   obtain ⟨kq,x138002_44,HA,HJ44,BK125,BK137,HI128,HB⟩:=hcut
   cases kq with
   | zero => exact absurd HA.out (by simp [spec_DrawLineOk.j2])
   | succ kj44 =>
    have H:=HA.out
    clear HA
    simp only [spec_DrawLineOk.j2] at H
    replace H:=Option.bind_eq_some_iff.mp H
    obtain ⟨⟨t148,t149⟩,A500,H⟩:=H
    try dsimp -simprocs -eta only at H
    have A50:=Aside0.mk A500
    clear A500
    by_cases c51:t148 = true
    ·subst c51
     rewrite [if_pos rfl] at H
     obtain ⟨y150,hy150⟩:∃ y_:List ByteArray,y_ = (([(⟨#[32]⟩:ByteArray),(⟨#[59]⟩:ByteArray),(⟨#[44,32,98]⟩:ByteArray),(⟨#[32,32,99]⟩:ByteArray)]:List ByteArray)):=⟨_,rfl⟩
     replace H:((spec_l1Rd_below.f t126 t149 4).bind fun bt153 => (if 0 ≤ bt153.1 then (if bt153.1 < (y150.length:Int) then (if x138002_44.size + (rdOf ByteArray.empty y150 bt153.1).size ≤ 9223372036854775807 then (some (x138000_7,(rdOf ByteArray.empty y129 t132),x138002_44 ++ (rdOf ByteArray.empty y150 bt153.1))) else (none)) else (none)) else (none))) = some (r1,r2,r3):=by first | (rw [hy150];exact H) | exact H
     have Ny150:=Aside0.mk hy150
     clear hy150
     replace H:=Option.bind_eq_some_iff.mp H
     obtain ⟨⟨t153,t154⟩,A520,H⟩:=H
     try dsimp -simprocs -eta only at H
     have A52:=Aside0.mk A520
     clear A520
     by_cases c53:0 ≤ t153
     rotate_left
     ·rw [if_neg c53] at H
      exact absurd H (by simp)
     rw [if_pos c53] at H
     have c53b0:=decide_eq_true c53
     clear c53
     by_cases c54:t153 < (y150.length:Int)
     rotate_left
     ·rw [if_neg c54] at H
      exact absurd H (by simp)
     rw [if_pos c54] at H
     have c54b0:=decide_eq_true c54
     clear c54
     by_cases c55:x138002_44.size + (rdOf ByteArray.empty y150 t153).size ≤ 9223372036854775807
     rotate_left
     ·rw [if_neg c55] at H
      exact absurd H (by simp)
     rw [if_pos c55] at H
     have c55b0:=eq_true c55
     have c55b1:=decide_eq_true c55
     try have c55b2:(9223372036854775807 < x138002_44.size + (rdOf ByteArray.empty y150 t153).size) = False:=eq_false (Nat.not_lt.2 c55)
     simp only [Option.some.injEq,Prod.mk.injEq] at H
     obtain ⟨rfl,rfl,rfl⟩:=H
     try go_wp2_with (first | ((with_reducible refine gate_callee (f:=27) rfl ?_);refine goesL_ (some 33) rfl rfl Tryd.func27 (by kernel_rfl) rfl #[.pointer (some ⟨g128,0,none⟩),.int .i64 20] rfl q82_ ?_;(with_reducible refine (spec_l1Rd_once.calls g128 t126 x129001_34 20 true t149 w _ ?side1 ?side2 A50.out).mono ?_);(case side1 => exact q120_);(case side2 => exact q119_);rintro e w56 ⟨rfl,hi,hb,hk⟩;refine ⟨_,rfl,?_⟩;have n0_:=Aside0.mk (KeepBut.blk hk (g':=gb125) (o:=.cells #[.string (⟨#[]⟩:ByteArray),.string (⟨#[]⟩:ByteArray),.string (⟨#[]⟩:ByteArray)] 29 (0,0)) q85_ NB125_128.out (by simp));have n1_:=Aside0.mk (KeepBut.blk hk (g':=gb137) (o:=.cells #[.string x138000_7,.string (rdOf ByteArray.empty y129 t132),.string x138002_44] 29 (0,0)) q86_ NB137_128.out (by simp));have n2_:=Aside0.mk (hb);have n3_:=Aside0.mk (hi);clear BK125;clear BK137;clear HB;clear HI128;have BK125:=n0_;have BK137:=n1_;have HB:=n2_;have HI128:=n3_;clear n0_ n1_ n2_ n3_;(try clear hb);(try clear hk);(try clear hi)))
     have pi155:(0 ≤ (t153:Int)) = True:=eq_true (of_decide_eq_true q113_)
     have qi155:(t153 < (y150.length:Int)) = True:=eq_true (of_decide_eq_true q113_)
     have n0_:=Aside0.mk (blk_drew BK125.out)
     have n1_:=Aside0.mk (blk_drew BK137.out)
     have n2_:=Aside0.mk (IsS62.drew HI128.out)
     have n3_:=Aside0.mk (below_drew1 HB.out)
     clear BK125
     clear BK137
     clear HI128
     clear HB
     have BK125:=n0_
     have BK137:=n1_
     have HI128:=n2_
     have HB:=n3_
     clear n0_ n1_ n2_ n3_
     refine start_ (n:=10) (S:=fun w' => w'.cell? ⟨gb137,0,none⟩ = some (.string x138000_7) ∧ w'.cell? ⟨gb137,1,none⟩ = some (.string (rdOf ByteArray.empty y129 t132)) ∧ w'.cell? ⟨gb137,2,none⟩ = some (.string x138002_44)) (ds:=[9]) #[false,false,false,false,false,false,false,false,false,false] (by kernel_rfl) rfl rfl ⟨(blk_cell BK137.out 0).trans rfl,(blk_cell BK137.out 1).trans rfl,(blk_cell BK137.out 2).trans rfl⟩ (fun hHeld => ?_);refine with_tabW spec_DrawLineOk.tab8 spec_DrawLineOk.bits8 (fun HT_ HW_ => ?_)
     generalize w56.drew = w57 at BK125 BK137 HI128 HB hHeld ⊢
     refine pure_ (i:=0) (N:=some 34) (v:=?_) (a':=?_) #[true,false,false,false,false,false,false,false,false,false] rfl rfl (any_of HT_.out (by kernel_rfl)) (fun _ _ _ h => h) (Or.inl ⟨by rfl,?_⟩) ?_ ?_
     rotate_left
     ·intro w'
      go_simp
      with_reducible rfl
     rotate_left
     ·simp only [Act.put,List.setIfInBounds_toArray,List.set_cons_zero,List.set_cons_succ,i64_w,i32_w]
      rfl
     refine pure_ (i:=3) (N:=some 37) (v:=?_) (a':=?_) #[true,false,false,true,false,false,false,false,false,false] rfl rfl (any_of HT_.out (by kernel_rfl)) (fun _ _ _ h => h) (Or.inl ⟨by rfl,?_⟩) ?_ ?_
     rotate_left
     ·intro w'
      go_simp
      with_reducible rfl
     rotate_left
     ·simp only [Act.put,List.setIfInBounds_toArray,List.set_cons_zero,List.set_cons_succ,i64_w,i32_w]
      rfl
     refine take_ (i:=1) (N:=some 35) (v:=?_) (a':=?_) #[true,true,false,true,false,false,false,false,false,false] rfl rfl (take_ofW HT_.out HW_.out (by kernel_rfl)) (fun _ _ _ h => h) (Or.inl ⟨by rfl,?_⟩) hHeld ?_ ?_
     rotate_left
     ·rintro w' ⟨s0,s1,s2⟩
      go_simp
      with_reducible rfl
     rotate_left
     ·simp only [Act.put,List.setIfInBounds_toArray,List.set_cons_zero,List.set_cons_succ,i64_w,i32_w]
      rfl
     refine join_ (σ:=Value × Addr) 5 #[true,true,true,true,true,false,false,false,false,false] (fun s_ => [(36,s_.1),(38,.int .i64 t153)]) (fun s_ w' => (w'.cell? ⟨gb137,0,none⟩ = some (.string x138000_7) ∧ w'.cell? ⟨gb137,1,none⟩ = some (.string (rdOf ByteArray.empty y129 t132)) ∧ w'.cell? ⟨gb137,2,none⟩ = some (.string x138002_44)) ∧ (Kd.R Kd.string 9 w' w.heap.size (fun _ => True) s_.1 y150) ∧ (∃ c_,(s_.1:Value) = .slice (some s_.2) y150.length c_) ∧ (w'.heap[gb125]? = some (.cells #[.string (⟨#[]⟩:ByteArray),.string (⟨#[]⟩:ByteArray),.string (⟨#[]⟩:ByteArray)] 29 (0,0))) ∧ (w'.heap[gb137]? = some (.cells #[.string x138000_7,.string (rdOf ByteArray.empty y129 t132),.string x138002_44] 29 (0,0))) ∧ (IsS62 w w' g128 t126 t154) ∧ (Below w.heap.size w w')) ?_ ?_
     rotate_left
     ·intro hCont
      refine two_ (i:=2) (j:=4) (Ni:=some 36) (Nj:=some 38) #[true,true,true,true,false,false,false,false,false,false] #[true,true,false,true,true,false,false,false,false,false] rfl rfl rfl rfl (two_of HT_.out (by kernel_rfl)) (by decide) (by decide) (fun K hK => ?_) (fun K hK => ?_)
      ·skip
       refine Kd.R_lit_step Kd.string _ 9 ?hg (N:=36) ?hd (xs:=([(⟨#[32]⟩:ByteArray),(⟨#[59]⟩:ByteArray),(⟨#[44,32,98]⟩:ByteArray),(⟨#[32,32,99]⟩:ByteArray)]:List ByteArray)) (inner:=[.string (⟨#[32]⟩:ByteArray),.string (⟨#[59]⟩:ByteArray),.string (⟨#[44,32,98]⟩:ByteArray),.string (⟨#[32,32,99]⟩:ByteArray)]) (ok:=fun _ => True) (okp:=fun _ => True) ?hr ?hp (fun _ hk => hk) trivial (Below.refl _ _) (Nat.le_refl _) (by simp) ?_;(case hd => rfl);(case hg => rfl);(case hr => exact q130_);(case hp => exact q118_)
       intro v151 w58 ho59 hb hg_ hnew_
       clear hg_ hnew_
       (first | rw [← Ny150.out] at ho59 | (simp only [Int.reduceToNat] at ho59;rw [← Ny150.out] at ho59))
       have n0_:=Aside0.mk (Kd.R_lower ho59 (below_size q39_))
       have n1_:=Aside0.mk (blk_below (g:=gb125) (o:=.cells #[.string (⟨#[]⟩:ByteArray),.string (⟨#[]⟩:ByteArray),.string (⟨#[]⟩:ByteArray)] 29 (0,0)) q85_ hb)
       have n2_:=Aside0.mk (blk_below (g:=gb137) (o:=.cells #[.string x138000_7,.string (rdOf ByteArray.empty y129 t132),.string x138002_44] 29 (0,0)) q86_ hb)
       have n3_:=Aside0.mk (IsS62.below q40_ hb)
       have n4_:=Aside0.mk (below_step q39_ hb)
       clear BK125
       clear BK137
       clear HI128
       clear HB
       have HO152:=n0_
       have BK125:=n1_
       have BK137:=n2_
       have HI128:=n3_
       have HB:=n4_
       clear n0_ n1_ n2_ n3_ n4_
       clear hb ho59
       obtain ⟨Ao60,co60,eo60⟩:=Kd.R_slice HO152.out
       subst eo60
       obtain ⟨ado60,fo60,_⟩:=Kd.at_string (Kd.R_reads' HO152.out).2.2 0 (by decide) (by rw [Ny150.out];simp)
       cases fo60
       refine hK.out _ _ ⟨(blk_cell BK137.out 0).trans rfl,(blk_cell BK137.out 1).trans rfl,(blk_cell BK137.out 2).trans rfl⟩ (fun hHeld => ?_)
       clear hK K
       refine norm_ (a':=?_) ?_ ?_
       rotate_left
       ·show Act.put _ (some 36) _ = _
        simp only [Act.put,List.setIfInBounds_toArray,List.set_cons_zero,List.set_cons_succ,i64_w,i32_w]
        rfl
       refine one_ (i:=4) (N:=some 38) #[true,true,true,true,true,false,false,false,false,false] rfl rfl (one_of HT_.out (by kernel_rfl)) (by decide) (fun K hK => ?_)
       refine goes_ Tryd.func30 (by kernel_rfl) rfl #[.pointer (some ⟨g128,0,none⟩),.int .i64 4] (by rfl) rfl rfl q82_ ?_
       with_reducible refine (spec_l1Rd_below.calls g128 t126 t149 4 t153 t154 w _ ?side1 ?side2 A52.out).mono ?_
       (case side1 => exact q120_)
       (case side2 => exact q119_)
       rintro e w61 ⟨rfl,hi,hb,hk⟩
       refine ⟨_,rfl,?_⟩
       have n0_:=Aside0.mk (KeepBut.blk hk (g':=gb125) (o:=.cells #[.string (⟨#[]⟩:ByteArray),.string (⟨#[]⟩:ByteArray),.string (⟨#[]⟩:ByteArray)] 29 (0,0)) q85_ NB125_128.out (by simp))
       have n1_:=Aside0.mk (KeepBut.blk hk (g':=gb137) (o:=.cells #[.string x138000_7,.string (rdOf ByteArray.empty y129 t132),.string x138002_44] 29 (0,0)) q86_ NB137_128.out (by simp))
       have n2_:=Aside0.mk (Kd.R_mono (Kd.R_keep (IsS62.apart (show IsS62 w _ g128 t126 t149 from by repeat (first | (with_reducible first | exact HI128.out | apply IsS62.alloc | apply IsS62.drewN | apply IsS62.drew | apply IsS62.set_1 | refine IsS62.far ?_ NB128_125.out _ | refine IsS62.far ?_ NB128_137.out _) | exact HI128.out)) q103_ (by decide)) hk (fun _ h => h.2)) (fun _ h => h.1))
       have n3_:=Aside0.mk (hb)
       have n4_:=Aside0.mk (hi)
       clear BK125
       clear BK137
       clear HO152
       clear HB
       clear HI128
       have BK125:=n0_
       have BK137:=n1_
       have HO152:=n2_
       have HB:=n3_
       have HI128:=n4_
       clear n0_ n1_ n2_ n3_ n4_
       (try clear hb)
       (try clear hb2)
       (try clear hk)
       (try clear hi)
       refine hK.out _ _ ⟨(blk_cell BK137.out 0).trans rfl,(blk_cell BK137.out 1).trans rfl,(blk_cell BK137.out 2).trans rfl⟩ (fun hHeld => ?_)
       clear hK K
       refine norm_ (a':=?_) ?_ ?_
       rotate_left
       ·show Act.put _ (some 38) _ = _
        simp only [Act.put,List.setIfInBounds_toArray,List.set_cons_zero,List.set_cons_succ,i64_w,i32_w]
        rfl
       exact norm_ (by simp only [putAll,Act.put,List.setIfInBounds_toArray,List.set_cons_zero,List.set_cons_succ]) (hCont (.slice (some ado60) y150.length co60,ado60) _ ⟨hHeld,q103_,⟨_,rfl⟩,q85_,q86_,q40_,q39_⟩)
      skip
      refine goes_ Tryd.func30 (by kernel_rfl) rfl #[.pointer (some ⟨g128,0,none⟩),.int .i64 4] (by rfl) rfl rfl q82_ ?_
      with_reducible refine (spec_l1Rd_below.calls g128 t126 t149 4 t153 t154 w _ ?side1 ?side2 A52.out).mono ?_
      (case side1 => exact q120_)
      (case side2 => exact q119_)
      rintro e w58 ⟨rfl,hi,hb,hk⟩
      refine ⟨_,rfl,?_⟩
      have n0_:=Aside0.mk (KeepBut.blk hk (g':=gb125) (o:=.cells #[.string (⟨#[]⟩:ByteArray),.string (⟨#[]⟩:ByteArray),.string (⟨#[]⟩:ByteArray)] 29 (0,0)) q85_ NB125_128.out (by simp))
      have n1_:=Aside0.mk (KeepBut.blk hk (g':=gb137) (o:=.cells #[.string x138000_7,.string (rdOf ByteArray.empty y129 t132),.string x138002_44] 29 (0,0)) q86_ NB137_128.out (by simp))
      have n2_:=Aside0.mk (hb)
      have n3_:=Aside0.mk (hi)
      clear BK125
      clear BK137
      clear HB
      clear HI128
      have BK125:=n0_
      have BK137:=n1_
      have HB:=n2_
      have HI128:=n3_
      clear n0_ n1_ n2_ n3_
      (try clear hb)
      (try clear hb2)
      (try clear hk)
      (try clear hi)
      refine hK.out _ _ ⟨(blk_cell BK137.out 0).trans rfl,(blk_cell BK137.out 1).trans rfl,(blk_cell BK137.out 2).trans rfl⟩ (fun hHeld => ?_)
      clear hK K
      refine norm_ (a':=?_) ?_ ?_
      rotate_left
      ·show Act.put _ (some 38) _ = _
       simp only [Act.put,List.setIfInBounds_toArray,List.set_cons_zero,List.set_cons_succ,i64_w,i32_w]
       rfl
      refine one_ (i:=2) (N:=some 36) #[true,true,true,true,true,false,false,false,false,false] rfl rfl (one_of HT_.out (by kernel_rfl)) (by decide) (fun K hK => ?_)
      refine Kd.R_lit_step Kd.string _ 9 ?hg (N:=36) ?hd (xs:=([(⟨#[32]⟩:ByteArray),(⟨#[59]⟩:ByteArray),(⟨#[44,32,98]⟩:ByteArray),(⟨#[32,32,99]⟩:ByteArray)]:List ByteArray)) (inner:=[.string (⟨#[32]⟩:ByteArray),.string (⟨#[59]⟩:ByteArray),.string (⟨#[44,32,98]⟩:ByteArray),.string (⟨#[32,32,99]⟩:ByteArray)]) (ok:=fun _ => True) (okp:=fun _ => True) ?hr ?hp (fun _ hk => hk) trivial (Below.refl _ _) (Nat.le_refl _) (by simp) ?_;(case hd => rfl);(case hg => rfl);(case hr => exact q130_);(case hp => exact q118_)
      intro v151 w59 ho60 hb hg_ hnew_
      clear hg_ hnew_
      (first | rw [← Ny150.out] at ho60 | (simp only [Int.reduceToNat] at ho60;rw [← Ny150.out] at ho60))
      have n0_:=Aside0.mk (Kd.R_lower ho60 (below_size q39_))
      have n1_:=Aside0.mk (blk_below (g:=gb125) (o:=.cells #[.string (⟨#[]⟩:ByteArray),.string (⟨#[]⟩:ByteArray),.string (⟨#[]⟩:ByteArray)] 29 (0,0)) q85_ hb)
      have n2_:=Aside0.mk (blk_below (g:=gb137) (o:=.cells #[.string x138000_7,.string (rdOf ByteArray.empty y129 t132),.string x138002_44] 29 (0,0)) q86_ hb)
      have n3_:=Aside0.mk (IsS62.below q40_ hb)
      have n4_:=Aside0.mk (below_step q39_ hb)
      clear BK125
      clear BK137
      clear HI128
      clear HB
      have HO152:=n0_
      have BK125:=n1_
      have BK137:=n2_
      have HI128:=n3_
      have HB:=n4_
      clear n0_ n1_ n2_ n3_ n4_
      clear hb ho60
      obtain ⟨Ao61,co61,eo61⟩:=Kd.R_slice HO152.out
      subst eo61
      obtain ⟨ado61,fo61,_⟩:=Kd.at_string (Kd.R_reads' HO152.out).2.2 0 (by decide) (by rw [Ny150.out];simp)
      cases fo61
      refine hK.out _ _ ⟨(blk_cell BK137.out 0).trans rfl,(blk_cell BK137.out 1).trans rfl,(blk_cell BK137.out 2).trans rfl⟩ (fun hHeld => ?_)
      clear hK K
      refine norm_ (a':=?_) ?_ ?_
      rotate_left
      ·show Act.put _ (some 36) _ = _
       simp only [Act.put,List.setIfInBounds_toArray,List.set_cons_zero,List.set_cons_succ,i64_w,i32_w]
       rfl
      exact norm_ (by simp only [putAll,Act.put,List.setIfInBounds_toArray,List.set_cons_zero,List.set_cons_succ]) (hCont (.slice (some ado61) y150.length co61,ado61) _ ⟨hHeld,q103_,⟨_,rfl⟩,q85_,q86_,q40_,q39_⟩)
     rintro ⟨v151,adz_v151⟩ w62 ⟨hS_,h0_,h1_,h2_,h3_,h4_,h5_⟩
     have n0_:Aside0 (Kd.R Kd.string 9 w62 w.heap.size (fun _ => True) v151 y150):=⟨h0_⟩
     have n1_:Aside0 (∃ c_,(v151:Value) = .slice (some adz_v151) y150.length c_):=⟨h1_⟩
     have n2_:Aside0 (w62.heap[gb125]? = some (.cells #[.string (⟨#[]⟩:ByteArray),.string (⟨#[]⟩:ByteArray),.string (⟨#[]⟩:ByteArray)] 29 (0,0))):=⟨h2_⟩
     have n3_:Aside0 (w62.heap[gb137]? = some (.cells #[.string x138000_7,.string (rdOf ByteArray.empty y129 t132),.string x138002_44] 29 (0,0))):=⟨h3_⟩
     have n4_:Aside0 (IsS62 w w62 g128 t126 t154):=⟨h4_⟩
     have n5_:Aside0 (Below w.heap.size w w62):=⟨h5_⟩
     clear BK125
     clear BK137
     clear HI128
     clear HB
     clear h0_ h1_ h2_ h3_ h4_ h5_
     have HO152:=n0_
     have HA_HO152:=n1_
     have BK125:=n2_
     have BK137:=n3_
     have HI128:=n4_
     have HB:=n5_
     clear n0_ n1_ n2_ n3_ n4_ n5_
     have hHeld:w62.cell? ⟨gb137,0,none⟩ = some (.string x138000_7) ∧ w62.cell? ⟨gb137,1,none⟩ = some (.string (rdOf ByteArray.empty y129 t132)) ∧ w62.cell? ⟨gb137,2,none⟩ = some (.string x138002_44):=hS_
     obtain ⟨co63,eo63⟩:=HA_HO152.out
     clear HA_HO152
     subst eo63
     refine norm_ (a':=?_) ?_ ?_
     rotate_left
     ·simp only [putAll,Act.put,List.setIfInBounds_toArray,List.set_cons_zero,List.set_cons_succ]
      rfl
     refine pure_ (i:=5) (N:=some 39) (v:=?_) (a':=?_) #[true,true,true,true,true,true,false,false,false,false] rfl rfl (any_of HT_.out (by kernel_rfl)) (fun _ _ _ h => h) (Or.inl ⟨by rfl,?_⟩) ?_ ?_
     rotate_left
     ·intro w'
      go_simp
      with_reducible rfl
     rotate_left
     ·simp only [Act.put,List.setIfInBounds_toArray,List.set_cons_zero,List.set_cons_succ,i64_w,i32_w]
      rfl
     refine one_ (i:=6) (N:=some 40) #[true,true,true,true,true,true,true,false,false,false] rfl rfl (one_of HT_.out (by kernel_rfl)) (by decide) (fun K hK => ?_)
     (have p155:0 ≤ (t153:Int):=of_decide_eq_true q113_;have q155:t153 < (y150.length:Int):=of_decide_eq_true q113_;obtain ⟨ad155,e155,hx155_0⟩:=Kd.at_string (Kd.R_reads' HO152.out).2.2 t153 p155 q155;obtain rfl:adz_v151 = ad155:=(by injection e155))
     refine value_ (w1:=?_) (v:=?_) (by rfl) rfl ?_ ?_
     rotate_left 2
     ·go_simp
      constructor
      ·rfl
      rfl
     clear hx155_0
     refine hK.out _ _ ⟨(blk_cell BK137.out 0).trans rfl,(blk_cell BK137.out 1).trans rfl,(blk_cell BK137.out 2).trans rfl⟩ (fun hHeld => ?_)
     clear hK K
     refine norm_ (a':=?_) ?_ ?_
     rotate_left
     ·show Act.put _ (some 40) _ = _
      simp only [Act.put,List.setIfInBounds_toArray,List.set_cons_zero,List.set_cons_succ,i64_w,i32_w]
      rfl
     refine pure_ (i:=7) (N:=some 41) (v:=?_) (a':=?_) #[true,true,true,true,true,true,true,true,false,false] rfl rfl (any_of HT_.out (by kernel_rfl)) (fun _ _ _ h => h) (Or.inl ⟨by rfl,?_⟩) ?_ ?_
     rotate_left
     ·intro w'
      go_simp
      with_reducible rfl
     rotate_left
     ·simp only [Act.put,List.setIfInBounds_toArray,List.set_cons_zero,List.set_cons_succ,i64_w,i32_w]
      rfl
     refine pure_ (i:=8) (N:=some 42) (v:=?_) (a':=?_) #[true,true,true,true,true,true,true,true,true,false] rfl rfl (any_of HT_.out (by kernel_rfl)) (fun _ _ _ h => h) (Or.inl ⟨by rfl,?_⟩) ?_ ?_
     rotate_left
     ·intro w'
      go_simp
      with_reducible rfl
     rotate_left
     ·simp only [Act.put,List.setIfInBounds_toArray,List.set_cons_zero,List.set_cons_succ,i64_w,i32_w]
      rfl
     refine last_ (i:=9) (N:=none) #[true,true,true,true,true,true,true,true,true,true] rfl rfl (one_of HT_.out (by kernel_rfl)) (by decide) (fun K hK => ?_)
     have hs64:w62.cell? ⟨gb137,2,none⟩ = some (.string x138002_44):=bz_ BK137 2
     have hfs64:=blk_frozen BK137.out 2
     have hns64_0:=NB125_137.out
     have hms64_0:=NB137_125.out
     refine skip_ (w1:=?_) (by rfl) rfl ?_ ?_
     rotate_left
     ·go_simp
      rfl
     refine hK.out _ _ ?_
     clear hK K
     refine done_ (done_of HT_.out (by kernel_rfl)) ?_
     have hnb65:=NB137_125.out
     have hnc65:=NB125_137.out
     have hnb66:=NB137_128.out
     have hnc66:=NB128_137.out
     have hcz67_0:w62.cell? ⟨gb137,0,none⟩ = some (.string x138000_7):=bz_ BK137 0
     have hcz67_1:w62.cell? ⟨gb137,1,none⟩ = some (.string (rdOf ByteArray.empty y129 t132)):=bz_ BK137 1
     have hcz67_2:w62.cell? ⟨gb137,2,none⟩ = some (.string x138002_44):=bz_ BK137 2
     have hfz67_0:=blk_frozen BK137.out 0
     have hfz67_1:=blk_frozen BK137.out 1
     have hfz67_2:=blk_frozen BK137.out 2
     have hnb68:=NB125_128.out
     have hnc68:=NB128_125.out
     have hcz69_0:w62.cell? ⟨gb125,0,none⟩ = some (.string (⟨#[]⟩:ByteArray)):=bz_ BK125 0
     have hcz69_1:w62.cell? ⟨gb125,1,none⟩ = some (.string (⟨#[]⟩:ByteArray)):=bz_ BK125 1
     have hcz69_2:w62.cell? ⟨gb125,2,none⟩ = some (.string (⟨#[]⟩:ByteArray)):=bz_ BK125 2
     have hfz69_0:=blk_frozen BK125.out 0
     have hfz69_1:=blk_frozen BK125.out 1
     have hfz69_2:=blk_frozen BK125.out 2
     try go_wp2
     refine bodyPost_ret (results_cell_row rfl _ _ gb125 29 #[.string x138000_7,.string (rdOf ByteArray.empty y129 t132),.string (x138002_44 ++ (rdOf ByteArray.empty y150 t153))] (0,0) _ rfl (by (with_reducible repeat (first | refine blk_drewN ?_ _ | refine blk_drew ?_ | refine blk_alloc ?_ _));refine blk_put (cs:=#[.string x138000_7,.string (rdOf ByteArray.empty y129 t132),.string (⟨#[]⟩:ByteArray)]) ?_ 2 _ rfl;(with_reducible repeat (first | refine blk_drewN ?_ _ | refine blk_drew ?_ | refine blk_alloc ?_ _));refine blk_put (cs:=#[.string x138000_7,.string (⟨#[]⟩:ByteArray),.string (⟨#[]⟩:ByteArray)]) ?_ 1 _ rfl;(with_reducible repeat (first | refine blk_drewN ?_ _ | refine blk_drew ?_ | refine blk_alloc ?_ _));refine blk_put (cs:=#[.string (⟨#[]⟩:ByteArray),.string (⟨#[]⟩:ByteArray),.string (⟨#[]⟩:ByteArray)]) ?_ 0 _ rfl;(with_reducible repeat (first | refine blk_drewN ?_ _ | refine blk_drew ?_ | refine blk_alloc ?_ _));refine blk_far ?_ NB125_137.out _;(with_reducible repeat (first | refine blk_drewN ?_ _ | refine blk_drew ?_ | refine blk_alloc ?_ _));exact BK125.out) Tryd.underlying29 rfl (by kernel_rfl)) rfl ?_
     exact ⟨q84_,q39_⟩
    replace c51:=Bool.eq_false_iff.mpr c51
    subst c51
    rewrite [if_neg (show ¬ (false = true) by decide)] at H
    simp only [Option.some.injEq,Prod.mk.injEq] at H
    obtain ⟨rfl,rfl,rfl⟩:=H
    go_wp2_with (first | ((with_reducible refine gate_callee (f:=27) rfl ?_);refine goesL_ (some 33) rfl rfl Tryd.func27 (by kernel_rfl) rfl #[.pointer (some ⟨g128,0,none⟩),.int .i64 20] rfl q82_ ?_;(with_reducible refine (spec_l1Rd_once.calls g128 t126 x129001_34 20 false t149 w _ ?side1 ?side2 A50.out).mono ?_);(case side1 => exact q120_);(case side2 => exact q119_);rintro e w70 ⟨rfl,hi,hb,hk⟩;refine ⟨_,rfl,?_⟩;have n0_:=Aside0.mk (KeepBut.blk hk (g':=gb125) (o:=.cells #[.string (⟨#[]⟩:ByteArray),.string (⟨#[]⟩:ByteArray),.string (⟨#[]⟩:ByteArray)] 29 (0,0)) q85_ NB125_128.out (by simp));have n1_:=Aside0.mk (KeepBut.blk hk (g':=gb137) (o:=.cells #[.string x138000_7,.string (rdOf ByteArray.empty y129 t132),.string x138002_44] 29 (0,0)) q86_ NB137_128.out (by simp));have n2_:=Aside0.mk (hb);have n3_:=Aside0.mk (hi);clear BK125;clear BK137;clear HB;clear HI128;have BK125:=n0_;have BK137:=n1_;have HB:=n2_;have HI128:=n3_;clear n0_ n1_ n2_ n3_;(try clear hb);(try clear hk);(try clear hi);have hnb71:=NB137_125.out;have hnc71:=NB125_137.out;have hnb72:=NB137_128.out;have hnc72:=NB128_137.out;have hcz73_0:w70.cell? ⟨gb137,0,none⟩ = some (.string x138000_7):=(blk_cell BK137.out 0).trans rfl;have hcz73_1:w70.cell? ⟨gb137,1,none⟩ = some (.string (rdOf ByteArray.empty y129 t132)):=(blk_cell BK137.out 1).trans rfl;have hcz73_2:w70.cell? ⟨gb137,2,none⟩ = some (.string x138002_44):=(blk_cell BK137.out 2).trans rfl;have hfz73_0:=blk_frozen BK137.out 0;have hfz73_1:=blk_frozen BK137.out 1;have hfz73_2:=blk_frozen BK137.out 2;have hnb74:=NB125_128.out;have hnc74:=NB128_125.out;have hcz75_0:w70.cell? ⟨gb125,0,none⟩ = some (.string (⟨#[]⟩:ByteArray)):=(blk_cell BK125.out 0).trans rfl;have hcz75_1:w70.cell? ⟨gb125,1,none⟩ = some (.string (⟨#[]⟩:ByteArray)):=(blk_cell BK125.out 1).trans rfl;have hcz75_2:w70.cell? ⟨gb125,2,none⟩ = some (.string (⟨#[]⟩:ByteArray)):=(blk_cell BK125.out 2).trans rfl;have hfz75_0:=blk_frozen BK125.out 0;have hfz75_1:=blk_frozen BK125.out 1;have hfz75_2:=blk_frozen BK125.out 2))
    refine bodyPost_ret (results_cell_row rfl _ _ gb125 29 #[.string x138000_7,.string (rdOf ByteArray.empty y129 t132),.string x138002_44] (0,0) _ rfl (by (with_reducible repeat (first | refine blk_drewN ?_ _ | refine blk_drew ?_ | refine blk_alloc ?_ _));refine blk_put (cs:=#[.string x138000_7,.string (rdOf ByteArray.empty y129 t132),.string (⟨#[]⟩:ByteArray)]) ?_ 2 _ rfl;(with_reducible repeat (first | refine blk_drewN ?_ _ | refine blk_drew ?_ | refine blk_alloc ?_ _));refine blk_put (cs:=#[.string x138000_7,.string (⟨#[]⟩:ByteArray),.string (⟨#[]⟩:ByteArray)]) ?_ 1 _ rfl;(with_reducible repeat (first | refine blk_drewN ?_ _ | refine blk_drew ?_ | refine blk_alloc ?_ _));refine blk_put (cs:=#[.string (⟨#[]⟩:ByteArray),.string (⟨#[]⟩:ByteArray),.string (⟨#[]⟩:ByteArray)]) ?_ 0 _ rfl;(with_reducible repeat (first | refine blk_drewN ?_ _ | refine blk_drew ?_ | refine blk_alloc ?_ _));exact BK125.out) Tryd.underlying29 rfl (by kernel_rfl)) rfl ?_
    exact ⟨q84_,q39_⟩
end Go.Proofs.YtoiiaklmjpiejaaDoor.QFnLines
