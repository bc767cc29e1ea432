import Derived.Test.YtabbdfchibjndaaGreatDoorXLibX
import Derived.Test.YtabbdfchibjndaaGreatDoorXLibG
namespace Go.Proofs.YtabbdfchibjndaaGreatDoor.LibCp
open Go.RowKit Go.Proofs.YtabbdfchibjndaaGreatDoorW.PrintWords Go.Proofs.YtabbdfchibjndaaGreatDoorW.PrintLast Go.Proofs.YtabbdfchibjndaaGreatDoorW.PrintMore Go.Proofs.YtabbdfchibjndaaGreatDoor.LibX Go.Proofs.YtabbdfchibjndaaGreatDoor.LibG
attribute [local go_sem] max2_int min2_int max_two min_two max_three min_three max_four min_four
set_option linter.unusedVariables false
set_option linter.unusedSimpArgs false
abbrev EN:=S43
abbrev kE:=k43
theorem infoEN:(Tryz.prog.info? 43).map (fun i => (i.zero,i.size,i.bytes)) = some (some (.agg #[(.int .i64 0),(.int .i64 0),(.string ⟨#[]⟩)]),3,32):=by kernel_rfl
def IsP (w0 W:World) (g:Nat) (s:ByteArray) (a:Int) (o:List EN) (b:Bool):Prop :=
 ∃ A c,W.heap[g]? = some (.cells #[.string s,.int .i64 a,.slice A o.length c,.bool b] 91 (0,0)) ∧ w0.heap.size ≤ g ∧ Kd.R kE 43 W w0.heap.size (fun k => k ≠ g) (.slice A o.length c) o
section
variable {w0 W W1:World} {g:Nat} {s:ByteArray} {a:Int} {o:List EN} {b:Bool}
theorem IsP.lt (h:IsP w0 W g s a o b):g < W.heap.size:=by
 obtain ⟨A,c,h1,_⟩:=h
 exact blk_lt h1
theorem IsP.ge (h:IsP w0 W g s a o b):w0.heap.size ≤ g:=by
 obtain ⟨A,c,_,h1,_⟩:=h
 exact h1
theorem IsP.below (h:IsP w0 W g s a o b) (hb:Below W.heap.size W W1):IsP w0 W1 g s a o b:=by
 obtain ⟨A,c,h1,h2,h3⟩:=h
 exact ⟨A,c,blk_below h1 hb,h2,Kd.R_below h3 hb⟩
theorem IsP.alloc (h:IsP w0 W g s a o b) (x:Obj):IsP w0 (W.alloc x) g s a o b:=h.below (below_alloc (Below.refl _ _) x)
theorem IsP.drewN (h:IsP w0 W g s a o b) (m:Nat):IsP w0 (W.drewN m) g s a o b:=h.below (pw_below_drewN (Below.refl _ _) m)
theorem IsP.drew (h:IsP w0 W g s a o b):IsP w0 W.drew g s a o b:=h.below (below_drew1 (Below.refl _ _))
theorem IsP.cells (h:IsP w0 W g s a o b):W.cell? ⟨g,0,none⟩ = some (.string s) ∧ W.cell? ⟨g,1,none⟩ = some (.int .i64 a) ∧ W.cell? ⟨g,3,none⟩ = some (.bool b) ∧ W.frozen? ⟨g,1,none⟩ = false ∧ W.frozen? ⟨g,3,none⟩ = false:=by
 obtain ⟨A,c,h1,_⟩:=h
 exact ⟨(blk_cell h1 0).trans rfl,(blk_cell h1 1).trans rfl,(blk_cell h1 3).trans rfl,blk_frozen h1 1,blk_frozen h1 3⟩
theorem IsP.set1 (h:IsP w0 W g s a o b) (x:Int):IsP w0 (W.setCell ⟨g,1,none⟩ (.int .i64 x)) g s x o b:=by
 obtain ⟨A,c,h1,h2,h3⟩:=h
 exact ⟨A,c,by simpa using blk_set h1 1 (.int .i64 x),h2,Kd.R_far h3 (fun k hk => hk) _⟩
theorem IsP.set3 (h:IsP w0 W g s a o b) (x:Bool):IsP w0 (W.setCell ⟨g,3,none⟩ (.bool x)) g s a o x:=by
 obtain ⟨A,c,h1,h2,h3⟩:=h
 exact ⟨A,c,by simpa using blk_set h1 3 (.bool x),h2,Kd.R_far h3 (fun k hk => hk) _⟩
end
def putF (kd n:Int) (nm:ByteArray) (o:List EN) (b:Bool):List EN × Bool:=if 30 ≤ o.length then (o,true) else (o ++ [⟨kd,n,nm⟩],b)
set_option maxHeartbeats 8000000 in
set_option maxRecDepth 100000 in
theorem put_calls (g:Nat) (s:ByteArray) (a:Int) (o:List EN) (b:Bool) (kd n:Int) (nm:ByteArray) (w0 w:World) (hI:IsP w0 w g s a o b) (hB:Below w0.heap.size w0 w) :
  Calls Tryz.prog 84 #[.pointer (some ⟨g,0,none⟩),.int .i64 kd,.int .i64 n,.string nm] w fun e w' => e = .returned (.tuple #[]) ∧ IsP w0 w' g s a (putF kd n nm o b).1 (putF kd n nm o b).2 ∧ Below w0.heap.size w0 w':=by
 have hlt:=hI.lt
 have hge:=hI.ge
 obtain ⟨A,c,h1,h2,h3⟩:=hI
 have c2:w.cell? ⟨g,2,none⟩ = some (.slice A o.length c):=(blk_cell h1 2).trans rfl
 have c3:w.cell? ⟨g,3,none⟩ = some (.bool b):=(blk_cell h1 3).trans rfl
 have f2:=blk_frozen h1 2
 have f3:=blk_frozen h1 3
 unfold putF
 by_cases q:30 ≤ o.length
 ·rw [if_pos q]
  have q1:decide ((30:Int) ≤ (o.length:Int)) = true:=decide_eq_true (by omega)
  have q2:decide (30 ≤ o.length) = true:=decide_eq_true q
  have HI2:IsP w0 (w.setCell ⟨g,3,none⟩ (.bool true)) g s a o true:=IsP.set3 ⟨A,c,h1,h2,h3⟩ true
  have HB2:Below w0.heap.size w0 (w.setCell ⟨g,3,none⟩ (.bool true)):=below_set hB hge
  clear q h1 h2 h3 hB
  go_enter Tryz.func84,Tryz.ntmps84
  go_wp2
  first | go_end0 | ((try simp only [Exit.inBlock,Exit.then]);refine bodyPost_ret (results_none rfl _ _ _) rfl ?_)
  exact ⟨rfl,HI2,HB2⟩
 ·rw [if_neg q]
  have q1:decide ((30:Int) ≤ (o.length:Int)) = false:=decide_eq_false (by omega)
  have q2:decide (30 ≤ o.length) = false:=decide_eq_false q
  go_enter Tryz.func84,Tryz.ntmps84
  go_wp2_with (first | ((with_reducible refine gate_dst (N:=27) rfl ?_);refine Kd.R_append kE (w0:=w0) w0.heap.size rfl (.tmp 21) (.tmp 26) 24 43 (.agg #[(.int .i64 0),(.int .i64 0),(.string ⟨#[]⟩)]) 32 rfl Tryz.underlying24 infoEN rfl (by decide) (by omega) (.slice A o.length c) o (⟨kd,n,nm⟩:EN) [.int .i64 kd,.int .i64 n,.string nm] (fun k => k ≠ g) (fun _ => False) rfl rfl ?aP (fun _ hk => hk.elim) ?aF ?aO ?aB ?aS ?aL ?_;(case aP => exact k43_mkM _ _ _ (⟨kd,n,nm⟩:EN));(case aB => exact hB);(case aF => intro k hk;omega);(case aO => exact h3);(case aS => exact hB.size);(case aL => omega);intro v1 w2 ho hb hg hat;obtain ⟨A1,k1,rfl⟩:=Kd.R_slice ho;have h1':w2.heap[g]? = _:=(hg.block g hlt (fun he => h3.1 g he.symm rfl)).trans h1;have c2':w2.cell? ⟨g,2,none⟩ = some (.slice A o.length c):=(blk_cell h1' 2).trans rfl;have f2':=blk_frozen h1' 2;clear hg hat))
  first | go_end0 | ((try simp only [Exit.inBlock,Exit.then]);refine bodyPost_ret (results_none rfl _ _ _) rfl ?_)
  refine ⟨rfl,⟨A1,k1,?_,h2,Kd.R_far ho (fun k hk => hk) _⟩,below_set hb hge⟩
  simpa using blk_set h1' 2 (.slice A1 (o ++ [(⟨kd,n,nm⟩:EN)]).length k1)
def isF (s:ByteArray) (a:Int) (x:ByteArray):Bool:=decide ((x.size:Int) ≤ (s.size:Int) - a) && ((s.extract a.toNat (a + (x.size:Int)).toNat).toList == x.toList)
set_option maxHeartbeats 8000000 in
set_option maxRecDepth 100000 in
theorem is_calls (g:Nat) (s:ByteArray) (a:Int) (o:List EN) (b:Bool) (x:ByteArray) (w0 w:World) (hI:IsP w0 w g s a o b) (hB:Below w0.heap.size w0 w) (h0:0 ≤ a) (h1:a ≤ (s.size:Int)) (hs:s.size ≤ 1000000) (hx:x.size ≤ 1000) :
  Calls Tryz.prog 99 #[.pointer (some ⟨g,0,none⟩),.string x] w fun e w' => e = .returned (.bool (isF s a x)) ∧ IsP w0 w' g s (if isF s a x = true then a + (x.size:Int) else a) o b ∧ Below w0.heap.size w0 w':=by
 obtain ⟨c0,c1,c3,f1,f3⟩:=hI.cells
 have hge:=hI.ge
 have HI:=Aside0.mk hI
 have HB:=Aside0.mk hB
 clear hI hB
 have e1:Unit → wrap64 ((s.size:Int) - a) = (s.size:Int) - a:=fun _ => by unfold wrap64;omega
 have e2:Unit → wrap64 (a + (x.size:Int)) = a + (x.size:Int):=fun _ => by unfold wrap64;omega
 by_cases q:(x.size:Int) ≤ (s.size:Int) - a
 ·have q0:decide (wrap64 ((s.size:Int) - a) < (x.size:Int)) = false:=decide_eq_false (by have:=e1 ();omega)
  have p1:(0 ≤ a) = True:=eq_true h0
  have p2:(a ≤ wrap64 (a + (x.size:Int))) = True:=eq_true (by have:=e2 ();omega)
  have p3:(wrap64 (a + (x.size:Int)) ≤ (s.size:Int)) = True:=eq_true (by have:=e2 ();omega)
  have p1b:decide (0 ≤ a) = true:=decide_eq_true h0
  have p2b:decide (a ≤ wrap64 (a + (x.size:Int))) = true:=decide_eq_true (by have:=e1 ();have:=e2 ();omega)
  have p3b:decide (wrap64 (a + (x.size:Int)) ≤ (s.size:Int)) = true:=decide_eq_true (by have:=e1 ();have:=e2 ();omega)
  cases hm:((s.extract a.toNat (wrap64 (a + (x.size:Int))).toNat).toList == x.toList) with
  | true =>
   have hm2:((s.extract a.toNat (wrap64 (a + (x.size:Int))).toNat).toList != x.toList) = false:=by rw [bne,hm];rfl
   have hF:isF s a x = true:=by unfold isF;rw [decide_eq_true q,← e2 (),hm];rfl
   rw [hF,if_pos rfl]
   clear q h0 h1 hF
   go_enter Tryz.func99,Tryz.ntmps99
   go_wp2
   repeat (go_quiet (fail);try go_wp2)
   go_ret
   rw [e2 ()]
   exact ⟨rfl,by repeat (first | (with_reducible first | exact HI.out | apply IsP.alloc | apply IsP.drewN | apply IsP.drew | apply IsP.set1) | exact HI.out),by repeat (first | (with_reducible first | exact HB.out | apply below_alloc | apply pw_below_drewN | apply below_drew1 | refine below_set ?_ hge) | exact HB.out)⟩
  | false =>
   have hm2:((s.extract a.toNat (wrap64 (a + (x.size:Int))).toNat).toList != x.toList) = true:=by rw [bne,hm];rfl
   have hF:isF s a x = false:=by unfold isF;rw [decide_eq_true q,← e2 (),hm];rfl
   rw [hF,if_neg (by decide)]
   clear q h0 h1 hF e2
   go_enter Tryz.func99,Tryz.ntmps99
   go_wp2
   repeat (go_quiet (fail);try go_wp2)
   go_ret
   exact ⟨rfl,by repeat (first | (with_reducible first | exact HI.out | apply IsP.alloc | apply IsP.drewN | apply IsP.drew | apply IsP.set1) | exact HI.out),by repeat (first | (with_reducible first | exact HB.out | apply below_alloc | apply pw_below_drewN | apply below_drew1 | refine below_set ?_ hge) | exact HB.out)⟩
 ·have q0:decide (wrap64 ((s.size:Int) - a) < (x.size:Int)) = true:=decide_eq_true (by have:=e1 ();have:=e2 ();omega)
  have hF:isF s a x = false:=by unfold isF;rw [decide_eq_false q];rfl
  rw [hF,if_neg (by decide)]
  clear q h0 h1 hF e2
  go_enter Tryz.func99,Tryz.ntmps99
  go_wp2
  repeat (go_quiet (fail);try go_wp2)
  go_ret
  exact ⟨rfl,by repeat (first | (with_reducible first | exact HI.out | apply IsP.alloc | apply IsP.drewN | apply IsP.drew | apply IsP.set1) | exact HI.out),by repeat (first | (with_reducible first | exact HB.out | apply below_alloc | apply pw_below_drewN | apply below_drew1 | refine below_set ?_ hge) | exact HB.out)⟩
end Go.Proofs.YtabbdfchibjndaaGreatDoor.LibCp
