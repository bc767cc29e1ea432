import Derived.Test.YtodlnnoekccmmaaGreatDoorKLibBR
import Derived.Test.YtodlnnoekccmmaaGreatDoorKLibX
namespace Go.Proofs.YtodlnnoekccmmaaGreatDoor.LibCB
open Go.RowKit Go.Proofs.YtodlnnoekccmmaaGreatDoorW.PrintWords Go.Proofs.YtodlnnoekccmmaaGreatDoorW.PrintLast Go.Proofs.YtodlnnoekccmmaaGreatDoorW.PrintMore Go.Proofs.YtodlnnoekccmmaaGreatDoor.LibBR Go.Proofs.YtodlnnoekccmmaaGreatDoor.LibX
set_option linter.unusedVariables false
set_option linter.unusedSimpArgs false
def Kd.B (_d:Kd Int) (e:Nat) (w:World) (base:Nat) (ok:Nat → Prop) (v:Value) (xs:List Int):Prop :=
 ∃ g c,v = .slice (some ⟨g,0,none⟩) xs.length c ∧ ok g ∧ base ≤ g ∧ xs.length ≤ 9223372036854775807 ∧ BR e g xs c w
namespace Kd
section
variable {d:Kd Int} {e:Nat} {w w1 W:World} {base:Nat} {ok ok':Nat → Prop} {v:Value} {xs:List Int}
theorem B_step (h:Kd.B d e w base ok v xs) (hm:∀ k,ok k → k < w.heap.size → w1.heap[k]? = w.heap[k]?):Kd.B d e w1 base ok v xs:=by
 obtain ⟨g,c,h1,h2,h3,h5,h4⟩:=h
 have hl:=h4.lt
 obtain ⟨h4,cur,h6,h7⟩:=h4
 exact ⟨g,c,h1,h2,h3,h5,h4,cur,(hm g h2 hl).trans h6,h7⟩
theorem B_mono (h:Kd.B d e w base ok v xs) (hok:∀ k,ok k → ok' k):Kd.B d e w base ok' v xs:=by
 obtain ⟨g,c,h1,h2,h3⟩:=h
 exact ⟨g,c,h1,hok g h2,h3⟩
theorem B_bound (h:Kd.B d e w base ok v xs):Kd.B d e w base (fun k => ok k ∧ base ≤ k ∧ k < w.heap.size ∧ ∃ cells mk,w.heap[k]? = some (.cells cells e mk)) v xs:=by
 obtain ⟨g,c,h1,h2,h3,h5,h4⟩:=h
 have hl:=h4.lt
 obtain ⟨h6,cur,h7,h8⟩:=h4
 exact ⟨g,c,h1,⟨h2,h3,hl,cur,_,h7⟩,h3,h5,h6,cur,h7,h8⟩
theorem B_below (h:Kd.B d e w base ok v xs) (hb:Below w.heap.size w w1):Kd.B d e w1 base ok v xs:=B_step h (fun k _ hk => hb.block k hk)
theorem B_drew (h:Kd.B d e w base ok v xs):Kd.B d e w.drew base ok v xs:=B_below h (below_drew (Below.refl _ _))
theorem B_drewN (h:Kd.B d e w base ok v xs) (m:Nat):Kd.B d e (w.drewN m) base ok v xs:=B_below h (pw_below_drewN (Below.refl _ _) m)
theorem B_far (h:Kd.B d e w base ok v xs) {p:Addr} (hok:∀ k,ok k → k ≠ p.block) (u:Value):Kd.B d e (w.setCell p u) base ok v xs:=B_step h (fun k ho _ => Below.heap_setCell w p u k (hok k ho))
theorem B_slice (h:Kd.B d e w base ok v xs):∃ A c,v = .slice A xs.length c:=by
 obtain ⟨g,c,h1,_⟩:=h
 exact ⟨_,c,h1⟩
theorem B_blk (h:Kd.B d e w base ok v xs):∃ g,v.ownBlock = some g ∧ ok g ∧ base ≤ g ∧ g < w.heap.size ∧ ∃ cells mk,w.heap[g]? = some (.cells cells e mk):=by
 obtain ⟨g,c,h1,h2,h3,h4,h5⟩:=h
 have hl:=h5.lt
 obtain ⟨h6,cur,h7,h8⟩:=h5
 exact ⟨g,by rw [h1];rfl,h2,h3,hl,cur,_,h7⟩
theorem B_base (h:Kd.B d e w base ok v xs):∀ k,v.ownBlock = some k → base ≤ k:=by
 obtain ⟨g,h1,h2,h3,h4,_⟩:=B_blk h
 intro k hk
 rw [h1] at hk
 exact Option.some.inj hk ▸ h3
theorem B_typed (h:Kd.B d e w base ok v xs):∀ k,v.ownBlock = some k → ∃ cells mk,w.heap[k]? = some (.cells cells e mk):=by
 obtain ⟨g,h1,_,_,_,h2⟩:=B_blk h
 intro k hk
 rw [h1] at hk
 exact Option.some.inj hk ▸ h2
theorem B_ne (h:Kd.B d e w base ok v xs) {g t:Nat} {cells:Array Value} (hb:w.heap[g]? = some (.cells cells t (0,0))) (ht:e ≠ t):some g ≠ v.ownBlock:=by
 intro he
 obtain ⟨cells',mk,hc⟩:=B_typed h g he.symm
 rw [hb] at hc
 injection hc with hc
 injection hc with _ hc
 exact ht hc.symm
theorem B_types (h:Kd.B d e w base ok v xs) {g t:Nat} {cells:Array Value} (hb:w.heap[g]? = some (.cells cells t (0,0))) (ht:∀ q,q ∈ e :: d.E → q ≠ t):Kd.B d e w base (fun k => ok k ∧ k ≠ g) v xs :=
 B_mono (B_bound h) (fun k hk => ⟨hk.1,by
  obtain ⟨_,_,_,cells',mk,hc⟩:=hk
  rintro rfl
  rw [hb] at hc
  injection hc with hc
  injection hc with _ hc
  exact ht e List.mem_cons_self hc.symm⟩)
theorem B_over' {e':Nat} {u:Value} (h:Kd.B d e w base ok v xs) (hty:∀ k,u.ownBlock = some k → ∃ cells,w.heap[k]? = some (.cells cells e' (0,0))) (ht:∀ q,q ∈ e :: d.E → q ≠ e') (hg:w.grownBy w1 u.ownBlock):Kd.B d e w1 base ok v xs:=by
 refine B_mono (B_step (B_bound h) (fun k hk hlt => hg.block k hlt (fun he => ?_))) (fun _ hk => hk.1)
 obtain ⟨_,_,_,cells,mk,hc⟩:=hk
 obtain ⟨cells',hc'⟩:=hty k he.symm
 rw [hc'] at hc
 injection hc with hc
 injection hc with _ hc
 exact ht e List.mem_cons_self hc.symm
theorem R_overB {α:Type} {d':Go.Proofs.YtodlnnoekccmmaaGreatDoorW.PrintWords.Kd α} {e' base':Nat} {ok2:Nat → Prop} {u:Value} {ys:List α} (h:d'.R e' w base' ok2 u ys) (hB:Kd.B d e w base ok v xs) (ht:∀ q,q ∈ e' :: d'.E → q ≠ e) (hg:w.grownBy w1 v.ownBlock):d'.R e' w1 base' ok2 u ys:=by
 refine Kd.R_mono (Kd.R_move (Kd.R_bound h) (fun k hk => hg.block k hk.2.2.1 (fun he => ?_))) (fun _ hk => hk.1)
 obtain ⟨_,_,_,q,hq,cells,hc⟩:=hk
 obtain ⟨cells',mk,hc'⟩:=B_typed hB k he.symm
 rw [hc'] at hc
 injection hc with hc
 injection hc with _ hc
 exact ht q hq hc.symm
theorem B_C (h:Kd.B (Kd.int .u8) e w base ok v xs):∃ g c,v = .slice (some ⟨g,0,none⟩) xs.length c ∧ xs.length ≤ c ∧ (Kd.int .u8).C w (some ⟨g,0,none⟩) xs.length xs:=by
 obtain ⟨g,c,h1,h2,h3,h4,h5⟩:=h
 refine ⟨g,c,h1,h5.1,rfl,h4,fun _ => ⟨_,rfl,fun j p hj => ?_⟩⟩
 have hlt:j < xs.length:=(List.getElem?_eq_some_iff.1 hj).1
 refine ⟨[.int .u8 p],rfl,rfl,fun i u hi => ?_⟩
 have hi0:i = 0:=by
  rcases i with _ | i
  ·rfl
  ·simp at hi
 subst hi0
 simp only [List.getElem?_cons_zero,Option.some.injEq] at hi
 subst hi
 have hc:=h5.cell_nat j hlt
 rw [List.getD_eq_getElem?_getD,hj] at hc
 have he:(Addr.mk g 0 none).add (j * (Kd.int .u8).sz + 0) = ⟨g,j,none⟩:=by
  show (Addr.mk g 0 none).add (j * 1 + 0) = _
  rw [Nat.mul_one,Nat.add_zero,add_plain]
 rw [he]
 exact hc
theorem B_reads' {A:Option Addr} {n c:Nat} (h:Kd.B (Kd.int .u8) e w base ok (.slice A n c) xs):n = xs.length ∧ n ≤ c ∧ (Kd.int .u8).C w A xs.length xs:=by
 obtain ⟨g,c',h1,h2,h3⟩:=B_C h
 injection h1 with a1 a2 a3
 subst a1;subst a2;subst a3
 exact ⟨rfl,h2,h3⟩
end
end Kd
theorem Kd.B_string {P:Program} {e:Nat} {w:World} {base:Nat} {ok:Nat → Prop} {v:Value} {xs:List Int} {src dst:TypeId} (hs:P.underlying src = some (.slice e)) (he:P.underlying e = some (.int .u8)) (hd:P.underlying dst = some .string)
  (h:Kd.B (Kd.int .u8) e w base ok v xs):(convert src dst v).run P w = .ok (.string (strOfNums xs)) w:=by
 obtain ⟨g,c,h1,_,_,_,h2⟩:=h
 subst h1
 exact h2.string hs he hd
theorem BR.setCells {e g c:Nat}:∀ (ys:List Int) (lo:Nat) (xs:List Int) (W:World),BR e g xs c W → lo + ys.length ≤ xs.length →
  BR e g (xs.take lo ++ ys ++ xs.drop (lo + ys.length)) c (W.setCells g lo (nums .u8 ys))
 | [],lo,xs,W,h,hl => by
  have:xs.take lo ++ [] ++ xs.drop (lo + ([]:List Int).length) = xs:=by simp
  rw [this]
  exact h
 | y :: r,lo,xs,W,h,hl => by
  simp only [List.length_cons] at hl
  have h2:=BR.setCells r (lo + 1) (xs.set lo y) _ (h.set_nat lo (by omega) y) (by rw [List.length_set];omega)
  have e1:(xs.set lo y).take (lo + 1) = xs.take lo ++ [y]:=by
   rw [List.take_add_one,List.take_set_of_le (Nat.le_refl _),List.getElem?_set_self (by omega)]
   rfl
  have e2:(xs.set lo y).drop (lo + 1 + r.length) = xs.drop (lo + (r.length + 1)):=by
   rw [List.drop_set_of_lt (by omega),show lo + 1 + r.length = lo + (r.length + 1) by omega]
  rw [e1,e2,List.append_assoc (xs.take lo) [y] r] at h2
  exact h2
section
variable {P:Program}
theorem B_copy_run {W:World} (base:Nat) (t u ty e:TypeId) (ht:P.underlying t = some (.slice e)) (hsz:(P.info? e).map (·.size) = some 1)
  {A0 A:Option Addr} {n c m c2 lo:Nat} {xs:List Int} {ok:Nat → Prop} (y:ByteArray)
  (hA:(lo = 0 ∧ A = A0) ∨ A = if c = lo then A0 else A0.map (·.add (lo * 1)))
  (HO:Kd.B (Kd.int .u8) e W base ok (.slice A0 n c) xs) (hl:lo + m ≤ n) :
  ∃ w1,(Builtin.copy_ #[t,u] ty #[.slice A m c2,.string y]).run P W = .ok (goInt (Nat.min y.size m)) w1 ∧ Kd.B (Kd.int .u8) e w1 base ok (.slice A0 n c) (cpy xs lo m (bytesOf y)) ∧ W.grownBy w1 (Value.slice A0 n c).ownBlock:=by
 obtain ⟨g,c',hv,hok,hb,hmx,hB⟩:=HO
 injection hv with a1 a2 a3
 subst a1;subst a2;subst a3
 obtain ⟨ys,hys⟩:∃ ys,ys = (bytesOf y).take m:=⟨_,rfl⟩
 have hyl:ys.length = Nat.min y.size m:=by rw [hys,List.length_take,bytesOf_length];exact Nat.min_comm _ _
 have hqm:Nat.min y.size m ≤ m:=Nat.min_le_right _ _
 have hce:(List.take (Nat.min y.size m) (List.map (fun b:UInt8 => Value.int IntKind.u8 (b.toNat:Int)) y.data.toList)) = nums .u8 ys:=by
  rw [hys]
  unfold nums bytesOf
  rw [List.map_take,List.map_map]
  have hy:y.data.toList.length = y.size:=data_length y
  rcases Nat.le_total y.size m with h | h
  ·rw [show Nat.min y.size m = y.size from Nat.min_eq_left h,List.take_of_length_le (by simp [hy]),List.take_of_length_le (by simp [hy];exact h)];rfl
  ·rw [show Nat.min y.size m = m from Nat.min_eq_right h];rfl
 obtain ⟨i0,hi0,hi1⟩:=Option.map_eq_some_iff.1 hsz
 have hone:∀ v ∈ nums .u8 ys,v.oneCell' = true:=by
  intro v hv
  simp only [nums,List.mem_map] at hv
  obtain ⟨b,_,rfl⟩:=hv
  rfl
 have hcp:cpy xs lo m (bytesOf y) = xs.take lo ++ ys ++ xs.drop (lo + ys.length):=by
  unfold cpy
  rw [← hys,hyl,bytesOf_length]
 have hrun0:(Builtin.copy_ #[t,u] ty #[.slice A m c2,.string y]).run P W = ((match A with | some a => storeCells a (nums .u8 ys) | none => pure ()) >>= fun _ => (pure (goInt (Nat.min y.size m)):Sem Value)).run P W:=by
  cases A <;> simp [Builtin.copy_,run_underlying ht,Builtin.lenOf,Builtin.firstCells,sizeOf,typeInfo,hi0,hi1,hce]
 rw [hrun0]
 have hBn:=BR.setCells ys lo xs W hB (by omega)
 have hcl:(cpy xs lo m (bytesOf y)).length = xs.length:=cpy_length (by omega)
 obtain ⟨s1,s2,s3,s4⟩:=setCells_same g (nums .u8 ys) lo W
 have hfar:∀ k',k' ≠ g → (W.setCells g lo (nums .u8 ys)).heap[k']? = W.heap[k']?:=fun k' hk' => setCells_far _ _ k' hk'
 have hgr:W.grownBy (W.setCells g lo (nums .u8 ys)) (Value.slice (some ⟨g,0,none⟩) xs.length c).ownBlock:=⟨s1,s2,s3,by rw [s4];exact Nat.le_refl _,fun k' _ hk' => hfar k' (fun he => hk' (by rw [he];rfl))⟩
 have hBB:Kd.B (Kd.int .u8) e (W.setCells g lo (nums .u8 ys)) base ok (.slice (some ⟨g,0,none⟩) xs.length c) (cpy xs lo m (bytesOf y)):=⟨g,c,by rw [hcl],hok,hb,by rw [hcl];exact hmx,by rw [hcp];exact hBn⟩
 rcases Nat.eq_zero_or_pos (Nat.min y.size m) with hz | hp
 ·have hc0:ys = []:=List.eq_nil_of_length_eq_zero (by rw [hyl,hz])
  subst hc0
  refine ⟨W,?_,hBB,hgr⟩
  cases A <;> simp [storeCells,nums]
 ·have hcx:xs.length ≤ c:=hB.1
  have hAe:A = some ⟨g,lo,none⟩:=by
   rcases hA with ⟨h1,h2⟩ | h
   ·rw [h2,h1]
   ·rw [if_neg (by omega),Option.map_some,Nat.mul_one,add_plain] at h
    exact h
  have hst:=run_storeCells_cells (P:=P) g lo (nums .u8 ys) 0 W (fun j hj => by rw [nums_length] at hj;rw [hB.cell_nat _ (by omega)];rfl) (fun j hj => hB.frozen_nat _ (by rw [nums_length] at hj;omega)) hone
  rw [Nat.add_zero] at hst
  refine ⟨W.setCells g lo (nums .u8 ys),?_,hBB,hgr⟩
  rw [hAe]
  simp only [Sem.run_bind,hst,Result.andThen_ok]
  rfl
end
section
variable {P:Program} {ops:Array Oper} {rest:List Oper} {o:Oper} {a:Act} {Q:Exit → Act → World → Prop} {Kc:Act → World → Prop}
theorem B_copy_step {w0 W:World} (base:Nat) (hw:Region.wanted o (yielded ops a.tmps) = true) (s x:Operand) (t u e:TypeId) (ho:o.op = .call { callee:=.builtin .copy,args:=#[s,x],argTypes:=#[t,u] })
  (ht:P.underlying t = some (.slice e)) (hinfo:(P.info? e).map (·.size) = some 1) {A0 A:Option Addr} {n c m c2 lo:Nat} {xs:List Int} {ok:Nat → Prop} {y:ByteArray}
  (hs:a.eval s = .slice A m c2) (hx:a.eval x = .string y) (hA:(lo = 0 ∧ A = A0) ∨ A = if c = lo then A0 else A0.map (·.add (lo * 1)))
  (HO:Kd.B (Kd.int .u8) e W base ok (.slice A0 n c) xs) (hl:lo + m ≤ n) (HB:Below base w0 W) (hbase:base ≤ W.heap.size)
  (h:∀ w1,Kd.B (Kd.int .u8) e w1 base ok (.slice A0 n c) (cpy xs lo m (bytesOf y)) → Below base w0 w1 → W.grownBy w1 (Value.slice A0 n c).ownBlock → Kc (a.put o.dst (goInt (Nat.min y.size m))) w1) :
  if Region.wanted o (yielded ops a.tmps) = true then Oper.wp P o a W Kc Q else Kc (a.put o.dst undef) W:=by
 obtain ⟨w1,hr,h1,h2⟩:=B_copy_run (P:=P) base t u o.type e ht hinfo (c2:=c2) y hA HO hl
 rw [if_pos hw]
 unfold Oper.wp execOp
 simp only [ho,resolve,invoke,builtin,Sem.run_bind,Sem.run_pure,Result.andThen_ok,List.map_toArray,List.map_cons,List.map_nil,hs,hx,hr]
 exact h w1 h1 (HB.grown h2 hbase (fun k hk => Kd.B_base HO _ hk)) h2
theorem B_conv {w0 W:World} (base:Nat) (hgd:o.guard = none) (x:Operand) (t u e:TypeId) (ho:o.op = .convert t u x) (ht:P.underlying t = some .string) (hu:P.underlying u = some (.slice e)) (he:P.underlying e = some (.int .u8))
  (y:ByteArray) (hx:a.eval x = .string y) {ok:Nat → Prop} (hok:∀ k,W.heap.size ≤ k → ok k) (HB:Below base w0 W) (hbase:base ≤ W.heap.size) (hl:y.size ≤ 9223372036854775807)
  (h:∀ v1 w1,Kd.B (Kd.int .u8) e w1 base ok v1 (bytesOf y) → Below base w0 w1 → W.grownBy w1 none → wpList P ops Q rest (a.put o.dst v1) w1) :
  wpList P ops Q (o :: rest) a W:=by
 have hr:=Lib.run_convert_string_bytes W t u e y ht hu he
 have hb:=below_made W e y
 have hg:W.grownBy (Lib.bytesWorld W e y) none:=⟨rfl,rfl,rfl,hb.size,fun k hk _ => hb.block k hk⟩
 have hB:=fresh W e y
 refine wpList_plain hgd fun K hK => ?_
 unfold Oper.wp execOp
 simp only [ho,Sem.run_bind,Sem.run_pure,Result.andThen_ok,hx,hr]
 exact hK _ _ (h _ _ ⟨W.heap.size,_,by rw [bytesOf_length],hok _ (Nat.le_refl _),hbase,by rw [bytesOf_length];exact hl,hB⟩ (HB.grown hg hbase (fun k hk => by cases hk)) hg)
end
end Go.Proofs.YtodlnnoekccmmaaGreatDoor.LibCB
