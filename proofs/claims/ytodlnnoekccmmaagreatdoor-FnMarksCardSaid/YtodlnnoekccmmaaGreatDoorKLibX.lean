import Derived.Test.YtodlnnoekccmmaaGreatDoorKWAll
namespace Go.Proofs.YtodlnnoekccmmaaGreatDoor.LibX
open Go.RowKit Go.Proofs.YtodlnnoekccmmaaGreatDoorW.PrintWords Go.Proofs.YtodlnnoekccmmaaGreatDoorW.PrintLast Go.Proofs.YtodlnnoekccmmaaGreatDoorW.PrintMore
set_option linter.unusedVariables false
set_option linter.unusedSimpArgs false
def cpy (xs:List Int) (lo m:Nat) (ys:List Int):List Int:=xs.take lo ++ ys.take m ++ xs.drop (lo + min ys.length m)
theorem cpy_length {xs ys:List Int} {lo m:Nat} (h:lo + m ≤ xs.length):(cpy xs lo m ys).length = xs.length:=by
 unfold cpy
 rw [List.length_append,List.length_append,List.length_take,List.length_take,List.length_drop]
 omega
theorem reps_nums {R:Int → List Value → Prop} {k:IntKind} (hR:∀ x,R x [.int k x]):∀ ys:List Int,Reps R 1 ys (nums k ys)
 | [] => Reps.none _ _
 | y :: r => Reps.one (hR y) (reps_nums hR r)
section
variable {P:Program}
theorem R_copy_run {W:World} (base:Nat) (t u ty e:TypeId) (ht:P.underlying t = some (.slice e)) (hsz:(P.info? e).map (·.size) = some 1)
  {A0 A:Option Addr} {n c m c2 lo:Nat} {xs:List Int} {ok:Nat → Prop} (y:ByteArray)
  (hA:(lo = 0 ∧ A = A0) ∨ A = if c = lo then A0 else A0.map (·.add (lo * 1)))
  (HO:(Kd.int .u8).R e W base ok (.slice A0 n c) xs) (hl:lo + m ≤ n) :
  ∃ w1,(Builtin.copy_ #[t,u] ty #[.slice A m c2,.string y]).run P W = .ok (goInt (Nat.min y.size m)) w1 ∧ (Kd.int .u8).R e w1 base ok (.slice A0 n c) (cpy xs lo m (bytesOf y)) ∧ W.grownBy w1 (Value.slice A0 n c).ownBlock:=by
 obtain ⟨hn,hnc,_⟩:=Kd.R_reads' HO
 obtain ⟨cs,hcs⟩:∃ cs,cs = nums .u8 ((bytesOf y).take m):=⟨_,rfl⟩
 have hcl:cs.length = Nat.min y.size m:=by rw [hcs,nums_length,List.length_take,bytesOf_length];exact Nat.min_comm _ _
 have hce:(List.take (Nat.min y.size m) (List.map (fun b:UInt8 => Value.int IntKind.u8 (b.toNat:Int)) y.data.toList)) = cs:=by
  rw [hcs]
  unfold nums bytesOf
  rw [List.map_take,List.map_map]
  have hy:y.data.toList.length = y.size:=data_length y
  rcases Nat.le_total y.size m with h | h
  ·rw [show Nat.min y.size m = y.size from Nat.min_eq_left h,List.take_of_length_le (by simp [hy]),List.take_of_length_le (by simp [hy];exact h)];rfl
  ·rw [show Nat.min y.size m = m from Nat.min_eq_right h];rfl
 obtain ⟨i0,hi0,hi1⟩:=Option.map_eq_some_iff.1 hsz
 have hone:∀ v ∈ cs,v.oneCell' = true:=by
  intro v hv
  rw [hcs] at hv
  simp only [nums,List.mem_map] at hv
  obtain ⟨b,_,rfl⟩:=hv
  rfl
 have hrun0:(Builtin.copy_ #[t,u] ty #[.slice A m c2,.string y]).run P W = ((match A with | some a => storeCells a cs | none => pure ()) >>= fun _ => (pure (goInt (Nat.min y.size m)):Sem Value)).run P W:=by
  cases A <;> simp [Builtin.copy_,run_underlying ht,Builtin.lenOf,Builtin.firstCells,sizeOf,typeInfo,hi0,hi1,hce]
 rw [hrun0]
 rcases Nat.eq_zero_or_pos (Nat.min y.size m) with hz | hp
 ·have hc0:cs = []:=List.eq_nil_of_length_eq_zero (by rw [hcl,hz])
  refine ⟨W,?_,?_,⟨rfl,rfl,rfl,Nat.le_refl _,fun _ _ _ => rfl⟩⟩
  ·rw [hc0]
   cases A <;> simp [storeCells]
  ·have e:cpy xs lo m (bytesOf y) = xs:=by
    unfold cpy
    rw [bytesOf_length,show min y.size m = 0 from hz]
    have:(bytesOf y).take m = []:=List.eq_nil_of_length_eq_zero (by rw [List.length_take,bytesOf_length];rw [Nat.min_comm];exact hz)
    rw [this,List.append_nil,Nat.add_zero,List.take_append_drop]
   rw [e]
   exact HO
 ·have hm0:0 < m:=Nat.lt_of_lt_of_le hp (Nat.min_le_right _ _)
  have hqm:Nat.min y.size m ≤ m:=Nat.min_le_right _ _
  obtain ⟨hok,inner,hown,hr⟩:=HO
  have hin:inner.length = n:=by have:=hr.1;rw [this,hn];exact Nat.mul_one _
  rcases hown.2 with ⟨hv,hv2⟩ | ⟨g,cap',cur,hv,hb,hh,_,hcm,hcz,htake⟩
  ·have:n = 0:=by rw [hn];exact hv2
   omega
  injection hv with ha _ hcc
  subst ha;subst hcc
  rw [← hn] at htake
  have hcz':cur.size = c:=by rw [hcz];exact Nat.mul_one _
  have htake':cur.toList.take n = inner:=by rw [← htake];congr 1;exact (Nat.mul_one n).symm
  have hAe:A = some ⟨g,lo,none⟩:=by
   rcases hA with ⟨h1,h2⟩ | h
   ·rw [h2,h1]
   ·rw [if_neg (by omega),Option.map_some,Nat.mul_one,add_plain] at h
    exact h
  have hst:=run_storeCells_cells (P:=P) g lo cs 0 W (fun j hj => by rw [cell_of_row W g _ cur e (0,0) hh];simp;omega) (fun j _ => blk_frozen hh _) hone
  rw [Nat.add_zero] at hst
  obtain ⟨cur',h3,h4,h5⟩:=setCells_row cs lo W cur hh (by omega)
  obtain ⟨s1,s2,s3,s4⟩:=setCells_same g cs lo W
  have hfar:∀ k',k' ≠ g → (W.setCells g lo cs).heap[k']? = W.heap[k']?:=fun k' hk' => setCells_far cs _ k' hk'
  have hcpl:(cpy xs lo m (bytesOf y)).length = n:=by rw [cpy_length (by omega),hn]
  refine ⟨W.setCells g lo cs,?_,?_,⟨s1,s2,s3,by rw [s4];exact Nat.le_refl _,fun k' _ hk' => hfar k' (fun he => hk' (by rw [he];rfl))⟩⟩
  ·rw [hAe]
   simp only [Sem.run_bind,hst,Result.andThen_ok]
   rfl
  ·refine ⟨hok,inner.take lo ++ cs ++ inner.drop (lo + cs.length),⟨?_,.inr ⟨g,c,cur',by rw [hcpl],hb,h3,by rw [hcpl];exact hnc,hcm,by rw [h4,hcz],?_⟩⟩,?_⟩
   ·rw [hcpl,List.length_append,List.length_append,List.length_take,List.length_drop,hin]
    show _ = n * 1
    omega
   ·rw [hcpl,h5]
    show List.take (n * 1) _ = _
    rw [Nat.mul_one]
    have q1:inner.take lo = cur.toList.take lo:=by rw [← htake',List.take_take,Nat.min_eq_left (by omega)]
    have q2:inner.drop (lo + cs.length) = (cur.toList.drop (lo + cs.length)).take (n - (lo + cs.length)):=by
     rw [← htake',List.drop_take]
    have q3:(cur.toList.take lo ++ cs).length = lo + cs.length:=by
     rw [List.length_append,List.length_take,Array.length_toList];omega
    rw [q1,q2,List.take_append,q3,List.take_of_length_le (by rw [q3];omega)]
   ·have hmv:∀ p q,(Kd.int .u8).M W base (fun k' => ok k' ∧ some k' ≠ (Value.slice (some ⟨g,0,none⟩) n c).ownBlock) p q → (Kd.int .u8).M (W.setCells g lo cs) base (fun k' => ok k' ∧ some k' ≠ (Value.slice (some ⟨g,0,none⟩) n c).ownBlock) p q:=fun p q hp => hp
    have hA1:Reps ((Kd.int .u8).M (W.setCells g lo cs) base (fun k' => ok k' ∧ some k' ≠ (Value.slice (some ⟨g,0,none⟩) n c).ownBlock)) 1 ((bytesOf y).take m) cs:=by
     rw [hcs]
     exact reps_nums (k:=.u8) (R:=(Kd.int .u8).M _ _ _) (fun x => rfl) _
    have hB1:Reps ((Kd.int .u8).M W base (fun k' => ok k' ∧ some k' ≠ (Value.slice (some ⟨g,0,none⟩) n c).ownBlock)) 1 xs inner:=hr
    unfold cpy
    have hlen:lo + min (bytesOf y).length m = lo + cs.length:=by rw [hcl,bytesOf_length]
    rw [hlen]
    have hT:=(Kd.reps_take (m:=lo) hB1 (by omega)).imp_ hmv
    have hD:=(Kd.reps_drop (m:=lo + cs.length) hB1).imp_ hmv
    rw [Nat.mul_one] at hT hD
    exact Kd.reps_append (Kd.reps_append hT hA1) hD
end
section
variable {P:Program} {ops:Array Oper} {rest:List Oper} {o:Oper} {a:Act} {Q:Exit → Act → World → Prop} {Kc:Act → World → Prop}
theorem R_copy {w0 W:World} (base:Nat) (hgd:o.guard = none) (s x:Operand) (t u e:TypeId) (ho:o.op = .call { callee:=.builtin .copy,args:=#[s,x],argTypes:=#[t,u] })
  (ht:P.underlying t = some (.slice e)) (hinfo:(P.info? e).map (·.size) = some 1) {A0 A:Option Addr} {n c m c2 lo:Nat} {xs:List Int} {ok:Nat → Prop} {y:ByteArray}
  (hs:a.eval s = .slice A m c2) (hx:a.eval x = .string y) (hA:(lo = 0 ∧ A = A0) ∨ A = if c = lo then A0 else A0.map (·.add (lo * 1)))
  (HO:(Kd.int .u8).R e W base ok (.slice A0 n c) xs) (hl:lo + m ≤ n) (HB:Below base w0 W) (hbase:base ≤ W.heap.size)
  (h:∀ w1,(Kd.int .u8).R e w1 base ok (.slice A0 n c) (cpy xs lo m (bytesOf y)) → Below base w0 w1 → W.grownBy w1 (Value.slice A0 n c).ownBlock → wpList P ops Q rest (a.put o.dst (goInt (Nat.min y.size m))) w1) :
  wpList P ops Q (o :: rest) a W:=by
 obtain ⟨w1,hr,h1,h2⟩:=R_copy_run (P:=P) base t u o.type e ht hinfo (c2:=c2) y hA HO hl
 refine wpList_plain hgd fun K hK => ?_
 unfold Oper.wp execOp
 simp only [ho,resolve,invoke,builtin,Sem.run_bind,Sem.run_pure,Result.andThen_ok,List.map_toArray,List.map_cons,List.map_nil,hs,hx,hr]
 exact hK _ _ (h w1 h1 (HB.grown h2 hbase (fun k hk => Kd.R_base HO _ hk)) h2)
end
end Go.Proofs.YtodlnnoekccmmaaGreatDoor.LibX
