import Derived.Test.YtoiiaklmjpiejaaDoorSShelf
import Derived.Test.YtoiiaklmjpiejaaDoorSWAll
import Derived.Shelf.Strings.Builder1
namespace Go.Proofs.YtoiiaklmjpiejaaDoor.LibB
open Go.RowKit Go.Proofs.YtoiiaklmjpiejaaDoorW.PrintWords
set_option linter.unusedVariables false
set_option linter.unusedSimpArgs false
theorem sizeBuilder:(Tryd.prog.info? 74).map (·.size) = some 2:=by kernel_rfl
theorem liesBuilder:liesAt Tryd.prog Tryd.prog.depth 74 (2 / Tryd.prog.cellsOf 74) 0 74 1 = true:=by kernel_rfl
theorem infoByte:(Tryd.prog.info? 5).map (fun i => (i.zero,i.size,i.bytes)) = some (some (.int .u8 0),1,1):=by kernel_rfl
set_option maxHeartbeats 1000000 in
set_option maxRecDepth 100000 in
theorem copyCheck_used (b:Nat) (w:World) (h0:w.cell? ⟨b,0,none⟩ = some (.pointer (some ⟨b,0,none⟩))) :
  Calls Tryd.prog 92 #[.pointer (some ⟨b,0,none⟩)] w fun e w' => e = .returned (.tuple #[]) ∧ w' = w:=by
 obtain ⟨j,hj,_⟩:=Option.map_eq_some_iff.1 sizeBuilder
 go_enter Tryd.func92,Tryd.ntmps92
 go_wp2
 rw [Lib.run_neq_ptr_same w _ Tryd.underlying72 hj]
 go_wp2
 go_end0
 exact ⟨rfl,rfl⟩
set_option maxHeartbeats 1000000 in
set_option maxRecDepth 100000 in
theorem copyCheck_fresh (b:Nat) (w:World) (h0:w.cell? ⟨b,0,none⟩ = some (.pointer none)) (hsh:w.shape? b = some (74,2)) (hfz:w.frozen? ⟨b,0,none⟩ = false) :
  Calls Tryd.prog 92 #[.pointer (some ⟨b,0,none⟩)] w fun e w' => e = .returned (.tuple #[]) ∧ w' = w.setCell ⟨b,0,none⟩ (.pointer (some ⟨b,0,none⟩)):=by
 obtain ⟨j,hj,hjs⟩:=Option.map_eq_some_iff.1 sizeBuilder
 go_enter Tryd.func92,Tryd.ntmps92
 go_wp2
 rw [Lib.run_to_unsafe w ⟨b,0,none⟩ Tryd.underlying72 Tryd.underlying104 hj (by rw [hjs];decide) hsh (Nat.zero_lt_succ 1)]
 simp only [Result.andThen]
 rw [Oper.upon_value]
 go_wp2
 rw [run_callFunc_extern Tryd.func109 (by kernel_rfl) (by kernel_rfl) (by kernel_rfl) (e:=Extern.AbiNoEscape.same) (by kernel_rfl)]
 rw [Lib.run_noEscape]
 simp only [Result.andThen]
 rw [Oper.upon_value]
 go_wp2
 rw [Lib.run_from_unsafe w ⟨b,0,none⟩ Tryd.underlying104 Tryd.underlying72 hj hsh liesBuilder]
 simp only [Result.andThen]
 rw [Oper.upon_value]
 go_wp2
 go_end0
 exact ⟨rfl,rfl⟩
theorem copyCheck (B b:Nat) (bs:List Value) (w:World) (h:Lib.IsBuilder 74 5 B b bs w) :
  Calls Tryd.prog 92 #[.pointer (some ⟨b,0,none⟩)] w fun e w' => e = .returned (.tuple #[]) ∧ (Lib.BuilderAt 74 5 B b (.pointer (some ⟨b,0,none⟩)) bs w' ∧ Below B w w'):=by
 rcases h with h | h
 ·refine (copyCheck_fresh b w h.cell0 h.shape h.frozen0).mono ?_
  rintro e w' ⟨rfl,rfl⟩
  exact ⟨rfl,h.used _,(Below.refl B w).setCell (p:=⟨b,0,none⟩) h.1 _⟩
 ·refine (copyCheck_used b w h.cell0).mono ?_
  rintro e w' ⟨rfl,rfl⟩
  exact ⟨rfl,h,Below.refl B _⟩
set_option maxHeartbeats 2000000 in
set_option maxRecDepth 100000 in
theorem writeString (B b:Nat) (bs:List Value) (s:ByteArray) (w:World) (h:Lib.IsBuilder 74 5 B b bs w) (hlen:bs.length + s.size ≤ 140737488355328) (hBw:B ≤ w.heap.size) :
  Calls Tryd.prog 68 #[.pointer (some ⟨b,0,none⟩),.string s] w fun e w' => e = .returned (.tuple #[.int .i64 s.size,.nilIface]) ∧ (Lib.BuilderAt 74 5 B b (.pointer (some ⟨b,0,none⟩)) (bs ++ Lib.strCells s) w' ∧ Below B w w'):=by
 obtain ⟨i0,hi,hz0,hz1,hz2⟩:=info_parts infoByte
 go_enter Tryd.func68,Tryd.ntmps68
 go_wp2_with (go_at_call 92;refine (copyCheck B b bs _ h).mono ?_)
 rintro e w1 ⟨rfl,h1,hb1⟩
 obtain ⟨hB,v,hbk,hown,hne⟩:=h1
 have c0:w1.cell? ⟨b,0,none⟩ = some (.pointer (some ⟨b,0,none⟩)):=by rw [Lib.cell_of_heap hbk];rfl
 have c1:w1.cell? ⟨b,1,none⟩ = some v:=by rw [Lib.cell_of_heap hbk];rfl
 go_wp2_with (at_builtin;refine Lib.wpList_append_own_string _ rfl _ _ 22 9 rfl B 5 i0 Tryd.underlying22 Tryd.underlying9 hi hz0 hz1 hz2 _ _ _ rfl hown s rfl ?c3 ?c4 ?c5 ?_)
 case c3 => unfold maxLen;omega
 case c4 => omega
 case c5 => have:=hb1.size;omega
 intro v' w2 hown' hgrow _
 have hlt:b < w1.heap.size:=by
  rcases Nat.lt_or_ge b w1.heap.size with h' | h'
  ·exact h'
  ·simp [Array.getElem?_eq_none h'] at hbk
 have hb2:w2.heap[b]? = some (.cells #[.pointer (some ⟨b,0,none⟩),v] 74 (0,0)):=by
  rw [hgrow.block b hlt (fun e => hne e.symm)]
  exact hbk
 have d0:w2.cell? ⟨b,0,none⟩ = some (.pointer (some ⟨b,0,none⟩)):=by rw [Lib.cell_of_heap hb2];rfl
 have d1:w2.cell? ⟨b,1,none⟩ = some v:=by rw [Lib.cell_of_heap hb2];rfl
 have f1:w2.frozen? ⟨b,1,none⟩ = false:=Lib.frozen_of_heap hb2 1
 obtain ⟨ao,n',cap,rfl⟩:∃ ao n' cap,v' = .slice ao n' cap:=by
  rcases hown'.2 with ⟨hv,_⟩ | ⟨g,cap,cur,hv,_⟩
  ·exact ⟨_,_,_,hv⟩
  ·exact ⟨_,_,_,hv⟩
 go_wp2
 go_ret2
 refine ⟨rfl,?_,?_⟩
 ·exact Lib.BuilderAt.put (T:=74) (e:=5) hB hb2 (bs':=bs ++ Lib.strCells s) (by simpa [Lib.strCells_length] using hown') (by decide)
 ·exact (hb1.grown hgrow (by have:=hb1.size;omega) (fun k hk => (hown.lt k hk).1)).setCell (p:=⟨b,1,none⟩) hB _
def IsB (B b:Nat) (x:ByteArray) (w:World):Prop:=Lib.IsBuilder 74 5 B b (Lib.byteCells x.data.toList) w
def IsBF (B b:Nat) (x:ByteArray) (w:World):Prop:=Lib.IsBuilderF 74 5 B b (Lib.byteCells x.data.toList) w
theorem cells_append (x y:ByteArray):Lib.byteCells (x ++ y).data.toList = Lib.byteCells x.data.toList ++ Lib.strCells y:=by
 rw [ByteArray.data_append,Array.toList_append,Lib.byteCells_append,Lib.strCells_eq]
theorem cells_length (x:ByteArray):(Lib.byteCells x.data.toList).length = x.size:=by
 rw [Lib.byteCells_length,Array.length_toList];rfl
theorem fresh (w:World):IsB w.heap.size w.heap.size (⟨#[]⟩:ByteArray) (w.alloc (.cells #[.pointer none,.slice none 0 0] 74)):=Lib.fresh_isBuilder _ _ w
theorem IsB.drewN {B b:Nat} {x:ByteArray} {w:World} (h:IsB B b x w) (n:Nat):IsB B b x (w.drewN n):=h
theorem at_below {T e B b:Nat} {p:Value} {bs:List Value} {w w1:World} (h:Lib.BuilderAt T e B b p bs w) (hb:Below w.heap.size w w1):Lib.BuilderAt T e B b p bs w1:=by
 have hl:=h.lt
 obtain ⟨h1,v,h2,h3,h4⟩:=h
 exact ⟨h1,v,(hb.block b hl).trans h2,pw_own_below h3 hb,h4⟩
theorem IsB.below {B b:Nat} {x:ByteArray} {w w1:World} (h:IsB B b x w) (hb:Below w.heap.size w w1):IsB B b x w1:=Or.imp (fun h => at_below h hb) (fun h => at_below h hb) h
theorem bld_string (B b:Nat) (x s:ByteArray) (w:World) (h:IsB B b x w) (hlen:x.size + s.size ≤ 140737488355328) (hBw:B ≤ w.heap.size) :
  Calls Tryd.prog 68 #[.pointer (some ⟨b,0,none⟩),.string s] w fun e w' => e = .returned (.tuple #[.int .i64 s.size,.nilIface]) ∧ IsB B b (x ++ s) w' ∧ Below B w w' :=
 (writeString B b _ s w h (by rw [cells_length];exact hlen) hBw).mono fun e w' ⟨he,h1,h2⟩ => ⟨he,by unfold IsB;rw [cells_append];exact .inr h1,h2⟩
theorem bld_text (B b:Nat) (x:ByteArray) (w:World) (h:IsB B b x w) (hBw:B ≤ w.heap.size) :
  Calls Tryd.prog 71 #[.pointer (some ⟨b,0,none⟩)] w fun e w' => e = .returned (.string x) ∧ IsBF B b x w' ∧ Below B w w' :=
 (Go.Proofs.Tryd.Builder_String_any_f B b x.data.toList w (Lib.IsBuilderF.of h) hBw).mono fun e w' ⟨he,h1,h2⟩ => ⟨he,h1,h2⟩
end Go.Proofs.YtoiiaklmjpiejaaDoor.LibB
