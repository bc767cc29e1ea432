import Derived.Test.YtoiiaklmjpiejaaDoorSWAll
import Derived.Test.YtoiiaklmjpiejaaDoorProg
import Derived.Shelf.Spec.TrailingZeros
import Derived.Lib.LaidTab
import Derived.Lib.ItoaNum
import Derived.Lib.SmallJoins
namespace Go.Proofs.YtoiiaklmjpiejaaDoor.LibW
open Go.RowKit Go.Proofs.YtoiiaklmjpiejaaDoorW.PrintWords
def dbTab:List Int:=Lib.deBruijn64tab.map fun (n:Nat) => (n:Int)
structure GL (w:World):Prop where
 mx:∃ m,w.cell? ⟨0,0,none⟩ = some (.int .i64 m)
 db:Lib.TabIs Tryd.prog w "math/bits.deBruijn64tab" .u8 dbTab
 pw:Lib.TabIs Tryd.prog w "internal/strconv.uint64pow10" .u64 Lib.pow10Tab
theorem GL.below {w w':World} (h:GL w) (hb:Below w.heap.size w w'):GL w' where
 mx:=let ⟨m,hm⟩:=h.mx;⟨m,pw_cell_below hb hm⟩
 db:=Go.Joins.tab_stays (g:=6) (by kernel_rfl) h.db hb (Nat.le_refl _)
 pw:=Go.Joins.tab_stays (g:=4) (by kernel_rfl) h.pw hb (Nat.le_refl _)
theorem GL.drawn {w w':World} (h:GL w) (hd:Drawn0 w w'):GL w':=h.below hd.below
theorem GL.drewN {w:World} (h:GL w) (n:Nat):GL (w.drewN n):=h.drawn ⟨n,rfl⟩
theorem GL.alloc {w:World} (h:GL w) (o:Obj):GL (w.alloc o):=h.below (below_alloc (Below.refl _ _) o)
theorem GL.dbAt {w:World} (h:GL w):TabAt 6 Lib.deBruijn64tab w:=fun j hj => by
 have:=h.db.cell (g:=6) (by kernel_rfl) j (by unfold dbTab;rw [List.length_map];exact hj)
 rw [this]
 unfold dbTab
 simp only [List.getD_eq_getElem?_getD,List.getElem?_map]
 rw [List.getElem?_eq_getElem hj]
 rfl
end Go.Proofs.YtoiiaklmjpiejaaDoor.LibW
