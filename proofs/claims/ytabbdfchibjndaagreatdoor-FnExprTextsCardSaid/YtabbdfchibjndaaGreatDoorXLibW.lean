import Derived.Test.YtabbdfchibjndaaGreatDoorXWAll
import Derived.Test.YtabbdfchibjndaaGreatDoorProg
import Derived.Shelf.Spec.TrailingZeros
import Derived.Lib.LaidTab
import Derived.Lib.ItoaNum
import Derived.Lib.SmallJoins
namespace Go.Proofs.YtabbdfchibjndaaGreatDoor.LibW
open Go.RowKit Go.Proofs.YtabbdfchibjndaaGreatDoorW.PrintWords
def dbTab:List Int:=Lib.deBruijn64tab.map fun (n:Nat) => (n:Int)
structure GL (w:World):Prop where
 mx:∃ m,w.cell? ⟨2,0,none⟩ = some (.int .i64 m)
 db:Lib.TabIs Tryz.prog w "math/bits.deBruijn64tab" .u8 dbTab
 pw:Lib.TabIs Tryz.prog w "internal/strconv.uint64pow10" .u64 Lib.pow10Tab
 es:∃ ev,w.cell? ⟨0,0,none⟩ = some ev ∧ (ev = .nilIface ∨ ∃ te pe,ev = .iface te pe)
 er:∃ ev,w.cell? ⟨1,0,none⟩ = some ev ∧ (ev = .nilIface ∨ ∃ te pe,ev = .iface te pe)
theorem GL.below {w w':World} (h:GL w) (hb:Below w.heap.size w w'):GL w' where
 mx:=let ⟨m,hm⟩:=h.mx;⟨m,pw_cell_below hb hm⟩
 db:=Go.Joins.tab_stays (g:=7) (by kernel_rfl) h.db hb (Nat.le_refl _)
 pw:=Go.Joins.tab_stays (g:=3) (by kernel_rfl) h.pw hb (Nat.le_refl _)
 es:=let ⟨ev,h1,h2⟩:=h.es;⟨ev,pw_cell_below hb h1,h2⟩
 er:=let ⟨ev,h1,h2⟩:=h.er;⟨ev,pw_cell_below hb h1,h2⟩
theorem GL.drawn {w w':World} (h:GL w) (hd:Drawn0 w w'):GL w':=h.below hd.below
theorem GL.drewN {w:World} (h:GL w) (n:Nat):GL (w.drewN n):=h.drawn ⟨n,rfl⟩
theorem GL.alloc {w:World} (h:GL w) (o:Obj):GL (w.alloc o):=h.below (below_alloc (Below.refl _ _) o)
theorem GL.dbAt {w:World} (h:GL w):TabAt 7 Lib.deBruijn64tab w:=fun j hj => by
 have:=h.db.cell (g:=7) (by kernel_rfl) j (by unfold dbTab;rw [List.length_map];exact hj)
 rw [this]
 unfold dbTab
 simp only [List.getD_eq_getElem?_getD,List.getElem?_map]
 rw [List.getElem?_eq_getElem hj]
 rfl
end Go.Proofs.YtabbdfchibjndaaGreatDoor.LibW
