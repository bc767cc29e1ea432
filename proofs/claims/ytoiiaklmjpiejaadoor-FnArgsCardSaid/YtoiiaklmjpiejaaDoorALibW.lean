import Derived.Test.YtoiiaklmjpiejaaDoorAWAll
import Derived.Test.YtoiiaklmjpiejaaDoorProg
import Derived.Below
namespace Go.Proofs.YtoiiaklmjpiejaaDoor.LibW
open Go.RowKit Go.Proofs.YtoiiaklmjpiejaaDoorW.PrintWords
structure GL (w:World):Prop where
 mx:∃ m,w.cell? ⟨0,0,none⟩ = some (.int .i64 m)
theorem GL.below {w w':World} (h:GL w) (hb:Below w.heap.size w w'):GL w' where
 mx:=let ⟨m,hm⟩:=h.mx;⟨m,pw_cell_below hb hm⟩
theorem GL.drawn {w w':World} (h:GL w) (hd:Drawn0 w w'):GL w':=h.below hd.below
theorem GL.drewN {w:World} (h:GL w) (n:Nat):GL (w.drewN n):=h.drawn ⟨n,rfl⟩
end Go.Proofs.YtoiiaklmjpiejaaDoor.LibW
