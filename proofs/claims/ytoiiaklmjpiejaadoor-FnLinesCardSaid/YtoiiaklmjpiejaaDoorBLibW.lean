import Derived.Test.YtoiiaklmjpiejaaDoorBWAll
import Derived.Test.YtoiiaklmjpiejaaDoorProg
import Derived.Below
namespace Go.Proofs.YtoiiaklmjpiejaaDoor.LibW
open Go.RowKit Go.Proofs.YtoiiaklmjpiejaaDoorW.PrintWords
structure GL (w:World):Prop where
 mx:∃ m,w.cell? ⟨0,0,none⟩ = some (.int .i64 m)
theorem GL.below {w w':World} (h:GL w) (hb:Below w.heap.size w w'):GL w' where
 mx:=let ⟨m,hm⟩:=h.mx;⟨m,pw_cell_below hb hm⟩
end Go.Proofs.YtoiiaklmjpiejaaDoor.LibW
