import Derived.Test.YtabbdfchibjndaaGreatDoorXLibW
import Derived.Handed
import Derived.SizedLaws
import Derived.ShapedOpen
import Derived.Shelf.Vars
import Derived.Stop.LaidErr
import Derived.KernelRfl
namespace Go.Proofs.YtabbdfchibjndaaGreatDoor.LibRow
open Go.RowKit
set_option linter.unusedVariables false
theorem mx_of_shape {w:World} (h:w.ShapedOpen Tryz.prog):∃ m,w.cell? ⟨2,0,none⟩ = some (.int .i64 m) :=
 cell_of_shapedOpen_int (zero:=#[.int .i64 0]) (t:=3) h (of_decide_eq_true (by kernel_rfl)) (by kernel_rfl) rfl (by kernel_rfl) (by kernel_rfl) Tryz.underlying3
theorem db_of_laid {w:World} {rest:List (String × DataW Unit)} {d:DataW Unit} (hd:d = Lib.tabData .u8 LibW.dbTab) (h:laidMet Tryz.prog (("math/bits.deBruijn64tab",d) :: rest) w):Lib.TabIs Tryz.prog w "math/bits.deBruijn64tab" .u8 LibW.dbTab :=
 Lib.tabIs_of_head (g:=7) (t:=132) (e:=5) (n:=64) (by kernel_rfl) (by kernel_rfl) Tryz.underlying132 Tryz.underlying5 (by kernel_rfl) (by kernel_rfl) (hd ▸ h)
theorem pw_of_laid {w:World} {rest:List (String × DataW Unit)} {d:DataW Unit} (hd:d = Lib.tabData .u64 Lib.pow10Tab) (h:laidMet Tryz.prog (("internal/strconv.uint64pow10",d) :: rest) w):Lib.TabIs Tryz.prog w "internal/strconv.uint64pow10" .u64 Lib.pow10Tab :=
 Lib.tabIs_of_head (g:=3) (t:=120) (e:=80) (n:=20) (by kernel_rfl) (by kernel_rfl) Tryz.underlying120 Tryz.underlying80 (by kernel_rfl) (by kernel_rfl) (hd ▸ h)
theorem star_err:"*" ++ "errors.errorString" = "*errors.errorString":=by decide
theorem row_err (u:TypeId) (h:Tryz.prog.typeName? 3 u = some "*errors.errorString"):u = 116 :=
 typeName_ptr_named (nm:="errors.errorString") (by rw [star_err];kernel_rfl) (by kernel_rfl) (by decide) u (by rw [star_err];exact h)
theorem err_of_laid {n:String} {g:Nat} {text:List UInt8} {rest:List (String × DataW Unit)} {w:World} {d:DataW Unit} (hd:d = .iface "*errors.errorString" (.ptr (.agg [.lit (.string text)])))
  (hg:Tryz.prog.globalNamed n = some g) (ht:(Tryz.prog.globals[g]?).map (·.type) = some 37) (h:laidMet Tryz.prog ((n,d) :: rest) w) :
  ∃ ev,w.cell? ⟨g,0,none⟩ = some ev ∧ (ev = .nilIface ∨ ∃ te pe,ev = .iface te pe):=by
 subst hd
 obtain ⟨a0,s0,hv0,-,-,-⟩:=laid_sentinel h hg ht Tryz.underlying37 row_err Tryz.underlying116 Tryz.underlying118 rfl rfl Tryz.underlying9 (by kernel_rfl) (by kernel_rfl)
 exact ⟨_,by have h0:=World.var?_cell hg hv0 0;simpa using h0,.inr ⟨_,_,rfl⟩⟩
theorem es_of_laid {w:World} {rest:List (String × DataW Unit)} {d:DataW Unit} {text:List UInt8} (hd:d = .iface "*errors.errorString" (.ptr (.agg [.lit (.string text)]))) (h:laidMet Tryz.prog (("strconv.ErrSyntax",d) :: rest) w):∃ ev,w.cell? ⟨0,0,none⟩ = some ev ∧ (ev = .nilIface ∨ ∃ te pe,ev = .iface te pe) :=
 err_of_laid hd (by kernel_rfl) (by kernel_rfl) h
theorem er_of_laid {w:World} {rest:List (String × DataW Unit)} {d:DataW Unit} {text:List UInt8} (hd:d = .iface "*errors.errorString" (.ptr (.agg [.lit (.string text)]))) (h:laidMet Tryz.prog (("strconv.ErrRange",d) :: rest) w):∃ ev,w.cell? ⟨1,0,none⟩ = some ev ∧ (ev = .nilIface ∨ ∃ te pe,ev = .iface te pe) :=
 err_of_laid hd (by kernel_rfl) (by kernel_rfl) h
section
variable {H:Type} {enc:TypeId × Value → H}
theorem wrap {a:Assume} {C:Checked} {os:Os} {f:FuncId} {fn:Func} {s:ChangeSpec} {conds:List PathCond} {apart fresh handsOn again:Bool} {X:World → Array Value → Prop}
  (hX:∀ (w w':World) (args:Array Value),w.heap = w'.heap → X w args → X w' args)
  (own:ownKnob C.prog.godebug = none) (started:os.Started) (noInit:C.prog.inits.idxOf? f = none) (hfn:C.prog.funcs[f]? = some fn)
  (witness:∃ (w:World) (tape:Tape) (i:Input),w.os = os ∧ (w.forCall tape i).Shaped C.prog ∧ i.vars = [] ∧ Input.okWide C.prog (w.forCall tape i) .any w.heap.size f i ∧
   ((s.pre enc C.prog fn conds apart (w.forCall tape i).memory i.args ∧ X (w.forCall tape i).memory i.args) ∧ sizedMet enc C.prog fn (OpenSpec.ofChange s) apart (w.forCall tape i).memory i.args) ∧ a.holds C.prog (lone (Frame.enter C.prog f i.args .normal) [] (w.forCall tape i)))
  (contract:∀ (W:World) (base:Nat) (args:Array Value) (ds gs:List (DataW H)) (before:List MemPlace),
   (∀ (j:Nat) t v,fn.params[j]? = some t → args[j]? = some v → Value.okWide C.prog W .any base t v) →
   DataW.Whole enc C.prog fn.params.toList s.vars apart W args.toList ds gs before →
   conds.all (PathCond.test C.prog ⟨fn.params.toList,ds,s.plain.varTypes C.prog,gs⟩) = true →
   (DataW.weightsEach C.prog (fn.params.toList ++ s.plain.varTypes C.prog) (ds ++ gs)).all (· ≤ reachBytes) = true → X W args →
   W.ShapedOpen C.prog →
   Calls C.prog f args W fun e W' => ∃ v,e = .returned v ∧ s.post enc C.prog fn apart fresh handsOn again W args v W') :
  ReturnsInHanded a C os f .any (fun w args => (s.pre enc C.prog fn conds apart w args ∧ X w args) ∧ sizedMet enc C.prog fn (OpenSpec.ofChange s) apart w args) (s.post enc C.prog fn apart fresh handsOn again):=by
 refine returnsInHanded_of_calls own started noInit witness fun w tape i _ hsh _ hok hpre _ => ?_
 obtain ⟨_,_,_,fn',hfn',_,_,_,_,hval⟩:=hok
 obtain rfl:fn' = fn:=Option.some.inj (hfn'.symm.trans hfn)
 obtain ⟨⟨⟨ds,gs,before,hw,hc⟩,hx⟩,hz⟩:=hpre
 refine (contract (w.forCall tape i) w.heap.size i.args ds gs before hval (DataW.Whole.of_heap (w':=w.forCall tape i) (by rfl) hw) hc (hz.weights hw) (hX _ _ _ (by rfl) hx) hsh).mono fun e W' ⟨v,he,hp⟩ => ?_
 subst he
 exact ChangeSpec.post_blind hp
end
end Go.Proofs.YtabbdfchibjndaaGreatDoor.LibRow
