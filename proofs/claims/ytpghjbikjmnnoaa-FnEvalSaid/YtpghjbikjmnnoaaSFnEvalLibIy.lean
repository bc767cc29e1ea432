import Derived.Test.YtpghjbikjmnnoaaSFnEvalLibIx
import Derived.Shelf.SlicesQ.IndexFunc
import Derived.Lib.SliceRun
namespace Go.Proofs
open Go.Shelf Go.RowKit Go.Lib
end Go.Proofs
namespace Go.Proofs.Ytpghjbikjmnnoaa.LibIy
open Go.Proofs Go.Shelf Go.RowKit Go.Lib Go.Proofs.YtpghjbikjmnnoaaW.PrintWords Go.Proofs.YtpghjbikjmnnoaaW.PrintLast Go.Proofs.YtpghjbikjmnnoaaW.PrintMore Go.Proofs.Ytpghjbikjmnnoaa.LibX Go.Proofs.Ytpghjbikjmnnoaa.LibG Go.Proofs.Ytpghjbikjmnnoaa.LibIx
set_option linter.unusedVariables false
def encS (x:SY):List Value:=[.string x.f0,.int .i64 x.f1,.int .i64 x.f2]
theorem pred (nm:ByteArray) (g:Nat) (w:World) (hg:g < w.heap.size) (hcell:w.cell? ⟨g,2,none⟩ = some (.string nm)) :
  PredBelow Try.prog 24 #[.pointer (some ⟨g,0,none⟩)] (fun x => .agg (encS x).toArray) (fun x:SY => x.f0.toList == nm.toList) w:=fun W x hb => by
 have hc:W.cell? ⟨g,2,none⟩ = some (.string nm):=(hb.cell (p:=⟨g,2,none⟩) hg).trans hcell
 have hgW:g < W.heap.size:=Nat.lt_of_lt_of_le hg hb.size
 have hne:g ≠ W.heap.size:=by omega
 show Calls Try.prog 24 #[.agg #[.string x.f0,.int .i64 x.f1,.int .i64 x.f2],.pointer (some ⟨g,0,none⟩)] W _
 go_enter Try.func24,Try.ntmps24
 go_wp2
 all_goals (go_ret;exact ⟨by first | rfl | (simp;done) | (simp_all;done),hb.alloc hb.size _⟩)
set_option maxHeartbeats 1000000 in
theorem idx_calls (k:Nat) (A0:Option Addr) (c0:Nat) (l0:List SY) (nm:ByteArray) (g:Nat) (r:Int) (w:World) (hr0:Kd.C kS w A0 l0.length l0) (hc0:l0.length ≤ c0) (hg:g < w.heap.size) (hcell:w.cell? ⟨g,2,none⟩ = some (.string nm)) (h:l2Sym_idx.f k l0 nm = some r) :
  Calls Try.prog 23 #[.slice A0 l0.length c0,.func (.func 24) #[] #[.pointer (some ⟨g,0,none⟩)]] w fun e w' => e = .returned (.int .i64 r) ∧ Below w.heap.size w w':=by
 have HP:=pred nm g w hg hcell
 have HR0:=Aside0.mk hr0
 have HC0:=Aside0.mk hc0
 have H':=Aside0.mk (show spec_l2Sym.l0 k l0 nm 0 = some r from h)
 clear hr0 hc0 h hg hcell
 go_enter Try.func23,Try.ntmps23
 go_wp2
 go_loopg [5,8] k (fun kq _ s8 wr => ∃ x5_1:Int,s8 = .int .i64 x5_1 ∧ Aside0 (Below w.heap.size w wr) ∧ Aside0 (spec_l2Sym.l0 kq l0 nm x5_1 = some r) ∧ Aside0 (kq ≤ k))
 case atStart => exact ⟨0,rfl,⟨Below.refl _ w⟩,H',⟨Nat.le_refl _⟩⟩
 case round =>
  clear H'
  obtain ⟨x5_1,rfl,HB,HA,HK1⟩:=hrel
  cases gk with
  | zero => exact absurd HA.out (by simp [spec_l2Sym.l0])
  | succ k1 =>
   have H:=HA.out
   clear HA
   simp only [spec_l2Sym.l0] at H
   by_cases c3:x5_1 < (l0.length:Int)
   ·rw [if_pos c3] at H
    have c3b0:decide (x5_1 < (l0.length:Int)) = true:=decide_eq_true c3
    by_cases c4:0 ≤ x5_1
    ·rw [if_pos c4] at H
     have c4b0:decide (0 ≤ x5_1) = true:=decide_eq_true c4
     have hcall:Calls Try.prog 24 #[.agg #[.string (rd_T33 l0 x5_1).f0,.int .i64 (rd_T33 l0 x5_1).f1,.int .i64 (rd_T33 l0 x5_1).f2],.pointer (some ⟨g,0,none⟩)] wr (fun e w' => e = .returned (.bool ((rd_T33 l0 x5_1).f0.toList == nm.toList)) ∧ Below w.heap.size w w'):=HP wr (rd_T33 l0 x5_1) HB.out
     have p259:0 ≤ (x5_1:Int):=c4
     have q259:x5_1 < (l0.length:Int):=c3
     obtain ⟨ad259,e259,hx259_0,hx259_1,hx259_2⟩:=at_T33 (Kd.C_below HR0.out HB.out) x5_1 p259 q259
     cases e259
     clear c3 c4
     replace p259:=eq_true p259
     replace q259:=eq_true q259
     clear HP
     by_cases c5:((rd_T33 l0 x5_1).f0).toList = nm.toList
     ·rw [if_pos c5] at H
      have c5b0:(((rd_T33 l0 x5_1).f0).toList == nm.toList) = true:=beq_iff_eq.mpr c5
      clear c5
      obtain rfl:=Option.some.inj H
      rw [c5b0] at hcall
      go_wp2_with (refine hcall.mono ?_;rintro e w' ⟨rfl,hb'⟩)
      go_ret
      exact ⟨rfl,hb'⟩
     ·rw [if_neg c5] at H
      have c5b0:(((rd_T33 l0 x5_1).f0).toList == nm.toList) = false:=beq_eq_false_iff_ne.mpr c5
      clear c5
      have H':=Aside0.mk H
      clear H
      rw [c5b0] at hcall
      go_wp2_with (refine hcall.mono ?_;rintro e w' ⟨rfl,hb'⟩)
      go_roundg k1
      case measure => have:=HK1.out;omega
      case rel => exact ⟨(wrap64 (x5_1 + 1)),by first | rfl | (simp;done),⟨hb'⟩,H',⟨by have:=HK1.out;omega⟩⟩
    ·rw [if_neg c4] at H
     exact absurd H (by simp)
   ·rw [if_neg c3] at H
    have c3b0:decide (x5_1 < (l0.length:Int)) = false:=decide_eq_false c3
    clear c3
    obtain rfl:=Option.some.inj H
    go_wp2
    go_ret
    exact ⟨rfl,HB.out⟩
end Go.Proofs.Ytpghjbikjmnnoaa.LibIy
