/- The law's own body, told by hand: what it computes where the program's and the reference's answers are the same (as they always are); the print can't tell a row of bytes made by a conversion. -/
import Derived.Test.YtcohcndliaaacaaDoorYQFnHeadersx
import Derived.Test.YtcohcndliaaacaaDoorYLib
import Derived.Test.YtcohcndliaaacaaDoorYLibBR
namespace Go.Proofs.YtcohcndliaaacaaDoor.QFnHeaders
open Go.RowKit Go.Proofs.YtcohcndliaaacaaDoorW.PrintWords Go.Proofs.YtcohcndliaaacaaDoorW.PrintLast Go.Proofs.YtcohcndliaaacaaDoorW.PrintMore Go.Proofs.YtcohcndliaaacaaDoor.LibX Go.Proofs.YtcohcndliaaacaaDoor.LibE Go.Proofs.YtcohcndliaaacaaDoor.LibBR
set_option linter.unusedVariables false
set_option linter.unusedSimpArgs false
/-- A rom with one bit of its title's fourth byte turned. -/
def turnedAt (rom : ByteArray) : ByteArray := strOfNums ((bytesOf rom).set 55 (Go.bits .xor .u8 (bt rom 55) 1))
def laws_FnHeaders.tail (k : Nat) (rom : ByteArray) (hs ws : Int) : Option Bool :=
  if 55 < (rom.size : Int) then ((impl_HeaderOf.f k (turnedAt rom)).bind fun q => (impl_HeaderSum.f k rom).bind fun e => (impl_WholeSum.f k rom).bind fun g => if q.2.2.2.2.2 = false then (if hs = e then (if ws = g then some true else none) else none) else none) else none
def laws_FnHeaders.f (k : Nat) (l0 : List Int) : Option Bool := (laws_big.f l0).bind fun t => if t = true then some true else ((spec_DrawHeaderOf.f k l0).bind fun rom => (impl_HeaderOf.f k rom).bind fun h => (spec_HeaderOf.f k rom).bind fun g => (spec_DrawHeaderSum.f k l0).bind fun o =>
  (impl_HeaderSum.f k o).bind fun a => (spec_HeaderSum.f k o).bind fun b => (impl_WholeSum.f k o).bind fun c => (spec_WholeSum.f k o).bind fun d =>
  if h = g then (if a = b then (if c = d then (if h.2.2.2.2.2 = true then laws_FnHeaders.tail k rom h.2.2.2.1 h.2.2.2.2.1 else some true) else none) else none) else none)
def laws_FnHeaders.Pure : Prop := ∀ (l0 : List Int), l0.length ≤ maxLen → l0.length * 1 ≤ 140737488351232 → (∀ x ∈ l0, (Lit.int .u8 x).wf = true) → ∃ k, laws_FnHeaders.f k l0 = some true
set_option maxHeartbeats 8000000 in
set_option maxRecDepth 100000 in
theorem laws_FnHeaders.calls (k : Nat) (A0 : Option Addr) (c0 : Nat) (l0 : List Int) (w : World) (hr0 : Kd.C (Kd.int .u8) w A0 l0.length l0) (hc0 : l0.length ≤ c0) (h : laws_FnHeaders.f k l0 = some true) :
    Calls Tryd.prog 5 #[.slice A0 l0.length c0] w fun e w' => e = .returned (.bool true) ∧ Below w.heap.size w w' := by
  have hu23 := Tryd.underlying23
  have HR0 := Aside0.mk hr0
  have HC0 := Aside0.mk hc0
  clear hr0 hc0
  have HB := Aside0.mk (Below.refl w.heap.size w)
  unfold laws_FnHeaders.f at h
  obtain ⟨t0, A20, H⟩ := Option.bind_eq_some_iff.mp h
  clear h
  have A2 := Aside0.mk A20
  clear A20
  by_cases c3 : t0 = true
  · subst c3
    clear H
    go_enter Tryd.func5, Tryd.ntmps5
    go_wp2_with (first | (go_at_call 11; (with_reducible refine (laws_big.calls _ _ l0 true _ ?side1 ?side2 A2.out).mono ?_); (case side1 => first | (repeat (first | exact HR0.out | (with_reducible refine Kd.C_alloc ?_ _) | (with_reducible refine Kd.C_drewN ?_ _) | (with_reducible refine Kd.C_drew ?_)); done) | exact Kd.C_below HR0.out (by repeat (first | (with_reducible first | exact HB.out | apply below_alloc | apply pw_below_drewN | apply below_drew1) | exact HB.out))); (case side2 => exact HC0.out); rintro e w' ⟨rfl, ⟨nd, rfl⟩⟩; (try first | exact ⟨rfl, _, World.drewN_drewN _ _ _⟩ | exact ⟨rfl, _, Eq.trans (World.drewN_drewN _ _ _) (congrArg (World.drewN _) (Nat.add_assoc _ _ _))⟩)))
    go_ret
    exact ⟨rfl, (by repeat (first | (with_reducible first | exact HB.out | apply below_alloc | apply pw_below_drewN | apply below_drew1) | exact HB.out))⟩
  replace c3 := Bool.eq_false_iff.mpr c3
  subst c3
  rw [if_neg (by decide)] at H
  replace H := Option.bind_eq_some_iff.mp H
  obtain ⟨rom, A4, H⟩ := H
  replace H := Option.bind_eq_some_iff.mp H
  obtain ⟨⟨t1, t2, t3, t4, t5, t6⟩, A5, H⟩ := H
  replace H := Option.bind_eq_some_iff.mp H
  obtain ⟨⟨s1, s2, s3, s4, s5, s6⟩, A6, H⟩ := H
  replace H := Option.bind_eq_some_iff.mp H
  obtain ⟨oth, A7, H⟩ := H
  replace H := Option.bind_eq_some_iff.mp H
  obtain ⟨xa, A8, H⟩ := H
  replace H := Option.bind_eq_some_iff.mp H
  obtain ⟨xb, A9, H⟩ := H
  replace H := Option.bind_eq_some_iff.mp H
  obtain ⟨xc, A10, H⟩ := H
  replace H := Option.bind_eq_some_iff.mp H
  obtain ⟨xd, A11, H⟩ := H
  by_cases e1 : ((t1, t2, t3, t4, t5, t6) : ByteArray × Int × Int × Int × Int × Bool) = (s1, s2, s3, s4, s5, s6)
  rotate_left
  · rw [if_neg e1] at H; cases H
  rw [if_pos e1] at H
  simp only [Prod.mk.injEq] at e1
  obtain ⟨rfl, rfl, rfl, rfl, rfl, rfl⟩ := e1
  by_cases e2 : xa = xb
  rotate_left
  · rw [if_neg e2] at H; cases H
  rw [if_pos e2] at H
  subst e2
  by_cases e3 : xc = xd
  rotate_left
  · rw [if_neg e3] at H; cases H
  rw [if_pos e3] at H
  subst e3
  replace H := Aside0.mk H
  go_enter Tryd.func5, Tryd.ntmps5
  go_upto_region 4 with (first | (go_at_call 11; (with_reducible refine (laws_big.calls _ _ l0 false _ ?side1 ?side2 A2.out).mono ?_); (case side1 => first | (repeat (first | exact HR0.out | (with_reducible refine Kd.C_alloc ?_ _) | (with_reducible refine Kd.C_drewN ?_ _) | (with_reducible refine Kd.C_drew ?_)); done) | exact Kd.C_below HR0.out (by repeat (first | (with_reducible first | exact HB.out | apply below_alloc | apply pw_below_drewN | apply below_drew1) | exact HB.out))); (case side2 => exact HC0.out); rintro e w' ⟨rfl, ⟨nd, rfl⟩⟩; (try first | exact ⟨rfl, _, World.drewN_drewN _ _ _⟩ | exact ⟨rfl, _, Eq.trans (World.drewN_drewN _ _ _) (congrArg (World.drewN _) (Nat.add_assoc _ _ _))⟩)) | (go_at_call 16; (with_reducible refine (spec_DrawHeaderOf.calls k _ _ l0 rom _ ?side1 ?side2 A4).mono ?_); (case side1 => first | (repeat (first | exact HR0.out | (with_reducible refine Kd.C_alloc ?_ _) | (with_reducible refine Kd.C_drewN ?_ _) | (with_reducible refine Kd.C_drew ?_)); done) | exact Kd.C_below HR0.out (by repeat (first | (with_reducible first | exact HB.out | apply below_alloc | apply pw_below_drewN | apply below_drew1) | exact HB.out))); (case side2 => exact HC0.out); rintro e w8 ⟨rfl, hb⟩; have n0_ := Aside0.mk (below_step (by repeat (first | (with_reducible first | exact HB.out | apply below_alloc | apply pw_below_drewN | apply below_drew1) | exact HB.out)) hb); clear HB; have HB := n0_; clear n0_))
  go_cut [4, 5] (fun v4 v5 wc => ∃ g4 : Nat, v4 = .pointer (some ⟨g4, 0, none⟩) ∧ v5 = .bool t6 ∧ Aside0 (wc.heap[g4]? = some (.cells #[.string t1, .int .i64 t2, .int .i64 t3, .int .i64 t4, .int .i64 t5] 23 (0, 0))) ∧ Aside0 (w.heap.size ≤ g4) ∧ Aside0 (Below w.heap.size w wc))
  case first =>
    go_wp2_with (first | (go_at_call 9; (with_reducible refine (impl_HeaderOf.calls k rom t1 t2 t3 t4 t5 t6 _ A5).mono ?_); rintro e w9 ⟨rfl, hb⟩; have n0_ := Aside0.mk (below_step (by repeat (first | (with_reducible first | exact HB.out | apply below_alloc | apply pw_below_drewN | apply below_drew1) | exact HB.out)) hb); clear HB; have HB := n0_; clear n0_) | ((with_reducible refine gate_dst (N := 4) rfl ?_); (try (refine gate_guard (by rfl) ?_; dsimp only)); refine box_event ?hg (N := 4) ?hd (cs := #[.string (⟨#[]⟩ : ByteArray), .int .i64 0, .int .i64 0, .int .i64 0, .int .i64 0]) (t := 23) ?hr ?_; (case hd => rfl); (case hg => rfl); (case hr => first | (go_simp; done) | (go_simp; rfl)); intro gb hg wB hbox hb; have GE := (by rw [hg]; exact (below_size (by repeat (first | (with_reducible first | exact HB.out | apply below_alloc | apply pw_below_drewN | apply below_drew1) | exact HB.out))) : w.heap.size ≤ gb); have HBB := below_step (by repeat (first | (with_reducible first | exact HB.out | apply below_alloc | apply pw_below_drewN | apply below_drew1) | exact HB.out)) hb; have hcz_0 : wB.cell? ⟨gb, 0, none⟩ = some (.string (⟨#[]⟩ : ByteArray)) := (blk_cell hbox 0).trans rfl; have hcz_1 : wB.cell? ⟨gb, 1, none⟩ = some (.int .i64 0) := (blk_cell hbox 1).trans rfl; have hcz_2 : wB.cell? ⟨gb, 2, none⟩ = some (.int .i64 0) := (blk_cell hbox 2).trans rfl; have hcz_3 : wB.cell? ⟨gb, 3, none⟩ = some (.int .i64 0) := (blk_cell hbox 3).trans rfl; have hcz_4 : wB.cell? ⟨gb, 4, none⟩ = some (.int .i64 0) := (blk_cell hbox 4).trans rfl; have hfz_0 := blk_frozen hbox 0; have hfz_1 := blk_frozen hbox 1; have hfz_2 := blk_frozen hbox 2; have hfz_3 := blk_frozen hbox 3; have hfz_4 := blk_frozen hbox 4; replace hbox := Aside0.mk hbox; replace GE := Aside0.mk GE; replace HBB := Aside0.mk HBB; (try replace lt4 := Aside0.mk lt4); (try replace B4c := Aside0.mk B4c); clear hg hb))
    go_meet
    case rel => exact ⟨gb, rfl, rfl, ⟨(by (with_reducible repeat (first | refine blk_drewN ?_ _ | refine blk_drew ?_ | refine blk_alloc ?_ _)); refine blk_put (cs := #[.string t1, .int .i64 t2, .int .i64 t3, .int .i64 t4, .int .i64 0]) ?_ 4 _ rfl; (with_reducible repeat (first | refine blk_drewN ?_ _ | refine blk_drew ?_ | refine blk_alloc ?_ _)); refine blk_put (cs := #[.string t1, .int .i64 t2, .int .i64 t3, .int .i64 0, .int .i64 0]) ?_ 3 _ rfl; (with_reducible repeat (first | refine blk_drewN ?_ _ | refine blk_drew ?_ | refine blk_alloc ?_ _)); refine blk_put (cs := #[.string t1, .int .i64 t2, .int .i64 0, .int .i64 0, .int .i64 0]) ?_ 2 _ rfl; (with_reducible repeat (first | refine blk_drewN ?_ _ | refine blk_drew ?_ | refine blk_alloc ?_ _)); refine blk_put (cs := #[.string t1, .int .i64 0, .int .i64 0, .int .i64 0, .int .i64 0]) ?_ 1 _ rfl; (with_reducible repeat (first | refine blk_drewN ?_ _ | refine blk_drew ?_ | refine blk_alloc ?_ _)); refine blk_put (cs := #[.string (⟨#[]⟩ : ByteArray), .int .i64 0, .int .i64 0, .int .i64 0, .int .i64 0]) ?_ 0 _ rfl; (with_reducible repeat (first | refine blk_drewN ?_ _ | refine blk_drew ?_ | refine blk_alloc ?_ _)); exact hbox.out)⟩, ⟨GE.out⟩, ⟨(by repeat (first | (with_reducible first | exact HBB.out | apply below_alloc | apply pw_below_drewN | apply below_drew1 | refine below_set ?_ GE.out) | exact HBB.out))⟩⟩
  case rest =>
    clear HB
    obtain ⟨g4, rfl, rfl, BK4, GE4, HB⟩ := hcut
    go_upto_region 5 with (fail)
    go_cut [6, 7] (fun v6 v7 wc => ∃ g6 : Nat, v6 = .pointer (some ⟨g6, 0, none⟩) ∧ v7 = .bool t6 ∧ Aside0 (wc.heap[g4]? = some (.cells #[.string t1, .int .i64 t2, .int .i64 t3, .int .i64 t4, .int .i64 t5] 23 (0, 0))) ∧ Aside0 (wc.heap[g6]? = some (.cells #[.string t1, .int .i64 t2, .int .i64 t3, .int .i64 t4, .int .i64 t5] 23 (0, 0))) ∧ Aside0 (w.heap.size ≤ g6) ∧ Aside0 (Below w.heap.size w wc))
    case first =>
      have B4 := BK4.out
      go_wp2_with (first | (go_at_call 8; (with_reducible refine (spec_HeaderOf.calls k rom t1 t2 t3 t4 t5 t6 _ A6).mono ?_); rintro e w9 ⟨rfl, hb⟩; have B4b := blk_below (by (with_reducible repeat (first | refine blk_drewN ?_ _ | refine blk_drew ?_)); exact B4) hb; have n0_ := Aside0.mk (below_step (by repeat (first | (with_reducible first | exact HB.out | apply below_alloc | apply pw_below_drewN | apply below_drew1) | exact HB.out)) hb); clear HB; have HB := n0_; clear n0_) | ((with_reducible refine gate_dst (N := 6) rfl ?_); (try (refine gate_guard (by rfl) ?_; dsimp only)); refine box_event ?hg (N := 6) ?hd (cs := #[.string (⟨#[]⟩ : ByteArray), .int .i64 0, .int .i64 0, .int .i64 0, .int .i64 0]) (t := 23) ?hr ?_; (case hd => rfl); (case hg => rfl); (case hr => first | (go_simp; done) | (go_simp; rfl)); intro gb hg wB hbox hb; have lt4 : g4 < gb := (by rw [hg]; exact blk_lt (by (with_reducible repeat (first | refine blk_drewN ?_ _ | refine blk_drew ?_)); exact B4b)); have B4c := blk_below (by (with_reducible repeat (first | refine blk_drewN ?_ _ | refine blk_drew ?_)); exact B4b) hb; have GE := (by rw [hg]; exact (below_size (by repeat (first | (with_reducible first | exact HB.out | apply below_alloc | apply pw_below_drewN | apply below_drew1) | exact HB.out))) : w.heap.size ≤ gb); have HBB := below_step (by repeat (first | (with_reducible first | exact HB.out | apply below_alloc | apply pw_below_drewN | apply below_drew1) | exact HB.out)) hb; have hcz_0 : wB.cell? ⟨gb, 0, none⟩ = some (.string (⟨#[]⟩ : ByteArray)) := (blk_cell hbox 0).trans rfl; have hcz_1 : wB.cell? ⟨gb, 1, none⟩ = some (.int .i64 0) := (blk_cell hbox 1).trans rfl; have hcz_2 : wB.cell? ⟨gb, 2, none⟩ = some (.int .i64 0) := (blk_cell hbox 2).trans rfl; have hcz_3 : wB.cell? ⟨gb, 3, none⟩ = some (.int .i64 0) := (blk_cell hbox 3).trans rfl; have hcz_4 : wB.cell? ⟨gb, 4, none⟩ = some (.int .i64 0) := (blk_cell hbox 4).trans rfl; have hfz_0 := blk_frozen hbox 0; have hfz_1 := blk_frozen hbox 1; have hfz_2 := blk_frozen hbox 2; have hfz_3 := blk_frozen hbox 3; have hfz_4 := blk_frozen hbox 4; replace hbox := Aside0.mk hbox; replace GE := Aside0.mk GE; replace HBB := Aside0.mk HBB; (try replace lt4 := Aside0.mk lt4); (try replace B4c := Aside0.mk B4c); clear hg hb))
      go_meet
      case rel => exact ⟨gb, rfl, rfl, ⟨(((((((Below.refl gb wB).setCell (p := ⟨gb, 0, none⟩) (Nat.le_refl _) _).setCell (p := ⟨gb, 1, none⟩) (Nat.le_refl _) _).setCell (p := ⟨gb, 2, none⟩) (Nat.le_refl _) _).setCell (p := ⟨gb, 3, none⟩) (Nat.le_refl _) _).setCell (p := ⟨gb, 4, none⟩) (Nat.le_refl _) _).block g4 lt4.out).trans B4c.out⟩, ⟨(by (with_reducible repeat (first | refine blk_drewN ?_ _ | refine blk_drew ?_ | refine blk_alloc ?_ _)); refine blk_put (cs := #[.string t1, .int .i64 t2, .int .i64 t3, .int .i64 t4, .int .i64 0]) ?_ 4 _ rfl; (with_reducible repeat (first | refine blk_drewN ?_ _ | refine blk_drew ?_ | refine blk_alloc ?_ _)); refine blk_put (cs := #[.string t1, .int .i64 t2, .int .i64 t3, .int .i64 0, .int .i64 0]) ?_ 3 _ rfl; (with_reducible repeat (first | refine blk_drewN ?_ _ | refine blk_drew ?_ | refine blk_alloc ?_ _)); refine blk_put (cs := #[.string t1, .int .i64 t2, .int .i64 0, .int .i64 0, .int .i64 0]) ?_ 2 _ rfl; (with_reducible repeat (first | refine blk_drewN ?_ _ | refine blk_drew ?_ | refine blk_alloc ?_ _)); refine blk_put (cs := #[.string t1, .int .i64 0, .int .i64 0, .int .i64 0, .int .i64 0]) ?_ 1 _ rfl; (with_reducible repeat (first | refine blk_drewN ?_ _ | refine blk_drew ?_ | refine blk_alloc ?_ _)); refine blk_put (cs := #[.string (⟨#[]⟩ : ByteArray), .int .i64 0, .int .i64 0, .int .i64 0, .int .i64 0]) ?_ 0 _ rfl; (with_reducible repeat (first | refine blk_drewN ?_ _ | refine blk_drew ?_ | refine blk_alloc ?_ _)); exact hbox.out)⟩, ⟨GE.out⟩, ⟨(by repeat (first | (with_reducible first | exact HBB.out | apply below_alloc | apply pw_below_drewN | apply below_drew1 | refine below_set ?_ GE.out) | exact HBB.out))⟩⟩
    case rest =>
      clear HB BK4
      obtain ⟨g6, rfl, rfl, BK4, BK6, GE6, HB⟩ := hcut
      go_upto_region 6 with (fail)
      go_cut [8] (fun v8 wc => v8 = .string oth ∧ Aside0 (wc.heap[g4]? = some (.cells #[.string t1, .int .i64 t2, .int .i64 t3, .int .i64 t4, .int .i64 t5] 23 (0, 0))) ∧ Aside0 (wc.heap[g6]? = some (.cells #[.string t1, .int .i64 t2, .int .i64 t3, .int .i64 t4, .int .i64 t5] 23 (0, 0))) ∧ Aside0 (Below w.heap.size w wc))
      case first =>
        go_wp2_with (first | (go_at_call 17; (with_reducible refine (spec_DrawHeaderSum.calls k _ _ l0 oth _ ?side1 ?side2 A7).mono ?_); (case side1 => exact Kd.C_below HR0.out (by repeat (first | (with_reducible first | exact HB.out | apply below_alloc | apply pw_below_drewN | apply below_drew1) | exact HB.out))); (case side2 => exact HC0.out); rintro e w8 ⟨rfl, hb⟩; have B4 := blk_below (by (with_reducible repeat (first | refine blk_drewN ?_ _ | refine blk_drew ?_)); exact BK4.out) hb; have B6 := blk_below (by (with_reducible repeat (first | refine blk_drewN ?_ _ | refine blk_drew ?_)); exact BK6.out) hb; have n0_ := Aside0.mk (below_step (by repeat (first | (with_reducible first | exact HB.out | apply below_alloc | apply pw_below_drewN | apply below_drew1) | exact HB.out)) hb); clear HB; have HB := n0_; clear n0_))
        go_meet
        case rel => exact ⟨rfl, ⟨B4⟩, ⟨B6⟩, ⟨(by repeat (first | (with_reducible first | exact HB.out | apply below_alloc | apply pw_below_drewN | apply below_drew1) | exact HB.out))⟩⟩
      case rest =>
        clear HB BK4 BK6
        obtain ⟨rfl, BK4, BK6, HB⟩ := hcut
        go_upto_region 7 with (fail)
        go_cut [53] (fun v53 wc => v53 = .bool (!t6) ∧ Aside0 (wc.heap[g4]? = some (.cells #[.string t1, .int .i64 t2, .int .i64 t3, .int .i64 t4, .int .i64 t5] 23 (0, 0))) ∧ Aside0 (wc.heap[g6]? = some (.cells #[.string t1, .int .i64 t2, .int .i64 t3, .int .i64 t4, .int .i64 t5] 23 (0, 0))) ∧ Aside0 (Below w.heap.size w wc))
        case first =>
          have hz4_0 : wc.cell? ⟨g4, 0, none⟩ = some (.string t1) := (blk_cell BK4.out 0).trans rfl
          have hz4_1 : wc.cell? ⟨g4, 1, none⟩ = some (.int .i64 t2) := (blk_cell BK4.out 1).trans rfl
          have hz4_2 : wc.cell? ⟨g4, 2, none⟩ = some (.int .i64 t3) := (blk_cell BK4.out 2).trans rfl
          have hz4_3 : wc.cell? ⟨g4, 3, none⟩ = some (.int .i64 t4) := (blk_cell BK4.out 3).trans rfl
          have hz4_4 : wc.cell? ⟨g4, 4, none⟩ = some (.int .i64 t5) := (blk_cell BK4.out 4).trans rfl
          have hz6_0 : wc.cell? ⟨g6, 0, none⟩ = some (.string t1) := (blk_cell BK6.out 0).trans rfl
          have hz6_1 : wc.cell? ⟨g6, 1, none⟩ = some (.int .i64 t2) := (blk_cell BK6.out 1).trans rfl
          have hz6_2 : wc.cell? ⟨g6, 2, none⟩ = some (.int .i64 t3) := (blk_cell BK6.out 2).trans rfl
          have hz6_3 : wc.cell? ⟨g6, 3, none⟩ = some (.int .i64 t4) := (blk_cell BK6.out 3).trans rfl
          have hz6_4 : wc.cell? ⟨g6, 4, none⟩ = some (.int .i64 t5) := (blk_cell BK6.out 4).trans rfl
          clear H
          cases t6 with
          | false =>
            go_wp2_with (first | (go_at_call 18; (with_reducible refine (impl_HeaderSum.calls k oth xa _ A8).mono ?_); rintro e w' ⟨rfl, ⟨nd2, rfl⟩⟩) | (go_at_call 19; (with_reducible refine (spec_HeaderSum.calls k oth xa _ A9).mono ?_); rintro e w' ⟨rfl, ⟨nd2, rfl⟩⟩) | (go_at_call 20; (with_reducible refine (impl_WholeSum.calls k oth xc _ A10).mono ?_); rintro e w' ⟨rfl, ⟨nd2, rfl⟩⟩) | (go_at_call 21; (with_reducible refine (spec_WholeSum.calls k oth xc _ A11).mono ?_); rintro e w' ⟨rfl, ⟨nd2, rfl⟩⟩))
            go_meet
            case rel => exact ⟨rfl, ⟨by (with_reducible repeat (first | refine blk_drewN ?_ _ | refine blk_drew ?_)); exact BK4.out⟩, ⟨by (with_reducible repeat (first | refine blk_drewN ?_ _ | refine blk_drew ?_)); exact BK6.out⟩, ⟨(by repeat (first | (with_reducible first | exact HB.out | apply below_alloc | apply pw_below_drewN | apply below_drew1) | exact HB.out))⟩⟩
          | true =>
            go_wp2_with (first | (go_at_call 18; (with_reducible refine (impl_HeaderSum.calls k oth xa _ A8).mono ?_); rintro e w' ⟨rfl, ⟨nd2, rfl⟩⟩) | (go_at_call 19; (with_reducible refine (spec_HeaderSum.calls k oth xa _ A9).mono ?_); rintro e w' ⟨rfl, ⟨nd2, rfl⟩⟩) | (go_at_call 20; (with_reducible refine (impl_WholeSum.calls k oth xc _ A10).mono ?_); rintro e w' ⟨rfl, ⟨nd2, rfl⟩⟩) | (go_at_call 21; (with_reducible refine (spec_WholeSum.calls k oth xc _ A11).mono ?_); rintro e w' ⟨rfl, ⟨nd2, rfl⟩⟩))
            go_meet
            case rel => exact ⟨rfl, ⟨by (with_reducible repeat (first | refine blk_drewN ?_ _ | refine blk_drew ?_)); exact BK4.out⟩, ⟨by (with_reducible repeat (first | refine blk_drewN ?_ _ | refine blk_drew ?_)); exact BK6.out⟩, ⟨(by repeat (first | (with_reducible first | exact HB.out | apply below_alloc | apply pw_below_drewN | apply below_drew1) | exact HB.out))⟩⟩
        case rest =>
          clear HB BK4 BK6
          obtain ⟨rfl, BK4, BK6, HB⟩ := hcut
          have hz4_0 : wc.cell? ⟨g4, 0, none⟩ = some (.string t1) := (blk_cell BK4.out 0).trans rfl
          have hz4_1 : wc.cell? ⟨g4, 1, none⟩ = some (.int .i64 t2) := (blk_cell BK4.out 1).trans rfl
          have hz4_2 : wc.cell? ⟨g4, 2, none⟩ = some (.int .i64 t3) := (blk_cell BK4.out 2).trans rfl
          have hz4_3 : wc.cell? ⟨g4, 3, none⟩ = some (.int .i64 t4) := (blk_cell BK4.out 3).trans rfl
          have hz4_4 : wc.cell? ⟨g4, 4, none⟩ = some (.int .i64 t5) := (blk_cell BK4.out 4).trans rfl
          have hz6_0 : wc.cell? ⟨g6, 0, none⟩ = some (.string t1) := (blk_cell BK6.out 0).trans rfl
          have hz6_1 : wc.cell? ⟨g6, 1, none⟩ = some (.int .i64 t2) := (blk_cell BK6.out 1).trans rfl
          have hz6_2 : wc.cell? ⟨g6, 2, none⟩ = some (.int .i64 t3) := (blk_cell BK6.out 2).trans rfl
          have hz6_3 : wc.cell? ⟨g6, 3, none⟩ = some (.int .i64 t4) := (blk_cell BK6.out 3).trans rfl
          have hz6_4 : wc.cell? ⟨g6, 4, none⟩ = some (.int .i64 t5) := (blk_cell BK6.out 4).trans rfl
          cases t6 with
          | false =>
            clear H
            go_wp2
            go_ret
            exact ⟨rfl, (by repeat (first | (with_reducible first | exact HB.out | apply below_alloc | apply pw_below_drewN | apply below_drew1) | exact HB.out))⟩
          | true =>
            replace H := H.out
            rw [if_pos rfl] at H
            unfold laws_FnHeaders.tail at H
            by_cases c5 : 55 < (rom.size : Int)
            rotate_left
            · rw [if_neg c5] at H; cases H
            rw [if_pos c5] at H
            replace H := Option.bind_eq_some_iff.mp H
            obtain ⟨⟨q1, q2, q3, q4, q5, q6⟩, A12, H⟩ := H
            replace H := Option.bind_eq_some_iff.mp H
            obtain ⟨sa, A13, H⟩ := H
            replace H := Option.bind_eq_some_iff.mp H
            obtain ⟨sb, A14, H⟩ := H
            by_cases e4 : q6 = false
            rotate_left
            · rw [if_neg e4] at H; cases H
            subst e4
            rw [if_pos rfl] at H
            by_cases e5 : t4 = sa
            rotate_left
            · rw [if_neg e5] at H; cases H
            subst e5
            rw [if_pos rfl] at H
            by_cases e6 : t5 = sb
            rotate_left
            · rw [if_neg e6] at H; cases H
            subst e6
            clear H
            have hn : 55 < (bytesOf rom).length := by rw [bytesOf_length]; omega
            obtain ⟨c, hc⟩ : ∃ c, grownCap wc rom.size 0 5 = c := ⟨_, rfl⟩
            obtain ⟨W, hW⟩ : ∃ W, Lib.bytesWorld wc 5 rom = W := ⟨_, rfl⟩
            obtain ⟨g, hg⟩ : ∃ g, wc.heap.size = g := ⟨_, rfl⟩
            have hBR : BR 5 g (bytesOf rom) c W := by rw [← hW, ← hc, ← hg]; exact LibBR.fresh wc 5 rom
            have hb : Below g wc W := by rw [← hW, ← hg]; exact below_made wc 5 rom
            have hcv : (convert 9 28 (.string rom)).run Tryd.prog wc = .ok (.slice (some ⟨g, 0, none⟩) (bytesOf rom).length c) W := by
              rw [← hW, ← hc, ← hg, bytesOf_length]
              exact Lib.run_convert_string_bytes wc 9 28 5 rom Tryd.underlying9 Tryd.underlying28 Tryd.underlying5
            have hcell : W.cell? ⟨g, 55, none⟩ = some (.int .u8 (bt rom 55)) := (hBR.cell_nat 55 hn).trans (by rw [← rd_bytesOf]; rfl)
            have hfz := hBR.frozen_nat 55 hn
            have hs := (hBR.set_nat 55 hn (Go.bits .xor .u8 (bt rom 55) 1)).string (P := Tryd.prog) Tryd.underlying28 Tryd.underlying5 Tryd.underlying9
            rw [List.length_set] at hs
            replace hs : (convert 28 9 (.slice (some ⟨g, 0, none⟩) (bytesOf rom).length c)).run Tryd.prog (W.setCell ⟨g, 55, none⟩ (.int .u8 (Go.bits .xor .u8 (bt rom 55) 1))) = .ok (.string (turnedAt rom)) (W.setCell ⟨g, 55, none⟩ (.int .u8 (Go.bits .xor .u8 (bt rom 55) 1))) := hs
            have hb2 : Below g wc (W.setCell ⟨g, 55, none⟩ (.int .u8 (Go.bits .xor .u8 (bt rom 55) 1))) := hb.setCell (p := ⟨g, 55, none⟩) (Nat.le_refl _) _
            have B4 := Aside0.mk ((hb2.block g4 (by rw [← hg]; exact blk_lt BK4.out)).trans BK4.out)
            have HB2 := Aside0.mk (HB.out.trans (show Below w.heap.size wc _ from ⟨hb2.os, hb2.tape, hb2.output, hb2.size, fun i hi => hb2.block i (by rw [← hg]; exact Nat.lt_of_lt_of_le hi HB.out.size)⟩))
            have hi1 : (55 : Int) < ((bytesOf rom).length : Int) := by omega
            clear HB BK4 BK6 hBR hb hb2 hW hc hg c5
            have HB := HB2
            clear HB2
            go_upto_region 11 with (fail)
            go_cut [10, 11] (fun v10 v11 wd => v11 = .bool false ∧ Aside0 (wd.heap[g4]? = some (.cells #[.string t1, .int .i64 t2, .int .i64 t3, .int .i64 t4, .int .i64 t5] 23 (0, 0))) ∧ Aside0 (Below w.heap.size w wd))
            case first =>
              go_wp2_with (first | (go_at_call 9; (with_reducible refine (impl_HeaderOf.calls k (turnedAt rom) q1 q2 q3 q4 q5 false _ A12).mono ?_); rintro e w9 ⟨rfl, hb⟩; have B4x := blk_below (by (with_reducible repeat (first | refine blk_drewN ?_ _ | refine blk_drew ?_)); exact B4.out) hb; have n0_ := Aside0.mk (below_step (by repeat (first | (with_reducible first | exact HB.out | apply below_alloc | apply pw_below_drewN | apply below_drew1) | exact HB.out)) hb); clear HB; have HB := n0_; clear n0_) | ((with_reducible refine gate_dst (N := 10) rfl ?_); (try (refine gate_guard (by rfl) ?_; dsimp only)); refine box_event ?hg (N := 10) ?hd (cs := #[.string (⟨#[]⟩ : ByteArray), .int .i64 0, .int .i64 0, .int .i64 0, .int .i64 0]) (t := 23) ?hr ?_; (case hd => rfl); (case hg => rfl); (case hr => first | (go_simp; done) | (go_simp; rfl)); intro gb hg wB hbox hb; have lt4 : g4 < gb := (by rw [hg]; exact blk_lt (by (with_reducible repeat (first | refine blk_drewN ?_ _ | refine blk_drew ?_)); exact B4x)); have B4c := blk_below (by (with_reducible repeat (first | refine blk_drewN ?_ _ | refine blk_drew ?_)); exact B4x) hb; have GE := (by rw [hg]; exact (below_size (by repeat (first | (with_reducible first | exact HB.out | apply below_alloc | apply pw_below_drewN | apply below_drew1) | exact HB.out))) : w.heap.size ≤ gb); have HBB := below_step (by repeat (first | (with_reducible first | exact HB.out | apply below_alloc | apply pw_below_drewN | apply below_drew1) | exact HB.out)) hb; have hcz_0 : wB.cell? ⟨gb, 0, none⟩ = some (.string (⟨#[]⟩ : ByteArray)) := (blk_cell hbox 0).trans rfl; have hcz_1 : wB.cell? ⟨gb, 1, none⟩ = some (.int .i64 0) := (blk_cell hbox 1).trans rfl; have hcz_2 : wB.cell? ⟨gb, 2, none⟩ = some (.int .i64 0) := (blk_cell hbox 2).trans rfl; have hcz_3 : wB.cell? ⟨gb, 3, none⟩ = some (.int .i64 0) := (blk_cell hbox 3).trans rfl; have hcz_4 : wB.cell? ⟨gb, 4, none⟩ = some (.int .i64 0) := (blk_cell hbox 4).trans rfl; have hfz_0 := blk_frozen hbox 0; have hfz_1 := blk_frozen hbox 1; have hfz_2 := blk_frozen hbox 2; have hfz_3 := blk_frozen hbox 3; have hfz_4 := blk_frozen hbox 4; replace hbox := Aside0.mk hbox; replace GE := Aside0.mk GE; replace HBB := Aside0.mk HBB; (try replace lt4 := Aside0.mk lt4); (try replace B4c := Aside0.mk B4c); clear hg hb))
              go_meet
              case rel => exact ⟨rfl, ⟨(((((((Below.refl gb wB).setCell (p := ⟨gb, 0, none⟩) (Nat.le_refl _) _).setCell (p := ⟨gb, 1, none⟩) (Nat.le_refl _) _).setCell (p := ⟨gb, 2, none⟩) (Nat.le_refl _) _).setCell (p := ⟨gb, 3, none⟩) (Nat.le_refl _) _).setCell (p := ⟨gb, 4, none⟩) (Nat.le_refl _) _).block g4 lt4.out).trans B4c.out⟩, ⟨(by repeat (first | (with_reducible first | exact HBB.out | apply below_alloc | apply pw_below_drewN | apply below_drew1 | refine below_set ?_ GE.out) | exact HBB.out))⟩⟩
            case rest =>
              clear HB B4
              obtain ⟨rfl, B4, HB⟩ := hcut
              have hy4_3 : wc.cell? ⟨g4, 3, none⟩ = some (.int .i64 t4) := (blk_cell B4.out 3).trans rfl
              have hy4_4 : wc.cell? ⟨g4, 4, none⟩ = some (.int .i64 t5) := (blk_cell B4.out 4).trans rfl
              have g1 : (t4 == t4) = true := beq_self_eq_true _
              have g2 : (t5 == t5) = true := beq_self_eq_true _
              have g3 : decide (t4 = t4) = true := decide_eq_true rfl
              have g4e : decide (t5 = t5) = true := decide_eq_true rfl
              clear hcv hcell hfz hs hi1 hn A5 A6 A8 A9 A10 A11 A12 A4 A7 A2 hz4_0 hz4_1 hz4_2 hz4_3 hz4_4 hz6_0 hz6_1 hz6_2 hz6_3 hz6_4 hu23
              go_upto_region 12 with (fail)
              go_quiet (first | (go_at_call 18; (with_reducible refine (impl_HeaderSum.calls k rom t4 _ A13).mono ?_); rintro e w' ⟨rfl, ⟨nd2, rfl⟩⟩; (try first | exact ⟨rfl, _, World.drewN_drewN _ _ _⟩ | exact ⟨rfl, _, Eq.trans (World.drewN_drewN _ _ _) (congrArg (World.drewN _) (Nat.add_assoc _ _ _))⟩)) | (go_at_call 20; (with_reducible refine (impl_WholeSum.calls k rom t5 _ A14).mono ?_); rintro e w' ⟨rfl, ⟨nd2, rfl⟩⟩; (try first | exact ⟨rfl, _, World.drewN_drewN _ _ _⟩ | exact ⟨rfl, _, Eq.trans (World.drewN_drewN _ _ _) (congrArg (World.drewN _) (Nat.add_assoc _ _ _))⟩)))
              go_wp2
              go_ret
              exact ⟨by first | rfl | simp, (by repeat (first | (with_reducible first | exact HB.out | apply below_alloc | apply pw_below_drewN | apply below_drew1) | exact HB.out))⟩
theorem laws_FnHeaders.walk (P : laws_FnHeaders.Pure) (a0 : Option Addr) (len0 cap0 : Nat) (z0 : List Int) (w : World) (w0 : (a0 = none ∧ len0 = 0 ∧ cap0 = 0 ∧ z0 = []) ∨ ∃ x, a0 = some x ∧ len0 ≤ cap0 ∧ cap0 ≤ maxLen ∧ z0.length = cap0 ∧ (∀ i, i < z0.length → w.cell? (x.add i) = some (.int .u8 (z0.getD i 0))) ∧ ∀ n ∈ z0, (Lit.int .u8 n).wf = true) (y0 : len0 * 1 ≤ 140737488351232) :
    Calls Tryd.prog 5 #[.slice a0 len0 cap0] w fun e w' => e = .returned (.bool true) ∧ Below w.heap.size w w' := by
  obtain ⟨l0, rfl, hr0, hm0, hw0, hc0⟩ := ReadsInt.ofRowC w0
  obtain ⟨k, h⟩ := P l0 hm0 y0 hw0
  refine (laws_FnHeaders.calls k _ _ l0 w (Kd.C_of_reads (d := (0 : Int)) (h1 := fun _ => rfl) hr0) hc0 h).mono ?_
  rintro e w' ⟨rfl, hd⟩
  exact ⟨rfl, hd⟩
end Go.Proofs.YtcohcndliaaacaaDoor.QFnHeaders
