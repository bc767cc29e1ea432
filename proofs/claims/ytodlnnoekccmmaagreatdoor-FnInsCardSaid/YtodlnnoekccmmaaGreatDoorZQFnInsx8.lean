/- The machine's side of a law, written by a program of this session for this claim. -/
import Derived.Test.YtodlnnoekccmmaaGreatDoorZQq
import Derived.Test.YtodlnnoekccmmaaGreatDoorZQFnInsx0
namespace Go.Proofs.YtodlnnoekccmmaaGreatDoor.QFnIns
open Go.Proofs.YtodlnnoekccmmaaGreatDoor.Qq
open Go.RowKit Go.Proofs.YtodlnnoekccmmaaGreatDoor.LibX Go.Proofs.YtodlnnoekccmmaaGreatDoor.LibE Go.Proofs.YtodlnnoekccmmaaGreatDoorW.PrintWords Go.Proofs.YtodlnnoekccmmaaGreatDoorW.PrintLast Go.Proofs.YtodlnnoekccmmaaGreatDoorW.PrintMore
attribute [local go_sem] max2_int min2_int max_two min_two max_three min_three max_four min_four   -- for this text's walks alone
set_option maxHeartbeats 8000000
set_option maxRecDepth 100000
set_option linter.unusedVariables false
set_option linter.unusedSimpArgs false
/-- A state of type 96 at block g of W; what its slices lead to came in by w0. -/
def IsS96 (w0 W : World) (g : Nat) (f0 : List Int) (f1 : Int) : Prop := ∃ A0 c0, W.heap[g]? = some (.cells #[.slice A0 f0.length c0, .int .i64 f1] 96 (0, 0)) ∧ w0.heap.size ≤ g ∧ Kd.C (Kd.int .u8) w0 A0 f0.length f0
theorem IsS96.grown {w0 W : World} {g : Nat} {f0 : List Int} {f1 : Int} {W1 : World} {row : Option Nat} (h : IsS96 w0 W g f0 f1) (hw : W.grownBy W1 row) (hne : some g ≠ row) : IsS96 w0 W1 g f0 f1 := by
 obtain ⟨A0, c0, hb, hg, hr0⟩ := h
 exact ⟨A0, c0, blk_grown hb hw hne, hg, hr0⟩
theorem IsS96.own_neN {w0 W : World} {g : Nat} {f0 : List Int} {f1 : Int} {α : Type} {d : Kd α} {e : Nat} {base : Nat} {ok : Nat → Prop} {v : Value} {xs : List α} (h : IsS96 w0 W g f0 f1) (ho : Kd.N d e W base ok v xs) (ht : e ≠ 96) : some g ≠ v.ownBlock := by
 obtain ⟨A0, c0, hb, hg, hr0⟩ := h
 exact Kd.N_ne ho hb ht
theorem IsS96.fresh {w0 W : World} {g : Nat} {f0 : List Int} {f1 : Int} (h : IsS96 w0 W g f0 f1) : ∀ k, W.heap.size ≤ k → k ≠ g := by
 obtain ⟨A0, c0, hb, hg, hr0⟩ := h
 exact Kd.freshB hb
theorem IsS96.kept {w0 W : World} {g : Nat} {f0 : List Int} {f1 : Int} {W1 : World} {S : Nat → Prop} (h : IsS96 w0 W g f0 f1) (hk : Kept W W1 S) (hne : ¬ S g) : IsS96 w0 W1 g f0 f1 := by
 obtain ⟨A0, c0, hb, hg, hr0⟩ := h
 exact ⟨A0, c0, blk_kept hb hk hne, hg, hr0⟩
theorem IsS96.below {w0 W : World} {g : Nat} {f0 : List Int} {f1 : Int} {W1 : World} (h : IsS96 w0 W g f0 f1) (hw : Below W.heap.size W W1) : IsS96 w0 W1 g f0 f1 := h.grown (grown_of_below hw none) (by simp)
theorem IsS96.alloc {w0 W : World} {g : Nat} {f0 : List Int} {f1 : Int} (h : IsS96 w0 W g f0 f1) (o : Obj) : IsS96 w0 (W.alloc o) g f0 f1 := h.below (below_alloc (Below.refl _ _) o)
theorem IsS96.drewN {w0 W : World} {g : Nat} {f0 : List Int} {f1 : Int} (h : IsS96 w0 W g f0 f1) (m : Nat) : IsS96 w0 (W.drewN m) g f0 f1 := h
theorem IsS96.drew {w0 W : World} {g : Nat} {f0 : List Int} {f1 : Int} (h : IsS96 w0 W g f0 f1) : IsS96 w0 W.drew g f0 f1 := h
theorem IsS96.at_ {w0 W : World} {g : Nat} {f0 : List Int} {f1 : Int} {w' : World} {m : Nat} (hq : W.drewN m = w') (h : IsS96 w0 W g f0 f1) : IsS96 w0 w' g f0 f1 := by subst hq; exact IsS96.drewN h m
theorem IsS96.apart {w0 W : World} {g : Nat} {f0 : List Int} {f1 : Int} {α : Type} {d : Kd α} {e : Nat} {base : Nat} {ok : Nat → Prop} {v : Value} {xs : List α} (h : IsS96 w0 W g f0 f1) (ho : d.R e W base ok v xs) (ht : ∀ q, q ∈ e :: d.E → q ≠ 96) : d.R e W base (fun k => ok k ∧ k ≠ g) v xs := by
 obtain ⟨A0, c0, hb, hg, hr0⟩ := h
 exact Kd.R_types ho hb ht
theorem IsS96.own_ne {w0 W : World} {g : Nat} {f0 : List Int} {f1 : Int} {α : Type} {d : Kd α} {e : Nat} {base : Nat} {ok : Nat → Prop} {v : Value} {xs : List α} (h : IsS96 w0 W g f0 f1) (ho : d.R e W base ok v xs) (ht : e ≠ 96) : some g ≠ v.ownBlock := by
 obtain ⟨A0, c0, hb, hg, hr0⟩ := h
 exact Kd.R_ne ho hb ht
theorem IsS96.apartQ {w0 W : World} {g : Nat} {f0 : List Int} {f1 : Int} {α : Type} {d : Kd α} {e : Nat} {base : Nat} {ok : Nat → Prop} {v : Value} {xs : List α} (h : IsS96 w0 W g f0 f1) (ho : d.Q e W base ok v xs) (ht : ∀ q, q ∈ e :: d.E → q ≠ 96) : d.Q e W base (fun k => ok k ∧ k ≠ g) v xs := by
 obtain ⟨A0, c0, hb, hg, hr0⟩ := h
 exact Kd.Q_types ho hb ht
theorem IsS96.own_neQ {w0 W : World} {g : Nat} {f0 : List Int} {f1 : Int} {α : Type} {d : Kd α} {e : Nat} {base : Nat} {ok : Nat → Prop} {v : Value} {xs : List α} (h : IsS96 w0 W g f0 f1) (ho : d.Q e W base ok v xs) (ht : e ≠ 96) : some g ≠ v.ownBlock := by
 obtain ⟨A0, c0, hb, hg, hr0⟩ := h
 exact Kd.Q_ne ho hb ht
theorem IsS96.apartS {w0 W : World} {g : Nat} {f0 : List Int} {f1 : Int} {α : Type} {d : Kd α} {e : Nat} {base : Nat} {ok : Nat → Prop} {v : Value} {xs : List α} (h : IsS96 w0 W g f0 f1) (ho : d.S e W base ok v xs) (ht : ∀ q, q ∈ e :: d.E → q ≠ 96) : d.S e W base (fun k => ok k ∧ k ≠ g) v xs := by
 obtain ⟨A0, c0, hb, hg, hr0⟩ := h
 exact Kd.S_types ho hb ht
theorem IsS96.own_neS {w0 W : World} {g : Nat} {f0 : List Int} {f1 : Int} {α : Type} {d : Kd α} {e : Nat} {base : Nat} {ok : Nat → Prop} {v : Value} {xs : List α} (h : IsS96 w0 W g f0 f1) (ho : d.S e W base ok v xs) (ht : e ≠ 96) : some g ≠ v.ownBlock := by
 obtain ⟨A0, c0, hb, hg, hr0⟩ := h
 exact Kd.S_ne ho hb ht
theorem IsS96.lt {w0 W : World} {g : Nat} {f0 : List Int} {f1 : Int} (h : IsS96 w0 W g f0 f1) : g < W.heap.size := by
 obtain ⟨A0, c0, hb, hg, hr0⟩ := h
 exact blk_lt hb
theorem IsS96.ge {w0 W : World} {g : Nat} {f0 : List Int} {f1 : Int} (h : IsS96 w0 W g f0 f1) : w0.heap.size ≤ g := by
 obtain ⟨A0, c0, hb, hg, hr0⟩ := h
 exact hg
theorem IsS96.ne_blk {w0 W : World} {g : Nat} {f0 : List Int} {f1 : Int} {a : Nat} {cs : Array Value} {t : TypeId} {fr : Nat × Nat} (h : IsS96 w0 W g f0 f1) (hb2 : W.heap[a]? = some (.cells cs t fr)) (ht : t ≠ 96) : g ≠ a := by
 obtain ⟨A0, c0, hb, hg, hr0⟩ := h
 rintro rfl
 rw [hb] at hb2
 injection hb2 with hb2
 injection hb2 with _ ht2
 exact ht ht2.symm
theorem IsS96.far {w0 W : World} {g : Nat} {f0 : List Int} {f1 : Int} {p : Addr} (h : IsS96 w0 W g f0 f1) (hne : g ≠ p.block) (u : Value) : IsS96 w0 (W.setCell p u) g f0 f1 := by
 obtain ⟨A0, c0, hb, hg, hr0⟩ := h
 exact ⟨A0, c0, blk_far hb hne u, hg, hr0⟩
theorem cellS96_0 {W : World} {g : Nat} {A0 : Option Addr} {c0 : Nat} {f0 : List Int} {f1 : Int} (h : W.heap[g]? = some (.cells #[.slice A0 f0.length c0, .int .i64 f1] 96 (0, 0))) : W.cell? ⟨g, 0, none⟩ = some (.slice A0 f0.length c0) := (blk_cell h 0).trans rfl
theorem cellS96_1 {W : World} {g : Nat} {A0 : Option Addr} {c0 : Nat} {f0 : List Int} {f1 : Int} (h : W.heap[g]? = some (.cells #[.slice A0 f0.length c0, .int .i64 f1] 96 (0, 0))) : W.cell? ⟨g, 1, none⟩ = some (.int .i64 f1) := (blk_cell h 1).trans rfl
theorem IsS96.set_1 {w0 W : World} {g : Nat} {f0 : List Int} {f1 : Int} (h : IsS96 w0 W g f0 f1) (x : Int) : IsS96 w0 (W.setCell ⟨g, 1, none⟩ (.int .i64 x)) g f0 x := by
 obtain ⟨A0, c0, hb, hg, hr0⟩ := h
 exact ⟨A0, c0, by simpa using blk_set hb 1 (.int .i64 x), hg, hr0⟩
theorem IsS96.new (w0 W : World) (A0 : Option Addr) (c0 : Nat) (f0 : List Int) (f1 : Int) (hB : Below w0.heap.size w0 W) (hr0 : Kd.C (Kd.int .u8) w0 A0 f0.length f0) : IsS96 w0 (W.alloc (.cells #[.slice A0 f0.length c0, .int .i64 f1] 96)) W.heap.size f0 f1 := ⟨A0, c0, by simpa using heap_alloc_new W _, hB.size, hr0⟩
def spec_l1Open.f (l0 : List Int) : Option (List Int × Int) := some (l0, 0)
theorem spec_l1Open.calls (A0 : Option Addr) (c0 : Nat) (l0 : List Int) (r1 : List Int) (r2 : Int) (w0 w : World) (hB : Below w0.heap.size w0 w) (hr0 : Kd.C (Kd.int .u8) w0 A0 l0.length l0) (hc0 : l0.length ≤ c0) (h : spec_l1Open.f l0 = some (r1, r2)) :
  Calls Tryz.prog 43 #[.slice A0 l0.length c0] w fun e w' => ∃ g_ : Nat, e = .returned (.pointer (some ⟨g_, 0, none⟩)) ∧ IsS96 w0 w' g_ r1 r2 ∧ Below w0.heap.size w0 w' ∧ Below w.heap.size w w' := by
 have hu96 := Tryz.underlying96
 have HR0 := Aside0.mk hr0
 have HC0 := Aside0.mk hc0
 clear hr0 hc0
 have HBW := Aside0.mk (Below.refl w.heap.size w)
 have HW0 := Aside0.mk hB.size
 have HB := Aside0.mk hB
 clear hB
 have H : (some (l0, 0)) = some (r1, r2) := h
 clear h
 simp only [Option.some.injEq, Prod.mk.injEq] at H
 obtain ⟨rfl, rfl⟩ := H
 go_enter Tryz.func43, Tryz.ntmps43
 go_wp2_with (first | ((with_reducible refine gate_dst (N := 5) rfl ?_); refine box_event ?hg (N := 5) ?hd (cs := #[.slice A0 l0.length c0, .int .i64 0]) (t := 96) ?hr ?_; (case hd => rfl); (case hg => rfl); (case hr => exact q114_); intro gb267 hg w2 hbox hb; have n0_ := Aside0.mk (below_step HBW.out hb); have n1_ := Aside0.mk (below_step q57_ hb); have n2_ := Aside0.mk (hbox); have n3_ := Aside0.mk ((q41_ : w.heap.size ≤ gb267)); have n4_ := Aside0.mk ((Nat.le_trans HW0.out (q41_ : w.heap.size ≤ gb267) : w0.heap.size ≤ gb267)); clear HBW; clear HB; have HBW := n0_; have HB := n1_; have BK267 := n2_; have GW267 := n3_; have GE267 := n4_; clear n0_ n1_ n2_ n3_ n4_; clear hb hbox hg))
 go_ret
 exact ⟨_, rfl, (show IsS96 w0 _ gb267 l0 0 from ⟨_, _, by (with_reducible repeat (first | refine blk_drewN ?_ _ | refine blk_drew ?_ | refine blk_alloc ?_ _)); exact BK267.out, GE267.out, HR0.out⟩), by repeat (first | (with_reducible first | exact HB.out | apply below_alloc | apply pw_below_drewN | apply below_drew1 | refine below_set ?_ GE267.out) | exact HB.out), by repeat (first | (with_reducible first | exact HBW.out | apply below_alloc | apply pw_below_drewN | apply below_drew1 | refine below_set ?_ GW267.out) | exact HBW.out)⟩
def spec_l1Rd_next.f (s0_0 : List Int) (s0_1 : Int) : Option (Int × Int) := if s0_1 ≥ (s0_0.length : Int) then (some (0, s0_1)) else (if 0 ≤ (wrap64 ((wrap64 (s0_1 + 1)) - 1)) then (if (wrap64 ((wrap64 (s0_1 + 1)) - 1)) < (s0_0.length : Int) then (some (wrap64 (rd s0_0 (wrap64 ((wrap64 (s0_1 + 1)) - 1))), wrap64 (s0_1 + 1))) else (none)) else (none))
theorem spec_l1Rd_next.calls (g : Nat) (s0_0 : List Int) (s0_1 : Int) (r1 : Int) (r2 : Int) (w0 w : World) (hI : IsS96 w0 w g s0_0 s0_1) (hB : Below w0.heap.size w0 w) (h : spec_l1Rd_next.f s0_0 s0_1 = some (r1, r2)) :
  Calls Tryz.prog 91 #[.pointer (some ⟨g, 0, none⟩)] w fun e w' => e = .returned (.int .i64 r1) ∧ IsS96 w0 w' g s0_0 r2 ∧ Below w0.heap.size w0 w' ∧ KeepBut w w' g none := by
 have HI0 := Aside0.mk hI
 have HK := Aside0.mk (KeepBut.refl w g none)
 have HL := Aside0.mk hB.size
 clear hI
 have HW0 := Aside0.mk hB.size
 have HB := Aside0.mk hB
 clear hB
 have H : (if s0_1 ≥ (s0_0.length : Int) then (some (0, s0_1)) else (if 0 ≤ (wrap64 ((wrap64 (s0_1 + 1)) - 1)) then (if (wrap64 ((wrap64 (s0_1 + 1)) - 1)) < (s0_0.length : Int) then (some (wrap64 (rd s0_0 (wrap64 ((wrap64 (s0_1 + 1)) - 1))), wrap64 (s0_1 + 1))) else (none)) else (none))) = some (r1, r2) := h
 clear h
 by_cases c2 : s0_1 ≥ (s0_0.length : Int)
 ·rw [if_pos c2] at H
  have c2b0 : decide ((s0_0.length : Int) ≤ s0_1) = true := decide_eq_true c2
  clear c2
  simp only [Option.some.injEq, Prod.mk.injEq] at H
  obtain ⟨rfl, rfl⟩ := H
  obtain ⟨ASz3_0, cSz3_0, HGz3, hgz3, HSz3_0⟩ := HI0.out
  have hcz3_0 := cellS96_0 HGz3
  have hcz3_1 := cellS96_1 HGz3
  have hfz3_1 := blk_frozen HGz3 1
  clear HGz3 hgz3
  go_enter Tryz.func91, Tryz.ntmps91
  go_wp2
  repeat (go_quiet (fail); try go_wp2)
  go_ret
  exact ⟨q59_, q52_, q40_, q53_⟩
 ·rw [if_neg c2] at H
  have c2b0 : decide ((s0_0.length : Int) ≤ s0_1) = false := decide_eq_false c2
  clear c2
  obtain ⟨ji4, hji4⟩ : ∃ j_ : Int, (wrap64 ((wrap64 (s0_1 + 1)) - 1)) = j_ := ⟨_, rfl⟩
  replace H : (if 0 ≤ (ji4) then (if (ji4) < (s0_0.length : Int) then (some (wrap64 (rd s0_0 (ji4)), wrap64 (s0_1 + 1))) else (none)) else (none)) = some (r1, r2) := by first | (rw [hji4] at H; exact H) | (simp only [hji4] at H ⊢; exact H)
  have hji4w : (IntKind.i64.wrap ((wrap64 (s0_1 + 1)) - 1)) = ji4 := (i64_w _).trans hji4
  by_cases c5 : 0 ≤ (ji4)
  ·rw [if_pos c5] at H
   have c5b0 : decide (0 ≤ (ji4)) = true := decide_eq_true c5
   clear c5
   by_cases c6 : (ji4) < (s0_0.length : Int)
   ·rw [if_pos c6] at H
    have c6b0 : decide ((ji4) < (s0_0.length : Int)) = true := decide_eq_true c6
    clear c6
    simp only [Option.some.injEq, Prod.mk.injEq] at H
    obtain ⟨rfl, rfl⟩ := H
    obtain ⟨ASz7_0, cSz7_0, HGz7, hgz7, HSz7_0⟩ := HI0.out
    have hcz7_0 := cellS96_0 HGz7
    have hcz7_1 := cellS96_1 HGz7
    have hfz7_1 := blk_frozen HGz7 1
    clear HGz7 hgz7
    have p268 : 0 ≤ ((ji4) : Int) := of_decide_eq_true q87_
    have q268 : (ji4) < (s0_0.length : Int) := of_decide_eq_true q87_
    obtain ⟨ad268, e268, hx268_0⟩ := Kd.at_int HSz7_0 (ji4) p268 q268
    cases e268
    have hn268_0 : ad268.block ≠ g := Nat.ne_of_lt (Nat.lt_of_lt_of_le (by have := World.block_lt_of_cell? _ _ hx268_0; first | rwa [add_block] at this | exact this) (IsS96.ge HI0.out))
    replace hx268_0 := pw_cell_below HB.out hx268_0
    replace hx268_0 := (cell_far (p := ⟨g, 1, none⟩) (by first | (rw [add_block]; exact hn268_0) | (show (Addr.add _ _).block ≠ _; rw [add_block]; exact hn268_0) | exact hn268_0) (.int .i64 (wrap64 (s0_1 + 1)))).trans hx268_0
    (try have hy268_0 := fun (n_ : Nat) => (show (((w.drewN n_).setCell ⟨g, 1, none⟩ (.int .i64 (wrap64 (s0_1 + 1))))).cell? _ = some _ from hx268_0))
    clear hn268_0
    replace p268 := eq_true p268
    replace q268 := eq_true q268
    go_enter Tryz.func91, Tryz.ntmps91
    go_wp2
    repeat (go_quiet (fail); try go_wp2)
    go_ret
    exact ⟨q32_, q52_, q40_, q53_⟩
   ·rw [if_neg c6] at H
    exact absurd H (by simp)
  ·rw [if_neg c5] at H
   exact absurd H (by simp)
def spec_l1Rd_below.f (s0_0 : List Int) (s0_1 : Int) (a1 : Int) : Option (Int × Int) := if a1 ≤ 1 then (some (0, s0_1)) else (if a1 ≤ 256 then ((spec_l1Rd_next.f s0_0 s0_1).bind fun bt269 => (if a1 = 0 then (none) else (some (Int.tmod bt269.1 a1, bt269.2)))) else ((spec_l1Rd_next.f s0_0 s0_1).bind fun bt271 => ((spec_l1Rd_next.f s0_0 bt271.2).bind fun bt273 => (if a1 = 0 then (none) else (some (Int.tmod (wrap64 ((wrap64 (bt271.1 * 256)) + bt273.1)) a1, bt273.2))))))
theorem spec_l1Rd_below.calls (g : Nat) (s0_0 : List Int) (s0_1 : Int) (a1 : Int) (r1 : Int) (r2 : Int) (w0 w : World) (hI : IsS96 w0 w g s0_0 s0_1) (hB : Below w0.heap.size w0 w) (h : spec_l1Rd_below.f s0_0 s0_1 a1 = some (r1, r2)) :
  Calls Tryz.prog 44 #[.pointer (some ⟨g, 0, none⟩), .int .i64 a1] w fun e w' => e = .returned (.int .i64 r1) ∧ IsS96 w0 w' g s0_0 r2 ∧ Below w0.heap.size w0 w' ∧ KeepBut w w' g none := by
 have HI0 := Aside0.mk hI
 have HK := Aside0.mk (KeepBut.refl w g none)
 have HL := Aside0.mk hB.size
 clear hI
 have HW0 := Aside0.mk hB.size
 have HB := Aside0.mk hB
 clear hB
 have H : (if a1 ≤ 1 then (some (0, s0_1)) else (if a1 ≤ 256 then ((spec_l1Rd_next.f s0_0 s0_1).bind fun bt269 => (if a1 = 0 then (none) else (some (Int.tmod bt269.1 a1, bt269.2)))) else ((spec_l1Rd_next.f s0_0 s0_1).bind fun bt271 => ((spec_l1Rd_next.f s0_0 bt271.2).bind fun bt273 => (if a1 = 0 then (none) else (some (Int.tmod (wrap64 ((wrap64 (bt271.1 * 256)) + bt273.1)) a1, bt273.2))))))) = some (r1, r2) := h
 clear h
 by_cases c3 : a1 ≤ 1
 ·rw [if_pos c3] at H
  have c3b0 : decide (a1 ≤ 1) = true := decide_eq_true c3
  clear c3
  simp only [Option.some.injEq, Prod.mk.injEq] at H
  obtain ⟨rfl, rfl⟩ := H
  go_enter Tryz.func44, Tryz.ntmps44
  go_wp2
  go_ret
  exact ⟨q59_, q52_, q40_, q53_⟩
 ·rw [if_neg c3] at H
  have c3b0 : decide (a1 ≤ 1) = false := decide_eq_false c3
  clear c3
  by_cases c4 : a1 ≤ 256
  ·rw [if_pos c4] at H
   have c4b0 : decide (a1 ≤ 256) = true := decide_eq_true c4
   clear c4
   replace H := Option.bind_eq_some_iff.mp H
   obtain ⟨⟨t269, t270⟩, A50, H⟩ := H
   replace H : (if a1 = 0 then (none) else (some (Int.tmod t269 a1, t270))) = some (r1, r2) := H
   have A5 := Aside0.mk A50
   clear A50
   by_cases c6 : a1 = 0
   ·rw [if_pos c6] at H
    exact absurd H (by simp)
   ·rw [if_neg c6] at H
    have c6b0 : (a1 == 0) = false := beq_eq_false_iff_ne.mpr c6
    have c6b1 : (a1 != 0) = true := bne_iff_ne.mpr c6
    simp only [Option.some.injEq, Prod.mk.injEq] at H
    obtain ⟨rfl, rfl⟩ := H
    go_enter Tryz.func44, Tryz.ntmps44
    go_wp2_with (first | ((with_reducible refine gate_callee (f := 91) rfl ?_); refine goesL_ (some 11) rfl rfl Tryz.func91 (by kernel_rfl) rfl #[.pointer (some ⟨g, 0, none⟩)] rfl q56_ ?_; (with_reducible refine (spec_l1Rd_next.calls g s0_0 s0_1 t269 t270 w0 _ ?side1 ?side2 A5.out).mono ?_); (case side1 => exact q113_); (case side2 => exact q111_); rintro e w7 ⟨rfl, hi, hb, hk⟩; refine ⟨_, rfl, ?_⟩; have n0_ := Aside0.mk (KeepBut.trans q53_ hk (.inl rfl)); have n1_ := Aside0.mk (hb); have n2_ := Aside0.mk (hi); clear HK; clear HB; clear HI0; have HK := n0_; have HB := n1_; have HI0 := n2_; clear n0_ n1_ n2_; (try clear hb); (try clear hk); (try clear hi)))
    go_ret
    exact ⟨q59_, q52_, q40_, q53_⟩
  ·rw [if_neg c4] at H
   have c4b0 : decide (a1 ≤ 256) = false := decide_eq_false c4
   clear c4
   replace H := Option.bind_eq_some_iff.mp H
   obtain ⟨⟨t271, t272⟩, A80, H⟩ := H
   replace H : ((spec_l1Rd_next.f s0_0 t272).bind fun bt273 => (if a1 = 0 then (none) else (some (Int.tmod (wrap64 ((wrap64 (t271 * 256)) + bt273.1)) a1, bt273.2)))) = some (r1, r2) := H
   have A8 := Aside0.mk A80
   clear A80
   replace H := Option.bind_eq_some_iff.mp H
   obtain ⟨⟨t273, t274⟩, A90, H⟩ := H
   replace H : (if a1 = 0 then (none) else (some (Int.tmod (wrap64 ((wrap64 (t271 * 256)) + t273)) a1, t274))) = some (r1, r2) := H
   have A9 := Aside0.mk A90
   clear A90
   by_cases c10 : a1 = 0
   ·rw [if_pos c10] at H
    exact absurd H (by simp)
   ·rw [if_neg c10] at H
    have c10b0 : (a1 == 0) = false := beq_eq_false_iff_ne.mpr c10
    have c10b1 : (a1 != 0) = true := bne_iff_ne.mpr c10
    simp only [Option.some.injEq, Prod.mk.injEq] at H
    obtain ⟨rfl, rfl⟩ := H
    go_enter Tryz.func44, Tryz.ntmps44
    go_wp2_with (first | ((with_reducible refine gate_callee (f := 91) rfl ?_); refine goesL_ (some 15) rfl rfl Tryz.func91 (by kernel_rfl) rfl #[.pointer (some ⟨g, 0, none⟩)] rfl q56_ ?_; (with_reducible refine (spec_l1Rd_next.calls g s0_0 s0_1 t271 t272 w0 _ ?side1 ?side2 A8.out).mono ?_); (case side1 => exact q113_); (case side2 => exact q111_); rintro e w11 ⟨rfl, hi, hb, hk⟩; refine ⟨_, rfl, ?_⟩; have n0_ := Aside0.mk (KeepBut.trans q53_ hk (.inl rfl)); have n1_ := Aside0.mk (hb); have n2_ := Aside0.mk (hi); clear HK; clear HB; clear HI0; have HK := n0_; have HB := n1_; have HI0 := n2_; clear n0_ n1_ n2_; (try clear hb); (try clear hk); (try clear hi)) | ((with_reducible refine gate_callee (f := 91) rfl ?_); refine goesL_ (some 19) rfl rfl Tryz.func91 (by kernel_rfl) rfl #[.pointer (some ⟨g, 0, none⟩)] rfl q56_ ?_; (with_reducible refine (spec_l1Rd_next.calls g s0_0 t272 t273 t274 w0 _ ?side1 ?side2 A9.out).mono ?_); (case side1 => exact q113_); (case side2 => exact q111_); rintro e w12 ⟨rfl, hi, hb, hk⟩; refine ⟨_, rfl, ?_⟩; have n0_ := Aside0.mk (KeepBut.trans q53_ hk (.inl rfl)); have n1_ := Aside0.mk (hb); have n2_ := Aside0.mk (hi); clear HK; clear HB; clear HI0; have HK := n0_; have HB := n1_; have HI0 := n2_; clear n0_ n1_ n2_; (try clear hb); (try clear hk); (try clear hi)))
    go_ret
    exact ⟨q59_, q52_, q40_, q53_⟩
def spec_l1Rd_once.f (s0_0 : List Int) (s0_1 : Int) (a1 : Int) : Option (Bool × Int) := (spec_l1Rd_below.f s0_0 s0_1 a1).bind fun bt275 => (some ((bt275.1 == (wrap64 (a1 - 1))), bt275.2))
theorem spec_l1Rd_once.calls (g : Nat) (s0_0 : List Int) (s0_1 : Int) (a1 : Int) (r1 : Bool) (r2 : Int) (w0 w : World) (hI : IsS96 w0 w g s0_0 s0_1) (hB : Below w0.heap.size w0 w) (h : spec_l1Rd_once.f s0_0 s0_1 a1 = some (r1, r2)) :
  Calls Tryz.prog 45 #[.pointer (some ⟨g, 0, none⟩), .int .i64 a1] w fun e w' => e = .returned (.bool r1) ∧ IsS96 w0 w' g s0_0 r2 ∧ Below w0.heap.size w0 w' ∧ KeepBut w w' g none := by
 have HI0 := Aside0.mk hI
 have HK := Aside0.mk (KeepBut.refl w g none)
 have HL := Aside0.mk hB.size
 clear hI
 have HW0 := Aside0.mk hB.size
 have HB := Aside0.mk hB
 clear hB
 have H : ((spec_l1Rd_below.f s0_0 s0_1 a1).bind fun bt275 => (some ((bt275.1 == (wrap64 (a1 - 1))), bt275.2))) = some (r1, r2) := h
 clear h
 replace H := Option.bind_eq_some_iff.mp H
 obtain ⟨⟨t275, t276⟩, A30, H⟩ := H
 replace H : (some ((t275 == (wrap64 (a1 - 1))), t276)) = some (r1, r2) := H
 have A3 := Aside0.mk A30
 clear A30
 simp only [Option.some.injEq, Prod.mk.injEq] at H
 obtain ⟨rfl, rfl⟩ := H
 go_enter Tryz.func45, Tryz.ntmps45
 go_wp2_with (first | ((with_reducible refine gate_callee (f := 44) rfl ?_); refine goesL_ (some 7) rfl rfl Tryz.func44 (by kernel_rfl) rfl #[.pointer (some ⟨g, 0, none⟩), .int .i64 a1] rfl q56_ ?_; (with_reducible refine (spec_l1Rd_below.calls g s0_0 s0_1 a1 t275 t276 w0 _ ?side1 ?side2 A3.out).mono ?_); (case side1 => exact q113_); (case side2 => exact q111_); rintro e w4 ⟨rfl, hi, hb, hk⟩; refine ⟨_, rfl, ?_⟩; have n0_ := Aside0.mk (KeepBut.trans q53_ hk (.inl rfl)); have n1_ := Aside0.mk (hb); have n2_ := Aside0.mk (hi); clear HK; clear HB; clear HI0; have HK := n0_; have HB := n1_; have HI0 := n2_; clear n0_ n1_ n2_; (try clear hb); (try clear hk); (try clear hi)))
 go_ret
 exact ⟨q59_, q52_, q40_, q53_⟩
mutual
def spec_l3Hole.l0 : Nat → ByteArray → List ByteArray → Int → Option (Int × ByteArray)
 | 0, _, _, _ => none
 | k + 1, x0, x4, x5 => if x5 < (x4.length : Int) then (spec_l3Hole.l1 k x0 x4 x5 0) else (some ((-1), (⟨#[]⟩ : ByteArray)))
def spec_l3Hole.l1 : Nat → ByteArray → List ByteArray → Int → Int → Option (Int × ByteArray)
 | 0, _, _, _, _ => none
 | k + 1, x0, x4, x5, x6 => if 0 ≤ x5 then (if x5 < (x4.length : Int) then (if (wrap64 (x6 + ((rdOf ByteArray.empty x4 x5).size : Int))) ≤ (x0.size : Int) then (if 0 ≤ x6 then (if x6 ≤ (wrap64 (x6 + ((rdOf ByteArray.empty x4 x5).size : Int))) then (if (x0.extract (x6 : Int).toNat ((wrap64 (x6 + ((rdOf ByteArray.empty x4 x5).size : Int))) : Int).toNat).toList = (rdOf ByteArray.empty x4 x5).toList then (some (x6, rdOf ByteArray.empty x4 x5)) else (spec_l3Hole.l1 k x0 x4 x5 (wrap64 (x6 + 1)))) else (none)) else (none)) else (spec_l3Hole.l0 k x0 x4 (wrap64 (x5 + 1)))) else (none)) else (none)
end
def spec_l3Hole.f (k : Nat) (a0 : ByteArray) : Option (Int × ByteArray) := spec_l3Hole.l0 k a0 (([(⟨#[110, 49, 54]⟩ : ByteArray), (⟨#[110, 56]⟩ : ByteArray), (⟨#[101, 56]⟩ : ByteArray)] : List ByteArray)) 0
theorem spec_l3Hole.mono_l : ∀ k, (∀ y0 y1 y2, LeO (spec_l3Hole.l0 k y0 y1 y2) (spec_l3Hole.l0 (k + 1) y0 y1 y2)) ∧ (∀ y0 y1 y2 y3, LeO (spec_l3Hole.l1 k y0 y1 y2 y3) (spec_l3Hole.l1 (k + 1) y0 y1 y2 y3))
 | 0 => ⟨fun _ _ _ r h => by simp [spec_l3Hole.l0] at h, fun _ _ _ _ r h => by simp [spec_l3Hole.l1] at h⟩
 | k + 1 => by
  obtain ⟨ih0, ih1⟩ := spec_l3Hole.mono_l k
  refine ⟨?_, ?_⟩
  ·intro y0 y1 y2
   unfold spec_l3Hole.l0
   repeat' first
   | (with_reducible first | exact ih0 _ _ _ | exact ih1 _ _ _ _ | exact LeO.refl _ | exact LeO.none _ | refine LeO.ite ?_ ?_ | refine LeO.bind ?_ (fun _ => ?_))
   | exact ih0 _ _ _
   | exact ih1 _ _ _ _
   | exact LeO.none _
   | refine LeO.ite ?_ ?_
   | refine LeO.bind ?_ (fun _ => ?_)
  ·intro y0 y1 y2 y3
   unfold spec_l3Hole.l1
   repeat' first
   | (with_reducible first | exact ih0 _ _ _ | exact ih1 _ _ _ _ | exact LeO.refl _ | exact LeO.none _ | refine LeO.ite ?_ ?_ | refine LeO.bind ?_ (fun _ => ?_))
   | exact ih0 _ _ _
   | exact ih1 _ _ _ _
   | exact LeO.none _
   | refine LeO.ite ?_ ?_
   | refine LeO.bind ?_ (fun _ => ?_)
theorem spec_l3Hole.mono : ∀ a0 k, LeO (spec_l3Hole.f k a0) (spec_l3Hole.f (k + 1) a0) := by
 intro a0 k
 obtain ⟨ih0, ih1⟩ := spec_l3Hole.mono_l k
 unfold spec_l3Hole.f
 repeat' first
   | (with_reducible first | exact ih0 _ _ _ | exact ih1 _ _ _ _ | exact LeO.refl _ | exact LeO.none _ | refine LeO.ite ?_ ?_ | refine LeO.bind ?_ (fun _ => ?_))
   | exact ih0 _ _ _
   | exact ih1 _ _ _ _
   | exact LeO.none _
   | refine LeO.ite ?_ ?_
   | refine LeO.bind ?_ (fun _ => ?_)
theorem spec_l3Hole.calls (k : Nat) (a0 : ByteArray) (r1 : Int) (r2 : ByteArray) (w : World) (h : spec_l3Hole.f k a0 = some (r1, r2)) :
  Calls Tryz.prog 59 #[.string a0] w fun e w' => e = .returned (.tuple #[.int .i64 r1, .string r2]) ∧ Below w.heap.size w w' := by
 have HB := Aside0.mk (Below.refl w.heap.size w)
 have H : (spec_l3Hole.l0 k a0 (([(⟨#[110, 49, 54]⟩ : ByteArray), (⟨#[110, 56]⟩ : ByteArray), (⟨#[101, 56]⟩ : ByteArray)] : List ByteArray)) 0) = some (r1, r2) := h
 clear h
 obtain ⟨y277, hy277⟩ : ∃ y_ : List ByteArray, y_ = (([(⟨#[110, 49, 54]⟩ : ByteArray), (⟨#[110, 56]⟩ : ByteArray), (⟨#[101, 56]⟩ : ByteArray)] : List ByteArray)) := ⟨_, rfl⟩
 replace H : (spec_l3Hole.l0 k a0 y277 0) = some (r1, r2) := by first | (rw [hy277]; with_reducible exact H) | (have H2_ := (Option.bind_some _ _).symm.trans H; rw [hy277]; with_reducible exact H2_) | (have H2_ := (Option.bind_some _ _).symm.trans H; with_reducible exact H2_) | with_reducible exact H | (rw [hy277]; exact H) | exact H
 have Ny277 := Aside0.mk hy277
 clear hy277
 have H' := Aside0.mk H
 clear H
 go_enter Tryz.func59, Tryz.ntmps59
 go_wp2_with (first | ((with_reducible refine gate_dst (N := 7) rfl ?_); refine Kd.R_lit Kd.string _ 9 ?hg (N := 7) ?hd (xs := ([(⟨#[110, 49, 54]⟩ : ByteArray), (⟨#[110, 56]⟩ : ByteArray), (⟨#[101, 56]⟩ : ByteArray)] : List ByteArray)) (inner := [.string (⟨#[110, 49, 54]⟩ : ByteArray), .string (⟨#[110, 56]⟩ : ByteArray), .string (⟨#[101, 56]⟩ : ByteArray)]) (ok := fun _ => True) (okp := fun _ => True) ?hr ?hp (fun _ hk => hk) trivial (Below.refl _ _) (Nat.le_refl _) (by simp) ?_; (case hd => rfl); (case hg => rfl); (case hr => exact q114_); (case hp => exact q106_); intro v278 w2 ho3 hb hg_ hnew_; clear hg_ hnew_; (first | rw [← Ny277.out] at ho3 | (simp only [Int.reduceToNat] at ho3; rw [← Ny277.out] at ho3)); have n0_ := Aside0.mk (Kd.R_lower ho3 (below_size q57_)); have n1_ := Aside0.mk (below_step q57_ hb); clear HB; have HO279 := n0_; have HB := n1_; clear n0_ n1_; clear hb ho3))
 repeat (go_quiet (first | ((with_reducible refine gate_dst (N := 7) rfl ?_); refine Kd.R_lit Kd.string _ 9 ?hg (N := 7) ?hd (xs := ([(⟨#[110, 49, 54]⟩ : ByteArray), (⟨#[110, 56]⟩ : ByteArray), (⟨#[101, 56]⟩ : ByteArray)] : List ByteArray)) (inner := [.string (⟨#[110, 49, 54]⟩ : ByteArray), .string (⟨#[110, 56]⟩ : ByteArray), .string (⟨#[101, 56]⟩ : ByteArray)]) (ok := fun _ => True) (okp := fun _ => True) ?hr ?hp (fun _ hk => hk) trivial (Below.refl _ _) (Nat.le_refl _) (by simp) ?_; (case hd => rfl); (case hg => rfl); (case hr => exact q114_); (case hp => exact q106_); intro v278 w2 ho3 hb hg_ hnew_; clear hg_ hnew_; (first | rw [← Ny277.out] at ho3 | (simp only [Int.reduceToNat] at ho3; rw [← Ny277.out] at ho3)); have n0_ := Aside0.mk (Kd.R_lower ho3 (below_size q57_)); have n1_ := Aside0.mk (below_step q57_ hb); clear HB; have HO279 := n0_; have HB := n1_; clear n0_ n1_; clear hb ho3)); try go_wp2_with (first | ((with_reducible refine gate_dst (N := 7) rfl ?_); refine Kd.R_lit Kd.string _ 9 ?hg (N := 7) ?hd (xs := ([(⟨#[110, 49, 54]⟩ : ByteArray), (⟨#[110, 56]⟩ : ByteArray), (⟨#[101, 56]⟩ : ByteArray)] : List ByteArray)) (inner := [.string (⟨#[110, 49, 54]⟩ : ByteArray), .string (⟨#[110, 56]⟩ : ByteArray), .string (⟨#[101, 56]⟩ : ByteArray)]) (ok := fun _ => True) (okp := fun _ => True) ?hr ?hp (fun _ hk => hk) trivial (Below.refl _ _) (Nat.le_refl _) (by simp) ?_; (case hd => rfl); (case hg => rfl); (case hr => exact q114_); (case hp => exact q106_); intro v278 w2 ho3 hb hg_ hnew_; clear hg_ hnew_; (first | rw [← Ny277.out] at ho3 | (simp only [Int.reduceToNat] at ho3; rw [← Ny277.out] at ho3)); have n0_ := Aside0.mk (Kd.R_lower ho3 (below_size q57_)); have n1_ := Aside0.mk (below_step q57_ hb); clear HB; have HO279 := n0_; have HB := n1_; clear n0_ n1_; clear hb ho3)))
 go_loopg [5] k (fun kq v5 w' => ∃ (x5_1 : Int), v5 = .int .i64 x5_1 ∧ Aside0 (spec_l3Hole.l0 kq a0 y277 x5_1 = some (r1, r2)) ∧ Aside0 (kq ≤ k) ∧ Aside0 (Kd.R Kd.string 9 w' w.heap.size (fun _ => True) v278 y277) ∧ Aside0 (Below w.heap.size w w'))
 case atStart => exact ⟨(0), q73_, H', ⟨Nat.le_refl _⟩, ⟨by (with_reducible repeat (first | apply Kd.R_alloc | apply Kd.R_drewN | apply Kd.R_drew)); exact HO279.out⟩, ⟨q57_⟩⟩
 case round =>
  clear H'
  try clear p2
  obtain ⟨x5_1, rfl, HA, HK1, HO_4, HB⟩ := hrel
  cases gk with
  | zero => exact absurd HA.out (by simp [spec_l3Hole.l0])
  | succ k1 =>
   have H := HA.out
   clear HA
   simp only [spec_l3Hole.l0] at H
   by_cases c4 : x5_1 < (y277.length : Int)
   ·rw [if_pos c4] at H
    have c4b0 : decide (x5_1 < (y277.length : Int)) = true := decide_eq_true c4
    clear c4
    have H' := Aside0.mk H
    clear H
    obtain ⟨Ao5, co5, eo5⟩ := Kd.R_slice HO_4.out
    subst eo5
    go_wp2
    repeat (go_quiet (fail); try go_wp2)
    go_loopg [6] k1 (fun kq v6 w' => ∃ (x6_2 : Int), v6 = .int .i64 x6_2 ∧ Aside0 (spec_l3Hole.l1 kq a0 y277 x5_1 x6_2 = some (r1, r2)) ∧ Aside0 (kq ≤ k1) ∧ Aside0 (Kd.R Kd.string 9 w' w.heap.size (fun _ => True) (.slice Ao5 y277.length co5) y277) ∧ Aside0 (Below w.heap.size w w'))
    case atStart => exact ⟨(0), q73_, H', ⟨Nat.le_refl _⟩, ⟨q85_⟩, ⟨q57_⟩⟩
    case round =>
     clear H'
     try clear p2 p2
     try clear c4
     try clear c4b0
     try clear c5
     obtain ⟨x6_2, rfl, HA, HK2, HO_4, HB⟩ := hrel
     cases gk with
     | zero => exact absurd HA.out (by simp [spec_l3Hole.l1])
     | succ k2 =>
      have H := HA.out
      clear HA
      simp only [spec_l3Hole.l1] at H
      by_cases c6 : 0 ≤ x5_1
      ·rw [if_pos c6] at H
       have c6b0 : decide (0 ≤ x5_1) = true := decide_eq_true c6
       clear c6
       by_cases c7 : x5_1 < (y277.length : Int)
       ·rw [if_pos c7] at H
        have c7b0 : decide (x5_1 < (y277.length : Int)) = true := decide_eq_true c7
        clear c7
        by_cases c8 : (wrap64 (x6_2 + ((rdOf ByteArray.empty y277 x5_1).size : Int))) ≤ (a0.size : Int)
        ·rw [if_pos c8] at H
         have c8b0 : decide ((wrap64 (x6_2 + ((rdOf ByteArray.empty y277 x5_1).size : Int))) ≤ (a0.size : Int)) = true := decide_eq_true c8
         clear c8
         by_cases c9 : 0 ≤ x6_2
         ·rw [if_pos c9] at H
          have c9b0 := eq_true c9
          have c9b1 : decide (0 ≤ x6_2) = true := decide_eq_true c9
          clear c9
          by_cases c10 : x6_2 ≤ (wrap64 (x6_2 + ((rdOf ByteArray.empty y277 x5_1).size : Int)))
          ·rw [if_pos c10] at H
           have c10b0 := eq_true c10
           have c10b1 : decide (x6_2 ≤ (wrap64 (x6_2 + ((rdOf ByteArray.empty y277 x5_1).size : Int)))) = true := decide_eq_true c10
           have c11b0 := eq_true (of_decide_eq_true q87_ : (wrap64 (x6_2 + ((rdOf ByteArray.empty y277 x5_1).size : Int))) ≤ (a0.size : Int))
           by_cases c12 : (a0.extract (x6_2 : Int).toNat ((wrap64 (x6_2 + ((rdOf ByteArray.empty y277 x5_1).size : Int))) : Int).toNat).toList = (rdOf ByteArray.empty y277 x5_1).toList
           ·rw [if_pos c12] at H
            have c12b0 : ((a0.extract (x6_2 : Int).toNat ((wrap64 (x6_2 + ((rdOf ByteArray.empty y277 x5_1).size : Int))) : Int).toNat).toList == (rdOf ByteArray.empty y277 x5_1).toList) = true := beq_iff_eq.mpr c12
            have c12b1 : ((a0.extract (x6_2 : Int).toNat ((wrap64 (x6_2 + ((rdOf ByteArray.empty y277 x5_1).size : Int))) : Int).toNat).toList != (rdOf ByteArray.empty y277 x5_1).toList) = false := bne_eq_false_iff_eq.mpr c12
            clear c12
            simp only [Option.some.injEq, Prod.mk.injEq] at H
            obtain ⟨rfl, rfl⟩ := H
            have p280 : 0 ≤ (x5_1 : Int) := of_decide_eq_true q87_
            have q280 : x5_1 < (y277.length : Int) := of_decide_eq_true q87_
            obtain ⟨ad280, e280, hx280_0⟩ := Kd.at_string (Kd.R_reads' HO_4.out).2.2 x5_1 p280 q280
            cases e280
            replace p280 := eq_true p280
            replace q280 := eq_true q280
            have p281 : 0 ≤ (x5_1 : Int) := of_decide_eq_true q87_
            have q281 : x5_1 < (y277.length : Int) := of_decide_eq_true q87_
            obtain ⟨ad281, e281, hx281_0⟩ := Kd.at_string (Kd.R_reads' HO_4.out).2.2 x5_1 p281 q281
            obtain rfl : ad280 = ad281 := (by injection e281)
            replace p281 := eq_true p281
            replace q281 := eq_true q281
            have p282 : 0 ≤ (x5_1 : Int) := of_decide_eq_true q87_
            have q282 : x5_1 < (y277.length : Int) := of_decide_eq_true q87_
            obtain ⟨ad282, e282, hx282_0⟩ := Kd.at_string (Kd.R_reads' HO_4.out).2.2 x5_1 p282 q282
            obtain rfl : ad280 = ad282 := (by injection e282)
            replace p282 := eq_true p282
            replace q282 := eq_true q282
            have p283 : 0 ≤ (x5_1 : Int) := of_decide_eq_true q87_
            have q283 : x5_1 < (y277.length : Int) := of_decide_eq_true q87_
            obtain ⟨ad283, e283, hx283_0⟩ := Kd.at_string (Kd.R_reads' HO_4.out).2.2 x5_1 p283 q283
            obtain rfl : ad280 = ad283 := (by injection e283)
            replace p283 := eq_true p283
            replace q283 := eq_true q283
            go_wp2
            repeat (go_quiet (fail); try go_wp2)
            go_ret2
            exact ⟨q59_, q57_⟩
           ·rw [if_neg c12] at H
            have c12b0 : ((a0.extract (x6_2 : Int).toNat ((wrap64 (x6_2 + ((rdOf ByteArray.empty y277 x5_1).size : Int))) : Int).toNat).toList == (rdOf ByteArray.empty y277 x5_1).toList) = false := beq_eq_false_iff_ne.mpr c12
            have c12b1 : ((a0.extract (x6_2 : Int).toNat ((wrap64 (x6_2 + ((rdOf ByteArray.empty y277 x5_1).size : Int))) : Int).toNat).toList != (rdOf ByteArray.empty y277 x5_1).toList) = true := bne_iff_ne.mpr c12
            have H' := Aside0.mk H
            clear H
            have p280 : 0 ≤ (x5_1 : Int) := of_decide_eq_true q87_
            have q280 : x5_1 < (y277.length : Int) := of_decide_eq_true q87_
            obtain ⟨ad280, e280, hx280_0⟩ := Kd.at_string (Kd.R_reads' HO_4.out).2.2 x5_1 p280 q280
            cases e280
            replace p280 := eq_true p280
            replace q280 := eq_true q280
            have p281 : 0 ≤ (x5_1 : Int) := of_decide_eq_true q87_
            have q281 : x5_1 < (y277.length : Int) := of_decide_eq_true q87_
            obtain ⟨ad281, e281, hx281_0⟩ := Kd.at_string (Kd.R_reads' HO_4.out).2.2 x5_1 p281 q281
            obtain rfl : ad280 = ad281 := (by injection e281)
            replace p281 := eq_true p281
            replace q281 := eq_true q281
            have p282 : 0 ≤ (x5_1 : Int) := of_decide_eq_true q87_
            have q282 : x5_1 < (y277.length : Int) := of_decide_eq_true q87_
            obtain ⟨ad282, e282, hx282_0⟩ := Kd.at_string (Kd.R_reads' HO_4.out).2.2 x5_1 p282 q282
            obtain rfl : ad280 = ad282 := (by injection e282)
            replace p282 := eq_true p282
            replace q282 := eq_true q282
            go_wp2
            repeat (go_quiet (fail); try go_wp2)
            go_roundg k2
            case measure => have := HK1.out; have := HK2.out; omega
            case rel => exact ⟨(wrap64 (x6_2 + 1)), q73_, H', ⟨by have := HK1.out; have := HK2.out; omega⟩, ⟨q85_⟩, ⟨q57_⟩⟩
          ·rw [if_neg c10] at H
           exact absurd H (by simp)
         ·rw [if_neg c9] at H
          exact absurd H (by simp)
        ·rw [if_neg c8] at H
         have c8b0 : decide ((wrap64 (x6_2 + ((rdOf ByteArray.empty y277 x5_1).size : Int))) ≤ (a0.size : Int)) = false := decide_eq_false c8
         clear c8
         have H' := Aside0.mk H
         clear H
         have p280 : 0 ≤ (x5_1 : Int) := of_decide_eq_true q87_
         have q280 : x5_1 < (y277.length : Int) := of_decide_eq_true q87_
         obtain ⟨ad280, e280, hx280_0⟩ := Kd.at_string (Kd.R_reads' HO_4.out).2.2 x5_1 p280 q280
         cases e280
         replace p280 := eq_true p280
         replace q280 := eq_true q280
         go_wp2
         repeat (go_quiet (fail); try go_wp2)
         go_roundg k2
         case measure => have := HK1.out; have := HK2.out; omega
         case rel => exact ⟨(wrap64 (x5_1 + 1)), q73_, H', ⟨by have := HK1.out; have := HK2.out; omega⟩, ⟨q85_⟩, ⟨q57_⟩⟩
       ·rw [if_neg c7] at H
        exact absurd H (by simp)
      ·rw [if_neg c6] at H
       exact absurd H (by simp)
   ·rw [if_neg c4] at H
    have c4b0 : decide (x5_1 < (y277.length : Int)) = false := decide_eq_false c4
    clear c4
    simp only [Option.some.injEq, Prod.mk.injEq] at H
    obtain ⟨rfl, rfl⟩ := H
    obtain ⟨Ao13, co13, eo13⟩ := Kd.R_slice HO_4.out
    subst eo13
    go_wp2
    repeat (go_quiet (fail); try go_wp2)
    go_ret2
    exact ⟨q59_, q57_⟩
mutual
def spec_l1Dec.l0 : Nat → Int → ByteArray → Option (ByteArray)
 | 0, _, _ => none
 | k + 1, x0, x3 => if x0 ≥ 10 then ((some (([(wrap64 (48 + (Int.tmod x0 10))) % 256] : List Int) : List Int)).bind fun y285 => (if (strOfNums y285).size + x3.size ≤ 9223372036854775807 then (spec_l1Dec.l0 k (wrap64 (Int.tdiv x0 10)) ((strOfNums y285) ++ x3)) else (none))) else ((some (([(wrap64 (48 + x0)) % 256] : List Int) : List Int)).bind fun y288 => (if (strOfNums y288).size + x3.size ≤ 9223372036854775807 then (some ((strOfNums y288) ++ x3)) else (none)))
def spec_l1Dec.f : Nat → Int → Option (ByteArray)
 | 0, _ => none
 | k + 1, a0 => if a0 < 0 then ((spec_l1Dec.f k (wrap64 (-a0))).bind fun t284 => (if 1 + t284.size ≤ 9223372036854775807 then (some ((⟨#[45]⟩ : ByteArray) ++ t284)) else (none))) else (spec_l1Dec.l0 k a0 (⟨#[]⟩ : ByteArray))
end
theorem spec_l1Dec.mono_l : ∀ k, (∀ y0, LeO (spec_l1Dec.f k y0) (spec_l1Dec.f (k + 1) y0)) ∧ (∀ y0 y1, LeO (spec_l1Dec.l0 k y0 y1) (spec_l1Dec.l0 (k + 1) y0 y1))
 | 0 => ⟨fun _ r h => by simp [spec_l1Dec.f] at h, fun _ _ r h => by simp [spec_l1Dec.l0] at h⟩
 | k + 1 => by
  obtain ⟨ih0, ih1⟩ := spec_l1Dec.mono_l k
  refine ⟨?_, ?_⟩
  ·intro y0
   unfold spec_l1Dec.f
   repeat' first
   | (with_reducible first | exact ih0 _ | exact ih1 _ _ | exact LeO.refl _ | exact LeO.none _ | refine LeO.ite ?_ ?_ | refine LeO.bind ?_ (fun _ => ?_))
   | exact ih0 _
   | exact ih1 _ _
   | exact LeO.none _
   | refine LeO.ite ?_ ?_
   | refine LeO.bind ?_ (fun _ => ?_)
  ·intro y0 y1
   unfold spec_l1Dec.l0
   repeat' first
   | (with_reducible first | exact ih0 _ | exact ih1 _ _ | exact LeO.refl _ | exact LeO.none _ | refine LeO.ite ?_ ?_ | refine LeO.bind ?_ (fun _ => ?_))
   | exact ih0 _
   | exact ih1 _ _
   | exact LeO.none _
   | refine LeO.ite ?_ ?_
   | refine LeO.bind ?_ (fun _ => ?_)
theorem spec_l1Dec.mono : ∀ a0 k, LeO (spec_l1Dec.f k a0) (spec_l1Dec.f (k + 1) a0) := by
 intro a0 k
 obtain ⟨ih0, ih1⟩ := spec_l1Dec.mono_l k
 exact ih0 a0
theorem spec_l1Dec.calls (k : Nat) : ∀ (a0 : Int) (r : ByteArray) (w : World) (h : spec_l1Dec.f k a0 = some r),
  Calls Tryz.prog 71 #[.int .i64 a0] w fun e w' => e = .returned (.string r) ∧ Below w.heap.size w w' := by
 induction k using Nat.strongRecOn with
 | _ k ih =>
 intro a0 r w h
 cases k with
 | zero => exact absurd h (by simp [spec_l1Dec.f])
 | succ k =>
 simp only [spec_l1Dec.f] at h
 have HB := Aside0.mk (Below.refl w.heap.size w)
 have H : (if a0 < 0 then ((spec_l1Dec.f k (wrap64 (-a0))).bind fun t284 => (if 1 + t284.size ≤ 9223372036854775807 then (some ((⟨#[45]⟩ : ByteArray) ++ t284)) else (none))) else (spec_l1Dec.l0 k a0 (⟨#[]⟩ : ByteArray))) = some r := h
 clear h
 by_cases c2 : a0 < 0
 ·rw [if_pos c2] at H
  have c2b0 : decide (a0 < 0) = true := decide_eq_true c2
  clear c2
  replace H := Option.bind_eq_some_iff.mp H
  obtain ⟨t284, A30, H⟩ := H
  have A3 := Aside0.mk A30
  clear A30
  by_cases c4 : 1 + t284.size ≤ 9223372036854775807
  ·rw [if_pos c4] at H
   have c4b0 := eq_true c4
   have c4b1 : decide (1 + t284.size ≤ 9223372036854775807) = true := decide_eq_true c4
   try have c4b2 : (9223372036854775807 < 1 + t284.size) = False := eq_false (Nat.not_lt.2 c4)
   obtain rfl := Option.some.inj H
   go_enter Tryz.func71, Tryz.ntmps71
   go_wp2_with (first | ((with_reducible refine gate_callee (f := 71) rfl ?_); refine goesL_ (some 8) rfl rfl Tryz.func71 (by kernel_rfl) rfl #[.int .i64 (wrap64 (-a0))] rfl (by (try simp only [List.map_toArray, List.map_cons, List.map_nil]); first | done | rfl | (simp only [List.length_drop, List.length_take]; rfl) | (refine Eq.trans (b := #[.int .i64 ((-a0))]) rfl ?_; simp [wrap64] <;> omega)) ?_; (with_reducible refine (ih k (by omega) (wrap64 (-a0)) t284 _ A3.out).mono ?_); rintro e w5 ⟨rfl, hb⟩; refine ⟨_, rfl, ?_⟩; replace HB := Aside0.mk (below_step q57_ hb); (try clear hb)))
   go_ret
   exact ⟨q59_, q57_⟩
  ·rw [if_neg c4] at H
   exact absurd H (by simp)
 ·rw [if_neg c2] at H
  have c2b0 : decide (a0 < 0) = false := decide_eq_false c2
  clear c2
  have H' := Aside0.mk H
  clear H
  go_enter Tryz.func71, Tryz.ntmps71
  go_wp2
  go_loopg [0, 3] k (fun kq v0 v3 w' => ∃ (x0_1 : Int) (x3_1 : ByteArray), v0 = .int .i64 x0_1 ∧ v3 = .string x3_1 ∧ Aside0 (spec_l1Dec.l0 kq x0_1 x3_1 = some r) ∧ Aside0 (kq ≤ k) ∧ Aside0 (Below w.heap.size w w'))
  case atStart => exact ⟨(a0), ((⟨#[]⟩ : ByteArray)), q73_, q73_, H', ⟨Nat.le_refl _⟩, ⟨q57_⟩⟩
  case round =>
   clear H'
   try clear c2
   try clear c2b0
   try clear p2
   try clear c4
   try clear c4b0
   try clear c4b1
   try clear c4b2
   obtain ⟨x0_1, x3_1, rfl, rfl, HA, HK1, HB⟩ := hrel
   cases gk with
   | zero => exact absurd HA.out (by simp [spec_l1Dec.l0])
   | succ k1 =>
    have H := HA.out
    clear HA
    simp only [spec_l1Dec.l0] at H
    by_cases c6 : x0_1 ≥ 10
    ·rw [if_pos c6] at H
     have c6b0 : decide (10 ≤ x0_1) = true := decide_eq_true c6
     clear c6
     obtain ⟨y285, hy285⟩ : ∃ y_ : List Int, y_ = (([(wrap64 (48 + (Int.tmod x0_1 10))) % 256] : List Int)) := ⟨_, rfl⟩
     replace H : (if (strOfNums y285).size + x3_1.size ≤ 9223372036854775807 then (spec_l1Dec.l0 k1 (wrap64 (Int.tdiv x0_1 10)) ((strOfNums y285) ++ x3_1)) else (none)) = some r := by first | (rw [hy285]; with_reducible exact H) | (have H2_ := (Option.bind_some _ _).symm.trans H; rw [hy285]; with_reducible exact H2_) | (have H2_ := (Option.bind_some _ _).symm.trans H; with_reducible exact H2_) | with_reducible exact H | (rw [hy285]; exact H) | exact H
     have Ny285 := Aside0.mk hy285
     clear hy285
     by_cases c7 : (strOfNums y285).size + x3_1.size ≤ 9223372036854775807
     ·rw [if_pos c7] at H
      have c7b0 := eq_true c7
      have c7b1 : decide ((strOfNums y285).size + x3_1.size ≤ 9223372036854775807) = true := decide_eq_true c7
      try have c7b2 : (9223372036854775807 < (strOfNums y285).size + x3_1.size) = False := eq_false (Nat.not_lt.2 c7)
      have H' := Aside0.mk H
      clear H
      go_wp2_with (first | ((with_reducible refine gate_dst (N := 16) rfl ?_); refine Kd.R_lit (Kd.int .u8) _ 5 ?hg (N := 16) ?hd (xs := ([(wrap64 (48 + (Int.tmod x0_1 10))) % 256] : List Int)) (inner := [.int .u8 ((wrap64 (48 + (Int.tmod x0_1 10))) % 256)]) (ok := fun _ => True) (okp := fun _ => True) ?hr ?hp (fun _ hk => hk) trivial (Below.refl _ _) (Nat.le_refl _) (by simp) ?_; (case hd => rfl); (case hg => rfl); (case hr => exact q114_); (case hp => exact (Reps.one (show Kd.M (Kd.int .u8) _ _ _ ((wrap64 (48 + (Int.tmod x0_1 10))) % 256) [.int .u8 ((wrap64 (48 + (Int.tmod x0_1 10))) % 256)] from rfl) (Reps.none _ _))); intro v286 w8 ho9 hb hg_ hnew_; clear hg_ hnew_; (first | rw [← Ny285.out] at ho9 | (simp only [Int.reduceToNat] at ho9; rw [← Ny285.out] at ho9)); have n0_ := Aside0.mk (Kd.R_lower ho9 (below_size q57_)); have n1_ := Aside0.mk (below_step q57_ hb); clear HB; have HO287 := n0_; have HB := n1_; clear n0_ n1_; clear hb ho9; have hcv10 := own_string (P := Tryz.prog) Tryz.underlying22 Tryz.underlying5 Tryz.underlying9 (Kd.own_of_R HO287.out); have hcvq10 := fun m_ : Nat => own_string (P := Tryz.prog) Tryz.underlying22 Tryz.underlying5 Tryz.underlying9 (Kd.own_of_R (Kd.R_drewN HO287.out m_))))
      go_roundg k1
      case measure => have := HK1.out; omega
      case rel => exact ⟨(wrap64 (Int.tdiv x0_1 10)), ((strOfNums y285) ++ x3_1), q73_, q73_, H', ⟨by have := HK1.out; omega⟩, ⟨q57_⟩⟩
     ·rw [if_neg c7] at H
      exact absurd H (by simp)
    ·rw [if_neg c6] at H
     have c6b0 : decide (10 ≤ x0_1) = false := decide_eq_false c6
     clear c6
     obtain ⟨y288, hy288⟩ : ∃ y_ : List Int, y_ = (([(wrap64 (48 + x0_1)) % 256] : List Int)) := ⟨_, rfl⟩
     replace H : (if (strOfNums y288).size + x3_1.size ≤ 9223372036854775807 then (some ((strOfNums y288) ++ x3_1)) else (none)) = some r := by first | (rw [hy288]; with_reducible exact H) | (have H2_ := (Option.bind_some _ _).symm.trans H; rw [hy288]; with_reducible exact H2_) | (have H2_ := (Option.bind_some _ _).symm.trans H; with_reducible exact H2_) | with_reducible exact H | (rw [hy288]; exact H) | exact H
     have Ny288 := Aside0.mk hy288
     clear hy288
     by_cases c11 : (strOfNums y288).size + x3_1.size ≤ 9223372036854775807
     ·rw [if_pos c11] at H
      have c11b0 := eq_true c11
      have c11b1 : decide ((strOfNums y288).size + x3_1.size ≤ 9223372036854775807) = true := decide_eq_true c11
      try have c11b2 : (9223372036854775807 < (strOfNums y288).size + x3_1.size) = False := eq_false (Nat.not_lt.2 c11)
      obtain rfl := Option.some.inj H
      go_wp2_with (first | ((with_reducible refine gate_dst (N := 25) rfl ?_); refine Kd.R_lit (Kd.int .u8) _ 5 ?hg (N := 25) ?hd (xs := ([(wrap64 (48 + x0_1)) % 256] : List Int)) (inner := [.int .u8 ((wrap64 (48 + x0_1)) % 256)]) (ok := fun _ => True) (okp := fun _ => True) ?hr ?hp (fun _ hk => hk) trivial (Below.refl _ _) (Nat.le_refl _) (by simp) ?_; (case hd => rfl); (case hg => rfl); (case hr => exact q114_); (case hp => exact (Reps.one (show Kd.M (Kd.int .u8) _ _ _ ((wrap64 (48 + x0_1)) % 256) [.int .u8 ((wrap64 (48 + x0_1)) % 256)] from rfl) (Reps.none _ _))); intro v289 w12 ho13 hb hg_ hnew_; clear hg_ hnew_; (first | rw [← Ny288.out] at ho13 | (simp only [Int.reduceToNat] at ho13; rw [← Ny288.out] at ho13)); have n0_ := Aside0.mk (Kd.R_lower ho13 (below_size q57_)); have n1_ := Aside0.mk (below_step q57_ hb); clear HB; have HO290 := n0_; have HB := n1_; clear n0_ n1_; clear hb ho13; have hcv14 := own_string (P := Tryz.prog) Tryz.underlying22 Tryz.underlying5 Tryz.underlying9 (Kd.own_of_R HO290.out); have hcvq14 := fun m_ : Nat => own_string (P := Tryz.prog) Tryz.underlying22 Tryz.underlying5 Tryz.underlying9 (Kd.own_of_R (Kd.R_drewN HO290.out m_))))
      go_ret
      exact ⟨q59_, q57_⟩
     ·rw [if_neg c11] at H
      exact absurd H (by simp)
def spec_l3Turns.f  : Option (List ByteArray) := some (([(⟨#[114, 108, 99]⟩ : ByteArray), (⟨#[114, 114, 99]⟩ : ByteArray), (⟨#[114, 108]⟩ : ByteArray), (⟨#[114, 114]⟩ : ByteArray), (⟨#[115, 108, 97]⟩ : ByteArray), (⟨#[115, 114, 97]⟩ : ByteArray), (⟨#[115, 119, 97, 112]⟩ : ByteArray), (⟨#[115, 114, 108]⟩ : ByteArray)] : List ByteArray))
theorem spec_l3Turns.calls  (r : List ByteArray) (w : World) (h : spec_l3Turns.f  = some r) :
  Calls Tryz.prog 99 #[] w fun e w' => ∃ v0_ : Value, e = .returned (v0_) ∧ Kd.R Kd.string 9 w' w.heap.size (fun _ => True) v0_ r ∧ Below w.heap.size w w' := by
 have HB := Aside0.mk (Below.refl w.heap.size w)
 have H : (some (([(⟨#[114, 108, 99]⟩ : ByteArray), (⟨#[114, 114, 99]⟩ : ByteArray), (⟨#[114, 108]⟩ : ByteArray), (⟨#[114, 114]⟩ : ByteArray), (⟨#[115, 108, 97]⟩ : ByteArray), (⟨#[115, 114, 97]⟩ : ByteArray), (⟨#[115, 119, 97, 112]⟩ : ByteArray), (⟨#[115, 114, 108]⟩ : ByteArray)] : List ByteArray))) = some r := h
 clear h
 obtain ⟨y291, hy291⟩ : ∃ y_ : List ByteArray, y_ = (([(⟨#[114, 108, 99]⟩ : ByteArray), (⟨#[114, 114, 99]⟩ : ByteArray), (⟨#[114, 108]⟩ : ByteArray), (⟨#[114, 114]⟩ : ByteArray), (⟨#[115, 108, 97]⟩ : ByteArray), (⟨#[115, 114, 97]⟩ : ByteArray), (⟨#[115, 119, 97, 112]⟩ : ByteArray), (⟨#[115, 114, 108]⟩ : ByteArray)] : List ByteArray)) := ⟨_, rfl⟩
 replace H : (some y291) = some r := by first | (rw [hy291]; with_reducible exact H) | (have H2_ := (Option.bind_some _ _).symm.trans H; rw [hy291]; with_reducible exact H2_) | (have H2_ := (Option.bind_some _ _).symm.trans H; with_reducible exact H2_) | with_reducible exact H | (rw [hy291]; exact H) | exact H
 have Ny291 := Aside0.mk hy291
 clear hy291
 obtain rfl := Option.some.inj H
 go_enter Tryz.func99, Tryz.ntmps99
 go_wp2_with (first | ((with_reducible refine gate_dst (N := 1) rfl ?_); refine Kd.R_lit Kd.string _ 9 ?hg (N := 1) ?hd (xs := ([(⟨#[114, 108, 99]⟩ : ByteArray), (⟨#[114, 114, 99]⟩ : ByteArray), (⟨#[114, 108]⟩ : ByteArray), (⟨#[114, 114]⟩ : ByteArray), (⟨#[115, 108, 97]⟩ : ByteArray), (⟨#[115, 114, 97]⟩ : ByteArray), (⟨#[115, 119, 97, 112]⟩ : ByteArray), (⟨#[115, 114, 108]⟩ : ByteArray)] : List ByteArray)) (inner := [.string (⟨#[114, 108, 99]⟩ : ByteArray), .string (⟨#[114, 114, 99]⟩ : ByteArray), .string (⟨#[114, 108]⟩ : ByteArray), .string (⟨#[114, 114]⟩ : ByteArray), .string (⟨#[115, 108, 97]⟩ : ByteArray), .string (⟨#[115, 114, 97]⟩ : ByteArray), .string (⟨#[115, 119, 97, 112]⟩ : ByteArray), .string (⟨#[115, 114, 108]⟩ : ByteArray)]) (ok := fun _ => True) (okp := fun _ => True) ?hr ?hp (fun _ hk => hk) trivial (Below.refl _ _) (Nat.le_refl _) (by simp) ?_; (case hd => rfl); (case hg => rfl); (case hr => exact q114_); (case hp => exact (Reps.one (show Kd.M Kd.string _ _ _ (⟨#[114, 108, 99]⟩ : ByteArray) [.string (⟨#[114, 108, 99]⟩ : ByteArray)] from rfl) (Reps.one (show Kd.M Kd.string _ _ _ (⟨#[114, 114, 99]⟩ : ByteArray) [.string (⟨#[114, 114, 99]⟩ : ByteArray)] from rfl) (Reps.one (show Kd.M Kd.string _ _ _ (⟨#[114, 108]⟩ : ByteArray) [.string (⟨#[114, 108]⟩ : ByteArray)] from rfl) (Reps.one (show Kd.M Kd.string _ _ _ (⟨#[114, 114]⟩ : ByteArray) [.string (⟨#[114, 114]⟩ : ByteArray)] from rfl) (Reps.one (show Kd.M Kd.string _ _ _ (⟨#[115, 108, 97]⟩ : ByteArray) [.string (⟨#[115, 108, 97]⟩ : ByteArray)] from rfl) (Reps.one (show Kd.M Kd.string _ _ _ (⟨#[115, 114, 97]⟩ : ByteArray) [.string (⟨#[115, 114, 97]⟩ : ByteArray)] from rfl) (Reps.one (show Kd.M Kd.string _ _ _ (⟨#[115, 119, 97, 112]⟩ : ByteArray) [.string (⟨#[115, 119, 97, 112]⟩ : ByteArray)] from rfl) (Reps.one (show Kd.M Kd.string _ _ _ (⟨#[115, 114, 108]⟩ : ByteArray) [.string (⟨#[115, 114, 108]⟩ : ByteArray)] from rfl) (Reps.none _ _)))))))))); intro v292 w1 ho2 hb hg_ hnew_; clear hg_ hnew_; (first | rw [← Ny291.out] at ho2 | (simp only [Int.reduceToNat] at ho2; rw [← Ny291.out] at ho2)); have n0_ := Aside0.mk (Kd.R_lower ho2 (below_size q57_)); have n1_ := Aside0.mk (below_step q57_ hb); clear HB; have HO293 := n0_; have HB := n1_; clear n0_ n1_; clear hb ho2))
 go_ret
 exact ⟨_, q59_, by (with_reducible repeat (first | apply Kd.R_alloc | apply Kd.R_drewN | apply Kd.R_drew)); exact HO293.out, q57_⟩
def spec_l3Regs.f  : Option (List ByteArray) := some (([(⟨#[98]⟩ : ByteArray), (⟨#[99]⟩ : ByteArray), (⟨#[100]⟩ : ByteArray), (⟨#[101]⟩ : ByteArray), (⟨#[104]⟩ : ByteArray), (⟨#[108]⟩ : ByteArray), (⟨#[91, 104, 108, 93]⟩ : ByteArray), (⟨#[97]⟩ : ByteArray)] : List ByteArray))
theorem spec_l3Regs.calls  (r : List ByteArray) (w : World) (h : spec_l3Regs.f  = some r) :
  Calls Tryz.prog 100 #[] w fun e w' => ∃ v0_ : Value, e = .returned (v0_) ∧ Kd.R Kd.string 9 w' w.heap.size (fun _ => True) v0_ r ∧ Below w.heap.size w w' := by
 have HB := Aside0.mk (Below.refl w.heap.size w)
 have H : (some (([(⟨#[98]⟩ : ByteArray), (⟨#[99]⟩ : ByteArray), (⟨#[100]⟩ : ByteArray), (⟨#[101]⟩ : ByteArray), (⟨#[104]⟩ : ByteArray), (⟨#[108]⟩ : ByteArray), (⟨#[91, 104, 108, 93]⟩ : ByteArray), (⟨#[97]⟩ : ByteArray)] : List ByteArray))) = some r := h
 clear h
 obtain ⟨y294, hy294⟩ : ∃ y_ : List ByteArray, y_ = (([(⟨#[98]⟩ : ByteArray), (⟨#[99]⟩ : ByteArray), (⟨#[100]⟩ : ByteArray), (⟨#[101]⟩ : ByteArray), (⟨#[104]⟩ : ByteArray), (⟨#[108]⟩ : ByteArray), (⟨#[91, 104, 108, 93]⟩ : ByteArray), (⟨#[97]⟩ : ByteArray)] : List ByteArray)) := ⟨_, rfl⟩
 replace H : (some y294) = some r := by first | (rw [hy294]; with_reducible exact H) | (have H2_ := (Option.bind_some _ _).symm.trans H; rw [hy294]; with_reducible exact H2_) | (have H2_ := (Option.bind_some _ _).symm.trans H; with_reducible exact H2_) | with_reducible exact H | (rw [hy294]; exact H) | exact H
 have Ny294 := Aside0.mk hy294
 clear hy294
 obtain rfl := Option.some.inj H
 go_enter Tryz.func100, Tryz.ntmps100
 go_wp2_with (first | ((with_reducible refine gate_dst (N := 1) rfl ?_); refine Kd.R_lit Kd.string _ 9 ?hg (N := 1) ?hd (xs := ([(⟨#[98]⟩ : ByteArray), (⟨#[99]⟩ : ByteArray), (⟨#[100]⟩ : ByteArray), (⟨#[101]⟩ : ByteArray), (⟨#[104]⟩ : ByteArray), (⟨#[108]⟩ : ByteArray), (⟨#[91, 104, 108, 93]⟩ : ByteArray), (⟨#[97]⟩ : ByteArray)] : List ByteArray)) (inner := [.string (⟨#[98]⟩ : ByteArray), .string (⟨#[99]⟩ : ByteArray), .string (⟨#[100]⟩ : ByteArray), .string (⟨#[101]⟩ : ByteArray), .string (⟨#[104]⟩ : ByteArray), .string (⟨#[108]⟩ : ByteArray), .string (⟨#[91, 104, 108, 93]⟩ : ByteArray), .string (⟨#[97]⟩ : ByteArray)]) (ok := fun _ => True) (okp := fun _ => True) ?hr ?hp (fun _ hk => hk) trivial (Below.refl _ _) (Nat.le_refl _) (by simp) ?_; (case hd => rfl); (case hg => rfl); (case hr => exact q114_); (case hp => exact (Reps.one (show Kd.M Kd.string _ _ _ (⟨#[98]⟩ : ByteArray) [.string (⟨#[98]⟩ : ByteArray)] from rfl) (Reps.one (show Kd.M Kd.string _ _ _ (⟨#[99]⟩ : ByteArray) [.string (⟨#[99]⟩ : ByteArray)] from rfl) (Reps.one (show Kd.M Kd.string _ _ _ (⟨#[100]⟩ : ByteArray) [.string (⟨#[100]⟩ : ByteArray)] from rfl) (Reps.one (show Kd.M Kd.string _ _ _ (⟨#[101]⟩ : ByteArray) [.string (⟨#[101]⟩ : ByteArray)] from rfl) (Reps.one (show Kd.M Kd.string _ _ _ (⟨#[104]⟩ : ByteArray) [.string (⟨#[104]⟩ : ByteArray)] from rfl) (Reps.one (show Kd.M Kd.string _ _ _ (⟨#[108]⟩ : ByteArray) [.string (⟨#[108]⟩ : ByteArray)] from rfl) (Reps.one (show Kd.M Kd.string _ _ _ (⟨#[91, 104, 108, 93]⟩ : ByteArray) [.string (⟨#[91, 104, 108, 93]⟩ : ByteArray)] from rfl) (Reps.one (show Kd.M Kd.string _ _ _ (⟨#[97]⟩ : ByteArray) [.string (⟨#[97]⟩ : ByteArray)] from rfl) (Reps.none _ _)))))))))); intro v295 w1 ho2 hb hg_ hnew_; clear hg_ hnew_; (first | rw [← Ny294.out] at ho2 | (simp only [Int.reduceToNat] at ho2; rw [← Ny294.out] at ho2)); have n0_ := Aside0.mk (Kd.R_lower ho2 (below_size q57_)); have n1_ := Aside0.mk (below_step q57_ hb); clear HB; have HO296 := n0_; have HB := n1_; clear n0_ n1_; clear hb ho2))
 go_ret
 exact ⟨_, q59_, by (with_reducible repeat (first | apply Kd.R_alloc | apply Kd.R_drewN | apply Kd.R_drew)); exact HO296.out, q57_⟩
def spec_l3Conds.f  : Option (List ByteArray) := some (([(⟨#[110, 122]⟩ : ByteArray), (⟨#[122]⟩ : ByteArray), (⟨#[110, 99]⟩ : ByteArray), (⟨#[99]⟩ : ByteArray)] : List ByteArray))
theorem spec_l3Conds.calls  (r : List ByteArray) (w : World) (h : spec_l3Conds.f  = some r) :
  Calls Tryz.prog 132 #[] w fun e w' => ∃ v0_ : Value, e = .returned (v0_) ∧ Kd.R Kd.string 9 w' w.heap.size (fun _ => True) v0_ r ∧ Below w.heap.size w w' := by
 have HB := Aside0.mk (Below.refl w.heap.size w)
 have H : (some (([(⟨#[110, 122]⟩ : ByteArray), (⟨#[122]⟩ : ByteArray), (⟨#[110, 99]⟩ : ByteArray), (⟨#[99]⟩ : ByteArray)] : List ByteArray))) = some r := h
 clear h
 obtain ⟨y297, hy297⟩ : ∃ y_ : List ByteArray, y_ = (([(⟨#[110, 122]⟩ : ByteArray), (⟨#[122]⟩ : ByteArray), (⟨#[110, 99]⟩ : ByteArray), (⟨#[99]⟩ : ByteArray)] : List ByteArray)) := ⟨_, rfl⟩
 replace H : (some y297) = some r := by first | (rw [hy297]; with_reducible exact H) | (have H2_ := (Option.bind_some _ _).symm.trans H; rw [hy297]; with_reducible exact H2_) | (have H2_ := (Option.bind_some _ _).symm.trans H; with_reducible exact H2_) | with_reducible exact H | (rw [hy297]; exact H) | exact H
 have Ny297 := Aside0.mk hy297
 clear hy297
 obtain rfl := Option.some.inj H
 go_enter Tryz.func132, Tryz.ntmps132
 go_wp2_with (first | ((with_reducible refine gate_dst (N := 1) rfl ?_); refine Kd.R_lit Kd.string _ 9 ?hg (N := 1) ?hd (xs := ([(⟨#[110, 122]⟩ : ByteArray), (⟨#[122]⟩ : ByteArray), (⟨#[110, 99]⟩ : ByteArray), (⟨#[99]⟩ : ByteArray)] : List ByteArray)) (inner := [.string (⟨#[110, 122]⟩ : ByteArray), .string (⟨#[122]⟩ : ByteArray), .string (⟨#[110, 99]⟩ : ByteArray), .string (⟨#[99]⟩ : ByteArray)]) (ok := fun _ => True) (okp := fun _ => True) ?hr ?hp (fun _ hk => hk) trivial (Below.refl _ _) (Nat.le_refl _) (by simp) ?_; (case hd => rfl); (case hg => rfl); (case hr => exact q114_); (case hp => exact (Reps.one (show Kd.M Kd.string _ _ _ (⟨#[110, 122]⟩ : ByteArray) [.string (⟨#[110, 122]⟩ : ByteArray)] from rfl) (Reps.one (show Kd.M Kd.string _ _ _ (⟨#[122]⟩ : ByteArray) [.string (⟨#[122]⟩ : ByteArray)] from rfl) (Reps.one (show Kd.M Kd.string _ _ _ (⟨#[110, 99]⟩ : ByteArray) [.string (⟨#[110, 99]⟩ : ByteArray)] from rfl) (Reps.one (show Kd.M Kd.string _ _ _ (⟨#[99]⟩ : ByteArray) [.string (⟨#[99]⟩ : ByteArray)] from rfl) (Reps.none _ _)))))); intro v298 w1 ho2 hb hg_ hnew_; clear hg_ hnew_; (first | rw [← Ny297.out] at ho2 | (simp only [Int.reduceToNat] at ho2; rw [← Ny297.out] at ho2)); have n0_ := Aside0.mk (Kd.R_lower ho2 (below_size q57_)); have n1_ := Aside0.mk (below_step q57_ hb); clear HB; have HO299 := n0_; have HB := n1_; clear n0_ n1_; clear hb ho2))
 go_ret
 exact ⟨_, q59_, by (with_reducible repeat (first | apply Kd.R_alloc | apply Kd.R_drewN | apply Kd.R_drew)); exact HO299.out, q57_⟩
def spec_l3Pairs.f  : Option (List ByteArray) := some (([(⟨#[98, 99]⟩ : ByteArray), (⟨#[100, 101]⟩ : ByteArray), (⟨#[104, 108]⟩ : ByteArray), (⟨#[115, 112]⟩ : ByteArray)] : List ByteArray))
theorem spec_l3Pairs.calls  (r : List ByteArray) (w : World) (h : spec_l3Pairs.f  = some r) :
  Calls Tryz.prog 133 #[] w fun e w' => ∃ v0_ : Value, e = .returned (v0_) ∧ Kd.R Kd.string 9 w' w.heap.size (fun _ => True) v0_ r ∧ Below w.heap.size w w' := by
 have HB := Aside0.mk (Below.refl w.heap.size w)
 have H : (some (([(⟨#[98, 99]⟩ : ByteArray), (⟨#[100, 101]⟩ : ByteArray), (⟨#[104, 108]⟩ : ByteArray), (⟨#[115, 112]⟩ : ByteArray)] : List ByteArray))) = some r := h
 clear h
 obtain ⟨y300, hy300⟩ : ∃ y_ : List ByteArray, y_ = (([(⟨#[98, 99]⟩ : ByteArray), (⟨#[100, 101]⟩ : ByteArray), (⟨#[104, 108]⟩ : ByteArray), (⟨#[115, 112]⟩ : ByteArray)] : List ByteArray)) := ⟨_, rfl⟩
 replace H : (some y300) = some r := by first | (rw [hy300]; with_reducible exact H) | (have H2_ := (Option.bind_some _ _).symm.trans H; rw [hy300]; with_reducible exact H2_) | (have H2_ := (Option.bind_some _ _).symm.trans H; with_reducible exact H2_) | with_reducible exact H | (rw [hy300]; exact H) | exact H
 have Ny300 := Aside0.mk hy300
 clear hy300
 obtain rfl := Option.some.inj H
 go_enter Tryz.func133, Tryz.ntmps133
 go_wp2_with (first | ((with_reducible refine gate_dst (N := 1) rfl ?_); refine Kd.R_lit Kd.string _ 9 ?hg (N := 1) ?hd (xs := ([(⟨#[98, 99]⟩ : ByteArray), (⟨#[100, 101]⟩ : ByteArray), (⟨#[104, 108]⟩ : ByteArray), (⟨#[115, 112]⟩ : ByteArray)] : List ByteArray)) (inner := [.string (⟨#[98, 99]⟩ : ByteArray), .string (⟨#[100, 101]⟩ : ByteArray), .string (⟨#[104, 108]⟩ : ByteArray), .string (⟨#[115, 112]⟩ : ByteArray)]) (ok := fun _ => True) (okp := fun _ => True) ?hr ?hp (fun _ hk => hk) trivial (Below.refl _ _) (Nat.le_refl _) (by simp) ?_; (case hd => rfl); (case hg => rfl); (case hr => exact q114_); (case hp => exact (Reps.one (show Kd.M Kd.string _ _ _ (⟨#[98, 99]⟩ : ByteArray) [.string (⟨#[98, 99]⟩ : ByteArray)] from rfl) (Reps.one (show Kd.M Kd.string _ _ _ (⟨#[100, 101]⟩ : ByteArray) [.string (⟨#[100, 101]⟩ : ByteArray)] from rfl) (Reps.one (show Kd.M Kd.string _ _ _ (⟨#[104, 108]⟩ : ByteArray) [.string (⟨#[104, 108]⟩ : ByteArray)] from rfl) (Reps.one (show Kd.M Kd.string _ _ _ (⟨#[115, 112]⟩ : ByteArray) [.string (⟨#[115, 112]⟩ : ByteArray)] from rfl) (Reps.none _ _)))))); intro v301 w1 ho2 hb hg_ hnew_; clear hg_ hnew_; (first | rw [← Ny300.out] at ho2 | (simp only [Int.reduceToNat] at ho2; rw [← Ny300.out] at ho2)); have n0_ := Aside0.mk (Kd.R_lower ho2 (below_size q57_)); have n1_ := Aside0.mk (below_step q57_ hb); clear HB; have HO302 := n0_; have HB := n1_; clear n0_ n1_; clear hb ho2))
 go_ret
 exact ⟨_, q59_, by (with_reducible repeat (first | apply Kd.R_alloc | apply Kd.R_drewN | apply Kd.R_drew)); exact HO302.out, q57_⟩
end Go.Proofs.YtodlnnoekccmmaaGreatDoor.QFnIns
