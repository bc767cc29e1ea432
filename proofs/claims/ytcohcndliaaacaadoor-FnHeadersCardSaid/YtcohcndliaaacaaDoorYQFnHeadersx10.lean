/- The machine's side of a law, written by a program of this session for this claim. -/
import Derived.Test.YtcohcndliaaacaaDoorYQq
import Derived.Test.YtcohcndliaaacaaDoorYQFnHeadersx0
import Derived.Test.YtcohcndliaaacaaDoorYQFnHeadersx1
import Derived.Test.YtcohcndliaaacaaDoorYQFnHeadersx5
import Derived.Test.YtcohcndliaaacaaDoorYQFnHeadersx6
import Derived.Test.YtcohcndliaaacaaDoorYQFnHeadersx9
namespace Go.Proofs.YtcohcndliaaacaaDoor.QFnHeaders
open Go.Proofs.YtcohcndliaaacaaDoor.Qq
open Go.RowKit Go.Proofs.YtcohcndliaaacaaDoor.LibX Go.Proofs.YtcohcndliaaacaaDoor.LibE Go.Proofs.YtcohcndliaaacaaDoorW.PrintWords Go.Proofs.YtcohcndliaaacaaDoorW.PrintLast Go.Proofs.YtcohcndliaaacaaDoorW.PrintMore
attribute [local go_sem] max2_int min2_int max_two min_two max_three min_three max_four min_four   -- for this text's walks alone
set_option maxHeartbeats 8000000
set_option maxRecDepth 100000
set_option linter.unusedVariables false
set_option linter.unusedSimpArgs false
def spec_l3Length.f (k : Nat) (a0 : Int) (a1 : Bool) : Option (Int) := (spec_l3Template.f k a0 a1).bind fun t305 => (if t305.toList = ([] : List UInt8) then (some 0) else (if a1 = true then (some 2) else ((spec_l3Hole.f k t305).bind fun bt306 => (if bt306.2.toList = ([] : List UInt8) then (some 1) else (if bt306.2.toList = ([110, 49, 54] : List UInt8) then (some 3) else (some 2))))))
theorem spec_l3Length.mono : ∀ a0 a1 k, LeO (spec_l3Length.f k a0 a1) (spec_l3Length.f (k + 1) a0 a1) := by
 intro a0 a1 k
 unfold spec_l3Length.f
 repeat' first
   | (with_reducible first | exact spec_l3Hole.mono _ _ | exact spec_l3Template.mono _ _ _ | exact LeO.refl _ | exact LeO.none _ | refine LeO.ite ?_ ?_ | refine LeO.bind ?_ (fun _ => ?_))
   | exact spec_l3Hole.mono _ _
   | exact spec_l3Template.mono _ _ _
   | exact LeO.none _
   | refine LeO.ite ?_ ?_
   | refine LeO.bind ?_ (fun _ => ?_)
theorem spec_l3Length.calls (k : Nat) (a0 : Int) (a1 : Bool) (r : Int) (w : World) (h : spec_l3Length.f k a0 a1 = some r) :
  Calls Tryd.prog 83 #[.int .i64 a0, .bool a1] w fun e w' => e = .returned (.int .i64 r) ∧ Below w.heap.size w w' := by
 have HB := Aside0.mk (Below.refl w.heap.size w)
 have H : ((spec_l3Template.f k a0 a1).bind fun t305 => (if t305.toList = ([] : List UInt8) then (some 0) else (if a1 = true then (some 2) else ((spec_l3Hole.f k t305).bind fun bt306 => (if bt306.2.toList = ([] : List UInt8) then (some 1) else (if bt306.2.toList = ([110, 49, 54] : List UInt8) then (some 3) else (some 2))))))) = some r := h
 clear h
 replace H := Option.bind_eq_some_iff.mp H
 obtain ⟨t305, A30, H⟩ := H
 have A3 := Aside0.mk A30
 clear A30
 by_cases c4 : t305.toList = ([] : List UInt8)
 ·rw [if_pos c4] at H
  have c4b0 : (t305.toList == ([] : List UInt8)) = true := beq_iff_eq.mpr c4
  have c4b1 : (t305.toList != ([] : List UInt8)) = false := bne_eq_false_iff_eq.mpr c4
  clear c4
  obtain rfl := Option.some.inj H
  go_enter Tryd.func83, Tryd.ntmps83
  go_wp2_with (first | ((with_reducible refine gate_callee (f := 107) rfl ?_); refine goesL_ (some 10) rfl rfl Tryd.func107 (by kernel_rfl) rfl #[.int .i64 a0, .bool a1] rfl q55_ ?_; (with_reducible refine (spec_l3Template.calls k a0 a1 t305 _ A3.out).mono ?_); rintro e w5 ⟨rfl, hb⟩; refine ⟨_, rfl, ?_⟩; replace HB := Aside0.mk (below_step q56_ hb); (try clear hb)))
  go_ret
  exact ⟨q60_, q56_⟩
 ·rw [if_neg c4] at H
  have c4b0 : (t305.toList == ([] : List UInt8)) = false := beq_eq_false_iff_ne.mpr c4
  have c4b1 : (t305.toList != ([] : List UInt8)) = true := bne_iff_ne.mpr c4
  by_cases c6 : a1 = true
  ·subst c6
   replace H : (some 2) = some r := by rw [if_pos rfl] at H; exact H
   obtain rfl := Option.some.inj H
   go_enter Tryd.func83, Tryd.ntmps83
   go_wp2_with (first | ((with_reducible refine gate_callee (f := 107) rfl ?_); refine goesL_ (some 10) rfl rfl Tryd.func107 (by kernel_rfl) rfl #[.int .i64 a0, .bool true] rfl q55_ ?_; (with_reducible refine (spec_l3Template.calls k a0 true t305 _ A3.out).mono ?_); rintro e w7 ⟨rfl, hb⟩; refine ⟨_, rfl, ?_⟩; replace HB := Aside0.mk (below_step q56_ hb); (try clear hb)))
   go_ret
   exact ⟨q60_, q56_⟩
  ·replace c6 := Bool.eq_false_iff.mpr c6
   subst c6
   replace H : ((spec_l3Hole.f k t305).bind fun bt306 => (if bt306.2.toList = ([] : List UInt8) then (some 1) else (if bt306.2.toList = ([110, 49, 54] : List UInt8) then (some 3) else (some 2)))) = some r := by rw [if_neg (show ¬ (false = true) by decide)] at H; exact H
   replace H := Option.bind_eq_some_iff.mp H
   obtain ⟨⟨t306, t307⟩, A80, H⟩ := H
   replace H : (if t307.toList = ([] : List UInt8) then (some 1) else (if t307.toList = ([110, 49, 54] : List UInt8) then (some 3) else (some 2))) = some r := H
   have A8 := Aside0.mk A80
   clear A80
   by_cases c9 : t307.toList = ([] : List UInt8)
   ·rw [if_pos c9] at H
    have c9b0 : (t307.toList == ([] : List UInt8)) = true := beq_iff_eq.mpr c9
    have c9b1 : (t307.toList != ([] : List UInt8)) = false := bne_eq_false_iff_eq.mpr c9
    clear c9
    obtain rfl := Option.some.inj H
    go_enter Tryd.func83, Tryd.ntmps83
    go_wp2_with (first | ((with_reducible refine gate_callee (f := 107) rfl ?_); refine goesL_ (some 10) rfl rfl Tryd.func107 (by kernel_rfl) rfl #[.int .i64 a0, .bool false] rfl q55_ ?_; (with_reducible refine (spec_l3Template.calls k a0 false t305 _ A3.out).mono ?_); rintro e w10 ⟨rfl, hb⟩; refine ⟨_, rfl, ?_⟩; replace HB := Aside0.mk (below_step q56_ hb); (try clear hb)) | ((with_reducible refine gate_callee (f := 106) rfl ?_); refine goesL_ (some 16) rfl rfl Tryd.func106 (by kernel_rfl) rfl #[.string t305] rfl q55_ ?_; (with_reducible refine (spec_l3Hole.calls k t305 t306 t307 _ A8.out).mono ?_); rintro e w11 ⟨rfl, hb⟩; refine ⟨_, rfl, ?_⟩; replace HB := Aside0.mk (below_step q56_ hb); (try clear hb)))
    go_ret
    exact ⟨q60_, q56_⟩
   ·rw [if_neg c9] at H
    have c9b0 : (t307.toList == ([] : List UInt8)) = false := beq_eq_false_iff_ne.mpr c9
    have c9b1 : (t307.toList != ([] : List UInt8)) = true := bne_iff_ne.mpr c9
    by_cases c12 : t307.toList = ([110, 49, 54] : List UInt8)
    ·rw [if_pos c12] at H
     have c12b0 : (t307.toList == ([110, 49, 54] : List UInt8)) = true := beq_iff_eq.mpr c12
     have c12b1 : (t307.toList != ([110, 49, 54] : List UInt8)) = false := bne_eq_false_iff_eq.mpr c12
     clear c12
     obtain rfl := Option.some.inj H
     go_enter Tryd.func83, Tryd.ntmps83
     go_wp2_with (first | ((with_reducible refine gate_callee (f := 107) rfl ?_); refine goesL_ (some 10) rfl rfl Tryd.func107 (by kernel_rfl) rfl #[.int .i64 a0, .bool false] rfl q55_ ?_; (with_reducible refine (spec_l3Template.calls k a0 false t305 _ A3.out).mono ?_); rintro e w13 ⟨rfl, hb⟩; refine ⟨_, rfl, ?_⟩; replace HB := Aside0.mk (below_step q56_ hb); (try clear hb)) | ((with_reducible refine gate_callee (f := 106) rfl ?_); refine goesL_ (some 16) rfl rfl Tryd.func106 (by kernel_rfl) rfl #[.string t305] rfl q55_ ?_; (with_reducible refine (spec_l3Hole.calls k t305 t306 t307 _ A8.out).mono ?_); rintro e w14 ⟨rfl, hb⟩; refine ⟨_, rfl, ?_⟩; replace HB := Aside0.mk (below_step q56_ hb); (try clear hb)))
     go_ret
     exact ⟨q60_, q56_⟩
    ·rw [if_neg c12] at H
     have c12b0 : (t307.toList == ([110, 49, 54] : List UInt8)) = false := beq_eq_false_iff_ne.mpr c12
     have c12b1 : (t307.toList != ([110, 49, 54] : List UInt8)) = true := bne_iff_ne.mpr c12
     obtain rfl := Option.some.inj H
     go_enter Tryd.func83, Tryd.ntmps83
     go_wp2_with (first | ((with_reducible refine gate_callee (f := 107) rfl ?_); refine goesL_ (some 10) rfl rfl Tryd.func107 (by kernel_rfl) rfl #[.int .i64 a0, .bool false] rfl q55_ ?_; (with_reducible refine (spec_l3Template.calls k a0 false t305 _ A3.out).mono ?_); rintro e w15 ⟨rfl, hb⟩; refine ⟨_, rfl, ?_⟩; replace HB := Aside0.mk (below_step q56_ hb); (try clear hb)) | ((with_reducible refine gate_callee (f := 106) rfl ?_); refine goesL_ (some 16) rfl rfl Tryd.func106 (by kernel_rfl) rfl #[.string t305] rfl q55_ ?_; (with_reducible refine (spec_l3Hole.calls k t305 t306 t307 _ A8.out).mono ?_); rintro e w16 ⟨rfl, hb⟩; refine ⟨_, rfl, ?_⟩; replace HB := Aside0.mk (below_step q56_ hb); (try clear hb)))
     go_ret
     exact ⟨q60_, q56_⟩
def spec_LengthOf.f (k : Nat) (a0 : Int) (a1 : Bool) : Option (Int) := (spec_l1In.f a0 0 255).bind fun t308 => (if t308 = true then ((spec_l3Length.f k a0 a1).bind fun t309 => (some t309)) else (some 0))
theorem spec_LengthOf.mono : ∀ a0 a1 k, LeO (spec_LengthOf.f k a0 a1) (spec_LengthOf.f (k + 1) a0 a1) := by
 intro a0 a1 k
 unfold spec_LengthOf.f
 repeat' first
   | (with_reducible first | exact spec_l3Length.mono _ _ _ | exact LeO.refl _ | exact LeO.none _ | refine LeO.ite ?_ ?_ | refine LeO.bind ?_ (fun _ => ?_))
   | exact spec_l3Length.mono _ _ _
   | exact LeO.none _
   | refine LeO.ite ?_ ?_
   | refine LeO.bind ?_ (fun _ => ?_)
theorem spec_LengthOf.calls (k : Nat) (a0 : Int) (a1 : Bool) (r : Int) (w : World) (h : spec_LengthOf.f k a0 a1 = some r) :
  Calls Tryd.prog 105 #[.int .i64 a0, .bool a1] w fun e w' => e = .returned (.int .i64 r) ∧ Below w.heap.size w w' := by
 have HB := Aside0.mk (Below.refl w.heap.size w)
 have H : ((spec_l1In.f a0 0 255).bind fun t308 => (if t308 = true then ((spec_l3Length.f k a0 a1).bind fun t309 => (some t309)) else (some 0))) = some r := h
 clear h
 replace H := Option.bind_eq_some_iff.mp H
 obtain ⟨t308, A30, H⟩ := H
 have A3 := Aside0.mk A30
 clear A30
 by_cases c4 : t308 = true
 ·subst c4
  replace H : ((spec_l3Length.f k a0 a1).bind fun t309 => (some t309)) = some r := by rw [if_pos rfl] at H; exact H
  replace H := Option.bind_eq_some_iff.mp H
  obtain ⟨t309, A50, H⟩ := H
  have A5 := Aside0.mk A50
  clear A50
  obtain rfl := Option.some.inj H
  go_enter Tryd.func105, Tryd.ntmps105
  go_wp2_with (first | ((with_reducible refine gate_callee (f := 50) rfl ?_); refine goesL_ (some 6) rfl rfl Tryd.func50 (by kernel_rfl) rfl #[.int .i64 a0, .int .i64 0, .int .i64 255] rfl q55_ ?_; (with_reducible refine (spec_l1In.calls a0 0 255 true _ A3.out).mono ?_); rintro e w' ⟨rfl, ⟨nd, rfl⟩⟩; refine ⟨_, rfl, ?_⟩) | ((with_reducible refine gate_callee (f := 83) rfl ?_); refine goesL_ (some 10) rfl rfl Tryd.func83 (by kernel_rfl) rfl #[.int .i64 a0, .bool a1] rfl q55_ ?_; (with_reducible refine (spec_l3Length.calls k a0 a1 t309 _ A5.out).mono ?_); rintro e w6 ⟨rfl, hb⟩; refine ⟨_, rfl, ?_⟩; replace HB := Aside0.mk (below_step q56_ hb); (try clear hb)))
  go_ret
  exact ⟨q60_, q56_⟩
 ·replace c4 := Bool.eq_false_iff.mpr c4
  subst c4
  replace H : (some 0) = some r := by rw [if_neg (show ¬ (false = true) by decide)] at H; exact H
  obtain rfl := Option.some.inj H
  go_enter Tryd.func105, Tryd.ntmps105
  go_wp2_with (first | ((with_reducible refine gate_callee (f := 50) rfl ?_); refine goesL_ (some 6) rfl rfl Tryd.func50 (by kernel_rfl) rfl #[.int .i64 a0, .int .i64 0, .int .i64 255] rfl q55_ ?_; (with_reducible refine (spec_l1In.calls a0 0 255 false _ A3.out).mono ?_); rintro e w' ⟨rfl, ⟨nd, rfl⟩⟩; refine ⟨_, rfl, ?_⟩))
  go_ret
  exact ⟨q60_, q56_⟩
def spec_InsOk.j0 : Nat → Bool → Int → Bool → Int → Option (Bool)
 | 0, _, _, _, _ => none
 | k + 1, x26, x311000, x311001, x311002 => if x26 = true then ((spec_l1In.f x311002 0 255).bind fun t316 => (some t316)) else (some (x311002 == 0))
def spec_InsOk.f (k : Nat) (a0_0 : Int) (a0_1 : Bool) (a0_2 : Int) : Option (Bool) := (spec_LengthOf.f k a0_0 a0_1).bind fun t311 => (if t311 = 0 then (some false) else ((spec_l3Template.f k a0_0 a0_1).bind fun t312 => ((spec_l3Hole.f k t312).bind fun bt313 => (if bt313.2.toList = ([110, 49, 54] : List UInt8) then ((spec_l1In.f a0_2 0 65535).bind fun t315 => (some t315)) else (if bt313.2.toList = ([110, 56] : List UInt8) then (spec_InsOk.j0 k (bt313.2.toList == ([110, 56] : List UInt8)) a0_0 a0_1 a0_2) else (spec_InsOk.j0 k (bt313.2.toList == ([101, 56] : List UInt8)) a0_0 a0_1 a0_2))))))
theorem spec_InsOk.mono_l : ∀ k, (∀ y0 y1 y2 y3, LeO (spec_InsOk.j0 k y0 y1 y2 y3) (spec_InsOk.j0 (k + 1) y0 y1 y2 y3))
 | 0 => fun _ _ _ _ r h => by simp [spec_InsOk.j0] at h
 | k + 1 => by
  have ih0 := spec_InsOk.mono_l k
  ·intro y0 y1 y2 y3
   unfold spec_InsOk.j0
   repeat' first
   | (with_reducible first | exact ih0 _ _ _ _ | exact spec_LengthOf.mono _ _ _ | exact spec_l3Hole.mono _ _ | exact spec_l3Template.mono _ _ _ | exact LeO.refl _ | exact LeO.none _ | refine LeO.ite ?_ ?_ | refine LeO.bind ?_ (fun _ => ?_))
   | exact ih0 _ _ _ _
   | exact spec_LengthOf.mono _ _ _
   | exact spec_l3Hole.mono _ _
   | exact spec_l3Template.mono _ _ _
   | exact LeO.none _
   | refine LeO.ite ?_ ?_
   | refine LeO.bind ?_ (fun _ => ?_)
theorem spec_InsOk.mono : ∀ a0 a1 a2 k, LeO (spec_InsOk.f k a0 a1 a2) (spec_InsOk.f (k + 1) a0 a1 a2) := by
 intro a0 a1 a2 k
 have ih0 := spec_InsOk.mono_l k
 unfold spec_InsOk.f
 repeat' first
   | (with_reducible first | exact ih0 _ _ _ _ | exact spec_LengthOf.mono _ _ _ | exact spec_l3Hole.mono _ _ | exact spec_l3Template.mono _ _ _ | exact LeO.refl _ | exact LeO.none _ | refine LeO.ite ?_ ?_ | refine LeO.bind ?_ (fun _ => ?_))
   | exact ih0 _ _ _ _
   | exact spec_LengthOf.mono _ _ _
   | exact spec_l3Hole.mono _ _
   | exact spec_l3Template.mono _ _ _
   | exact LeO.none _
   | refine LeO.ite ?_ ?_
   | refine LeO.bind ?_ (fun _ => ?_)
theorem spec_InsOk.calls (k : Nat) (a0_0 : Int) (a0_1 : Bool) (a0_2 : Int) (r : Bool) (w : World) (h : spec_InsOk.f k a0_0 a0_1 a0_2 = some r) :
  Calls Tryd.prog 82 #[.agg #[.int .i64 a0_0, .bool a0_1, .int .i64 a0_2]] w fun e w' => e = .returned (.bool r) ∧ Below w.heap.size w w' := by
 have hu78 := Tryd.underlying78
 have HB := Aside0.mk (Below.refl w.heap.size w)
 have H : ((spec_LengthOf.f k a0_0 a0_1).bind fun t311 => (if t311 = 0 then (some false) else ((spec_l3Template.f k a0_0 a0_1).bind fun t312 => ((spec_l3Hole.f k t312).bind fun bt313 => (if bt313.2.toList = ([110, 49, 54] : List UInt8) then ((spec_l1In.f a0_2 0 65535).bind fun t315 => (some t315)) else (if bt313.2.toList = ([110, 56] : List UInt8) then (spec_InsOk.j0 k (bt313.2.toList == ([110, 56] : List UInt8)) a0_0 a0_1 a0_2) else (spec_InsOk.j0 k (bt313.2.toList == ([101, 56] : List UInt8)) a0_0 a0_1 a0_2))))))) = some r := h
 clear h
 replace H := Option.bind_eq_some_iff.mp H
 obtain ⟨t311, A20, H⟩ := H
 have A2 := Aside0.mk A20
 clear A20
 by_cases c3 : t311 = 0
 ·rw [if_pos c3] at H
  have c3b0 : (t311 == 0) = true := beq_iff_eq.mpr c3
  have c3b1 : (t311 != 0) = false := bne_eq_false_iff_eq.mpr c3
  clear c3
  obtain rfl := Option.some.inj H
  go_enter Tryd.func82, Tryd.ntmps82
  go_wp2_with (first | ((with_reducible refine gate_dst (N := 1) rfl ?_); refine box_event ?hg (N := 1) ?hd (cs := #[.int .i64 a0_0, .bool a0_1, .int .i64 a0_2]) (t := 78) ?hr ?_; (case hd => rfl); (case hg => rfl); (case hr => exact q118_); intro gb310 hg w4 hbox hb; have n0_ := Aside0.mk (below_step q56_ hb); have n1_ := Aside0.mk (hbox); have n2_ := Aside0.mk ((q43_ : w.heap.size ≤ gb310)); have n3_ := Aside0.mk ((q43_ : w.heap.size ≤ gb310)); clear HB; have HB := n0_; have BK310 := n1_; have GW310 := n2_; have GE310 := n3_; clear n0_ n1_ n2_ n3_; clear hb hbox hg; have hcz5_0 : w4.cell? ⟨gb310, 0, none⟩ = some (.int .i64 a0_0) := (blk_cell BK310.out 0).trans rfl; have hcz5_1 : w4.cell? ⟨gb310, 1, none⟩ = some (.bool a0_1) := (blk_cell BK310.out 1).trans rfl; have hcz5_2 : w4.cell? ⟨gb310, 2, none⟩ = some (.int .i64 a0_2) := (blk_cell BK310.out 2).trans rfl; have hfz5_0 := blk_frozen BK310.out 0; have hfz5_1 := blk_frozen BK310.out 1; have hfz5_2 := blk_frozen BK310.out 2) | ((with_reducible refine gate_callee (f := 105) rfl ?_); refine goesL_ (some 9) rfl rfl Tryd.func105 (by kernel_rfl) rfl #[.int .i64 a0_0, .bool a0_1] rfl q55_ ?_; (with_reducible refine (spec_LengthOf.calls k a0_0 a0_1 t311 _ A2.out).mono ?_); rintro e w6 ⟨rfl, hb⟩; refine ⟨_, rfl, ?_⟩; have n0_ := Aside0.mk (blk_below (g := gb310) (o := .cells #[.int .i64 a0_0, .bool a0_1, .int .i64 a0_2] 78 (0, 0)) q66_ hb); have n1_ := Aside0.mk (below_step q46_ hb); clear BK310; clear HB; have BK310 := n0_; have HB := n1_; clear n0_ n1_; (try clear hb)))
  go_ret
  exact ⟨q60_, q46_⟩
 ·rw [if_neg c3] at H
  have c3b0 : (t311 == 0) = false := beq_eq_false_iff_ne.mpr c3
  have c3b1 : (t311 != 0) = true := bne_iff_ne.mpr c3
  replace H := Option.bind_eq_some_iff.mp H
  obtain ⟨t312, A70, H⟩ := H
  have A7 := Aside0.mk A70
  clear A70
  replace H := Option.bind_eq_some_iff.mp H
  obtain ⟨⟨t313, t314⟩, A80, H⟩ := H
  replace H : (if t314.toList = ([110, 49, 54] : List UInt8) then ((spec_l1In.f a0_2 0 65535).bind fun t315 => (some t315)) else (if t314.toList = ([110, 56] : List UInt8) then (spec_InsOk.j0 k (t314.toList == ([110, 56] : List UInt8)) a0_0 a0_1 a0_2) else (spec_InsOk.j0 k (t314.toList == ([101, 56] : List UInt8)) a0_0 a0_1 a0_2))) = some r := H
  have A8 := Aside0.mk A80
  clear A80
  by_cases c9 : t314.toList = ([110, 49, 54] : List UInt8)
  ·rw [if_pos c9] at H
   have c9b0 : (t314.toList == ([110, 49, 54] : List UInt8)) = true := beq_iff_eq.mpr c9
   have c9b1 : (t314.toList != ([110, 49, 54] : List UInt8)) = false := bne_eq_false_iff_eq.mpr c9
   clear c9
   replace H := Option.bind_eq_some_iff.mp H
   obtain ⟨t315, A100, H⟩ := H
   have A10 := Aside0.mk A100
   clear A100
   obtain rfl := Option.some.inj H
   go_enter Tryd.func82, Tryd.ntmps82
   go_wp2_with (first | ((with_reducible refine gate_dst (N := 1) rfl ?_); refine box_event ?hg (N := 1) ?hd (cs := #[.int .i64 a0_0, .bool a0_1, .int .i64 a0_2]) (t := 78) ?hr ?_; (case hd => rfl); (case hg => rfl); (case hr => exact q118_); intro gb310 hg w11 hbox hb; have n0_ := Aside0.mk (below_step q56_ hb); have n1_ := Aside0.mk (hbox); have n2_ := Aside0.mk ((q43_ : w.heap.size ≤ gb310)); have n3_ := Aside0.mk ((q43_ : w.heap.size ≤ gb310)); clear HB; have HB := n0_; have BK310 := n1_; have GW310 := n2_; have GE310 := n3_; clear n0_ n1_ n2_ n3_; clear hb hbox hg; have hcz12_0 : w11.cell? ⟨gb310, 0, none⟩ = some (.int .i64 a0_0) := (blk_cell BK310.out 0).trans rfl; have hcz12_1 : w11.cell? ⟨gb310, 1, none⟩ = some (.bool a0_1) := (blk_cell BK310.out 1).trans rfl; have hcz12_2 : w11.cell? ⟨gb310, 2, none⟩ = some (.int .i64 a0_2) := (blk_cell BK310.out 2).trans rfl; have hfz12_0 := blk_frozen BK310.out 0; have hfz12_1 := blk_frozen BK310.out 1; have hfz12_2 := blk_frozen BK310.out 2) | ((with_reducible refine gate_callee (f := 105) rfl ?_); refine goesL_ (some 9) rfl rfl Tryd.func105 (by kernel_rfl) rfl #[.int .i64 a0_0, .bool a0_1] rfl q55_ ?_; (with_reducible refine (spec_LengthOf.calls k a0_0 a0_1 t311 _ A2.out).mono ?_); rintro e w13 ⟨rfl, hb⟩; refine ⟨_, rfl, ?_⟩; have n0_ := Aside0.mk (blk_below (g := gb310) (o := .cells #[.int .i64 a0_0, .bool a0_1, .int .i64 a0_2] 78 (0, 0)) q66_ hb); have n1_ := Aside0.mk (below_step q46_ hb); clear BK310; clear HB; have BK310 := n0_; have HB := n1_; clear n0_ n1_; (try clear hb); have hcz14_0 : w13.cell? ⟨gb310, 0, none⟩ = some (.int .i64 a0_0) := (blk_cell BK310.out 0).trans rfl; have hcz14_1 : w13.cell? ⟨gb310, 1, none⟩ = some (.bool a0_1) := (blk_cell BK310.out 1).trans rfl; have hcz14_2 : w13.cell? ⟨gb310, 2, none⟩ = some (.int .i64 a0_2) := (blk_cell BK310.out 2).trans rfl; have hfz14_0 := blk_frozen BK310.out 0; have hfz14_1 := blk_frozen BK310.out 1; have hfz14_2 := blk_frozen BK310.out 2) | ((with_reducible refine gate_callee (f := 107) rfl ?_); refine goesL_ (some 16) rfl rfl Tryd.func107 (by kernel_rfl) rfl #[.int .i64 a0_0, .bool a0_1] rfl q55_ ?_; (with_reducible refine (spec_l3Template.calls k a0_0 a0_1 t312 _ A7.out).mono ?_); rintro e w15 ⟨rfl, hb⟩; refine ⟨_, rfl, ?_⟩; have n0_ := Aside0.mk (blk_below (g := gb310) (o := .cells #[.int .i64 a0_0, .bool a0_1, .int .i64 a0_2] 78 (0, 0)) q66_ hb); have n1_ := Aside0.mk (below_step q46_ hb); clear BK310; clear HB; have BK310 := n0_; have HB := n1_; clear n0_ n1_; (try clear hb)) | ((with_reducible refine gate_callee (f := 106) rfl ?_); refine goesL_ (some 17) rfl rfl Tryd.func106 (by kernel_rfl) rfl #[.string t312] rfl q55_ ?_; (with_reducible refine (spec_l3Hole.calls k t312 t313 t314 _ A8.out).mono ?_); rintro e w16 ⟨rfl, hb⟩; refine ⟨_, rfl, ?_⟩; have n0_ := Aside0.mk (blk_below (g := gb310) (o := .cells #[.int .i64 a0_0, .bool a0_1, .int .i64 a0_2] 78 (0, 0)) q66_ hb); have n1_ := Aside0.mk (below_step q46_ hb); clear BK310; clear HB; have BK310 := n0_; have HB := n1_; clear n0_ n1_; (try clear hb); have hcz17_0 : w16.cell? ⟨gb310, 0, none⟩ = some (.int .i64 a0_0) := (blk_cell BK310.out 0).trans rfl; have hcz17_1 : w16.cell? ⟨gb310, 1, none⟩ = some (.bool a0_1) := (blk_cell BK310.out 1).trans rfl; have hcz17_2 : w16.cell? ⟨gb310, 2, none⟩ = some (.int .i64 a0_2) := (blk_cell BK310.out 2).trans rfl; have hfz17_0 := blk_frozen BK310.out 0; have hfz17_1 := blk_frozen BK310.out 1; have hfz17_2 := blk_frozen BK310.out 2) | ((with_reducible refine gate_callee (f := 50) rfl ?_); refine goesL_ (some 25) rfl rfl Tryd.func50 (by kernel_rfl) rfl #[.int .i64 a0_2, .int .i64 0, .int .i64 65535] rfl q55_ ?_; (with_reducible refine (spec_l1In.calls a0_2 0 65535 t315 _ A10.out).mono ?_); rintro e w' ⟨rfl, ⟨nd, rfl⟩⟩; refine ⟨_, rfl, ?_⟩))
   go_ret
   exact ⟨q60_, q46_⟩
  ·rw [if_neg c9] at H
   have c9b0 : (t314.toList == ([110, 49, 54] : List UInt8)) = false := beq_eq_false_iff_ne.mpr c9
   have c9b1 : (t314.toList != ([110, 49, 54] : List UInt8)) = true := bne_iff_ne.mpr c9
   have HC18 := Aside0.mk H
   clear H
   go_enter Tryd.func82, Tryd.ntmps82
   go_upto_if 26 with (first | ((with_reducible refine gate_dst (N := 1) rfl ?_); refine box_event ?hg (N := 1) ?hd (cs := #[.int .i64 a0_0, .bool a0_1, .int .i64 a0_2]) (t := 78) ?hr ?_; (case hd => rfl); (case hg => rfl); (case hr => exact q118_); intro gb310 hg w19 hbox hb; have n0_ := Aside0.mk (below_step q56_ hb); have n1_ := Aside0.mk (hbox); have n2_ := Aside0.mk ((q43_ : w.heap.size ≤ gb310)); have n3_ := Aside0.mk ((q43_ : w.heap.size ≤ gb310)); clear HB; have HB := n0_; have BK310 := n1_; have GW310 := n2_; have GE310 := n3_; clear n0_ n1_ n2_ n3_; clear hb hbox hg; have hcz20_0 : w19.cell? ⟨gb310, 0, none⟩ = some (.int .i64 a0_0) := (blk_cell BK310.out 0).trans rfl; have hcz20_1 : w19.cell? ⟨gb310, 1, none⟩ = some (.bool a0_1) := (blk_cell BK310.out 1).trans rfl; have hcz20_2 : w19.cell? ⟨gb310, 2, none⟩ = some (.int .i64 a0_2) := (blk_cell BK310.out 2).trans rfl; have hfz20_0 := blk_frozen BK310.out 0; have hfz20_1 := blk_frozen BK310.out 1; have hfz20_2 := blk_frozen BK310.out 2) | ((with_reducible refine gate_callee (f := 105) rfl ?_); refine goesL_ (some 9) rfl rfl Tryd.func105 (by kernel_rfl) rfl #[.int .i64 a0_0, .bool a0_1] rfl q55_ ?_; (with_reducible refine (spec_LengthOf.calls k a0_0 a0_1 t311 _ A2.out).mono ?_); rintro e w21 ⟨rfl, hb⟩; refine ⟨_, rfl, ?_⟩; have n0_ := Aside0.mk (blk_below (g := gb310) (o := .cells #[.int .i64 a0_0, .bool a0_1, .int .i64 a0_2] 78 (0, 0)) q66_ hb); have n1_ := Aside0.mk (below_step q46_ hb); clear BK310; clear HB; have BK310 := n0_; have HB := n1_; clear n0_ n1_; (try clear hb); have hcz22_0 : w21.cell? ⟨gb310, 0, none⟩ = some (.int .i64 a0_0) := (blk_cell BK310.out 0).trans rfl; have hcz22_1 : w21.cell? ⟨gb310, 1, none⟩ = some (.bool a0_1) := (blk_cell BK310.out 1).trans rfl; have hcz22_2 : w21.cell? ⟨gb310, 2, none⟩ = some (.int .i64 a0_2) := (blk_cell BK310.out 2).trans rfl; have hfz22_0 := blk_frozen BK310.out 0; have hfz22_1 := blk_frozen BK310.out 1; have hfz22_2 := blk_frozen BK310.out 2) | ((with_reducible refine gate_callee (f := 107) rfl ?_); refine goesL_ (some 16) rfl rfl Tryd.func107 (by kernel_rfl) rfl #[.int .i64 a0_0, .bool a0_1] rfl q55_ ?_; (with_reducible refine (spec_l3Template.calls k a0_0 a0_1 t312 _ A7.out).mono ?_); rintro e w23 ⟨rfl, hb⟩; refine ⟨_, rfl, ?_⟩; have n0_ := Aside0.mk (blk_below (g := gb310) (o := .cells #[.int .i64 a0_0, .bool a0_1, .int .i64 a0_2] 78 (0, 0)) q66_ hb); have n1_ := Aside0.mk (below_step q46_ hb); clear BK310; clear HB; have BK310 := n0_; have HB := n1_; clear n0_ n1_; (try clear hb)) | ((with_reducible refine gate_callee (f := 106) rfl ?_); refine goesL_ (some 17) rfl rfl Tryd.func106 (by kernel_rfl) rfl #[.string t312] rfl q55_ ?_; (with_reducible refine (spec_l3Hole.calls k t312 t313 t314 _ A8.out).mono ?_); rintro e w24 ⟨rfl, hb⟩; refine ⟨_, rfl, ?_⟩; have n0_ := Aside0.mk (blk_below (g := gb310) (o := .cells #[.int .i64 a0_0, .bool a0_1, .int .i64 a0_2] 78 (0, 0)) q66_ hb); have n1_ := Aside0.mk (below_step q46_ hb); clear BK310; clear HB; have BK310 := n0_; have HB := n1_; clear n0_ n1_; (try clear hb)))
   (try simp only [Act.put, List.setIfInBounds_toArray, List.set_cons_zero, List.set_cons_succ])
   go_cut [26] (fun v26 wc => ∃ (kq : Nat) (x26_17 : Bool), v26 = .bool x26_17 ∧ Aside0 (spec_InsOk.j0 kq x26_17 a0_0 a0_1 a0_2 = some r) ∧ Aside0 (kq ≤ k) ∧ Aside0 (wc.heap[gb310]? = some (.cells #[.int .i64 a0_0, .bool a0_1, .int .i64 a0_2] 78 (0, 0))) ∧ Aside0 (Below w.heap.size w wc))
   case first =>
    have H := HC18.out
    clear HC18
    by_cases c25 : t314.toList = ([110, 56] : List UInt8)
    ·rw [if_pos c25] at H
     have c25b0 : (t314.toList == ([110, 56] : List UInt8)) = true := beq_iff_eq.mpr c25
     have c25b1 : (t314.toList != ([110, 56] : List UInt8)) = false := bne_eq_false_iff_eq.mpr c25
     clear c25
     (first | rw [c25b0] | (simp only [i64_w, i32_w]; rw [c25b0]) | skip)
     have H' := Aside0.mk H
     clear H
     go_wp2
     go_meet
     case rel => exact ⟨_, ((t314.toList == ([110, 56] : List UInt8))), q74_, H', ⟨q102_⟩, ⟨q66_⟩, ⟨q46_⟩⟩
    ·rw [if_neg c25] at H
     have c25b0 : (t314.toList == ([110, 56] : List UInt8)) = false := beq_eq_false_iff_ne.mpr c25
     have c25b1 : (t314.toList != ([110, 56] : List UInt8)) = true := bne_iff_ne.mpr c25
     (first | rw [c25b0] | (simp only [i64_w, i32_w]; rw [c25b0]) | skip)
     have H' := Aside0.mk H
     clear H
     go_wp2
     go_meet
     case rel => exact ⟨_, ((t314.toList == ([101, 56] : List UInt8))), q74_, H', ⟨q102_⟩, ⟨q66_⟩, ⟨q46_⟩⟩
   case rest =>
    clear HC18
    try clear c1
    try clear c2
    try clear p2
    try clear c3
    try clear c3b0
    try clear c3b1
    try clear c5
    try clear p6
    try clear c8
    try clear c9
    try clear c9b0
    try clear c9b1
    try clear c10
    try clear c25
    try clear c25b0
    try clear c25b1
    try clear hcz12_0 hcz12_1 hcz12_2
    try clear hcz14_0 hcz14_1 hcz14_2
    try clear hcz17_0 hcz17_1 hcz17_2
    try clear hcz20_0 hcz20_1 hcz20_2
    try clear hcz22_0 hcz22_1 hcz22_2
    try clear hcz5_0 hcz5_1 hcz5_2
    try clear hfz12_0 hfz12_1 hfz12_2
    try clear hfz14_0 hfz14_1 hfz14_2
    try clear hfz17_0 hfz17_1 hfz17_2
    try clear hfz20_0 hfz20_1 hfz20_2
    try clear hfz22_0 hfz22_1 hfz22_2
    try clear hfz5_0 hfz5_1 hfz5_2
    obtain ⟨kq, x26_17, rfl, HA, HJ17, BK310, HB⟩ := hcut
    cases kq with
    | zero => exact absurd HA.out (by simp [spec_InsOk.j0])
    | succ kj17 =>
     have H := HA.out
     clear HA
     simp only [spec_InsOk.j0] at H
     by_cases c26 : x26_17 = true
     ·subst c26
      replace H : ((spec_l1In.f a0_2 0 255).bind fun t316 => (some t316)) = some r := by rw [if_pos rfl] at H; exact H
      replace H := Option.bind_eq_some_iff.mp H
      obtain ⟨t316, A270, H⟩ := H
      have A27 := Aside0.mk A270
      clear A270
      obtain rfl := Option.some.inj H
      have hcz28_0 : wc.cell? ⟨gb310, 0, none⟩ = some (.int .i64 a0_0) := bz_ BK310 0
      have hcz28_1 : wc.cell? ⟨gb310, 1, none⟩ = some (.bool a0_1) := bz_ BK310 1
      have hcz28_2 : wc.cell? ⟨gb310, 2, none⟩ = some (.int .i64 a0_2) := bz_ BK310 2
      have hfz28_0 := blk_frozen BK310.out 0
      have hfz28_1 := blk_frozen BK310.out 1
      have hfz28_2 := blk_frozen BK310.out 2
      go_wp2_with (first | ((with_reducible refine gate_callee (f := 50) rfl ?_); refine goesL_ (some 31) rfl rfl Tryd.func50 (by kernel_rfl) rfl #[.int .i64 a0_2, .int .i64 0, .int .i64 255] rfl q55_ ?_; (with_reducible refine (spec_l1In.calls a0_2 0 255 t316 _ A27.out).mono ?_); rintro e w' ⟨rfl, ⟨nd, rfl⟩⟩; refine ⟨_, rfl, ?_⟩))
      go_ret
      exact ⟨q60_, q46_⟩
     ·replace c26 := Bool.eq_false_iff.mpr c26
      subst c26
      replace H : (some (a0_2 == 0)) = some r := by rw [if_neg (show ¬ (false = true) by decide)] at H; exact H
      obtain rfl := Option.some.inj H
      have hcz29_0 : wc.cell? ⟨gb310, 0, none⟩ = some (.int .i64 a0_0) := bz_ BK310 0
      have hcz29_1 : wc.cell? ⟨gb310, 1, none⟩ = some (.bool a0_1) := bz_ BK310 1
      have hcz29_2 : wc.cell? ⟨gb310, 2, none⟩ = some (.int .i64 a0_2) := bz_ BK310 2
      have hfz29_0 := blk_frozen BK310.out 0
      have hfz29_1 := blk_frozen BK310.out 1
      have hfz29_2 := blk_frozen BK310.out 2
      go_wp2
      go_ret
      exact ⟨q60_, q46_⟩
def spec_InsBytes.f (k : Nat) (a0_0 : Int) (a0_1 : Bool) (a0_2 : Int) : Option (ByteArray) := (spec_InsOk.f k a0_0 a0_1 a0_2).bind fun t318 => (if t318 = true then (if a0_1 = true then (some (strOfNums (([203, (a0_0) % 256] : List Int)))) else ((spec_l3Length.f k a0_0 false).bind fun t322 => (if t322 = 2 then (some (strOfNums (([(a0_0) % 256, (a0_2) % 256] : List Int)))) else (if t322 = 3 then (some (strOfNums (([(a0_0) % 256, (a0_2) % 256, (a0_2 / 256) % 256] : List Int)))) else (some (strOfNums (([(a0_0) % 256] : List Int)))))))) else (some (⟨#[]⟩ : ByteArray)))
theorem spec_InsBytes.mono : ∀ a0 a1 a2 k, LeO (spec_InsBytes.f k a0 a1 a2) (spec_InsBytes.f (k + 1) a0 a1 a2) := by
 intro a0 a1 a2 k
 unfold spec_InsBytes.f
 repeat' first
   | (with_reducible first | exact spec_InsOk.mono _ _ _ _ | exact spec_l3Length.mono _ _ _ | exact LeO.refl _ | exact LeO.none _ | refine LeO.ite ?_ ?_ | refine LeO.bind ?_ (fun _ => ?_))
   | exact spec_InsOk.mono _ _ _ _
   | exact spec_l3Length.mono _ _ _
   | exact LeO.none _
   | refine LeO.ite ?_ ?_
   | refine LeO.bind ?_ (fun _ => ?_)
theorem spec_InsBytes.calls (k : Nat) (a0_0 : Int) (a0_1 : Bool) (a0_2 : Int) (r : ByteArray) (w : World) (h : spec_InsBytes.f k a0_0 a0_1 a0_2 = some r) :
  Calls Tryd.prog 64 #[.agg #[.int .i64 a0_0, .bool a0_1, .int .i64 a0_2]] w fun e w' => e = .returned (.string r) ∧ Below w.heap.size w w' := by
 have hu78 := Tryd.underlying78
 have HB := Aside0.mk (Below.refl w.heap.size w)
 have H : ((spec_InsOk.f k a0_0 a0_1 a0_2).bind fun t318 => (if t318 = true then (if a0_1 = true then (some (strOfNums (([203, (a0_0) % 256] : List Int)))) else ((spec_l3Length.f k a0_0 false).bind fun t322 => (if t322 = 2 then (some (strOfNums (([(a0_0) % 256, (a0_2) % 256] : List Int)))) else (if t322 = 3 then (some (strOfNums (([(a0_0) % 256, (a0_2) % 256, (a0_2 / 256) % 256] : List Int)))) else (some (strOfNums (([(a0_0) % 256] : List Int)))))))) else (some (⟨#[]⟩ : ByteArray)))) = some r := h
 clear h
 replace H := Option.bind_eq_some_iff.mp H
 obtain ⟨t318, A20, H⟩ := H
 have A2 := Aside0.mk A20
 clear A20
 by_cases c3 : t318 = true
 ·subst c3
  replace H : (if a0_1 = true then (some (strOfNums (([203, (a0_0) % 256] : List Int)))) else ((spec_l3Length.f k a0_0 false).bind fun t322 => (if t322 = 2 then (some (strOfNums (([(a0_0) % 256, (a0_2) % 256] : List Int)))) else (if t322 = 3 then (some (strOfNums (([(a0_0) % 256, (a0_2) % 256, (a0_2 / 256) % 256] : List Int)))) else (some (strOfNums (([(a0_0) % 256] : List Int)))))))) = some r := by rw [if_pos rfl] at H; exact H
  by_cases c4 : a0_1 = true
  ·subst c4
   replace H : (some (strOfNums (([203, (a0_0) % 256] : List Int)))) = some r := by rw [if_pos rfl] at H; exact H
   obtain ⟨y319, hy319⟩ : ∃ y_ : List Int, y_ = (([203, (a0_0) % 256] : List Int)) := ⟨_, rfl⟩
   replace H : (some (strOfNums y319)) = some r := by first | (rw [hy319]; with_reducible exact H) | (have H2_ := (Option.bind_some _ _).symm.trans H; rw [hy319]; with_reducible exact H2_) | (have H2_ := (Option.bind_some _ _).symm.trans H; with_reducible exact H2_) | with_reducible exact H | (rw [hy319]; exact H) | exact H
   have Ny319 := Aside0.mk hy319
   clear hy319
   obtain rfl := Option.some.inj H
   go_enter Tryd.func64, Tryd.ntmps64
   go_wp2_with (first | ((with_reducible refine gate_dst (N := 1) rfl ?_); refine box_event ?hg (N := 1) ?hd (cs := #[.int .i64 a0_0, .bool true, .int .i64 a0_2]) (t := 78) ?hr ?_; (case hd => rfl); (case hg => rfl); (case hr => exact q118_); intro gb317 hg w5 hbox hb; have n0_ := Aside0.mk (below_step q56_ hb); have n1_ := Aside0.mk (hbox); have n2_ := Aside0.mk ((q43_ : w.heap.size ≤ gb317)); have n3_ := Aside0.mk ((q43_ : w.heap.size ≤ gb317)); clear HB; have HB := n0_; have BK317 := n1_; have GW317 := n2_; have GE317 := n3_; clear n0_ n1_ n2_ n3_; clear hb hbox hg; have hcz6_0 : w5.cell? ⟨gb317, 0, none⟩ = some (.int .i64 a0_0) := (blk_cell BK317.out 0).trans rfl; have hcz6_1 : w5.cell? ⟨gb317, 1, none⟩ = some (.bool true) := (blk_cell BK317.out 1).trans rfl; have hcz6_2 : w5.cell? ⟨gb317, 2, none⟩ = some (.int .i64 a0_2) := (blk_cell BK317.out 2).trans rfl; have hfz6_0 := blk_frozen BK317.out 0; have hfz6_1 := blk_frozen BK317.out 1; have hfz6_2 := blk_frozen BK317.out 2) | ((with_reducible refine gate_callee (f := 82) rfl ?_); refine goesL_ (some 4) rfl rfl Tryd.func82 (by kernel_rfl) rfl #[.agg #[.int .i64 a0_0, .bool true, .int .i64 a0_2]] rfl q55_ ?_; (with_reducible refine (spec_InsOk.calls k a0_0 true a0_2 true _ A2.out).mono ?_); rintro e w7 ⟨rfl, hb⟩; refine ⟨_, rfl, ?_⟩; have n0_ := Aside0.mk (blk_below (g := gb317) (o := .cells #[.int .i64 a0_0, .bool true, .int .i64 a0_2] 78 (0, 0)) q67_ hb); have n1_ := Aside0.mk (below_step q47_ hb); clear BK317; clear HB; have BK317 := n0_; have HB := n1_; clear n0_ n1_; (try clear hb); have hcz8_0 : w7.cell? ⟨gb317, 0, none⟩ = some (.int .i64 a0_0) := (blk_cell BK317.out 0).trans rfl; have hcz8_1 : w7.cell? ⟨gb317, 1, none⟩ = some (.bool true) := (blk_cell BK317.out 1).trans rfl; have hcz8_2 : w7.cell? ⟨gb317, 2, none⟩ = some (.int .i64 a0_2) := (blk_cell BK317.out 2).trans rfl; have hfz8_0 := blk_frozen BK317.out 0; have hfz8_1 := blk_frozen BK317.out 1; have hfz8_2 := blk_frozen BK317.out 2) | ((with_reducible refine gate_dst (N := 11) rfl ?_); refine Kd.R_lit (Kd.int .u8) _ 5 ?hg (N := 11) ?hd (xs := ([203, (a0_0) % 256] : List Int)) (inner := [.int .u8 203, .int .u8 ((a0_0) % 256)]) (ok := fun _ => True) (okp := fun _ => True) ?hr ?hp (fun _ hk => hk) trivial (Below.refl _ _) (Nat.le_refl _) (by simp) ?_; (case hd => rfl); (case hg => rfl); (case hr => exact q118_); (case hp => exact (Reps.one (show Kd.M (Kd.int .u8) _ _ _ 203 [.int .u8 203] from rfl) (Reps.one (show Kd.M (Kd.int .u8) _ _ _ ((a0_0) % 256) [.int .u8 ((a0_0) % 256)] from rfl) (Reps.none _ _)))); intro v320 w9 ho10 hb hg_ hnew_; clear hg_ hnew_; (first | rw [← Ny319.out] at ho10 | (simp only [Int.reduceToNat] at ho10; rw [← Ny319.out] at ho10)); have n0_ := Aside0.mk (Kd.R_lower ho10 (below_size q47_)); have n1_ := Aside0.mk (blk_below (g := gb317) (o := .cells #[.int .i64 a0_0, .bool true, .int .i64 a0_2] 78 (0, 0)) q67_ hb); have n2_ := Aside0.mk (below_step q47_ hb); clear BK317; clear HB; have HO321 := n0_; have BK317 := n1_; have HB := n2_; clear n0_ n1_ n2_; clear hb ho10; have hcv11 := own_string (P := Tryd.prog) Tryd.underlying28 Tryd.underlying5 Tryd.underlying9 (Kd.own_of_R HO321.out); have hcvq11 := fun m_ : Nat => own_string (P := Tryd.prog) Tryd.underlying28 Tryd.underlying5 Tryd.underlying9 (Kd.own_of_R (Kd.R_drewN HO321.out m_))))
   go_ret
   exact ⟨q60_, q47_⟩
  ·replace c4 := Bool.eq_false_iff.mpr c4
   subst c4
   replace H : ((spec_l3Length.f k a0_0 false).bind fun t322 => (if t322 = 2 then (some (strOfNums (([(a0_0) % 256, (a0_2) % 256] : List Int)))) else (if t322 = 3 then (some (strOfNums (([(a0_0) % 256, (a0_2) % 256, (a0_2 / 256) % 256] : List Int)))) else (some (strOfNums (([(a0_0) % 256] : List Int))))))) = some r := by rw [if_neg (show ¬ (false = true) by decide)] at H; exact H
   replace H := Option.bind_eq_some_iff.mp H
   obtain ⟨t322, A120, H⟩ := H
   have A12 := Aside0.mk A120
   clear A120
   by_cases c13 : t322 = 2
   ·rw [if_pos c13] at H
    have c13b0 : (t322 == 2) = true := beq_iff_eq.mpr c13
    have c13b1 : (t322 != 2) = false := bne_eq_false_iff_eq.mpr c13
    clear c13
    obtain ⟨y323, hy323⟩ : ∃ y_ : List Int, y_ = (([(a0_0) % 256, (a0_2) % 256] : List Int)) := ⟨_, rfl⟩
    replace H : (some (strOfNums y323)) = some r := by first | (rw [hy323]; with_reducible exact H) | (have H2_ := (Option.bind_some _ _).symm.trans H; rw [hy323]; with_reducible exact H2_) | (have H2_ := (Option.bind_some _ _).symm.trans H; with_reducible exact H2_) | with_reducible exact H | (rw [hy323]; exact H) | exact H
    have Ny323 := Aside0.mk hy323
    clear hy323
    obtain rfl := Option.some.inj H
    go_enter Tryd.func64, Tryd.ntmps64
    go_wp2_with (first | ((with_reducible refine gate_dst (N := 1) rfl ?_); refine box_event ?hg (N := 1) ?hd (cs := #[.int .i64 a0_0, .bool false, .int .i64 a0_2]) (t := 78) ?hr ?_; (case hd => rfl); (case hg => rfl); (case hr => exact q118_); intro gb317 hg w14 hbox hb; have n0_ := Aside0.mk (below_step q56_ hb); have n1_ := Aside0.mk (hbox); have n2_ := Aside0.mk ((q43_ : w.heap.size ≤ gb317)); have n3_ := Aside0.mk ((q43_ : w.heap.size ≤ gb317)); clear HB; have HB := n0_; have BK317 := n1_; have GW317 := n2_; have GE317 := n3_; clear n0_ n1_ n2_ n3_; clear hb hbox hg; have hcz15_0 : w14.cell? ⟨gb317, 0, none⟩ = some (.int .i64 a0_0) := (blk_cell BK317.out 0).trans rfl; have hcz15_1 : w14.cell? ⟨gb317, 1, none⟩ = some (.bool false) := (blk_cell BK317.out 1).trans rfl; have hcz15_2 : w14.cell? ⟨gb317, 2, none⟩ = some (.int .i64 a0_2) := (blk_cell BK317.out 2).trans rfl; have hfz15_0 := blk_frozen BK317.out 0; have hfz15_1 := blk_frozen BK317.out 1; have hfz15_2 := blk_frozen BK317.out 2) | ((with_reducible refine gate_callee (f := 82) rfl ?_); refine goesL_ (some 4) rfl rfl Tryd.func82 (by kernel_rfl) rfl #[.agg #[.int .i64 a0_0, .bool false, .int .i64 a0_2]] rfl q55_ ?_; (with_reducible refine (spec_InsOk.calls k a0_0 false a0_2 true _ A2.out).mono ?_); rintro e w16 ⟨rfl, hb⟩; refine ⟨_, rfl, ?_⟩; have n0_ := Aside0.mk (blk_below (g := gb317) (o := .cells #[.int .i64 a0_0, .bool false, .int .i64 a0_2] 78 (0, 0)) q67_ hb); have n1_ := Aside0.mk (below_step q47_ hb); clear BK317; clear HB; have BK317 := n0_; have HB := n1_; clear n0_ n1_; (try clear hb); have hcz17_0 : w16.cell? ⟨gb317, 0, none⟩ = some (.int .i64 a0_0) := (blk_cell BK317.out 0).trans rfl; have hcz17_1 : w16.cell? ⟨gb317, 1, none⟩ = some (.bool false) := (blk_cell BK317.out 1).trans rfl; have hcz17_2 : w16.cell? ⟨gb317, 2, none⟩ = some (.int .i64 a0_2) := (blk_cell BK317.out 2).trans rfl; have hfz17_0 := blk_frozen BK317.out 0; have hfz17_1 := blk_frozen BK317.out 1; have hfz17_2 := blk_frozen BK317.out 2) | ((with_reducible refine gate_callee (f := 83) rfl ?_); refine goesL_ (some 15) rfl rfl Tryd.func83 (by kernel_rfl) rfl #[.int .i64 a0_0, .bool false] rfl q55_ ?_; (with_reducible refine (spec_l3Length.calls k a0_0 false t322 _ A12.out).mono ?_); rintro e w18 ⟨rfl, hb⟩; refine ⟨_, rfl, ?_⟩; have n0_ := Aside0.mk (blk_below (g := gb317) (o := .cells #[.int .i64 a0_0, .bool false, .int .i64 a0_2] 78 (0, 0)) q67_ hb); have n1_ := Aside0.mk (below_step q47_ hb); clear BK317; clear HB; have BK317 := n0_; have HB := n1_; clear n0_ n1_; (try clear hb); have hcz19_0 : w18.cell? ⟨gb317, 0, none⟩ = some (.int .i64 a0_0) := (blk_cell BK317.out 0).trans rfl; have hcz19_1 : w18.cell? ⟨gb317, 1, none⟩ = some (.bool false) := (blk_cell BK317.out 1).trans rfl; have hcz19_2 : w18.cell? ⟨gb317, 2, none⟩ = some (.int .i64 a0_2) := (blk_cell BK317.out 2).trans rfl; have hfz19_0 := blk_frozen BK317.out 0; have hfz19_1 := blk_frozen BK317.out 1; have hfz19_2 := blk_frozen BK317.out 2) | ((with_reducible refine gate_dst (N := 24) rfl ?_); refine Kd.R_lit (Kd.int .u8) _ 5 ?hg (N := 24) ?hd (xs := ([(a0_0) % 256, (a0_2) % 256] : List Int)) (inner := [.int .u8 ((a0_0) % 256), .int .u8 ((a0_2) % 256)]) (ok := fun _ => True) (okp := fun _ => True) ?hr ?hp (fun _ hk => hk) trivial (Below.refl _ _) (Nat.le_refl _) (by simp) ?_; (case hd => rfl); (case hg => rfl); (case hr => exact q118_); (case hp => exact (Reps.one (show Kd.M (Kd.int .u8) _ _ _ ((a0_0) % 256) [.int .u8 ((a0_0) % 256)] from rfl) (Reps.one (show Kd.M (Kd.int .u8) _ _ _ ((a0_2) % 256) [.int .u8 ((a0_2) % 256)] from rfl) (Reps.none _ _)))); intro v324 w20 ho21 hb hg_ hnew_; clear hg_ hnew_; (first | rw [← Ny323.out] at ho21 | (simp only [Int.reduceToNat] at ho21; rw [← Ny323.out] at ho21)); have n0_ := Aside0.mk (Kd.R_lower ho21 (below_size q47_)); have n1_ := Aside0.mk (blk_below (g := gb317) (o := .cells #[.int .i64 a0_0, .bool false, .int .i64 a0_2] 78 (0, 0)) q67_ hb); have n2_ := Aside0.mk (below_step q47_ hb); clear BK317; clear HB; have HO325 := n0_; have BK317 := n1_; have HB := n2_; clear n0_ n1_ n2_; clear hb ho21; have hcv22 := own_string (P := Tryd.prog) Tryd.underlying28 Tryd.underlying5 Tryd.underlying9 (Kd.own_of_R HO325.out); have hcvq22 := fun m_ : Nat => own_string (P := Tryd.prog) Tryd.underlying28 Tryd.underlying5 Tryd.underlying9 (Kd.own_of_R (Kd.R_drewN HO325.out m_))))
    go_ret
    exact ⟨q60_, q47_⟩
   ·rw [if_neg c13] at H
    have c13b0 : (t322 == 2) = false := beq_eq_false_iff_ne.mpr c13
    have c13b1 : (t322 != 2) = true := bne_iff_ne.mpr c13
    by_cases c23 : t322 = 3
    ·rw [if_pos c23] at H
     have c23b0 : (t322 == 3) = true := beq_iff_eq.mpr c23
     have c23b1 : (t322 != 3) = false := bne_eq_false_iff_eq.mpr c23
     clear c23
     obtain ⟨y326, hy326⟩ : ∃ y_ : List Int, y_ = (([(a0_0) % 256, (a0_2) % 256, (a0_2 / 256) % 256] : List Int)) := ⟨_, rfl⟩
     replace H : (some (strOfNums y326)) = some r := by first | (rw [hy326]; with_reducible exact H) | (have H2_ := (Option.bind_some _ _).symm.trans H; rw [hy326]; with_reducible exact H2_) | (have H2_ := (Option.bind_some _ _).symm.trans H; with_reducible exact H2_) | with_reducible exact H | (rw [hy326]; exact H) | exact H
     have Ny326 := Aside0.mk hy326
     clear hy326
     obtain rfl := Option.some.inj H
     go_enter Tryd.func64, Tryd.ntmps64
     go_wp2_with (first | ((with_reducible refine gate_dst (N := 1) rfl ?_); refine box_event ?hg (N := 1) ?hd (cs := #[.int .i64 a0_0, .bool false, .int .i64 a0_2]) (t := 78) ?hr ?_; (case hd => rfl); (case hg => rfl); (case hr => exact q118_); intro gb317 hg w24 hbox hb; have n0_ := Aside0.mk (below_step q56_ hb); have n1_ := Aside0.mk (hbox); have n2_ := Aside0.mk ((q43_ : w.heap.size ≤ gb317)); have n3_ := Aside0.mk ((q43_ : w.heap.size ≤ gb317)); clear HB; have HB := n0_; have BK317 := n1_; have GW317 := n2_; have GE317 := n3_; clear n0_ n1_ n2_ n3_; clear hb hbox hg; have hcz25_0 : w24.cell? ⟨gb317, 0, none⟩ = some (.int .i64 a0_0) := (blk_cell BK317.out 0).trans rfl; have hcz25_1 : w24.cell? ⟨gb317, 1, none⟩ = some (.bool false) := (blk_cell BK317.out 1).trans rfl; have hcz25_2 : w24.cell? ⟨gb317, 2, none⟩ = some (.int .i64 a0_2) := (blk_cell BK317.out 2).trans rfl; have hfz25_0 := blk_frozen BK317.out 0; have hfz25_1 := blk_frozen BK317.out 1; have hfz25_2 := blk_frozen BK317.out 2) | ((with_reducible refine gate_callee (f := 82) rfl ?_); refine goesL_ (some 4) rfl rfl Tryd.func82 (by kernel_rfl) rfl #[.agg #[.int .i64 a0_0, .bool false, .int .i64 a0_2]] rfl q55_ ?_; (with_reducible refine (spec_InsOk.calls k a0_0 false a0_2 true _ A2.out).mono ?_); rintro e w26 ⟨rfl, hb⟩; refine ⟨_, rfl, ?_⟩; have n0_ := Aside0.mk (blk_below (g := gb317) (o := .cells #[.int .i64 a0_0, .bool false, .int .i64 a0_2] 78 (0, 0)) q67_ hb); have n1_ := Aside0.mk (below_step q47_ hb); clear BK317; clear HB; have BK317 := n0_; have HB := n1_; clear n0_ n1_; (try clear hb); have hcz27_0 : w26.cell? ⟨gb317, 0, none⟩ = some (.int .i64 a0_0) := (blk_cell BK317.out 0).trans rfl; have hcz27_1 : w26.cell? ⟨gb317, 1, none⟩ = some (.bool false) := (blk_cell BK317.out 1).trans rfl; have hcz27_2 : w26.cell? ⟨gb317, 2, none⟩ = some (.int .i64 a0_2) := (blk_cell BK317.out 2).trans rfl; have hfz27_0 := blk_frozen BK317.out 0; have hfz27_1 := blk_frozen BK317.out 1; have hfz27_2 := blk_frozen BK317.out 2) | ((with_reducible refine gate_callee (f := 83) rfl ?_); refine goesL_ (some 15) rfl rfl Tryd.func83 (by kernel_rfl) rfl #[.int .i64 a0_0, .bool false] rfl q55_ ?_; (with_reducible refine (spec_l3Length.calls k a0_0 false t322 _ A12.out).mono ?_); rintro e w28 ⟨rfl, hb⟩; refine ⟨_, rfl, ?_⟩; have n0_ := Aside0.mk (blk_below (g := gb317) (o := .cells #[.int .i64 a0_0, .bool false, .int .i64 a0_2] 78 (0, 0)) q67_ hb); have n1_ := Aside0.mk (below_step q47_ hb); clear BK317; clear HB; have BK317 := n0_; have HB := n1_; clear n0_ n1_; (try clear hb); have hcz29_0 : w28.cell? ⟨gb317, 0, none⟩ = some (.int .i64 a0_0) := (blk_cell BK317.out 0).trans rfl; have hcz29_1 : w28.cell? ⟨gb317, 1, none⟩ = some (.bool false) := (blk_cell BK317.out 1).trans rfl; have hcz29_2 : w28.cell? ⟨gb317, 2, none⟩ = some (.int .i64 a0_2) := (blk_cell BK317.out 2).trans rfl; have hfz29_0 := blk_frozen BK317.out 0; have hfz29_1 := blk_frozen BK317.out 1; have hfz29_2 := blk_frozen BK317.out 2) | ((with_reducible refine gate_dst (N := 38) rfl ?_); refine Kd.R_lit (Kd.int .u8) _ 5 ?hg (N := 38) ?hd (xs := ([(a0_0) % 256, (a0_2) % 256, (a0_2 / 256) % 256] : List Int)) (inner := [.int .u8 ((a0_0) % 256), .int .u8 ((a0_2) % 256), .int .u8 ((a0_2 / 256) % 256)]) (ok := fun _ => True) (okp := fun _ => True) ?hr ?hp (fun _ hk => hk) trivial (Below.refl _ _) (Nat.le_refl _) (by simp) ?_; (case hd => rfl); (case hg => rfl); (case hr => exact q118_); (case hp => exact (Reps.one (show Kd.M (Kd.int .u8) _ _ _ ((a0_0) % 256) [.int .u8 ((a0_0) % 256)] from rfl) (Reps.one (show Kd.M (Kd.int .u8) _ _ _ ((a0_2) % 256) [.int .u8 ((a0_2) % 256)] from rfl) (Reps.one (show Kd.M (Kd.int .u8) _ _ _ ((a0_2 / 256) % 256) [.int .u8 ((a0_2 / 256) % 256)] from rfl) (Reps.none _ _))))); intro v327 w30 ho31 hb hg_ hnew_; clear hg_ hnew_; (first | rw [← Ny326.out] at ho31 | (simp only [Int.reduceToNat] at ho31; rw [← Ny326.out] at ho31)); have n0_ := Aside0.mk (Kd.R_lower ho31 (below_size q47_)); have n1_ := Aside0.mk (blk_below (g := gb317) (o := .cells #[.int .i64 a0_0, .bool false, .int .i64 a0_2] 78 (0, 0)) q67_ hb); have n2_ := Aside0.mk (below_step q47_ hb); clear BK317; clear HB; have HO328 := n0_; have BK317 := n1_; have HB := n2_; clear n0_ n1_ n2_; clear hb ho31; have hcv32 := own_string (P := Tryd.prog) Tryd.underlying28 Tryd.underlying5 Tryd.underlying9 (Kd.own_of_R HO328.out); have hcvq32 := fun m_ : Nat => own_string (P := Tryd.prog) Tryd.underlying28 Tryd.underlying5 Tryd.underlying9 (Kd.own_of_R (Kd.R_drewN HO328.out m_))))
     go_ret
     exact ⟨q60_, q47_⟩
    ·rw [if_neg c23] at H
     have c23b0 : (t322 == 3) = false := beq_eq_false_iff_ne.mpr c23
     have c23b1 : (t322 != 3) = true := bne_iff_ne.mpr c23
     obtain ⟨y329, hy329⟩ : ∃ y_ : List Int, y_ = (([(a0_0) % 256] : List Int)) := ⟨_, rfl⟩
     replace H : (some (strOfNums y329)) = some r := by first | (rw [hy329]; with_reducible exact H) | (have H2_ := (Option.bind_some _ _).symm.trans H; rw [hy329]; with_reducible exact H2_) | (have H2_ := (Option.bind_some _ _).symm.trans H; with_reducible exact H2_) | with_reducible exact H | (rw [hy329]; exact H) | exact H
     have Ny329 := Aside0.mk hy329
     clear hy329
     obtain rfl := Option.some.inj H
     go_enter Tryd.func64, Tryd.ntmps64
     go_wp2_with (first | ((with_reducible refine gate_dst (N := 1) rfl ?_); refine box_event ?hg (N := 1) ?hd (cs := #[.int .i64 a0_0, .bool false, .int .i64 a0_2]) (t := 78) ?hr ?_; (case hd => rfl); (case hg => rfl); (case hr => exact q118_); intro gb317 hg w33 hbox hb; have n0_ := Aside0.mk (below_step q56_ hb); have n1_ := Aside0.mk (hbox); have n2_ := Aside0.mk ((q43_ : w.heap.size ≤ gb317)); have n3_ := Aside0.mk ((q43_ : w.heap.size ≤ gb317)); clear HB; have HB := n0_; have BK317 := n1_; have GW317 := n2_; have GE317 := n3_; clear n0_ n1_ n2_ n3_; clear hb hbox hg; have hcz34_0 : w33.cell? ⟨gb317, 0, none⟩ = some (.int .i64 a0_0) := (blk_cell BK317.out 0).trans rfl; have hcz34_1 : w33.cell? ⟨gb317, 1, none⟩ = some (.bool false) := (blk_cell BK317.out 1).trans rfl; have hcz34_2 : w33.cell? ⟨gb317, 2, none⟩ = some (.int .i64 a0_2) := (blk_cell BK317.out 2).trans rfl; have hfz34_0 := blk_frozen BK317.out 0; have hfz34_1 := blk_frozen BK317.out 1; have hfz34_2 := blk_frozen BK317.out 2) | ((with_reducible refine gate_callee (f := 82) rfl ?_); refine goesL_ (some 4) rfl rfl Tryd.func82 (by kernel_rfl) rfl #[.agg #[.int .i64 a0_0, .bool false, .int .i64 a0_2]] rfl q55_ ?_; (with_reducible refine (spec_InsOk.calls k a0_0 false a0_2 true _ A2.out).mono ?_); rintro e w35 ⟨rfl, hb⟩; refine ⟨_, rfl, ?_⟩; have n0_ := Aside0.mk (blk_below (g := gb317) (o := .cells #[.int .i64 a0_0, .bool false, .int .i64 a0_2] 78 (0, 0)) q67_ hb); have n1_ := Aside0.mk (below_step q47_ hb); clear BK317; clear HB; have BK317 := n0_; have HB := n1_; clear n0_ n1_; (try clear hb); have hcz36_0 : w35.cell? ⟨gb317, 0, none⟩ = some (.int .i64 a0_0) := (blk_cell BK317.out 0).trans rfl; have hcz36_1 : w35.cell? ⟨gb317, 1, none⟩ = some (.bool false) := (blk_cell BK317.out 1).trans rfl; have hcz36_2 : w35.cell? ⟨gb317, 2, none⟩ = some (.int .i64 a0_2) := (blk_cell BK317.out 2).trans rfl; have hfz36_0 := blk_frozen BK317.out 0; have hfz36_1 := blk_frozen BK317.out 1; have hfz36_2 := blk_frozen BK317.out 2) | ((with_reducible refine gate_callee (f := 83) rfl ?_); refine goesL_ (some 15) rfl rfl Tryd.func83 (by kernel_rfl) rfl #[.int .i64 a0_0, .bool false] rfl q55_ ?_; (with_reducible refine (spec_l3Length.calls k a0_0 false t322 _ A12.out).mono ?_); rintro e w37 ⟨rfl, hb⟩; refine ⟨_, rfl, ?_⟩; have n0_ := Aside0.mk (blk_below (g := gb317) (o := .cells #[.int .i64 a0_0, .bool false, .int .i64 a0_2] 78 (0, 0)) q67_ hb); have n1_ := Aside0.mk (below_step q47_ hb); clear BK317; clear HB; have BK317 := n0_; have HB := n1_; clear n0_ n1_; (try clear hb); have hcz38_0 : w37.cell? ⟨gb317, 0, none⟩ = some (.int .i64 a0_0) := (blk_cell BK317.out 0).trans rfl; have hcz38_1 : w37.cell? ⟨gb317, 1, none⟩ = some (.bool false) := (blk_cell BK317.out 1).trans rfl; have hcz38_2 : w37.cell? ⟨gb317, 2, none⟩ = some (.int .i64 a0_2) := (blk_cell BK317.out 2).trans rfl; have hfz38_0 := blk_frozen BK317.out 0; have hfz38_1 := blk_frozen BK317.out 1; have hfz38_2 := blk_frozen BK317.out 2) | ((with_reducible refine gate_dst (N := 43) rfl ?_); refine Kd.R_lit (Kd.int .u8) _ 5 ?hg (N := 43) ?hd (xs := ([(a0_0) % 256] : List Int)) (inner := [.int .u8 ((a0_0) % 256)]) (ok := fun _ => True) (okp := fun _ => True) ?hr ?hp (fun _ hk => hk) trivial (Below.refl _ _) (Nat.le_refl _) (by simp) ?_; (case hd => rfl); (case hg => rfl); (case hr => exact q118_); (case hp => exact (Reps.one (show Kd.M (Kd.int .u8) _ _ _ ((a0_0) % 256) [.int .u8 ((a0_0) % 256)] from rfl) (Reps.none _ _))); intro v330 w39 ho40 hb hg_ hnew_; clear hg_ hnew_; (first | rw [← Ny329.out] at ho40 | (simp only [Int.reduceToNat] at ho40; rw [← Ny329.out] at ho40)); have n0_ := Aside0.mk (Kd.R_lower ho40 (below_size q47_)); have n1_ := Aside0.mk (blk_below (g := gb317) (o := .cells #[.int .i64 a0_0, .bool false, .int .i64 a0_2] 78 (0, 0)) q67_ hb); have n2_ := Aside0.mk (below_step q47_ hb); clear BK317; clear HB; have HO331 := n0_; have BK317 := n1_; have HB := n2_; clear n0_ n1_ n2_; clear hb ho40; have hcv41 := own_string (P := Tryd.prog) Tryd.underlying28 Tryd.underlying5 Tryd.underlying9 (Kd.own_of_R HO331.out); have hcvq41 := fun m_ : Nat => own_string (P := Tryd.prog) Tryd.underlying28 Tryd.underlying5 Tryd.underlying9 (Kd.own_of_R (Kd.R_drewN HO331.out m_))))
     go_ret
     exact ⟨q60_, q47_⟩
 ·replace c3 := Bool.eq_false_iff.mpr c3
  subst c3
  replace H : (some (⟨#[]⟩ : ByteArray)) = some r := by rw [if_neg (show ¬ (false = true) by decide)] at H; exact H
  obtain rfl := Option.some.inj H
  go_enter Tryd.func64, Tryd.ntmps64
  go_wp2_with (first | ((with_reducible refine gate_dst (N := 1) rfl ?_); refine box_event ?hg (N := 1) ?hd (cs := #[.int .i64 a0_0, .bool a0_1, .int .i64 a0_2]) (t := 78) ?hr ?_; (case hd => rfl); (case hg => rfl); (case hr => exact q118_); intro gb317 hg w42 hbox hb; have n0_ := Aside0.mk (below_step q56_ hb); have n1_ := Aside0.mk (hbox); have n2_ := Aside0.mk ((q43_ : w.heap.size ≤ gb317)); have n3_ := Aside0.mk ((q43_ : w.heap.size ≤ gb317)); clear HB; have HB := n0_; have BK317 := n1_; have GW317 := n2_; have GE317 := n3_; clear n0_ n1_ n2_ n3_; clear hb hbox hg; have hcz43_0 : w42.cell? ⟨gb317, 0, none⟩ = some (.int .i64 a0_0) := (blk_cell BK317.out 0).trans rfl; have hcz43_1 : w42.cell? ⟨gb317, 1, none⟩ = some (.bool a0_1) := (blk_cell BK317.out 1).trans rfl; have hcz43_2 : w42.cell? ⟨gb317, 2, none⟩ = some (.int .i64 a0_2) := (blk_cell BK317.out 2).trans rfl; have hfz43_0 := blk_frozen BK317.out 0; have hfz43_1 := blk_frozen BK317.out 1; have hfz43_2 := blk_frozen BK317.out 2) | ((with_reducible refine gate_callee (f := 82) rfl ?_); refine goesL_ (some 4) rfl rfl Tryd.func82 (by kernel_rfl) rfl #[.agg #[.int .i64 a0_0, .bool a0_1, .int .i64 a0_2]] rfl q55_ ?_; (with_reducible refine (spec_InsOk.calls k a0_0 a0_1 a0_2 false _ A2.out).mono ?_); rintro e w44 ⟨rfl, hb⟩; refine ⟨_, rfl, ?_⟩; have n0_ := Aside0.mk (blk_below (g := gb317) (o := .cells #[.int .i64 a0_0, .bool a0_1, .int .i64 a0_2] 78 (0, 0)) q67_ hb); have n1_ := Aside0.mk (below_step q47_ hb); clear BK317; clear HB; have BK317 := n0_; have HB := n1_; clear n0_ n1_; (try clear hb)))
  go_ret
  exact ⟨q60_, q47_⟩
def spec_l1Rd_word.l0 : Nat → Int → Int → List Int → Int → Option (Int × Int)
 | 0, _, _, _, _ => none
 | k + 1, x3, x4, x1000, x1001 => if x4 < 8 then ((spec_l1Rd_next.f x1000 x1001).bind fun bt332 => (spec_l1Rd_word.l0 k (Go.bits .or .u64 (IntKind.u64.wrap (x3 * 256)) (IntKind.u64.wrap (bt332.1))) (wrap64 (x4 + 1)) x1000 bt332.2)) else (some (x3, x1001))
def spec_l1Rd_word.f (k : Nat) (s0_0 : List Int) (s0_1 : Int) : Option (Int × Int) := spec_l1Rd_word.l0 k 0 0 s0_0 s0_1
theorem spec_l1Rd_word.mono_l : ∀ k, (∀ y0 y1 y2 y3, LeO (spec_l1Rd_word.l0 k y0 y1 y2 y3) (spec_l1Rd_word.l0 (k + 1) y0 y1 y2 y3))
 | 0 => fun _ _ _ _ r h => by simp [spec_l1Rd_word.l0] at h
 | k + 1 => by
  have ih0 := spec_l1Rd_word.mono_l k
  ·intro y0 y1 y2 y3
   unfold spec_l1Rd_word.l0
   repeat' first
   | (with_reducible first | exact ih0 _ _ _ _ | exact LeO.refl _ | exact LeO.none _ | refine LeO.ite ?_ ?_ | refine LeO.bind ?_ (fun _ => ?_))
   | exact ih0 _ _ _ _
   | exact LeO.none _
   | refine LeO.ite ?_ ?_
   | refine LeO.bind ?_ (fun _ => ?_)
theorem spec_l1Rd_word.mono : ∀ a0 a1 k, LeO (spec_l1Rd_word.f k a0 a1) (spec_l1Rd_word.f (k + 1) a0 a1) := by
 intro a0 a1 k
 have ih0 := spec_l1Rd_word.mono_l k
 unfold spec_l1Rd_word.f
 repeat' first
   | (with_reducible first | exact ih0 _ _ _ _ | exact LeO.refl _ | exact LeO.none _ | refine LeO.ite ?_ ?_ | refine LeO.bind ?_ (fun _ => ?_))
   | exact ih0 _ _ _ _
   | exact LeO.none _
   | refine LeO.ite ?_ ?_
   | refine LeO.bind ?_ (fun _ => ?_)
theorem spec_l1Rd_word.calls (k : Nat) (g : Nat) (s0_0 : List Int) (s0_1 : Int) (r1 : Int) (r2 : Int) (w0 w : World) (hI : IsS73 w0 w g s0_0 s0_1) (hB : Below w0.heap.size w0 w) (h : spec_l1Rd_word.f k s0_0 s0_1 = some (r1, r2)) :
  Calls Tryd.prog 86 #[.pointer (some ⟨g, 0, none⟩)] w fun e w' => e = .returned (.int .u64 r1) ∧ IsS73 w0 w' g s0_0 r2 ∧ Below w0.heap.size w0 w' ∧ KeepBut w w' g none := by
 have HI0 := Aside0.mk hI
 have HK := Aside0.mk (KeepBut.refl w g none)
 have HL := Aside0.mk hB.size
 clear hI
 have HW0 := Aside0.mk hB.size
 have HB := Aside0.mk hB
 clear hB
 have H : (spec_l1Rd_word.l0 k 0 0 s0_0 s0_1) = some (r1, r2) := h
 clear h
 have H' := Aside0.mk H
 clear H
 go_enter Tryd.func86, Tryd.ntmps86
 go_wp2
 go_loopg [3, 4] k (fun kq v3 v4 w' => ∃ (x3_1 : Int) (x4_1 : Int) (x1001_1 : Int), v3 = .int .u64 x3_1 ∧ v4 = .int .i64 x4_1 ∧ Aside0 (spec_l1Rd_word.l0 kq x3_1 x4_1 s0_0 x1001_1 = some (r1, r2)) ∧ Aside0 (kq ≤ k) ∧ Aside0 (IsS73 w0 w' g s0_0 x1001_1) ∧ Aside0 (KeepBut w w' g none) ∧ Aside0 (Below w0.heap.size w0 w'))
 case atStart => exact ⟨(0), (0), (s0_1), q74_, q74_, H', ⟨Nat.le_refl _⟩, ⟨q52_⟩, ⟨q53_⟩, ⟨q39_⟩⟩
 case round =>
  clear H'
  obtain ⟨x3_1, x4_1, x1001_1, rfl, rfl, HA, HK1, HI0, HK, HB⟩ := hrel
  cases gk with
  | zero => exact absurd HA.out (by simp [spec_l1Rd_word.l0])
  | succ k1 =>
   have H := HA.out
   clear HA
   simp only [spec_l1Rd_word.l0] at H
   by_cases c2 : x4_1 < 8
   ·rw [if_pos c2] at H
    have c2b0 : decide (x4_1 < 8) = true := decide_eq_true c2
    clear c2
    replace H := Option.bind_eq_some_iff.mp H
    obtain ⟨⟨t332, t333⟩, A30, H⟩ := H
    replace H : (spec_l1Rd_word.l0 k1 (Go.bits .or .u64 (IntKind.u64.wrap (x3_1 * 256)) (IntKind.u64.wrap (t332))) (wrap64 (x4_1 + 1)) s0_0 t333) = some (r1, r2) := H
    have A3 := Aside0.mk A30
    clear A30
    have H' := Aside0.mk H
    clear H
    go_wp2_with (first | ((with_reducible refine gate_callee (f := 60) rfl ?_); refine goesL_ (some 12) rfl rfl Tryd.func60 (by kernel_rfl) rfl #[.pointer (some ⟨g, 0, none⟩)] rfl q55_ ?_; (with_reducible refine (spec_l1Rd_next.calls g s0_0 x1001_1 t332 t333 w0 _ ?side1 ?side2 A3.out).mono ?_); (case side1 => exact q116_); (case side2 => exact q114_); rintro e w4 ⟨rfl, hi, hb, hk⟩; refine ⟨_, rfl, ?_⟩; have n0_ := Aside0.mk (KeepBut.trans q53_ hk (.inl rfl)); have n1_ := Aside0.mk (hb); have n2_ := Aside0.mk (hi); clear HK; clear HB; clear HI0; have HK := n0_; have HB := n1_; have HI0 := n2_; clear n0_ n1_ n2_; (try clear hb); (try clear hk); (try clear hi)))
    go_roundg k1
    case measure => have := HK1.out; omega
    case rel => exact ⟨(Go.bits .or .u64 (IntKind.u64.wrap (x3_1 * 256)) (IntKind.u64.wrap (t332))), (wrap64 (x4_1 + 1)), (t333), q74_, q74_, H', ⟨by have := HK1.out; omega⟩, ⟨q52_⟩, ⟨q53_⟩, ⟨q39_⟩⟩
   ·rw [if_neg c2] at H
    have c2b0 : decide (x4_1 < 8) = false := decide_eq_false c2
    clear c2
    simp only [Option.some.injEq, Prod.mk.injEq] at H
    obtain ⟨rfl, rfl⟩ := H
    go_wp2
    go_ret
    exact ⟨q60_, q52_, q39_, q53_⟩
def spec_l1Rd_near.f (k : Nat) (s0_0 : List Int) (s0_1 : Int) (a1 : Int) (a2 : Int) : Option (Int × Int) := (spec_l1Rd_below.f s0_0 s0_1 8).bind fun bt334 => (if bt334.1 = 0 then (some (a1, bt334.2)) else (if bt334.1 = 1 then (some (a2, bt334.2)) else (if a2 < a1 then (some (a1, bt334.2)) else ((spec_l1Rd_word.f k s0_0 bt334.2).bind fun bt336 => (if (IntKind.u64.wrap (wrap64 ((wrap64 (a2 - a1)) + 1))) = 0 then (none) else (some (wrap64 (a1 + (wrap64 (Int.tmod (bt336.1 / 2) (IntKind.u64.wrap (wrap64 ((wrap64 (a2 - a1)) + 1)))))), bt336.2)))))))
theorem spec_l1Rd_near.mono : ∀ a0 a1 a2 a3 k, LeO (spec_l1Rd_near.f k a0 a1 a2 a3) (spec_l1Rd_near.f (k + 1) a0 a1 a2 a3) := by
 intro a0 a1 a2 a3 k
 unfold spec_l1Rd_near.f
 repeat' first
   | (with_reducible first | exact spec_l1Rd_word.mono _ _ _ | exact LeO.refl _ | exact LeO.none _ | refine LeO.ite ?_ ?_ | refine LeO.bind ?_ (fun _ => ?_))
   | exact spec_l1Rd_word.mono _ _ _
   | exact LeO.none _
   | refine LeO.ite ?_ ?_
   | refine LeO.bind ?_ (fun _ => ?_)
theorem spec_l1Rd_near.calls (k : Nat) (g : Nat) (s0_0 : List Int) (s0_1 : Int) (a1 : Int) (a2 : Int) (r1 : Int) (r2 : Int) (w0 w : World) (hI : IsS73 w0 w g s0_0 s0_1) (hB : Below w0.heap.size w0 w) (h : spec_l1Rd_near.f k s0_0 s0_1 a1 a2 = some (r1, r2)) :
  Calls Tryd.prog 66 #[.pointer (some ⟨g, 0, none⟩), .int .i64 a1, .int .i64 a2] w fun e w' => e = .returned (.int .i64 r1) ∧ IsS73 w0 w' g s0_0 r2 ∧ Below w0.heap.size w0 w' ∧ KeepBut w w' g none := by
 have HI0 := Aside0.mk hI
 have HK := Aside0.mk (KeepBut.refl w g none)
 have HL := Aside0.mk hB.size
 clear hI
 have HW0 := Aside0.mk hB.size
 have HB := Aside0.mk hB
 clear hB
 have H : ((spec_l1Rd_below.f s0_0 s0_1 8).bind fun bt334 => (if bt334.1 = 0 then (some (a1, bt334.2)) else (if bt334.1 = 1 then (some (a2, bt334.2)) else (if a2 < a1 then (some (a1, bt334.2)) else ((spec_l1Rd_word.f k s0_0 bt334.2).bind fun bt336 => (if (IntKind.u64.wrap (wrap64 ((wrap64 (a2 - a1)) + 1))) = 0 then (none) else (some (wrap64 (a1 + (wrap64 (Int.tmod (bt336.1 / 2) (IntKind.u64.wrap (wrap64 ((wrap64 (a2 - a1)) + 1)))))), bt336.2)))))))) = some (r1, r2) := h
 clear h
 replace H := Option.bind_eq_some_iff.mp H
 obtain ⟨⟨t334, t335⟩, A40, H⟩ := H
 replace H : (if t334 = 0 then (some (a1, t335)) else (if t334 = 1 then (some (a2, t335)) else (if a2 < a1 then (some (a1, t335)) else ((spec_l1Rd_word.f k s0_0 t335).bind fun bt336 => (if (IntKind.u64.wrap (wrap64 ((wrap64 (a2 - a1)) + 1))) = 0 then (none) else (some (wrap64 (a1 + (wrap64 (Int.tmod (bt336.1 / 2) (IntKind.u64.wrap (wrap64 ((wrap64 (a2 - a1)) + 1)))))), bt336.2))))))) = some (r1, r2) := H
 have A4 := Aside0.mk A40
 clear A40
 by_cases c5 : t334 = 0
 ·rw [if_pos c5] at H
  have c5b0 : (t334 == 0) = true := beq_iff_eq.mpr c5
  have c5b1 : (t334 != 0) = false := bne_eq_false_iff_eq.mpr c5
  clear c5
  simp only [Option.some.injEq, Prod.mk.injEq] at H
  obtain ⟨rfl, rfl⟩ := H
  go_enter Tryd.func66, Tryd.ntmps66
  go_wp2_with (first | ((with_reducible refine gate_callee (f := 40) rfl ?_); refine goesL_ (some 8) rfl rfl Tryd.func40 (by kernel_rfl) rfl #[.pointer (some ⟨g, 0, none⟩), .int .i64 8] rfl q55_ ?_; (with_reducible refine (spec_l1Rd_below.calls g s0_0 s0_1 8 t334 t335 w0 _ ?side1 ?side2 A4.out).mono ?_); (case side1 => exact q116_); (case side2 => exact q114_); rintro e w6 ⟨rfl, hi, hb, hk⟩; refine ⟨_, rfl, ?_⟩; have n0_ := Aside0.mk (KeepBut.trans q53_ hk (.inl rfl)); have n1_ := Aside0.mk (hb); have n2_ := Aside0.mk (hi); clear HK; clear HB; clear HI0; have HK := n0_; have HB := n1_; have HI0 := n2_; clear n0_ n1_ n2_; (try clear hb); (try clear hk); (try clear hi)))
  go_ret
  exact ⟨q60_, q52_, q39_, q53_⟩
 ·rw [if_neg c5] at H
  have c5b0 : (t334 == 0) = false := beq_eq_false_iff_ne.mpr c5
  have c5b1 : (t334 != 0) = true := bne_iff_ne.mpr c5
  by_cases c7 : t334 = 1
  ·rw [if_pos c7] at H
   have c7b0 : (t334 == 1) = true := beq_iff_eq.mpr c7
   have c7b1 : (t334 != 1) = false := bne_eq_false_iff_eq.mpr c7
   clear c7
   simp only [Option.some.injEq, Prod.mk.injEq] at H
   obtain ⟨rfl, rfl⟩ := H
   go_enter Tryd.func66, Tryd.ntmps66
   go_wp2_with (first | ((with_reducible refine gate_callee (f := 40) rfl ?_); refine goesL_ (some 8) rfl rfl Tryd.func40 (by kernel_rfl) rfl #[.pointer (some ⟨g, 0, none⟩), .int .i64 8] rfl q55_ ?_; (with_reducible refine (spec_l1Rd_below.calls g s0_0 s0_1 8 t334 t335 w0 _ ?side1 ?side2 A4.out).mono ?_); (case side1 => exact q116_); (case side2 => exact q114_); rintro e w8 ⟨rfl, hi, hb, hk⟩; refine ⟨_, rfl, ?_⟩; have n0_ := Aside0.mk (KeepBut.trans q53_ hk (.inl rfl)); have n1_ := Aside0.mk (hb); have n2_ := Aside0.mk (hi); clear HK; clear HB; clear HI0; have HK := n0_; have HB := n1_; have HI0 := n2_; clear n0_ n1_ n2_; (try clear hb); (try clear hk); (try clear hi)))
   go_ret
   exact ⟨q60_, q52_, q39_, q53_⟩
  ·rw [if_neg c7] at H
   have c7b0 : (t334 == 1) = false := beq_eq_false_iff_ne.mpr c7
   have c7b1 : (t334 != 1) = true := bne_iff_ne.mpr c7
   by_cases c9 : a2 < a1
   ·rw [if_pos c9] at H
    have c9b0 : decide (a2 < a1) = true := decide_eq_true c9
    clear c9
    simp only [Option.some.injEq, Prod.mk.injEq] at H
    obtain ⟨rfl, rfl⟩ := H
    go_enter Tryd.func66, Tryd.ntmps66
    go_wp2_with (first | ((with_reducible refine gate_callee (f := 40) rfl ?_); refine goesL_ (some 8) rfl rfl Tryd.func40 (by kernel_rfl) rfl #[.pointer (some ⟨g, 0, none⟩), .int .i64 8] rfl q55_ ?_; (with_reducible refine (spec_l1Rd_below.calls g s0_0 s0_1 8 t334 t335 w0 _ ?side1 ?side2 A4.out).mono ?_); (case side1 => exact q116_); (case side2 => exact q114_); rintro e w10 ⟨rfl, hi, hb, hk⟩; refine ⟨_, rfl, ?_⟩; have n0_ := Aside0.mk (KeepBut.trans q53_ hk (.inl rfl)); have n1_ := Aside0.mk (hb); have n2_ := Aside0.mk (hi); clear HK; clear HB; clear HI0; have HK := n0_; have HB := n1_; have HI0 := n2_; clear n0_ n1_ n2_; (try clear hb); (try clear hk); (try clear hi)))
    go_ret
    exact ⟨q60_, q52_, q39_, q53_⟩
   ·rw [if_neg c9] at H
    have c9b0 : decide (a2 < a1) = false := decide_eq_false c9
    clear c9
    replace H := Option.bind_eq_some_iff.mp H
    obtain ⟨⟨t336, t337⟩, A110, H⟩ := H
    replace H : (if (IntKind.u64.wrap (wrap64 ((wrap64 (a2 - a1)) + 1))) = 0 then (none) else (some (wrap64 (a1 + (wrap64 (Int.tmod (t336 / 2) (IntKind.u64.wrap (wrap64 ((wrap64 (a2 - a1)) + 1)))))), t337))) = some (r1, r2) := H
    have A11 := Aside0.mk A110
    clear A110
    by_cases c12 : (IntKind.u64.wrap (wrap64 ((wrap64 (a2 - a1)) + 1))) = 0
    ·rw [if_pos c12] at H
     exact absurd H (by simp)
    ·rw [if_neg c12] at H
     have c12b0 : ((IntKind.u64.wrap (wrap64 ((wrap64 (a2 - a1)) + 1))) == 0) = false := beq_eq_false_iff_ne.mpr c12
     have c12b1 : ((IntKind.u64.wrap (wrap64 ((wrap64 (a2 - a1)) + 1))) != 0) = true := bne_iff_ne.mpr c12
     simp only [Option.some.injEq, Prod.mk.injEq] at H
     obtain ⟨rfl, rfl⟩ := H
     go_enter Tryd.func66, Tryd.ntmps66
     go_wp2_with (first | ((with_reducible refine gate_callee (f := 40) rfl ?_); refine goesL_ (some 8) rfl rfl Tryd.func40 (by kernel_rfl) rfl #[.pointer (some ⟨g, 0, none⟩), .int .i64 8] rfl q55_ ?_; (with_reducible refine (spec_l1Rd_below.calls g s0_0 s0_1 8 t334 t335 w0 _ ?side1 ?side2 A4.out).mono ?_); (case side1 => exact q116_); (case side2 => exact q114_); rintro e w13 ⟨rfl, hi, hb, hk⟩; refine ⟨_, rfl, ?_⟩; have n0_ := Aside0.mk (KeepBut.trans q53_ hk (.inl rfl)); have n1_ := Aside0.mk (hb); have n2_ := Aside0.mk (hi); clear HK; clear HB; clear HI0; have HK := n0_; have HB := n1_; have HI0 := n2_; clear n0_ n1_ n2_; (try clear hb); (try clear hk); (try clear hi)) | ((with_reducible refine gate_callee (f := 86) rfl ?_); refine goesL_ (some 21) rfl rfl Tryd.func86 (by kernel_rfl) rfl #[.pointer (some ⟨g, 0, none⟩)] rfl q55_ ?_; (with_reducible refine (spec_l1Rd_word.calls k g s0_0 t335 t336 t337 w0 _ ?side1 ?side2 A11.out).mono ?_); (case side1 => exact q116_); (case side2 => exact q114_); rintro e w14 ⟨rfl, hi, hb, hk⟩; refine ⟨_, rfl, ?_⟩; have n0_ := Aside0.mk (KeepBut.trans q53_ hk (.inl rfl)); have n1_ := Aside0.mk (hb); have n2_ := Aside0.mk (hi); clear HK; clear HB; clear HI0; have HK := n0_; have HB := n1_; have HI0 := n2_; clear n0_ n1_ n2_; (try clear hb); (try clear hk); (try clear hi)))
     go_ret
     exact ⟨q60_, q52_, q39_, q53_⟩
def spec_l1Rd_off.f (k : Nat) (s0_0 : List Int) (s0_1 : Int) (a1 : Int) (a2 : Int) : Option (Int × Int) := (spec_l1Rd_once.f s0_0 s0_1 24).bind fun bt338 => (if bt338.1 = true then ((some (([wrap64 (a1 - 1), wrap64 (a2 + 1), (-9223372036854775808), 9223372036854775807] : List Int) : List Int)).bind fun y340 => ((spec_l1Rd_below.f s0_0 bt338.2 4).bind fun bt343 => (if 0 ≤ bt343.1 then (if bt343.1 < (y340.length : Int) then (some (rd y340 bt343.1, bt343.2)) else (none)) else (none)))) else ((spec_l1Rd_near.f k s0_0 bt338.2 a1 a2).bind fun bt346 => (some (bt346.1, bt346.2))))
theorem spec_l1Rd_off.mono : ∀ a0 a1 a2 a3 k, LeO (spec_l1Rd_off.f k a0 a1 a2 a3) (spec_l1Rd_off.f (k + 1) a0 a1 a2 a3) := by
 intro a0 a1 a2 a3 k
 unfold spec_l1Rd_off.f
 repeat' first
   | (with_reducible first | exact spec_l1Rd_near.mono _ _ _ _ _ | exact LeO.refl _ | exact LeO.none _ | refine LeO.ite ?_ ?_ | refine LeO.bind ?_ (fun _ => ?_))
   | exact spec_l1Rd_near.mono _ _ _ _ _
   | exact LeO.none _
   | refine LeO.ite ?_ ?_
   | refine LeO.bind ?_ (fun _ => ?_)
theorem spec_l1Rd_off.calls (k : Nat) (g : Nat) (s0_0 : List Int) (s0_1 : Int) (a1 : Int) (a2 : Int) (r1 : Int) (r2 : Int) (w0 w : World) (hI : IsS73 w0 w g s0_0 s0_1) (hB : Below w0.heap.size w0 w) (h : spec_l1Rd_off.f k s0_0 s0_1 a1 a2 = some (r1, r2)) :
  Calls Tryd.prog 46 #[.pointer (some ⟨g, 0, none⟩), .int .i64 a1, .int .i64 a2] w fun e w' => e = .returned (.int .i64 r1) ∧ IsS73 w0 w' g s0_0 r2 ∧ Below w0.heap.size w0 w' ∧ KeepBut w w' g none := by
 have HI0 := Aside0.mk hI
 have HK := Aside0.mk (KeepBut.refl w g none)
 have HL := Aside0.mk hB.size
 clear hI
 have HW0 := Aside0.mk hB.size
 have HB := Aside0.mk hB
 clear hB
 have H : ((spec_l1Rd_once.f s0_0 s0_1 24).bind fun bt338 => (if bt338.1 = true then ((some (([wrap64 (a1 - 1), wrap64 (a2 + 1), (-9223372036854775808), 9223372036854775807] : List Int) : List Int)).bind fun y340 => ((spec_l1Rd_below.f s0_0 bt338.2 4).bind fun bt343 => (if 0 ≤ bt343.1 then (if bt343.1 < (y340.length : Int) then (some (rd y340 bt343.1, bt343.2)) else (none)) else (none)))) else ((spec_l1Rd_near.f k s0_0 bt338.2 a1 a2).bind fun bt346 => (some (bt346.1, bt346.2))))) = some (r1, r2) := h
 clear h
 replace H := Option.bind_eq_some_iff.mp H
 obtain ⟨⟨t338, t339⟩, A40, H⟩ := H
 replace H : (if t338 = true then ((some (([wrap64 (a1 - 1), wrap64 (a2 + 1), (-9223372036854775808), 9223372036854775807] : List Int) : List Int)).bind fun y340 => ((spec_l1Rd_below.f s0_0 t339 4).bind fun bt343 => (if 0 ≤ bt343.1 then (if bt343.1 < (y340.length : Int) then (some (rd y340 bt343.1, bt343.2)) else (none)) else (none)))) else ((spec_l1Rd_near.f k s0_0 t339 a1 a2).bind fun bt346 => (some (bt346.1, bt346.2)))) = some (r1, r2) := H
 have A4 := Aside0.mk A40
 clear A40
 by_cases c5 : t338 = true
 ·subst c5
  replace H : ((some (([wrap64 (a1 - 1), wrap64 (a2 + 1), (-9223372036854775808), 9223372036854775807] : List Int) : List Int)).bind fun y340 => ((spec_l1Rd_below.f s0_0 t339 4).bind fun bt343 => (if 0 ≤ bt343.1 then (if bt343.1 < (y340.length : Int) then (some (rd y340 bt343.1, bt343.2)) else (none)) else (none)))) = some (r1, r2) := by rw [if_pos rfl] at H; exact H
  obtain ⟨y340, hy340⟩ : ∃ y_ : List Int, y_ = (([wrap64 (a1 - 1), wrap64 (a2 + 1), (-9223372036854775808), 9223372036854775807] : List Int)) := ⟨_, rfl⟩
  replace H : ((spec_l1Rd_below.f s0_0 t339 4).bind fun bt343 => (if 0 ≤ bt343.1 then (if bt343.1 < (y340.length : Int) then (some (rd y340 bt343.1, bt343.2)) else (none)) else (none))) = some (r1, r2) := by first | (rw [hy340]; with_reducible exact H) | (have H2_ := (Option.bind_some _ _).symm.trans H; rw [hy340]; with_reducible exact H2_) | (have H2_ := (Option.bind_some _ _).symm.trans H; with_reducible exact H2_) | with_reducible exact H | (rw [hy340]; exact H) | exact H
  have Ny340 := Aside0.mk hy340
  clear hy340
  replace H := Option.bind_eq_some_iff.mp H
  obtain ⟨⟨t343, t344⟩, A60, H⟩ := H
  replace H : (if 0 ≤ t343 then (if t343 < (y340.length : Int) then (some (rd y340 t343, t344)) else (none)) else (none)) = some (r1, r2) := H
  have A6 := Aside0.mk A60
  clear A60
  by_cases c7 : 0 ≤ t343
  ·rw [if_pos c7] at H
   have c7b0 : decide (0 ≤ t343) = true := decide_eq_true c7
   clear c7
   by_cases c8 : t343 < (y340.length : Int)
   ·rw [if_pos c8] at H
    have c8b0 : decide (t343 < (y340.length : Int)) = true := decide_eq_true c8
    clear c8
    simp only [Option.some.injEq, Prod.mk.injEq] at H
    obtain ⟨rfl, rfl⟩ := H
    go_enter Tryd.func46, Tryd.ntmps46
    go_wp2_with (first | ((with_reducible refine gate_callee (f := 37) rfl ?_); refine goesL_ (some 8) rfl rfl Tryd.func37 (by kernel_rfl) rfl #[.pointer (some ⟨g, 0, none⟩), .int .i64 24] rfl q55_ ?_; (with_reducible refine (spec_l1Rd_once.calls g s0_0 s0_1 24 true t339 w0 _ ?side1 ?side2 A4.out).mono ?_); (case side1 => exact q116_); (case side2 => exact q114_); rintro e w9 ⟨rfl, hi, hb, hk⟩; refine ⟨_, rfl, ?_⟩; have n0_ := Aside0.mk (KeepBut.trans q53_ hk (.inl rfl)); have n1_ := Aside0.mk (hb); have n2_ := Aside0.mk (hi); clear HK; clear HB; clear HI0; have HK := n0_; have HB := n1_; have HI0 := n2_; clear n0_ n1_ n2_; (try clear hb); (try clear hk); (try clear hi)) | ((with_reducible refine gate_dst (N := 13) rfl ?_); refine Kd.R_lit (Kd.int .i64) _ 2 ?hg (N := 13) ?hd (xs := ([wrap64 (a1 - 1), wrap64 (a2 + 1), (-9223372036854775808), 9223372036854775807] : List Int)) (inner := [.int .i64 (wrap64 (a1 - 1)), .int .i64 (wrap64 (a2 + 1)), .int .i64 (-9223372036854775808), .int .i64 9223372036854775807]) (ok := fun _ => True) (okp := fun _ => True) ?hr ?hp (fun _ hk => hk) trivial (Below.refl _ _) (Nat.le_refl _) (by simp) ?_; (case hd => rfl); (case hg => rfl); (case hr => exact q118_); (case hp => exact (Reps.one (show Kd.M (Kd.int .i64) _ _ _ (wrap64 (a1 - 1)) [.int .i64 (wrap64 (a1 - 1))] from rfl) (Reps.one (show Kd.M (Kd.int .i64) _ _ _ (wrap64 (a2 + 1)) [.int .i64 (wrap64 (a2 + 1))] from rfl) (Reps.one (show Kd.M (Kd.int .i64) _ _ _ (-9223372036854775808) [.int .i64 (-9223372036854775808)] from rfl) (Reps.one (show Kd.M (Kd.int .i64) _ _ _ 9223372036854775807 [.int .i64 9223372036854775807] from rfl) (Reps.none _ _)))))); intro v341 w10 ho11 hb hg_ hnew_; clear hg_ hnew_; (first | rw [← Ny340.out] at ho11 | (simp only [Int.reduceToNat] at ho11; rw [← Ny340.out] at ho11)); have n0_ := Aside0.mk (Kd.R_lower ho11 (keep_size (w := w) (g := g) (row := none) q53_)); have n1_ := Aside0.mk (IsS73.below q52_ hb); have n2_ := Aside0.mk (KeepBut.trans q53_ (KeepBut.of_below hb g none) (.inl rfl)); have n3_ := Aside0.mk (below_step q39_ hb); clear HI0; clear HK; clear HB; have HO342 := n0_; have HI0 := n1_; have HK := n2_; have HB := n3_; clear n0_ n1_ n2_ n3_; clear hb ho11) | ((with_reducible refine gate_callee (f := 40) rfl ?_); refine goesL_ (some 15) rfl rfl Tryd.func40 (by kernel_rfl) rfl #[.pointer (some ⟨g, 0, none⟩), .int .i64 4] rfl q55_ ?_; (with_reducible refine (spec_l1Rd_below.calls g s0_0 t339 4 t343 t344 w0 _ ?side1 ?side2 A6.out).mono ?_); (case side1 => exact q116_); (case side2 => exact q114_); rintro e w12 ⟨rfl, hi, hb, hk⟩; refine ⟨_, rfl, ?_⟩; have n0_ := Aside0.mk (Kd.R_mono (Kd.R_keep (IsS73.apart (show IsS73 w0 _ g s0_0 t339 from by repeat (first | (with_reducible first | exact HI0.out | apply IsS73.alloc | apply IsS73.drewN | apply IsS73.drew | apply IsS73.set_1) | exact HI0.out)) (by (with_reducible repeat (first | apply Kd.R_alloc | apply Kd.R_drewN | apply Kd.R_drew)); exact HO342.out) (by decide)) hk (fun _ h => h.2)) (fun _ h => h.1)); have n1_ := Aside0.mk (KeepBut.trans q53_ hk (.inl rfl)); have n2_ := Aside0.mk (hb); have n3_ := Aside0.mk (hi); clear HO342; clear HK; clear HB; clear HI0; have HO342 := n0_; have HK := n1_; have HB := n2_; have HI0 := n3_; clear n0_ n1_ n2_ n3_; (try clear hb); (try clear hk); (try clear hi); obtain ⟨Ao13, co13, eo13⟩ := Kd.R_slice HO342.out; subst eo13; have p345 : 0 ≤ (t343 : Int) := of_decide_eq_true q87_; have q345 : t343 < (y340.length : Int) := of_decide_eq_true q87_; obtain ⟨ad345, e345, hx345_0⟩ := Kd.at_int (Kd.R_reads' HO342.out).2.2 t343 p345 q345; cases e345; replace p345 := eq_true p345; replace q345 := eq_true q345))
    go_ret
    exact ⟨q60_, q52_, q39_, q53_⟩
   ·rw [if_neg c8] at H
    exact absurd H (by simp)
  ·rw [if_neg c7] at H
   exact absurd H (by simp)
 ·replace c5 := Bool.eq_false_iff.mpr c5
  subst c5
  replace H : ((spec_l1Rd_near.f k s0_0 t339 a1 a2).bind fun bt346 => (some (bt346.1, bt346.2))) = some (r1, r2) := by rw [if_neg (show ¬ (false = true) by decide)] at H; exact H
  replace H := Option.bind_eq_some_iff.mp H
  obtain ⟨⟨t346, t347⟩, A140, H⟩ := H
  replace H : (some (t346, t347)) = some (r1, r2) := H
  have A14 := Aside0.mk A140
  clear A140
  simp only [Option.some.injEq, Prod.mk.injEq] at H
  obtain ⟨rfl, rfl⟩ := H
  go_enter Tryd.func46, Tryd.ntmps46
  go_wp2_with (first | ((with_reducible refine gate_callee (f := 37) rfl ?_); refine goesL_ (some 8) rfl rfl Tryd.func37 (by kernel_rfl) rfl #[.pointer (some ⟨g, 0, none⟩), .int .i64 24] rfl q55_ ?_; (with_reducible refine (spec_l1Rd_once.calls g s0_0 s0_1 24 false t339 w0 _ ?side1 ?side2 A4.out).mono ?_); (case side1 => exact q116_); (case side2 => exact q114_); rintro e w15 ⟨rfl, hi, hb, hk⟩; refine ⟨_, rfl, ?_⟩; have n0_ := Aside0.mk (KeepBut.trans q53_ hk (.inl rfl)); have n1_ := Aside0.mk (hb); have n2_ := Aside0.mk (hi); clear HK; clear HB; clear HI0; have HK := n0_; have HB := n1_; have HI0 := n2_; clear n0_ n1_ n2_; (try clear hb); (try clear hk); (try clear hi)) | ((with_reducible refine gate_callee (f := 66) rfl ?_); refine goesL_ (some 21) rfl rfl Tryd.func66 (by kernel_rfl) rfl #[.pointer (some ⟨g, 0, none⟩), .int .i64 a1, .int .i64 a2] rfl q55_ ?_; (with_reducible refine (spec_l1Rd_near.calls k g s0_0 t339 a1 a2 t346 t347 w0 _ ?side1 ?side2 A14.out).mono ?_); (case side1 => exact q116_); (case side2 => exact q114_); rintro e w16 ⟨rfl, hi, hb, hk⟩; refine ⟨_, rfl, ?_⟩; have n0_ := Aside0.mk (KeepBut.trans q53_ hk (.inl rfl)); have n1_ := Aside0.mk (hb); have n2_ := Aside0.mk (hi); clear HK; clear HB; clear HI0; have HK := n0_; have HB := n1_; have HI0 := n2_; clear n0_ n1_ n2_; (try clear hb); (try clear hk); (try clear hi)))
  go_ret
  exact ⟨q60_, q52_, q39_, q53_⟩
def spec_l1Rd_byte.f (s0_0 : List Int) (s0_1 : Int) : Option (Int × Int) := (spec_l1Rd_once.f s0_0 s0_1 2).bind fun bt348 => (if bt348.1 = true then ((some (([0, 1, 127, 128, 255, 15, 16, 240] : List Int) : List Int)).bind fun y350 => ((spec_l1Rd_below.f s0_0 bt348.2 8).bind fun bt353 => (if 0 ≤ bt353.1 then (if bt353.1 < (y350.length : Int) then (some (rd y350 bt353.1, bt353.2)) else (none)) else (none)))) else ((spec_l1Rd_below.f s0_0 bt348.2 256).bind fun bt356 => (some (bt356.1, bt356.2))))
theorem spec_l1Rd_byte.calls (g : Nat) (s0_0 : List Int) (s0_1 : Int) (r1 : Int) (r2 : Int) (w0 w : World) (hI : IsS73 w0 w g s0_0 s0_1) (hB : Below w0.heap.size w0 w) (h : spec_l1Rd_byte.f s0_0 s0_1 = some (r1, r2)) :
  Calls Tryd.prog 85 #[.pointer (some ⟨g, 0, none⟩)] w fun e w' => e = .returned (.int .i64 r1) ∧ IsS73 w0 w' g s0_0 r2 ∧ Below w0.heap.size w0 w' ∧ KeepBut w w' g none := by
 have HI0 := Aside0.mk hI
 have HK := Aside0.mk (KeepBut.refl w g none)
 have HL := Aside0.mk hB.size
 clear hI
 have HW0 := Aside0.mk hB.size
 have HB := Aside0.mk hB
 clear hB
 have H : ((spec_l1Rd_once.f s0_0 s0_1 2).bind fun bt348 => (if bt348.1 = true then ((some (([0, 1, 127, 128, 255, 15, 16, 240] : List Int) : List Int)).bind fun y350 => ((spec_l1Rd_below.f s0_0 bt348.2 8).bind fun bt353 => (if 0 ≤ bt353.1 then (if bt353.1 < (y350.length : Int) then (some (rd y350 bt353.1, bt353.2)) else (none)) else (none)))) else ((spec_l1Rd_below.f s0_0 bt348.2 256).bind fun bt356 => (some (bt356.1, bt356.2))))) = some (r1, r2) := h
 clear h
 replace H := Option.bind_eq_some_iff.mp H
 obtain ⟨⟨t348, t349⟩, A20, H⟩ := H
 replace H : (if t348 = true then ((some (([0, 1, 127, 128, 255, 15, 16, 240] : List Int) : List Int)).bind fun y350 => ((spec_l1Rd_below.f s0_0 t349 8).bind fun bt353 => (if 0 ≤ bt353.1 then (if bt353.1 < (y350.length : Int) then (some (rd y350 bt353.1, bt353.2)) else (none)) else (none)))) else ((spec_l1Rd_below.f s0_0 t349 256).bind fun bt356 => (some (bt356.1, bt356.2)))) = some (r1, r2) := H
 have A2 := Aside0.mk A20
 clear A20
 by_cases c3 : t348 = true
 ·subst c3
  replace H : ((some (([0, 1, 127, 128, 255, 15, 16, 240] : List Int) : List Int)).bind fun y350 => ((spec_l1Rd_below.f s0_0 t349 8).bind fun bt353 => (if 0 ≤ bt353.1 then (if bt353.1 < (y350.length : Int) then (some (rd y350 bt353.1, bt353.2)) else (none)) else (none)))) = some (r1, r2) := by rw [if_pos rfl] at H; exact H
  obtain ⟨y350, hy350⟩ : ∃ y_ : List Int, y_ = (([0, 1, 127, 128, 255, 15, 16, 240] : List Int)) := ⟨_, rfl⟩
  replace H : ((spec_l1Rd_below.f s0_0 t349 8).bind fun bt353 => (if 0 ≤ bt353.1 then (if bt353.1 < (y350.length : Int) then (some (rd y350 bt353.1, bt353.2)) else (none)) else (none))) = some (r1, r2) := by first | (rw [hy350]; with_reducible exact H) | (have H2_ := (Option.bind_some _ _).symm.trans H; rw [hy350]; with_reducible exact H2_) | (have H2_ := (Option.bind_some _ _).symm.trans H; with_reducible exact H2_) | with_reducible exact H | (rw [hy350]; exact H) | exact H
  have Ny350 := Aside0.mk hy350
  clear hy350
  replace H := Option.bind_eq_some_iff.mp H
  obtain ⟨⟨t353, t354⟩, A40, H⟩ := H
  replace H : (if 0 ≤ t353 then (if t353 < (y350.length : Int) then (some (rd y350 t353, t354)) else (none)) else (none)) = some (r1, r2) := H
  have A4 := Aside0.mk A40
  clear A40
  by_cases c5 : 0 ≤ t353
  ·rw [if_pos c5] at H
   have c5b0 : decide (0 ≤ t353) = true := decide_eq_true c5
   clear c5
   by_cases c6 : t353 < (y350.length : Int)
   ·rw [if_pos c6] at H
    have c6b0 : decide (t353 < (y350.length : Int)) = true := decide_eq_true c6
    clear c6
    simp only [Option.some.injEq, Prod.mk.injEq] at H
    obtain ⟨rfl, rfl⟩ := H
    go_enter Tryd.func85, Tryd.ntmps85
    go_wp2_with (first | ((with_reducible refine gate_callee (f := 37) rfl ?_); refine goesL_ (some 4) rfl rfl Tryd.func37 (by kernel_rfl) rfl #[.pointer (some ⟨g, 0, none⟩), .int .i64 2] rfl q55_ ?_; (with_reducible refine (spec_l1Rd_once.calls g s0_0 s0_1 2 true t349 w0 _ ?side1 ?side2 A2.out).mono ?_); (case side1 => exact q116_); (case side2 => exact q114_); rintro e w7 ⟨rfl, hi, hb, hk⟩; refine ⟨_, rfl, ?_⟩; have n0_ := Aside0.mk (KeepBut.trans q53_ hk (.inl rfl)); have n1_ := Aside0.mk (hb); have n2_ := Aside0.mk (hi); clear HK; clear HB; clear HI0; have HK := n0_; have HB := n1_; have HI0 := n2_; clear n0_ n1_ n2_; (try clear hb); (try clear hk); (try clear hi)) | ((with_reducible refine gate_dst (N := 5) rfl ?_); refine Kd.R_lit (Kd.int .i64) _ 2 ?hg (N := 5) ?hd (xs := ([0, 1, 127, 128, 255, 15, 16, 240] : List Int)) (inner := [.int .i64 0, .int .i64 1, .int .i64 127, .int .i64 128, .int .i64 255, .int .i64 15, .int .i64 16, .int .i64 240]) (ok := fun _ => True) (okp := fun _ => True) ?hr ?hp (fun _ hk => hk) trivial (Below.refl _ _) (Nat.le_refl _) (by simp) ?_; (case hd => rfl); (case hg => rfl); (case hr => exact q118_); (case hp => exact (Reps.one (show Kd.M (Kd.int .i64) _ _ _ 0 [.int .i64 0] from rfl) (Reps.one (show Kd.M (Kd.int .i64) _ _ _ 1 [.int .i64 1] from rfl) (Reps.one (show Kd.M (Kd.int .i64) _ _ _ 127 [.int .i64 127] from rfl) (Reps.one (show Kd.M (Kd.int .i64) _ _ _ 128 [.int .i64 128] from rfl) (Reps.one (show Kd.M (Kd.int .i64) _ _ _ 255 [.int .i64 255] from rfl) (Reps.one (show Kd.M (Kd.int .i64) _ _ _ 15 [.int .i64 15] from rfl) (Reps.one (show Kd.M (Kd.int .i64) _ _ _ 16 [.int .i64 16] from rfl) (Reps.one (show Kd.M (Kd.int .i64) _ _ _ 240 [.int .i64 240] from rfl) (Reps.none _ _)))))))))); intro v351 w8 ho9 hb hg_ hnew_; clear hg_ hnew_; (first | rw [← Ny350.out] at ho9 | (simp only [Int.reduceToNat] at ho9; rw [← Ny350.out] at ho9)); have n0_ := Aside0.mk (Kd.R_lower ho9 (keep_size (w := w) (g := g) (row := none) q53_)); have n1_ := Aside0.mk (IsS73.below q52_ hb); have n2_ := Aside0.mk (KeepBut.trans q53_ (KeepBut.of_below hb g none) (.inl rfl)); have n3_ := Aside0.mk (below_step q39_ hb); clear HI0; clear HK; clear HB; have HO352 := n0_; have HI0 := n1_; have HK := n2_; have HB := n3_; clear n0_ n1_ n2_ n3_; clear hb ho9) | ((with_reducible refine gate_callee (f := 40) rfl ?_); refine goesL_ (some 7) rfl rfl Tryd.func40 (by kernel_rfl) rfl #[.pointer (some ⟨g, 0, none⟩), .int .i64 8] rfl q55_ ?_; (with_reducible refine (spec_l1Rd_below.calls g s0_0 t349 8 t353 t354 w0 _ ?side1 ?side2 A4.out).mono ?_); (case side1 => exact q116_); (case side2 => exact q114_); rintro e w10 ⟨rfl, hi, hb, hk⟩; refine ⟨_, rfl, ?_⟩; have n0_ := Aside0.mk (Kd.R_mono (Kd.R_keep (IsS73.apart (show IsS73 w0 _ g s0_0 t349 from by repeat (first | (with_reducible first | exact HI0.out | apply IsS73.alloc | apply IsS73.drewN | apply IsS73.drew | apply IsS73.set_1) | exact HI0.out)) (by (with_reducible repeat (first | apply Kd.R_alloc | apply Kd.R_drewN | apply Kd.R_drew)); exact HO352.out) (by decide)) hk (fun _ h => h.2)) (fun _ h => h.1)); have n1_ := Aside0.mk (KeepBut.trans q53_ hk (.inl rfl)); have n2_ := Aside0.mk (hb); have n3_ := Aside0.mk (hi); clear HO352; clear HK; clear HB; clear HI0; have HO352 := n0_; have HK := n1_; have HB := n2_; have HI0 := n3_; clear n0_ n1_ n2_ n3_; (try clear hb); (try clear hk); (try clear hi); obtain ⟨Ao11, co11, eo11⟩ := Kd.R_slice HO352.out; subst eo11; have p355 : 0 ≤ (t353 : Int) := of_decide_eq_true q87_; have q355 : t353 < (y350.length : Int) := of_decide_eq_true q87_; obtain ⟨ad355, e355, hx355_0⟩ := Kd.at_int (Kd.R_reads' HO352.out).2.2 t353 p355 q355; cases e355; replace p355 := eq_true p355; replace q355 := eq_true q355))
    go_ret
    exact ⟨q60_, q52_, q39_, q53_⟩
   ·rw [if_neg c6] at H
    exact absurd H (by simp)
  ·rw [if_neg c5] at H
   exact absurd H (by simp)
 ·replace c3 := Bool.eq_false_iff.mpr c3
  subst c3
  replace H : ((spec_l1Rd_below.f s0_0 t349 256).bind fun bt356 => (some (bt356.1, bt356.2))) = some (r1, r2) := by rw [if_neg (show ¬ (false = true) by decide)] at H; exact H
  replace H := Option.bind_eq_some_iff.mp H
  obtain ⟨⟨t356, t357⟩, A120, H⟩ := H
  replace H : (some (t356, t357)) = some (r1, r2) := H
  have A12 := Aside0.mk A120
  clear A120
  simp only [Option.some.injEq, Prod.mk.injEq] at H
  obtain ⟨rfl, rfl⟩ := H
  go_enter Tryd.func85, Tryd.ntmps85
  go_wp2_with (first | ((with_reducible refine gate_callee (f := 37) rfl ?_); refine goesL_ (some 4) rfl rfl Tryd.func37 (by kernel_rfl) rfl #[.pointer (some ⟨g, 0, none⟩), .int .i64 2] rfl q55_ ?_; (with_reducible refine (spec_l1Rd_once.calls g s0_0 s0_1 2 false t349 w0 _ ?side1 ?side2 A2.out).mono ?_); (case side1 => exact q116_); (case side2 => exact q114_); rintro e w13 ⟨rfl, hi, hb, hk⟩; refine ⟨_, rfl, ?_⟩; have n0_ := Aside0.mk (KeepBut.trans q53_ hk (.inl rfl)); have n1_ := Aside0.mk (hb); have n2_ := Aside0.mk (hi); clear HK; clear HB; clear HI0; have HK := n0_; have HB := n1_; have HI0 := n2_; clear n0_ n1_ n2_; (try clear hb); (try clear hk); (try clear hi)) | ((with_reducible refine gate_callee (f := 40) rfl ?_); refine goesL_ (some 11) rfl rfl Tryd.func40 (by kernel_rfl) rfl #[.pointer (some ⟨g, 0, none⟩), .int .i64 256] rfl q55_ ?_; (with_reducible refine (spec_l1Rd_below.calls g s0_0 t349 256 t356 t357 w0 _ ?side1 ?side2 A12.out).mono ?_); (case side1 => exact q116_); (case side2 => exact q114_); rintro e w14 ⟨rfl, hi, hb, hk⟩; refine ⟨_, rfl, ?_⟩; have n0_ := Aside0.mk (KeepBut.trans q53_ hk (.inl rfl)); have n1_ := Aside0.mk (hb); have n2_ := Aside0.mk (hi); clear HK; clear HB; clear HI0; have HK := n0_; have HB := n1_; have HI0 := n2_; clear n0_ n1_ n2_; (try clear hb); (try clear hk); (try clear hi)))
  go_ret
  exact ⟨q60_, q52_, q39_, q53_⟩
end Go.Proofs.YtcohcndliaaacaaDoor.QFnHeaders
