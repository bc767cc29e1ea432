/- The machine's side of a law, written by a program of this session for this claim. -/
import Derived.Test.YtcohcndliaaacaaZFnCartNewQq
import Derived.Test.YtcohcndliaaacaaZFnCartNewQFnCartNewx0
import Derived.Test.YtcohcndliaaacaaZFnCartNewQFnCartNewx3
import Derived.Test.YtcohcndliaaacaaZFnCartNewQFnCartNewx4
import Derived.Test.YtcohcndliaaacaaZFnCartNewQFnCartNewx7
namespace Go.Proofs.Ytcohcndliaaacaa.QFnCartNew
open Go.Proofs.Ytcohcndliaaacaa.Qq
open Go.RowKit Go.Proofs.Ytcohcndliaaacaa.LibX Go.Proofs.Ytcohcndliaaacaa.LibC Go.Proofs.Ytcohcndliaaacaa.LibE Go.Proofs.YtcohcndliaaacaaW.PrintWords Go.Proofs.YtcohcndliaaacaaW.PrintLast Go.Proofs.YtcohcndliaaacaaW.PrintMore
attribute [local go_sem] max2_int min2_int max_two min_two max_three min_three max_four min_four   -- for this text's walks alone
set_option maxHeartbeats 8000000
set_option maxRecDepth 100000
set_option linter.unusedVariables false
set_option linter.unusedSimpArgs false
def spec_l3Length.f (k : Nat) (a0 : Int) (a1 : Bool) : Option (Int) := (spec_l3Template.f k a0 a1).bind fun t303 => (if t303.toList = ([] : List UInt8) then (some 0) else (if a1 = true then (some 2) else ((spec_l3Hole.f k t303).bind fun bt304 => (if bt304.2.toList = ([] : List UInt8) then (some 1) else (if bt304.2.toList = ([110, 49, 54] : List UInt8) then (some 3) else (some 2))))))
theorem spec_l3Length.mono : ∀ a0 a1 k, LeO (spec_l3Length.f k a0 a1) (spec_l3Length.f (k + 1) a0 a1) := by
 intro a0 a1 k
 unfold spec_l3Length.f
 repeat' first
   | (with_reducible first | exact spec_l3Hole.mono _ _ | exact spec_l3Template.mono _ _ _ | exact LeO.refl _ | exact LeO.none _ | refine LeO.ite ?_ ?_ | refine LeO.bind ?_ (fun _ => ?_))
   | exact spec_l3Hole.mono _ _
   | exact spec_l3Template.mono _ _ _
   | exact LeO.none _
   | refine LeO.ite ?_ ?_
   | refine LeO.bind ?_ (fun _ => ?_)
theorem spec_l3Length.calls (k : Nat) (a0 : Int) (a1 : Bool) (r : Int) (w : World) (h : spec_l3Length.f k a0 a1 = some r) :
  Calls Try.prog 87 #[.int .i64 a0, .bool a1] w fun e w' => e = .returned (.int .i64 r) ∧ Below w.heap.size w w' := by
 have HB := Aside0.mk (Below.refl w.heap.size w)
 have H : ((spec_l3Template.f k a0 a1).bind fun t303 => (if t303.toList = ([] : List UInt8) then (some 0) else (if a1 = true then (some 2) else ((spec_l3Hole.f k t303).bind fun bt304 => (if bt304.2.toList = ([] : List UInt8) then (some 1) else (if bt304.2.toList = ([110, 49, 54] : List UInt8) then (some 3) else (some 2))))))) = some r := h
 clear h
 replace H := Option.bind_eq_some_iff.mp H
 obtain ⟨t303, A30, H⟩ := H
 have A3 := Aside0.mk A30
 clear A30
 by_cases c4 : t303.toList = ([] : List UInt8)
 ·rw [if_pos c4] at H
  have c4b0 : (t303.toList == ([] : List UInt8)) = true := beq_iff_eq.mpr c4
  have c4b1 : (t303.toList != ([] : List UInt8)) = false := bne_eq_false_iff_eq.mpr c4
  clear c4
  obtain rfl := Option.some.inj H
  go_enter Try.func87, Try.ntmps87
  go_wp2_with (first | ((with_reducible refine gate_callee (f := 94) rfl ?_); refine goesL_ (some 10) rfl rfl Try.func94 (by kernel_rfl) rfl #[.int .i64 a0, .bool a1] rfl q53_ ?_; (with_reducible refine (spec_l3Template.calls k a0 a1 t303 _ A3.out).mono ?_); rintro e w5 ⟨rfl, hb⟩; refine ⟨_, rfl, ?_⟩; replace HB := Aside0.mk (below_step q54_ hb); (try clear hb)))
  go_ret
  exact ⟨q55_, q54_⟩
 ·rw [if_neg c4] at H
  have c4b0 : (t303.toList == ([] : List UInt8)) = false := beq_eq_false_iff_ne.mpr c4
  have c4b1 : (t303.toList != ([] : List UInt8)) = true := bne_iff_ne.mpr c4
  by_cases c6 : a1 = true
  ·subst c6
   replace H : (some 2) = some r := by rw [if_pos rfl] at H; exact H
   obtain rfl := Option.some.inj H
   go_enter Try.func87, Try.ntmps87
   go_wp2_with (first | ((with_reducible refine gate_callee (f := 94) rfl ?_); refine goesL_ (some 10) rfl rfl Try.func94 (by kernel_rfl) rfl #[.int .i64 a0, .bool true] rfl q53_ ?_; (with_reducible refine (spec_l3Template.calls k a0 true t303 _ A3.out).mono ?_); rintro e w7 ⟨rfl, hb⟩; refine ⟨_, rfl, ?_⟩; replace HB := Aside0.mk (below_step q54_ hb); (try clear hb)))
   go_ret
   exact ⟨q55_, q54_⟩
  ·replace c6 := Bool.eq_false_iff.mpr c6
   subst c6
   replace H : ((spec_l3Hole.f k t303).bind fun bt304 => (if bt304.2.toList = ([] : List UInt8) then (some 1) else (if bt304.2.toList = ([110, 49, 54] : List UInt8) then (some 3) else (some 2)))) = some r := by rw [if_neg (show ¬ (false = true) by decide)] at H; exact H
   replace H := Option.bind_eq_some_iff.mp H
   obtain ⟨⟨t304, t305⟩, A80, H⟩ := H
   replace H : (if t305.toList = ([] : List UInt8) then (some 1) else (if t305.toList = ([110, 49, 54] : List UInt8) then (some 3) else (some 2))) = some r := H
   have A8 := Aside0.mk A80
   clear A80
   by_cases c9 : t305.toList = ([] : List UInt8)
   ·rw [if_pos c9] at H
    have c9b0 : (t305.toList == ([] : List UInt8)) = true := beq_iff_eq.mpr c9
    have c9b1 : (t305.toList != ([] : List UInt8)) = false := bne_eq_false_iff_eq.mpr c9
    clear c9
    obtain rfl := Option.some.inj H
    go_enter Try.func87, Try.ntmps87
    go_wp2_with (first | ((with_reducible refine gate_callee (f := 94) rfl ?_); refine goesL_ (some 10) rfl rfl Try.func94 (by kernel_rfl) rfl #[.int .i64 a0, .bool false] rfl q53_ ?_; (with_reducible refine (spec_l3Template.calls k a0 false t303 _ A3.out).mono ?_); rintro e w10 ⟨rfl, hb⟩; refine ⟨_, rfl, ?_⟩; replace HB := Aside0.mk (below_step q54_ hb); (try clear hb)) | ((with_reducible refine gate_callee (f := 93) rfl ?_); refine goesL_ (some 16) rfl rfl Try.func93 (by kernel_rfl) rfl #[.string t303] rfl q53_ ?_; (with_reducible refine (spec_l3Hole.calls k t303 t304 t305 _ A8.out).mono ?_); rintro e w11 ⟨rfl, hb⟩; refine ⟨_, rfl, ?_⟩; replace HB := Aside0.mk (below_step q54_ hb); (try clear hb)))
    go_ret
    exact ⟨q55_, q54_⟩
   ·rw [if_neg c9] at H
    have c9b0 : (t305.toList == ([] : List UInt8)) = false := beq_eq_false_iff_ne.mpr c9
    have c9b1 : (t305.toList != ([] : List UInt8)) = true := bne_iff_ne.mpr c9
    by_cases c12 : t305.toList = ([110, 49, 54] : List UInt8)
    ·rw [if_pos c12] at H
     have c12b0 : (t305.toList == ([110, 49, 54] : List UInt8)) = true := beq_iff_eq.mpr c12
     have c12b1 : (t305.toList != ([110, 49, 54] : List UInt8)) = false := bne_eq_false_iff_eq.mpr c12
     clear c12
     obtain rfl := Option.some.inj H
     go_enter Try.func87, Try.ntmps87
     go_wp2_with (first | ((with_reducible refine gate_callee (f := 94) rfl ?_); refine goesL_ (some 10) rfl rfl Try.func94 (by kernel_rfl) rfl #[.int .i64 a0, .bool false] rfl q53_ ?_; (with_reducible refine (spec_l3Template.calls k a0 false t303 _ A3.out).mono ?_); rintro e w13 ⟨rfl, hb⟩; refine ⟨_, rfl, ?_⟩; replace HB := Aside0.mk (below_step q54_ hb); (try clear hb)) | ((with_reducible refine gate_callee (f := 93) rfl ?_); refine goesL_ (some 16) rfl rfl Try.func93 (by kernel_rfl) rfl #[.string t303] rfl q53_ ?_; (with_reducible refine (spec_l3Hole.calls k t303 t304 t305 _ A8.out).mono ?_); rintro e w14 ⟨rfl, hb⟩; refine ⟨_, rfl, ?_⟩; replace HB := Aside0.mk (below_step q54_ hb); (try clear hb)))
     go_ret
     exact ⟨q55_, q54_⟩
    ·rw [if_neg c12] at H
     have c12b0 : (t305.toList == ([110, 49, 54] : List UInt8)) = false := beq_eq_false_iff_ne.mpr c12
     have c12b1 : (t305.toList != ([110, 49, 54] : List UInt8)) = true := bne_iff_ne.mpr c12
     obtain rfl := Option.some.inj H
     go_enter Try.func87, Try.ntmps87
     go_wp2_with (first | ((with_reducible refine gate_callee (f := 94) rfl ?_); refine goesL_ (some 10) rfl rfl Try.func94 (by kernel_rfl) rfl #[.int .i64 a0, .bool false] rfl q53_ ?_; (with_reducible refine (spec_l3Template.calls k a0 false t303 _ A3.out).mono ?_); rintro e w15 ⟨rfl, hb⟩; refine ⟨_, rfl, ?_⟩; replace HB := Aside0.mk (below_step q54_ hb); (try clear hb)) | ((with_reducible refine gate_callee (f := 93) rfl ?_); refine goesL_ (some 16) rfl rfl Try.func93 (by kernel_rfl) rfl #[.string t303] rfl q53_ ?_; (with_reducible refine (spec_l3Hole.calls k t303 t304 t305 _ A8.out).mono ?_); rintro e w16 ⟨rfl, hb⟩; refine ⟨_, rfl, ?_⟩; replace HB := Aside0.mk (below_step q54_ hb); (try clear hb)))
     go_ret
     exact ⟨q55_, q54_⟩
def spec_LengthOf.f (k : Nat) (a0 : Int) (a1 : Bool) : Option (Int) := (spec_l1In.f a0 0 255).bind fun t306 => (if t306 = true then ((spec_l3Length.f k a0 a1).bind fun t307 => (some t307)) else (some 0))
theorem spec_LengthOf.mono : ∀ a0 a1 k, LeO (spec_LengthOf.f k a0 a1) (spec_LengthOf.f (k + 1) a0 a1) := by
 intro a0 a1 k
 unfold spec_LengthOf.f
 repeat' first
   | (with_reducible first | exact spec_l3Length.mono _ _ _ | exact LeO.refl _ | exact LeO.none _ | refine LeO.ite ?_ ?_ | refine LeO.bind ?_ (fun _ => ?_))
   | exact spec_l3Length.mono _ _ _
   | exact LeO.none _
   | refine LeO.ite ?_ ?_
   | refine LeO.bind ?_ (fun _ => ?_)
theorem spec_LengthOf.calls (k : Nat) (a0 : Int) (a1 : Bool) (r : Int) (w : World) (h : spec_LengthOf.f k a0 a1 = some r) :
  Calls Try.prog 92 #[.int .i64 a0, .bool a1] w fun e w' => e = .returned (.int .i64 r) ∧ Below w.heap.size w w' := by
 have HB := Aside0.mk (Below.refl w.heap.size w)
 have H : ((spec_l1In.f a0 0 255).bind fun t306 => (if t306 = true then ((spec_l3Length.f k a0 a1).bind fun t307 => (some t307)) else (some 0))) = some r := h
 clear h
 replace H := Option.bind_eq_some_iff.mp H
 obtain ⟨t306, A30, H⟩ := H
 have A3 := Aside0.mk A30
 clear A30
 by_cases c4 : t306 = true
 ·subst c4
  replace H : ((spec_l3Length.f k a0 a1).bind fun t307 => (some t307)) = some r := by rw [if_pos rfl] at H; exact H
  replace H := Option.bind_eq_some_iff.mp H
  obtain ⟨t307, A50, H⟩ := H
  have A5 := Aside0.mk A50
  clear A50
  obtain rfl := Option.some.inj H
  go_enter Try.func92, Try.ntmps92
  go_wp2_with (first | ((with_reducible refine gate_callee (f := 41) rfl ?_); refine goesL_ (some 6) rfl rfl Try.func41 (by kernel_rfl) rfl #[.int .i64 a0, .int .i64 0, .int .i64 255] rfl q53_ ?_; (with_reducible refine (spec_l1In.calls a0 0 255 true _ A3.out).mono ?_); rintro e w' ⟨rfl, ⟨nd, rfl⟩⟩; refine ⟨_, rfl, ?_⟩) | ((with_reducible refine gate_callee (f := 87) rfl ?_); refine goesL_ (some 10) rfl rfl Try.func87 (by kernel_rfl) rfl #[.int .i64 a0, .bool a1] rfl q53_ ?_; (with_reducible refine (spec_l3Length.calls k a0 a1 t307 _ A5.out).mono ?_); rintro e w6 ⟨rfl, hb⟩; refine ⟨_, rfl, ?_⟩; replace HB := Aside0.mk (below_step q54_ hb); (try clear hb)))
  go_ret
  exact ⟨q55_, q54_⟩
 ·replace c4 := Bool.eq_false_iff.mpr c4
  subst c4
  replace H : (some 0) = some r := by rw [if_neg (show ¬ (false = true) by decide)] at H; exact H
  obtain rfl := Option.some.inj H
  go_enter Try.func92, Try.ntmps92
  go_wp2_with (first | ((with_reducible refine gate_callee (f := 41) rfl ?_); refine goesL_ (some 6) rfl rfl Try.func41 (by kernel_rfl) rfl #[.int .i64 a0, .int .i64 0, .int .i64 255] rfl q53_ ?_; (with_reducible refine (spec_l1In.calls a0 0 255 false _ A3.out).mono ?_); rintro e w' ⟨rfl, ⟨nd, rfl⟩⟩; refine ⟨_, rfl, ?_⟩))
  go_ret
  exact ⟨q55_, q54_⟩
def spec_InsOk.f (k : Nat) (a0_0 : Int) (a0_1 : Bool) (a0_2 : Int) : Option (Bool) := (spec_LengthOf.f k a0_0 a0_1).bind fun t309 => (if t309 = 0 then (some false) else ((spec_l3Template.f k a0_0 a0_1).bind fun t310 => ((spec_l3Hole.f k t310).bind fun bt311 => (if bt311.2.toList = ([110, 49, 54] : List UInt8) then ((spec_l1In.f a0_2 0 65535).bind fun t313 => (some t313)) else (if bt311.2.toList = ([110, 56] : List UInt8) then ((spec_l1In.f a0_2 0 255).bind fun t314 => (some t314)) else (if bt311.2.toList = ([101, 56] : List UInt8) then ((spec_l1In.f a0_2 0 255).bind fun t315 => (some t315)) else (some (a0_2 == 0))))))))
theorem spec_InsOk.mono : ∀ a0 a1 a2 k, LeO (spec_InsOk.f k a0 a1 a2) (spec_InsOk.f (k + 1) a0 a1 a2) := by
 intro a0 a1 a2 k
 unfold spec_InsOk.f
 repeat' first
   | (with_reducible first | exact spec_LengthOf.mono _ _ _ | exact spec_l3Hole.mono _ _ | exact spec_l3Template.mono _ _ _ | exact LeO.refl _ | exact LeO.none _ | refine LeO.ite ?_ ?_ | refine LeO.bind ?_ (fun _ => ?_))
   | exact spec_LengthOf.mono _ _ _
   | exact spec_l3Hole.mono _ _
   | exact spec_l3Template.mono _ _ _
   | exact LeO.none _
   | refine LeO.ite ?_ ?_
   | refine LeO.bind ?_ (fun _ => ?_)
theorem spec_InsOk.calls (k : Nat) (a0_0 : Int) (a0_1 : Bool) (a0_2 : Int) (r : Bool) (w : World) (h : spec_InsOk.f k a0_0 a0_1 a0_2 = some r) :
  Calls Try.prog 86 #[.agg #[.int .i64 a0_0, .bool a0_1, .int .i64 a0_2]] w fun e w' => e = .returned (.bool r) ∧ Below w.heap.size w w' := by
 have hu85 := Try.underlying85
 have HB := Aside0.mk (Below.refl w.heap.size w)
 have H : ((spec_LengthOf.f k a0_0 a0_1).bind fun t309 => (if t309 = 0 then (some false) else ((spec_l3Template.f k a0_0 a0_1).bind fun t310 => ((spec_l3Hole.f k t310).bind fun bt311 => (if bt311.2.toList = ([110, 49, 54] : List UInt8) then ((spec_l1In.f a0_2 0 65535).bind fun t313 => (some t313)) else (if bt311.2.toList = ([110, 56] : List UInt8) then ((spec_l1In.f a0_2 0 255).bind fun t314 => (some t314)) else (if bt311.2.toList = ([101, 56] : List UInt8) then ((spec_l1In.f a0_2 0 255).bind fun t315 => (some t315)) else (some (a0_2 == 0))))))))) = some r := h
 clear h
 replace H := Option.bind_eq_some_iff.mp H
 obtain ⟨t309, A20, H⟩ := H
 have A2 := Aside0.mk A20
 clear A20
 by_cases c3 : t309 = 0
 ·rw [if_pos c3] at H
  have c3b0 : (t309 == 0) = true := beq_iff_eq.mpr c3
  have c3b1 : (t309 != 0) = false := bne_eq_false_iff_eq.mpr c3
  clear c3
  obtain rfl := Option.some.inj H
  go_enter Try.func86, Try.ntmps86
  go_wp2_with (first | ((with_reducible refine gate_dst (N := 1) rfl ?_); refine box_event ?hg (N := 1) ?hd (cs := #[.int .i64 a0_0, .bool a0_1, .int .i64 a0_2]) (t := 85) ?hr ?_; (case hd => rfl); (case hg => rfl); (case hr => exact q109_); intro gb308 hg w4 hbox hb; have n0_ := Aside0.mk (below_step q54_ hb); have n1_ := Aside0.mk (hbox); have n2_ := Aside0.mk ((q39_ : w.heap.size ≤ gb308)); have n3_ := Aside0.mk ((q39_ : w.heap.size ≤ gb308)); clear HB; have HB := n0_; have BK308 := n1_; have GW308 := n2_; have GE308 := n3_; clear n0_ n1_ n2_ n3_; clear hb hbox hg; have hcz5_0 : w4.cell? ⟨gb308, 0, none⟩ = some (.int .i64 a0_0) := (blk_cell BK308.out 0).trans rfl; have hcz5_1 : w4.cell? ⟨gb308, 1, none⟩ = some (.bool a0_1) := (blk_cell BK308.out 1).trans rfl; have hcz5_2 : w4.cell? ⟨gb308, 2, none⟩ = some (.int .i64 a0_2) := (blk_cell BK308.out 2).trans rfl; have hfz5_0 := blk_frozen BK308.out 0; have hfz5_1 := blk_frozen BK308.out 1; have hfz5_2 := blk_frozen BK308.out 2) | ((with_reducible refine gate_callee (f := 92) rfl ?_); refine goesL_ (some 9) rfl rfl Try.func92 (by kernel_rfl) rfl #[.int .i64 a0_0, .bool a0_1] rfl q53_ ?_; (with_reducible refine (spec_LengthOf.calls k a0_0 a0_1 t309 _ A2.out).mono ?_); rintro e w6 ⟨rfl, hb⟩; refine ⟨_, rfl, ?_⟩; have n0_ := Aside0.mk (blk_below (g := gb308) (o := .cells #[.int .i64 a0_0, .bool a0_1, .int .i64 a0_2] 85 (0, 0)) q62_ hb); have n1_ := Aside0.mk (below_step q45_ hb); clear BK308; clear HB; have BK308 := n0_; have HB := n1_; clear n0_ n1_; (try clear hb)))
  go_ret
  exact ⟨q55_, q45_⟩
 ·rw [if_neg c3] at H
  have c3b0 : (t309 == 0) = false := beq_eq_false_iff_ne.mpr c3
  have c3b1 : (t309 != 0) = true := bne_iff_ne.mpr c3
  replace H := Option.bind_eq_some_iff.mp H
  obtain ⟨t310, A70, H⟩ := H
  have A7 := Aside0.mk A70
  clear A70
  replace H := Option.bind_eq_some_iff.mp H
  obtain ⟨⟨t311, t312⟩, A80, H⟩ := H
  replace H : (if t312.toList = ([110, 49, 54] : List UInt8) then ((spec_l1In.f a0_2 0 65535).bind fun t313 => (some t313)) else (if t312.toList = ([110, 56] : List UInt8) then ((spec_l1In.f a0_2 0 255).bind fun t314 => (some t314)) else (if t312.toList = ([101, 56] : List UInt8) then ((spec_l1In.f a0_2 0 255).bind fun t315 => (some t315)) else (some (a0_2 == 0))))) = some r := H
  have A8 := Aside0.mk A80
  clear A80
  by_cases c9 : t312.toList = ([110, 49, 54] : List UInt8)
  ·rw [if_pos c9] at H
   have c9b0 : (t312.toList == ([110, 49, 54] : List UInt8)) = true := beq_iff_eq.mpr c9
   have c9b1 : (t312.toList != ([110, 49, 54] : List UInt8)) = false := bne_eq_false_iff_eq.mpr c9
   clear c9
   replace H := Option.bind_eq_some_iff.mp H
   obtain ⟨t313, A100, H⟩ := H
   have A10 := Aside0.mk A100
   clear A100
   obtain rfl := Option.some.inj H
   go_enter Try.func86, Try.ntmps86
   go_wp2_with (first | ((with_reducible refine gate_dst (N := 1) rfl ?_); refine box_event ?hg (N := 1) ?hd (cs := #[.int .i64 a0_0, .bool a0_1, .int .i64 a0_2]) (t := 85) ?hr ?_; (case hd => rfl); (case hg => rfl); (case hr => exact q109_); intro gb308 hg w11 hbox hb; have n0_ := Aside0.mk (below_step q54_ hb); have n1_ := Aside0.mk (hbox); have n2_ := Aside0.mk ((q39_ : w.heap.size ≤ gb308)); have n3_ := Aside0.mk ((q39_ : w.heap.size ≤ gb308)); clear HB; have HB := n0_; have BK308 := n1_; have GW308 := n2_; have GE308 := n3_; clear n0_ n1_ n2_ n3_; clear hb hbox hg; have hcz12_0 : w11.cell? ⟨gb308, 0, none⟩ = some (.int .i64 a0_0) := (blk_cell BK308.out 0).trans rfl; have hcz12_1 : w11.cell? ⟨gb308, 1, none⟩ = some (.bool a0_1) := (blk_cell BK308.out 1).trans rfl; have hcz12_2 : w11.cell? ⟨gb308, 2, none⟩ = some (.int .i64 a0_2) := (blk_cell BK308.out 2).trans rfl; have hfz12_0 := blk_frozen BK308.out 0; have hfz12_1 := blk_frozen BK308.out 1; have hfz12_2 := blk_frozen BK308.out 2) | ((with_reducible refine gate_callee (f := 92) rfl ?_); refine goesL_ (some 9) rfl rfl Try.func92 (by kernel_rfl) rfl #[.int .i64 a0_0, .bool a0_1] rfl q53_ ?_; (with_reducible refine (spec_LengthOf.calls k a0_0 a0_1 t309 _ A2.out).mono ?_); rintro e w13 ⟨rfl, hb⟩; refine ⟨_, rfl, ?_⟩; have n0_ := Aside0.mk (blk_below (g := gb308) (o := .cells #[.int .i64 a0_0, .bool a0_1, .int .i64 a0_2] 85 (0, 0)) q62_ hb); have n1_ := Aside0.mk (below_step q45_ hb); clear BK308; clear HB; have BK308 := n0_; have HB := n1_; clear n0_ n1_; (try clear hb); have hcz14_0 : w13.cell? ⟨gb308, 0, none⟩ = some (.int .i64 a0_0) := (blk_cell BK308.out 0).trans rfl; have hcz14_1 : w13.cell? ⟨gb308, 1, none⟩ = some (.bool a0_1) := (blk_cell BK308.out 1).trans rfl; have hcz14_2 : w13.cell? ⟨gb308, 2, none⟩ = some (.int .i64 a0_2) := (blk_cell BK308.out 2).trans rfl; have hfz14_0 := blk_frozen BK308.out 0; have hfz14_1 := blk_frozen BK308.out 1; have hfz14_2 := blk_frozen BK308.out 2) | ((with_reducible refine gate_callee (f := 94) rfl ?_); refine goesL_ (some 16) rfl rfl Try.func94 (by kernel_rfl) rfl #[.int .i64 a0_0, .bool a0_1] rfl q53_ ?_; (with_reducible refine (spec_l3Template.calls k a0_0 a0_1 t310 _ A7.out).mono ?_); rintro e w15 ⟨rfl, hb⟩; refine ⟨_, rfl, ?_⟩; have n0_ := Aside0.mk (blk_below (g := gb308) (o := .cells #[.int .i64 a0_0, .bool a0_1, .int .i64 a0_2] 85 (0, 0)) q62_ hb); have n1_ := Aside0.mk (below_step q45_ hb); clear BK308; clear HB; have BK308 := n0_; have HB := n1_; clear n0_ n1_; (try clear hb)) | ((with_reducible refine gate_callee (f := 93) rfl ?_); refine goesL_ (some 17) rfl rfl Try.func93 (by kernel_rfl) rfl #[.string t310] rfl q53_ ?_; (with_reducible refine (spec_l3Hole.calls k t310 t311 t312 _ A8.out).mono ?_); rintro e w16 ⟨rfl, hb⟩; refine ⟨_, rfl, ?_⟩; have n0_ := Aside0.mk (blk_below (g := gb308) (o := .cells #[.int .i64 a0_0, .bool a0_1, .int .i64 a0_2] 85 (0, 0)) q62_ hb); have n1_ := Aside0.mk (below_step q45_ hb); clear BK308; clear HB; have BK308 := n0_; have HB := n1_; clear n0_ n1_; (try clear hb); have hcz17_0 : w16.cell? ⟨gb308, 0, none⟩ = some (.int .i64 a0_0) := (blk_cell BK308.out 0).trans rfl; have hcz17_1 : w16.cell? ⟨gb308, 1, none⟩ = some (.bool a0_1) := (blk_cell BK308.out 1).trans rfl; have hcz17_2 : w16.cell? ⟨gb308, 2, none⟩ = some (.int .i64 a0_2) := (blk_cell BK308.out 2).trans rfl; have hfz17_0 := blk_frozen BK308.out 0; have hfz17_1 := blk_frozen BK308.out 1; have hfz17_2 := blk_frozen BK308.out 2) | ((with_reducible refine gate_callee (f := 41) rfl ?_); refine goesL_ (some 25) rfl rfl Try.func41 (by kernel_rfl) rfl #[.int .i64 a0_2, .int .i64 0, .int .i64 65535] rfl q53_ ?_; (with_reducible refine (spec_l1In.calls a0_2 0 65535 t313 _ A10.out).mono ?_); rintro e w' ⟨rfl, ⟨nd, rfl⟩⟩; refine ⟨_, rfl, ?_⟩))
   go_ret
   exact ⟨q55_, q45_⟩
  ·rw [if_neg c9] at H
   have c9b0 : (t312.toList == ([110, 49, 54] : List UInt8)) = false := beq_eq_false_iff_ne.mpr c9
   have c9b1 : (t312.toList != ([110, 49, 54] : List UInt8)) = true := bne_iff_ne.mpr c9
   by_cases c18 : t312.toList = ([110, 56] : List UInt8)
   ·rw [if_pos c18] at H
    have c18b0 : (t312.toList == ([110, 56] : List UInt8)) = true := beq_iff_eq.mpr c18
    have c18b1 : (t312.toList != ([110, 56] : List UInt8)) = false := bne_eq_false_iff_eq.mpr c18
    clear c18
    replace H := Option.bind_eq_some_iff.mp H
    obtain ⟨t314, A190, H⟩ := H
    have A19 := Aside0.mk A190
    clear A190
    obtain rfl := Option.some.inj H
    go_enter Try.func86, Try.ntmps86
    go_wp2_with (first | ((with_reducible refine gate_dst (N := 1) rfl ?_); refine box_event ?hg (N := 1) ?hd (cs := #[.int .i64 a0_0, .bool a0_1, .int .i64 a0_2]) (t := 85) ?hr ?_; (case hd => rfl); (case hg => rfl); (case hr => exact q109_); intro gb308 hg w20 hbox hb; have n0_ := Aside0.mk (below_step q54_ hb); have n1_ := Aside0.mk (hbox); have n2_ := Aside0.mk ((q39_ : w.heap.size ≤ gb308)); have n3_ := Aside0.mk ((q39_ : w.heap.size ≤ gb308)); clear HB; have HB := n0_; have BK308 := n1_; have GW308 := n2_; have GE308 := n3_; clear n0_ n1_ n2_ n3_; clear hb hbox hg; have hcz21_0 : w20.cell? ⟨gb308, 0, none⟩ = some (.int .i64 a0_0) := (blk_cell BK308.out 0).trans rfl; have hcz21_1 : w20.cell? ⟨gb308, 1, none⟩ = some (.bool a0_1) := (blk_cell BK308.out 1).trans rfl; have hcz21_2 : w20.cell? ⟨gb308, 2, none⟩ = some (.int .i64 a0_2) := (blk_cell BK308.out 2).trans rfl; have hfz21_0 := blk_frozen BK308.out 0; have hfz21_1 := blk_frozen BK308.out 1; have hfz21_2 := blk_frozen BK308.out 2) | ((with_reducible refine gate_callee (f := 92) rfl ?_); refine goesL_ (some 9) rfl rfl Try.func92 (by kernel_rfl) rfl #[.int .i64 a0_0, .bool a0_1] rfl q53_ ?_; (with_reducible refine (spec_LengthOf.calls k a0_0 a0_1 t309 _ A2.out).mono ?_); rintro e w22 ⟨rfl, hb⟩; refine ⟨_, rfl, ?_⟩; have n0_ := Aside0.mk (blk_below (g := gb308) (o := .cells #[.int .i64 a0_0, .bool a0_1, .int .i64 a0_2] 85 (0, 0)) q62_ hb); have n1_ := Aside0.mk (below_step q45_ hb); clear BK308; clear HB; have BK308 := n0_; have HB := n1_; clear n0_ n1_; (try clear hb); have hcz23_0 : w22.cell? ⟨gb308, 0, none⟩ = some (.int .i64 a0_0) := (blk_cell BK308.out 0).trans rfl; have hcz23_1 : w22.cell? ⟨gb308, 1, none⟩ = some (.bool a0_1) := (blk_cell BK308.out 1).trans rfl; have hcz23_2 : w22.cell? ⟨gb308, 2, none⟩ = some (.int .i64 a0_2) := (blk_cell BK308.out 2).trans rfl; have hfz23_0 := blk_frozen BK308.out 0; have hfz23_1 := blk_frozen BK308.out 1; have hfz23_2 := blk_frozen BK308.out 2) | ((with_reducible refine gate_callee (f := 94) rfl ?_); refine goesL_ (some 16) rfl rfl Try.func94 (by kernel_rfl) rfl #[.int .i64 a0_0, .bool a0_1] rfl q53_ ?_; (with_reducible refine (spec_l3Template.calls k a0_0 a0_1 t310 _ A7.out).mono ?_); rintro e w24 ⟨rfl, hb⟩; refine ⟨_, rfl, ?_⟩; have n0_ := Aside0.mk (blk_below (g := gb308) (o := .cells #[.int .i64 a0_0, .bool a0_1, .int .i64 a0_2] 85 (0, 0)) q62_ hb); have n1_ := Aside0.mk (below_step q45_ hb); clear BK308; clear HB; have BK308 := n0_; have HB := n1_; clear n0_ n1_; (try clear hb)) | ((with_reducible refine gate_callee (f := 93) rfl ?_); refine goesL_ (some 17) rfl rfl Try.func93 (by kernel_rfl) rfl #[.string t310] rfl q53_ ?_; (with_reducible refine (spec_l3Hole.calls k t310 t311 t312 _ A8.out).mono ?_); rintro e w25 ⟨rfl, hb⟩; refine ⟨_, rfl, ?_⟩; have n0_ := Aside0.mk (blk_below (g := gb308) (o := .cells #[.int .i64 a0_0, .bool a0_1, .int .i64 a0_2] 85 (0, 0)) q62_ hb); have n1_ := Aside0.mk (below_step q45_ hb); clear BK308; clear HB; have BK308 := n0_; have HB := n1_; clear n0_ n1_; (try clear hb); have hcz26_0 : w25.cell? ⟨gb308, 0, none⟩ = some (.int .i64 a0_0) := (blk_cell BK308.out 0).trans rfl; have hcz26_1 : w25.cell? ⟨gb308, 1, none⟩ = some (.bool a0_1) := (blk_cell BK308.out 1).trans rfl; have hcz26_2 : w25.cell? ⟨gb308, 2, none⟩ = some (.int .i64 a0_2) := (blk_cell BK308.out 2).trans rfl; have hfz26_0 := blk_frozen BK308.out 0; have hfz26_1 := blk_frozen BK308.out 1; have hfz26_2 := blk_frozen BK308.out 2) | ((with_reducible refine gate_callee (f := 41) rfl ?_); refine goesL_ (some 31) rfl rfl Try.func41 (by kernel_rfl) rfl #[.int .i64 a0_2, .int .i64 0, .int .i64 255] rfl q53_ ?_; (with_reducible refine (spec_l1In.calls a0_2 0 255 t314 _ A19.out).mono ?_); rintro e w' ⟨rfl, ⟨nd, rfl⟩⟩; refine ⟨_, rfl, ?_⟩))
    go_ret
    exact ⟨q55_, q45_⟩
   ·rw [if_neg c18] at H
    have c18b0 : (t312.toList == ([110, 56] : List UInt8)) = false := beq_eq_false_iff_ne.mpr c18
    have c18b1 : (t312.toList != ([110, 56] : List UInt8)) = true := bne_iff_ne.mpr c18
    by_cases c27 : t312.toList = ([101, 56] : List UInt8)
    ·rw [if_pos c27] at H
     have c27b0 : (t312.toList == ([101, 56] : List UInt8)) = true := beq_iff_eq.mpr c27
     have c27b1 : (t312.toList != ([101, 56] : List UInt8)) = false := bne_eq_false_iff_eq.mpr c27
     clear c27
     replace H := Option.bind_eq_some_iff.mp H
     obtain ⟨t315, A280, H⟩ := H
     have A28 := Aside0.mk A280
     clear A280
     obtain rfl := Option.some.inj H
     go_enter Try.func86, Try.ntmps86
     go_wp2_with (first | ((with_reducible refine gate_dst (N := 1) rfl ?_); refine box_event ?hg (N := 1) ?hd (cs := #[.int .i64 a0_0, .bool a0_1, .int .i64 a0_2]) (t := 85) ?hr ?_; (case hd => rfl); (case hg => rfl); (case hr => exact q109_); intro gb308 hg w29 hbox hb; have n0_ := Aside0.mk (below_step q54_ hb); have n1_ := Aside0.mk (hbox); have n2_ := Aside0.mk ((q39_ : w.heap.size ≤ gb308)); have n3_ := Aside0.mk ((q39_ : w.heap.size ≤ gb308)); clear HB; have HB := n0_; have BK308 := n1_; have GW308 := n2_; have GE308 := n3_; clear n0_ n1_ n2_ n3_; clear hb hbox hg; have hcz30_0 : w29.cell? ⟨gb308, 0, none⟩ = some (.int .i64 a0_0) := (blk_cell BK308.out 0).trans rfl; have hcz30_1 : w29.cell? ⟨gb308, 1, none⟩ = some (.bool a0_1) := (blk_cell BK308.out 1).trans rfl; have hcz30_2 : w29.cell? ⟨gb308, 2, none⟩ = some (.int .i64 a0_2) := (blk_cell BK308.out 2).trans rfl; have hfz30_0 := blk_frozen BK308.out 0; have hfz30_1 := blk_frozen BK308.out 1; have hfz30_2 := blk_frozen BK308.out 2) | ((with_reducible refine gate_callee (f := 92) rfl ?_); refine goesL_ (some 9) rfl rfl Try.func92 (by kernel_rfl) rfl #[.int .i64 a0_0, .bool a0_1] rfl q53_ ?_; (with_reducible refine (spec_LengthOf.calls k a0_0 a0_1 t309 _ A2.out).mono ?_); rintro e w31 ⟨rfl, hb⟩; refine ⟨_, rfl, ?_⟩; have n0_ := Aside0.mk (blk_below (g := gb308) (o := .cells #[.int .i64 a0_0, .bool a0_1, .int .i64 a0_2] 85 (0, 0)) q62_ hb); have n1_ := Aside0.mk (below_step q45_ hb); clear BK308; clear HB; have BK308 := n0_; have HB := n1_; clear n0_ n1_; (try clear hb); have hcz32_0 : w31.cell? ⟨gb308, 0, none⟩ = some (.int .i64 a0_0) := (blk_cell BK308.out 0).trans rfl; have hcz32_1 : w31.cell? ⟨gb308, 1, none⟩ = some (.bool a0_1) := (blk_cell BK308.out 1).trans rfl; have hcz32_2 : w31.cell? ⟨gb308, 2, none⟩ = some (.int .i64 a0_2) := (blk_cell BK308.out 2).trans rfl; have hfz32_0 := blk_frozen BK308.out 0; have hfz32_1 := blk_frozen BK308.out 1; have hfz32_2 := blk_frozen BK308.out 2) | ((with_reducible refine gate_callee (f := 94) rfl ?_); refine goesL_ (some 16) rfl rfl Try.func94 (by kernel_rfl) rfl #[.int .i64 a0_0, .bool a0_1] rfl q53_ ?_; (with_reducible refine (spec_l3Template.calls k a0_0 a0_1 t310 _ A7.out).mono ?_); rintro e w33 ⟨rfl, hb⟩; refine ⟨_, rfl, ?_⟩; have n0_ := Aside0.mk (blk_below (g := gb308) (o := .cells #[.int .i64 a0_0, .bool a0_1, .int .i64 a0_2] 85 (0, 0)) q62_ hb); have n1_ := Aside0.mk (below_step q45_ hb); clear BK308; clear HB; have BK308 := n0_; have HB := n1_; clear n0_ n1_; (try clear hb)) | ((with_reducible refine gate_callee (f := 93) rfl ?_); refine goesL_ (some 17) rfl rfl Try.func93 (by kernel_rfl) rfl #[.string t310] rfl q53_ ?_; (with_reducible refine (spec_l3Hole.calls k t310 t311 t312 _ A8.out).mono ?_); rintro e w34 ⟨rfl, hb⟩; refine ⟨_, rfl, ?_⟩; have n0_ := Aside0.mk (blk_below (g := gb308) (o := .cells #[.int .i64 a0_0, .bool a0_1, .int .i64 a0_2] 85 (0, 0)) q62_ hb); have n1_ := Aside0.mk (below_step q45_ hb); clear BK308; clear HB; have BK308 := n0_; have HB := n1_; clear n0_ n1_; (try clear hb); have hcz35_0 : w34.cell? ⟨gb308, 0, none⟩ = some (.int .i64 a0_0) := (blk_cell BK308.out 0).trans rfl; have hcz35_1 : w34.cell? ⟨gb308, 1, none⟩ = some (.bool a0_1) := (blk_cell BK308.out 1).trans rfl; have hcz35_2 : w34.cell? ⟨gb308, 2, none⟩ = some (.int .i64 a0_2) := (blk_cell BK308.out 2).trans rfl; have hfz35_0 := blk_frozen BK308.out 0; have hfz35_1 := blk_frozen BK308.out 1; have hfz35_2 := blk_frozen BK308.out 2) | ((with_reducible refine gate_callee (f := 41) rfl ?_); refine goesL_ (some 31) rfl rfl Try.func41 (by kernel_rfl) rfl #[.int .i64 a0_2, .int .i64 0, .int .i64 255] rfl q53_ ?_; (with_reducible refine (spec_l1In.calls a0_2 0 255 t315 _ A28.out).mono ?_); rintro e w' ⟨rfl, ⟨nd, rfl⟩⟩; refine ⟨_, rfl, ?_⟩))
     go_ret
     exact ⟨q55_, q45_⟩
    ·rw [if_neg c27] at H
     have c27b0 : (t312.toList == ([101, 56] : List UInt8)) = false := beq_eq_false_iff_ne.mpr c27
     have c27b1 : (t312.toList != ([101, 56] : List UInt8)) = true := bne_iff_ne.mpr c27
     obtain rfl := Option.some.inj H
     go_enter Try.func86, Try.ntmps86
     go_wp2_with (first | ((with_reducible refine gate_dst (N := 1) rfl ?_); refine box_event ?hg (N := 1) ?hd (cs := #[.int .i64 a0_0, .bool a0_1, .int .i64 a0_2]) (t := 85) ?hr ?_; (case hd => rfl); (case hg => rfl); (case hr => exact q109_); intro gb308 hg w36 hbox hb; have n0_ := Aside0.mk (below_step q54_ hb); have n1_ := Aside0.mk (hbox); have n2_ := Aside0.mk ((q39_ : w.heap.size ≤ gb308)); have n3_ := Aside0.mk ((q39_ : w.heap.size ≤ gb308)); clear HB; have HB := n0_; have BK308 := n1_; have GW308 := n2_; have GE308 := n3_; clear n0_ n1_ n2_ n3_; clear hb hbox hg; have hcz37_0 : w36.cell? ⟨gb308, 0, none⟩ = some (.int .i64 a0_0) := (blk_cell BK308.out 0).trans rfl; have hcz37_1 : w36.cell? ⟨gb308, 1, none⟩ = some (.bool a0_1) := (blk_cell BK308.out 1).trans rfl; have hcz37_2 : w36.cell? ⟨gb308, 2, none⟩ = some (.int .i64 a0_2) := (blk_cell BK308.out 2).trans rfl; have hfz37_0 := blk_frozen BK308.out 0; have hfz37_1 := blk_frozen BK308.out 1; have hfz37_2 := blk_frozen BK308.out 2) | ((with_reducible refine gate_callee (f := 92) rfl ?_); refine goesL_ (some 9) rfl rfl Try.func92 (by kernel_rfl) rfl #[.int .i64 a0_0, .bool a0_1] rfl q53_ ?_; (with_reducible refine (spec_LengthOf.calls k a0_0 a0_1 t309 _ A2.out).mono ?_); rintro e w38 ⟨rfl, hb⟩; refine ⟨_, rfl, ?_⟩; have n0_ := Aside0.mk (blk_below (g := gb308) (o := .cells #[.int .i64 a0_0, .bool a0_1, .int .i64 a0_2] 85 (0, 0)) q62_ hb); have n1_ := Aside0.mk (below_step q45_ hb); clear BK308; clear HB; have BK308 := n0_; have HB := n1_; clear n0_ n1_; (try clear hb); have hcz39_0 : w38.cell? ⟨gb308, 0, none⟩ = some (.int .i64 a0_0) := (blk_cell BK308.out 0).trans rfl; have hcz39_1 : w38.cell? ⟨gb308, 1, none⟩ = some (.bool a0_1) := (blk_cell BK308.out 1).trans rfl; have hcz39_2 : w38.cell? ⟨gb308, 2, none⟩ = some (.int .i64 a0_2) := (blk_cell BK308.out 2).trans rfl; have hfz39_0 := blk_frozen BK308.out 0; have hfz39_1 := blk_frozen BK308.out 1; have hfz39_2 := blk_frozen BK308.out 2) | ((with_reducible refine gate_callee (f := 94) rfl ?_); refine goesL_ (some 16) rfl rfl Try.func94 (by kernel_rfl) rfl #[.int .i64 a0_0, .bool a0_1] rfl q53_ ?_; (with_reducible refine (spec_l3Template.calls k a0_0 a0_1 t310 _ A7.out).mono ?_); rintro e w40 ⟨rfl, hb⟩; refine ⟨_, rfl, ?_⟩; have n0_ := Aside0.mk (blk_below (g := gb308) (o := .cells #[.int .i64 a0_0, .bool a0_1, .int .i64 a0_2] 85 (0, 0)) q62_ hb); have n1_ := Aside0.mk (below_step q45_ hb); clear BK308; clear HB; have BK308 := n0_; have HB := n1_; clear n0_ n1_; (try clear hb)) | ((with_reducible refine gate_callee (f := 93) rfl ?_); refine goesL_ (some 17) rfl rfl Try.func93 (by kernel_rfl) rfl #[.string t310] rfl q53_ ?_; (with_reducible refine (spec_l3Hole.calls k t310 t311 t312 _ A8.out).mono ?_); rintro e w41 ⟨rfl, hb⟩; refine ⟨_, rfl, ?_⟩; have n0_ := Aside0.mk (blk_below (g := gb308) (o := .cells #[.int .i64 a0_0, .bool a0_1, .int .i64 a0_2] 85 (0, 0)) q62_ hb); have n1_ := Aside0.mk (below_step q45_ hb); clear BK308; clear HB; have BK308 := n0_; have HB := n1_; clear n0_ n1_; (try clear hb); have hcz42_0 : w41.cell? ⟨gb308, 0, none⟩ = some (.int .i64 a0_0) := (blk_cell BK308.out 0).trans rfl; have hcz42_1 : w41.cell? ⟨gb308, 1, none⟩ = some (.bool a0_1) := (blk_cell BK308.out 1).trans rfl; have hcz42_2 : w41.cell? ⟨gb308, 2, none⟩ = some (.int .i64 a0_2) := (blk_cell BK308.out 2).trans rfl; have hfz42_0 := blk_frozen BK308.out 0; have hfz42_1 := blk_frozen BK308.out 1; have hfz42_2 := blk_frozen BK308.out 2))
     go_ret
     exact ⟨q55_, q45_⟩
def spec_InsBytes.f (k : Nat) (a0_0 : Int) (a0_1 : Bool) (a0_2 : Int) : Option (ByteArray) := (spec_InsOk.f k a0_0 a0_1 a0_2).bind fun t317 => (if t317 = true then (if a0_1 = true then (some (strOfNums (([203, (a0_0) % 256] : List Int)))) else ((spec_l3Length.f k a0_0 false).bind fun t321 => (if t321 = 2 then (some (strOfNums (([(a0_0) % 256, (a0_2) % 256] : List Int)))) else (if t321 = 3 then (some (strOfNums (([(a0_0) % 256, (a0_2) % 256, (a0_2 / 256) % 256] : List Int)))) else (some (strOfNums (([(a0_0) % 256] : List Int)))))))) else (some (⟨#[]⟩ : ByteArray)))
theorem spec_InsBytes.mono : ∀ a0 a1 a2 k, LeO (spec_InsBytes.f k a0 a1 a2) (spec_InsBytes.f (k + 1) a0 a1 a2) := by
 intro a0 a1 a2 k
 unfold spec_InsBytes.f
 repeat' first
   | (with_reducible first | exact spec_InsOk.mono _ _ _ _ | exact spec_l3Length.mono _ _ _ | exact LeO.refl _ | exact LeO.none _ | refine LeO.ite ?_ ?_ | refine LeO.bind ?_ (fun _ => ?_))
   | exact spec_InsOk.mono _ _ _ _
   | exact spec_l3Length.mono _ _ _
   | exact LeO.none _
   | refine LeO.ite ?_ ?_
   | refine LeO.bind ?_ (fun _ => ?_)
theorem spec_InsBytes.calls (k : Nat) (a0_0 : Int) (a0_1 : Bool) (a0_2 : Int) (r : ByteArray) (w : World) (h : spec_InsBytes.f k a0_0 a0_1 a0_2 = some r) :
  Calls Try.prog 79 #[.agg #[.int .i64 a0_0, .bool a0_1, .int .i64 a0_2]] w fun e w' => e = .returned (.string r) ∧ Below w.heap.size w w' := by
 have hu85 := Try.underlying85
 have HB := Aside0.mk (Below.refl w.heap.size w)
 have H : ((spec_InsOk.f k a0_0 a0_1 a0_2).bind fun t317 => (if t317 = true then (if a0_1 = true then (some (strOfNums (([203, (a0_0) % 256] : List Int)))) else ((spec_l3Length.f k a0_0 false).bind fun t321 => (if t321 = 2 then (some (strOfNums (([(a0_0) % 256, (a0_2) % 256] : List Int)))) else (if t321 = 3 then (some (strOfNums (([(a0_0) % 256, (a0_2) % 256, (a0_2 / 256) % 256] : List Int)))) else (some (strOfNums (([(a0_0) % 256] : List Int)))))))) else (some (⟨#[]⟩ : ByteArray)))) = some r := h
 clear h
 replace H := Option.bind_eq_some_iff.mp H
 obtain ⟨t317, A20, H⟩ := H
 have A2 := Aside0.mk A20
 clear A20
 by_cases c3 : t317 = true
 ·subst c3
  replace H : (if a0_1 = true then (some (strOfNums (([203, (a0_0) % 256] : List Int)))) else ((spec_l3Length.f k a0_0 false).bind fun t321 => (if t321 = 2 then (some (strOfNums (([(a0_0) % 256, (a0_2) % 256] : List Int)))) else (if t321 = 3 then (some (strOfNums (([(a0_0) % 256, (a0_2) % 256, (a0_2 / 256) % 256] : List Int)))) else (some (strOfNums (([(a0_0) % 256] : List Int)))))))) = some r := by rw [if_pos rfl] at H; exact H
  by_cases c4 : a0_1 = true
  ·subst c4
   replace H : (some (strOfNums (([203, (a0_0) % 256] : List Int)))) = some r := by rw [if_pos rfl] at H; exact H
   obtain ⟨y318, hy318⟩ : ∃ y_ : List Int, y_ = (([203, (a0_0) % 256] : List Int)) := ⟨_, rfl⟩
   replace H : (some (strOfNums y318)) = some r := by first | (rw [hy318]; with_reducible exact H) | (have H2_ := (Option.bind_some _ _).symm.trans H; rw [hy318]; with_reducible exact H2_) | (have H2_ := (Option.bind_some _ _).symm.trans H; with_reducible exact H2_) | with_reducible exact H | (rw [hy318]; exact H) | exact H
   have Ny318 := Aside0.mk hy318
   clear hy318
   obtain rfl := Option.some.inj H
   go_enter Try.func79, Try.ntmps79
   go_wp2_with (first | ((with_reducible refine gate_dst (N := 1) rfl ?_); refine box_event ?hg (N := 1) ?hd (cs := #[.int .i64 a0_0, .bool true, .int .i64 a0_2]) (t := 85) ?hr ?_; (case hd => rfl); (case hg => rfl); (case hr => exact q109_); intro gb316 hg w5 hbox hb; have n0_ := Aside0.mk (below_step q54_ hb); have n1_ := Aside0.mk (hbox); have n2_ := Aside0.mk ((q39_ : w.heap.size ≤ gb316)); have n3_ := Aside0.mk ((q39_ : w.heap.size ≤ gb316)); clear HB; have HB := n0_; have BK316 := n1_; have GW316 := n2_; have GE316 := n3_; clear n0_ n1_ n2_ n3_; clear hb hbox hg; have hcz6_0 : w5.cell? ⟨gb316, 0, none⟩ = some (.int .i64 a0_0) := (blk_cell BK316.out 0).trans rfl; have hcz6_1 : w5.cell? ⟨gb316, 1, none⟩ = some (.bool true) := (blk_cell BK316.out 1).trans rfl; have hcz6_2 : w5.cell? ⟨gb316, 2, none⟩ = some (.int .i64 a0_2) := (blk_cell BK316.out 2).trans rfl; have hfz6_0 := blk_frozen BK316.out 0; have hfz6_1 := blk_frozen BK316.out 1; have hfz6_2 := blk_frozen BK316.out 2) | ((with_reducible refine gate_callee (f := 86) rfl ?_); refine goesL_ (some 4) rfl rfl Try.func86 (by kernel_rfl) rfl #[.agg #[.int .i64 a0_0, .bool true, .int .i64 a0_2]] rfl q53_ ?_; (with_reducible refine (spec_InsOk.calls k a0_0 true a0_2 true _ A2.out).mono ?_); rintro e w7 ⟨rfl, hb⟩; refine ⟨_, rfl, ?_⟩; have n0_ := Aside0.mk (blk_below (g := gb316) (o := .cells #[.int .i64 a0_0, .bool true, .int .i64 a0_2] 85 (0, 0)) q63_ hb); have n1_ := Aside0.mk (below_step q46_ hb); clear BK316; clear HB; have BK316 := n0_; have HB := n1_; clear n0_ n1_; (try clear hb); have hcz8_0 : w7.cell? ⟨gb316, 0, none⟩ = some (.int .i64 a0_0) := (blk_cell BK316.out 0).trans rfl; have hcz8_1 : w7.cell? ⟨gb316, 1, none⟩ = some (.bool true) := (blk_cell BK316.out 1).trans rfl; have hcz8_2 : w7.cell? ⟨gb316, 2, none⟩ = some (.int .i64 a0_2) := (blk_cell BK316.out 2).trans rfl; have hfz8_0 := blk_frozen BK316.out 0; have hfz8_1 := blk_frozen BK316.out 1; have hfz8_2 := blk_frozen BK316.out 2) | ((with_reducible refine gate_dst (N := 11) rfl ?_); refine Kd.R_lit (Kd.int .u8) _ 5 ?hg (N := 11) ?hd (xs := ([203, (a0_0) % 256] : List Int)) (inner := [.int .u8 203, .int .u8 ((a0_0) % 256)]) (ok := fun _ => True) (okp := fun _ => True) ?hr ?hp (fun _ hk => hk) trivial (Below.refl _ _) (Nat.le_refl _) (by simp) ?_; (case hd => rfl); (case hg => rfl); (case hr => exact q109_); (case hp => exact (Reps.one (show Kd.M (Kd.int .u8) _ _ _ 203 [.int .u8 203] from rfl) (Reps.one (show Kd.M (Kd.int .u8) _ _ _ ((a0_0) % 256) [.int .u8 ((a0_0) % 256)] from rfl) (Reps.none _ _)))); intro v319 w9 ho10 hb hg_ hnew_; clear hg_ hnew_; (first | rw [← Ny318.out] at ho10 | (simp only [Int.reduceToNat] at ho10; rw [← Ny318.out] at ho10)); have n0_ := Aside0.mk (Kd.R_lower ho10 (below_size q46_)); have n1_ := Aside0.mk (blk_below (g := gb316) (o := .cells #[.int .i64 a0_0, .bool true, .int .i64 a0_2] 85 (0, 0)) q63_ hb); have n2_ := Aside0.mk (below_step q46_ hb); clear BK316; clear HB; have HO320 := n0_; have BK316 := n1_; have HB := n2_; clear n0_ n1_ n2_; clear hb ho10; have hcv11 := own_string (P := Try.prog) Try.underlying25 Try.underlying5 Try.underlying9 (Kd.own_of_R HO320.out); have hcvq11 := fun m_ : Nat => own_string (P := Try.prog) Try.underlying25 Try.underlying5 Try.underlying9 (Kd.own_of_R (Kd.R_drewN HO320.out m_))))
   go_ret
   exact ⟨q55_, q46_⟩
  ·replace c4 := Bool.eq_false_iff.mpr c4
   subst c4
   replace H : ((spec_l3Length.f k a0_0 false).bind fun t321 => (if t321 = 2 then (some (strOfNums (([(a0_0) % 256, (a0_2) % 256] : List Int)))) else (if t321 = 3 then (some (strOfNums (([(a0_0) % 256, (a0_2) % 256, (a0_2 / 256) % 256] : List Int)))) else (some (strOfNums (([(a0_0) % 256] : List Int))))))) = some r := by rw [if_neg (show ¬ (false = true) by decide)] at H; exact H
   replace H := Option.bind_eq_some_iff.mp H
   obtain ⟨t321, A120, H⟩ := H
   have A12 := Aside0.mk A120
   clear A120
   by_cases c13 : t321 = 2
   ·rw [if_pos c13] at H
    have c13b0 : (t321 == 2) = true := beq_iff_eq.mpr c13
    have c13b1 : (t321 != 2) = false := bne_eq_false_iff_eq.mpr c13
    clear c13
    obtain ⟨y322, hy322⟩ : ∃ y_ : List Int, y_ = (([(a0_0) % 256, (a0_2) % 256] : List Int)) := ⟨_, rfl⟩
    replace H : (some (strOfNums y322)) = some r := by first | (rw [hy322]; with_reducible exact H) | (have H2_ := (Option.bind_some _ _).symm.trans H; rw [hy322]; with_reducible exact H2_) | (have H2_ := (Option.bind_some _ _).symm.trans H; with_reducible exact H2_) | with_reducible exact H | (rw [hy322]; exact H) | exact H
    have Ny322 := Aside0.mk hy322
    clear hy322
    obtain rfl := Option.some.inj H
    go_enter Try.func79, Try.ntmps79
    go_wp2_with (first | ((with_reducible refine gate_dst (N := 1) rfl ?_); refine box_event ?hg (N := 1) ?hd (cs := #[.int .i64 a0_0, .bool false, .int .i64 a0_2]) (t := 85) ?hr ?_; (case hd => rfl); (case hg => rfl); (case hr => exact q109_); intro gb316 hg w14 hbox hb; have n0_ := Aside0.mk (below_step q54_ hb); have n1_ := Aside0.mk (hbox); have n2_ := Aside0.mk ((q39_ : w.heap.size ≤ gb316)); have n3_ := Aside0.mk ((q39_ : w.heap.size ≤ gb316)); clear HB; have HB := n0_; have BK316 := n1_; have GW316 := n2_; have GE316 := n3_; clear n0_ n1_ n2_ n3_; clear hb hbox hg; have hcz15_0 : w14.cell? ⟨gb316, 0, none⟩ = some (.int .i64 a0_0) := (blk_cell BK316.out 0).trans rfl; have hcz15_1 : w14.cell? ⟨gb316, 1, none⟩ = some (.bool false) := (blk_cell BK316.out 1).trans rfl; have hcz15_2 : w14.cell? ⟨gb316, 2, none⟩ = some (.int .i64 a0_2) := (blk_cell BK316.out 2).trans rfl; have hfz15_0 := blk_frozen BK316.out 0; have hfz15_1 := blk_frozen BK316.out 1; have hfz15_2 := blk_frozen BK316.out 2) | ((with_reducible refine gate_callee (f := 86) rfl ?_); refine goesL_ (some 4) rfl rfl Try.func86 (by kernel_rfl) rfl #[.agg #[.int .i64 a0_0, .bool false, .int .i64 a0_2]] rfl q53_ ?_; (with_reducible refine (spec_InsOk.calls k a0_0 false a0_2 true _ A2.out).mono ?_); rintro e w16 ⟨rfl, hb⟩; refine ⟨_, rfl, ?_⟩; have n0_ := Aside0.mk (blk_below (g := gb316) (o := .cells #[.int .i64 a0_0, .bool false, .int .i64 a0_2] 85 (0, 0)) q63_ hb); have n1_ := Aside0.mk (below_step q46_ hb); clear BK316; clear HB; have BK316 := n0_; have HB := n1_; clear n0_ n1_; (try clear hb); have hcz17_0 : w16.cell? ⟨gb316, 0, none⟩ = some (.int .i64 a0_0) := (blk_cell BK316.out 0).trans rfl; have hcz17_1 : w16.cell? ⟨gb316, 1, none⟩ = some (.bool false) := (blk_cell BK316.out 1).trans rfl; have hcz17_2 : w16.cell? ⟨gb316, 2, none⟩ = some (.int .i64 a0_2) := (blk_cell BK316.out 2).trans rfl; have hfz17_0 := blk_frozen BK316.out 0; have hfz17_1 := blk_frozen BK316.out 1; have hfz17_2 := blk_frozen BK316.out 2) | ((with_reducible refine gate_callee (f := 87) rfl ?_); refine goesL_ (some 15) rfl rfl Try.func87 (by kernel_rfl) rfl #[.int .i64 a0_0, .bool false] rfl q53_ ?_; (with_reducible refine (spec_l3Length.calls k a0_0 false t321 _ A12.out).mono ?_); rintro e w18 ⟨rfl, hb⟩; refine ⟨_, rfl, ?_⟩; have n0_ := Aside0.mk (blk_below (g := gb316) (o := .cells #[.int .i64 a0_0, .bool false, .int .i64 a0_2] 85 (0, 0)) q63_ hb); have n1_ := Aside0.mk (below_step q46_ hb); clear BK316; clear HB; have BK316 := n0_; have HB := n1_; clear n0_ n1_; (try clear hb); have hcz19_0 : w18.cell? ⟨gb316, 0, none⟩ = some (.int .i64 a0_0) := (blk_cell BK316.out 0).trans rfl; have hcz19_1 : w18.cell? ⟨gb316, 1, none⟩ = some (.bool false) := (blk_cell BK316.out 1).trans rfl; have hcz19_2 : w18.cell? ⟨gb316, 2, none⟩ = some (.int .i64 a0_2) := (blk_cell BK316.out 2).trans rfl; have hfz19_0 := blk_frozen BK316.out 0; have hfz19_1 := blk_frozen BK316.out 1; have hfz19_2 := blk_frozen BK316.out 2) | ((with_reducible refine gate_dst (N := 24) rfl ?_); refine Kd.R_lit (Kd.int .u8) _ 5 ?hg (N := 24) ?hd (xs := ([(a0_0) % 256, (a0_2) % 256] : List Int)) (inner := [.int .u8 ((a0_0) % 256), .int .u8 ((a0_2) % 256)]) (ok := fun _ => True) (okp := fun _ => True) ?hr ?hp (fun _ hk => hk) trivial (Below.refl _ _) (Nat.le_refl _) (by simp) ?_; (case hd => rfl); (case hg => rfl); (case hr => exact q109_); (case hp => exact (Reps.one (show Kd.M (Kd.int .u8) _ _ _ ((a0_0) % 256) [.int .u8 ((a0_0) % 256)] from rfl) (Reps.one (show Kd.M (Kd.int .u8) _ _ _ ((a0_2) % 256) [.int .u8 ((a0_2) % 256)] from rfl) (Reps.none _ _)))); intro v323 w20 ho21 hb hg_ hnew_; clear hg_ hnew_; (first | rw [← Ny322.out] at ho21 | (simp only [Int.reduceToNat] at ho21; rw [← Ny322.out] at ho21)); have n0_ := Aside0.mk (Kd.R_lower ho21 (below_size q46_)); have n1_ := Aside0.mk (blk_below (g := gb316) (o := .cells #[.int .i64 a0_0, .bool false, .int .i64 a0_2] 85 (0, 0)) q63_ hb); have n2_ := Aside0.mk (below_step q46_ hb); clear BK316; clear HB; have HO324 := n0_; have BK316 := n1_; have HB := n2_; clear n0_ n1_ n2_; clear hb ho21; have hcv22 := own_string (P := Try.prog) Try.underlying25 Try.underlying5 Try.underlying9 (Kd.own_of_R HO324.out); have hcvq22 := fun m_ : Nat => own_string (P := Try.prog) Try.underlying25 Try.underlying5 Try.underlying9 (Kd.own_of_R (Kd.R_drewN HO324.out m_))))
    go_ret
    exact ⟨q55_, q46_⟩
   ·rw [if_neg c13] at H
    have c13b0 : (t321 == 2) = false := beq_eq_false_iff_ne.mpr c13
    have c13b1 : (t321 != 2) = true := bne_iff_ne.mpr c13
    by_cases c23 : t321 = 3
    ·rw [if_pos c23] at H
     have c23b0 : (t321 == 3) = true := beq_iff_eq.mpr c23
     have c23b1 : (t321 != 3) = false := bne_eq_false_iff_eq.mpr c23
     clear c23
     obtain ⟨y325, hy325⟩ : ∃ y_ : List Int, y_ = (([(a0_0) % 256, (a0_2) % 256, (a0_2 / 256) % 256] : List Int)) := ⟨_, rfl⟩
     replace H : (some (strOfNums y325)) = some r := by first | (rw [hy325]; with_reducible exact H) | (have H2_ := (Option.bind_some _ _).symm.trans H; rw [hy325]; with_reducible exact H2_) | (have H2_ := (Option.bind_some _ _).symm.trans H; with_reducible exact H2_) | with_reducible exact H | (rw [hy325]; exact H) | exact H
     have Ny325 := Aside0.mk hy325
     clear hy325
     obtain rfl := Option.some.inj H
     go_enter Try.func79, Try.ntmps79
     go_wp2_with (first | ((with_reducible refine gate_dst (N := 1) rfl ?_); refine box_event ?hg (N := 1) ?hd (cs := #[.int .i64 a0_0, .bool false, .int .i64 a0_2]) (t := 85) ?hr ?_; (case hd => rfl); (case hg => rfl); (case hr => exact q109_); intro gb316 hg w24 hbox hb; have n0_ := Aside0.mk (below_step q54_ hb); have n1_ := Aside0.mk (hbox); have n2_ := Aside0.mk ((q39_ : w.heap.size ≤ gb316)); have n3_ := Aside0.mk ((q39_ : w.heap.size ≤ gb316)); clear HB; have HB := n0_; have BK316 := n1_; have GW316 := n2_; have GE316 := n3_; clear n0_ n1_ n2_ n3_; clear hb hbox hg; have hcz25_0 : w24.cell? ⟨gb316, 0, none⟩ = some (.int .i64 a0_0) := (blk_cell BK316.out 0).trans rfl; have hcz25_1 : w24.cell? ⟨gb316, 1, none⟩ = some (.bool false) := (blk_cell BK316.out 1).trans rfl; have hcz25_2 : w24.cell? ⟨gb316, 2, none⟩ = some (.int .i64 a0_2) := (blk_cell BK316.out 2).trans rfl; have hfz25_0 := blk_frozen BK316.out 0; have hfz25_1 := blk_frozen BK316.out 1; have hfz25_2 := blk_frozen BK316.out 2) | ((with_reducible refine gate_callee (f := 86) rfl ?_); refine goesL_ (some 4) rfl rfl Try.func86 (by kernel_rfl) rfl #[.agg #[.int .i64 a0_0, .bool false, .int .i64 a0_2]] rfl q53_ ?_; (with_reducible refine (spec_InsOk.calls k a0_0 false a0_2 true _ A2.out).mono ?_); rintro e w26 ⟨rfl, hb⟩; refine ⟨_, rfl, ?_⟩; have n0_ := Aside0.mk (blk_below (g := gb316) (o := .cells #[.int .i64 a0_0, .bool false, .int .i64 a0_2] 85 (0, 0)) q63_ hb); have n1_ := Aside0.mk (below_step q46_ hb); clear BK316; clear HB; have BK316 := n0_; have HB := n1_; clear n0_ n1_; (try clear hb); have hcz27_0 : w26.cell? ⟨gb316, 0, none⟩ = some (.int .i64 a0_0) := (blk_cell BK316.out 0).trans rfl; have hcz27_1 : w26.cell? ⟨gb316, 1, none⟩ = some (.bool false) := (blk_cell BK316.out 1).trans rfl; have hcz27_2 : w26.cell? ⟨gb316, 2, none⟩ = some (.int .i64 a0_2) := (blk_cell BK316.out 2).trans rfl; have hfz27_0 := blk_frozen BK316.out 0; have hfz27_1 := blk_frozen BK316.out 1; have hfz27_2 := blk_frozen BK316.out 2) | ((with_reducible refine gate_callee (f := 87) rfl ?_); refine goesL_ (some 15) rfl rfl Try.func87 (by kernel_rfl) rfl #[.int .i64 a0_0, .bool false] rfl q53_ ?_; (with_reducible refine (spec_l3Length.calls k a0_0 false t321 _ A12.out).mono ?_); rintro e w28 ⟨rfl, hb⟩; refine ⟨_, rfl, ?_⟩; have n0_ := Aside0.mk (blk_below (g := gb316) (o := .cells #[.int .i64 a0_0, .bool false, .int .i64 a0_2] 85 (0, 0)) q63_ hb); have n1_ := Aside0.mk (below_step q46_ hb); clear BK316; clear HB; have BK316 := n0_; have HB := n1_; clear n0_ n1_; (try clear hb); have hcz29_0 : w28.cell? ⟨gb316, 0, none⟩ = some (.int .i64 a0_0) := (blk_cell BK316.out 0).trans rfl; have hcz29_1 : w28.cell? ⟨gb316, 1, none⟩ = some (.bool false) := (blk_cell BK316.out 1).trans rfl; have hcz29_2 : w28.cell? ⟨gb316, 2, none⟩ = some (.int .i64 a0_2) := (blk_cell BK316.out 2).trans rfl; have hfz29_0 := blk_frozen BK316.out 0; have hfz29_1 := blk_frozen BK316.out 1; have hfz29_2 := blk_frozen BK316.out 2) | ((with_reducible refine gate_dst (N := 38) rfl ?_); refine Kd.R_lit (Kd.int .u8) _ 5 ?hg (N := 38) ?hd (xs := ([(a0_0) % 256, (a0_2) % 256, (a0_2 / 256) % 256] : List Int)) (inner := [.int .u8 ((a0_0) % 256), .int .u8 ((a0_2) % 256), .int .u8 ((a0_2 / 256) % 256)]) (ok := fun _ => True) (okp := fun _ => True) ?hr ?hp (fun _ hk => hk) trivial (Below.refl _ _) (Nat.le_refl _) (by simp) ?_; (case hd => rfl); (case hg => rfl); (case hr => exact q109_); (case hp => exact (Reps.one (show Kd.M (Kd.int .u8) _ _ _ ((a0_0) % 256) [.int .u8 ((a0_0) % 256)] from rfl) (Reps.one (show Kd.M (Kd.int .u8) _ _ _ ((a0_2) % 256) [.int .u8 ((a0_2) % 256)] from rfl) (Reps.one (show Kd.M (Kd.int .u8) _ _ _ ((a0_2 / 256) % 256) [.int .u8 ((a0_2 / 256) % 256)] from rfl) (Reps.none _ _))))); intro v326 w30 ho31 hb hg_ hnew_; clear hg_ hnew_; (first | rw [← Ny325.out] at ho31 | (simp only [Int.reduceToNat] at ho31; rw [← Ny325.out] at ho31)); have n0_ := Aside0.mk (Kd.R_lower ho31 (below_size q46_)); have n1_ := Aside0.mk (blk_below (g := gb316) (o := .cells #[.int .i64 a0_0, .bool false, .int .i64 a0_2] 85 (0, 0)) q63_ hb); have n2_ := Aside0.mk (below_step q46_ hb); clear BK316; clear HB; have HO327 := n0_; have BK316 := n1_; have HB := n2_; clear n0_ n1_ n2_; clear hb ho31; have hcv32 := own_string (P := Try.prog) Try.underlying25 Try.underlying5 Try.underlying9 (Kd.own_of_R HO327.out); have hcvq32 := fun m_ : Nat => own_string (P := Try.prog) Try.underlying25 Try.underlying5 Try.underlying9 (Kd.own_of_R (Kd.R_drewN HO327.out m_))))
     go_ret
     exact ⟨q55_, q46_⟩
    ·rw [if_neg c23] at H
     have c23b0 : (t321 == 3) = false := beq_eq_false_iff_ne.mpr c23
     have c23b1 : (t321 != 3) = true := bne_iff_ne.mpr c23
     obtain ⟨y328, hy328⟩ : ∃ y_ : List Int, y_ = (([(a0_0) % 256] : List Int)) := ⟨_, rfl⟩
     replace H : (some (strOfNums y328)) = some r := by first | (rw [hy328]; with_reducible exact H) | (have H2_ := (Option.bind_some _ _).symm.trans H; rw [hy328]; with_reducible exact H2_) | (have H2_ := (Option.bind_some _ _).symm.trans H; with_reducible exact H2_) | with_reducible exact H | (rw [hy328]; exact H) | exact H
     have Ny328 := Aside0.mk hy328
     clear hy328
     obtain rfl := Option.some.inj H
     go_enter Try.func79, Try.ntmps79
     go_wp2_with (first | ((with_reducible refine gate_dst (N := 1) rfl ?_); refine box_event ?hg (N := 1) ?hd (cs := #[.int .i64 a0_0, .bool false, .int .i64 a0_2]) (t := 85) ?hr ?_; (case hd => rfl); (case hg => rfl); (case hr => exact q109_); intro gb316 hg w33 hbox hb; have n0_ := Aside0.mk (below_step q54_ hb); have n1_ := Aside0.mk (hbox); have n2_ := Aside0.mk ((q39_ : w.heap.size ≤ gb316)); have n3_ := Aside0.mk ((q39_ : w.heap.size ≤ gb316)); clear HB; have HB := n0_; have BK316 := n1_; have GW316 := n2_; have GE316 := n3_; clear n0_ n1_ n2_ n3_; clear hb hbox hg; have hcz34_0 : w33.cell? ⟨gb316, 0, none⟩ = some (.int .i64 a0_0) := (blk_cell BK316.out 0).trans rfl; have hcz34_1 : w33.cell? ⟨gb316, 1, none⟩ = some (.bool false) := (blk_cell BK316.out 1).trans rfl; have hcz34_2 : w33.cell? ⟨gb316, 2, none⟩ = some (.int .i64 a0_2) := (blk_cell BK316.out 2).trans rfl; have hfz34_0 := blk_frozen BK316.out 0; have hfz34_1 := blk_frozen BK316.out 1; have hfz34_2 := blk_frozen BK316.out 2) | ((with_reducible refine gate_callee (f := 86) rfl ?_); refine goesL_ (some 4) rfl rfl Try.func86 (by kernel_rfl) rfl #[.agg #[.int .i64 a0_0, .bool false, .int .i64 a0_2]] rfl q53_ ?_; (with_reducible refine (spec_InsOk.calls k a0_0 false a0_2 true _ A2.out).mono ?_); rintro e w35 ⟨rfl, hb⟩; refine ⟨_, rfl, ?_⟩; have n0_ := Aside0.mk (blk_below (g := gb316) (o := .cells #[.int .i64 a0_0, .bool false, .int .i64 a0_2] 85 (0, 0)) q63_ hb); have n1_ := Aside0.mk (below_step q46_ hb); clear BK316; clear HB; have BK316 := n0_; have HB := n1_; clear n0_ n1_; (try clear hb); have hcz36_0 : w35.cell? ⟨gb316, 0, none⟩ = some (.int .i64 a0_0) := (blk_cell BK316.out 0).trans rfl; have hcz36_1 : w35.cell? ⟨gb316, 1, none⟩ = some (.bool false) := (blk_cell BK316.out 1).trans rfl; have hcz36_2 : w35.cell? ⟨gb316, 2, none⟩ = some (.int .i64 a0_2) := (blk_cell BK316.out 2).trans rfl; have hfz36_0 := blk_frozen BK316.out 0; have hfz36_1 := blk_frozen BK316.out 1; have hfz36_2 := blk_frozen BK316.out 2) | ((with_reducible refine gate_callee (f := 87) rfl ?_); refine goesL_ (some 15) rfl rfl Try.func87 (by kernel_rfl) rfl #[.int .i64 a0_0, .bool false] rfl q53_ ?_; (with_reducible refine (spec_l3Length.calls k a0_0 false t321 _ A12.out).mono ?_); rintro e w37 ⟨rfl, hb⟩; refine ⟨_, rfl, ?_⟩; have n0_ := Aside0.mk (blk_below (g := gb316) (o := .cells #[.int .i64 a0_0, .bool false, .int .i64 a0_2] 85 (0, 0)) q63_ hb); have n1_ := Aside0.mk (below_step q46_ hb); clear BK316; clear HB; have BK316 := n0_; have HB := n1_; clear n0_ n1_; (try clear hb); have hcz38_0 : w37.cell? ⟨gb316, 0, none⟩ = some (.int .i64 a0_0) := (blk_cell BK316.out 0).trans rfl; have hcz38_1 : w37.cell? ⟨gb316, 1, none⟩ = some (.bool false) := (blk_cell BK316.out 1).trans rfl; have hcz38_2 : w37.cell? ⟨gb316, 2, none⟩ = some (.int .i64 a0_2) := (blk_cell BK316.out 2).trans rfl; have hfz38_0 := blk_frozen BK316.out 0; have hfz38_1 := blk_frozen BK316.out 1; have hfz38_2 := blk_frozen BK316.out 2) | ((with_reducible refine gate_dst (N := 43) rfl ?_); refine Kd.R_lit (Kd.int .u8) _ 5 ?hg (N := 43) ?hd (xs := ([(a0_0) % 256] : List Int)) (inner := [.int .u8 ((a0_0) % 256)]) (ok := fun _ => True) (okp := fun _ => True) ?hr ?hp (fun _ hk => hk) trivial (Below.refl _ _) (Nat.le_refl _) (by simp) ?_; (case hd => rfl); (case hg => rfl); (case hr => exact q109_); (case hp => exact (Reps.one (show Kd.M (Kd.int .u8) _ _ _ ((a0_0) % 256) [.int .u8 ((a0_0) % 256)] from rfl) (Reps.none _ _))); intro v329 w39 ho40 hb hg_ hnew_; clear hg_ hnew_; (first | rw [← Ny328.out] at ho40 | (simp only [Int.reduceToNat] at ho40; rw [← Ny328.out] at ho40)); have n0_ := Aside0.mk (Kd.R_lower ho40 (below_size q46_)); have n1_ := Aside0.mk (blk_below (g := gb316) (o := .cells #[.int .i64 a0_0, .bool false, .int .i64 a0_2] 85 (0, 0)) q63_ hb); have n2_ := Aside0.mk (below_step q46_ hb); clear BK316; clear HB; have HO330 := n0_; have BK316 := n1_; have HB := n2_; clear n0_ n1_ n2_; clear hb ho40; have hcv41 := own_string (P := Try.prog) Try.underlying25 Try.underlying5 Try.underlying9 (Kd.own_of_R HO330.out); have hcvq41 := fun m_ : Nat => own_string (P := Try.prog) Try.underlying25 Try.underlying5 Try.underlying9 (Kd.own_of_R (Kd.R_drewN HO330.out m_))))
     go_ret
     exact ⟨q55_, q46_⟩
 ·replace c3 := Bool.eq_false_iff.mpr c3
  subst c3
  replace H : (some (⟨#[]⟩ : ByteArray)) = some r := by rw [if_neg (show ¬ (false = true) by decide)] at H; exact H
  obtain rfl := Option.some.inj H
  go_enter Try.func79, Try.ntmps79
  go_wp2_with (first | ((with_reducible refine gate_dst (N := 1) rfl ?_); refine box_event ?hg (N := 1) ?hd (cs := #[.int .i64 a0_0, .bool a0_1, .int .i64 a0_2]) (t := 85) ?hr ?_; (case hd => rfl); (case hg => rfl); (case hr => exact q109_); intro gb316 hg w42 hbox hb; have n0_ := Aside0.mk (below_step q54_ hb); have n1_ := Aside0.mk (hbox); have n2_ := Aside0.mk ((q39_ : w.heap.size ≤ gb316)); have n3_ := Aside0.mk ((q39_ : w.heap.size ≤ gb316)); clear HB; have HB := n0_; have BK316 := n1_; have GW316 := n2_; have GE316 := n3_; clear n0_ n1_ n2_ n3_; clear hb hbox hg; have hcz43_0 : w42.cell? ⟨gb316, 0, none⟩ = some (.int .i64 a0_0) := (blk_cell BK316.out 0).trans rfl; have hcz43_1 : w42.cell? ⟨gb316, 1, none⟩ = some (.bool a0_1) := (blk_cell BK316.out 1).trans rfl; have hcz43_2 : w42.cell? ⟨gb316, 2, none⟩ = some (.int .i64 a0_2) := (blk_cell BK316.out 2).trans rfl; have hfz43_0 := blk_frozen BK316.out 0; have hfz43_1 := blk_frozen BK316.out 1; have hfz43_2 := blk_frozen BK316.out 2) | ((with_reducible refine gate_callee (f := 86) rfl ?_); refine goesL_ (some 4) rfl rfl Try.func86 (by kernel_rfl) rfl #[.agg #[.int .i64 a0_0, .bool a0_1, .int .i64 a0_2]] rfl q53_ ?_; (with_reducible refine (spec_InsOk.calls k a0_0 a0_1 a0_2 false _ A2.out).mono ?_); rintro e w44 ⟨rfl, hb⟩; refine ⟨_, rfl, ?_⟩; have n0_ := Aside0.mk (blk_below (g := gb316) (o := .cells #[.int .i64 a0_0, .bool a0_1, .int .i64 a0_2] 85 (0, 0)) q63_ hb); have n1_ := Aside0.mk (below_step q46_ hb); clear BK316; clear HB; have BK316 := n0_; have HB := n1_; clear n0_ n1_; (try clear hb)))
  go_ret
  exact ⟨q55_, q46_⟩
def spec_l1Rd_byte.f (s0_0 : List Int) (s0_1 : Int) : Option (Int × Int) := (spec_l1Rd_once.f s0_0 s0_1 2).bind fun bt331 => (if bt331.1 = true then ((some (([0, 1, 127, 128, 255, 15, 16, 240] : List Int) : List Int)).bind fun y333 => ((spec_l1Rd_below.f s0_0 bt331.2 8).bind fun bt336 => (if 0 ≤ bt336.1 then (if bt336.1 < (y333.length : Int) then (some (rd y333 bt336.1, bt336.2)) else (none)) else (none)))) else ((spec_l1Rd_below.f s0_0 bt331.2 256).bind fun bt339 => (some (bt339.1, bt339.2))))
theorem spec_l1Rd_byte.calls (g : Nat) (s0_0 : List Int) (s0_1 : Int) (r1 : Int) (r2 : Int) (w0 w : World) (hI : IsS78 w0 w g s0_0 s0_1) (hB : Below w0.heap.size w0 w) (h : spec_l1Rd_byte.f s0_0 s0_1 = some (r1, r2)) :
  Calls Try.prog 58 #[.pointer (some ⟨g, 0, none⟩)] w fun e w' => e = .returned (.int .i64 r1) ∧ IsS78 w0 w' g s0_0 r2 ∧ Below w0.heap.size w0 w' ∧ KeepBut w w' g none := by
 have HI0 := Aside0.mk hI
 have HK := Aside0.mk (KeepBut.refl w g none)
 have HL := Aside0.mk hB.size
 clear hI
 have HW0 := Aside0.mk hB.size
 have HB := Aside0.mk hB
 clear hB
 have H : ((spec_l1Rd_once.f s0_0 s0_1 2).bind fun bt331 => (if bt331.1 = true then ((some (([0, 1, 127, 128, 255, 15, 16, 240] : List Int) : List Int)).bind fun y333 => ((spec_l1Rd_below.f s0_0 bt331.2 8).bind fun bt336 => (if 0 ≤ bt336.1 then (if bt336.1 < (y333.length : Int) then (some (rd y333 bt336.1, bt336.2)) else (none)) else (none)))) else ((spec_l1Rd_below.f s0_0 bt331.2 256).bind fun bt339 => (some (bt339.1, bt339.2))))) = some (r1, r2) := h
 clear h
 replace H := Option.bind_eq_some_iff.mp H
 obtain ⟨⟨t331, t332⟩, A20, H⟩ := H
 replace H : (if t331 = true then ((some (([0, 1, 127, 128, 255, 15, 16, 240] : List Int) : List Int)).bind fun y333 => ((spec_l1Rd_below.f s0_0 t332 8).bind fun bt336 => (if 0 ≤ bt336.1 then (if bt336.1 < (y333.length : Int) then (some (rd y333 bt336.1, bt336.2)) else (none)) else (none)))) else ((spec_l1Rd_below.f s0_0 t332 256).bind fun bt339 => (some (bt339.1, bt339.2)))) = some (r1, r2) := H
 have A2 := Aside0.mk A20
 clear A20
 by_cases c3 : t331 = true
 ·subst c3
  replace H : ((some (([0, 1, 127, 128, 255, 15, 16, 240] : List Int) : List Int)).bind fun y333 => ((spec_l1Rd_below.f s0_0 t332 8).bind fun bt336 => (if 0 ≤ bt336.1 then (if bt336.1 < (y333.length : Int) then (some (rd y333 bt336.1, bt336.2)) else (none)) else (none)))) = some (r1, r2) := by rw [if_pos rfl] at H; exact H
  obtain ⟨y333, hy333⟩ : ∃ y_ : List Int, y_ = (([0, 1, 127, 128, 255, 15, 16, 240] : List Int)) := ⟨_, rfl⟩
  replace H : ((spec_l1Rd_below.f s0_0 t332 8).bind fun bt336 => (if 0 ≤ bt336.1 then (if bt336.1 < (y333.length : Int) then (some (rd y333 bt336.1, bt336.2)) else (none)) else (none))) = some (r1, r2) := by first | (rw [hy333]; with_reducible exact H) | (have H2_ := (Option.bind_some _ _).symm.trans H; rw [hy333]; with_reducible exact H2_) | (have H2_ := (Option.bind_some _ _).symm.trans H; with_reducible exact H2_) | with_reducible exact H | (rw [hy333]; exact H) | exact H
  have Ny333 := Aside0.mk hy333
  clear hy333
  replace H := Option.bind_eq_some_iff.mp H
  obtain ⟨⟨t336, t337⟩, A40, H⟩ := H
  replace H : (if 0 ≤ t336 then (if t336 < (y333.length : Int) then (some (rd y333 t336, t337)) else (none)) else (none)) = some (r1, r2) := H
  have A4 := Aside0.mk A40
  clear A40
  by_cases c5 : 0 ≤ t336
  ·rw [if_pos c5] at H
   have c5b0 : decide (0 ≤ t336) = true := decide_eq_true c5
   clear c5
   by_cases c6 : t336 < (y333.length : Int)
   ·rw [if_pos c6] at H
    have c6b0 : decide (t336 < (y333.length : Int)) = true := decide_eq_true c6
    clear c6
    simp only [Option.some.injEq, Prod.mk.injEq] at H
    obtain ⟨rfl, rfl⟩ := H
    go_enter Try.func58, Try.ntmps58
    go_wp2_with (first | ((with_reducible refine gate_callee (f := 56) rfl ?_); refine goesL_ (some 4) rfl rfl Try.func56 (by kernel_rfl) rfl #[.pointer (some ⟨g, 0, none⟩), .int .i64 2] rfl q53_ ?_; (with_reducible refine (spec_l1Rd_once.calls g s0_0 s0_1 2 true t332 w0 _ ?side1 ?side2 A2.out).mono ?_); (case side1 => exact q108_); (case side2 => exact q105_); rintro e w7 ⟨rfl, hi, hb, hk⟩; refine ⟨_, rfl, ?_⟩; have n0_ := Aside0.mk (KeepBut.trans q52_ hk (.inl rfl)); have n1_ := Aside0.mk (hb); have n2_ := Aside0.mk (hi); clear HK; clear HB; clear HI0; have HK := n0_; have HB := n1_; have HI0 := n2_; clear n0_ n1_ n2_; (try clear hb); (try clear hk); (try clear hi)) | ((with_reducible refine gate_dst (N := 5) rfl ?_); refine Kd.R_lit (Kd.int .i64) _ 2 ?hg (N := 5) ?hd (xs := ([0, 1, 127, 128, 255, 15, 16, 240] : List Int)) (inner := [.int .i64 0, .int .i64 1, .int .i64 127, .int .i64 128, .int .i64 255, .int .i64 15, .int .i64 16, .int .i64 240]) (ok := fun _ => True) (okp := fun _ => True) ?hr ?hp (fun _ hk => hk) trivial (Below.refl _ _) (Nat.le_refl _) (by simp) ?_; (case hd => rfl); (case hg => rfl); (case hr => exact q109_); (case hp => exact (Reps.one (show Kd.M (Kd.int .i64) _ _ _ 0 [.int .i64 0] from rfl) (Reps.one (show Kd.M (Kd.int .i64) _ _ _ 1 [.int .i64 1] from rfl) (Reps.one (show Kd.M (Kd.int .i64) _ _ _ 127 [.int .i64 127] from rfl) (Reps.one (show Kd.M (Kd.int .i64) _ _ _ 128 [.int .i64 128] from rfl) (Reps.one (show Kd.M (Kd.int .i64) _ _ _ 255 [.int .i64 255] from rfl) (Reps.one (show Kd.M (Kd.int .i64) _ _ _ 15 [.int .i64 15] from rfl) (Reps.one (show Kd.M (Kd.int .i64) _ _ _ 16 [.int .i64 16] from rfl) (Reps.one (show Kd.M (Kd.int .i64) _ _ _ 240 [.int .i64 240] from rfl) (Reps.none _ _)))))))))); intro v334 w8 ho9 hb hg_ hnew_; clear hg_ hnew_; (first | rw [← Ny333.out] at ho9 | (simp only [Int.reduceToNat] at ho9; rw [← Ny333.out] at ho9)); have n0_ := Aside0.mk (Kd.R_lower ho9 (keep_size (w := w) (g := g) (row := none) q52_)); have n1_ := Aside0.mk (IsS78.below q51_ hb); have n2_ := Aside0.mk (KeepBut.trans q52_ (KeepBut.of_below hb g none) (.inl rfl)); have n3_ := Aside0.mk (below_step q37_ hb); clear HI0; clear HK; clear HB; have HO335 := n0_; have HI0 := n1_; have HK := n2_; have HB := n3_; clear n0_ n1_ n2_ n3_; clear hb ho9) | ((with_reducible refine gate_callee (f := 37) rfl ?_); refine goesL_ (some 7) rfl rfl Try.func37 (by kernel_rfl) rfl #[.pointer (some ⟨g, 0, none⟩), .int .i64 8] rfl q53_ ?_; (with_reducible refine (spec_l1Rd_below.calls g s0_0 t332 8 t336 t337 w0 _ ?side1 ?side2 A4.out).mono ?_); (case side1 => exact q108_); (case side2 => exact q105_); rintro e w10 ⟨rfl, hi, hb, hk⟩; refine ⟨_, rfl, ?_⟩; have n0_ := Aside0.mk (Kd.R_mono (Kd.R_keep (IsS78.apart (show IsS78 w0 _ g s0_0 t332 from by repeat (first | (with_reducible first | exact HI0.out | apply IsS78.alloc | apply IsS78.drewN | apply IsS78.drew | apply IsS78.set_1) | exact HI0.out)) (by (with_reducible repeat (first | apply Kd.R_alloc | apply Kd.R_drewN | apply Kd.R_drew)); exact HO335.out) (by decide)) hk (fun _ h => h.2)) (fun _ h => h.1)); have n1_ := Aside0.mk (KeepBut.trans q52_ hk (.inl rfl)); have n2_ := Aside0.mk (hb); have n3_ := Aside0.mk (hi); clear HO335; clear HK; clear HB; clear HI0; have HO335 := n0_; have HK := n1_; have HB := n2_; have HI0 := n3_; clear n0_ n1_ n2_ n3_; (try clear hb); (try clear hk); (try clear hi); obtain ⟨Ao11, co11, eo11⟩ := Kd.R_slice HO335.out; subst eo11; have p338 : 0 ≤ (t336 : Int) := of_decide_eq_true q82_; have q338 : t336 < (y333.length : Int) := of_decide_eq_true q82_; obtain ⟨ad338, e338, hx338_0⟩ := Kd.at_int (Kd.R_reads' HO335.out).2.2 t336 p338 q338; cases e338; replace p338 := eq_true p338; replace q338 := eq_true q338))
    go_ret
    exact ⟨q55_, q51_, q37_, q52_⟩
   ·rw [if_neg c6] at H
    exact absurd H (by simp)
  ·rw [if_neg c5] at H
   exact absurd H (by simp)
 ·replace c3 := Bool.eq_false_iff.mpr c3
  subst c3
  replace H : ((spec_l1Rd_below.f s0_0 t332 256).bind fun bt339 => (some (bt339.1, bt339.2))) = some (r1, r2) := by rw [if_neg (show ¬ (false = true) by decide)] at H; exact H
  replace H := Option.bind_eq_some_iff.mp H
  obtain ⟨⟨t339, t340⟩, A120, H⟩ := H
  replace H : (some (t339, t340)) = some (r1, r2) := H
  have A12 := Aside0.mk A120
  clear A120
  simp only [Option.some.injEq, Prod.mk.injEq] at H
  obtain ⟨rfl, rfl⟩ := H
  go_enter Try.func58, Try.ntmps58
  go_wp2_with (first | ((with_reducible refine gate_callee (f := 56) rfl ?_); refine goesL_ (some 4) rfl rfl Try.func56 (by kernel_rfl) rfl #[.pointer (some ⟨g, 0, none⟩), .int .i64 2] rfl q53_ ?_; (with_reducible refine (spec_l1Rd_once.calls g s0_0 s0_1 2 false t332 w0 _ ?side1 ?side2 A2.out).mono ?_); (case side1 => exact q108_); (case side2 => exact q105_); rintro e w13 ⟨rfl, hi, hb, hk⟩; refine ⟨_, rfl, ?_⟩; have n0_ := Aside0.mk (KeepBut.trans q52_ hk (.inl rfl)); have n1_ := Aside0.mk (hb); have n2_ := Aside0.mk (hi); clear HK; clear HB; clear HI0; have HK := n0_; have HB := n1_; have HI0 := n2_; clear n0_ n1_ n2_; (try clear hb); (try clear hk); (try clear hi)) | ((with_reducible refine gate_callee (f := 37) rfl ?_); refine goesL_ (some 11) rfl rfl Try.func37 (by kernel_rfl) rfl #[.pointer (some ⟨g, 0, none⟩), .int .i64 256] rfl q53_ ?_; (with_reducible refine (spec_l1Rd_below.calls g s0_0 t332 256 t339 t340 w0 _ ?side1 ?side2 A12.out).mono ?_); (case side1 => exact q108_); (case side2 => exact q105_); rintro e w14 ⟨rfl, hi, hb, hk⟩; refine ⟨_, rfl, ?_⟩; have n0_ := Aside0.mk (KeepBut.trans q52_ hk (.inl rfl)); have n1_ := Aside0.mk (hb); have n2_ := Aside0.mk (hi); clear HK; clear HB; clear HI0; have HK := n0_; have HB := n1_; have HI0 := n2_; clear n0_ n1_ n2_; (try clear hb); (try clear hk); (try clear hi)))
  go_ret
  exact ⟨q55_, q51_, q37_, q52_⟩
def spec_l1Rd_ins.j0 : Nat → List Int → Int → Int → Bool → Int → Option (Int × Bool × Int × Int)
 | 0, _, _, _, _, _ => none
 | k + 1, x1000, x1001, x347000, x347001, x347002 => (spec_l1Rd_once.f x1000 x1001 40).bind fun bt356 => (if bt356.1 = true then ((spec_l1Rd_off.f k x1000 bt356.2 0 255).bind fun bt358 => (some (x347000, x347001, bt358.1, bt358.2))) else (some (x347000, x347001, x347002, bt356.2)))
def spec_l1Rd_ins.f (k : Nat) (s0_0 : List Int) (s0_1 : Int) : Option (Int × Bool × Int × Int) := (spec_l1Rd_below.f s0_0 s0_1 256).bind fun bt342 => ((spec_l1Rd_once.f s0_0 bt342.2 4).bind fun bt344 => ((spec_l3Template.f k bt342.1 bt344.1).bind fun t347 => ((spec_l3Hole.f k t347).bind fun bt348 => (if bt348.2.toList = ([110, 49, 54] : List UInt8) then ((spec_l1Rd_below.f s0_0 bt344.2 65536).bind fun bt350 => (spec_l1Rd_ins.j0 k s0_0 bt350.2 bt342.1 bt344.1 bt350.1)) else (if bt348.2.toList = ([110, 56] : List UInt8) then ((spec_l1Rd_byte.f s0_0 bt344.2).bind fun bt352 => (spec_l1Rd_ins.j0 k s0_0 bt352.2 bt342.1 bt344.1 bt352.1)) else (if bt348.2.toList = ([101, 56] : List UInt8) then ((spec_l1Rd_byte.f s0_0 bt344.2).bind fun bt354 => (spec_l1Rd_ins.j0 k s0_0 bt354.2 bt342.1 bt344.1 bt354.1)) else (spec_l1Rd_ins.j0 k s0_0 bt344.2 bt342.1 bt344.1 0)))))))
theorem spec_l1Rd_ins.mono_l : ∀ k, (∀ y0 y1 y2 y3 y4, LeO (spec_l1Rd_ins.j0 k y0 y1 y2 y3 y4) (spec_l1Rd_ins.j0 (k + 1) y0 y1 y2 y3 y4))
 | 0 => fun _ _ _ _ _ r h => by simp [spec_l1Rd_ins.j0] at h
 | k + 1 => by
  have ih0 := spec_l1Rd_ins.mono_l k
  ·intro y0 y1 y2 y3 y4
   unfold spec_l1Rd_ins.j0
   repeat' first
   | (with_reducible first | exact ih0 _ _ _ _ _ | exact spec_l1Rd_off.mono _ _ _ _ _ | exact spec_l3Hole.mono _ _ | exact spec_l3Template.mono _ _ _ | exact LeO.refl _ | exact LeO.none _ | refine LeO.ite ?_ ?_ | refine LeO.bind ?_ (fun _ => ?_))
   | exact ih0 _ _ _ _ _
   | exact spec_l1Rd_off.mono _ _ _ _ _
   | exact spec_l3Hole.mono _ _
   | exact spec_l3Template.mono _ _ _
   | exact LeO.none _
   | refine LeO.ite ?_ ?_
   | refine LeO.bind ?_ (fun _ => ?_)
theorem spec_l1Rd_ins.mono : ∀ a0 a1 k, LeO (spec_l1Rd_ins.f k a0 a1) (spec_l1Rd_ins.f (k + 1) a0 a1) := by
 intro a0 a1 k
 have ih0 := spec_l1Rd_ins.mono_l k
 unfold spec_l1Rd_ins.f
 repeat' first
   | (with_reducible first | exact ih0 _ _ _ _ _ | exact spec_l1Rd_off.mono _ _ _ _ _ | exact spec_l3Hole.mono _ _ | exact spec_l3Template.mono _ _ _ | exact LeO.refl _ | exact LeO.none _ | refine LeO.ite ?_ ?_ | refine LeO.bind ?_ (fun _ => ?_))
   | exact ih0 _ _ _ _ _
   | exact spec_l1Rd_off.mono _ _ _ _ _
   | exact spec_l3Hole.mono _ _
   | exact spec_l3Template.mono _ _ _
   | exact LeO.none _
   | refine LeO.ite ?_ ?_
   | refine LeO.bind ?_ (fun _ => ?_)
theorem spec_l1Rd_ins.calls (k : Nat) (g : Nat) (s0_0 : List Int) (s0_1 : Int) (r1 : Int) (r2 : Bool) (r3 : Int) (r4 : Int) (w0 w : World) (hI : IsS78 w0 w g s0_0 s0_1) (hB : Below w0.heap.size w0 w) (h : spec_l1Rd_ins.f k s0_0 s0_1 = some (r1, r2, r3, r4)) :
  Calls Try.prog 88 #[.pointer (some ⟨g, 0, none⟩)] w fun e w' => e = .returned (.agg #[.int .i64 r1, .bool r2, .int .i64 r3]) ∧ IsS78 w0 w' g s0_0 r4 ∧ Below w0.heap.size w0 w' ∧ KeepBut w w' g none := by
 have hu85 := Try.underlying85
 have HI0 := Aside0.mk hI
 have HK := Aside0.mk (KeepBut.refl w g none)
 have HL := Aside0.mk hB.size
 clear hI
 have HW0 := Aside0.mk hB.size
 have HB := Aside0.mk hB
 clear hB
 have H : ((spec_l1Rd_below.f s0_0 s0_1 256).bind fun bt342 => ((spec_l1Rd_once.f s0_0 bt342.2 4).bind fun bt344 => ((spec_l3Template.f k bt342.1 bt344.1).bind fun t347 => ((spec_l3Hole.f k t347).bind fun bt348 => (if bt348.2.toList = ([110, 49, 54] : List UInt8) then ((spec_l1Rd_below.f s0_0 bt344.2 65536).bind fun bt350 => (spec_l1Rd_ins.j0 k s0_0 bt350.2 bt342.1 bt344.1 bt350.1)) else (if bt348.2.toList = ([110, 56] : List UInt8) then ((spec_l1Rd_byte.f s0_0 bt344.2).bind fun bt352 => (spec_l1Rd_ins.j0 k s0_0 bt352.2 bt342.1 bt344.1 bt352.1)) else (if bt348.2.toList = ([101, 56] : List UInt8) then ((spec_l1Rd_byte.f s0_0 bt344.2).bind fun bt354 => (spec_l1Rd_ins.j0 k s0_0 bt354.2 bt342.1 bt344.1 bt354.1)) else (spec_l1Rd_ins.j0 k s0_0 bt344.2 bt342.1 bt344.1 0)))))))) = some (r1, r2, r3, r4) := h
 clear h
 replace H := Option.bind_eq_some_iff.mp H
 obtain ⟨⟨t342, t343⟩, A20, H⟩ := H
 replace H : ((spec_l1Rd_once.f s0_0 t343 4).bind fun bt344 => ((spec_l3Template.f k t342 bt344.1).bind fun t347 => ((spec_l3Hole.f k t347).bind fun bt348 => (if bt348.2.toList = ([110, 49, 54] : List UInt8) then ((spec_l1Rd_below.f s0_0 bt344.2 65536).bind fun bt350 => (spec_l1Rd_ins.j0 k s0_0 bt350.2 t342 bt344.1 bt350.1)) else (if bt348.2.toList = ([110, 56] : List UInt8) then ((spec_l1Rd_byte.f s0_0 bt344.2).bind fun bt352 => (spec_l1Rd_ins.j0 k s0_0 bt352.2 t342 bt344.1 bt352.1)) else (if bt348.2.toList = ([101, 56] : List UInt8) then ((spec_l1Rd_byte.f s0_0 bt344.2).bind fun bt354 => (spec_l1Rd_ins.j0 k s0_0 bt354.2 t342 bt344.1 bt354.1)) else (spec_l1Rd_ins.j0 k s0_0 bt344.2 t342 bt344.1 0))))))) = some (r1, r2, r3, r4) := H
 have A2 := Aside0.mk A20
 clear A20
 replace H := Option.bind_eq_some_iff.mp H
 obtain ⟨⟨t344, t345⟩, A30, H⟩ := H
 replace H : ((spec_l3Template.f k t342 t344).bind fun t347 => ((spec_l3Hole.f k t347).bind fun bt348 => (if bt348.2.toList = ([110, 49, 54] : List UInt8) then ((spec_l1Rd_below.f s0_0 t345 65536).bind fun bt350 => (spec_l1Rd_ins.j0 k s0_0 bt350.2 t342 t344 bt350.1)) else (if bt348.2.toList = ([110, 56] : List UInt8) then ((spec_l1Rd_byte.f s0_0 t345).bind fun bt352 => (spec_l1Rd_ins.j0 k s0_0 bt352.2 t342 t344 bt352.1)) else (if bt348.2.toList = ([101, 56] : List UInt8) then ((spec_l1Rd_byte.f s0_0 t345).bind fun bt354 => (spec_l1Rd_ins.j0 k s0_0 bt354.2 t342 t344 bt354.1)) else (spec_l1Rd_ins.j0 k s0_0 t345 t342 t344 0)))))) = some (r1, r2, r3, r4) := H
 have A3 := Aside0.mk A30
 clear A30
 replace H := Option.bind_eq_some_iff.mp H
 obtain ⟨t347, A40, H⟩ := H
 have A4 := Aside0.mk A40
 clear A40
 replace H := Option.bind_eq_some_iff.mp H
 obtain ⟨⟨t348, t349⟩, A50, H⟩ := H
 replace H : (if t349.toList = ([110, 49, 54] : List UInt8) then ((spec_l1Rd_below.f s0_0 t345 65536).bind fun bt350 => (spec_l1Rd_ins.j0 k s0_0 bt350.2 t342 t344 bt350.1)) else (if t349.toList = ([110, 56] : List UInt8) then ((spec_l1Rd_byte.f s0_0 t345).bind fun bt352 => (spec_l1Rd_ins.j0 k s0_0 bt352.2 t342 t344 bt352.1)) else (if t349.toList = ([101, 56] : List UInt8) then ((spec_l1Rd_byte.f s0_0 t345).bind fun bt354 => (spec_l1Rd_ins.j0 k s0_0 bt354.2 t342 t344 bt354.1)) else (spec_l1Rd_ins.j0 k s0_0 t345 t342 t344 0)))) = some (r1, r2, r3, r4) := H
 have A5 := Aside0.mk A50
 clear A50
 have HC6 := Aside0.mk H
 clear H
 go_enter Try.func88, Try.ntmps88
 go_upto_block 0 with (first | ((with_reducible refine gate_dst (N := 2) rfl ?_); refine box_event ?hg (N := 2) ?hd (cs := #[.int .i64 0, .bool false, .int .i64 0]) (t := 85) ?hr ?_; (case hd => rfl); (case hg => rfl); (case hr => exact q109_); intro gb341 hg w7 hbox hb; have n0_ := Aside0.mk (IsS78.below q51_ hb); have n1_ := Aside0.mk (KeepBut.trans q52_ (KeepBut.of_below hb g none) (.inl rfl)); have n2_ := Aside0.mk (below_step q37_ hb); have n3_ := Aside0.mk (hbox); have n4_ := Aside0.mk ((q25_ : w.heap.size ≤ gb341)); have n5_ := Aside0.mk ((Nat.le_trans HW0.out (q25_ : w.heap.size ≤ gb341) : w0.heap.size ≤ gb341)); have n6_ := Aside0.mk ((q19_ : g ≠ gb341)); have n7_ := Aside0.mk ((q20_ : gb341 ≠ g)); clear HI0; clear HK; clear HB; have HI0 := n0_; have HK := n1_; have HB := n2_; have BK341 := n3_; have GW341 := n4_; have GE341 := n5_; have NB0_341 := n6_; have NB341_0 := n7_; clear n0_ n1_ n2_ n3_ n4_ n5_ n6_ n7_; clear hb hbox hg) | ((with_reducible refine gate_callee (f := 37) rfl ?_); refine goesL_ (some 7) rfl rfl Try.func37 (by kernel_rfl) rfl #[.pointer (some ⟨g, 0, none⟩), .int .i64 256] rfl q53_ ?_; (with_reducible refine (spec_l1Rd_below.calls g s0_0 s0_1 256 t342 t343 w0 _ ?side1 ?side2 A2.out).mono ?_); (case side1 => exact q103_); (case side2 => exact q102_); rintro e w8 ⟨rfl, hi, hb, hk⟩; refine ⟨_, rfl, ?_⟩; have n0_ := Aside0.mk (KeepBut.blk hk (g' := gb341) (o := .cells #[.int .i64 0, .bool false, .int .i64 0] 85 (0, 0)) q64_ NB341_0.out (by simp)); have n1_ := Aside0.mk (KeepBut.trans q35_ hk (.inl rfl)); have n2_ := Aside0.mk (hb); have n3_ := Aside0.mk (hi); clear BK341; clear HK; clear HB; clear HI0; have BK341 := n0_; have HK := n1_; have HB := n2_; have HI0 := n3_; clear n0_ n1_ n2_ n3_; (try clear hb); (try clear hk); (try clear hi)) | ((with_reducible refine gate_callee (f := 56) rfl ?_); refine goesL_ (some 9) rfl rfl Try.func56 (by kernel_rfl) rfl #[.pointer (some ⟨g, 0, none⟩), .int .i64 4] rfl q53_ ?_; (with_reducible refine (spec_l1Rd_once.calls g s0_0 t343 4 t344 t345 w0 _ ?side1 ?side2 A3.out).mono ?_); (case side1 => exact q103_); (case side2 => exact q102_); rintro e w9 ⟨rfl, hi, hb, hk⟩; refine ⟨_, rfl, ?_⟩; have n0_ := Aside0.mk (KeepBut.blk hk (g' := gb341) (o := .cells #[.int .i64 0, .bool false, .int .i64 0] 85 (0, 0)) q64_ NB341_0.out (by simp)); have n1_ := Aside0.mk (KeepBut.trans q35_ hk (.inl rfl)); have n2_ := Aside0.mk (hb); have n3_ := Aside0.mk (hi); clear BK341; clear HK; clear HB; clear HI0; have BK341 := n0_; have HK := n1_; have HB := n2_; have HI0 := n3_; clear n0_ n1_ n2_ n3_; (try clear hb); (try clear hk); (try clear hi)) | ((with_reducible refine gate_dst (N := 3) rfl ?_); refine box_event ?hg (N := 3) ?hd (cs := #[.int .i64 0, .bool false, .int .i64 0]) (t := 85) ?hr ?_; (case hd => rfl); (case hg => rfl); (case hr => exact q109_); intro gb346 hg w10 hbox hb; have n0_ := Aside0.mk (IsS78.below (by repeat (first | (with_reducible first | exact HI0.out | apply IsS78.alloc | apply IsS78.drewN | apply IsS78.drew | apply IsS78.set_1 | refine IsS78.far ?_ NB0_341.out _) | exact HI0.out)) hb); have n1_ := Aside0.mk (blk_below (g := gb341) (o := .cells #[.int .i64 0, .bool false, .int .i64 0] 85 (0, 0)) q64_ hb); have n2_ := Aside0.mk (KeepBut.trans q35_ (KeepBut.of_below hb g none) (.inl rfl)); have n3_ := Aside0.mk (below_step (by repeat (first | (with_reducible first | exact HB.out | apply below_alloc | apply pw_below_drewN | apply below_drew1 | refine below_set ?_ (IsS78.ge HI0.out) | refine below_set ?_ GE341.out) | exact HB.out)) hb); have n4_ := Aside0.mk (hbox); have n5_ := Aside0.mk ((q15_ : w.heap.size ≤ gb346)); have n6_ := Aside0.mk ((Nat.le_trans HW0.out (q15_ : w.heap.size ≤ gb346) : w0.heap.size ≤ gb346)); have n7_ := Aside0.mk ((by rw [hg]; exact Nat.ne_of_lt (blk_lt (g := gb341) (o := .cells #[.int .i64 0, .bool false, .int .i64 0] 85 (0, 0)) q64_) : gb341 ≠ gb346)); have n8_ := Aside0.mk ((by rw [hg]; exact Nat.ne_of_gt (blk_lt (g := gb341) (o := .cells #[.int .i64 0, .bool false, .int .i64 0] 85 (0, 0)) q64_) : gb346 ≠ gb341)); have n9_ := Aside0.mk ((by rw [hg]; exact Nat.ne_of_lt (IsS78.lt (show IsS78 w0 _ g s0_0 t345 from by repeat (first | (with_reducible first | exact HI0.out | apply IsS78.alloc | apply IsS78.drewN | apply IsS78.drew | apply IsS78.set_1 | refine IsS78.far ?_ NB0_341.out _) | exact HI0.out))) : g ≠ gb346)); have n10_ := Aside0.mk ((by rw [hg]; exact Nat.ne_of_gt (IsS78.lt (show IsS78 w0 _ g s0_0 t345 from by repeat (first | (with_reducible first | exact HI0.out | apply IsS78.alloc | apply IsS78.drewN | apply IsS78.drew | apply IsS78.set_1 | refine IsS78.far ?_ NB0_341.out _) | exact HI0.out))) : gb346 ≠ g)); clear HI0; clear BK341; clear HK; clear HB; have HI0 := n0_; have BK341 := n1_; have HK := n2_; have HB := n3_; have BK346 := n4_; have GW346 := n5_; have GE346 := n6_; have NB341_346 := n7_; have NB346_341 := n8_; have NB0_346 := n9_; have NB346_0 := n10_; clear n0_ n1_ n2_ n3_ n4_ n5_ n6_ n7_ n8_ n9_ n10_; clear hb hbox hg; have hnb11 := NB346_341.out; have hnc11 := NB341_346.out; have hnb12 := NB346_0.out; have hnc12 := NB0_346.out; have hcz13_0 : w10.cell? ⟨gb346, 0, none⟩ = some (.int .i64 0) := (blk_cell BK346.out 0).trans rfl; have hcz13_1 : w10.cell? ⟨gb346, 1, none⟩ = some (.bool false) := (blk_cell BK346.out 1).trans rfl; have hcz13_2 : w10.cell? ⟨gb346, 2, none⟩ = some (.int .i64 0) := (blk_cell BK346.out 2).trans rfl; have hfz13_0 := blk_frozen BK346.out 0; have hfz13_1 := blk_frozen BK346.out 1; have hfz13_2 := blk_frozen BK346.out 2) | ((with_reducible refine gate_callee (f := 94) rfl ?_); refine goesL_ (some 16) rfl rfl Try.func94 (by kernel_rfl) rfl #[.int .i64 t342, .bool t344] rfl q53_ ?_; (with_reducible refine (spec_l3Template.calls k t342 t344 t347 _ A4.out).mono ?_); rintro e w14 ⟨rfl, hb⟩; refine ⟨_, rfl, ?_⟩; have n0_ := Aside0.mk (IsS78.below (show IsS78 w0 (((w10.setCell ⟨gb346, 0, none⟩ (.int .i64 t342)).setCell ⟨gb346, 1, none⟩ (.bool t344)).setCell ⟨gb346, 2, none⟩ (.int .i64 0)) g s0_0 t345 from by repeat (first | (with_reducible first | exact HI0.out | apply IsS78.alloc | apply IsS78.drewN | apply IsS78.drew | apply IsS78.set_1 | refine IsS78.far ?_ NB0_341.out _ | refine IsS78.far ?_ NB0_346.out _) | exact HI0.out)) hb); have n1_ := Aside0.mk (blk_below (g := gb341) (o := .cells #[.int .i64 0, .bool false, .int .i64 0] 85 (0, 0)) (by (with_reducible repeat (first | refine blk_drewN ?_ _ | refine blk_drew ?_ | refine blk_alloc ?_ _)); refine blk_far ?_ NB341_346.out _; (with_reducible repeat (first | refine blk_drewN ?_ _ | refine blk_drew ?_ | refine blk_alloc ?_ _)); refine blk_far ?_ NB341_346.out _; (with_reducible repeat (first | refine blk_drewN ?_ _ | refine blk_drew ?_ | refine blk_alloc ?_ _)); refine blk_far ?_ NB341_346.out _; (with_reducible repeat (first | refine blk_drewN ?_ _ | refine blk_drew ?_ | refine blk_alloc ?_ _)); exact BK341.out) hb); have n2_ := Aside0.mk (blk_below (g := gb346) (o := .cells #[.int .i64 t342, .bool t344, .int .i64 0] 85 (0, 0)) (by (with_reducible repeat (first | refine blk_drewN ?_ _ | refine blk_drew ?_ | refine blk_alloc ?_ _)); refine blk_put (cs := #[.int .i64 t342, .bool t344, .int .i64 0]) ?_ 2 _ rfl; (with_reducible repeat (first | refine blk_drewN ?_ _ | refine blk_drew ?_ | refine blk_alloc ?_ _)); refine blk_put (cs := #[.int .i64 t342, .bool false, .int .i64 0]) ?_ 1 _ rfl; (with_reducible repeat (first | refine blk_drewN ?_ _ | refine blk_drew ?_ | refine blk_alloc ?_ _)); refine blk_put (cs := #[.int .i64 0, .bool false, .int .i64 0]) ?_ 0 _ rfl; (with_reducible repeat (first | refine blk_drewN ?_ _ | refine blk_drew ?_ | refine blk_alloc ?_ _)); exact BK346.out) hb); have n3_ := Aside0.mk (KeepBut.trans q23_ (KeepBut.of_below hb g none) (.inl rfl)); have n4_ := Aside0.mk (below_step q17_ hb); clear HI0; clear BK341; clear BK346; clear HK; clear HB; have HI0 := n0_; have BK341 := n1_; have BK346 := n2_; have HK := n3_; have HB := n4_; clear n0_ n1_ n2_ n3_ n4_; (try clear hb)) | ((with_reducible refine gate_callee (f := 93) rfl ?_); refine goesL_ (some 17) rfl rfl Try.func93 (by kernel_rfl) rfl #[.string t347] rfl q53_ ?_; (with_reducible refine (spec_l3Hole.calls k t347 t348 t349 _ A5.out).mono ?_); rintro e w15 ⟨rfl, hb⟩; refine ⟨_, rfl, ?_⟩; have n0_ := Aside0.mk (IsS78.below q21_ hb); have n1_ := Aside0.mk (blk_below (g := gb341) (o := .cells #[.int .i64 0, .bool false, .int .i64 0] 85 (0, 0)) q64_ hb); have n2_ := Aside0.mk (blk_below (g := gb346) (o := .cells #[.int .i64 t342, .bool t344, .int .i64 0] 85 (0, 0)) q65_ hb); have n3_ := Aside0.mk (KeepBut.trans q23_ (KeepBut.of_below hb g none) (.inl rfl)); have n4_ := Aside0.mk (below_step q17_ hb); clear HI0; clear BK341; clear BK346; clear HK; clear HB; have HI0 := n0_; have BK341 := n1_; have BK346 := n2_; have HK := n3_; have HB := n4_; clear n0_ n1_ n2_ n3_ n4_; (try clear hb)))
 (try simp only [Act.put, List.setIfInBounds_toArray, List.set_cons_zero, List.set_cons_succ])
 go_cut [] (fun wc => ∃ (kq : Nat) (x1001_5 : Int) (x347002_5 : Int), Aside0 (spec_l1Rd_ins.j0 kq s0_0 x1001_5 t342 t344 x347002_5 = some (r1, r2, r3, r4)) ∧ Aside0 (kq ≤ k) ∧ Aside0 (wc.heap[gb341]? = some (.cells #[.int .i64 0, .bool false, .int .i64 0] 85 (0, 0))) ∧ Aside0 (wc.heap[gb346]? = some (.cells #[.int .i64 t342, .bool t344, .int .i64 x347002_5] 85 (0, 0))) ∧ Aside0 (IsS78 w0 wc g s0_0 x1001_5) ∧ Aside0 (KeepBut w wc g none) ∧ Aside0 (Below w0.heap.size w0 wc))
 case first =>
  have H := HC6.out
  clear HC6
  by_cases c16 : t349.toList = ([110, 49, 54] : List UInt8)
  ·rw [if_pos c16] at H
   have c16b0 : (t349.toList == ([110, 49, 54] : List UInt8)) = true := beq_iff_eq.mpr c16
   have c16b1 : (t349.toList != ([110, 49, 54] : List UInt8)) = false := bne_eq_false_iff_eq.mpr c16
   clear c16
   (first | rw [c16b0] | (simp only [i64_w, i32_w]; rw [c16b0]) | skip)
   replace H := Option.bind_eq_some_iff.mp H
   obtain ⟨⟨t350, t351⟩, A170, H⟩ := H
   replace H : (spec_l1Rd_ins.j0 k s0_0 t351 t342 t344 t350) = some (r1, r2, r3, r4) := H
   have A17 := Aside0.mk A170
   clear A170
   have H' := Aside0.mk H
   clear H
   go_wp2_with (first | ((with_reducible refine gate_callee (f := 37) rfl ?_); refine goesL_ (some 24) rfl rfl Try.func37 (by kernel_rfl) rfl #[.pointer (some ⟨g, 0, none⟩), .int .i64 65536] rfl q53_ ?_; (with_reducible refine (spec_l1Rd_below.calls g s0_0 t345 65536 t350 t351 w0 _ ?side1 ?side2 A17.out).mono ?_); (case side1 => exact q100_); (case side2 => exact q98_); rintro e w18 ⟨rfl, hi, hb, hk⟩; refine ⟨_, rfl, ?_⟩; have n0_ := Aside0.mk (KeepBut.blk hk (g' := gb341) (o := .cells #[.int .i64 0, .bool false, .int .i64 0] 85 (0, 0)) q64_ NB341_0.out (by simp)); have n1_ := Aside0.mk (KeepBut.blk hk (g' := gb346) (o := .cells #[.int .i64 t342, .bool t344, .int .i64 0] 85 (0, 0)) q65_ NB346_0.out (by simp)); have n2_ := Aside0.mk (KeepBut.trans q23_ hk (.inl rfl)); have n3_ := Aside0.mk (hb); have n4_ := Aside0.mk (hi); clear BK341; clear BK346; clear HK; clear HB; clear HI0; have BK341 := n0_; have BK346 := n1_; have HK := n2_; have HB := n3_; have HI0 := n4_; clear n0_ n1_ n2_ n3_ n4_; (try clear hb); (try clear hk); (try clear hi); have hnb19 := NB346_341.out; have hnc19 := NB341_346.out; have hnb20 := NB346_0.out; have hnc20 := NB0_346.out; have hcz21_0 : w18.cell? ⟨gb346, 0, none⟩ = some (.int .i64 t342) := (blk_cell BK346.out 0).trans rfl; have hcz21_1 : w18.cell? ⟨gb346, 1, none⟩ = some (.bool t344) := (blk_cell BK346.out 1).trans rfl; have hcz21_2 : w18.cell? ⟨gb346, 2, none⟩ = some (.int .i64 0) := (blk_cell BK346.out 2).trans rfl; have hfz21_0 := blk_frozen BK346.out 0; have hfz21_1 := blk_frozen BK346.out 1; have hfz21_2 := blk_frozen BK346.out 2))
   go_meet
   case rel => exact ⟨_, (t351), (t350), H', ⟨q94_⟩, ⟨q14_⟩, ⟨q13_⟩, ⟨q21_⟩, ⟨q23_⟩, ⟨q17_⟩⟩
  ·rw [if_neg c16] at H
   have c16b0 : (t349.toList == ([110, 49, 54] : List UInt8)) = false := beq_eq_false_iff_ne.mpr c16
   have c16b1 : (t349.toList != ([110, 49, 54] : List UInt8)) = true := bne_iff_ne.mpr c16
   (first | rw [c16b0] | (simp only [i64_w, i32_w]; rw [c16b0]) | skip)
   by_cases c22 : t349.toList = ([110, 56] : List UInt8)
   ·rw [if_pos c22] at H
    have c22b0 : (t349.toList == ([110, 56] : List UInt8)) = true := beq_iff_eq.mpr c22
    have c22b1 : (t349.toList != ([110, 56] : List UInt8)) = false := bne_eq_false_iff_eq.mpr c22
    clear c22
    replace H := Option.bind_eq_some_iff.mp H
    obtain ⟨⟨t352, t353⟩, A230, H⟩ := H
    replace H : (spec_l1Rd_ins.j0 k s0_0 t353 t342 t344 t352) = some (r1, r2, r3, r4) := H
    have A23 := Aside0.mk A230
    clear A230
    have H' := Aside0.mk H
    clear H
    go_wp2_with (first | ((with_reducible refine gate_callee (f := 58) rfl ?_); refine goesL_ (some 30) rfl rfl Try.func58 (by kernel_rfl) rfl #[.pointer (some ⟨g, 0, none⟩)] rfl q53_ ?_; (with_reducible refine (spec_l1Rd_byte.calls g s0_0 t345 t352 t353 w0 _ ?side1 ?side2 A23.out).mono ?_); (case side1 => exact q100_); (case side2 => exact q98_); rintro e w24 ⟨rfl, hi, hb, hk⟩; refine ⟨_, rfl, ?_⟩; have n0_ := Aside0.mk (KeepBut.blk hk (g' := gb341) (o := .cells #[.int .i64 0, .bool false, .int .i64 0] 85 (0, 0)) q64_ NB341_0.out (by simp)); have n1_ := Aside0.mk (KeepBut.blk hk (g' := gb346) (o := .cells #[.int .i64 t342, .bool t344, .int .i64 0] 85 (0, 0)) q65_ NB346_0.out (by simp)); have n2_ := Aside0.mk (KeepBut.trans q23_ hk (.inl rfl)); have n3_ := Aside0.mk (hb); have n4_ := Aside0.mk (hi); clear BK341; clear BK346; clear HK; clear HB; clear HI0; have BK341 := n0_; have BK346 := n1_; have HK := n2_; have HB := n3_; have HI0 := n4_; clear n0_ n1_ n2_ n3_ n4_; (try clear hb); (try clear hk); (try clear hi); have hnb25 := NB346_341.out; have hnc25 := NB341_346.out; have hnb26 := NB346_0.out; have hnc26 := NB0_346.out; have hcz27_0 : w24.cell? ⟨gb346, 0, none⟩ = some (.int .i64 t342) := (blk_cell BK346.out 0).trans rfl; have hcz27_1 : w24.cell? ⟨gb346, 1, none⟩ = some (.bool t344) := (blk_cell BK346.out 1).trans rfl; have hcz27_2 : w24.cell? ⟨gb346, 2, none⟩ = some (.int .i64 0) := (blk_cell BK346.out 2).trans rfl; have hfz27_0 := blk_frozen BK346.out 0; have hfz27_1 := blk_frozen BK346.out 1; have hfz27_2 := blk_frozen BK346.out 2))
    go_meet
    case rel => exact ⟨_, (t353), (t352), H', ⟨q94_⟩, ⟨q14_⟩, ⟨q13_⟩, ⟨q21_⟩, ⟨q23_⟩, ⟨q17_⟩⟩
   ·rw [if_neg c22] at H
    have c22b0 : (t349.toList == ([110, 56] : List UInt8)) = false := beq_eq_false_iff_ne.mpr c22
    have c22b1 : (t349.toList != ([110, 56] : List UInt8)) = true := bne_iff_ne.mpr c22
    by_cases c28 : t349.toList = ([101, 56] : List UInt8)
    ·rw [if_pos c28] at H
     have c28b0 : (t349.toList == ([101, 56] : List UInt8)) = true := beq_iff_eq.mpr c28
     have c28b1 : (t349.toList != ([101, 56] : List UInt8)) = false := bne_eq_false_iff_eq.mpr c28
     clear c28
     replace H := Option.bind_eq_some_iff.mp H
     obtain ⟨⟨t354, t355⟩, A290, H⟩ := H
     replace H : (spec_l1Rd_ins.j0 k s0_0 t355 t342 t344 t354) = some (r1, r2, r3, r4) := H
     have A29 := Aside0.mk A290
     clear A290
     have H' := Aside0.mk H
     clear H
     go_wp2_with (first | ((with_reducible refine gate_callee (f := 58) rfl ?_); refine goesL_ (some 30) rfl rfl Try.func58 (by kernel_rfl) rfl #[.pointer (some ⟨g, 0, none⟩)] rfl q53_ ?_; (with_reducible refine (spec_l1Rd_byte.calls g s0_0 t345 t354 t355 w0 _ ?side1 ?side2 A29.out).mono ?_); (case side1 => exact q100_); (case side2 => exact q98_); rintro e w30 ⟨rfl, hi, hb, hk⟩; refine ⟨_, rfl, ?_⟩; have n0_ := Aside0.mk (KeepBut.blk hk (g' := gb341) (o := .cells #[.int .i64 0, .bool false, .int .i64 0] 85 (0, 0)) q64_ NB341_0.out (by simp)); have n1_ := Aside0.mk (KeepBut.blk hk (g' := gb346) (o := .cells #[.int .i64 t342, .bool t344, .int .i64 0] 85 (0, 0)) q65_ NB346_0.out (by simp)); have n2_ := Aside0.mk (KeepBut.trans q23_ hk (.inl rfl)); have n3_ := Aside0.mk (hb); have n4_ := Aside0.mk (hi); clear BK341; clear BK346; clear HK; clear HB; clear HI0; have BK341 := n0_; have BK346 := n1_; have HK := n2_; have HB := n3_; have HI0 := n4_; clear n0_ n1_ n2_ n3_ n4_; (try clear hb); (try clear hk); (try clear hi); have hnb31 := NB346_341.out; have hnc31 := NB341_346.out; have hnb32 := NB346_0.out; have hnc32 := NB0_346.out; have hcz33_0 : w30.cell? ⟨gb346, 0, none⟩ = some (.int .i64 t342) := (blk_cell BK346.out 0).trans rfl; have hcz33_1 : w30.cell? ⟨gb346, 1, none⟩ = some (.bool t344) := (blk_cell BK346.out 1).trans rfl; have hcz33_2 : w30.cell? ⟨gb346, 2, none⟩ = some (.int .i64 0) := (blk_cell BK346.out 2).trans rfl; have hfz33_0 := blk_frozen BK346.out 0; have hfz33_1 := blk_frozen BK346.out 1; have hfz33_2 := blk_frozen BK346.out 2))
     go_meet
     case rel => exact ⟨_, (t355), (t354), H', ⟨q94_⟩, ⟨q14_⟩, ⟨q13_⟩, ⟨q21_⟩, ⟨q23_⟩, ⟨q17_⟩⟩
    ·rw [if_neg c28] at H
     have c28b0 : (t349.toList == ([101, 56] : List UInt8)) = false := beq_eq_false_iff_ne.mpr c28
     have c28b1 : (t349.toList != ([101, 56] : List UInt8)) = true := bne_iff_ne.mpr c28
     have H' := Aside0.mk H
     clear H
     go_wp2
     go_meet
     case rel => exact ⟨_, (t345), (0), H', ⟨q94_⟩, ⟨q64_⟩, ⟨q65_⟩, ⟨q21_⟩, ⟨q23_⟩, ⟨q17_⟩⟩
 case rest =>
  clear HC6
  try clear c1
  try clear c2
  try clear p2
  try clear c3
  try clear c5
  try clear c8
  try clear c9
  try clear c11
  try clear c12
  try clear c16
  try clear c16b0
  try clear c16b1
  try clear c19
  try clear c20
  try clear c22
  try clear c22b0
  try clear c22b1
  try clear c25
  try clear c26
  try clear c28
  try clear c28b0
  try clear c28b1
  try clear c31
  try clear c32
  try clear hcz13_0 hcz13_1 hcz13_2
  try clear hcz21_0 hcz21_1 hcz21_2
  try clear hcz27_0 hcz27_1 hcz27_2
  try clear hcz33_0 hcz33_1 hcz33_2
  try clear hfz13_0 hfz13_1 hfz13_2
  try clear hfz21_0 hfz21_1 hfz21_2
  try clear hfz27_0 hfz27_1 hfz27_2
  try clear hfz33_0 hfz33_1 hfz33_2
  obtain ⟨kq, x1001_5, x347002_5, HA, HJ5, BK341, BK346, HI0, HK, HB⟩ := hcut
  cases kq with
  | zero => exact absurd HA.out (by simp [spec_l1Rd_ins.j0])
  | succ kj5 =>
   have H := HA.out
   clear HA
   simp only [spec_l1Rd_ins.j0] at H
   replace H := Option.bind_eq_some_iff.mp H
   obtain ⟨⟨t356, t357⟩, A340, H⟩ := H
   replace H : (if t356 = true then ((spec_l1Rd_off.f kj5 s0_0 t357 0 255).bind fun bt358 => (some (t342, t344, bt358.1, bt358.2))) else (some (t342, t344, x347002_5, t357))) = some (r1, r2, r3, r4) := H
   have A34 := Aside0.mk A340
   clear A340
   by_cases c35 : t356 = true
   ·subst c35
    replace H : ((spec_l1Rd_off.f kj5 s0_0 t357 0 255).bind fun bt358 => (some (t342, t344, bt358.1, bt358.2))) = some (r1, r2, r3, r4) := by rw [if_pos rfl] at H; exact H
    replace H := Option.bind_eq_some_iff.mp H
    obtain ⟨⟨t358, t359⟩, A360, H⟩ := H
    replace H : (some (t342, t344, t358, t359)) = some (r1, r2, r3, r4) := H
    have A36 := Aside0.mk A360
    clear A360
    simp only [Option.some.injEq, Prod.mk.injEq] at H
    obtain ⟨rfl, rfl, rfl, rfl⟩ := H
    go_wp2_with (first | ((with_reducible refine gate_callee (f := 56) rfl ?_); refine goesL_ (some 33) rfl rfl Try.func56 (by kernel_rfl) rfl #[.pointer (some ⟨g, 0, none⟩), .int .i64 40] rfl q53_ ?_; (with_reducible refine (spec_l1Rd_once.calls g s0_0 x1001_5 40 true t357 w0 _ ?side1 ?side2 A34.out).mono ?_); (case side1 => exact q100_); (case side2 => exact q98_); rintro e w37 ⟨rfl, hi, hb, hk⟩; refine ⟨_, rfl, ?_⟩; have n0_ := Aside0.mk (KeepBut.blk hk (g' := gb341) (o := .cells #[.int .i64 0, .bool false, .int .i64 0] 85 (0, 0)) q64_ NB341_0.out (by simp)); have n1_ := Aside0.mk (KeepBut.blk hk (g' := gb346) (o := .cells #[.int .i64 t342, .bool t344, .int .i64 x347002_5] 85 (0, 0)) q65_ NB346_0.out (by simp)); have n2_ := Aside0.mk (KeepBut.trans q23_ hk (.inl rfl)); have n3_ := Aside0.mk (hb); have n4_ := Aside0.mk (hi); clear BK341; clear BK346; clear HK; clear HB; clear HI0; have BK341 := n0_; have BK346 := n1_; have HK := n2_; have HB := n3_; have HI0 := n4_; clear n0_ n1_ n2_ n3_ n4_; (try clear hb); (try clear hk); (try clear hi)) | ((with_reducible refine gate_callee (f := 57) rfl ?_); refine goesL_ (some 35) rfl rfl Try.func57 (by kernel_rfl) rfl #[.pointer (some ⟨g, 0, none⟩), .int .i64 0, .int .i64 255] rfl q53_ ?_; (with_reducible refine (spec_l1Rd_off.calls kj5 g s0_0 t357 0 255 t358 t359 w0 _ ?side1 ?side2 A36.out).mono ?_); (case side1 => exact q100_); (case side2 => exact q98_); rintro e w38 ⟨rfl, hi, hb, hk⟩; refine ⟨_, rfl, ?_⟩; have n0_ := Aside0.mk (KeepBut.blk hk (g' := gb341) (o := .cells #[.int .i64 0, .bool false, .int .i64 0] 85 (0, 0)) q64_ NB341_0.out (by simp)); have n1_ := Aside0.mk (KeepBut.blk hk (g' := gb346) (o := .cells #[.int .i64 t342, .bool t344, .int .i64 x347002_5] 85 (0, 0)) q65_ NB346_0.out (by simp)); have n2_ := Aside0.mk (KeepBut.trans q23_ hk (.inl rfl)); have n3_ := Aside0.mk (hb); have n4_ := Aside0.mk (hi); clear BK341; clear BK346; clear HK; clear HB; clear HI0; have BK341 := n0_; have BK346 := n1_; have HK := n2_; have HB := n3_; have HI0 := n4_; clear n0_ n1_ n2_ n3_ n4_; (try clear hb); (try clear hk); (try clear hi); have hnb39 := NB346_341.out; have hnc39 := NB341_346.out; have hnb40 := NB346_0.out; have hnc40 := NB0_346.out; have hcz41_0 : w38.cell? ⟨gb346, 0, none⟩ = some (.int .i64 t342) := (blk_cell BK346.out 0).trans rfl; have hcz41_1 : w38.cell? ⟨gb346, 1, none⟩ = some (.bool t344) := (blk_cell BK346.out 1).trans rfl; have hcz41_2 : w38.cell? ⟨gb346, 2, none⟩ = some (.int .i64 x347002_5) := (blk_cell BK346.out 2).trans rfl; have hfz41_0 := blk_frozen BK346.out 0; have hfz41_1 := blk_frozen BK346.out 1; have hfz41_2 := blk_frozen BK346.out 2; have hnb42 := NB341_0.out; have hnc42 := NB0_341.out; have hcz43_0 : w38.cell? ⟨gb341, 0, none⟩ = some (.int .i64 0) := (blk_cell BK341.out 0).trans rfl; have hcz43_1 : w38.cell? ⟨gb341, 1, none⟩ = some (.bool false) := (blk_cell BK341.out 1).trans rfl; have hcz43_2 : w38.cell? ⟨gb341, 2, none⟩ = some (.int .i64 0) := (blk_cell BK341.out 2).trans rfl; have hfz43_0 := blk_frozen BK341.out 0; have hfz43_1 := blk_frozen BK341.out 1; have hfz43_2 := blk_frozen BK341.out 2))
    refine bodyPost_ret (results_cell_row rfl _ _ gb341 85 #[.int .i64 t342, .bool t344, .int .i64 t358] (0, 0) _ rfl (by (with_reducible repeat (first | refine blk_drewN ?_ _ | refine blk_drew ?_ | refine blk_alloc ?_ _)); refine blk_put (cs := #[.int .i64 t342, .bool t344, .int .i64 0]) ?_ 2 _ rfl; (with_reducible repeat (first | refine blk_drewN ?_ _ | refine blk_drew ?_ | refine blk_alloc ?_ _)); refine blk_put (cs := #[.int .i64 t342, .bool false, .int .i64 0]) ?_ 1 _ rfl; (with_reducible repeat (first | refine blk_drewN ?_ _ | refine blk_drew ?_ | refine blk_alloc ?_ _)); refine blk_put (cs := #[.int .i64 0, .bool false, .int .i64 0]) ?_ 0 _ rfl; (with_reducible repeat (first | refine blk_drewN ?_ _ | refine blk_drew ?_ | refine blk_alloc ?_ _)); refine blk_far ?_ NB341_346.out _; (with_reducible repeat (first | refine blk_drewN ?_ _ | refine blk_drew ?_ | refine blk_alloc ?_ _)); exact BK341.out) Try.underlying85 rfl (by kernel_rfl)) rfl ?_
    exact ⟨q55_, q21_, q17_, q23_⟩
   ·replace c35 := Bool.eq_false_iff.mpr c35
    subst c35
    replace H : (some (t342, t344, x347002_5, t357)) = some (r1, r2, r3, r4) := by rw [if_neg (show ¬ (false = true) by decide)] at H; exact H
    simp only [Option.some.injEq, Prod.mk.injEq] at H
    obtain ⟨rfl, rfl, rfl, rfl⟩ := H
    go_wp2_with (first | ((with_reducible refine gate_callee (f := 56) rfl ?_); refine goesL_ (some 33) rfl rfl Try.func56 (by kernel_rfl) rfl #[.pointer (some ⟨g, 0, none⟩), .int .i64 40] rfl q53_ ?_; (with_reducible refine (spec_l1Rd_once.calls g s0_0 x1001_5 40 false t357 w0 _ ?side1 ?side2 A34.out).mono ?_); (case side1 => exact q100_); (case side2 => exact q98_); rintro e w44 ⟨rfl, hi, hb, hk⟩; refine ⟨_, rfl, ?_⟩; have n0_ := Aside0.mk (KeepBut.blk hk (g' := gb341) (o := .cells #[.int .i64 0, .bool false, .int .i64 0] 85 (0, 0)) q64_ NB341_0.out (by simp)); have n1_ := Aside0.mk (KeepBut.blk hk (g' := gb346) (o := .cells #[.int .i64 t342, .bool t344, .int .i64 x347002_5] 85 (0, 0)) q65_ NB346_0.out (by simp)); have n2_ := Aside0.mk (KeepBut.trans q23_ hk (.inl rfl)); have n3_ := Aside0.mk (hb); have n4_ := Aside0.mk (hi); clear BK341; clear BK346; clear HK; clear HB; clear HI0; have BK341 := n0_; have BK346 := n1_; have HK := n2_; have HB := n3_; have HI0 := n4_; clear n0_ n1_ n2_ n3_ n4_; (try clear hb); (try clear hk); (try clear hi); have hnb45 := NB346_341.out; have hnc45 := NB341_346.out; have hnb46 := NB346_0.out; have hnc46 := NB0_346.out; have hcz47_0 : w44.cell? ⟨gb346, 0, none⟩ = some (.int .i64 t342) := (blk_cell BK346.out 0).trans rfl; have hcz47_1 : w44.cell? ⟨gb346, 1, none⟩ = some (.bool t344) := (blk_cell BK346.out 1).trans rfl; have hcz47_2 : w44.cell? ⟨gb346, 2, none⟩ = some (.int .i64 x347002_5) := (blk_cell BK346.out 2).trans rfl; have hfz47_0 := blk_frozen BK346.out 0; have hfz47_1 := blk_frozen BK346.out 1; have hfz47_2 := blk_frozen BK346.out 2; have hnb48 := NB341_0.out; have hnc48 := NB0_341.out; have hcz49_0 : w44.cell? ⟨gb341, 0, none⟩ = some (.int .i64 0) := (blk_cell BK341.out 0).trans rfl; have hcz49_1 : w44.cell? ⟨gb341, 1, none⟩ = some (.bool false) := (blk_cell BK341.out 1).trans rfl; have hcz49_2 : w44.cell? ⟨gb341, 2, none⟩ = some (.int .i64 0) := (blk_cell BK341.out 2).trans rfl; have hfz49_0 := blk_frozen BK341.out 0; have hfz49_1 := blk_frozen BK341.out 1; have hfz49_2 := blk_frozen BK341.out 2))
    refine bodyPost_ret (results_cell_row rfl _ _ gb341 85 #[.int .i64 t342, .bool t344, .int .i64 x347002_5] (0, 0) _ rfl (by (with_reducible repeat (first | refine blk_drewN ?_ _ | refine blk_drew ?_ | refine blk_alloc ?_ _)); refine blk_put (cs := #[.int .i64 t342, .bool t344, .int .i64 0]) ?_ 2 _ rfl; (with_reducible repeat (first | refine blk_drewN ?_ _ | refine blk_drew ?_ | refine blk_alloc ?_ _)); refine blk_put (cs := #[.int .i64 t342, .bool false, .int .i64 0]) ?_ 1 _ rfl; (with_reducible repeat (first | refine blk_drewN ?_ _ | refine blk_drew ?_ | refine blk_alloc ?_ _)); refine blk_put (cs := #[.int .i64 0, .bool false, .int .i64 0]) ?_ 0 _ rfl; (with_reducible repeat (first | refine blk_drewN ?_ _ | refine blk_drew ?_ | refine blk_alloc ?_ _)); exact BK341.out) Try.underlying85 rfl (by kernel_rfl)) rfl ?_
    exact ⟨q55_, q21_, q17_, q23_⟩
end Go.Proofs.Ytcohcndliaaacaa.QFnCartNew
