/- The machine's side of a law, written by a program of this session for this claim. -/
import Derived.Test.YtcohcndliaaacaaZFnCartNewQq
import Derived.Test.YtcohcndliaaacaaZFnCartNewQFnCartNewx0
import Derived.Test.YtcohcndliaaacaaZFnCartNewQFnCartNewx4
import Derived.Test.YtcohcndliaaacaaZFnCartNewQFnCartNewx9
namespace Go.Proofs.Ytcohcndliaaacaa.QFnCartNew
open Go.Proofs.Ytcohcndliaaacaa.Qq
open Go.RowKit Go.Proofs.Ytcohcndliaaacaa.LibX Go.Proofs.Ytcohcndliaaacaa.LibC Go.Proofs.Ytcohcndliaaacaa.LibE Go.Proofs.YtcohcndliaaacaaW.PrintWords Go.Proofs.YtcohcndliaaacaaW.PrintLast Go.Proofs.YtcohcndliaaacaaW.PrintMore
attribute [local go_sem] max2_int min2_int max_two min_two max_three min_three max_four min_four   -- for this text's walks alone
set_option maxHeartbeats 8000000
set_option maxRecDepth 100000
set_option linter.unusedVariables false
set_option linter.unusedSimpArgs false
def spec_CartOk.j0 : Nat → Bool → ByteArray → Int → Int → ByteArray → Int → Bool → Int → Option (Bool)
 | 0, _, _, _, _, _, _, _, _ => none
 | k + 1, x12, x424000, x424001, x424002, x424003, x424004, x424005, x424006 => if x12 = true then (some false) else (if x424001 = 0 then (if x424002 = 1 then (if x424004 = 0 then (if x424005 = true then (some false) else (some (x424006 == 0))) else (some false)) else (some false)) else (if x424001 = 1 then ((spec_l1In.f x424002 1 31).bind fun t425 => (if t425 = true then ((spec_l1In.f x424004 0 3).bind fun t426 => (if t426 = true then ((spec_l1In.f x424006 0 1).bind fun t427 => (some t427)) else (some false))) else (some false))) else (if x424001 = 2 then ((spec_l1In.f x424002 0 255).bind fun t428 => (if t428 = true then ((spec_l1In.f x424004 0 3).bind fun t429 => (if t429 = true then (some (x424006 == 0)) else (some false))) else (some false))) else (some false))))
def spec_CartOk.f (k : Nat) (a0_0 : ByteArray) (a0_1 : Int) (a0_2 : Int) (a0_3 : ByteArray) (a0_4 : Int) (a0_5 : Bool) (a0_6 : Int) : Option (Bool) := (spec_l5Banks.f a0_0).bind fun t424 => (if t424 = 0 then (spec_CartOk.j0 k true a0_0 a0_1 a0_2 a0_3 a0_4 a0_5 a0_6) else (spec_CartOk.j0 k ((a0_3.size : Int) != 256) a0_0 a0_1 a0_2 a0_3 a0_4 a0_5 a0_6))
theorem spec_CartOk.mono_l : ∀ k, (∀ y0 y1 y2 y3 y4 y5 y6 y7, LeO (spec_CartOk.j0 k y0 y1 y2 y3 y4 y5 y6 y7) (spec_CartOk.j0 (k + 1) y0 y1 y2 y3 y4 y5 y6 y7))
 | 0 => fun _ _ _ _ _ _ _ _ r h => by simp [spec_CartOk.j0] at h
 | k + 1 => by
  have ih0 := spec_CartOk.mono_l k
  ·intro y0 y1 y2 y3 y4 y5 y6 y7
   unfold spec_CartOk.j0
   repeat' first
   | (with_reducible first | exact ih0 _ _ _ _ _ _ _ _ | exact LeO.refl _ | exact LeO.none _ | refine LeO.ite ?_ ?_ | refine LeO.bind ?_ (fun _ => ?_))
   | exact ih0 _ _ _ _ _ _ _ _
   | exact LeO.none _
   | refine LeO.ite ?_ ?_
   | refine LeO.bind ?_ (fun _ => ?_)
theorem spec_CartOk.mono : ∀ a0 a1 a2 a3 a4 a5 a6 k, LeO (spec_CartOk.f k a0 a1 a2 a3 a4 a5 a6) (spec_CartOk.f (k + 1) a0 a1 a2 a3 a4 a5 a6) := by
 intro a0 a1 a2 a3 a4 a5 a6 k
 have ih0 := spec_CartOk.mono_l k
 unfold spec_CartOk.f
 repeat' first
   | (with_reducible first | exact ih0 _ _ _ _ _ _ _ _ | exact LeO.refl _ | exact LeO.none _ | refine LeO.ite ?_ ?_ | refine LeO.bind ?_ (fun _ => ?_))
   | exact ih0 _ _ _ _ _ _ _ _
   | exact LeO.none _
   | refine LeO.ite ?_ ?_
   | refine LeO.bind ?_ (fun _ => ?_)
theorem spec_CartOk.calls (k : Nat) (a0_0 : ByteArray) (a0_1 : Int) (a0_2 : Int) (a0_3 : ByteArray) (a0_4 : Int) (a0_5 : Bool) (a0_6 : Int) (r : Bool) (w : World) (h : spec_CartOk.f k a0_0 a0_1 a0_2 a0_3 a0_4 a0_5 a0_6 = some r) :
  Calls Try.prog 25 #[.agg #[.string a0_0, .int .i64 a0_1, .int .i64 a0_2, .string a0_3, .int .i64 a0_4, .bool a0_5, .int .i64 a0_6]] w fun e w' => e = .returned (.bool r) ∧ Below w.heap.size w w' := by
 have hu32 := Try.underlying32
 have HB := Aside0.mk (Below.refl w.heap.size w)
 have H : ((spec_l5Banks.f a0_0).bind fun t424 => (if t424 = 0 then (spec_CartOk.j0 k true a0_0 a0_1 a0_2 a0_3 a0_4 a0_5 a0_6) else (spec_CartOk.j0 k ((a0_3.size : Int) != 256) a0_0 a0_1 a0_2 a0_3 a0_4 a0_5 a0_6))) = some r := h
 clear h
 have HC2 := Aside0.mk H
 clear H
 go_enter Try.func25, Try.ntmps25
 go_upto_region 1 with (first | ((with_reducible refine gate_dst (N := 1) rfl ?_); (try (refine gate_guard (by rfl) ?_; dsimp only)); refine box_event ?hg (N := 1) ?hd (cs := #[.string a0_0, .int .i64 a0_1, .int .i64 a0_2, .string a0_3, .int .i64 a0_4, .bool a0_5, .int .i64 a0_6]) (t := 32) ?hr ?_; (case hd => rfl); (case hg => rfl); (case hr => exact q109_); intro gb423 hg w3 hbox hb; have n0_ := Aside0.mk (below_step q54_ hb); have n1_ := Aside0.mk (hbox); have n2_ := Aside0.mk ((q39_ : w.heap.size ≤ gb423)); have n3_ := Aside0.mk ((q39_ : w.heap.size ≤ gb423)); clear HB; have HB := n0_; have BK423 := n1_; have GW423 := n2_; have GE423 := n3_; clear n0_ n1_ n2_ n3_; clear hb hbox hg))
 (try simp only [Act.put, List.setIfInBounds_toArray, List.set_cons_zero, List.set_cons_succ])
 go_cut [12] (fun v12 wc => ∃ (kq : Nat) (x12_1 : Bool), v12 = .bool x12_1 ∧ Aside0 (spec_CartOk.j0 kq x12_1 a0_0 a0_1 a0_2 a0_3 a0_4 a0_5 a0_6 = some r) ∧ Aside0 (kq ≤ k) ∧ Aside0 (wc.heap[gb423]? = some (.cells #[.string a0_0, .int .i64 a0_1, .int .i64 a0_2, .string a0_3, .int .i64 a0_4, .bool a0_5, .int .i64 a0_6] 32 (0, 0))) ∧ Aside0 (Below w.heap.size w wc))
 case first =>
  have H := HC2.out
  clear HC2
  replace H := Option.bind_eq_some_iff.mp H
  obtain ⟨t424, A40, H⟩ := H
  have A4 := Aside0.mk A40
  clear A40
  by_cases c5 : t424 = 0
  ·rw [if_pos c5] at H
   have c5b0 : (t424 == 0) = true := beq_iff_eq.mpr c5
   have c5b1 : (t424 != 0) = false := bne_eq_false_iff_eq.mpr c5
   clear c5
   (first | rw [c5b0] | (simp only [i64_w, i32_w]; rw [c5b0]) | skip)
   have H' := Aside0.mk H
   clear H
   have hcz6_0 : w3.cell? ⟨gb423, 0, none⟩ = some (.string a0_0) := bz_ BK423 0
   have hcz6_1 : w3.cell? ⟨gb423, 1, none⟩ = some (.int .i64 a0_1) := bz_ BK423 1
   have hcz6_2 : w3.cell? ⟨gb423, 2, none⟩ = some (.int .i64 a0_2) := bz_ BK423 2
   have hcz6_3 : w3.cell? ⟨gb423, 3, none⟩ = some (.string a0_3) := bz_ BK423 3
   have hcz6_4 : w3.cell? ⟨gb423, 4, none⟩ = some (.int .i64 a0_4) := bz_ BK423 4
   have hcz6_5 : w3.cell? ⟨gb423, 5, none⟩ = some (.bool a0_5) := bz_ BK423 5
   have hcz6_6 : w3.cell? ⟨gb423, 6, none⟩ = some (.int .i64 a0_6) := bz_ BK423 6
   have hfz6_0 := blk_frozen BK423.out 0
   have hfz6_1 := blk_frozen BK423.out 1
   have hfz6_2 := blk_frozen BK423.out 2
   have hfz6_3 := blk_frozen BK423.out 3
   have hfz6_4 := blk_frozen BK423.out 4
   have hfz6_5 := blk_frozen BK423.out 5
   have hfz6_6 := blk_frozen BK423.out 6
   go_wp2_with (first | ((with_reducible refine gate_callee (f := 68) rfl ?_); refine goesL_ (some 5) rfl rfl Try.func68 (by kernel_rfl) rfl #[.string a0_0] rfl q53_ ?_; (with_reducible refine (spec_l5Banks.calls a0_0 t424 _ A4.out).mono ?_); rintro e w' ⟨rfl, ⟨nd, rfl⟩⟩; refine ⟨_, rfl, ?_⟩))
   go_meet
   case rel => exact ⟨_, (true), q74_, H', ⟨q94_⟩, ⟨q69_⟩, ⟨q48_⟩⟩
  ·rw [if_neg c5] at H
   have c5b0 : (t424 == 0) = false := beq_eq_false_iff_ne.mpr c5
   have c5b1 : (t424 != 0) = true := bne_iff_ne.mpr c5
   (first | rw [c5b0] | (simp only [i64_w, i32_w]; rw [c5b0]) | skip)
   have H' := Aside0.mk H
   clear H
   have hcz7_0 : w3.cell? ⟨gb423, 0, none⟩ = some (.string a0_0) := bz_ BK423 0
   have hcz7_1 : w3.cell? ⟨gb423, 1, none⟩ = some (.int .i64 a0_1) := bz_ BK423 1
   have hcz7_2 : w3.cell? ⟨gb423, 2, none⟩ = some (.int .i64 a0_2) := bz_ BK423 2
   have hcz7_3 : w3.cell? ⟨gb423, 3, none⟩ = some (.string a0_3) := bz_ BK423 3
   have hcz7_4 : w3.cell? ⟨gb423, 4, none⟩ = some (.int .i64 a0_4) := bz_ BK423 4
   have hcz7_5 : w3.cell? ⟨gb423, 5, none⟩ = some (.bool a0_5) := bz_ BK423 5
   have hcz7_6 : w3.cell? ⟨gb423, 6, none⟩ = some (.int .i64 a0_6) := bz_ BK423 6
   have hfz7_0 := blk_frozen BK423.out 0
   have hfz7_1 := blk_frozen BK423.out 1
   have hfz7_2 := blk_frozen BK423.out 2
   have hfz7_3 := blk_frozen BK423.out 3
   have hfz7_4 := blk_frozen BK423.out 4
   have hfz7_5 := blk_frozen BK423.out 5
   have hfz7_6 := blk_frozen BK423.out 6
   go_wp2_with (first | ((with_reducible refine gate_callee (f := 68) rfl ?_); refine goesL_ (some 5) rfl rfl Try.func68 (by kernel_rfl) rfl #[.string a0_0] rfl q53_ ?_; (with_reducible refine (spec_l5Banks.calls a0_0 t424 _ A4.out).mono ?_); rintro e w' ⟨rfl, ⟨nd, rfl⟩⟩; refine ⟨_, rfl, ?_⟩))
   go_meet
   case rel => exact ⟨_, (((a0_3.size : Int) != 256)), q74_, H', ⟨q94_⟩, ⟨q69_⟩, ⟨q48_⟩⟩
 case rest =>
  clear HC2
  try clear c2
  try clear p2
  try clear c5
  try clear c5b0
  try clear c5b1
  try clear c6
  try clear p6
  try clear hcz6_0 hcz6_1 hcz6_2 hcz6_3 hcz6_4 hcz6_5 hcz6_6
  try clear hcz7_0 hcz7_1 hcz7_2 hcz7_3 hcz7_4 hcz7_5 hcz7_6
  try clear hfz6_0 hfz6_1 hfz6_2 hfz6_3 hfz6_4 hfz6_5 hfz6_6
  try clear hfz7_0 hfz7_1 hfz7_2 hfz7_3 hfz7_4 hfz7_5 hfz7_6
  obtain ⟨kq, x12_1, rfl, HA, HJ1, BK423, HB⟩ := hcut
  cases kq with
  | zero => exact absurd HA.out (by simp [spec_CartOk.j0])
  | succ kj1 =>
   have H := HA.out
   clear HA
   simp only [spec_CartOk.j0] at H
   by_cases c8 : x12_1 = true
   ·subst c8
    replace H : (some false) = some r := by rw [if_pos rfl] at H; exact H
    obtain rfl := Option.some.inj H
    go_wp2
    go_ret
    exact ⟨q55_, q48_⟩
   ·replace c8 := Bool.eq_false_iff.mpr c8
    subst c8
    replace H : (if a0_1 = 0 then (if a0_2 = 1 then (if a0_4 = 0 then (if a0_5 = true then (some false) else (some (a0_6 == 0))) else (some false)) else (some false)) else (if a0_1 = 1 then ((spec_l1In.f a0_2 1 31).bind fun t425 => (if t425 = true then ((spec_l1In.f a0_4 0 3).bind fun t426 => (if t426 = true then ((spec_l1In.f a0_6 0 1).bind fun t427 => (some t427)) else (some false))) else (some false))) else (if a0_1 = 2 then ((spec_l1In.f a0_2 0 255).bind fun t428 => (if t428 = true then ((spec_l1In.f a0_4 0 3).bind fun t429 => (if t429 = true then (some (a0_6 == 0)) else (some false))) else (some false))) else (some false)))) = some r := by rw [if_neg (show ¬ (false = true) by decide)] at H; exact H
    by_cases c9 : a0_1 = 0
    ·rw [if_pos c9] at H
     have c9b0 : (a0_1 == 0) = true := beq_iff_eq.mpr c9
     have c9b1 : (a0_1 != 0) = false := bne_eq_false_iff_eq.mpr c9
     clear c9
     by_cases c10 : a0_2 = 1
     ·rw [if_pos c10] at H
      have c10b0 : (a0_2 == 1) = true := beq_iff_eq.mpr c10
      have c10b1 : (a0_2 != 1) = false := bne_eq_false_iff_eq.mpr c10
      clear c10
      by_cases c11 : a0_4 = 0
      ·rw [if_pos c11] at H
       have c11b0 : (a0_4 == 0) = true := beq_iff_eq.mpr c11
       have c11b1 : (a0_4 != 0) = false := bne_eq_false_iff_eq.mpr c11
       clear c11
       by_cases c12 : a0_5 = true
       ·subst c12
        replace H : (some false) = some r := by rw [if_pos rfl] at H; exact H
        obtain rfl := Option.some.inj H
        have hcz13_0 : wc.cell? ⟨gb423, 0, none⟩ = some (.string a0_0) := bz_ BK423 0
        have hcz13_1 : wc.cell? ⟨gb423, 1, none⟩ = some (.int .i64 a0_1) := bz_ BK423 1
        have hcz13_2 : wc.cell? ⟨gb423, 2, none⟩ = some (.int .i64 a0_2) := bz_ BK423 2
        have hcz13_3 : wc.cell? ⟨gb423, 3, none⟩ = some (.string a0_3) := bz_ BK423 3
        have hcz13_4 : wc.cell? ⟨gb423, 4, none⟩ = some (.int .i64 a0_4) := bz_ BK423 4
        have hcz13_5 : wc.cell? ⟨gb423, 5, none⟩ = some (.bool true) := bz_ BK423 5
        have hcz13_6 : wc.cell? ⟨gb423, 6, none⟩ = some (.int .i64 a0_6) := bz_ BK423 6
        have hfz13_0 := blk_frozen BK423.out 0
        have hfz13_1 := blk_frozen BK423.out 1
        have hfz13_2 := blk_frozen BK423.out 2
        have hfz13_3 := blk_frozen BK423.out 3
        have hfz13_4 := blk_frozen BK423.out 4
        have hfz13_5 := blk_frozen BK423.out 5
        have hfz13_6 := blk_frozen BK423.out 6
        go_wp2
        go_ret
        exact ⟨q55_, q48_⟩
       ·replace c12 := Bool.eq_false_iff.mpr c12
        subst c12
        replace H : (some (a0_6 == 0)) = some r := by rw [if_neg (show ¬ (false = true) by decide)] at H; exact H
        obtain rfl := Option.some.inj H
        have hcz14_0 : wc.cell? ⟨gb423, 0, none⟩ = some (.string a0_0) := bz_ BK423 0
        have hcz14_1 : wc.cell? ⟨gb423, 1, none⟩ = some (.int .i64 a0_1) := bz_ BK423 1
        have hcz14_2 : wc.cell? ⟨gb423, 2, none⟩ = some (.int .i64 a0_2) := bz_ BK423 2
        have hcz14_3 : wc.cell? ⟨gb423, 3, none⟩ = some (.string a0_3) := bz_ BK423 3
        have hcz14_4 : wc.cell? ⟨gb423, 4, none⟩ = some (.int .i64 a0_4) := bz_ BK423 4
        have hcz14_5 : wc.cell? ⟨gb423, 5, none⟩ = some (.bool false) := bz_ BK423 5
        have hcz14_6 : wc.cell? ⟨gb423, 6, none⟩ = some (.int .i64 a0_6) := bz_ BK423 6
        have hfz14_0 := blk_frozen BK423.out 0
        have hfz14_1 := blk_frozen BK423.out 1
        have hfz14_2 := blk_frozen BK423.out 2
        have hfz14_3 := blk_frozen BK423.out 3
        have hfz14_4 := blk_frozen BK423.out 4
        have hfz14_5 := blk_frozen BK423.out 5
        have hfz14_6 := blk_frozen BK423.out 6
        go_wp2
        go_ret
        exact ⟨q55_, q48_⟩
      ·rw [if_neg c11] at H
       have c11b0 : (a0_4 == 0) = false := beq_eq_false_iff_ne.mpr c11
       have c11b1 : (a0_4 != 0) = true := bne_iff_ne.mpr c11
       obtain rfl := Option.some.inj H
       have hcz15_0 : wc.cell? ⟨gb423, 0, none⟩ = some (.string a0_0) := bz_ BK423 0
       have hcz15_1 : wc.cell? ⟨gb423, 1, none⟩ = some (.int .i64 a0_1) := bz_ BK423 1
       have hcz15_2 : wc.cell? ⟨gb423, 2, none⟩ = some (.int .i64 a0_2) := bz_ BK423 2
       have hcz15_3 : wc.cell? ⟨gb423, 3, none⟩ = some (.string a0_3) := bz_ BK423 3
       have hcz15_4 : wc.cell? ⟨gb423, 4, none⟩ = some (.int .i64 a0_4) := bz_ BK423 4
       have hcz15_5 : wc.cell? ⟨gb423, 5, none⟩ = some (.bool a0_5) := bz_ BK423 5
       have hcz15_6 : wc.cell? ⟨gb423, 6, none⟩ = some (.int .i64 a0_6) := bz_ BK423 6
       have hfz15_0 := blk_frozen BK423.out 0
       have hfz15_1 := blk_frozen BK423.out 1
       have hfz15_2 := blk_frozen BK423.out 2
       have hfz15_3 := blk_frozen BK423.out 3
       have hfz15_4 := blk_frozen BK423.out 4
       have hfz15_5 := blk_frozen BK423.out 5
       have hfz15_6 := blk_frozen BK423.out 6
       go_wp2
       go_ret
       exact ⟨q55_, q48_⟩
     ·rw [if_neg c10] at H
      have c10b0 : (a0_2 == 1) = false := beq_eq_false_iff_ne.mpr c10
      have c10b1 : (a0_2 != 1) = true := bne_iff_ne.mpr c10
      obtain rfl := Option.some.inj H
      have hcz16_0 : wc.cell? ⟨gb423, 0, none⟩ = some (.string a0_0) := bz_ BK423 0
      have hcz16_1 : wc.cell? ⟨gb423, 1, none⟩ = some (.int .i64 a0_1) := bz_ BK423 1
      have hcz16_2 : wc.cell? ⟨gb423, 2, none⟩ = some (.int .i64 a0_2) := bz_ BK423 2
      have hcz16_3 : wc.cell? ⟨gb423, 3, none⟩ = some (.string a0_3) := bz_ BK423 3
      have hcz16_4 : wc.cell? ⟨gb423, 4, none⟩ = some (.int .i64 a0_4) := bz_ BK423 4
      have hcz16_5 : wc.cell? ⟨gb423, 5, none⟩ = some (.bool a0_5) := bz_ BK423 5
      have hcz16_6 : wc.cell? ⟨gb423, 6, none⟩ = some (.int .i64 a0_6) := bz_ BK423 6
      have hfz16_0 := blk_frozen BK423.out 0
      have hfz16_1 := blk_frozen BK423.out 1
      have hfz16_2 := blk_frozen BK423.out 2
      have hfz16_3 := blk_frozen BK423.out 3
      have hfz16_4 := blk_frozen BK423.out 4
      have hfz16_5 := blk_frozen BK423.out 5
      have hfz16_6 := blk_frozen BK423.out 6
      go_wp2
      go_ret
      exact ⟨q55_, q48_⟩
    ·rw [if_neg c9] at H
     have c9b0 : (a0_1 == 0) = false := beq_eq_false_iff_ne.mpr c9
     have c9b1 : (a0_1 != 0) = true := bne_iff_ne.mpr c9
     by_cases c17 : a0_1 = 1
     ·rw [if_pos c17] at H
      have c17b0 : (a0_1 == 1) = true := beq_iff_eq.mpr c17
      have c17b1 : (a0_1 != 1) = false := bne_eq_false_iff_eq.mpr c17
      clear c17
      replace H := Option.bind_eq_some_iff.mp H
      obtain ⟨t425, A180, H⟩ := H
      have A18 := Aside0.mk A180
      clear A180
      by_cases c19 : t425 = true
      ·subst c19
       replace H : ((spec_l1In.f a0_4 0 3).bind fun t426 => (if t426 = true then ((spec_l1In.f a0_6 0 1).bind fun t427 => (some t427)) else (some false))) = some r := by rw [if_pos rfl] at H; exact H
       replace H := Option.bind_eq_some_iff.mp H
       obtain ⟨t426, A200, H⟩ := H
       have A20 := Aside0.mk A200
       clear A200
       by_cases c21 : t426 = true
       ·subst c21
        replace H : ((spec_l1In.f a0_6 0 1).bind fun t427 => (some t427)) = some r := by rw [if_pos rfl] at H; exact H
        replace H := Option.bind_eq_some_iff.mp H
        obtain ⟨t427, A220, H⟩ := H
        have A22 := Aside0.mk A220
        clear A220
        obtain rfl := Option.some.inj H
        have hcz23_0 : wc.cell? ⟨gb423, 0, none⟩ = some (.string a0_0) := bz_ BK423 0
        have hcz23_1 : wc.cell? ⟨gb423, 1, none⟩ = some (.int .i64 a0_1) := bz_ BK423 1
        have hcz23_2 : wc.cell? ⟨gb423, 2, none⟩ = some (.int .i64 a0_2) := bz_ BK423 2
        have hcz23_3 : wc.cell? ⟨gb423, 3, none⟩ = some (.string a0_3) := bz_ BK423 3
        have hcz23_4 : wc.cell? ⟨gb423, 4, none⟩ = some (.int .i64 a0_4) := bz_ BK423 4
        have hcz23_5 : wc.cell? ⟨gb423, 5, none⟩ = some (.bool a0_5) := bz_ BK423 5
        have hcz23_6 : wc.cell? ⟨gb423, 6, none⟩ = some (.int .i64 a0_6) := bz_ BK423 6
        have hfz23_0 := blk_frozen BK423.out 0
        have hfz23_1 := blk_frozen BK423.out 1
        have hfz23_2 := blk_frozen BK423.out 2
        have hfz23_3 := blk_frozen BK423.out 3
        have hfz23_4 := blk_frozen BK423.out 4
        have hfz23_5 := blk_frozen BK423.out 5
        have hfz23_6 := blk_frozen BK423.out 6
        go_wp2_with (first | ((with_reducible refine gate_callee (f := 41) rfl ?_); refine goesL_ (some 39) rfl rfl Try.func41 (by kernel_rfl) rfl #[.int .i64 a0_2, .int .i64 1, .int .i64 31] rfl q53_ ?_; (with_reducible refine (spec_l1In.calls a0_2 1 31 true _ A18.out).mono ?_); rintro e w' ⟨rfl, ⟨nd, rfl⟩⟩; refine ⟨_, rfl, ?_⟩) | (go_at_call 41; (with_reducible refine (spec_l1In.calls a0_4 0 3 true _ A20.out).mono ?_); rintro e w' ⟨rfl, ⟨nd, rfl⟩⟩) | (go_at_call 41; (with_reducible refine (spec_l1In.calls a0_6 0 1 t427 _ A22.out).mono ?_); rintro e w' ⟨rfl, ⟨nd, rfl⟩⟩))
        go_ret
        exact ⟨q55_, q48_⟩
       ·replace c21 := Bool.eq_false_iff.mpr c21
        subst c21
        replace H : (some false) = some r := by rw [if_neg (show ¬ (false = true) by decide)] at H; exact H
        obtain rfl := Option.some.inj H
        have hcz24_0 : wc.cell? ⟨gb423, 0, none⟩ = some (.string a0_0) := bz_ BK423 0
        have hcz24_1 : wc.cell? ⟨gb423, 1, none⟩ = some (.int .i64 a0_1) := bz_ BK423 1
        have hcz24_2 : wc.cell? ⟨gb423, 2, none⟩ = some (.int .i64 a0_2) := bz_ BK423 2
        have hcz24_3 : wc.cell? ⟨gb423, 3, none⟩ = some (.string a0_3) := bz_ BK423 3
        have hcz24_4 : wc.cell? ⟨gb423, 4, none⟩ = some (.int .i64 a0_4) := bz_ BK423 4
        have hcz24_5 : wc.cell? ⟨gb423, 5, none⟩ = some (.bool a0_5) := bz_ BK423 5
        have hcz24_6 : wc.cell? ⟨gb423, 6, none⟩ = some (.int .i64 a0_6) := bz_ BK423 6
        have hfz24_0 := blk_frozen BK423.out 0
        have hfz24_1 := blk_frozen BK423.out 1
        have hfz24_2 := blk_frozen BK423.out 2
        have hfz24_3 := blk_frozen BK423.out 3
        have hfz24_4 := blk_frozen BK423.out 4
        have hfz24_5 := blk_frozen BK423.out 5
        have hfz24_6 := blk_frozen BK423.out 6
        go_wp2_with (first | ((with_reducible refine gate_callee (f := 41) rfl ?_); refine goesL_ (some 39) rfl rfl Try.func41 (by kernel_rfl) rfl #[.int .i64 a0_2, .int .i64 1, .int .i64 31] rfl q53_ ?_; (with_reducible refine (spec_l1In.calls a0_2 1 31 true _ A18.out).mono ?_); rintro e w' ⟨rfl, ⟨nd, rfl⟩⟩; refine ⟨_, rfl, ?_⟩) | (go_at_call 41; (with_reducible refine (spec_l1In.calls a0_4 0 3 false _ A20.out).mono ?_); rintro e w' ⟨rfl, ⟨nd, rfl⟩⟩))
        go_ret
        exact ⟨q55_, q48_⟩
      ·replace c19 := Bool.eq_false_iff.mpr c19
       subst c19
       replace H : (some false) = some r := by rw [if_neg (show ¬ (false = true) by decide)] at H; exact H
       obtain rfl := Option.some.inj H
       have hcz25_0 : wc.cell? ⟨gb423, 0, none⟩ = some (.string a0_0) := bz_ BK423 0
       have hcz25_1 : wc.cell? ⟨gb423, 1, none⟩ = some (.int .i64 a0_1) := bz_ BK423 1
       have hcz25_2 : wc.cell? ⟨gb423, 2, none⟩ = some (.int .i64 a0_2) := bz_ BK423 2
       have hcz25_3 : wc.cell? ⟨gb423, 3, none⟩ = some (.string a0_3) := bz_ BK423 3
       have hcz25_4 : wc.cell? ⟨gb423, 4, none⟩ = some (.int .i64 a0_4) := bz_ BK423 4
       have hcz25_5 : wc.cell? ⟨gb423, 5, none⟩ = some (.bool a0_5) := bz_ BK423 5
       have hcz25_6 : wc.cell? ⟨gb423, 6, none⟩ = some (.int .i64 a0_6) := bz_ BK423 6
       have hfz25_0 := blk_frozen BK423.out 0
       have hfz25_1 := blk_frozen BK423.out 1
       have hfz25_2 := blk_frozen BK423.out 2
       have hfz25_3 := blk_frozen BK423.out 3
       have hfz25_4 := blk_frozen BK423.out 4
       have hfz25_5 := blk_frozen BK423.out 5
       have hfz25_6 := blk_frozen BK423.out 6
       go_wp2_with (first | ((with_reducible refine gate_callee (f := 41) rfl ?_); refine goesL_ (some 39) rfl rfl Try.func41 (by kernel_rfl) rfl #[.int .i64 a0_2, .int .i64 1, .int .i64 31] rfl q53_ ?_; (with_reducible refine (spec_l1In.calls a0_2 1 31 false _ A18.out).mono ?_); rintro e w' ⟨rfl, ⟨nd, rfl⟩⟩; refine ⟨_, rfl, ?_⟩))
       go_ret
       exact ⟨q55_, q48_⟩
     ·rw [if_neg c17] at H
      have c17b0 : (a0_1 == 1) = false := beq_eq_false_iff_ne.mpr c17
      have c17b1 : (a0_1 != 1) = true := bne_iff_ne.mpr c17
      by_cases c26 : a0_1 = 2
      ·rw [if_pos c26] at H
       have c26b0 : (a0_1 == 2) = true := beq_iff_eq.mpr c26
       have c26b1 : (a0_1 != 2) = false := bne_eq_false_iff_eq.mpr c26
       clear c26
       replace H := Option.bind_eq_some_iff.mp H
       obtain ⟨t428, A270, H⟩ := H
       have A27 := Aside0.mk A270
       clear A270
       by_cases c28 : t428 = true
       ·subst c28
        replace H : ((spec_l1In.f a0_4 0 3).bind fun t429 => (if t429 = true then (some (a0_6 == 0)) else (some false))) = some r := by rw [if_pos rfl] at H; exact H
        replace H := Option.bind_eq_some_iff.mp H
        obtain ⟨t429, A290, H⟩ := H
        have A29 := Aside0.mk A290
        clear A290
        by_cases c30 : t429 = true
        ·subst c30
         replace H : (some (a0_6 == 0)) = some r := by rw [if_pos rfl] at H; exact H
         obtain rfl := Option.some.inj H
         have hcz31_0 : wc.cell? ⟨gb423, 0, none⟩ = some (.string a0_0) := bz_ BK423 0
         have hcz31_1 : wc.cell? ⟨gb423, 1, none⟩ = some (.int .i64 a0_1) := bz_ BK423 1
         have hcz31_2 : wc.cell? ⟨gb423, 2, none⟩ = some (.int .i64 a0_2) := bz_ BK423 2
         have hcz31_3 : wc.cell? ⟨gb423, 3, none⟩ = some (.string a0_3) := bz_ BK423 3
         have hcz31_4 : wc.cell? ⟨gb423, 4, none⟩ = some (.int .i64 a0_4) := bz_ BK423 4
         have hcz31_5 : wc.cell? ⟨gb423, 5, none⟩ = some (.bool a0_5) := bz_ BK423 5
         have hcz31_6 : wc.cell? ⟨gb423, 6, none⟩ = some (.int .i64 a0_6) := bz_ BK423 6
         have hfz31_0 := blk_frozen BK423.out 0
         have hfz31_1 := blk_frozen BK423.out 1
         have hfz31_2 := blk_frozen BK423.out 2
         have hfz31_3 := blk_frozen BK423.out 3
         have hfz31_4 := blk_frozen BK423.out 4
         have hfz31_5 := blk_frozen BK423.out 5
         have hfz31_6 := blk_frozen BK423.out 6
         go_wp2_with (first | ((with_reducible refine gate_callee (f := 41) rfl ?_); refine goesL_ (some 54) rfl rfl Try.func41 (by kernel_rfl) rfl #[.int .i64 a0_2, .int .i64 0, .int .i64 255] rfl q53_ ?_; (with_reducible refine (spec_l1In.calls a0_2 0 255 true _ A27.out).mono ?_); rintro e w' ⟨rfl, ⟨nd, rfl⟩⟩; refine ⟨_, rfl, ?_⟩) | (go_at_call 41; (with_reducible refine (spec_l1In.calls a0_4 0 3 true _ A29.out).mono ?_); rintro e w' ⟨rfl, ⟨nd, rfl⟩⟩))
         go_ret
         exact ⟨q55_, q48_⟩
        ·replace c30 := Bool.eq_false_iff.mpr c30
         subst c30
         replace H : (some false) = some r := by rw [if_neg (show ¬ (false = true) by decide)] at H; exact H
         obtain rfl := Option.some.inj H
         have hcz32_0 : wc.cell? ⟨gb423, 0, none⟩ = some (.string a0_0) := bz_ BK423 0
         have hcz32_1 : wc.cell? ⟨gb423, 1, none⟩ = some (.int .i64 a0_1) := bz_ BK423 1
         have hcz32_2 : wc.cell? ⟨gb423, 2, none⟩ = some (.int .i64 a0_2) := bz_ BK423 2
         have hcz32_3 : wc.cell? ⟨gb423, 3, none⟩ = some (.string a0_3) := bz_ BK423 3
         have hcz32_4 : wc.cell? ⟨gb423, 4, none⟩ = some (.int .i64 a0_4) := bz_ BK423 4
         have hcz32_5 : wc.cell? ⟨gb423, 5, none⟩ = some (.bool a0_5) := bz_ BK423 5
         have hcz32_6 : wc.cell? ⟨gb423, 6, none⟩ = some (.int .i64 a0_6) := bz_ BK423 6
         have hfz32_0 := blk_frozen BK423.out 0
         have hfz32_1 := blk_frozen BK423.out 1
         have hfz32_2 := blk_frozen BK423.out 2
         have hfz32_3 := blk_frozen BK423.out 3
         have hfz32_4 := blk_frozen BK423.out 4
         have hfz32_5 := blk_frozen BK423.out 5
         have hfz32_6 := blk_frozen BK423.out 6
         go_wp2_with (first | ((with_reducible refine gate_callee (f := 41) rfl ?_); refine goesL_ (some 54) rfl rfl Try.func41 (by kernel_rfl) rfl #[.int .i64 a0_2, .int .i64 0, .int .i64 255] rfl q53_ ?_; (with_reducible refine (spec_l1In.calls a0_2 0 255 true _ A27.out).mono ?_); rintro e w' ⟨rfl, ⟨nd, rfl⟩⟩; refine ⟨_, rfl, ?_⟩) | (go_at_call 41; (with_reducible refine (spec_l1In.calls a0_4 0 3 false _ A29.out).mono ?_); rintro e w' ⟨rfl, ⟨nd, rfl⟩⟩))
         go_ret
         exact ⟨q55_, q48_⟩
       ·replace c28 := Bool.eq_false_iff.mpr c28
        subst c28
        replace H : (some false) = some r := by rw [if_neg (show ¬ (false = true) by decide)] at H; exact H
        obtain rfl := Option.some.inj H
        have hcz33_0 : wc.cell? ⟨gb423, 0, none⟩ = some (.string a0_0) := bz_ BK423 0
        have hcz33_1 : wc.cell? ⟨gb423, 1, none⟩ = some (.int .i64 a0_1) := bz_ BK423 1
        have hcz33_2 : wc.cell? ⟨gb423, 2, none⟩ = some (.int .i64 a0_2) := bz_ BK423 2
        have hcz33_3 : wc.cell? ⟨gb423, 3, none⟩ = some (.string a0_3) := bz_ BK423 3
        have hcz33_4 : wc.cell? ⟨gb423, 4, none⟩ = some (.int .i64 a0_4) := bz_ BK423 4
        have hcz33_5 : wc.cell? ⟨gb423, 5, none⟩ = some (.bool a0_5) := bz_ BK423 5
        have hcz33_6 : wc.cell? ⟨gb423, 6, none⟩ = some (.int .i64 a0_6) := bz_ BK423 6
        have hfz33_0 := blk_frozen BK423.out 0
        have hfz33_1 := blk_frozen BK423.out 1
        have hfz33_2 := blk_frozen BK423.out 2
        have hfz33_3 := blk_frozen BK423.out 3
        have hfz33_4 := blk_frozen BK423.out 4
        have hfz33_5 := blk_frozen BK423.out 5
        have hfz33_6 := blk_frozen BK423.out 6
        go_wp2_with (first | ((with_reducible refine gate_callee (f := 41) rfl ?_); refine goesL_ (some 54) rfl rfl Try.func41 (by kernel_rfl) rfl #[.int .i64 a0_2, .int .i64 0, .int .i64 255] rfl q53_ ?_; (with_reducible refine (spec_l1In.calls a0_2 0 255 false _ A27.out).mono ?_); rintro e w' ⟨rfl, ⟨nd, rfl⟩⟩; refine ⟨_, rfl, ?_⟩))
        go_ret
        exact ⟨q55_, q48_⟩
      ·rw [if_neg c26] at H
       have c26b0 : (a0_1 == 2) = false := beq_eq_false_iff_ne.mpr c26
       have c26b1 : (a0_1 != 2) = true := bne_iff_ne.mpr c26
       obtain rfl := Option.some.inj H
       have hcz34_0 : wc.cell? ⟨gb423, 0, none⟩ = some (.string a0_0) := bz_ BK423 0
       have hcz34_1 : wc.cell? ⟨gb423, 1, none⟩ = some (.int .i64 a0_1) := bz_ BK423 1
       have hcz34_2 : wc.cell? ⟨gb423, 2, none⟩ = some (.int .i64 a0_2) := bz_ BK423 2
       have hcz34_3 : wc.cell? ⟨gb423, 3, none⟩ = some (.string a0_3) := bz_ BK423 3
       have hcz34_4 : wc.cell? ⟨gb423, 4, none⟩ = some (.int .i64 a0_4) := bz_ BK423 4
       have hcz34_5 : wc.cell? ⟨gb423, 5, none⟩ = some (.bool a0_5) := bz_ BK423 5
       have hcz34_6 : wc.cell? ⟨gb423, 6, none⟩ = some (.int .i64 a0_6) := bz_ BK423 6
       have hfz34_0 := blk_frozen BK423.out 0
       have hfz34_1 := blk_frozen BK423.out 1
       have hfz34_2 := blk_frozen BK423.out 2
       have hfz34_3 := blk_frozen BK423.out 3
       have hfz34_4 := blk_frozen BK423.out 4
       have hfz34_5 := blk_frozen BK423.out 5
       have hfz34_6 := blk_frozen BK423.out 6
       go_wp2
       go_ret
       exact ⟨q55_, q48_⟩
def spec_CartNew.f (k : Nat) (a0 : ByteArray) (a1 : Int) : Option (ByteArray × Int × Int × ByteArray × Int × Bool × Int × Bool) := if 256 ≤ 281474976710656 then ((some (List.replicate 256 0 : List Int)).bind fun y431 => ((spec_CartOk.f k a0 a1 1 (strOfNums y431) 0 false 0).bind fun t435 => (if t435 = true then (some (a0, a1, 1, strOfNums y431, 0, false, 0, true)) else (some ((⟨#[]⟩ : ByteArray), 0, 0, (⟨#[]⟩ : ByteArray), 0, false, 0, false))))) else (none)
theorem spec_CartNew.mono : ∀ a0 a1 k, LeO (spec_CartNew.f k a0 a1) (spec_CartNew.f (k + 1) a0 a1) := by
 intro a0 a1 k
 unfold spec_CartNew.f
 repeat' first
   | (with_reducible first | exact spec_CartOk.mono _ _ _ _ _ _ _ _ | exact LeO.refl _ | exact LeO.none _ | refine LeO.ite ?_ ?_ | refine LeO.bind ?_ (fun _ => ?_))
   | exact spec_CartOk.mono _ _ _ _ _ _ _ _
   | exact LeO.none _
   | refine LeO.ite ?_ ?_
   | refine LeO.bind ?_ (fun _ => ?_)
theorem spec_CartNew.calls (k : Nat) (a0 : ByteArray) (a1 : Int) (r1 : ByteArray) (r2 : Int) (r3 : Int) (r4 : ByteArray) (r5 : Int) (r6 : Bool) (r7 : Int) (r8 : Bool) (w : World) (h : spec_CartNew.f k a0 a1 = some (r1, r2, r3, r4, r5, r6, r7, r8)) :
  Calls Try.prog 30 #[.string a0, .int .i64 a1] w fun e w' => e = .returned (.tuple #[.agg #[.string r1, .int .i64 r2, .int .i64 r3, .string r4, .int .i64 r5, .bool r6, .int .i64 r7], .bool r8]) ∧ Below w.heap.size w w' := by
 have hu32 := Try.underlying32
 have HB := Aside0.mk (Below.refl w.heap.size w)
 have H : (if 256 ≤ 281474976710656 then ((some (List.replicate 256 0 : List Int)).bind fun y431 => ((spec_CartOk.f k a0 a1 1 (strOfNums y431) 0 false 0).bind fun t435 => (if t435 = true then (some (a0, a1, 1, strOfNums y431, 0, false, 0, true)) else (some ((⟨#[]⟩ : ByteArray), 0, 0, (⟨#[]⟩ : ByteArray), 0, false, 0, false))))) else (none)) = some (r1, r2, r3, r4, r5, r6, r7, r8) := h
 clear h
 by_cases c3 : 256 ≤ 281474976710656
 ·rw [if_pos c3] at H
  have c3b0 := eq_true c3
  have c3b1 : decide (256 ≤ 281474976710656) = true := decide_eq_true c3
  clear c3
  obtain ⟨y431, hy431⟩ : ∃ y_ : List Int, y_ = (List.replicate 256 0) := ⟨_, rfl⟩
  replace H : ((spec_CartOk.f k a0 a1 1 (strOfNums y431) 0 false 0).bind fun t435 => (if t435 = true then (some (a0, a1, 1, strOfNums y431, 0, false, 0, true)) else (some ((⟨#[]⟩ : ByteArray), 0, 0, (⟨#[]⟩ : ByteArray), 0, false, 0, false)))) = some (r1, r2, r3, r4, r5, r6, r7, r8) := by first | (rw [hy431]; with_reducible exact H) | (have H2_ := (Option.bind_some _ _).symm.trans H; rw [hy431]; with_reducible exact H2_) | (have H2_ := (Option.bind_some _ _).symm.trans H; with_reducible exact H2_) | with_reducible exact H | (rw [hy431]; exact H) | exact H
  have Ny431 := Aside0.mk hy431
  clear hy431
  replace H := Option.bind_eq_some_iff.mp H
  obtain ⟨t435, A40, H⟩ := H
  have A4 := Aside0.mk A40
  clear A40
  by_cases c5 : t435 = true
  ·subst c5
   replace H : (some (a0, a1, 1, strOfNums y431, 0, false, 0, true)) = some (r1, r2, r3, r4, r5, r6, r7, r8) := by rw [if_pos rfl] at H; exact H
   simp only [Option.some.injEq, Prod.mk.injEq] at H
   obtain ⟨rfl, rfl, rfl, rfl, rfl, rfl, rfl, rfl⟩ := H
   go_enter Try.func30, Try.ntmps30
   go_wp2_with (first | ((with_reducible refine gate_dst (N := 4) rfl ?_); refine box_event ?hg (N := 4) ?hd (cs := #[.string (⟨#[]⟩ : ByteArray), .int .i64 0, .int .i64 0, .string (⟨#[]⟩ : ByteArray), .int .i64 0, .bool false, .int .i64 0]) (t := 32) ?hr ?_; (case hd => rfl); (case hg => rfl); (case hr => exact q109_); intro gb430 hg w6 hbox hb; have n0_ := Aside0.mk (below_step q54_ hb); have n1_ := Aside0.mk (hbox); have n2_ := Aside0.mk ((q39_ : w.heap.size ≤ gb430)); have n3_ := Aside0.mk ((q39_ : w.heap.size ≤ gb430)); clear HB; have HB := n0_; have BK430 := n1_; have GW430 := n2_; have GE430 := n3_; clear n0_ n1_ n2_ n3_; clear hb hbox hg) | ((with_reducible refine gate_dst (N := 9) rfl ?_); refine Kd.R_make (Kd.int .u8) _ 5 rfl (N := 9) rfl 25 _ _ rfl 256 rfl rfl Try.underlying25 (.int .u8 0) 1 info5 rfl (by decide) (by omega) 0 (ok := fun _ => True) (okp := fun _ => True) rfl (fun _ hk => hk) trivial (by omega) (by omega) (Below.refl _ _) (Nat.le_refl _) ?_; intro v432 w7 ho8 hb hg_ hnew_; clear hg_ hnew_; (first | rw [← Ny431.out] at ho8 | (simp only [Int.reduceToNat] at ho8; rw [← Ny431.out] at ho8)); have n0_ := Aside0.mk (Kd.R_lower ho8 (below_size q49_)); have n1_ := Aside0.mk (blk_below (g := gb430) (o := .cells #[.string (⟨#[]⟩ : ByteArray), .int .i64 0, .int .i64 0, .string (⟨#[]⟩ : ByteArray), .int .i64 0, .bool false, .int .i64 0] 32 (0, 0)) q70_ hb); have n2_ := Aside0.mk (below_step q49_ hb); clear BK430; clear HB; have HO433 := n0_; have BK430 := n1_; have HB := n2_; clear n0_ n1_ n2_; clear hb ho8; have hcv9 := own_string (P := Try.prog) Try.underlying25 Try.underlying5 Try.underlying9 (Kd.own_of_R HO433.out); have hcvq9 := fun m_ : Nat => own_string (P := Try.prog) Try.underlying25 Try.underlying5 Try.underlying9 (Kd.own_of_R (Kd.R_drewN HO433.out m_))) | ((with_reducible refine gate_dst (N := 6) rfl ?_); refine box_event ?hg (N := 6) ?hd (cs := #[.string (⟨#[]⟩ : ByteArray), .int .i64 0, .int .i64 0, .string (⟨#[]⟩ : ByteArray), .int .i64 0, .bool false, .int .i64 0]) (t := 32) ?hr ?_; (case hd => rfl); (case hg => rfl); (case hr => exact q109_); intro gb434 hg w10 hbox hb; have n0_ := Aside0.mk (Kd.R_below (by (with_reducible repeat (first | apply Kd.R_alloc | apply Kd.R_drewN | apply Kd.R_drew)); exact HO433.out) hb); have n1_ := Aside0.mk (blk_below (g := gb430) (o := .cells #[.string (⟨#[]⟩ : ByteArray), .int .i64 0, .int .i64 0, .string (⟨#[]⟩ : ByteArray), .int .i64 0, .bool false, .int .i64 0] 32 (0, 0)) q70_ hb); have n2_ := Aside0.mk (below_step q49_ hb); have n3_ := Aside0.mk (hbox); have n4_ := Aside0.mk ((q30_ : w.heap.size ≤ gb434)); have n5_ := Aside0.mk ((q30_ : w.heap.size ≤ gb434)); have n6_ := Aside0.mk ((q11_ : gb430 ≠ gb434)); have n7_ := Aside0.mk ((q12_ : gb434 ≠ gb430)); clear HO433; clear BK430; clear HB; have HO433 := n0_; have BK430 := n1_; have HB := n2_; have BK434 := n3_; have GW434 := n4_; have GE434 := n5_; have NB430_434 := n6_; have NB434_430 := n7_; clear n0_ n1_ n2_ n3_ n4_ n5_ n6_ n7_; clear hb hbox hg; have hnb11 := NB434_430.out; have hnc11 := NB430_434.out; have hcz12_0 : w10.cell? ⟨gb434, 0, none⟩ = some (.string (⟨#[]⟩ : ByteArray)) := (blk_cell BK434.out 0).trans rfl; have hcz12_1 : w10.cell? ⟨gb434, 1, none⟩ = some (.int .i64 0) := (blk_cell BK434.out 1).trans rfl; have hcz12_2 : w10.cell? ⟨gb434, 2, none⟩ = some (.int .i64 0) := (blk_cell BK434.out 2).trans rfl; have hcz12_3 : w10.cell? ⟨gb434, 3, none⟩ = some (.string (⟨#[]⟩ : ByteArray)) := (blk_cell BK434.out 3).trans rfl; have hcz12_4 : w10.cell? ⟨gb434, 4, none⟩ = some (.int .i64 0) := (blk_cell BK434.out 4).trans rfl; have hcz12_5 : w10.cell? ⟨gb434, 5, none⟩ = some (.bool false) := (blk_cell BK434.out 5).trans rfl; have hcz12_6 : w10.cell? ⟨gb434, 6, none⟩ = some (.int .i64 0) := (blk_cell BK434.out 6).trans rfl; have hfz12_0 := blk_frozen BK434.out 0; have hfz12_1 := blk_frozen BK434.out 1; have hfz12_2 := blk_frozen BK434.out 2; have hfz12_3 := blk_frozen BK434.out 3; have hfz12_4 := blk_frozen BK434.out 4; have hfz12_5 := blk_frozen BK434.out 5; have hfz12_6 := blk_frozen BK434.out 6) | ((with_reducible refine gate_callee (f := 25) rfl ?_); refine goesL_ (some 13) rfl rfl Try.func25 (by kernel_rfl) rfl #[.agg #[.string a0, .int .i64 a1, .int .i64 1, .string (strOfNums y431), .int .i64 0, .bool false, .int .i64 0]] rfl q53_ ?_; (with_reducible refine (spec_CartOk.calls k a0 a1 1 (strOfNums y431) 0 false 0 true _ A4.out).mono ?_); rintro e w13 ⟨rfl, hb⟩; refine ⟨_, rfl, ?_⟩; have n0_ := Aside0.mk (Kd.R_below q6_ hb); have n1_ := Aside0.mk (blk_below (g := gb430) (o := .cells #[.string (⟨#[]⟩ : ByteArray), .int .i64 0, .int .i64 0, .string (⟨#[]⟩ : ByteArray), .int .i64 0, .bool false, .int .i64 0] 32 (0, 0)) q4_ hb); have n2_ := Aside0.mk (blk_below (g := gb434) (o := .cells #[.string a0, .int .i64 a1, .int .i64 1, .string (strOfNums y431), .int .i64 0, .bool false, .int .i64 0] 32 (0, 0)) q1_ hb); have n3_ := Aside0.mk (below_step q33_ hb); clear HO433; clear BK430; clear BK434; clear HB; have HO433 := n0_; have BK430 := n1_; have BK434 := n2_; have HB := n3_; clear n0_ n1_ n2_ n3_; (try clear hb); have hcz14_0 : w13.cell? ⟨gb434, 0, none⟩ = some (.string a0) := (blk_cell BK434.out 0).trans rfl; have hcz14_1 : w13.cell? ⟨gb434, 1, none⟩ = some (.int .i64 a1) := (blk_cell BK434.out 1).trans rfl; have hcz14_2 : w13.cell? ⟨gb434, 2, none⟩ = some (.int .i64 1) := (blk_cell BK434.out 2).trans rfl; have hcz14_3 : w13.cell? ⟨gb434, 3, none⟩ = some (.string (strOfNums y431)) := (blk_cell BK434.out 3).trans rfl; have hcz14_4 : w13.cell? ⟨gb434, 4, none⟩ = some (.int .i64 0) := (blk_cell BK434.out 4).trans rfl; have hcz14_5 : w13.cell? ⟨gb434, 5, none⟩ = some (.bool false) := (blk_cell BK434.out 5).trans rfl; have hcz14_6 : w13.cell? ⟨gb434, 6, none⟩ = some (.int .i64 0) := (blk_cell BK434.out 6).trans rfl; have hfz14_0 := blk_frozen BK434.out 0; have hfz14_1 := blk_frozen BK434.out 1; have hfz14_2 := blk_frozen BK434.out 2; have hfz14_3 := blk_frozen BK434.out 3; have hfz14_4 := blk_frozen BK434.out 4; have hfz14_5 := blk_frozen BK434.out 5; have hfz14_6 := blk_frozen BK434.out 6; have hcz15_0 : w13.cell? ⟨gb430, 0, none⟩ = some (.string (⟨#[]⟩ : ByteArray)) := (blk_cell BK430.out 0).trans rfl; have hcz15_1 : w13.cell? ⟨gb430, 1, none⟩ = some (.int .i64 0) := (blk_cell BK430.out 1).trans rfl; have hcz15_2 : w13.cell? ⟨gb430, 2, none⟩ = some (.int .i64 0) := (blk_cell BK430.out 2).trans rfl; have hcz15_3 : w13.cell? ⟨gb430, 3, none⟩ = some (.string (⟨#[]⟩ : ByteArray)) := (blk_cell BK430.out 3).trans rfl; have hcz15_4 : w13.cell? ⟨gb430, 4, none⟩ = some (.int .i64 0) := (blk_cell BK430.out 4).trans rfl; have hcz15_5 : w13.cell? ⟨gb430, 5, none⟩ = some (.bool false) := (blk_cell BK430.out 5).trans rfl; have hcz15_6 : w13.cell? ⟨gb430, 6, none⟩ = some (.int .i64 0) := (blk_cell BK430.out 6).trans rfl; have hfz15_0 := blk_frozen BK430.out 0; have hfz15_1 := blk_frozen BK430.out 1; have hfz15_2 := blk_frozen BK430.out 2; have hfz15_3 := blk_frozen BK430.out 3; have hfz15_4 := blk_frozen BK430.out 4; have hfz15_5 := blk_frozen BK430.out 5; have hfz15_6 := blk_frozen BK430.out 6))
   refine bodyPost_ret (results_ct rfl _ _ gb430 32 #[.string a0, .int .i64 a1, .int .i64 1, .string (strOfNums y431), .int .i64 0, .bool false, .int .i64 0] (0, 0) _ rfl (by (with_reducible repeat (first | refine blk_drewN ?_ _ | refine blk_drew ?_ | refine blk_alloc ?_ _)); refine blk_put (cs := #[.string a0, .int .i64 a1, .int .i64 1, .string (strOfNums y431), .int .i64 0, .bool false, .int .i64 0]) ?_ 6 _ rfl; (with_reducible repeat (first | refine blk_drewN ?_ _ | refine blk_drew ?_ | refine blk_alloc ?_ _)); refine blk_put (cs := #[.string a0, .int .i64 a1, .int .i64 1, .string (strOfNums y431), .int .i64 0, .bool false, .int .i64 0]) ?_ 5 _ rfl; (with_reducible repeat (first | refine blk_drewN ?_ _ | refine blk_drew ?_ | refine blk_alloc ?_ _)); refine blk_put (cs := #[.string a0, .int .i64 a1, .int .i64 1, .string (strOfNums y431), .int .i64 0, .bool false, .int .i64 0]) ?_ 4 _ rfl; (with_reducible repeat (first | refine blk_drewN ?_ _ | refine blk_drew ?_ | refine blk_alloc ?_ _)); refine blk_put (cs := #[.string a0, .int .i64 a1, .int .i64 1, .string (⟨#[]⟩ : ByteArray), .int .i64 0, .bool false, .int .i64 0]) ?_ 3 _ rfl; (with_reducible repeat (first | refine blk_drewN ?_ _ | refine blk_drew ?_ | refine blk_alloc ?_ _)); refine blk_put (cs := #[.string a0, .int .i64 a1, .int .i64 0, .string (⟨#[]⟩ : ByteArray), .int .i64 0, .bool false, .int .i64 0]) ?_ 2 _ rfl; (with_reducible repeat (first | refine blk_drewN ?_ _ | refine blk_drew ?_ | refine blk_alloc ?_ _)); refine blk_put (cs := #[.string a0, .int .i64 0, .int .i64 0, .string (⟨#[]⟩ : ByteArray), .int .i64 0, .bool false, .int .i64 0]) ?_ 1 _ rfl; (with_reducible repeat (first | refine blk_drewN ?_ _ | refine blk_drew ?_ | refine blk_alloc ?_ _)); refine blk_put (cs := #[.string (⟨#[]⟩ : ByteArray), .int .i64 0, .int .i64 0, .string (⟨#[]⟩ : ByteArray), .int .i64 0, .bool false, .int .i64 0]) ?_ 0 _ rfl; (with_reducible repeat (first | refine blk_drewN ?_ _ | refine blk_drew ?_ | refine blk_alloc ?_ _)); exact BK430.out) Try.underlying32 rfl (by kernel_rfl)) rfl ?_
   exact ⟨q55_, q33_⟩
  ·replace c5 := Bool.eq_false_iff.mpr c5
   subst c5
   replace H : (some ((⟨#[]⟩ : ByteArray), 0, 0, (⟨#[]⟩ : ByteArray), 0, false, 0, false)) = some (r1, r2, r3, r4, r5, r6, r7, r8) := by rw [if_neg (show ¬ (false = true) by decide)] at H; exact H
   simp only [Option.some.injEq, Prod.mk.injEq] at H
   obtain ⟨rfl, rfl, rfl, rfl, rfl, rfl, rfl, rfl⟩ := H
   go_enter Try.func30, Try.ntmps30
   go_wp2_with (first | ((with_reducible refine gate_dst (N := 4) rfl ?_); refine box_event ?hg (N := 4) ?hd (cs := #[.string (⟨#[]⟩ : ByteArray), .int .i64 0, .int .i64 0, .string (⟨#[]⟩ : ByteArray), .int .i64 0, .bool false, .int .i64 0]) (t := 32) ?hr ?_; (case hd => rfl); (case hg => rfl); (case hr => exact q109_); intro gb430 hg w16 hbox hb; have n0_ := Aside0.mk (below_step q54_ hb); have n1_ := Aside0.mk (hbox); have n2_ := Aside0.mk ((q39_ : w.heap.size ≤ gb430)); have n3_ := Aside0.mk ((q39_ : w.heap.size ≤ gb430)); clear HB; have HB := n0_; have BK430 := n1_; have GW430 := n2_; have GE430 := n3_; clear n0_ n1_ n2_ n3_; clear hb hbox hg) | ((with_reducible refine gate_dst (N := 9) rfl ?_); refine Kd.R_make (Kd.int .u8) _ 5 rfl (N := 9) rfl 25 _ _ rfl 256 rfl rfl Try.underlying25 (.int .u8 0) 1 info5 rfl (by decide) (by omega) 0 (ok := fun _ => True) (okp := fun _ => True) rfl (fun _ hk => hk) trivial (by omega) (by omega) (Below.refl _ _) (Nat.le_refl _) ?_; intro v432 w17 ho18 hb hg_ hnew_; clear hg_ hnew_; (first | rw [← Ny431.out] at ho18 | (simp only [Int.reduceToNat] at ho18; rw [← Ny431.out] at ho18)); have n0_ := Aside0.mk (Kd.R_lower ho18 (below_size q49_)); have n1_ := Aside0.mk (blk_below (g := gb430) (o := .cells #[.string (⟨#[]⟩ : ByteArray), .int .i64 0, .int .i64 0, .string (⟨#[]⟩ : ByteArray), .int .i64 0, .bool false, .int .i64 0] 32 (0, 0)) q70_ hb); have n2_ := Aside0.mk (below_step q49_ hb); clear BK430; clear HB; have HO433 := n0_; have BK430 := n1_; have HB := n2_; clear n0_ n1_ n2_; clear hb ho18; have hcv19 := own_string (P := Try.prog) Try.underlying25 Try.underlying5 Try.underlying9 (Kd.own_of_R HO433.out); have hcvq19 := fun m_ : Nat => own_string (P := Try.prog) Try.underlying25 Try.underlying5 Try.underlying9 (Kd.own_of_R (Kd.R_drewN HO433.out m_))) | ((with_reducible refine gate_dst (N := 6) rfl ?_); refine box_event ?hg (N := 6) ?hd (cs := #[.string (⟨#[]⟩ : ByteArray), .int .i64 0, .int .i64 0, .string (⟨#[]⟩ : ByteArray), .int .i64 0, .bool false, .int .i64 0]) (t := 32) ?hr ?_; (case hd => rfl); (case hg => rfl); (case hr => exact q109_); intro gb434 hg w20 hbox hb; have n0_ := Aside0.mk (Kd.R_below (by (with_reducible repeat (first | apply Kd.R_alloc | apply Kd.R_drewN | apply Kd.R_drew)); exact HO433.out) hb); have n1_ := Aside0.mk (blk_below (g := gb430) (o := .cells #[.string (⟨#[]⟩ : ByteArray), .int .i64 0, .int .i64 0, .string (⟨#[]⟩ : ByteArray), .int .i64 0, .bool false, .int .i64 0] 32 (0, 0)) q70_ hb); have n2_ := Aside0.mk (below_step q49_ hb); have n3_ := Aside0.mk (hbox); have n4_ := Aside0.mk ((q30_ : w.heap.size ≤ gb434)); have n5_ := Aside0.mk ((q30_ : w.heap.size ≤ gb434)); have n6_ := Aside0.mk ((q11_ : gb430 ≠ gb434)); have n7_ := Aside0.mk ((q12_ : gb434 ≠ gb430)); clear HO433; clear BK430; clear HB; have HO433 := n0_; have BK430 := n1_; have HB := n2_; have BK434 := n3_; have GW434 := n4_; have GE434 := n5_; have NB430_434 := n6_; have NB434_430 := n7_; clear n0_ n1_ n2_ n3_ n4_ n5_ n6_ n7_; clear hb hbox hg; have hnb21 := NB434_430.out; have hnc21 := NB430_434.out; have hcz22_0 : w20.cell? ⟨gb434, 0, none⟩ = some (.string (⟨#[]⟩ : ByteArray)) := (blk_cell BK434.out 0).trans rfl; have hcz22_1 : w20.cell? ⟨gb434, 1, none⟩ = some (.int .i64 0) := (blk_cell BK434.out 1).trans rfl; have hcz22_2 : w20.cell? ⟨gb434, 2, none⟩ = some (.int .i64 0) := (blk_cell BK434.out 2).trans rfl; have hcz22_3 : w20.cell? ⟨gb434, 3, none⟩ = some (.string (⟨#[]⟩ : ByteArray)) := (blk_cell BK434.out 3).trans rfl; have hcz22_4 : w20.cell? ⟨gb434, 4, none⟩ = some (.int .i64 0) := (blk_cell BK434.out 4).trans rfl; have hcz22_5 : w20.cell? ⟨gb434, 5, none⟩ = some (.bool false) := (blk_cell BK434.out 5).trans rfl; have hcz22_6 : w20.cell? ⟨gb434, 6, none⟩ = some (.int .i64 0) := (blk_cell BK434.out 6).trans rfl; have hfz22_0 := blk_frozen BK434.out 0; have hfz22_1 := blk_frozen BK434.out 1; have hfz22_2 := blk_frozen BK434.out 2; have hfz22_3 := blk_frozen BK434.out 3; have hfz22_4 := blk_frozen BK434.out 4; have hfz22_5 := blk_frozen BK434.out 5; have hfz22_6 := blk_frozen BK434.out 6) | ((with_reducible refine gate_callee (f := 25) rfl ?_); refine goesL_ (some 13) rfl rfl Try.func25 (by kernel_rfl) rfl #[.agg #[.string a0, .int .i64 a1, .int .i64 1, .string (strOfNums y431), .int .i64 0, .bool false, .int .i64 0]] rfl q53_ ?_; (with_reducible refine (spec_CartOk.calls k a0 a1 1 (strOfNums y431) 0 false 0 false _ A4.out).mono ?_); rintro e w23 ⟨rfl, hb⟩; refine ⟨_, rfl, ?_⟩; have n0_ := Aside0.mk (Kd.R_below q6_ hb); have n1_ := Aside0.mk (blk_below (g := gb430) (o := .cells #[.string (⟨#[]⟩ : ByteArray), .int .i64 0, .int .i64 0, .string (⟨#[]⟩ : ByteArray), .int .i64 0, .bool false, .int .i64 0] 32 (0, 0)) q4_ hb); have n2_ := Aside0.mk (blk_below (g := gb434) (o := .cells #[.string a0, .int .i64 a1, .int .i64 1, .string (strOfNums y431), .int .i64 0, .bool false, .int .i64 0] 32 (0, 0)) q1_ hb); have n3_ := Aside0.mk (below_step q33_ hb); clear HO433; clear BK430; clear BK434; clear HB; have HO433 := n0_; have BK430 := n1_; have BK434 := n2_; have HB := n3_; clear n0_ n1_ n2_ n3_; (try clear hb); have hcz24_0 : w23.cell? ⟨gb430, 0, none⟩ = some (.string (⟨#[]⟩ : ByteArray)) := (blk_cell BK430.out 0).trans rfl; have hcz24_1 : w23.cell? ⟨gb430, 1, none⟩ = some (.int .i64 0) := (blk_cell BK430.out 1).trans rfl; have hcz24_2 : w23.cell? ⟨gb430, 2, none⟩ = some (.int .i64 0) := (blk_cell BK430.out 2).trans rfl; have hcz24_3 : w23.cell? ⟨gb430, 3, none⟩ = some (.string (⟨#[]⟩ : ByteArray)) := (blk_cell BK430.out 3).trans rfl; have hcz24_4 : w23.cell? ⟨gb430, 4, none⟩ = some (.int .i64 0) := (blk_cell BK430.out 4).trans rfl; have hcz24_5 : w23.cell? ⟨gb430, 5, none⟩ = some (.bool false) := (blk_cell BK430.out 5).trans rfl; have hcz24_6 : w23.cell? ⟨gb430, 6, none⟩ = some (.int .i64 0) := (blk_cell BK430.out 6).trans rfl; have hfz24_0 := blk_frozen BK430.out 0; have hfz24_1 := blk_frozen BK430.out 1; have hfz24_2 := blk_frozen BK430.out 2; have hfz24_3 := blk_frozen BK430.out 3; have hfz24_4 := blk_frozen BK430.out 4; have hfz24_5 := blk_frozen BK430.out 5; have hfz24_6 := blk_frozen BK430.out 6))
   refine bodyPost_ret (results_ct rfl _ _ gb430 32 #[.string (⟨#[]⟩ : ByteArray), .int .i64 0, .int .i64 0, .string (⟨#[]⟩ : ByteArray), .int .i64 0, .bool false, .int .i64 0] (0, 0) _ rfl (by (with_reducible repeat (first | refine blk_drewN ?_ _ | refine blk_drew ?_ | refine blk_alloc ?_ _)); refine blk_put (cs := #[.string (⟨#[]⟩ : ByteArray), .int .i64 0, .int .i64 0, .string (⟨#[]⟩ : ByteArray), .int .i64 0, .bool false, .int .i64 0]) ?_ 6 _ rfl; (with_reducible repeat (first | refine blk_drewN ?_ _ | refine blk_drew ?_ | refine blk_alloc ?_ _)); refine blk_put (cs := #[.string (⟨#[]⟩ : ByteArray), .int .i64 0, .int .i64 0, .string (⟨#[]⟩ : ByteArray), .int .i64 0, .bool false, .int .i64 0]) ?_ 5 _ rfl; (with_reducible repeat (first | refine blk_drewN ?_ _ | refine blk_drew ?_ | refine blk_alloc ?_ _)); refine blk_put (cs := #[.string (⟨#[]⟩ : ByteArray), .int .i64 0, .int .i64 0, .string (⟨#[]⟩ : ByteArray), .int .i64 0, .bool false, .int .i64 0]) ?_ 4 _ rfl; (with_reducible repeat (first | refine blk_drewN ?_ _ | refine blk_drew ?_ | refine blk_alloc ?_ _)); refine blk_put (cs := #[.string (⟨#[]⟩ : ByteArray), .int .i64 0, .int .i64 0, .string (⟨#[]⟩ : ByteArray), .int .i64 0, .bool false, .int .i64 0]) ?_ 3 _ rfl; (with_reducible repeat (first | refine blk_drewN ?_ _ | refine blk_drew ?_ | refine blk_alloc ?_ _)); refine blk_put (cs := #[.string (⟨#[]⟩ : ByteArray), .int .i64 0, .int .i64 0, .string (⟨#[]⟩ : ByteArray), .int .i64 0, .bool false, .int .i64 0]) ?_ 2 _ rfl; (with_reducible repeat (first | refine blk_drewN ?_ _ | refine blk_drew ?_ | refine blk_alloc ?_ _)); refine blk_put (cs := #[.string (⟨#[]⟩ : ByteArray), .int .i64 0, .int .i64 0, .string (⟨#[]⟩ : ByteArray), .int .i64 0, .bool false, .int .i64 0]) ?_ 1 _ rfl; (with_reducible repeat (first | refine blk_drewN ?_ _ | refine blk_drew ?_ | refine blk_alloc ?_ _)); refine blk_put (cs := #[.string (⟨#[]⟩ : ByteArray), .int .i64 0, .int .i64 0, .string (⟨#[]⟩ : ByteArray), .int .i64 0, .bool false, .int .i64 0]) ?_ 0 _ rfl; (with_reducible repeat (first | refine blk_drewN ?_ _ | refine blk_drew ?_ | refine blk_alloc ?_ _)); exact BK430.out) Try.underlying32 rfl (by kernel_rfl)) rfl ?_
   exact ⟨q55_, q33_⟩
 ·rw [if_neg c3] at H
  exact absurd H (by simp)
end Go.Proofs.Ytcohcndliaaacaa.QFnCartNew
