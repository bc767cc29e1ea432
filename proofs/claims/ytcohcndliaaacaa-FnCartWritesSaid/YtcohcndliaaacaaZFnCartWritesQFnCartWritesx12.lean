/- The machine's side of a law, written by a program of this session for this claim. -/
import Derived.Test.YtcohcndliaaacaaZFnCartWritesQq
import Derived.Test.YtcohcndliaaacaaZFnCartWritesQFnCartWritesx0
import Derived.Test.YtcohcndliaaacaaZFnCartWritesQFnCartWritesx11
namespace Go.Proofs.Ytcohcndliaaacaa.QFnCartWrites
open Go.Proofs.Ytcohcndliaaacaa.Qq
open Go.RowKit Go.Proofs.Ytcohcndliaaacaa.LibX Go.Proofs.Ytcohcndliaaacaa.LibC Go.Proofs.YtcohcndliaaacaaW.PrintWords Go.Proofs.YtcohcndliaaacaaW.PrintLast Go.Proofs.YtcohcndliaaacaaW.PrintMore
attribute [local go_sem] max2_int min2_int max_two min_two max_three min_three max_four min_four   -- for this text's walks alone
set_option maxHeartbeats 8000000
set_option maxRecDepth 100000
set_option linter.unusedVariables false
set_option linter.unusedSimpArgs false
def impl_CartOk.j0 : Nat → Bool → ByteArray → Int → Int → ByteArray → Int → Bool → Int → Option (Bool)
 | 0, _, _, _, _, _, _, _, _ => none
 | k + 1, x21, x488000, x488001, x488002, x488003, x488004, x488005, x488006 => if x21 = true then (some false) else (if x488001 = 0 then (if x488002 = 1 then (if x488004 = 0 then (if x488006 = 0 then (some (!x488005)) else (some false)) else (some false)) else (some false)) else (if x488001 = 1 then ((impl_within.f x488002 1 31).bind fun t489 => (if t489 = true then ((impl_within.f x488004 0 3).bind fun t490 => (if t490 = true then ((impl_within.f x488006 0 1).bind fun t491 => (some t491)) else (some false))) else (some false))) else (if x488001 = 2 then ((impl_isByte.f x488002).bind fun t492 => (if t492 = true then ((impl_within.f x488004 0 3).bind fun t493 => (if t493 = true then (some (x488006 == 0)) else (some false))) else (some false))) else (some false))))
def impl_CartOk.f (k : Nat) (a0_0 : ByteArray) (a0_1 : Int) (a0_2 : Int) (a0_3 : ByteArray) (a0_4 : Int) (a0_5 : Bool) (a0_6 : Int) : Option (Bool) := if ((a0_0.size : Int) % 256) = 0 then ((impl_within.f (wrap64 ((a0_0.size : Int) / 256)) 2 16).bind fun t488 => (if t488 = true then (impl_CartOk.j0 k ((a0_3.size : Int) != 256) a0_0 a0_1 a0_2 a0_3 a0_4 a0_5 a0_6) else (impl_CartOk.j0 k true a0_0 a0_1 a0_2 a0_3 a0_4 a0_5 a0_6))) else (impl_CartOk.j0 k true a0_0 a0_1 a0_2 a0_3 a0_4 a0_5 a0_6)
theorem impl_CartOk.mono_l : ∀ k, (∀ y0 y1 y2 y3 y4 y5 y6 y7, LeO (impl_CartOk.j0 k y0 y1 y2 y3 y4 y5 y6 y7) (impl_CartOk.j0 (k + 1) y0 y1 y2 y3 y4 y5 y6 y7))
 | 0 => fun _ _ _ _ _ _ _ _ r h => by simp [impl_CartOk.j0] at h
 | k + 1 => by
  have ih0 := impl_CartOk.mono_l k
  ·intro y0 y1 y2 y3 y4 y5 y6 y7
   unfold impl_CartOk.j0
   repeat' first
   | (with_reducible first | exact ih0 _ _ _ _ _ _ _ _ | exact LeO.refl _ | exact LeO.none _ | refine LeO.ite ?_ ?_ | refine LeO.bind ?_ (fun _ => ?_))
   | exact ih0 _ _ _ _ _ _ _ _
   | exact LeO.none _
   | refine LeO.ite ?_ ?_
   | refine LeO.bind ?_ (fun _ => ?_)
theorem impl_CartOk.mono : ∀ a0 a1 a2 a3 a4 a5 a6 k, LeO (impl_CartOk.f k a0 a1 a2 a3 a4 a5 a6) (impl_CartOk.f (k + 1) a0 a1 a2 a3 a4 a5 a6) := by
 intro a0 a1 a2 a3 a4 a5 a6 k
 have ih0 := impl_CartOk.mono_l k
 unfold impl_CartOk.f
 repeat' first
   | (with_reducible first | exact ih0 _ _ _ _ _ _ _ _ | exact LeO.refl _ | exact LeO.none _ | refine LeO.ite ?_ ?_ | refine LeO.bind ?_ (fun _ => ?_))
   | exact ih0 _ _ _ _ _ _ _ _
   | exact LeO.none _
   | refine LeO.ite ?_ ?_
   | refine LeO.bind ?_ (fun _ => ?_)
theorem impl_CartOk.calls (k : Nat) (a0_0 : ByteArray) (a0_1 : Int) (a0_2 : Int) (a0_3 : ByteArray) (a0_4 : Int) (a0_5 : Bool) (a0_6 : Int) (r : Bool) (w : World) (h : impl_CartOk.f k a0_0 a0_1 a0_2 a0_3 a0_4 a0_5 a0_6 = some r) :
  Calls Try.prog 24 #[.agg #[.string a0_0, .int .i64 a0_1, .int .i64 a0_2, .string a0_3, .int .i64 a0_4, .bool a0_5, .int .i64 a0_6]] w fun e w' => e = .returned (.bool r) ∧ Below w.heap.size w w' := by
 have hu32 := Try.underlying32
 have HB := Aside0.mk (Below.refl w.heap.size w)
 have H : (if ((a0_0.size : Int) % 256) = 0 then ((impl_within.f (wrap64 ((a0_0.size : Int) / 256)) 2 16).bind fun t488 => (if t488 = true then (impl_CartOk.j0 k ((a0_3.size : Int) != 256) a0_0 a0_1 a0_2 a0_3 a0_4 a0_5 a0_6) else (impl_CartOk.j0 k true a0_0 a0_1 a0_2 a0_3 a0_4 a0_5 a0_6))) else (impl_CartOk.j0 k true a0_0 a0_1 a0_2 a0_3 a0_4 a0_5 a0_6)) = some r := h
 clear h
 have HC2 := Aside0.mk H
 clear H
 go_enter Try.func24, Try.ntmps24
 go_upto_region 1 with (first | ((with_reducible refine gate_dst (N := 1) rfl ?_); (try (refine gate_guard (by rfl) ?_; dsimp only)); refine box_event ?hg (N := 1) ?hd (cs := #[.string a0_0, .int .i64 a0_1, .int .i64 a0_2, .string a0_3, .int .i64 a0_4, .bool a0_5, .int .i64 a0_6]) (t := 32) ?hr ?_; (case hd => rfl); (case hg => rfl); (case hr => exact q175_); intro gb487 hg w3 hbox hb; have n0_ := Aside0.mk (below_step q102_ hb); have n1_ := Aside0.mk (hbox); have n2_ := Aside0.mk ((q80_ : w.heap.size ≤ gb487)); have n3_ := Aside0.mk ((q80_ : w.heap.size ≤ gb487)); clear HB; have HB := n0_; have BK487 := n1_; have GW487 := n2_; have GE487 := n3_; clear n0_ n1_ n2_ n3_; clear hb hbox hg))
 (try simp only [Act.put, List.setIfInBounds_toArray, List.set_cons_zero, List.set_cons_succ])
 go_cut [21] (fun v21 wc => ∃ (kq : Nat) (x21_1 : Bool), v21 = .bool x21_1 ∧ Aside0 (impl_CartOk.j0 kq x21_1 a0_0 a0_1 a0_2 a0_3 a0_4 a0_5 a0_6 = some r) ∧ Aside0 (kq ≤ k) ∧ Aside0 (wc.heap[gb487]? = some (.cells #[.string a0_0, .int .i64 a0_1, .int .i64 a0_2, .string a0_3, .int .i64 a0_4, .bool a0_5, .int .i64 a0_6] 32 (0, 0))) ∧ Aside0 (Below w.heap.size w wc))
 case first =>
  have H := HC2.out
  clear HC2
  by_cases c4 : ((a0_0.size : Int) % 256) = 0
  ·rw [if_pos c4] at H
   have c4b0 : (((a0_0.size : Int) % 256) == 0) = true := beq_iff_eq.mpr c4
   have c4b1 : (((a0_0.size : Int) % 256) != 0) = false := bne_eq_false_iff_eq.mpr c4
   clear c4
   (first | rw [c4b0] | (simp only [i64_w, i32_w]; rw [c4b0]) | skip)
   replace H := Option.bind_eq_some_iff.mp H
   obtain ⟨t488, A50, H⟩ := H
   have A5 := Aside0.mk A50
   clear A50
   by_cases c6 : t488 = true
   ·subst c6
    replace H : (impl_CartOk.j0 k ((a0_3.size : Int) != 256) a0_0 a0_1 a0_2 a0_3 a0_4 a0_5 a0_6) = some r := by rw [if_pos rfl] at H; exact H
    have H' := Aside0.mk H
    clear H
    have hcz7_0 : w3.cell? ⟨gb487, 0, none⟩ = some (.string a0_0) := bz_ BK487 0
    have hcz7_1 : w3.cell? ⟨gb487, 1, none⟩ = some (.int .i64 a0_1) := bz_ BK487 1
    have hcz7_2 : w3.cell? ⟨gb487, 2, none⟩ = some (.int .i64 a0_2) := bz_ BK487 2
    have hcz7_3 : w3.cell? ⟨gb487, 3, none⟩ = some (.string a0_3) := bz_ BK487 3
    have hcz7_4 : w3.cell? ⟨gb487, 4, none⟩ = some (.int .i64 a0_4) := bz_ BK487 4
    have hcz7_5 : w3.cell? ⟨gb487, 5, none⟩ = some (.bool a0_5) := bz_ BK487 5
    have hcz7_6 : w3.cell? ⟨gb487, 6, none⟩ = some (.int .i64 a0_6) := bz_ BK487 6
    have hfz7_0 := blk_frozen BK487.out 0
    have hfz7_1 := blk_frozen BK487.out 1
    have hfz7_2 := blk_frozen BK487.out 2
    have hfz7_3 := blk_frozen BK487.out 3
    have hfz7_4 := blk_frozen BK487.out 4
    have hfz7_5 := blk_frozen BK487.out 5
    have hfz7_6 := blk_frozen BK487.out 6
    go_wp2_with (first | (go_at_call 38; (with_reducible refine (impl_within.calls (wrap64 ((a0_0.size : Int) / 256)) 2 16 true _ A5.out).mono ?_); rintro e w' ⟨rfl, ⟨nd, rfl⟩⟩))
    go_meet
    case rel => exact ⟨_, (((a0_3.size : Int) != 256)), q133_, H', ⟨q153_⟩, ⟨q120_⟩, ⟨q88_⟩⟩
   ·replace c6 := Bool.eq_false_iff.mpr c6
    subst c6
    replace H : (impl_CartOk.j0 k true a0_0 a0_1 a0_2 a0_3 a0_4 a0_5 a0_6) = some r := by rw [if_neg (show ¬ (false = true) by decide)] at H; exact H
    have H' := Aside0.mk H
    clear H
    have hcz8_0 : w3.cell? ⟨gb487, 0, none⟩ = some (.string a0_0) := bz_ BK487 0
    have hcz8_1 : w3.cell? ⟨gb487, 1, none⟩ = some (.int .i64 a0_1) := bz_ BK487 1
    have hcz8_2 : w3.cell? ⟨gb487, 2, none⟩ = some (.int .i64 a0_2) := bz_ BK487 2
    have hcz8_3 : w3.cell? ⟨gb487, 3, none⟩ = some (.string a0_3) := bz_ BK487 3
    have hcz8_4 : w3.cell? ⟨gb487, 4, none⟩ = some (.int .i64 a0_4) := bz_ BK487 4
    have hcz8_5 : w3.cell? ⟨gb487, 5, none⟩ = some (.bool a0_5) := bz_ BK487 5
    have hcz8_6 : w3.cell? ⟨gb487, 6, none⟩ = some (.int .i64 a0_6) := bz_ BK487 6
    have hfz8_0 := blk_frozen BK487.out 0
    have hfz8_1 := blk_frozen BK487.out 1
    have hfz8_2 := blk_frozen BK487.out 2
    have hfz8_3 := blk_frozen BK487.out 3
    have hfz8_4 := blk_frozen BK487.out 4
    have hfz8_5 := blk_frozen BK487.out 5
    have hfz8_6 := blk_frozen BK487.out 6
    go_wp2_with (first | (go_at_call 38; (with_reducible refine (impl_within.calls (wrap64 ((a0_0.size : Int) / 256)) 2 16 false _ A5.out).mono ?_); rintro e w' ⟨rfl, ⟨nd, rfl⟩⟩))
    go_meet
    case rel => exact ⟨_, (true), q133_, H', ⟨q153_⟩, ⟨q120_⟩, ⟨q88_⟩⟩
  ·rw [if_neg c4] at H
   have c4b0 : (((a0_0.size : Int) % 256) == 0) = false := beq_eq_false_iff_ne.mpr c4
   have c4b1 : (((a0_0.size : Int) % 256) != 0) = true := bne_iff_ne.mpr c4
   (first | rw [c4b0] | (simp only [i64_w, i32_w]; rw [c4b0]) | skip)
   have H' := Aside0.mk H
   clear H
   have hcz9_0 : w3.cell? ⟨gb487, 0, none⟩ = some (.string a0_0) := bz_ BK487 0
   have hcz9_1 : w3.cell? ⟨gb487, 1, none⟩ = some (.int .i64 a0_1) := bz_ BK487 1
   have hcz9_2 : w3.cell? ⟨gb487, 2, none⟩ = some (.int .i64 a0_2) := bz_ BK487 2
   have hcz9_3 : w3.cell? ⟨gb487, 3, none⟩ = some (.string a0_3) := bz_ BK487 3
   have hcz9_4 : w3.cell? ⟨gb487, 4, none⟩ = some (.int .i64 a0_4) := bz_ BK487 4
   have hcz9_5 : w3.cell? ⟨gb487, 5, none⟩ = some (.bool a0_5) := bz_ BK487 5
   have hcz9_6 : w3.cell? ⟨gb487, 6, none⟩ = some (.int .i64 a0_6) := bz_ BK487 6
   have hfz9_0 := blk_frozen BK487.out 0
   have hfz9_1 := blk_frozen BK487.out 1
   have hfz9_2 := blk_frozen BK487.out 2
   have hfz9_3 := blk_frozen BK487.out 3
   have hfz9_4 := blk_frozen BK487.out 4
   have hfz9_5 := blk_frozen BK487.out 5
   have hfz9_6 := blk_frozen BK487.out 6
   go_wp2
   go_meet
   case rel => exact ⟨_, (true), q133_, H', ⟨q153_⟩, ⟨q120_⟩, ⟨q88_⟩⟩
 case rest =>
  clear HC2
  try clear c2
  try clear p2
  try clear c4
  try clear c4b0
  try clear c4b1
  try clear c6
  try clear p6
  try clear hcz7_0 hcz7_1 hcz7_2 hcz7_3 hcz7_4 hcz7_5 hcz7_6
  try clear hcz8_0 hcz8_1 hcz8_2 hcz8_3 hcz8_4 hcz8_5 hcz8_6
  try clear hcz9_0 hcz9_1 hcz9_2 hcz9_3 hcz9_4 hcz9_5 hcz9_6
  try clear hfz7_0 hfz7_1 hfz7_2 hfz7_3 hfz7_4 hfz7_5 hfz7_6
  try clear hfz8_0 hfz8_1 hfz8_2 hfz8_3 hfz8_4 hfz8_5 hfz8_6
  try clear hfz9_0 hfz9_1 hfz9_2 hfz9_3 hfz9_4 hfz9_5 hfz9_6
  obtain ⟨kq, x21_1, rfl, HA, HJ1, BK487, HB⟩ := hcut
  cases kq with
  | zero => exact absurd HA.out (by simp [impl_CartOk.j0])
  | succ kj1 =>
   have H := HA.out
   clear HA
   simp only [impl_CartOk.j0] at H
   by_cases c10 : x21_1 = true
   ·subst c10
    replace H : (some false) = some r := by rw [if_pos rfl] at H; exact H
    obtain rfl := Option.some.inj H
    go_wp2
    go_ret
    exact ⟨q103_, q88_⟩
   ·replace c10 := Bool.eq_false_iff.mpr c10
    subst c10
    replace H : (if a0_1 = 0 then (if a0_2 = 1 then (if a0_4 = 0 then (if a0_6 = 0 then (some (!a0_5)) else (some false)) else (some false)) else (some false)) else (if a0_1 = 1 then ((impl_within.f a0_2 1 31).bind fun t489 => (if t489 = true then ((impl_within.f a0_4 0 3).bind fun t490 => (if t490 = true then ((impl_within.f a0_6 0 1).bind fun t491 => (some t491)) else (some false))) else (some false))) else (if a0_1 = 2 then ((impl_isByte.f a0_2).bind fun t492 => (if t492 = true then ((impl_within.f a0_4 0 3).bind fun t493 => (if t493 = true then (some (a0_6 == 0)) else (some false))) else (some false))) else (some false)))) = some r := by rw [if_neg (show ¬ (false = true) by decide)] at H; exact H
    by_cases c11 : a0_1 = 0
    ·rw [if_pos c11] at H
     have c11b0 : (a0_1 == 0) = true := beq_iff_eq.mpr c11
     have c11b1 : (a0_1 != 0) = false := bne_eq_false_iff_eq.mpr c11
     clear c11
     by_cases c12 : a0_2 = 1
     ·rw [if_pos c12] at H
      have c12b0 : (a0_2 == 1) = true := beq_iff_eq.mpr c12
      have c12b1 : (a0_2 != 1) = false := bne_eq_false_iff_eq.mpr c12
      clear c12
      by_cases c13 : a0_4 = 0
      ·rw [if_pos c13] at H
       have c13b0 : (a0_4 == 0) = true := beq_iff_eq.mpr c13
       have c13b1 : (a0_4 != 0) = false := bne_eq_false_iff_eq.mpr c13
       clear c13
       by_cases c14 : a0_6 = 0
       ·rw [if_pos c14] at H
        have c14b0 : (a0_6 == 0) = true := beq_iff_eq.mpr c14
        have c14b1 : (a0_6 != 0) = false := bne_eq_false_iff_eq.mpr c14
        clear c14
        obtain rfl := Option.some.inj H
        have hcz15_0 : wc.cell? ⟨gb487, 0, none⟩ = some (.string a0_0) := bz_ BK487 0
        have hcz15_1 : wc.cell? ⟨gb487, 1, none⟩ = some (.int .i64 a0_1) := bz_ BK487 1
        have hcz15_2 : wc.cell? ⟨gb487, 2, none⟩ = some (.int .i64 a0_2) := bz_ BK487 2
        have hcz15_3 : wc.cell? ⟨gb487, 3, none⟩ = some (.string a0_3) := bz_ BK487 3
        have hcz15_4 : wc.cell? ⟨gb487, 4, none⟩ = some (.int .i64 a0_4) := bz_ BK487 4
        have hcz15_5 : wc.cell? ⟨gb487, 5, none⟩ = some (.bool a0_5) := bz_ BK487 5
        have hcz15_6 : wc.cell? ⟨gb487, 6, none⟩ = some (.int .i64 a0_6) := bz_ BK487 6
        have hfz15_0 := blk_frozen BK487.out 0
        have hfz15_1 := blk_frozen BK487.out 1
        have hfz15_2 := blk_frozen BK487.out 2
        have hfz15_3 := blk_frozen BK487.out 3
        have hfz15_4 := blk_frozen BK487.out 4
        have hfz15_5 := blk_frozen BK487.out 5
        have hfz15_6 := blk_frozen BK487.out 6
        go_wp2
        go_ret
        exact ⟨q103_, q88_⟩
       ·rw [if_neg c14] at H
        have c14b0 : (a0_6 == 0) = false := beq_eq_false_iff_ne.mpr c14
        have c14b1 : (a0_6 != 0) = true := bne_iff_ne.mpr c14
        obtain rfl := Option.some.inj H
        have hcz16_0 : wc.cell? ⟨gb487, 0, none⟩ = some (.string a0_0) := bz_ BK487 0
        have hcz16_1 : wc.cell? ⟨gb487, 1, none⟩ = some (.int .i64 a0_1) := bz_ BK487 1
        have hcz16_2 : wc.cell? ⟨gb487, 2, none⟩ = some (.int .i64 a0_2) := bz_ BK487 2
        have hcz16_3 : wc.cell? ⟨gb487, 3, none⟩ = some (.string a0_3) := bz_ BK487 3
        have hcz16_4 : wc.cell? ⟨gb487, 4, none⟩ = some (.int .i64 a0_4) := bz_ BK487 4
        have hcz16_5 : wc.cell? ⟨gb487, 5, none⟩ = some (.bool a0_5) := bz_ BK487 5
        have hcz16_6 : wc.cell? ⟨gb487, 6, none⟩ = some (.int .i64 a0_6) := bz_ BK487 6
        have hfz16_0 := blk_frozen BK487.out 0
        have hfz16_1 := blk_frozen BK487.out 1
        have hfz16_2 := blk_frozen BK487.out 2
        have hfz16_3 := blk_frozen BK487.out 3
        have hfz16_4 := blk_frozen BK487.out 4
        have hfz16_5 := blk_frozen BK487.out 5
        have hfz16_6 := blk_frozen BK487.out 6
        go_wp2
        go_ret
        exact ⟨q103_, q88_⟩
      ·rw [if_neg c13] at H
       have c13b0 : (a0_4 == 0) = false := beq_eq_false_iff_ne.mpr c13
       have c13b1 : (a0_4 != 0) = true := bne_iff_ne.mpr c13
       obtain rfl := Option.some.inj H
       have hcz17_0 : wc.cell? ⟨gb487, 0, none⟩ = some (.string a0_0) := bz_ BK487 0
       have hcz17_1 : wc.cell? ⟨gb487, 1, none⟩ = some (.int .i64 a0_1) := bz_ BK487 1
       have hcz17_2 : wc.cell? ⟨gb487, 2, none⟩ = some (.int .i64 a0_2) := bz_ BK487 2
       have hcz17_3 : wc.cell? ⟨gb487, 3, none⟩ = some (.string a0_3) := bz_ BK487 3
       have hcz17_4 : wc.cell? ⟨gb487, 4, none⟩ = some (.int .i64 a0_4) := bz_ BK487 4
       have hcz17_5 : wc.cell? ⟨gb487, 5, none⟩ = some (.bool a0_5) := bz_ BK487 5
       have hcz17_6 : wc.cell? ⟨gb487, 6, none⟩ = some (.int .i64 a0_6) := bz_ BK487 6
       have hfz17_0 := blk_frozen BK487.out 0
       have hfz17_1 := blk_frozen BK487.out 1
       have hfz17_2 := blk_frozen BK487.out 2
       have hfz17_3 := blk_frozen BK487.out 3
       have hfz17_4 := blk_frozen BK487.out 4
       have hfz17_5 := blk_frozen BK487.out 5
       have hfz17_6 := blk_frozen BK487.out 6
       go_wp2
       go_ret
       exact ⟨q103_, q88_⟩
     ·rw [if_neg c12] at H
      have c12b0 : (a0_2 == 1) = false := beq_eq_false_iff_ne.mpr c12
      have c12b1 : (a0_2 != 1) = true := bne_iff_ne.mpr c12
      obtain rfl := Option.some.inj H
      have hcz18_0 : wc.cell? ⟨gb487, 0, none⟩ = some (.string a0_0) := bz_ BK487 0
      have hcz18_1 : wc.cell? ⟨gb487, 1, none⟩ = some (.int .i64 a0_1) := bz_ BK487 1
      have hcz18_2 : wc.cell? ⟨gb487, 2, none⟩ = some (.int .i64 a0_2) := bz_ BK487 2
      have hcz18_3 : wc.cell? ⟨gb487, 3, none⟩ = some (.string a0_3) := bz_ BK487 3
      have hcz18_4 : wc.cell? ⟨gb487, 4, none⟩ = some (.int .i64 a0_4) := bz_ BK487 4
      have hcz18_5 : wc.cell? ⟨gb487, 5, none⟩ = some (.bool a0_5) := bz_ BK487 5
      have hcz18_6 : wc.cell? ⟨gb487, 6, none⟩ = some (.int .i64 a0_6) := bz_ BK487 6
      have hfz18_0 := blk_frozen BK487.out 0
      have hfz18_1 := blk_frozen BK487.out 1
      have hfz18_2 := blk_frozen BK487.out 2
      have hfz18_3 := blk_frozen BK487.out 3
      have hfz18_4 := blk_frozen BK487.out 4
      have hfz18_5 := blk_frozen BK487.out 5
      have hfz18_6 := blk_frozen BK487.out 6
      go_wp2
      go_ret
      exact ⟨q103_, q88_⟩
    ·rw [if_neg c11] at H
     have c11b0 : (a0_1 == 0) = false := beq_eq_false_iff_ne.mpr c11
     have c11b1 : (a0_1 != 0) = true := bne_iff_ne.mpr c11
     by_cases c19 : a0_1 = 1
     ·rw [if_pos c19] at H
      have c19b0 : (a0_1 == 1) = true := beq_iff_eq.mpr c19
      have c19b1 : (a0_1 != 1) = false := bne_eq_false_iff_eq.mpr c19
      clear c19
      replace H := Option.bind_eq_some_iff.mp H
      obtain ⟨t489, A200, H⟩ := H
      have A20 := Aside0.mk A200
      clear A200
      by_cases c21 : t489 = true
      ·subst c21
       replace H : ((impl_within.f a0_4 0 3).bind fun t490 => (if t490 = true then ((impl_within.f a0_6 0 1).bind fun t491 => (some t491)) else (some false))) = some r := by rw [if_pos rfl] at H; exact H
       replace H := Option.bind_eq_some_iff.mp H
       obtain ⟨t490, A220, H⟩ := H
       have A22 := Aside0.mk A220
       clear A220
       by_cases c23 : t490 = true
       ·subst c23
        replace H : ((impl_within.f a0_6 0 1).bind fun t491 => (some t491)) = some r := by rw [if_pos rfl] at H; exact H
        replace H := Option.bind_eq_some_iff.mp H
        obtain ⟨t491, A240, H⟩ := H
        have A24 := Aside0.mk A240
        clear A240
        obtain rfl := Option.some.inj H
        have hcz25_0 : wc.cell? ⟨gb487, 0, none⟩ = some (.string a0_0) := bz_ BK487 0
        have hcz25_1 : wc.cell? ⟨gb487, 1, none⟩ = some (.int .i64 a0_1) := bz_ BK487 1
        have hcz25_2 : wc.cell? ⟨gb487, 2, none⟩ = some (.int .i64 a0_2) := bz_ BK487 2
        have hcz25_3 : wc.cell? ⟨gb487, 3, none⟩ = some (.string a0_3) := bz_ BK487 3
        have hcz25_4 : wc.cell? ⟨gb487, 4, none⟩ = some (.int .i64 a0_4) := bz_ BK487 4
        have hcz25_5 : wc.cell? ⟨gb487, 5, none⟩ = some (.bool a0_5) := bz_ BK487 5
        have hcz25_6 : wc.cell? ⟨gb487, 6, none⟩ = some (.int .i64 a0_6) := bz_ BK487 6
        have hfz25_0 := blk_frozen BK487.out 0
        have hfz25_1 := blk_frozen BK487.out 1
        have hfz25_2 := blk_frozen BK487.out 2
        have hfz25_3 := blk_frozen BK487.out 3
        have hfz25_4 := blk_frozen BK487.out 4
        have hfz25_5 := blk_frozen BK487.out 5
        have hfz25_6 := blk_frozen BK487.out 6
        go_wp2_with (first | ((with_reducible refine gate_callee (f := 38) rfl ?_); refine goesL_ (some 48) rfl rfl Try.func38 (by kernel_rfl) rfl #[.int .i64 a0_2, .int .i64 1, .int .i64 31] rfl q101_ ?_; (with_reducible refine (impl_within.calls a0_2 1 31 true _ A20.out).mono ?_); rintro e w' ⟨rfl, ⟨nd, rfl⟩⟩; refine ⟨_, rfl, ?_⟩) | (go_at_call 38; (with_reducible refine (impl_within.calls a0_4 0 3 true _ A22.out).mono ?_); rintro e w' ⟨rfl, ⟨nd, rfl⟩⟩) | (go_at_call 38; (with_reducible refine (impl_within.calls a0_6 0 1 t491 _ A24.out).mono ?_); rintro e w' ⟨rfl, ⟨nd, rfl⟩⟩))
        go_ret
        exact ⟨q103_, q88_⟩
       ·replace c23 := Bool.eq_false_iff.mpr c23
        subst c23
        replace H : (some false) = some r := by rw [if_neg (show ¬ (false = true) by decide)] at H; exact H
        obtain rfl := Option.some.inj H
        have hcz26_0 : wc.cell? ⟨gb487, 0, none⟩ = some (.string a0_0) := bz_ BK487 0
        have hcz26_1 : wc.cell? ⟨gb487, 1, none⟩ = some (.int .i64 a0_1) := bz_ BK487 1
        have hcz26_2 : wc.cell? ⟨gb487, 2, none⟩ = some (.int .i64 a0_2) := bz_ BK487 2
        have hcz26_3 : wc.cell? ⟨gb487, 3, none⟩ = some (.string a0_3) := bz_ BK487 3
        have hcz26_4 : wc.cell? ⟨gb487, 4, none⟩ = some (.int .i64 a0_4) := bz_ BK487 4
        have hcz26_5 : wc.cell? ⟨gb487, 5, none⟩ = some (.bool a0_5) := bz_ BK487 5
        have hcz26_6 : wc.cell? ⟨gb487, 6, none⟩ = some (.int .i64 a0_6) := bz_ BK487 6
        have hfz26_0 := blk_frozen BK487.out 0
        have hfz26_1 := blk_frozen BK487.out 1
        have hfz26_2 := blk_frozen BK487.out 2
        have hfz26_3 := blk_frozen BK487.out 3
        have hfz26_4 := blk_frozen BK487.out 4
        have hfz26_5 := blk_frozen BK487.out 5
        have hfz26_6 := blk_frozen BK487.out 6
        go_wp2_with (first | ((with_reducible refine gate_callee (f := 38) rfl ?_); refine goesL_ (some 48) rfl rfl Try.func38 (by kernel_rfl) rfl #[.int .i64 a0_2, .int .i64 1, .int .i64 31] rfl q101_ ?_; (with_reducible refine (impl_within.calls a0_2 1 31 true _ A20.out).mono ?_); rintro e w' ⟨rfl, ⟨nd, rfl⟩⟩; refine ⟨_, rfl, ?_⟩) | (go_at_call 38; (with_reducible refine (impl_within.calls a0_4 0 3 false _ A22.out).mono ?_); rintro e w' ⟨rfl, ⟨nd, rfl⟩⟩))
        go_ret
        exact ⟨q103_, q88_⟩
      ·replace c21 := Bool.eq_false_iff.mpr c21
       subst c21
       replace H : (some false) = some r := by rw [if_neg (show ¬ (false = true) by decide)] at H; exact H
       obtain rfl := Option.some.inj H
       have hcz27_0 : wc.cell? ⟨gb487, 0, none⟩ = some (.string a0_0) := bz_ BK487 0
       have hcz27_1 : wc.cell? ⟨gb487, 1, none⟩ = some (.int .i64 a0_1) := bz_ BK487 1
       have hcz27_2 : wc.cell? ⟨gb487, 2, none⟩ = some (.int .i64 a0_2) := bz_ BK487 2
       have hcz27_3 : wc.cell? ⟨gb487, 3, none⟩ = some (.string a0_3) := bz_ BK487 3
       have hcz27_4 : wc.cell? ⟨gb487, 4, none⟩ = some (.int .i64 a0_4) := bz_ BK487 4
       have hcz27_5 : wc.cell? ⟨gb487, 5, none⟩ = some (.bool a0_5) := bz_ BK487 5
       have hcz27_6 : wc.cell? ⟨gb487, 6, none⟩ = some (.int .i64 a0_6) := bz_ BK487 6
       have hfz27_0 := blk_frozen BK487.out 0
       have hfz27_1 := blk_frozen BK487.out 1
       have hfz27_2 := blk_frozen BK487.out 2
       have hfz27_3 := blk_frozen BK487.out 3
       have hfz27_4 := blk_frozen BK487.out 4
       have hfz27_5 := blk_frozen BK487.out 5
       have hfz27_6 := blk_frozen BK487.out 6
       go_wp2_with (first | ((with_reducible refine gate_callee (f := 38) rfl ?_); refine goesL_ (some 48) rfl rfl Try.func38 (by kernel_rfl) rfl #[.int .i64 a0_2, .int .i64 1, .int .i64 31] rfl q101_ ?_; (with_reducible refine (impl_within.calls a0_2 1 31 false _ A20.out).mono ?_); rintro e w' ⟨rfl, ⟨nd, rfl⟩⟩; refine ⟨_, rfl, ?_⟩))
       go_ret
       exact ⟨q103_, q88_⟩
     ·rw [if_neg c19] at H
      have c19b0 : (a0_1 == 1) = false := beq_eq_false_iff_ne.mpr c19
      have c19b1 : (a0_1 != 1) = true := bne_iff_ne.mpr c19
      by_cases c28 : a0_1 = 2
      ·rw [if_pos c28] at H
       have c28b0 : (a0_1 == 2) = true := beq_iff_eq.mpr c28
       have c28b1 : (a0_1 != 2) = false := bne_eq_false_iff_eq.mpr c28
       clear c28
       replace H := Option.bind_eq_some_iff.mp H
       obtain ⟨t492, A290, H⟩ := H
       have A29 := Aside0.mk A290
       clear A290
       by_cases c30 : t492 = true
       ·subst c30
        replace H : ((impl_within.f a0_4 0 3).bind fun t493 => (if t493 = true then (some (a0_6 == 0)) else (some false))) = some r := by rw [if_pos rfl] at H; exact H
        replace H := Option.bind_eq_some_iff.mp H
        obtain ⟨t493, A310, H⟩ := H
        have A31 := Aside0.mk A310
        clear A310
        by_cases c32 : t493 = true
        ·subst c32
         replace H : (some (a0_6 == 0)) = some r := by rw [if_pos rfl] at H; exact H
         obtain rfl := Option.some.inj H
         have hcz33_0 : wc.cell? ⟨gb487, 0, none⟩ = some (.string a0_0) := bz_ BK487 0
         have hcz33_1 : wc.cell? ⟨gb487, 1, none⟩ = some (.int .i64 a0_1) := bz_ BK487 1
         have hcz33_2 : wc.cell? ⟨gb487, 2, none⟩ = some (.int .i64 a0_2) := bz_ BK487 2
         have hcz33_3 : wc.cell? ⟨gb487, 3, none⟩ = some (.string a0_3) := bz_ BK487 3
         have hcz33_4 : wc.cell? ⟨gb487, 4, none⟩ = some (.int .i64 a0_4) := bz_ BK487 4
         have hcz33_5 : wc.cell? ⟨gb487, 5, none⟩ = some (.bool a0_5) := bz_ BK487 5
         have hcz33_6 : wc.cell? ⟨gb487, 6, none⟩ = some (.int .i64 a0_6) := bz_ BK487 6
         have hfz33_0 := blk_frozen BK487.out 0
         have hfz33_1 := blk_frozen BK487.out 1
         have hfz33_2 := blk_frozen BK487.out 2
         have hfz33_3 := blk_frozen BK487.out 3
         have hfz33_4 := blk_frozen BK487.out 4
         have hfz33_5 := blk_frozen BK487.out 5
         have hfz33_6 := blk_frozen BK487.out 6
         go_wp2_with (first | ((with_reducible refine gate_callee (f := 60) rfl ?_); refine goesL_ (some 63) rfl rfl Try.func60 (by kernel_rfl) rfl #[.int .i64 a0_2] rfl q101_ ?_; (with_reducible refine (impl_isByte.calls a0_2 true _ A29.out).mono ?_); rintro e w' ⟨rfl, ⟨nd, rfl⟩⟩; refine ⟨_, rfl, ?_⟩) | (go_at_call 38; (with_reducible refine (impl_within.calls a0_4 0 3 true _ A31.out).mono ?_); rintro e w' ⟨rfl, ⟨nd, rfl⟩⟩))
         go_ret
         exact ⟨q103_, q88_⟩
        ·replace c32 := Bool.eq_false_iff.mpr c32
         subst c32
         replace H : (some false) = some r := by rw [if_neg (show ¬ (false = true) by decide)] at H; exact H
         obtain rfl := Option.some.inj H
         have hcz34_0 : wc.cell? ⟨gb487, 0, none⟩ = some (.string a0_0) := bz_ BK487 0
         have hcz34_1 : wc.cell? ⟨gb487, 1, none⟩ = some (.int .i64 a0_1) := bz_ BK487 1
         have hcz34_2 : wc.cell? ⟨gb487, 2, none⟩ = some (.int .i64 a0_2) := bz_ BK487 2
         have hcz34_3 : wc.cell? ⟨gb487, 3, none⟩ = some (.string a0_3) := bz_ BK487 3
         have hcz34_4 : wc.cell? ⟨gb487, 4, none⟩ = some (.int .i64 a0_4) := bz_ BK487 4
         have hcz34_5 : wc.cell? ⟨gb487, 5, none⟩ = some (.bool a0_5) := bz_ BK487 5
         have hcz34_6 : wc.cell? ⟨gb487, 6, none⟩ = some (.int .i64 a0_6) := bz_ BK487 6
         have hfz34_0 := blk_frozen BK487.out 0
         have hfz34_1 := blk_frozen BK487.out 1
         have hfz34_2 := blk_frozen BK487.out 2
         have hfz34_3 := blk_frozen BK487.out 3
         have hfz34_4 := blk_frozen BK487.out 4
         have hfz34_5 := blk_frozen BK487.out 5
         have hfz34_6 := blk_frozen BK487.out 6
         go_wp2_with (first | ((with_reducible refine gate_callee (f := 60) rfl ?_); refine goesL_ (some 63) rfl rfl Try.func60 (by kernel_rfl) rfl #[.int .i64 a0_2] rfl q101_ ?_; (with_reducible refine (impl_isByte.calls a0_2 true _ A29.out).mono ?_); rintro e w' ⟨rfl, ⟨nd, rfl⟩⟩; refine ⟨_, rfl, ?_⟩) | (go_at_call 38; (with_reducible refine (impl_within.calls a0_4 0 3 false _ A31.out).mono ?_); rintro e w' ⟨rfl, ⟨nd, rfl⟩⟩))
         go_ret
         exact ⟨q103_, q88_⟩
       ·replace c30 := Bool.eq_false_iff.mpr c30
        subst c30
        replace H : (some false) = some r := by rw [if_neg (show ¬ (false = true) by decide)] at H; exact H
        obtain rfl := Option.some.inj H
        have hcz35_0 : wc.cell? ⟨gb487, 0, none⟩ = some (.string a0_0) := bz_ BK487 0
        have hcz35_1 : wc.cell? ⟨gb487, 1, none⟩ = some (.int .i64 a0_1) := bz_ BK487 1
        have hcz35_2 : wc.cell? ⟨gb487, 2, none⟩ = some (.int .i64 a0_2) := bz_ BK487 2
        have hcz35_3 : wc.cell? ⟨gb487, 3, none⟩ = some (.string a0_3) := bz_ BK487 3
        have hcz35_4 : wc.cell? ⟨gb487, 4, none⟩ = some (.int .i64 a0_4) := bz_ BK487 4
        have hcz35_5 : wc.cell? ⟨gb487, 5, none⟩ = some (.bool a0_5) := bz_ BK487 5
        have hcz35_6 : wc.cell? ⟨gb487, 6, none⟩ = some (.int .i64 a0_6) := bz_ BK487 6
        have hfz35_0 := blk_frozen BK487.out 0
        have hfz35_1 := blk_frozen BK487.out 1
        have hfz35_2 := blk_frozen BK487.out 2
        have hfz35_3 := blk_frozen BK487.out 3
        have hfz35_4 := blk_frozen BK487.out 4
        have hfz35_5 := blk_frozen BK487.out 5
        have hfz35_6 := blk_frozen BK487.out 6
        go_wp2_with (first | ((with_reducible refine gate_callee (f := 60) rfl ?_); refine goesL_ (some 63) rfl rfl Try.func60 (by kernel_rfl) rfl #[.int .i64 a0_2] rfl q101_ ?_; (with_reducible refine (impl_isByte.calls a0_2 false _ A29.out).mono ?_); rintro e w' ⟨rfl, ⟨nd, rfl⟩⟩; refine ⟨_, rfl, ?_⟩))
        go_ret
        exact ⟨q103_, q88_⟩
      ·rw [if_neg c28] at H
       have c28b0 : (a0_1 == 2) = false := beq_eq_false_iff_ne.mpr c28
       have c28b1 : (a0_1 != 2) = true := bne_iff_ne.mpr c28
       obtain rfl := Option.some.inj H
       have hcz36_0 : wc.cell? ⟨gb487, 0, none⟩ = some (.string a0_0) := bz_ BK487 0
       have hcz36_1 : wc.cell? ⟨gb487, 1, none⟩ = some (.int .i64 a0_1) := bz_ BK487 1
       have hcz36_2 : wc.cell? ⟨gb487, 2, none⟩ = some (.int .i64 a0_2) := bz_ BK487 2
       have hcz36_3 : wc.cell? ⟨gb487, 3, none⟩ = some (.string a0_3) := bz_ BK487 3
       have hcz36_4 : wc.cell? ⟨gb487, 4, none⟩ = some (.int .i64 a0_4) := bz_ BK487 4
       have hcz36_5 : wc.cell? ⟨gb487, 5, none⟩ = some (.bool a0_5) := bz_ BK487 5
       have hcz36_6 : wc.cell? ⟨gb487, 6, none⟩ = some (.int .i64 a0_6) := bz_ BK487 6
       have hfz36_0 := blk_frozen BK487.out 0
       have hfz36_1 := blk_frozen BK487.out 1
       have hfz36_2 := blk_frozen BK487.out 2
       have hfz36_3 := blk_frozen BK487.out 3
       have hfz36_4 := blk_frozen BK487.out 4
       have hfz36_5 := blk_frozen BK487.out 5
       have hfz36_6 := blk_frozen BK487.out 6
       go_wp2
       go_ret
       exact ⟨q103_, q88_⟩
def impl_isWord.f (a0 : Int) : Option (Bool) := (impl_within.f a0 0 65535).bind fun t494 => (some t494)
theorem impl_isWord.calls (a0 : Int) (r : Bool) (w : World) (h : impl_isWord.f a0 = some r) :
  Calls Try.prog 59 #[.int .i64 a0] w fun e w' => e = .returned (.bool r) ∧ Drawn0 w w' := by
 have H : ((impl_within.f a0 0 65535).bind fun t494 => (some t494)) = some r := h
 clear h
 replace H := Option.bind_eq_some_iff.mp H
 obtain ⟨t494, A20, H⟩ := H
 have A2 := Aside0.mk A20
 clear A20
 obtain rfl := Option.some.inj H
 go_enter Try.func59, Try.ntmps59
 go_wp2_with (first | ((with_reducible refine gate_callee (f := 38) rfl ?_); refine goesL_ (some 4) rfl rfl Try.func38 (by kernel_rfl) rfl #[.int .i64 a0, .int .i64 0, .int .i64 65535] rfl q101_ ?_; (with_reducible refine (impl_within.calls a0 0 65535 t494 _ A2.out).mono ?_); rintro e w' ⟨rfl, ⟨nd, rfl⟩⟩; refine ⟨_, rfl, ?_⟩))
 go_ret
 exact ⟨q133_, q140_⟩
def impl_Cart_ramPlace.j0 : Nat → Int → Bool → ByteArray → Int → Int → ByteArray → Int → Bool → Int → Option (Int)
 | 0, _, _, _, _, _, _, _, _, _ => none
 | k + 1, x1, x13, x496000, x496001, x496002, x496003, x496004, x496005, x496006 => if x13 = true then (some (-1)) else (if x496001 = 1 then (if x496006 = 0 then (some (wrap64 ((wrap64 ((0 * 64) + x1)) - 40960))) else (some (wrap64 ((wrap64 ((wrap64 (x496004 * 64)) + x1)) - 40960)))) else (some (wrap64 ((wrap64 ((wrap64 (x496004 * 64)) + x1)) - 40960))))
def impl_Cart_ramPlace.f (k : Nat) (a0_0 : ByteArray) (a0_1 : Int) (a0_2 : Int) (a0_3 : ByteArray) (a0_4 : Int) (a0_5 : Bool) (a0_6 : Int) (a1 : Int) : Option (Int) := if a0_5 = true then ((impl_within.f a1 40960 41023).bind fun t496 => (impl_Cart_ramPlace.j0 k a1 (!t496) a0_0 a0_1 a0_2 a0_3 a0_4 a0_5 a0_6)) else (impl_Cart_ramPlace.j0 k a1 true a0_0 a0_1 a0_2 a0_3 a0_4 a0_5 a0_6)
theorem impl_Cart_ramPlace.mono_l : ∀ k, (∀ y0 y1 y2 y3 y4 y5 y6 y7 y8, LeO (impl_Cart_ramPlace.j0 k y0 y1 y2 y3 y4 y5 y6 y7 y8) (impl_Cart_ramPlace.j0 (k + 1) y0 y1 y2 y3 y4 y5 y6 y7 y8))
 | 0 => fun _ _ _ _ _ _ _ _ _ r h => by simp [impl_Cart_ramPlace.j0] at h
 | k + 1 => by
  have ih0 := impl_Cart_ramPlace.mono_l k
  ·intro y0 y1 y2 y3 y4 y5 y6 y7 y8
   unfold impl_Cart_ramPlace.j0
   repeat' first
   | (with_reducible first | exact ih0 _ _ _ _ _ _ _ _ _ | exact LeO.refl _ | exact LeO.none _ | refine LeO.ite ?_ ?_ | refine LeO.bind ?_ (fun _ => ?_))
   | exact ih0 _ _ _ _ _ _ _ _ _
   | exact LeO.none _
   | refine LeO.ite ?_ ?_
   | refine LeO.bind ?_ (fun _ => ?_)
theorem impl_Cart_ramPlace.mono : ∀ a0 a1 a2 a3 a4 a5 a6 a7 k, LeO (impl_Cart_ramPlace.f k a0 a1 a2 a3 a4 a5 a6 a7) (impl_Cart_ramPlace.f (k + 1) a0 a1 a2 a3 a4 a5 a6 a7) := by
 intro a0 a1 a2 a3 a4 a5 a6 a7 k
 have ih0 := impl_Cart_ramPlace.mono_l k
 unfold impl_Cart_ramPlace.f
 repeat' first
   | (with_reducible first | exact ih0 _ _ _ _ _ _ _ _ _ | exact LeO.refl _ | exact LeO.none _ | refine LeO.ite ?_ ?_ | refine LeO.bind ?_ (fun _ => ?_))
   | exact ih0 _ _ _ _ _ _ _ _ _
   | exact LeO.none _
   | refine LeO.ite ?_ ?_
   | refine LeO.bind ?_ (fun _ => ?_)
theorem impl_Cart_ramPlace.calls (k : Nat) (a0_0 : ByteArray) (a0_1 : Int) (a0_2 : Int) (a0_3 : ByteArray) (a0_4 : Int) (a0_5 : Bool) (a0_6 : Int) (a1 : Int) (r : Int) (w : World) (h : impl_Cart_ramPlace.f k a0_0 a0_1 a0_2 a0_3 a0_4 a0_5 a0_6 a1 = some r) :
  Calls Try.prog 75 #[.agg #[.string a0_0, .int .i64 a0_1, .int .i64 a0_2, .string a0_3, .int .i64 a0_4, .bool a0_5, .int .i64 a0_6], .int .i64 a1] w fun e w' => e = .returned (.int .i64 r) ∧ Below w.heap.size w w' := by
 have hu32 := Try.underlying32
 have HB := Aside0.mk (Below.refl w.heap.size w)
 have H : (if a0_5 = true then ((impl_within.f a1 40960 41023).bind fun t496 => (impl_Cart_ramPlace.j0 k a1 (!t496) a0_0 a0_1 a0_2 a0_3 a0_4 a0_5 a0_6)) else (impl_Cart_ramPlace.j0 k a1 true a0_0 a0_1 a0_2 a0_3 a0_4 a0_5 a0_6)) = some r := h
 clear h
 have HC3 := Aside0.mk H
 clear H
 go_enter Try.func75, Try.ntmps75
 go_upto_region 1 with (first | ((with_reducible refine gate_dst (N := 2) rfl ?_); refine box_event ?hg (N := 2) ?hd (cs := #[.string a0_0, .int .i64 a0_1, .int .i64 a0_2, .string a0_3, .int .i64 a0_4, .bool a0_5, .int .i64 a0_6]) (t := 32) ?hr ?_; (case hd => rfl); (case hg => rfl); (case hr => exact q175_); intro gb495 hg w4 hbox hb; have n0_ := Aside0.mk (below_step q102_ hb); have n1_ := Aside0.mk (hbox); have n2_ := Aside0.mk ((q80_ : w.heap.size ≤ gb495)); have n3_ := Aside0.mk ((q80_ : w.heap.size ≤ gb495)); clear HB; have HB := n0_; have BK495 := n1_; have GW495 := n2_; have GE495 := n3_; clear n0_ n1_ n2_ n3_; clear hb hbox hg))
 (try simp only [Act.put, List.setIfInBounds_toArray, List.set_cons_zero, List.set_cons_succ])
 go_cut [13] (fun v13 wc => ∃ (kq : Nat) (x13_2 : Bool), v13 = .bool x13_2 ∧ Aside0 (impl_Cart_ramPlace.j0 kq a1 x13_2 a0_0 a0_1 a0_2 a0_3 a0_4 a0_5 a0_6 = some r) ∧ Aside0 (kq ≤ k) ∧ Aside0 (wc.heap[gb495]? = some (.cells #[.string a0_0, .int .i64 a0_1, .int .i64 a0_2, .string a0_3, .int .i64 a0_4, .bool a0_5, .int .i64 a0_6] 32 (0, 0))) ∧ Aside0 (Below w.heap.size w wc))
 case first =>
  have H := HC3.out
  clear HC3
  by_cases c5 : a0_5 = true
  ·subst c5
   replace H : ((impl_within.f a1 40960 41023).bind fun t496 => (impl_Cart_ramPlace.j0 k a1 (!t496) a0_0 a0_1 a0_2 a0_3 a0_4 true a0_6)) = some r := by rw [if_pos rfl] at H; exact H
   replace H := Option.bind_eq_some_iff.mp H
   obtain ⟨t496, A60, H⟩ := H
   have A6 := Aside0.mk A60
   clear A60
   have H' := Aside0.mk H
   clear H
   have hcz7_0 : w4.cell? ⟨gb495, 0, none⟩ = some (.string a0_0) := bz_ BK495 0
   have hcz7_1 : w4.cell? ⟨gb495, 1, none⟩ = some (.int .i64 a0_1) := bz_ BK495 1
   have hcz7_2 : w4.cell? ⟨gb495, 2, none⟩ = some (.int .i64 a0_2) := bz_ BK495 2
   have hcz7_3 : w4.cell? ⟨gb495, 3, none⟩ = some (.string a0_3) := bz_ BK495 3
   have hcz7_4 : w4.cell? ⟨gb495, 4, none⟩ = some (.int .i64 a0_4) := bz_ BK495 4
   have hcz7_5 : w4.cell? ⟨gb495, 5, none⟩ = some (.bool true) := bz_ BK495 5
   have hcz7_6 : w4.cell? ⟨gb495, 6, none⟩ = some (.int .i64 a0_6) := bz_ BK495 6
   have hfz7_0 := blk_frozen BK495.out 0
   have hfz7_1 := blk_frozen BK495.out 1
   have hfz7_2 := blk_frozen BK495.out 2
   have hfz7_3 := blk_frozen BK495.out 3
   have hfz7_4 := blk_frozen BK495.out 4
   have hfz7_5 := blk_frozen BK495.out 5
   have hfz7_6 := blk_frozen BK495.out 6
   go_wp2_with (first | (go_at_call 38; (with_reducible refine (impl_within.calls a1 40960 41023 t496 _ A6.out).mono ?_); rintro e w' ⟨rfl, ⟨nd, rfl⟩⟩))
   go_meet
   case rel => exact ⟨_, (!t496), q133_, H', ⟨q153_⟩, ⟨q121_⟩, ⟨q89_⟩⟩
  ·replace c5 := Bool.eq_false_iff.mpr c5
   subst c5
   replace H : (impl_Cart_ramPlace.j0 k a1 true a0_0 a0_1 a0_2 a0_3 a0_4 false a0_6) = some r := by rw [if_neg (show ¬ (false = true) by decide)] at H; exact H
   have H' := Aside0.mk H
   clear H
   have hcz8_0 : w4.cell? ⟨gb495, 0, none⟩ = some (.string a0_0) := bz_ BK495 0
   have hcz8_1 : w4.cell? ⟨gb495, 1, none⟩ = some (.int .i64 a0_1) := bz_ BK495 1
   have hcz8_2 : w4.cell? ⟨gb495, 2, none⟩ = some (.int .i64 a0_2) := bz_ BK495 2
   have hcz8_3 : w4.cell? ⟨gb495, 3, none⟩ = some (.string a0_3) := bz_ BK495 3
   have hcz8_4 : w4.cell? ⟨gb495, 4, none⟩ = some (.int .i64 a0_4) := bz_ BK495 4
   have hcz8_5 : w4.cell? ⟨gb495, 5, none⟩ = some (.bool false) := bz_ BK495 5
   have hcz8_6 : w4.cell? ⟨gb495, 6, none⟩ = some (.int .i64 a0_6) := bz_ BK495 6
   have hfz8_0 := blk_frozen BK495.out 0
   have hfz8_1 := blk_frozen BK495.out 1
   have hfz8_2 := blk_frozen BK495.out 2
   have hfz8_3 := blk_frozen BK495.out 3
   have hfz8_4 := blk_frozen BK495.out 4
   have hfz8_5 := blk_frozen BK495.out 5
   have hfz8_6 := blk_frozen BK495.out 6
   go_wp2
   go_meet
   case rel => exact ⟨_, (true), q133_, H', ⟨q153_⟩, ⟨q121_⟩, ⟨q89_⟩⟩
 case rest =>
  clear HC3
  try clear p2
  try clear c5
  try clear p6
  try clear c7
  try clear hcz7_0 hcz7_1 hcz7_2 hcz7_3 hcz7_4 hcz7_5 hcz7_6
  try clear hcz8_0 hcz8_1 hcz8_2 hcz8_3 hcz8_4 hcz8_5 hcz8_6
  try clear hfz7_0 hfz7_1 hfz7_2 hfz7_3 hfz7_4 hfz7_5 hfz7_6
  try clear hfz8_0 hfz8_1 hfz8_2 hfz8_3 hfz8_4 hfz8_5 hfz8_6
  obtain ⟨kq, x13_2, rfl, HA, HJ2, BK495, HB⟩ := hcut
  cases kq with
  | zero => exact absurd HA.out (by simp [impl_Cart_ramPlace.j0])
  | succ kj2 =>
   have H := HA.out
   clear HA
   simp only [impl_Cart_ramPlace.j0] at H
   by_cases c9 : x13_2 = true
   ·subst c9
    replace H : (some (-1)) = some r := by rw [if_pos rfl] at H; exact H
    obtain rfl := Option.some.inj H
    go_wp2
    go_ret
    exact ⟨q103_, q89_⟩
   ·replace c9 := Bool.eq_false_iff.mpr c9
    subst c9
    replace H : (if a0_1 = 1 then (if a0_6 = 0 then (some (wrap64 ((wrap64 ((0 * 64) + a1)) - 40960))) else (some (wrap64 ((wrap64 ((wrap64 (a0_4 * 64)) + a1)) - 40960)))) else (some (wrap64 ((wrap64 ((wrap64 (a0_4 * 64)) + a1)) - 40960)))) = some r := by rw [if_neg (show ¬ (false = true) by decide)] at H; exact H
    by_cases c10 : a0_1 = 1
    ·rw [if_pos c10] at H
     have c10b0 : (a0_1 == 1) = true := beq_iff_eq.mpr c10
     have c10b1 : (a0_1 != 1) = false := bne_eq_false_iff_eq.mpr c10
     clear c10
     by_cases c11 : a0_6 = 0
     ·rw [if_pos c11] at H
      have c11b0 : (a0_6 == 0) = true := beq_iff_eq.mpr c11
      have c11b1 : (a0_6 != 0) = false := bne_eq_false_iff_eq.mpr c11
      clear c11
      obtain rfl := Option.some.inj H
      have hcz12_0 : wc.cell? ⟨gb495, 0, none⟩ = some (.string a0_0) := bz_ BK495 0
      have hcz12_1 : wc.cell? ⟨gb495, 1, none⟩ = some (.int .i64 a0_1) := bz_ BK495 1
      have hcz12_2 : wc.cell? ⟨gb495, 2, none⟩ = some (.int .i64 a0_2) := bz_ BK495 2
      have hcz12_3 : wc.cell? ⟨gb495, 3, none⟩ = some (.string a0_3) := bz_ BK495 3
      have hcz12_4 : wc.cell? ⟨gb495, 4, none⟩ = some (.int .i64 a0_4) := bz_ BK495 4
      have hcz12_5 : wc.cell? ⟨gb495, 5, none⟩ = some (.bool a0_5) := bz_ BK495 5
      have hcz12_6 : wc.cell? ⟨gb495, 6, none⟩ = some (.int .i64 a0_6) := bz_ BK495 6
      have hfz12_0 := blk_frozen BK495.out 0
      have hfz12_1 := blk_frozen BK495.out 1
      have hfz12_2 := blk_frozen BK495.out 2
      have hfz12_3 := blk_frozen BK495.out 3
      have hfz12_4 := blk_frozen BK495.out 4
      have hfz12_5 := blk_frozen BK495.out 5
      have hfz12_6 := blk_frozen BK495.out 6
      go_wp2
      go_ret
      exact ⟨q103_, q89_⟩
     ·rw [if_neg c11] at H
      have c11b0 : (a0_6 == 0) = false := beq_eq_false_iff_ne.mpr c11
      have c11b1 : (a0_6 != 0) = true := bne_iff_ne.mpr c11
      obtain rfl := Option.some.inj H
      have hcz13_0 : wc.cell? ⟨gb495, 0, none⟩ = some (.string a0_0) := bz_ BK495 0
      have hcz13_1 : wc.cell? ⟨gb495, 1, none⟩ = some (.int .i64 a0_1) := bz_ BK495 1
      have hcz13_2 : wc.cell? ⟨gb495, 2, none⟩ = some (.int .i64 a0_2) := bz_ BK495 2
      have hcz13_3 : wc.cell? ⟨gb495, 3, none⟩ = some (.string a0_3) := bz_ BK495 3
      have hcz13_4 : wc.cell? ⟨gb495, 4, none⟩ = some (.int .i64 a0_4) := bz_ BK495 4
      have hcz13_5 : wc.cell? ⟨gb495, 5, none⟩ = some (.bool a0_5) := bz_ BK495 5
      have hcz13_6 : wc.cell? ⟨gb495, 6, none⟩ = some (.int .i64 a0_6) := bz_ BK495 6
      have hfz13_0 := blk_frozen BK495.out 0
      have hfz13_1 := blk_frozen BK495.out 1
      have hfz13_2 := blk_frozen BK495.out 2
      have hfz13_3 := blk_frozen BK495.out 3
      have hfz13_4 := blk_frozen BK495.out 4
      have hfz13_5 := blk_frozen BK495.out 5
      have hfz13_6 := blk_frozen BK495.out 6
      go_wp2
      go_ret
      exact ⟨q103_, q89_⟩
    ·rw [if_neg c10] at H
     have c10b0 : (a0_1 == 1) = false := beq_eq_false_iff_ne.mpr c10
     have c10b1 : (a0_1 != 1) = true := bne_iff_ne.mpr c10
     obtain rfl := Option.some.inj H
     have hcz14_0 : wc.cell? ⟨gb495, 0, none⟩ = some (.string a0_0) := bz_ BK495 0
     have hcz14_1 : wc.cell? ⟨gb495, 1, none⟩ = some (.int .i64 a0_1) := bz_ BK495 1
     have hcz14_2 : wc.cell? ⟨gb495, 2, none⟩ = some (.int .i64 a0_2) := bz_ BK495 2
     have hcz14_3 : wc.cell? ⟨gb495, 3, none⟩ = some (.string a0_3) := bz_ BK495 3
     have hcz14_4 : wc.cell? ⟨gb495, 4, none⟩ = some (.int .i64 a0_4) := bz_ BK495 4
     have hcz14_5 : wc.cell? ⟨gb495, 5, none⟩ = some (.bool a0_5) := bz_ BK495 5
     have hcz14_6 : wc.cell? ⟨gb495, 6, none⟩ = some (.int .i64 a0_6) := bz_ BK495 6
     have hfz14_0 := blk_frozen BK495.out 0
     have hfz14_1 := blk_frozen BK495.out 1
     have hfz14_2 := blk_frozen BK495.out 2
     have hfz14_3 := blk_frozen BK495.out 3
     have hfz14_4 := blk_frozen BK495.out 4
     have hfz14_5 := blk_frozen BK495.out 5
     have hfz14_6 := blk_frozen BK495.out 6
     go_wp2
     go_ret
     exact ⟨q103_, q89_⟩
end Go.Proofs.Ytcohcndliaaacaa.QFnCartWrites
