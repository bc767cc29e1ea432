/- The machine's side of a law, written by a program of this session for this claim. -/
import Derived.Test.YtcohcndliaaacaaZFnCartNewQq
import Derived.Test.YtcohcndliaaacaaZFnCartNewQFnCartNewx0
namespace Go.Proofs.Ytcohcndliaaacaa.QFnCartNew
open Go.Proofs.Ytcohcndliaaacaa.Qq
open Go.RowKit Go.Proofs.Ytcohcndliaaacaa.LibX Go.Proofs.Ytcohcndliaaacaa.LibC Go.Proofs.Ytcohcndliaaacaa.LibE Go.Proofs.YtcohcndliaaacaaW.PrintWords Go.Proofs.YtcohcndliaaacaaW.PrintLast Go.Proofs.YtcohcndliaaacaaW.PrintMore
attribute [local go_sem] max2_int min2_int max_two min_two max_three min_three max_four min_four   -- for this text's walks alone
set_option maxHeartbeats 8000000
set_option maxRecDepth 100000
set_option linter.unusedVariables false
set_option linter.unusedSimpArgs false
def laws_big.f (l0 : List Int) : Option (Bool) := some (decide ((l0.length : Int) > 1048576))
theorem laws_big.calls (A0 : Option Addr) (c0 : Nat) (l0 : List Int) (r : Bool) (w : World) (hr0 : Kd.C (Kd.int .u8) w A0 l0.length l0) (hc0 : l0.length ≤ c0) (h : laws_big.f l0 = some r) :
  Calls Try.prog 12 #[.slice A0 l0.length c0] w fun e w' => e = .returned (.bool r) ∧ Drawn0 w w' := by
 have HR0 := Aside0.mk hr0
 have HC0 := Aside0.mk hc0
 clear hr0 hc0
 have H : (some (decide ((l0.length : Int) > 1048576))) = some r := h
 clear h
 obtain rfl := Option.some.inj H
 go_enter Try.func12, Try.ntmps12
 go_wp2
 go_ret
 exact ⟨q74_, q81_⟩
def impl_within.f (a0 : Int) (a1 : Int) (a2 : Int) : Option (Bool) := if a0 ≥ a1 then (some (decide (a0 ≤ a2))) else (some false)
theorem impl_within.calls (a0 : Int) (a1 : Int) (a2 : Int) (r : Bool) (w : World) (h : impl_within.f a0 a1 a2 = some r) :
  Calls Try.prog 38 #[.int .i64 a0, .int .i64 a1, .int .i64 a2] w fun e w' => e = .returned (.bool r) ∧ Drawn0 w w' := by
 have H : (if a0 ≥ a1 then (some (decide (a0 ≤ a2))) else (some false)) = some r := h
 clear h
 by_cases c4 : a0 ≥ a1
 ·rw [if_pos c4] at H
  have c4b0 : decide (a1 ≤ a0) = true := decide_eq_true c4
  clear c4
  obtain rfl := Option.some.inj H
  go_enter Try.func38, Try.ntmps38
  go_wp2
  go_ret
  exact ⟨q74_, q81_⟩
 ·rw [if_neg c4] at H
  have c4b0 : decide (a1 ≤ a0) = false := decide_eq_false c4
  clear c4
  obtain rfl := Option.some.inj H
  go_enter Try.func38, Try.ntmps38
  go_wp2
  go_ret
  exact ⟨q74_, q81_⟩
def impl_isByte.f (a0 : Int) : Option (Bool) := (impl_within.f a0 0 255).bind fun t101 => (some t101)
theorem impl_isByte.calls (a0 : Int) (r : Bool) (w : World) (h : impl_isByte.f a0 = some r) :
  Calls Try.prog 60 #[.int .i64 a0] w fun e w' => e = .returned (.bool r) ∧ Drawn0 w w' := by
 have H : ((impl_within.f a0 0 255).bind fun t101 => (some t101)) = some r := h
 clear h
 replace H := Option.bind_eq_some_iff.mp H
 obtain ⟨t101, A20, H⟩ := H
 have A2 := Aside0.mk A20
 clear A20
 obtain rfl := Option.some.inj H
 go_enter Try.func60, Try.ntmps60
 go_wp2_with (first | ((with_reducible refine gate_callee (f := 38) rfl ?_); refine goesL_ (some 4) rfl rfl Try.func38 (by kernel_rfl) rfl #[.int .i64 a0, .int .i64 0, .int .i64 255] rfl q53_ ?_; (with_reducible refine (impl_within.calls a0 0 255 t101 _ A2.out).mono ?_); rintro e w' ⟨rfl, ⟨nd, rfl⟩⟩; refine ⟨_, rfl, ?_⟩))
 go_ret
 exact ⟨q74_, q81_⟩
def impl_CartOk.j0 : Nat → Bool → ByteArray → Int → Int → ByteArray → Int → Bool → Int → Option (Bool)
 | 0, _, _, _, _, _, _, _, _ => none
 | k + 1, x21, x103000, x103001, x103002, x103003, x103004, x103005, x103006 => if x21 = true then (some false) else (if x103001 = 0 then (if x103002 = 1 then (if x103004 = 0 then (if x103006 = 0 then (some (!x103005)) else (some false)) else (some false)) else (some false)) else (if x103001 = 1 then ((impl_within.f x103002 1 31).bind fun t104 => (if t104 = true then ((impl_within.f x103004 0 3).bind fun t105 => (if t105 = true then ((impl_within.f x103006 0 1).bind fun t106 => (some t106)) else (some false))) else (some false))) else (if x103001 = 2 then ((impl_isByte.f x103002).bind fun t107 => (if t107 = true then ((impl_within.f x103004 0 3).bind fun t108 => (if t108 = true then (some (x103006 == 0)) else (some false))) else (some false))) else (some false))))
def impl_CartOk.f (k : Nat) (a0_0 : ByteArray) (a0_1 : Int) (a0_2 : Int) (a0_3 : ByteArray) (a0_4 : Int) (a0_5 : Bool) (a0_6 : Int) : Option (Bool) := if ((a0_0.size : Int) % 256) = 0 then ((impl_within.f (wrap64 ((a0_0.size : Int) / 256)) 2 16).bind fun t103 => (if t103 = true then (impl_CartOk.j0 k ((a0_3.size : Int) != 256) a0_0 a0_1 a0_2 a0_3 a0_4 a0_5 a0_6) else (impl_CartOk.j0 k true a0_0 a0_1 a0_2 a0_3 a0_4 a0_5 a0_6))) else (impl_CartOk.j0 k true a0_0 a0_1 a0_2 a0_3 a0_4 a0_5 a0_6)
theorem impl_CartOk.mono_l : ∀ k, (∀ y0 y1 y2 y3 y4 y5 y6 y7, LeO (impl_CartOk.j0 k y0 y1 y2 y3 y4 y5 y6 y7) (impl_CartOk.j0 (k + 1) y0 y1 y2 y3 y4 y5 y6 y7))
 | 0 => fun _ _ _ _ _ _ _ _ r h => by simp [impl_CartOk.j0] at h
 | k + 1 => by
  have ih0 := impl_CartOk.mono_l k
  ·intro y0 y1 y2 y3 y4 y5 y6 y7
   unfold impl_CartOk.j0
   repeat' first
   | (with_reducible first | exact ih0 _ _ _ _ _ _ _ _ | exact LeO.refl _ | exact LeO.none _ | refine LeO.ite ?_ ?_ | refine LeO.bind ?_ (fun _ => ?_))
   | exact ih0 _ _ _ _ _ _ _ _
   | exact LeO.none _
   | refine LeO.ite ?_ ?_
   | refine LeO.bind ?_ (fun _ => ?_)
theorem impl_CartOk.mono : ∀ a0 a1 a2 a3 a4 a5 a6 k, LeO (impl_CartOk.f k a0 a1 a2 a3 a4 a5 a6) (impl_CartOk.f (k + 1) a0 a1 a2 a3 a4 a5 a6) := by
 intro a0 a1 a2 a3 a4 a5 a6 k
 have ih0 := impl_CartOk.mono_l k
 unfold impl_CartOk.f
 repeat' first
   | (with_reducible first | exact ih0 _ _ _ _ _ _ _ _ | exact LeO.refl _ | exact LeO.none _ | refine LeO.ite ?_ ?_ | refine LeO.bind ?_ (fun _ => ?_))
   | exact ih0 _ _ _ _ _ _ _ _
   | exact LeO.none _
   | refine LeO.ite ?_ ?_
   | refine LeO.bind ?_ (fun _ => ?_)
theorem impl_CartOk.calls (k : Nat) (a0_0 : ByteArray) (a0_1 : Int) (a0_2 : Int) (a0_3 : ByteArray) (a0_4 : Int) (a0_5 : Bool) (a0_6 : Int) (r : Bool) (w : World) (h : impl_CartOk.f k a0_0 a0_1 a0_2 a0_3 a0_4 a0_5 a0_6 = some r) :
  Calls Try.prog 24 #[.agg #[.string a0_0, .int .i64 a0_1, .int .i64 a0_2, .string a0_3, .int .i64 a0_4, .bool a0_5, .int .i64 a0_6]] w fun e w' => e = .returned (.bool r) ∧ Below w.heap.size w w' := by
 have hu32 := Try.underlying32
 have HB := Aside0.mk (Below.refl w.heap.size w)
 have H : (if ((a0_0.size : Int) % 256) = 0 then ((impl_within.f (wrap64 ((a0_0.size : Int) / 256)) 2 16).bind fun t103 => (if t103 = true then (impl_CartOk.j0 k ((a0_3.size : Int) != 256) a0_0 a0_1 a0_2 a0_3 a0_4 a0_5 a0_6) else (impl_CartOk.j0 k true a0_0 a0_1 a0_2 a0_3 a0_4 a0_5 a0_6))) else (impl_CartOk.j0 k true a0_0 a0_1 a0_2 a0_3 a0_4 a0_5 a0_6)) = some r := h
 clear h
 have HC2 := Aside0.mk H
 clear H
 go_enter Try.func24, Try.ntmps24
 go_upto_region 1 with (first | ((with_reducible refine gate_dst (N := 1) rfl ?_); (try (refine gate_guard (by rfl) ?_; dsimp only)); refine box_event ?hg (N := 1) ?hd (cs := #[.string a0_0, .int .i64 a0_1, .int .i64 a0_2, .string a0_3, .int .i64 a0_4, .bool a0_5, .int .i64 a0_6]) (t := 32) ?hr ?_; (case hd => rfl); (case hg => rfl); (case hr => exact q109_); intro gb102 hg w3 hbox hb; have n0_ := Aside0.mk (below_step q54_ hb); have n1_ := Aside0.mk (hbox); have n2_ := Aside0.mk ((q39_ : w.heap.size ≤ gb102)); have n3_ := Aside0.mk ((q39_ : w.heap.size ≤ gb102)); clear HB; have HB := n0_; have BK102 := n1_; have GW102 := n2_; have GE102 := n3_; clear n0_ n1_ n2_ n3_; clear hb hbox hg))
 (try simp only [Act.put, List.setIfInBounds_toArray, List.set_cons_zero, List.set_cons_succ])
 go_cut [21] (fun v21 wc => ∃ (kq : Nat) (x21_1 : Bool), v21 = .bool x21_1 ∧ Aside0 (impl_CartOk.j0 kq x21_1 a0_0 a0_1 a0_2 a0_3 a0_4 a0_5 a0_6 = some r) ∧ Aside0 (kq ≤ k) ∧ Aside0 (wc.heap[gb102]? = some (.cells #[.string a0_0, .int .i64 a0_1, .int .i64 a0_2, .string a0_3, .int .i64 a0_4, .bool a0_5, .int .i64 a0_6] 32 (0, 0))) ∧ Aside0 (Below w.heap.size w wc))
 case first =>
  have H := HC2.out
  clear HC2
  by_cases c4 : ((a0_0.size : Int) % 256) = 0
  ·rw [if_pos c4] at H
   have c4b0 : (((a0_0.size : Int) % 256) == 0) = true := beq_iff_eq.mpr c4
   have c4b1 : (((a0_0.size : Int) % 256) != 0) = false := bne_eq_false_iff_eq.mpr c4
   clear c4
   (first | rw [c4b0] | (simp only [i64_w, i32_w]; rw [c4b0]) | skip)
   replace H := Option.bind_eq_some_iff.mp H
   obtain ⟨t103, A50, H⟩ := H
   have A5 := Aside0.mk A50
   clear A50
   by_cases c6 : t103 = true
   ·subst c6
    replace H : (impl_CartOk.j0 k ((a0_3.size : Int) != 256) a0_0 a0_1 a0_2 a0_3 a0_4 a0_5 a0_6) = some r := by rw [if_pos rfl] at H; exact H
    have H' := Aside0.mk H
    clear H
    have hcz7_0 : w3.cell? ⟨gb102, 0, none⟩ = some (.string a0_0) := bz_ BK102 0
    have hcz7_1 : w3.cell? ⟨gb102, 1, none⟩ = some (.int .i64 a0_1) := bz_ BK102 1
    have hcz7_2 : w3.cell? ⟨gb102, 2, none⟩ = some (.int .i64 a0_2) := bz_ BK102 2
    have hcz7_3 : w3.cell? ⟨gb102, 3, none⟩ = some (.string a0_3) := bz_ BK102 3
    have hcz7_4 : w3.cell? ⟨gb102, 4, none⟩ = some (.int .i64 a0_4) := bz_ BK102 4
    have hcz7_5 : w3.cell? ⟨gb102, 5, none⟩ = some (.bool a0_5) := bz_ BK102 5
    have hcz7_6 : w3.cell? ⟨gb102, 6, none⟩ = some (.int .i64 a0_6) := bz_ BK102 6
    have hfz7_0 := blk_frozen BK102.out 0
    have hfz7_1 := blk_frozen BK102.out 1
    have hfz7_2 := blk_frozen BK102.out 2
    have hfz7_3 := blk_frozen BK102.out 3
    have hfz7_4 := blk_frozen BK102.out 4
    have hfz7_5 := blk_frozen BK102.out 5
    have hfz7_6 := blk_frozen BK102.out 6
    go_wp2_with (first | (go_at_call 38; (with_reducible refine (impl_within.calls (wrap64 ((a0_0.size : Int) / 256)) 2 16 true _ A5.out).mono ?_); rintro e w' ⟨rfl, ⟨nd, rfl⟩⟩))
    go_meet
    case rel => exact ⟨_, (((a0_3.size : Int) != 256)), q74_, H', ⟨q94_⟩, ⟨q56_⟩, ⟨q40_⟩⟩
   ·replace c6 := Bool.eq_false_iff.mpr c6
    subst c6
    replace H : (impl_CartOk.j0 k true a0_0 a0_1 a0_2 a0_3 a0_4 a0_5 a0_6) = some r := by rw [if_neg (show ¬ (false = true) by decide)] at H; exact H
    have H' := Aside0.mk H
    clear H
    have hcz8_0 : w3.cell? ⟨gb102, 0, none⟩ = some (.string a0_0) := bz_ BK102 0
    have hcz8_1 : w3.cell? ⟨gb102, 1, none⟩ = some (.int .i64 a0_1) := bz_ BK102 1
    have hcz8_2 : w3.cell? ⟨gb102, 2, none⟩ = some (.int .i64 a0_2) := bz_ BK102 2
    have hcz8_3 : w3.cell? ⟨gb102, 3, none⟩ = some (.string a0_3) := bz_ BK102 3
    have hcz8_4 : w3.cell? ⟨gb102, 4, none⟩ = some (.int .i64 a0_4) := bz_ BK102 4
    have hcz8_5 : w3.cell? ⟨gb102, 5, none⟩ = some (.bool a0_5) := bz_ BK102 5
    have hcz8_6 : w3.cell? ⟨gb102, 6, none⟩ = some (.int .i64 a0_6) := bz_ BK102 6
    have hfz8_0 := blk_frozen BK102.out 0
    have hfz8_1 := blk_frozen BK102.out 1
    have hfz8_2 := blk_frozen BK102.out 2
    have hfz8_3 := blk_frozen BK102.out 3
    have hfz8_4 := blk_frozen BK102.out 4
    have hfz8_5 := blk_frozen BK102.out 5
    have hfz8_6 := blk_frozen BK102.out 6
    go_wp2_with (first | (go_at_call 38; (with_reducible refine (impl_within.calls (wrap64 ((a0_0.size : Int) / 256)) 2 16 false _ A5.out).mono ?_); rintro e w' ⟨rfl, ⟨nd, rfl⟩⟩))
    go_meet
    case rel => exact ⟨_, (true), q74_, H', ⟨q94_⟩, ⟨q56_⟩, ⟨q40_⟩⟩
  ·rw [if_neg c4] at H
   have c4b0 : (((a0_0.size : Int) % 256) == 0) = false := beq_eq_false_iff_ne.mpr c4
   have c4b1 : (((a0_0.size : Int) % 256) != 0) = true := bne_iff_ne.mpr c4
   (first | rw [c4b0] | (simp only [i64_w, i32_w]; rw [c4b0]) | skip)
   have H' := Aside0.mk H
   clear H
   have hcz9_0 : w3.cell? ⟨gb102, 0, none⟩ = some (.string a0_0) := bz_ BK102 0
   have hcz9_1 : w3.cell? ⟨gb102, 1, none⟩ = some (.int .i64 a0_1) := bz_ BK102 1
   have hcz9_2 : w3.cell? ⟨gb102, 2, none⟩ = some (.int .i64 a0_2) := bz_ BK102 2
   have hcz9_3 : w3.cell? ⟨gb102, 3, none⟩ = some (.string a0_3) := bz_ BK102 3
   have hcz9_4 : w3.cell? ⟨gb102, 4, none⟩ = some (.int .i64 a0_4) := bz_ BK102 4
   have hcz9_5 : w3.cell? ⟨gb102, 5, none⟩ = some (.bool a0_5) := bz_ BK102 5
   have hcz9_6 : w3.cell? ⟨gb102, 6, none⟩ = some (.int .i64 a0_6) := bz_ BK102 6
   have hfz9_0 := blk_frozen BK102.out 0
   have hfz9_1 := blk_frozen BK102.out 1
   have hfz9_2 := blk_frozen BK102.out 2
   have hfz9_3 := blk_frozen BK102.out 3
   have hfz9_4 := blk_frozen BK102.out 4
   have hfz9_5 := blk_frozen BK102.out 5
   have hfz9_6 := blk_frozen BK102.out 6
   go_wp2
   go_meet
   case rel => exact ⟨_, (true), q74_, H', ⟨q94_⟩, ⟨q56_⟩, ⟨q40_⟩⟩
 case rest =>
  clear HC2
  try clear c2
  try clear p2
  try clear c4
  try clear c4b0
  try clear c4b1
  try clear c6
  try clear p6
  try clear hcz7_0 hcz7_1 hcz7_2 hcz7_3 hcz7_4 hcz7_5 hcz7_6
  try clear hcz8_0 hcz8_1 hcz8_2 hcz8_3 hcz8_4 hcz8_5 hcz8_6
  try clear hcz9_0 hcz9_1 hcz9_2 hcz9_3 hcz9_4 hcz9_5 hcz9_6
  try clear hfz7_0 hfz7_1 hfz7_2 hfz7_3 hfz7_4 hfz7_5 hfz7_6
  try clear hfz8_0 hfz8_1 hfz8_2 hfz8_3 hfz8_4 hfz8_5 hfz8_6
  try clear hfz9_0 hfz9_1 hfz9_2 hfz9_3 hfz9_4 hfz9_5 hfz9_6
  obtain ⟨kq, x21_1, rfl, HA, HJ1, BK102, HB⟩ := hcut
  cases kq with
  | zero => exact absurd HA.out (by simp [impl_CartOk.j0])
  | succ kj1 =>
   have H := HA.out
   clear HA
   simp only [impl_CartOk.j0] at H
   by_cases c10 : x21_1 = true
   ·subst c10
    replace H : (some false) = some r := by rw [if_pos rfl] at H; exact H
    obtain rfl := Option.some.inj H
    go_wp2
    go_ret
    exact ⟨q55_, q40_⟩
   ·replace c10 := Bool.eq_false_iff.mpr c10
    subst c10
    replace H : (if a0_1 = 0 then (if a0_2 = 1 then (if a0_4 = 0 then (if a0_6 = 0 then (some (!a0_5)) else (some false)) else (some false)) else (some false)) else (if a0_1 = 1 then ((impl_within.f a0_2 1 31).bind fun t104 => (if t104 = true then ((impl_within.f a0_4 0 3).bind fun t105 => (if t105 = true then ((impl_within.f a0_6 0 1).bind fun t106 => (some t106)) else (some false))) else (some false))) else (if a0_1 = 2 then ((impl_isByte.f a0_2).bind fun t107 => (if t107 = true then ((impl_within.f a0_4 0 3).bind fun t108 => (if t108 = true then (some (a0_6 == 0)) else (some false))) else (some false))) else (some false)))) = some r := by rw [if_neg (show ¬ (false = true) by decide)] at H; exact H
    by_cases c11 : a0_1 = 0
    ·rw [if_pos c11] at H
     have c11b0 : (a0_1 == 0) = true := beq_iff_eq.mpr c11
     have c11b1 : (a0_1 != 0) = false := bne_eq_false_iff_eq.mpr c11
     clear c11
     by_cases c12 : a0_2 = 1
     ·rw [if_pos c12] at H
      have c12b0 : (a0_2 == 1) = true := beq_iff_eq.mpr c12
      have c12b1 : (a0_2 != 1) = false := bne_eq_false_iff_eq.mpr c12
      clear c12
      by_cases c13 : a0_4 = 0
      ·rw [if_pos c13] at H
       have c13b0 : (a0_4 == 0) = true := beq_iff_eq.mpr c13
       have c13b1 : (a0_4 != 0) = false := bne_eq_false_iff_eq.mpr c13
       clear c13
       by_cases c14 : a0_6 = 0
       ·rw [if_pos c14] at H
        have c14b0 : (a0_6 == 0) = true := beq_iff_eq.mpr c14
        have c14b1 : (a0_6 != 0) = false := bne_eq_false_iff_eq.mpr c14
        clear c14
        obtain rfl := Option.some.inj H
        have hcz15_0 : wc.cell? ⟨gb102, 0, none⟩ = some (.string a0_0) := bz_ BK102 0
        have hcz15_1 : wc.cell? ⟨gb102, 1, none⟩ = some (.int .i64 a0_1) := bz_ BK102 1
        have hcz15_2 : wc.cell? ⟨gb102, 2, none⟩ = some (.int .i64 a0_2) := bz_ BK102 2
        have hcz15_3 : wc.cell? ⟨gb102, 3, none⟩ = some (.string a0_3) := bz_ BK102 3
        have hcz15_4 : wc.cell? ⟨gb102, 4, none⟩ = some (.int .i64 a0_4) := bz_ BK102 4
        have hcz15_5 : wc.cell? ⟨gb102, 5, none⟩ = some (.bool a0_5) := bz_ BK102 5
        have hcz15_6 : wc.cell? ⟨gb102, 6, none⟩ = some (.int .i64 a0_6) := bz_ BK102 6
        have hfz15_0 := blk_frozen BK102.out 0
        have hfz15_1 := blk_frozen BK102.out 1
        have hfz15_2 := blk_frozen BK102.out 2
        have hfz15_3 := blk_frozen BK102.out 3
        have hfz15_4 := blk_frozen BK102.out 4
        have hfz15_5 := blk_frozen BK102.out 5
        have hfz15_6 := blk_frozen BK102.out 6
        go_wp2
        go_ret
        exact ⟨q55_, q40_⟩
       ·rw [if_neg c14] at H
        have c14b0 : (a0_6 == 0) = false := beq_eq_false_iff_ne.mpr c14
        have c14b1 : (a0_6 != 0) = true := bne_iff_ne.mpr c14
        obtain rfl := Option.some.inj H
        have hcz16_0 : wc.cell? ⟨gb102, 0, none⟩ = some (.string a0_0) := bz_ BK102 0
        have hcz16_1 : wc.cell? ⟨gb102, 1, none⟩ = some (.int .i64 a0_1) := bz_ BK102 1
        have hcz16_2 : wc.cell? ⟨gb102, 2, none⟩ = some (.int .i64 a0_2) := bz_ BK102 2
        have hcz16_3 : wc.cell? ⟨gb102, 3, none⟩ = some (.string a0_3) := bz_ BK102 3
        have hcz16_4 : wc.cell? ⟨gb102, 4, none⟩ = some (.int .i64 a0_4) := bz_ BK102 4
        have hcz16_5 : wc.cell? ⟨gb102, 5, none⟩ = some (.bool a0_5) := bz_ BK102 5
        have hcz16_6 : wc.cell? ⟨gb102, 6, none⟩ = some (.int .i64 a0_6) := bz_ BK102 6
        have hfz16_0 := blk_frozen BK102.out 0
        have hfz16_1 := blk_frozen BK102.out 1
        have hfz16_2 := blk_frozen BK102.out 2
        have hfz16_3 := blk_frozen BK102.out 3
        have hfz16_4 := blk_frozen BK102.out 4
        have hfz16_5 := blk_frozen BK102.out 5
        have hfz16_6 := blk_frozen BK102.out 6
        go_wp2
        go_ret
        exact ⟨q55_, q40_⟩
      ·rw [if_neg c13] at H
       have c13b0 : (a0_4 == 0) = false := beq_eq_false_iff_ne.mpr c13
       have c13b1 : (a0_4 != 0) = true := bne_iff_ne.mpr c13
       obtain rfl := Option.some.inj H
       have hcz17_0 : wc.cell? ⟨gb102, 0, none⟩ = some (.string a0_0) := bz_ BK102 0
       have hcz17_1 : wc.cell? ⟨gb102, 1, none⟩ = some (.int .i64 a0_1) := bz_ BK102 1
       have hcz17_2 : wc.cell? ⟨gb102, 2, none⟩ = some (.int .i64 a0_2) := bz_ BK102 2
       have hcz17_3 : wc.cell? ⟨gb102, 3, none⟩ = some (.string a0_3) := bz_ BK102 3
       have hcz17_4 : wc.cell? ⟨gb102, 4, none⟩ = some (.int .i64 a0_4) := bz_ BK102 4
       have hcz17_5 : wc.cell? ⟨gb102, 5, none⟩ = some (.bool a0_5) := bz_ BK102 5
       have hcz17_6 : wc.cell? ⟨gb102, 6, none⟩ = some (.int .i64 a0_6) := bz_ BK102 6
       have hfz17_0 := blk_frozen BK102.out 0
       have hfz17_1 := blk_frozen BK102.out 1
       have hfz17_2 := blk_frozen BK102.out 2
       have hfz17_3 := blk_frozen BK102.out 3
       have hfz17_4 := blk_frozen BK102.out 4
       have hfz17_5 := blk_frozen BK102.out 5
       have hfz17_6 := blk_frozen BK102.out 6
       go_wp2
       go_ret
       exact ⟨q55_, q40_⟩
     ·rw [if_neg c12] at H
      have c12b0 : (a0_2 == 1) = false := beq_eq_false_iff_ne.mpr c12
      have c12b1 : (a0_2 != 1) = true := bne_iff_ne.mpr c12
      obtain rfl := Option.some.inj H
      have hcz18_0 : wc.cell? ⟨gb102, 0, none⟩ = some (.string a0_0) := bz_ BK102 0
      have hcz18_1 : wc.cell? ⟨gb102, 1, none⟩ = some (.int .i64 a0_1) := bz_ BK102 1
      have hcz18_2 : wc.cell? ⟨gb102, 2, none⟩ = some (.int .i64 a0_2) := bz_ BK102 2
      have hcz18_3 : wc.cell? ⟨gb102, 3, none⟩ = some (.string a0_3) := bz_ BK102 3
      have hcz18_4 : wc.cell? ⟨gb102, 4, none⟩ = some (.int .i64 a0_4) := bz_ BK102 4
      have hcz18_5 : wc.cell? ⟨gb102, 5, none⟩ = some (.bool a0_5) := bz_ BK102 5
      have hcz18_6 : wc.cell? ⟨gb102, 6, none⟩ = some (.int .i64 a0_6) := bz_ BK102 6
      have hfz18_0 := blk_frozen BK102.out 0
      have hfz18_1 := blk_frozen BK102.out 1
      have hfz18_2 := blk_frozen BK102.out 2
      have hfz18_3 := blk_frozen BK102.out 3
      have hfz18_4 := blk_frozen BK102.out 4
      have hfz18_5 := blk_frozen BK102.out 5
      have hfz18_6 := blk_frozen BK102.out 6
      go_wp2
      go_ret
      exact ⟨q55_, q40_⟩
    ·rw [if_neg c11] at H
     have c11b0 : (a0_1 == 0) = false := beq_eq_false_iff_ne.mpr c11
     have c11b1 : (a0_1 != 0) = true := bne_iff_ne.mpr c11
     by_cases c19 : a0_1 = 1
     ·rw [if_pos c19] at H
      have c19b0 : (a0_1 == 1) = true := beq_iff_eq.mpr c19
      have c19b1 : (a0_1 != 1) = false := bne_eq_false_iff_eq.mpr c19
      clear c19
      replace H := Option.bind_eq_some_iff.mp H
      obtain ⟨t104, A200, H⟩ := H
      have A20 := Aside0.mk A200
      clear A200
      by_cases c21 : t104 = true
      ·subst c21
       replace H : ((impl_within.f a0_4 0 3).bind fun t105 => (if t105 = true then ((impl_within.f a0_6 0 1).bind fun t106 => (some t106)) else (some false))) = some r := by rw [if_pos rfl] at H; exact H
       replace H := Option.bind_eq_some_iff.mp H
       obtain ⟨t105, A220, H⟩ := H
       have A22 := Aside0.mk A220
       clear A220
       by_cases c23 : t105 = true
       ·subst c23
        replace H : ((impl_within.f a0_6 0 1).bind fun t106 => (some t106)) = some r := by rw [if_pos rfl] at H; exact H
        replace H := Option.bind_eq_some_iff.mp H
        obtain ⟨t106, A240, H⟩ := H
        have A24 := Aside0.mk A240
        clear A240
        obtain rfl := Option.some.inj H
        have hcz25_0 : wc.cell? ⟨gb102, 0, none⟩ = some (.string a0_0) := bz_ BK102 0
        have hcz25_1 : wc.cell? ⟨gb102, 1, none⟩ = some (.int .i64 a0_1) := bz_ BK102 1
        have hcz25_2 : wc.cell? ⟨gb102, 2, none⟩ = some (.int .i64 a0_2) := bz_ BK102 2
        have hcz25_3 : wc.cell? ⟨gb102, 3, none⟩ = some (.string a0_3) := bz_ BK102 3
        have hcz25_4 : wc.cell? ⟨gb102, 4, none⟩ = some (.int .i64 a0_4) := bz_ BK102 4
        have hcz25_5 : wc.cell? ⟨gb102, 5, none⟩ = some (.bool a0_5) := bz_ BK102 5
        have hcz25_6 : wc.cell? ⟨gb102, 6, none⟩ = some (.int .i64 a0_6) := bz_ BK102 6
        have hfz25_0 := blk_frozen BK102.out 0
        have hfz25_1 := blk_frozen BK102.out 1
        have hfz25_2 := blk_frozen BK102.out 2
        have hfz25_3 := blk_frozen BK102.out 3
        have hfz25_4 := blk_frozen BK102.out 4
        have hfz25_5 := blk_frozen BK102.out 5
        have hfz25_6 := blk_frozen BK102.out 6
        go_wp2_with (first | ((with_reducible refine gate_callee (f := 38) rfl ?_); refine goesL_ (some 48) rfl rfl Try.func38 (by kernel_rfl) rfl #[.int .i64 a0_2, .int .i64 1, .int .i64 31] rfl q53_ ?_; (with_reducible refine (impl_within.calls a0_2 1 31 true _ A20.out).mono ?_); rintro e w' ⟨rfl, ⟨nd, rfl⟩⟩; refine ⟨_, rfl, ?_⟩) | (go_at_call 38; (with_reducible refine (impl_within.calls a0_4 0 3 true _ A22.out).mono ?_); rintro e w' ⟨rfl, ⟨nd, rfl⟩⟩) | (go_at_call 38; (with_reducible refine (impl_within.calls a0_6 0 1 t106 _ A24.out).mono ?_); rintro e w' ⟨rfl, ⟨nd, rfl⟩⟩))
        go_ret
        exact ⟨q55_, q40_⟩
       ·replace c23 := Bool.eq_false_iff.mpr c23
        subst c23
        replace H : (some false) = some r := by rw [if_neg (show ¬ (false = true) by decide)] at H; exact H
        obtain rfl := Option.some.inj H
        have hcz26_0 : wc.cell? ⟨gb102, 0, none⟩ = some (.string a0_0) := bz_ BK102 0
        have hcz26_1 : wc.cell? ⟨gb102, 1, none⟩ = some (.int .i64 a0_1) := bz_ BK102 1
        have hcz26_2 : wc.cell? ⟨gb102, 2, none⟩ = some (.int .i64 a0_2) := bz_ BK102 2
        have hcz26_3 : wc.cell? ⟨gb102, 3, none⟩ = some (.string a0_3) := bz_ BK102 3
        have hcz26_4 : wc.cell? ⟨gb102, 4, none⟩ = some (.int .i64 a0_4) := bz_ BK102 4
        have hcz26_5 : wc.cell? ⟨gb102, 5, none⟩ = some (.bool a0_5) := bz_ BK102 5
        have hcz26_6 : wc.cell? ⟨gb102, 6, none⟩ = some (.int .i64 a0_6) := bz_ BK102 6
        have hfz26_0 := blk_frozen BK102.out 0
        have hfz26_1 := blk_frozen BK102.out 1
        have hfz26_2 := blk_frozen BK102.out 2
        have hfz26_3 := blk_frozen BK102.out 3
        have hfz26_4 := blk_frozen BK102.out 4
        have hfz26_5 := blk_frozen BK102.out 5
        have hfz26_6 := blk_frozen BK102.out 6
        go_wp2_with (first | ((with_reducible refine gate_callee (f := 38) rfl ?_); refine goesL_ (some 48) rfl rfl Try.func38 (by kernel_rfl) rfl #[.int .i64 a0_2, .int .i64 1, .int .i64 31] rfl q53_ ?_; (with_reducible refine (impl_within.calls a0_2 1 31 true _ A20.out).mono ?_); rintro e w' ⟨rfl, ⟨nd, rfl⟩⟩; refine ⟨_, rfl, ?_⟩) | (go_at_call 38; (with_reducible refine (impl_within.calls a0_4 0 3 false _ A22.out).mono ?_); rintro e w' ⟨rfl, ⟨nd, rfl⟩⟩))
        go_ret
        exact ⟨q55_, q40_⟩
      ·replace c21 := Bool.eq_false_iff.mpr c21
       subst c21
       replace H : (some false) = some r := by rw [if_neg (show ¬ (false = true) by decide)] at H; exact H
       obtain rfl := Option.some.inj H
       have hcz27_0 : wc.cell? ⟨gb102, 0, none⟩ = some (.string a0_0) := bz_ BK102 0
       have hcz27_1 : wc.cell? ⟨gb102, 1, none⟩ = some (.int .i64 a0_1) := bz_ BK102 1
       have hcz27_2 : wc.cell? ⟨gb102, 2, none⟩ = some (.int .i64 a0_2) := bz_ BK102 2
       have hcz27_3 : wc.cell? ⟨gb102, 3, none⟩ = some (.string a0_3) := bz_ BK102 3
       have hcz27_4 : wc.cell? ⟨gb102, 4, none⟩ = some (.int .i64 a0_4) := bz_ BK102 4
       have hcz27_5 : wc.cell? ⟨gb102, 5, none⟩ = some (.bool a0_5) := bz_ BK102 5
       have hcz27_6 : wc.cell? ⟨gb102, 6, none⟩ = some (.int .i64 a0_6) := bz_ BK102 6
       have hfz27_0 := blk_frozen BK102.out 0
       have hfz27_1 := blk_frozen BK102.out 1
       have hfz27_2 := blk_frozen BK102.out 2
       have hfz27_3 := blk_frozen BK102.out 3
       have hfz27_4 := blk_frozen BK102.out 4
       have hfz27_5 := blk_frozen BK102.out 5
       have hfz27_6 := blk_frozen BK102.out 6
       go_wp2_with (first | ((with_reducible refine gate_callee (f := 38) rfl ?_); refine goesL_ (some 48) rfl rfl Try.func38 (by kernel_rfl) rfl #[.int .i64 a0_2, .int .i64 1, .int .i64 31] rfl q53_ ?_; (with_reducible refine (impl_within.calls a0_2 1 31 false _ A20.out).mono ?_); rintro e w' ⟨rfl, ⟨nd, rfl⟩⟩; refine ⟨_, rfl, ?_⟩))
       go_ret
       exact ⟨q55_, q40_⟩
     ·rw [if_neg c19] at H
      have c19b0 : (a0_1 == 1) = false := beq_eq_false_iff_ne.mpr c19
      have c19b1 : (a0_1 != 1) = true := bne_iff_ne.mpr c19
      by_cases c28 : a0_1 = 2
      ·rw [if_pos c28] at H
       have c28b0 : (a0_1 == 2) = true := beq_iff_eq.mpr c28
       have c28b1 : (a0_1 != 2) = false := bne_eq_false_iff_eq.mpr c28
       clear c28
       replace H := Option.bind_eq_some_iff.mp H
       obtain ⟨t107, A290, H⟩ := H
       have A29 := Aside0.mk A290
       clear A290
       by_cases c30 : t107 = true
       ·subst c30
        replace H : ((impl_within.f a0_4 0 3).bind fun t108 => (if t108 = true then (some (a0_6 == 0)) else (some false))) = some r := by rw [if_pos rfl] at H; exact H
        replace H := Option.bind_eq_some_iff.mp H
        obtain ⟨t108, A310, H⟩ := H
        have A31 := Aside0.mk A310
        clear A310
        by_cases c32 : t108 = true
        ·subst c32
         replace H : (some (a0_6 == 0)) = some r := by rw [if_pos rfl] at H; exact H
         obtain rfl := Option.some.inj H
         have hcz33_0 : wc.cell? ⟨gb102, 0, none⟩ = some (.string a0_0) := bz_ BK102 0
         have hcz33_1 : wc.cell? ⟨gb102, 1, none⟩ = some (.int .i64 a0_1) := bz_ BK102 1
         have hcz33_2 : wc.cell? ⟨gb102, 2, none⟩ = some (.int .i64 a0_2) := bz_ BK102 2
         have hcz33_3 : wc.cell? ⟨gb102, 3, none⟩ = some (.string a0_3) := bz_ BK102 3
         have hcz33_4 : wc.cell? ⟨gb102, 4, none⟩ = some (.int .i64 a0_4) := bz_ BK102 4
         have hcz33_5 : wc.cell? ⟨gb102, 5, none⟩ = some (.bool a0_5) := bz_ BK102 5
         have hcz33_6 : wc.cell? ⟨gb102, 6, none⟩ = some (.int .i64 a0_6) := bz_ BK102 6
         have hfz33_0 := blk_frozen BK102.out 0
         have hfz33_1 := blk_frozen BK102.out 1
         have hfz33_2 := blk_frozen BK102.out 2
         have hfz33_3 := blk_frozen BK102.out 3
         have hfz33_4 := blk_frozen BK102.out 4
         have hfz33_5 := blk_frozen BK102.out 5
         have hfz33_6 := blk_frozen BK102.out 6
         go_wp2_with (first | ((with_reducible refine gate_callee (f := 60) rfl ?_); refine goesL_ (some 63) rfl rfl Try.func60 (by kernel_rfl) rfl #[.int .i64 a0_2] rfl q53_ ?_; (with_reducible refine (impl_isByte.calls a0_2 true _ A29.out).mono ?_); rintro e w' ⟨rfl, ⟨nd, rfl⟩⟩; refine ⟨_, rfl, ?_⟩) | (go_at_call 38; (with_reducible refine (impl_within.calls a0_4 0 3 true _ A31.out).mono ?_); rintro e w' ⟨rfl, ⟨nd, rfl⟩⟩))
         go_ret
         exact ⟨q55_, q40_⟩
        ·replace c32 := Bool.eq_false_iff.mpr c32
         subst c32
         replace H : (some false) = some r := by rw [if_neg (show ¬ (false = true) by decide)] at H; exact H
         obtain rfl := Option.some.inj H
         have hcz34_0 : wc.cell? ⟨gb102, 0, none⟩ = some (.string a0_0) := bz_ BK102 0
         have hcz34_1 : wc.cell? ⟨gb102, 1, none⟩ = some (.int .i64 a0_1) := bz_ BK102 1
         have hcz34_2 : wc.cell? ⟨gb102, 2, none⟩ = some (.int .i64 a0_2) := bz_ BK102 2
         have hcz34_3 : wc.cell? ⟨gb102, 3, none⟩ = some (.string a0_3) := bz_ BK102 3
         have hcz34_4 : wc.cell? ⟨gb102, 4, none⟩ = some (.int .i64 a0_4) := bz_ BK102 4
         have hcz34_5 : wc.cell? ⟨gb102, 5, none⟩ = some (.bool a0_5) := bz_ BK102 5
         have hcz34_6 : wc.cell? ⟨gb102, 6, none⟩ = some (.int .i64 a0_6) := bz_ BK102 6
         have hfz34_0 := blk_frozen BK102.out 0
         have hfz34_1 := blk_frozen BK102.out 1
         have hfz34_2 := blk_frozen BK102.out 2
         have hfz34_3 := blk_frozen BK102.out 3
         have hfz34_4 := blk_frozen BK102.out 4
         have hfz34_5 := blk_frozen BK102.out 5
         have hfz34_6 := blk_frozen BK102.out 6
         go_wp2_with (first | ((with_reducible refine gate_callee (f := 60) rfl ?_); refine goesL_ (some 63) rfl rfl Try.func60 (by kernel_rfl) rfl #[.int .i64 a0_2] rfl q53_ ?_; (with_reducible refine (impl_isByte.calls a0_2 true _ A29.out).mono ?_); rintro e w' ⟨rfl, ⟨nd, rfl⟩⟩; refine ⟨_, rfl, ?_⟩) | (go_at_call 38; (with_reducible refine (impl_within.calls a0_4 0 3 false _ A31.out).mono ?_); rintro e w' ⟨rfl, ⟨nd, rfl⟩⟩))
         go_ret
         exact ⟨q55_, q40_⟩
       ·replace c30 := Bool.eq_false_iff.mpr c30
        subst c30
        replace H : (some false) = some r := by rw [if_neg (show ¬ (false = true) by decide)] at H; exact H
        obtain rfl := Option.some.inj H
        have hcz35_0 : wc.cell? ⟨gb102, 0, none⟩ = some (.string a0_0) := bz_ BK102 0
        have hcz35_1 : wc.cell? ⟨gb102, 1, none⟩ = some (.int .i64 a0_1) := bz_ BK102 1
        have hcz35_2 : wc.cell? ⟨gb102, 2, none⟩ = some (.int .i64 a0_2) := bz_ BK102 2
        have hcz35_3 : wc.cell? ⟨gb102, 3, none⟩ = some (.string a0_3) := bz_ BK102 3
        have hcz35_4 : wc.cell? ⟨gb102, 4, none⟩ = some (.int .i64 a0_4) := bz_ BK102 4
        have hcz35_5 : wc.cell? ⟨gb102, 5, none⟩ = some (.bool a0_5) := bz_ BK102 5
        have hcz35_6 : wc.cell? ⟨gb102, 6, none⟩ = some (.int .i64 a0_6) := bz_ BK102 6
        have hfz35_0 := blk_frozen BK102.out 0
        have hfz35_1 := blk_frozen BK102.out 1
        have hfz35_2 := blk_frozen BK102.out 2
        have hfz35_3 := blk_frozen BK102.out 3
        have hfz35_4 := blk_frozen BK102.out 4
        have hfz35_5 := blk_frozen BK102.out 5
        have hfz35_6 := blk_frozen BK102.out 6
        go_wp2_with (first | ((with_reducible refine gate_callee (f := 60) rfl ?_); refine goesL_ (some 63) rfl rfl Try.func60 (by kernel_rfl) rfl #[.int .i64 a0_2] rfl q53_ ?_; (with_reducible refine (impl_isByte.calls a0_2 false _ A29.out).mono ?_); rintro e w' ⟨rfl, ⟨nd, rfl⟩⟩; refine ⟨_, rfl, ?_⟩))
        go_ret
        exact ⟨q55_, q40_⟩
      ·rw [if_neg c28] at H
       have c28b0 : (a0_1 == 2) = false := beq_eq_false_iff_ne.mpr c28
       have c28b1 : (a0_1 != 2) = true := bne_iff_ne.mpr c28
       obtain rfl := Option.some.inj H
       have hcz36_0 : wc.cell? ⟨gb102, 0, none⟩ = some (.string a0_0) := bz_ BK102 0
       have hcz36_1 : wc.cell? ⟨gb102, 1, none⟩ = some (.int .i64 a0_1) := bz_ BK102 1
       have hcz36_2 : wc.cell? ⟨gb102, 2, none⟩ = some (.int .i64 a0_2) := bz_ BK102 2
       have hcz36_3 : wc.cell? ⟨gb102, 3, none⟩ = some (.string a0_3) := bz_ BK102 3
       have hcz36_4 : wc.cell? ⟨gb102, 4, none⟩ = some (.int .i64 a0_4) := bz_ BK102 4
       have hcz36_5 : wc.cell? ⟨gb102, 5, none⟩ = some (.bool a0_5) := bz_ BK102 5
       have hcz36_6 : wc.cell? ⟨gb102, 6, none⟩ = some (.int .i64 a0_6) := bz_ BK102 6
       have hfz36_0 := blk_frozen BK102.out 0
       have hfz36_1 := blk_frozen BK102.out 1
       have hfz36_2 := blk_frozen BK102.out 2
       have hfz36_3 := blk_frozen BK102.out 3
       have hfz36_4 := blk_frozen BK102.out 4
       have hfz36_5 := blk_frozen BK102.out 5
       have hfz36_6 := blk_frozen BK102.out 6
       go_wp2
       go_ret
       exact ⟨q55_, q40_⟩
def impl_Cart_mapped.f (a0_0 : ByteArray) (a0_1 : Int) (a0_2 : Int) (a0_3 : ByteArray) (a0_4 : Int) (a0_5 : Bool) (a0_6 : Int) : Option (Int) := if (wrap64 ((a0_0.size : Int) / 256)) = 0 then (none) else (some (Int.tmod a0_2 (wrap64 ((a0_0.size : Int) / 256))))
theorem impl_Cart_mapped.calls (a0_0 : ByteArray) (a0_1 : Int) (a0_2 : Int) (a0_3 : ByteArray) (a0_4 : Int) (a0_5 : Bool) (a0_6 : Int) (r : Int) (w : World) (h : impl_Cart_mapped.f a0_0 a0_1 a0_2 a0_3 a0_4 a0_5 a0_6 = some r) :
  Calls Try.prog 65 #[.agg #[.string a0_0, .int .i64 a0_1, .int .i64 a0_2, .string a0_3, .int .i64 a0_4, .bool a0_5, .int .i64 a0_6]] w fun e w' => e = .returned (.int .i64 r) ∧ Below w.heap.size w w' := by
 have hu32 := Try.underlying32
 have HB := Aside0.mk (Below.refl w.heap.size w)
 have H : (if (wrap64 ((a0_0.size : Int) / 256)) = 0 then (none) else (some (Int.tmod a0_2 (wrap64 ((a0_0.size : Int) / 256))))) = some r := h
 clear h
 by_cases c2 : (wrap64 ((a0_0.size : Int) / 256)) = 0
 ·rw [if_pos c2] at H
  exact absurd H (by simp)
 ·rw [if_neg c2] at H
  have c2b0 : ((wrap64 ((a0_0.size : Int) / 256)) == 0) = false := beq_eq_false_iff_ne.mpr c2
  have c2b1 : ((wrap64 ((a0_0.size : Int) / 256)) != 0) = true := bne_iff_ne.mpr c2
  obtain rfl := Option.some.inj H
  go_enter Try.func65, Try.ntmps65
  go_wp2_with (first | ((with_reducible refine gate_dst (N := 1) rfl ?_); refine box_event ?hg (N := 1) ?hd (cs := #[.string a0_0, .int .i64 a0_1, .int .i64 a0_2, .string a0_3, .int .i64 a0_4, .bool a0_5, .int .i64 a0_6]) (t := 32) ?hr ?_; (case hd => rfl); (case hg => rfl); (case hr => exact q109_); intro gb109 hg w3 hbox hb; have n0_ := Aside0.mk (below_step q54_ hb); have n1_ := Aside0.mk (hbox); have n2_ := Aside0.mk ((q39_ : w.heap.size ≤ gb109)); have n3_ := Aside0.mk ((q39_ : w.heap.size ≤ gb109)); clear HB; have HB := n0_; have BK109 := n1_; have GW109 := n2_; have GE109 := n3_; clear n0_ n1_ n2_ n3_; clear hb hbox hg; have hcz4_0 : w3.cell? ⟨gb109, 0, none⟩ = some (.string a0_0) := (blk_cell BK109.out 0).trans rfl; have hcz4_1 : w3.cell? ⟨gb109, 1, none⟩ = some (.int .i64 a0_1) := (blk_cell BK109.out 1).trans rfl; have hcz4_2 : w3.cell? ⟨gb109, 2, none⟩ = some (.int .i64 a0_2) := (blk_cell BK109.out 2).trans rfl; have hcz4_3 : w3.cell? ⟨gb109, 3, none⟩ = some (.string a0_3) := (blk_cell BK109.out 3).trans rfl; have hcz4_4 : w3.cell? ⟨gb109, 4, none⟩ = some (.int .i64 a0_4) := (blk_cell BK109.out 4).trans rfl; have hcz4_5 : w3.cell? ⟨gb109, 5, none⟩ = some (.bool a0_5) := (blk_cell BK109.out 5).trans rfl; have hcz4_6 : w3.cell? ⟨gb109, 6, none⟩ = some (.int .i64 a0_6) := (blk_cell BK109.out 6).trans rfl; have hfz4_0 := blk_frozen BK109.out 0; have hfz4_1 := blk_frozen BK109.out 1; have hfz4_2 := blk_frozen BK109.out 2; have hfz4_3 := blk_frozen BK109.out 3; have hfz4_4 := blk_frozen BK109.out 4; have hfz4_5 := blk_frozen BK109.out 5; have hfz4_6 := blk_frozen BK109.out 6))
  go_ret
  exact ⟨q55_, by repeat (first | (with_reducible first | exact HB.out | apply below_alloc | apply pw_below_drewN | apply below_drew1 | refine below_set ?_ GE109.out) | exact HB.out)⟩
def impl_MappedBank.f (k : Nat) (a0_0 : ByteArray) (a0_1 : Int) (a0_2 : Int) (a0_3 : ByteArray) (a0_4 : Int) (a0_5 : Bool) (a0_6 : Int) : Option (Int) := (impl_CartOk.f k a0_0 a0_1 a0_2 a0_3 a0_4 a0_5 a0_6).bind fun t111 => (if t111 = true then ((impl_Cart_mapped.f a0_0 a0_1 a0_2 a0_3 a0_4 a0_5 a0_6).bind fun t112 => (some t112)) else (some (-1)))
theorem impl_MappedBank.mono : ∀ a0 a1 a2 a3 a4 a5 a6 k, LeO (impl_MappedBank.f k a0 a1 a2 a3 a4 a5 a6) (impl_MappedBank.f (k + 1) a0 a1 a2 a3 a4 a5 a6) := by
 intro a0 a1 a2 a3 a4 a5 a6 k
 unfold impl_MappedBank.f
 repeat' first
   | (with_reducible first | exact impl_CartOk.mono _ _ _ _ _ _ _ _ | exact LeO.refl _ | exact LeO.none _ | refine LeO.ite ?_ ?_ | refine LeO.bind ?_ (fun _ => ?_))
   | exact impl_CartOk.mono _ _ _ _ _ _ _ _
   | exact LeO.none _
   | refine LeO.ite ?_ ?_
   | refine LeO.bind ?_ (fun _ => ?_)
theorem impl_MappedBank.calls (k : Nat) (a0_0 : ByteArray) (a0_1 : Int) (a0_2 : Int) (a0_3 : ByteArray) (a0_4 : Int) (a0_5 : Bool) (a0_6 : Int) (r : Int) (w : World) (h : impl_MappedBank.f k a0_0 a0_1 a0_2 a0_3 a0_4 a0_5 a0_6 = some r) :
  Calls Try.prog 20 #[.agg #[.string a0_0, .int .i64 a0_1, .int .i64 a0_2, .string a0_3, .int .i64 a0_4, .bool a0_5, .int .i64 a0_6]] w fun e w' => e = .returned (.int .i64 r) ∧ Below w.heap.size w w' := by
 have hu32 := Try.underlying32
 have HB := Aside0.mk (Below.refl w.heap.size w)
 have H : ((impl_CartOk.f k a0_0 a0_1 a0_2 a0_3 a0_4 a0_5 a0_6).bind fun t111 => (if t111 = true then ((impl_Cart_mapped.f a0_0 a0_1 a0_2 a0_3 a0_4 a0_5 a0_6).bind fun t112 => (some t112)) else (some (-1)))) = some r := h
 clear h
 replace H := Option.bind_eq_some_iff.mp H
 obtain ⟨t111, A20, H⟩ := H
 have A2 := Aside0.mk A20
 clear A20
 by_cases c3 : t111 = true
 ·subst c3
  replace H : ((impl_Cart_mapped.f a0_0 a0_1 a0_2 a0_3 a0_4 a0_5 a0_6).bind fun t112 => (some t112)) = some r := by rw [if_pos rfl] at H; exact H
  replace H := Option.bind_eq_some_iff.mp H
  obtain ⟨t112, A40, H⟩ := H
  have A4 := Aside0.mk A40
  clear A40
  obtain rfl := Option.some.inj H
  go_enter Try.func20, Try.ntmps20
  go_wp2_with (first | ((with_reducible refine gate_dst (N := 1) rfl ?_); refine box_event ?hg (N := 1) ?hd (cs := #[.string a0_0, .int .i64 a0_1, .int .i64 a0_2, .string a0_3, .int .i64 a0_4, .bool a0_5, .int .i64 a0_6]) (t := 32) ?hr ?_; (case hd => rfl); (case hg => rfl); (case hr => exact q109_); intro gb110 hg w5 hbox hb; have n0_ := Aside0.mk (below_step q54_ hb); have n1_ := Aside0.mk (hbox); have n2_ := Aside0.mk ((q39_ : w.heap.size ≤ gb110)); have n3_ := Aside0.mk ((q39_ : w.heap.size ≤ gb110)); clear HB; have HB := n0_; have BK110 := n1_; have GW110 := n2_; have GE110 := n3_; clear n0_ n1_ n2_ n3_; clear hb hbox hg; have hcz6_0 : w5.cell? ⟨gb110, 0, none⟩ = some (.string a0_0) := (blk_cell BK110.out 0).trans rfl; have hcz6_1 : w5.cell? ⟨gb110, 1, none⟩ = some (.int .i64 a0_1) := (blk_cell BK110.out 1).trans rfl; have hcz6_2 : w5.cell? ⟨gb110, 2, none⟩ = some (.int .i64 a0_2) := (blk_cell BK110.out 2).trans rfl; have hcz6_3 : w5.cell? ⟨gb110, 3, none⟩ = some (.string a0_3) := (blk_cell BK110.out 3).trans rfl; have hcz6_4 : w5.cell? ⟨gb110, 4, none⟩ = some (.int .i64 a0_4) := (blk_cell BK110.out 4).trans rfl; have hcz6_5 : w5.cell? ⟨gb110, 5, none⟩ = some (.bool a0_5) := (blk_cell BK110.out 5).trans rfl; have hcz6_6 : w5.cell? ⟨gb110, 6, none⟩ = some (.int .i64 a0_6) := (blk_cell BK110.out 6).trans rfl; have hfz6_0 := blk_frozen BK110.out 0; have hfz6_1 := blk_frozen BK110.out 1; have hfz6_2 := blk_frozen BK110.out 2; have hfz6_3 := blk_frozen BK110.out 3; have hfz6_4 := blk_frozen BK110.out 4; have hfz6_5 := blk_frozen BK110.out 5; have hfz6_6 := blk_frozen BK110.out 6) | ((with_reducible refine gate_callee (f := 24) rfl ?_); refine goesL_ (some 4) rfl rfl Try.func24 (by kernel_rfl) rfl #[.agg #[.string a0_0, .int .i64 a0_1, .int .i64 a0_2, .string a0_3, .int .i64 a0_4, .bool a0_5, .int .i64 a0_6]] rfl q53_ ?_; (with_reducible refine (impl_CartOk.calls k a0_0 a0_1 a0_2 a0_3 a0_4 a0_5 a0_6 true _ A2.out).mono ?_); rintro e w7 ⟨rfl, hb⟩; refine ⟨_, rfl, ?_⟩; have n0_ := Aside0.mk (blk_below (g := gb110) (o := .cells #[.string a0_0, .int .i64 a0_1, .int .i64 a0_2, .string a0_3, .int .i64 a0_4, .bool a0_5, .int .i64 a0_6] 32 (0, 0)) q57_ hb); have n1_ := Aside0.mk (below_step q41_ hb); clear BK110; clear HB; have BK110 := n0_; have HB := n1_; clear n0_ n1_; (try clear hb); have hcz8_0 : w7.cell? ⟨gb110, 0, none⟩ = some (.string a0_0) := (blk_cell BK110.out 0).trans rfl; have hcz8_1 : w7.cell? ⟨gb110, 1, none⟩ = some (.int .i64 a0_1) := (blk_cell BK110.out 1).trans rfl; have hcz8_2 : w7.cell? ⟨gb110, 2, none⟩ = some (.int .i64 a0_2) := (blk_cell BK110.out 2).trans rfl; have hcz8_3 : w7.cell? ⟨gb110, 3, none⟩ = some (.string a0_3) := (blk_cell BK110.out 3).trans rfl; have hcz8_4 : w7.cell? ⟨gb110, 4, none⟩ = some (.int .i64 a0_4) := (blk_cell BK110.out 4).trans rfl; have hcz8_5 : w7.cell? ⟨gb110, 5, none⟩ = some (.bool a0_5) := (blk_cell BK110.out 5).trans rfl; have hcz8_6 : w7.cell? ⟨gb110, 6, none⟩ = some (.int .i64 a0_6) := (blk_cell BK110.out 6).trans rfl; have hfz8_0 := blk_frozen BK110.out 0; have hfz8_1 := blk_frozen BK110.out 1; have hfz8_2 := blk_frozen BK110.out 2; have hfz8_3 := blk_frozen BK110.out 3; have hfz8_4 := blk_frozen BK110.out 4; have hfz8_5 := blk_frozen BK110.out 5; have hfz8_6 := blk_frozen BK110.out 6) | ((with_reducible refine gate_callee (f := 65) rfl ?_); refine goesL_ (some 7) rfl rfl Try.func65 (by kernel_rfl) rfl #[.agg #[.string a0_0, .int .i64 a0_1, .int .i64 a0_2, .string a0_3, .int .i64 a0_4, .bool a0_5, .int .i64 a0_6]] rfl q53_ ?_; (with_reducible refine (impl_Cart_mapped.calls a0_0 a0_1 a0_2 a0_3 a0_4 a0_5 a0_6 t112 _ A4.out).mono ?_); rintro e w9 ⟨rfl, hb⟩; refine ⟨_, rfl, ?_⟩; have n0_ := Aside0.mk (blk_below (g := gb110) (o := .cells #[.string a0_0, .int .i64 a0_1, .int .i64 a0_2, .string a0_3, .int .i64 a0_4, .bool a0_5, .int .i64 a0_6] 32 (0, 0)) q57_ hb); have n1_ := Aside0.mk (below_step q41_ hb); clear BK110; clear HB; have BK110 := n0_; have HB := n1_; clear n0_ n1_; (try clear hb)))
  go_ret
  exact ⟨q55_, q41_⟩
 ·replace c3 := Bool.eq_false_iff.mpr c3
  subst c3
  replace H : (some (-1)) = some r := by rw [if_neg (show ¬ (false = true) by decide)] at H; exact H
  obtain rfl := Option.some.inj H
  go_enter Try.func20, Try.ntmps20
  go_wp2_with (first | ((with_reducible refine gate_dst (N := 1) rfl ?_); refine box_event ?hg (N := 1) ?hd (cs := #[.string a0_0, .int .i64 a0_1, .int .i64 a0_2, .string a0_3, .int .i64 a0_4, .bool a0_5, .int .i64 a0_6]) (t := 32) ?hr ?_; (case hd => rfl); (case hg => rfl); (case hr => exact q109_); intro gb110 hg w10 hbox hb; have n0_ := Aside0.mk (below_step q54_ hb); have n1_ := Aside0.mk (hbox); have n2_ := Aside0.mk ((q39_ : w.heap.size ≤ gb110)); have n3_ := Aside0.mk ((q39_ : w.heap.size ≤ gb110)); clear HB; have HB := n0_; have BK110 := n1_; have GW110 := n2_; have GE110 := n3_; clear n0_ n1_ n2_ n3_; clear hb hbox hg; have hcz11_0 : w10.cell? ⟨gb110, 0, none⟩ = some (.string a0_0) := (blk_cell BK110.out 0).trans rfl; have hcz11_1 : w10.cell? ⟨gb110, 1, none⟩ = some (.int .i64 a0_1) := (blk_cell BK110.out 1).trans rfl; have hcz11_2 : w10.cell? ⟨gb110, 2, none⟩ = some (.int .i64 a0_2) := (blk_cell BK110.out 2).trans rfl; have hcz11_3 : w10.cell? ⟨gb110, 3, none⟩ = some (.string a0_3) := (blk_cell BK110.out 3).trans rfl; have hcz11_4 : w10.cell? ⟨gb110, 4, none⟩ = some (.int .i64 a0_4) := (blk_cell BK110.out 4).trans rfl; have hcz11_5 : w10.cell? ⟨gb110, 5, none⟩ = some (.bool a0_5) := (blk_cell BK110.out 5).trans rfl; have hcz11_6 : w10.cell? ⟨gb110, 6, none⟩ = some (.int .i64 a0_6) := (blk_cell BK110.out 6).trans rfl; have hfz11_0 := blk_frozen BK110.out 0; have hfz11_1 := blk_frozen BK110.out 1; have hfz11_2 := blk_frozen BK110.out 2; have hfz11_3 := blk_frozen BK110.out 3; have hfz11_4 := blk_frozen BK110.out 4; have hfz11_5 := blk_frozen BK110.out 5; have hfz11_6 := blk_frozen BK110.out 6) | ((with_reducible refine gate_callee (f := 24) rfl ?_); refine goesL_ (some 4) rfl rfl Try.func24 (by kernel_rfl) rfl #[.agg #[.string a0_0, .int .i64 a0_1, .int .i64 a0_2, .string a0_3, .int .i64 a0_4, .bool a0_5, .int .i64 a0_6]] rfl q53_ ?_; (with_reducible refine (impl_CartOk.calls k a0_0 a0_1 a0_2 a0_3 a0_4 a0_5 a0_6 false _ A2.out).mono ?_); rintro e w12 ⟨rfl, hb⟩; refine ⟨_, rfl, ?_⟩; have n0_ := Aside0.mk (blk_below (g := gb110) (o := .cells #[.string a0_0, .int .i64 a0_1, .int .i64 a0_2, .string a0_3, .int .i64 a0_4, .bool a0_5, .int .i64 a0_6] 32 (0, 0)) q57_ hb); have n1_ := Aside0.mk (below_step q41_ hb); clear BK110; clear HB; have BK110 := n0_; have HB := n1_; clear n0_ n1_; (try clear hb)))
  go_ret
  exact ⟨q55_, q41_⟩
def impl_isWord.f (a0 : Int) : Option (Bool) := (impl_within.f a0 0 65535).bind fun t113 => (some t113)
theorem impl_isWord.calls (a0 : Int) (r : Bool) (w : World) (h : impl_isWord.f a0 = some r) :
  Calls Try.prog 59 #[.int .i64 a0] w fun e w' => e = .returned (.bool r) ∧ Drawn0 w w' := by
 have H : ((impl_within.f a0 0 65535).bind fun t113 => (some t113)) = some r := h
 clear h
 replace H := Option.bind_eq_some_iff.mp H
 obtain ⟨t113, A20, H⟩ := H
 have A2 := Aside0.mk A20
 clear A20
 obtain rfl := Option.some.inj H
 go_enter Try.func59, Try.ntmps59
 go_wp2_with (first | ((with_reducible refine gate_callee (f := 38) rfl ?_); refine goesL_ (some 4) rfl rfl Try.func38 (by kernel_rfl) rfl #[.int .i64 a0, .int .i64 0, .int .i64 65535] rfl q53_ ?_; (with_reducible refine (impl_within.calls a0 0 65535 t113 _ A2.out).mono ?_); rintro e w' ⟨rfl, ⟨nd, rfl⟩⟩; refine ⟨_, rfl, ?_⟩))
 go_ret
 exact ⟨q74_, q81_⟩
end Go.Proofs.Ytcohcndliaaacaa.QFnCartNew
