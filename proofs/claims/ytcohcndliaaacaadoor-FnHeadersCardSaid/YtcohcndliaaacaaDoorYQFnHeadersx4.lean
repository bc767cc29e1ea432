/- The machine's side of a law, written by a program of this session for this claim. -/
import Derived.Test.YtcohcndliaaacaaDoorYQq
import Derived.Test.YtcohcndliaaacaaDoorYQFnHeadersx0
import Derived.Test.YtcohcndliaaacaaDoorYQFnHeadersx3
namespace Go.Proofs.YtcohcndliaaacaaDoor.QFnHeaders
open Go.Proofs.YtcohcndliaaacaaDoor.Qq
open Go.RowKit Go.Proofs.YtcohcndliaaacaaDoor.LibX Go.Proofs.YtcohcndliaaacaaDoor.LibE Go.Proofs.YtcohcndliaaacaaDoorW.PrintWords Go.Proofs.YtcohcndliaaacaaDoorW.PrintLast Go.Proofs.YtcohcndliaaacaaDoorW.PrintMore
attribute [local go_sem] max2_int min2_int max_two min_two max_three min_three max_four min_four   -- for this text's walks alone
set_option maxHeartbeats 8000000
set_option maxRecDepth 100000
set_option linter.unusedVariables false
set_option linter.unusedSimpArgs false
mutual
def impl_HeaderOf.j0 : Nat → ByteArray → Int → Bool → Option (ByteArray × Int × Int × Int × Int × Bool)
 | 0, _, _, _ => none
 | k + 1, x0, x4, x27 => if x27 = true then (some ((⟨#[]⟩ : ByteArray), 0, 0, 0, 0, false)) else (if 52 ≤ 67 then (if 67 ≤ (x0.size : Int) then ((strings_TrimRight.f (x0.extract 52 67) (⟨#[0]⟩ : ByteArray)).bind fun t121 => (if 71 < (x0.size : Int) then (if 77 < (x0.size : Int) then (if 78 < (x0.size : Int) then (if 79 < (x0.size : Int) then ((impl_isPlain.f k t121).bind fun t123 => (if t123 = true then (if (wrap64 (bt x0 71)) > 2 then (impl_HeaderOf.j1 k true t121 (wrap64 (bt x0 71)) x4 (wrap64 (bt x0 77)) (Go.bits .or .i64 (wrap64 ((wrap64 (bt x0 78)) * 256)) (wrap64 (bt x0 79)))) else ((impl_HeaderSum.f k x0).bind fun t124 => (if (wrap64 (bt x0 77)) = t124 then ((impl_WholeSum.f k x0).bind fun t125 => (impl_HeaderOf.j1 k ((Go.bits .or .i64 (wrap64 ((wrap64 (bt x0 78)) * 256)) (wrap64 (bt x0 79))) != t125) t121 (wrap64 (bt x0 71)) x4 (wrap64 (bt x0 77)) (Go.bits .or .i64 (wrap64 ((wrap64 (bt x0 78)) * 256)) (wrap64 (bt x0 79))))) else (impl_HeaderOf.j1 k true t121 (wrap64 (bt x0 71)) x4 (wrap64 (bt x0 77)) (Go.bits .or .i64 (wrap64 ((wrap64 (bt x0 78)) * 256)) (wrap64 (bt x0 79))))))) else (impl_HeaderOf.j1 k true t121 (wrap64 (bt x0 71)) x4 (wrap64 (bt x0 77)) (Go.bits .or .i64 (wrap64 ((wrap64 (bt x0 78)) * 256)) (wrap64 (bt x0 79)))))) else (none)) else (none)) else (none)) else (none))) else (none)) else (none))
def impl_HeaderOf.j1 : Nat → Bool → ByteArray → Int → Int → Int → Int → Option (ByteArray × Int × Int × Int × Int × Bool)
 | 0, _, _, _, _, _, _ => none
 | k + 1, x70, x123000, x123001, x123002, x123003, x123004 => if x70 = true then (some ((⟨#[]⟩ : ByteArray), 0, 0, 0, 0, false)) else (some (x123000, x123001, x123002, x123003, x123004, true))
end
def impl_HeaderOf.f (k : Nat) (a0 : ByteArray) : Option (ByteArray × Int × Int × Int × Int × Bool) := (impl_banksOf.f a0 2).bind fun t118 => ((impl_doubled.f k t118).bind fun bt119 => (if t118 = 0 then (impl_HeaderOf.j0 k a0 t118 true) else (if bt119.2 = true then (if 72 < (a0.size : Int) then (impl_HeaderOf.j0 k a0 t118 ((wrap64 (bt a0 72)) != bt119.1)) else (none)) else (impl_HeaderOf.j0 k a0 t118 true))))
theorem impl_HeaderOf.mono_l : ∀ k, (∀ y0 y1 y2, LeO (impl_HeaderOf.j0 k y0 y1 y2) (impl_HeaderOf.j0 (k + 1) y0 y1 y2)) ∧ (∀ y0 y1 y2 y3 y4 y5, LeO (impl_HeaderOf.j1 k y0 y1 y2 y3 y4 y5) (impl_HeaderOf.j1 (k + 1) y0 y1 y2 y3 y4 y5))
 | 0 => ⟨fun _ _ _ r h => by simp [impl_HeaderOf.j0] at h, fun _ _ _ _ _ _ r h => by simp [impl_HeaderOf.j1] at h⟩
 | k + 1 => by
  obtain ⟨ih0, ih1⟩ := impl_HeaderOf.mono_l k
  refine ⟨?_, ?_⟩
  ·intro y0 y1 y2
   unfold impl_HeaderOf.j0
   repeat' first
   | (with_reducible first | exact ih0 _ _ _ | exact ih1 _ _ _ _ _ _ | exact impl_HeaderSum.mono _ _ | exact impl_WholeSum.mono _ _ | exact impl_doubled.mono _ _ | exact impl_isPlain.mono _ _ | exact LeO.refl _ | exact LeO.none _ | refine LeO.ite ?_ ?_ | refine LeO.bind ?_ (fun _ => ?_))
   | exact ih0 _ _ _
   | exact ih1 _ _ _ _ _ _
   | exact impl_HeaderSum.mono _ _
   | exact impl_WholeSum.mono _ _
   | exact impl_doubled.mono _ _
   | exact impl_isPlain.mono _ _
   | exact LeO.none _
   | refine LeO.ite ?_ ?_
   | refine LeO.bind ?_ (fun _ => ?_)
  ·intro y0 y1 y2 y3 y4 y5
   unfold impl_HeaderOf.j1
   repeat' first
   | (with_reducible first | exact ih0 _ _ _ | exact ih1 _ _ _ _ _ _ | exact impl_HeaderSum.mono _ _ | exact impl_WholeSum.mono _ _ | exact impl_doubled.mono _ _ | exact impl_isPlain.mono _ _ | exact LeO.refl _ | exact LeO.none _ | refine LeO.ite ?_ ?_ | refine LeO.bind ?_ (fun _ => ?_))
   | exact ih0 _ _ _
   | exact ih1 _ _ _ _ _ _
   | exact impl_HeaderSum.mono _ _
   | exact impl_WholeSum.mono _ _
   | exact impl_doubled.mono _ _
   | exact impl_isPlain.mono _ _
   | exact LeO.none _
   | refine LeO.ite ?_ ?_
   | refine LeO.bind ?_ (fun _ => ?_)
theorem impl_HeaderOf.mono : ∀ a0 k, LeO (impl_HeaderOf.f k a0) (impl_HeaderOf.f (k + 1) a0) := by
 intro a0 k
 obtain ⟨ih0, ih1⟩ := impl_HeaderOf.mono_l k
 unfold impl_HeaderOf.f
 repeat' first
   | (with_reducible first | exact ih0 _ _ _ | exact ih1 _ _ _ _ _ _ | exact impl_HeaderSum.mono _ _ | exact impl_WholeSum.mono _ _ | exact impl_doubled.mono _ _ | exact impl_isPlain.mono _ _ | exact LeO.refl _ | exact LeO.none _ | refine LeO.ite ?_ ?_ | refine LeO.bind ?_ (fun _ => ?_))
   | exact ih0 _ _ _
   | exact ih1 _ _ _ _ _ _
   | exact impl_HeaderSum.mono _ _
   | exact impl_WholeSum.mono _ _
   | exact impl_doubled.mono _ _
   | exact impl_isPlain.mono _ _
   | exact LeO.none _
   | refine LeO.ite ?_ ?_
   | refine LeO.bind ?_ (fun _ => ?_)
def impl_HeaderOf.T5 : Bool × List (List Nat × List Nat) := (true, [([], []), ([0], [0]), ([1], [1]), ([], []), ([3], [3]), ([4], [4]), ([], []), ([], []), ([7], [7]), ([8], [8]), ([], []), ([10], [10]), ([11], [11]), ([12], [12]), ([], []), ([14], [14]), ([15], [15]), ([13, 16], [13, 16]), ([2, 5, 6, 9, 17], [2, 5, 6, 9, 17]), ([], []), ([19, 18, 2, 0, 1, 2, 3, 4, 5, 6, 7, 8, 9, 10, 11, 12, 13, 14, 15, 16, 17, 18, 19], [18, 19])])
def impl_HeaderOf.B5 : List Nat := [0, 1, 3, 0, 8, 24, 0, 0, 128, 384, 0, 1024, 3072, 7168, 0, 16384, 49152, 130048, 262143, 0, 1048575]
theorem impl_HeaderOf.tab5 : rtab .any (opsOf Tryd.f9 5) = impl_HeaderOf.T5 := by kernel_rfl
theorem impl_HeaderOf.bits5 : waitsOk impl_HeaderOf.T5.2 impl_HeaderOf.B5 = true := by kernel_rfl
def impl_HeaderOf.T6 : Bool × List (List Nat × List Nat) := (true, [([], []), ([0], [0]), ([1], [1]), ([2], [2]), ([3, 2], [3]), ([4], [4]), ([5, 4], [4, 5]), ([6, 4], [4, 6]), ([4, 7], [4, 7]), ([8, 4], [8]), ([9], [9]), ([10, 9], [9, 10]), ([9], [9]), ([12, 9, 9], [9, 12]), ([11, 13, 9], [9, 11, 13]), ([9, 14], [9, 14]), ([15, 13], [15]), ([16], [16]), ([17, 16], [16, 17]), ([16], [16]), ([19, 16, 16], [16, 19]), ([18, 20, 16], [16, 18, 20]), ([16, 21], [16, 21])])
def impl_HeaderOf.B6 : List Nat := [0, 1, 3, 7, 15, 31, 63, 127, 255, 511, 1023, 2047, 1023, 5119, 16383, 32767, 65535, 131071, 262143, 131071, 655359, 2097151, 4194303]
theorem impl_HeaderOf.tab6 : rtab .any (opsOf Tryd.f9 6) = impl_HeaderOf.T6 := by kernel_rfl
theorem impl_HeaderOf.bits6 : waitsOk impl_HeaderOf.T6.2 impl_HeaderOf.B6 = true := by kernel_rfl
theorem impl_HeaderOf.calls (k : Nat) (a0 : ByteArray) (r1 : ByteArray) (r2 : Int) (r3 : Int) (r4 : Int) (r5 : Int) (r6 : Bool) (w : World) (h : impl_HeaderOf.f k a0 = some (r1, r2, r3, r4, r5, r6)) :
  Calls Tryd.prog 9 #[.string a0] w fun e w' => e = .returned (.tuple #[.agg #[.string r1, .int .i64 r2, .int .i64 r3, .int .i64 r4, .int .i64 r5], .bool r6]) ∧ Below w.heap.size w w' := by
 have hu23 := Tryd.underlying23
 have HB := Aside0.mk (Below.refl w.heap.size w)
 have H : ((impl_banksOf.f a0 2).bind fun t118 => ((impl_doubled.f k t118).bind fun bt119 => (if t118 = 0 then (impl_HeaderOf.j0 k a0 t118 true) else (if bt119.2 = true then (if 72 < (a0.size : Int) then (impl_HeaderOf.j0 k a0 t118 ((wrap64 (bt a0 72)) != bt119.1)) else (none)) else (impl_HeaderOf.j0 k a0 t118 true))))) = some (r1, r2, r3, r4, r5, r6) := h
 clear h
 replace H := Option.bind_eq_some_iff.mp H
 obtain ⟨t118, A20, H⟩ := H
 have A2 := Aside0.mk A20
 clear A20
 replace H := Option.bind_eq_some_iff.mp H
 obtain ⟨⟨t119, t120⟩, A30, H⟩ := H
 replace H : (if t118 = 0 then (impl_HeaderOf.j0 k a0 t118 true) else (if t120 = true then (if 72 < (a0.size : Int) then (impl_HeaderOf.j0 k a0 t118 ((wrap64 (bt a0 72)) != t119)) else (none)) else (impl_HeaderOf.j0 k a0 t118 true))) = some (r1, r2, r3, r4, r5, r6) := H
 have A3 := Aside0.mk A30
 clear A30
 have HC4 := Aside0.mk H
 clear H
 go_enter Tryd.func9, Tryd.ntmps9
 go_upto_region 3 with (first | ((with_reducible refine gate_dst (N := 2) rfl ?_); refine box_event ?hg (N := 2) ?hd (cs := #[.string (⟨#[]⟩ : ByteArray), .int .i64 0, .int .i64 0, .int .i64 0, .int .i64 0]) (t := 23) ?hr ?_; (case hd => rfl); (case hg => rfl); (case hr => exact q118_); intro gb117 hg w5 hbox hb; have n0_ := Aside0.mk (below_step q56_ hb); have n1_ := Aside0.mk (hbox); have n2_ := Aside0.mk ((q43_ : w.heap.size ≤ gb117)); have n3_ := Aside0.mk ((q43_ : w.heap.size ≤ gb117)); clear HB; have HB := n0_; have BK117 := n1_; have GW117 := n2_; have GE117 := n3_; clear n0_ n1_ n2_ n3_; clear hb hbox hg) | ((with_reducible refine gate_callee (f := 32) rfl ?_); refine goesL_ (some 9) rfl rfl Tryd.func32 (by kernel_rfl) rfl #[.string a0, .int .i64 2] rfl q55_ ?_; (with_reducible refine (impl_banksOf.calls a0 2 t118 _ A2.out).mono ?_); rintro e w' ⟨rfl, ⟨nd, rfl⟩⟩; refine ⟨_, rfl, ?_⟩) | ((with_reducible refine gate_callee (f := 33) rfl ?_); refine goesL_ (some 12) rfl rfl Tryd.func33 (by kernel_rfl) rfl #[.int .i64 t118] rfl q55_ ?_; (with_reducible refine (impl_doubled.calls k t118 t119 t120 _ A3.out).mono ?_); rintro e w' ⟨rfl, ⟨nd, rfl⟩⟩; refine ⟨_, rfl, ?_⟩))
 (try simp only [Act.put, List.setIfInBounds_toArray, List.set_cons_zero, List.set_cons_succ])
 go_cut [27] (fun v27 wc => ∃ (kq : Nat) (x27_3 : Bool), v27 = .bool x27_3 ∧ Aside0 (impl_HeaderOf.j0 kq a0 t118 x27_3 = some (r1, r2, r3, r4, r5, r6)) ∧ Aside0 (kq ≤ k) ∧ Aside0 (wc.heap[gb117]? = some (.cells #[.string (⟨#[]⟩ : ByteArray), .int .i64 0, .int .i64 0, .int .i64 0, .int .i64 0] 23 (0, 0))) ∧ Aside0 (Below w.heap.size w wc))
 case first =>
  have H := HC4.out
  clear HC4
  by_cases c6 : t118 = 0
  ·rw [if_pos c6] at H
   have c6b0 : (t118 == 0) = true := beq_iff_eq.mpr c6
   have c6b1 : (t118 != 0) = false := bne_eq_false_iff_eq.mpr c6
   clear c6
   (first | rw [c6b0] | (simp only [i64_w, i32_w]; rw [c6b0]) | skip)
   have H' := Aside0.mk H
   clear H
   go_wp2
   go_meet
   case rel => exact ⟨_, (true), q74_, H', ⟨q102_⟩, ⟨q64_⟩, ⟨q45_⟩⟩
  ·rw [if_neg c6] at H
   have c6b0 : (t118 == 0) = false := beq_eq_false_iff_ne.mpr c6
   have c6b1 : (t118 != 0) = true := bne_iff_ne.mpr c6
   (first | rw [c6b0] | (simp only [i64_w, i32_w]; rw [c6b0]) | skip)
   by_cases c7 : t120 = true
   ·subst c7
    replace H : (if 72 < (a0.size : Int) then (impl_HeaderOf.j0 k a0 t118 ((wrap64 (bt a0 72)) != t119)) else (none)) = some (r1, r2, r3, r4, r5, r6) := by rw [if_pos rfl] at H; exact H
    by_cases c8 : 72 < (a0.size : Int)
    ·rw [if_pos c8] at H
     have c8b0 : decide (72 < (a0.size : Int)) = true := decide_eq_true c8
     have c8b1 : decide (72 < a0.size) = true := decide_eq_true (by omega)
     clear c8
     have H' := Aside0.mk H
     clear H
     have p9 : 0 ≤ (72 : Int) := (by omega)
     have q9 : 72 < a0.size := (by have : (72 : Int) < (a0.size : Int) := of_decide_eq_true q87_; omega)
     have hx9 : ∀ h : 72 < a0.size, ((a0[72]'h).toNat : Int) = bt a0 72 := bt_at a0 72
     clear p9
     have qi9 : (72 < (a0.size : Int)) = True := eq_true (of_decide_eq_true q87_)
     replace q9 := eq_true q9
     go_wp2
     go_meet
     case rel => exact ⟨_, (((wrap64 (bt a0 72)) != t119)), q74_, H', ⟨q102_⟩, ⟨q64_⟩, ⟨q45_⟩⟩
    ·rw [if_neg c8] at H
     exact absurd H (by simp)
   ·replace c7 := Bool.eq_false_iff.mpr c7
    subst c7
    replace H : (impl_HeaderOf.j0 k a0 t118 true) = some (r1, r2, r3, r4, r5, r6) := by rw [if_neg (show ¬ (false = true) by decide)] at H; exact H
    have H' := Aside0.mk H
    clear H
    go_wp2
    go_meet
    case rel => exact ⟨_, (true), q74_, H', ⟨q102_⟩, ⟨q64_⟩, ⟨q45_⟩⟩
 case rest =>
  clear HC4
  try clear p2
  try clear c3
  try clear c6
  try clear c6b0
  try clear c6b1
  try clear p6
  try clear c7
  try clear c8
  try clear c8b0
  try clear c8b1
  try clear c9
  try clear p9 p9
  try clear q9 q9
  try clear hx9
  try clear qi9
  obtain ⟨kq, x27_3, rfl, HA, HJ3, BK117, HB⟩ := hcut
  cases kq with
  | zero => exact absurd HA.out (by simp [impl_HeaderOf.j0])
  | succ kj3 =>
   have H := HA.out
   clear HA
   simp only [impl_HeaderOf.j0] at H
   by_cases c10 : x27_3 = true
   ·subst c10
    replace H : (some ((⟨#[]⟩ : ByteArray), 0, 0, 0, 0, false)) = some (r1, r2, r3, r4, r5, r6) := by rw [if_pos rfl] at H; exact H
    simp only [Option.some.injEq, Prod.mk.injEq] at H
    obtain ⟨rfl, rfl, rfl, rfl, rfl, rfl⟩ := H
    have hcz11_0 : wc.cell? ⟨gb117, 0, none⟩ = some (.string (⟨#[]⟩ : ByteArray)) := bz_ BK117 0
    have hcz11_1 : wc.cell? ⟨gb117, 1, none⟩ = some (.int .i64 0) := bz_ BK117 1
    have hcz11_2 : wc.cell? ⟨gb117, 2, none⟩ = some (.int .i64 0) := bz_ BK117 2
    have hcz11_3 : wc.cell? ⟨gb117, 3, none⟩ = some (.int .i64 0) := bz_ BK117 3
    have hcz11_4 : wc.cell? ⟨gb117, 4, none⟩ = some (.int .i64 0) := bz_ BK117 4
    have hfz11_0 := blk_frozen BK117.out 0
    have hfz11_1 := blk_frozen BK117.out 1
    have hfz11_2 := blk_frozen BK117.out 2
    have hfz11_3 := blk_frozen BK117.out 3
    have hfz11_4 := blk_frozen BK117.out 4
    go_wp2
    refine bodyPost_ret (results_ct rfl _ _ gb117 23 #[.string (⟨#[]⟩ : ByteArray), .int .i64 0, .int .i64 0, .int .i64 0, .int .i64 0] (0, 0) _ rfl q2_ Tryd.underlying23 rfl (by kernel_rfl)) rfl ?_
    exact ⟨q60_, q45_⟩
   ·replace c10 := Bool.eq_false_iff.mpr c10
    subst c10
    replace H : (if 52 ≤ 67 then (if 67 ≤ (a0.size : Int) then ((strings_TrimRight.f (a0.extract 52 67) (⟨#[0]⟩ : ByteArray)).bind fun t121 => (if 71 < (a0.size : Int) then (if 77 < (a0.size : Int) then (if 78 < (a0.size : Int) then (if 79 < (a0.size : Int) then ((impl_isPlain.f kj3 t121).bind fun t123 => (if t123 = true then (if (wrap64 (bt a0 71)) > 2 then (impl_HeaderOf.j1 kj3 true t121 (wrap64 (bt a0 71)) t118 (wrap64 (bt a0 77)) (Go.bits .or .i64 (wrap64 ((wrap64 (bt a0 78)) * 256)) (wrap64 (bt a0 79)))) else ((impl_HeaderSum.f kj3 a0).bind fun t124 => (if (wrap64 (bt a0 77)) = t124 then ((impl_WholeSum.f kj3 a0).bind fun t125 => (impl_HeaderOf.j1 kj3 ((Go.bits .or .i64 (wrap64 ((wrap64 (bt a0 78)) * 256)) (wrap64 (bt a0 79))) != t125) t121 (wrap64 (bt a0 71)) t118 (wrap64 (bt a0 77)) (Go.bits .or .i64 (wrap64 ((wrap64 (bt a0 78)) * 256)) (wrap64 (bt a0 79))))) else (impl_HeaderOf.j1 kj3 true t121 (wrap64 (bt a0 71)) t118 (wrap64 (bt a0 77)) (Go.bits .or .i64 (wrap64 ((wrap64 (bt a0 78)) * 256)) (wrap64 (bt a0 79))))))) else (impl_HeaderOf.j1 kj3 true t121 (wrap64 (bt a0 71)) t118 (wrap64 (bt a0 77)) (Go.bits .or .i64 (wrap64 ((wrap64 (bt a0 78)) * 256)) (wrap64 (bt a0 79)))))) else (none)) else (none)) else (none)) else (none))) else (none)) else (none)) = some (r1, r2, r3, r4, r5, r6) := by rw [if_neg (show ¬ (false = true) by decide)] at H; exact H
    by_cases c12 : 52 ≤ 67
    ·rw [if_pos c12] at H
     have c12b0 := eq_true c12
     have c12b1 : decide (52 ≤ 67) = true := decide_eq_true c12
     clear c12
     by_cases c13 : 67 ≤ (a0.size : Int)
     ·rw [if_pos c13] at H
      have c13b0 := eq_true c13
      have c13b1 : decide (67 ≤ (a0.size : Int)) = true := decide_eq_true c13
      clear c13
      replace H := Option.bind_eq_some_iff.mp H
      obtain ⟨t121, A140, H⟩ := H
      have A14 := Aside0.mk A140
      clear A140
      by_cases c15 : 71 < (a0.size : Int)
      ·rw [if_pos c15] at H
       have c15b0 : decide (71 < (a0.size : Int)) = true := decide_eq_true c15
       have c15b1 : decide (71 < a0.size) = true := decide_eq_true (by omega)
       clear c15
       by_cases c17 : 77 < (a0.size : Int)
       ·rw [if_pos c17] at H
        have c17b0 : decide (77 < (a0.size : Int)) = true := decide_eq_true c17
        have c17b1 : decide (77 < a0.size) = true := decide_eq_true (by omega)
        clear c17
        by_cases c19 : 78 < (a0.size : Int)
        ·rw [if_pos c19] at H
         have c19b0 : decide (78 < (a0.size : Int)) = true := decide_eq_true c19
         have c19b1 : decide (78 < a0.size) = true := decide_eq_true (by omega)
         clear c19
         by_cases c21 : 79 < (a0.size : Int)
         ·rw [if_pos c21] at H
          have c21b0 : decide (79 < (a0.size : Int)) = true := decide_eq_true c21
          have c21b1 : decide (79 < a0.size) = true := decide_eq_true (by omega)
          clear c21
          have HC23 := Aside0.mk H
          clear H
          try go_wp2
          have n0_ := Aside0.mk (blk_drew BK117.out)
          have n1_ := Aside0.mk (below_drew1 HB.out)
          clear BK117
          clear HB
          have BK117 := n0_
          have HB := n1_
          clear n0_ n1_
          have p16 : 0 ≤ (71 : Int) := (by omega)
          have q16 : 71 < a0.size := (by have : (71 : Int) < (a0.size : Int) := of_decide_eq_true q87_; omega)
          have hx16 : ∀ h : 71 < a0.size, ((a0[71]'h).toNat : Int) = bt a0 71 := bt_at a0 71
          clear p16
          have qi16 : (71 < (a0.size : Int)) = True := eq_true (of_decide_eq_true q87_)
          replace q16 := eq_true q16
          have p18 : 0 ≤ (77 : Int) := (by omega)
          have q18 : 77 < a0.size := (by have : (77 : Int) < (a0.size : Int) := of_decide_eq_true q87_; omega)
          have hx18 : ∀ h : 77 < a0.size, ((a0[77]'h).toNat : Int) = bt a0 77 := bt_at a0 77
          clear p18
          have qi18 : (77 < (a0.size : Int)) = True := eq_true (of_decide_eq_true q87_)
          replace q18 := eq_true q18
          have p20 : 0 ≤ (78 : Int) := (by omega)
          have q20 : 78 < a0.size := (by have : (78 : Int) < (a0.size : Int) := of_decide_eq_true q87_; omega)
          have hx20 : ∀ h : 78 < a0.size, ((a0[78]'h).toNat : Int) = bt a0 78 := bt_at a0 78
          clear p20
          have qi20 : (78 < (a0.size : Int)) = True := eq_true (of_decide_eq_true q87_)
          replace q20 := eq_true q20
          have p22 : 0 ≤ (79 : Int) := (by omega)
          have q22 : 79 < a0.size := (by have : (79 : Int) < (a0.size : Int) := of_decide_eq_true q87_; omega)
          have hx22 : ∀ h : 79 < a0.size, ((a0[79]'h).toNat : Int) = bt a0 79 := bt_at a0 79
          clear p22
          have qi22 : (79 < (a0.size : Int)) = True := eq_true (of_decide_eq_true q87_)
          replace q22 := eq_true q22
          refine start_ (n := 21) (S := fun w' => True) (ds := []) #[false, false, false, false, false, false, false, false, false, false, false, false, false, false, false, false, false, false, false, false, false] (by kernel_rfl) rfl rfl trivial (fun hHeld => ?_); refine with_tabW impl_HeaderOf.tab5 impl_HeaderOf.bits5 (fun HT_ HW_ => ?_)
          generalize wc.drew = w24 at BK117 HB hHeld ⊢
          refine pure_ (i := 0) (N := some 29) (v := ?_) (a' := ?_) #[true, false, false, false, false, false, false, false, false, false, false, false, false, false, false, false, false, false, false, false, false] rfl rfl (any_of HT_.out (by kernel_rfl)) (fun _ _ _ h => h) (Or.inl ⟨by rfl, ?_⟩) ?_ ?_
          rotate_left
          ·intro w'
           go_simp
           with_reducible rfl
          rotate_left
          ·simp only [Act.put, List.setIfInBounds_toArray, List.set_cons_zero, List.set_cons_succ, i64_w, i32_w]
           rfl
          refine pure_ (i := 1) (N := some 30) (v := ?_) (a' := ?_) #[true, true, false, false, false, false, false, false, false, false, false, false, false, false, false, false, false, false, false, false, false] rfl rfl (any_of HT_.out (by kernel_rfl)) (fun _ _ _ h => h) (Or.inl ⟨by rfl, ?_⟩) ?_ ?_
          rotate_left
          ·intro w'
           go_simp
           with_reducible rfl
          rotate_left
          ·simp only [Act.put, List.setIfInBounds_toArray, List.set_cons_zero, List.set_cons_succ, i64_w, i32_w]
           rfl
          refine pure_ (i := 3) (N := some 32) (v := ?_) (a' := ?_) #[true, true, false, true, false, false, false, false, false, false, false, false, false, false, false, false, false, false, false, false, false] rfl rfl (any_of HT_.out (by kernel_rfl)) (fun _ _ _ h => h) (Or.inl ⟨by rfl, ?_⟩) ?_ ?_
          rotate_left
          ·intro w'
           go_simp
           with_reducible rfl
          rotate_left
          ·simp only [Act.put, List.setIfInBounds_toArray, List.set_cons_zero, List.set_cons_succ, i64_w, i32_w]
           rfl
          refine pure_ (i := 6) (N := some 35) (v := ?_) (a' := ?_) #[true, true, false, true, false, false, true, false, false, false, false, false, false, false, false, false, false, false, false, false, false] rfl rfl (any_of HT_.out (by kernel_rfl)) (fun _ _ _ h => h) (Or.inl ⟨by rfl, ?_⟩) ?_ ?_
          rotate_left
          ·intro w'
           go_simp
           with_reducible rfl
          rotate_left
          ·simp only [Act.put, List.setIfInBounds_toArray, List.set_cons_zero, List.set_cons_succ, i64_w, i32_w]
           rfl
          refine pure_ (i := 7) (N := some 36) (v := ?_) (a' := ?_) #[true, true, false, true, false, false, true, true, false, false, false, false, false, false, false, false, false, false, false, false, false] rfl rfl (any_of HT_.out (by kernel_rfl)) (fun _ _ _ h => h) (Or.inl ⟨by rfl, ?_⟩) ?_ ?_
          rotate_left
          ·intro w'
           go_simp
           with_reducible rfl
          rotate_left
          ·simp only [Act.put, List.setIfInBounds_toArray, List.set_cons_zero, List.set_cons_succ, i64_w, i32_w]
           rfl
          refine pure_ (i := 10) (N := some 39) (v := ?_) (a' := ?_) #[true, true, false, true, false, false, true, true, false, false, true, false, false, false, false, false, false, false, false, false, false] rfl rfl (any_of HT_.out (by kernel_rfl)) (fun _ _ _ h => h) (Or.inl ⟨by rfl, ?_⟩) ?_ ?_
          rotate_left
          ·intro w'
           go_simp
           with_reducible rfl
          rotate_left
          ·simp only [Act.put, List.setIfInBounds_toArray, List.set_cons_zero, List.set_cons_succ, i64_w, i32_w]
           rfl
          refine pure_ (i := 14) (N := some 43) (v := ?_) (a' := ?_) #[true, true, false, true, false, false, true, true, false, false, true, false, false, false, true, false, false, false, false, false, false] rfl rfl (any_of HT_.out (by kernel_rfl)) (fun _ _ _ h => h) (Or.inl ⟨by rfl, ?_⟩) ?_ ?_
          rotate_left
          ·intro w'
           go_simp
           with_reducible rfl
          rotate_left
          ·simp only [Act.put, List.setIfInBounds_toArray, List.set_cons_zero, List.set_cons_succ, i64_w, i32_w]
           rfl
          refine take_ (i := 4) (N := some 33) (v := ?_) (a' := ?_) #[true, true, false, true, true, false, true, true, false, false, true, false, false, false, true, false, false, false, false, false, false] rfl rfl (take_ofW HT_.out HW_.out (by kernel_rfl)) (fun _ _ _ h => h) (Or.inl ⟨by rfl, ?_⟩) hHeld ?_ ?_
          rotate_left
          ·intro w' _
           go_simp
           with_reducible rfl
          rotate_left
          ·simp only [Act.put, List.setIfInBounds_toArray, List.set_cons_zero, List.set_cons_succ, i64_w, i32_w]
           rfl
          refine pure_ (i := 5) (N := some 34) (v := ?_) (a' := ?_) #[true, true, false, true, true, true, true, true, false, false, true, false, false, false, true, false, false, false, false, false, false] rfl rfl (any_of HT_.out (by kernel_rfl)) (fun _ _ _ h => h) (Or.inl ⟨by rfl, ?_⟩) ?_ ?_
          rotate_left
          ·intro w'
           go_simp
           with_reducible rfl
          rotate_left
          ·simp only [Act.put, List.setIfInBounds_toArray, List.set_cons_zero, List.set_cons_succ, i64_w, i32_w]
           rfl
          refine take_ (i := 8) (N := some 37) (v := ?_) (a' := ?_) #[true, true, false, true, true, true, true, true, true, false, true, false, false, false, true, false, false, false, false, false, false] rfl rfl (take_ofW HT_.out HW_.out (by kernel_rfl)) (fun _ _ _ h => h) (Or.inl ⟨by rfl, ?_⟩) hHeld ?_ ?_
          rotate_left
          ·intro w' _
           go_simp
           with_reducible rfl
          rotate_left
          ·simp only [Act.put, List.setIfInBounds_toArray, List.set_cons_zero, List.set_cons_succ, i64_w, i32_w]
           rfl
          refine pure_ (i := 9) (N := some 38) (v := ?_) (a' := ?_) #[true, true, false, true, true, true, true, true, true, true, true, false, false, false, true, false, false, false, false, false, false] rfl rfl (any_of HT_.out (by kernel_rfl)) (fun _ _ _ h => h) (Or.inl ⟨by rfl, ?_⟩) ?_ ?_
          rotate_left
          ·intro w'
           go_simp
           with_reducible rfl
          rotate_left
          ·simp only [Act.put, List.setIfInBounds_toArray, List.set_cons_zero, List.set_cons_succ, i64_w, i32_w]
           rfl
          refine take_ (i := 11) (N := some 40) (v := ?_) (a' := ?_) #[true, true, false, true, true, true, true, true, true, true, true, true, false, false, true, false, false, false, false, false, false] rfl rfl (take_ofW HT_.out HW_.out (by kernel_rfl)) (fun _ _ _ h => h) (Or.inl ⟨by rfl, ?_⟩) hHeld ?_ ?_
          rotate_left
          ·intro w' _
           go_simp
           with_reducible rfl
          rotate_left
          ·simp only [Act.put, List.setIfInBounds_toArray, List.set_cons_zero, List.set_cons_succ, i64_w, i32_w]
           rfl
          refine pure_ (i := 12) (N := some 41) (v := ?_) (a' := ?_) #[true, true, false, true, true, true, true, true, true, true, true, true, true, false, true, false, false, false, false, false, false] rfl rfl (any_of HT_.out (by kernel_rfl)) (fun _ _ _ h => h) (Or.inl ⟨by rfl, ?_⟩) ?_ ?_
          rotate_left
          ·intro w'
           go_simp
           with_reducible rfl
          rotate_left
          ·simp only [Act.put, List.setIfInBounds_toArray, List.set_cons_zero, List.set_cons_succ, i64_w, i32_w]
           rfl
          refine pure_ (i := 13) (N := some 42) (v := ?_) (a' := ?_) #[true, true, false, true, true, true, true, true, true, true, true, true, true, true, true, false, false, false, false, false, false] rfl rfl (any_of HT_.out (by kernel_rfl)) (fun _ _ _ h => h) (Or.inl ⟨by rfl, ?_⟩) ?_ ?_
          rotate_left
          ·intro w'
           go_simp
           with_reducible rfl
          rotate_left
          ·simp only [Act.put, List.setIfInBounds_toArray, List.set_cons_zero, List.set_cons_succ, i64_w, i32_w]
           rfl
          refine take_ (i := 15) (N := some 44) (v := ?_) (a' := ?_) #[true, true, false, true, true, true, true, true, true, true, true, true, true, true, true, true, false, false, false, false, false] rfl rfl (take_ofW HT_.out HW_.out (by kernel_rfl)) (fun _ _ _ h => h) (Or.inl ⟨by rfl, ?_⟩) hHeld ?_ ?_
          rotate_left
          ·intro w' _
           go_simp
           with_reducible rfl
          rotate_left
          ·simp only [Act.put, List.setIfInBounds_toArray, List.set_cons_zero, List.set_cons_succ, i64_w, i32_w]
           rfl
          refine pure_ (i := 16) (N := some 45) (v := ?_) (a' := ?_) #[true, true, false, true, true, true, true, true, true, true, true, true, true, true, true, true, true, false, false, false, false] rfl rfl (any_of HT_.out (by kernel_rfl)) (fun _ _ _ h => h) (Or.inl ⟨by rfl, ?_⟩) ?_ ?_
          rotate_left
          ·intro w'
           go_simp
           with_reducible rfl
          rotate_left
          ·simp only [Act.put, List.setIfInBounds_toArray, List.set_cons_zero, List.set_cons_succ, i64_w, i32_w]
           rfl
          refine pure_ (i := 17) (N := some 46) (v := ?_) (a' := ?_) #[true, true, false, true, true, true, true, true, true, true, true, true, true, true, true, true, true, true, false, false, false] rfl rfl (any_of HT_.out (by kernel_rfl)) (fun _ _ _ h => h) (Or.inl ⟨by rfl, ?_⟩) ?_ ?_
          rotate_left
          ·intro w'
           go_simp
           with_reducible rfl
          rotate_left
          ·simp only [Act.put, List.setIfInBounds_toArray, List.set_cons_zero, List.set_cons_succ, i64_w, i32_w]
           rfl
          refine join_ (σ := Nat) 1 #[true, true, true, true, true, true, true, true, true, true, true, true, true, true, true, true, true, true, true, true, false] (fun s_ => [(31, .string t121), (7, .pointer (some ⟨s_, 0, none⟩)), (47, .agg #[.string t121, .int .i64 (wrap64 (bt a0 71)), .int .i64 t118, .int .i64 (wrap64 (bt a0 77)), .int .i64 (Go.bits .or .i64 (wrap64 ((wrap64 (bt a0 78)) * 256)) (wrap64 (bt a0 79)))])]) (fun s_ w' => (w'.heap[gb117]? = some (.cells #[.string (⟨#[]⟩ : ByteArray), .int .i64 0, .int .i64 0, .int .i64 0, .int .i64 0] 23 (0, 0))) ∧ (w'.heap[s_]? = some (.cells #[.string (⟨#[]⟩ : ByteArray), .int .i64 0, .int .i64 0, .int .i64 0, .int .i64 0] 23 (0, 0))) ∧ (w.heap.size ≤ s_) ∧ (w.heap.size ≤ s_) ∧ (gb117 ≠ s_) ∧ (s_ ≠ gb117) ∧ (Below w.heap.size w w')) ?_ ?_
          rotate_left
          ·intro hCont
           refine two_ (i := 2) (j := 19) (Ni := some 31) (Nj := some 7) #[true, true, true, true, true, true, true, true, true, true, true, true, true, true, true, true, true, true, false, false, false] #[true, true, false, true, true, true, true, true, true, true, true, true, true, true, true, true, true, true, false, true, false] rfl rfl rfl rfl (two_of HT_.out (by kernel_rfl)) (by decide) (by decide) (fun K hK => ?_) (fun K hK => ?_)
           ·skip
            refine goes_ Tryd.func34 (by kernel_rfl) rfl #[.string (a0.extract 52 67), .string (⟨#[0]⟩ : ByteArray)] (by rfl) rfl rfl q55_ ?_
            with_reducible refine (strings_TrimRight.calls (a0.extract 52 67) (⟨#[0]⟩ : ByteArray) t121 _ A14.out).mono ?_
            rintro e w' ⟨rfl, ⟨nd, rfl⟩⟩
            refine ⟨_, rfl, ?_⟩
            refine hK.out _ _ trivial (fun hHeld => ?_)
            clear hK K
            refine norm_ (a' := ?_) ?_ ?_
            rotate_left
            ·show Act.put _ (some 31) _ = _
             simp only [Act.put, List.setIfInBounds_toArray, List.set_cons_zero, List.set_cons_succ, i64_w, i32_w]
             rfl
            refine pure_ (i := 18) (N := some 47) (v := ?_) (a' := ?_) #[true, true, true, true, true, true, true, true, true, true, true, true, true, true, true, true, true, true, true, false, false] rfl rfl (any_of HT_.out (by kernel_rfl)) (fun _ _ _ h => h) (Or.inl ⟨by rfl, ?_⟩) ?_ ?_
            rotate_left
            ·intro w'
             go_simp
             with_reducible rfl
            rotate_left
            ·simp only [Act.put, List.setIfInBounds_toArray, List.set_cons_zero, List.set_cons_succ, i64_w, i32_w]
             rfl
            refine one_ (i := 19) (N := some 7) #[true, true, true, true, true, true, true, true, true, true, true, true, true, true, true, true, true, true, true, true, false] rfl rfl (one_of HT_.out (by kernel_rfl)) (by decide) (fun K hK => ?_)
            refine box_step ?hg (N := 7) ?hd (cs := #[.string (⟨#[]⟩ : ByteArray), .int .i64 0, .int .i64 0, .int .i64 0, .int .i64 0]) (t := 23) ?hr ?_; (case hd => rfl); (case hg => rfl); (case hr => exact q118_)
            intro gb122 hg w25 hbox hb
            have n0_ := Aside0.mk (blk_below (g := gb117) (o := .cells #[.string (⟨#[]⟩ : ByteArray), .int .i64 0, .int .i64 0, .int .i64 0, .int .i64 0] 23 (0, 0)) q64_ hb)
            have n1_ := Aside0.mk (below_step q45_ hb)
            have n2_ := Aside0.mk (hbox)
            have n3_ := Aside0.mk ((q30_ : w.heap.size ≤ gb122))
            have n4_ := Aside0.mk ((q30_ : w.heap.size ≤ gb122))
            have n5_ := Aside0.mk ((q10_ : gb117 ≠ gb122))
            have n6_ := Aside0.mk ((q11_ : gb122 ≠ gb117))
            clear BK117
            clear HB
            have BK117 := n0_
            have HB := n1_
            have BK122 := n2_
            have GW122 := n3_
            have GE122 := n4_
            have NB117_122 := n5_
            have NB122_117 := n6_
            clear n0_ n1_ n2_ n3_ n4_ n5_ n6_
            clear hb hbox hg
            refine hK.out _ _ trivial (fun hHeld => ?_)
            clear hK K
            refine norm_ (a' := ?_) ?_ ?_
            rotate_left
            ·show Act.put _ (some 7) _ = _
             simp only [Act.put, List.setIfInBounds_toArray, List.set_cons_zero, List.set_cons_succ, i64_w, i32_w]
             rfl
            exact norm_ q83_ (hCont (gb122) _ ⟨q64_, q65_, GW122.out, GE122.out, NB117_122.out, NB122_117.out, q32_⟩)
           ·skip
            refine box_step ?hg (N := 7) ?hd (cs := #[.string (⟨#[]⟩ : ByteArray), .int .i64 0, .int .i64 0, .int .i64 0, .int .i64 0]) (t := 23) ?hr ?_; (case hd => rfl); (case hg => rfl); (case hr => exact q118_)
            intro gb122 hg w25 hbox hb
            have n0_ := Aside0.mk (blk_below (g := gb117) (o := .cells #[.string (⟨#[]⟩ : ByteArray), .int .i64 0, .int .i64 0, .int .i64 0, .int .i64 0] 23 (0, 0)) q64_ hb)
            have n1_ := Aside0.mk (below_step q45_ hb)
            have n2_ := Aside0.mk (hbox)
            have n3_ := Aside0.mk ((q30_ : w.heap.size ≤ gb122))
            have n4_ := Aside0.mk ((q30_ : w.heap.size ≤ gb122))
            have n5_ := Aside0.mk ((q10_ : gb117 ≠ gb122))
            have n6_ := Aside0.mk ((q11_ : gb122 ≠ gb117))
            clear BK117
            clear HB
            have BK117 := n0_
            have HB := n1_
            have BK122 := n2_
            have GW122 := n3_
            have GE122 := n4_
            have NB117_122 := n5_
            have NB122_117 := n6_
            clear n0_ n1_ n2_ n3_ n4_ n5_ n6_
            clear hb hbox hg
            refine hK.out _ _ trivial (fun hHeld => ?_)
            clear hK K
            refine norm_ (a' := ?_) ?_ ?_
            rotate_left
            ·show Act.put _ (some 7) _ = _
             simp only [Act.put, List.setIfInBounds_toArray, List.set_cons_zero, List.set_cons_succ, i64_w, i32_w]
             rfl
            refine one_ (i := 2) (N := some 31) #[true, true, true, true, true, true, true, true, true, true, true, true, true, true, true, true, true, true, false, true, false] rfl rfl (one_of HT_.out (by kernel_rfl)) (by decide) (fun K hK => ?_)
            refine goes_ Tryd.func34 (by kernel_rfl) rfl #[.string (a0.extract 52 67), .string (⟨#[0]⟩ : ByteArray)] (by rfl) rfl rfl q55_ ?_
            with_reducible refine (strings_TrimRight.calls (a0.extract 52 67) (⟨#[0]⟩ : ByteArray) t121 _ A14.out).mono ?_
            rintro e w' ⟨rfl, ⟨nd, rfl⟩⟩
            refine ⟨_, rfl, ?_⟩
            refine hK.out _ _ trivial (fun hHeld => ?_)
            clear hK K
            refine norm_ (a' := ?_) ?_ ?_
            rotate_left
            ·show Act.put _ (some 31) _ = _
             simp only [Act.put, List.setIfInBounds_toArray, List.set_cons_zero, List.set_cons_succ, i64_w, i32_w]
             rfl
            refine pure_ (i := 18) (N := some 47) (v := ?_) (a' := ?_) #[true, true, true, true, true, true, true, true, true, true, true, true, true, true, true, true, true, true, true, true, false] rfl rfl (any_of HT_.out (by kernel_rfl)) (fun _ _ _ h => h) (Or.inl ⟨by rfl, ?_⟩) ?_ ?_
            rotate_left
            ·intro w'
             go_simp
             with_reducible rfl
            rotate_left
            ·simp only [Act.put, List.setIfInBounds_toArray, List.set_cons_zero, List.set_cons_succ, i64_w, i32_w]
             rfl
            exact norm_ q83_ (hCont (gb122) _ ⟨q64_, q65_, GW122.out, GE122.out, NB117_122.out, NB122_117.out, q32_⟩)
          rintro gb122 w26 ⟨h0_, h1_, h2_, h3_, h4_, h5_, h6_⟩
          have n0_ : Aside0 (w26.heap[gb117]? = some (.cells #[.string (⟨#[]⟩ : ByteArray), .int .i64 0, .int .i64 0, .int .i64 0, .int .i64 0] 23 (0, 0))) := ⟨h0_⟩
          have n1_ : Aside0 (w26.heap[gb122]? = some (.cells #[.string (⟨#[]⟩ : ByteArray), .int .i64 0, .int .i64 0, .int .i64 0, .int .i64 0] 23 (0, 0))) := ⟨h1_⟩
          have n2_ : Aside0 (w.heap.size ≤ gb122) := ⟨h2_⟩
          have n3_ : Aside0 (w.heap.size ≤ gb122) := ⟨h3_⟩
          have n4_ : Aside0 (gb117 ≠ gb122) := ⟨h4_⟩
          have n5_ : Aside0 (gb122 ≠ gb117) := ⟨h5_⟩
          have n6_ : Aside0 (Below w.heap.size w w26) := ⟨h6_⟩
          clear BK117
          clear HB
          clear h0_ h1_ h2_ h3_ h4_ h5_ h6_
          have BK117 := n0_
          have BK122 := n1_
          have GW122 := n2_
          have GE122 := n3_
          have NB117_122 := n4_
          have NB122_117 := n5_
          have HB := n6_
          clear n0_ n1_ n2_ n3_ n4_ n5_ n6_
          have hHeld := trivial
          refine norm_ (a' := ?_) ?_ ?_
          rotate_left
          ·simp only [putAll, Act.put, List.setIfInBounds_toArray, List.set_cons_zero, List.set_cons_succ]
           rfl
          refine one_ (i := 20) (N := none) #[true, true, true, true, true, true, true, true, true, true, true, true, true, true, true, true, true, true, true, true, true] rfl rfl (one_of HT_.out (by kernel_rfl)) (by decide) (fun K hK => ?_)
          have hs27 : w26.cell? ⟨gb122, 0, none⟩ = some (.string (⟨#[]⟩ : ByteArray)) := bz_ BK122 0
          have hfs27 := blk_frozen BK122.out 0
          have hns27_0 := NB117_122.out
          have hms27_0 := NB122_117.out
          have hs28 : w26.cell? ⟨gb122, 1, none⟩ = some (.int .i64 0) := bz_ BK122 1
          have hfs28 := blk_frozen BK122.out 1
          have hns28_0 := NB117_122.out
          have hms28_0 := NB122_117.out
          have hs29 : w26.cell? ⟨gb122, 2, none⟩ = some (.int .i64 0) := bz_ BK122 2
          have hfs29 := blk_frozen BK122.out 2
          have hns29_0 := NB117_122.out
          have hms29_0 := NB122_117.out
          have hs30 : w26.cell? ⟨gb122, 3, none⟩ = some (.int .i64 0) := bz_ BK122 3
          have hfs30 := blk_frozen BK122.out 3
          have hns30_0 := NB117_122.out
          have hms30_0 := NB122_117.out
          have hs31 : w26.cell? ⟨gb122, 4, none⟩ = some (.int .i64 0) := bz_ BK122 4
          have hfs31 := blk_frozen BK122.out 4
          have hns31_0 := NB117_122.out
          have hms31_0 := NB122_117.out
          refine skip_ (w1 := ?_) (by rfl) rfl ?_ ?_
          rotate_left
          ·go_simp
           rfl
          refine hK.out _ _ trivial (fun hHeld => ?_)
          clear hK K
          refine done_ (done_of HT_.out (by kernel_rfl)) ?_
          go_upto_region 6 with (fail)
          go_cut [70] (fun v70 wc => ∃ (kq : Nat) (x70_22 : Bool), v70 = .bool x70_22 ∧ Aside0 (impl_HeaderOf.j1 kq x70_22 t121 (wrap64 (bt a0 71)) t118 (wrap64 (bt a0 77)) (Go.bits .or .i64 (wrap64 ((wrap64 (bt a0 78)) * 256)) (wrap64 (bt a0 79))) = some (r1, r2, r3, r4, r5, r6)) ∧ Aside0 (kq ≤ kj3) ∧ Aside0 (wc.heap[gb117]? = some (.cells #[.string (⟨#[]⟩ : ByteArray), .int .i64 0, .int .i64 0, .int .i64 0, .int .i64 0] 23 (0, 0))) ∧ Aside0 (wc.heap[gb122]? = some (.cells #[.string t121, .int .i64 (wrap64 (bt a0 71)), .int .i64 t118, .int .i64 (wrap64 (bt a0 77)), .int .i64 (Go.bits .or .i64 (wrap64 ((wrap64 (bt a0 78)) * 256)) (wrap64 (bt a0 79)))] 23 (0, 0))) ∧ Aside0 (Below w.heap.size w wc))
          case first =>
           have H := HC23.out
           clear HC23
           replace H := Option.bind_eq_some_iff.mp H
           obtain ⟨t123, A320, H⟩ := H
           have A32 := Aside0.mk A320
           clear A320
           by_cases c33 : t123 = true
           ·subst c33
            replace H : (if (wrap64 (bt a0 71)) > 2 then (impl_HeaderOf.j1 kj3 true t121 (wrap64 (bt a0 71)) t118 (wrap64 (bt a0 77)) (Go.bits .or .i64 (wrap64 ((wrap64 (bt a0 78)) * 256)) (wrap64 (bt a0 79)))) else ((impl_HeaderSum.f kj3 a0).bind fun t124 => (if (wrap64 (bt a0 77)) = t124 then ((impl_WholeSum.f kj3 a0).bind fun t125 => (impl_HeaderOf.j1 kj3 ((Go.bits .or .i64 (wrap64 ((wrap64 (bt a0 78)) * 256)) (wrap64 (bt a0 79))) != t125) t121 (wrap64 (bt a0 71)) t118 (wrap64 (bt a0 77)) (Go.bits .or .i64 (wrap64 ((wrap64 (bt a0 78)) * 256)) (wrap64 (bt a0 79))))) else (impl_HeaderOf.j1 kj3 true t121 (wrap64 (bt a0 71)) t118 (wrap64 (bt a0 77)) (Go.bits .or .i64 (wrap64 ((wrap64 (bt a0 78)) * 256)) (wrap64 (bt a0 79))))))) = some (r1, r2, r3, r4, r5, r6) := by rw [if_pos rfl] at H; exact H
            by_cases c34 : (wrap64 (bt a0 71)) > 2
            ·rw [if_pos c34] at H
             have c34b0 : decide (2 < (wrap64 (bt a0 71))) = true := decide_eq_true c34
             clear c34
             (first | rw [c34b0] | (simp only [i64_w, i32_w]; rw [c34b0]) | skip)
             have H' := Aside0.mk H
             clear H
             try go_wp2
             have n0_ : Aside0 ((((((w26.setCell ⟨gb122, 0, none⟩ (.string t121)).setCell ⟨gb122, 1, none⟩ (.int .i64 (wrap64 (bt a0 71)))).setCell ⟨gb122, 2, none⟩ (.int .i64 t118)).setCell ⟨gb122, 3, none⟩ (.int .i64 (wrap64 (bt a0 77)))).setCell ⟨gb122, 4, none⟩ (.int .i64 (Go.bits .or .i64 (wrap64 ((wrap64 (bt a0 78)) * 256)) (wrap64 (bt a0 79))))).heap[gb117]? = some (.cells #[.string (⟨#[]⟩ : ByteArray), .int .i64 0, .int .i64 0, .int .i64 0, .int .i64 0] 23 (0, 0))) := ⟨q3_⟩
             have n1_ : Aside0 ((((((w26.setCell ⟨gb122, 0, none⟩ (.string t121)).setCell ⟨gb122, 1, none⟩ (.int .i64 (wrap64 (bt a0 71)))).setCell ⟨gb122, 2, none⟩ (.int .i64 t118)).setCell ⟨gb122, 3, none⟩ (.int .i64 (wrap64 (bt a0 77)))).setCell ⟨gb122, 4, none⟩ (.int .i64 (Go.bits .or .i64 (wrap64 ((wrap64 (bt a0 78)) * 256)) (wrap64 (bt a0 79))))).heap[gb122]? = some (.cells #[.string t121, .int .i64 (wrap64 (bt a0 71)), .int .i64 t118, .int .i64 (wrap64 (bt a0 77)), .int .i64 (Go.bits .or .i64 (wrap64 ((wrap64 (bt a0 78)) * 256)) (wrap64 (bt a0 79)))] 23 (0, 0))) := ⟨q0_⟩
             have n2_ : Aside0 (Below w.heap.size w (((((w26.setCell ⟨gb122, 0, none⟩ (.string t121)).setCell ⟨gb122, 1, none⟩ (.int .i64 (wrap64 (bt a0 71)))).setCell ⟨gb122, 2, none⟩ (.int .i64 t118)).setCell ⟨gb122, 3, none⟩ (.int .i64 (wrap64 (bt a0 77)))).setCell ⟨gb122, 4, none⟩ (.int .i64 (Go.bits .or .i64 (wrap64 ((wrap64 (bt a0 78)) * 256)) (wrap64 (bt a0 79)))))) := ⟨q32_⟩
             (try clear BK117)
             (try clear BK122)
             (try clear HB)
             generalize (((((w26.setCell ⟨gb122, 0, none⟩ (.string t121)).setCell ⟨gb122, 1, none⟩ (.int .i64 (wrap64 (bt a0 71)))).setCell ⟨gb122, 2, none⟩ (.int .i64 t118)).setCell ⟨gb122, 3, none⟩ (.int .i64 (wrap64 (bt a0 77)))).setCell ⟨gb122, 4, none⟩ (.int .i64 (Go.bits .or .i64 (wrap64 ((wrap64 (bt a0 78)) * 256)) (wrap64 (bt a0 79))))) = w35 at n0_ n1_ n2_ ⊢
             have BK117 := n0_
             have BK122 := n1_
             have HB := n2_
             clear n0_ n1_ n2_
             have n0_ := Aside0.mk (blk_drew BK117.out)
             have n1_ := Aside0.mk (blk_drew BK122.out)
             have n2_ := Aside0.mk (below_drew1 HB.out)
             clear BK117
             clear BK122
             clear HB
             have BK117 := n0_
             have BK122 := n1_
             have HB := n2_
             clear n0_ n1_ n2_
             refine start_ (n := 23) (S := fun w' => w'.cell? ⟨gb122, 0, none⟩ = some (.string t121) ∧ w'.cell? ⟨gb122, 1, none⟩ = some (.int .i64 (wrap64 (bt a0 71))) ∧ w'.cell? ⟨gb122, 2, none⟩ = some (.int .i64 t118) ∧ w'.cell? ⟨gb122, 3, none⟩ = some (.int .i64 (wrap64 (bt a0 77))) ∧ w'.cell? ⟨gb122, 4, none⟩ = some (.int .i64 (Go.bits .or .i64 (wrap64 ((wrap64 (bt a0 78)) * 256)) (wrap64 (bt a0 79))))) (ds := []) #[false, false, false, false, false, false, false, false, false, false, false, false, false, false, false, false, false, false, false, false, false, false, false] (by kernel_rfl) rfl rfl ⟨(blk_cell BK122.out 0).trans rfl, (blk_cell BK122.out 1).trans rfl, (blk_cell BK122.out 2).trans rfl, (blk_cell BK122.out 3).trans rfl, (blk_cell BK122.out 4).trans rfl⟩ (fun hHeld => ?_); refine with_tabW impl_HeaderOf.tab6 impl_HeaderOf.bits6 (fun HT_ HW_ => ?_)
             generalize w35.drew = w36 at BK117 BK122 HB hHeld ⊢
             refine pure_ (i := 0) (N := some 48) (v := ?_) (a' := ?_) #[true, false, false, false, false, false, false, false, false, false, false, false, false, false, false, false, false, false, false, false, false, false, false] rfl rfl (any_of HT_.out (by kernel_rfl)) (fun _ _ _ h => h) (Or.inl ⟨by rfl, ?_⟩) ?_ ?_
             rotate_left
             ·intro w'
              go_simp
              with_reducible rfl
             rotate_left
             ·simp only [Act.put, List.setIfInBounds_toArray, List.set_cons_zero, List.set_cons_succ, i64_w, i32_w]
              rfl
             refine take_ (i := 1) (N := some 49) (v := ?_) (a' := ?_) #[true, true, false, false, false, false, false, false, false, false, false, false, false, false, false, false, false, false, false, false, false, false, false] rfl rfl (take_ofW HT_.out HW_.out (by kernel_rfl)) (fun _ _ _ h => h) (Or.inl ⟨by rfl, ?_⟩) hHeld ?_ ?_
             rotate_left
             ·rintro w' ⟨s0, s1, s2, s3, s4⟩
              go_simp
              with_reducible rfl
             rotate_left
             ·simp only [Act.put, List.setIfInBounds_toArray, List.set_cons_zero, List.set_cons_succ, i64_w, i32_w]
              rfl
             refine one_ (i := 2) (N := some 50) #[true, true, true, false, false, false, false, false, false, false, false, false, false, false, false, false, false, false, false, false, false, false, false] rfl rfl (one_of HT_.out (by kernel_rfl)) (by decide) (fun K hK => ?_)
             refine goes_ Tryd.func35 (by kernel_rfl) rfl #[.string t121] (by rfl) rfl rfl q55_ ?_
             with_reducible refine (impl_isPlain.calls kj3 t121 true _ A32.out).mono ?_
             rintro e w' ⟨rfl, ⟨nd, rfl⟩⟩
             refine ⟨_, rfl, ?_⟩
             refine hK.out _ _ ⟨(blk_cell BK122.out 0).trans rfl, (blk_cell BK122.out 1).trans rfl, (blk_cell BK122.out 2).trans rfl, (blk_cell BK122.out 3).trans rfl, (blk_cell BK122.out 4).trans rfl⟩ (fun hHeld => ?_)
             clear hK K
             refine norm_ (a' := ?_) ?_ ?_
             rotate_left
             ·show Act.put _ (some 50) _ = _
              simp only [Act.put, List.setIfInBounds_toArray, List.set_cons_zero, List.set_cons_succ, i64_w, i32_w]
              rfl
             refine pure_ (i := 3) (N := some 51) (v := ?_) (a' := ?_) #[true, true, true, true, false, false, false, false, false, false, false, false, false, false, false, false, false, false, false, false, false, false, false] rfl rfl (any_of HT_.out (by kernel_rfl)) (fun _ _ _ h => h) (Or.inl ⟨by rfl, ?_⟩) ?_ ?_
             rotate_left
             ·intro w'
              go_simp
              with_reducible rfl
             rotate_left
             ·simp only [Act.put, List.setIfInBounds_toArray, List.set_cons_zero, List.set_cons_succ, i64_w, i32_w]
              rfl
             refine pure_ (i := 4) (N := some 52) (v := ?_) (a' := ?_) #[true, true, true, true, true, false, false, false, false, false, false, false, false, false, false, false, false, false, false, false, false, false, false] rfl rfl (any_of HT_.out (by kernel_rfl)) (fun _ _ _ h => h) (Or.inl ⟨by rfl, ?_⟩) ?_ ?_
             rotate_left
             ·intro w'
              go_simp
              with_reducible rfl
             rotate_left
             ·simp only [Act.put, List.setIfInBounds_toArray, List.set_cons_zero, List.set_cons_succ, i64_w, i32_w]
              rfl
             refine pure_ (i := 5) (N := some 53) (v := ?_) (a' := ?_) #[true, true, true, true, true, true, false, false, false, false, false, false, false, false, false, false, false, false, false, false, false, false, false] rfl rfl (any_of HT_.out (by kernel_rfl)) (fun _ _ _ h => h) (Or.inl ⟨by rfl, ?_⟩) ?_ ?_
             rotate_left
             ·intro w'
              go_simp
              with_reducible rfl
             rotate_left
             ·simp only [Act.put, List.setIfInBounds_toArray, List.set_cons_zero, List.set_cons_succ, i64_w, i32_w]
              rfl
             refine take_ (i := 6) (N := some 54) (v := ?_) (a' := ?_) #[true, true, true, true, true, true, true, false, false, false, false, false, false, false, false, false, false, false, false, false, false, false, false] rfl rfl (take_ofW HT_.out HW_.out (by kernel_rfl)) (fun _ _ _ h => h) (Or.inl ⟨by rfl, ?_⟩) hHeld ?_ ?_
             rotate_left
             ·rintro w' ⟨s0, s1, s2, s3, s4⟩
              go_simp
              with_reducible rfl
             rotate_left
             ·simp only [Act.put, List.setIfInBounds_toArray, List.set_cons_zero, List.set_cons_succ, i64_w, i32_w]
              rfl
             refine pure_ (i := 7) (N := some 55) (v := ?_) (a' := ?_) #[true, true, true, true, true, true, true, true, false, false, false, false, false, false, false, false, false, false, false, false, false, false, false] rfl rfl (any_of HT_.out (by kernel_rfl)) (fun _ _ _ h => h) (Or.inl ⟨by rfl, ?_⟩) ?_ ?_
             rotate_left
             ·intro w'
              go_simp
              with_reducible rfl
             rotate_left
             ·simp only [Act.put, List.setIfInBounds_toArray, List.set_cons_zero, List.set_cons_succ, i64_w, i32_w]
              rfl
             refine pure_ (i := 8) (N := some 56) (v := ?_) (a' := ?_) #[true, true, true, true, true, true, true, true, true, false, false, false, false, false, false, false, false, false, false, false, false, false, false] rfl rfl (any_of HT_.out (by kernel_rfl)) (fun _ _ _ h => h) (Or.inl ⟨by rfl, ?_⟩) ?_ ?_
             rotate_left
             ·intro w'
              go_simp
              with_reducible rfl
             rotate_left
             ·simp only [Act.put, List.setIfInBounds_toArray, List.set_cons_zero, List.set_cons_succ, i64_w, i32_w]
              rfl
             refine pure_ (i := 9) (N := some 57) (v := ?_) (a' := ?_) #[true, true, true, true, true, true, true, true, true, true, false, false, false, false, false, false, false, false, false, false, false, false, false] rfl rfl (any_of HT_.out (by kernel_rfl)) (fun _ _ _ h => h) (Or.inl ⟨by rfl, ?_⟩) ?_ ?_
             rotate_left
             ·intro w'
              go_simp
              with_reducible rfl
             rotate_left
             ·simp only [Act.put, List.setIfInBounds_toArray, List.set_cons_zero, List.set_cons_succ, i64_w, i32_w]
              rfl
             refine pure_ (i := 10) (N := some 58) (v := undef) (a' := ?_) #[true, true, true, true, true, true, true, true, true, true, true, false, false, false, false, false, false, false, false, false, false, false, false] rfl rfl (any_of HT_.out (by kernel_rfl)) (fun _ _ _ h => h) (Or.inr ⟨by rfl, rfl⟩) ?_ ?_
             rotate_left
             ·simp only [Act.put, List.setIfInBounds_toArray, List.set_cons_zero, List.set_cons_succ, i64_w, i32_w]
              rfl
             refine pure_ (i := 11) (N := some 59) (v := undef) (a' := ?_) #[true, true, true, true, true, true, true, true, true, true, true, true, false, false, false, false, false, false, false, false, false, false, false] rfl rfl (any_of HT_.out (by kernel_rfl)) (fun _ _ _ h => h) (Or.inr ⟨by rfl, rfl⟩) ?_ ?_
             rotate_left
             ·simp only [Act.put, List.setIfInBounds_toArray, List.set_cons_zero, List.set_cons_succ, i64_w, i32_w]
              rfl
             refine pure_ (i := 12) (N := some 60) (v := undef) (a' := ?_) #[true, true, true, true, true, true, true, true, true, true, true, true, true, false, false, false, false, false, false, false, false, false, false] rfl rfl (any_of HT_.out (by kernel_rfl)) (fun _ _ _ h => h) (Or.inr ⟨by rfl, rfl⟩) ?_ ?_
             rotate_left
             ·simp only [Act.put, List.setIfInBounds_toArray, List.set_cons_zero, List.set_cons_succ, i64_w, i32_w]
              rfl
             refine pure_ (i := 13) (N := some 61) (v := undef) (a' := ?_) #[true, true, true, true, true, true, true, true, true, true, true, true, true, true, false, false, false, false, false, false, false, false, false] rfl rfl (any_of HT_.out (by kernel_rfl)) (fun _ _ _ h => h) (Or.inr ⟨by rfl, rfl⟩) ?_ ?_
             rotate_left
             ·simp only [Act.put, List.setIfInBounds_toArray, List.set_cons_zero, List.set_cons_succ, i64_w, i32_w]
              rfl
             refine pure_ (i := 14) (N := some 62) (v := undef) (a' := ?_) #[true, true, true, true, true, true, true, true, true, true, true, true, true, true, true, false, false, false, false, false, false, false, false] rfl rfl (any_of HT_.out (by kernel_rfl)) (fun _ _ _ h => h) (Or.inr ⟨by rfl, rfl⟩) ?_ ?_
             rotate_left
             ·simp only [Act.put, List.setIfInBounds_toArray, List.set_cons_zero, List.set_cons_succ, i64_w, i32_w]
              rfl
             refine pure_ (i := 15) (N := some 63) (v := ?_) (a' := ?_) #[true, true, true, true, true, true, true, true, true, true, true, true, true, true, true, true, false, false, false, false, false, false, false] rfl rfl (any_of HT_.out (by kernel_rfl)) (fun _ _ _ h => h) (Or.inl ⟨by rfl, ?_⟩) ?_ ?_
             rotate_left
             ·intro w'
              go_simp
              with_reducible rfl
             rotate_left
             ·simp only [Act.put, List.setIfInBounds_toArray, List.set_cons_zero, List.set_cons_succ, i64_w, i32_w]
              rfl
             refine pure_ (i := 16) (N := some 64) (v := ?_) (a' := ?_) #[true, true, true, true, true, true, true, true, true, true, true, true, true, true, true, true, true, false, false, false, false, false, false] rfl rfl (any_of HT_.out (by kernel_rfl)) (fun _ _ _ h => h) (Or.inl ⟨by rfl, ?_⟩) ?_ ?_
             rotate_left
             ·intro w'
              go_simp
              with_reducible rfl
             rotate_left
             ·simp only [Act.put, List.setIfInBounds_toArray, List.set_cons_zero, List.set_cons_succ, i64_w, i32_w]
              rfl
             refine pure_ (i := 17) (N := some 65) (v := undef) (a' := ?_) #[true, true, true, true, true, true, true, true, true, true, true, true, true, true, true, true, true, true, false, false, false, false, false] rfl rfl (any_of HT_.out (by kernel_rfl)) (fun _ _ _ h => h) (Or.inr ⟨by rfl, rfl⟩) ?_ ?_
             rotate_left
             ·simp only [Act.put, List.setIfInBounds_toArray, List.set_cons_zero, List.set_cons_succ, i64_w, i32_w]
              rfl
             refine pure_ (i := 18) (N := some 66) (v := undef) (a' := ?_) #[true, true, true, true, true, true, true, true, true, true, true, true, true, true, true, true, true, true, true, false, false, false, false] rfl rfl (any_of HT_.out (by kernel_rfl)) (fun _ _ _ h => h) (Or.inr ⟨by rfl, rfl⟩) ?_ ?_
             rotate_left
             ·simp only [Act.put, List.setIfInBounds_toArray, List.set_cons_zero, List.set_cons_succ, i64_w, i32_w]
              rfl
             refine pure_ (i := 19) (N := some 67) (v := undef) (a' := ?_) #[true, true, true, true, true, true, true, true, true, true, true, true, true, true, true, true, true, true, true, true, false, false, false] rfl rfl (any_of HT_.out (by kernel_rfl)) (fun _ _ _ h => h) (Or.inr ⟨by rfl, rfl⟩) ?_ ?_
             rotate_left
             ·simp only [Act.put, List.setIfInBounds_toArray, List.set_cons_zero, List.set_cons_succ, i64_w, i32_w]
              rfl
             refine pure_ (i := 20) (N := some 68) (v := undef) (a' := ?_) #[true, true, true, true, true, true, true, true, true, true, true, true, true, true, true, true, true, true, true, true, true, false, false] rfl rfl (any_of HT_.out (by kernel_rfl)) (fun _ _ _ h => h) (Or.inr ⟨by rfl, rfl⟩) ?_ ?_
             rotate_left
             ·simp only [Act.put, List.setIfInBounds_toArray, List.set_cons_zero, List.set_cons_succ, i64_w, i32_w]
              rfl
             refine pure_ (i := 21) (N := some 69) (v := undef) (a' := ?_) #[true, true, true, true, true, true, true, true, true, true, true, true, true, true, true, true, true, true, true, true, true, true, false] rfl rfl (any_of HT_.out (by kernel_rfl)) (fun _ _ _ h => h) (Or.inr ⟨by rfl, rfl⟩) ?_ ?_
             rotate_left
             ·simp only [Act.put, List.setIfInBounds_toArray, List.set_cons_zero, List.set_cons_succ, i64_w, i32_w]
              rfl
             refine pure_ (i := 22) (N := some 70) (v := ?_) (a' := ?_) #[true, true, true, true, true, true, true, true, true, true, true, true, true, true, true, true, true, true, true, true, true, true, true] rfl rfl (any_of HT_.out (by kernel_rfl)) (fun _ _ _ h => h) (Or.inl ⟨by rfl, ?_⟩) ?_ ?_
             rotate_left
             ·intro w'
              go_simp
              with_reducible rfl
             rotate_left
             ·simp only [Act.put, List.setIfInBounds_toArray, List.set_cons_zero, List.set_cons_succ, i64_w, i32_w]
              rfl
             refine done_ (done_of HT_.out (by kernel_rfl)) ?_
             try go_wp2
             go_meet
             case rel => exact ⟨_, (true), q74_, H', ⟨q86_⟩, ⟨q64_⟩, ⟨q65_⟩, ⟨q32_⟩⟩
            ·rw [if_neg c34] at H
             have c34b0 : decide (2 < (wrap64 (bt a0 71))) = false := decide_eq_false c34
             clear c34
             (first | rw [c34b0] | (simp only [i64_w, i32_w]; rw [c34b0]) | skip)
             replace H := Option.bind_eq_some_iff.mp H
             obtain ⟨t124, A370, H⟩ := H
             have A37 := Aside0.mk A370
             clear A370
             by_cases c38 : (wrap64 (bt a0 77)) = t124
             ·rw [if_pos c38] at H
              have c38b0 : ((wrap64 (bt a0 77)) == t124) = true := beq_iff_eq.mpr c38
              have c38b1 : ((wrap64 (bt a0 77)) != t124) = false := bne_eq_false_iff_eq.mpr c38
              clear c38
              replace H := Option.bind_eq_some_iff.mp H
              obtain ⟨t125, A390, H⟩ := H
              have A39 := Aside0.mk A390
              clear A390
              have H' := Aside0.mk H
              clear H
              try go_wp2
              have n0_ : Aside0 ((((((w26.setCell ⟨gb122, 0, none⟩ (.string t121)).setCell ⟨gb122, 1, none⟩ (.int .i64 (wrap64 (bt a0 71)))).setCell ⟨gb122, 2, none⟩ (.int .i64 t118)).setCell ⟨gb122, 3, none⟩ (.int .i64 (wrap64 (bt a0 77)))).setCell ⟨gb122, 4, none⟩ (.int .i64 (Go.bits .or .i64 (wrap64 ((wrap64 (bt a0 78)) * 256)) (wrap64 (bt a0 79))))).heap[gb117]? = some (.cells #[.string (⟨#[]⟩ : ByteArray), .int .i64 0, .int .i64 0, .int .i64 0, .int .i64 0] 23 (0, 0))) := ⟨q3_⟩
              have n1_ : Aside0 ((((((w26.setCell ⟨gb122, 0, none⟩ (.string t121)).setCell ⟨gb122, 1, none⟩ (.int .i64 (wrap64 (bt a0 71)))).setCell ⟨gb122, 2, none⟩ (.int .i64 t118)).setCell ⟨gb122, 3, none⟩ (.int .i64 (wrap64 (bt a0 77)))).setCell ⟨gb122, 4, none⟩ (.int .i64 (Go.bits .or .i64 (wrap64 ((wrap64 (bt a0 78)) * 256)) (wrap64 (bt a0 79))))).heap[gb122]? = some (.cells #[.string t121, .int .i64 (wrap64 (bt a0 71)), .int .i64 t118, .int .i64 (wrap64 (bt a0 77)), .int .i64 (Go.bits .or .i64 (wrap64 ((wrap64 (bt a0 78)) * 256)) (wrap64 (bt a0 79)))] 23 (0, 0))) := ⟨q0_⟩
              have n2_ : Aside0 (Below w.heap.size w (((((w26.setCell ⟨gb122, 0, none⟩ (.string t121)).setCell ⟨gb122, 1, none⟩ (.int .i64 (wrap64 (bt a0 71)))).setCell ⟨gb122, 2, none⟩ (.int .i64 t118)).setCell ⟨gb122, 3, none⟩ (.int .i64 (wrap64 (bt a0 77)))).setCell ⟨gb122, 4, none⟩ (.int .i64 (Go.bits .or .i64 (wrap64 ((wrap64 (bt a0 78)) * 256)) (wrap64 (bt a0 79)))))) := ⟨q32_⟩
              (try clear BK117)
              (try clear BK122)
              (try clear HB)
              generalize (((((w26.setCell ⟨gb122, 0, none⟩ (.string t121)).setCell ⟨gb122, 1, none⟩ (.int .i64 (wrap64 (bt a0 71)))).setCell ⟨gb122, 2, none⟩ (.int .i64 t118)).setCell ⟨gb122, 3, none⟩ (.int .i64 (wrap64 (bt a0 77)))).setCell ⟨gb122, 4, none⟩ (.int .i64 (Go.bits .or .i64 (wrap64 ((wrap64 (bt a0 78)) * 256)) (wrap64 (bt a0 79))))) = w40 at n0_ n1_ n2_ ⊢
              have BK117 := n0_
              have BK122 := n1_
              have HB := n2_
              clear n0_ n1_ n2_
              have n0_ := Aside0.mk (blk_drew BK117.out)
              have n1_ := Aside0.mk (blk_drew BK122.out)
              have n2_ := Aside0.mk (below_drew1 HB.out)
              clear BK117
              clear BK122
              clear HB
              have BK117 := n0_
              have BK122 := n1_
              have HB := n2_
              clear n0_ n1_ n2_
              refine start_ (n := 23) (S := fun w' => w'.cell? ⟨gb122, 0, none⟩ = some (.string t121) ∧ w'.cell? ⟨gb122, 1, none⟩ = some (.int .i64 (wrap64 (bt a0 71))) ∧ w'.cell? ⟨gb122, 2, none⟩ = some (.int .i64 t118) ∧ w'.cell? ⟨gb122, 3, none⟩ = some (.int .i64 (wrap64 (bt a0 77))) ∧ w'.cell? ⟨gb122, 4, none⟩ = some (.int .i64 (Go.bits .or .i64 (wrap64 ((wrap64 (bt a0 78)) * 256)) (wrap64 (bt a0 79))))) (ds := []) #[false, false, false, false, false, false, false, false, false, false, false, false, false, false, false, false, false, false, false, false, false, false, false] (by kernel_rfl) rfl rfl ⟨(blk_cell BK122.out 0).trans rfl, (blk_cell BK122.out 1).trans rfl, (blk_cell BK122.out 2).trans rfl, (blk_cell BK122.out 3).trans rfl, (blk_cell BK122.out 4).trans rfl⟩ (fun hHeld => ?_); refine with_tabW impl_HeaderOf.tab6 impl_HeaderOf.bits6 (fun HT_ HW_ => ?_)
              generalize w40.drew = w41 at BK117 BK122 HB hHeld ⊢
              refine pure_ (i := 0) (N := some 48) (v := ?_) (a' := ?_) #[true, false, false, false, false, false, false, false, false, false, false, false, false, false, false, false, false, false, false, false, false, false, false] rfl rfl (any_of HT_.out (by kernel_rfl)) (fun _ _ _ h => h) (Or.inl ⟨by rfl, ?_⟩) ?_ ?_
              rotate_left
              ·intro w'
               go_simp
               with_reducible rfl
              rotate_left
              ·simp only [Act.put, List.setIfInBounds_toArray, List.set_cons_zero, List.set_cons_succ, i64_w, i32_w]
               rfl
              refine take_ (i := 1) (N := some 49) (v := ?_) (a' := ?_) #[true, true, false, false, false, false, false, false, false, false, false, false, false, false, false, false, false, false, false, false, false, false, false] rfl rfl (take_ofW HT_.out HW_.out (by kernel_rfl)) (fun _ _ _ h => h) (Or.inl ⟨by rfl, ?_⟩) hHeld ?_ ?_
              rotate_left
              ·rintro w' ⟨s0, s1, s2, s3, s4⟩
               go_simp
               with_reducible rfl
              rotate_left
              ·simp only [Act.put, List.setIfInBounds_toArray, List.set_cons_zero, List.set_cons_succ, i64_w, i32_w]
               rfl
              refine one_ (i := 2) (N := some 50) #[true, true, true, false, false, false, false, false, false, false, false, false, false, false, false, false, false, false, false, false, false, false, false] rfl rfl (one_of HT_.out (by kernel_rfl)) (by decide) (fun K hK => ?_)
              refine goes_ Tryd.func35 (by kernel_rfl) rfl #[.string t121] (by rfl) rfl rfl q55_ ?_
              with_reducible refine (impl_isPlain.calls kj3 t121 true _ A32.out).mono ?_
              rintro e w' ⟨rfl, ⟨nd, rfl⟩⟩
              refine ⟨_, rfl, ?_⟩
              refine hK.out _ _ ⟨(blk_cell BK122.out 0).trans rfl, (blk_cell BK122.out 1).trans rfl, (blk_cell BK122.out 2).trans rfl, (blk_cell BK122.out 3).trans rfl, (blk_cell BK122.out 4).trans rfl⟩ (fun hHeld => ?_)
              clear hK K
              refine norm_ (a' := ?_) ?_ ?_
              rotate_left
              ·show Act.put _ (some 50) _ = _
               simp only [Act.put, List.setIfInBounds_toArray, List.set_cons_zero, List.set_cons_succ, i64_w, i32_w]
               rfl
              refine pure_ (i := 3) (N := some 51) (v := ?_) (a' := ?_) #[true, true, true, true, false, false, false, false, false, false, false, false, false, false, false, false, false, false, false, false, false, false, false] rfl rfl (any_of HT_.out (by kernel_rfl)) (fun _ _ _ h => h) (Or.inl ⟨by rfl, ?_⟩) ?_ ?_
              rotate_left
              ·intro w'
               go_simp
               with_reducible rfl
              rotate_left
              ·simp only [Act.put, List.setIfInBounds_toArray, List.set_cons_zero, List.set_cons_succ, i64_w, i32_w]
               rfl
              refine pure_ (i := 4) (N := some 52) (v := ?_) (a' := ?_) #[true, true, true, true, true, false, false, false, false, false, false, false, false, false, false, false, false, false, false, false, false, false, false] rfl rfl (any_of HT_.out (by kernel_rfl)) (fun _ _ _ h => h) (Or.inl ⟨by rfl, ?_⟩) ?_ ?_
              rotate_left
              ·intro w'
               go_simp
               with_reducible rfl
              rotate_left
              ·simp only [Act.put, List.setIfInBounds_toArray, List.set_cons_zero, List.set_cons_succ, i64_w, i32_w]
               rfl
              refine pure_ (i := 5) (N := some 53) (v := ?_) (a' := ?_) #[true, true, true, true, true, true, false, false, false, false, false, false, false, false, false, false, false, false, false, false, false, false, false] rfl rfl (any_of HT_.out (by kernel_rfl)) (fun _ _ _ h => h) (Or.inl ⟨by rfl, ?_⟩) ?_ ?_
              rotate_left
              ·intro w'
               go_simp
               with_reducible rfl
              rotate_left
              ·simp only [Act.put, List.setIfInBounds_toArray, List.set_cons_zero, List.set_cons_succ, i64_w, i32_w]
               rfl
              refine take_ (i := 6) (N := some 54) (v := ?_) (a' := ?_) #[true, true, true, true, true, true, true, false, false, false, false, false, false, false, false, false, false, false, false, false, false, false, false] rfl rfl (take_ofW HT_.out HW_.out (by kernel_rfl)) (fun _ _ _ h => h) (Or.inl ⟨by rfl, ?_⟩) hHeld ?_ ?_
              rotate_left
              ·rintro w' ⟨s0, s1, s2, s3, s4⟩
               go_simp
               with_reducible rfl
              rotate_left
              ·simp only [Act.put, List.setIfInBounds_toArray, List.set_cons_zero, List.set_cons_succ, i64_w, i32_w]
               rfl
              refine pure_ (i := 7) (N := some 55) (v := ?_) (a' := ?_) #[true, true, true, true, true, true, true, true, false, false, false, false, false, false, false, false, false, false, false, false, false, false, false] rfl rfl (any_of HT_.out (by kernel_rfl)) (fun _ _ _ h => h) (Or.inl ⟨by rfl, ?_⟩) ?_ ?_
              rotate_left
              ·intro w'
               go_simp
               with_reducible rfl
              rotate_left
              ·simp only [Act.put, List.setIfInBounds_toArray, List.set_cons_zero, List.set_cons_succ, i64_w, i32_w]
               rfl
              refine pure_ (i := 8) (N := some 56) (v := ?_) (a' := ?_) #[true, true, true, true, true, true, true, true, true, false, false, false, false, false, false, false, false, false, false, false, false, false, false] rfl rfl (any_of HT_.out (by kernel_rfl)) (fun _ _ _ h => h) (Or.inl ⟨by rfl, ?_⟩) ?_ ?_
              rotate_left
              ·intro w'
               go_simp
               with_reducible rfl
              rotate_left
              ·simp only [Act.put, List.setIfInBounds_toArray, List.set_cons_zero, List.set_cons_succ, i64_w, i32_w]
               rfl
              refine pure_ (i := 9) (N := some 57) (v := ?_) (a' := ?_) #[true, true, true, true, true, true, true, true, true, true, false, false, false, false, false, false, false, false, false, false, false, false, false] rfl rfl (any_of HT_.out (by kernel_rfl)) (fun _ _ _ h => h) (Or.inl ⟨by rfl, ?_⟩) ?_ ?_
              rotate_left
              ·intro w'
               go_simp
               with_reducible rfl
              rotate_left
              ·simp only [Act.put, List.setIfInBounds_toArray, List.set_cons_zero, List.set_cons_succ, i64_w, i32_w]
               rfl
              refine pure_ (i := 10) (N := some 58) (v := ?_) (a' := ?_) #[true, true, true, true, true, true, true, true, true, true, true, false, false, false, false, false, false, false, false, false, false, false, false] rfl rfl (any_of HT_.out (by kernel_rfl)) (fun _ _ _ h => h) (Or.inl ⟨by rfl, ?_⟩) ?_ ?_
              rotate_left
              ·intro w'
               go_simp
               with_reducible rfl
              rotate_left
              ·simp only [Act.put, List.setIfInBounds_toArray, List.set_cons_zero, List.set_cons_succ, i64_w, i32_w]
               rfl
              refine pure_ (i := 12) (N := some 60) (v := ?_) (a' := ?_) #[true, true, true, true, true, true, true, true, true, true, true, false, true, false, false, false, false, false, false, false, false, false, false] rfl rfl (any_of HT_.out (by kernel_rfl)) (fun _ _ _ h => h) (Or.inl ⟨by rfl, ?_⟩) ?_ ?_
              rotate_left
              ·intro w'
               go_simp
               with_reducible rfl
              rotate_left
              ·simp only [Act.put, List.setIfInBounds_toArray, List.set_cons_zero, List.set_cons_succ, i64_w, i32_w]
               rfl
              refine take_ (i := 11) (N := some 59) (v := ?_) (a' := ?_) #[true, true, true, true, true, true, true, true, true, true, true, true, true, false, false, false, false, false, false, false, false, false, false] rfl rfl (take_ofW HT_.out HW_.out (by kernel_rfl)) (fun _ _ _ h => h) (Or.inl ⟨by rfl, ?_⟩) hHeld ?_ ?_
              rotate_left
              ·rintro w' ⟨s0, s1, s2, s3, s4⟩
               go_simp
               with_reducible rfl
              rotate_left
              ·simp only [Act.put, List.setIfInBounds_toArray, List.set_cons_zero, List.set_cons_succ, i64_w, i32_w]
               rfl
              refine one_ (i := 13) (N := some 61) #[true, true, true, true, true, true, true, true, true, true, true, true, true, true, false, false, false, false, false, false, false, false, false] rfl rfl (one_of HT_.out (by kernel_rfl)) (by decide) (fun K hK => ?_)
              refine goes_ Tryd.func18 (by kernel_rfl) rfl #[.string a0] (by rfl) rfl rfl q55_ ?_
              with_reducible refine (impl_HeaderSum.calls kj3 a0 t124 _ A37.out).mono ?_
              rintro e w' ⟨rfl, ⟨nd, rfl⟩⟩
              refine ⟨_, rfl, ?_⟩
              refine hK.out _ _ ⟨(blk_cell BK122.out 0).trans rfl, (blk_cell BK122.out 1).trans rfl, (blk_cell BK122.out 2).trans rfl, (blk_cell BK122.out 3).trans rfl, (blk_cell BK122.out 4).trans rfl⟩ (fun hHeld => ?_)
              clear hK K
              refine norm_ (a' := ?_) ?_ ?_
              rotate_left
              ·show Act.put _ (some 61) _ = _
               simp only [Act.put, List.setIfInBounds_toArray, List.set_cons_zero, List.set_cons_succ, i64_w, i32_w]
               rfl
              refine pure_ (i := 14) (N := some 62) (v := ?_) (a' := ?_) #[true, true, true, true, true, true, true, true, true, true, true, true, true, true, true, false, false, false, false, false, false, false, false] rfl rfl (any_of HT_.out (by kernel_rfl)) (fun _ _ _ h => h) (Or.inl ⟨by rfl, ?_⟩) ?_ ?_
              rotate_left
              ·intro w'
               go_simp
               with_reducible rfl
              rotate_left
              ·simp only [Act.put, List.setIfInBounds_toArray, List.set_cons_zero, List.set_cons_succ, i64_w, i32_w]
               rfl
              refine pure_ (i := 15) (N := some 63) (v := ?_) (a' := ?_) #[true, true, true, true, true, true, true, true, true, true, true, true, true, true, true, true, false, false, false, false, false, false, false] rfl rfl (any_of HT_.out (by kernel_rfl)) (fun _ _ _ h => h) (Or.inl ⟨by rfl, ?_⟩) ?_ ?_
              rotate_left
              ·intro w'
               go_simp
               with_reducible rfl
              rotate_left
              ·simp only [Act.put, List.setIfInBounds_toArray, List.set_cons_zero, List.set_cons_succ, i64_w, i32_w]
               rfl
              refine pure_ (i := 16) (N := some 64) (v := ?_) (a' := ?_) #[true, true, true, true, true, true, true, true, true, true, true, true, true, true, true, true, true, false, false, false, false, false, false] rfl rfl (any_of HT_.out (by kernel_rfl)) (fun _ _ _ h => h) (Or.inl ⟨by rfl, ?_⟩) ?_ ?_
              rotate_left
              ·intro w'
               go_simp
               with_reducible rfl
              rotate_left
              ·simp only [Act.put, List.setIfInBounds_toArray, List.set_cons_zero, List.set_cons_succ, i64_w, i32_w]
               rfl
              refine pure_ (i := 17) (N := some 65) (v := ?_) (a' := ?_) #[true, true, true, true, true, true, true, true, true, true, true, true, true, true, true, true, true, true, false, false, false, false, false] rfl rfl (any_of HT_.out (by kernel_rfl)) (fun _ _ _ h => h) (Or.inl ⟨by rfl, ?_⟩) ?_ ?_
              rotate_left
              ·intro w'
               go_simp
               with_reducible rfl
              rotate_left
              ·simp only [Act.put, List.setIfInBounds_toArray, List.set_cons_zero, List.set_cons_succ, i64_w, i32_w]
               rfl
              refine pure_ (i := 19) (N := some 67) (v := ?_) (a' := ?_) #[true, true, true, true, true, true, true, true, true, true, true, true, true, true, true, true, true, true, false, true, false, false, false] rfl rfl (any_of HT_.out (by kernel_rfl)) (fun _ _ _ h => h) (Or.inl ⟨by rfl, ?_⟩) ?_ ?_
              rotate_left
              ·intro w'
               go_simp
               with_reducible rfl
              rotate_left
              ·simp only [Act.put, List.setIfInBounds_toArray, List.set_cons_zero, List.set_cons_succ, i64_w, i32_w]
               rfl
              refine take_ (i := 18) (N := some 66) (v := ?_) (a' := ?_) #[true, true, true, true, true, true, true, true, true, true, true, true, true, true, true, true, true, true, true, true, false, false, false] rfl rfl (take_ofW HT_.out HW_.out (by kernel_rfl)) (fun _ _ _ h => h) (Or.inl ⟨by rfl, ?_⟩) hHeld ?_ ?_
              rotate_left
              ·rintro w' ⟨s0, s1, s2, s3, s4⟩
               go_simp
               with_reducible rfl
              rotate_left
              ·simp only [Act.put, List.setIfInBounds_toArray, List.set_cons_zero, List.set_cons_succ, i64_w, i32_w]
               rfl
              refine one_ (i := 20) (N := some 68) #[true, true, true, true, true, true, true, true, true, true, true, true, true, true, true, true, true, true, true, true, true, false, false] rfl rfl (one_of HT_.out (by kernel_rfl)) (by decide) (fun K hK => ?_)
              refine goes_ Tryd.func20 (by kernel_rfl) rfl #[.string a0] (by rfl) rfl rfl q55_ ?_
              with_reducible refine (impl_WholeSum.calls kj3 a0 t125 _ A39.out).mono ?_
              rintro e w' ⟨rfl, ⟨nd, rfl⟩⟩
              refine ⟨_, rfl, ?_⟩
              refine hK.out _ _ ⟨(blk_cell BK122.out 0).trans rfl, (blk_cell BK122.out 1).trans rfl, (blk_cell BK122.out 2).trans rfl, (blk_cell BK122.out 3).trans rfl, (blk_cell BK122.out 4).trans rfl⟩ (fun hHeld => ?_)
              clear hK K
              refine norm_ (a' := ?_) ?_ ?_
              rotate_left
              ·show Act.put _ (some 68) _ = _
               simp only [Act.put, List.setIfInBounds_toArray, List.set_cons_zero, List.set_cons_succ, i64_w, i32_w]
               rfl
              refine pure_ (i := 21) (N := some 69) (v := ?_) (a' := ?_) #[true, true, true, true, true, true, true, true, true, true, true, true, true, true, true, true, true, true, true, true, true, true, false] rfl rfl (any_of HT_.out (by kernel_rfl)) (fun _ _ _ h => h) (Or.inl ⟨by rfl, ?_⟩) ?_ ?_
              rotate_left
              ·intro w'
               go_simp
               with_reducible rfl
              rotate_left
              ·simp only [Act.put, List.setIfInBounds_toArray, List.set_cons_zero, List.set_cons_succ, i64_w, i32_w]
               rfl
              refine pure_ (i := 22) (N := some 70) (v := ?_) (a' := ?_) #[true, true, true, true, true, true, true, true, true, true, true, true, true, true, true, true, true, true, true, true, true, true, true] rfl rfl (any_of HT_.out (by kernel_rfl)) (fun _ _ _ h => h) (Or.inl ⟨by rfl, ?_⟩) ?_ ?_
              rotate_left
              ·intro w'
               go_simp
               with_reducible rfl
              rotate_left
              ·simp only [Act.put, List.setIfInBounds_toArray, List.set_cons_zero, List.set_cons_succ, i64_w, i32_w]
               rfl
              refine done_ (done_of HT_.out (by kernel_rfl)) ?_
              try go_wp2
              go_meet
              case rel => exact ⟨_, (((Go.bits .or .i64 (wrap64 ((wrap64 (bt a0 78)) * 256)) (wrap64 (bt a0 79))) != t125)), q74_, H', ⟨q86_⟩, ⟨q64_⟩, ⟨q65_⟩, ⟨q32_⟩⟩
             ·rw [if_neg c38] at H
              have c38b0 : ((wrap64 (bt a0 77)) == t124) = false := beq_eq_false_iff_ne.mpr c38
              have c38b1 : ((wrap64 (bt a0 77)) != t124) = true := bne_iff_ne.mpr c38
              have H' := Aside0.mk H
              clear H
              try go_wp2
              have n0_ : Aside0 ((((((w26.setCell ⟨gb122, 0, none⟩ (.string t121)).setCell ⟨gb122, 1, none⟩ (.int .i64 (wrap64 (bt a0 71)))).setCell ⟨gb122, 2, none⟩ (.int .i64 t118)).setCell ⟨gb122, 3, none⟩ (.int .i64 (wrap64 (bt a0 77)))).setCell ⟨gb122, 4, none⟩ (.int .i64 (Go.bits .or .i64 (wrap64 ((wrap64 (bt a0 78)) * 256)) (wrap64 (bt a0 79))))).heap[gb117]? = some (.cells #[.string (⟨#[]⟩ : ByteArray), .int .i64 0, .int .i64 0, .int .i64 0, .int .i64 0] 23 (0, 0))) := ⟨q3_⟩
              have n1_ : Aside0 ((((((w26.setCell ⟨gb122, 0, none⟩ (.string t121)).setCell ⟨gb122, 1, none⟩ (.int .i64 (wrap64 (bt a0 71)))).setCell ⟨gb122, 2, none⟩ (.int .i64 t118)).setCell ⟨gb122, 3, none⟩ (.int .i64 (wrap64 (bt a0 77)))).setCell ⟨gb122, 4, none⟩ (.int .i64 (Go.bits .or .i64 (wrap64 ((wrap64 (bt a0 78)) * 256)) (wrap64 (bt a0 79))))).heap[gb122]? = some (.cells #[.string t121, .int .i64 (wrap64 (bt a0 71)), .int .i64 t118, .int .i64 (wrap64 (bt a0 77)), .int .i64 (Go.bits .or .i64 (wrap64 ((wrap64 (bt a0 78)) * 256)) (wrap64 (bt a0 79)))] 23 (0, 0))) := ⟨q0_⟩
              have n2_ : Aside0 (Below w.heap.size w (((((w26.setCell ⟨gb122, 0, none⟩ (.string t121)).setCell ⟨gb122, 1, none⟩ (.int .i64 (wrap64 (bt a0 71)))).setCell ⟨gb122, 2, none⟩ (.int .i64 t118)).setCell ⟨gb122, 3, none⟩ (.int .i64 (wrap64 (bt a0 77)))).setCell ⟨gb122, 4, none⟩ (.int .i64 (Go.bits .or .i64 (wrap64 ((wrap64 (bt a0 78)) * 256)) (wrap64 (bt a0 79)))))) := ⟨q32_⟩
              (try clear BK117)
              (try clear BK122)
              (try clear HB)
              generalize (((((w26.setCell ⟨gb122, 0, none⟩ (.string t121)).setCell ⟨gb122, 1, none⟩ (.int .i64 (wrap64 (bt a0 71)))).setCell ⟨gb122, 2, none⟩ (.int .i64 t118)).setCell ⟨gb122, 3, none⟩ (.int .i64 (wrap64 (bt a0 77)))).setCell ⟨gb122, 4, none⟩ (.int .i64 (Go.bits .or .i64 (wrap64 ((wrap64 (bt a0 78)) * 256)) (wrap64 (bt a0 79))))) = w42 at n0_ n1_ n2_ ⊢
              have BK117 := n0_
              have BK122 := n1_
              have HB := n2_
              clear n0_ n1_ n2_
              have n0_ := Aside0.mk (blk_drew BK117.out)
              have n1_ := Aside0.mk (blk_drew BK122.out)
              have n2_ := Aside0.mk (below_drew1 HB.out)
              clear BK117
              clear BK122
              clear HB
              have BK117 := n0_
              have BK122 := n1_
              have HB := n2_
              clear n0_ n1_ n2_
              refine start_ (n := 23) (S := fun w' => w'.cell? ⟨gb122, 0, none⟩ = some (.string t121) ∧ w'.cell? ⟨gb122, 1, none⟩ = some (.int .i64 (wrap64 (bt a0 71))) ∧ w'.cell? ⟨gb122, 2, none⟩ = some (.int .i64 t118) ∧ w'.cell? ⟨gb122, 3, none⟩ = some (.int .i64 (wrap64 (bt a0 77))) ∧ w'.cell? ⟨gb122, 4, none⟩ = some (.int .i64 (Go.bits .or .i64 (wrap64 ((wrap64 (bt a0 78)) * 256)) (wrap64 (bt a0 79))))) (ds := []) #[false, false, false, false, false, false, false, false, false, false, false, false, false, false, false, false, false, false, false, false, false, false, false] (by kernel_rfl) rfl rfl ⟨(blk_cell BK122.out 0).trans rfl, (blk_cell BK122.out 1).trans rfl, (blk_cell BK122.out 2).trans rfl, (blk_cell BK122.out 3).trans rfl, (blk_cell BK122.out 4).trans rfl⟩ (fun hHeld => ?_); refine with_tabW impl_HeaderOf.tab6 impl_HeaderOf.bits6 (fun HT_ HW_ => ?_)
              generalize w42.drew = w43 at BK117 BK122 HB hHeld ⊢
              refine pure_ (i := 0) (N := some 48) (v := ?_) (a' := ?_) #[true, false, false, false, false, false, false, false, false, false, false, false, false, false, false, false, false, false, false, false, false, false, false] rfl rfl (any_of HT_.out (by kernel_rfl)) (fun _ _ _ h => h) (Or.inl ⟨by rfl, ?_⟩) ?_ ?_
              rotate_left
              ·intro w'
               go_simp
               with_reducible rfl
              rotate_left
              ·simp only [Act.put, List.setIfInBounds_toArray, List.set_cons_zero, List.set_cons_succ, i64_w, i32_w]
               rfl
              refine take_ (i := 1) (N := some 49) (v := ?_) (a' := ?_) #[true, true, false, false, false, false, false, false, false, false, false, false, false, false, false, false, false, false, false, false, false, false, false] rfl rfl (take_ofW HT_.out HW_.out (by kernel_rfl)) (fun _ _ _ h => h) (Or.inl ⟨by rfl, ?_⟩) hHeld ?_ ?_
              rotate_left
              ·rintro w' ⟨s0, s1, s2, s3, s4⟩
               go_simp
               with_reducible rfl
              rotate_left
              ·simp only [Act.put, List.setIfInBounds_toArray, List.set_cons_zero, List.set_cons_succ, i64_w, i32_w]
               rfl
              refine one_ (i := 2) (N := some 50) #[true, true, true, false, false, false, false, false, false, false, false, false, false, false, false, false, false, false, false, false, false, false, false] rfl rfl (one_of HT_.out (by kernel_rfl)) (by decide) (fun K hK => ?_)
              refine goes_ Tryd.func35 (by kernel_rfl) rfl #[.string t121] (by rfl) rfl rfl q55_ ?_
              with_reducible refine (impl_isPlain.calls kj3 t121 true _ A32.out).mono ?_
              rintro e w' ⟨rfl, ⟨nd, rfl⟩⟩
              refine ⟨_, rfl, ?_⟩
              refine hK.out _ _ ⟨(blk_cell BK122.out 0).trans rfl, (blk_cell BK122.out 1).trans rfl, (blk_cell BK122.out 2).trans rfl, (blk_cell BK122.out 3).trans rfl, (blk_cell BK122.out 4).trans rfl⟩ (fun hHeld => ?_)
              clear hK K
              refine norm_ (a' := ?_) ?_ ?_
              rotate_left
              ·show Act.put _ (some 50) _ = _
               simp only [Act.put, List.setIfInBounds_toArray, List.set_cons_zero, List.set_cons_succ, i64_w, i32_w]
               rfl
              refine pure_ (i := 3) (N := some 51) (v := ?_) (a' := ?_) #[true, true, true, true, false, false, false, false, false, false, false, false, false, false, false, false, false, false, false, false, false, false, false] rfl rfl (any_of HT_.out (by kernel_rfl)) (fun _ _ _ h => h) (Or.inl ⟨by rfl, ?_⟩) ?_ ?_
              rotate_left
              ·intro w'
               go_simp
               with_reducible rfl
              rotate_left
              ·simp only [Act.put, List.setIfInBounds_toArray, List.set_cons_zero, List.set_cons_succ, i64_w, i32_w]
               rfl
              refine pure_ (i := 4) (N := some 52) (v := ?_) (a' := ?_) #[true, true, true, true, true, false, false, false, false, false, false, false, false, false, false, false, false, false, false, false, false, false, false] rfl rfl (any_of HT_.out (by kernel_rfl)) (fun _ _ _ h => h) (Or.inl ⟨by rfl, ?_⟩) ?_ ?_
              rotate_left
              ·intro w'
               go_simp
               with_reducible rfl
              rotate_left
              ·simp only [Act.put, List.setIfInBounds_toArray, List.set_cons_zero, List.set_cons_succ, i64_w, i32_w]
               rfl
              refine pure_ (i := 5) (N := some 53) (v := ?_) (a' := ?_) #[true, true, true, true, true, true, false, false, false, false, false, false, false, false, false, false, false, false, false, false, false, false, false] rfl rfl (any_of HT_.out (by kernel_rfl)) (fun _ _ _ h => h) (Or.inl ⟨by rfl, ?_⟩) ?_ ?_
              rotate_left
              ·intro w'
               go_simp
               with_reducible rfl
              rotate_left
              ·simp only [Act.put, List.setIfInBounds_toArray, List.set_cons_zero, List.set_cons_succ, i64_w, i32_w]
               rfl
              refine take_ (i := 6) (N := some 54) (v := ?_) (a' := ?_) #[true, true, true, true, true, true, true, false, false, false, false, false, false, false, false, false, false, false, false, false, false, false, false] rfl rfl (take_ofW HT_.out HW_.out (by kernel_rfl)) (fun _ _ _ h => h) (Or.inl ⟨by rfl, ?_⟩) hHeld ?_ ?_
              rotate_left
              ·rintro w' ⟨s0, s1, s2, s3, s4⟩
               go_simp
               with_reducible rfl
              rotate_left
              ·simp only [Act.put, List.setIfInBounds_toArray, List.set_cons_zero, List.set_cons_succ, i64_w, i32_w]
               rfl
              refine pure_ (i := 7) (N := some 55) (v := ?_) (a' := ?_) #[true, true, true, true, true, true, true, true, false, false, false, false, false, false, false, false, false, false, false, false, false, false, false] rfl rfl (any_of HT_.out (by kernel_rfl)) (fun _ _ _ h => h) (Or.inl ⟨by rfl, ?_⟩) ?_ ?_
              rotate_left
              ·intro w'
               go_simp
               with_reducible rfl
              rotate_left
              ·simp only [Act.put, List.setIfInBounds_toArray, List.set_cons_zero, List.set_cons_succ, i64_w, i32_w]
               rfl
              refine pure_ (i := 8) (N := some 56) (v := ?_) (a' := ?_) #[true, true, true, true, true, true, true, true, true, false, false, false, false, false, false, false, false, false, false, false, false, false, false] rfl rfl (any_of HT_.out (by kernel_rfl)) (fun _ _ _ h => h) (Or.inl ⟨by rfl, ?_⟩) ?_ ?_
              rotate_left
              ·intro w'
               go_simp
               with_reducible rfl
              rotate_left
              ·simp only [Act.put, List.setIfInBounds_toArray, List.set_cons_zero, List.set_cons_succ, i64_w, i32_w]
               rfl
              refine pure_ (i := 9) (N := some 57) (v := ?_) (a' := ?_) #[true, true, true, true, true, true, true, true, true, true, false, false, false, false, false, false, false, false, false, false, false, false, false] rfl rfl (any_of HT_.out (by kernel_rfl)) (fun _ _ _ h => h) (Or.inl ⟨by rfl, ?_⟩) ?_ ?_
              rotate_left
              ·intro w'
               go_simp
               with_reducible rfl
              rotate_left
              ·simp only [Act.put, List.setIfInBounds_toArray, List.set_cons_zero, List.set_cons_succ, i64_w, i32_w]
               rfl
              refine pure_ (i := 10) (N := some 58) (v := ?_) (a' := ?_) #[true, true, true, true, true, true, true, true, true, true, true, false, false, false, false, false, false, false, false, false, false, false, false] rfl rfl (any_of HT_.out (by kernel_rfl)) (fun _ _ _ h => h) (Or.inl ⟨by rfl, ?_⟩) ?_ ?_
              rotate_left
              ·intro w'
               go_simp
               with_reducible rfl
              rotate_left
              ·simp only [Act.put, List.setIfInBounds_toArray, List.set_cons_zero, List.set_cons_succ, i64_w, i32_w]
               rfl
              refine pure_ (i := 12) (N := some 60) (v := ?_) (a' := ?_) #[true, true, true, true, true, true, true, true, true, true, true, false, true, false, false, false, false, false, false, false, false, false, false] rfl rfl (any_of HT_.out (by kernel_rfl)) (fun _ _ _ h => h) (Or.inl ⟨by rfl, ?_⟩) ?_ ?_
              rotate_left
              ·intro w'
               go_simp
               with_reducible rfl
              rotate_left
              ·simp only [Act.put, List.setIfInBounds_toArray, List.set_cons_zero, List.set_cons_succ, i64_w, i32_w]
               rfl
              refine take_ (i := 11) (N := some 59) (v := ?_) (a' := ?_) #[true, true, true, true, true, true, true, true, true, true, true, true, true, false, false, false, false, false, false, false, false, false, false] rfl rfl (take_ofW HT_.out HW_.out (by kernel_rfl)) (fun _ _ _ h => h) (Or.inl ⟨by rfl, ?_⟩) hHeld ?_ ?_
              rotate_left
              ·rintro w' ⟨s0, s1, s2, s3, s4⟩
               go_simp
               with_reducible rfl
              rotate_left
              ·simp only [Act.put, List.setIfInBounds_toArray, List.set_cons_zero, List.set_cons_succ, i64_w, i32_w]
               rfl
              refine one_ (i := 13) (N := some 61) #[true, true, true, true, true, true, true, true, true, true, true, true, true, true, false, false, false, false, false, false, false, false, false] rfl rfl (one_of HT_.out (by kernel_rfl)) (by decide) (fun K hK => ?_)
              refine goes_ Tryd.func18 (by kernel_rfl) rfl #[.string a0] (by rfl) rfl rfl q55_ ?_
              with_reducible refine (impl_HeaderSum.calls kj3 a0 t124 _ A37.out).mono ?_
              rintro e w' ⟨rfl, ⟨nd, rfl⟩⟩
              refine ⟨_, rfl, ?_⟩
              refine hK.out _ _ ⟨(blk_cell BK122.out 0).trans rfl, (blk_cell BK122.out 1).trans rfl, (blk_cell BK122.out 2).trans rfl, (blk_cell BK122.out 3).trans rfl, (blk_cell BK122.out 4).trans rfl⟩ (fun hHeld => ?_)
              clear hK K
              refine norm_ (a' := ?_) ?_ ?_
              rotate_left
              ·show Act.put _ (some 61) _ = _
               simp only [Act.put, List.setIfInBounds_toArray, List.set_cons_zero, List.set_cons_succ, i64_w, i32_w]
               rfl
              refine pure_ (i := 14) (N := some 62) (v := ?_) (a' := ?_) #[true, true, true, true, true, true, true, true, true, true, true, true, true, true, true, false, false, false, false, false, false, false, false] rfl rfl (any_of HT_.out (by kernel_rfl)) (fun _ _ _ h => h) (Or.inl ⟨by rfl, ?_⟩) ?_ ?_
              rotate_left
              ·intro w'
               go_simp
               with_reducible rfl
              rotate_left
              ·simp only [Act.put, List.setIfInBounds_toArray, List.set_cons_zero, List.set_cons_succ, i64_w, i32_w]
               rfl
              refine pure_ (i := 15) (N := some 63) (v := ?_) (a' := ?_) #[true, true, true, true, true, true, true, true, true, true, true, true, true, true, true, true, false, false, false, false, false, false, false] rfl rfl (any_of HT_.out (by kernel_rfl)) (fun _ _ _ h => h) (Or.inl ⟨by rfl, ?_⟩) ?_ ?_
              rotate_left
              ·intro w'
               go_simp
               with_reducible rfl
              rotate_left
              ·simp only [Act.put, List.setIfInBounds_toArray, List.set_cons_zero, List.set_cons_succ, i64_w, i32_w]
               rfl
              refine pure_ (i := 16) (N := some 64) (v := ?_) (a' := ?_) #[true, true, true, true, true, true, true, true, true, true, true, true, true, true, true, true, true, false, false, false, false, false, false] rfl rfl (any_of HT_.out (by kernel_rfl)) (fun _ _ _ h => h) (Or.inl ⟨by rfl, ?_⟩) ?_ ?_
              rotate_left
              ·intro w'
               go_simp
               with_reducible rfl
              rotate_left
              ·simp only [Act.put, List.setIfInBounds_toArray, List.set_cons_zero, List.set_cons_succ, i64_w, i32_w]
               rfl
              refine pure_ (i := 17) (N := some 65) (v := undef) (a' := ?_) #[true, true, true, true, true, true, true, true, true, true, true, true, true, true, true, true, true, true, false, false, false, false, false] rfl rfl (any_of HT_.out (by kernel_rfl)) (fun _ _ _ h => h) (Or.inr ⟨by rfl, rfl⟩) ?_ ?_
              rotate_left
              ·simp only [Act.put, List.setIfInBounds_toArray, List.set_cons_zero, List.set_cons_succ, i64_w, i32_w]
               rfl
              refine pure_ (i := 18) (N := some 66) (v := undef) (a' := ?_) #[true, true, true, true, true, true, true, true, true, true, true, true, true, true, true, true, true, true, true, false, false, false, false] rfl rfl (any_of HT_.out (by kernel_rfl)) (fun _ _ _ h => h) (Or.inr ⟨by rfl, rfl⟩) ?_ ?_
              rotate_left
              ·simp only [Act.put, List.setIfInBounds_toArray, List.set_cons_zero, List.set_cons_succ, i64_w, i32_w]
               rfl
              refine pure_ (i := 19) (N := some 67) (v := undef) (a' := ?_) #[true, true, true, true, true, true, true, true, true, true, true, true, true, true, true, true, true, true, true, true, false, false, false] rfl rfl (any_of HT_.out (by kernel_rfl)) (fun _ _ _ h => h) (Or.inr ⟨by rfl, rfl⟩) ?_ ?_
              rotate_left
              ·simp only [Act.put, List.setIfInBounds_toArray, List.set_cons_zero, List.set_cons_succ, i64_w, i32_w]
               rfl
              refine pure_ (i := 20) (N := some 68) (v := undef) (a' := ?_) #[true, true, true, true, true, true, true, true, true, true, true, true, true, true, true, true, true, true, true, true, true, false, false] rfl rfl (any_of HT_.out (by kernel_rfl)) (fun _ _ _ h => h) (Or.inr ⟨by rfl, rfl⟩) ?_ ?_
              rotate_left
              ·simp only [Act.put, List.setIfInBounds_toArray, List.set_cons_zero, List.set_cons_succ, i64_w, i32_w]
               rfl
              refine pure_ (i := 21) (N := some 69) (v := undef) (a' := ?_) #[true, true, true, true, true, true, true, true, true, true, true, true, true, true, true, true, true, true, true, true, true, true, false] rfl rfl (any_of HT_.out (by kernel_rfl)) (fun _ _ _ h => h) (Or.inr ⟨by rfl, rfl⟩) ?_ ?_
              rotate_left
              ·simp only [Act.put, List.setIfInBounds_toArray, List.set_cons_zero, List.set_cons_succ, i64_w, i32_w]
               rfl
              refine pure_ (i := 22) (N := some 70) (v := ?_) (a' := ?_) #[true, true, true, true, true, true, true, true, true, true, true, true, true, true, true, true, true, true, true, true, true, true, true] rfl rfl (any_of HT_.out (by kernel_rfl)) (fun _ _ _ h => h) (Or.inl ⟨by rfl, ?_⟩) ?_ ?_
              rotate_left
              ·intro w'
               go_simp
               with_reducible rfl
              rotate_left
              ·simp only [Act.put, List.setIfInBounds_toArray, List.set_cons_zero, List.set_cons_succ, i64_w, i32_w]
               rfl
              refine done_ (done_of HT_.out (by kernel_rfl)) ?_
              try go_wp2
              go_meet
              case rel => exact ⟨_, (true), q74_, H', ⟨q86_⟩, ⟨q64_⟩, ⟨q65_⟩, ⟨q32_⟩⟩
           ·replace c33 := Bool.eq_false_iff.mpr c33
            subst c33
            replace H : (impl_HeaderOf.j1 kj3 true t121 (wrap64 (bt a0 71)) t118 (wrap64 (bt a0 77)) (Go.bits .or .i64 (wrap64 ((wrap64 (bt a0 78)) * 256)) (wrap64 (bt a0 79)))) = some (r1, r2, r3, r4, r5, r6) := by rw [if_neg (show ¬ (false = true) by decide)] at H; exact H
            have H' := Aside0.mk H
            clear H
            try go_wp2
            have n0_ : Aside0 ((((((w26.setCell ⟨gb122, 0, none⟩ (.string t121)).setCell ⟨gb122, 1, none⟩ (.int .i64 (wrap64 (bt a0 71)))).setCell ⟨gb122, 2, none⟩ (.int .i64 t118)).setCell ⟨gb122, 3, none⟩ (.int .i64 (wrap64 (bt a0 77)))).setCell ⟨gb122, 4, none⟩ (.int .i64 (Go.bits .or .i64 (wrap64 ((wrap64 (bt a0 78)) * 256)) (wrap64 (bt a0 79))))).heap[gb117]? = some (.cells #[.string (⟨#[]⟩ : ByteArray), .int .i64 0, .int .i64 0, .int .i64 0, .int .i64 0] 23 (0, 0))) := ⟨q3_⟩
            have n1_ : Aside0 ((((((w26.setCell ⟨gb122, 0, none⟩ (.string t121)).setCell ⟨gb122, 1, none⟩ (.int .i64 (wrap64 (bt a0 71)))).setCell ⟨gb122, 2, none⟩ (.int .i64 t118)).setCell ⟨gb122, 3, none⟩ (.int .i64 (wrap64 (bt a0 77)))).setCell ⟨gb122, 4, none⟩ (.int .i64 (Go.bits .or .i64 (wrap64 ((wrap64 (bt a0 78)) * 256)) (wrap64 (bt a0 79))))).heap[gb122]? = some (.cells #[.string t121, .int .i64 (wrap64 (bt a0 71)), .int .i64 t118, .int .i64 (wrap64 (bt a0 77)), .int .i64 (Go.bits .or .i64 (wrap64 ((wrap64 (bt a0 78)) * 256)) (wrap64 (bt a0 79)))] 23 (0, 0))) := ⟨q0_⟩
            have n2_ : Aside0 (Below w.heap.size w (((((w26.setCell ⟨gb122, 0, none⟩ (.string t121)).setCell ⟨gb122, 1, none⟩ (.int .i64 (wrap64 (bt a0 71)))).setCell ⟨gb122, 2, none⟩ (.int .i64 t118)).setCell ⟨gb122, 3, none⟩ (.int .i64 (wrap64 (bt a0 77)))).setCell ⟨gb122, 4, none⟩ (.int .i64 (Go.bits .or .i64 (wrap64 ((wrap64 (bt a0 78)) * 256)) (wrap64 (bt a0 79)))))) := ⟨q32_⟩
            (try clear BK117)
            (try clear BK122)
            (try clear HB)
            generalize (((((w26.setCell ⟨gb122, 0, none⟩ (.string t121)).setCell ⟨gb122, 1, none⟩ (.int .i64 (wrap64 (bt a0 71)))).setCell ⟨gb122, 2, none⟩ (.int .i64 t118)).setCell ⟨gb122, 3, none⟩ (.int .i64 (wrap64 (bt a0 77)))).setCell ⟨gb122, 4, none⟩ (.int .i64 (Go.bits .or .i64 (wrap64 ((wrap64 (bt a0 78)) * 256)) (wrap64 (bt a0 79))))) = w44 at n0_ n1_ n2_ ⊢
            have BK117 := n0_
            have BK122 := n1_
            have HB := n2_
            clear n0_ n1_ n2_
            have n0_ := Aside0.mk (blk_drew BK117.out)
            have n1_ := Aside0.mk (blk_drew BK122.out)
            have n2_ := Aside0.mk (below_drew1 HB.out)
            clear BK117
            clear BK122
            clear HB
            have BK117 := n0_
            have BK122 := n1_
            have HB := n2_
            clear n0_ n1_ n2_
            refine start_ (n := 23) (S := fun w' => w'.cell? ⟨gb122, 0, none⟩ = some (.string t121) ∧ w'.cell? ⟨gb122, 1, none⟩ = some (.int .i64 (wrap64 (bt a0 71))) ∧ w'.cell? ⟨gb122, 2, none⟩ = some (.int .i64 t118) ∧ w'.cell? ⟨gb122, 3, none⟩ = some (.int .i64 (wrap64 (bt a0 77))) ∧ w'.cell? ⟨gb122, 4, none⟩ = some (.int .i64 (Go.bits .or .i64 (wrap64 ((wrap64 (bt a0 78)) * 256)) (wrap64 (bt a0 79))))) (ds := []) #[false, false, false, false, false, false, false, false, false, false, false, false, false, false, false, false, false, false, false, false, false, false, false] (by kernel_rfl) rfl rfl ⟨(blk_cell BK122.out 0).trans rfl, (blk_cell BK122.out 1).trans rfl, (blk_cell BK122.out 2).trans rfl, (blk_cell BK122.out 3).trans rfl, (blk_cell BK122.out 4).trans rfl⟩ (fun hHeld => ?_); refine with_tabW impl_HeaderOf.tab6 impl_HeaderOf.bits6 (fun HT_ HW_ => ?_)
            generalize w44.drew = w45 at BK117 BK122 HB hHeld ⊢
            refine pure_ (i := 0) (N := some 48) (v := ?_) (a' := ?_) #[true, false, false, false, false, false, false, false, false, false, false, false, false, false, false, false, false, false, false, false, false, false, false] rfl rfl (any_of HT_.out (by kernel_rfl)) (fun _ _ _ h => h) (Or.inl ⟨by rfl, ?_⟩) ?_ ?_
            rotate_left
            ·intro w'
             go_simp
             with_reducible rfl
            rotate_left
            ·simp only [Act.put, List.setIfInBounds_toArray, List.set_cons_zero, List.set_cons_succ, i64_w, i32_w]
             rfl
            refine take_ (i := 1) (N := some 49) (v := ?_) (a' := ?_) #[true, true, false, false, false, false, false, false, false, false, false, false, false, false, false, false, false, false, false, false, false, false, false] rfl rfl (take_ofW HT_.out HW_.out (by kernel_rfl)) (fun _ _ _ h => h) (Or.inl ⟨by rfl, ?_⟩) hHeld ?_ ?_
            rotate_left
            ·rintro w' ⟨s0, s1, s2, s3, s4⟩
             go_simp
             with_reducible rfl
            rotate_left
            ·simp only [Act.put, List.setIfInBounds_toArray, List.set_cons_zero, List.set_cons_succ, i64_w, i32_w]
             rfl
            refine one_ (i := 2) (N := some 50) #[true, true, true, false, false, false, false, false, false, false, false, false, false, false, false, false, false, false, false, false, false, false, false] rfl rfl (one_of HT_.out (by kernel_rfl)) (by decide) (fun K hK => ?_)
            refine goes_ Tryd.func35 (by kernel_rfl) rfl #[.string t121] (by rfl) rfl rfl q55_ ?_
            with_reducible refine (impl_isPlain.calls kj3 t121 false _ A32.out).mono ?_
            rintro e w' ⟨rfl, ⟨nd, rfl⟩⟩
            refine ⟨_, rfl, ?_⟩
            refine hK.out _ _ ⟨(blk_cell BK122.out 0).trans rfl, (blk_cell BK122.out 1).trans rfl, (blk_cell BK122.out 2).trans rfl, (blk_cell BK122.out 3).trans rfl, (blk_cell BK122.out 4).trans rfl⟩ (fun hHeld => ?_)
            clear hK K
            refine norm_ (a' := ?_) ?_ ?_
            rotate_left
            ·show Act.put _ (some 50) _ = _
             simp only [Act.put, List.setIfInBounds_toArray, List.set_cons_zero, List.set_cons_succ, i64_w, i32_w]
             rfl
            refine pure_ (i := 3) (N := some 51) (v := ?_) (a' := ?_) #[true, true, true, true, false, false, false, false, false, false, false, false, false, false, false, false, false, false, false, false, false, false, false] rfl rfl (any_of HT_.out (by kernel_rfl)) (fun _ _ _ h => h) (Or.inl ⟨by rfl, ?_⟩) ?_ ?_
            rotate_left
            ·intro w'
             go_simp
             with_reducible rfl
            rotate_left
            ·simp only [Act.put, List.setIfInBounds_toArray, List.set_cons_zero, List.set_cons_succ, i64_w, i32_w]
             rfl
            refine pure_ (i := 4) (N := some 52) (v := ?_) (a' := ?_) #[true, true, true, true, true, false, false, false, false, false, false, false, false, false, false, false, false, false, false, false, false, false, false] rfl rfl (any_of HT_.out (by kernel_rfl)) (fun _ _ _ h => h) (Or.inl ⟨by rfl, ?_⟩) ?_ ?_
            rotate_left
            ·intro w'
             go_simp
             with_reducible rfl
            rotate_left
            ·simp only [Act.put, List.setIfInBounds_toArray, List.set_cons_zero, List.set_cons_succ, i64_w, i32_w]
             rfl
            refine pure_ (i := 5) (N := some 53) (v := undef) (a' := ?_) #[true, true, true, true, true, true, false, false, false, false, false, false, false, false, false, false, false, false, false, false, false, false, false] rfl rfl (any_of HT_.out (by kernel_rfl)) (fun _ _ _ h => h) (Or.inr ⟨by rfl, rfl⟩) ?_ ?_
            rotate_left
            ·simp only [Act.put, List.setIfInBounds_toArray, List.set_cons_zero, List.set_cons_succ, i64_w, i32_w]
             rfl
            refine pure_ (i := 6) (N := some 54) (v := undef) (a' := ?_) #[true, true, true, true, true, true, true, false, false, false, false, false, false, false, false, false, false, false, false, false, false, false, false] rfl rfl (any_of HT_.out (by kernel_rfl)) (fun _ _ _ h => h) (Or.inr ⟨by rfl, rfl⟩) ?_ ?_
            rotate_left
            ·simp only [Act.put, List.setIfInBounds_toArray, List.set_cons_zero, List.set_cons_succ, i64_w, i32_w]
             rfl
            refine pure_ (i := 7) (N := some 55) (v := undef) (a' := ?_) #[true, true, true, true, true, true, true, true, false, false, false, false, false, false, false, false, false, false, false, false, false, false, false] rfl rfl (any_of HT_.out (by kernel_rfl)) (fun _ _ _ h => h) (Or.inr ⟨by rfl, rfl⟩) ?_ ?_
            rotate_left
            ·simp only [Act.put, List.setIfInBounds_toArray, List.set_cons_zero, List.set_cons_succ, i64_w, i32_w]
             rfl
            refine pure_ (i := 8) (N := some 56) (v := ?_) (a' := ?_) #[true, true, true, true, true, true, true, true, true, false, false, false, false, false, false, false, false, false, false, false, false, false, false] rfl rfl (any_of HT_.out (by kernel_rfl)) (fun _ _ _ h => h) (Or.inl ⟨by rfl, ?_⟩) ?_ ?_
            rotate_left
            ·intro w'
             go_simp
             with_reducible rfl
            rotate_left
            ·simp only [Act.put, List.setIfInBounds_toArray, List.set_cons_zero, List.set_cons_succ, i64_w, i32_w]
             rfl
            refine pure_ (i := 9) (N := some 57) (v := ?_) (a' := ?_) #[true, true, true, true, true, true, true, true, true, true, false, false, false, false, false, false, false, false, false, false, false, false, false] rfl rfl (any_of HT_.out (by kernel_rfl)) (fun _ _ _ h => h) (Or.inl ⟨by rfl, ?_⟩) ?_ ?_
            rotate_left
            ·intro w'
             go_simp
             with_reducible rfl
            rotate_left
            ·simp only [Act.put, List.setIfInBounds_toArray, List.set_cons_zero, List.set_cons_succ, i64_w, i32_w]
             rfl
            refine pure_ (i := 10) (N := some 58) (v := undef) (a' := ?_) #[true, true, true, true, true, true, true, true, true, true, true, false, false, false, false, false, false, false, false, false, false, false, false] rfl rfl (any_of HT_.out (by kernel_rfl)) (fun _ _ _ h => h) (Or.inr ⟨by rfl, rfl⟩) ?_ ?_
            rotate_left
            ·simp only [Act.put, List.setIfInBounds_toArray, List.set_cons_zero, List.set_cons_succ, i64_w, i32_w]
             rfl
            refine pure_ (i := 11) (N := some 59) (v := undef) (a' := ?_) #[true, true, true, true, true, true, true, true, true, true, true, true, false, false, false, false, false, false, false, false, false, false, false] rfl rfl (any_of HT_.out (by kernel_rfl)) (fun _ _ _ h => h) (Or.inr ⟨by rfl, rfl⟩) ?_ ?_
            rotate_left
            ·simp only [Act.put, List.setIfInBounds_toArray, List.set_cons_zero, List.set_cons_succ, i64_w, i32_w]
             rfl
            refine pure_ (i := 12) (N := some 60) (v := undef) (a' := ?_) #[true, true, true, true, true, true, true, true, true, true, true, true, true, false, false, false, false, false, false, false, false, false, false] rfl rfl (any_of HT_.out (by kernel_rfl)) (fun _ _ _ h => h) (Or.inr ⟨by rfl, rfl⟩) ?_ ?_
            rotate_left
            ·simp only [Act.put, List.setIfInBounds_toArray, List.set_cons_zero, List.set_cons_succ, i64_w, i32_w]
             rfl
            refine pure_ (i := 13) (N := some 61) (v := undef) (a' := ?_) #[true, true, true, true, true, true, true, true, true, true, true, true, true, true, false, false, false, false, false, false, false, false, false] rfl rfl (any_of HT_.out (by kernel_rfl)) (fun _ _ _ h => h) (Or.inr ⟨by rfl, rfl⟩) ?_ ?_
            rotate_left
            ·simp only [Act.put, List.setIfInBounds_toArray, List.set_cons_zero, List.set_cons_succ, i64_w, i32_w]
             rfl
            refine pure_ (i := 14) (N := some 62) (v := undef) (a' := ?_) #[true, true, true, true, true, true, true, true, true, true, true, true, true, true, true, false, false, false, false, false, false, false, false] rfl rfl (any_of HT_.out (by kernel_rfl)) (fun _ _ _ h => h) (Or.inr ⟨by rfl, rfl⟩) ?_ ?_
            rotate_left
            ·simp only [Act.put, List.setIfInBounds_toArray, List.set_cons_zero, List.set_cons_succ, i64_w, i32_w]
             rfl
            refine pure_ (i := 15) (N := some 63) (v := ?_) (a' := ?_) #[true, true, true, true, true, true, true, true, true, true, true, true, true, true, true, true, false, false, false, false, false, false, false] rfl rfl (any_of HT_.out (by kernel_rfl)) (fun _ _ _ h => h) (Or.inl ⟨by rfl, ?_⟩) ?_ ?_
            rotate_left
            ·intro w'
             go_simp
             with_reducible rfl
            rotate_left
            ·simp only [Act.put, List.setIfInBounds_toArray, List.set_cons_zero, List.set_cons_succ, i64_w, i32_w]
             rfl
            refine pure_ (i := 16) (N := some 64) (v := ?_) (a' := ?_) #[true, true, true, true, true, true, true, true, true, true, true, true, true, true, true, true, true, false, false, false, false, false, false] rfl rfl (any_of HT_.out (by kernel_rfl)) (fun _ _ _ h => h) (Or.inl ⟨by rfl, ?_⟩) ?_ ?_
            rotate_left
            ·intro w'
             go_simp
             with_reducible rfl
            rotate_left
            ·simp only [Act.put, List.setIfInBounds_toArray, List.set_cons_zero, List.set_cons_succ, i64_w, i32_w]
             rfl
            refine pure_ (i := 17) (N := some 65) (v := undef) (a' := ?_) #[true, true, true, true, true, true, true, true, true, true, true, true, true, true, true, true, true, true, false, false, false, false, false] rfl rfl (any_of HT_.out (by kernel_rfl)) (fun _ _ _ h => h) (Or.inr ⟨by rfl, rfl⟩) ?_ ?_
            rotate_left
            ·simp only [Act.put, List.setIfInBounds_toArray, List.set_cons_zero, List.set_cons_succ, i64_w, i32_w]
             rfl
            refine pure_ (i := 18) (N := some 66) (v := undef) (a' := ?_) #[true, true, true, true, true, true, true, true, true, true, true, true, true, true, true, true, true, true, true, false, false, false, false] rfl rfl (any_of HT_.out (by kernel_rfl)) (fun _ _ _ h => h) (Or.inr ⟨by rfl, rfl⟩) ?_ ?_
            rotate_left
            ·simp only [Act.put, List.setIfInBounds_toArray, List.set_cons_zero, List.set_cons_succ, i64_w, i32_w]
             rfl
            refine pure_ (i := 19) (N := some 67) (v := undef) (a' := ?_) #[true, true, true, true, true, true, true, true, true, true, true, true, true, true, true, true, true, true, true, true, false, false, false] rfl rfl (any_of HT_.out (by kernel_rfl)) (fun _ _ _ h => h) (Or.inr ⟨by rfl, rfl⟩) ?_ ?_
            rotate_left
            ·simp only [Act.put, List.setIfInBounds_toArray, List.set_cons_zero, List.set_cons_succ, i64_w, i32_w]
             rfl
            refine pure_ (i := 20) (N := some 68) (v := undef) (a' := ?_) #[true, true, true, true, true, true, true, true, true, true, true, true, true, true, true, true, true, true, true, true, true, false, false] rfl rfl (any_of HT_.out (by kernel_rfl)) (fun _ _ _ h => h) (Or.inr ⟨by rfl, rfl⟩) ?_ ?_
            rotate_left
            ·simp only [Act.put, List.setIfInBounds_toArray, List.set_cons_zero, List.set_cons_succ, i64_w, i32_w]
             rfl
            refine pure_ (i := 21) (N := some 69) (v := undef) (a' := ?_) #[true, true, true, true, true, true, true, true, true, true, true, true, true, true, true, true, true, true, true, true, true, true, false] rfl rfl (any_of HT_.out (by kernel_rfl)) (fun _ _ _ h => h) (Or.inr ⟨by rfl, rfl⟩) ?_ ?_
            rotate_left
            ·simp only [Act.put, List.setIfInBounds_toArray, List.set_cons_zero, List.set_cons_succ, i64_w, i32_w]
             rfl
            refine pure_ (i := 22) (N := some 70) (v := ?_) (a' := ?_) #[true, true, true, true, true, true, true, true, true, true, true, true, true, true, true, true, true, true, true, true, true, true, true] rfl rfl (any_of HT_.out (by kernel_rfl)) (fun _ _ _ h => h) (Or.inl ⟨by rfl, ?_⟩) ?_ ?_
            rotate_left
            ·intro w'
             go_simp
             with_reducible rfl
            rotate_left
            ·simp only [Act.put, List.setIfInBounds_toArray, List.set_cons_zero, List.set_cons_succ, i64_w, i32_w]
             rfl
            refine done_ (done_of HT_.out (by kernel_rfl)) ?_
            try go_wp2
            go_meet
            case rel => exact ⟨_, (true), q74_, H', ⟨q86_⟩, ⟨q64_⟩, ⟨q65_⟩, ⟨q32_⟩⟩
          case rest =>
           clear HC23
           try clear c1
           try clear c2
           try clear p2
           try clear c3
           try clear p6
           try clear c18
           try clear c20
           try clear c33
           try clear c35
           try clear c38
           try clear c38b0
           try clear c38b1
           obtain ⟨kq, x70_22, rfl, HA, HJ22, BK117, BK122, HB⟩ := hcut
           cases kq with
           | zero => exact absurd HA.out (by simp [impl_HeaderOf.j1])
           | succ kj22 =>
            have H := HA.out
            clear HA
            simp only [impl_HeaderOf.j1] at H
            by_cases c46 : x70_22 = true
            ·subst c46
             replace H : (some ((⟨#[]⟩ : ByteArray), 0, 0, 0, 0, false)) = some (r1, r2, r3, r4, r5, r6) := by rw [if_pos rfl] at H; exact H
             simp only [Option.some.injEq, Prod.mk.injEq] at H
             obtain ⟨rfl, rfl, rfl, rfl, rfl, rfl⟩ := H
             have hnb47 := NB117_122.out
             have hnc47 := NB122_117.out
             have hcz48_0 : wc.cell? ⟨gb117, 0, none⟩ = some (.string (⟨#[]⟩ : ByteArray)) := bz_ BK117 0
             have hcz48_1 : wc.cell? ⟨gb117, 1, none⟩ = some (.int .i64 0) := bz_ BK117 1
             have hcz48_2 : wc.cell? ⟨gb117, 2, none⟩ = some (.int .i64 0) := bz_ BK117 2
             have hcz48_3 : wc.cell? ⟨gb117, 3, none⟩ = some (.int .i64 0) := bz_ BK117 3
             have hcz48_4 : wc.cell? ⟨gb117, 4, none⟩ = some (.int .i64 0) := bz_ BK117 4
             have hfz48_0 := blk_frozen BK117.out 0
             have hfz48_1 := blk_frozen BK117.out 1
             have hfz48_2 := blk_frozen BK117.out 2
             have hfz48_3 := blk_frozen BK117.out 3
             have hfz48_4 := blk_frozen BK117.out 4
             go_wp2
             refine bodyPost_ret (results_ct rfl _ _ gb117 23 #[.string (⟨#[]⟩ : ByteArray), .int .i64 0, .int .i64 0, .int .i64 0, .int .i64 0] (0, 0) _ rfl q2_ Tryd.underlying23 rfl (by kernel_rfl)) rfl ?_
             exact ⟨q60_, q32_⟩
            ·replace c46 := Bool.eq_false_iff.mpr c46
             subst c46
             replace H : (some (t121, (wrap64 (bt a0 71)), t118, (wrap64 (bt a0 77)), (Go.bits .or .i64 (wrap64 ((wrap64 (bt a0 78)) * 256)) (wrap64 (bt a0 79))), true)) = some (r1, r2, r3, r4, r5, r6) := by rw [if_neg (show ¬ (false = true) by decide)] at H; exact H
             simp only [Option.some.injEq, Prod.mk.injEq] at H
             obtain ⟨rfl, rfl, rfl, rfl, rfl, rfl⟩ := H
             have hnb49 := NB122_117.out
             have hnc49 := NB117_122.out
             have hcz50_0 : wc.cell? ⟨gb122, 0, none⟩ = some (.string t121) := bz_ BK122 0
             have hcz50_1 : wc.cell? ⟨gb122, 1, none⟩ = some (.int .i64 (wrap64 (bt a0 71))) := bz_ BK122 1
             have hcz50_2 : wc.cell? ⟨gb122, 2, none⟩ = some (.int .i64 t118) := bz_ BK122 2
             have hcz50_3 : wc.cell? ⟨gb122, 3, none⟩ = some (.int .i64 (wrap64 (bt a0 77))) := bz_ BK122 3
             have hcz50_4 : wc.cell? ⟨gb122, 4, none⟩ = some (.int .i64 (Go.bits .or .i64 (wrap64 ((wrap64 (bt a0 78)) * 256)) (wrap64 (bt a0 79)))) := bz_ BK122 4
             have hfz50_0 := blk_frozen BK122.out 0
             have hfz50_1 := blk_frozen BK122.out 1
             have hfz50_2 := blk_frozen BK122.out 2
             have hfz50_3 := blk_frozen BK122.out 3
             have hfz50_4 := blk_frozen BK122.out 4
             have hcz51_0 : wc.cell? ⟨gb117, 0, none⟩ = some (.string (⟨#[]⟩ : ByteArray)) := bz_ BK117 0
             have hcz51_1 : wc.cell? ⟨gb117, 1, none⟩ = some (.int .i64 0) := bz_ BK117 1
             have hcz51_2 : wc.cell? ⟨gb117, 2, none⟩ = some (.int .i64 0) := bz_ BK117 2
             have hcz51_3 : wc.cell? ⟨gb117, 3, none⟩ = some (.int .i64 0) := bz_ BK117 3
             have hcz51_4 : wc.cell? ⟨gb117, 4, none⟩ = some (.int .i64 0) := bz_ BK117 4
             have hfz51_0 := blk_frozen BK117.out 0
             have hfz51_1 := blk_frozen BK117.out 1
             have hfz51_2 := blk_frozen BK117.out 2
             have hfz51_3 := blk_frozen BK117.out 3
             have hfz51_4 := blk_frozen BK117.out 4
             go_wp2
             refine bodyPost_ret (results_ct rfl _ _ gb117 23 #[.string t121, .int .i64 (wrap64 (bt a0 71)), .int .i64 t118, .int .i64 (wrap64 (bt a0 77)), .int .i64 (Go.bits .or .i64 (wrap64 ((wrap64 (bt a0 78)) * 256)) (wrap64 (bt a0 79)))] (0, 0) _ rfl (by (with_reducible repeat (first | refine blk_drewN ?_ _ | refine blk_drew ?_ | refine blk_alloc ?_ _)); refine blk_put (cs := #[.string t121, .int .i64 (wrap64 (bt a0 71)), .int .i64 t118, .int .i64 (wrap64 (bt a0 77)), .int .i64 0]) ?_ 4 _ rfl; (with_reducible repeat (first | refine blk_drewN ?_ _ | refine blk_drew ?_ | refine blk_alloc ?_ _)); refine blk_put (cs := #[.string t121, .int .i64 (wrap64 (bt a0 71)), .int .i64 t118, .int .i64 0, .int .i64 0]) ?_ 3 _ rfl; (with_reducible repeat (first | refine blk_drewN ?_ _ | refine blk_drew ?_ | refine blk_alloc ?_ _)); refine blk_put (cs := #[.string t121, .int .i64 (wrap64 (bt a0 71)), .int .i64 0, .int .i64 0, .int .i64 0]) ?_ 2 _ rfl; (with_reducible repeat (first | refine blk_drewN ?_ _ | refine blk_drew ?_ | refine blk_alloc ?_ _)); refine blk_put (cs := #[.string t121, .int .i64 0, .int .i64 0, .int .i64 0, .int .i64 0]) ?_ 1 _ rfl; (with_reducible repeat (first | refine blk_drewN ?_ _ | refine blk_drew ?_ | refine blk_alloc ?_ _)); refine blk_put (cs := #[.string (⟨#[]⟩ : ByteArray), .int .i64 0, .int .i64 0, .int .i64 0, .int .i64 0]) ?_ 0 _ rfl; (with_reducible repeat (first | refine blk_drewN ?_ _ | refine blk_drew ?_ | refine blk_alloc ?_ _)); exact BK117.out) Tryd.underlying23 rfl (by kernel_rfl)) rfl ?_
             exact ⟨q60_, q32_⟩
         ·rw [if_neg c21] at H
          exact absurd H (by simp)
        ·rw [if_neg c19] at H
         exact absurd H (by simp)
       ·rw [if_neg c17] at H
        exact absurd H (by simp)
      ·rw [if_neg c15] at H
       exact absurd H (by simp)
     ·rw [if_neg c13] at H
      exact absurd H (by simp)
    ·rw [if_neg c12] at H
     exact absurd H (by simp)
end Go.Proofs.YtcohcndliaaacaaDoor.QFnHeaders
