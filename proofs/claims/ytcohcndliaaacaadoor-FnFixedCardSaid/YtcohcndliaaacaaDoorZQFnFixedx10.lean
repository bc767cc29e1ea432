/- The machine's side of a law, written by a program of this session for this claim. -/
import Derived.Test.YtcohcndliaaacaaDoorZQq
import Derived.Test.YtcohcndliaaacaaDoorZQFnFixedx0
import Derived.Test.YtcohcndliaaacaaDoorZQFnFixedx1
import Derived.Test.YtcohcndliaaacaaDoorZQFnFixedx3
import Derived.Test.YtcohcndliaaacaaDoorZQFnFixedx9
namespace Go.Proofs.YtcohcndliaaacaaDoor.QFnFixed
open Go.Proofs.YtcohcndliaaacaaDoor.Qq
open Go.RowKit Go.Proofs.YtcohcndliaaacaaDoor.LibX Go.Proofs.YtcohcndliaaacaaDoor.LibE Go.Proofs.YtcohcndliaaacaaDoorW.PrintWords Go.Proofs.YtcohcndliaaacaaDoorW.PrintLast Go.Proofs.YtcohcndliaaacaaDoorW.PrintMore
attribute [local go_sem] max2_int min2_int max_two min_two max_three min_three max_four min_four   -- for this text's walks alone
set_option maxHeartbeats 8000000
set_option maxRecDepth 100000
set_option linter.unusedVariables false
set_option linter.unusedSimpArgs false
def impl_bytesOf.l0 : Nat → Int → Int → List Int → Option (ByteArray)
 | 0, _, _, _ => none
 | k + 1, x0, x1, x5 => if x1 > 0 then (if x5.length < 140737488355328 then (impl_bytesOf.l0 k (x0 / 256) (wrap64 (x1 - 1)) (x5 ++ [(x0) % 256])) else (none)) else (some (strOfNums x5))
def impl_bytesOf.f (k : Nat) (a0 : Int) (a1 : Int) : Option (ByteArray) := impl_bytesOf.l0 k a0 a1 (([] : List Int))
theorem impl_bytesOf.mono_l : ∀ k, (∀ y0 y1 y2, LeO (impl_bytesOf.l0 k y0 y1 y2) (impl_bytesOf.l0 (k + 1) y0 y1 y2))
 | 0 => fun _ _ _ r h => by simp [impl_bytesOf.l0] at h
 | k + 1 => by
  have ih0 := impl_bytesOf.mono_l k
  ·intro y0 y1 y2
   unfold impl_bytesOf.l0
   repeat' first
   | (with_reducible first | exact ih0 _ _ _ | exact LeO.refl _ | exact LeO.none _ | refine LeO.ite ?_ ?_ | refine LeO.bind ?_ (fun _ => ?_))
   | exact ih0 _ _ _
   | exact LeO.none _
   | refine LeO.ite ?_ ?_
   | refine LeO.bind ?_ (fun _ => ?_)
theorem impl_bytesOf.mono : ∀ a0 a1 k, LeO (impl_bytesOf.f k a0 a1) (impl_bytesOf.f (k + 1) a0 a1) := by
 intro a0 a1 k
 have ih0 := impl_bytesOf.mono_l k
 unfold impl_bytesOf.f
 repeat' first
   | (with_reducible first | exact ih0 _ _ _ | exact LeO.refl _ | exact LeO.none _ | refine LeO.ite ?_ ?_ | refine LeO.bind ?_ (fun _ => ?_))
   | exact ih0 _ _ _
   | exact LeO.none _
   | refine LeO.ite ?_ ?_
   | refine LeO.bind ?_ (fun _ => ?_)
theorem impl_bytesOf.calls (k : Nat) (a0 : Int) (a1 : Int) (r : ByteArray) (w : World) (h : impl_bytesOf.f k a0 a1 = some r) :
  Calls Tryd.prog 55 #[.int .i64 a0, .int .i64 a1] w fun e w' => e = .returned (.string r) ∧ Below w.heap.size w w' := by
 have HB := Aside0.mk (Below.refl w.heap.size w)
 have H : (impl_bytesOf.l0 k a0 a1 (([] : List Int))) = some r := h
 clear h
 obtain ⟨y413, hy413⟩ : ∃ y_ : List Int, y_ = (([] : List Int)) := ⟨_, rfl⟩
 replace H : (impl_bytesOf.l0 k a0 a1 y413) = some r := by first | (rw [hy413]; with_reducible exact H) | (have H2_ := (Option.bind_some _ _).symm.trans H; rw [hy413]; with_reducible exact H2_) | (have H2_ := (Option.bind_some _ _).symm.trans H; with_reducible exact H2_) | with_reducible exact H | (rw [hy413]; exact H) | exact H
 have Ny413 := Aside0.mk hy413
 clear hy413
 have H' := Aside0.mk H
 clear H
 go_enter Tryd.func55, Tryd.ntmps55
 go_wp2_with (first | ((with_reducible refine gate_dst (N := 6) rfl ?_); refine Kd.R_lit (Kd.int .u8) _ 5 ?hg (N := 6) ?hd (xs := ([] : List Int)) (inner := []) (ok := fun _ => True) (okp := fun _ => True) ?hr ?hp (fun _ hk => hk) trivial (Below.refl _ _) (Nat.le_refl _) (by simp) ?_; (case hd => rfl); (case hg => rfl); (case hr => exact q99_); (case hp => exact (Reps.none _ _)); intro v414 w3 ho4 hb hg_ hnew_; clear hg_ hnew_; (first | rw [← Ny413.out] at ho4 | (simp only [Int.reduceToNat] at ho4; rw [← Ny413.out] at ho4)); have n0_ := Aside0.mk (Kd.R_lower ho4 (below_size q44_)); have n1_ := Aside0.mk (below_step q44_ hb); clear HB; have HO415 := n0_; have HB := n1_; clear n0_ n1_; clear hb ho4))
 go_loopg [0, 1, 5] k (fun kq v0 v1 v5 w' => ∃ (x0_1 : Int) (x1_1 : Int) (x5_1 : List Int), v0 = .int .i64 x0_1 ∧ v1 = .int .i64 x1_1 ∧ Aside0 (impl_bytesOf.l0 kq x0_1 x1_1 x5_1 = some r) ∧ Aside0 (kq ≤ k) ∧ Aside0 (Kd.R (Kd.int .u8) 5 w' w.heap.size (fun _ => True) v5 x5_1) ∧ Aside0 (Below w.heap.size w w'))
 case atStart => exact ⟨(a0), (a1), (y413), q60_, q60_, H', ⟨Nat.le_refl _⟩, ⟨by (with_reducible repeat (first | apply Kd.R_alloc | apply Kd.R_drewN | apply Kd.R_drew)); exact HO415.out⟩, ⟨q44_⟩⟩
 case round =>
  clear H'
  try clear p2
  obtain ⟨x0_1, x1_1, x5_1, rfl, rfl, HA, HK1, HO_5, HB⟩ := hrel
  cases gk with
  | zero => exact absurd HA.out (by simp [impl_bytesOf.l0])
  | succ k1 =>
   have H := HA.out
   clear HA
   simp only [impl_bytesOf.l0] at H
   by_cases c5 : x1_1 > 0
   ·rw [if_pos c5] at H
    have c5b0 : decide (0 < x1_1) = true := decide_eq_true c5
    clear c5
    by_cases c6 : x5_1.length < 140737488355328
    ·rw [if_pos c6] at H
     have LMc6 := Aside0.mk c6
     clear c6
     obtain ⟨y416, hy416⟩ : ∃ y_ : List Int, y_ = (x5_1 ++ [(x0_1) % 256]) := ⟨_, rfl⟩
     replace H : (impl_bytesOf.l0 k1 (x0_1 / 256) (wrap64 (x1_1 - 1)) y416) = some r := by first | (rw [hy416]; with_reducible exact H) | (have H2_ := (Option.bind_some _ _).symm.trans H; rw [hy416]; with_reducible exact H2_) | (have H2_ := (Option.bind_some _ _).symm.trans H; with_reducible exact H2_) | with_reducible exact H | (rw [hy416]; exact H) | exact H
     have Ny416 := Aside0.mk hy416
     clear hy416
     have H' := Aside0.mk H
     clear H
     go_wp2_with (first | ((with_reducible refine gate_builtin (b := .append) (xs := #[.tmp 11, .tmp 14]) rfl ?_); at_builtin; refine Kd.R_append (Kd.int .u8) (w0 := w) w.heap.size rfl (.tmp 11) (.tmp 14) 28 5 (.int .u8 0) 1 rfl Tryd.underlying28 info5 rfl (by decide) (by omega) u5 x5_1 ((x0_1) % 256) [.int .u8 ((x0_1) % 256)] (fun _ => True) (fun _ => False) rfl rfl ?aP (fun _ hk => hk.elim) ?aF ?aO ?aB ?aS ?aL ?_; (case aP => exact rfl); (case aB => exact q44_); (case aF => exact (fun _ _ => trivial)); (case aO => exact (by (with_reducible repeat (first | apply Kd.R_alloc | apply Kd.R_drewN | apply Kd.R_drew)); exact HO_5.out)); (case aS => exact (below_size q44_)); (case aL => have := LMc6.out; omega); intro v417 w7 ho hb hg hat; rw [← Ny416.out] at ho; have n0_ := Aside0.mk (hb); have n1_ := Aside0.mk (ho); clear HB; clear HO_5; have HB := n0_; have HO418 := n1_; clear n0_ n1_; clear ho hb hg hat))
     go_roundg k1
     case measure => have := HK1.out; omega
     case rel => exact ⟨(x0_1 / 256), (wrap64 (x1_1 - 1)), (y416), q60_, q60_, H', ⟨by have := HK1.out; omega⟩, ⟨by (with_reducible repeat (first | apply Kd.R_alloc | apply Kd.R_drewN | apply Kd.R_drew)); exact HO418.out⟩, ⟨q44_⟩⟩
    ·rw [if_neg c6] at H
     exact absurd H (by simp)
   ·rw [if_neg c5] at H
    have c5b0 : decide (0 < x1_1) = false := decide_eq_false c5
    clear c5
    obtain rfl := Option.some.inj H
    have hcv8 := own_string (P := Tryd.prog) Tryd.underlying28 Tryd.underlying5 Tryd.underlying9 (Kd.own_of_R HO_5.out)
    have hcvq8 := fun m_ : Nat => own_string (P := Tryd.prog) Tryd.underlying28 Tryd.underlying5 Tryd.underlying9 (Kd.own_of_R (Kd.R_drewN HO_5.out m_))
    go_wp2
    go_ret
    exact ⟨q48_, q44_⟩
mutual
def impl_Fixed.j0 : Nat → ByteArray → ByteArray → Int → Int → Bool → Option (ByteArray × Bool)
 | 0, _, _, _, _, _ => none
 | k + 1, x0, x1, x2, x8, x31 => if x31 = true then (some ((⟨#[]⟩ : ByteArray), false)) else ((impl_doubled.f k x8).bind fun bt422 => (impl_Fixed.l0 k x0 x1 x2 x8 bt422.1 bt422.2))
def impl_Fixed.l0 : Nat → ByteArray → ByteArray → Int → Int → Int → Bool → Option (ByteArray × Bool)
 | 0, _, _, _, _, _, _ => none
 | k + 1, x0, x1, x2, x8, x9, x10 => if x10 = true then ((impl_noughts.f (wrap64 ((wrap64 (x8 * 256)) - (x0.size : Int)))).bind fun t426 => (if x0.size + t426.size ≤ 9223372036854775807 then ((impl_noughts.f (wrap64 (15 - (x1.size : Int)))).bind fun t427 => (if x1.size + t427.size ≤ 9223372036854775807 then ((impl_laid.f (x0 ++ t426) 52 (x1 ++ t427)).bind fun t428 => ((impl_bytesOf.f k x2 1).bind fun t429 => ((impl_laid.f t428 71 t429).bind fun t430 => ((impl_bytesOf.f k x9 1).bind fun t431 => ((impl_laid.f t430 72 t431).bind fun t432 => ((impl_HeaderSum.f k t432).bind fun t433 => ((impl_bytesOf.f k t433 1).bind fun t434 => ((impl_laid.f t432 77 t434).bind fun t435 => ((impl_WholeSum.f k t435).bind fun t436 => ((impl_bytesOf.f k (t436 / 256) 1).bind fun t437 => ((impl_bytesOf.f k t436 1).bind fun t438 => (if t437.size + t438.size ≤ 9223372036854775807 then ((impl_laid.f t435 78 (t437 ++ t438)).bind fun t439 => (some (t439, true))) else (none))))))))))))) else (none))) else (none))) else ((impl_doubled.f k (wrap64 (x8 + 1))).bind fun bt424 => (impl_Fixed.l0 k x0 x1 x2 (wrap64 (x8 + 1)) bt424.1 bt424.2))
end
def impl_Fixed.f (k : Nat) (a0 : ByteArray) (a1 : ByteArray) (a2 : Int) : Option (ByteArray × Bool) := (impl_banksOf.f a0 1).bind fun t419 => (if t419 = 0 then (impl_Fixed.j0 k a0 a1 a2 t419 true) else (if (a1.size : Int) > 15 then (impl_Fixed.j0 k a0 a1 a2 t419 true) else ((impl_isPlain.f k a1).bind fun t420 => (if t420 = true then ((impl_within.f a2 0 2).bind fun t421 => (impl_Fixed.j0 k a0 a1 a2 t419 (!t421))) else (impl_Fixed.j0 k a0 a1 a2 t419 true)))))
theorem impl_Fixed.mono_l : ∀ k, (∀ y0 y1 y2 y3 y4, LeO (impl_Fixed.j0 k y0 y1 y2 y3 y4) (impl_Fixed.j0 (k + 1) y0 y1 y2 y3 y4)) ∧ (∀ y0 y1 y2 y3 y4 y5, LeO (impl_Fixed.l0 k y0 y1 y2 y3 y4 y5) (impl_Fixed.l0 (k + 1) y0 y1 y2 y3 y4 y5))
 | 0 => ⟨fun _ _ _ _ _ r h => by simp [impl_Fixed.j0] at h, fun _ _ _ _ _ _ r h => by simp [impl_Fixed.l0] at h⟩
 | k + 1 => by
  obtain ⟨ih0, ih1⟩ := impl_Fixed.mono_l k
  refine ⟨?_, ?_⟩
  ·intro y0 y1 y2 y3 y4
   unfold impl_Fixed.j0
   repeat' first
   | (with_reducible first | exact ih0 _ _ _ _ _ | exact ih1 _ _ _ _ _ _ | exact impl_HeaderSum.mono _ _ | exact impl_WholeSum.mono _ _ | exact impl_bytesOf.mono _ _ _ | exact impl_doubled.mono _ _ | exact impl_isPlain.mono _ _ | exact LeO.refl _ | exact LeO.none _ | refine LeO.ite ?_ ?_ | refine LeO.bind ?_ (fun _ => ?_))
   | exact ih0 _ _ _ _ _
   | exact ih1 _ _ _ _ _ _
   | exact impl_HeaderSum.mono _ _
   | exact impl_WholeSum.mono _ _
   | exact impl_bytesOf.mono _ _ _
   | exact impl_doubled.mono _ _
   | exact impl_isPlain.mono _ _
   | exact LeO.none _
   | refine LeO.ite ?_ ?_
   | refine LeO.bind ?_ (fun _ => ?_)
  ·intro y0 y1 y2 y3 y4 y5
   unfold impl_Fixed.l0
   repeat' first
   | (with_reducible first | exact ih0 _ _ _ _ _ | exact ih1 _ _ _ _ _ _ | exact impl_HeaderSum.mono _ _ | exact impl_WholeSum.mono _ _ | exact impl_bytesOf.mono _ _ _ | exact impl_doubled.mono _ _ | exact impl_isPlain.mono _ _ | exact LeO.refl _ | exact LeO.none _ | refine LeO.ite ?_ ?_ | refine LeO.bind ?_ (fun _ => ?_))
   | exact ih0 _ _ _ _ _
   | exact ih1 _ _ _ _ _ _
   | exact impl_HeaderSum.mono _ _
   | exact impl_WholeSum.mono _ _
   | exact impl_bytesOf.mono _ _ _
   | exact impl_doubled.mono _ _
   | exact impl_isPlain.mono _ _
   | exact LeO.none _
   | refine LeO.ite ?_ ?_
   | refine LeO.bind ?_ (fun _ => ?_)
theorem impl_Fixed.mono : ∀ a0 a1 a2 k, LeO (impl_Fixed.f k a0 a1 a2) (impl_Fixed.f (k + 1) a0 a1 a2) := by
 intro a0 a1 a2 k
 obtain ⟨ih0, ih1⟩ := impl_Fixed.mono_l k
 unfold impl_Fixed.f
 repeat' first
   | (with_reducible first | exact ih0 _ _ _ _ _ | exact ih1 _ _ _ _ _ _ | exact impl_HeaderSum.mono _ _ | exact impl_WholeSum.mono _ _ | exact impl_bytesOf.mono _ _ _ | exact impl_doubled.mono _ _ | exact impl_isPlain.mono _ _ | exact LeO.refl _ | exact LeO.none _ | refine LeO.ite ?_ ?_ | refine LeO.bind ?_ (fun _ => ?_))
   | exact ih0 _ _ _ _ _
   | exact ih1 _ _ _ _ _ _
   | exact impl_HeaderSum.mono _ _
   | exact impl_WholeSum.mono _ _
   | exact impl_bytesOf.mono _ _ _
   | exact impl_doubled.mono _ _
   | exact impl_isPlain.mono _ _
   | exact LeO.none _
   | refine LeO.ite ?_ ?_
   | refine LeO.bind ?_ (fun _ => ?_)
theorem impl_Fixed.calls (k : Nat) (a0 : ByteArray) (a1 : ByteArray) (a2 : Int) (r1 : ByteArray) (r2 : Bool) (w : World) (h : impl_Fixed.f k a0 a1 a2 = some (r1, r2)) :
  Calls Tryd.prog 27 #[.string a0, .string a1, .int .i64 a2] w fun e w' => e = .returned (.tuple #[.string r1, .bool r2]) ∧ Below w.heap.size w w' := by
 have HB := Aside0.mk (Below.refl w.heap.size w)
 have H : ((impl_banksOf.f a0 1).bind fun t419 => (if t419 = 0 then (impl_Fixed.j0 k a0 a1 a2 t419 true) else (if (a1.size : Int) > 15 then (impl_Fixed.j0 k a0 a1 a2 t419 true) else ((impl_isPlain.f k a1).bind fun t420 => (if t420 = true then ((impl_within.f a2 0 2).bind fun t421 => (impl_Fixed.j0 k a0 a1 a2 t419 (!t421))) else (impl_Fixed.j0 k a0 a1 a2 t419 true)))))) = some (r1, r2) := h
 clear h
 replace H := Option.bind_eq_some_iff.mp H
 obtain ⟨t419, A40, H⟩ := H
 have A4 := Aside0.mk A40
 clear A40
 have HC5 := Aside0.mk H
 clear H
 go_enter Tryd.func27, Tryd.ntmps27
 go_upto_region 2 with (first | ((with_reducible refine gate_callee (f := 32) rfl ?_); refine goesL_ (some 14) rfl rfl Tryd.func32 (by kernel_rfl) rfl #[.string a0, .int .i64 1] rfl q43_ ?_; (with_reducible refine (impl_banksOf.calls a0 1 t419 _ A4.out).mono ?_); rintro e w' ⟨rfl, ⟨nd, rfl⟩⟩; refine ⟨_, rfl, ?_⟩))
 (try simp only [Act.put, List.setIfInBounds_toArray, List.set_cons_zero, List.set_cons_succ])
 go_cut [31] (fun v31 wc => ∃ (kq : Nat) (x31_4 : Bool), v31 = .bool x31_4 ∧ Aside0 (impl_Fixed.j0 kq a0 a1 a2 t419 x31_4 = some (r1, r2)) ∧ Aside0 (kq ≤ k) ∧ Aside0 (Below w.heap.size w wc))
 case first =>
  have H := HC5.out
  clear HC5
  by_cases c6 : t419 = 0
  ·rw [if_pos c6] at H
   have c6b0 : (t419 == 0) = true := beq_iff_eq.mpr c6
   have c6b1 : (t419 != 0) = false := bne_eq_false_iff_eq.mpr c6
   clear c6
   (first | rw [c6b0] | (simp only [i64_w, i32_w]; rw [c6b0]) | skip)
   have H' := Aside0.mk H
   clear H
   go_wp2
   go_meet
   case rel => exact ⟨_, (true), q60_, H', ⟨q84_⟩, ⟨q44_⟩⟩
  ·rw [if_neg c6] at H
   have c6b0 : (t419 == 0) = false := beq_eq_false_iff_ne.mpr c6
   have c6b1 : (t419 != 0) = true := bne_iff_ne.mpr c6
   (first | rw [c6b0] | (simp only [i64_w, i32_w]; rw [c6b0]) | skip)
   by_cases c7 : (a1.size : Int) > 15
   ·rw [if_pos c7] at H
    have c7b0 : decide (15 < (a1.size : Int)) = true := decide_eq_true c7
    have c7b1 : decide (15 < a1.size) = true := decide_eq_true (by omega)
    clear c7
    have H' := Aside0.mk H
    clear H
    go_wp2
    go_meet
    case rel => exact ⟨_, (true), q60_, H', ⟨q84_⟩, ⟨q44_⟩⟩
   ·rw [if_neg c7] at H
    have c7b0 : decide (15 < (a1.size : Int)) = false := decide_eq_false c7
    have c7b1 : decide (15 < a1.size) = false := decide_eq_false (by omega)
    clear c7
    replace H := Option.bind_eq_some_iff.mp H
    obtain ⟨t420, A80, H⟩ := H
    have A8 := Aside0.mk A80
    clear A80
    by_cases c9 : t420 = true
    ·subst c9
     replace H : ((impl_within.f a2 0 2).bind fun t421 => (impl_Fixed.j0 k a0 a1 a2 t419 (!t421))) = some (r1, r2) := by rw [if_pos rfl] at H; exact H
     replace H := Option.bind_eq_some_iff.mp H
     obtain ⟨t421, A100, H⟩ := H
     have A10 := Aside0.mk A100
     clear A100
     have H' := Aside0.mk H
     clear H
     go_wp2_with (first | (go_at_call 35; (with_reducible refine (impl_isPlain.calls k a1 true _ A8.out).mono ?_); rintro e w' ⟨rfl, ⟨nd, rfl⟩⟩) | (go_at_call 47; (with_reducible refine (impl_within.calls a2 0 2 t421 _ A10.out).mono ?_); rintro e w' ⟨rfl, ⟨nd, rfl⟩⟩))
     go_meet
     case rel => exact ⟨_, (!t421), q60_, H', ⟨q84_⟩, ⟨q44_⟩⟩
    ·replace c9 := Bool.eq_false_iff.mpr c9
     subst c9
     replace H : (impl_Fixed.j0 k a0 a1 a2 t419 true) = some (r1, r2) := by rw [if_neg (show ¬ (false = true) by decide)] at H; exact H
     have H' := Aside0.mk H
     clear H
     go_wp2_with (first | (go_at_call 35; (with_reducible refine (impl_isPlain.calls k a1 false _ A8.out).mono ?_); rintro e w' ⟨rfl, ⟨nd, rfl⟩⟩))
     go_meet
     case rel => exact ⟨_, (true), q60_, H', ⟨q84_⟩, ⟨q44_⟩⟩
 case rest =>
  clear HC5
  try clear c2
  try clear p2
  try clear c3
  try clear c6
  try clear c6b0
  try clear c6b1
  try clear p6
  try clear c7
  try clear c7b0
  try clear c7b1
  try clear c9
  obtain ⟨kq, x31_4, rfl, HA, HJ4, HB⟩ := hcut
  cases kq with
  | zero => exact absurd HA.out (by simp [impl_Fixed.j0])
  | succ kj4 =>
   have H := HA.out
   clear HA
   simp only [impl_Fixed.j0] at H
   by_cases c11 : x31_4 = true
   ·subst c11
    replace H : (some ((⟨#[]⟩ : ByteArray), false)) = some (r1, r2) := by rw [if_pos rfl] at H; exact H
    simp only [Option.some.injEq, Prod.mk.injEq] at H
    obtain ⟨rfl, rfl⟩ := H
    go_wp2
    go_ret2
    exact ⟨q48_, q44_⟩
   ·replace c11 := Bool.eq_false_iff.mpr c11
    subst c11
    replace H : ((impl_doubled.f kj4 t419).bind fun bt422 => (impl_Fixed.l0 kj4 a0 a1 a2 t419 bt422.1 bt422.2)) = some (r1, r2) := by rw [if_neg (show ¬ (false = true) by decide)] at H; exact H
    replace H := Option.bind_eq_some_iff.mp H
    obtain ⟨⟨t422, t423⟩, A120, H⟩ := H
    replace H : (impl_Fixed.l0 kj4 a0 a1 a2 t419 t422 t423) = some (r1, r2) := H
    have A12 := Aside0.mk A120
    clear A120
    have H' := Aside0.mk H
    clear H
    go_wp2_with (first | ((with_reducible refine gate_callee (f := 33) rfl ?_); refine goesL_ (some 34) rfl rfl Tryd.func33 (by kernel_rfl) rfl #[.int .i64 t419] rfl q43_ ?_; (with_reducible refine (impl_doubled.calls kj4 t419 t422 t423 _ A12.out).mono ?_); rintro e w' ⟨rfl, ⟨nd, rfl⟩⟩; refine ⟨_, rfl, ?_⟩))
    go_loopg [8, 9, 10] kj4 (fun kq v8 v9 v10 w' => ∃ (x8_2 : Int) (x9_2 : Int) (x10_2 : Bool), v8 = .int .i64 x8_2 ∧ v9 = .int .i64 x9_2 ∧ v10 = .bool x10_2 ∧ Aside0 (impl_Fixed.l0 kq a0 a1 a2 x8_2 x9_2 x10_2 = some (r1, r2)) ∧ Aside0 (kq ≤ kj4) ∧ Aside0 (Below w.heap.size w w'))
    case atStart => exact ⟨(t419), (t422), (t423), q60_, q60_, q60_, H', ⟨Nat.le_refl _⟩, ⟨q44_⟩⟩
    case round =>
     clear H'
     try clear c1
     try clear c2
     try clear p2 p2
     try clear c3
     try clear c6
     try clear c6b0
     try clear c6b1
     try clear p6 p6
     try clear c7
     try clear c7b0
     try clear c7b1
     try clear c9
     try clear c11
     obtain ⟨x8_2, x9_2, x10_2, rfl, rfl, rfl, HA, HK2, HB⟩ := hrel
     cases gk with
     | zero => exact absurd HA.out (by simp [impl_Fixed.l0])
     | succ k2 =>
      have H := HA.out
      clear HA
      simp only [impl_Fixed.l0] at H
      by_cases c13 : x10_2 = true
      ·subst c13
       replace H : ((impl_noughts.f (wrap64 ((wrap64 (x8_2 * 256)) - (a0.size : Int)))).bind fun t426 => (if a0.size + t426.size ≤ 9223372036854775807 then ((impl_noughts.f (wrap64 (15 - (a1.size : Int)))).bind fun t427 => (if a1.size + t427.size ≤ 9223372036854775807 then ((impl_laid.f (a0 ++ t426) 52 (a1 ++ t427)).bind fun t428 => ((impl_bytesOf.f k2 a2 1).bind fun t429 => ((impl_laid.f t428 71 t429).bind fun t430 => ((impl_bytesOf.f k2 x9_2 1).bind fun t431 => ((impl_laid.f t430 72 t431).bind fun t432 => ((impl_HeaderSum.f k2 t432).bind fun t433 => ((impl_bytesOf.f k2 t433 1).bind fun t434 => ((impl_laid.f t432 77 t434).bind fun t435 => ((impl_WholeSum.f k2 t435).bind fun t436 => ((impl_bytesOf.f k2 (t436 / 256) 1).bind fun t437 => ((impl_bytesOf.f k2 t436 1).bind fun t438 => (if t437.size + t438.size ≤ 9223372036854775807 then ((impl_laid.f t435 78 (t437 ++ t438)).bind fun t439 => (some (t439, true))) else (none))))))))))))) else (none))) else (none))) = some (r1, r2) := by rw [if_pos rfl] at H; exact H
       replace H := Option.bind_eq_some_iff.mp H
       obtain ⟨t426, A140, H⟩ := H
       have A14 := Aside0.mk A140
       clear A140
       by_cases c15 : a0.size + t426.size ≤ 9223372036854775807
       ·rw [if_pos c15] at H
        have c15b0 := eq_true c15
        have c15b1 : decide (a0.size + t426.size ≤ 9223372036854775807) = true := decide_eq_true c15
        try have c15b2 : (9223372036854775807 < a0.size + t426.size) = False := eq_false (Nat.not_lt.2 c15)
        replace H := Option.bind_eq_some_iff.mp H
        obtain ⟨t427, A160, H⟩ := H
        have A16 := Aside0.mk A160
        clear A160
        by_cases c17 : a1.size + t427.size ≤ 9223372036854775807
        ·rw [if_pos c17] at H
         have c17b0 := eq_true c17
         have c17b1 : decide (a1.size + t427.size ≤ 9223372036854775807) = true := decide_eq_true c17
         try have c17b2 : (9223372036854775807 < a1.size + t427.size) = False := eq_false (Nat.not_lt.2 c17)
         replace H := Option.bind_eq_some_iff.mp H
         obtain ⟨t428, A180, H⟩ := H
         have A18 := Aside0.mk A180
         clear A180
         replace H := Option.bind_eq_some_iff.mp H
         obtain ⟨t429, A190, H⟩ := H
         have A19 := Aside0.mk A190
         clear A190
         replace H := Option.bind_eq_some_iff.mp H
         obtain ⟨t430, A200, H⟩ := H
         have A20 := Aside0.mk A200
         clear A200
         replace H := Option.bind_eq_some_iff.mp H
         obtain ⟨t431, A210, H⟩ := H
         have A21 := Aside0.mk A210
         clear A210
         replace H := Option.bind_eq_some_iff.mp H
         obtain ⟨t432, A220, H⟩ := H
         have A22 := Aside0.mk A220
         clear A220
         replace H := Option.bind_eq_some_iff.mp H
         obtain ⟨t433, A230, H⟩ := H
         have A23 := Aside0.mk A230
         clear A230
         replace H := Option.bind_eq_some_iff.mp H
         obtain ⟨t434, A240, H⟩ := H
         have A24 := Aside0.mk A240
         clear A240
         replace H := Option.bind_eq_some_iff.mp H
         obtain ⟨t435, A250, H⟩ := H
         have A25 := Aside0.mk A250
         clear A250
         replace H := Option.bind_eq_some_iff.mp H
         obtain ⟨t436, A260, H⟩ := H
         have A26 := Aside0.mk A260
         clear A260
         replace H := Option.bind_eq_some_iff.mp H
         obtain ⟨t437, A270, H⟩ := H
         have A27 := Aside0.mk A270
         clear A270
         replace H := Option.bind_eq_some_iff.mp H
         obtain ⟨t438, A280, H⟩ := H
         have A28 := Aside0.mk A280
         clear A280
         by_cases c29 : t437.size + t438.size ≤ 9223372036854775807
         ·rw [if_pos c29] at H
          have c29b0 := eq_true c29
          have c29b1 : decide (t437.size + t438.size ≤ 9223372036854775807) = true := decide_eq_true c29
          try have c29b2 : (9223372036854775807 < t437.size + t438.size) = False := eq_false (Nat.not_lt.2 c29)
          replace H := Option.bind_eq_some_iff.mp H
          obtain ⟨t439, A300, H⟩ := H
          have A30 := Aside0.mk A300
          clear A300
          simp only [Option.some.injEq, Prod.mk.injEq] at H
          obtain ⟨rfl, rfl⟩ := H
          go_wp2_with (first | ((with_reducible refine gate_callee (f := 53) rfl ?_); refine goesL_ (some 52) rfl rfl Tryd.func53 (by kernel_rfl) rfl #[.int .i64 (wrap64 ((wrap64 (x8_2 * 256)) - (a0.size : Int)))] rfl (by (try simp only [List.map_toArray, List.map_cons, List.map_nil]); first | done | rfl | (simp only [List.length_drop, List.length_take]; rfl) | (refine Eq.trans (b := #[.int .i64 ((((x8_2 * 256)) - (a0.size : Int)))]) rfl ?_; simp [wrap64] <;> omega)) ?_; (with_reducible refine (impl_noughts.calls (wrap64 ((wrap64 (x8_2 * 256)) - (a0.size : Int))) t426 _ A14.out).mono ?_); rintro e w31 ⟨rfl, hb⟩; refine ⟨_, rfl, ?_⟩; replace HB := Aside0.mk (below_step q44_ hb); (try clear hb)) | ((with_reducible refine gate_callee (f := 53) rfl ?_); refine goesL_ (some 59) rfl rfl Tryd.func53 (by kernel_rfl) rfl #[.int .i64 (wrap64 (15 - (a1.size : Int)))] rfl (by (try simp only [List.map_toArray, List.map_cons, List.map_nil]); first | done | rfl | (simp only [List.length_drop, List.length_take]; rfl) | (refine Eq.trans (b := #[.int .i64 ((15 - (a1.size : Int)))]) rfl ?_; simp [wrap64] <;> omega)) ?_; (with_reducible refine (impl_noughts.calls (wrap64 (15 - (a1.size : Int))) t427 _ A16.out).mono ?_); rintro e w32 ⟨rfl, hb⟩; refine ⟨_, rfl, ?_⟩; replace HB := Aside0.mk (below_step q44_ hb); (try clear hb)) | ((with_reducible refine gate_callee (f := 54) rfl ?_); refine goesL_ (some 61) rfl rfl Tryd.func54 (by kernel_rfl) rfl #[.string (a0 ++ t426), .int .i64 52, .string (a1 ++ t427)] rfl q43_ ?_; (with_reducible refine (impl_laid.calls (a0 ++ t426) 52 (a1 ++ t427) t428 _ A18.out).mono ?_); rintro e w' ⟨rfl, ⟨nd, rfl⟩⟩; refine ⟨_, rfl, ?_⟩) | ((with_reducible refine gate_callee (f := 55) rfl ?_); refine goesL_ (some 64) rfl rfl Tryd.func55 (by kernel_rfl) rfl #[.int .i64 a2, .int .i64 1] rfl q43_ ?_; (with_reducible refine (impl_bytesOf.calls k2 a2 1 t429 _ A19.out).mono ?_); rintro e w33 ⟨rfl, hb⟩; refine ⟨_, rfl, ?_⟩; replace HB := Aside0.mk (below_step q44_ hb); (try clear hb)) | ((with_reducible refine gate_callee (f := 54) rfl ?_); refine goesL_ (some 65) rfl rfl Tryd.func54 (by kernel_rfl) rfl #[.string t428, .int .i64 71, .string t429] rfl q43_ ?_; (with_reducible refine (impl_laid.calls t428 71 t429 t430 _ A20.out).mono ?_); rintro e w' ⟨rfl, ⟨nd, rfl⟩⟩; refine ⟨_, rfl, ?_⟩) | ((with_reducible refine gate_callee (f := 55) rfl ?_); refine goesL_ (some 68) rfl rfl Tryd.func55 (by kernel_rfl) rfl #[.int .i64 x9_2, .int .i64 1] rfl q43_ ?_; (with_reducible refine (impl_bytesOf.calls k2 x9_2 1 t431 _ A21.out).mono ?_); rintro e w34 ⟨rfl, hb⟩; refine ⟨_, rfl, ?_⟩; replace HB := Aside0.mk (below_step q44_ hb); (try clear hb)) | ((with_reducible refine gate_callee (f := 54) rfl ?_); refine goesL_ (some 69) rfl rfl Tryd.func54 (by kernel_rfl) rfl #[.string t430, .int .i64 72, .string t431] rfl q43_ ?_; (with_reducible refine (impl_laid.calls t430 72 t431 t432 _ A22.out).mono ?_); rintro e w' ⟨rfl, ⟨nd, rfl⟩⟩; refine ⟨_, rfl, ?_⟩) | ((with_reducible refine gate_callee (f := 18) rfl ?_); refine goesL_ (some 72) rfl rfl Tryd.func18 (by kernel_rfl) rfl #[.string t432] rfl q43_ ?_; (with_reducible refine (impl_HeaderSum.calls k2 t432 t433 _ A23.out).mono ?_); rintro e w' ⟨rfl, ⟨nd, rfl⟩⟩; refine ⟨_, rfl, ?_⟩) | ((with_reducible refine gate_callee (f := 55) rfl ?_); refine goesL_ (some 73) rfl rfl Tryd.func55 (by kernel_rfl) rfl #[.int .i64 t433, .int .i64 1] rfl q43_ ?_; (with_reducible refine (impl_bytesOf.calls k2 t433 1 t434 _ A24.out).mono ?_); rintro e w35 ⟨rfl, hb⟩; refine ⟨_, rfl, ?_⟩; replace HB := Aside0.mk (below_step q44_ hb); (try clear hb)) | ((with_reducible refine gate_callee (f := 54) rfl ?_); refine goesL_ (some 74) rfl rfl Tryd.func54 (by kernel_rfl) rfl #[.string t432, .int .i64 77, .string t434] rfl q43_ ?_; (with_reducible refine (impl_laid.calls t432 77 t434 t435 _ A25.out).mono ?_); rintro e w' ⟨rfl, ⟨nd, rfl⟩⟩; refine ⟨_, rfl, ?_⟩) | ((with_reducible refine gate_callee (f := 20) rfl ?_); refine goesL_ (some 76) rfl rfl Tryd.func20 (by kernel_rfl) rfl #[.string t435] rfl q43_ ?_; (with_reducible refine (impl_WholeSum.calls k2 t435 t436 _ A26.out).mono ?_); rintro e w' ⟨rfl, ⟨nd, rfl⟩⟩; refine ⟨_, rfl, ?_⟩) | ((with_reducible refine gate_callee (f := 55) rfl ?_); refine goesL_ (some 80) rfl rfl Tryd.func55 (by kernel_rfl) rfl #[.int .i64 (t436 / 256), .int .i64 1] rfl q43_ ?_; (with_reducible refine (impl_bytesOf.calls k2 (t436 / 256) 1 t437 _ A27.out).mono ?_); rintro e w36 ⟨rfl, hb⟩; refine ⟨_, rfl, ?_⟩; replace HB := Aside0.mk (below_step q44_ hb); (try clear hb)) | ((with_reducible refine gate_callee (f := 55) rfl ?_); refine goesL_ (some 82) rfl rfl Tryd.func55 (by kernel_rfl) rfl #[.int .i64 t436, .int .i64 1] rfl q43_ ?_; (with_reducible refine (impl_bytesOf.calls k2 t436 1 t438 _ A28.out).mono ?_); rintro e w37 ⟨rfl, hb⟩; refine ⟨_, rfl, ?_⟩; replace HB := Aside0.mk (below_step q44_ hb); (try clear hb)) | ((with_reducible refine gate_callee (f := 54) rfl ?_); refine goesL_ (some 84) rfl rfl Tryd.func54 (by kernel_rfl) rfl #[.string t435, .int .i64 78, .string (t437 ++ t438)] rfl q43_ ?_; (with_reducible refine (impl_laid.calls t435 78 (t437 ++ t438) t439 _ A30.out).mono ?_); rintro e w' ⟨rfl, ⟨nd, rfl⟩⟩; refine ⟨_, rfl, ?_⟩))
          go_ret2
          exact ⟨q48_, q44_⟩
         ·rw [if_neg c29] at H
          exact absurd H (by simp)
        ·rw [if_neg c17] at H
         exact absurd H (by simp)
       ·rw [if_neg c15] at H
        exact absurd H (by simp)
      ·replace c13 := Bool.eq_false_iff.mpr c13
       subst c13
       replace H : ((impl_doubled.f k2 (wrap64 (x8_2 + 1))).bind fun bt424 => (impl_Fixed.l0 k2 a0 a1 a2 (wrap64 (x8_2 + 1)) bt424.1 bt424.2)) = some (r1, r2) := by rw [if_neg (show ¬ (false = true) by decide)] at H; exact H
       replace H := Option.bind_eq_some_iff.mp H
       obtain ⟨⟨t424, t425⟩, A380, H⟩ := H
       replace H : (impl_Fixed.l0 k2 a0 a1 a2 (wrap64 (x8_2 + 1)) t424 t425) = some (r1, r2) := H
       have A38 := Aside0.mk A380
       clear A380
       have H' := Aside0.mk H
       clear H
       go_wp2_with (first | ((with_reducible refine gate_callee (f := 33) rfl ?_); refine goesL_ (some 43) rfl rfl Tryd.func33 (by kernel_rfl) rfl #[.int .i64 (wrap64 (x8_2 + 1))] rfl (by (try simp only [List.map_toArray, List.map_cons, List.map_nil]); first | done | rfl | (simp only [List.length_drop, List.length_take]; rfl) | (refine Eq.trans (b := #[.int .i64 ((x8_2 + 1))]) rfl ?_; simp [wrap64] <;> omega)) ?_; (with_reducible refine (impl_doubled.calls k2 (wrap64 (x8_2 + 1)) t424 t425 _ A38.out).mono ?_); rintro e w' ⟨rfl, ⟨nd, rfl⟩⟩; refine ⟨_, rfl, ?_⟩))
       go_roundg k2
       case measure => have := HJ4.out; have := HK2.out; omega
       case rel => exact ⟨(wrap64 (x8_2 + 1)), (t424), (t425), q60_, q60_, q60_, H', ⟨by have := HJ4.out; have := HK2.out; omega⟩, ⟨q44_⟩⟩
def spec_l5Banks.f (a0 : ByteArray) : Option (Int) := if ((a0.size : Int) % 256) = 0 then ((spec_l1In.f (wrap64 ((a0.size : Int) / 256)) 2 16).bind fun t440 => (if t440 = true then (some (wrap64 ((a0.size : Int) / 256))) else (some 0))) else (some 0)
theorem spec_l5Banks.calls (a0 : ByteArray) (r : Int) (w : World) (h : spec_l5Banks.f a0 = some r) :
  Calls Tryd.prog 29 #[.string a0] w fun e w' => e = .returned (.int .i64 r) ∧ Drawn0 w w' := by
 have H : (if ((a0.size : Int) % 256) = 0 then ((spec_l1In.f (wrap64 ((a0.size : Int) / 256)) 2 16).bind fun t440 => (if t440 = true then (some (wrap64 ((a0.size : Int) / 256))) else (some 0))) else (some 0)) = some r := h
 clear h
 by_cases c2 : ((a0.size : Int) % 256) = 0
 ·rw [if_pos c2] at H
  have c2b0 : (((a0.size : Int) % 256) == 0) = true := beq_iff_eq.mpr c2
  have c2b1 : (((a0.size : Int) % 256) != 0) = false := bne_eq_false_iff_eq.mpr c2
  clear c2
  replace H := Option.bind_eq_some_iff.mp H
  obtain ⟨t440, A30, H⟩ := H
  have A3 := Aside0.mk A30
  clear A30
  by_cases c4 : t440 = true
  ·subst c4
   replace H : (some (wrap64 ((a0.size : Int) / 256))) = some r := by rw [if_pos rfl] at H; exact H
   obtain rfl := Option.some.inj H
   go_enter Tryd.func29, Tryd.ntmps29
   go_wp2_with (first | (go_at_call 50; (with_reducible refine (spec_l1In.calls (wrap64 ((a0.size : Int) / 256)) 2 16 true _ A3.out).mono ?_); rintro e w' ⟨rfl, ⟨nd, rfl⟩⟩))
   go_ret
   exact ⟨q60_, q69_⟩
  ·replace c4 := Bool.eq_false_iff.mpr c4
   subst c4
   replace H : (some 0) = some r := by rw [if_neg (show ¬ (false = true) by decide)] at H; exact H
   obtain rfl := Option.some.inj H
   go_enter Tryd.func29, Tryd.ntmps29
   go_wp2_with (first | (go_at_call 50; (with_reducible refine (spec_l1In.calls (wrap64 ((a0.size : Int) / 256)) 2 16 false _ A3.out).mono ?_); rintro e w' ⟨rfl, ⟨nd, rfl⟩⟩))
   go_ret
   exact ⟨q60_, q69_⟩
 ·rw [if_neg c2] at H
  have c2b0 : (((a0.size : Int) % 256) == 0) = false := beq_eq_false_iff_ne.mpr c2
  have c2b1 : (((a0.size : Int) % 256) != 0) = true := bne_iff_ne.mpr c2
  obtain rfl := Option.some.inj H
  go_enter Tryd.func29, Tryd.ntmps29
  go_wp2
  go_ret
  exact ⟨q60_, q69_⟩
def spec_HeaderSum.l0 : Nat → ByteArray → Int → Int → Option (Int)
 | 0, _, _, _ => none
 | k + 1, x0, x3, x4 => if x4 < 77 then (if 0 ≤ x4 then (if x4 < (x0.size : Int) then (spec_HeaderSum.l0 k x0 (wrap64 ((wrap64 (x3 - (wrap64 (bt x0 x4)))) - 1)) (wrap64 (x4 + 1))) else (none)) else (none)) else (some (Int.tmod (wrap64 ((Int.tmod x3 256) + 256)) 256))
def spec_HeaderSum.f (k : Nat) (a0 : ByteArray) : Option (Int) := (spec_l5Banks.f a0).bind fun t441 => (if t441 = 0 then (some (-1)) else (spec_HeaderSum.l0 k a0 0 52))
theorem spec_HeaderSum.mono_l : ∀ k, (∀ y0 y1 y2, LeO (spec_HeaderSum.l0 k y0 y1 y2) (spec_HeaderSum.l0 (k + 1) y0 y1 y2))
 | 0 => fun _ _ _ r h => by simp [spec_HeaderSum.l0] at h
 | k + 1 => by
  have ih0 := spec_HeaderSum.mono_l k
  ·intro y0 y1 y2
   unfold spec_HeaderSum.l0
   repeat' first
   | (with_reducible first | exact ih0 _ _ _ | exact LeO.refl _ | exact LeO.none _ | refine LeO.ite ?_ ?_ | refine LeO.bind ?_ (fun _ => ?_))
   | exact ih0 _ _ _
   | exact LeO.none _
   | refine LeO.ite ?_ ?_
   | refine LeO.bind ?_ (fun _ => ?_)
theorem spec_HeaderSum.mono : ∀ a0 k, LeO (spec_HeaderSum.f k a0) (spec_HeaderSum.f (k + 1) a0) := by
 intro a0 k
 have ih0 := spec_HeaderSum.mono_l k
 unfold spec_HeaderSum.f
 repeat' first
   | (with_reducible first | exact ih0 _ _ _ | exact LeO.refl _ | exact LeO.none _ | refine LeO.ite ?_ ?_ | refine LeO.bind ?_ (fun _ => ?_))
   | exact ih0 _ _ _
   | exact LeO.none _
   | refine LeO.ite ?_ ?_
   | refine LeO.bind ?_ (fun _ => ?_)
theorem spec_HeaderSum.calls (k : Nat) (a0 : ByteArray) (r : Int) (w : World) (h : spec_HeaderSum.f k a0 = some r) :
  Calls Tryd.prog 19 #[.string a0] w fun e w' => e = .returned (.int .i64 r) ∧ Drawn0 w w' := by
 have H : ((spec_l5Banks.f a0).bind fun t441 => (if t441 = 0 then (some (-1)) else (spec_HeaderSum.l0 k a0 0 52))) = some r := h
 clear h
 replace H := Option.bind_eq_some_iff.mp H
 obtain ⟨t441, A20, H⟩ := H
 have A2 := Aside0.mk A20
 clear A20
 by_cases c3 : t441 = 0
 ·rw [if_pos c3] at H
  have c3b0 : (t441 == 0) = true := beq_iff_eq.mpr c3
  have c3b1 : (t441 != 0) = false := bne_eq_false_iff_eq.mpr c3
  clear c3
  obtain rfl := Option.some.inj H
  go_enter Tryd.func19, Tryd.ntmps19
  go_wp2_with (first | ((with_reducible refine gate_callee (f := 29) rfl ?_); refine goesL_ (some 6) rfl rfl Tryd.func29 (by kernel_rfl) rfl #[.string a0] rfl q43_ ?_; (with_reducible refine (spec_l5Banks.calls a0 t441 _ A2.out).mono ?_); rintro e w' ⟨rfl, ⟨nd, rfl⟩⟩; refine ⟨_, rfl, ?_⟩))
  go_ret
  exact ⟨q60_, q69_⟩
 ·rw [if_neg c3] at H
  have c3b0 : (t441 == 0) = false := beq_eq_false_iff_ne.mpr c3
  have c3b1 : (t441 != 0) = true := bne_iff_ne.mpr c3
  have H' := Aside0.mk H
  clear H
  go_enter Tryd.func19, Tryd.ntmps19
  go_wp2_with (first | ((with_reducible refine gate_callee (f := 29) rfl ?_); refine goesL_ (some 6) rfl rfl Tryd.func29 (by kernel_rfl) rfl #[.string a0] rfl q43_ ?_; (with_reducible refine (spec_l5Banks.calls a0 t441 _ A2.out).mono ?_); rintro e w' ⟨rfl, ⟨nd, rfl⟩⟩; refine ⟨_, rfl, ?_⟩))
  go_loopg [3, 4] k (fun kq v3 v4 w' => ∃ (x3_1 : Int) (x4_1 : Int), v3 = .int .i64 x3_1 ∧ v4 = .int .i64 x4_1 ∧ Aside0 (spec_HeaderSum.l0 kq a0 x3_1 x4_1 = some r) ∧ Aside0 (kq ≤ k) ∧ Drawn0 w w')
  case atStart => exact ⟨(0), (52), q60_, q60_, H', ⟨Nat.le_refl _⟩, q69_⟩
  case round =>
   clear H'
   try clear c1
   try clear c2
   try clear p2
   try clear c3
   try clear c3b0
   try clear c3b1
   obtain ⟨x3_1, x4_1, rfl, rfl, HA, HK1, ⟨m1, rfl⟩⟩ := hrel
   cases gk with
   | zero => exact absurd HA.out (by simp [spec_HeaderSum.l0])
   | succ k1 =>
    have H := HA.out
    clear HA
    simp only [spec_HeaderSum.l0] at H
    by_cases c4 : x4_1 < 77
    ·rw [if_pos c4] at H
     have c4b0 : decide (x4_1 < 77) = true := decide_eq_true c4
     clear c4
     by_cases c5 : 0 ≤ x4_1
     ·rw [if_pos c5] at H
      have c5b0 : decide (0 ≤ x4_1) = true := decide_eq_true c5
      clear c5
      by_cases c6 : x4_1 < (a0.size : Int)
      ·rw [if_pos c6] at H
       have c6b0 : decide (x4_1 < (a0.size : Int)) = true := decide_eq_true c6
       clear c6
       have H' := Aside0.mk H
       clear H
       have p7 : 0 ≤ (x4_1 : Int) := of_decide_eq_true q71_
       have q7 : x4_1 < (a0.size : Int) := of_decide_eq_true q71_
       have hx7 := bt_at a0 x4_1
       replace p7 := eq_true p7
       replace q7 := eq_true q7
       go_wp2
       go_roundg k1
       case measure => have := HK1.out; omega
       case rel => exact ⟨(wrap64 ((wrap64 (x3_1 - (wrap64 (bt a0 x4_1)))) - 1)), (wrap64 (x4_1 + 1)), q60_, q60_, H', ⟨by have := HK1.out; omega⟩, q69_⟩
      ·rw [if_neg c6] at H
       exact absurd H (by simp)
     ·rw [if_neg c5] at H
      exact absurd H (by simp)
    ·rw [if_neg c4] at H
     have c4b0 : decide (x4_1 < 77) = false := decide_eq_false c4
     clear c4
     obtain rfl := Option.some.inj H
     go_wp2
     go_ret
     exact ⟨q60_, q69_⟩
def spec_WholeSum.l0 : Nat → ByteArray → Int → Int → Option (Int)
 | 0, _, _, _ => none
 | k + 1, x0, x3, x4 => if x4 < (x0.size : Int) then (if x4 = 78 then (spec_WholeSum.l0 k x0 x3 (wrap64 (x4 + 1))) else (if x4 = 79 then (spec_WholeSum.l0 k x0 x3 (wrap64 (x4 + 1))) else (if 0 ≤ x4 then (spec_WholeSum.l0 k x0 (wrap64 (x3 + (wrap64 (bt x0 x4)))) (wrap64 (x4 + 1))) else (none)))) else (some (Int.tmod x3 65536))
def spec_WholeSum.f (k : Nat) (a0 : ByteArray) : Option (Int) := (spec_l5Banks.f a0).bind fun t442 => (if t442 = 0 then (some (-1)) else (spec_WholeSum.l0 k a0 0 0))
theorem spec_WholeSum.mono_l : ∀ k, (∀ y0 y1 y2, LeO (spec_WholeSum.l0 k y0 y1 y2) (spec_WholeSum.l0 (k + 1) y0 y1 y2))
 | 0 => fun _ _ _ r h => by simp [spec_WholeSum.l0] at h
 | k + 1 => by
  have ih0 := spec_WholeSum.mono_l k
  ·intro y0 y1 y2
   unfold spec_WholeSum.l0
   repeat' first
   | (with_reducible first | exact ih0 _ _ _ | exact LeO.refl _ | exact LeO.none _ | refine LeO.ite ?_ ?_ | refine LeO.bind ?_ (fun _ => ?_))
   | exact ih0 _ _ _
   | exact LeO.none _
   | refine LeO.ite ?_ ?_
   | refine LeO.bind ?_ (fun _ => ?_)
theorem spec_WholeSum.mono : ∀ a0 k, LeO (spec_WholeSum.f k a0) (spec_WholeSum.f (k + 1) a0) := by
 intro a0 k
 have ih0 := spec_WholeSum.mono_l k
 unfold spec_WholeSum.f
 repeat' first
   | (with_reducible first | exact ih0 _ _ _ | exact LeO.refl _ | exact LeO.none _ | refine LeO.ite ?_ ?_ | refine LeO.bind ?_ (fun _ => ?_))
   | exact ih0 _ _ _
   | exact LeO.none _
   | refine LeO.ite ?_ ?_
   | refine LeO.bind ?_ (fun _ => ?_)
theorem spec_WholeSum.calls (k : Nat) (a0 : ByteArray) (r : Int) (w : World) (h : spec_WholeSum.f k a0 = some r) :
  Calls Tryd.prog 21 #[.string a0] w fun e w' => e = .returned (.int .i64 r) ∧ Drawn0 w w' := by
 have H : ((spec_l5Banks.f a0).bind fun t442 => (if t442 = 0 then (some (-1)) else (spec_WholeSum.l0 k a0 0 0))) = some r := h
 clear h
 replace H := Option.bind_eq_some_iff.mp H
 obtain ⟨t442, A20, H⟩ := H
 have A2 := Aside0.mk A20
 clear A20
 by_cases c3 : t442 = 0
 ·rw [if_pos c3] at H
  have c3b0 : (t442 == 0) = true := beq_iff_eq.mpr c3
  have c3b1 : (t442 != 0) = false := bne_eq_false_iff_eq.mpr c3
  clear c3
  obtain rfl := Option.some.inj H
  go_enter Tryd.func21, Tryd.ntmps21
  go_wp2_with (first | ((with_reducible refine gate_callee (f := 29) rfl ?_); refine goesL_ (some 6) rfl rfl Tryd.func29 (by kernel_rfl) rfl #[.string a0] rfl q43_ ?_; (with_reducible refine (spec_l5Banks.calls a0 t442 _ A2.out).mono ?_); rintro e w' ⟨rfl, ⟨nd, rfl⟩⟩; refine ⟨_, rfl, ?_⟩))
  go_ret
  exact ⟨q60_, q69_⟩
 ·rw [if_neg c3] at H
  have c3b0 : (t442 == 0) = false := beq_eq_false_iff_ne.mpr c3
  have c3b1 : (t442 != 0) = true := bne_iff_ne.mpr c3
  have H' := Aside0.mk H
  clear H
  go_enter Tryd.func21, Tryd.ntmps21
  go_wp2_with (first | ((with_reducible refine gate_callee (f := 29) rfl ?_); refine goesL_ (some 6) rfl rfl Tryd.func29 (by kernel_rfl) rfl #[.string a0] rfl q43_ ?_; (with_reducible refine (spec_l5Banks.calls a0 t442 _ A2.out).mono ?_); rintro e w' ⟨rfl, ⟨nd, rfl⟩⟩; refine ⟨_, rfl, ?_⟩))
  go_loopg [3, 4] k (fun kq v3 v4 w' => ∃ (x3_1 : Int) (x4_1 : Int), v3 = .int .i64 x3_1 ∧ v4 = .int .i64 x4_1 ∧ Aside0 (spec_WholeSum.l0 kq a0 x3_1 x4_1 = some r) ∧ Aside0 (kq ≤ k) ∧ Drawn0 w w')
  case atStart => exact ⟨(0), (0), q60_, q60_, H', ⟨Nat.le_refl _⟩, q69_⟩
  case round =>
   clear H'
   try clear c2
   try clear p2
   try clear c3
   try clear c3b0
   try clear c3b1
   obtain ⟨x3_1, x4_1, rfl, rfl, HA, HK1, ⟨m1, rfl⟩⟩ := hrel
   cases gk with
   | zero => exact absurd HA.out (by simp [spec_WholeSum.l0])
   | succ k1 =>
    have H := HA.out
    clear HA
    simp only [spec_WholeSum.l0] at H
    by_cases c4 : x4_1 < (a0.size : Int)
    ·rw [if_pos c4] at H
     have c4b0 : decide (x4_1 < (a0.size : Int)) = true := decide_eq_true c4
     clear c4
     by_cases c5 : x4_1 = 78
     ·rw [if_pos c5] at H
      have c5b0 : (x4_1 == 78) = true := beq_iff_eq.mpr c5
      have c5b1 : (x4_1 != 78) = false := bne_eq_false_iff_eq.mpr c5
      clear c5
      have H' := Aside0.mk H
      clear H
      go_wp2
      go_roundg k1
      case measure => have := HK1.out; omega
      case rel => exact ⟨(x3_1), (wrap64 (x4_1 + 1)), q60_, q60_, H', ⟨by have := HK1.out; omega⟩, q69_⟩
     ·rw [if_neg c5] at H
      have c5b0 : (x4_1 == 78) = false := beq_eq_false_iff_ne.mpr c5
      have c5b1 : (x4_1 != 78) = true := bne_iff_ne.mpr c5
      by_cases c6 : x4_1 = 79
      ·rw [if_pos c6] at H
       have c6b0 : (x4_1 == 79) = true := beq_iff_eq.mpr c6
       have c6b1 : (x4_1 != 79) = false := bne_eq_false_iff_eq.mpr c6
       clear c6
       have H' := Aside0.mk H
       clear H
       go_wp2
       go_roundg k1
       case measure => have := HK1.out; omega
       case rel => exact ⟨(x3_1), (wrap64 (x4_1 + 1)), q60_, q60_, H', ⟨by have := HK1.out; omega⟩, q69_⟩
      ·rw [if_neg c6] at H
       have c6b0 : (x4_1 == 79) = false := beq_eq_false_iff_ne.mpr c6
       have c6b1 : (x4_1 != 79) = true := bne_iff_ne.mpr c6
       by_cases c7 : 0 ≤ x4_1
       ·rw [if_pos c7] at H
        have c7b0 : decide (0 ≤ x4_1) = true := decide_eq_true c7
        clear c7
        have H' := Aside0.mk H
        clear H
        have p8 : 0 ≤ (x4_1 : Int) := of_decide_eq_true q71_
        have q8 : x4_1 < (a0.size : Int) := of_decide_eq_true q71_
        have hx8 := bt_at a0 x4_1
        replace p8 := eq_true p8
        replace q8 := eq_true q8
        go_wp2
        go_roundg k1
        case measure => have := HK1.out; omega
        case rel => exact ⟨(wrap64 (x3_1 + (wrap64 (bt a0 x4_1)))), (wrap64 (x4_1 + 1)), q60_, q60_, H', ⟨by have := HK1.out; omega⟩, q69_⟩
       ·rw [if_neg c7] at H
        exact absurd H (by simp)
    ·rw [if_neg c4] at H
     have c4b0 : decide (x4_1 < (a0.size : Int)) = false := decide_eq_false c4
     clear c4
     obtain rfl := Option.some.inj H
     go_wp2
     go_ret
     exact ⟨q60_, q69_⟩
def spec_l12Title.l0 : Nat → ByteArray → Int → Option (Bool)
 | 0, _, _ => none
 | k + 1, x0, x3 => if x3 < (x0.size : Int) then (if 0 ≤ x3 then (if (bt x0 x3) < 32 then (some false) else (if (bt x0 x3) > 126 then (some false) else (spec_l12Title.l0 k x0 (wrap64 (x3 + 1))))) else (none)) else (some (decide ((x0.size : Int) ≤ 15)))
def spec_l12Title.f (k : Nat) (a0 : ByteArray) : Option (Bool) := spec_l12Title.l0 k a0 0
theorem spec_l12Title.mono_l : ∀ k, (∀ y0 y1, LeO (spec_l12Title.l0 k y0 y1) (spec_l12Title.l0 (k + 1) y0 y1))
 | 0 => fun _ _ r h => by simp [spec_l12Title.l0] at h
 | k + 1 => by
  have ih0 := spec_l12Title.mono_l k
  ·intro y0 y1
   unfold spec_l12Title.l0
   repeat' first
   | (with_reducible first | exact ih0 _ _ | exact LeO.refl _ | exact LeO.none _ | refine LeO.ite ?_ ?_ | refine LeO.bind ?_ (fun _ => ?_))
   | exact ih0 _ _
   | exact LeO.none _
   | refine LeO.ite ?_ ?_
   | refine LeO.bind ?_ (fun _ => ?_)
theorem spec_l12Title.mono : ∀ a0 k, LeO (spec_l12Title.f k a0) (spec_l12Title.f (k + 1) a0) := by
 intro a0 k
 have ih0 := spec_l12Title.mono_l k
 unfold spec_l12Title.f
 repeat' first
   | (with_reducible first | exact ih0 _ _ | exact LeO.refl _ | exact LeO.none _ | refine LeO.ite ?_ ?_ | refine LeO.bind ?_ (fun _ => ?_))
   | exact ih0 _ _
   | exact LeO.none _
   | refine LeO.ite ?_ ?_
   | refine LeO.bind ?_ (fun _ => ?_)
theorem spec_l12Title.calls (k : Nat) (a0 : ByteArray) (r : Bool) (w : World) (h : spec_l12Title.f k a0 = some r) :
  Calls Tryd.prog 30 #[.string a0] w fun e w' => e = .returned (.bool r) ∧ Drawn0 w w' := by
 have H : (spec_l12Title.l0 k a0 0) = some r := h
 clear h
 have H' := Aside0.mk H
 clear H
 go_enter Tryd.func30, Tryd.ntmps30
 go_wp2
 go_loopg [3] k (fun kq v3 w' => ∃ (x3_1 : Int), v3 = .int .i64 x3_1 ∧ Aside0 (spec_l12Title.l0 kq a0 x3_1 = some r) ∧ Aside0 (kq ≤ k) ∧ Drawn0 w w')
 case atStart => exact ⟨(0), q60_, H', ⟨Nat.le_refl _⟩, q69_⟩
 case round =>
  clear H'
  obtain ⟨x3_1, rfl, HA, HK1, ⟨m1, rfl⟩⟩ := hrel
  cases gk with
  | zero => exact absurd HA.out (by simp [spec_l12Title.l0])
  | succ k1 =>
   have H := HA.out
   clear HA
   simp only [spec_l12Title.l0] at H
   by_cases c2 : x3_1 < (a0.size : Int)
   ·rw [if_pos c2] at H
    have c2b0 : decide (x3_1 < (a0.size : Int)) = true := decide_eq_true c2
    clear c2
    by_cases c3 : 0 ≤ x3_1
    ·rw [if_pos c3] at H
     have c3b0 : decide (0 ≤ x3_1) = true := decide_eq_true c3
     clear c3
     by_cases c5 : (bt a0 x3_1) < 32
     ·rw [if_pos c5] at H
      have c5b0 : decide ((bt a0 x3_1) < 32) = true := decide_eq_true c5
      clear c5
      obtain rfl := Option.some.inj H
      have p4 : 0 ≤ (x3_1 : Int) := of_decide_eq_true q71_
      have q4 : x3_1 < (a0.size : Int) := of_decide_eq_true q71_
      have hx4 := bt_at a0 x3_1
      replace p4 := eq_true p4
      replace q4 := eq_true q4
      go_wp2
      go_ret
      exact ⟨q60_, q69_⟩
     ·rw [if_neg c5] at H
      have c5b0 : decide ((bt a0 x3_1) < 32) = false := decide_eq_false c5
      clear c5
      by_cases c7 : (bt a0 x3_1) > 126
      ·rw [if_pos c7] at H
       have c7b0 : decide (126 < (bt a0 x3_1)) = true := decide_eq_true c7
       clear c7
       obtain rfl := Option.some.inj H
       have p4 : 0 ≤ (x3_1 : Int) := of_decide_eq_true q71_
       have q4 : x3_1 < (a0.size : Int) := of_decide_eq_true q71_
       have hx4 := bt_at a0 x3_1
       replace p4 := eq_true p4
       replace q4 := eq_true q4
       have p6 : 0 ≤ (x3_1 : Int) := of_decide_eq_true q71_
       have q6 : x3_1 < (a0.size : Int) := of_decide_eq_true q71_
       have hx6 := bt_at a0 x3_1
       replace p6 := eq_true p6
       replace q6 := eq_true q6
       go_wp2
       go_ret
       exact ⟨q60_, q69_⟩
      ·rw [if_neg c7] at H
       have c7b0 : decide (126 < (bt a0 x3_1)) = false := decide_eq_false c7
       clear c7
       have H' := Aside0.mk H
       clear H
       have p4 : 0 ≤ (x3_1 : Int) := of_decide_eq_true q71_
       have q4 : x3_1 < (a0.size : Int) := of_decide_eq_true q71_
       have hx4 := bt_at a0 x3_1
       replace p4 := eq_true p4
       replace q4 := eq_true q4
       have p6 : 0 ≤ (x3_1 : Int) := of_decide_eq_true q71_
       have q6 : x3_1 < (a0.size : Int) := of_decide_eq_true q71_
       have hx6 := bt_at a0 x3_1
       replace p6 := eq_true p6
       replace q6 := eq_true q6
       go_wp2
       go_roundg k1
       case measure => have := HK1.out; omega
       case rel => exact ⟨(wrap64 (x3_1 + 1)), q60_, H', ⟨by have := HK1.out; omega⟩, q69_⟩
    ·rw [if_neg c3] at H
     exact absurd H (by simp)
   ·rw [if_neg c2] at H
    have c2b0 : decide (x3_1 < (a0.size : Int)) = false := decide_eq_false c2
    clear c2
    obtain rfl := Option.some.inj H
    go_wp2
    go_ret
    exact ⟨q60_, q69_⟩
end Go.Proofs.YtcohcndliaaacaaDoor.QFnFixed
