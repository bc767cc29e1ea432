/- The program's DiffOf, walked. The conditions: what is built takes at most 2^47 bytes. -/
import Derived.Test.YtcohcndliaaacaaLibB
import Derived.Test.YtcohcndliaaacaaLibX
import Derived.Test.YtcohcndliaaacaaLibG
namespace Go.Proofs.Ytcohcndliaaacaa.LibHD
open Go.RowKit Go.Proofs.YtcohcndliaaacaaW.PrintWords Go.Proofs.YtcohcndliaaacaaW.PrintLast Go.Proofs.YtcohcndliaaacaaW.PrintMore Go.Proofs.Ytcohcndliaaacaa.LibB Go.Proofs.Ytcohcndliaaacaa.LibG
attribute [local go_sem] max2_int min2_int max_two min_two max_three min_three max_four min_four
set_option linter.unusedVariables false
set_option linter.unusedSimpArgs false

theorem stepB {B : Nat} {w W W1 : World} (h : Below B w W) (hB : B ≤ w.heap.size) (hb : Below W.heap.size W W1) : Below B w W1 :=
  h.trans ⟨hb.os, hb.tape, hb.output, hb.size, fun i hi => hb.block i (Nat.lt_of_lt_of_le hi (Nat.le_trans hB h.size))⟩
theorem weakB {B B1 : Nat} {w W : World} (h : Below B w W) (hB : B1 ≤ B) : Below B1 w W := ⟨h.os, h.tape, h.output, h.size, fun i hi => h.block i (Nat.lt_of_lt_of_le hi hB)⟩
theorem IsB_drew {B b : Nat} {x : ByteArray} {w : World} (h : IsB B b x w) : IsB B b x w.drew := h
/-- Does the byte at this place differ, or is there none in the first text? -/
def dfr (a0 a1 : ByteArray) (i : Int) : Bool := decide ((a0.size : Int) ≤ i) || bt a0 i != bt a1 i
set_option maxHeartbeats 8000000 in
set_option maxRecDepth 100000 in
theorem differs (a0 a1 : ByteArray) (pa pb : Nat) (i : Int) (h0 : 0 ≤ i) (h1 : i < (a1.size : Int)) (w : World) (ha : w.cell? ⟨pa, 0, none⟩ = some (.string a0)) (hb : w.cell? ⟨pb, 0, none⟩ = some (.string a1)) :
    Calls Try.prog 32 #[.int .i64 i, .pointer (some ⟨pa, 0, none⟩), .pointer (some ⟨pb, 0, none⟩)] w fun e w' => e = .returned (.bool (dfr a0 a1 i)) ∧ Drawn0 w w' := by
  have p0 := eq_true h0
  by_cases c : (a0.size : Int) ≤ i
  · have cb : decide ((a0.size : Int) ≤ i) = true := decide_eq_true c
    have hd : dfr a0 a1 i = true := by unfold dfr; rw [cb]; rfl
    clear c
    go_enter Try.func32, Try.ntmps32
    go_wp2
    go_quiet (fail)
    go_wp2
    go_ret
    exact ⟨by rw [hd]; rfl, ⟨_, rfl⟩⟩
  · have cb : decide ((a0.size : Int) ≤ i) = false := decide_eq_false c
    have q0 := eq_true (show i < (a0.size : Int) by omega)
    have q1 := eq_true h1
    have hx := bt_at a0 i
    have hy := bt_at a1 i
    clear c h1 h0
    go_enter Try.func32, Try.ntmps32
    go_wp2
    go_quiet (fail)
    go_wp2
    go_ret
    exact ⟨by unfold dfr; rw [cb]; first | rfl | simp, ⟨_, rfl⟩⟩
/-- How many bytes from place x8 on differ. -/
def impl_DiffOf.l1 : Nat → ByteArray → ByteArray → Int → Int → Option Int
  | 0, _, _, _, _ => none
  | k + 1, a0, a1, x8, x9 => if x8 + x9 < (a1.size : Int) then (if dfr a0 a1 (x8 + x9) = true then impl_DiffOf.l1 k a0 a1 x8 (x9 + 1) else some x9) else some x9
def impl_DiffOf.l0 : Nat → ByteArray → ByteArray → ByteArray → Int → Option (ByteArray × Bool)
  | 0, _, _, _, _ => none
  | k + 1, a0, a1, x7, x8 => if x8 < (a1.size : Int) then ((impl_DiffOf.l1 k a0 a1 x8 0).bind fun n => if n > 0 then ((impl_big.f k x8 3).bind fun t => (impl_big.f k n 2).bind fun u => if x7.size + (t.size + u.size + 20000) ≤ 140737488355328 then impl_DiffOf.l0 k a0 a1 (x7 ++ ((t ++ u) ++ a1.extract x8.toNat (x8 + n).toNat)) (x8 + (n + 1)) else none) else impl_DiffOf.l0 k a0 a1 x7 (x8 + (n + 1))) else ((impl_big.f k (a1.size : Int) 3).bind fun t => if x7.size + (3 + t.size) ≤ 140737488355328 then some (x7 ++ ((⟨#[69, 78, 68]⟩ : ByteArray) ++ t), true) else none)
def impl_DiffOf.f (k : Nat) (a0 : ByteArray) (a1 : ByteArray) : Option (ByteArray × Bool) := if (a0.size : Int) > 20000 then some ((⟨#[]⟩ : ByteArray), false) else if (a1.size : Int) > 20000 then some ((⟨#[]⟩ : ByteArray), false) else impl_DiffOf.l0 k a0 a1 (⟨#[68, 73, 70, 70]⟩ : ByteArray) 0
def impl_DiffOf.T12 : Bool × List (List Nat × List Nat) := (true, [([], []), ([0], [0]), ([], []), ([2, 1], [2]), ([1, 3], [1, 3]), ([], []), ([], []), ([], []), ([], []), ([7, 8], [7, 8]), ([5, 6, 9], [5, 6, 9]), ([4, 10], [4, 10]), ([11, 3], [11])])
def impl_DiffOf.B12 : List Nat := [0, 1, 0, 7, 15, 0, 0, 0, 0, 384, 992, 2047, 4095]
theorem impl_DiffOf.tab12 : rtab .any (opsOf Try.f11 12) = impl_DiffOf.T12 := by kernel_rfl
theorem impl_DiffOf.bits12 : waitsOk impl_DiffOf.T12.2 impl_DiffOf.B12 = true := by kernel_rfl
set_option maxHeartbeats 8000000 in
set_option maxRecDepth 100000 in
theorem impl_DiffOf.walk (k : Nat) (a0 : ByteArray) (a1 : ByteArray) (r1 : ByteArray) (r2 : Bool) (w : World) (h1 : ¬ (a0.size : Int) > 20000) (h2 : ¬ (a1.size : Int) > 20000) (h : impl_DiffOf.l0 k a0 a1 (⟨#[68, 73, 70, 70]⟩ : ByteArray) 0 = some (r1, r2)) :
    Calls Try.prog 11 #[.string a0, .string a1] w fun e w' => e = .returned (.tuple #[.string r1, .bool r2]) ∧ Below w.heap.size w w' := by
  have b1 : decide ((20000 : Int) < (a0.size : Int)) = false := decide_eq_false h1
  have b2 : decide ((20000 : Int) < (a1.size : Int)) = false := decide_eq_false h2
  obtain ⟨w1, hw1⟩ : ∃ w1, w1 = (w.alloc (.cells #[.string a0] 9)).alloc (.cells #[.string a1] 9) := ⟨_, rfl⟩
  have hs1 : w1.heap.size = w.heap.size + 1 + 1 := by rw [hw1]; simp
  have ca : w1.cell? ⟨w.heap.size, 0, none⟩ = some (.string a0) := by
    rw [Lib.cell_of_heap (cs := #[.string a0]) (T := 9) (fr := (0, 0)) (by rw [hw1, Lib.alloc_old _ _ _ (by simp)]; exact heap_alloc_new w _)]; rfl
  have cb : w1.cell? ⟨w.heap.size + 1, 0, none⟩ = some (.string a1) := by
    rw [Lib.cell_of_heap (cs := #[.string a1]) (T := 9) (fr := (0, 0)) (by rw [hw1]; have := heap_alloc_new (w.alloc (.cells #[.string a0] 9)) (.cells #[.string a1] 9); simpa using this)]; rfl
  have bw : Below w.heap.size w w1 := by rw [hw1]; exact ((Below.refl _ w).alloc (Nat.le_refl _) _).alloc (by simp) _
  have hI0 := fresh w1
  have hB0 : Below w1.heap.size w1 (w1.alloc (.cells #[.pointer none, .slice none 0 0] 50)) := (Below.refl _ w1).alloc (Nat.le_refl _) _
  rw [hs1] at hI0 hB0
  rw [hw1] at hI0 hB0
  have hsz0 : w.heap.size + 1 + 1 ≤ (((w.alloc (.cells #[.string a0] 9)).alloc (.cells #[.string a1] 9)).alloc (.cells #[.pointer none, .slice none 0 0] 50)).heap.size := by simp
  go_enter Try.func11, Try.ntmps11
  go_wp2_with (go_at_call 33; go_loud (refine (bld_string _ _ (⟨#[]⟩ : ByteArray) (⟨#[68, 73, 70, 70]⟩ : ByteArray) _ hI0 (by decide) hsz0).mono ?_); rintro e W1 ⟨rfl, HI, HB⟩)
  have HI := Aside0.mk HI
  have he : (⟨#[]⟩ : ByteArray) ++ (⟨#[68, 73, 70, 70]⟩ : ByteArray) = ⟨#[68, 73, 70, 70]⟩ := ByteArray.empty_append
  rw [he] at HI
  go_loopg [8] k (fun kq v8 w' => ∃ (x7 : ByteArray) (x8 : Int), v8 = .int .i64 x8 ∧ Aside0 (0 ≤ x8 ∧ x8 ≤ (a1.size : Int) + 1) ∧ Aside0 (impl_DiffOf.l0 kq a0 a1 x7 x8 = some (r1, r2)) ∧ Aside0 (kq ≤ k) ∧ Aside0 (IsB (w.heap.size + 1 + 1) (w.heap.size + 1 + 1) x7 w') ∧ Aside0 (Below (w.heap.size + 1 + 1) w1 w'))
  case atStart => exact ⟨(⟨#[68, 73, 70, 70]⟩ : ByteArray), 0, rfl, ⟨by omega⟩, ⟨h⟩, ⟨Nat.le_refl _⟩, HI, ⟨by rw [hw1]; exact hB0.trans HB⟩⟩
  case round =>
    clear HI
    obtain ⟨x7, x8, rfl, HX, HA, HK1, HI, HB⟩ := hrel
    cases gk with
    | zero => exact absurd HA.out (by simp [impl_DiffOf.l0])
    | succ k1 =>
      have H := HA.out
      clear HA
      simp only [impl_DiffOf.l0] at H
      have cb1 := (HB.out.cell (p := ⟨w.heap.size + 1, 0, none⟩) (show w.heap.size + 1 < w.heap.size + 1 + 1 by omega)).trans cb
      have ca1 := (HB.out.cell (p := ⟨w.heap.size, 0, none⟩) (show w.heap.size < w.heap.size + 1 + 1 by omega)).trans ca
      by_cases c3 : x8 < (a1.size : Int)
      · rw [if_pos c3] at H
        have c3b0 : decide (x8 < (a1.size : Int)) = true := decide_eq_true c3
        cases hn : impl_DiffOf.l1 k1 a0 a1 x8 0 with
        | none => rw [hn] at H; cases H
        | some n =>
        rw [hn, Option.bind_some] at H
        go_upto_block 2 with (fail)
        go_cut [8, 9] (fun v8 v9 wc => v8 = .int .i64 x8 ∧ v9 = .int .i64 n ∧ Aside0 (0 ≤ n ∧ x8 + n ≤ (a1.size : Int)) ∧ Aside0 (IsB (w.heap.size + 1 + 1) (w.heap.size + 1 + 1) x7 wc) ∧ Aside0 (Below (w.heap.size + 1 + 1) w1 wc))
        case first =>
          go_wp2
          go_loopg [9] k1 (fun kq v9 w' => ∃ (x9 : Int), v9 = .int .i64 x9 ∧ Aside0 (0 ≤ x9 ∧ x8 + x9 ≤ (a1.size : Int)) ∧ Aside0 (impl_DiffOf.l1 kq a0 a1 x8 x9 = some n) ∧ Aside0 (kq ≤ k1) ∧ Aside0 (IsB (w.heap.size + 1 + 1) (w.heap.size + 1 + 1) x7 w') ∧ Aside0 (Below (w.heap.size + 1 + 1) w1 w'))
          case atStart => exact ⟨0, rfl, ⟨by omega⟩, ⟨hn⟩, ⟨Nat.le_refl _⟩, HI, HB⟩
          case round =>
            clear HI HB
            obtain ⟨x9, rfl, HX9, HA9, HK9, HI, HB⟩ := hrel
            cases gk with
            | zero => exact absurd HA9.out (by simp [impl_DiffOf.l1])
            | succ k2 =>
              have H9 := HA9.out
              clear HA9
              simp only [impl_DiffOf.l1] at H9
              have cb2 := (HB.out.cell (p := ⟨w.heap.size + 1, 0, none⟩) (show w.heap.size + 1 < w.heap.size + 1 + 1 by omega)).trans cb
              have ca2 := (HB.out.cell (p := ⟨w.heap.size, 0, none⟩) (show w.heap.size < w.heap.size + 1 + 1 by omega)).trans ca
              have e8 : ∀ _ : Unit, wrap64 (x8 + x9) = x8 + x9 := fun _ => by have := HX9.out; have := HX.out; unfold wrap64; omega
              go_upto_region 9 with (fail)
              go_cut [9, 36] (fun v9 v36 wc => v9 = .int .i64 x9 ∧ v36 = .bool (decide (x8 + x9 < (a1.size : Int)) && dfr a0 a1 (x8 + x9)) ∧ Aside0 (IsB (w.heap.size + 1 + 1) (w.heap.size + 1 + 1) x7 wc) ∧ Aside0 (Below (w.heap.size + 1 + 1) w1 wc))
              case first =>
                have h89 : 0 ≤ x8 + x9 := by have := HX9.out; have := HX.out; omega
                clear H9 H hn
                by_cases c9 : (x8 + x9) < (a1.size : Int)
                · have c9b : decide (x8 + x9 < (a1.size : Int)) = true := decide_eq_true c9
                  have c9w : decide (wrap64 (x8 + x9) < (a1.size : Int)) = true := by rw [e8 ()]; exact c9b
                  have c9i : decide (IntKind.i64.wrap (x8 + x9) < (a1.size : Int)) = true := by rw [i64_w, e8 ()]; exact c9b
                  go_wp2_with (go_at_call 32; (try rw [e8 ()]); refine (differs a0 a1 _ _ (x8 + x9) h89 c9 _ ca2 cb2).mono ?_; rintro e w2 ⟨rfl, ⟨m, rfl⟩⟩)
                  go_meet
                  case rel => exact ⟨rfl, by rw [c9b]; rfl, ⟨by repeat (first | exact HI.out | apply IsB.drewN | exact IsB.drew HI.out)⟩, ⟨by repeat (first | (with_reducible first | exact HB.out | apply below_alloc | apply pw_below_drewN | apply below_drew1) | exact HB.out)⟩⟩
                · have c9b : decide (x8 + x9 < (a1.size : Int)) = false := decide_eq_false c9
                  have c9w : decide (wrap64 (x8 + x9) < (a1.size : Int)) = false := by rw [e8 ()]; exact c9b
                  have c9i : decide (IntKind.i64.wrap (x8 + x9) < (a1.size : Int)) = false := by rw [i64_w, e8 ()]; exact c9b
                  clear c9
                  go_wp2
                  go_meet
                  case rel => exact ⟨rfl, by rw [c9b]; rfl, HI, HB⟩
              case rest =>
                clear HI HB
                obtain ⟨rfl, rfl, HI, HB⟩ := hcut
                cases hc9 : (decide (x8 + x9 < (a1.size : Int)) && dfr a0 a1 (x8 + x9)) with
                | true =>
                  simp only [Bool.and_eq_true, decide_eq_true_eq] at hc9
                  rw [if_pos hc9.1, if_pos hc9.2] at H9
                  go_wp2
                  go_roundg k2
                  case measure => have := HK9.out; omega
                  case rel => exact ⟨x9 + 1, by first | rfl | (congr 1; have := HX9.out; have := HX.out; have := hc9.1; unfold wrap64; omega), ⟨by have := HX9.out; have := hc9.1; omega⟩, ⟨H9⟩, ⟨by have := HK9.out; omega⟩, HI, HB⟩
                | false =>
                  have hn9 : x9 = n := by
                    by_cases c9 : (x8 + x9) < (a1.size : Int)
                    · rw [if_pos c9] at H9
                      rw [decide_eq_true c9, Bool.true_and] at hc9
                      rw [hc9, if_neg (by decide)] at H9
                      exact Option.some.inj H9
                    · rw [if_neg c9] at H9
                      exact Option.some.inj H9
                  go_wp2
                  go_meet
                  case rel => exact ⟨rfl, by rw [hn9], ⟨by have := HX9.out; omega⟩, HI, HB⟩
        case rest =>
          clear HI HB
          obtain ⟨rfl, rfl, HN, HI, HB⟩ := hcut
          have hx80 := HX.out.1
          have hn0 := HN.out
          have e9 : ∀ _ : Unit, wrap64 (x8 + wrap64 (n + 1)) = x8 + (n + 1) := fun _ => by unfold wrap64; omega
          by_cases c4 : n > 0
          · rw [if_pos c4] at H
            have c4b : decide ((0 : Int) < n) = true := decide_eq_true c4
            cases ht : impl_big.f k1 x8 3 with
            | none => rw [ht] at H; cases H
            | some t =>
            rw [ht, Option.bind_some] at H
            cases hu : impl_big.f k1 n 2 with
            | none => rw [hu] at H; cases H
            | some u =>
            rw [hu, Option.bind_some] at H
            by_cases c5 : x7.size + (t.size + u.size + 20000) ≤ 140737488355328
            rotate_left
            · rw [if_neg c5] at H; cases H
            rw [if_pos c5] at H
            obtain ⟨ji, hji⟩ : ∃ j_ : Int, wrap64 (x8 + n) = j_ := ⟨_, rfl⟩
            have hjiw : IntKind.i64.wrap (x8 + n) = ji := (i64_w _).trans hji
            have hj1 : ∀ _ : Unit, ji = x8 + n := fun _ => hji.symm.trans (by unfold wrap64; omega)
            have hse : (a1.extract x8.toNat ji.toNat).size ≤ 20000 := by rw [ByteArray.size_extract]; have := hj1 (); omega
            go_upto_region 12 with (fail)
            go_cut [8, 9] (fun v8 v9 wc => v8 = .int .i64 x8 ∧ v9 = .int .i64 n ∧ Aside0 (IsB (w.heap.size + 1 + 1) (w.heap.size + 1 + 1) (x7 ++ ((t ++ u) ++ a1.extract x8.toNat ji.toNat)) wc) ∧ Aside0 (Below (w.heap.size + 1 + 1) w1 wc))
            case first =>
              have p1 := eq_true hx80
              have p2 := eq_true (show x8 ≤ ji by have := hj1 (); omega)
              have p3 := eq_true (show ji ≤ (a1.size : Int) by have := hj1 (); omega)
              have p4 : (9223372036854775807 < t.size + u.size) = False := eq_false (by omega)
              have p5 : (9223372036854775807 < (t ++ u).size + (a1.extract x8.toNat ji.toNat).size) = False := eq_false (by rw [ByteArray.size_append]; omega)
              have p5e : (9223372036854775807 < t.size + u.size + (min ji.toNat a1.size - x8.toNat)) = False := eq_false (by rw [ByteArray.size_extract] at hse; omega)
              have p5f : (9223372036854775807 < t.size + u.size + (ji.toNat - x8.toNat)) = False := eq_false (by have := hj1 (); omega)
              have p6 : decide (0 ≤ x8) = true := decide_eq_true hx80
              have p7 : decide (x8 ≤ ji) = true := decide_eq_true (by have := hj1 (); omega)
              have p8 : decide (ji ≤ (a1.size : Int)) = true := decide_eq_true (by have := hj1 (); omega)
              clear H hn c4 hn0 hx80 hj1 e9 HN HX
              go_wp2
              have HI17 := Aside0.mk (IsB_drew HI.out)
              have HB17 := Aside0.mk (below_drew1 HB.out)
              clear HI HB
              refine start_ (n := 13) (S := fun w' => True) (ds := []) #[false, false, false, false, false, false, false, false, false, false, false, false, false] (by kernel_rfl) rfl rfl trivial (fun hHeld => ?_); refine with_tabW impl_DiffOf.tab12 impl_DiffOf.bits12 (fun HT_ HW_ => ?_)
              generalize wc.drew = w17 at HI17 HB17 hHeld ⊢
              refine pure_ (i := 0) (N := some 41) (v := ?_) (a' := ?_) #[true, false, false, false, false, false, false, false, false, false, false, false, false] rfl rfl (any_of HT_.out (by kernel_rfl)) (fun _ _ _ h => h) (Or.inl ⟨by rfl, ?_⟩) ?_ ?_
              rotate_left
              · intro w'
                go_simp
                with_reducible rfl
              rotate_left
              · simp only [Act.put, List.setIfInBounds_toArray, List.set_cons_zero, List.set_cons_succ, i64_w, i32_w]
                rfl
              refine pure_ (i := 2) (N := some 43) (v := ?_) (a' := ?_) #[true, false, true, false, false, false, false, false, false, false, false, false, false] rfl rfl (any_of HT_.out (by kernel_rfl)) (fun _ _ _ h => h) (Or.inl ⟨by rfl, ?_⟩) ?_ ?_
              rotate_left
              · intro w'
                go_simp
                with_reducible rfl
              rotate_left
              · simp only [Act.put, List.setIfInBounds_toArray, List.set_cons_zero, List.set_cons_succ, i64_w, i32_w]
                rfl
              refine pure_ (i := 6) (N := some 47) (v := ?_) (a' := ?_) #[true, false, true, false, false, false, true, false, false, false, false, false, false] rfl rfl (any_of HT_.out (by kernel_rfl)) (fun _ _ _ h => h) (Or.inl ⟨by rfl, ?_⟩) ?_ ?_
              rotate_left
              · intro w'
                go_simp
                with_reducible rfl
              rotate_left
              · simp only [Act.put, List.setIfInBounds_toArray, List.set_cons_zero, List.set_cons_succ, i64_w, i32_w]
                rfl
              refine pure_ (i := 7) (N := some 48) (v := ?_) (a' := ?_) #[true, false, true, false, false, false, true, true, false, false, false, false, false] rfl rfl (any_of HT_.out (by kernel_rfl)) (fun _ _ _ h => h) (Or.inl ⟨by rfl, ?_⟩) ?_ ?_
              rotate_left
              · intro w'
                go_simp
                with_reducible rfl
              rotate_left
              · simp only [Act.put, List.setIfInBounds_toArray, List.set_cons_zero, List.set_cons_succ, i64_w, i32_w]
                rfl
              refine pure_ (i := 8) (N := some 49) (v := ?_) (a' := ?_) #[true, false, true, false, false, false, true, true, true, false, false, false, false] rfl rfl (any_of HT_.out (by kernel_rfl)) (fun _ _ _ h => h) (Or.inl ⟨by rfl, ?_⟩) ?_ ?_
              rotate_left
              · intro w'
                go_simp
                with_reducible rfl
              rotate_left
              · simp only [Act.put, List.setIfInBounds_toArray, List.set_cons_zero, List.set_cons_succ, i64_w, i32_w]
                rfl
              refine inv_at [1, 3, 4, 5, 9, 10, 11, 12] (fun a0_ b a w' => a = putSel a0_ b [(1, 42, .string t), (3, 44, .string u), (4, 45, .string (t ++ u)), (5, 46, .string a1), (9, 50, .int .i64 ji), (10, 51, .string (a1.extract x8.toNat ji.toNat)), (11, 52, .string ((t ++ u) ++ a1.extract x8.toNat ji.toNat)), (12, 53, .tuple #[.int .i64 (((t ++ u) ++ a1.extract x8.toNat ji.toNat).size : Int), .nilIface])] ∧ (b 12 = false → IsB (w.heap.size + 1 + 1) (w.heap.size + 1 + 1) x7 w') ∧ Below (w.heap.size + 1 + 1) w1 w' ∧ (b 12 = true → IsB (w.heap.size + 1 + 1) (w.heap.size + 1 + 1) (x7 ++ ((t ++ u) ++ a1.extract x8.toNat ji.toNat)) w')) HT_.out HW_.out (by kernel_rfl) (by kernel_rfl) ?_ ?_ ?_
              · exact ⟨by simp only [putSel, Bool.false_eq_true, if_false], fun _ => HI17.out, HB17.out, fun h_ => absurd h_ (by decide)⟩
              · clear HI17 HB17
                refine steps_cons ?_ ?_
                · rintro b a w' ⟨ha, Q_HI, Q_HB, Q_HI2⟩ hb_ hon hoff
                  refine ⟨_, rfl, fun K hK => ?_⟩
                  have e41 : a.tmps[41]? = some (.int .i64 x8) := by rw [ha]; exact (putSel_off rfl).trans rfl
                  replace ha := Aside0.mk ha
                  have hd12 : b 12 = false := hoff 12 (by kernel_rfl)
                  refine goes_ Try.func34 (by kernel_rfl) rfl #[.int .i64 x8, .int .i64 3] (by rfl) rfl rfl (by first | (simp only [List.map_toArray, List.map_cons, List.map_nil, Act.eval, Array.getD_eq_getD_getElem?, Option.getD_some, e41]; done) | (simp only [List.map_toArray, List.map_cons, List.map_nil, Act.eval, Array.getD_eq_getD_getElem?, Option.getD_some, e41]; rfl)) ?_
                  with_reducible refine (impl_big.calls k1 x8 3 t _ ht).mono ?_
                  rintro e w18 ⟨rfl, hb⟩
                  refine ⟨_, rfl, ?_⟩
                  exact hK.out _ _ ⟨by rw [ha.out]; exact putSel_upk 0 hb_ rfl rfl rfl, fun _ => IsB.below (Q_HI hd12) hb, stepB Q_HB (Nat.le_of_eq hs1.symm) hb, fun h0_ => Bool.noConfusion (hd12.symm.trans ((up_ne (by decide)).symm.trans h0_))⟩
                refine steps_cons ?_ ?_
                · rintro b a w' ⟨ha, Q_HI, Q_HB, Q_HI2⟩ hb_ hon hoff
                  refine ⟨_, rfl, fun K hK => ?_⟩
                  have e43 : a.tmps[43]? = some (.int .i64 n) := by rw [ha]; exact (putSel_off rfl).trans rfl
                  replace ha := Aside0.mk ha
                  have hd12 : b 12 = false := hoff 12 (by kernel_rfl)
                  refine goes_ Try.func34 (by kernel_rfl) rfl #[.int .i64 n, .int .i64 2] (by rfl) rfl rfl (by first | (simp only [List.map_toArray, List.map_cons, List.map_nil, Act.eval, Array.getD_eq_getD_getElem?, Option.getD_some, e43]; done) | (simp only [List.map_toArray, List.map_cons, List.map_nil, Act.eval, Array.getD_eq_getD_getElem?, Option.getD_some, e43]; rfl)) ?_
                  with_reducible refine (impl_big.calls k1 n 2 u _ hu).mono ?_
                  rintro e w18 ⟨rfl, hb⟩
                  refine ⟨_, rfl, ?_⟩
                  exact hK.out _ _ ⟨by rw [ha.out]; exact putSel_upk 1 hb_ rfl rfl rfl, fun _ => IsB.below (Q_HI hd12) hb, stepB Q_HB (Nat.le_of_eq hs1.symm) hb, fun h0_ => Bool.noConfusion (hd12.symm.trans ((up_ne (by decide)).symm.trans h0_))⟩
                refine steps_cons ?_ ?_
                · rintro b a w' ⟨ha, Q_HI, Q_HB, Q_HI2⟩ hb_ hon hoff
                  refine ⟨_, rfl, fun K hK => ?_⟩
                  have e42 : a.tmps[42]? = some (.string t) := by rw [ha]; exact putSel_on (e := (1, 42, .string t)) 0 rfl rfl (hon 1 (by kernel_rfl)) rfl
                  have e44 : a.tmps[44]? = some (.string u) := by rw [ha]; exact putSel_on (e := (3, 44, .string u)) 1 rfl rfl (hon 3 (by kernel_rfl)) rfl
                  replace ha := Aside0.mk ha
                  have hd12 : b 12 = false := hoff 12 (by kernel_rfl)
                  refine value_ (w1 := w') (v := .string (t ++ u)) (by rfl) rfl ?_ ?_
                  · go_simp
                    (try simp only [i64_w])
                    try rfl
                  exact hK.out _ _ ⟨by rw [ha.out]; exact putSel_upk 2 hb_ rfl rfl rfl, fun _ => Q_HI hd12, Q_HB, fun h0_ => Bool.noConfusion (hd12.symm.trans ((up_ne (by decide)).symm.trans h0_))⟩
                refine steps_cons ?_ ?_
                · rintro b a w' ⟨ha, Q_HI, Q_HB, Q_HI2⟩ hb_ hon hoff
                  refine ⟨_, rfl, fun K hK => ?_⟩
                  have e3 : a.tmps[3]? = some (.pointer (some ⟨w.heap.size + 1, 0, none⟩)) := by rw [ha]; exact (putSel_off rfl).trans rfl
                  replace ha := Aside0.mk ha
                  have hd12 : b 12 = false := hoff 12 (by kernel_rfl)
                  have cbw := (Q_HB.cell (p := ⟨w.heap.size + 1, 0, none⟩) (show w.heap.size + 1 < w.heap.size + 1 + 1 by omega)).trans cb
                  refine value_ (w1 := w') (v := .string a1) (by rfl) rfl ?_ ?_
                  · go_simp
                    (try simp only [i64_w])
                    try rfl
                  exact hK.out _ _ ⟨by rw [ha.out]; exact putSel_upk 3 hb_ rfl rfl rfl, fun _ => Q_HI hd12, Q_HB, fun h0_ => Bool.noConfusion (hd12.symm.trans ((up_ne (by decide)).symm.trans h0_))⟩
                refine steps_cons ?_ ?_
                · rintro b a w' ⟨ha, Q_HI, Q_HB, Q_HI2⟩ hb_ hon hoff
                  refine ⟨_, rfl, fun K hK => ?_⟩
                  have e48 : a.tmps[48]? = some (.int .i64 x8) := by rw [ha]; exact (putSel_off rfl).trans rfl
                  have e49 : a.tmps[49]? = some (.int .i64 n) := by rw [ha]; exact (putSel_off rfl).trans rfl
                  replace ha := Aside0.mk ha
                  have hd12 : b 12 = false := hoff 12 (by kernel_rfl)
                  refine value_ (w1 := w') (v := .int .i64 ji) (by rfl) rfl ?_ ?_
                  · go_simp
                    (try simp only [i64_w])
                    all_goals (first | rfl | (rw [hji]) | (simp only [hji]) | (rw [hjiw]))
                  exact hK.out _ _ ⟨by rw [ha.out]; exact putSel_upk 4 hb_ rfl rfl rfl, fun _ => Q_HI hd12, Q_HB, fun h0_ => Bool.noConfusion (hd12.symm.trans ((up_ne (by decide)).symm.trans h0_))⟩
                refine steps_cons ?_ ?_
                · rintro b a w' ⟨ha, Q_HI, Q_HB, Q_HI2⟩ hb_ hon hoff
                  refine ⟨_, rfl, fun K hK => ?_⟩
                  have e47 : a.tmps[47]? = some (.int .i64 x8) := by rw [ha]; exact (putSel_off rfl).trans rfl
                  have e46 : a.tmps[46]? = some (.string a1) := by rw [ha]; exact putSel_on (e := (5, 46, .string a1)) 3 rfl rfl (hon 5 (by kernel_rfl)) rfl
                  have e50 : a.tmps[50]? = some (.int .i64 ji) := by rw [ha]; exact putSel_on (e := (9, 50, .int .i64 ji)) 4 rfl rfl (hon 9 (by kernel_rfl)) rfl
                  replace ha := Aside0.mk ha
                  have hd12 : b 12 = false := hoff 12 (by kernel_rfl)
                  refine value_ (w1 := w') (v := .string (a1.extract x8.toNat ji.toNat)) (by rfl) rfl ?_ ?_
                  · go_simp
                    (try simp only [i64_w])
                    try rfl
                  exact hK.out _ _ ⟨by rw [ha.out]; exact putSel_upk 5 hb_ rfl rfl rfl, fun _ => Q_HI hd12, Q_HB, fun h0_ => Bool.noConfusion (hd12.symm.trans ((up_ne (by decide)).symm.trans h0_))⟩
                refine steps_cons ?_ ?_
                · rintro b a w' ⟨ha, Q_HI, Q_HB, Q_HI2⟩ hb_ hon hoff
                  refine ⟨_, rfl, fun K hK => ?_⟩
                  have e45 : a.tmps[45]? = some (.string (t ++ u)) := by rw [ha]; exact putSel_on (e := (4, 45, .string (t ++ u))) 2 rfl rfl (hon 4 (by kernel_rfl)) rfl
                  have e51 : a.tmps[51]? = some (.string (a1.extract x8.toNat ji.toNat)) := by rw [ha]; exact putSel_on (e := (10, 51, .string (a1.extract x8.toNat ji.toNat))) 5 rfl rfl (hon 10 (by kernel_rfl)) rfl
                  replace ha := Aside0.mk ha
                  have hd12 : b 12 = false := hoff 12 (by kernel_rfl)
                  refine value_ (w1 := w') (v := .string ((t ++ u) ++ a1.extract x8.toNat ji.toNat)) (by rfl) rfl ?_ ?_
                  · go_simp
                    (try simp only [i64_w])
                    try rfl
                  exact hK.out _ _ ⟨by rw [ha.out]; exact putSel_upk 6 hb_ rfl rfl rfl, fun _ => Q_HI hd12, Q_HB, fun h0_ => Bool.noConfusion (hd12.symm.trans ((up_ne (by decide)).symm.trans h0_))⟩
                refine steps_cons ?_ ?_
                · rintro b a w' ⟨ha, Q_HI, Q_HB, Q_HI2⟩ hb_ hon hoff
                  refine ⟨_, rfl, fun K hK => ?_⟩
                  have e7 : a.tmps[7]? = some (.pointer (some ⟨w.heap.size + 1 + 1, 0, none⟩)) := by rw [ha]; exact (putSel_off rfl).trans rfl
                  have e52 : a.tmps[52]? = some (.string ((t ++ u) ++ a1.extract x8.toNat ji.toNat)) := by rw [ha]; exact putSel_on (e := (11, 52, .string ((t ++ u) ++ a1.extract x8.toNat ji.toNat))) 6 rfl rfl (hon 11 (by kernel_rfl)) rfl
                  replace ha := Aside0.mk ha
                  refine goes_ Try.func33 (by kernel_rfl) rfl #[.pointer (some ⟨w.heap.size + 1 + 1, 0, none⟩), .string ((t ++ u) ++ a1.extract x8.toNat ji.toNat)] (by rfl) rfl rfl (by first | (simp only [List.map_toArray, List.map_cons, List.map_nil, Act.eval, Array.getD_eq_getD_getElem?, Option.getD_some, e7, e52]; done) | (simp only [List.map_toArray, List.map_cons, List.map_nil, Act.eval, Array.getD_eq_getD_getElem?, Option.getD_some, e7, e52]; rfl)) ?_
                  with_reducible refine (bld_string _ _ x7 ((t ++ u) ++ a1.extract x8.toNat ji.toNat) _ (Q_HI hb_) (by rw [ByteArray.size_append, ByteArray.size_append]; omega) (Nat.le_trans (Nat.le_of_eq hs1.symm) Q_HB.size)).mono ?_
                  rintro e w18 ⟨rfl, hI4, hB4⟩
                  refine ⟨_, rfl, ?_⟩
                  exact hK.out _ _ ⟨by rw [ha.out]; exact putSel_upk 7 hb_ rfl rfl rfl, fun h0_ => Bool.noConfusion ((up_self b 12).symm.trans h0_), Q_HB.trans hB4, fun _ => hI4⟩
                exact steps_nil
              rintro b a w23 hall ⟨ha, Q_HI, Q_HB, Q_HI2⟩
              have hb1_ := hall 1 (by kernel_rfl)
              have hb3_ := hall 3 (by kernel_rfl)
              have hb4_ := hall 4 (by kernel_rfl)
              have hb5_ := hall 5 (by kernel_rfl)
              have hb9_ := hall 9 (by kernel_rfl)
              have hb10_ := hall 10 (by kernel_rfl)
              have hb11_ := hall 11 (by kernel_rfl)
              have hb12_ := hall 12 (by kernel_rfl)
              subst ha
              simp only [putSel, hb1_, hb3_, hb4_, hb5_, hb9_, hb10_, hb11_, hb12_, if_true, Act.put, List.setIfInBounds_toArray, List.set_cons_zero, List.set_cons_succ]
              try go_wp2
              go_meet
              case rel => exact ⟨rfl, rfl, ⟨Q_HI2 hb12_⟩, ⟨Q_HB⟩⟩
            case rest =>
              clear HI HB
              obtain ⟨rfl, rfl, HI, HB⟩ := hcut
              rw [show (x8 + n).toNat = ji.toNat by rw [hj1 ()]] at H
              go_wp2
              go_roundg k1
              case measure => have := HK1.out; omega
              case rel => exact ⟨_, x8 + (n + 1), (by first | rfl | (simp only [e9 ()]; done) | (rw [e9 ()]) | (congr 1; exact e9 ())), ⟨by omega⟩, ⟨H⟩, ⟨by have := HK1.out; omega⟩, HI, HB⟩
          · rw [if_neg c4] at H
            have c4b : decide ((0 : Int) < n) = false := decide_eq_false c4
            clear c4
            go_wp2
            go_roundg k1
            case measure => have := HK1.out; omega
            case rel => exact ⟨x7, x8 + (n + 1), (by first | rfl | (simp only [e9 ()]; done) | (rw [e9 ()]) | (congr 1; exact e9 ())), ⟨by omega⟩, ⟨H⟩, ⟨by have := HK1.out; omega⟩, HI, HB⟩
      · rw [if_neg c3] at H
        have c3b0 : decide (x8 < (a1.size : Int)) = false := decide_eq_false c3
        cases ht : impl_big.f k1 (a1.size : Int) 3 with
        | none => rw [ht] at H; cases H
        | some t =>
        rw [ht, Option.bind_some] at H
        by_cases c5 : x7.size + (3 + t.size) ≤ 140737488355328
        rotate_left
        · rw [if_neg c5] at H; cases H
        rw [if_pos c5] at H
        simp only [Option.some.injEq, Prod.mk.injEq] at H
        obtain ⟨rfl, rfl⟩ := H
        have c6 : (9223372036854775807 < 3 + t.size) = False := eq_false (by omega)
        go_wp2_with (first | (go_at_call 34; refine (impl_big.calls k1 (a1.size : Int) 3 t _ ht).mono ?_; rintro e w2 ⟨rfl, hb2⟩; have hI2 := HI.out.below hb2; have hb3 : Below (w.heap.size + 1 + 1) w1 w2 := stepB HB.out (Nat.le_of_eq hs1.symm) hb2; have hs2 : w.heap.size + 1 + 1 ≤ w2.heap.size := Nat.le_trans (Nat.le_of_eq hs1.symm) hb3.size) | (go_at_call 33; refine (bld_string _ _ x7 ((⟨#[69, 78, 68]⟩ : ByteArray) ++ t) _ hI2 (by rw [ByteArray.size_append]; exact c5) hs2).mono ?_; rintro e w3 ⟨rfl, hI3, hb4⟩; have hs3 : w.heap.size + 1 + 1 ≤ w3.heap.size := Nat.le_trans hs2 hb4.size) | (go_at_call 35; refine (bld_text _ _ _ _ hI3 hs3).mono ?_; rintro e w4 ⟨rfl, hI4, hb5⟩))
        go_ret2
        exact ⟨rfl, bw.trans (weakB (hb3.trans (hb4.trans hb5)) (by omega))⟩
theorem impl_DiffOf.mono_l1 : ∀ (k : Nat) (a0 a1 : ByteArray) (x8 x9 : Int), LeO (impl_DiffOf.l1 k a0 a1 x8 x9) (impl_DiffOf.l1 (k + 1) a0 a1 x8 x9)
  | 0 => fun _ _ _ _ r h => by simp [impl_DiffOf.l1] at h
  | k + 1 => fun a0 a1 x8 x9 => by
    have ih := impl_DiffOf.mono_l1 k
    unfold impl_DiffOf.l1
    repeat' first
      | (with_reducible exact ih _ _ _ _)
      | (with_reducible exact LeO.refl _)
      | (with_reducible refine LeO.ite ?_ ?_)
theorem impl_DiffOf.mono_l0 : ∀ (k : Nat) (a0 a1 x7 : ByteArray) (x8 : Int), LeO (impl_DiffOf.l0 k a0 a1 x7 x8) (impl_DiffOf.l0 (k + 1) a0 a1 x7 x8)
  | 0 => fun _ _ _ _ r h => by simp [impl_DiffOf.l0] at h
  | k + 1 => fun a0 a1 x7 x8 => by
    have ih := impl_DiffOf.mono_l0 k
    unfold impl_DiffOf.l0
    repeat' first
      | (with_reducible exact ih _ _ _ _)
      | (with_reducible exact impl_DiffOf.mono_l1 _ _ _ _ _)
      | (with_reducible exact impl_big.mono _ _ _)
      | (with_reducible exact LeO.refl _)
      | (with_reducible exact LeO.none _)
      | (with_reducible refine LeO.ite ?_ ?_)
      | (with_reducible refine LeO.bind ?_ (fun _ => ?_))
theorem impl_DiffOf.mono : ∀ a0 a1 k, LeO (impl_DiffOf.f k a0 a1) (impl_DiffOf.f (k + 1) a0 a1) := by
  intro a0 a1 k
  unfold impl_DiffOf.f
  repeat' first
    | (with_reducible exact impl_DiffOf.mono_l0 _ _ _ _ _)
    | (with_reducible exact LeO.refl _)
    | (with_reducible refine LeO.ite ?_ ?_)
set_option maxHeartbeats 8000000 in
set_option maxRecDepth 100000 in
theorem impl_DiffOf.over0 (a0 : ByteArray) (a1 : ByteArray) (w : World) (h1 : (a0.size : Int) > 20000) :
    Calls Try.prog 11 #[.string a0, .string a1] w fun e w' => e = .returned (.tuple #[.string (⟨#[]⟩ : ByteArray), .bool false]) ∧ Below w.heap.size w w' := by
  have b1 : decide ((20000 : Int) < (a0.size : Int)) = true := decide_eq_true h1
  clear h1
  go_enter Try.func11, Try.ntmps11
  go_wp2
  go_ret2
  exact ⟨rfl, ((Below.refl _ w).alloc (Nat.le_refl _) _).alloc (by simp) _⟩
set_option maxHeartbeats 8000000 in
set_option maxRecDepth 100000 in
theorem impl_DiffOf.over1 (a0 : ByteArray) (a1 : ByteArray) (w : World) (h1 : ¬ (a0.size : Int) > 20000) (h2 : (a1.size : Int) > 20000) :
    Calls Try.prog 11 #[.string a0, .string a1] w fun e w' => e = .returned (.tuple #[.string (⟨#[]⟩ : ByteArray), .bool false]) ∧ Below w.heap.size w w' := by
  have b1 : decide ((20000 : Int) < (a0.size : Int)) = false := decide_eq_false h1
  have b2 : decide ((20000 : Int) < (a1.size : Int)) = true := decide_eq_true h2
  clear h1 h2
  go_enter Try.func11, Try.ntmps11
  go_wp2
  go_ret2
  exact ⟨rfl, ((Below.refl _ w).alloc (Nat.le_refl _) _).alloc (by simp) _⟩
theorem impl_DiffOf.calls (k : Nat) (a0 : ByteArray) (a1 : ByteArray) (r1 : ByteArray) (r2 : Bool) (w : World) (h : impl_DiffOf.f k a0 a1 = some (r1, r2)) :
    Calls Try.prog 11 #[.string a0, .string a1] w fun e w' => e = .returned (.tuple #[.string r1, .bool r2]) ∧ Below w.heap.size w w' := by
  unfold impl_DiffOf.f at h
  by_cases h1 : (a0.size : Int) > 20000
  · rw [if_pos h1] at h
    simp only [Option.some.injEq, Prod.mk.injEq] at h
    obtain ⟨rfl, rfl⟩ := h
    exact impl_DiffOf.over0 a0 a1 w h1
  rw [if_neg h1] at h
  by_cases h2 : (a1.size : Int) > 20000
  · rw [if_pos h2] at h
    simp only [Option.some.injEq, Prod.mk.injEq] at h
    obtain ⟨rfl, rfl⟩ := h
    exact impl_DiffOf.over1 a0 a1 w h1 h2
  rw [if_neg h2] at h
  exact impl_DiffOf.walk k a0 a1 r1 r2 w h1 h2 h
end Go.Proofs.Ytcohcndliaaacaa.LibHD
