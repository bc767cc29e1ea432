/- The program's filled, walked: the text with arguments in the place of marks, as it is built up byte by byte. The conditions: the list is read where it lies; what is built takes at most 2^47 bytes. -/
import Derived.Test.YtahibkfcohajcaaLibB
import Derived.Test.YtahibkfcohajcaaLibX
namespace Go.Proofs.Ytahibkfcohajcaa.LibHF
open Go.RowKit Go.Proofs.YtahibkfcohajcaaW.PrintWords Go.Proofs.YtahibkfcohajcaaW.PrintLast Go.Proofs.YtahibkfcohajcaaW.PrintMore Go.Proofs.Ytahibkfcohajcaa.LibB
attribute [local go_sem] max2_int min2_int max_two min_two max_three min_three max_four min_four
set_option linter.unusedVariables false
set_option linter.unusedSimpArgs false

/-- Does a mark with a digit stand here? -/
def hasMark (x0 : ByteArray) (i : Int) : Bool := bt x0 i == 92 && (decide (i + 1 < (x0.size : Int)) && (decide (49 ≤ bt x0 (i + 1)) && decide (bt x0 (i + 1) ≤ 57)))
def impl_filled.l0 : Nat → ByteArray → List ByteArray → ByteArray → Int → Option (ByteArray × Bool)
  | 0, _, _, _, _ => none
  | k + 1, x0, x1, x6, x7 => if x7 < (x0.size : Int) then (if hasMark x0 x7 = true then (if bt x0 (x7 + 1) - 49 < (x1.length : Int) then (if x6.size + (rdOf ByteArray.empty x1 (bt x0 (x7 + 1) - 49)).size ≤ 140737488355328 then impl_filled.l0 k x0 x1 (x6 ++ rdOf ByteArray.empty x1 (bt x0 (x7 + 1) - 49)) (x7 + 2) else none) else impl_filled.l0 k x0 x1 x6 (x7 + 2)) else (if x6.size + 1 ≤ 140737488355328 then impl_filled.l0 k x0 x1 (x6 ++ strOfNums [bt x0 x7]) (x7 + 1) else none)) else some (x6, decide ((x6.size : Int) ≤ 80))
def impl_filled.f (k : Nat) (a0 : ByteArray) (l1 : List ByteArray) : Option (ByteArray × Bool) := if (a0.size : Int) ≤ 1048576 then impl_filled.l0 k a0 l1 (⟨#[]⟩ : ByteArray) 0 else none
theorem impl_filled.mono_l : ∀ k x0 x1 x6 x7, LeO (impl_filled.l0 k x0 x1 x6 x7) (impl_filled.l0 (k + 1) x0 x1 x6 x7)
  | 0 => fun _ _ _ _ r h => by simp [impl_filled.l0] at h
  | k + 1 => fun x0 x1 x6 x7 r h => by
    have ih := impl_filled.mono_l k
    unfold impl_filled.l0 at h ⊢
    repeat (first | exact ih _ _ _ _ r h | exact h | (split at h <;> rename_i c <;> simp only [c, if_true, if_false] at h ⊢) | (simp at h; done))

theorem impl_filled.mono (a0 : ByteArray) (l1 : List ByteArray) (k : Nat) : LeO (impl_filled.f k a0 l1) (impl_filled.f (k + 1) a0 l1) := by
  unfold impl_filled.f
  split
  · exact impl_filled.mono_l k _ _ _ _
  · intro r h; exact h
set_option maxHeartbeats 8000000 in
set_option maxRecDepth 100000 in
theorem impl_filled.calls (k : Nat) (a0 : ByteArray) (A1 : Option Addr) (c1 : Nat) (l1 : List ByteArray) (r1 : ByteArray) (r2 : Bool) (w : World) (hr1 : Kd.C Kd.string w A1 l1.length l1) (hc1 : l1.length ≤ c1) (h : impl_filled.f k a0 l1 = some (r1, r2)) :
    Calls Try.prog 70 #[.string a0, .slice A1 l1.length c1] w fun e w' => e = .returned (.tuple #[.string r1, .bool r2]) ∧ Below w.heap.size w w' := by
  unfold impl_filled.f at h
  by_cases hs : (a0.size : Int) ≤ 1048576
  rotate_left
  · rw [if_neg hs] at h; cases h
  rw [if_pos hs] at h
  have H' := Aside0.mk h
  have HI := Aside0.mk (fresh w)
  have HB := Aside0.mk ((Below.refl w.heap.size w).alloc (Nat.le_refl _) (.cells #[.pointer none, .slice none 0 0] 72))
  clear h
  go_enter Try.func70, Try.ntmps70
  go_wp2
  go_loopg [7] k (fun kq v7 w' => ∃ (x6 : ByteArray) (x7 : Int), v7 = .int .i64 x7 ∧ Aside0 (0 ≤ x7 ∧ x7 ≤ (a0.size : Int) + 1) ∧ Aside0 (impl_filled.l0 kq a0 l1 x6 x7 = some (r1, r2)) ∧ Aside0 (kq ≤ k) ∧ Aside0 (IsB w.heap.size w.heap.size x6 w') ∧ Aside0 (Below w.heap.size w w'))
  case atStart => exact ⟨(⟨#[]⟩ : ByteArray), 0, rfl, ⟨by omega⟩, H', ⟨Nat.le_refl _⟩, HI, HB⟩
  case round =>
    clear H'
    clear HI HB
    obtain ⟨x6, x7, rfl, HX, HA, HK1, HI, HB⟩ := hrel
    cases gk with
    | zero => exact absurd HA.out (by simp [impl_filled.l0])
    | succ k1 =>
      have H := HA.out
      clear HA
      simp only [impl_filled.l0] at H
      have hx0 : 0 ≤ x7 := HX.out.1
      have e1 : ∀ _ : Unit, wrap64 (x7 + 1) = x7 + 1 := fun _ => by
        have := HX.out.2; unfold wrap64; omega
      by_cases c3 : x7 < (a0.size : Int)
      · rw [if_pos c3] at H
        have c3b0 : decide (x7 < (a0.size : Int)) = true := decide_eq_true c3
        have HC4 := Aside0.mk H
        clear H
        go_upto_region 5 with (fail)
        go_cut [39] (fun v39 wc => v39 = .bool (hasMark a0 x7) ∧ Aside0 (IsB w.heap.size w.heap.size x6 wc) ∧ Aside0 (Below w.heap.size w wc))
        case first =>
          clear HC4
          obtain ⟨ji, hji⟩ : ∃ j_ : Int, (wrap64 (x7 + 1)) = j_ := ⟨_, rfl⟩
          have hjiw : (IntKind.i64.wrap (x7 + 1)) = ji := (i64_w _).trans hji
          have hj1 : ji = x7 + 1 := hji.symm.trans (e1 ())
          have p6 := eq_true (show 0 ≤ (x7 : Int) from hx0)
          have q6 := eq_true c3
          have hx6 := bt_at a0 x7
          by_cases c7 : bt a0 x7 = 92
          · have c7b0 : ((bt a0 x7) == 92) = true := beq_iff_eq.mpr c7
            have c7b1 : ((bt a0 x7) != 92) = false := bne_eq_false_iff_eq.mpr c7
            by_cases c8 : ji < (a0.size : Int)
            · have c8b0 : decide (ji < (a0.size : Int)) = true := decide_eq_true c8
              have p11 := eq_true (show 0 ≤ ji by omega)
              have q11 := eq_true c8
              have hx11 := bt_at a0 ji
              by_cases c12 : (bt a0 ji) ≥ 49
              · have c12b0 : decide (49 ≤ (bt a0 ji)) = true := decide_eq_true c12
                have hm : hasMark a0 x7 = decide (bt a0 ji ≤ 57) := by
                  unfold hasMark; rw [← hj1, c7b0, c8b0, c12b0]; rfl
                clear c7 c8 c12 c3 hj1 e1
                go_wp2
                go_meet
                case rel => exact ⟨by rw [hm], HI, HB⟩
              · have c12b0 : decide (49 ≤ (bt a0 ji)) = false := decide_eq_false c12
                have hm : hasMark a0 x7 = false := by
                  unfold hasMark; rw [← hj1, c7b0, c8b0, c12b0]; rfl
                clear c7 c8 c12 c3 hj1 e1
                go_wp2
                go_meet
                case rel => exact ⟨by rw [hm], HI, HB⟩
            · have c8b0 : decide (ji < (a0.size : Int)) = false := decide_eq_false c8
              have hm : hasMark a0 x7 = false := by
                unfold hasMark; rw [← hj1, c7b0, c8b0]; rfl
              clear c7 c8 c3 hj1 e1
              go_wp2
              go_meet
              case rel => exact ⟨by rw [hm], HI, HB⟩
          · have c7b0 : ((bt a0 x7) == 92) = false := beq_eq_false_iff_ne.mpr c7
            have c7b1 : ((bt a0 x7) != 92) = true := bne_iff_ne.mpr c7
            have hm : hasMark a0 x7 = false := by
              unfold hasMark; rw [c7b0]; rfl
            clear c7 c3 hj1 e1
            go_wp2
            go_meet
            case rel => exact ⟨by rw [hm], HI, HB⟩
        case rest =>
          clear HI HB
          obtain ⟨rfl, HI, HB⟩ := hcut
          have H := HC4.out
          clear HC4
          have p6 := eq_true (show 0 ≤ (x7 : Int) from hx0)
          have q6 := eq_true c3
          have hx6 := bt_at a0 x7
          have hbt := bt_range a0 x7
          cases hmk : hasMark a0 x7 with
          | false =>
            rw [hmk, if_neg (by decide)] at H
            by_cases c5 : x6.size + 1 ≤ 140737488355328
            rotate_left
            · rw [if_neg c5] at H; cases H
            rw [if_pos c5] at H
            have hx1 : 0 ≤ x7 + 1 ∧ x7 + 1 ≤ (a0.size : Int) + 1 := by omega
            clear c3
            go_wp2_with (go_at_call 92; refine (bld_byte w.heap.size w.heap.size x6 (bt a0 x7) hbt.1 hbt.2 _ HI.out c5 HB.out.size).mono ?_; rintro e w2 ⟨rfl, hI, hB⟩)
            go_roundg k1
            case measure => have := HK1.out; omega
            case rel => exact ⟨x6 ++ strOfNums [bt a0 x7], x7 + 1, (by simp only [e1 ()]), ⟨hx1⟩, ⟨H⟩, ⟨by have := HK1.out; omega⟩, ⟨hI⟩, ⟨HB.out.trans hB⟩⟩
          | true =>
            rw [hmk, if_pos rfl] at H
            obtain ⟨c8, c9, c10⟩ : x7 + 1 < (a0.size : Int) ∧ 49 ≤ bt a0 (x7 + 1) ∧ bt a0 (x7 + 1) ≤ 57 := by
              unfold hasMark at hmk
              simp only [Bool.and_eq_true, decide_eq_true_eq] at hmk
              exact hmk.2
            have p11 := eq_true (show 0 ≤ x7 + 1 by omega)
            have q11 := eq_true c8
            have hx11 := bt_at a0 (x7 + 1)
            have hx2 : 0 ≤ x7 + 2 ∧ x7 + 2 ≤ (a0.size : Int) + 1 := by omega
            have e2 : ∀ _ : Unit, wrap64 (x7 + 1 + 1) = x7 + 2 := fun _ => by unfold wrap64; omega
            obtain ⟨jk, hjk⟩ : ∃ j_ : Int, (bt a0 (x7 + 1) - 49) % 256 = j_ := ⟨_, rfl⟩
            have hj2 : bt a0 (x7 + 1) - 49 = jk := by omega
            rw [hj2] at H
            have hj0 : 0 ≤ jk := by omega
            clear hj2 c9 c10 hx0 c8
            by_cases c5 : jk < (l1.length : Int)
            · rw [if_pos c5] at H
              have c5b0 : decide (jk < (l1.length : Int)) = true := decide_eq_true c5
              by_cases c6 : x6.size + (rdOf ByteArray.empty l1 jk).size ≤ 140737488355328
              rotate_left
              · rw [if_neg c6] at H; cases H
              rw [if_pos c6] at H
              obtain ⟨ad133, e133, hx133_0⟩ := Kd.at_string (Kd.C_below hr1 HB.out) jk hj0 c5
              cases e133
              have p133 := eq_true hj0
              have q133 := eq_true c5
              clear c3 c5
              go_wp2_with (go_at_call 83; refine (bld_string w.heap.size w.heap.size x6 (rdOf ByteArray.empty l1 jk) _ HI.out c6 HB.out.size).mono ?_; rintro e w2 ⟨rfl, hI, hB⟩)
              go_roundg k1
              case measure => have := HK1.out; omega
              case rel => exact ⟨x6 ++ rdOf ByteArray.empty l1 jk, x7 + 2, (by first | rfl | (congr 1; omega) | (simp only [e1 (), e2 ()]; done)), ⟨hx2⟩, ⟨H⟩, ⟨by have := HK1.out; omega⟩, ⟨hI⟩, ⟨HB.out.trans hB⟩⟩
            · rw [if_neg c5] at H
              have c5b0 : decide (jk < (l1.length : Int)) = false := decide_eq_false c5
              clear c3 c5
              go_wp2
              go_roundg k1
              case measure => have := HK1.out; omega
              case rel => exact ⟨x6, x7 + 2, (by first | rfl | (congr 1; omega) | (simp only [e1 (), e2 ()]; done)), ⟨hx2⟩, ⟨H⟩, ⟨by have := HK1.out; omega⟩, HI, HB⟩
      · rw [if_neg c3] at H
        have c3b0 : decide (x7 < (a0.size : Int)) = false := decide_eq_false c3
        simp only [Option.some.injEq, Prod.mk.injEq] at H
        obtain ⟨rfl, rfl⟩ := H
        go_wp2_with (first | (go_at_call 85; refine (bld_text w.heap.size w.heap.size x6 _ HI.out HB.out.size).mono ?_; rintro e w2 ⟨rfl, hI, hB⟩) | (go_at_call 93; refine (bld_len w.heap.size w.heap.size x6 _ hI).mono ?_; rintro e w3 ⟨rfl, rfl⟩))
        go_ret2
        exact ⟨rfl, HB.out.trans hB⟩
end Go.Proofs.Ytahibkfcohajcaa.LibHF
