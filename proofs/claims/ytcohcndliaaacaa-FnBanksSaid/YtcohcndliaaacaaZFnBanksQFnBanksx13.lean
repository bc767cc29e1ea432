/- The machine's side of a law, written by a program of this session for this claim. -/
import Derived.Test.YtcohcndliaaacaaZFnBanksQq
import Derived.Test.YtcohcndliaaacaaZFnBanksQFnBanksx0
import Derived.Test.YtcohcndliaaacaaZFnBanksQFnBanksx1
import Derived.Test.YtcohcndliaaacaaZFnBanksQFnBanksx3
import Derived.Test.YtcohcndliaaacaaZFnBanksQFnBanksx10
import Derived.Test.YtcohcndliaaacaaZFnBanksQFnBanksx11
import Derived.Test.YtcohcndliaaacaaZFnBanksQFnBanksx12
namespace Go.Proofs.Ytcohcndliaaacaa.QFnBanks
open Go.Proofs.Ytcohcndliaaacaa.Qq
open Go.RowKit Go.Proofs.Ytcohcndliaaacaa.LibX Go.Proofs.Ytcohcndliaaacaa.LibC Go.Proofs.YtcohcndliaaacaaW.PrintWords Go.Proofs.YtcohcndliaaacaaW.PrintLast Go.Proofs.YtcohcndliaaacaaW.PrintMore
attribute [local go_sem] max2_int min2_int max_two min_two max_three min_three max_four min_four   -- for this text's walks alone
set_option linter.unusedVariables false
set_option linter.unusedSimpArgs false

/-! ### impl_CartWrite: function 18 -/
def impl_CartWrite.f (k : Nat) (a0_0 : ByteArray) (a0_1 : Int) (a0_2 : Int) (a0_3 : ByteArray) (a0_4 : Int) (a0_5 : Bool) (a0_6 : Int) (a1 : Int) (a2 : Int) : Option (ByteArray × Int × Int × ByteArray × Int × Bool × Int × Bool) := (impl_CartOk.f k a0_0 a0_1 a0_2 a0_3 a0_4 a0_5 a0_6).bind fun t503 => (if t503 = true then ((impl_isWord.f a1).bind fun t504 => (if t504 = true then ((impl_isByte.f a2).bind fun t505 => (if t505 = true then ((impl_Cart_written.f k a0_0 a0_1 a0_2 a0_3 a0_4 a0_5 a0_6 a1 a2).bind fun bt506 => (some (bt506.1, bt506.2.1, bt506.2.2.1, bt506.2.2.2.1, bt506.2.2.2.2.1, bt506.2.2.2.2.2.1, bt506.2.2.2.2.2.2, true))) else (some ((⟨#[]⟩ : ByteArray), 0, 0, (⟨#[]⟩ : ByteArray), 0, false, 0, false)))) else (some ((⟨#[]⟩ : ByteArray), 0, 0, (⟨#[]⟩ : ByteArray), 0, false, 0, false)))) else (some ((⟨#[]⟩ : ByteArray), 0, 0, (⟨#[]⟩ : ByteArray), 0, false, 0, false)))
theorem impl_CartWrite.mono : ∀ a0 a1 a2 a3 a4 a5 a6 a7 a8 k, LeO (impl_CartWrite.f k a0 a1 a2 a3 a4 a5 a6 a7 a8) (impl_CartWrite.f (k + 1) a0 a1 a2 a3 a4 a5 a6 a7 a8) := by
 intro a0 a1 a2 a3 a4 a5 a6 a7 a8 k
 unfold impl_CartWrite.f
 repeat' first
   | (with_reducible exact impl_CartOk.mono _ _ _ _ _ _ _ _)
   | (with_reducible exact impl_Cart_written.mono _ _ _ _ _ _ _ _ _ _)
   | (with_reducible exact LeO.refl _)
   | (with_reducible exact LeO.none _)
   | (with_reducible refine LeO.ite ?_ ?_)
   | (with_reducible refine LeO.bind ?_ (fun _ => ?_))
   | exact impl_CartOk.mono _ _ _ _ _ _ _ _
   | exact impl_Cart_written.mono _ _ _ _ _ _ _ _ _ _
   | exact LeO.none _
   | refine LeO.ite ?_ ?_
   | refine LeO.bind ?_ (fun _ => ?_)
set_option maxHeartbeats 8000000 in
set_option maxRecDepth 100000 in
theorem impl_CartWrite.calls (k : Nat) (a0_0 : ByteArray) (a0_1 : Int) (a0_2 : Int) (a0_3 : ByteArray) (a0_4 : Int) (a0_5 : Bool) (a0_6 : Int) (a1 : Int) (a2 : Int) (r1 : ByteArray) (r2 : Int) (r3 : Int) (r4 : ByteArray) (r5 : Int) (r6 : Bool) (r7 : Int) (r8 : Bool) (w : World) (h : impl_CartWrite.f k a0_0 a0_1 a0_2 a0_3 a0_4 a0_5 a0_6 a1 a2 = some (r1, r2, r3, r4, r5, r6, r7, r8)) :
  Calls Try.prog 18 #[.agg #[.string a0_0, .int .i64 a0_1, .int .i64 a0_2, .string a0_3, .int .i64 a0_4, .bool a0_5, .int .i64 a0_6], .int .i64 a1, .int .i64 a2] w fun e w' => e = .returned (.tuple #[.agg #[.string r1, .int .i64 r2, .int .i64 r3, .string r4, .int .i64 r5, .bool r6, .int .i64 r7], .bool r8]) ∧ Below w.heap.size w w' := by
 have hu32 := Try.underlying32
 have HB := Aside0.mk (Below.refl w.heap.size w)
 have H : ((impl_CartOk.f k a0_0 a0_1 a0_2 a0_3 a0_4 a0_5 a0_6).bind fun t503 => (if t503 = true then ((impl_isWord.f a1).bind fun t504 => (if t504 = true then ((impl_isByte.f a2).bind fun t505 => (if t505 = true then ((impl_Cart_written.f k a0_0 a0_1 a0_2 a0_3 a0_4 a0_5 a0_6 a1 a2).bind fun bt506 => (some (bt506.1, bt506.2.1, bt506.2.2.1, bt506.2.2.2.1, bt506.2.2.2.2.1, bt506.2.2.2.2.2.1, bt506.2.2.2.2.2.2, true))) else (some ((⟨#[]⟩ : ByteArray), 0, 0, (⟨#[]⟩ : ByteArray), 0, false, 0, false)))) else (some ((⟨#[]⟩ : ByteArray), 0, 0, (⟨#[]⟩ : ByteArray), 0, false, 0, false)))) else (some ((⟨#[]⟩ : ByteArray), 0, 0, (⟨#[]⟩ : ByteArray), 0, false, 0, false)))) = some (r1, r2, r3, r4, r5, r6, r7, r8) := h
 clear h
 replace H := Option.bind_eq_some_iff.mp H
 obtain ⟨t503, A40, H⟩ := H
 have A4 := Aside0.mk A40
 clear A40
 by_cases c5 : t503 = true
 ·subst c5
  have H1 : ((impl_isWord.f a1).bind fun t504 => (if t504 = true then ((impl_isByte.f a2).bind fun t505 => (if t505 = true then ((impl_Cart_written.f k a0_0 a0_1 a0_2 a0_3 a0_4 a0_5 a0_6 a1 a2).bind fun bt506 => (some (bt506.1, bt506.2.1, bt506.2.2.1, bt506.2.2.2.1, bt506.2.2.2.2.1, bt506.2.2.2.2.2.1, bt506.2.2.2.2.2.2, true))) else (some ((⟨#[]⟩ : ByteArray), 0, 0, (⟨#[]⟩ : ByteArray), 0, false, 0, false)))) else (some ((⟨#[]⟩ : ByteArray), 0, 0, (⟨#[]⟩ : ByteArray), 0, false, 0, false)))) = some (r1, r2, r3, r4, r5, r6, r7, r8) := by rw [if_pos rfl] at H; exact H
  clear H
  have H := H1
  clear H1
  replace H := Option.bind_eq_some_iff.mp H
  obtain ⟨t504, A60, H⟩ := H
  have A6 := Aside0.mk A60
  clear A60
  by_cases c7 : t504 = true
  ·subst c7
   have H1 : ((impl_isByte.f a2).bind fun t505 => (if t505 = true then ((impl_Cart_written.f k a0_0 a0_1 a0_2 a0_3 a0_4 a0_5 a0_6 a1 a2).bind fun bt506 => (some (bt506.1, bt506.2.1, bt506.2.2.1, bt506.2.2.2.1, bt506.2.2.2.2.1, bt506.2.2.2.2.2.1, bt506.2.2.2.2.2.2, true))) else (some ((⟨#[]⟩ : ByteArray), 0, 0, (⟨#[]⟩ : ByteArray), 0, false, 0, false)))) = some (r1, r2, r3, r4, r5, r6, r7, r8) := by rw [if_pos rfl] at H; exact H
   clear H
   have H := H1
   clear H1
   replace H := Option.bind_eq_some_iff.mp H
   obtain ⟨t505, A80, H⟩ := H
   have A8 := Aside0.mk A80
   clear A80
   by_cases c9 : t505 = true
   ·subst c9
    have H1 : ((impl_Cart_written.f k a0_0 a0_1 a0_2 a0_3 a0_4 a0_5 a0_6 a1 a2).bind fun bt506 => (some (bt506.1, bt506.2.1, bt506.2.2.1, bt506.2.2.2.1, bt506.2.2.2.2.1, bt506.2.2.2.2.2.1, bt506.2.2.2.2.2.2, true))) = some (r1, r2, r3, r4, r5, r6, r7, r8) := by rw [if_pos rfl] at H; exact H
    clear H
    have H := H1
    clear H1
    replace H := Option.bind_eq_some_iff.mp H
    obtain ⟨⟨t506, t507, t508, t509, t510, t511, t512⟩, A100, H⟩ := H
    replace H : (some (t506, t507, t508, t509, t510, t511, t512, true)) = some (r1, r2, r3, r4, r5, r6, r7, r8) := H
    have A10 := Aside0.mk A100
    clear A100
    simp only [Option.some.injEq, Prod.mk.injEq] at H
    obtain ⟨rfl, rfl, rfl, rfl, rfl, rfl, rfl, rfl⟩ := H
    go_enter Try.func18, Try.ntmps18
    go_wp2_with (first | ((with_reducible refine gate_dst (N := 3) rfl ?_); refine box_event ?hg (N := 3) ?hd (cs := #[.string a0_0, .int .i64 a0_1, .int .i64 a0_2, .string a0_3, .int .i64 a0_4, .bool a0_5, .int .i64 a0_6]) (t := 32) ?hr ?_; (case hd => rfl); (case hg => rfl); (case hr => exact q171_); intro gb501 hg w11 hbox hb; have n0_ := Aside0.mk (below_step q100_ hb); have n1_ := Aside0.mk (hbox); have n2_ := Aside0.mk ((q79_ : w.heap.size ≤ gb501)); have n3_ := Aside0.mk ((q79_ : w.heap.size ≤ gb501)); clear HB; have HB := n0_; have BK501 := n1_; have GW501 := n2_; have GE501 := n3_; clear n0_ n1_ n2_ n3_; clear hb hbox hg) | ((with_reducible refine gate_dst (N := 6) rfl ?_); refine box_event ?hg (N := 6) ?hd (cs := #[.string (⟨#[]⟩ : ByteArray), .int .i64 0, .int .i64 0, .string (⟨#[]⟩ : ByteArray), .int .i64 0, .bool false, .int .i64 0]) (t := 32) ?hr ?_; (case hd => rfl); (case hg => rfl); (case hr => exact q171_); intro gb502 hg w12 hbox hb; have n0_ := Aside0.mk (blk_below (g := gb501) (o := .cells #[.string a0_0, .int .i64 a0_1, .int .i64 a0_2, .string a0_3, .int .i64 a0_4, .bool a0_5, .int .i64 a0_6] 32 (0, 0)) q122_ hb); have n1_ := Aside0.mk (below_step q90_ hb); have n2_ := Aside0.mk (hbox); have n3_ := Aside0.mk ((q64_ : w.heap.size ≤ gb502)); have n4_ := Aside0.mk ((q64_ : w.heap.size ≤ gb502)); have n5_ := Aside0.mk ((q26_ : gb501 ≠ gb502)); have n6_ := Aside0.mk ((q27_ : gb502 ≠ gb501)); clear BK501; clear HB; have BK501 := n0_; have HB := n1_; have BK502 := n2_; have GW502 := n3_; have GE502 := n4_; have NB501_502 := n5_; have NB502_501 := n6_; clear n0_ n1_ n2_ n3_ n4_ n5_ n6_; clear hb hbox hg; have hnb13 := NB501_502.out; have hnc13 := NB502_501.out; have hcz14_0 : w12.cell? ⟨gb501, 0, none⟩ = some (.string a0_0) := (blk_cell BK501.out 0).trans rfl; have hcz14_1 : w12.cell? ⟨gb501, 1, none⟩ = some (.int .i64 a0_1) := (blk_cell BK501.out 1).trans rfl; have hcz14_2 : w12.cell? ⟨gb501, 2, none⟩ = some (.int .i64 a0_2) := (blk_cell BK501.out 2).trans rfl; have hcz14_3 : w12.cell? ⟨gb501, 3, none⟩ = some (.string a0_3) := (blk_cell BK501.out 3).trans rfl; have hcz14_4 : w12.cell? ⟨gb501, 4, none⟩ = some (.int .i64 a0_4) := (blk_cell BK501.out 4).trans rfl; have hcz14_5 : w12.cell? ⟨gb501, 5, none⟩ = some (.bool a0_5) := (blk_cell BK501.out 5).trans rfl; have hcz14_6 : w12.cell? ⟨gb501, 6, none⟩ = some (.int .i64 a0_6) := (blk_cell BK501.out 6).trans rfl; have hfz14_0 := blk_frozen BK501.out 0; have hfz14_1 := blk_frozen BK501.out 1; have hfz14_2 := blk_frozen BK501.out 2; have hfz14_3 := blk_frozen BK501.out 3; have hfz14_4 := blk_frozen BK501.out 4; have hfz14_5 := blk_frozen BK501.out 5; have hfz14_6 := blk_frozen BK501.out 6) | ((with_reducible refine gate_callee (f := 24) rfl ?_); refine goesL_ (some 9) rfl rfl Try.func24 (by kernel_rfl) rfl #[.agg #[.string a0_0, .int .i64 a0_1, .int .i64 a0_2, .string a0_3, .int .i64 a0_4, .bool a0_5, .int .i64 a0_6]] rfl q99_ ?_; (with_reducible refine (impl_CartOk.calls k a0_0 a0_1 a0_2 a0_3 a0_4 a0_5 a0_6 true _ A4.out).mono ?_); rintro e w15 ⟨rfl, hb⟩; refine ⟨_, rfl, ?_⟩; have n0_ := Aside0.mk (blk_below (g := gb501) (o := .cells #[.string a0_0, .int .i64 a0_1, .int .i64 a0_2, .string a0_3, .int .i64 a0_4, .bool a0_5, .int .i64 a0_6] 32 (0, 0)) q122_ hb); have n1_ := Aside0.mk (blk_below (g := gb502) (o := .cells #[.string (⟨#[]⟩ : ByteArray), .int .i64 0, .int .i64 0, .string (⟨#[]⟩ : ByteArray), .int .i64 0, .bool false, .int .i64 0] 32 (0, 0)) q123_ hb); have n2_ := Aside0.mk (below_step q70_ hb); clear BK501; clear BK502; clear HB; have BK501 := n0_; have BK502 := n1_; have HB := n2_; clear n0_ n1_ n2_; (try clear hb)) | (go_at_call 59; (with_reducible refine (impl_isWord.calls a1 true _ A6.out).mono ?_); rintro e w' ⟨rfl, ⟨nd, rfl⟩⟩; (try (rw [drewN_self w15]; generalize hq_ : World.drewN w15 _ = w15; have n0_ : Aside0 (w15.heap[gb501]? = some (.cells #[.string a0_0, .int .i64 a0_1, .int .i64 a0_2, .string a0_3, .int .i64 a0_4, .bool a0_5, .int .i64 a0_6] 32 (0, 0))) := ⟨q97_⟩; have n1_ : Aside0 (w15.heap[gb502]? = some (.cells #[.string (⟨#[]⟩ : ByteArray), .int .i64 0, .int .i64 0, .string (⟨#[]⟩ : ByteArray), .int .i64 0, .bool false, .int .i64 0] 32 (0, 0))) := ⟨q98_⟩; have n2_ : Aside0 (Below w.heap.size w w15) := ⟨q50_⟩; clear BK501 BK502 HB hq_; have BK501 := n0_; have BK502 := n1_; have HB := n2_; clear n0_ n1_ n2_))) | (go_at_call 60; (with_reducible refine (impl_isByte.calls a2 true _ A8.out).mono ?_); rintro e w' ⟨rfl, ⟨nd, rfl⟩⟩; (try (rw [drewN_self w15]; generalize hq_ : World.drewN w15 _ = w15; have n0_ : Aside0 (w15.heap[gb501]? = some (.cells #[.string a0_0, .int .i64 a0_1, .int .i64 a0_2, .string a0_3, .int .i64 a0_4, .bool a0_5, .int .i64 a0_6] 32 (0, 0))) := ⟨q97_⟩; have n1_ : Aside0 (w15.heap[gb502]? = some (.cells #[.string (⟨#[]⟩ : ByteArray), .int .i64 0, .int .i64 0, .string (⟨#[]⟩ : ByteArray), .int .i64 0, .bool false, .int .i64 0] 32 (0, 0))) := ⟨q98_⟩; have n2_ : Aside0 (Below w.heap.size w w15) := ⟨q50_⟩; clear BK501 BK502 HB hq_; have BK501 := n0_; have BK502 := n1_; have HB := n2_; clear n0_ n1_ n2_)); have hcz16_0 : w15.cell? ⟨gb501, 0, none⟩ = some (.string a0_0) := (blk_cell BK501.out 0).trans rfl; have hcz16_1 : w15.cell? ⟨gb501, 1, none⟩ = some (.int .i64 a0_1) := (blk_cell BK501.out 1).trans rfl; have hcz16_2 : w15.cell? ⟨gb501, 2, none⟩ = some (.int .i64 a0_2) := (blk_cell BK501.out 2).trans rfl; have hcz16_3 : w15.cell? ⟨gb501, 3, none⟩ = some (.string a0_3) := (blk_cell BK501.out 3).trans rfl; have hcz16_4 : w15.cell? ⟨gb501, 4, none⟩ = some (.int .i64 a0_4) := (blk_cell BK501.out 4).trans rfl; have hcz16_5 : w15.cell? ⟨gb501, 5, none⟩ = some (.bool a0_5) := (blk_cell BK501.out 5).trans rfl; have hcz16_6 : w15.cell? ⟨gb501, 6, none⟩ = some (.int .i64 a0_6) := (blk_cell BK501.out 6).trans rfl; have hfz16_0 := blk_frozen BK501.out 0; have hfz16_1 := blk_frozen BK501.out 1; have hfz16_2 := blk_frozen BK501.out 2; have hfz16_3 := blk_frozen BK501.out 3; have hfz16_4 := blk_frozen BK501.out 4; have hfz16_5 := blk_frozen BK501.out 5; have hfz16_6 := blk_frozen BK501.out 6) | ((with_reducible refine gate_callee (f := 61) rfl ?_); refine goesL_ (some 25) rfl rfl Try.func61 (by kernel_rfl) rfl #[.agg #[.string a0_0, .int .i64 a0_1, .int .i64 a0_2, .string a0_3, .int .i64 a0_4, .bool a0_5, .int .i64 a0_6], .int .i64 a1, .int .i64 a2] rfl q99_ ?_; (with_reducible refine (impl_Cart_written.calls k a0_0 a0_1 a0_2 a0_3 a0_4 a0_5 a0_6 a1 a2 t506 t507 t508 t509 t510 t511 t512 _ A10.out).mono ?_); rintro e w17 ⟨rfl, hb⟩; refine ⟨_, rfl, ?_⟩; have n0_ := Aside0.mk (blk_below (g := gb501) (o := .cells #[.string a0_0, .int .i64 a0_1, .int .i64 a0_2, .string a0_3, .int .i64 a0_4, .bool a0_5, .int .i64 a0_6] 32 (0, 0)) q122_ hb); have n1_ := Aside0.mk (blk_below (g := gb502) (o := .cells #[.string (⟨#[]⟩ : ByteArray), .int .i64 0, .int .i64 0, .string (⟨#[]⟩ : ByteArray), .int .i64 0, .bool false, .int .i64 0] 32 (0, 0)) q123_ hb); have n2_ := Aside0.mk (below_step q70_ hb); clear BK501; clear BK502; clear HB; have BK501 := n0_; have BK502 := n1_; have HB := n2_; clear n0_ n1_ n2_; (try clear hb); have hcz18_0 : w17.cell? ⟨gb502, 0, none⟩ = some (.string (⟨#[]⟩ : ByteArray)) := (blk_cell BK502.out 0).trans rfl; have hcz18_1 : w17.cell? ⟨gb502, 1, none⟩ = some (.int .i64 0) := (blk_cell BK502.out 1).trans rfl; have hcz18_2 : w17.cell? ⟨gb502, 2, none⟩ = some (.int .i64 0) := (blk_cell BK502.out 2).trans rfl; have hcz18_3 : w17.cell? ⟨gb502, 3, none⟩ = some (.string (⟨#[]⟩ : ByteArray)) := (blk_cell BK502.out 3).trans rfl; have hcz18_4 : w17.cell? ⟨gb502, 4, none⟩ = some (.int .i64 0) := (blk_cell BK502.out 4).trans rfl; have hcz18_5 : w17.cell? ⟨gb502, 5, none⟩ = some (.bool false) := (blk_cell BK502.out 5).trans rfl; have hcz18_6 : w17.cell? ⟨gb502, 6, none⟩ = some (.int .i64 0) := (blk_cell BK502.out 6).trans rfl; have hfz18_0 := blk_frozen BK502.out 0; have hfz18_1 := blk_frozen BK502.out 1; have hfz18_2 := blk_frozen BK502.out 2; have hfz18_3 := blk_frozen BK502.out 3; have hfz18_4 := blk_frozen BK502.out 4; have hfz18_5 := blk_frozen BK502.out 5; have hfz18_6 := blk_frozen BK502.out 6))
    refine bodyPost_ret (results_ct rfl _ _ gb502 32 #[.string t506, .int .i64 t507, .int .i64 t508, .string t509, .int .i64 t510, .bool t511, .int .i64 t512] (0, 0) _ rfl (by (with_reducible repeat (first | refine blk_drewN ?_ _ | refine blk_drew ?_ | refine blk_alloc ?_ _)); refine blk_put (cs := #[.string t506, .int .i64 t507, .int .i64 t508, .string t509, .int .i64 t510, .bool t511, .int .i64 0]) ?_ 6 _ rfl; (with_reducible repeat (first | refine blk_drewN ?_ _ | refine blk_drew ?_ | refine blk_alloc ?_ _)); refine blk_put (cs := #[.string t506, .int .i64 t507, .int .i64 t508, .string t509, .int .i64 t510, .bool false, .int .i64 0]) ?_ 5 _ rfl; (with_reducible repeat (first | refine blk_drewN ?_ _ | refine blk_drew ?_ | refine blk_alloc ?_ _)); refine blk_put (cs := #[.string t506, .int .i64 t507, .int .i64 t508, .string t509, .int .i64 0, .bool false, .int .i64 0]) ?_ 4 _ rfl; (with_reducible repeat (first | refine blk_drewN ?_ _ | refine blk_drew ?_ | refine blk_alloc ?_ _)); refine blk_put (cs := #[.string t506, .int .i64 t507, .int .i64 t508, .string (⟨#[]⟩ : ByteArray), .int .i64 0, .bool false, .int .i64 0]) ?_ 3 _ rfl; (with_reducible repeat (first | refine blk_drewN ?_ _ | refine blk_drew ?_ | refine blk_alloc ?_ _)); refine blk_put (cs := #[.string t506, .int .i64 t507, .int .i64 0, .string (⟨#[]⟩ : ByteArray), .int .i64 0, .bool false, .int .i64 0]) ?_ 2 _ rfl; (with_reducible repeat (first | refine blk_drewN ?_ _ | refine blk_drew ?_ | refine blk_alloc ?_ _)); refine blk_put (cs := #[.string t506, .int .i64 0, .int .i64 0, .string (⟨#[]⟩ : ByteArray), .int .i64 0, .bool false, .int .i64 0]) ?_ 1 _ rfl; (with_reducible repeat (first | refine blk_drewN ?_ _ | refine blk_drew ?_ | refine blk_alloc ?_ _)); refine blk_put (cs := #[.string (⟨#[]⟩ : ByteArray), .int .i64 0, .int .i64 0, .string (⟨#[]⟩ : ByteArray), .int .i64 0, .bool false, .int .i64 0]) ?_ 0 _ rfl; (with_reducible repeat (first | refine blk_drewN ?_ _ | refine blk_drew ?_ | refine blk_alloc ?_ _)); exact BK502.out) Try.underlying32 rfl (by kernel_rfl)) rfl ?_
    exact ⟨q101_, q70_⟩
   ·replace c9 := Bool.eq_false_iff.mpr c9
    subst c9
    have H1 : (some ((⟨#[]⟩ : ByteArray), 0, 0, (⟨#[]⟩ : ByteArray), 0, false, 0, false)) = some (r1, r2, r3, r4, r5, r6, r7, r8) := by rw [if_neg (show ¬ (false = true) by decide)] at H; exact H
    clear H
    have H := H1
    clear H1
    simp only [Option.some.injEq, Prod.mk.injEq] at H
    obtain ⟨rfl, rfl, rfl, rfl, rfl, rfl, rfl, rfl⟩ := H
    go_enter Try.func18, Try.ntmps18
    go_wp2_with (first | ((with_reducible refine gate_dst (N := 3) rfl ?_); refine box_event ?hg (N := 3) ?hd (cs := #[.string a0_0, .int .i64 a0_1, .int .i64 a0_2, .string a0_3, .int .i64 a0_4, .bool a0_5, .int .i64 a0_6]) (t := 32) ?hr ?_; (case hd => rfl); (case hg => rfl); (case hr => exact q171_); intro gb501 hg w19 hbox hb; have n0_ := Aside0.mk (below_step q100_ hb); have n1_ := Aside0.mk (hbox); have n2_ := Aside0.mk ((q79_ : w.heap.size ≤ gb501)); have n3_ := Aside0.mk ((q79_ : w.heap.size ≤ gb501)); clear HB; have HB := n0_; have BK501 := n1_; have GW501 := n2_; have GE501 := n3_; clear n0_ n1_ n2_ n3_; clear hb hbox hg) | ((with_reducible refine gate_dst (N := 6) rfl ?_); refine box_event ?hg (N := 6) ?hd (cs := #[.string (⟨#[]⟩ : ByteArray), .int .i64 0, .int .i64 0, .string (⟨#[]⟩ : ByteArray), .int .i64 0, .bool false, .int .i64 0]) (t := 32) ?hr ?_; (case hd => rfl); (case hg => rfl); (case hr => exact q171_); intro gb502 hg w20 hbox hb; have n0_ := Aside0.mk (blk_below (g := gb501) (o := .cells #[.string a0_0, .int .i64 a0_1, .int .i64 a0_2, .string a0_3, .int .i64 a0_4, .bool a0_5, .int .i64 a0_6] 32 (0, 0)) q122_ hb); have n1_ := Aside0.mk (below_step q90_ hb); have n2_ := Aside0.mk (hbox); have n3_ := Aside0.mk ((q64_ : w.heap.size ≤ gb502)); have n4_ := Aside0.mk ((q64_ : w.heap.size ≤ gb502)); have n5_ := Aside0.mk ((q26_ : gb501 ≠ gb502)); have n6_ := Aside0.mk ((q27_ : gb502 ≠ gb501)); clear BK501; clear HB; have BK501 := n0_; have HB := n1_; have BK502 := n2_; have GW502 := n3_; have GE502 := n4_; have NB501_502 := n5_; have NB502_501 := n6_; clear n0_ n1_ n2_ n3_ n4_ n5_ n6_; clear hb hbox hg; have hnb21 := NB501_502.out; have hnc21 := NB502_501.out; have hcz22_0 : w20.cell? ⟨gb501, 0, none⟩ = some (.string a0_0) := (blk_cell BK501.out 0).trans rfl; have hcz22_1 : w20.cell? ⟨gb501, 1, none⟩ = some (.int .i64 a0_1) := (blk_cell BK501.out 1).trans rfl; have hcz22_2 : w20.cell? ⟨gb501, 2, none⟩ = some (.int .i64 a0_2) := (blk_cell BK501.out 2).trans rfl; have hcz22_3 : w20.cell? ⟨gb501, 3, none⟩ = some (.string a0_3) := (blk_cell BK501.out 3).trans rfl; have hcz22_4 : w20.cell? ⟨gb501, 4, none⟩ = some (.int .i64 a0_4) := (blk_cell BK501.out 4).trans rfl; have hcz22_5 : w20.cell? ⟨gb501, 5, none⟩ = some (.bool a0_5) := (blk_cell BK501.out 5).trans rfl; have hcz22_6 : w20.cell? ⟨gb501, 6, none⟩ = some (.int .i64 a0_6) := (blk_cell BK501.out 6).trans rfl; have hfz22_0 := blk_frozen BK501.out 0; have hfz22_1 := blk_frozen BK501.out 1; have hfz22_2 := blk_frozen BK501.out 2; have hfz22_3 := blk_frozen BK501.out 3; have hfz22_4 := blk_frozen BK501.out 4; have hfz22_5 := blk_frozen BK501.out 5; have hfz22_6 := blk_frozen BK501.out 6) | ((with_reducible refine gate_callee (f := 24) rfl ?_); refine goesL_ (some 9) rfl rfl Try.func24 (by kernel_rfl) rfl #[.agg #[.string a0_0, .int .i64 a0_1, .int .i64 a0_2, .string a0_3, .int .i64 a0_4, .bool a0_5, .int .i64 a0_6]] rfl q99_ ?_; (with_reducible refine (impl_CartOk.calls k a0_0 a0_1 a0_2 a0_3 a0_4 a0_5 a0_6 true _ A4.out).mono ?_); rintro e w23 ⟨rfl, hb⟩; refine ⟨_, rfl, ?_⟩; have n0_ := Aside0.mk (blk_below (g := gb501) (o := .cells #[.string a0_0, .int .i64 a0_1, .int .i64 a0_2, .string a0_3, .int .i64 a0_4, .bool a0_5, .int .i64 a0_6] 32 (0, 0)) q122_ hb); have n1_ := Aside0.mk (blk_below (g := gb502) (o := .cells #[.string (⟨#[]⟩ : ByteArray), .int .i64 0, .int .i64 0, .string (⟨#[]⟩ : ByteArray), .int .i64 0, .bool false, .int .i64 0] 32 (0, 0)) q123_ hb); have n2_ := Aside0.mk (below_step q70_ hb); clear BK501; clear BK502; clear HB; have BK501 := n0_; have BK502 := n1_; have HB := n2_; clear n0_ n1_ n2_; (try clear hb)) | (go_at_call 59; (with_reducible refine (impl_isWord.calls a1 true _ A6.out).mono ?_); rintro e w' ⟨rfl, ⟨nd, rfl⟩⟩; (try (rw [drewN_self w23]; generalize hq_ : World.drewN w23 _ = w23; have n0_ : Aside0 (w23.heap[gb501]? = some (.cells #[.string a0_0, .int .i64 a0_1, .int .i64 a0_2, .string a0_3, .int .i64 a0_4, .bool a0_5, .int .i64 a0_6] 32 (0, 0))) := ⟨q97_⟩; have n1_ : Aside0 (w23.heap[gb502]? = some (.cells #[.string (⟨#[]⟩ : ByteArray), .int .i64 0, .int .i64 0, .string (⟨#[]⟩ : ByteArray), .int .i64 0, .bool false, .int .i64 0] 32 (0, 0))) := ⟨q98_⟩; have n2_ : Aside0 (Below w.heap.size w w23) := ⟨q50_⟩; clear BK501 BK502 HB hq_; have BK501 := n0_; have BK502 := n1_; have HB := n2_; clear n0_ n1_ n2_))) | (go_at_call 60; (with_reducible refine (impl_isByte.calls a2 false _ A8.out).mono ?_); rintro e w' ⟨rfl, ⟨nd, rfl⟩⟩; (try (rw [drewN_self w23]; generalize hq_ : World.drewN w23 _ = w23; have n0_ : Aside0 (w23.heap[gb501]? = some (.cells #[.string a0_0, .int .i64 a0_1, .int .i64 a0_2, .string a0_3, .int .i64 a0_4, .bool a0_5, .int .i64 a0_6] 32 (0, 0))) := ⟨q97_⟩; have n1_ : Aside0 (w23.heap[gb502]? = some (.cells #[.string (⟨#[]⟩ : ByteArray), .int .i64 0, .int .i64 0, .string (⟨#[]⟩ : ByteArray), .int .i64 0, .bool false, .int .i64 0] 32 (0, 0))) := ⟨q98_⟩; have n2_ : Aside0 (Below w.heap.size w w23) := ⟨q50_⟩; clear BK501 BK502 HB hq_; have BK501 := n0_; have BK502 := n1_; have HB := n2_; clear n0_ n1_ n2_)); have hcz24_0 : w23.cell? ⟨gb502, 0, none⟩ = some (.string (⟨#[]⟩ : ByteArray)) := (blk_cell BK502.out 0).trans rfl; have hcz24_1 : w23.cell? ⟨gb502, 1, none⟩ = some (.int .i64 0) := (blk_cell BK502.out 1).trans rfl; have hcz24_2 : w23.cell? ⟨gb502, 2, none⟩ = some (.int .i64 0) := (blk_cell BK502.out 2).trans rfl; have hcz24_3 : w23.cell? ⟨gb502, 3, none⟩ = some (.string (⟨#[]⟩ : ByteArray)) := (blk_cell BK502.out 3).trans rfl; have hcz24_4 : w23.cell? ⟨gb502, 4, none⟩ = some (.int .i64 0) := (blk_cell BK502.out 4).trans rfl; have hcz24_5 : w23.cell? ⟨gb502, 5, none⟩ = some (.bool false) := (blk_cell BK502.out 5).trans rfl; have hcz24_6 : w23.cell? ⟨gb502, 6, none⟩ = some (.int .i64 0) := (blk_cell BK502.out 6).trans rfl; have hfz24_0 := blk_frozen BK502.out 0; have hfz24_1 := blk_frozen BK502.out 1; have hfz24_2 := blk_frozen BK502.out 2; have hfz24_3 := blk_frozen BK502.out 3; have hfz24_4 := blk_frozen BK502.out 4; have hfz24_5 := blk_frozen BK502.out 5; have hfz24_6 := blk_frozen BK502.out 6))
    refine bodyPost_ret (results_ct rfl _ _ gb502 32 #[.string (⟨#[]⟩ : ByteArray), .int .i64 0, .int .i64 0, .string (⟨#[]⟩ : ByteArray), .int .i64 0, .bool false, .int .i64 0] (0, 0) _ rfl q1_ Try.underlying32 rfl (by kernel_rfl)) rfl ?_
    exact ⟨q101_, q70_⟩
  ·replace c7 := Bool.eq_false_iff.mpr c7
   subst c7
   have H1 : (some ((⟨#[]⟩ : ByteArray), 0, 0, (⟨#[]⟩ : ByteArray), 0, false, 0, false)) = some (r1, r2, r3, r4, r5, r6, r7, r8) := by rw [if_neg (show ¬ (false = true) by decide)] at H; exact H
   clear H
   have H := H1
   clear H1
   simp only [Option.some.injEq, Prod.mk.injEq] at H
   obtain ⟨rfl, rfl, rfl, rfl, rfl, rfl, rfl, rfl⟩ := H
   go_enter Try.func18, Try.ntmps18
   go_wp2_with (first | ((with_reducible refine gate_dst (N := 3) rfl ?_); refine box_event ?hg (N := 3) ?hd (cs := #[.string a0_0, .int .i64 a0_1, .int .i64 a0_2, .string a0_3, .int .i64 a0_4, .bool a0_5, .int .i64 a0_6]) (t := 32) ?hr ?_; (case hd => rfl); (case hg => rfl); (case hr => exact q171_); intro gb501 hg w25 hbox hb; have n0_ := Aside0.mk (below_step q100_ hb); have n1_ := Aside0.mk (hbox); have n2_ := Aside0.mk ((q79_ : w.heap.size ≤ gb501)); have n3_ := Aside0.mk ((q79_ : w.heap.size ≤ gb501)); clear HB; have HB := n0_; have BK501 := n1_; have GW501 := n2_; have GE501 := n3_; clear n0_ n1_ n2_ n3_; clear hb hbox hg) | ((with_reducible refine gate_dst (N := 6) rfl ?_); refine box_event ?hg (N := 6) ?hd (cs := #[.string (⟨#[]⟩ : ByteArray), .int .i64 0, .int .i64 0, .string (⟨#[]⟩ : ByteArray), .int .i64 0, .bool false, .int .i64 0]) (t := 32) ?hr ?_; (case hd => rfl); (case hg => rfl); (case hr => exact q171_); intro gb502 hg w26 hbox hb; have n0_ := Aside0.mk (blk_below (g := gb501) (o := .cells #[.string a0_0, .int .i64 a0_1, .int .i64 a0_2, .string a0_3, .int .i64 a0_4, .bool a0_5, .int .i64 a0_6] 32 (0, 0)) q122_ hb); have n1_ := Aside0.mk (below_step q90_ hb); have n2_ := Aside0.mk (hbox); have n3_ := Aside0.mk ((q64_ : w.heap.size ≤ gb502)); have n4_ := Aside0.mk ((q64_ : w.heap.size ≤ gb502)); have n5_ := Aside0.mk ((q26_ : gb501 ≠ gb502)); have n6_ := Aside0.mk ((q27_ : gb502 ≠ gb501)); clear BK501; clear HB; have BK501 := n0_; have HB := n1_; have BK502 := n2_; have GW502 := n3_; have GE502 := n4_; have NB501_502 := n5_; have NB502_501 := n6_; clear n0_ n1_ n2_ n3_ n4_ n5_ n6_; clear hb hbox hg; have hnb27 := NB501_502.out; have hnc27 := NB502_501.out; have hcz28_0 : w26.cell? ⟨gb501, 0, none⟩ = some (.string a0_0) := (blk_cell BK501.out 0).trans rfl; have hcz28_1 : w26.cell? ⟨gb501, 1, none⟩ = some (.int .i64 a0_1) := (blk_cell BK501.out 1).trans rfl; have hcz28_2 : w26.cell? ⟨gb501, 2, none⟩ = some (.int .i64 a0_2) := (blk_cell BK501.out 2).trans rfl; have hcz28_3 : w26.cell? ⟨gb501, 3, none⟩ = some (.string a0_3) := (blk_cell BK501.out 3).trans rfl; have hcz28_4 : w26.cell? ⟨gb501, 4, none⟩ = some (.int .i64 a0_4) := (blk_cell BK501.out 4).trans rfl; have hcz28_5 : w26.cell? ⟨gb501, 5, none⟩ = some (.bool a0_5) := (blk_cell BK501.out 5).trans rfl; have hcz28_6 : w26.cell? ⟨gb501, 6, none⟩ = some (.int .i64 a0_6) := (blk_cell BK501.out 6).trans rfl; have hfz28_0 := blk_frozen BK501.out 0; have hfz28_1 := blk_frozen BK501.out 1; have hfz28_2 := blk_frozen BK501.out 2; have hfz28_3 := blk_frozen BK501.out 3; have hfz28_4 := blk_frozen BK501.out 4; have hfz28_5 := blk_frozen BK501.out 5; have hfz28_6 := blk_frozen BK501.out 6) | ((with_reducible refine gate_callee (f := 24) rfl ?_); refine goesL_ (some 9) rfl rfl Try.func24 (by kernel_rfl) rfl #[.agg #[.string a0_0, .int .i64 a0_1, .int .i64 a0_2, .string a0_3, .int .i64 a0_4, .bool a0_5, .int .i64 a0_6]] rfl q99_ ?_; (with_reducible refine (impl_CartOk.calls k a0_0 a0_1 a0_2 a0_3 a0_4 a0_5 a0_6 true _ A4.out).mono ?_); rintro e w29 ⟨rfl, hb⟩; refine ⟨_, rfl, ?_⟩; have n0_ := Aside0.mk (blk_below (g := gb501) (o := .cells #[.string a0_0, .int .i64 a0_1, .int .i64 a0_2, .string a0_3, .int .i64 a0_4, .bool a0_5, .int .i64 a0_6] 32 (0, 0)) q122_ hb); have n1_ := Aside0.mk (blk_below (g := gb502) (o := .cells #[.string (⟨#[]⟩ : ByteArray), .int .i64 0, .int .i64 0, .string (⟨#[]⟩ : ByteArray), .int .i64 0, .bool false, .int .i64 0] 32 (0, 0)) q123_ hb); have n2_ := Aside0.mk (below_step q70_ hb); clear BK501; clear BK502; clear HB; have BK501 := n0_; have BK502 := n1_; have HB := n2_; clear n0_ n1_ n2_; (try clear hb)) | (go_at_call 59; (with_reducible refine (impl_isWord.calls a1 false _ A6.out).mono ?_); rintro e w' ⟨rfl, ⟨nd, rfl⟩⟩; (try (rw [drewN_self w29]; generalize hq_ : World.drewN w29 _ = w29; have n0_ : Aside0 (w29.heap[gb501]? = some (.cells #[.string a0_0, .int .i64 a0_1, .int .i64 a0_2, .string a0_3, .int .i64 a0_4, .bool a0_5, .int .i64 a0_6] 32 (0, 0))) := ⟨q97_⟩; have n1_ : Aside0 (w29.heap[gb502]? = some (.cells #[.string (⟨#[]⟩ : ByteArray), .int .i64 0, .int .i64 0, .string (⟨#[]⟩ : ByteArray), .int .i64 0, .bool false, .int .i64 0] 32 (0, 0))) := ⟨q98_⟩; have n2_ : Aside0 (Below w.heap.size w w29) := ⟨q50_⟩; clear BK501 BK502 HB hq_; have BK501 := n0_; have BK502 := n1_; have HB := n2_; clear n0_ n1_ n2_)); have hcz30_0 : w29.cell? ⟨gb502, 0, none⟩ = some (.string (⟨#[]⟩ : ByteArray)) := (blk_cell BK502.out 0).trans rfl; have hcz30_1 : w29.cell? ⟨gb502, 1, none⟩ = some (.int .i64 0) := (blk_cell BK502.out 1).trans rfl; have hcz30_2 : w29.cell? ⟨gb502, 2, none⟩ = some (.int .i64 0) := (blk_cell BK502.out 2).trans rfl; have hcz30_3 : w29.cell? ⟨gb502, 3, none⟩ = some (.string (⟨#[]⟩ : ByteArray)) := (blk_cell BK502.out 3).trans rfl; have hcz30_4 : w29.cell? ⟨gb502, 4, none⟩ = some (.int .i64 0) := (blk_cell BK502.out 4).trans rfl; have hcz30_5 : w29.cell? ⟨gb502, 5, none⟩ = some (.bool false) := (blk_cell BK502.out 5).trans rfl; have hcz30_6 : w29.cell? ⟨gb502, 6, none⟩ = some (.int .i64 0) := (blk_cell BK502.out 6).trans rfl; have hfz30_0 := blk_frozen BK502.out 0; have hfz30_1 := blk_frozen BK502.out 1; have hfz30_2 := blk_frozen BK502.out 2; have hfz30_3 := blk_frozen BK502.out 3; have hfz30_4 := blk_frozen BK502.out 4; have hfz30_5 := blk_frozen BK502.out 5; have hfz30_6 := blk_frozen BK502.out 6))
   refine bodyPost_ret (results_ct rfl _ _ gb502 32 #[.string (⟨#[]⟩ : ByteArray), .int .i64 0, .int .i64 0, .string (⟨#[]⟩ : ByteArray), .int .i64 0, .bool false, .int .i64 0] (0, 0) _ rfl q1_ Try.underlying32 rfl (by kernel_rfl)) rfl ?_
   exact ⟨q101_, q70_⟩
 ·replace c5 := Bool.eq_false_iff.mpr c5
  subst c5
  have H1 : (some ((⟨#[]⟩ : ByteArray), 0, 0, (⟨#[]⟩ : ByteArray), 0, false, 0, false)) = some (r1, r2, r3, r4, r5, r6, r7, r8) := by rw [if_neg (show ¬ (false = true) by decide)] at H; exact H
  clear H
  have H := H1
  clear H1
  simp only [Option.some.injEq, Prod.mk.injEq] at H
  obtain ⟨rfl, rfl, rfl, rfl, rfl, rfl, rfl, rfl⟩ := H
  go_enter Try.func18, Try.ntmps18
  go_wp2_with (first | ((with_reducible refine gate_dst (N := 3) rfl ?_); refine box_event ?hg (N := 3) ?hd (cs := #[.string a0_0, .int .i64 a0_1, .int .i64 a0_2, .string a0_3, .int .i64 a0_4, .bool a0_5, .int .i64 a0_6]) (t := 32) ?hr ?_; (case hd => rfl); (case hg => rfl); (case hr => exact q171_); intro gb501 hg w31 hbox hb; have n0_ := Aside0.mk (below_step q100_ hb); have n1_ := Aside0.mk (hbox); have n2_ := Aside0.mk ((q79_ : w.heap.size ≤ gb501)); have n3_ := Aside0.mk ((q79_ : w.heap.size ≤ gb501)); clear HB; have HB := n0_; have BK501 := n1_; have GW501 := n2_; have GE501 := n3_; clear n0_ n1_ n2_ n3_; clear hb hbox hg) | ((with_reducible refine gate_dst (N := 6) rfl ?_); refine box_event ?hg (N := 6) ?hd (cs := #[.string (⟨#[]⟩ : ByteArray), .int .i64 0, .int .i64 0, .string (⟨#[]⟩ : ByteArray), .int .i64 0, .bool false, .int .i64 0]) (t := 32) ?hr ?_; (case hd => rfl); (case hg => rfl); (case hr => exact q171_); intro gb502 hg w32 hbox hb; have n0_ := Aside0.mk (blk_below (g := gb501) (o := .cells #[.string a0_0, .int .i64 a0_1, .int .i64 a0_2, .string a0_3, .int .i64 a0_4, .bool a0_5, .int .i64 a0_6] 32 (0, 0)) q122_ hb); have n1_ := Aside0.mk (below_step q90_ hb); have n2_ := Aside0.mk (hbox); have n3_ := Aside0.mk ((q64_ : w.heap.size ≤ gb502)); have n4_ := Aside0.mk ((q64_ : w.heap.size ≤ gb502)); have n5_ := Aside0.mk ((q26_ : gb501 ≠ gb502)); have n6_ := Aside0.mk ((q27_ : gb502 ≠ gb501)); clear BK501; clear HB; have BK501 := n0_; have HB := n1_; have BK502 := n2_; have GW502 := n3_; have GE502 := n4_; have NB501_502 := n5_; have NB502_501 := n6_; clear n0_ n1_ n2_ n3_ n4_ n5_ n6_; clear hb hbox hg; have hnb33 := NB501_502.out; have hnc33 := NB502_501.out; have hcz34_0 : w32.cell? ⟨gb501, 0, none⟩ = some (.string a0_0) := (blk_cell BK501.out 0).trans rfl; have hcz34_1 : w32.cell? ⟨gb501, 1, none⟩ = some (.int .i64 a0_1) := (blk_cell BK501.out 1).trans rfl; have hcz34_2 : w32.cell? ⟨gb501, 2, none⟩ = some (.int .i64 a0_2) := (blk_cell BK501.out 2).trans rfl; have hcz34_3 : w32.cell? ⟨gb501, 3, none⟩ = some (.string a0_3) := (blk_cell BK501.out 3).trans rfl; have hcz34_4 : w32.cell? ⟨gb501, 4, none⟩ = some (.int .i64 a0_4) := (blk_cell BK501.out 4).trans rfl; have hcz34_5 : w32.cell? ⟨gb501, 5, none⟩ = some (.bool a0_5) := (blk_cell BK501.out 5).trans rfl; have hcz34_6 : w32.cell? ⟨gb501, 6, none⟩ = some (.int .i64 a0_6) := (blk_cell BK501.out 6).trans rfl; have hfz34_0 := blk_frozen BK501.out 0; have hfz34_1 := blk_frozen BK501.out 1; have hfz34_2 := blk_frozen BK501.out 2; have hfz34_3 := blk_frozen BK501.out 3; have hfz34_4 := blk_frozen BK501.out 4; have hfz34_5 := blk_frozen BK501.out 5; have hfz34_6 := blk_frozen BK501.out 6) | ((with_reducible refine gate_callee (f := 24) rfl ?_); refine goesL_ (some 9) rfl rfl Try.func24 (by kernel_rfl) rfl #[.agg #[.string a0_0, .int .i64 a0_1, .int .i64 a0_2, .string a0_3, .int .i64 a0_4, .bool a0_5, .int .i64 a0_6]] rfl q99_ ?_; (with_reducible refine (impl_CartOk.calls k a0_0 a0_1 a0_2 a0_3 a0_4 a0_5 a0_6 false _ A4.out).mono ?_); rintro e w35 ⟨rfl, hb⟩; refine ⟨_, rfl, ?_⟩; have n0_ := Aside0.mk (blk_below (g := gb501) (o := .cells #[.string a0_0, .int .i64 a0_1, .int .i64 a0_2, .string a0_3, .int .i64 a0_4, .bool a0_5, .int .i64 a0_6] 32 (0, 0)) q122_ hb); have n1_ := Aside0.mk (blk_below (g := gb502) (o := .cells #[.string (⟨#[]⟩ : ByteArray), .int .i64 0, .int .i64 0, .string (⟨#[]⟩ : ByteArray), .int .i64 0, .bool false, .int .i64 0] 32 (0, 0)) q123_ hb); have n2_ := Aside0.mk (below_step q70_ hb); clear BK501; clear BK502; clear HB; have BK501 := n0_; have BK502 := n1_; have HB := n2_; clear n0_ n1_ n2_; (try clear hb); have hcz36_0 : w35.cell? ⟨gb502, 0, none⟩ = some (.string (⟨#[]⟩ : ByteArray)) := (blk_cell BK502.out 0).trans rfl; have hcz36_1 : w35.cell? ⟨gb502, 1, none⟩ = some (.int .i64 0) := (blk_cell BK502.out 1).trans rfl; have hcz36_2 : w35.cell? ⟨gb502, 2, none⟩ = some (.int .i64 0) := (blk_cell BK502.out 2).trans rfl; have hcz36_3 : w35.cell? ⟨gb502, 3, none⟩ = some (.string (⟨#[]⟩ : ByteArray)) := (blk_cell BK502.out 3).trans rfl; have hcz36_4 : w35.cell? ⟨gb502, 4, none⟩ = some (.int .i64 0) := (blk_cell BK502.out 4).trans rfl; have hcz36_5 : w35.cell? ⟨gb502, 5, none⟩ = some (.bool false) := (blk_cell BK502.out 5).trans rfl; have hcz36_6 : w35.cell? ⟨gb502, 6, none⟩ = some (.int .i64 0) := (blk_cell BK502.out 6).trans rfl; have hfz36_0 := blk_frozen BK502.out 0; have hfz36_1 := blk_frozen BK502.out 1; have hfz36_2 := blk_frozen BK502.out 2; have hfz36_3 := blk_frozen BK502.out 3; have hfz36_4 := blk_frozen BK502.out 4; have hfz36_5 := blk_frozen BK502.out 5; have hfz36_6 := blk_frozen BK502.out 6))
  refine bodyPost_ret (results_ct rfl _ _ gb502 32 #[.string (⟨#[]⟩ : ByteArray), .int .i64 0, .int .i64 0, .string (⟨#[]⟩ : ByteArray), .int .i64 0, .bool false, .int .i64 0] (0, 0) _ rfl q1_ Try.underlying32 rfl (by kernel_rfl)) rfl ?_
  exact ⟨q101_, q70_⟩

/-! ### impl_Cart_mapped: function 65 -/
def impl_Cart_mapped.f (a0_0 : ByteArray) (a0_1 : Int) (a0_2 : Int) (a0_3 : ByteArray) (a0_4 : Int) (a0_5 : Bool) (a0_6 : Int) : Option (Int) := if (wrap64 ((a0_0.size : Int) / 256)) = 0 then (none) else (some (Int.tmod a0_2 (wrap64 ((a0_0.size : Int) / 256))))
set_option maxHeartbeats 8000000 in
set_option maxRecDepth 100000 in
theorem impl_Cart_mapped.calls (a0_0 : ByteArray) (a0_1 : Int) (a0_2 : Int) (a0_3 : ByteArray) (a0_4 : Int) (a0_5 : Bool) (a0_6 : Int) (r : Int) (w : World) (h : impl_Cart_mapped.f a0_0 a0_1 a0_2 a0_3 a0_4 a0_5 a0_6 = some r) :
  Calls Try.prog 65 #[.agg #[.string a0_0, .int .i64 a0_1, .int .i64 a0_2, .string a0_3, .int .i64 a0_4, .bool a0_5, .int .i64 a0_6]] w fun e w' => e = .returned (.int .i64 r) ∧ Below w.heap.size w w' := by
 have hu32 := Try.underlying32
 have HB := Aside0.mk (Below.refl w.heap.size w)
 have H : (if (wrap64 ((a0_0.size : Int) / 256)) = 0 then (none) else (some (Int.tmod a0_2 (wrap64 ((a0_0.size : Int) / 256))))) = some r := h
 clear h
 by_cases c2 : (wrap64 ((a0_0.size : Int) / 256)) = 0
 ·rw [if_pos c2] at H
  exact absurd H (by simp)
 ·rw [if_neg c2] at H
  have c2b0 : ((wrap64 ((a0_0.size : Int) / 256)) == 0) = false := beq_eq_false_iff_ne.mpr c2
  have c2b1 : ((wrap64 ((a0_0.size : Int) / 256)) != 0) = true := bne_iff_ne.mpr c2
  obtain rfl := Option.some.inj H
  go_enter Try.func65, Try.ntmps65
  go_wp2_with (first | ((with_reducible refine gate_dst (N := 1) rfl ?_); refine box_event ?hg (N := 1) ?hd (cs := #[.string a0_0, .int .i64 a0_1, .int .i64 a0_2, .string a0_3, .int .i64 a0_4, .bool a0_5, .int .i64 a0_6]) (t := 32) ?hr ?_; (case hd => rfl); (case hg => rfl); (case hr => exact q171_); intro gb513 hg w3 hbox hb; have n0_ := Aside0.mk (below_step q100_ hb); have n1_ := Aside0.mk (hbox); have n2_ := Aside0.mk ((q79_ : w.heap.size ≤ gb513)); have n3_ := Aside0.mk ((q79_ : w.heap.size ≤ gb513)); clear HB; have HB := n0_; have BK513 := n1_; have GW513 := n2_; have GE513 := n3_; clear n0_ n1_ n2_ n3_; clear hb hbox hg; have hcz4_0 : w3.cell? ⟨gb513, 0, none⟩ = some (.string a0_0) := (blk_cell BK513.out 0).trans rfl; have hcz4_1 : w3.cell? ⟨gb513, 1, none⟩ = some (.int .i64 a0_1) := (blk_cell BK513.out 1).trans rfl; have hcz4_2 : w3.cell? ⟨gb513, 2, none⟩ = some (.int .i64 a0_2) := (blk_cell BK513.out 2).trans rfl; have hcz4_3 : w3.cell? ⟨gb513, 3, none⟩ = some (.string a0_3) := (blk_cell BK513.out 3).trans rfl; have hcz4_4 : w3.cell? ⟨gb513, 4, none⟩ = some (.int .i64 a0_4) := (blk_cell BK513.out 4).trans rfl; have hcz4_5 : w3.cell? ⟨gb513, 5, none⟩ = some (.bool a0_5) := (blk_cell BK513.out 5).trans rfl; have hcz4_6 : w3.cell? ⟨gb513, 6, none⟩ = some (.int .i64 a0_6) := (blk_cell BK513.out 6).trans rfl; have hfz4_0 := blk_frozen BK513.out 0; have hfz4_1 := blk_frozen BK513.out 1; have hfz4_2 := blk_frozen BK513.out 2; have hfz4_3 := blk_frozen BK513.out 3; have hfz4_4 := blk_frozen BK513.out 4; have hfz4_5 := blk_frozen BK513.out 5; have hfz4_6 := blk_frozen BK513.out 6))
  go_ret
  exact ⟨q101_, by repeat (first | (with_reducible first | exact HB.out | apply below_alloc | apply pw_below_drewN | apply below_drew1 | refine below_set ?_ GE513.out) | exact HB.out)⟩

/-! ### impl_MappedBank: function 20 -/
def impl_MappedBank.f (k : Nat) (a0_0 : ByteArray) (a0_1 : Int) (a0_2 : Int) (a0_3 : ByteArray) (a0_4 : Int) (a0_5 : Bool) (a0_6 : Int) : Option (Int) := (impl_CartOk.f k a0_0 a0_1 a0_2 a0_3 a0_4 a0_5 a0_6).bind fun t515 => (if t515 = true then ((impl_Cart_mapped.f a0_0 a0_1 a0_2 a0_3 a0_4 a0_5 a0_6).bind fun t516 => (some t516)) else (some (-1)))
theorem impl_MappedBank.mono : ∀ a0 a1 a2 a3 a4 a5 a6 k, LeO (impl_MappedBank.f k a0 a1 a2 a3 a4 a5 a6) (impl_MappedBank.f (k + 1) a0 a1 a2 a3 a4 a5 a6) := by
 intro a0 a1 a2 a3 a4 a5 a6 k
 unfold impl_MappedBank.f
 repeat' first
   | (with_reducible exact impl_CartOk.mono _ _ _ _ _ _ _ _)
   | (with_reducible exact LeO.refl _)
   | (with_reducible exact LeO.none _)
   | (with_reducible refine LeO.ite ?_ ?_)
   | (with_reducible refine LeO.bind ?_ (fun _ => ?_))
   | exact impl_CartOk.mono _ _ _ _ _ _ _ _
   | exact LeO.none _
   | refine LeO.ite ?_ ?_
   | refine LeO.bind ?_ (fun _ => ?_)
set_option maxHeartbeats 8000000 in
set_option maxRecDepth 100000 in
theorem impl_MappedBank.calls (k : Nat) (a0_0 : ByteArray) (a0_1 : Int) (a0_2 : Int) (a0_3 : ByteArray) (a0_4 : Int) (a0_5 : Bool) (a0_6 : Int) (r : Int) (w : World) (h : impl_MappedBank.f k a0_0 a0_1 a0_2 a0_3 a0_4 a0_5 a0_6 = some r) :
  Calls Try.prog 20 #[.agg #[.string a0_0, .int .i64 a0_1, .int .i64 a0_2, .string a0_3, .int .i64 a0_4, .bool a0_5, .int .i64 a0_6]] w fun e w' => e = .returned (.int .i64 r) ∧ Below w.heap.size w w' := by
 have hu32 := Try.underlying32
 have HB := Aside0.mk (Below.refl w.heap.size w)
 have H : ((impl_CartOk.f k a0_0 a0_1 a0_2 a0_3 a0_4 a0_5 a0_6).bind fun t515 => (if t515 = true then ((impl_Cart_mapped.f a0_0 a0_1 a0_2 a0_3 a0_4 a0_5 a0_6).bind fun t516 => (some t516)) else (some (-1)))) = some r := h
 clear h
 replace H := Option.bind_eq_some_iff.mp H
 obtain ⟨t515, A20, H⟩ := H
 have A2 := Aside0.mk A20
 clear A20
 by_cases c3 : t515 = true
 ·subst c3
  have H1 : ((impl_Cart_mapped.f a0_0 a0_1 a0_2 a0_3 a0_4 a0_5 a0_6).bind fun t516 => (some t516)) = some r := by rw [if_pos rfl] at H; exact H
  clear H
  have H := H1
  clear H1
  replace H := Option.bind_eq_some_iff.mp H
  obtain ⟨t516, A40, H⟩ := H
  have A4 := Aside0.mk A40
  clear A40
  obtain rfl := Option.some.inj H
  go_enter Try.func20, Try.ntmps20
  go_wp2_with (first | ((with_reducible refine gate_dst (N := 1) rfl ?_); refine box_event ?hg (N := 1) ?hd (cs := #[.string a0_0, .int .i64 a0_1, .int .i64 a0_2, .string a0_3, .int .i64 a0_4, .bool a0_5, .int .i64 a0_6]) (t := 32) ?hr ?_; (case hd => rfl); (case hg => rfl); (case hr => exact q171_); intro gb514 hg w5 hbox hb; have n0_ := Aside0.mk (below_step q100_ hb); have n1_ := Aside0.mk (hbox); have n2_ := Aside0.mk ((q79_ : w.heap.size ≤ gb514)); have n3_ := Aside0.mk ((q79_ : w.heap.size ≤ gb514)); clear HB; have HB := n0_; have BK514 := n1_; have GW514 := n2_; have GE514 := n3_; clear n0_ n1_ n2_ n3_; clear hb hbox hg; have hcz6_0 : w5.cell? ⟨gb514, 0, none⟩ = some (.string a0_0) := (blk_cell BK514.out 0).trans rfl; have hcz6_1 : w5.cell? ⟨gb514, 1, none⟩ = some (.int .i64 a0_1) := (blk_cell BK514.out 1).trans rfl; have hcz6_2 : w5.cell? ⟨gb514, 2, none⟩ = some (.int .i64 a0_2) := (blk_cell BK514.out 2).trans rfl; have hcz6_3 : w5.cell? ⟨gb514, 3, none⟩ = some (.string a0_3) := (blk_cell BK514.out 3).trans rfl; have hcz6_4 : w5.cell? ⟨gb514, 4, none⟩ = some (.int .i64 a0_4) := (blk_cell BK514.out 4).trans rfl; have hcz6_5 : w5.cell? ⟨gb514, 5, none⟩ = some (.bool a0_5) := (blk_cell BK514.out 5).trans rfl; have hcz6_6 : w5.cell? ⟨gb514, 6, none⟩ = some (.int .i64 a0_6) := (blk_cell BK514.out 6).trans rfl; have hfz6_0 := blk_frozen BK514.out 0; have hfz6_1 := blk_frozen BK514.out 1; have hfz6_2 := blk_frozen BK514.out 2; have hfz6_3 := blk_frozen BK514.out 3; have hfz6_4 := blk_frozen BK514.out 4; have hfz6_5 := blk_frozen BK514.out 5; have hfz6_6 := blk_frozen BK514.out 6) | ((with_reducible refine gate_callee (f := 24) rfl ?_); refine goesL_ (some 4) rfl rfl Try.func24 (by kernel_rfl) rfl #[.agg #[.string a0_0, .int .i64 a0_1, .int .i64 a0_2, .string a0_3, .int .i64 a0_4, .bool a0_5, .int .i64 a0_6]] rfl q99_ ?_; (with_reducible refine (impl_CartOk.calls k a0_0 a0_1 a0_2 a0_3 a0_4 a0_5 a0_6 true _ A2.out).mono ?_); rintro e w7 ⟨rfl, hb⟩; refine ⟨_, rfl, ?_⟩; have n0_ := Aside0.mk (blk_below (g := gb514) (o := .cells #[.string a0_0, .int .i64 a0_1, .int .i64 a0_2, .string a0_3, .int .i64 a0_4, .bool a0_5, .int .i64 a0_6] 32 (0, 0)) q124_ hb); have n1_ := Aside0.mk (below_step q91_ hb); clear BK514; clear HB; have BK514 := n0_; have HB := n1_; clear n0_ n1_; (try clear hb); have hcz8_0 : w7.cell? ⟨gb514, 0, none⟩ = some (.string a0_0) := (blk_cell BK514.out 0).trans rfl; have hcz8_1 : w7.cell? ⟨gb514, 1, none⟩ = some (.int .i64 a0_1) := (blk_cell BK514.out 1).trans rfl; have hcz8_2 : w7.cell? ⟨gb514, 2, none⟩ = some (.int .i64 a0_2) := (blk_cell BK514.out 2).trans rfl; have hcz8_3 : w7.cell? ⟨gb514, 3, none⟩ = some (.string a0_3) := (blk_cell BK514.out 3).trans rfl; have hcz8_4 : w7.cell? ⟨gb514, 4, none⟩ = some (.int .i64 a0_4) := (blk_cell BK514.out 4).trans rfl; have hcz8_5 : w7.cell? ⟨gb514, 5, none⟩ = some (.bool a0_5) := (blk_cell BK514.out 5).trans rfl; have hcz8_6 : w7.cell? ⟨gb514, 6, none⟩ = some (.int .i64 a0_6) := (blk_cell BK514.out 6).trans rfl; have hfz8_0 := blk_frozen BK514.out 0; have hfz8_1 := blk_frozen BK514.out 1; have hfz8_2 := blk_frozen BK514.out 2; have hfz8_3 := blk_frozen BK514.out 3; have hfz8_4 := blk_frozen BK514.out 4; have hfz8_5 := blk_frozen BK514.out 5; have hfz8_6 := blk_frozen BK514.out 6) | ((with_reducible refine gate_callee (f := 65) rfl ?_); refine goesL_ (some 7) rfl rfl Try.func65 (by kernel_rfl) rfl #[.agg #[.string a0_0, .int .i64 a0_1, .int .i64 a0_2, .string a0_3, .int .i64 a0_4, .bool a0_5, .int .i64 a0_6]] rfl q99_ ?_; (with_reducible refine (impl_Cart_mapped.calls a0_0 a0_1 a0_2 a0_3 a0_4 a0_5 a0_6 t516 _ A4.out).mono ?_); rintro e w9 ⟨rfl, hb⟩; refine ⟨_, rfl, ?_⟩; have n0_ := Aside0.mk (blk_below (g := gb514) (o := .cells #[.string a0_0, .int .i64 a0_1, .int .i64 a0_2, .string a0_3, .int .i64 a0_4, .bool a0_5, .int .i64 a0_6] 32 (0, 0)) q124_ hb); have n1_ := Aside0.mk (below_step q91_ hb); clear BK514; clear HB; have BK514 := n0_; have HB := n1_; clear n0_ n1_; (try clear hb)))
  go_ret
  exact ⟨q101_, q91_⟩
 ·replace c3 := Bool.eq_false_iff.mpr c3
  subst c3
  have H1 : (some (-1)) = some r := by rw [if_neg (show ¬ (false = true) by decide)] at H; exact H
  clear H
  have H := H1
  clear H1
  obtain rfl := Option.some.inj H
  go_enter Try.func20, Try.ntmps20
  go_wp2_with (first | ((with_reducible refine gate_dst (N := 1) rfl ?_); refine box_event ?hg (N := 1) ?hd (cs := #[.string a0_0, .int .i64 a0_1, .int .i64 a0_2, .string a0_3, .int .i64 a0_4, .bool a0_5, .int .i64 a0_6]) (t := 32) ?hr ?_; (case hd => rfl); (case hg => rfl); (case hr => exact q171_); intro gb514 hg w10 hbox hb; have n0_ := Aside0.mk (below_step q100_ hb); have n1_ := Aside0.mk (hbox); have n2_ := Aside0.mk ((q79_ : w.heap.size ≤ gb514)); have n3_ := Aside0.mk ((q79_ : w.heap.size ≤ gb514)); clear HB; have HB := n0_; have BK514 := n1_; have GW514 := n2_; have GE514 := n3_; clear n0_ n1_ n2_ n3_; clear hb hbox hg; have hcz11_0 : w10.cell? ⟨gb514, 0, none⟩ = some (.string a0_0) := (blk_cell BK514.out 0).trans rfl; have hcz11_1 : w10.cell? ⟨gb514, 1, none⟩ = some (.int .i64 a0_1) := (blk_cell BK514.out 1).trans rfl; have hcz11_2 : w10.cell? ⟨gb514, 2, none⟩ = some (.int .i64 a0_2) := (blk_cell BK514.out 2).trans rfl; have hcz11_3 : w10.cell? ⟨gb514, 3, none⟩ = some (.string a0_3) := (blk_cell BK514.out 3).trans rfl; have hcz11_4 : w10.cell? ⟨gb514, 4, none⟩ = some (.int .i64 a0_4) := (blk_cell BK514.out 4).trans rfl; have hcz11_5 : w10.cell? ⟨gb514, 5, none⟩ = some (.bool a0_5) := (blk_cell BK514.out 5).trans rfl; have hcz11_6 : w10.cell? ⟨gb514, 6, none⟩ = some (.int .i64 a0_6) := (blk_cell BK514.out 6).trans rfl; have hfz11_0 := blk_frozen BK514.out 0; have hfz11_1 := blk_frozen BK514.out 1; have hfz11_2 := blk_frozen BK514.out 2; have hfz11_3 := blk_frozen BK514.out 3; have hfz11_4 := blk_frozen BK514.out 4; have hfz11_5 := blk_frozen BK514.out 5; have hfz11_6 := blk_frozen BK514.out 6) | ((with_reducible refine gate_callee (f := 24) rfl ?_); refine goesL_ (some 4) rfl rfl Try.func24 (by kernel_rfl) rfl #[.agg #[.string a0_0, .int .i64 a0_1, .int .i64 a0_2, .string a0_3, .int .i64 a0_4, .bool a0_5, .int .i64 a0_6]] rfl q99_ ?_; (with_reducible refine (impl_CartOk.calls k a0_0 a0_1 a0_2 a0_3 a0_4 a0_5 a0_6 false _ A2.out).mono ?_); rintro e w12 ⟨rfl, hb⟩; refine ⟨_, rfl, ?_⟩; have n0_ := Aside0.mk (blk_below (g := gb514) (o := .cells #[.string a0_0, .int .i64 a0_1, .int .i64 a0_2, .string a0_3, .int .i64 a0_4, .bool a0_5, .int .i64 a0_6] 32 (0, 0)) q124_ hb); have n1_ := Aside0.mk (below_step q91_ hb); clear BK514; clear HB; have BK514 := n0_; have HB := n1_; clear n0_ n1_; (try clear hb)))
  go_ret
  exact ⟨q101_, q91_⟩

/-! ### laws_FnBanks: function 6 -/
def laws_FnBanks.j0 : Nat → Int → Bool → Bool → Bool → ByteArray → Int → Int → ByteArray → Int → Bool → Int → ByteArray → Int → Int → ByteArray → Int → Bool → Int → Option (Bool)
 | 0, _, _, _, _, _, _, _, _, _, _, _, _, _, _, _, _, _, _ => none
 | k + 1, x5, x7, x9, x39, x528000, x528001, x528002, x528003, x528004, x528005, x528006, x537000, x537001, x537002, x537003, x537004, x537005, x537006 => if x39 = true then (some (x7 == x9)) else ((impl_MappedBank.f k x537000 x537001 x537002 x537003 x537004 x537005 x537006).bind fun t546 => (if x528001 = 0 then (some (t546 == 1)) else (if x528001 = 2 then (if (wrap64 ((x528000.size : Int) / 256)) = 0 then (none) else (some (t546 == (Int.tmod x5 (wrap64 ((x528000.size : Int) / 256)))))) else (if (Int.tmod x5 32) = 0 then (if (wrap64 ((x528000.size : Int) / 256)) = 0 then (none) else (some (t546 == ((1 : Int) % (wrap64 ((x528000.size : Int) / 256)))))) else (if (wrap64 ((x528000.size : Int) / 256)) = 0 then (none) else (some (t546 == (Int.tmod (Int.tmod x5 32) (wrap64 ((x528000.size : Int) / 256))))))))))
def laws_FnBanks.f (k : Nat) (l0 : List Int) : Option (Bool) := (laws_big.f l0).bind fun t517 => (if t517 = true then (some true) else ((spec_DrawCartWrite.f k l0).bind fun bt518 => ((impl_CartWrite.f k bt518.1 bt518.2.1 bt518.2.2.1 bt518.2.2.2.1 bt518.2.2.2.2.1 bt518.2.2.2.2.2.1 bt518.2.2.2.2.2.2.1 130 bt518.2.2.2.2.2.2.2.2).bind fun bt528 => ((spec_CartWrite.f k bt518.1 bt518.2.1 bt518.2.2.1 bt518.2.2.2.1 bt518.2.2.2.2.1 bt518.2.2.2.2.2.1 bt518.2.2.2.2.2.2.1 130 bt518.2.2.2.2.2.2.2.2).bind fun bt537 => (if (bt528.2.2.2.2.2.2.2 != bt537.2.2.2.2.2.2.2) = true then (laws_FnBanks.j0 k bt518.2.2.2.2.2.2.2.2 bt528.2.2.2.2.2.2.2 bt537.2.2.2.2.2.2.2 true bt518.1 bt518.2.1 bt518.2.2.1 bt518.2.2.2.1 bt518.2.2.2.2.1 bt518.2.2.2.2.2.1 bt518.2.2.2.2.2.2.1 bt528.1 bt528.2.1 bt528.2.2.1 bt528.2.2.2.1 bt528.2.2.2.2.1 bt528.2.2.2.2.2.1 bt528.2.2.2.2.2.2.1) else (laws_FnBanks.j0 k bt518.2.2.2.2.2.2.2.2 bt528.2.2.2.2.2.2.2 bt537.2.2.2.2.2.2.2 (!bt528.2.2.2.2.2.2.2) bt518.1 bt518.2.1 bt518.2.2.1 bt518.2.2.2.1 bt518.2.2.2.2.1 bt518.2.2.2.2.2.1 bt518.2.2.2.2.2.2.1 bt528.1 bt528.2.1 bt528.2.2.1 bt528.2.2.2.1 bt528.2.2.2.2.1 bt528.2.2.2.2.2.1 bt528.2.2.2.2.2.2.1))))))
theorem laws_FnBanks.mono_l : ∀ k, (∀ y0 y1 y2 y3 y4 y5 y6 y7 y8 y9 y10 y11 y12 y13 y14 y15 y16 y17, LeO (laws_FnBanks.j0 k y0 y1 y2 y3 y4 y5 y6 y7 y8 y9 y10 y11 y12 y13 y14 y15 y16 y17) (laws_FnBanks.j0 (k + 1) y0 y1 y2 y3 y4 y5 y6 y7 y8 y9 y10 y11 y12 y13 y14 y15 y16 y17))
 | 0 => fun _ _ _ _ _ _ _ _ _ _ _ _ _ _ _ _ _ _ r h => by simp [laws_FnBanks.j0] at h
 | k + 1 => by
  have ih0 := laws_FnBanks.mono_l k
  ·intro y0 y1 y2 y3 y4 y5 y6 y7 y8 y9 y10 y11 y12 y13 y14 y15 y16 y17
   unfold laws_FnBanks.j0
   repeat' first
   | (with_reducible exact ih0 _ _ _ _ _ _ _ _ _ _ _ _ _ _ _ _ _ _)
   | (with_reducible exact impl_CartWrite.mono _ _ _ _ _ _ _ _ _ _)
   | (with_reducible exact impl_MappedBank.mono _ _ _ _ _ _ _ _)
   | (with_reducible exact spec_CartWrite.mono _ _ _ _ _ _ _ _ _ _)
   | (with_reducible exact spec_DrawCartWrite.mono _ _)
   | (with_reducible exact LeO.refl _)
   | (with_reducible exact LeO.none _)
   | (with_reducible refine LeO.ite ?_ ?_)
   | (with_reducible refine LeO.bind ?_ (fun _ => ?_))
   | exact ih0 _ _ _ _ _ _ _ _ _ _ _ _ _ _ _ _ _ _
   | exact impl_CartWrite.mono _ _ _ _ _ _ _ _ _ _
   | exact impl_MappedBank.mono _ _ _ _ _ _ _ _
   | exact spec_CartWrite.mono _ _ _ _ _ _ _ _ _ _
   | exact spec_DrawCartWrite.mono _ _
   | exact LeO.none _
   | refine LeO.ite ?_ ?_
   | refine LeO.bind ?_ (fun _ => ?_)
theorem laws_FnBanks.mono : ∀ a0 k, LeO (laws_FnBanks.f k a0) (laws_FnBanks.f (k + 1) a0) := by
 intro a0 k
 have ih0 := laws_FnBanks.mono_l k
 unfold laws_FnBanks.f
 repeat' first
   | (with_reducible exact ih0 _ _ _ _ _ _ _ _ _ _ _ _ _ _ _ _ _ _)
   | (with_reducible exact impl_CartWrite.mono _ _ _ _ _ _ _ _ _ _)
   | (with_reducible exact impl_MappedBank.mono _ _ _ _ _ _ _ _)
   | (with_reducible exact spec_CartWrite.mono _ _ _ _ _ _ _ _ _ _)
   | (with_reducible exact spec_DrawCartWrite.mono _ _)
   | (with_reducible exact LeO.refl _)
   | (with_reducible exact LeO.none _)
   | (with_reducible refine LeO.ite ?_ ?_)
   | (with_reducible refine LeO.bind ?_ (fun _ => ?_))
   | exact ih0 _ _ _ _ _ _ _ _ _ _ _ _ _ _ _ _ _ _
   | exact impl_CartWrite.mono _ _ _ _ _ _ _ _ _ _
   | exact impl_MappedBank.mono _ _ _ _ _ _ _ _
   | exact spec_CartWrite.mono _ _ _ _ _ _ _ _ _ _
   | exact spec_DrawCartWrite.mono _ _
   | exact LeO.none _
   | refine LeO.ite ?_ ?_
   | refine LeO.bind ?_ (fun _ => ?_)
set_option maxHeartbeats 8000000 in
set_option maxRecDepth 100000 in
theorem laws_FnBanks.calls (k : Nat) (A0 : Option Addr) (c0 : Nat) (l0 : List Int) (r : Bool) (w : World) (hr0 : Kd.C (Kd.int .u8) w A0 l0.length l0) (hc0 : l0.length ≤ c0) (h : laws_FnBanks.f k l0 = some r) :
  Calls Try.prog 6 #[.slice A0 l0.length c0] w fun e w' => e = .returned (.bool r) ∧ Below w.heap.size w w' := by
 have hu32 := Try.underlying32
 have HR0 := Aside0.mk hr0
 have HC0 := Aside0.mk hc0
 clear hr0 hc0
 have HB := Aside0.mk (Below.refl w.heap.size w)
 have H : ((laws_big.f l0).bind fun t517 => (if t517 = true then (some true) else ((spec_DrawCartWrite.f k l0).bind fun bt518 => ((impl_CartWrite.f k bt518.1 bt518.2.1 bt518.2.2.1 bt518.2.2.2.1 bt518.2.2.2.2.1 bt518.2.2.2.2.2.1 bt518.2.2.2.2.2.2.1 130 bt518.2.2.2.2.2.2.2.2).bind fun bt528 => ((spec_CartWrite.f k bt518.1 bt518.2.1 bt518.2.2.1 bt518.2.2.2.1 bt518.2.2.2.2.1 bt518.2.2.2.2.2.1 bt518.2.2.2.2.2.2.1 130 bt518.2.2.2.2.2.2.2.2).bind fun bt537 => (if (bt528.2.2.2.2.2.2.2 != bt537.2.2.2.2.2.2.2) = true then (laws_FnBanks.j0 k bt518.2.2.2.2.2.2.2.2 bt528.2.2.2.2.2.2.2 bt537.2.2.2.2.2.2.2 true bt518.1 bt518.2.1 bt518.2.2.1 bt518.2.2.2.1 bt518.2.2.2.2.1 bt518.2.2.2.2.2.1 bt518.2.2.2.2.2.2.1 bt528.1 bt528.2.1 bt528.2.2.1 bt528.2.2.2.1 bt528.2.2.2.2.1 bt528.2.2.2.2.2.1 bt528.2.2.2.2.2.2.1) else (laws_FnBanks.j0 k bt518.2.2.2.2.2.2.2.2 bt528.2.2.2.2.2.2.2 bt537.2.2.2.2.2.2.2 (!bt528.2.2.2.2.2.2.2) bt518.1 bt518.2.1 bt518.2.2.1 bt518.2.2.2.1 bt518.2.2.2.2.1 bt518.2.2.2.2.2.1 bt518.2.2.2.2.2.2.1 bt528.1 bt528.2.1 bt528.2.2.1 bt528.2.2.2.1 bt528.2.2.2.2.1 bt528.2.2.2.2.2.1 bt528.2.2.2.2.2.2.1))))))) = some r := h
 clear h
 replace H := Option.bind_eq_some_iff.mp H
 obtain ⟨t517, A20, H⟩ := H
 have A2 := Aside0.mk A20
 clear A20
 by_cases c3 : t517 = true
 ·subst c3
  have H1 : (some true) = some r := by rw [if_pos rfl] at H; exact H
  clear H
  have H := H1
  clear H1
  obtain rfl := Option.some.inj H
  go_enter Try.func6, Try.ntmps6
  go_wp2_with (first | ((with_reducible refine gate_callee (f := 12) rfl ?_); refine goesL_ (some 14) rfl rfl Try.func12 (by kernel_rfl) rfl #[.slice A0 l0.length c0] rfl q99_ ?_; (with_reducible refine (laws_big.calls _ _ l0 true _ ?side1 ?side2 A2.out).mono ?_); (case side1 => exact q169_); (case side2 => exact HC0.out); rintro e w' ⟨rfl, ⟨nd, rfl⟩⟩; refine ⟨_, rfl, ?_⟩))
  go_ret
  exact ⟨q101_, q100_⟩
 ·replace c3 := Bool.eq_false_iff.mpr c3
  subst c3
  have H1 : ((spec_DrawCartWrite.f k l0).bind fun bt518 => ((impl_CartWrite.f k bt518.1 bt518.2.1 bt518.2.2.1 bt518.2.2.2.1 bt518.2.2.2.2.1 bt518.2.2.2.2.2.1 bt518.2.2.2.2.2.2.1 130 bt518.2.2.2.2.2.2.2.2).bind fun bt528 => ((spec_CartWrite.f k bt518.1 bt518.2.1 bt518.2.2.1 bt518.2.2.2.1 bt518.2.2.2.2.1 bt518.2.2.2.2.2.1 bt518.2.2.2.2.2.2.1 130 bt518.2.2.2.2.2.2.2.2).bind fun bt537 => (if (bt528.2.2.2.2.2.2.2 != bt537.2.2.2.2.2.2.2) = true then (laws_FnBanks.j0 k bt518.2.2.2.2.2.2.2.2 bt528.2.2.2.2.2.2.2 bt537.2.2.2.2.2.2.2 true bt518.1 bt518.2.1 bt518.2.2.1 bt518.2.2.2.1 bt518.2.2.2.2.1 bt518.2.2.2.2.2.1 bt518.2.2.2.2.2.2.1 bt528.1 bt528.2.1 bt528.2.2.1 bt528.2.2.2.1 bt528.2.2.2.2.1 bt528.2.2.2.2.2.1 bt528.2.2.2.2.2.2.1) else (laws_FnBanks.j0 k bt518.2.2.2.2.2.2.2.2 bt528.2.2.2.2.2.2.2 bt537.2.2.2.2.2.2.2 (!bt528.2.2.2.2.2.2.2) bt518.1 bt518.2.1 bt518.2.2.1 bt518.2.2.2.1 bt518.2.2.2.2.1 bt518.2.2.2.2.2.1 bt518.2.2.2.2.2.2.1 bt528.1 bt528.2.1 bt528.2.2.1 bt528.2.2.2.1 bt528.2.2.2.2.1 bt528.2.2.2.2.2.1 bt528.2.2.2.2.2.2.1))))) = some r := by rw [if_neg (show ¬ (false = true) by decide)] at H; exact H
  clear H
  have H := H1
  clear H1
  replace H := Option.bind_eq_some_iff.mp H
  obtain ⟨⟨t518, t519, t520, t521, t522, t523, t524, t525, t526⟩, A40, H⟩ := H
  replace H : ((impl_CartWrite.f k t518 t519 t520 t521 t522 t523 t524 130 t526).bind fun bt528 => ((spec_CartWrite.f k t518 t519 t520 t521 t522 t523 t524 130 t526).bind fun bt537 => (if (bt528.2.2.2.2.2.2.2 != bt537.2.2.2.2.2.2.2) = true then (laws_FnBanks.j0 k t526 bt528.2.2.2.2.2.2.2 bt537.2.2.2.2.2.2.2 true t518 t519 t520 t521 t522 t523 t524 bt528.1 bt528.2.1 bt528.2.2.1 bt528.2.2.2.1 bt528.2.2.2.2.1 bt528.2.2.2.2.2.1 bt528.2.2.2.2.2.2.1) else (laws_FnBanks.j0 k t526 bt528.2.2.2.2.2.2.2 bt537.2.2.2.2.2.2.2 (!bt528.2.2.2.2.2.2.2) t518 t519 t520 t521 t522 t523 t524 bt528.1 bt528.2.1 bt528.2.2.1 bt528.2.2.2.1 bt528.2.2.2.2.1 bt528.2.2.2.2.2.1 bt528.2.2.2.2.2.2.1)))) = some r := H
  have A4 := Aside0.mk A40
  clear A40
  replace H := Option.bind_eq_some_iff.mp H
  obtain ⟨⟨t528, t529, t530, t531, t532, t533, t534, t535⟩, A50, H⟩ := H
  replace H : ((spec_CartWrite.f k t518 t519 t520 t521 t522 t523 t524 130 t526).bind fun bt537 => (if (t535 != bt537.2.2.2.2.2.2.2) = true then (laws_FnBanks.j0 k t526 t535 bt537.2.2.2.2.2.2.2 true t518 t519 t520 t521 t522 t523 t524 t528 t529 t530 t531 t532 t533 t534) else (laws_FnBanks.j0 k t526 t535 bt537.2.2.2.2.2.2.2 (!t535) t518 t519 t520 t521 t522 t523 t524 t528 t529 t530 t531 t532 t533 t534))) = some r := H
  have A5 := Aside0.mk A50
  clear A50
  replace H := Option.bind_eq_some_iff.mp H
  obtain ⟨⟨t537, t538, t539, t540, t541, t542, t543, t544⟩, A60, H⟩ := H
  replace H : (if (t535 != t544) = true then (laws_FnBanks.j0 k t526 t535 t544 true t518 t519 t520 t521 t522 t523 t524 t528 t529 t530 t531 t532 t533 t534) else (laws_FnBanks.j0 k t526 t535 t544 (!t535) t518 t519 t520 t521 t522 t523 t524 t528 t529 t530 t531 t532 t533 t534)) = some r := H
  have A6 := Aside0.mk A60
  clear A60
  have HC7 := Aside0.mk H
  clear H
  go_enter Try.func6, Try.ntmps6
  go_upto_region 6 with (first | ((with_reducible refine gate_callee (f := 12) rfl ?_); refine goesL_ (some 14) rfl rfl Try.func12 (by kernel_rfl) rfl #[.slice A0 l0.length c0] rfl q99_ ?_; (with_reducible refine (laws_big.calls _ _ l0 false _ ?side1 ?side2 A2.out).mono ?_); (case side1 => exact q169_); (case side2 => exact HC0.out); rintro e w' ⟨rfl, ⟨nd, rfl⟩⟩; refine ⟨_, rfl, ?_⟩) | ((with_reducible refine gate_callee (f := 17) rfl ?_); refine goesL_ (some 17) rfl rfl Try.func17 (by kernel_rfl) rfl #[.slice A0 l0.length c0] rfl q99_ ?_; (with_reducible refine (spec_DrawCartWrite.calls k _ _ l0 t518 t519 t520 t521 t522 t523 t524 t525 t526 _ ?side1 ?side2 A4.out).mono ?_); (case side1 => exact q169_); (case side2 => exact HC0.out); rintro e w8 ⟨rfl, hb⟩; refine ⟨_, rfl, ?_⟩; replace HB := Aside0.mk (below_step q100_ hb); (try clear hb)) | ((with_reducible refine gate_dst (N := 3) rfl ?_); refine box_event ?hg (N := 3) ?hd (cs := #[.string (⟨#[]⟩ : ByteArray), .int .i64 0, .int .i64 0, .string (⟨#[]⟩ : ByteArray), .int .i64 0, .bool false, .int .i64 0]) (t := 32) ?hr ?_; (case hd => rfl); (case hg => rfl); (case hr => exact q171_); intro gb527 hg w9 hbox hb; have n0_ := Aside0.mk (below_step q100_ hb); have n1_ := Aside0.mk (hbox); have n2_ := Aside0.mk ((q79_ : w.heap.size ≤ gb527)); have n3_ := Aside0.mk ((q79_ : w.heap.size ≤ gb527)); clear HB; have HB := n0_; have BK527 := n1_; have GW527 := n2_; have GE527 := n3_; clear n0_ n1_ n2_ n3_; clear hb hbox hg; have hcz10_0 : w9.cell? ⟨gb527, 0, none⟩ = some (.string (⟨#[]⟩ : ByteArray)) := (blk_cell BK527.out 0).trans rfl; have hcz10_1 : w9.cell? ⟨gb527, 1, none⟩ = some (.int .i64 0) := (blk_cell BK527.out 1).trans rfl; have hcz10_2 : w9.cell? ⟨gb527, 2, none⟩ = some (.int .i64 0) := (blk_cell BK527.out 2).trans rfl; have hcz10_3 : w9.cell? ⟨gb527, 3, none⟩ = some (.string (⟨#[]⟩ : ByteArray)) := (blk_cell BK527.out 3).trans rfl; have hcz10_4 : w9.cell? ⟨gb527, 4, none⟩ = some (.int .i64 0) := (blk_cell BK527.out 4).trans rfl; have hcz10_5 : w9.cell? ⟨gb527, 5, none⟩ = some (.bool false) := (blk_cell BK527.out 5).trans rfl; have hcz10_6 : w9.cell? ⟨gb527, 6, none⟩ = some (.int .i64 0) := (blk_cell BK527.out 6).trans rfl; have hfz10_0 := blk_frozen BK527.out 0; have hfz10_1 := blk_frozen BK527.out 1; have hfz10_2 := blk_frozen BK527.out 2; have hfz10_3 := blk_frozen BK527.out 3; have hfz10_4 := blk_frozen BK527.out 4; have hfz10_5 := blk_frozen BK527.out 5; have hfz10_6 := blk_frozen BK527.out 6) | ((with_reducible refine gate_callee (f := 18) rfl ?_); refine goesL_ (some 24) rfl rfl Try.func18 (by kernel_rfl) rfl #[.agg #[.string t518, .int .i64 t519, .int .i64 t520, .string t521, .int .i64 t522, .bool t523, .int .i64 t524], .int .i64 130, .int .i64 t526] rfl q99_ ?_; (with_reducible refine (impl_CartWrite.calls k t518 t519 t520 t521 t522 t523 t524 130 t526 t528 t529 t530 t531 t532 t533 t534 t535 _ A5.out).mono ?_); rintro e w11 ⟨rfl, hb⟩; refine ⟨_, rfl, ?_⟩; have n0_ := Aside0.mk (blk_below (g := gb527) (o := .cells #[.string t518, .int .i64 t519, .int .i64 t520, .string t521, .int .i64 t522, .bool t523, .int .i64 t524] 32 (0, 0)) (by (with_reducible repeat (first | refine blk_drewN ?_ _ | refine blk_drew ?_ | refine blk_alloc ?_ _)); refine blk_put (cs := #[.string t518, .int .i64 t519, .int .i64 t520, .string t521, .int .i64 t522, .bool t523, .int .i64 0]) ?_ 6 _ rfl; (with_reducible repeat (first | refine blk_drewN ?_ _ | refine blk_drew ?_ | refine blk_alloc ?_ _)); refine blk_put (cs := #[.string t518, .int .i64 t519, .int .i64 t520, .string t521, .int .i64 t522, .bool false, .int .i64 0]) ?_ 5 _ rfl; (with_reducible repeat (first | refine blk_drewN ?_ _ | refine blk_drew ?_ | refine blk_alloc ?_ _)); refine blk_put (cs := #[.string t518, .int .i64 t519, .int .i64 t520, .string t521, .int .i64 0, .bool false, .int .i64 0]) ?_ 4 _ rfl; (with_reducible repeat (first | refine blk_drewN ?_ _ | refine blk_drew ?_ | refine blk_alloc ?_ _)); refine blk_put (cs := #[.string t518, .int .i64 t519, .int .i64 t520, .string (⟨#[]⟩ : ByteArray), .int .i64 0, .bool false, .int .i64 0]) ?_ 3 _ rfl; (with_reducible repeat (first | refine blk_drewN ?_ _ | refine blk_drew ?_ | refine blk_alloc ?_ _)); refine blk_put (cs := #[.string t518, .int .i64 t519, .int .i64 0, .string (⟨#[]⟩ : ByteArray), .int .i64 0, .bool false, .int .i64 0]) ?_ 2 _ rfl; (with_reducible repeat (first | refine blk_drewN ?_ _ | refine blk_drew ?_ | refine blk_alloc ?_ _)); refine blk_put (cs := #[.string t518, .int .i64 0, .int .i64 0, .string (⟨#[]⟩ : ByteArray), .int .i64 0, .bool false, .int .i64 0]) ?_ 1 _ rfl; (with_reducible repeat (first | refine blk_drewN ?_ _ | refine blk_drew ?_ | refine blk_alloc ?_ _)); refine blk_put (cs := #[.string (⟨#[]⟩ : ByteArray), .int .i64 0, .int .i64 0, .string (⟨#[]⟩ : ByteArray), .int .i64 0, .bool false, .int .i64 0]) ?_ 0 _ rfl; (with_reducible repeat (first | refine blk_drewN ?_ _ | refine blk_drew ?_ | refine blk_alloc ?_ _)); exact BK527.out) hb); have n1_ := Aside0.mk (below_step q92_ hb); clear BK527; clear HB; have BK527 := n0_; have HB := n1_; clear n0_ n1_; (try clear hb)) | ((with_reducible refine gate_dst (N := 6) rfl ?_); refine box_event ?hg (N := 6) ?hd (cs := #[.string (⟨#[]⟩ : ByteArray), .int .i64 0, .int .i64 0, .string (⟨#[]⟩ : ByteArray), .int .i64 0, .bool false, .int .i64 0]) (t := 32) ?hr ?_; (case hd => rfl); (case hg => rfl); (case hr => exact q171_); intro gb536 hg w12 hbox hb; have n0_ := Aside0.mk (blk_below (g := gb527) (o := .cells #[.string t518, .int .i64 t519, .int .i64 t520, .string t521, .int .i64 t522, .bool t523, .int .i64 t524] 32 (0, 0)) q125_ hb); have n1_ := Aside0.mk (below_step q92_ hb); have n2_ := Aside0.mk (hbox); have n3_ := Aside0.mk ((q65_ : w.heap.size ≤ gb536)); have n4_ := Aside0.mk ((q65_ : w.heap.size ≤ gb536)); have n5_ := Aside0.mk ((q28_ : gb527 ≠ gb536)); have n6_ := Aside0.mk ((q29_ : gb536 ≠ gb527)); clear BK527; clear HB; have BK527 := n0_; have HB := n1_; have BK536 := n2_; have GW536 := n3_; have GE536 := n4_; have NB527_536 := n5_; have NB536_527 := n6_; clear n0_ n1_ n2_ n3_ n4_ n5_ n6_; clear hb hbox hg; have hnb13 := NB536_527.out; have hnc13 := NB527_536.out; have hcz14_0 : w12.cell? ⟨gb536, 0, none⟩ = some (.string (⟨#[]⟩ : ByteArray)) := (blk_cell BK536.out 0).trans rfl; have hcz14_1 : w12.cell? ⟨gb536, 1, none⟩ = some (.int .i64 0) := (blk_cell BK536.out 1).trans rfl; have hcz14_2 : w12.cell? ⟨gb536, 2, none⟩ = some (.int .i64 0) := (blk_cell BK536.out 2).trans rfl; have hcz14_3 : w12.cell? ⟨gb536, 3, none⟩ = some (.string (⟨#[]⟩ : ByteArray)) := (blk_cell BK536.out 3).trans rfl; have hcz14_4 : w12.cell? ⟨gb536, 4, none⟩ = some (.int .i64 0) := (blk_cell BK536.out 4).trans rfl; have hcz14_5 : w12.cell? ⟨gb536, 5, none⟩ = some (.bool false) := (blk_cell BK536.out 5).trans rfl; have hcz14_6 : w12.cell? ⟨gb536, 6, none⟩ = some (.int .i64 0) := (blk_cell BK536.out 6).trans rfl; have hfz14_0 := blk_frozen BK536.out 0; have hfz14_1 := blk_frozen BK536.out 1; have hfz14_2 := blk_frozen BK536.out 2; have hfz14_3 := blk_frozen BK536.out 3; have hfz14_4 := blk_frozen BK536.out 4; have hfz14_5 := blk_frozen BK536.out 5; have hfz14_6 := blk_frozen BK536.out 6; have hcz15_0 : w12.cell? ⟨gb527, 0, none⟩ = some (.string t518) := (blk_cell BK527.out 0).trans rfl; have hcz15_1 : w12.cell? ⟨gb527, 1, none⟩ = some (.int .i64 t519) := (blk_cell BK527.out 1).trans rfl; have hcz15_2 : w12.cell? ⟨gb527, 2, none⟩ = some (.int .i64 t520) := (blk_cell BK527.out 2).trans rfl; have hcz15_3 : w12.cell? ⟨gb527, 3, none⟩ = some (.string t521) := (blk_cell BK527.out 3).trans rfl; have hcz15_4 : w12.cell? ⟨gb527, 4, none⟩ = some (.int .i64 t522) := (blk_cell BK527.out 4).trans rfl; have hcz15_5 : w12.cell? ⟨gb527, 5, none⟩ = some (.bool t523) := (blk_cell BK527.out 5).trans rfl; have hcz15_6 : w12.cell? ⟨gb527, 6, none⟩ = some (.int .i64 t524) := (blk_cell BK527.out 6).trans rfl; have hfz15_0 := blk_frozen BK527.out 0; have hfz15_1 := blk_frozen BK527.out 1; have hfz15_2 := blk_frozen BK527.out 2; have hfz15_3 := blk_frozen BK527.out 3; have hfz15_4 := blk_frozen BK527.out 4; have hfz15_5 := blk_frozen BK527.out 5; have hfz15_6 := blk_frozen BK527.out 6) | ((with_reducible refine gate_callee (f := 19) rfl ?_); refine goesL_ (some 30) rfl rfl Try.func19 (by kernel_rfl) rfl #[.agg #[.string t518, .int .i64 t519, .int .i64 t520, .string t521, .int .i64 t522, .bool t523, .int .i64 t524], .int .i64 130, .int .i64 t526] rfl q99_ ?_; (with_reducible refine (spec_CartWrite.calls k t518 t519 t520 t521 t522 t523 t524 130 t526 t537 t538 t539 t540 t541 t542 t543 t544 _ A6.out).mono ?_); rintro e w16 ⟨rfl, hb⟩; refine ⟨_, rfl, ?_⟩; have n0_ := Aside0.mk (blk_below (g := gb527) (o := .cells #[.string t518, .int .i64 t519, .int .i64 t520, .string t521, .int .i64 t522, .bool t523, .int .i64 t524] 32 (0, 0)) (by (with_reducible repeat (first | refine blk_drewN ?_ _ | refine blk_drew ?_ | refine blk_alloc ?_ _)); refine blk_far ?_ NB527_536.out _; (with_reducible repeat (first | refine blk_drewN ?_ _ | refine blk_drew ?_ | refine blk_alloc ?_ _)); refine blk_far ?_ NB527_536.out _; (with_reducible repeat (first | refine blk_drewN ?_ _ | refine blk_drew ?_ | refine blk_alloc ?_ _)); refine blk_far ?_ NB527_536.out _; (with_reducible repeat (first | refine blk_drewN ?_ _ | refine blk_drew ?_ | refine blk_alloc ?_ _)); refine blk_far ?_ NB527_536.out _; (with_reducible repeat (first | refine blk_drewN ?_ _ | refine blk_drew ?_ | refine blk_alloc ?_ _)); refine blk_far ?_ NB527_536.out _; (with_reducible repeat (first | refine blk_drewN ?_ _ | refine blk_drew ?_ | refine blk_alloc ?_ _)); refine blk_far ?_ NB527_536.out _; (with_reducible repeat (first | refine blk_drewN ?_ _ | refine blk_drew ?_ | refine blk_alloc ?_ _)); refine blk_far ?_ NB527_536.out _; (with_reducible repeat (first | refine blk_drewN ?_ _ | refine blk_drew ?_ | refine blk_alloc ?_ _)); exact BK527.out) hb); have n1_ := Aside0.mk (blk_below (g := gb536) (o := .cells #[.string t528, .int .i64 t529, .int .i64 t530, .string t531, .int .i64 t532, .bool t533, .int .i64 t534] 32 (0, 0)) (by (with_reducible repeat (first | refine blk_drewN ?_ _ | refine blk_drew ?_ | refine blk_alloc ?_ _)); refine blk_put (cs := #[.string t528, .int .i64 t529, .int .i64 t530, .string t531, .int .i64 t532, .bool t533, .int .i64 0]) ?_ 6 _ rfl; (with_reducible repeat (first | refine blk_drewN ?_ _ | refine blk_drew ?_ | refine blk_alloc ?_ _)); refine blk_put (cs := #[.string t528, .int .i64 t529, .int .i64 t530, .string t531, .int .i64 t532, .bool false, .int .i64 0]) ?_ 5 _ rfl; (with_reducible repeat (first | refine blk_drewN ?_ _ | refine blk_drew ?_ | refine blk_alloc ?_ _)); refine blk_put (cs := #[.string t528, .int .i64 t529, .int .i64 t530, .string t531, .int .i64 0, .bool false, .int .i64 0]) ?_ 4 _ rfl; (with_reducible repeat (first | refine blk_drewN ?_ _ | refine blk_drew ?_ | refine blk_alloc ?_ _)); refine blk_put (cs := #[.string t528, .int .i64 t529, .int .i64 t530, .string (⟨#[]⟩ : ByteArray), .int .i64 0, .bool false, .int .i64 0]) ?_ 3 _ rfl; (with_reducible repeat (first | refine blk_drewN ?_ _ | refine blk_drew ?_ | refine blk_alloc ?_ _)); refine blk_put (cs := #[.string t528, .int .i64 t529, .int .i64 0, .string (⟨#[]⟩ : ByteArray), .int .i64 0, .bool false, .int .i64 0]) ?_ 2 _ rfl; (with_reducible repeat (first | refine blk_drewN ?_ _ | refine blk_drew ?_ | refine blk_alloc ?_ _)); refine blk_put (cs := #[.string t528, .int .i64 0, .int .i64 0, .string (⟨#[]⟩ : ByteArray), .int .i64 0, .bool false, .int .i64 0]) ?_ 1 _ rfl; (with_reducible repeat (first | refine blk_drewN ?_ _ | refine blk_drew ?_ | refine blk_alloc ?_ _)); refine blk_put (cs := #[.string (⟨#[]⟩ : ByteArray), .int .i64 0, .int .i64 0, .string (⟨#[]⟩ : ByteArray), .int .i64 0, .bool false, .int .i64 0]) ?_ 0 _ rfl; (with_reducible repeat (first | refine blk_drewN ?_ _ | refine blk_drew ?_ | refine blk_alloc ?_ _)); exact BK536.out) hb); have n2_ := Aside0.mk (below_step q71_ hb); clear BK527; clear BK536; clear HB; have BK527 := n0_; have BK536 := n1_; have HB := n2_; clear n0_ n1_ n2_; (try clear hb)) | ((with_reducible refine gate_dst (N := 8) rfl ?_); refine box_event ?hg (N := 8) ?hd (cs := #[.string (⟨#[]⟩ : ByteArray), .int .i64 0, .int .i64 0, .string (⟨#[]⟩ : ByteArray), .int .i64 0, .bool false, .int .i64 0]) (t := 32) ?hr ?_; (case hd => rfl); (case hg => rfl); (case hr => exact q171_); intro gb545 hg w17 hbox hb; have n0_ := Aside0.mk (blk_below (g := gb527) (o := .cells #[.string t518, .int .i64 t519, .int .i64 t520, .string t521, .int .i64 t522, .bool t523, .int .i64 t524] 32 (0, 0)) q125_ hb); have n1_ := Aside0.mk (blk_below (g := gb536) (o := .cells #[.string t528, .int .i64 t529, .int .i64 t530, .string t531, .int .i64 t532, .bool t533, .int .i64 t534] 32 (0, 0)) q126_ hb); have n2_ := Aside0.mk (below_step q71_ hb); have n3_ := Aside0.mk (hbox); have n4_ := Aside0.mk ((q42_ : w.heap.size ≤ gb545)); have n5_ := Aside0.mk ((q42_ : w.heap.size ≤ gb545)); have n6_ := Aside0.mk ((q28_ : gb527 ≠ gb545)); have n7_ := Aside0.mk ((q29_ : gb545 ≠ gb527)); have n8_ := Aside0.mk ((by rw [hg]; exact Nat.ne_of_lt (blk_lt (g := gb536) (o := .cells #[.string t528, .int .i64 t529, .int .i64 t530, .string t531, .int .i64 t532, .bool t533, .int .i64 t534] 32 (0, 0)) q126_) : gb536 ≠ gb545)); have n9_ := Aside0.mk ((by rw [hg]; exact Nat.ne_of_gt (blk_lt (g := gb536) (o := .cells #[.string t528, .int .i64 t529, .int .i64 t530, .string t531, .int .i64 t532, .bool t533, .int .i64 t534] 32 (0, 0)) q126_) : gb545 ≠ gb536)); clear BK527; clear BK536; clear HB; have BK527 := n0_; have BK536 := n1_; have HB := n2_; have BK545 := n3_; have GW545 := n4_; have GE545 := n5_; have NB527_545 := n6_; have NB545_527 := n7_; have NB536_545 := n8_; have NB545_536 := n9_; clear n0_ n1_ n2_ n3_ n4_ n5_ n6_ n7_ n8_ n9_; clear hb hbox hg; have hnb18 := NB545_527.out; have hnc18 := NB527_545.out; have hnb19 := NB545_536.out; have hnc19 := NB536_545.out; have hcz20_0 : w17.cell? ⟨gb545, 0, none⟩ = some (.string (⟨#[]⟩ : ByteArray)) := (blk_cell BK545.out 0).trans rfl; have hcz20_1 : w17.cell? ⟨gb545, 1, none⟩ = some (.int .i64 0) := (blk_cell BK545.out 1).trans rfl; have hcz20_2 : w17.cell? ⟨gb545, 2, none⟩ = some (.int .i64 0) := (blk_cell BK545.out 2).trans rfl; have hcz20_3 : w17.cell? ⟨gb545, 3, none⟩ = some (.string (⟨#[]⟩ : ByteArray)) := (blk_cell BK545.out 3).trans rfl; have hcz20_4 : w17.cell? ⟨gb545, 4, none⟩ = some (.int .i64 0) := (blk_cell BK545.out 4).trans rfl; have hcz20_5 : w17.cell? ⟨gb545, 5, none⟩ = some (.bool false) := (blk_cell BK545.out 5).trans rfl; have hcz20_6 : w17.cell? ⟨gb545, 6, none⟩ = some (.int .i64 0) := (blk_cell BK545.out 6).trans rfl; have hfz20_0 := blk_frozen BK545.out 0; have hfz20_1 := blk_frozen BK545.out 1; have hfz20_2 := blk_frozen BK545.out 2; have hfz20_3 := blk_frozen BK545.out 3; have hfz20_4 := blk_frozen BK545.out 4; have hfz20_5 := blk_frozen BK545.out 5; have hfz20_6 := blk_frozen BK545.out 6))
  (try simp only [Act.put, List.setIfInBounds_toArray, List.set_cons_zero, List.set_cons_succ])
  go_cut [39] (fun v39 wc => ∃ (kq : Nat) (x39_6 : Bool), v39 = .bool x39_6 ∧ Aside0 (laws_FnBanks.j0 kq t526 t535 t544 x39_6 t518 t519 t520 t521 t522 t523 t524 t528 t529 t530 t531 t532 t533 t534 = some r) ∧ Aside0 (kq ≤ k) ∧ Aside0 (wc.heap[gb527]? = some (.cells #[.string t518, .int .i64 t519, .int .i64 t520, .string t521, .int .i64 t522, .bool t523, .int .i64 t524] 32 (0, 0))) ∧ Aside0 (wc.heap[gb536]? = some (.cells #[.string t528, .int .i64 t529, .int .i64 t530, .string t531, .int .i64 t532, .bool t533, .int .i64 t534] 32 (0, 0))) ∧ Aside0 (wc.heap[gb545]? = some (.cells #[.string t537, .int .i64 t538, .int .i64 t539, .string t540, .int .i64 t541, .bool t542, .int .i64 t543] 32 (0, 0))) ∧ Aside0 (Below w.heap.size w wc))
  case first =>
   have H := HC7.out
   clear HC7
   by_cases c21 : (t535 != t544) = true
   ·rw [if_pos c21] at H
    have c21b0 : (t535 != t544) = true := c21
    (try (have c21b1 : decide (t535 = t544) = false := by simpa using c21))
    (try (have c21b2 : (t535 == t544) = false := by simpa using c21))
    (try (have c21b3 : ¬ (t535 = t544) := by simpa using c21))
    clear c21
    (first | rw [c21b0] | (simp only [i64_w, i32_w]; rw [c21b0]) | skip)
    have H' := Aside0.mk H
    clear H
    go_wp2
    go_meet
    case rel => exact ⟨_, (true), q129_, H', ⟨q149_⟩, ⟨q11_⟩, ⟨q12_⟩, ⟨q6_⟩, ⟨q43_⟩⟩
   ·rw [if_neg c21] at H
    have c21b0 : (t535 != t544) = false := by simpa using c21
    (try (have c21b1 : decide (t535 = t544) = true := by simpa using c21))
    (try (have c21b2 : (t535 == t544) = true := by simpa using c21))
    clear c21
    (first | rw [c21b0] | (simp only [i64_w, i32_w]; rw [c21b0]) | skip)
    have H' := Aside0.mk H
    clear H
    go_wp2
    go_meet
    case rel => exact ⟨_, (!t535), q129_, H', ⟨q149_⟩, ⟨q11_⟩, ⟨q12_⟩, ⟨q6_⟩, ⟨q43_⟩⟩
  case rest =>
   clear HC7
   try clear c1
   try clear c2
   try clear p2
   try clear c3
   try clear c6
   try clear p6
   try clear c12
   try clear c13
   try clear c17
   try clear c18
   try clear c19
   try clear c21
   try clear c21b0
   try clear c21b1
   try clear c21b2
   try clear hcz10_0
   try clear hcz10_1
   try clear hcz10_2
   try clear hcz10_3
   try clear hcz10_4
   try clear hcz10_5
   try clear hcz10_6
   try clear hcz14_0
   try clear hcz14_1
   try clear hcz14_2
   try clear hcz14_3
   try clear hcz14_4
   try clear hcz14_5
   try clear hcz14_6
   try clear hcz15_0
   try clear hcz15_1
   try clear hcz15_2
   try clear hcz15_3
   try clear hcz15_4
   try clear hcz15_5
   try clear hcz15_6
   try clear hcz20_0
   try clear hcz20_1
   try clear hcz20_2
   try clear hcz20_3
   try clear hcz20_4
   try clear hcz20_5
   try clear hcz20_6
   try clear hfz10_0
   try clear hfz10_1
   try clear hfz10_2
   try clear hfz10_3
   try clear hfz10_4
   try clear hfz10_5
   try clear hfz10_6
   try clear hfz14_0
   try clear hfz14_1
   try clear hfz14_2
   try clear hfz14_3
   try clear hfz14_4
   try clear hfz14_5
   try clear hfz14_6
   try clear hfz15_0
   try clear hfz15_1
   try clear hfz15_2
   try clear hfz15_3
   try clear hfz15_4
   try clear hfz15_5
   try clear hfz15_6
   try clear hfz20_0
   try clear hfz20_1
   try clear hfz20_2
   try clear hfz20_3
   try clear hfz20_4
   try clear hfz20_5
   try clear hfz20_6
   obtain ⟨kq, x39_6, rfl, HA, HJ6, BK527, BK536, BK545, HB⟩ := hcut
   cases kq with
   | zero => exact absurd HA.out (by simp [laws_FnBanks.j0])
   | succ kj6 =>
    have H := HA.out
    clear HA
    simp only [laws_FnBanks.j0] at H
    by_cases c22 : x39_6 = true
    ·subst c22
     have H1 : (some (t535 == t544)) = some r := by rw [if_pos rfl] at H; exact H
     clear H
     have H := H1
     clear H1
     obtain rfl := Option.some.inj H
     go_wp2
     go_ret
     exact ⟨q101_, q43_⟩
    ·replace c22 := Bool.eq_false_iff.mpr c22
     subst c22
     have H1 : ((impl_MappedBank.f kj6 t528 t529 t530 t531 t532 t533 t534).bind fun t546 => (if t519 = 0 then (some (t546 == 1)) else (if t519 = 2 then (if (wrap64 ((t518.size : Int) / 256)) = 0 then (none) else (some (t546 == (Int.tmod t526 (wrap64 ((t518.size : Int) / 256)))))) else (if (Int.tmod t526 32) = 0 then (if (wrap64 ((t518.size : Int) / 256)) = 0 then (none) else (some (t546 == ((1 : Int) % (wrap64 ((t518.size : Int) / 256)))))) else (if (wrap64 ((t518.size : Int) / 256)) = 0 then (none) else (some (t546 == (Int.tmod (Int.tmod t526 32) (wrap64 ((t518.size : Int) / 256)))))))))) = some r := by rw [if_neg (show ¬ (false = true) by decide)] at H; exact H
     clear H
     have H := H1
     clear H1
     replace H := Option.bind_eq_some_iff.mp H
     obtain ⟨t546, A230, H⟩ := H
     have A23 := Aside0.mk A230
     clear A230
     by_cases c24 : t519 = 0
     ·rw [if_pos c24] at H
      have c24b0 : (t519 == 0) = true := beq_iff_eq.mpr c24
      have c24b1 : (t519 != 0) = false := bne_eq_false_iff_eq.mpr c24
      clear c24
      obtain rfl := Option.some.inj H
      have hnb25 := NB527_536.out
      have hnc25 := NB536_527.out
      have hnb26 := NB527_545.out
      have hnc26 := NB545_527.out
      have hcz27_0 : wc.cell? ⟨gb527, 0, none⟩ = some (.string t518) := (blk_cell BK527.out 0).trans rfl
      have hcz27_1 : wc.cell? ⟨gb527, 1, none⟩ = some (.int .i64 t519) := (blk_cell BK527.out 1).trans rfl
      have hcz27_2 : wc.cell? ⟨gb527, 2, none⟩ = some (.int .i64 t520) := (blk_cell BK527.out 2).trans rfl
      have hcz27_3 : wc.cell? ⟨gb527, 3, none⟩ = some (.string t521) := (blk_cell BK527.out 3).trans rfl
      have hcz27_4 : wc.cell? ⟨gb527, 4, none⟩ = some (.int .i64 t522) := (blk_cell BK527.out 4).trans rfl
      have hcz27_5 : wc.cell? ⟨gb527, 5, none⟩ = some (.bool t523) := (blk_cell BK527.out 5).trans rfl
      have hcz27_6 : wc.cell? ⟨gb527, 6, none⟩ = some (.int .i64 t524) := (blk_cell BK527.out 6).trans rfl
      have hfz27_0 := blk_frozen BK527.out 0
      have hfz27_1 := blk_frozen BK527.out 1
      have hfz27_2 := blk_frozen BK527.out 2
      have hfz27_3 := blk_frozen BK527.out 3
      have hfz27_4 := blk_frozen BK527.out 4
      have hfz27_5 := blk_frozen BK527.out 5
      have hfz27_6 := blk_frozen BK527.out 6
      have hnb28 := NB536_545.out
      have hnc28 := NB545_536.out
      have hcz29_0 : wc.cell? ⟨gb536, 0, none⟩ = some (.string t528) := (blk_cell BK536.out 0).trans rfl
      have hcz29_1 : wc.cell? ⟨gb536, 1, none⟩ = some (.int .i64 t529) := (blk_cell BK536.out 1).trans rfl
      have hcz29_2 : wc.cell? ⟨gb536, 2, none⟩ = some (.int .i64 t530) := (blk_cell BK536.out 2).trans rfl
      have hcz29_3 : wc.cell? ⟨gb536, 3, none⟩ = some (.string t531) := (blk_cell BK536.out 3).trans rfl
      have hcz29_4 : wc.cell? ⟨gb536, 4, none⟩ = some (.int .i64 t532) := (blk_cell BK536.out 4).trans rfl
      have hcz29_5 : wc.cell? ⟨gb536, 5, none⟩ = some (.bool t533) := (blk_cell BK536.out 5).trans rfl
      have hcz29_6 : wc.cell? ⟨gb536, 6, none⟩ = some (.int .i64 t534) := (blk_cell BK536.out 6).trans rfl
      have hfz29_0 := blk_frozen BK536.out 0
      have hfz29_1 := blk_frozen BK536.out 1
      have hfz29_2 := blk_frozen BK536.out 2
      have hfz29_3 := blk_frozen BK536.out 3
      have hfz29_4 := blk_frozen BK536.out 4
      have hfz29_5 := blk_frozen BK536.out 5
      have hfz29_6 := blk_frozen BK536.out 6
      go_wp2_with (first | ((with_reducible refine gate_callee (f := 20) rfl ?_); refine goesL_ (some 48) rfl rfl Try.func20 (by kernel_rfl) rfl #[.agg #[.string t528, .int .i64 t529, .int .i64 t530, .string t531, .int .i64 t532, .bool t533, .int .i64 t534]] rfl q99_ ?_; (with_reducible refine (impl_MappedBank.calls kj6 t528 t529 t530 t531 t532 t533 t534 t546 _ A23.out).mono ?_); rintro e w30 ⟨rfl, hb⟩; refine ⟨_, rfl, ?_⟩; have n0_ := Aside0.mk (blk_below (g := gb527) (o := .cells #[.string t518, .int .i64 t519, .int .i64 t520, .string t521, .int .i64 t522, .bool t523, .int .i64 t524] 32 (0, 0)) q125_ hb); have n1_ := Aside0.mk (blk_below (g := gb536) (o := .cells #[.string t528, .int .i64 t529, .int .i64 t530, .string t531, .int .i64 t532, .bool t533, .int .i64 t534] 32 (0, 0)) q126_ hb); have n2_ := Aside0.mk (blk_below (g := gb545) (o := .cells #[.string t537, .int .i64 t538, .int .i64 t539, .string t540, .int .i64 t541, .bool t542, .int .i64 t543] 32 (0, 0)) q127_ hb); have n3_ := Aside0.mk (below_step q43_ hb); clear BK527; clear BK536; clear BK545; clear HB; have BK527 := n0_; have BK536 := n1_; have BK545 := n2_; have HB := n3_; clear n0_ n1_ n2_ n3_; (try clear hb); have hcz31_0 : w30.cell? ⟨gb527, 0, none⟩ = some (.string t518) := (blk_cell BK527.out 0).trans rfl; have hcz31_1 : w30.cell? ⟨gb527, 1, none⟩ = some (.int .i64 t519) := (blk_cell BK527.out 1).trans rfl; have hcz31_2 : w30.cell? ⟨gb527, 2, none⟩ = some (.int .i64 t520) := (blk_cell BK527.out 2).trans rfl; have hcz31_3 : w30.cell? ⟨gb527, 3, none⟩ = some (.string t521) := (blk_cell BK527.out 3).trans rfl; have hcz31_4 : w30.cell? ⟨gb527, 4, none⟩ = some (.int .i64 t522) := (blk_cell BK527.out 4).trans rfl; have hcz31_5 : w30.cell? ⟨gb527, 5, none⟩ = some (.bool t523) := (blk_cell BK527.out 5).trans rfl; have hcz31_6 : w30.cell? ⟨gb527, 6, none⟩ = some (.int .i64 t524) := (blk_cell BK527.out 6).trans rfl; have hfz31_0 := blk_frozen BK527.out 0; have hfz31_1 := blk_frozen BK527.out 1; have hfz31_2 := blk_frozen BK527.out 2; have hfz31_3 := blk_frozen BK527.out 3; have hfz31_4 := blk_frozen BK527.out 4; have hfz31_5 := blk_frozen BK527.out 5; have hfz31_6 := blk_frozen BK527.out 6))
      go_ret
      exact ⟨q101_, q43_⟩
     ·rw [if_neg c24] at H
      have c24b0 : (t519 == 0) = false := beq_eq_false_iff_ne.mpr c24
      have c24b1 : (t519 != 0) = true := bne_iff_ne.mpr c24
      by_cases c32 : t519 = 2
      ·rw [if_pos c32] at H
       have c32b0 : (t519 == 2) = true := beq_iff_eq.mpr c32
       have c32b1 : (t519 != 2) = false := bne_eq_false_iff_eq.mpr c32
       clear c32
       by_cases c33 : (wrap64 ((t518.size : Int) / 256)) = 0
       ·rw [if_pos c33] at H
        exact absurd H (by simp)
       ·rw [if_neg c33] at H
        have c33b0 : ((wrap64 ((t518.size : Int) / 256)) == 0) = false := beq_eq_false_iff_ne.mpr c33
        have c33b1 : ((wrap64 ((t518.size : Int) / 256)) != 0) = true := bne_iff_ne.mpr c33
        obtain rfl := Option.some.inj H
        have hnb34 := NB527_536.out
        have hnc34 := NB536_527.out
        have hnb35 := NB527_545.out
        have hnc35 := NB545_527.out
        have hcz36_0 : wc.cell? ⟨gb527, 0, none⟩ = some (.string t518) := (blk_cell BK527.out 0).trans rfl
        have hcz36_1 : wc.cell? ⟨gb527, 1, none⟩ = some (.int .i64 t519) := (blk_cell BK527.out 1).trans rfl
        have hcz36_2 : wc.cell? ⟨gb527, 2, none⟩ = some (.int .i64 t520) := (blk_cell BK527.out 2).trans rfl
        have hcz36_3 : wc.cell? ⟨gb527, 3, none⟩ = some (.string t521) := (blk_cell BK527.out 3).trans rfl
        have hcz36_4 : wc.cell? ⟨gb527, 4, none⟩ = some (.int .i64 t522) := (blk_cell BK527.out 4).trans rfl
        have hcz36_5 : wc.cell? ⟨gb527, 5, none⟩ = some (.bool t523) := (blk_cell BK527.out 5).trans rfl
        have hcz36_6 : wc.cell? ⟨gb527, 6, none⟩ = some (.int .i64 t524) := (blk_cell BK527.out 6).trans rfl
        have hfz36_0 := blk_frozen BK527.out 0
        have hfz36_1 := blk_frozen BK527.out 1
        have hfz36_2 := blk_frozen BK527.out 2
        have hfz36_3 := blk_frozen BK527.out 3
        have hfz36_4 := blk_frozen BK527.out 4
        have hfz36_5 := blk_frozen BK527.out 5
        have hfz36_6 := blk_frozen BK527.out 6
        have hnb37 := NB536_545.out
        have hnc37 := NB545_536.out
        have hcz38_0 : wc.cell? ⟨gb536, 0, none⟩ = some (.string t528) := (blk_cell BK536.out 0).trans rfl
        have hcz38_1 : wc.cell? ⟨gb536, 1, none⟩ = some (.int .i64 t529) := (blk_cell BK536.out 1).trans rfl
        have hcz38_2 : wc.cell? ⟨gb536, 2, none⟩ = some (.int .i64 t530) := (blk_cell BK536.out 2).trans rfl
        have hcz38_3 : wc.cell? ⟨gb536, 3, none⟩ = some (.string t531) := (blk_cell BK536.out 3).trans rfl
        have hcz38_4 : wc.cell? ⟨gb536, 4, none⟩ = some (.int .i64 t532) := (blk_cell BK536.out 4).trans rfl
        have hcz38_5 : wc.cell? ⟨gb536, 5, none⟩ = some (.bool t533) := (blk_cell BK536.out 5).trans rfl
        have hcz38_6 : wc.cell? ⟨gb536, 6, none⟩ = some (.int .i64 t534) := (blk_cell BK536.out 6).trans rfl
        have hfz38_0 := blk_frozen BK536.out 0
        have hfz38_1 := blk_frozen BK536.out 1
        have hfz38_2 := blk_frozen BK536.out 2
        have hfz38_3 := blk_frozen BK536.out 3
        have hfz38_4 := blk_frozen BK536.out 4
        have hfz38_5 := blk_frozen BK536.out 5
        have hfz38_6 := blk_frozen BK536.out 6
        go_wp2_with (first | ((with_reducible refine gate_callee (f := 20) rfl ?_); refine goesL_ (some 48) rfl rfl Try.func20 (by kernel_rfl) rfl #[.agg #[.string t528, .int .i64 t529, .int .i64 t530, .string t531, .int .i64 t532, .bool t533, .int .i64 t534]] rfl q99_ ?_; (with_reducible refine (impl_MappedBank.calls kj6 t528 t529 t530 t531 t532 t533 t534 t546 _ A23.out).mono ?_); rintro e w39 ⟨rfl, hb⟩; refine ⟨_, rfl, ?_⟩; have n0_ := Aside0.mk (blk_below (g := gb527) (o := .cells #[.string t518, .int .i64 t519, .int .i64 t520, .string t521, .int .i64 t522, .bool t523, .int .i64 t524] 32 (0, 0)) q125_ hb); have n1_ := Aside0.mk (blk_below (g := gb536) (o := .cells #[.string t528, .int .i64 t529, .int .i64 t530, .string t531, .int .i64 t532, .bool t533, .int .i64 t534] 32 (0, 0)) q126_ hb); have n2_ := Aside0.mk (blk_below (g := gb545) (o := .cells #[.string t537, .int .i64 t538, .int .i64 t539, .string t540, .int .i64 t541, .bool t542, .int .i64 t543] 32 (0, 0)) q127_ hb); have n3_ := Aside0.mk (below_step q43_ hb); clear BK527; clear BK536; clear BK545; clear HB; have BK527 := n0_; have BK536 := n1_; have BK545 := n2_; have HB := n3_; clear n0_ n1_ n2_ n3_; (try clear hb); have hcz40_0 : w39.cell? ⟨gb527, 0, none⟩ = some (.string t518) := (blk_cell BK527.out 0).trans rfl; have hcz40_1 : w39.cell? ⟨gb527, 1, none⟩ = some (.int .i64 t519) := (blk_cell BK527.out 1).trans rfl; have hcz40_2 : w39.cell? ⟨gb527, 2, none⟩ = some (.int .i64 t520) := (blk_cell BK527.out 2).trans rfl; have hcz40_3 : w39.cell? ⟨gb527, 3, none⟩ = some (.string t521) := (blk_cell BK527.out 3).trans rfl; have hcz40_4 : w39.cell? ⟨gb527, 4, none⟩ = some (.int .i64 t522) := (blk_cell BK527.out 4).trans rfl; have hcz40_5 : w39.cell? ⟨gb527, 5, none⟩ = some (.bool t523) := (blk_cell BK527.out 5).trans rfl; have hcz40_6 : w39.cell? ⟨gb527, 6, none⟩ = some (.int .i64 t524) := (blk_cell BK527.out 6).trans rfl; have hfz40_0 := blk_frozen BK527.out 0; have hfz40_1 := blk_frozen BK527.out 1; have hfz40_2 := blk_frozen BK527.out 2; have hfz40_3 := blk_frozen BK527.out 3; have hfz40_4 := blk_frozen BK527.out 4; have hfz40_5 := blk_frozen BK527.out 5; have hfz40_6 := blk_frozen BK527.out 6))
        go_ret
        exact ⟨q101_, q43_⟩
      ·rw [if_neg c32] at H
       have c32b0 : (t519 == 2) = false := beq_eq_false_iff_ne.mpr c32
       have c32b1 : (t519 != 2) = true := bne_iff_ne.mpr c32
       by_cases c41 : (Int.tmod t526 32) = 0
       ·rw [if_pos c41] at H
        have c41b0 : ((Int.tmod t526 32) == 0) = true := beq_iff_eq.mpr c41
        have c41b1 : ((Int.tmod t526 32) != 0) = false := bne_eq_false_iff_eq.mpr c41
        clear c41
        by_cases c42 : (wrap64 ((t518.size : Int) / 256)) = 0
        ·rw [if_pos c42] at H
         exact absurd H (by simp)
        ·rw [if_neg c42] at H
         have c42b0 : ((wrap64 ((t518.size : Int) / 256)) == 0) = false := beq_eq_false_iff_ne.mpr c42
         have c42b1 : ((wrap64 ((t518.size : Int) / 256)) != 0) = true := bne_iff_ne.mpr c42
         obtain rfl := Option.some.inj H
         have hnb43 := NB527_536.out
         have hnc43 := NB536_527.out
         have hnb44 := NB527_545.out
         have hnc44 := NB545_527.out
         have hcz45_0 : wc.cell? ⟨gb527, 0, none⟩ = some (.string t518) := (blk_cell BK527.out 0).trans rfl
         have hcz45_1 : wc.cell? ⟨gb527, 1, none⟩ = some (.int .i64 t519) := (blk_cell BK527.out 1).trans rfl
         have hcz45_2 : wc.cell? ⟨gb527, 2, none⟩ = some (.int .i64 t520) := (blk_cell BK527.out 2).trans rfl
         have hcz45_3 : wc.cell? ⟨gb527, 3, none⟩ = some (.string t521) := (blk_cell BK527.out 3).trans rfl
         have hcz45_4 : wc.cell? ⟨gb527, 4, none⟩ = some (.int .i64 t522) := (blk_cell BK527.out 4).trans rfl
         have hcz45_5 : wc.cell? ⟨gb527, 5, none⟩ = some (.bool t523) := (blk_cell BK527.out 5).trans rfl
         have hcz45_6 : wc.cell? ⟨gb527, 6, none⟩ = some (.int .i64 t524) := (blk_cell BK527.out 6).trans rfl
         have hfz45_0 := blk_frozen BK527.out 0
         have hfz45_1 := blk_frozen BK527.out 1
         have hfz45_2 := blk_frozen BK527.out 2
         have hfz45_3 := blk_frozen BK527.out 3
         have hfz45_4 := blk_frozen BK527.out 4
         have hfz45_5 := blk_frozen BK527.out 5
         have hfz45_6 := blk_frozen BK527.out 6
         have hnb46 := NB536_545.out
         have hnc46 := NB545_536.out
         have hcz47_0 : wc.cell? ⟨gb536, 0, none⟩ = some (.string t528) := (blk_cell BK536.out 0).trans rfl
         have hcz47_1 : wc.cell? ⟨gb536, 1, none⟩ = some (.int .i64 t529) := (blk_cell BK536.out 1).trans rfl
         have hcz47_2 : wc.cell? ⟨gb536, 2, none⟩ = some (.int .i64 t530) := (blk_cell BK536.out 2).trans rfl
         have hcz47_3 : wc.cell? ⟨gb536, 3, none⟩ = some (.string t531) := (blk_cell BK536.out 3).trans rfl
         have hcz47_4 : wc.cell? ⟨gb536, 4, none⟩ = some (.int .i64 t532) := (blk_cell BK536.out 4).trans rfl
         have hcz47_5 : wc.cell? ⟨gb536, 5, none⟩ = some (.bool t533) := (blk_cell BK536.out 5).trans rfl
         have hcz47_6 : wc.cell? ⟨gb536, 6, none⟩ = some (.int .i64 t534) := (blk_cell BK536.out 6).trans rfl
         have hfz47_0 := blk_frozen BK536.out 0
         have hfz47_1 := blk_frozen BK536.out 1
         have hfz47_2 := blk_frozen BK536.out 2
         have hfz47_3 := blk_frozen BK536.out 3
         have hfz47_4 := blk_frozen BK536.out 4
         have hfz47_5 := blk_frozen BK536.out 5
         have hfz47_6 := blk_frozen BK536.out 6
         go_wp2_with (first | ((with_reducible refine gate_callee (f := 20) rfl ?_); refine goesL_ (some 48) rfl rfl Try.func20 (by kernel_rfl) rfl #[.agg #[.string t528, .int .i64 t529, .int .i64 t530, .string t531, .int .i64 t532, .bool t533, .int .i64 t534]] rfl q99_ ?_; (with_reducible refine (impl_MappedBank.calls kj6 t528 t529 t530 t531 t532 t533 t534 t546 _ A23.out).mono ?_); rintro e w48 ⟨rfl, hb⟩; refine ⟨_, rfl, ?_⟩; have n0_ := Aside0.mk (blk_below (g := gb527) (o := .cells #[.string t518, .int .i64 t519, .int .i64 t520, .string t521, .int .i64 t522, .bool t523, .int .i64 t524] 32 (0, 0)) q125_ hb); have n1_ := Aside0.mk (blk_below (g := gb536) (o := .cells #[.string t528, .int .i64 t529, .int .i64 t530, .string t531, .int .i64 t532, .bool t533, .int .i64 t534] 32 (0, 0)) q126_ hb); have n2_ := Aside0.mk (blk_below (g := gb545) (o := .cells #[.string t537, .int .i64 t538, .int .i64 t539, .string t540, .int .i64 t541, .bool t542, .int .i64 t543] 32 (0, 0)) q127_ hb); have n3_ := Aside0.mk (below_step q43_ hb); clear BK527; clear BK536; clear BK545; clear HB; have BK527 := n0_; have BK536 := n1_; have BK545 := n2_; have HB := n3_; clear n0_ n1_ n2_ n3_; (try clear hb); have hcz49_0 : w48.cell? ⟨gb527, 0, none⟩ = some (.string t518) := (blk_cell BK527.out 0).trans rfl; have hcz49_1 : w48.cell? ⟨gb527, 1, none⟩ = some (.int .i64 t519) := (blk_cell BK527.out 1).trans rfl; have hcz49_2 : w48.cell? ⟨gb527, 2, none⟩ = some (.int .i64 t520) := (blk_cell BK527.out 2).trans rfl; have hcz49_3 : w48.cell? ⟨gb527, 3, none⟩ = some (.string t521) := (blk_cell BK527.out 3).trans rfl; have hcz49_4 : w48.cell? ⟨gb527, 4, none⟩ = some (.int .i64 t522) := (blk_cell BK527.out 4).trans rfl; have hcz49_5 : w48.cell? ⟨gb527, 5, none⟩ = some (.bool t523) := (blk_cell BK527.out 5).trans rfl; have hcz49_6 : w48.cell? ⟨gb527, 6, none⟩ = some (.int .i64 t524) := (blk_cell BK527.out 6).trans rfl; have hfz49_0 := blk_frozen BK527.out 0; have hfz49_1 := blk_frozen BK527.out 1; have hfz49_2 := blk_frozen BK527.out 2; have hfz49_3 := blk_frozen BK527.out 3; have hfz49_4 := blk_frozen BK527.out 4; have hfz49_5 := blk_frozen BK527.out 5; have hfz49_6 := blk_frozen BK527.out 6))
         go_ret
         exact ⟨q101_, q43_⟩
       ·rw [if_neg c41] at H
        have c41b0 : ((Int.tmod t526 32) == 0) = false := beq_eq_false_iff_ne.mpr c41
        have c41b1 : ((Int.tmod t526 32) != 0) = true := bne_iff_ne.mpr c41
        by_cases c50 : (wrap64 ((t518.size : Int) / 256)) = 0
        ·rw [if_pos c50] at H
         exact absurd H (by simp)
        ·rw [if_neg c50] at H
         have c50b0 : ((wrap64 ((t518.size : Int) / 256)) == 0) = false := beq_eq_false_iff_ne.mpr c50
         have c50b1 : ((wrap64 ((t518.size : Int) / 256)) != 0) = true := bne_iff_ne.mpr c50
         obtain rfl := Option.some.inj H
         have hnb51 := NB527_536.out
         have hnc51 := NB536_527.out
         have hnb52 := NB527_545.out
         have hnc52 := NB545_527.out
         have hcz53_0 : wc.cell? ⟨gb527, 0, none⟩ = some (.string t518) := (blk_cell BK527.out 0).trans rfl
         have hcz53_1 : wc.cell? ⟨gb527, 1, none⟩ = some (.int .i64 t519) := (blk_cell BK527.out 1).trans rfl
         have hcz53_2 : wc.cell? ⟨gb527, 2, none⟩ = some (.int .i64 t520) := (blk_cell BK527.out 2).trans rfl
         have hcz53_3 : wc.cell? ⟨gb527, 3, none⟩ = some (.string t521) := (blk_cell BK527.out 3).trans rfl
         have hcz53_4 : wc.cell? ⟨gb527, 4, none⟩ = some (.int .i64 t522) := (blk_cell BK527.out 4).trans rfl
         have hcz53_5 : wc.cell? ⟨gb527, 5, none⟩ = some (.bool t523) := (blk_cell BK527.out 5).trans rfl
         have hcz53_6 : wc.cell? ⟨gb527, 6, none⟩ = some (.int .i64 t524) := (blk_cell BK527.out 6).trans rfl
         have hfz53_0 := blk_frozen BK527.out 0
         have hfz53_1 := blk_frozen BK527.out 1
         have hfz53_2 := blk_frozen BK527.out 2
         have hfz53_3 := blk_frozen BK527.out 3
         have hfz53_4 := blk_frozen BK527.out 4
         have hfz53_5 := blk_frozen BK527.out 5
         have hfz53_6 := blk_frozen BK527.out 6
         have hnb54 := NB536_545.out
         have hnc54 := NB545_536.out
         have hcz55_0 : wc.cell? ⟨gb536, 0, none⟩ = some (.string t528) := (blk_cell BK536.out 0).trans rfl
         have hcz55_1 : wc.cell? ⟨gb536, 1, none⟩ = some (.int .i64 t529) := (blk_cell BK536.out 1).trans rfl
         have hcz55_2 : wc.cell? ⟨gb536, 2, none⟩ = some (.int .i64 t530) := (blk_cell BK536.out 2).trans rfl
         have hcz55_3 : wc.cell? ⟨gb536, 3, none⟩ = some (.string t531) := (blk_cell BK536.out 3).trans rfl
         have hcz55_4 : wc.cell? ⟨gb536, 4, none⟩ = some (.int .i64 t532) := (blk_cell BK536.out 4).trans rfl
         have hcz55_5 : wc.cell? ⟨gb536, 5, none⟩ = some (.bool t533) := (blk_cell BK536.out 5).trans rfl
         have hcz55_6 : wc.cell? ⟨gb536, 6, none⟩ = some (.int .i64 t534) := (blk_cell BK536.out 6).trans rfl
         have hfz55_0 := blk_frozen BK536.out 0
         have hfz55_1 := blk_frozen BK536.out 1
         have hfz55_2 := blk_frozen BK536.out 2
         have hfz55_3 := blk_frozen BK536.out 3
         have hfz55_4 := blk_frozen BK536.out 4
         have hfz55_5 := blk_frozen BK536.out 5
         have hfz55_6 := blk_frozen BK536.out 6
         go_wp2_with (first | ((with_reducible refine gate_callee (f := 20) rfl ?_); refine goesL_ (some 48) rfl rfl Try.func20 (by kernel_rfl) rfl #[.agg #[.string t528, .int .i64 t529, .int .i64 t530, .string t531, .int .i64 t532, .bool t533, .int .i64 t534]] rfl q99_ ?_; (with_reducible refine (impl_MappedBank.calls kj6 t528 t529 t530 t531 t532 t533 t534 t546 _ A23.out).mono ?_); rintro e w56 ⟨rfl, hb⟩; refine ⟨_, rfl, ?_⟩; have n0_ := Aside0.mk (blk_below (g := gb527) (o := .cells #[.string t518, .int .i64 t519, .int .i64 t520, .string t521, .int .i64 t522, .bool t523, .int .i64 t524] 32 (0, 0)) q125_ hb); have n1_ := Aside0.mk (blk_below (g := gb536) (o := .cells #[.string t528, .int .i64 t529, .int .i64 t530, .string t531, .int .i64 t532, .bool t533, .int .i64 t534] 32 (0, 0)) q126_ hb); have n2_ := Aside0.mk (blk_below (g := gb545) (o := .cells #[.string t537, .int .i64 t538, .int .i64 t539, .string t540, .int .i64 t541, .bool t542, .int .i64 t543] 32 (0, 0)) q127_ hb); have n3_ := Aside0.mk (below_step q43_ hb); clear BK527; clear BK536; clear BK545; clear HB; have BK527 := n0_; have BK536 := n1_; have BK545 := n2_; have HB := n3_; clear n0_ n1_ n2_ n3_; (try clear hb); have hcz57_0 : w56.cell? ⟨gb527, 0, none⟩ = some (.string t518) := (blk_cell BK527.out 0).trans rfl; have hcz57_1 : w56.cell? ⟨gb527, 1, none⟩ = some (.int .i64 t519) := (blk_cell BK527.out 1).trans rfl; have hcz57_2 : w56.cell? ⟨gb527, 2, none⟩ = some (.int .i64 t520) := (blk_cell BK527.out 2).trans rfl; have hcz57_3 : w56.cell? ⟨gb527, 3, none⟩ = some (.string t521) := (blk_cell BK527.out 3).trans rfl; have hcz57_4 : w56.cell? ⟨gb527, 4, none⟩ = some (.int .i64 t522) := (blk_cell BK527.out 4).trans rfl; have hcz57_5 : w56.cell? ⟨gb527, 5, none⟩ = some (.bool t523) := (blk_cell BK527.out 5).trans rfl; have hcz57_6 : w56.cell? ⟨gb527, 6, none⟩ = some (.int .i64 t524) := (blk_cell BK527.out 6).trans rfl; have hfz57_0 := blk_frozen BK527.out 0; have hfz57_1 := blk_frozen BK527.out 1; have hfz57_2 := blk_frozen BK527.out 2; have hfz57_3 := blk_frozen BK527.out 3; have hfz57_4 := blk_frozen BK527.out 4; have hfz57_5 := blk_frozen BK527.out 5; have hfz57_6 := blk_frozen BK527.out 6))
         go_ret
         exact ⟨q101_, q43_⟩

/-- THE ONE PURE STATEMENT of laws_FnBanks: yours. -/
def laws_FnBanks.Pure : Prop := ∀ (l0 : List Int), l0.length ≤ maxLen → l0.length * 1 ≤ 140737488351232 → (∀ x ∈ l0, (Lit.int .u8 x).wf = true) → ∃ k, laws_FnBanks.f k l0 = some true
theorem laws_FnBanks.walk (P : laws_FnBanks.Pure) (a0 : Option Addr) (len0 cap0 : Nat) (z0 : List Int) (w : World) (w0 : (a0 = none ∧ len0 = 0 ∧ cap0 = 0 ∧ z0 = []) ∨ ∃ x, a0 = some x ∧ len0 ≤ cap0 ∧ cap0 ≤ maxLen ∧ z0.length = cap0 ∧ (∀ i, i < z0.length → w.cell? (x.add i) = some (.int .u8 (z0.getD i 0))) ∧ ∀ n ∈ z0, (Lit.int .u8 n).wf = true) (y0 : len0 * 1 ≤ 140737488351232) :
  Calls Try.prog 6 #[.slice a0 len0 cap0] w fun e w' => e = .returned (.bool true) ∧ Below w.heap.size w w' := by
 obtain ⟨l0, rfl, hr0, hm0, hw0, hc0⟩ := ReadsInt.ofRowC w0
 obtain ⟨k, h⟩ := P l0 hm0 y0 hw0
 refine (laws_FnBanks.calls k _ _ l0 true w (Kd.C_of_reads (d := (0 : Int)) (h1 := fun _ => rfl) hr0) hc0 h).mono ?_
 rintro e w' ⟨rfl, hd⟩
 exact ⟨rfl, hd⟩

end Go.Proofs.Ytcohcndliaaacaa.QFnBanks
