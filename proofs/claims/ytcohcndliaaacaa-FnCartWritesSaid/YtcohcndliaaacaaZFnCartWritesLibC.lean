import Derived.Test.YtcohcndliaaacaaZFnCartWritesLibBR
import Derived.Test.YtcohcndliaaacaaZFnCartWritesWLast
import Derived.Test.YtcohcndliaaacaaProg
import Derived.WalkKit
import Derived.Outline
namespace Go.Proofs.Ytcohcndliaaacaa.LibC
open Go.RowKit Go.Proofs.YtcohcndliaaacaaW.PrintWords Go.Proofs.YtcohcndliaaacaaW.PrintLast Go.Proofs.Ytcohcndliaaacaa.LibBR
set_option linter.unusedVariables false
set_option linter.unusedSimpArgs false

def impl_replaced.f (a0 : ByteArray) (a1 : Int) (a2 : Int) : Option ByteArray := if 0 ≤ a1 then (if a1 < (a0.size : Int) then some (strOfNums ((bytesOf a0).set a1.toNat (a2 % 256))) else none) else none
set_option maxHeartbeats 8000000 in
set_option maxRecDepth 100000 in
theorem impl_replaced.calls (a0 : ByteArray) (a1 : Int) (a2 : Int) (r : ByteArray) (w : World) (h : impl_replaced.f a0 a1 a2 = some r) :
    Calls Try.prog 76 #[.string a0, .int .i64 a1, .int .i64 a2] w fun e w' => e = .returned (.string r) ∧ Below w.heap.size w w' := by
  unfold impl_replaced.f at h
  by_cases h0 : 0 ≤ a1
  rotate_left
  · rw [if_neg h0] at h; cases h
  by_cases h1 : a1 < (a0.size : Int)
  rotate_left
  · rw [if_pos h0, if_neg h1] at h; cases h
  rw [if_pos h0, if_pos h1] at h
  obtain rfl := Option.some.inj h
  clear h
  have hl : ((bytesOf a0).length : Int) = (a0.size : Int) := by rw [bytesOf_length]
  obtain ⟨c, hc⟩ : ∃ c, grownCap w a0.size 0 5 = c := ⟨_, rfl⟩
  obtain ⟨W, hW⟩ : ∃ W, Lib.bytesWorld w 5 a0 = W := ⟨_, rfl⟩
  obtain ⟨g, hg⟩ : ∃ g, w.heap.size = g := ⟨_, rfl⟩
  have hB : BR 5 g (bytesOf a0) c W := by rw [← hW, ← hc, ← hg]; exact fresh w 5 a0
  have hb : Below g w W := by rw [← hW, ← hg]; exact below_made w 5 a0
  have hcv : (convert 9 25 (.string a0)).run Try.prog w = .ok (.slice (some ⟨g, 0, none⟩) (bytesOf a0).length c) W := by
    rw [← hW, ← hc, ← hg, bytesOf_length]
    exact Lib.run_convert_string_bytes w 9 25 5 a0 Try.underlying9 Try.underlying25 Try.underlying5
  have hcell := hB.cell a1 h0 (by omega)
  have hfz := hB.frozen a1 h0 (by omega)
  have hB2 := hB.set_nat a1.toNat (by omega) (a2 % 256)
  have hs := hB2.string (P := Try.prog) Try.underlying25 Try.underlying5 Try.underlying9
  rw [List.length_set] at hs
  have hb2 : Below g w (W.setCell ⟨g, a1.toNat, none⟩ (.int .u8 (a2 % 256))) := hb.setCell (p := ⟨g, a1.toNat, none⟩) (Nat.le_refl _) _
  have hn : a1.toNat < (bytesOf a0).length := by omega
  have hi : a1 < ((bytesOf a0).length : Int) := by omega
  have hb2 := Aside0.mk hb2
  clear hB hB2 hb hl h1 hc hW hn
  go_enter Try.func76, Try.ntmps76
  go_wp2
  go_ret
  exact ⟨rfl, by rw [hg]; exact hb2.out⟩

def spec_l5Put.f (a0 : ByteArray) (a1 : Int) (a2 : Int) : Option ByteArray := if 0 ≤ a1 then (if a1 < (a0.size : Int) then some (strOfNums ((bytesOf a0).set a1.toNat (a2 % 256))) else none) else none
set_option maxHeartbeats 8000000 in
set_option maxRecDepth 100000 in
theorem spec_l5Put.calls (a0 : ByteArray) (a1 : Int) (a2 : Int) (r : ByteArray) (w : World) (h : spec_l5Put.f a0 a1 a2 = some r) :
    Calls Try.prog 77 #[.string a0, .int .i64 a1, .int .i64 a2] w fun e w' => e = .returned (.string r) ∧ Below w.heap.size w w' := by
  unfold spec_l5Put.f at h
  by_cases h0 : 0 ≤ a1
  rotate_left
  · rw [if_neg h0] at h; cases h
  by_cases h1 : a1 < (a0.size : Int)
  rotate_left
  · rw [if_pos h0, if_neg h1] at h; cases h
  rw [if_pos h0, if_pos h1] at h
  obtain rfl := Option.some.inj h
  clear h
  have hl : ((bytesOf a0).length : Int) = (a0.size : Int) := by rw [bytesOf_length]
  obtain ⟨c, hc⟩ : ∃ c, grownCap w a0.size 0 5 = c := ⟨_, rfl⟩
  obtain ⟨W, hW⟩ : ∃ W, Lib.bytesWorld w 5 a0 = W := ⟨_, rfl⟩
  obtain ⟨g, hg⟩ : ∃ g, w.heap.size = g := ⟨_, rfl⟩
  have hB : BR 5 g (bytesOf a0) c W := by rw [← hW, ← hc, ← hg]; exact fresh w 5 a0
  have hb : Below g w W := by rw [← hW, ← hg]; exact below_made w 5 a0
  have hcv : (convert 9 25 (.string a0)).run Try.prog w = .ok (.slice (some ⟨g, 0, none⟩) (bytesOf a0).length c) W := by
    rw [← hW, ← hc, ← hg, bytesOf_length]
    exact Lib.run_convert_string_bytes w 9 25 5 a0 Try.underlying9 Try.underlying25 Try.underlying5
  have hcell := hB.cell a1 h0 (by omega)
  have hfz := hB.frozen a1 h0 (by omega)
  have hB2 := hB.set_nat a1.toNat (by omega) (a2 % 256)
  have hs := hB2.string (P := Try.prog) Try.underlying25 Try.underlying5 Try.underlying9
  rw [List.length_set] at hs
  have hb2 : Below g w (W.setCell ⟨g, a1.toNat, none⟩ (.int .u8 (a2 % 256))) := hb.setCell (p := ⟨g, a1.toNat, none⟩) (Nat.le_refl _) _
  have hn : a1.toNat < (bytesOf a0).length := by omega
  have hi : a1 < ((bytesOf a0).length : Int) := by omega
  have hb2 := Aside0.mk hb2
  clear hB hB2 hb hl h1 hc hW hn
  go_enter Try.func77, Try.ntmps77
  go_wp2
  go_ret
  exact ⟨rfl, by rw [hg]; exact hb2.out⟩
end Go.Proofs.Ytcohcndliaaacaa.LibC
