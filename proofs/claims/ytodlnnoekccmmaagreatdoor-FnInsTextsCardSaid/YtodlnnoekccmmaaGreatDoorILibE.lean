import Derived.Test.YtodlnnoekccmmaaGreatDoorIShelf
import Derived.Test.YtodlnnoekccmmaaGreatDoorIWAll
import Derived.Test.YtodlnnoekccmmaaGreatDoorILibW
import Derived.Test.YtodlnnoekccmmaaGreatDoorILibF
import Derived.Lib.AppendIntMem
namespace Go.Proofs.YtodlnnoekccmmaaGreatDoor.LibE
open Go.RowKit Go.Proofs.YtodlnnoekccmmaaGreatDoorW.PrintWords
set_option linter.unusedVariables false
def strings_IndexByte.f (a0:ByteArray) (a1:Int):Option Int:=some (Lib.indexByte a0.data.toList a1.toNat.toUInt8)
theorem strings_IndexByte.calls (a0:ByteArray) (a1:Int) (r:Int) (w:World) (h:strings_IndexByte.f a0 a1 = some r) :
  Calls Tryz.prog 146 #[.string a0,.int .u8 a1] w fun e w' => e = .returned (.int .i64 r) ∧ Drawn0 w w':=by
 obtain rfl:=Option.some.inj h
 exact (Go.Proofs.Tryz.strings_IndexByte a0 a1 w).mono fun e w' ⟨he,hw⟩ => ⟨he,hw ▸ Drawn0.refl _⟩
def strings_Repeat.f (a0:ByteArray) (a1:Int):Option ByteArray:=if 0 ≤ a1 then (if a1 ≤ 9223372036854775807 then (if a0.size * a1.toNat ≤ 140737488355328 then some ⟨(Lib.repeatL a0.data.toList a1.toNat).toArray⟩ else none) else none) else none
theorem strings_Repeat.calls (a0:ByteArray) (a1:Int) (r:ByteArray) (w:World) (h:strings_Repeat.f a0 a1 = some r) :
  Calls Tryz.prog 79 #[.string a0,.int .i64 a1] w fun e w' => e = .returned (.string r) ∧ Below w.heap.size w w':=by
 unfold strings_Repeat.f at h
 by_cases h0:0 ≤ a1
 rotate_left
 ·rw [if_neg h0] at h;cases h
 by_cases h1:a1 ≤ 9223372036854775807
 rotate_left
 ·rw [if_pos h0,if_neg h1] at h;cases h
 by_cases h2:a0.size * a1.toNat ≤ 140737488355328
 rotate_left
 ·rw [if_pos h0,if_pos h1,if_neg h2] at h;cases h
 rw [if_pos h0,if_pos h1,if_pos h2] at h
 obtain rfl:=Option.some.inj h
 have e:((a1.toNat:Nat):Int) = a1:=Int.toNat_of_nonneg h0
 have c:=Go.Proofs.Tryz.strings_Repeat a0 a1.toNat w (by omega) h2
 rw [e] at c
 exact c
def strings_Split.f (a0:ByteArray) (a1:ByteArray):Option (List ByteArray):=if a0.size < 4294967281 then (if 1 ≤ a1.size then some (Lib.splitB a1 0 (Lib.countB a0 a1) a0) else none) else none
theorem strs_made (w:World) (T:Nat) (xs:List ByteArray) (hm:xs.length ≤ 9223372036854775807) :
  Kd.R Kd.string T (w.alloc (.cells (xs.map Value.string).toArray T)) w.heap.size (fun _ => True) (.slice (some ⟨w.heap.size,0,none⟩) xs.length xs.length) xs:=by
 refine ⟨fun _ _ => trivial,OwnRow.lit w w.heap.size (inner:=xs.map Value.string) (size:=1) ⟨by simp,fun j p hj => ?_⟩ (Nat.le_refl _) hm⟩
 show _ = [Value.string p]
 rw [Nat.mul_one]
 apply List.ext_getElem?
 intro i
 rcases i with _ | i
 ·simp [List.getElem?_drop,hj]
 ·simp [List.getElem?_take]
theorem strings_Split.calls (a0:ByteArray) (a1:ByteArray) (r:List ByteArray) (w:World) (h:strings_Split.f a0 a1 = some r) (hG:Go.Proofs.YtodlnnoekccmmaaGreatDoor.LibW.GL w:=by first | exact hG | exact hG.below (by repeat (first | (with_reducible first | exact HB.out | apply Go.Proofs.YtodlnnoekccmmaaGreatDoorW.PrintWords.below_alloc | apply Go.Proofs.YtodlnnoekccmmaaGreatDoorW.PrintWords.pw_below_drewN | apply Go.Proofs.YtodlnnoekccmmaaGreatDoorW.PrintWords.below_drew1 | refine Go.Proofs.YtodlnnoekccmmaaGreatDoorW.PrintWords.below_set ?_ (Go.Proofs.YtodlnnoekccmmaaGreatDoorW.PrintWords.Aside0.out (by assumption))) | exact HB.out)) | exact hG.drewN _) :
  Calls Tryz.prog 131 #[.string a0,.string a1] w fun e w' => ∃ v0_:Value,e = .returned (v0_) ∧ Kd.R Kd.string 9 w' w.heap.size (fun _ => True) v0_ r ∧ Below w.heap.size w w':=by
 unfold strings_Split.f at h
 by_cases h0:a0.size < 4294967281
 rotate_left
 ·rw [if_neg h0] at h;cases h
 by_cases h1:1 ≤ a1.size
 rotate_left
 ·rw [if_pos h0,if_neg h1] at h;cases h
 rw [if_pos h0,if_pos h1] at h
 obtain rfl:=Option.some.inj h
 obtain ⟨m,hm⟩:=hG.mx
 have hl:=Lib.splitB_all a1 h1 0 _ a0 rfl
 have hle:=Lib.countB_le a1 h1 a0.size a0 (Nat.le_refl _)
 refine (Go.Proofs.Tryz.strings_Split a0 a1 m w h0 hm h1).mono fun e w' ⟨he,hw⟩ => ⟨_,he,?_,?_⟩
 ·rw [hw,← hl]
  exact strs_made w _ _ (by rw [hl];omega)
 ·rw [hw]
  exact below_alloc (Below.refl _ _) _
def strings_Contains.f (a0:ByteArray) (a1:ByteArray):Option Bool:=if a0.size < 4294967281 then some (Lib.contains a0.data.toList a1.data.toList) else none
theorem strings_Contains.calls (a0:ByteArray) (a1:ByteArray) (r:Bool) (w:World) (h:strings_Contains.f a0 a1 = some r) (hG:Go.Proofs.YtodlnnoekccmmaaGreatDoor.LibW.GL w:=by first | exact hG | exact hG.below (by repeat (first | (with_reducible first | exact HB.out | apply Go.Proofs.YtodlnnoekccmmaaGreatDoorW.PrintWords.below_alloc | apply Go.Proofs.YtodlnnoekccmmaaGreatDoorW.PrintWords.pw_below_drewN | apply Go.Proofs.YtodlnnoekccmmaaGreatDoorW.PrintWords.below_drew1 | refine Go.Proofs.YtodlnnoekccmmaaGreatDoorW.PrintWords.below_set ?_ (Go.Proofs.YtodlnnoekccmmaaGreatDoorW.PrintWords.Aside0.out (by assumption))) | exact HB.out)) | exact hG.drewN _) :
  Calls Tryz.prog 98 #[.string a0,.string a1] w fun e w' => e = .returned (.bool r) ∧ Drawn0 w w':=by
 unfold strings_Contains.f at h
 by_cases h0:a0.size < 4294967281
 rotate_left
 ·rw [if_neg h0] at h;cases h
 rw [if_pos h0] at h
 obtain rfl:=Option.some.inj h
 obtain ⟨m,hm⟩:=hG.mx
 exact (Go.Proofs.Tryz.strings_Contains a0 a1 m w h0 hm).mono fun e w' ⟨he,hw⟩ => ⟨he,hw ▸ Drawn0.refl _⟩
def strings_Cut.f (a0:ByteArray) (a1:ByteArray):Option (ByteArray × ByteArray × Bool):=if a0.size < 4294967281 then some (⟨(Lib.cut a0.data.toList a1.data.toList).1.toArray⟩,⟨(Lib.cut a0.data.toList a1.data.toList).2.1.toArray⟩,(Lib.cut a0.data.toList a1.data.toList).2.2) else none
theorem strings_Cut.calls (a0:ByteArray) (a1:ByteArray) (r1:ByteArray) (r2:ByteArray) (r3:Bool) (w:World) (h:strings_Cut.f a0 a1 = some (r1,r2,r3)) (hG:Go.Proofs.YtodlnnoekccmmaaGreatDoor.LibW.GL w:=by first | exact hG | exact hG.below (by repeat (first | (with_reducible first | exact HB.out | apply Go.Proofs.YtodlnnoekccmmaaGreatDoorW.PrintWords.below_alloc | apply Go.Proofs.YtodlnnoekccmmaaGreatDoorW.PrintWords.pw_below_drewN | apply Go.Proofs.YtodlnnoekccmmaaGreatDoorW.PrintWords.below_drew1 | refine Go.Proofs.YtodlnnoekccmmaaGreatDoorW.PrintWords.below_set ?_ (Go.Proofs.YtodlnnoekccmmaaGreatDoorW.PrintWords.Aside0.out (by assumption))) | exact HB.out)) | exact hG.drewN _) :
  Calls Tryz.prog 114 #[.string a0,.string a1] w fun e w' => e = .returned (.tuple #[.string r1,.string r2,.bool r3]) ∧ Drawn0 w w':=by
 unfold strings_Cut.f at h
 by_cases h0:a0.size < 4294967281
 rotate_left
 ·rw [if_neg h0] at h;cases h
 rw [if_pos h0] at h
 have e:=Option.some.inj h
 simp only [Prod.mk.injEq] at e
 obtain ⟨rfl,rfl,rfl⟩:=e
 obtain ⟨m,hm⟩:=hG.mx
 exact (Go.Proofs.Tryz.strings_Cut a0 a1 m w h0 hm).mono fun e w' ⟨he,hw⟩ => ⟨he,⟨hw⟩⟩
def strings_Replace.f (a0:ByteArray) (a1:ByteArray) (a2:ByteArray) (a3:Int):Option ByteArray:=if a0.size < 4294967281 then (if 1 ≤ a1.size then (if a0.size + Lib.countB a0 a1 * a2.size ≤ 140737488355328 then some ⟨(Lib.replace a0.data.toList a1.data.toList a2.data.toList a3).toArray⟩ else none) else none) else none
theorem strings_Replace.calls (a0:ByteArray) (a1:ByteArray) (a2:ByteArray) (a3:Int) (r:ByteArray) (w:World) (h:strings_Replace.f a0 a1 a2 a3 = some r) (hG:Go.Proofs.YtodlnnoekccmmaaGreatDoor.LibW.GL w:=by first | exact hG | exact hG.below (by repeat (first | (with_reducible first | exact HB.out | apply Go.Proofs.YtodlnnoekccmmaaGreatDoorW.PrintWords.below_alloc | apply Go.Proofs.YtodlnnoekccmmaaGreatDoorW.PrintWords.pw_below_drewN | apply Go.Proofs.YtodlnnoekccmmaaGreatDoorW.PrintWords.below_drew1 | refine Go.Proofs.YtodlnnoekccmmaaGreatDoorW.PrintWords.below_set ?_ (Go.Proofs.YtodlnnoekccmmaaGreatDoorW.PrintWords.Aside0.out (by assumption))) | exact HB.out)) | exact hG.drewN _) :
  Calls Tryz.prog 64 #[.string a0,.string a1,.string a2,.int .i64 a3] w fun e w' => e = .returned (.string r) ∧ Below w.heap.size w w':=by
 unfold strings_Replace.f at h
 by_cases h0:a0.size < 4294967281
 rotate_left
 ·rw [if_neg h0] at h;cases h
 by_cases h1:1 ≤ a1.size
 rotate_left
 ·rw [if_pos h0,if_neg h1] at h;cases h
 by_cases h2:a0.size + Lib.countB a0 a1 * a2.size ≤ 140737488355328
 rotate_left
 ·rw [if_pos h0,if_pos h1,if_neg h2] at h;cases h
 rw [if_pos h0,if_pos h1,if_pos h2] at h
 obtain rfl:=Option.some.inj h
 obtain ⟨m,hm⟩:=hG.mx
 exact Go.Proofs.Tryz.strings_Replace a0 a1 a2 a3 m w h0 hm h1 h2
def strings_ToUpper.f (a0:ByteArray):Option ByteArray:=if a0.size ≤ 140737488355328 then (if a0.data.toList.all (fun b => decide (b.toNat < 128)) = true then some ⟨(Lib.toUpperA a0.data.toList).toArray⟩ else none) else none
theorem strings_ToUpper.calls (a0:ByteArray) (r:ByteArray) (w:World) (h:strings_ToUpper.f a0 = some r) :
  Calls Tryz.prog 165 #[.string a0] w fun e w' => e = .returned (.string r) ∧ Below w.heap.size w w':=by
 unfold strings_ToUpper.f at h
 by_cases h0:a0.size ≤ 140737488355328
 rotate_left
 ·rw [if_neg h0] at h;cases h
 by_cases h1:a0.data.toList.all (fun b => decide (b.toNat < 128)) = true
 rotate_left
 ·rw [if_pos h0,if_neg h1] at h;cases h
 rw [if_pos h0,if_pos h1] at h
 obtain rfl:=Option.some.inj h
 exact Go.Proofs.Tryz.strings_ToUpper_ascii a0 w h0 fun j b hj => of_decide_eq_true (List.all_eq_true.1 h1 b (List.mem_of_getElem? hj))
def strconv_FormatInt.f (a0:Int) (a1:Int):Option ByteArray:=if a1 = 10 then (if -9223372036854775808 ≤ a0 then (if a0 ≤ 9223372036854775807 then some ⟨(Lib.itoa a0).toArray⟩ else none) else none) else (if a1 = 16 then (if 0 ≤ a0 then (if a0 < 65536 then some (Go.Proofs.YtodlnnoekccmmaaGreatDoor.LibF.hexS a0.toNat) else none) else none) else none)
theorem strconv_FormatInt.calls (a0:Int) (a1:Int) (r:ByteArray) (w:World) (h:strconv_FormatInt.f a0 a1 = some r) (hG:Go.Proofs.YtodlnnoekccmmaaGreatDoor.LibW.GL w:=by first | exact hG | exact hG.below (by repeat (first | (with_reducible first | exact HB.out | apply Go.Proofs.YtodlnnoekccmmaaGreatDoorW.PrintWords.below_alloc | apply Go.Proofs.YtodlnnoekccmmaaGreatDoorW.PrintWords.pw_below_drewN | apply Go.Proofs.YtodlnnoekccmmaaGreatDoorW.PrintWords.below_drew1 | refine Go.Proofs.YtodlnnoekccmmaaGreatDoorW.PrintWords.below_set ?_ (Go.Proofs.YtodlnnoekccmmaaGreatDoorW.PrintWords.Aside0.out (by assumption))) | exact HB.out)) | exact hG.drewN _) :
  Calls Tryz.prog 127 #[.int .i64 a0,.int .i64 a1] w fun e w' => e = .returned (.string r) ∧ Below w.heap.size w w':=by
 unfold strconv_FormatInt.f at h
 by_cases h0:a1 = 10
 ·subst h0
  rw [if_pos rfl] at h
  by_cases h1:-9223372036854775808 ≤ a0
  rotate_left
  ·rw [if_neg h1] at h;cases h
  by_cases h2:a0 ≤ 9223372036854775807
  rotate_left
  ·rw [if_pos h1,if_neg h2] at h;cases h
  rw [if_pos h1,if_pos h2] at h
  obtain rfl:=Option.some.inj h
  refine (Go.Proofs.Tryz.strconv_FormatInt_10 a0 h1 h2 w hG.pw).mono ?_
  rintro e w' ⟨he,k,os,rfl⟩
  exact ⟨he,Lib.below_grow _ w (Nat.le_refl _) k os⟩
 ·rw [if_neg h0] at h
  by_cases h1:a1 = 16
  rotate_left
  ·rw [if_neg h1] at h;cases h
  subst h1
  rw [if_pos rfl] at h
  by_cases h1:0 ≤ a0
  rotate_left
  ·rw [if_neg h1] at h;cases h
  by_cases h2:a0 < 65536
  rotate_left
  ·rw [if_pos h1,if_neg h2] at h;cases h
  rw [if_pos h1,if_pos h2] at h
  obtain rfl:=Option.some.inj h
  obtain ⟨n,rfl⟩:∃ n:Nat,a0 = n:=⟨a0.toNat,by omega⟩
  exact Go.Proofs.YtodlnnoekccmmaaGreatDoor.LibF.formatInt16 n (by omega) w hG.dbAt
def strings_Join.f (l0:List ByteArray) (a1:ByteArray):Option ByteArray:=if l0.length ≤ 140737488355328 then (if (Lib.join (l0.map (·.data.toList)) a1.data.toList).length ≤ 140737488355328 then some ⟨(Lib.join (l0.map (·.data.toList)) a1.data.toList).toArray⟩ else none) else none
def parseV (a0:ByteArray):Int × Option Int:=match Lib.parseIntB 64 a0.data.toList with
 | .ok v => (v,none)
 | .«syntax» => (0,some 0)
 | .range => (Lib.intSat 64 a0.data.toList,some 1)
def strconv_ParseInt.f (a0:ByteArray) (a1:Int) (a2:Int):Option (Int × Option Int):=if a1 = 10 then (if a2 = 64 then (if a0.size ≤ 1000000 then some (parseV a0) else none) else none) else none
theorem strconv_ParseInt.calls_none (a0:ByteArray) (a1:Int) (a2:Int) (r1:Int) (w:World) (h:strconv_ParseInt.f a0 a1 a2 = some (r1,none)) (hG:Go.Proofs.YtodlnnoekccmmaaGreatDoor.LibW.GL w:=by first | exact hG | exact hG.below (by repeat (first | (with_reducible first | exact HB.out | apply Go.Proofs.YtodlnnoekccmmaaGreatDoorW.PrintWords.below_alloc | apply Go.Proofs.YtodlnnoekccmmaaGreatDoorW.PrintWords.pw_below_drewN | apply Go.Proofs.YtodlnnoekccmmaaGreatDoorW.PrintWords.below_drew1 | refine Go.Proofs.YtodlnnoekccmmaaGreatDoorW.PrintWords.below_set ?_ (Go.Proofs.YtodlnnoekccmmaaGreatDoorW.PrintWords.Aside0.out (by assumption))) | exact HB.out)) | exact hG.drewN _) :
  Calls Tryz.prog 69 #[.string a0,.int .i64 a1,.int .i64 a2] w fun e w' => e = .returned (.tuple #[.int .i64 r1,.nilIface]) ∧ Below w.heap.size w w':=by
 unfold strconv_ParseInt.f at h
 by_cases h0:a1 = 10
 rotate_left
 ·rw [if_neg h0] at h;cases h
 by_cases h1:a2 = 64
 rotate_left
 ·rw [if_pos h0,if_neg h1] at h;cases h
 by_cases h2:a0.size ≤ 1000000
 rotate_left
 ·rw [if_pos h0,if_pos h1,if_neg h2] at h;cases h
 rw [if_pos h0,if_pos h1,if_pos h2] at h
 subst h0;subst h1
 have h:=Option.some.inj h
 unfold parseV at h
 cases hp:Lib.parseIntB 64 a0.data.toList with
 | ok v =>
  rw [hp] at h
  simp only [Prod.mk.injEq] at h
  obtain ⟨rfl,_⟩:=h
  refine (Tryz.strconv_ParseInt_10_at64_ok a0 (by omega) v hp w).mono ?_
  rintro e w' ⟨he,hw⟩
  refine ⟨he,?_⟩
  rcases hw with rfl | ⟨t,rfl⟩
  ·exact Below.refl _ _
  ·exact Lib.bytesWorld_below _ _ _
 | «syntax» => rw [hp] at h;simp at h
 | range => rw [hp] at h;simp at h
theorem strconv_ParseInt.calls_some (a0:ByteArray) (a1:Int) (a2:Int) (r1:Int) (c:Int) (w:World) (h:strconv_ParseInt.f a0 a1 a2 = some (r1,some c)) (hG:Go.Proofs.YtodlnnoekccmmaaGreatDoor.LibW.GL w:=by first | exact hG | exact hG.below (by repeat (first | (with_reducible first | exact HB.out | apply Go.Proofs.YtodlnnoekccmmaaGreatDoorW.PrintWords.below_alloc | apply Go.Proofs.YtodlnnoekccmmaaGreatDoorW.PrintWords.pw_below_drewN | apply Go.Proofs.YtodlnnoekccmmaaGreatDoorW.PrintWords.below_drew1 | refine Go.Proofs.YtodlnnoekccmmaaGreatDoorW.PrintWords.below_set ?_ (Go.Proofs.YtodlnnoekccmmaaGreatDoorW.PrintWords.Aside0.out (by assumption))) | exact HB.out)) | exact hG.drewN _) :
  Calls Tryz.prog 69 #[.string a0,.int .i64 a1,.int .i64 a2] w fun e w' => ∃ N,e = .returned (.tuple #[.int .i64 r1,.iface 129 (.pointer (some ⟨N,0,none⟩))]) ∧ Below w.heap.size w w':=by
 unfold strconv_ParseInt.f at h
 by_cases h0:a1 = 10
 rotate_left
 ·rw [if_neg h0] at h;cases h
 by_cases h1:a2 = 64
 rotate_left
 ·rw [if_pos h0,if_neg h1] at h;cases h
 by_cases h2:a0.size ≤ 1000000
 rotate_left
 ·rw [if_pos h0,if_pos h1,if_neg h2] at h;cases h
 rw [if_pos h0,if_pos h1,if_pos h2] at h
 subst h0;subst h1
 have h:=Option.some.inj h
 unfold parseV at h
 cases hp:Lib.parseIntB 64 a0.data.toList with
 | ok v => rw [hp] at h;simp at h
 | «syntax» =>
  rw [hp] at h
  simp only [Prod.mk.injEq] at h
  obtain ⟨rfl,_⟩:=h
  obtain ⟨ev,h3,h4⟩:=hG.es
  exact (Tryz.strconv_ParseInt_10_at64_syntax a0 (by omega) hp ev w h3 h4).mono fun e w' ⟨N,he,_,_,hb⟩ => ⟨N,he,hb⟩
 | range =>
  rw [hp] at h
  simp only [Prod.mk.injEq] at h
  obtain ⟨rfl,_⟩:=h
  obtain ⟨ev,h3,h4⟩:=hG.er
  exact (Tryz.strconv_ParseInt_10_at64_range a0 (by omega) hp ev w h3 h4).mono fun e w' ⟨N,he,_,_,hb⟩ => ⟨N,he,hb⟩
end Go.Proofs.YtodlnnoekccmmaaGreatDoor.LibE
