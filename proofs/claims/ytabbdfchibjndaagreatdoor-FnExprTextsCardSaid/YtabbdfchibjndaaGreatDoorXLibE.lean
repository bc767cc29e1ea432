import Derived.Test.YtabbdfchibjndaaGreatDoorXShelf
import Derived.Test.YtabbdfchibjndaaGreatDoorXWAll
import Derived.Test.YtabbdfchibjndaaGreatDoorXLibW
import Derived.Test.YtabbdfchibjndaaGreatDoorXLibF
import Derived.Lib.AppendIntMem
namespace Go.Proofs.YtabbdfchibjndaaGreatDoor.LibE
open Go.RowKit Go.Proofs.YtabbdfchibjndaaGreatDoorW.PrintWords
set_option linter.unusedVariables false
def strings_Split.f (a0:ByteArray) (a1:ByteArray):Option (List ByteArray):=if a0.size < 4294967281 then (if 1 ≤ a1.size then some (Lib.splitB a1 0 (Lib.countB a0 a1) a0) else none) else none
theorem strs_made (w:World) (T:Nat) (xs:List ByteArray) (hm:xs.length ≤ 9223372036854775807) :
  Kd.R Kd.string T (w.alloc (.cells (xs.map Value.string).toArray T)) w.heap.size (fun _ => True) (.slice (some ⟨w.heap.size,0,none⟩) xs.length xs.length) xs:=by
 refine ⟨fun _ _ => trivial,OwnRow.lit w w.heap.size (inner:=xs.map Value.string) (size:=1) ⟨by simp,fun j p hj => ?_⟩ (Nat.le_refl _) hm⟩
 show _ = [Value.string p]
 rw [Nat.mul_one]
 apply List.ext_getElem?
 intro i
 rcases i with _ | i
 ·simp [List.getElem?_drop,hj]
 ·simp [List.getElem?_take]
theorem strings_Split.calls (a0:ByteArray) (a1:ByteArray) (r:List ByteArray) (w:World) (h:strings_Split.f a0 a1 = some r) (hG:Go.Proofs.YtabbdfchibjndaaGreatDoor.LibW.GL w:=by first | exact hG | exact hG.below (by repeat (first | (with_reducible first | exact HB.out | apply Go.Proofs.YtabbdfchibjndaaGreatDoorW.PrintWords.below_alloc | apply Go.Proofs.YtabbdfchibjndaaGreatDoorW.PrintWords.pw_below_drewN | apply Go.Proofs.YtabbdfchibjndaaGreatDoorW.PrintWords.below_drew1 | refine Go.Proofs.YtabbdfchibjndaaGreatDoorW.PrintWords.below_set ?_ (Go.Proofs.YtabbdfchibjndaaGreatDoorW.PrintWords.Aside0.out (by assumption))) | exact HB.out)) | exact hG.drewN _) :
  Calls Tryz.prog 16 #[.string a0,.string a1] w fun e w' => ∃ v0_:Value,e = .returned (v0_) ∧ Kd.R Kd.string 9 w' w.heap.size (fun _ => True) v0_ r ∧ Below w.heap.size w w':=by
 unfold strings_Split.f at h
 by_cases h0:a0.size < 4294967281
 rotate_left
 ·rw [if_neg h0] at h;cases h
 by_cases h1:1 ≤ a1.size
 rotate_left
 ·rw [if_pos h0,if_neg h1] at h;cases h
 rw [if_pos h0,if_pos h1] at h
 obtain rfl:=Option.some.inj h
 obtain ⟨m,hm⟩:=hG.mx
 have hl:=Lib.splitB_all a1 h1 0 _ a0 rfl
 have hle:=Lib.countB_le a1 h1 a0.size a0 (Nat.le_refl _)
 refine (Go.Proofs.Tryz.strings_Split a0 a1 m w h0 hm h1).mono fun e w' ⟨he,hw⟩ => ⟨_,he,?_,?_⟩
 ·rw [hw,← hl]
  exact strs_made w _ _ (by rw [hl];omega)
 ·rw [hw]
  exact below_alloc (Below.refl _ _) _
def strconv_FormatInt.f (a0:Int) (a1:Int):Option ByteArray:=if a1 = 10 then (if -9223372036854775808 ≤ a0 then (if a0 ≤ 9223372036854775807 then some ⟨(Lib.itoa a0).toArray⟩ else none) else none) else (if a1 = 16 then (if 0 ≤ a0 then (if a0 < 65536 then some (Go.Proofs.YtabbdfchibjndaaGreatDoor.LibF.hexS a0.toNat) else none) else none) else none)
theorem strconv_FormatInt.calls (a0:Int) (a1:Int) (r:ByteArray) (w:World) (h:strconv_FormatInt.f a0 a1 = some r) (hG:Go.Proofs.YtabbdfchibjndaaGreatDoor.LibW.GL w:=by first | exact hG | exact hG.below (by repeat (first | (with_reducible first | exact HB.out | apply Go.Proofs.YtabbdfchibjndaaGreatDoorW.PrintWords.below_alloc | apply Go.Proofs.YtabbdfchibjndaaGreatDoorW.PrintWords.pw_below_drewN | apply Go.Proofs.YtabbdfchibjndaaGreatDoorW.PrintWords.below_drew1 | refine Go.Proofs.YtabbdfchibjndaaGreatDoorW.PrintWords.below_set ?_ (Go.Proofs.YtabbdfchibjndaaGreatDoorW.PrintWords.Aside0.out (by assumption))) | exact HB.out)) | exact hG.drewN _) :
  Calls Tryz.prog 48 #[.int .i64 a0,.int .i64 a1] w fun e w' => e = .returned (.string r) ∧ Below w.heap.size w w':=by
 unfold strconv_FormatInt.f at h
 by_cases h0:a1 = 10
 ·subst h0
  rw [if_pos rfl] at h
  by_cases h1:-9223372036854775808 ≤ a0
  rotate_left
  ·rw [if_neg h1] at h;cases h
  by_cases h2:a0 ≤ 9223372036854775807
  rotate_left
  ·rw [if_pos h1,if_neg h2] at h;cases h
  rw [if_pos h1,if_pos h2] at h
  obtain rfl:=Option.some.inj h
  refine (Go.Proofs.Tryz.strconv_FormatInt_10 a0 h1 h2 w hG.pw).mono ?_
  rintro e w' ⟨he,k,os,rfl⟩
  exact ⟨he,Lib.below_grow _ w (Nat.le_refl _) k os⟩
 ·rw [if_neg h0] at h
  by_cases h1:a1 = 16
  rotate_left
  ·rw [if_neg h1] at h;cases h
  subst h1
  rw [if_pos rfl] at h
  by_cases h1:0 ≤ a0
  rotate_left
  ·rw [if_neg h1] at h;cases h
  by_cases h2:a0 < 65536
  rotate_left
  ·rw [if_pos h1,if_neg h2] at h;cases h
  rw [if_pos h1,if_pos h2] at h
  obtain rfl:=Option.some.inj h
  obtain ⟨n,rfl⟩:∃ n:Nat,a0 = n:=⟨a0.toNat,by omega⟩
  exact Go.Proofs.YtabbdfchibjndaaGreatDoor.LibF.formatInt16 n (by omega) w hG.dbAt
def strings_Join.f (l0:List ByteArray) (a1:ByteArray):Option ByteArray:=if l0.length ≤ 140737488355328 then (if (Lib.join (l0.map (·.data.toList)) a1.data.toList).length ≤ 140737488355328 then some ⟨(Lib.join (l0.map (·.data.toList)) a1.data.toList).toArray⟩ else none) else none
theorem strings_Join.calls (A0:Option Addr) (c0:Nat) (l0:List ByteArray) (a1:ByteArray) (r:ByteArray) (w:World) (hr0:Kd.C Kd.string w A0 l0.length l0) (hc0:l0.length ≤ c0) (h:strings_Join.f l0 a1 = some r) :
  Calls Tryz.prog 32 #[.slice A0 l0.length c0,.string a1] w fun e w' => e = .returned (.string r) ∧ Below w.heap.size w w':=by
 unfold strings_Join.f at h
 by_cases h0:l0.length ≤ 140737488355328
 rotate_left
 ·rw [if_neg h0] at h;cases h
 by_cases h1:(Lib.join (l0.map (·.data.toList)) a1.data.toList).length ≤ 140737488355328
 rotate_left
 ·rw [if_pos h0,if_neg h1] at h;cases h
 rw [if_pos h0,if_pos h1] at h
 obtain rfl:=Option.some.inj h
 rcases l0 with _ | ⟨x,l⟩
 ·exact (Go.Proofs.Tryz.strings_Join_none A0 c0 a1 w).mono fun e w' ⟨he,hw⟩ => ⟨he,hw ▸ Below.refl _ _⟩
 ·obtain ⟨_,_,hrd⟩:=hr0
  obtain ⟨ad,rfl,hc⟩:=hrd (by simp)
  have hcell:∀ (j:Nat) y,(x :: l)[j]? = some y → w.cell? (ad.add j) = some (.string y):=fun j y hj => by
   obtain ⟨c,hl,hk,hu⟩:=hc j y hj
   have hk:c = [Value.string y]:=hk
   subst hk
   have hq:=hu 0 _ rfl
   rw [show Kd.string.sz = 1 from rfl,Nat.mul_one,Nat.add_zero] at hq
   exact hq
  have h00:w.cell? ad = some (.string x):=hcell 0 x rfl
  obtain ⟨bk,o,spot⟩:=ad
  have hs:spot = none:=by
   cases spot with
   | none => rfl
   | some z =>
    unfold World.cell? at h00
    split at h00
    ·cases h00
    ·cases h00
  subst hs
  exact Go.Proofs.Tryz.strings_Join bk o c0 (x :: l) a1 w (fun j y hj => by rw [← add_at];exact hcell j y hj) (World.block_lt_of_cell? w _ h00) h0 hc0 h1
def parseV (a0:ByteArray):Int × Option Int:=match Lib.parseIntB 64 a0.data.toList with
 | .ok v => (v,none)
 | .«syntax» => (0,some 0)
 | .range => (Lib.intSat 64 a0.data.toList,some 1)
def strconv_ParseInt.f (a0:ByteArray) (a1:Int) (a2:Int):Option (Int × Option Int):=if a1 = 10 then (if a2 = 64 then (if a0.size ≤ 1000000 then some (parseV a0) else none) else none) else none
theorem strconv_ParseInt.calls_none (a0:ByteArray) (a1:Int) (a2:Int) (r1:Int) (w:World) (h:strconv_ParseInt.f a0 a1 a2 = some (r1,none)) (hG:Go.Proofs.YtabbdfchibjndaaGreatDoor.LibW.GL w:=by first | exact hG | exact hG.below (by repeat (first | (with_reducible first | exact HB.out | apply Go.Proofs.YtabbdfchibjndaaGreatDoorW.PrintWords.below_alloc | apply Go.Proofs.YtabbdfchibjndaaGreatDoorW.PrintWords.pw_below_drewN | apply Go.Proofs.YtabbdfchibjndaaGreatDoorW.PrintWords.below_drew1 | refine Go.Proofs.YtabbdfchibjndaaGreatDoorW.PrintWords.below_set ?_ (Go.Proofs.YtabbdfchibjndaaGreatDoorW.PrintWords.Aside0.out (by assumption))) | exact HB.out)) | exact hG.drewN _) :
  Calls Tryz.prog 18 #[.string a0,.int .i64 a1,.int .i64 a2] w fun e w' => e = .returned (.tuple #[.int .i64 r1,.nilIface]) ∧ Below w.heap.size w w':=by
 unfold strconv_ParseInt.f at h
 by_cases h0:a1 = 10
 rotate_left
 ·rw [if_neg h0] at h;cases h
 by_cases h1:a2 = 64
 rotate_left
 ·rw [if_pos h0,if_neg h1] at h;cases h
 by_cases h2:a0.size ≤ 1000000
 rotate_left
 ·rw [if_pos h0,if_pos h1,if_neg h2] at h;cases h
 rw [if_pos h0,if_pos h1,if_pos h2] at h
 subst h0;subst h1
 have h:=Option.some.inj h
 unfold parseV at h
 cases hp:Lib.parseIntB 64 a0.data.toList with
 | ok v =>
  rw [hp] at h
  simp only [Prod.mk.injEq] at h
  obtain ⟨rfl,_⟩:=h
  refine (Tryz.strconv_ParseInt_10_at64_ok a0 (by omega) v hp w).mono ?_
  rintro e w' ⟨he,hw⟩
  refine ⟨he,?_⟩
  rcases hw with rfl | ⟨t,rfl⟩
  ·exact Below.refl _ _
  ·exact Lib.bytesWorld_below _ _ _
 | «syntax» => rw [hp] at h;simp at h
 | range => rw [hp] at h;simp at h
theorem strconv_ParseInt.calls_some (a0:ByteArray) (a1:Int) (a2:Int) (r1:Int) (c:Int) (w:World) (h:strconv_ParseInt.f a0 a1 a2 = some (r1,some c)) (hG:Go.Proofs.YtabbdfchibjndaaGreatDoor.LibW.GL w:=by first | exact hG | exact hG.below (by repeat (first | (with_reducible first | exact HB.out | apply Go.Proofs.YtabbdfchibjndaaGreatDoorW.PrintWords.below_alloc | apply Go.Proofs.YtabbdfchibjndaaGreatDoorW.PrintWords.pw_below_drewN | apply Go.Proofs.YtabbdfchibjndaaGreatDoorW.PrintWords.below_drew1 | refine Go.Proofs.YtabbdfchibjndaaGreatDoorW.PrintWords.below_set ?_ (Go.Proofs.YtabbdfchibjndaaGreatDoorW.PrintWords.Aside0.out (by assumption))) | exact HB.out)) | exact hG.drewN _) :
  Calls Tryz.prog 18 #[.string a0,.int .i64 a1,.int .i64 a2] w fun e w' => ∃ N,e = .returned (.tuple #[.int .i64 r1,.iface 84 (.pointer (some ⟨N,0,none⟩))]) ∧ Below w.heap.size w w':=by
 unfold strconv_ParseInt.f at h
 by_cases h0:a1 = 10
 rotate_left
 ·rw [if_neg h0] at h;cases h
 by_cases h1:a2 = 64
 rotate_left
 ·rw [if_pos h0,if_neg h1] at h;cases h
 by_cases h2:a0.size ≤ 1000000
 rotate_left
 ·rw [if_pos h0,if_pos h1,if_neg h2] at h;cases h
 rw [if_pos h0,if_pos h1,if_pos h2] at h
 subst h0;subst h1
 have h:=Option.some.inj h
 unfold parseV at h
 cases hp:Lib.parseIntB 64 a0.data.toList with
 | ok v => rw [hp] at h;simp at h
 | «syntax» =>
  rw [hp] at h
  simp only [Prod.mk.injEq] at h
  obtain ⟨rfl,_⟩:=h
  obtain ⟨ev,h3,h4⟩:=hG.es
  exact (Tryz.strconv_ParseInt_10_at64_syntax a0 (by omega) hp ev w h3 h4).mono fun e w' ⟨N,he,_,_,hb⟩ => ⟨N,he,hb⟩
 | range =>
  rw [hp] at h
  simp only [Prod.mk.injEq] at h
  obtain ⟨rfl,_⟩:=h
  obtain ⟨ev,h3,h4⟩:=hG.er
  exact (Tryz.strconv_ParseInt_10_at64_range a0 (by omega) hp ev w h3 h4).mono fun e w' ⟨N,he,_,_,hb⟩ => ⟨N,he,hb⟩
end Go.Proofs.YtabbdfchibjndaaGreatDoor.LibE
