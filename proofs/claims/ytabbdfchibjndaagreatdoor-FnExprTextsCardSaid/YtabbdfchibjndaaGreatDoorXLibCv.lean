import Derived.Test.YtabbdfchibjndaaGreatDoorXLibCu
namespace Go.Proofs.YtabbdfchibjndaaGreatDoor.LibCv
open Go.Proofs.YtabbdfchibjndaaGreatDoor.LibCp Go.BigFrame Go.RowKit Go.Proofs.YtabbdfchibjndaaGreatDoorW.PrintWords Go.Proofs.YtabbdfchibjndaaGreatDoorW.PrintLast Go.Proofs.YtabbdfchibjndaaGreatDoorW.PrintMore Go.Proofs.YtabbdfchibjndaaGreatDoor.LibX Go.Proofs.YtabbdfchibjndaaGreatDoor.LibG
attribute [local go_sem] max2_int min2_int max_two min_two max_three min_three max_four min_four
set_option linter.unusedVariables false
set_option linter.unusedSimpArgs false
theorem mono_all:∀ k:Nat,(∀ s d a o b,LeO (valF k s d a o b) (valF (k + 1) s d a o b)) ∧ (∀ s l d a o b,LeO (levF k s l d a o b) (levF (k + 1) s l d a o b)) ∧ (∀ s l d a o b,LeO (levL k s l d a o b) (levL (k + 1) s l d a o b))
 | 0 => ⟨fun _ _ _ _ _ r h => by simp [valF] at h,fun _ _ _ _ _ _ r h => by simp [levF] at h,fun _ _ _ _ _ _ r h => by simp [levL] at h⟩
 | k + 1 => by
  obtain ⟨ihv,ihl,ihL⟩:=mono_all k
  refine ⟨?_,?_,?_⟩
  ·intro s d a o b
   rw [valF.eq_2 s d a o b k,valF.eq_2 s d a o b (k + 1)]
   unfold valG hlG bankG brG tailG
   repeat' first
    | (with_reducible exact ihv _ _ _ _ _)
    | (with_reducible exact ihl _ _ _ _ _ _)
    | (with_reducible exact wordE_mono _ _ _)
    | (with_reducible exact spec_NameOk.mono _ _)
    | (with_reducible exact spec_ReadNum.mono _ _)
    | (with_reducible exact LeO.refl _)
    | (with_reducible refine LeO.ite ?_ ?_)
    | (with_reducible refine LeO.bind ?_ (fun _ => ?_))
  ·intro s l d a o b
   rw [levF.eq_2 s l d a o b k,levF.eq_2 s l d a o b (k + 1)]
   exact LeO.bind (ihv _ _ _ _ _) (fun _ => ihL _ _ _ _ _ _)
  ·intro s l d a o b
   rw [levL.eq_2 s l d a o b k,levL.eq_2 s l d a o b (k + 1)]
   repeat' first
    | (with_reducible exact ihl _ _ _ _ _ _)
    | (with_reducible exact ihL _ _ _ _ _ _)
    | (with_reducible exact spec_l2Level.mono _ _)
    | (with_reducible exact LeO.refl _)
    | (with_reducible refine LeO.ite ?_ ?_)
    | (with_reducible refine LeO.bind ?_ (fun _ => ?_))
theorem all_calls {s:ByteArray} (hs:s.size ≤ 1000000):∀ k:Nat,ValC (fun d a o b => valF k s d a o b) s ∧ ∀ j,j ≤ k → LevC (fun l d a o b => levF j s l d a o b) s
 | 0 => by
  refine ⟨fun _ _ _ _ _ _ _ _ _ _ _ _ _ _ h => absurd h (by simp [valF]),fun j hj => ?_⟩
  obtain rfl:j = 0:=by omega
  exact fun _ _ _ _ _ _ _ _ _ _ _ _ _ _ _ h => absurd h (by simp [levF])
 | k + 1 => by
  obtain ⟨hv,hl⟩:=all_calls hs k
  refine ⟨?_,fun j hj => ?_⟩
  ·intro deep g a o b r1 r2 r3 w0 w hI hB h0 h1 h
   dsimp only at h
   rw [valF.eq_2 s deep a o b k] at h
   exact value_calls hs (hl k (Nat.le_refl _)) hv k deep g a o b r1 r2 r3 w0 w hI hB h0 h1 h
  ·by_cases c:j ≤ k
   ·exact hl j c
   ·obtain rfl:j = k + 1:=by omega
    exact level_step hs k hv hl
def spec_Compiled.f (k:Nat) (s:ByteArray):Option (List EN × Bool):=if s.size ≤ 1000000 then (if 200 < (s.size:Int) then some ([],false) else (levF k s 1 1 0 [] false).bind fun r => if r.2.2 = true then some ([],false) else if r.1 = (s.size:Int) then (spec_ExprOk.f k r.2.1).bind fun t => (if t = true then some (r.2.1,true) else some ([],false)) else some ([],false)) else none
theorem spec_Compiled.mono:∀ a0 k,LeO (spec_Compiled.f k a0) (spec_Compiled.f (k + 1) a0):=by
 intro a0 k
 unfold spec_Compiled.f
 repeat' first
  | exact (mono_all k).2.1 a0 1 1 0 [] false
  | (with_reducible exact spec_ExprOk.mono _ _)
  | (with_reducible exact LeO.refl _)
  | (with_reducible refine LeO.ite ?_ ?_)
  | (with_reducible refine LeO.bind ?_ (fun _ => ?_))
theorem nil_R (w:World) (base:Nat):Kd.R kE 43 w base (fun _ => True) (.slice none 0 0) ([]:List EN):=Kd.R_nil _ _ _ _ _
set_option maxHeartbeats 1000000 in
set_option maxRecDepth 100000 in
theorem compiled_big (s:ByteArray) (w:World) (q:decide ((200:Int) < (s.size:Int)) = true) :
  Calls Tryz.prog 43 #[.string s] w fun e w' => e = .returned (.tuple #[.slice none 0 0,.bool false]) ∧ Below w.heap.size w w':=by
 have HB:=Aside0.mk (Below.refl w.heap.size w)
 go_enter Tryz.func43,Tryz.ntmps43
 go_wp2
 go_ret2
 exact ⟨rfl,HB.out⟩
set_option maxHeartbeats 1000000 in
set_option maxRecDepth 100000 in
theorem spec_Compiled.calls (k:Nat) (a0:ByteArray) (r1:List EN) (r2:Bool) (w:World) (h:spec_Compiled.f k a0 = some (r1,r2)) :
  Calls Tryz.prog 43 #[.string a0] w fun e w' => ∃ v0_:Value,e = .returned (.tuple #[v0_,.bool r2]) ∧ Kd.R kE 43 w' w.heap.size (fun _ => True) v0_ r1 ∧ Below w.heap.size w w':=by
 unfold spec_Compiled.f at h
 by_cases hs:a0.size ≤ 1000000
 rotate_left
 ·rw [if_neg hs] at h;cases h
 rw [if_pos hs] at h
 by_cases q:200 < (a0.size:Int)
 ·rw [if_pos q] at h
  simp only [Option.some.injEq,Prod.mk.injEq] at h
  obtain ⟨rfl,rfl⟩:=h
  exact (compiled_big a0 w (decide_eq_true q)).mono fun e w' ⟨he,hb⟩ => ⟨_,he,nil_R _ _,hb⟩
 rw [if_neg q] at h
 have q0:decide ((200:Int) < (a0.size:Int)) = false:=decide_eq_false q
 clear q
 cases hr:levF k a0 1 1 0 [] false with
 | none => rw [hr] at h;cases h
 | some p =>
 obtain ⟨p1,p2,p3⟩:=p
 rw [hr,Option.bind_some] at h
 dsimp only at h
 have HL:Aside0 (∀ (g:Nat) (w':World),IsP w w' g a0 0 [] false → Below w.heap.size w w' → Calls Tryz.prog 65 #[.pointer (some ⟨g,0,none⟩),.int .i64 1,.int .i64 1] w' fun e w'' => e = .returned (.tuple #[]) ∧ IsP w w'' g a0 p1 p2 p3 ∧ (0 ≤ p1 ∧ p1 ≤ (a0.size:Int)) ∧ Below w.heap.size w w''):=⟨fun g w' hI hB => (all_calls hs k).2 k (Nat.le_refl _) 1 1 g 0 [] false p1 p2 p3 w w' hI hB (Int.le_refl _) (by omega) hr⟩
 clear hr
 have HI:Aside0 (IsP w (w.alloc (.cells #[.string a0,.int .i64 0,.slice none 0 0,.bool false] 91)) w.heap.size a0 0 [] false):=⟨⟨none,0,by simpa using heap_alloc_new w _,Nat.le_refl _,Kd.R_nil _ _ _ _ _⟩⟩
 have HB:=Aside0.mk ((Below.refl w.heap.size w).alloc (Nat.le_refl _) (.cells #[.string a0,.int .i64 0,.slice none 0 0,.bool false] 91))
 cases p3 with
 | true =>
  rw [if_pos rfl] at h
  simp only [Option.some.injEq,Prod.mk.injEq] at h
  obtain ⟨rfl,rfl⟩:=h
  go_enter Tryz.func43,Tryz.ntmps43
  go_wp2_with (first | (go_at_call 65;refine (HL.out _ _ HI.out HB.out).mono ?_;rintro e w2 ⟨rfl,hI,hR,hB⟩;clear HI HB;have HI:=Aside0.mk hI;have HB:=Aside0.mk hB;clear hI hB;obtain ⟨c0,c1,c3,f1,f3⟩:=HI.out.cells;obtain ⟨A2,k2,hblk,hge2,hR2⟩:=HI.out;have c2:World.cell? _ ⟨w.heap.size,2,none⟩ = some (.slice A2 p2.length k2):=(blk_cell hblk 2).trans rfl;clear hblk))
  go_ret2
  exact ⟨_,rfl,nil_R _ _,HB.out⟩
 | false =>
 rw [if_neg (by decide)] at h
 by_cases hp:p1 = (a0.size:Int)
 rotate_left
 ·rw [if_neg hp] at h
  have q1:(p1 == (a0.size:Int)) = false:=beq_eq_false_iff_ne.mpr hp
  have q2:(p1 != (a0.size:Int)) = true:=bne_iff_ne.mpr hp
  clear hp
  simp only [Option.some.injEq,Prod.mk.injEq] at h
  obtain ⟨rfl,rfl⟩:=h
  go_enter Tryz.func43,Tryz.ntmps43
  go_wp2_with (first | (go_at_call 65;refine (HL.out _ _ HI.out HB.out).mono ?_;rintro e w2 ⟨rfl,hI,hR,hB⟩;clear HI HB;have HI:=Aside0.mk hI;have HB:=Aside0.mk hB;clear hI hB;obtain ⟨c0,c1,c3,f1,f3⟩:=HI.out.cells;obtain ⟨A2,k2,hblk,hge2,hR2⟩:=HI.out;have c2:World.cell? _ ⟨w.heap.size,2,none⟩ = some (.slice A2 p2.length k2):=(blk_cell hblk 2).trans rfl;clear hblk))
  go_ret2
  exact ⟨_,rfl,nil_R _ _,HB.out⟩
 rw [if_pos hp] at h
 have q1:(p1 == (a0.size:Int)) = true:=beq_iff_eq.mpr hp
 have q2:(p1 != (a0.size:Int)) = false:=bne_eq_false_iff_eq.mpr hp
 clear hp
 cases ht:spec_ExprOk.f k p2 with
 | none => rw [ht] at h;cases h
 | some t =>
 rw [ht,Option.bind_some] at h
 cases t with
 | false =>
  rw [if_neg (by decide)] at h
  simp only [Option.some.injEq,Prod.mk.injEq] at h
  obtain ⟨rfl,rfl⟩:=h
  go_enter Tryz.func43,Tryz.ntmps43
  go_wp2_with (first | (go_at_call 65;refine (HL.out _ _ HI.out HB.out).mono ?_;rintro e w2 ⟨rfl,hI,hR,hB⟩;clear HI HB;have HI:=Aside0.mk hI;have HB:=Aside0.mk hB;clear hI hB;obtain ⟨c0,c1,c3,f1,f3⟩:=HI.out.cells;obtain ⟨A2,k2,hblk,hge2,hR2⟩:=HI.out;have c2:World.cell? _ ⟨w.heap.size,2,none⟩ = some (.slice A2 p2.length k2):=(blk_cell hblk 2).trans rfl;clear hblk) | (go_at_call 10;refine (spec_ExprOk.calls k _ _ p2 _ _ (Kd.R_reads' hR2).2.2 (Kd.R_reads' hR2).2.1 ht).mono ?_;rintro e w3 ⟨rfl,hb⟩;have hI:=IsP.below HI.out hb;have hB:=below_step HB.out hb;clear HI HB c0 c1 c2 c3 f1 f3 hge2 hR2 hb;have HI:=Aside0.mk hI;have HB:=Aside0.mk hB;clear hI hB;obtain ⟨c0,c1,c3,f1,f3⟩:=HI.out.cells;obtain ⟨A3,k3,hblk,hge3,hR3⟩:=HI.out;have c2:World.cell? _ ⟨w.heap.size,2,none⟩ = some (.slice A3 p2.length k3):=(blk_cell hblk 2).trans rfl;clear hblk))
  go_ret2
  exact ⟨_,rfl,nil_R _ _,HB.out⟩
 | true =>
  rw [if_pos rfl] at h
  simp only [Option.some.injEq,Prod.mk.injEq] at h
  obtain ⟨rfl,rfl⟩:=h
  go_enter Tryz.func43,Tryz.ntmps43
  go_wp2_with (first | (go_at_call 65;refine (HL.out _ _ HI.out HB.out).mono ?_;rintro e w2 ⟨rfl,hI,hR,hB⟩;clear HI HB;have HI:=Aside0.mk hI;have HB:=Aside0.mk hB;clear hI hB;obtain ⟨c0,c1,c3,f1,f3⟩:=HI.out.cells;obtain ⟨A2,k2,hblk,hge2,hR2⟩:=HI.out;have c2:World.cell? _ ⟨w.heap.size,2,none⟩ = some (.slice A2 p2.length k2):=(blk_cell hblk 2).trans rfl;clear hblk) | (go_at_call 10;refine (spec_ExprOk.calls k _ _ p2 _ _ (Kd.R_reads' hR2).2.2 (Kd.R_reads' hR2).2.1 ht).mono ?_;rintro e w3 ⟨rfl,hb⟩;have hI:=IsP.below HI.out hb;have hB:=below_step HB.out hb;clear HI HB c0 c1 c2 c3 f1 f3 hge2 hR2 hb;have HI:=Aside0.mk hI;have HB:=Aside0.mk hB;clear hI hB;obtain ⟨c0,c1,c3,f1,f3⟩:=HI.out.cells;obtain ⟨A3,k3,hblk,hge3,hR3⟩:=HI.out;have c2:World.cell? _ ⟨w.heap.size,2,none⟩ = some (.slice A3 p2.length k3):=(blk_cell hblk 2).trans rfl;clear hblk))
  go_ret2
  exact ⟨_,rfl,Kd.R_mono hR3 (fun _ _ => trivial),HB.out⟩
end Go.Proofs.YtabbdfchibjndaaGreatDoor.LibCv
