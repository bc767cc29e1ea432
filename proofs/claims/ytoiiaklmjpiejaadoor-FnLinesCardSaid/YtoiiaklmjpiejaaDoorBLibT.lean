import Derived.Test.YtoiiaklmjpiejaaDoorBLibE
import Derived.Test.YtoiiaklmjpiejaaDoorBLibX
import Derived.Lib.OwnBridge
namespace Go.Proofs.YtoiiaklmjpiejaaDoor.LibT
open Go.RowKit Go.Sort Go.Proofs.YtoiiaklmjpiejaaDoorW.PrintWords Go.Proofs.YtoiiaklmjpiejaaDoorW.PrintLast Go.Proofs.YtoiiaklmjpiejaaDoorW.PrintMore Go.Proofs.YtoiiaklmjpiejaaDoor.LibE
set_option linter.unusedVariables false
set_option linter.unusedSimpArgs false
def noWord (x:ByteArray):Bool:=x.toList == ([]:List UInt8)
def wordsOf (a:ByteArray):List ByteArray:=(Lib.splitB ⟨#[32]⟩ 0 (Lib.countB a ⟨#[32]⟩) a).filter fun x => !noWord x
def joined (a:ByteArray):ByteArray:=⟨(Lib.join ((wordsOf a).map (·.data.toList)) [32]).toArray⟩
def slim1 (a:ByteArray):ByteArray:=⟨(Lib.replaceAll (joined a).data.toList [32,44] [44]).toArray⟩
def slim2 (a:ByteArray):ByteArray:=⟨(Lib.replaceAll (slim1 a).data.toList [44,32] [44]).toArray⟩
def impl_tidied.f (a0:ByteArray):Option ByteArray:=if a0.size ≤ 1000000 then (if (Lib.join ((wordsOf a0).map (·.data.toList)) [32]).length ≤ 2000000 then (if (slim1 a0).size ≤ 4000000 then some (slim2 a0) else none) else none) else none
theorem gives (x:ByteArray) (W:World):FnGives Tryd.prog 65 #[] #[.string x] (.bool (noWord x)) W:=by
 show Calls Tryd.prog 65 #[.string x] W _
 unfold noWord
 go_enter Tryd.func65,Tryd.ntmps65
 go_wp2
 go_ret
 exact ⟨by show Ending.returned (.bool x.toList.isEmpty) = _;cases x.toList <;> rfl,0,rfl⟩
theorem holds_alloc (w:World) (xs:List ByteArray):Holds Value.string (w.alloc (.cells (xs.map Value.string).toArray 9)) w.heap.size 0 xs.toArray:=by
 intro j hj
 have hj':j < xs.length:=by simpa using hj
 refine ⟨?_,?_⟩
 ·rw [Nat.zero_add,World.cell?_alloc_new]
  simp [hj']
 ·rw [Nat.zero_add,World.frozen?_alloc_new]
theorem cells_putRow (w:World) (q g:Nat) (d0 d:List ByteArray) (h:Holds Value.string w g 0 d0.toArray) (hs:d.length = d0.length) (j:Nat) (y:ByteArray) (hj:d[j]? = some y):(putRow Value.string (Sort.ahead w q) g 0 d.toArray).cell? ⟨g,0 + j,none⟩ = some (.string y):=by
 obtain ⟨hl,e⟩:=List.getElem?_eq_some_iff.1 hj
 have h':Holds Value.string (Sort.ahead w q) g 0 d0.toArray:=h
 have:=holds_putRow Value.string (Sort.ahead w q) g 0 d0.toArray d.toArray h' (by simp [hs]) j (by simpa using hl)
 rw [this.1]
 simp [hl,e]
theorem count_small (s:ByteArray) (a b:UInt8):Lib.countB s ⟨#[a,b]⟩ ≤ s.size + 1:=by
 have:=Lib.count_le s.data.toList (⟨#[a,b]⟩:ByteArray).data.toList
 rw [show s.data.toList.length = s.size by rw [Array.length_toList];rfl] at this
 exact this
set_option maxHeartbeats 4000000 in
set_option maxRecDepth 100000 in
theorem impl_tidied.calls (a0:ByteArray) (r:ByteArray) (w:World) (h:impl_tidied.f a0 = some r) (hG:Go.Proofs.YtoiiaklmjpiejaaDoor.LibW.GL w:=by first | exact hG | exact hG.below (by repeat (first | (with_reducible first | exact HB.out | apply Go.Proofs.YtoiiaklmjpiejaaDoorW.PrintWords.below_alloc | apply Go.Proofs.YtoiiaklmjpiejaaDoorW.PrintWords.pw_below_drewN | apply Go.Proofs.YtoiiaklmjpiejaaDoorW.PrintWords.below_drew1 | refine Go.Proofs.YtoiiaklmjpiejaaDoorW.PrintWords.below_set ?_ (Go.Proofs.YtoiiaklmjpiejaaDoorW.PrintWords.Aside0.out (by assumption))) | exact HB.out)) | exact hG.drewN _) :
  Calls Tryd.prog 44 #[.string a0] w fun e w' => e = .returned (.string r) ∧ Below w.heap.size w w':=by
 unfold impl_tidied.f at h
 by_cases h0:a0.size ≤ 1000000
 rotate_left
 ·rw [if_neg h0] at h;cases h
 by_cases h1:(Lib.join ((wordsOf a0).map (·.data.toList)) [32]).length ≤ 2000000
 rotate_left
 ·rw [if_pos h0,if_neg h1] at h;cases h
 by_cases h2:(slim1 a0).size ≤ 4000000
 rotate_left
 ·rw [if_pos h0,if_pos h1,if_neg h2] at h;cases h
 rw [if_pos h0,if_pos h1,if_pos h2] at h
 obtain rfl:=Option.some.inj h
 clear h
 have eg:∀ args w,(callFunc 65 args).run Tryd.prog w = .ok (.enter 65 args) w:=enters_of Tryd.func65 (by kernel_rfl) rfl
 obtain ⟨m,hm⟩:=hG.mx
 have hcnt:=Lib.countB_le (⟨#[32]⟩:ByteArray) (by decide) a0.size a0 (Nat.le_refl _)
 have hl:=Lib.splitB_all (⟨#[32]⟩:ByteArray) (by decide) 0 _ a0 rfl
 have cS:=Tryd.strings_Split a0 (⟨#[32]⟩:ByteArray) m w (by omega) hm (by decide)
 obtain ⟨xs,hxs⟩:∃ xs,xs = Lib.splitB (⟨#[32]⟩:ByteArray) 0 (Lib.countB a0 ⟨#[32]⟩) a0:=⟨_,rfl⟩
 obtain ⟨n,hn⟩:∃ n,n = Lib.countB a0 ⟨#[32]⟩ + 1:=⟨_,rfl⟩
 rw [← hxs,← hn] at cS
 rw [← hxs,← hn] at hl
 have hn0:n ≤ 1000001:=by omega
 obtain ⟨ys,hys⟩:∃ ys,ys = wordsOf a0:=⟨_,rfl⟩
 have hyx:ys = xs.filter fun x => !noWord x:=by rw [hys,hxs];rfl
 have hyl:ys.length ≤ xs.length:=by rw [hyx];exact List.length_filter_le _ _
 obtain ⟨W1,hW1⟩:∃ W1,W1 = w.alloc (.cells (xs.map Value.string).toArray 9):=⟨_,rfl⟩
 rw [← hW1] at cS
 have hH:Holds Value.string W1 w.heap.size 0 xs.toArray:=by rw [hW1];exact holds_alloc w xs
 have hB1:Below w.heap.size w W1:=by rw [hW1];exact (Below.refl _ w).alloc (Nat.le_refl _) _
 have cD:=Tryd.slices_DeleteFunc Value.string (fun _ => rfl) noWord 65 #[] eg ByteArray.empty (fun w => Tryd.zeroValue9 w) w.heap.size 0 n xs.toArray W1 (fun W x _ => gives x W) (fun _ _ _ x _ => gives x _) hH (by simp;omega) (by simp;omega)
 rw [show (xs.toArray).size = n by simpa using hl,show (xs.toArray).toList = xs from rfl,← hyx] at cD
 have hz:(ys ++ List.replicate (n - ys.length) ByteArray.empty).length = xs.length:=by rw [List.length_append,List.length_replicate];omega
 have hc2:∀ (q j:Nat) y,ys[j]? = some y → (putRow Value.string (Sort.ahead W1 q) w.heap.size 0 (ys ++ List.replicate (n - ys.length) ByteArray.empty).toArray).cell? ⟨w.heap.size,0 + j,none⟩ = some (.string y):=fun q j y hj => cells_putRow W1 q w.heap.size xs _ hH hz j y (by
  have hlt:=(List.getElem?_eq_some_iff.1 hj).1
  rw [List.getElem?_append_left hlt];exact hj)
 have hlt1:w.heap.size < W1.heap.size:=by rw [hW1];simp
 obtain ⟨W2,hW2⟩:∃ W2:Nat → World,W2 = fun q => putRow Value.string (Sort.ahead W1 q) w.heap.size 0 (ys ++ List.replicate (n - ys.length) ByteArray.empty).toArray:=⟨_,rfl⟩
 have cD':Calls Tryd.prog 64 #[.slice (some ⟨w.heap.size,0,none⟩) n n,.func (.func 65) #[] #[]] W1 fun e w' => e = .returned (.slice (some ⟨w.heap.size,0,none⟩) ys.length n) ∧ ∃ q,w' = W2 q:=by rw [hW2];exact cD
 have hB2:∀ q,Below w.heap.size w (W2 q):=fun q => by rw [hW2];exact Lib.below_putRow hB1 (Nat.le_refl _)
 have hJ:∀ q,Calls Tryd.prog 57 #[.slice (some ⟨w.heap.size,0,none⟩) ys.length n,.string (⟨#[32]⟩:ByteArray)] (W2 q) fun e w' => e = .returned (.string (joined a0)) ∧ Below (W2 q).heap.size (W2 q) w':=by
  intro q
  have:=Tryd.strings_Join w.heap.size 0 n ys (⟨#[32]⟩:ByteArray) (W2 q) (fun j y hj => by rw [hW2];exact hc2 q j y hj) (by rw [hW2];simpa [Sort.ahead] using hlt1) (by omega) (by omega) (by rw [hys];exact Nat.le_trans h1 (by decide))
  rw [hys] at this ⊢
  exact this
 have hjs:(joined a0).size ≤ 2000000:=h1
 have c1:=count_small (joined a0) 32 44
 have c2:=count_small (slim1 a0) 44 32
 have r1:(⟨#[44]⟩:ByteArray).size = 1:=rfl
 have hGb:∀ W,Below w.heap.size w W → ∃ m,W.cell? ⟨0,0,none⟩ = some (.int .i64 m):=fun W hW => (hG.below hW).mx
 have hR1:∀ W,Below w.heap.size w W → Calls Tryd.prog 66 #[.string (joined a0),.string (⟨#[32,44]⟩:ByteArray),.string (⟨#[44]⟩:ByteArray)] W fun e w' => e = .returned (.string (slim1 a0)) ∧ Below W.heap.size W w':=fun W hW => by
  obtain ⟨m,hm⟩:=hGb W hW
  exact Tryd.strings_ReplaceAll (joined a0) ⟨#[32,44]⟩ ⟨#[44]⟩ m W (by omega) hm (by decide) (by rw [r1];omega)
 have hR2:∀ W,Below w.heap.size w W → Calls Tryd.prog 66 #[.string (slim1 a0),.string (⟨#[44,32]⟩:ByteArray),.string (⟨#[44]⟩:ByteArray)] W fun e w' => e = .returned (.string (slim2 a0)) ∧ Below W.heap.size W w':=fun W hW => by
  obtain ⟨m,hm⟩:=hGb W hW
  exact Tryd.strings_ReplaceAll (slim1 a0) ⟨#[44,32]⟩ ⟨#[44]⟩ m W (by omega) hm (by decide) (by rw [r1];omega)
 generalize slim2 a0 = s2 at hR2 ⊢
 generalize slim1 a0 = s1 at hR1 hR2
 generalize joined a0 = s0 at hJ hR1
 generalize ys.length = k at cD' hJ
 clear hc2 hz cD hH hyl hyx hys hxs hl hn hn0 hcnt hm hW1 h0 h1 h2 hjs c1 c2 hGb hW2 eg hlt1 r1
 obtain ⟨HB1⟩:∃ _:Aside0 (Below w.heap.size w W1),True:=⟨⟨hB1⟩,trivial⟩
 obtain ⟨HB2⟩:∃ _:Aside0 (∀ q,Below w.heap.size w (W2 q)),True:=⟨⟨hB2⟩,trivial⟩
 clear hB1 hB2
 go_enter Tryd.func44,Tryd.ntmps44
 go_wp2_with (first | (go_at_call 32;refine cS.mono ?_;rintro e w' ⟨rfl,rfl⟩) | (go_at_call 64;refine cD'.mono ?_;rintro e w' ⟨rfl,q,rfl⟩) | (go_at_call 57;refine (hJ _).mono ?_;rintro e w3 ⟨rfl,hb3⟩;have HB3:=Aside0.mk (below_step (HB2.out q) hb3);clear hb3) | (go_at_call 66;refine (hR1 _ HB3.out).mono ?_;rintro e w4 ⟨rfl,hb4⟩;have HB4:=Aside0.mk (below_step HB3.out hb4);clear hb4 HB3) | (go_at_call 66;refine (hR2 _ HB4.out).mono ?_;rintro e w5 ⟨rfl,hb5⟩;have HB5:=Aside0.mk (below_step HB4.out hb5);clear hb5))
 go_ret
 exact ⟨rfl,HB5.out⟩
end Go.Proofs.YtoiiaklmjpiejaaDoor.LibT
