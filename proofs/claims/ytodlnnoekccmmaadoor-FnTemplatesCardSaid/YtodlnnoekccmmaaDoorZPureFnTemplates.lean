import Derived.Test.YtodlnnoekccmmaaDoorZQFnTemplatesx
import Derived.Test.YtodlnnoekccmmaaDoorZLib
namespace Go.Proofs.YtodlnnoekccmmaaDoor.Pure
open Go.RowKit Go.Proofs.YtodlnnoekccmmaaDoor.QFnTemplates Go.Proofs.YtodlnnoekccmmaaDoorW.PrintWords Go.Proofs.YtodlnnoekccmmaaDoorW.PrintLast Go.Proofs.YtodlnnoekccmmaaDoor.Lib Go.Proofs.YtodlnnoekccmmaaDoor.LibX Go.Proofs.YtodlnnoekccmmaaDoor.LibE
set_option linter.unusedSimpArgs false
set_option linter.unusedVariables false

def Tot {α : Type} (g : Nat → Option α) (P : α → Prop) : Prop := ∃ K r, P r ∧ ∀ k, K ≤ k → g k = some r
theorem Tot.ret {α : Type} {r : α} {P : α → Prop} (h : P r) : Tot (fun _ => some r) P := ⟨0, r, h, fun _ _ => rfl⟩
theorem Tot.of {α : Type} {g : Option α} {r : α} {P : α → Prop} (e : g = some r) (h : P r) : Tot (fun _ => g) P := ⟨0, r, h, fun _ _ => e⟩
theorem Tot.bind {α β : Type} {g : Nat → Option α} {f : Nat → α → Option β} {P : α → Prop} {Q : β → Prop} (h : Tot g P) (hf : ∀ a, P a → Tot (fun k => f k a) Q) : Tot (fun k => (g k).bind (f k)) Q := by
  obtain ⟨K, a, ha, hg⟩ := h
  obtain ⟨L, r, hr, hk⟩ := hf a ha
  exact ⟨max K L, r, hr, fun k hk' => by show (g k).bind (f k) = some r; rw [hg k (by omega)]; exact hk k (by omega)⟩
theorem Tot.ite {α : Type} {c : Prop} [Decidable c] {g f : Nat → Option α} {P : α → Prop} (h1 : c → Tot g P) (h2 : ¬ c → Tot f P) : Tot (fun k => if c then g k else f k) P := by
  by_cases h : c
  · obtain ⟨K, r, hr, hk⟩ := h1 h
    exact ⟨K, r, hr, fun k hk' => by show (if c then g k else f k) = some r; rw [if_pos h]; exact hk k hk'⟩
  · obtain ⟨K, r, hr, hk⟩ := h2 h
    exact ⟨K, r, hr, fun k hk' => by show (if c then g k else f k) = some r; rw [if_neg h]; exact hk k hk'⟩
theorem Tot.yes {α : Type} {c : Prop} [Decidable c] {g f : Nat → Option α} {P : α → Prop} (h : c) (h1 : Tot g P) : Tot (fun k => if c then g k else f k) P := Tot.ite (fun _ => h1) (fun n => absurd h n)
theorem Tot.no {α : Type} {c : Prop} [Decidable c] {g f : Nat → Option α} {P : α → Prop} (h : ¬ c) (h1 : Tot f P) : Tot (fun k => if c then g k else f k) P := Tot.ite (fun n => absurd n h) (fun _ => h1)
theorem Tot.mono {α : Type} {g : Nat → Option α} {P Q : α → Prop} (h : Tot g P) (hi : ∀ a, P a → Q a) : Tot g Q := by
  obtain ⟨K, r, hr, hk⟩ := h
  exact ⟨K, r, hi r hr, hk⟩
theorem Tot.step {α : Type} {g f : Nat → Option α} {P : α → Prop} (h : ∀ k, g (k + 1) = f k) (hf : Tot f P) : Tot g P := by
  obtain ⟨K, r, hr, hk⟩ := hf
  exact ⟨K + 1, r, hr, fun k hk' => by obtain ⟨m, rfl⟩ : ∃ m, k = m + 1 := ⟨k - 1, by omega⟩; rw [h]; exact hk m (by omega)⟩
theorem Tot.lift {α : Type} {g : Nat → Option α} {P : α → Prop} (hm : ∀ k, LeO (g k) (g (k + 1))) {k : Nat} {r : α} (e : g k = some r) (h : P r) : Tot g P := ⟨k, r, h, fun _ hk => at_rounds hm hk e⟩
theorem Tot.congr {α : Type} {g f : Nat → Option α} {P : α → Prop} (h : ∀ k, g k = f k) (hf : Tot f P) : Tot g P := by
  obtain ⟨K, r, hr, hk⟩ := hf
  exact ⟨K, r, hr, fun k hk' => (h k).trans (hk k hk')⟩
theorem Tot.eq {α : Type} {g : Nat → Option α} {r : α} (h : Tot g (fun x => x = r)) : ∃ K, ∀ k, K ≤ k → g k = some r := by
  obtain ⟨K, x, hx, hk⟩ := h
  subst hx
  exact ⟨K, hk⟩
theorem Tot.done {g : Nat → Option Bool} (h : Tot g (fun x => x = true)) : ∃ k, g k = some true := by
  obtain ⟨K, hk⟩ := h.eq
  exact ⟨K, hk K (Nat.le_refl _)⟩

def RdOk (s : List Int) (p : Int) : Prop := 0 ≤ p ∧ p ≤ s.length ∧ s.length ≤ 1048576 ∧ ∀ x ∈ s, 0 ≤ x ∧ x ≤ 255
theorem rd_mem {s : List Int} {p : Int} (h0 : 0 ≤ p) (h1 : p < (s.length : Int)) : rd s p ∈ s := by
  unfold rd
  rw [List.getD_eq_getElem?_getD, List.getElem?_eq_getElem (by omega)]
  exact List.getElem_mem _
theorem open_tot {l : List Int} (hl : l.length ≤ 1048576) (hb : ∀ x ∈ l, 0 ≤ x ∧ x ≤ 255) : spec_l1Open.f l = some (l, 0) ∧ RdOk l 0 :=
  ⟨rfl, by omega, by omega, hl, hb⟩
theorem next_tot {s : List Int} {p : Int} (h : RdOk s p) : ∃ v q, spec_l1Rd_next.f s p = some (v, q) ∧ 0 ≤ v ∧ v ≤ 255 ∧ RdOk s q := by
  obtain ⟨h0, h1, h2, h3⟩ := h
  unfold spec_l1Rd_next.f
  by_cases c : p ≥ (s.length : Int)
  · rw [if_pos c]
    exact ⟨0, p, rfl, by omega, by omega, h0, h1, h2, h3⟩
  · have hm := h3 _ (rd_mem h0 (show p < (s.length : Int) by omega))
    have e : p + 1 - 1 = p := by omega
    rw [if_neg c, w64_in (n := p + 1) (by omega) (by omega), w64_in (n := p + 1 - 1) (by omega) (by omega), e, if_pos h0, if_pos (by omega), w64_in (n := rd s p) (by omega) (by omega)]
    exact ⟨_, _, rfl, hm.1, hm.2, by omega, by omega, h2, h3⟩
theorem below_tot {s : List Int} {p : Int} (h : RdOk s p) (n : Int) : ∃ v q, spec_l1Rd_below.f s p n = some (v, q) ∧ 0 ≤ v ∧ (1 ≤ n → v < n) ∧ RdOk s q := by
  unfold spec_l1Rd_below.f
  by_cases c : n ≤ 1
  · rw [if_pos c]
    exact ⟨0, p, rfl, by omega, by omega, h⟩
  · rw [if_neg c]
    obtain ⟨v, q, e1, v0, v1, h1⟩ := next_tot h
    by_cases c2 : n ≤ 256
    · rw [if_pos c2, e1]
      simp only [Option.bind_some]
      rw [if_neg (by omega), tmod_pos _ v0]
      exact ⟨_, _, rfl, Int.emod_nonneg _ (by omega), fun _ => Int.emod_lt_of_pos _ (by omega), h1⟩
    · obtain ⟨u, r, e2, u0, u1, h2⟩ := next_tot h1
      rw [if_neg c2, e1]
      simp only [Option.bind_some]
      rw [e2]
      simp only [Option.bind_some]
      rw [if_neg (by omega), w64_in (n := v * 256) (by omega) (by omega), w64_in (n := v * 256 + u) (by omega) (by omega), tmod_pos _ (by omega)]
      exact ⟨_, _, rfl, Int.emod_nonneg _ (by omega), fun _ => Int.emod_lt_of_pos _ (by omega), h2⟩

theorem once_tot {s : List Int} {p : Int} (h : RdOk s p) (n : Int) : ∃ b q, spec_l1Rd_once.f s p n = some (b, q) ∧ RdOk s q := by
  obtain ⟨v, q, e, _, _, hq⟩ := below_tot h n
  unfold spec_l1Rd_once.f
  rw [e]
  exact ⟨_, _, rfl, hq⟩

theorem word_tot_l {s : List Int} : ∀ (k : Nat) (x i p : Int), RdOk s p → 0 ≤ i → i ≤ 8 → 8 - i < k → ∃ v q, spec_l1Rd_word.l0 k x i s p = some (v, q) ∧ RdOk s q := by
  intro k
  induction k with
  | zero => intros; omega
  | succ k ih =>
    intro x i p h i0 i1 hk
    simp only [spec_l1Rd_word.l0]
    by_cases c : i < 8
    · obtain ⟨v, q, e, _, _, hq⟩ := next_tot h
      rw [if_pos c, e]
      simp only [Option.bind_some]
      rw [w64_in (n := i + 1) (by omega) (by omega)]
      exact ih _ _ _ hq (by omega) (by omega) (by omega)
    · rw [if_neg c]
      exact ⟨_, _, rfl, h⟩
theorem word_tot {s : List Int} {p : Int} (h : RdOk s p) {k : Nat} (hk : 9 ≤ k) : ∃ v q, spec_l1Rd_word.f k s p = some (v, q) ∧ RdOk s q :=
  word_tot_l k 0 0 p h (by omega) (by omega) (by omega)

theorem near_tot {s : List Int} {p : Int} (h : RdOk s p) {k : Nat} (hk : 9 ≤ k) (lo hi : Int) (hlo : -4294967296 ≤ lo) (hhi : hi ≤ 4294967296) : ∃ v q, spec_l1Rd_near.f k s p lo hi = some (v, q) ∧ RdOk s q := by
  unfold spec_l1Rd_near.f
  obtain ⟨v, q, e, _, _, hq⟩ := below_tot h 8
  rw [e]
  simp only [Option.bind_some]
  by_cases c0 : v = 0
  · rw [if_pos c0]; exact ⟨_, _, rfl, hq⟩
  · rw [if_neg c0]
    by_cases c1 : v = 1
    · rw [if_pos c1]; exact ⟨_, _, rfl, hq⟩
    · rw [if_neg c1]
      by_cases c2 : hi < lo
      · rw [if_pos c2]; exact ⟨_, _, rfl, hq⟩
      · rw [if_neg c2]
        obtain ⟨x, r, e2, hr⟩ := word_tot hq hk
        rw [e2]
        simp only [Option.bind_some]
        rw [w64_in (n := hi - lo) (by omega) (by omega), w64_in (n := hi - lo + 1) (by omega) (by omega), u64_in (n := hi - lo + 1) (by omega) (by omega), if_neg (by omega)]
        exact ⟨_, _, rfl, hr⟩
theorem off_tot {s : List Int} {p : Int} (h : RdOk s p) {k : Nat} (hk : 9 ≤ k) (lo hi : Int) (hlo : -4294967296 ≤ lo) (hhi : hi ≤ 4294967296) : ∃ v q, spec_l1Rd_off.f k s p lo hi = some (v, q) ∧ RdOk s q := by
  unfold spec_l1Rd_off.f
  obtain ⟨b, q, e, hq⟩ := once_tot h 24
  rw [e]
  simp only [Option.bind_some]
  by_cases c : b = true
  · rw [if_pos c]
    obtain ⟨v, r, e2, v0, v1, hr⟩ := below_tot hq 4
    rw [e2]
    simp only [Option.bind_some]
    have v4 := v1 (by omega)
    rw [if_pos v0, if_pos (by simp only [List.length_cons, List.length_nil]; omega)]
    exact ⟨_, _, rfl, hr⟩
  · rw [if_neg c]
    obtain ⟨v, r, e2, hr⟩ := near_tot hq hk lo hi hlo hhi
    rw [e2]
    exact ⟨_, _, rfl, hr⟩

theorem below_T {s : List Int} {p : Int} (h : RdOk s p) (n : Int) : Tot (fun _ => spec_l1Rd_below.f s p n) (fun r => 0 ≤ r.1 ∧ (1 ≤ n → r.1 < n) ∧ RdOk s r.2) := by
  obtain ⟨v, q, e, h0, h1, h2⟩ := below_tot h n
  exact Tot.of e ⟨h0, h1, h2⟩
theorem once_T {s : List Int} {p : Int} (h : RdOk s p) (n : Int) : Tot (fun _ => spec_l1Rd_once.f s p n) (fun r => RdOk s r.2) := by
  obtain ⟨v, q, e, h0⟩ := once_tot h n
  exact Tot.of e h0
theorem off_T {s : List Int} {p : Int} (h : RdOk s p) (lo hi : Int) (hlo : -4294967296 ≤ lo) (hhi : hi ≤ 4294967296) : Tot (fun k => spec_l1Rd_off.f k s p lo hi) (fun r => RdOk s r.2) := by
  obtain ⟨v, q, e, h2⟩ := off_tot h (k := 9) (Nat.le_refl _) lo hi hlo hhi
  exact Tot.lift (fun k => spec_l1Rd_off.mono _ _ _ _ k) e h2

theorem bytes_wf {l : List Int} (h : ∀ x ∈ l, (Lit.int .u8 x).wf = true) : ∀ x ∈ l, 0 ≤ x ∧ x ≤ 255 := by
  intro x hx
  have h1 := h x hx
  have e0 : IntKind.u8.min = 0 := rfl
  have e1 : IntKind.u8.max = 255 := rfl
  simp only [Lit.wf, e0, e1, Bool.and_eq_true, decide_eq_true_eq] at h1
  exact h1

theorem all256 {P : Int → Prop} (h : ∀ n : Fin 256, P ((n.val : Nat) : Int)) {n : Int} (h0 : 0 ≤ n) (h1 : n < 256) : P n := by
  have := h ⟨n.toNat, by omega⟩
  rwa [show ((n.toNat : Nat) : Int) = n by omega] at this
def vS (o : Option ByteArray) : ByteArray := o.getD ⟨#[]⟩

def keys0 : List Nat := [7637895, 684764020, 910444782, 921567730, 364720792, 279245132, 400753843, 81321330, 542971007, 20715554, 115477432, 441469304, 364720793, 279245133, 418945290, 81736344, 356776659, 821842546, 515528728, 921568258, 364720794, 279245134, 437136737, 7913767, 217220888, 20716082, 115616296, 441469832, 364720795, 279245135, 455328184, 7915345, 506544300, 449051176, 305066245, 921569317, 364720798, 279245138, 509902525, 6942508, 332713875, 20717141, 480322552, 441470891, 364720802, 279245142, 582668313, 6877295, 88141019, 712529373, 341449139, 921572214, 790904382, 863108844, 211266624, 7980574, 914310601, 20720038, 480323078, 441473788, 364720791, 279245131, 382562396, 6873870, 716352669, 716352670, 716352671, 716352672, 716352675, 716352679, 400083550, 716352668, 716421838, 716421839, 716421840, 716421841, 716421844, 716421848, 684272287, 716421837, 716491007, 716491008, 716491009, 716491010, 716491013, 716491017, 968461024, 716491006, 716560176, 716560177, 716560178, 716560179, 716560182, 716560186, 252649754, 716560175, 716767683, 716767684, 716767685, 716767686, 716767689, 716767693, 105215958, 716767682, 717044359, 717044360, 717044361, 717044362, 717044365, 717044369, 241970899, 717044358, 780270969, 780270970, 780270971, 780270972, 780270975, 780270979, 898648394, 780270968, 716283500, 716283501, 716283502, 716283503, 716283506, 716283510, 115894813, 716283499, 381592475, 381592476, 381592477, 381592478, 381592481, 381592485, 115851236, 381592474, 597241949, 597241950, 597241951, 597241952, 597241955, 597241959, 65239282, 597241948, 993571460, 993571461, 993571462, 993571463, 993571466, 993571470, 308663050, 993571459, 378336018, 378336019, 378336020, 378336021, 378336024, 378336028, 451342637, 378336017, 223479824, 223479825, 223479826, 223479827, 223479830, 223479834, 225289325, 223479823, 546234026, 546234027, 546234028, 546234029, 546234032, 546234036, 143900057, 546234025, 549757089, 549757090, 549757091, 549757092, 549757095, 549757099, 757293595, 549757088, 570791214, 570791215, 570791216, 570791217, 570791220, 570791224, 924743983, 570791213, 729369372, 931728212, 120546795, 561012827, 586431519, 407920893, 358823437, 797647869, 261328414, 7911945, 21094631, 0, 361269100, 941390458, 74634700, 797647877, 729369349, 931728740, 80484662, 0, 546369386, 407921421, 309295365, 797648132, 261328391, 80841626, 981032505, 0, 321206967, 0, 502375253, 797648140, 303262056, 931729799, 50741880, 0, 0, 407922480, 775196518, 797648395, 721337895, 180838835, 933623452, 0, 0, 0, 659551049, 797648403, 879139320, 931727952, 756191595, 26405, 0, 407920633, 586116611, 797648658, 487654875, 964684911, 585393156, 26668, 0, 0, 118091444, 797648666]
def keys1 : List Nat := [387492646, 387492647, 387492648, 387492649, 387492652, 387492656, 763137349, 387492645, 496641328, 496641329, 496641330, 496641331, 496641334, 496641338, 212961192, 496641327, 81303710, 81303711, 81303712, 81303713, 81303716, 81303720, 897090, 81303709, 81718724, 81718725, 81718726, 81718727, 81718730, 81718734, 706029505, 81718723, 171704834, 171704835, 171704836, 171704837, 171704840, 171704844, 245371829, 171704833, 280853516, 280853517, 280853518, 280853519, 280853522, 280853526, 695195679, 280853515, 791743094, 791743095, 791743096, 791743097, 791743100, 791743104, 311178298, 791743093, 281614375, 281614376, 281614377, 281614378, 281614381, 281614385, 821271765, 281614374, 90392615, 90392616, 90392617, 90392618, 90392621, 90392625, 333335245, 90392614, 90461784, 90461785, 90461786, 90461787, 90461790, 90461794, 617523982, 90461783, 90530953, 90530954, 90530955, 90530956, 90530959, 90530963, 901712719, 90530952, 90600122, 90600123, 90600124, 90600125, 90600128, 90600132, 185901449, 90600121, 90669291, 90669292, 90669293, 90669294, 90669297, 90669301, 470090186, 90669290, 90738460, 90738461, 90738462, 90738463, 90738466, 90738470, 754278923, 90738459, 90807629, 90807630, 90807631, 90807632, 90807635, 90807639, 38467653, 90807628, 90876798, 90876799, 90876800, 90876801, 90876804, 90876808, 322656390, 90876797, 35484072, 35484073, 35484074, 35484075, 35484078, 35484082, 490495586, 35484071, 35553241, 35553242, 35553243, 35553244, 35553247, 35553251, 774684323, 35553240, 35622410, 35622411, 35622412, 35622413, 35622416, 35622420, 58873053, 35622409, 35691579, 35691580, 35691581, 35691582, 35691585, 35691589, 343061790, 35691578, 35760748, 35760749, 35760750, 35760751, 35760754, 35760758, 627250527, 35760747, 35829917, 35829918, 35829919, 35829920, 35829923, 35829927, 911439264, 35829916, 35899086, 35899087, 35899088, 35899089, 35899092, 35899096, 195627994, 35899085, 35968255, 35968256, 35968257, 35968258, 35968261, 35968265, 479816731, 35968254, 561471911, 561471912, 561471913, 561471914, 561471917, 561471921, 319329259, 561471910, 561541080, 561541081, 561541082, 561541083, 561541086, 561541090, 603517996, 561541079, 561610249, 561610250, 561610251, 561610252, 561610255, 561610259, 887706733, 561610248, 561679418, 561679419, 561679420, 561679421, 561679424, 561679428, 171895463, 561679417, 561748587, 561748588, 561748589, 561748590, 561748593, 561748597, 456084200, 561748586, 561817756, 561817757, 561817758, 561817759, 561817762, 561817766, 740272937, 561817755, 561886925, 561886926, 561886927, 561886928, 561886931, 561886935, 24461667, 561886924, 561956094, 561956095, 561956096, 561956097, 561956100, 561956104, 308650404, 561956093]

def keyOf (b : ByteArray) : Nat := b.data.toList.foldl (fun a x => (a * 263 + x.toNat) % 1000000007) 0
def tm (cb : Bool) (n : Int) : ByteArray := vS (impl_TemplateOf.f 40 n cb)
def keyAt (cb : Bool) (n : Int) : Nat := if cb = true then keys1.getD n.toNat 0 else keys0.getD n.toNat 0
def QT (cb : Bool) (n : Int) : Prop :=
  impl_TemplateOf.f 40 n cb = some (tm cb n) ∧ spec_TemplateOf.f 40 n cb = some (tm cb n) ∧ keyOf (tm cb n) = keyAt cb n ∧ (keyAt cb n = 0 → (tm cb n).size = 0)
instance (cb : Bool) (n : Int) : Decidable (QT cb n) := by unfold QT; infer_instance
set_option maxRecDepth 100000 in
theorem qt1 : ∀ n : Fin 256, QT true ((n.val : Nat) : Int) := by decide +kernel
set_option maxRecDepth 100000 in
theorem qt0 : ∀ n : Fin 256, QT false ((n.val : Nat) : Int) := by decide +kernel
theorem qt (cb : Bool) {n : Int} (h0 : 0 ≤ n) (h1 : n < 256) : QT cb n := by
  cases cb
  · exact all256 qt0 h0 h1
  · exact all256 qt1 h0 h1
set_option maxRecDepth 100000 in
theorem apart : (keys0 ++ keys1).Pairwise (fun a b => a = b → a = 0) := by decide +kernel
theorem len0 : keys0.length = 256 := by decide +kernel
theorem len1 : keys1.length = 256 := by decide +kernel
def ix (cb : Bool) (n : Int) : Nat := if cb = true then 256 + n.toNat else n.toNat
theorem ix_lt (cb : Bool) {n : Int} (h0 : 0 ≤ n) (h1 : n < 256) : ix cb n < (keys0 ++ keys1).length := by
  rw [List.length_append, len0, len1]
  unfold ix
  split <;> omega
theorem key_ix (cb : Bool) {n : Int} (h0 : 0 ≤ n) (h1 : n < 256) : keyAt cb n = (keys0 ++ keys1)[ix cb n]'(ix_lt cb h0 h1) := by
  have e : (keys0 ++ keys1)[ix cb n]? = some ((keys0 ++ keys1)[ix cb n]'(ix_lt cb h0 h1)) := List.getElem?_eq_getElem _
  have e2 : (keys0 ++ keys1)[ix cb n]? = some (keyAt cb n) := by
    unfold keyAt ix
    cases cb
    · rw [if_neg (by decide), if_neg (by decide), List.getElem?_append_left (by rw [len0]; omega), List.getD_eq_getElem?_getD, List.getElem?_eq_getElem (by rw [len0]; omega)]
      rfl
    · rw [if_pos rfl, if_pos rfl, List.getElem?_append_right (by rw [len0]; omega), len0, Nat.add_sub_cancel_left, List.getD_eq_getElem?_getD, List.getElem?_eq_getElem (by rw [len1]; omega)]
      rfl
  exact Option.some.inj (e2.symm.trans e)
theorem two {cb cb' : Bool} {n n' : Int} (h0 : 0 ≤ n) (h1 : n < 256) (g0 : 0 ≤ n') (g1 : n' < 256) (hne : ix cb n ≠ ix cb' n') (hz : (tm cb n).size ≠ 0) : tm cb' n' ≠ tm cb n := by
  intro e
  have q := qt cb h0 h1
  have q' := qt cb' g0 g1
  have hk : keyAt cb n = keyAt cb' n' := by rw [← q.2.2.1, ← q'.2.2.1, e]
  have hn0 : keyAt cb n ≠ 0 := fun z => hz (q.2.2.2 z)
  rw [key_ix cb h0 h1, key_ix cb' g0 g1] at hk
  rw [key_ix cb h0 h1] at hn0
  have ap := List.pairwise_iff_getElem.1 apart
  rcases Nat.lt_or_gt_of_ne hne with h | h
  · exact hn0 (ap _ _ (ix_lt cb h0 h1) (ix_lt cb' g0 g1) h hk)
  · exact hn0 (hk.trans (ap _ _ (ix_lt cb' g0 g1) (ix_lt cb h0 h1) h hk.symm))
theorem toL (a : ByteArray) : a.toList = a.data.toList := ByteArray.toList_eq a
theorem toL_inj {a b : ByteArray} (h : a.toList = b.toList) : a = b := by
  rw [toL, toL] at h
  cases a; cases b; congr 1; exact Array.ext' h
theorem nil_size (a : ByteArray) : a.toList = ([] : List UInt8) ↔ a.size = 0 := by
  rw [toL]
  constructor
  · intro h
    have := congrArg List.length h
    rwa [Array.length_toList] at this
  · intro h
    exact List.eq_nil_of_length_eq_zero (by rw [Array.length_toList]; exact h)
theorem tmI_T (cb : Bool) {n : Int} (h0 : 0 ≤ n) (h1 : n < 256) : Tot (fun k => impl_TemplateOf.f k n cb) (· = tm cb n) :=
  Tot.lift (fun k => impl_TemplateOf.mono _ _ k) (qt cb h0 h1).1 rfl
theorem tmS_T (cb : Bool) {n : Int} (h0 : 0 ≤ n) (h1 : n < 256) : Tot (fun k => spec_TemplateOf.f k n cb) (· = tm cb n) :=
  Tot.lift (fun k => spec_TemplateOf.mono _ _ k) (qt cb h0 h1).2.1 rfl
theorem outI_T (cb : Bool) {n : Int} (h : ¬ (0 ≤ n ∧ n < 256)) : Tot (fun k => impl_TemplateOf.f k n cb) (· = ⟨#[]⟩) := by
  unfold impl_TemplateOf.f
  have e : impl_isByte.f n = some false := by
    unfold impl_isByte.f impl_within.f
    by_cases c : n ≥ 0
    · rw [if_pos c, Option.bind_some, decide_eq_false (by omega)]
    · rw [if_neg c, Option.bind_some]
  refine Tot.bind (Tot.of e rfl) ?_
  rintro _ rfl
  exact Tot.no (by decide) (Tot.ret rfl)
theorem outS_T (cb : Bool) {n : Int} (h : ¬ (0 ≤ n ∧ n < 256)) : Tot (fun k => spec_TemplateOf.f k n cb) (· = ⟨#[]⟩) := by
  unfold spec_TemplateOf.f
  have e : spec_l1In.f n 0 255 = some false := by
    unfold spec_l1In.f
    by_cases c : n ≥ 0
    · rw [if_pos c, decide_eq_false (by omega)]
    · rw [if_neg c]
  refine Tot.bind (Tot.of e rfl) ?_
  rintro _ rfl
  exact Tot.no (by decide) (Tot.ret rfl)
theorem drawT_T {l : List Int} (hl : l.length ≤ 1048576) (hb : ∀ x ∈ l, 0 ≤ x ∧ x ≤ 255) : Tot (fun k => spec_DrawTemplateOf.f k l) (fun _ => True) := by
  obtain ⟨e0, hr⟩ := open_tot hl hb
  unfold spec_DrawTemplateOf.f
  refine Tot.bind (Tot.of e0 rfl) ?_
  rintro _ rfl
  refine Tot.bind (off_T hr 0 255 (by decide) (by decide)) fun a ha => ?_
  refine Tot.bind (once_T ha 4) fun b hb => ?_
  refine Tot.ite (fun _ => ?_) (fun _ => ?_)
  · exact Tot.bind (once_T hb 2) fun d hd => Tot.ret trivial
  · refine Tot.bind (below_T hb 256) fun c hc => ?_
    exact Tot.bind (once_T hc.2.2 2) fun d hd => Tot.ret trivial
theorem loop_T (cb : Bool) {n : Int} (h0 : 0 ≤ n) (h1 : n < 256) (hz : (tm cb n).size ≠ 0) : ∀ (d : Nat) (i : Int), 0 ≤ i → i ≤ 256 → 256 - i ≤ d → Tot (fun k => laws_FnTemplates.l0 k n cb (tm cb n) i) (· = true) := by
  intro d
  induction d with
  | zero =>
    intro i i0 i1 id
    exact Tot.step (fun k => laws_FnTemplates.l0.eq_2 _ _ _ _ k) (Tot.no (by omega) (Tot.ret rfl))
  | succ d ih =>
    intro i i0 i1 id
    refine Tot.step (fun k => laws_FnTemplates.l0.eq_2 _ _ _ _ k) (Tot.ite (fun hi => ?_) (fun _ => Tot.ret rfl))
    have nx : Tot (fun k => laws_FnTemplates.j2 k n cb (tm cb n) i ((tm (!cb) i).toList == (tm cb n).toList)) (· = true) := by
      have hne : tm (!cb) i ≠ tm cb n := two h0 h1 i0 hi (by unfold ix; cases cb <;> simp <;> omega) hz
      refine Tot.step (fun k => laws_FnTemplates.j2.eq_2 _ _ _ _ _ k) (Tot.no (fun e => hne (toL_inj (eq_of_beq e))) ?_)
      rw [w64_in (n := i + 1) (by omega) (by omega)]
      exact ih (i + 1) (by omega) (by omega) (by omega)
    refine Tot.bind (tmI_T cb i0 hi) ?_
    rintro _ rfl
    refine Tot.ite (fun he => ?_) (fun he => ?_)
    · have hin : i = n := by
        rcases Decidable.em (i = n) with a | a
        · exact a
        · exact absurd (toL_inj he) (two h0 h1 i0 hi (by unfold ix; split <;> omega) hz)
      refine Tot.yes hin ?_
      refine Tot.bind (tmI_T (!cb) i0 hi) ?_
      rintro _ rfl
      exact nx
    · refine Tot.bind (tmI_T (!cb) i0 hi) ?_
      rintro _ rfl
      exact nx
theorem FnTemplates : laws_FnTemplates.Pure := by
  intro l _ _ hw
  refine Tot.done ?_
  unfold laws_FnTemplates.f laws_big.f
  refine Tot.bind (Tot.of rfl rfl) ?_
  rintro _ rfl
  refine Tot.ite (fun _ => Tot.ret rfl) (fun hbig => ?_)
  refine Tot.bind (drawT_T (l := l) (by simp at hbig; omega) (bytes_wf hw)) fun c _ => ?_
  obtain ⟨n, cb⟩ := c
  dsimp only
  have none_ : ∀ t : ByteArray, t.size = 0 → Tot (fun k => spec_TemplateOf.f k n cb) (· = t) → Tot (fun k => laws_FnTemplates.j0 k n cb t (t.toList == ([] : List UInt8))) (· = true) := by
    intro t ht hs
    refine Tot.step (fun k => laws_FnTemplates.j0.eq_2 _ _ _ _ k) (Tot.yes (by rw [(nil_size t).2 ht]; rfl) ?_)
    refine Tot.bind hs ?_
    rintro _ rfl
    exact Tot.ret (by simp)
  by_cases h : 0 ≤ n ∧ n < 256
  · refine Tot.bind (tmI_T cb h.1 h.2) ?_
    rintro _ rfl
    refine Tot.bind (tmS_T cb h.1 h.2) ?_
    rintro _ rfl
    refine Tot.yes rfl ?_
    by_cases hz : (tm cb n).size = 0
    · exact none_ _ hz (tmS_T cb h.1 h.2)
    · refine Tot.step (fun k => laws_FnTemplates.j0.eq_2 _ _ _ _ k) (Tot.no (fun e => hz ((nil_size _).1 (eq_of_beq e))) ?_)
      exact loop_T cb h.1 h.2 hz 256 0 (by decide) (by decide) (by decide)
  · refine Tot.bind (outI_T cb h) ?_
    rintro _ rfl
    refine Tot.bind (outS_T cb h) ?_
    rintro _ rfl
    exact Tot.yes rfl (none_ _ rfl (outS_T cb h))

end Go.Proofs.YtodlnnoekccmmaaDoor.Pure
