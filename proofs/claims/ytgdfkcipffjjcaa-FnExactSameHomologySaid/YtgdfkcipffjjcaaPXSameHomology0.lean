/- What the functions come to, for the law FnExactSameHomology. -/
import Derived.Test.YtgdfkcipffjjcaaKDONBBK0
import Derived.Test.YtgdfkcipffjjcaaKEBAIGI0
import Derived.Test.YtgdfkcipffjjcaaKECJPPA0
import Derived.Test.YtgdfkcipffjjcaaKFCAEAO0
import Derived.Test.YtgdfkcipffjjcaaKFCAEAO1
import Derived.Test.YtgdfkcipffjjcaaKFJNDMH0
import Derived.Test.YtgdfkcipffjjcaaKFLLPGJ0
import Derived.Test.YtgdfkcipffjjcaaKIDOGIN0
import Derived.Test.YtgdfkcipffjjcaaKJKKPBN0
import Derived.Test.YtgdfkcipffjjcaaKLEMDPK0
import Derived.Test.YtgdfkcipffjjcaaKMNMJHD0
import Derived.Test.YtgdfkcipffjjcaaKNCPLJN0
import Derived.Test.YtgdfkcipffjjcaaKOGKGBE0
import Derived.Test.YtgdfkcipffjjcaaKOLDLOK0
import Derived.Test.YtgdfkcipffjjcaaKPBGHPI0
import Derived.Test.YtgdfkcipffjjcaaKPCBIID0
import Derived.Test.YtgdfkcipffjjcaaKW0
import Derived.Below
import Derived.ChangeOld
import Derived.Deep.Matrix
import Derived.Lib.SmallJoins
import Derived.OpenShut
import Derived.ProofKit
import Derived.ShutString
import Derived.SizedLaws
import Derived.WalkKit
set_option linter.unusedVariables false
set_option linter.unusedSimpArgs false
namespace Go.Proofs.Ytgdfkcipffjjcaa.B
open Go.RowKit Go.ChangeShapes Go.WideShapes Go.Deep Go.Proofs.YtgdfkcipffjjcaaW.PrintWords

def Wf (n : Int) : Prop := -9223372036854775808 ≤ n ∧ n ≤ 9223372036854775807
def WfL (l : List Int) : Prop := l.length ≤ 9223372036854775807 ∧ ∀ n ∈ l, Wf n
def WfLL (l : List (List Int)) : Prop := l.length ≤ 9223372036854775807 ∧ ∀ r ∈ l, WfL r
theorem qK6 {n : Int} (h : (Lit.int .i64 n).wf = true) : Wf n := by
 unfold Wf
 simp [Lit.wf, IntKind.min, IntKind.max, IntKind.bits, IntKind.signed] at h
 omega

section
variable {H : Type} {enc : TypeId × Value → H} {P : Program} {w : World} {base : Nat} {held : Bool} {fuel : Nat}
theorem opened_int {t : TypeId} {v : Value} {x : DataW H × List MemPlace} (ht : P.underlying t = some (.int .i64)) (h : DataW.trod enc P w base (fun _ => true) held fuel t [v] = some x) : ∃ n, v = .int .i64 n ∧ Wf n := by
 obtain ⟨n, he, _, hw⟩ := DataW.trod_int ht h
 exact ⟨n, by simpa using he, qK6 hw⟩
theorem qDd {t e : TypeId} {v : Value} {x : DataW H × List MemPlace} (ht : P.underlying t = some (.slice e)) (he : P.underlying e = some (.int .i64)) (hc : P.cellsOf e = 1) (h : DataW.trod enc P w base (fun _ => true) held fuel t [v] = some x) :
  ∃ A l c, v = .slice A l.length c ∧ (Kd.int .i64).C w A l.length l ∧ l.length ≤ c ∧ WfL l := by
 rcases open_ints ht he hc h with ⟨hcs, _⟩ | ⟨a, l, c, zs, hcs, _, hl, hm, hz, _, hcell, hwz⟩
 ·refine ⟨none, [], 0, by simpa using hcs, ⟨rfl, by simp, fun h => by simp at h⟩, by simp, by simp [WfL]⟩
 ·simp only [if_true] at hz
  have hlen : (zs.take l).length = l := by rw [List.length_take]; omega
  refine ⟨some a, zs.take l, c, by rw [hlen]; simpa using hcs, ⟨rfl, by rw [hlen]; simp only [maxLen] at hm; omega, fun _ => ⟨a, rfl, fun j p hj => ?_⟩⟩, by omega, ?_, fun n hn => qK6 (hwz n (List.mem_of_mem_take hn))⟩
  ·have hjl : j < l := by have := (List.getElem?_eq_some_iff.1 hj).1; omega
   refine ⟨[.int .i64 p], rfl, rfl, fun i u hu => ?_⟩
   cases i with
   | zero =>
    simp only [List.getElem?_cons_zero, Option.some.injEq] at hu
    subst hu
    rw [Nat.add_zero, show j * (Kd.int .i64).sz = j from Nat.mul_one j, hcell j (by omega)]
    rw [List.getElem?_take, if_pos hjl] at hj
    rw [List.getD_eq_getElem?_getD, hj]; rfl
   | succ i => simp at hu
  ·rw [hlen]; simp only [maxLen] at hm; omega
theorem qHv {t e q : TypeId} {v : Value} {x : DataW H × List MemPlace} (ht : P.underlying t = some (.slice e)) (he : P.underlying e = some (.slice q)) (hq : P.underlying q = some (.int .i64)) (ce : P.cellsOf e = 1) (cq : P.cellsOf q = 1) (h : DataW.trod enc P w base (fun _ => true) held fuel t [v] = some x) :
  ∃ A l c, v = .slice A l.length c ∧ (Kd.slice 2 (Kd.int .i64)).C w A l.length l ∧ l.length ≤ c ∧ WfLL l := by
 rcases open_slice1 ht ce h with ⟨hcs, _⟩ | ⟨a, l, c, m, n, V, D, Pl, hcs, _, hl, hm, hmm, _, hx⟩
 ·refine ⟨none, [], 0, by simpa using hcs, ⟨rfl, by simp, fun h => by simp at h⟩, by simp, by simp [WfLL]⟩
 ·simp only [if_true] at hmm
  subst hmm
  have each : ∀ r, r < m → ∃ y : Option Addr × List Int × Nat, V r = .slice y.1 y.2.1.length y.2.2 ∧ (Kd.int .i64).C w y.1 y.2.1.length y.2.1 ∧ y.2.1.length ≤ y.2.2 ∧ WfL y.2.1 := by
   intro r hr
   obtain ⟨A, l, c, h1, h2, h3, h4⟩ := qDd he hq cq (hx r hr).2
   exact ⟨(A, l, c), h1, h2, h3, h4⟩
  obtain ⟨y, hy⟩ := choose_lt each
  have hlen : ((List.range l).map fun r => (y r).2.1).length = l := by simp
  refine ⟨some a, (List.range l).map fun r => (y r).2.1, m, by rw [hlen]; simpa using hcs, ⟨rfl, by rw [hlen]; simp only [maxLen] at hm; omega, fun _ => ⟨a, rfl, fun j p hj => ?_⟩⟩, by omega, ?_, ?_⟩
  ·have hjl : j < l := by have := (List.getElem?_eq_some_iff.1 hj).1; omega
   rw [List.getElem?_map, List.getElem?_range hjl] at hj
   simp only [Option.map_some, Option.some.injEq] at hj
   subst hj
   obtain ⟨h1, h2, h3, h4⟩ := hy j (by omega)
   refine ⟨[.slice (y j).1 (y j).2.1.length (y j).2.2], rfl, ⟨_, _, rfl, h3, h2⟩, fun i u hu => ?_⟩
   cases i with
   | zero =>
    simp only [List.getElem?_cons_zero, Option.some.injEq] at hu
    subst hu
    rw [Nat.add_zero, show j * (Kd.slice 2 (Kd.int .i64)).sz = j from Nat.mul_one j, (hx j (by omega)).1, h1]
   | succ i => simp at hu
  ·rw [hlen]; simp only [maxLen] at hm; omega
  ·intro r hr
   simp only [List.mem_map, List.mem_range] at hr
   obtain ⟨j, hj, rfl⟩ := hr
   exact (hy j (by omega)).2.2.2

theorem qJ4 {r : Reach} {b0 : Nat} {t : TypeId} {f0 : Field} {v : Value} {d : DataW H} {p : List MemPlace} (hs : P.underlying t = some (.struct #[f0])) (hone : oneCellFields P #[f0] = true) (hC : P.cellsOf t = 1)
  (hv : Value.okWide P w r b0 t v) (h : DataW.Trod enc P w base (fun _ => true) held t v d p) :
  ∃ (v0 : Value) (y0 : DataW H × List MemPlace) (n : Nat), v = .agg #[v0] ∧ DataW.trod enc P w base (fun _ => true) held n f0.type [v0] = some y0 := by
 obtain ⟨cs, rfl, hsz⟩ := okWide_struct hs hv
 obtain ⟨c0, rfl⟩ : ∃ c0, cs = #[c0] := by
  have h1 : cs.size = 1 := hsz.trans hC
  match cs, h1 with | ⟨[c0]⟩, _ => exact ⟨c0, rfl⟩
 obtain ⟨fuel, hf⟩ := h
 obtain ⟨y0, n, hx, _, h0⟩ := trod_struct1 hs hf
 obtain ⟨o0, k0⟩ := hone_of hone 0 f0 rfl
 exact ⟨c0, y0, n, rfl, by simpa [Value.cells, o0, k0] using h0⟩
end
theorem own : ownKnob Try.prog.godebug = none := by kernel_rfl
theorem qHx : laidOutB Try.prog = true := by kernel_rfl
end Go.Proofs.Ytgdfkcipffjjcaa.B

set_option linter.unusedVariables false
set_option linter.unusedSimpArgs false
namespace Go.Proofs.Ytgdfkcipffjjcaa.B
open Go.RowKit Go.Proofs.YtgdfkcipffjjcaaW.PrintWords
theorem qAa {α : Type} {c : Prop} [Decidable c] {t f : Nat → Option α} {r : α} (h : c) (e : Ev t r) : Ev (fun k => if c then t k else f k) r := by
 simp only [if_pos h]; exact e
theorem qAd {α : Type} {c : Prop} [Decidable c] {t f : Nat → Option α} {r : α} (h : ¬ c) (e : Ev f r) : Ev (fun k => if c then t k else f k) r := by
 simp only [if_neg h]; exact e
theorem qAt {α : Type} {x : Option α} {r : α} (h : x = some r) : Ev (fun _ => x) r := ⟨0, fun _ _ => h⟩
theorem qBi {α : Type} {g : Nat → Option α} {r r' : α} (h : Ev g r) (e : r = r') : Ev g r' := e ▸ h
def Le {α : Type} (g f : Nat → Option α) : Prop := ∀ r, Ev g r → Ev f r
theorem Le.refl {α : Type} (g : Nat → Option α) : Le g g := fun _ h => h
theorem Le.trans {α : Type} {g f e : Nat → Option α} (h : Le g f) (h' : Le f e) : Le g e := fun r hr => h' r (h r hr)
def iter {σ : Type} (F : Nat → σ → σ) : Nat → Nat → σ → σ
 | _, 0, s => s
 | i, d + 1, s => iter F (i + 1) d (F i s)
theorem qBj {σ β : Type} (L : σ → Nat → Nat → Option β) (F : Nat → σ → σ) (I : Nat → σ → Prop) : ∀ (d i : Nat) (s : σ), I i s → (∀ j s, i ≤ j → j < i + d → I j s → Le (L (F j s) (j + 1)) (L s j) ∧ I (j + 1) (F j s)) → Le (L (iter F i d s) (i + d)) (L s i) ∧ I (i + d) (iter F i d s)
 | 0, i, s, hI, _ => ⟨Le.refl _, hI⟩
 | d + 1, i, s, hI, h => by
  obtain ⟨h0, hI1⟩ := h i s (Nat.le_refl _) (by omega) hI
  have ih := qBj L F I d (i + 1) (F i s) hI1 (fun j s h1 h2 => h j s (by omega) (by omega))
  rw [show i + 1 + d = i + (d + 1) by omega] at ih
  exact ⟨ih.1.trans h0, ih.2⟩
theorem qGn {σ : Type} (F : Nat → σ → σ) (I : Nat → σ → Prop) : ∀ (d i : Nat) (s : σ), I i s → (∀ j s, i ≤ j → j < i + d → I j s → I (j + 1) (F j s)) → I (i + d) (iter F i d s)
 | 0, i, s, hI, _ => hI
 | d + 1, i, s, hI, h => by
  have ih := qGn F I d (i + 1) (F i s) (h i s (Nat.le_refl _) (by omega) hI) (fun j s h1 h2 => h j s (by omega) (by omega))
  rw [show i + 1 + d = i + (d + 1) by omega] at ih
  exact ih
theorem qDg {β : Type} {r : β} (L : Nat → Nat → Option β) (p : Nat → Bool) : ∀ (d i : Nat), (∀ j, i ≤ j → j < i + d → p j = false → Le (L (j + 1)) (L j)) →
  (∀ j, i ≤ j → j < i + d → p j = true → (∀ m, i ≤ m → m < j → p m = false) → Ev (L j) r) → ((∀ m, i ≤ m → m < i + d → p m = false) → Ev (L (i + d)) r) → Ev (L i) r
 | 0, i, _, _, he => he (fun m h1 h2 => by omega)
 | d + 1, i, h0, h1, he => by
  cases hp : p i with
  | true => exact h1 i (Nat.le_refl _) (by omega) hp (fun m h1 h2 => by omega)
  | false =>
   refine h0 i (Nat.le_refl _) (by omega) hp r (qDg L p d (i + 1) (fun j a b => h0 j (by omega) (by omega)) (fun j a b c e => h1 j (by omega) (by omega) c (fun m u v => ?_)) (fun e => ?_))
   ·rcases Nat.eq_or_lt_of_le u with rfl | u
    ·exact hp
    ·exact e m u v
   ·rw [show i + 1 + d = i + (d + 1) by omega]
    refine he (fun m u v => ?_)
    rcases Nat.eq_or_lt_of_le u with rfl | u
    ·exact hp
    ·exact e m u (by omega)
theorem qDz {α : Type} (xs : List α) (z : α) (p : α → Bool) : (List.range xs.length).all (fun i => p (xs.getD i z)) = xs.all p := by
 rw [Bool.eq_iff_iff, List.all_eq_true, List.all_eq_true]
 constructor
 ·intro h x hx
  obtain ⟨i, hi, rfl⟩ := List.mem_iff_getElem.1 hx
  have := h i (List.mem_range.2 hi)
  rwa [List.getD_eq_getElem?_getD, List.getElem?_eq_getElem hi] at this
 ·intro h i hi
  have hi := List.mem_range.1 hi
  rw [List.getD_eq_getElem?_getD, List.getElem?_eq_getElem hi]
  exact h _ (List.getElem_mem hi)
theorem qF7 (L : Nat → Nat → Option Bool) (p : Nat → Bool) (n : Nat) (h1 : ∀ j, j < n → p j = true → Le (L (j + 1)) (L j)) (h0 : ∀ j, j < n → p j = false → Ev (L j) false) (he : Ev (L n) true) : Ev (L 0) ((List.range n).all p) := by
 refine qDg L (fun j => !p j) n 0 (fun j _ hj hp => h1 j (by omega) (by simpa using hp)) (fun j _ hj hp _ => ?_) (fun h => ?_)
 ·have hp' : p j = false := by simpa using hp
  have : (List.range n).all p = false := by
   rw [Bool.eq_false_iff]
   intro h
   have := List.all_eq_true.1 h j (List.mem_range.2 (by omega))
   rw [hp'] at this; cases this
  rw [this]
  exact h0 j (by omega) hp'
 ·have : (List.range n).all p = true := List.all_eq_true.2 (fun j hj => by simpa using h j (Nat.zero_le _) (by have := List.mem_range.1 hj; omega))
  rw [this, Nat.zero_add]
  exact he
theorem qH5 {α : Type} (xs : List α) (z : α) (L : Nat → Nat → Option Bool) (p : α → Bool) (h1 : ∀ j, j < xs.length → p (xs.getD j z) = true → Le (L (j + 1)) (L j)) (h0 : ∀ j, j < xs.length → p (xs.getD j z) = false → Ev (L j) false) (he : Ev (L xs.length) true) : Ev (L 0) (xs.all p) := by
 rw [← qDz xs z]
 exact qF7 L (fun j => p (xs.getD j z)) xs.length h1 h0 he
theorem least {q : Nat → Prop} (h : ∃ j, q j) : ∃ j, q j ∧ ∀ m, m < j → ¬ q m := by
 obtain ⟨j, hj⟩ := h
 induction j using Nat.strongRecOn with
 | _ j ih =>
  by_cases hm : ∃ m, m < j ∧ q m
  ·obtain ⟨m, h1, h2⟩ := hm
   exact ih m h1 h2
  ·exact ⟨j, hj, fun m h1 h2 => hm ⟨m, h1, h2⟩⟩
theorem qLo (L : Nat → Nat → Option Int) (p : Nat → Bool) (n : Nat) (h0 : ∀ j, j < n → p j = false → Le (L (j + 1)) (L j)) (h1 : ∀ j, j < n → p j = true → Ev (L j) (j : Int)) (he : Ev (L n) (-1)) : ∃ t : Int, Ev (L 0) t ∧ decide (t ≥ 0) = (List.range n).any p := by
 by_cases h : ∃ j, j < n ∧ p j = true
 ·obtain ⟨j, ⟨hj, hp⟩, hmin⟩ : ∃ j, (j < n ∧ p j = true) ∧ ∀ m, m < j → ¬ (m < n ∧ p m = true) := by
   exact least h
  refine ⟨j, ?_, ?_⟩
  ·refine qDg L p n 0 (fun i _ hi hpi => h0 i (by omega) hpi) (fun i _ hi hpi hbef => ?_) (fun hall => ?_)
   ·have : i = j := by
     rcases Nat.lt_trichotomy i j with hlt | he | hlt
     ·exact absurd ⟨by omega, hpi⟩ (hmin i hlt)
     ·exact he
     ·have := hbef j (Nat.zero_le _) hlt; rw [hp] at this; cases this
    subst this
    exact h1 i hj hp
   ·have := hall j (Nat.zero_le _) (by omega); rw [hp] at this; cases this
  ·have : (List.range n).any p = true := List.any_eq_true.2 ⟨j, List.mem_range.2 hj, hp⟩
   rw [this]; simp
 ·have hno : ∀ j, j < n → p j = false := fun j hj => by
   cases hp : p j with
   | true => exact absurd ⟨j, hj, hp⟩ h
   | false => rfl
  refine ⟨-1, ?_, ?_⟩
  ·refine qDg L p n 0 (fun i _ hi hpi => h0 i (by omega) hpi) (fun i _ hi hpi hbef => ?_) (fun _ => by rw [Nat.zero_add]; exact he)
   have := hno i (by omega); rw [hpi] at this; cases this
  ·have : (List.range n).any p = false := by
    rw [Bool.eq_false_iff]
    intro hc
    obtain ⟨j, hj, hp⟩ := List.any_eq_true.1 hc
    have := hno j (List.mem_range.1 hj); rw [hp] at this; cases this
   rw [this]; rfl
theorem qKz {α : Type} (xs : List α) (z : α) (p : α → Bool) : (List.range xs.length).any (fun i => p (xs.getD i z)) = xs.any p := by
 have h := qDz xs z (fun x => !p x)
 rw [List.any_eq_not_all_not, List.any_eq_not_all_not, h]
theorem qB5 {α : Type} (xs : List α) (z : α) (L : Nat → Nat → Option Int) (p : α → Bool) (h0 : ∀ j, j < xs.length → p (xs.getD j z) = false → Le (L (j + 1)) (L j)) (h1 : ∀ j, j < xs.length → p (xs.getD j z) = true → Ev (L j) (j : Int)) (he : Ev (L xs.length) (-1)) : ∃ t : Int, Ev (L 0) t ∧ decide (t ≥ 0) = xs.any p := by
 rw [← qKz xs z]
 exact qLo L (fun j => p (xs.getD j z)) xs.length h0 h1 he
theorem qAi {x : Int} (h0 : -9223372036854775808 ≤ x) (h1 : x ≤ 9223372036854775807) : wrap64 x = x := by
 unfold wrap64; omega
theorem qAj {i : Nat} (h : i < 9223372036854775807) : wrap64 ((i : Int) + 1) = ((i + 1 : Nat) : Int) := by
 unfold wrap64; omega
theorem qAx (xs : List Int) (i : Nat) : rd xs (i : Int) = xs.getD i 0 := by simp [rd]
theorem qFr {α : Type} (l : List α) (i : Nat) (z : α) (hi : i < l.length) (y : α) (hy : y = l.getD i z) : (l.take i ++ List.replicate (l.length - i) z).set i y = l.take (i + 1) ++ List.replicate (l.length - (i + 1)) z := by
 have h1 : (l.take i).length = i := by rw [List.length_take]; omega
 rw [List.set_append_right _ _ (by omega), h1, Nat.sub_self, show l.length - i = (l.length - (i + 1)) + 1 by omega, List.replicate_succ, List.set_cons_zero, List.take_succ_eq_append_getElem hi, List.append_assoc]
 subst hy
 simp [List.getElem?_eq_getElem hi]
def total : List (List Int) → Int
 | [] => 0
 | l :: ls => l.length + total ls
theorem qBv : ∀ ls, 0 ≤ total ls
 | [] => Int.le_refl _
 | l :: ls => by have := qBv ls; simp only [total]; omega
theorem qCt : ∀ l m : List (List Int), total (l ++ m) = total l + total m
 | [], m => by simp [total]
 | x :: l, m => by simp only [List.cons_append, total, qCt l m]; omega
end Go.Proofs.Ytgdfkcipffjjcaa.B
set_option linter.unusedVariables false
set_option linter.unusedSimpArgs false
namespace Go.Proofs.Ytgdfkcipffjjcaa.B
open Go.RowKit Go.Proofs.YtgdfkcipffjjcaaW.PrintWords
theorem qGz (l : List Int) (a : Int) (h0 : 0 ≤ a) (h1 : a ≤ 9223372036854775807) (hl : l.length ≤ 9223372036854775807) : z22.f l a = some (if a - l.length < 0 then -1 else a - l.length) := by
 unfold z22.f
 have e : wrap64 (a - (l.length : Int)) = a - l.length := qAi (by omega) (by omega)
 rw [e]
 split <;> rfl
theorem qG0 (l : List (List Int)) (a : Int) (hw : WfLL l) (h0 : 0 ≤ a) (h1 : a ≤ 9223372036854775807) :
  (∃ t, Ev (fun k => z11.f k l a) t ∧ t < 0) ∨ (Ev (fun k => z11.f k l a) (a - l.length - total l) ∧ l.length + total l ≤ a) := by
 have loop : ∀ (d i : Nat) (b : Int), d + i = l.length → 0 ≤ b → b ≤ 9223372036854775807 → (∃ t, Ev (fun k => z11.l0 k l b (i : Int)) t ∧ t < 0) ∨ (Ev (fun k => z11.l0 k l b (i : Int)) (b - total (l.drop i)) ∧ total (l.drop i) ≤ b) := by
  intro d
  induction d with
  | zero =>
   intro i b hd hb0 hb1
   right
   have hi : l.length = i := by omega
   rw [List.drop_of_length_le (by omega)]
   refine ⟨Ev.step (fun k => z11.l0.eq_2 ..) (qAd (by omega) (qBi (Ev.now b) (by simp [total]))), by simpa [total] using hb0⟩
  | succ d ih =>
   intro i b hd hb0 hb1
   have hi : i < l.length := by omega
   have hdr : l.drop i = l.getD i [] :: l.drop (i + 1) := by
    rw [List.drop_eq_getElem_cons hi, List.getD_eq_getElem?_getD, List.getElem?_eq_getElem hi]; rfl
   have hm : l.getD i [] ∈ l := by
    rw [List.getD_eq_getElem?_getD, List.getElem?_eq_getElem hi]; exact List.getElem_mem hi
   have hrl := (hw.2 _ hm).1
   have hv := qGz (l.getD i []) b hb0 hb1 hrl
   have hrd : rI_ l (i : Int) = l.getD i [] := by simp [rI_]
   have hlen : l.length ≤ 9223372036854775807 := hw.1
   by_cases hneg : b - ((l.getD i []).length : Int) < 0
   ·left
    rw [if_pos hneg] at hv
    refine ⟨-1, Ev.step (fun k => z11.l0.eq_2 ..) (qAa (by omega) (qAa (by omega) ?_)), by omega⟩
    rw [hrd]
    exact Ev.bind (qAt hv) (qAa (by omega) (Ev.now _))
   ·rw [if_neg hneg] at hv
    rcases ih (i + 1) (b - ((l.getD i []).length : Int)) (by omega) (by omega) (by omega) with ⟨t, ht, htn⟩ | ⟨ht, htb⟩
    ·left
     refine ⟨t, Ev.step (fun k => z11.l0.eq_2 ..) (qAa (by omega) (qAa (by omega) ?_)), htn⟩
     rw [hrd, qAj (by omega)]
     exact Ev.bind (qAt hv) (qAd (by omega) ht)
    ·right
     rw [hdr]
     simp only [total]
     refine ⟨Ev.step (fun k => z11.l0.eq_2 ..) (qAa (by omega) (qAa (by omega) ?_)), by omega⟩
     rw [hrd, qAj (by omega)]
     exact Ev.bind (qAt hv) (qAd (by omega) (qBi ht (by omega)))
 have hlen : l.length ≤ 9223372036854775807 := hw.1
 have e : wrap64 (a - (l.length : Int)) = a - l.length := qAi (by omega) (by omega)
 by_cases hneg : a - (l.length : Int) < 0
 ·left
  refine ⟨-1, ?_, by omega⟩
  unfold z11.f
  rw [e]
  exact qAa hneg (Ev.now _)
 ·rcases loop l.length 0 (a - l.length) (by omega) (by omega) (by omega) with ⟨t, ht, htn⟩ | ⟨ht, htb⟩
  ·left
   refine ⟨t, ?_, htn⟩
   unfold z11.f
   rw [e]
   exact qAd hneg ht
  ·right
   refine ⟨?_, by simp only [List.drop_zero] at htb; omega⟩
   unfold z11.f
   rw [e]
   exact qAd hneg ht
theorem qDb (l : List Int) (hl : l.length ≤ 1048576) : Ev (fun k => z7.f k l) l := by
 have h := qBj (fun (s : List Int) (i : Nat) k => z7.l0 k l s (i : Int)) (fun i s => s.set i (l.getD i 0)) (fun i s => s = l.take i ++ List.replicate (l.length - i) 0) l.length 0 (List.replicate l.length 0) (by simp) (by
  intro j s _ hj hs
  refine ⟨fun r hr => Ev.step (fun k => z7.l0.eq_2 ..) (qAa (by omega) (qAa (by omega) (qAa ?_ ?_))), ?_⟩
  ·subst hs; simp only [List.length_append, List.length_take, List.length_replicate]; omega
  ·rw [qAj (by omega), qAx, Int.toNat_natCast]; exact hr
  ·subst hs; exact qFr l j 0 (by omega) _ rfl)
 unfold z7.f
 refine qAa (by omega) (qAa (by omega) ?_)
 rw [Int.toNat_natCast]
 refine h.1 l (Ev.step (fun k => z7.l0.eq_2 ..) (qAd (by omega) (qBi (Ev.now _) ?_)))
 rw [h.2]
 simp
theorem qGx (l : List (List Int)) (hl : l.length ≤ 1048576) (hr : ∀ x ∈ l, x.length ≤ 1048576) : Ev (fun k => z16.f k l) l := by
 have h := qBj (fun (s : List (List Int)) (i : Nat) k => z16.l0 k l s (i : Int)) (fun i s => s.set i (l.getD i [])) (fun i s => s = l.take i ++ List.replicate (l.length - i) []) l.length 0 (List.replicate l.length []) (by simp) (by
  intro j s _ hj hs
  have hm : l.getD j [] ∈ l := by
   rw [List.getD_eq_getElem?_getD, List.getElem?_eq_getElem (by omega)]; exact List.getElem_mem _
  have hrd : rI_ l (j : Int) = l.getD j [] := by simp [rI_]
  refine ⟨fun r hr' => Ev.step (fun k => z16.l0.eq_2 ..) (qAa (by omega) (qAa (by omega) ?_)), ?_⟩
  ·rw [hrd]
   refine Ev.bind (qDb _ (hr _ hm)) (qAa ?_ ?_)
   ·subst hs; simp only [List.length_append, List.length_take, List.length_replicate]; omega
   ·rw [qAj (by omega), Int.toNat_natCast]; exact hr'
  ·subst hs; exact qFr l j [] (by omega) _ rfl)
 unfold z16.f
 refine qAa (by omega) (qAa (by omega) ?_)
 rw [Int.toNat_natCast]
 refine h.1 l (Ev.step (fun k => z16.l0.eq_2 ..) (qAd (by omega) (qBi (Ev.now _) ?_)))
 rw [h.2]
 simp
theorem qCo {α : Type} [BEq α] [LawfulBEq α] (l m : List α) (z : α) (h : l.length = m.length) : (List.range l.length).all (fun i => l.getD i z == m.getD i z) = (l == m) := by
 rw [Bool.eq_iff_iff, List.all_eq_true, beq_iff_eq]
 constructor
 ·intro e
  apply List.ext_getElem h
  intro i h1 h2
  have := e i (List.mem_range.2 h1)
  simpa [List.getD_eq_getElem?_getD, List.getElem?_eq_getElem h1, List.getElem?_eq_getElem h2] using this
 ·rintro rfl i _
  exact beq_self_eq_true _
theorem qD5 {α : Type} [BEq α] [LawfulBEq α] {l m : List α} (h : l.length ≠ m.length) : (l == m) = false := by
 rw [Bool.eq_false_iff]; intro e; exact h (by rw [eq_of_beq e])
theorem qE5 (l m : List Int) (hl : l.length < 9223372036854775807) : Ev (fun k => z10.f k l m) (l == m) := by
 unfold z10.f
 by_cases h : l.length = m.length
 ·refine qAa (by omega) ?_
  rw [← qCo l m 0 h]
  refine qF7 (fun (i : Nat) k => z10.l0 k l m (i : Int)) _ l.length (fun j hj hp r hr => ?_) (fun j hj hp => ?_) ?_
  ·refine Ev.step (fun k => z10.l0.eq_2 ..) (qAa (by omega) (qAa (by omega) (qAa (by omega) (qAa ?_ ?_))))
   ·rw [qAx, qAx]; exact eq_of_beq hp
   ·rw [qAj (by omega)]; exact hr
  ·refine Ev.step (fun k => z10.l0.eq_2 ..) (qAa (by omega) (qAa (by omega) (qAa (by omega) (qAd ?_ (Ev.now _)))))
   rw [qAx, qAx]; exact ne_of_beq_false hp
  ·exact Ev.step (fun k => z10.l0.eq_2 ..) (qAd (by omega) (Ev.now _))
 ·rw [qD5 h]
  exact qAd (by omega) (Ev.now _)
theorem qHh (l m : List (List Int)) (hl : l.length < 9223372036854775807) (hr : ∀ x ∈ l, x.length < 9223372036854775807) : Ev (fun k => z21.f k l m) (l == m) := by
 unfold z21.f
 by_cases h : l.length = m.length
 ·refine qAa (by omega) ?_
  rw [← qCo l m [] h]
  have hm : ∀ j, j < l.length → Ev (fun k => z10.f k (rI_ l (j : Int)) (rI_ m (j : Int))) (l.getD j [] == m.getD j []) := fun j hj => by
   have h1 : rI_ l (j : Int) = l.getD j [] := by simp [rI_]
   have h2 : rI_ m (j : Int) = m.getD j [] := by simp [rI_]
   rw [h1, h2]
   refine qE5 _ _ (hr _ ?_)
   rw [List.getD_eq_getElem?_getD, List.getElem?_eq_getElem hj]; exact List.getElem_mem hj
  refine qF7 (fun (i : Nat) k => z21.l0 k l m (i : Int)) _ l.length (fun j hj hp r hr => ?_) (fun j hj hp => ?_) ?_
  ·refine Ev.step (fun k => z21.l0.eq_2 ..) (qAa (by omega) (qAa (by omega) (qAa (by omega) (Ev.bind (hm j hj) (qAa hp ?_)))))
   rw [qAj (by omega)]; exact hr
  ·exact Ev.step (fun k => z21.l0.eq_2 ..) (qAa (by omega) (qAa (by omega) (qAa (by omega) (Ev.bind (hm j hj) (qAd (by rw [hp]; decide) (Ev.now _))))))
  ·exact Ev.step (fun k => z21.l0.eq_2 ..) (qAd (by omega) (Ev.now _))
 ·rw [qD5 h]
  exact qAd (by omega) (Ev.now _)
end Go.Proofs.Ytgdfkcipffjjcaa.B
set_option linter.unusedVariables false
set_option linter.unusedSimpArgs false
namespace Go.Proofs.Ytgdfkcipffjjcaa.B
open Go.RowKit Go.Proofs.YtgdfkcipffjjcaaW.PrintWords
theorem qEb : ∀ (l : List (List Int)) (x : List Int), x ∈ l → x.length ≤ total l
 | [], x, h => by cases h
 | y :: l, x, h => by
  simp only [total]
  rcases List.mem_cons.1 h with rfl | h
  ·have := qBv l; omega
  ·have := qEb l x h; omega
theorem qFl (l : List (List Int)) (hl : l.length < 9223372036854775807) (hr : ∀ x ∈ l, x.length < 9223372036854775807) : Ev (fun k => z9.f k l l) true := by
 unfold z9.f
 exact Ev.bind (qBi (qHh l l hl hr) (beq_self_eq_true l)) (qAa rfl (Ev.now _))
theorem qGy (l : List (List Int)) (hl : l.length ≤ 1048576) (hr : ∀ x ∈ l, x.length ≤ 1048576) : Ev (fun k => z6.f k l) l := by
 unfold z6.f
 exact Ev.bind (qGx l hl hr) (Ev.now _)
theorem qG1 (l : List (List Int)) (b : Int) (hw : WfLL l) (h0 : 0 ≤ b) (h1 : b ≤ 9223372036854775807) :
  (∃ t, Ev (fun k => z4.f k l b) t ∧ t < 0) ∨ (Ev (fun k => z4.f k l b) (b - l.length - total l) ∧ l.length + total l ≤ b) := by
 unfold z4.f
 rcases qG0 l b hw h0 h1 with ⟨t, ht, hn⟩ | ⟨ht, hb⟩
 ·exact .inl ⟨-1, Ev.bind ht (qAa hn (Ev.now _)), by omega⟩
 ·exact .inr ⟨Ev.bind ht (qAd (by omega) (Ev.now _)), hb⟩
end Go.Proofs.Ytgdfkcipffjjcaa.B
set_option linter.unusedVariables false
set_option linter.unusedSimpArgs false
namespace Go.Proofs.Ytgdfkcipffjjcaa.B
open Go.RowKit Go.Proofs.YtgdfkcipffjjcaaW.PrintWords
end Go.Proofs.Ytgdfkcipffjjcaa.B
set_option linter.unusedVariables false
set_option linter.unusedSimpArgs false
namespace Go.Proofs.Ytgdfkcipffjjcaa.B
open Go.RowKit Go.Proofs.YtgdfkcipffjjcaaW.PrintWords
theorem qDv (l : List Int) (hl : l.length < 9223372036854775807) : Ev (fun k => z10.f k l l) true := qBi (qE5 l l hl) (beq_self_eq_true l)
end Go.Proofs.Ytgdfkcipffjjcaa.B
set_option linter.unusedVariables false
set_option linter.unusedSimpArgs false
namespace Go.Proofs.Ytgdfkcipffjjcaa.B
open Go.RowKit Go.Proofs.YtgdfkcipffjjcaaW.PrintWords
end Go.Proofs.Ytgdfkcipffjjcaa.B
set_option linter.unusedVariables false
set_option linter.unusedSimpArgs false
namespace Go.Proofs.Ytgdfkcipffjjcaa.B
open Go.RowKit Go.Proofs.YtgdfkcipffjjcaaW.PrintWords
def filt (p : Nat → Bool) (n : Nat) : List Int := ((List.range n).filter p).map fun i : Nat => (i : Int)
theorem qC1 (p : Nat → Bool) (n : Nat) : filt p (n + 1) = filt p n ++ if p n then [(n : Int)] else [] := by
 unfold filt
 rw [List.range_succ, List.filter_append, List.map_append]
 congr 1
 cases h : p n <;> simp [List.filter_cons, h]
theorem qH3 (p : Nat → Bool) : ∀ n, (filt p n).length ≤ n
 | 0 => Nat.le_refl _
 | n + 1 => by
  have := qH3 p n
  rw [qC1, List.length_append]
  split <;> simp <;> omega
theorem qF4 {p q : Nat → Bool} : ∀ n, (∀ i, i < n → p i = q i) → filt p n = filt q n
 | 0, _ => rfl
 | n + 1, h => by rw [qC1, qC1, qF4 n (fun i hi => h i (by omega)), h n (by omega)]
theorem qGm {p : Nat → Bool} {n : Nat} {x : Int} : x ∈ filt p n ↔ ∃ i, i < n ∧ p i = true ∧ x = (i : Int) := by
 unfold filt
 rw [List.mem_map]
 constructor
 ·rintro ⟨i, hi, rfl⟩
  obtain ⟨h1, h2⟩ := List.mem_filter.1 hi
  exact ⟨i, List.mem_range.1 h1, h2, rfl⟩
 ·rintro ⟨i, hi, hp, rfl⟩
  exact ⟨i, List.mem_filter.2 ⟨List.mem_range.2 hi, hp⟩, rfl⟩
theorem qH4 {β : Type} (L : List Int → Nat → Nat → Option β) (p : Nat → Bool) : ∀ (n : Nat), (∀ j s, j < n → s.length ≤ j → p j = true → Le (L (s ++ [(j : Int)]) (j + 1)) (L s j)) → (∀ j s, j < n → s.length ≤ j → p j = false → Le (L s (j + 1)) (L s j)) → Le (L (filt p n) n) (L [] 0)
 | 0, _, _ => Le.refl _
 | n + 1, h1, h0 => by
  have ih := qH4 L p n (fun j s hj => h1 j s (by omega)) (fun j s hj => h0 j s (by omega))
  refine Le.trans ?_ ih
  rw [qC1]
  cases hp : p n with
  | true => exact h1 n _ (by omega) (qH3 p n) hp
  | false => simpa using h0 n _ (by omega) (qH3 p n) hp
theorem qEd {α β : Type} (L : List α → Nat → Nat → Option β) (g : Nat → α) : ∀ (n : Nat), (∀ j s, j < n → s = (List.range j).map g → Le (L (s ++ [g j]) (j + 1)) (L s j)) → Le (L ((List.range n).map g) n) (L [] 0)
 | 0, _ => Le.refl _
 | n + 1, h => by
  have ih := qEd L g n (fun j s hj => h j s (by omega))
  refine Le.trans ?_ ih
  rw [List.range_succ, List.map_append]
  exact h n _ (by omega) rfl
theorem qDh (L : Nat → Nat → Option Bool) (p : Nat → Bool) (b : Bool) : ∀ (n : Nat), (∀ j, j < n → (∀ m, m < j → p m = true) → p j = true → Le (L (j + 1)) (L j)) → (∀ j, j < n → (∀ m, m < j → p m = true) → p j = false → Ev (L j) false) → ((∀ m, m < n → p m = true) → Ev (L n) b) → Ev (L 0) ((List.range n).all p && b) := by
 intro n h1 h0 he
 have main : ∀ (d i : Nat), i + d = n → (∀ m, m < i → p m = true) → Ev (L i) ((List.range n).all p && b) := by
  intro d
  induction d with
  | zero =>
   intro i hi hall
   have : i = n := by omega
   subst this
   have e : (List.range i).all p = true := List.all_eq_true.2 (fun j hj => hall j (List.mem_range.1 hj))
   rw [e, Bool.true_and]; exact he hall
  | succ d ih =>
   intro i hi hall
   cases hp : p i with
   | true =>
    refine h1 i (by omega) hall hp _ (ih (i + 1) (by omega) (fun m hm => ?_))
    rcases Nat.lt_or_ge m i with hl | hg
    ·exact hall m hl
    ·have : m = i := by omega
     subst this; exact hp
   | false =>
    have e : (List.range n).all p = false := by
     rw [Bool.eq_false_iff]
     intro h
     have := List.all_eq_true.1 h i (List.mem_range.2 (by omega))
     rw [hp] at this; cases this
    rw [e, Bool.false_and]
    exact h0 i (by omega) hall hp
 exact main n 0 (by omega) (fun m hm => by omega)
theorem qJ7 {α β : Type} (z : α) (g : α → β) (l : List α) : l.map g = (List.range l.length).map fun j => g (l.getD j z) := by
 apply List.ext_getElem
 ·simp
 ·intro n h1 h2
  simp only [List.getElem_map, List.getElem_range, List.getD_eq_getElem?_getD]
  have : n < l.length := by simpa using h1
  simp [List.getElem?_eq_getElem this]
end Go.Proofs.Ytgdfkcipffjjcaa.B
set_option linter.unusedVariables false
set_option linter.unusedSimpArgs false
namespace Go.Proofs.Ytgdfkcipffjjcaa.B
open Go.RowKit Go.Proofs.YtgdfkcipffjjcaaW.PrintWords
theorem qC3 (a b c : Int) : z75.f a b c = some (decide (b ≤ a) && decide (a ≤ c)) := by
 unfold z75.f
 by_cases h : a ≥ b
 ·rw [if_pos h]; simp [h]
 ·rw [if_neg h]; simp; omega
theorem qE2 (a b c : Int) : z40.f a b c = some (decide (b ≤ a) && decide (a ≤ c)) := by
 unfold z40.f
 by_cases h : a ≥ b
 ·rw [if_pos h]; simp [h]
 ·rw [if_neg h]; simp; omega
theorem qA1 {α : Type} {l : List α} {i : Nat} (z : α) (h : i < l.length) : l.getD i z ∈ l := by
 rw [List.getD_eq_getElem?_getD, List.getElem?_eq_getElem h]; exact List.getElem_mem h
theorem qA3 (l : List (List Int)) (i : Nat) : rI_ l (i : Int) = l.getD i [] := by simp [rI_]
end Go.Proofs.Ytgdfkcipffjjcaa.B
set_option linter.unusedVariables false
set_option linter.unusedSimpArgs false
namespace Go.Proofs.Ytgdfkcipffjjcaa.B
open Go.RowKit Go.Proofs.YtgdfkcipffjjcaaW.PrintWords
theorem qEn (l : List (List Int)) (k : Nat) (hk : k < l.length) : total (l.take (k + 1)) = total (l.take k) + (l.getD k []).length := by
 have ht : l.take (k + 1) = l.take k ++ [l.getD k []] := by
  rw [List.take_succ_eq_append_getElem hk, List.getD_eq_getElem?_getD, List.getElem?_eq_getElem hk]; rfl
 rw [ht, qCt]; simp [total]
theorem qC9 (l : List (List Int)) (k : Nat) : total (l.take k) ≤ total l := by
 have h := qCt (l.take k) (l.drop k)
 rw [List.take_append_drop] at h
 have := qBv (l.drop k)
 omega
theorem qDa : ∀ l : List (List Int), (l.flatten.length : Int) = total l
 | [] => rfl
 | x :: l => by rw [List.flatten_cons, List.length_append]; have := qDa l; simp only [total]; omega
theorem qGo (l : List (List Int)) (k : Nat) (hk : k < l.length) : (l.take (k + 1)).flatten = (l.take k).flatten ++ l.getD k [] := by
 have ht : l.take (k + 1) = l.take k ++ [l.getD k []] := by
  rw [List.take_succ_eq_append_getElem hk, List.getD_eq_getElem?_getD, List.getElem?_eq_getElem hk]; rfl
 rw [ht, List.flatten_append]; simp
theorem qKl (l : List (List Int)) (hl : l.length < 9223372036854775807) (ht : total l ≤ 17592186044415) : Ev (fun k => z93.f k l) l.flatten := by
 unfold z93.f
 -- the second loop
 have h1 : Ev (fun k => z93.l1 k ([] : List Int) l (l.length : Int) 0) l.flatten := by
  have := (qBj (fun (s : List Int) (i : Nat) k => z93.l1 k s l (l.length : Int) (i : Int)) (fun i s => s ++ l.getD i []) (fun i s => s = (l.take i).flatten) l.length 0 [] (by simp) (by
   intro j s _ hj hs
   have hj' : j < l.length := by omega
   refine ⟨fun r hr => ?_, by rw [qGo l j hj', hs]⟩
   refine Ev.step (fun k => z93.l1.eq_2 ..) ?_
   rw [qA3, qAj (by omega)]
   have e1 := qEn l j hj'
   have e2 := qC9 l (j + 1)
   have e3 := qDa (l.take j)
   rw [← hs] at e3
   exact qAa (by omega) (qAa (by omega) (qAa (by omega) (qAa (by omega) hr)))))
  refine this.1 _ ?_
  refine Ev.step (fun k => z93.l1.eq_2 ..) ?_
  refine qAd (by omega) (qBi (Ev.now _) ?_)
  rw [this.2, Nat.zero_add, List.take_length]
 have := (qBj (fun (s : Int) (i : Nat) k => z93.l0 k l s l (l.length : Int) (i : Int)) (fun i s => s + (l.getD i []).length) (fun i s => s = total (l.take i)) l.length 0 0 (by simp [total]) (by
  intro j s _ hj hs
  have hj' : j < l.length := by omega
  have e1 := qEn l j hj'
  have e2 := qC9 l (j + 1)
  have e3 := qBv (l.take j)
  refine ⟨fun r hr => ?_, by rw [e1, hs]⟩
  refine Ev.step (fun k => z93.l0.eq_2 ..) ?_
  rw [qA3, qAj (by omega), qAi (x := s + ((l.getD j []).length : Int)) (by omega) (by omega)]
  exact qAa (by omega) (qAa (by omega) (qAa (by omega) (qAd (by omega) hr)))))
 refine this.1 _ ?_
 refine Ev.step (fun k => z93.l0.eq_2 ..) ?_
 have e4 : iter (fun i s => s + ((l.getD i []).length : Int)) 0 l.length 0 = total l := by
  rw [this.2, Nat.zero_add, List.take_length]
 rw [e4]
 have e5 := qBv l
 refine qAd (by omega) (Ev.bind (a := []) (qAt ?_) h1)
 unfold slices_Grow_int64_int64.f
 rw [if_pos ⟨⟨rfl, e5⟩, ht⟩]
end Go.Proofs.Ytgdfkcipffjjcaa.B
set_option linter.unusedVariables false
set_option linter.unusedSimpArgs false
namespace Go.Proofs.Ytgdfkcipffjjcaa.B.SimT
def qC0 : List Int → List Int → Bool
 | [], [] => false
 | [], _ :: _ => true
 | _ :: _, [] => false
 | a :: l, b :: m => if a < b then true else if b < a then false else qC0 l m
theorem qEc : ∀ l, qC0 l l = false
 | [] => rfl
 | a :: l => by simp [qC0, qEc l]
theorem qE0 : ∀ {a b c : List Int}, qC0 a b = true → qC0 b c = true → qC0 a c = true
 | [], [], _, h, _ => by cases h
 | [], _ :: _, [], _, h => by cases h
 | [], _ :: _, _ :: _, _, _ => rfl
 | _ :: _, [], _, h, _ => by cases h
 | _ :: _, _ :: _, [], _, h => by cases h
 | a :: l, b :: m, c :: o, h, h' => by
  simp only [qC0] at h h' ⊢
  by_cases h1 : a < b
  ·by_cases h2 : b < c
   ·rw [if_pos (by omega)]
   ·rw [if_neg h2] at h'
    by_cases h3 : c < b
    ·rw [if_pos h3] at h'; cases h'
    ·rw [if_pos (by omega)]
  ·rw [if_neg h1] at h
   by_cases h2 : b < a
   ·rw [if_pos h2] at h; cases h
   ·rw [if_neg h2] at h
    have e : a = b := by omega
    subst e
    by_cases h3 : a < c
    ·rw [if_pos h3]
    ·rw [if_neg h3] at h' ⊢
     by_cases h4 : c < a
     ·rw [if_pos h4] at h'; cases h'
     ·rw [if_neg h4] at h' ⊢
      exact qE0 h h'
def slt (a b : List Int) : Bool := decide (a.length < b.length) || (decide (a.length = b.length) && qC0 a b)
theorem qEs (a b : List Int) : slt a b = true ↔ a.length < b.length ∨ (a.length = b.length ∧ qC0 a b = true) := by simp [slt]
theorem qCg (a : List Int) : slt a a = false := by simp [slt, qEc]
theorem qEr {a b c : List Int} (h : slt a b = true) (h' : slt b c = true) : slt a c = true := by
 rw [qEs] at *
 rcases h with h | ⟨h1, h2⟩ <;> rcases h' with h' | ⟨h1', h2'⟩
 ·exact .inl (by omega)
 ·exact .inl (by omega)
 ·exact .inl (by omega)
 ·exact .inr ⟨by omega, qE0 h2 h2'⟩
theorem qJs {a b : List Int} (h : slt a b = true) : slt b a = false := by
 cases h' : slt b a with
 | false => rfl
 | true => have := qEr h h'; rw [qCg] at this; cases this
def Srt (l : List (List Int)) : Prop := l.Pairwise fun a b => slt a b = true
theorem qEo {l : List (List Int)} (h : Srt l) {i j : Nat} (hij : i < j) (hj : j < l.length) : slt (l.getD i []) (l.getD j []) = true := by
 have := List.pairwise_iff_getElem.1 h i j (by omega) hj hij
 simpa [List.getD_eq_getElem?_getD, List.getElem?_eq_getElem hj, List.getElem?_eq_getElem (show i < l.length by omega)] using this
theorem qIz {l : List (List Int)} (h : ∀ i, i + 1 < l.length → slt (l.getD i []) (l.getD (i + 1) []) = true) : Srt l := by
 have main : ∀ d i, i + d + 1 < l.length → slt (l.getD i []) (l.getD (i + d + 1) []) = true := by
  intro d
  induction d with
  | zero => exact h
  | succ d ih =>
   intro i hi
   have h1 := ih i (by omega)
   have h2 := h (i + d + 1) (by omega)
   exact qEr h1 h2
 refine List.pairwise_iff_getElem.2 (fun i j hi hj hij => ?_)
 have := main (j - i - 1) i (by omega)
 rw [show i + (j - i - 1) + 1 = j by omega] at this
 simpa [List.getD_eq_getElem?_getD, List.getElem?_eq_getElem hj, List.getElem?_eq_getElem hi] using this
def drp (s : List Int) (k : Nat) : List Int := s.take k ++ s.drop (k + 1)
theorem qKk : ∀ (s : List Int) (k : Nat), drp s k = s.eraseIdx k
 | [], k => by cases k <;> rfl
 | a :: s, 0 => by simp [drp]
 | a :: s, k + 1 => by
  have := qKk s k
  simp only [drp] at this
  simp [drp, this]
theorem qF8 {s : List Int} {k : Nat} (h : k < s.length) : (drp s k).length = s.length - 1 := by
 rw [qKk, List.length_eraseIdx, if_pos h]
theorem qMp (s : List Int) (k : Nat) : (drp s k).Sublist s := by rw [qKk]; exact List.eraseIdx_sublist ..
theorem qMq {s : List Int} {k : Nat} (h : k < s.length) : slt (drp s k) s = true := by
 rw [qEs, qF8 h]; exact .inl (by omega)
def qL5 (C : List (List Int)) : Prop := ∀ s, s ∈ C → 1 < s.length → ∀ k, k < s.length → drp s k ∈ C
end Go.Proofs.Ytgdfkcipffjjcaa.B.SimT
set_option linter.unusedVariables false
set_option linter.unusedSimpArgs false
namespace Go.Proofs.Ytgdfkcipffjjcaa.B
open Go.RowKit Go.Proofs.YtgdfkcipffjjcaaW.PrintWords
theorem qJv (l m : List Int) (hl : l.length < 9223372036854775807) : Ev (fun k => z86.f k l m) (l == m) := by
 unfold z86.f
 by_cases h : l.length = m.length
 ·refine qAa (by omega) ?_
  rw [← qCo l m 0 h]
  refine qF7 (fun (i : Nat) k => z86.l0 k l m (i : Int)) _ l.length (fun j hj hp r hr => ?_) (fun j hj hp => ?_) ?_
  ·refine Ev.step (fun k => z86.l0.eq_2 ..) ?_
   refine qAa (by omega) (qAa (by omega) (qAa (by omega) (qAa ?_ ?_)))
   ·rw [qAx, qAx]; exact eq_of_beq hp
   ·rw [qAj (by omega)]; exact hr
  ·refine Ev.step (fun k => z86.l0.eq_2 ..) ?_
   refine qAa (by omega) (qAa (by omega) (qAa (by omega) (qAd ?_ (Ev.now _))))
   rw [qAx, qAx]; exact ne_of_beq_false hp
  ·refine Ev.step (fun k => z86.l0.eq_2 ..) ?_
   exact qAd (by omega) (Ev.now _)
 ·rw [qD5 h]
  exact qAd (by omega) (Ev.now _)
end Go.Proofs.Ytgdfkcipffjjcaa.B
set_option linter.unusedVariables false
set_option linter.unusedSimpArgs false
namespace Go.Proofs.Ytgdfkcipffjjcaa.B
open Go.RowKit Go.Proofs.YtgdfkcipffjjcaaW.PrintWords
open SimT
def qCa : List Int → List Int → Int
 | [], [] => 0
 | [], _ :: _ => -1
 | _ :: _, [] => 1
 | a :: l, b :: m => if a < b then -1 else if a > b then 1 else qCa l m
theorem qFy : ∀ l m, qCa l m < 0 ↔ qC0 l m = true
 | [], [] => by simp [qCa, qC0]
 | [], _ :: _ => by simp [qCa, qC0]
 | _ :: _, [] => by simp [qCa, qC0]
 | a :: l, b :: m => by
  simp only [qCa, qC0]
  by_cases h1 : a < b
  ·rw [if_pos h1, if_pos h1]; simp
  ·rw [if_neg h1, if_neg h1]
   by_cases h2 : b < a
   ·rw [if_pos h2, if_pos h2]; simp
   ·rw [if_neg h2, if_neg h2]; exact qFy l m
theorem qE1 : ∀ l m, qCa l m = 0 ↔ l = m
 | [], [] => by simp [qCa]
 | [], _ :: _ => by simp [qCa]
 | _ :: _, [] => by simp [qCa]
 | a :: l, b :: m => by
  simp only [qCa]
  by_cases h1 : a < b
  ·rw [if_pos h1]
   refine ⟨fun h => by omega, fun h => ?_⟩
   injection h with h _; omega
  ·rw [if_neg h1]
   by_cases h2 : a > b
   ·rw [if_pos h2]
    refine ⟨fun h => by omega, fun h => ?_⟩
    injection h with h _; omega
   ·rw [if_neg h2, qE1 l m]
    have : a = b := by omega
    subst this
    exact ⟨fun h => by rw [h], fun h => by injection h⟩
def icmp (a b : Int) : Int := if a < b then -1 else if a > b then 1 else 0
theorem qI9 (a b : Int) : z91.f a b = some (icmp a b) := by
 unfold z91.f z98.f icmp
 simp only [bne_self_eq_false, Option.bind_some, Bool.false_eq_true, if_false]
 split
 ·rfl
 ·split <;> rfl
theorem qHk (a b : Int) : z99.f a b = some (icmp a b) := by
 unfold z99.f z101.f icmp
 simp only [bne_self_eq_false, Option.bind_some, Bool.false_eq_true, if_false]
 split
 ·rfl
 ·split <;> rfl
theorem qC2 {l : List Int} {i : Nat} (h : i < l.length) : l.drop i = l.getD i 0 :: l.drop (i + 1) := by
 rw [List.drop_eq_getElem_cons h, List.getD_eq_getElem?_getD, List.getElem?_eq_getElem h]; rfl
theorem qEg (l m : List Int) (hl : l.length < 9223372036854775807) (hm : m.length < 9223372036854775807) : Ev (fun k => z92.f k l m) (qCa l m) := by
 have main : ∀ (d i : Nat), i + d = l.length → i ≤ m.length → Ev (fun k => z92.l0 k l m l (l.length : Int) (i : Int)) (qCa (l.drop i) (m.drop i)) := by
  intro d
  induction d with
  | zero =>
   intro i hi him
   rw [List.drop_of_length_le (show l.length ≤ i by omega)]
   refine Ev.step (fun k => z92.l0.eq_2 ..) ?_
   refine qAd (by omega) ?_
   by_cases h : i < m.length
   ·rw [qC2 h]
    exact qAa (by omega) (Ev.now _)
   ·rw [List.drop_of_length_le (show m.length ≤ i by omega)]
    exact qAd (by omega) (Ev.now _)
  | succ d ih =>
   intro i hi him
   rw [qC2 (show i < l.length by omega)]
   refine Ev.step (fun k => z92.l0.eq_2 ..) ?_
   refine qAa (by omega) (qAa (by omega) (qAa (by omega) ?_))
   by_cases h : i < m.length
   ·rw [qC2 h, qAx, qAx, qAj (by omega)]
    refine qAd (by omega) (qAa (by omega) (Ev.bind (qAt (qHk _ _)) ?_))
    simp only [qCa]
    unfold icmp
    by_cases h1 : l.getD i 0 < m.getD i 0
    ·rw [if_pos h1, if_pos h1]; exact qAd (by omega) (Ev.now _)
    ·rw [if_neg h1, if_neg h1]
     by_cases h2 : l.getD i 0 > m.getD i 0
     ·rw [if_pos h2, if_pos h2]; exact qAd (by omega) (Ev.now _)
     ·rw [if_neg h2, if_neg h2]; exact qAa rfl (ih (i + 1) (by omega) (by omega))
   ·rw [List.drop_of_length_le (show m.length ≤ i by omega)]
    exact qAa (by omega) (Ev.now _)
 have := main l.length 0 (by omega) (by omega)
 simpa [z92.f] using this
def scmp (a b : List Int) : Int := if icmp (a.length : Int) (b.length : Int) = 0 then qCa a b else icmp (a.length : Int) (b.length : Int)
theorem qEj (a b : List Int) : scmp a b < 0 ↔ slt a b = true := by
 rw [qEs]
 unfold scmp icmp
 rcases Nat.lt_trichotomy a.length b.length with h | h | h
 ·rw [if_pos (show (a.length : Int) < b.length by omega)]; simp [h]
 ·rw [if_neg (show ¬ (a.length : Int) < b.length by omega), if_neg (show ¬ (a.length : Int) > b.length by omega), if_pos rfl, qFy]
  constructor
  ·exact fun h' => .inr ⟨h, h'⟩
  ·rintro (h' | h')
   ·omega
   ·exact h'.2
 ·rw [if_neg (show ¬ (a.length : Int) < b.length by omega), if_pos (show (a.length : Int) > b.length by omega)]
  simp
  omega
theorem qG7 (a b : List Int) : scmp a b = 0 ↔ a = b := by
 unfold scmp icmp
 rcases Nat.lt_trichotomy a.length b.length with h | h | h
 ·rw [if_pos (show (a.length : Int) < b.length by omega)]
  simp
  intro e; subst e; omega
 ·rw [if_neg (show ¬ (a.length : Int) < b.length by omega), if_neg (show ¬ (a.length : Int) > b.length by omega), if_pos rfl, qE1]
 ·rw [if_neg (show ¬ (a.length : Int) < b.length by omega), if_pos (show (a.length : Int) > b.length by omega)]
  simp
  intro e; subst e; omega
theorem qLq (a b : Int) : Ev (fun k => z90.f k [a, b]) (if a = 0 then b else a) := by
 unfold z90.f
 refine Ev.step (fun k => z90.l0.eq_2 ..) ?_
 refine qAa (by simp) (qAa (by omega) (qAa (by simp) ?_))
 simp only [rd, Int.toNat_zero, List.getD_cons_zero]
 by_cases h : a = 0
 ·rw [if_pos h]
  refine qAa h ?_
  refine Ev.step (fun k => z90.l0.eq_2 ..) ?_
  simp only [show wrap64 (0 + 1) = 1 by unfold wrap64; omega]
  refine qAa (by simp) (qAa (by omega) (qAa (by simp) ?_))
  simp only [rd, show Int.toNat 1 = 1 from rfl, List.getD_cons_succ, List.getD_cons_zero]
  by_cases h2 : b = 0
  ·refine qAa h2 ?_
   refine Ev.step (fun k => z90.l0.eq_2 ..) ?_
   simp only [show wrap64 (1 + 1) = 2 by unfold wrap64; omega]
   refine qAd (by simp) (qBi (Ev.now _) h2.symm)
  ·exact qAd h2 (Ev.now _)
 ·rw [if_neg h]
  exact qAd h (Ev.now _)
theorem qCp (a b : List Int) (ha : a.length < 9223372036854775807) (hb : b.length < 9223372036854775807) : Ev (fun k => z70.f k a b) (scmp a b) := by
 unfold z70.f
 refine Ev.bind (qAt (qI9 _ _)) (Ev.bind (qEg a b ha hb) (Ev.bind (qLq _ _) ?_))
 exact Ev.now _
theorem qKv (a b : List Int) (ha : a.length < 9223372036854775807) : Ev (fun k => z63.f k a b) (slt a b) := by
 unfold z63.f
 by_cases hab : a.length = b.length
 ·refine qAa (by omega) ?_
  have e : slt a b = qC0 a b := by simp [slt, hab]
  rw [e]
  have main : ∀ (d i : Nat), i + d = a.length → Ev (fun k => z63.l0 k a b (i : Int)) (qC0 (a.drop i) (b.drop i)) := by
   intro d
   induction d with
   | zero =>
    intro i hi
    rw [List.drop_of_length_le (show a.length ≤ i by omega), List.drop_of_length_le (show b.length ≤ i by omega)]
    refine Ev.step (fun k => z63.l0.eq_2 ..) ?_
    exact qAd (by omega) (Ev.now _)
   | succ d ih =>
    intro i hi
    rw [qC2 (show i < a.length by omega), qC2 (show i < b.length by omega)]
    refine Ev.step (fun k => z63.l0.eq_2 ..) ?_
    refine qAa (by omega) (qAa (by omega) (qAa (by omega) ?_))
    rw [qAx, qAx, qAj (by omega)]
    simp only [qC0]
    by_cases h : a.getD i 0 = b.getD i 0
    ·refine qAa h ?_
     rw [if_neg (by omega), if_neg (by omega)]
     exact ih (i + 1) (by omega)
    ·refine qAd h ?_
     by_cases h1 : a.getD i 0 < b.getD i 0
     ·rw [if_pos h1]; exact qBi (Ev.now _) (decide_eq_true h1)
     ·rw [if_neg h1, if_pos (by omega)]; exact qBi (Ev.now _) (decide_eq_false h1)
  have := main a.length 0 (by omega)
  simpa using this
 ·refine qAd (by omega) (qBi (Ev.now _) ?_)
  rw [Bool.eq_iff_iff, qEs, decide_eq_true_iff]
  constructor
  ·exact fun h => .inl (by omega)
  ·rintro (h | h)
   ·omega
   ·exact absurd h.1 hab
def idx (l : List (List Int)) (s : List Int) : Int := if s ∈ l then ((l.idxOf s : Nat) : Int) else -1
theorem qH2 (l : List (List Int)) (s : List Int) : idx l s < 0 ↔ s ∉ l := by
 unfold idx
 by_cases h : s ∈ l
 ·rw [if_pos h]
  exact ⟨fun h' => by omega, fun h' => absurd h h'⟩
 ·rw [if_neg h]
  exact ⟨fun _ => h, fun _ => by omega⟩
theorem qE3 {l : List (List Int)} {s : List Int} (h : s ∈ l) : ∃ i, i < l.length ∧ idx l s = (i : Int) ∧ l.getD i [] = s ∧ ∀ j, j < i → l.getD j [] ≠ s := by
 refine ⟨l.idxOf s, List.idxOf_lt_length_of_mem h, by unfold idx; rw [if_pos h], ?_, fun j hj e => ?_⟩
 ·have hl := List.idxOf_lt_length_of_mem h
  rw [List.getD_eq_getElem?_getD, List.getElem?_eq_getElem hl]
  exact List.getElem_idxOf hl
 ·have hl := List.idxOf_lt_length_of_mem h
  have := List.not_of_lt_findIdx (p := fun x => x == s) (xs := l) (i := j) hj
  have hjl : j < l.length := by omega
  rw [List.getD_eq_getElem?_getD, List.getElem?_eq_getElem hjl] at e
  simp at e this
  exact this e
theorem qLy {l : List (List Int)} {s : List Int} {i : Nat} (hi : i < l.length) (he : l.getD i [] = s) (hb : ∀ j, j < i → l.getD j [] ≠ s) : idx l s = (i : Int) := by
 have hm : s ∈ l := he ▸ qA1 [] hi
 obtain ⟨j, hj, e1, e2, e3⟩ := qE3 hm
 rw [e1]
 rcases Nat.lt_trichotomy i j with h | h | h
 ·exact absurd he (e3 i h)
 ·rw [h]
 ·exact absurd e2 (hb j h)
theorem qKh (l : List (List Int)) (s : List Int) (hl : l.length < 9223372036854775807) (hr : ∀ x ∈ l, x.length < 9223372036854775807) : Ev (fun k => z64.f k l s) (idx l s) := by
 unfold z64.f
 refine qDg (fun (i : Nat) k => z64.l0 k s (i : Int) l) (fun i => l.getD i [] == s) l.length 0 (fun j _ hj hp r hr' => ?_) (fun j _ hj hp hb => ?_) (fun hall => ?_)
 ·refine Ev.step (fun k => z64.l0.eq_2 ..) ?_
  refine qAa (by omega) (qAa (by omega) ?_)
  rw [qA3, qAj (by omega)]
  exact Ev.bind (qJv _ _ (hr _ (qA1 [] (by omega)))) (qAd (by rw [hp]; decide) hr')
 ·have e : idx l s = (j : Int) := qLy (by omega) (eq_of_beq hp) (fun m hm he => by have := hb m (Nat.zero_le _) hm; rw [he] at this; simp at this)
  rw [e]
  refine Ev.step (fun k => z64.l0.eq_2 ..) ?_
  refine qAa (by omega) (qAa (by omega) ?_)
  rw [qA3]
  exact Ev.bind (qJv _ _ (hr _ (qA1 [] (by omega)))) (qAa hp (Ev.now _))
 ·have e : idx l s = -1 := by
   unfold idx
   rw [if_neg]
   intro hm
   obtain ⟨i, hi, _, e2, _⟩ := qE3 hm
   have := hall i (Nat.zero_le _) (by omega)
   rw [e2] at this; simp at this
  rw [e]
  refine Ev.step (fun k => z64.l0.eq_2 ..) ?_
  exact qAd (by omega) (Ev.now _)
theorem qJt (l : List (List Int)) (s : List Int) (hl : l.length < 4611686018427387904) (hr : ∀ x ∈ l, x.length < 9223372036854775807) (hs : s.length < 9223372036854775807) (hsrt : Srt l) :
  ∃ t, Ev (fun k => z122.f k l s) t ∧ (if t.2 = true then t.1 else -1) = idx l s := by
 have lo_of : ∀ i, i < l.length → slt (l.getD i []) s = true → ∀ j, j ≤ i → slt (l.getD j []) s = true := fun i hi h j hj => by
  rcases Nat.eq_or_lt_of_le hj with rfl | hlt
  ·exact h
  ·exact qEr (qEo hsrt hlt hi) h
 have hi_of : ∀ i, i < l.length → slt (l.getD i []) s = false → ∀ j, i ≤ j → j < l.length → slt (l.getD j []) s = false := fun i hi h j hj hjl => by
  cases hh : slt (l.getD j []) s with
  | false => rfl
  | true => rw [lo_of j hjl hh i hj] at h; cases h
 have main : ∀ (d lo hi : Nat), lo ≤ hi → hi - lo ≤ d → hi ≤ l.length → (∀ j, j < lo → slt (l.getD j []) s = true) → (∀ j, hi ≤ j → j < l.length → slt (l.getD j []) s = false) →
   ∃ t, Ev (fun k => z122.l0 k l s (l.length : Int) (lo : Int) (hi : Int)) t ∧ (if t.2 = true then t.1 else -1) = idx l s := by
  intro d
  induction d with
  | zero =>
   intro lo hi h1 h2 h3 hlo hhi
   have : lo = hi := by omega
   subst this
   by_cases hn : lo < l.length
   ·refine ⟨((lo : Int), (scmp (l.getD lo []) s == 0)), ?_, ?_⟩
    ·refine Ev.step (fun k => z122.l0.eq_2 ..) ?_
     refine qAd (by omega) (qAa (by omega) (qAa (by omega) (qAa (by omega) ?_)))
     rw [qA3]
     exact Ev.bind (qCp _ _ (hr _ (qA1 [] hn)) hs) (Ev.now _)
    ·by_cases he : l.getD lo [] = s
     ·have : (scmp (l.getD lo []) s == 0) = true := by rw [beq_iff_eq, qG7]; exact he
      simp only [this, if_true]
      exact (qLy hn he (fun j hj e => by have := hlo j hj; rw [e, qCg] at this; cases this)).symm
     ·have : (scmp (l.getD lo []) s == 0) = false := by rw [beq_eq_false_iff_ne]; exact fun h => he ((qG7 _ _).1 h)
      simp only [this, Bool.false_eq_true, if_false]
      have hnm : s ∉ l := fun hm => by
       obtain ⟨i, hi, _, e2, _⟩ := qE3 hm
       rcases Nat.lt_trichotomy i lo with h | h | h
       ·have := hlo i h; rw [e2, qCg] at this; cases this
       ·subst h; exact he e2
       ·have h5 := qEo hsrt h hi
        rw [e2] at h5
        have := hhi lo (Nat.le_refl _) hn
        rw [h5] at this; cases this
      unfold idx; rw [if_neg hnm]
   ·refine ⟨((lo : Int), false), ?_, ?_⟩
    ·refine Ev.step (fun k => z122.l0.eq_2 ..) ?_
     exact qAd (by omega) (qAd (by omega) (Ev.now _))
    ·simp only [Bool.false_eq_true, if_false]
     have hnm : s ∉ l := fun hm => by
      obtain ⟨i, hi, _, e2, _⟩ := qE3 hm
      have := hlo i (by omega); rw [e2, qCg] at this; cases this
     unfold idx; rw [if_neg hnm]
  | succ d ih =>
   intro lo hi h1 h2 h3 hlo hhi
   by_cases hlt : lo < hi
   ·have em : wrap64 (IntKind.u64.wrap (wrap64 ((lo : Int) + (hi : Int))) / 2) = (((lo + hi) / 2 : Nat) : Int) := by
     have e1 : wrap64 ((lo : Int) + (hi : Int)) = (lo : Int) + (hi : Int) := qAi (by omega) (by omega)
     have e2 : IntKind.u64.wrap ((lo : Int) + (hi : Int)) = (lo : Int) + (hi : Int) := by
      simp [IntKind.wrap, IntKind.bits, IntKind.signed]; omega
     rw [e1, e2, qAi (by omega) (by omega)]; omega
    have hm : (lo + hi) / 2 < l.length := by omega
    have hmr := hr _ (qA1 ([] : List Int) hm)
    cases hc : slt (l.getD ((lo + hi) / 2) []) s with
    | true =>
     obtain ⟨t, ht, hv⟩ := ih ((lo + hi) / 2 + 1) hi (by omega) (by omega) h3 (fun j hj => lo_of _ hm hc j (by omega)) hhi
     refine ⟨t, ?_, hv⟩
     refine Ev.step (fun k => z122.l0.eq_2 ..) ?_
     rw [em, qA3, qAj (by omega)]
     refine qAa (by omega) (qAa (by omega) (qAa (by omega) (Ev.bind (qCp _ _ hmr hs) (qAa ((qEj _ _).2 hc) ht))))
    | false =>
     obtain ⟨t, ht, hv⟩ := ih lo ((lo + hi) / 2) (by omega) (by omega) (by omega) hlo (fun j hj hjl => hi_of _ hm hc j hj hjl)
     refine ⟨t, ?_, hv⟩
     refine Ev.step (fun k => z122.l0.eq_2 ..) ?_
     rw [em, qA3, qAj (by omega)]
     refine qAa (by omega) (qAa (by omega) (qAa (by omega) (Ev.bind (qCp _ _ hmr hs) (qAd (fun h => ?_) ht))))
     have := (qEj _ _).1 h
     rw [hc] at this; cases this
   ·exact ih lo hi h1 (by omega) h3 hlo hhi
 exact main l.length 0 l.length (by omega) (by omega) (Nat.le_refl _) (fun j hj => by omega) (fun j h1 h2 => by omega)
theorem qF0 (l : List (List Int)) (s : List Int) (hl : l.length < 4611686018427387904) (hr : ∀ x ∈ l, x.length < 9223372036854775807) (hs : s.length < 9223372036854775807) (hsrt : Srt l) : Ev (fun k => z74.f k l s) (idx l s) := by
 obtain ⟨t, ht, hv⟩ := qJt l s hl hr hs hsrt
 unfold z74.f
 refine Ev.bind ht ?_
 rw [← hv]
 cases h : t.2 with
 | true => exact qAa rfl (qBi (Ev.now _) (by simp))
 | false => exact qAd (by simp) (qBi (Ev.now _) (by simp))
end Go.Proofs.Ytgdfkcipffjjcaa.B
set_option linter.unusedVariables false
set_option linter.unusedSimpArgs false
namespace Go.Proofs.Ytgdfkcipffjjcaa.B
open Go.RowKit Go.Proofs.YtgdfkcipffjjcaaW.PrintWords
def qGi (l : List Int) (i : Nat) : Bool := i == 0 || decide (l.getD (i - 1) 0 < l.getD i 0)
def qCx (l : List Int) : Bool := (List.range l.length).all (qGi l)
def qBo (l : List Int) : Bool := (decide (1 ≤ l.length) && decide (l.length ≤ 4)) && (qCx l && l.all fun v => decide (0 ≤ v) && decide (v ≤ 9))
theorem qHz (l : List Int) (hl : l.length < 9223372036854775807) : Ev (fun k => z87.f k l) (qCx l) := by
 unfold z87.f
 rcases Nat.eq_zero_or_pos l.length with h0 | h0
 ·have : qCx l = true := by unfold qCx; rw [h0]; rfl
  rw [this]
  refine Ev.step (fun k => z87.l0.eq_2 ..) ?_
  exact qAd (by omega) (Ev.now _)
 ·refine qDg (fun (i : Nat) k => z87.l0 k l (i : Int)) (fun i => !qGi l i) (l.length - 1) 1 (fun i hi hi2 hp r hr => ?_) (fun i hi hi2 hp _ => ?_) (fun hall => ?_)
  ·have hp : qGi l i = true := by simpa using hp
   unfold qGi at hp
   have e : (i == 0) = false := by simpa using (show i ≠ 0 by omega)
   rw [e, Bool.false_or] at hp
   have hp := of_decide_eq_true hp
   refine Ev.step (fun k => z87.l0.eq_2 ..) ?_
   rw [show wrap64 ((i : Int) - 1) = ((i - 1 : Nat) : Int) by rw [qAi (by omega) (by omega)]; omega, qAx, qAx, qAj (by omega)]
   exact qAa (by omega) (qAa (by omega) (qAa (by omega) (qAa (by omega) (qAd (by omega) hr))))
  ·have hp : qGi l i = false := by simpa using hp
   have hf : qCx l = false := by
    unfold qCx
    rw [Bool.eq_false_iff]
    intro h
    have := List.all_eq_true.1 h i (List.mem_range.2 (by omega))
    rw [hp] at this; cases this
   rw [hf]
   unfold qGi at hp
   have e : (i == 0) = false := by simpa using (show i ≠ 0 by omega)
   rw [e, Bool.false_or] at hp
   have hp := of_decide_eq_false hp
   refine Ev.step (fun k => z87.l0.eq_2 ..) ?_
   rw [show wrap64 ((i : Int) - 1) = ((i - 1 : Nat) : Int) by rw [qAi (by omega) (by omega)]; omega, qAx, qAx]
   exact qAa (by omega) (qAa (by omega) (qAa (by omega) (qAa (by omega) (qAa (by omega) (Ev.now _)))))
  ·have hf : qCx l = true := List.all_eq_true.2 (fun i hi => by
    have hi := List.mem_range.1 hi
    rcases Nat.eq_zero_or_pos i with h | h
    ·subst h; rfl
    ·simpa using hall i h (by omega))
   rw [hf, show 1 + (l.length - 1) = l.length by omega]
   refine Ev.step (fun k => z87.l0.eq_2 ..) ?_
   exact qAd (by omega) (Ev.now _)
theorem qFo (v : Int) : z88.f v = some (!(decide (0 ≤ v) && decide (v ≤ 9))) := by
 unfold z88.f z89.f
 rw [qC3]; rfl
theorem qHp (l : List Int) (hl : l.length < 9223372036854775807) : Ev (fun k => z120.f k l) (l.any fun v => !(decide (0 ≤ v) && decide (v ≤ 9))) := by
 obtain ⟨t, ht, hd⟩ := qB5 (l) 0 (fun i k => z121.l0 k (l) ((l).length : Int) (i : Int) ) (fun v => !(decide (0 ≤ v) && decide (v ≤ 9))) (fun j hj hp r hr => by
   refine Ev.step (fun k => z121.l0.eq_2 ..) ?_
   refine qAa (by omega) (qAa (by omega) (qAa (by omega) ?_))
   rw [qAx, qAj (by omega)]
   exact Ev.bind (qAt (qFo _)) (qAd (by rw [hp]; decide) hr)) (fun j hj hp => by
   refine Ev.step (fun k => z121.l0.eq_2 ..) ?_
   refine qAa (by omega) (qAa (by omega) (qAa (by omega) ?_))
   rw [qAx]
   exact Ev.bind (qAt (qFo _)) (qAa hp (Ev.now _))) (by
   refine Ev.step (fun k => z121.l0.eq_2 ..) ?_
   exact qAd (by omega) (Ev.now _))
 unfold z120.f z121.f
 refine Ev.bind ht (qBi (Ev.now _) hd)
theorem qFi (l : List Int) (hl : l.length < 9223372036854775807) : Ev (fun k => z69.f k l) (qBo l) := by
 unfold z69.f qBo
 by_cases h1 : 1 ≤ l.length
 ·rw [decide_eq_true h1, Bool.true_and]
  refine qAa (by omega) ?_
  by_cases h4 : l.length ≤ 4
  ·rw [decide_eq_true h4, Bool.true_and]
   refine qAa (by omega) (Ev.bind (qHz l hl) ?_)
   cases hr : qCx l with
   | false => exact qAd (by decide) (Ev.now _)
   | true =>
    refine qAa rfl (Ev.bind (qHp l hl) (qBi (Ev.now _) ?_))
    rw [List.any_eq_not_all_not]; simp
  ·rw [decide_eq_false h4, Bool.false_and]
   exact qAd (by omega) (Ev.now _)
 ·rw [decide_eq_false h1, Bool.false_and, Bool.false_and]
  exact qAd (by omega) (Ev.now _)
theorem qG2 (l : List Int) (a b : Int) (hl : l.length < 9223372036854775807) : Ev (fun k => z85.f k l a b) (qCx l && l.all fun v => decide (a ≤ v) && decide (v ≤ b)) := by
 have e : (qCx l && l.all fun v => decide (a ≤ v) && decide (v ≤ b)) = (List.range l.length).all fun i => (decide (a ≤ l.getD i 0) && decide (l.getD i 0 ≤ b)) && qGi l i := by
  rw [← qDz l 0, qCx, Bool.eq_iff_iff, Bool.and_eq_true, List.all_eq_true, List.all_eq_true, List.all_eq_true]
  constructor
  ·rintro ⟨h1, h2⟩ i hi
   rw [h1 i hi, h2 i hi]; rfl
  ·intro h
   exact ⟨fun i hi => ((Bool.and_eq_true _ _).mp (h i hi)).2, fun i hi => ((Bool.and_eq_true _ _).mp (h i hi)).1⟩
 rw [e]
 unfold z85.f
 refine qF7 (fun (i : Nat) k => z85.l0 k l a b (i : Int)) _ l.length (fun i hi hp r hr => ?_) (fun i hi hp => ?_) ?_
 ·obtain ⟨h1, h2⟩ := (Bool.and_eq_true _ _).mp hp
  refine Ev.step (fun k => z85.l0.eq_2 ..) ?_
  rw [qAx, qAj (by omega)]
  refine qAa (by omega) (qAa (by omega) (Ev.bind (qAt (qE2 _ _ _)) (qAa h1 ?_)))
  rcases Nat.eq_zero_or_pos i with h | h
  ·exact qAd (by omega) hr
  ·have e : (i == 0) = false := by simpa using (show i ≠ 0 by omega)
   unfold qGi at h2
   rw [e, Bool.false_or] at h2
   have h2 := of_decide_eq_true h2
   rw [show wrap64 ((i : Int) - 1) = ((i - 1 : Nat) : Int) by rw [qAi (by omega) (by omega)]; omega, qAx]
   exact qAa (by omega) (qAa (by omega) (qAa (by omega) (qAd (by omega) hr)))
 ·refine Ev.step (fun k => z85.l0.eq_2 ..) ?_
  rw [qAx]
  refine qAa (by omega) (qAa (by omega) (Ev.bind (qAt (qE2 _ _ _)) ?_))
  cases h1 : decide (a ≤ l.getD i 0) && decide (l.getD i 0 ≤ b) with
  | false => exact qAd (by decide) (Ev.now _)
  | true =>
   rw [h1, Bool.true_and] at hp
   refine qAa rfl ?_
   rcases Nat.eq_zero_or_pos i with h | h
   ·subst h; cases hp
   ·have e : (i == 0) = false := by simpa using (show i ≠ 0 by omega)
    unfold qGi at hp
    rw [e, Bool.false_or] at hp
    have hp := of_decide_eq_false hp
    rw [show wrap64 ((i : Int) - 1) = ((i - 1 : Nat) : Int) by rw [qAi (by omega) (by omega)]; omega, qAx]
    exact qAa (by omega) (qAa (by omega) (qAa (by omega) (qAa (by omega) (Ev.now _))))
 ·refine Ev.step (fun k => z85.l0.eq_2 ..) ?_
  exact qAd (by omega) (Ev.now _)
theorem qFe (l : List Int) (hl : l.length < 9223372036854775807) : Ev (fun k => z62.f k l) (qBo l) := by
 unfold z62.f qBo
 refine Ev.bind (qAt (qE2 _ _ _)) ?_
 have e : (decide ((1 : Int) ≤ (l.length : Int)) && decide ((l.length : Int) ≤ 4)) = (decide (1 ≤ l.length) && decide (l.length ≤ 4)) := by
  rw [Bool.eq_iff_iff]; simp; omega
 rw [e]
 cases h : decide (1 ≤ l.length) && decide (l.length ≤ 4) with
 | false => exact qAd (by decide) (Ev.now _)
 | true => exact qAa rfl (Ev.bind (qG2 l 0 9 hl) (Ev.now _))
end Go.Proofs.Ytgdfkcipffjjcaa.B
set_option linter.unusedVariables false
set_option linter.unusedSimpArgs false
namespace Go.Proofs.Ytgdfkcipffjjcaa.B
open Go.RowKit Go.Proofs.YtgdfkcipffjjcaaW.PrintWords
open SimT
def qBe (s : List Int) : List (List Int) := if 1 < s.length then (List.range s.length).map (drp s) else []
theorem qE4 (s : List Int) : (qBe s).length ≤ s.length := by
 unfold qBe
 split <;> simp
theorem qHg {s x : List Int} (h : x ∈ qBe s) : x.length ≤ s.length := by
 unfold qBe at h
 split at h
 ·obtain ⟨i, hi, rfl⟩ := List.mem_map.1 h
  exact (qMp s i).length_le
 ·cases h
theorem qDu {s x : List Int} : x ∈ qBe s ↔ 1 < s.length ∧ ∃ k, k < s.length ∧ drp s k = x := by
 unfold qBe
 split
 ·rename_i h
  rw [List.mem_map]
  exact ⟨fun ⟨k, hk, e⟩ => ⟨h, k, List.mem_range.1 hk, e⟩, fun ⟨_, k, hk, e⟩ => ⟨k, List.mem_range.2 hk, e⟩⟩
 ·rename_i h
  exact ⟨fun hx => (by cases hx), fun hx => absurd hx.1 h⟩
theorem qKj {s x : List Int} (h : x ∈ qBe s) : slt x s = true := by
 obtain ⟨_, k, hk, rfl⟩ := qDu.1 h
 exact qMq hk
theorem qF5 (s : List Int) (hs : s.length ≤ 1000000000000) : Ev (fun k => z72.f k s) (qBe s) := by
 unfold z72.f
 by_cases h1 : 1 < s.length
 ·have := qEd (fun (a : List (List Int)) (i : Nat) k => z72.l0 k s a (s.length : Int) (i : Int)) (drp s) s.length (fun j a hj ha r hr => by
   refine Ev.step (fun k => z72.l0.eq_2 ..) ?_
   have hal : a.length = j := by rw [ha]; simp
   rw [qAj (by omega), Int.toNat_natCast, Int.toNat_natCast]
   refine qAa (by omega) (qAa (by omega) (qAa (by omega) (qAa (by omega) (qAa (by omega) (qAa (by omega) (Ev.bind (qKl _ (by simp) ?_) (qAa (by omega) ?_)))))))
   ·have h2 : (s.take j).length ≤ s.length := (List.take_sublist j s).length_le
    have h3 : (s.drop (j + 1)).length ≤ s.length := (List.drop_sublist (j + 1) s).length_le
    simp only [total]; omega
   ·have e : [s.take j, s.drop (j + 1)].flatten = drp s j := by simp [drp]
    rw [e]; exact hr)
  have e : qBe s = (List.range s.length).map (drp s) := by unfold qBe; rw [if_pos h1]
  rw [e]
  refine this _ ?_
  refine Ev.step (fun k => z72.l0.eq_2 ..) ?_
  exact qAd (by omega) (Ev.now _)
 ·have e : qBe s = [] := by unfold qBe; rw [if_neg h1]
  rw [e]
  refine qDg (fun (i : Nat) k => z72.l0 k s ([] : List (List Int)) (s.length : Int) (i : Int)) (fun _ => false) s.length 0 (fun j _ hj _ r hr => ?_) (fun _ _ _ h => by cases h) (fun _ => ?_)
  ·refine Ev.step (fun k => z72.l0.eq_2 ..) ?_
   rw [qAj (by omega)]
   exact qAa (by omega) (qAd (by omega) hr)
  ·refine Ev.step (fun k => z72.l0.eq_2 ..) ?_
   rw [Nat.zero_add]
   exact qAd (by omega) (Ev.now _)
theorem qIo (s : List Int) (i : Nat) (hi : i < s.length) (hs : s.length ≤ 1000000000000) : z65.f s (i : Int) = some (drp s i) := by
 unfold z65.f z67.f
 have h2 : (s.take i).length ≤ s.length := (List.take_sublist i s).length_le
 have h3 : (s.drop (i + 1)).length ≤ s.length := (List.drop_sublist (i + 1) s).length_le
 rw [qAj (by omega), Int.toNat_natCast, Int.toNat_natCast, if_pos (by omega), if_pos (by omega)]
 simp only [Option.bind_some, List.nil_append, List.length_nil, Nat.zero_add]
 rw [if_pos (by omega)]
 simp only [Option.bind_some]
 rw [if_pos (by omega), if_pos (by omega), if_pos (by omega)]
 rfl
def okAt (C : List (List Int)) (D : List (List Int)) (i : Nat) : Bool := (qBo (C.getD i []) && (i == 0 || slt (C.getD (i - 1) []) (C.getD i []))) && (qBe (C.getD i [])).all fun f => decide (f ∈ D)
def okC (C : List (List Int)) : Bool := decide (C.length ≤ 48) && (List.range C.length).all (okAt C C)
theorem qC6 {C D : List (List Int)} {i : Nat} : okAt C D i = true ↔ qBo (C.getD i []) = true ∧ (i = 0 ∨ slt (C.getD (i - 1) []) (C.getD i []) = true) ∧ ∀ f, f ∈ qBe (C.getD i []) → f ∈ D := by
 unfold okAt
 rw [Bool.and_eq_true, Bool.and_eq_true, Bool.or_eq_true, List.all_eq_true, beq_iff_eq]
 simp only [decide_eq_true_eq]
 exact ⟨fun ⟨⟨a, b⟩, c⟩ => ⟨a, b, c⟩, fun ⟨a, b, c⟩ => ⟨⟨a, b⟩, c⟩⟩
theorem qEi {C D : Nat → List (List Int)} {L : List (List Int)} (n : Nat) (hn : n ≤ L.length) (h : ∀ m, m < n → okAt L (D m) m = true) : Srt (L.take n) := by
 refine qIz (fun i hi => ?_)
 rw [List.length_take] at hi
 have hi' : i + 1 < n := by omega
 obtain ⟨_, h2, _⟩ := qC6.1 (h (i + 1) hi')
 have e1 : (L.take n).getD i [] = L.getD i [] := by
  rw [List.getD_eq_getElem?_getD, List.getD_eq_getElem?_getD, List.getElem?_take, if_pos (by omega)]
 have e2 : (L.take n).getD (i + 1) [] = L.getD (i + 1) [] := by
  rw [List.getD_eq_getElem?_getD, List.getD_eq_getElem?_getD, List.getElem?_take, if_pos hi']
 rw [e1, e2]
 rcases h2 with h2 | h2
 ·omega
 ·exact h2
theorem qEy {C : List (List Int)} : okC C = true ↔ C.length ≤ 48 ∧ Srt C ∧ (∀ s, s ∈ C → qBo s = true) ∧ qL5 C := by
 unfold okC
 rw [Bool.and_eq_true, decide_eq_true_iff, List.all_eq_true]
 constructor
 ·rintro ⟨h1, h2⟩
  have h2' : ∀ m, m < C.length → okAt C C m = true := fun m hm => h2 m (List.mem_range.2 hm)
  have hs := qEi (C := fun _ => C) (D := fun _ => C) C.length (Nat.le_refl _) h2'
  rw [List.take_length] at hs
  refine ⟨h1, hs, fun s hs => ?_, fun s hs hl k hk => ?_⟩
  ·obtain ⟨i, hi, e⟩ := List.mem_iff_getElem.1 hs
   have := (qC6.1 (h2' i hi)).1
   rw [List.getD_eq_getElem?_getD, List.getElem?_eq_getElem hi] at this
   simpa [e] using this
  ·obtain ⟨i, hi, e⟩ := List.mem_iff_getElem.1 hs
   have := (qC6.1 (h2' i hi)).2.2
   rw [List.getD_eq_getElem?_getD, List.getElem?_eq_getElem hi] at this
   simp only [Option.getD_some, e] at this
   exact this _ (qDu.2 ⟨hl, k, hk, rfl⟩)
 ·rintro ⟨h1, h2, h3, h4⟩
  refine ⟨h1, fun i hi => qC6.2 ⟨h3 _ (qA1 [] (List.mem_range.1 hi)), ?_, fun f hf => ?_⟩⟩
  ·rcases Nat.eq_zero_or_pos i with h | h
   ·exact .inl h
   ·exact .inr (qEo h2 (by omega) (List.mem_range.1 hi))
  ·obtain ⟨hl, k, hk, rfl⟩ := qDu.1 hf
   exact h4 _ (qA1 [] (List.mem_range.1 hi)) hl k hk
theorem qEt {s : List Int} (h : qBo s = true) : 1 ≤ s.length ∧ s.length ≤ 4 := by
 unfold qBo at h
 rw [Bool.and_eq_true, Bool.and_eq_true, decide_eq_true_iff, decide_eq_true_iff] at h
 exact h.1
theorem qHc {C : List (List Int)} (hs : Srt C) {i : Nat} (hi : i < C.length) : okAt C (C.take i) i = okAt C C i := by
 rw [Bool.eq_iff_iff, qC6, qC6]
 refine and_congr Iff.rfl (and_congr Iff.rfl ⟨fun h f hf => List.mem_of_mem_take (h f hf), fun h f hf => ?_⟩)
 obtain ⟨j, hj, e⟩ := List.mem_iff_getElem.1 (h f hf)
 have hlt := qKj hf
 have ej : C.getD j [] = f := by rw [List.getD_eq_getElem?_getD, List.getElem?_eq_getElem hj]; exact e
 rcases Nat.lt_or_ge j i with hl | hg
 ·rw [List.mem_iff_getElem]
  exact ⟨j, by rw [List.length_take]; omega, by rw [List.getElem_take]; exact e⟩
 ·rcases Nat.eq_or_lt_of_le hg with rfl | hl
  ·rw [ej, qCg] at hlt; cases hlt
  ·have := qEo hs hl hj
   rw [ej] at this
   rw [qJs this] at hlt; cases hlt
theorem qMe (C : List (List Int)) : ((List.range C.length).all (fun i => okAt C (C.take i) i) && decide (C.length ≤ 48)) = okC C := by
 unfold okC
 rw [Bool.and_comm]
 congr 1
 rw [Bool.eq_iff_iff, List.all_eq_true, List.all_eq_true]
 constructor
 ·intro h
  have hs := qEi (C := fun _ => C) (D := fun m => C.take m) (L := C) C.length (Nat.le_refl _) (fun m hm => h m (List.mem_range.2 hm))
  rw [List.take_length] at hs
  intro i hi
  rw [← qHc hs (List.mem_range.1 hi)]; exact h i hi
 ·intro h
  have hs := qEi (C := fun _ => C) (D := fun _ => C) (L := C) C.length (Nat.le_refl _) (fun m hm => h m (List.mem_range.2 hm))
  rw [List.take_length] at hs
  intro i hi
  rw [qHc hs (List.mem_range.1 hi)]; exact h i hi
theorem qFx (C : List (List Int)) (i : Nat) (hi : i ≤ C.length) (hl : C.length < 4611686018427387904) (hr : ∀ x ∈ C, x.length < 9223372036854775807) (hs : Srt (C.take i)) (f : List Int) (hf : f.length < 9223372036854775807) :
  Ev (fun k => z73.f k f C (i : Int)) (!decide (f ∈ C.take i)) := by
 unfold z73.f
 rw [Int.toNat_natCast]
 have hlt : (C.take i).length ≤ C.length := (List.take_sublist i C).length_le
 refine qAa (by omega) (qAa (by omega) (Ev.bind (qF0 (C.take i) f (by omega) (fun x hx => hr x (List.mem_of_mem_take hx)) hf hs) (qBi (Ev.now _) ?_)))
 rw [Bool.eq_iff_iff, decide_eq_true_iff, qH2]; simp
theorem qGt (C : List (List Int)) (n0 : Nat) (hi : n0 ≤ C.length) (hl : C.length < 4611686018427387904) (hrr : ∀ x ∈ C, x.length < 9223372036854775807) (hs : Srt (C.take n0)) (l : List (List Int)) (hll : l.length < 9223372036854775807) (hf : ∀ x ∈ l, x.length < 9223372036854775807) :
  Ev (fun k => z119.f k l C (n0 : Int)) (l.any fun f => !decide (f ∈ C.take n0)) := by
 obtain ⟨t, ht, hd⟩ := qB5 (l) [] (fun i k => z123.l0 k (l) ((l).length : Int) (i : Int) C (n0 : Int)) (fun f => !decide (f ∈ C.take n0)) (fun j hj hp r hr => by
   refine Ev.step (fun k => z123.l0.eq_2 ..) ?_
   refine qAa (by omega) (qAa (by omega) (qAa (by omega) ?_))
   rw [qA3, qAj (by omega)]
   exact Ev.bind (qFx C n0 hi hl hrr hs _ (hf _ (qA1 [] hj))) (qAd (by rw [hp]; decide) hr)) (fun j hj hp => by
   refine Ev.step (fun k => z123.l0.eq_2 ..) ?_
   refine qAa (by omega) (qAa (by omega) (qAa (by omega) ?_))
   rw [qA3]
   exact Ev.bind (qFx C n0 hi hl hrr hs _ (hf _ (qA1 [] hj))) (qAa hp (Ev.now _))) (by
   refine Ev.step (fun k => z123.l0.eq_2 ..) ?_
   exact qAd (by omega) (Ev.now _))
 unfold z119.f z123.f
 refine Ev.bind ht (qBi (Ev.now _) hd)
theorem qHe (C : List (List Int)) (hl : C.length ≤ 1048576) (hr : ∀ x ∈ C, x.length ≤ 1048576) : Ev (fun k => z46.f k C) (okC C) := by
 rw [← qMe]
 unfold z46.f
 have hr' : ∀ x ∈ C, x.length < 9223372036854775807 := fun x hx => by have := hr x hx; omega
 -- the rest of a round
 have hrest : ∀ (j : Nat) (b : Bool), j < C.length → Srt (C.take j) → ∀ v, (b = false → ((qBe (C.getD j [])).all fun f => decide (f ∈ C.take j)) = true → Ev (fun k => z46.l0 k C (C.length : Int) ((j + 1 : Nat) : Int) C) v) → (b = true ∨ ((qBe (C.getD j [])).all fun f => decide (f ∈ C.take j)) = false → v = false) →
   Ev (fun k => z46.j1 k (C.getD j []) C (C.length : Int) (j : Int) b C (j : Int)) v := by
  intro j b hj hs v h1 h2
  have hrow := hr _ (qA1 ([] : List Int) hj)
  refine Ev.step (fun k => z46.j1.eq_2 ..) ?_
  cases b with
  | true => rw [h2 (.inl rfl)]; exact qAa rfl (Ev.now _)
  | false =>
   refine qAd (by decide) (Ev.bind (qF5 _ (by omega)) (Ev.bind (qGt C j (by omega) (by omega) hr' hs _ (by have := qE4 (C.getD j []); omega) (fun x hx => by have := qHg hx; omega)) ?_))
   cases ha : (qBe (C.getD j [])).all fun f => decide (f ∈ C.take j) with
   | true =>
    refine qAd ?_ ?_
    ·rw [List.any_eq_not_all_not]; simp only [Bool.not_not, ha]; decide
    ·rw [qAj (by omega)]; exact h1 rfl ha
   | false =>
    rw [h2 (.inr ha)]
    refine qAa ?_ (Ev.now _)
    rw [List.any_eq_not_all_not]; simp only [Bool.not_not, ha]; rfl
 have hround : ∀ (j : Nat), j < C.length → (∀ m, m < j → okAt C (C.take m) m = true) → ∀ v, (okAt C (C.take j) j = true → Ev (fun k => z46.l0 k C (C.length : Int) ((j + 1 : Nat) : Int) C) v) → (okAt C (C.take j) j = false → v = false) →
   Ev (fun k => z46.l0 k C (C.length : Int) (j : Int) C) v := by
  intro j hj hall v h1 h2
  have hs : Srt (C.take j) := qEi (C := fun _ => C) (D := fun m => C.take m) j (by omega) hall
  have hrow := hr _ (qA1 ([] : List Int) hj)
  have key := hrest j
  refine Ev.step (fun k => z46.l0.eq_2 ..) ?_
  rw [qA3]
  refine qAa (by omega) (qAa (by omega) (qAa (by omega) (Ev.bind (qFi _ (by omega)) ?_)))
  unfold okAt at h1 h2
  cases hi : qBo (C.getD j []) with
  | false =>
   rw [hi] at h1 h2
   refine qAd (by decide) (key true hj hs v (fun h => by cases h) (fun _ => h2 rfl))
  | true =>
   rw [hi] at h1 h2
   refine qAa rfl ?_
   rcases Nat.eq_zero_or_pos j with h0 | h0
   ·have e : (j == 0) = true := by simpa using h0
    rw [e] at h1 h2
    simp only [Bool.true_or, Bool.true_and] at h1 h2
    exact qAd (by omega) (key false hj hs v (fun _ ha => h1 ha) (fun h => h2 (h.elim (fun h => by cases h) id)))
   ·have e : (j == 0) = false := by simpa using (show j ≠ 0 by omega)
    rw [e] at h1 h2
    simp only [Bool.false_or, Bool.true_and] at h1 h2
    rw [show wrap64 ((j : Int) - 1) = ((j - 1 : Nat) : Int) by rw [qAi (by omega) (by omega)]; omega, qA3]
    have hrow2 := hr _ (qA1 ([] : List Int) (show j - 1 < C.length by omega))
    refine qAa (by omega) (qAa (by omega) (qAa (by omega) (Ev.bind (qCp _ _ (by omega) (by omega)) ?_)))
    cases hc : slt (C.getD (j - 1) []) (C.getD j []) with
    | true =>
     have e2 : decide (scmp (C.getD (j - 1) []) (C.getD j []) ≥ 0) = false := decide_eq_false (by have := (qEj _ _).2 hc; omega)
     rw [e2]
     rw [hc] at h1 h2
     simp only [Bool.true_and] at h1 h2
     exact key false hj hs v (fun _ ha => h1 ha) (fun h => h2 (h.elim (fun h => by cases h) id))
    | false =>
     have e2 : decide (scmp (C.getD (j - 1) []) (C.getD j []) ≥ 0) = true := decide_eq_true (by
      have : ¬ scmp (C.getD (j - 1) []) (C.getD j []) < 0 := fun h => by rw [(qEj _ _).1 h] at hc; cases hc
      omega)
     rw [e2]
     rw [hc] at h2
     exact key true hj hs v (fun h => by cases h) (fun _ => h2 rfl)
 refine qDh (fun (i : Nat) k => z46.l0 k C (C.length : Int) (i : Int) C) (fun i => okAt C (C.take i) i) (decide (C.length ≤ 48)) C.length (fun j hj hall hp r hr' => ?_) (fun j hj hall hp => ?_) (fun _ => ?_)
 ·exact hround j hj hall r (fun _ => hr') (fun h => by rw [hp] at h; cases h)
 ·exact hround j hj hall false (fun h => by rw [hp] at h; cases h) (fun _ => rfl)
 ·refine Ev.step (fun k => z46.l0.eq_2 ..) ?_
  exact qAd (by omega) (qBi (Ev.now _) (by rw [Bool.eq_iff_iff, decide_eq_true_iff, decide_eq_true_iff]; omega))
theorem qJl (C : List (List Int)) (hl : C.length ≤ 1048576) (hr : ∀ x ∈ C, x.length ≤ 1048576) : Ev (fun k => z37.f k C) (okC C) := by
 unfold z37.f okC
 have hr' : ∀ x ∈ C, x.length < 9223372036854775807 := fun x hx => by have := hr x hx; omega
 by_cases h48 : C.length ≤ 48
 ·rw [decide_eq_true h48, Bool.true_and]
  refine qAd (by omega) ?_
  -- the qBe
  have hfaces : ∀ (j : Nat), j < C.length → ∀ v, (((qBe (C.getD j [])).all fun f => decide (f ∈ C)) = true → Ev (fun k => z37.l0 k ((j + 1 : Nat) : Int) C) v) → (((qBe (C.getD j [])).all fun f => decide (f ∈ C)) = false → v = false) →
    Ev (fun k => z37.l1 k (j : Int) (C.getD j []) 0 C) v := by
   intro j hj v h1 h2
   have hrow := hr _ (qA1 ([] : List Int) hj)
   by_cases hlen : 1 < (C.getD j []).length
   ·have hstep : ∀ (m : Nat), m < (C.getD j []).length → ∀ u, (drp (C.getD j []) m ∈ C → Ev (fun k => z37.l1 k (j : Int) (C.getD j []) ((m + 1 : Nat) : Int) C) u) → (drp (C.getD j []) m ∉ C → u = false) → Ev (fun k => z37.l1 k (j : Int) (C.getD j []) (m : Int) C) u := by
     intro m hm u g1 g2
     refine Ev.step (fun k => z37.l1.eq_2 ..) ?_
     refine qAa (by omega) ?_
     refine Ev.step (fun k => z37.j3.eq_2 ..) ?_
     refine qAa (decide_eq_true (by omega)) (Ev.bind (qAt (qIo _ m hm (by omega))) (Ev.bind (qKh C _ (by omega) hr') ?_))
     by_cases hin : drp (C.getD j []) m ∈ C
     ·rw [qAj (by omega)]
      exact qAd (fun h => (qH2 C _).1 h hin) (g1 hin)
     ·rw [g2 hin]
      exact qAa ((qH2 C _).2 hin) (Ev.now _)
    have hall := qDh (fun (m : Nat) k => (z37.l1 k (j : Int) (C.getD j []) (m : Int) C).map fun b => b) (fun m => decide (drp (C.getD j []) m ∈ C)) v (C.getD j []).length ?_ ?_ ?_
    ·have e : ((List.range (C.getD j []).length).all (fun m => decide (drp (C.getD j []) m ∈ C)) && v) = v := by
      cases v with
      | false => simp
      | true =>
       have : ((qBe (C.getD j [])).all fun f => decide (f ∈ C)) = true := by
        cases hc : (qBe (C.getD j [])).all fun f => decide (f ∈ C) with
        | true => rfl
        | false => have := h2 hc; cases this
       unfold qBe at this
       rw [if_pos hlen, List.all_map] at this
       rw [Bool.and_true]; exact this
     rw [e] at hall
     simpa using hall
    ·intro m hm _ hp u hu
     simp only [Option.map_id'] at hu ⊢
     exact hstep m hm u (fun _ => hu) (fun h => absurd (of_decide_eq_true hp) h)
    ·intro m hm _ hp
     simp only [Option.map_id']
     exact hstep m hm false (fun h => absurd h (of_decide_eq_false hp)) (fun _ => rfl)
    ·intro hall
     simp only [Option.map_id']
     have hfa : ((qBe (C.getD j [])).all fun f => decide (f ∈ C)) = true := by
      unfold qBe
      rw [if_pos hlen, List.all_map, List.all_eq_true]
      exact fun m hm => hall m (List.mem_range.1 hm)
     refine Ev.step (fun k => z37.l1.eq_2 ..) ?_
     refine qAd (by omega) ?_
     refine Ev.step (fun k => z37.j3.eq_2 ..) ?_
     rw [qAj (i := j) (by omega)]
     exact qAd (by decide) (h1 hfa)
   ·have hfa : ((qBe (C.getD j [])).all fun f => decide (f ∈ C)) = true := by
     unfold qBe; rw [if_neg hlen]; rfl
    refine Ev.step (fun k => z37.l1.eq_2 ..) ?_
    by_cases h0 : 0 < (C.getD j []).length
    ·refine qAa (by omega) ?_
     refine Ev.step (fun k => z37.j3.eq_2 ..) ?_
     rw [qAj (i := j) (by omega)]
     exact qAd (by rw [decide_eq_false (by omega)]; decide) (h1 hfa)
    ·refine qAd (by omega) ?_
     refine Ev.step (fun k => z37.j3.eq_2 ..) ?_
     rw [qAj (i := j) (by omega)]
     exact qAd (by decide) (h1 hfa)
  have hround : ∀ (j : Nat), j < C.length → ∀ v, (okAt C C j = true → Ev (fun k => z37.l0 k ((j + 1 : Nat) : Int) C) v) → (okAt C C j = false → v = false) → Ev (fun k => z37.l0 k (j : Int) C) v := by
   intro j hj v h1 h2
   have hrow := hr _ (qA1 ([] : List Int) hj)
   have key := hfaces j hj v
   have stop : v = false → Ev (fun k => z37.j1 k (j : Int) (C.getD j []) true C) v := fun e => by
    refine Ev.step (fun k => z37.j1.eq_2 ..) ?_
    rw [e]; exact qAa rfl (Ev.now _)
   have go : Ev (fun k => z37.l1 k (j : Int) (C.getD j []) 0 C) v → Ev (fun k => z37.j1 k (j : Int) (C.getD j []) false C) v := fun e => by
    refine Ev.step (fun k => z37.j1.eq_2 ..) ?_
    exact qAd (by decide) e
   refine Ev.step (fun k => z37.l0.eq_2 ..) ?_
   rw [qA3]
   refine qAa (by omega) (qAa (by omega) (Ev.bind (qFe _ (by omega)) ?_))
   unfold okAt at h1 h2
   cases hi : qBo (C.getD j []) with
   | false => rw [hi] at h2; exact qAd (by decide) (stop (h2 rfl))
   | true =>
    rw [hi] at h1 h2
    refine qAa rfl ?_
    rcases Nat.eq_zero_or_pos j with h0 | h0
    ·have e : (j == 0) = true := by simpa using h0
     rw [e] at h1 h2
     simp only [Bool.true_or, Bool.true_and] at h1 h2
     exact qAd (by omega) (go (key h1 h2))
    ·have e : (j == 0) = false := by simpa using (show j ≠ 0 by omega)
     rw [e] at h1 h2
     simp only [Bool.false_or, Bool.true_and] at h1 h2
     have hrow2 := hr _ (qA1 ([] : List Int) (show j - 1 < C.length by omega))
     rw [show wrap64 ((j : Int) - 1) = ((j - 1 : Nat) : Int) by rw [qAi (by omega) (by omega)]; omega, qA3]
     refine qAa (by omega) (qAa (by omega) (qAa (by omega) (Ev.bind (qKv _ _ (by omega)) ?_)))
     cases hc : slt (C.getD (j - 1) []) (C.getD j []) with
     | true =>
      rw [hc] at h1 h2
      simp only [Bool.true_and] at h1 h2
      exact go (key h1 h2)
     | false => rw [hc] at h2; exact stop (h2 rfl)
  refine qF7 (fun (i : Nat) k => z37.l0 k (i : Int) C) (okAt C C) C.length (fun j hj hp r hr' => ?_) (fun j hj hp => ?_) ?_
  ·exact hround j hj r (fun _ => hr') (fun h => by rw [hp] at h; cases h)
  ·exact hround j hj false (fun h => by rw [hp] at h; cases h) (fun _ => rfl)
  ·refine Ev.step (fun k => z37.l0.eq_2 ..) ?_
   exact qAd (by omega) (Ev.now _)
 ·rw [decide_eq_false h48, Bool.false_and]
  exact qAa (by omega) (Ev.now _)
end Go.Proofs.Ytgdfkcipffjjcaa.B
set_option linter.unusedVariables false
set_option linter.unusedSimpArgs false
namespace Go.Proofs.Ytgdfkcipffjjcaa.B
open Go.RowKit Go.Proofs.YtgdfkcipffjjcaaW.PrintWords
open SimT
section
variable {C : List (List Int)} (hl : C.length ≤ 1048576) (hr : ∀ x ∈ C, x.length ≤ 1048576)
include hl hr
omit hl hr in
theorem qDo (l : List Int) : z51.f l = some (l.length : Int) := rfl
omit hl hr in
def qAr (C : List (List Int)) (d : Int) : List Int := filt (fun i => decide (((C.getD i []).length : Int) = d + 1)) C.length
omit hr in
theorem qBl {d : Int} (h0 : -1000 ≤ d) (h1 : d ≤ 1000) : Ev (fun k => z49.f k C d) (qAr C d) := by
 unfold z49.f
 refine qH4 (fun (s : List Int) (j : Nat) k => z49.l0 k d s C (C.length : Int) (j : Int)) (fun i => decide (((C.getD i []).length : Int) = d + 1)) C.length (fun j s hj hs hp r hr' => ?_) (fun j s hj hs hp r hr' => ?_) _ ?_
 ·refine Ev.step (fun k => z49.l0.eq_2 ..) ?_
  rw [qA3, qAj (by omega), qAi (x := d + 1) (by omega) (by omega)]
  exact qAa (by omega) (qAa (by omega) (qAa (by omega) (Ev.bind (qAt (qDo _)) (qAa (of_decide_eq_true hp) (qAa (by omega) hr')))))
 ·refine Ev.step (fun k => z49.l0.eq_2 ..) ?_
  rw [qA3, qAj (by omega), qAi (x := d + 1) (by omega) (by omega)]
  exact qAa (by omega) (qAa (by omega) (qAa (by omega) (Ev.bind (qAt (qDo _)) (qAd (of_decide_eq_false hp) hr'))))
 ·refine Ev.step (fun k => z49.l0.eq_2 ..) ?_
  exact qAd (by omega) (Ev.now _)
omit hr in
theorem qCe {d : Int} (h0 : -1000 ≤ d) (h1 : d ≤ 1000) : Ev (fun k => z25.f k C d) (qAr C d) := by
 unfold z25.f
 refine qH4 (fun (s : List Int) (j : Nat) k => z25.l0 k d s (j : Int) C) (fun i => decide (((C.getD i []).length : Int) = d + 1)) C.length (fun j s hj hs hp r hr' => ?_) (fun j s hj hs hp r hr' => ?_) _ ?_
 ·refine Ev.step (fun k => z25.l0.eq_2 ..) ?_
  rw [qA3, qAj (by omega), qAi (x := d + 1) (by omega) (by omega)]
  exact qAa (by omega) (qAa (by omega) (qAa (of_decide_eq_true hp) (qAa (by omega) hr')))
 ·refine Ev.step (fun k => z25.l0.eq_2 ..) ?_
  rw [qA3, qAj (by omega), qAi (x := d + 1) (by omega) (by omega)]
  exact qAa (by omega) (qAa (by omega) (qAd (of_decide_eq_false hp) hr'))
 ·refine Ev.step (fun k => z25.l0.eq_2 ..) ?_
  exact qAd (by omega) (Ev.now _)
omit hl hr in
def qB3 (C : List (List Int)) (s : List Int) : List Int := (qBe s).map (idx C)
theorem qFk (hs : Srt C) {i : Nat} (hi : i < C.length) : Ev (fun k => z57.f k C (i : Int)) (qB3 C (C.getD i [])) := by
 unfold z57.f
 have hrow := hr _ (qA1 ([] : List Int) hi)
 rw [qA3]
 refine qAa (by omega) (qAa (by omega) (Ev.bind (qF5 _ (by omega)) ?_))
 have hfl := qE4 (C.getD i [])
 have e : qB3 C (C.getD i []) = (List.range (qBe (C.getD i [])).length).map fun j => idx C ((qBe (C.getD i [])).getD j []) := qJ7 [] (idx C) _
 rw [e]
 refine qEd (fun (s : List Int) (j : Nat) k => z57.l0 k s (qBe (C.getD i [])) ((qBe (C.getD i [])).length : Int) (j : Int) C) (fun j => idx C ((qBe (C.getD i [])).getD j [])) (qBe (C.getD i [])).length (fun j s hj hs' r hr' => ?_) _ ?_
 ·refine Ev.step (fun k => z57.l0.eq_2 ..) ?_
  have hsl : s.length = j := by rw [hs']; simp
  have hf := qHg (qA1 ([] : List Int) hj)
  rw [qA3, qAj (by omega)]
  exact qAa (by omega) (qAa (by omega) (qAa (by omega) (Ev.bind (qF0 C _ (by omega) (fun x hx => by have := hr x hx; omega) (by omega) hs) (qAa (by omega) hr'))))
 ·refine Ev.step (fun k => z57.l0.eq_2 ..) ?_
  exact qAd (by omega) (Ev.now _)
theorem qG4 {i : Nat} (hi : i < C.length) : Ev (fun k => z42.f k C (i : Int)) (qB3 C (C.getD i [])) := by
 unfold z42.f
 have hrow := hr _ (qA1 ([] : List Int) hi)
 rw [qA3]
 refine qAa (by omega) (qAa (by omega) ?_)
 by_cases h1 : 1 < (C.getD i []).length
 ·have e : qB3 C (C.getD i []) = (List.range (C.getD i []).length).map fun j => idx C (drp (C.getD i []) j) := by
   unfold qB3 qBe
   rw [if_pos h1, List.map_map]; rfl
  rw [e]
  refine qEd (fun (s : List Int) (j : Nat) k => z42.l0 k (C.getD i []) s (j : Int) C) (fun j => idx C (drp (C.getD i []) j)) (C.getD i []).length (fun j s hj hs' r hr' => ?_) _ ?_
  ·refine Ev.step (fun k => z42.l0.eq_2 ..) ?_
   have hsl : s.length = j := by rw [hs']; simp
   refine qAa (by omega) ?_
   refine Ev.step (fun k => z42.j1.eq_2 ..) ?_
   rw [qAj (by omega)]
   exact qAa (decide_eq_true (by omega)) (Ev.bind (qAt (qIo _ j hj (by omega))) (Ev.bind (qKh C _ (by omega) (fun x hx => by have := hr x hx; omega)) (qAa (by omega) hr')))
  ·refine Ev.step (fun k => z42.l0.eq_2 ..) ?_
   refine qAd (by omega) ?_
   refine Ev.step (fun k => z42.j1.eq_2 ..) ?_
   exact qAd (by decide) (Ev.now _)
 ·have e : qB3 C (C.getD i []) = [] := by
   unfold qB3 qBe; rw [if_neg h1]; rfl
  rw [e]
  refine Ev.step (fun k => z42.l0.eq_2 ..) ?_
  by_cases h2 : 0 < (C.getD i []).length
  ·refine qAa (by omega) ?_
   refine Ev.step (fun k => z42.j1.eq_2 ..) ?_
   exact qAd (by rw [decide_eq_false (by omega)]; decide) (Ev.now _)
  ·refine qAd (by omega) ?_
   refine Ev.step (fun k => z42.j1.eq_2 ..) ?_
   exact qAd (by decide) (Ev.now _)
end
end Go.Proofs.Ytgdfkcipffjjcaa.B
set_option linter.unusedVariables false
set_option linter.unusedSimpArgs false
namespace Go.Proofs.Ytgdfkcipffjjcaa.B.LinT
abbrev Vec := Nat → Int
theorem qBk {p a : Int} (c : Int) (h : p ∣ a) : p ∣ c * a := Int.dvd_trans h (Int.dvd_mul_left c a)
def Zr (p : Int) (n : Nat) (v : Vec) : Prop := ∀ i, i < n → p ∣ v i
structure Sub (p : Int) (n : Nat) (S : Vec → Prop) : Prop where
 zero : ∀ v, Zr p n v → S v
 add : ∀ v w, S v → S w → S (fun i => v i + w i)
 smul : ∀ (c : Int) v, S v → S (fun i => c * v i)
theorem Sub.congr {p : Int} {n : Nat} {S : Vec → Prop} (h : Sub p n S) {v w : Vec} (hv : S v) (e : ∀ i, i < n → p ∣ w i - v i) : S w := by
 have := h.add v (fun i => w i - v i) hv (h.zero _ e)
 have e2 : (fun i => v i + (w i - v i)) = w := by funext i; omega
 rwa [e2] at this
theorem Sub.sub {p : Int} {n : Nat} {S : Vec → Prop} (h : Sub p n S) {v w : Vec} (hv : S v) (hw : S w) : S (fun i => v i - w i) := by
 have := h.add v _ hv (h.smul (-1) w hw)
 have e2 : (fun i => v i + -1 * w i) = fun i => v i - w i := by funext i; omega
 rwa [e2] at this
def Ld (p : Int) (n : Nat) (v : Vec) (i : Nat) : Prop := i < n ∧ ¬ p ∣ v i ∧ ∀ j, j < i → p ∣ v j
theorem least' {q : Nat → Prop} (h : ∃ j, q j) : ∃ j, q j ∧ ∀ m, m < j → ¬ q m := by
 obtain ⟨j, hj⟩ := h
 induction j using Nat.strongRecOn with
 | _ j ih =>
  by_cases hm : ∃ m, m < j ∧ q m
  ·obtain ⟨m, h1, h2⟩ := hm
   exact ih m h1 h2
  ·exact ⟨j, hj, fun m h1 h2 => hm ⟨m, h1, h2⟩⟩
theorem ld_nz {p : Int} {n : Nat} {v : Vec} {i : Nat} (h : Ld p n v i) : ¬ Zr p n v := fun hz => h.2.1 (hz i h.1)
def Pl (p : Int) (n : Nat) (S : Vec → Prop) (i : Nat) : Prop := ∃ v, S v ∧ Ld p n v i
open Classical in
noncomputable def cnt (Q : Nat → Prop) : Nat → Nat
 | 0 => 0
 | n + 1 => cnt Q n + (if Q n then 1 else 0)
theorem qEl {Q R : Nat → Prop} : ∀ n, (∀ i, i < n → Q i → R i) → cnt Q n ≤ cnt R n
 | 0, _ => Nat.le_refl _
 | n + 1, h => by
  have ih := qEl n (fun i hi => h i (by omega))
  have hn := h n (by omega)
  simp only [cnt]
  by_cases hq : Q n
  ·rw [if_pos hq, if_pos (hn hq)]; omega
  ·rw [if_neg hq]; split <;> omega
theorem qHj {Q R : Nat → Prop} (n : Nat) (h : ∀ i, i < n → (Q i ↔ R i)) : cnt Q n = cnt R n :=
 Nat.le_antisymm (qEl n fun i hi => (h i hi).1) (qEl n fun i hi => (h i hi).2)
theorem qF9 {Q R : Nat → Prop} (i0 : Nat) : ∀ n, i0 < n → ¬ Q i0 → (∀ i, i < n → (R i ↔ Q i ∨ i = i0)) → cnt R n = cnt Q n + 1
 | 0, h, _, _ => by omega
 | n + 1, h, hq, he => by
  simp only [cnt]
  rcases Nat.lt_or_ge i0 n with hl | hg
  ·rw [qF9 i0 n hl hq (fun i hi => he i (by omega))]
   have e := he n (by omega)
   have e2 : R n ↔ Q n := by
    rw [e]
    constructor
    ·rintro (h | h)
     ·exact h
     ·omega
    ·exact Or.inl
   by_cases hqn : Q n
   ·rw [if_pos hqn, if_pos (e2.2 hqn)]
   ·rw [if_neg hqn, if_neg (fun h => hqn (e2.1 h))]
  ·have : i0 = n := by omega
   subst this
   rw [if_neg hq, if_pos ((he i0 (by omega)).2 (.inr rfl)), qHj (Q := R) (R := Q) i0 (fun i hi => by
    rw [he i (by omega)]; constructor
    ·rintro (h | h)
     ·exact h
     ·omega
    ·exact Or.inl)]
theorem qIs (Q : Nat → Prop) : ∀ n, (∀ i, i < n → ¬ Q i) → cnt Q n = 0
 | 0, _ => rfl
 | n + 1, h => by simp only [cnt]; rw [qIs Q n (fun i hi => h i (by omega)), if_neg (h n (by omega))]
noncomputable def dim (p : Int) (n : Nat) (S : Vec → Prop) : Nat := cnt (Pl p n S) n
theorem qIp {p : Int} {n : Nat} {S T : Vec → Prop} (h : ∀ v, S v → T v) : dim p n S ≤ dim p n T :=
 qEl n fun i _ ⟨v, h1, h2⟩ => ⟨v, h v h1, h2⟩
theorem qE7 {p : Int} {n : Nat} {S T : Vec → Prop} (h : ∀ v, S v ↔ T v) : dim p n S = dim p n T :=
 Nat.le_antisymm (qIp fun v => (h v).1) (qIp fun v => (h v).2)
def Pr (p : Int) : Prop := (¬ p ∣ 1) ∧ ∀ a, ¬ p ∣ a → ∃ b, p ∣ a * b - 1
def Ins (p : Int) (n : Nat) (S : Vec → Prop) (x v : Vec) : Prop := ∃ (c : Int) (s : Vec), S s ∧ ∀ i, i < n → p ∣ v i - (c * x i + s i)
theorem Ins.isSub {p : Int} {n : Nat} {S : Vec → Prop} (hS : Sub p n S) (x : Vec) : Sub p n (Ins p n S x) where
 zero v hv := ⟨0, fun _ => 0, hS.zero _ (fun i _ => Int.dvd_zero p), fun i hi => by simpa using hv i hi⟩
 add := by
  rintro v w ⟨c, s, hs, h⟩ ⟨c', s', hs', h'⟩
  refine ⟨c + c', _, hS.add _ _ hs hs', fun i hi => ?_⟩
  have := Int.dvd_add (h i hi) (h' i hi)
  have e : v i + w i - ((c + c') * x i + (s i + s' i)) = (v i - (c * x i + s i)) + (w i - (c' * x i + s' i)) := by grind
  rw [e]; exact this
 smul := by
  rintro d v ⟨c, s, hs, h⟩
  refine ⟨d * c, _, hS.smul d _ hs, fun i hi => ?_⟩
  have := qBk d (h i hi)
  have e : d * v i - (d * c * x i + d * s i) = d * (v i - (c * x i + s i)) := by grind
  rw [e]; exact this
theorem Ins.old {p : Int} {n : Nat} {S : Vec → Prop} {x v : Vec} (h : S v) : Ins p n S x v := ⟨0, v, h, fun i _ => by simp⟩
theorem Ins.new {p : Int} {n : Nat} {S : Vec → Prop} (hS : Sub p n S) {x : Vec} : Ins p n S x x := ⟨1, fun _ => 0, hS.zero _ (fun i _ => Int.dvd_zero p), fun i _ => by simp⟩
theorem Ins.least {p : Int} {n : Nat} {S T : Vec → Prop} (hT : Sub p n T) {x v : Vec} (h : ∀ v, S v → T v) (hx : T x) (hv : Ins p n S x v) : T v := by
 obtain ⟨c, s, hs, he⟩ := hv
 exact hT.congr (hT.add _ _ (hT.smul c _ hx) (h s hs)) he
def Span (p : Int) (n : Nat) : List Vec → Vec → Prop
 | [] => Zr p n
 | x :: L => Ins p n (Span p n L) x
theorem zr_sub (p : Int) (n : Nat) : Sub p n (Zr p n) where
 zero _ h := h
 add _ _ h h' i hi := Int.dvd_add (h i hi) (h' i hi)
 smul c _ h i hi := qBk c (h i hi)
theorem qBw (p : Int) (n : Nat) : ∀ L, Sub p n (Span p n L)
 | [] => zr_sub p n
 | x :: L => Ins.isSub (qBw p n L) x
theorem qBn {p : Int} {n : Nat} : ∀ {L : List Vec} {x : Vec}, x ∈ L → Span p n L x
 | y :: L, x, h => by
  rcases List.mem_cons.1 h with rfl | h
  ·exact Ins.new (qBw p n L)
  ·exact Ins.old (qBn h)
theorem qD1 {p : Int} {n : Nat} {T : Vec → Prop} (hT : Sub p n T) : ∀ {L : List Vec} {v : Vec}, (∀ x, x ∈ L → T x) → Span p n L v → T v
 | [], v, _, hv => hT.zero v hv
 | y :: L, v, h, hv => Ins.least hT (fun v hv => qD1 hT (fun x hx => h x (List.mem_cons_of_mem _ hx)) hv) (h y List.mem_cons_self) hv
theorem qCf {p : Int} {n : Nat} {L M : List Vec} (h : ∀ x, x ∈ L → Span p n M x) {v : Vec} (hv : Span p n L v) : Span p n M v := qD1 (qBw p n M) h hv
structure Lmap (p : Int) (a b : Nat) (f : Vec → Vec) : Prop where
 zr : ∀ v, Zr p a v → Zr p b (f v)
 add : ∀ v w j, j < b → p ∣ f (fun i => v i + w i) j - (f v j + f w j)
 smul : ∀ (c : Int) v j, j < b → p ∣ f (fun i => c * v i) j - c * f v j
theorem Lmap.sub {p : Int} {a b : Nat} {f : Vec → Vec} (hf : Lmap p a b f) (v w : Vec) (j : Nat) (hj : j < b) : p ∣ f (fun i => v i - w i) j - (f v j - f w j) := by
 have h1 := hf.add v (fun i => -1 * w i) j hj
 have h2 := hf.smul (-1) w j hj
 have e : (fun i => v i + -1 * w i) = fun i => v i - w i := by funext i; omega
 simp only [e] at h1
 have := Int.dvd_add h1 h2
 have e2 : f (fun i => v i - w i) j - (f v j - f w j) = f (fun i => v i - w i) j - (f v j + f (fun i => -1 * w i) j) + (f (fun i => -1 * w i) j - -1 * f w j) := by omega
 rw [e2]; exact this
def sm (f : Nat → Int) : Nat → Int
 | 0 => 0
 | n + 1 => sm f n + f n
theorem qDn {f g : Nat → Int} : ∀ n, (∀ i, i < n → f i = g i) → sm f n = sm g n
 | 0, _ => rfl
 | n + 1, h => by simp only [sm]; rw [qDn n (fun i hi => h i (by omega)), h n (by omega)]
theorem qJr (f g : Nat → Int) : ∀ n, sm (fun i => f i + g i) n = sm f n + sm g n
 | 0 => rfl
 | n + 1 => by simp only [sm]; rw [qJr f g n]; omega
theorem qJq (c : Int) (f : Nat → Int) : ∀ n, sm (fun i => c * f i) n = c * sm f n
 | 0 => by simp [sm]
 | n + 1 => by simp only [sm]; rw [qJq c f n, Int.mul_add]
theorem qG5 {p : Int} {f : Nat → Int} : ∀ n, (∀ i, i < n → p ∣ f i) → p ∣ sm f n
 | 0, _ => Int.dvd_zero p
 | n + 1, h => Int.dvd_add (qG5 n fun i hi => h i (by omega)) (h n (by omega))
theorem sm_sub (f g : Nat → Int) (n : Nat) : sm (fun i => f i - g i) n = sm f n - sm g n := by
 have h := qJr f (fun i => -1 * g i) n
 rw [qJq] at h
 rw [show (fun i => f i - g i) = fun i => f i + -1 * g i by funext i; omega, h]; omega
theorem qJp : ∀ n, sm (fun _ => 0) n = 0
 | 0 => rfl
 | n + 1 => by simp only [sm]; rw [qJp n]; rfl
theorem qEq {f : Nat → Int} {p : Int} (i0 : Nat) : ∀ n, i0 < n → (∀ i, i < n → i ≠ i0 → p ∣ f i) → p ∣ sm f n - f i0
 | 0, h, _ => by omega
 | n + 1, h, hz => by
  simp only [sm]
  rcases Nat.lt_or_ge i0 n with hl | hg
  ·have := Int.dvd_add (qEq i0 n hl (fun i hi => hz i (by omega))) (hz n (by omega) (by omega))
   rwa [show sm f n - f i0 + f n = sm f n + f n - f i0 by omega] at this
  ·have : i0 = n := by omega
   subst this
   have := qG5 (p := p) (f := f) i0 (fun i hi => hz i (by omega) (by omega))
   rwa [show sm f i0 + f i0 - f i0 = sm f i0 by omega]
structure Rref (p : Int) (n r : Nat) (R : Nat → Vec) (q : Nat → Nat) : Prop where
 lt : ∀ i, i < r → q i < n
 mono : ∀ i j, i < j → j < r → q i < q j
 one : ∀ i, i < r → p ∣ R i (q i) - 1
 off : ∀ i j, i < r → j < r → i ≠ j → p ∣ R i (q j)
 pre : ∀ i c, i < r → c < q i → p ∣ R i c
def rows (R : Nat → Vec) (r : Nat) : List Vec := (List.range r).map R
theorem qBr {R : Nat → Vec} {r i : Nat} (h : i < r) : R i ∈ rows R r := List.mem_map_of_mem (List.mem_range.2 h)
theorem qCn {R : Nat → Vec} {r : Nat} {x : Vec} (h : x ∈ rows R r) : ∃ i, i < r ∧ R i = x := by
 obtain ⟨i, hi, he⟩ := List.mem_map.1 h
 exact ⟨i, List.mem_range.1 hi, he⟩
def comb (R : Nat → Vec) (r : Nat) (c : Nat → Int) : Vec := fun j => sm (fun i => c i * R i j) r
theorem qHi {p : Int} {n : Nat} {S : Vec → Prop} (hS : Sub p n S) (R : Nat → Vec) (c : Nat → Int) : ∀ r, (∀ i, i < r → S (R i)) → S (comb R r c)
 | 0, _ => hS.zero _ (fun _ _ => Int.dvd_zero p)
 | r + 1, h => hS.add _ _ (qHi hS R c r (fun i hi => h i (by omega))) (hS.smul (c r) _ (h r (by omega)))
theorem qJm {p : Int} {n : Nat} (R : Nat → Vec) (r : Nat) (v : Vec) : Span p n (rows R r) v ↔ ∃ c, ∀ j, j < n → p ∣ v j - comb R r c j := by
 constructor
 ·refine qD1 (T := fun v => ∃ c, ∀ j, j < n → p ∣ v j - comb R r c j) ⟨?_, ?_, ?_⟩ (fun x hx => ?_)
  ·intro v hv
   refine ⟨fun _ => 0, fun j hj => ?_⟩
   have e : comb R r (fun _ => 0) j = 0 := by
    unfold comb; rw [qDn (g := fun _ => 0) r (fun i _ => Int.zero_mul _), qJp]
   rw [e, Int.sub_zero]; exact hv j hj
  ·rintro v w ⟨c, hc⟩ ⟨d, hd⟩
   refine ⟨fun i => c i + d i, fun j hj => ?_⟩
   have e : comb R r (fun i => c i + d i) j = comb R r c j + comb R r d j := by
    unfold comb; rw [← qJr]; exact qDn r fun i _ => Int.add_mul _ _ _
   have := Int.dvd_add (hc j hj) (hd j hj)
   rwa [show v j - comb R r c j + (w j - comb R r d j) = v j + w j - (comb R r c j + comb R r d j) by omega, ← e] at this
  ·rintro a v ⟨c, hc⟩
   refine ⟨fun i => a * c i, fun j hj => ?_⟩
   have e : comb R r (fun i => a * c i) j = a * comb R r c j := by
    unfold comb; rw [← qJq]; exact qDn r fun i _ => Int.mul_assoc _ _ _
   have := qBk a (hc j hj)
   rwa [Int.mul_sub, ← e] at this
  ·obtain ⟨i0, hi0, rfl⟩ := qCn hx
   refine ⟨fun i => if i = i0 then 1 else 0, fun j hj => ?_⟩
   have := qEq (p := p) (f := fun i => (if i = i0 then 1 else 0) * R i j) i0 r hi0 (fun i _ hne => by simp [hne])
   simp only [if_pos, Int.one_mul] at this
   have := Int.dvd_neg.2 this
   rwa [Int.neg_sub] at this
 ·rintro ⟨c, hc⟩
  exact (qBw p n _).congr (qHi (qBw p n _) R c r (fun i hi => qBn (qBr hi))) hc
theorem Rref.coef {p : Int} {n r : Nat} {R : Nat → Vec} {q : Nat → Nat} (h : Rref p n r R q) {v : Vec} (hv : Span p n (rows R r) v) (j : Nat) (hj : j < n) : p ∣ v j - comb R r (fun i => v (q i)) j := by
 obtain ⟨c, hc⟩ := (qJm R r v).1 hv
 have e : ∀ i, i < r → p ∣ v (q i) - c i := fun i hi => by
  have h1 := hc (q i) (h.lt i hi)
  have h2 := qEq (p := p) (f := fun k => c k * R k (q i)) i r hi (fun k hk hne => qBk _ (h.off k i hk hi hne))
  have h3 := qBk (c i) (h.one i hi)
  have := Int.dvd_add h1 (Int.dvd_add h2 h3)
  have e : v (q i) - comb R r c (q i) + (sm (fun k => c k * R k (q i)) r - c i * R i (q i) + c i * (R i (q i) - 1)) = v (q i) - c i := by
   unfold comb; grind
  rwa [e] at this
 have h4 : p ∣ comb R r c j - comb R r (fun i => v (q i)) j := by
  unfold comb
  rw [← sm_sub]
  refine qG5 r fun i hi => ?_
  have := qBk (R i j) (e i hi)
  have := Int.dvd_neg.2 this
  have e2 : -(R i j * (v (q i) - c i)) = c i * R i j - v (q i) * R i j := by grind
  rwa [e2] at this
 have := Int.dvd_add (hc j hj) h4
 rwa [show v j - comb R r c j + (comb R r c j - comb R r (fun i => v (q i)) j) = v j - comb R r (fun i => v (q i)) j by omega] at this
theorem Rref.zero {p : Int} {n r : Nat} {R : Nat → Vec} {q : Nat → Nat} (h : Rref p n r R q) {v : Vec} (hv : Span p n (rows R r) v) (hz : ∀ i, i < r → p ∣ v (q i)) : Zr p n v := fun j hj => by
 have h1 := h.coef hv j hj
 have h2 : p ∣ comb R r (fun i => v (q i)) j := qG5 r fun i hi => Int.dvd_mul_of_dvd_left (hz i hi)
 have := Int.dvd_add h1 h2
 rwa [Int.sub_add_cancel] at this
theorem Rref.pl {p : Int} {n r : Nat} {R : Nat → Vec} {q : Nat → Nat} (hp : Pr p) (h : Rref p n r R q) (c : Nat) : Pl p n (Span p n (rows R r)) c ↔ ∃ i, i < r ∧ q i = c := by
 constructor
 ·rintro ⟨v, hv, hl⟩
  -- the first i with v (q i) not zero
  have hex : ∃ i, i < r ∧ ¬ p ∣ v (q i) := Classical.byContradiction fun hc => by
   refine ld_nz hl (h.zero hv fun i hi => Classical.byContradiction fun hd => hc ⟨i, hi, hd⟩)
  obtain ⟨i, ⟨hi, hni⟩, hmin⟩ := least' hex
  refine ⟨i, hi, ?_⟩
  have hsm : ∀ c, c < q i → p ∣ v c := fun c hc => by
   have h1 := h.coef hv c (by have := h.lt i hi; omega)
   have h2 : p ∣ comb R r (fun i => v (q i)) c := qG5 r fun k hk => by
    rcases Nat.lt_or_ge k i with hki | hki
    ·exact Int.dvd_mul_of_dvd_left (Classical.byContradiction fun hd => hmin k hki ⟨hk, hd⟩)
    ·refine qBk _ (h.pre k c hk ?_)
     rcases Nat.eq_or_lt_of_le hki with rfl | hlt
     ·exact hc
     ·have := h.mono i k hlt hk; omega
   have := Int.dvd_add h1 h2
   rwa [Int.sub_add_cancel] at this
  rcases Nat.lt_trichotomy (q i) c with h1 | h1 | h1
  ·exact absurd (hl.2.2 _ h1) hni
  ·exact h1
  ·exact absurd (hsm c h1) hl.2.1
 ·rintro ⟨i, hi, rfl⟩
  refine ⟨R i, qBn (qBr hi), h.lt i hi, fun hd => hp.1 ?_, fun j hj => h.pre i j hi hj⟩
  have := Int.dvd_sub hd (h.one i hi)
  rwa [show R i (q i) - (R i (q i) - 1) = 1 by omega] at this
theorem Rref.indep {p : Int} {n r : Nat} {R : Nat → Vec} {q : Nat → Nat} (hp : Pr p) (h : Rref p n r R q) : dim p n (Span p n (rows R r)) = r := by
 have main : ∀ k, k ≤ r → cnt (fun c => ∃ i, i < k ∧ q i = c) n = k := by
  intro k
  induction k with
  | zero => intro _; exact qIs _ n (fun c _ ⟨i, hi, _⟩ => by omega)
  | succ k ih =>
   intro hk
   rw [qF9 (Q := fun c => ∃ i, i < k ∧ q i = c) (q k) n (h.lt k (by omega)) (fun ⟨i, hi, he⟩ => by have := h.mono i k hi (by omega); omega) (fun c _ => ⟨?_, ?_⟩), ih (by omega)]
   ·rintro ⟨i, hi, he⟩
    rcases Nat.lt_or_ge i k with hl | hg
    ·exact .inl ⟨i, hl, he⟩
    ·have : i = k := by omega
     subst this; exact .inr he.symm
   ·rintro (⟨i, hi, he⟩ | he)
    ·exact ⟨i, by omega, he⟩
    ·exact ⟨k, by omega, he.symm⟩
 unfold dim
 rw [qHj n (fun c _ => h.pl hp c)]
 exact main r (Nat.le_refl _)
theorem Rref.unique {p : Int} {n r r' : Nat} {R R' : Nat → Vec} {q q' : Nat → Nat} (hp : Pr p) (h : Rref p n r R q) (h' : Rref p n r' R' q') (hs : ∀ v, Span p n (rows R r) v ↔ Span p n (rows R' r') v) :
  r = r' ∧ ∀ i, i < r → q i = q' i ∧ ∀ j, j < n → p ∣ R i j - R' i j := by
 have hr : r = r' := by rw [← h.indep hp, ← h'.indep hp]; exact qE7 hs
 subst hr
 have hpl : ∀ c, (∃ i, i < r ∧ q i = c) ↔ ∃ i, i < r ∧ q' i = c := fun c => by
  rw [← h.pl hp c, ← h'.pl hp c]
  exact ⟨fun ⟨v, h1, h2⟩ => ⟨v, (hs v).1 h1, h2⟩, fun ⟨v, h1, h2⟩ => ⟨v, (hs v).2 h1, h2⟩⟩
 have hq : ∀ i, i < r → q i = q' i := by
  intro i
  induction i using Nat.strongRecOn with
  | _ i ih =>
   intro hi
   obtain ⟨j, hj, e1⟩ := (hpl (q i)).1 ⟨i, hi, rfl⟩
   obtain ⟨k, hk, e2⟩ := (hpl (q' i)).2 ⟨i, hi, rfl⟩
   rcases Nat.lt_trichotomy i j with hl | he | hl
   ·-- q' i < q' j = q i; k must be < i
    have h1 := h'.mono i j hl hj
    rcases Nat.lt_trichotomy k i with hk' | hk' | hk'
    ·have := ih k hk' hk; have := h'.mono k i hk' hi; omega
    ·subst hk'; omega
    ·have := h.mono i k hk' hk; omega
   ·subst he; omega
   ·have := ih j hl hj; have := h.mono j i hl hi; omega
 refine ⟨rfl, fun i hi => ⟨hq i hi, fun j hj => ?_⟩⟩
 have hd : Span p n (rows R r) (fun j => R i j - R' i j) := (qBw p n _).sub (qBn (qBr hi)) ((hs _).2 (qBn (qBr hi)))
 refine h.zero hd (fun k hk => ?_) j hj
 by_cases e : i = k
 ·subst e
  have h1 := h.one i hi
  have h2 := h'.one i hi
  rw [← hq i hi] at h2
  have := Int.dvd_sub h1 h2
  rwa [show R i (q i) - 1 - (R' i (q i) - 1) = R i (q i) - R' i (q i) by omega] at this
 ·have h1 := h.off i k hi hk e
  have h2 := h'.off i k hi hk e
  rw [← hq k hk] at h2
  exact Int.dvd_sub h1 h2
structure GInv (p : Int) (n m c r : Nat) (R : Nat → Vec) (q : Nat → Nat) : Prop where
 rm : r ≤ m
 lt : ∀ i, i < r → q i < c
 mono : ∀ i j, i < j → j < r → q i < q j
 one : ∀ i, i < r → p ∣ R i (q i) - 1
 off : ∀ i j, i < r → j < m → j ≠ i → p ∣ R j (q i)
 pre : ∀ i k, i < r → k < q i → p ∣ R i k
 low : ∀ i k, r ≤ i → i < m → k < c → p ∣ R i k
theorem GInv.start (p : Int) (n m : Nat) (R : Nat → Vec) (q : Nat → Nat) : GInv p n m 0 0 R q :=
 ⟨Nat.zero_le _, fun i h => by omega, fun i j _ h => by omega, fun i h => by omega, fun i j h => by omega, fun i k h => by omega, fun i k _ _ h => by omega⟩
theorem GInv.none {p : Int} {n m c r : Nat} {R : Nat → Vec} {q : Nat → Nat} (h : GInv p n m c r R q) (hz : ∀ i, r ≤ i → i < m → p ∣ R i c) : GInv p n m (c + 1) r R q :=
 ⟨h.rm, fun i hi => by have := h.lt i hi; omega, h.mono, h.one, h.off, h.pre, fun i k h1 h2 h3 => by
  rcases Nat.lt_or_ge k c with hl | hg
  ·exact h.low i k h1 h2 hl
  ·have : k = c := by omega
   subst this; exact hz i h1 h2⟩
theorem GInv.swap {p : Int} {n m c r : Nat} {R R1 : Nat → Vec} {q : Nat → Nat} (h : GInv p n m c r R q) {a : Nat} (ha : r ≤ a) (ham : a < m) (e1 : ∀ j, R1 r j = R a j) (e2 : ∀ j, R1 a j = R r j) (e3 : ∀ i j, i < m → i ≠ r → i ≠ a → R1 i j = R i j) : GInv p n m c r R1 q := by
 have e : ∀ i, i < m → ∃ k, k < m ∧ (r ≤ i → r ≤ k) ∧ (i < r → k = i) ∧ ∀ j, R1 i j = R k j := fun i hi => by
  by_cases h1 : i = r
  ·subst h1; exact ⟨a, ham, fun _ => ha, fun hh => by omega, e1⟩
  ·by_cases h2 : i = a
   ·subst h2; exact ⟨r, by omega, fun _ => Nat.le_refl _, fun hh => by omega, e2⟩
   ·exact ⟨i, hi, fun hh => hh, fun _ => rfl, fun j => e3 i j hi h1 h2⟩
 refine ⟨h.rm, h.lt, h.mono, fun i hi => ?_, fun i j hi hj hne => ?_, fun i k hi hk => ?_, fun i k h1 h2 h3 => ?_⟩
 ·obtain ⟨k, _, _, hk, he⟩ := e i (by omega)
  rw [he, hk hi]; exact h.one i hi
 ·obtain ⟨k, hkm, hkr, hk, he⟩ := e j hj
  rw [he]
  refine h.off i k hi hkm ?_
  rcases Nat.lt_or_ge j r with hl | hg
  ·rw [hk hl]; exact hne
  ·have := hkr hg; omega
 ·obtain ⟨k', _, _, hk', he⟩ := e i (by omega)
  rw [he, hk' hi]; exact h.pre i k hi hk
 ·obtain ⟨k', hkm, hkr, _, he⟩ := e i h2
  rw [he]; exact h.low k' k (hkr h1) hkm h3
theorem GInv.step {p : Int} {n m c r : Nat} {R R' : Nat → Vec} {q q' : Nat → Nat} (h : GInv p n m c r R q) (hrm : r < m) {b : Int} (hb : p ∣ R r c * b - 1)
  (e1 : ∀ j, j ≤ c → p ∣ R' r j - b * R r j) (e2 : ∀ i j, i < m → i ≠ r → j ≤ c → p ∣ R' i j - (R i j - R i c * R' r j)) (hq : ∀ i, i < r → q' i = q i) (hqr : q' r = c) : GInv p n m (c + 1) (r + 1) R' q' := by
 have top0 : ∀ k, k < c → p ∣ R' r k := fun k hk => by
  have := Int.dvd_add (e1 k (by omega)) (qBk b (h.low r k (Nat.le_refl _) hrm hk))
  rwa [Int.sub_add_cancel] at this
 have top1 : p ∣ R' r c - 1 := by
  have := Int.dvd_add (e1 c (Nat.le_refl _)) hb
  rwa [show R' r c - b * R r c + (R r c * b - 1) = R' r c - 1 by grind] at this
 have same : ∀ i k, i < m → i ≠ r → k < c → p ∣ R' i k - R i k := fun i k hi hne hk => by
  have := Int.dvd_sub (e2 i k hi hne (by omega)) (qBk (R i c) (top0 k hk))
  rwa [show R' i k - (R i k - R i c * R' r k) - R i c * R' r k = R' i k - R i k by omega] at this
 have clr : ∀ i, i < m → i ≠ r → p ∣ R' i c := fun i hi hne => by
  have := Int.dvd_sub (e2 i c hi hne (Nat.le_refl _)) (qBk (R i c) top1)
  rwa [show R' i c - (R i c - R i c * R' r c) - R i c * (R' r c - 1) = R' i c by grind] at this
 refine ⟨by omega, fun i hi => ?_, fun i j hij hj => ?_, fun i hi => ?_, fun i j hi hj hne => ?_, fun i k hi hk => ?_, fun i k h1 h2 h3 => ?_⟩
 ·rcases Nat.lt_or_ge i r with hl | hg
  ·rw [hq i hl]; have := h.lt i hl; omega
  ·have : i = r := by omega
   subst this; omega
 ·rcases Nat.lt_or_ge j r with hl | hg
  ·rw [hq i (by omega), hq j hl]; exact h.mono i j hij hl
  ·have : j = r := by omega
   subst this; rw [hq i hij, hqr]; exact h.lt i hij
 ·rcases Nat.lt_or_ge i r with hl | hg
  ·rw [hq i hl]
   have := Int.dvd_add (same i (q i) (by omega) (by omega) (h.lt i hl)) (h.one i hl)
   rwa [show R' i (q i) - R i (q i) + (R i (q i) - 1) = R' i (q i) - 1 by omega] at this
  ·have : i = r := by omega
   subst this; rw [hqr]; exact top1
 ·rcases Nat.lt_or_ge i r with hl | hg
  ·rw [hq i hl]
   by_cases hj' : j = r
   ·subst hj'; exact top0 _ (h.lt i hl)
   ·have := Int.dvd_add (same j (q i) hj hj' (h.lt i hl)) (h.off i j hl hj hne)
    rwa [Int.sub_add_cancel] at this
  ·have : i = r := by omega
   subst this; rw [hqr]; exact clr j hj hne
 ·rcases Nat.lt_or_ge i r with hl | hg
  ·rw [hq i hl] at hk
   have := h.lt i hl
   have := Int.dvd_add (same i k (by omega) (by omega) (by omega)) (h.pre i k hl hk)
   rwa [Int.sub_add_cancel] at this
  ·have : i = r := by omega
   subst this; rw [hqr] at hk; exact top0 k hk
 ·rcases Nat.lt_or_ge k c with hl | hg
  ·have := Int.dvd_add (same i k h2 (by omega) hl) (h.low i k (by omega) h2 hl)
   rwa [Int.sub_add_cancel] at this
  ·have : k = c := by omega
   subst this; exact clr i h2 (by omega)
theorem GInv.rref {p : Int} {n m r : Nat} {R : Nat → Vec} {q : Nat → Nat} (h : GInv p n m n r R q) : Rref p n r R q :=
 ⟨h.lt, h.mono, h.one, fun i j hi hj hne => h.off j i hj (by have := h.rm; omega) hne, h.pre⟩
theorem GInv.span {p : Int} {n m r : Nat} {R : Nat → Vec} {q : Nat → Nat} (h : GInv p n m n r R q) (v : Vec) : Span p n (rows R m) v ↔ Span p n (rows R r) v := by
 constructor
 ·refine qCf (fun x hx => ?_)
  obtain ⟨i, hi, rfl⟩ := qCn hx
  rcases Nat.lt_or_ge i r with hl | hg
  ·exact qBn (qBr hl)
  ·exact (qBw p n _).zero _ (fun k hk => h.low i k hg hi hk)
 ·refine qCf (fun x hx => ?_)
  obtain ⟨i, hi, rfl⟩ := qCn hx
  exact qBn (qBr (by have := h.rm; omega))
theorem qJj {p : Int} {n m r : Nat} {R R' : Nat → Vec} (hrm : r < m) {a b : Int} (c : Nat → Int) (hb : p ∣ a * b - 1)
  (e1 : ∀ j, j < n → p ∣ R' r j - b * R r j) (e2 : ∀ i j, i < m → i ≠ r → j < n → p ∣ R' i j - (R i j - c i * R' r j)) (v : Vec) : Span p n (rows R' m) v ↔ Span p n (rows R m) v := by
 have sub := qBw p n (rows R m)
 have sub' := qBw p n (rows R' m)
 have htop : Span p n (rows R m) (R' r) := sub.congr (sub.smul b _ (qBn (qBr hrm))) e1
 constructor
 ·refine qCf (fun x hx => ?_)
  obtain ⟨i, hi, rfl⟩ := qCn hx
  by_cases h : i = r
  ·subst h; exact htop
  ·exact sub.congr (sub.sub (qBn (qBr hi)) (sub.smul (c i) _ htop)) (fun j hj => e2 i j hi h hj)
 ·refine qCf (fun x hx => ?_)
  obtain ⟨i, hi, rfl⟩ := qCn hx
  by_cases h : i = r
  ·subst h
   refine sub'.congr (sub'.smul a _ (qBn (qBr hi))) (fun j hj => ?_)
   have h1 := qBk a (e1 j hj)
   have h2 := qBk (R i j) hb
   have := Int.dvd_neg.2 (Int.dvd_add h1 h2)
   rwa [show -(a * (R' i j - b * R i j) + R i j * (a * b - 1)) = R i j - a * R' i j by grind] at this
  ·refine sub'.congr (sub'.add _ _ (qBn (qBr hi)) (sub'.smul (c i) _ (qBn (qBr hrm)))) (fun j hj => ?_)
   have := Int.dvd_neg.2 (e2 i j hi h hj)
   rwa [show -(R' i j - (R i j - c i * R' r j)) = R i j - (R' i j + c i * R' r j) by omega] at this
theorem qEp {p : Int} {n m : Nat} {R R' : Nat → Vec} (h : ∀ i, i < m → ∃ k, k < m ∧ ∀ j, j < n → p ∣ R' i j - R k j) (h' : ∀ i, i < m → ∃ k, k < m ∧ ∀ j, j < n → p ∣ R i j - R' k j) (v : Vec) : Span p n (rows R' m) v ↔ Span p n (rows R m) v := by
 constructor
 ·refine qCf (fun x hx => ?_)
  obtain ⟨i, hi, rfl⟩ := qCn hx
  obtain ⟨k, hk, he⟩ := h i hi
  exact (qBw p n _).congr (qBn (qBr hk)) he
 ·refine qCf (fun x hx => ?_)
  obtain ⟨i, hi, rfl⟩ := qCn hx
  obtain ⟨k, hk, he⟩ := h' i hi
  exact (qBw p n _).congr (qBn (qBr hk)) he
end Go.Proofs.Ytgdfkcipffjjcaa.B.LinT
set_option linter.unusedVariables false
set_option linter.unusedSimpArgs false
namespace Go.Proofs.Ytgdfkcipffjjcaa.B.LinT
def isP (p : Nat) : Bool := decide (2 ≤ p) && decide (p ≤ 251) && (List.range 16).all fun d => decide (d < 2) || decide (p < d * d) || decide (p % d ≠ 0)
theorem qI8 : ((List.range 252).all fun p => !isP p || (List.range p).all fun a => a == 0 || a * a ^ (p - 2) % p == 1) = true := by decide +kernel
theorem qBd {p : Nat} (h : isP p = true) : 2 ≤ p ∧ p ≤ 251 := by
 unfold isP at h
 rw [Bool.and_eq_true, Bool.and_eq_true, decide_eq_true_iff, decide_eq_true_iff] at h
 exact h.1
theorem fermat {p a : Nat} (h : isP p = true) (ha : a < p) (h0 : a ≠ 0) : a * a ^ (p - 2) % p = 1 := by
 have h1 := List.all_eq_true.1 qI8 p (List.mem_range.2 (by have := qBd h; omega))
 rw [h] at h1
 have h2 : ∀ x, x < p → x = 0 ∨ x * x ^ (p - 2) % p = 1 := by simpa using h1
 exact (h2 a ha).resolve_left h0
theorem qH1 {p a : Nat} (h : isP p = true) (ha : a < p) (h0 : a ≠ 0) : (p : Int) ∣ (a : Int) * ((a ^ (p - 2) % p : Nat) : Int) - 1 := by
 have h1 := fermat h ha h0
 have h2 : a * (a ^ (p - 2) % p) % p = 1 := by rw [Nat.mul_mod, Nat.mod_mod, ← Nat.mul_mod]; exact h1
 have h3 := Nat.div_add_mod (a * (a ^ (p - 2) % p)) p
 rw [h2] at h3
 refine ⟨((a * (a ^ (p - 2) % p) / p : Nat) : Int), ?_⟩
 have h4 : ((a * (a ^ (p - 2) % p) : Nat) : Int) = ((p * (a * (a ^ (p - 2) % p) / p) + 1 : Nat) : Int) := by rw [h3]
 rw [Int.natCast_mul, Int.natCast_add, Int.natCast_mul] at h4
 omega
theorem pr_of {p : Nat} (h : isP p = true) : Pr (p : Int) := by
 have h2 := qBd h
 refine ⟨fun hd => ?_, fun a ha => ?_⟩
 ·have := Int.le_of_dvd (by decide) hd; omega
 ·have hm : a % (p : Int) ≠ 0 := fun he => ha (Int.dvd_of_emod_eq_zero he)
  have h3 := Int.emod_nonneg a (b := (p : Int)) (by omega)
  have h4 := Int.emod_lt_of_pos a (b := (p : Int)) (by omega)
  obtain ⟨n, hn⟩ := Int.eq_ofNat_of_zero_le h3
  have h5 := qH1 (a := n) h (by omega) (by omega)
  refine ⟨((n ^ (p - 2) % p : Nat) : Int), ?_⟩
  have h6 : (p : Int) ∣ a - (n : Int) := by rw [← hn]; exact Int.dvd_self_sub_emod
  have h7 := Int.dvd_add (show (p : Int) ∣ (a - (n : Int)) * ((n ^ (p - 2) % p : Nat) : Int) from Int.dvd_mul_of_dvd_left h6) h5
  rwa [show (a - (n : Int)) * ((n ^ (p - 2) % p : Nat) : Int) + ((n : Int) * ((n ^ (p - 2) % p : Nat) : Int) - 1) = a * ((n ^ (p - 2) % p : Nat) : Int) - 1 by grind] at h7
structure El (p : Int) (n m : Nat) (R0 : Nat → Vec) (c r : Nat) (R : Nat → Vec) (q : Nat → Nat) : Prop where
 g : GInv p n m c r R q
 sp : ∀ v, Span p n (rows R m) v ↔ Span p n (rows R0 m) v
 ge : ∀ i j, i < m → j < n → 0 ≤ R i j
 lt : ∀ i j, i < m → j < n → R i j < p
theorem El.start {p : Int} {n m : Nat} {R : Nat → Vec} (h0 : ∀ i j, i < m → j < n → 0 ≤ R i j) (h1 : ∀ i j, i < m → j < n → R i j < p) (q : Nat → Nat) : El p n m R 0 0 R q :=
 ⟨GInv.start p n m R q, fun _ => Iff.rfl, h0, h1⟩
theorem El.none {p : Int} {n m c r : Nat} {R0 R : Nat → Vec} {q : Nat → Nat} (h : El p n m R0 c r R q) (hz : ∀ i, r ≤ i → i < m → R i c = 0) : El p n m R0 (c + 1) r R q :=
 ⟨h.g.none fun i h1 h2 => by rw [hz i h1 h2]; exact Int.dvd_zero p, h.sp, h.ge, h.lt⟩
theorem El.congr {p : Int} {n m c r : Nat} {R0 R R1 : Nat → Vec} {q : Nat → Nat} (h : El p n m R0 c r R q) (hc : c ≤ n) (e : ∀ i j, i < m → j < n → R1 i j = R i j) : El p n m R0 c r R1 q := by
 have hr := h.g.rm
 refine ⟨⟨h.g.rm, h.g.lt, h.g.mono, fun i hi => ?_, fun i j hi hj hne => ?_, fun i k hi hk => ?_, fun i k h1 h2 h3 => ?_⟩, fun v => ?_, fun i j hi hj => by rw [e i j hi hj]; exact h.ge i j hi hj, fun i j hi hj => by rw [e i j hi hj]; exact h.lt i j hi hj⟩
 ·have := h.g.lt i hi
  rw [e i _ (by omega) (by omega)]; exact h.g.one i hi
 ·have := h.g.lt i hi
  rw [e j _ hj (by omega)]; exact h.g.off i j hi hj hne
 ·have := h.g.lt i hi
  rw [e i _ (by omega) (by omega)]; exact h.g.pre i k hi hk
 ·rw [e i _ h2 (by omega)]; exact h.g.low i k h1 h2 h3
 ·rw [← h.sp v]
  exact qEp (fun i hi => ⟨i, hi, fun j hj => by rw [e i j hi hj, Int.sub_self]; exact Int.dvd_zero p⟩) (fun i hi => ⟨i, hi, fun j hj => by rw [e i j hi hj, Int.sub_self]; exact Int.dvd_zero p⟩) v
theorem El.swap {p : Int} {n m c r : Nat} {R0 R R1 : Nat → Vec} {q : Nat → Nat} (h : El p n m R0 c r R q) {a : Nat} (ha : r ≤ a) (ham : a < m) (e1 : ∀ j, R1 r j = R a j) (e2 : ∀ j, R1 a j = R r j) (e3 : ∀ i j, i < m → i ≠ r → i ≠ a → R1 i j = R i j) : El p n m R0 c r R1 q := by
 have e : ∀ i, i < m → ∃ k, k < m ∧ ∀ j, R1 i j = R k j := fun i hi => by
  by_cases h1 : i = r
  ·subst h1; exact ⟨a, ham, e1⟩
  ·by_cases h2 : i = a
   ·subst h2; exact ⟨r, by omega, e2⟩
   ·exact ⟨i, hi, fun j => e3 i j hi h1 h2⟩
 have e' : ∀ i, i < m → ∃ k, k < m ∧ ∀ j, R i j = R1 k j := fun i hi => by
  by_cases h1 : i = r
  ·subst h1; exact ⟨a, ham, fun j => (e2 j).symm⟩
  ·by_cases h2 : i = a
   ·subst h2; exact ⟨r, by omega, fun j => (e1 j).symm⟩
   ·exact ⟨i, hi, fun j => (e3 i j hi h1 h2).symm⟩
 refine ⟨h.g.swap ha ham e1 e2 e3, fun v => ?_, fun i j hi hj => ?_, fun i j hi hj => ?_⟩
 ·rw [← h.sp v]
  refine qEp (fun i hi => ?_) (fun i hi => ?_) v
  ·obtain ⟨k, hk, he⟩ := e i hi
   exact ⟨k, hk, fun j _ => by rw [he j, Int.sub_self]; exact Int.dvd_zero p⟩
  ·obtain ⟨k, hk, he⟩ := e' i hi
   exact ⟨k, hk, fun j _ => by rw [he j, Int.sub_self]; exact Int.dvd_zero p⟩
 ·obtain ⟨k, hk, he⟩ := e i hi
  rw [he]; exact h.ge k j hk hj
 ·obtain ⟨k, hk, he⟩ := e i hi
  rw [he]; exact h.lt k j hk hj
theorem El.congr0 {p : Int} {n m c r : Nat} {R0 R1 R : Nat → Vec} {q : Nat → Nat} (h : El p n m R0 c r R q) (e : ∀ i j, i < m → j < n → R1 i j = R0 i j) : El p n m R1 c r R q :=
 ⟨h.g, fun v => (h.sp v).trans (qEp (fun i hi => ⟨i, hi, fun j hj => by rw [e i j hi hj, Int.sub_self]; exact Int.dvd_zero p⟩) (fun i hi => ⟨i, hi, fun j hj => by rw [e i j hi hj, Int.sub_self]; exact Int.dvd_zero p⟩) v), h.ge, h.lt⟩
theorem El.swap' {p : Int} {n m c r : Nat} {R0 R R1 : Nat → Vec} {q : Nat → Nat} (h : El p n m R0 c r R q) (hc : c ≤ n) {a : Nat} (ha : r ≤ a) (ham : a < m) (e1 : ∀ j, j < n → R1 r j = R a j) (e2 : ∀ j, j < n → R1 a j = R r j) (e3 : ∀ i j, i < m → i ≠ r → i ≠ a → j < n → R1 i j = R i j) : El p n m R0 c r R1 q := by
 refine (h.swap (R1 := fun i j => if i = r then R a j else if i = a then R r j else R i j) ha ham (fun j => by simp) (fun j => ?_) (fun i j _ h1 h2 => by simp [h1, h2])).congr hc (fun i j hi hj => ?_)
 ·by_cases h1 : a = r
  ·subst h1; simp
  ·simp [h1]
 ·by_cases h1 : i = r
  ·subst h1; simp [e1 j hj]
  ·by_cases h2 : i = a
   ·subst h2; simp [h1, e2 j hj]
   ·simp [h1, h2, e3 i j hi h1 h2 hj]
theorem El.step {p : Int} {n m c r : Nat} {R0 R R' : Nat → Vec} {q q' : Nat → Nat} (h : El p n m R0 c r R q) (hc : c < n) (hrm : r < m) {b : Int} (hb : p ∣ R r c * b - 1)
  (e1 : ∀ j, j < n → p ∣ R' r j - b * R r j) (e2 : ∀ i j, i < m → i ≠ r → j < n → p ∣ R' i j - (R i j - R i c * R' r j)) (hq : ∀ i, i < r → q' i = q i) (hqr : q' r = c)
  (h0 : ∀ i j, i < m → j < n → 0 ≤ R' i j) (h1 : ∀ i j, i < m → j < n → R' i j < p) : El p n m R0 (c + 1) (r + 1) R' q' :=
 ⟨h.g.step hrm hb (fun j hj => e1 j (by omega)) (fun i j hi hne hj => e2 i j hi hne (by omega)) hq hqr, fun v => by rw [← h.sp v]; exact qJj hrm (fun i => R i c) hb e1 e2 v, h0, h1⟩
theorem El.full {p : Int} {n m r : Nat} {R0 R : Nat → Vec} {q : Nat → Nat} : ∀ {c : Nat}, c ≤ n → r = m → El p n m R0 c r R q → El p n m R0 n r R q := by
 intro c hc hr h
 obtain ⟨d, hd⟩ : ∃ d, n = c + d := ⟨n - c, by omega⟩
 have : ∀ e, El p n m R0 (c + e) r R q := fun e => by
  induction e with
  | zero => exact h
  | succ e ih => exact ih.none (fun i h1 h2 => by omega)
 rw [hd] at this ⊢; exact this d
theorem El.same {p : Int} {n m m' r r' : Nat} {R0 R R0' R' : Nat → Vec} {q q' : Nat → Nat} (hp : Pr p) (h : El p n m R0 n r R q) (h' : El p n m' R0' n r' R' q')
  (hs : ∀ v, Span p n (rows R0 m) v ↔ Span p n (rows R0' m') v) : r = r' ∧ ∀ i, i < r → q i = q' i ∧ ∀ j, j < n → R i j = R' i j := by
 have hs2 : ∀ v, Span p n (rows R r) v ↔ Span p n (rows R' r') v := fun v => by rw [← h.g.span v, ← h'.g.span v, h.sp v, h'.sp v, hs v]
 obtain ⟨e1, e2⟩ := h.g.rref.unique hp h'.g.rref hs2
 refine ⟨e1, fun i hi => ⟨(e2 i hi).1, fun j hj => ?_⟩⟩
 have hd := (e2 i hi).2 j hj
 have hr := h.g.rm
 have hr' := h'.g.rm
 have a1 := h.ge i j (by omega) hj
 have a2 := h.lt i j (by omega) hj
 have b1 := h'.ge i j (by omega) hj
 have b2 := h'.lt i j (by omega) hj
 obtain ⟨k, hk⟩ := hd
 have hp0 : 0 < p := by omega
 have : k = 0 := by
  rcases Int.lt_trichotomy k 0 with hl | h0 | hg
  ·have := Int.mul_le_mul_of_nonneg_left (show k ≤ -1 by omega) (Int.le_of_lt hp0); omega
  ·exact h0
  ·have := Int.mul_le_mul_of_nonneg_left (show 1 ≤ k by omega) (Int.le_of_lt hp0); omega
 rw [this] at hk; omega
theorem El.span {p : Int} {n m r : Nat} {R0 R : Nat → Vec} {q : Nat → Nat} (h : El p n m R0 n r R q) (v : Vec) : Span p n (rows R r) v ↔ Span p n (rows R0 m) v := by rw [← h.g.span v, h.sp v]
theorem El.dim {p : Int} {n m r : Nat} {R0 R : Nat → Vec} {q : Nat → Nat} (hp : Pr p) (h : El p n m R0 n r R q) : dim p n (Span p n (rows R0 m)) = r := by
 rw [← h.g.rref.indep hp]; exact qE7 fun v => (h.span v).symm
def vec (l : List Int) : Vec := fun j => l.getD j 0
def rw' (L : List (List Int)) : Nat → Vec := fun i => vec (L.getD i [])
theorem qCw (L : List (List Int)) : rows (rw' L) L.length = L.map vec := by
 unfold rows rw'
 refine List.ext_getElem (by simp) fun i h1 h2 => ?_
 have hi : i < L.length := by simpa using h1
 simp [List.getD_eq_getElem?_getD, List.getElem?_eq_getElem hi]
def Vs (p : Int) (n : Nat) (L : List (List Int)) : Prop := ∀ x, x ∈ L → x.length = n ∧ ∀ y, y ∈ x → 0 ≤ y ∧ y < p
theorem qFn {p : Int} {n : Nat} {L : List (List Int)} (h : Vs p n L) {i j : Nat} (hi : i < L.length) (hj : j < n) : 0 ≤ rw' L i j ∧ rw' L i j < p := by
 have hm : L.getD i [] ∈ L := by rw [List.getD_eq_getElem?_getD, List.getElem?_eq_getElem hi, Option.getD_some]; exact List.getElem_mem hi
 obtain ⟨h1, h2⟩ := h _ hm
 unfold rw' vec
 have hjl : j < (L.getD i []).length := by omega
 rw [List.getD_eq_getElem?_getD (l := L.getD i []), List.getElem?_eq_getElem hjl, Option.getD_some]
 exact h2 _ (List.getElem_mem hjl)
theorem qMg {L M : List (List Int)} {p : Int} {n : Nat} (hL : Vs p n L) (hM : Vs p n M) (hl : L.length = M.length) (h : ∀ i, i < L.length → ∀ j, j < n → rw' L i j = rw' M i j) : L = M := by
 refine List.ext_getElem hl fun i h1 h2 => ?_
 have e1 := (hL _ (List.getElem_mem h1)).1
 have e2 := (hM _ (List.getElem_mem h2)).1
 refine List.ext_getElem (by omega) fun j h3 h4 => ?_
 have := h i h1 j (by omega)
 unfold rw' vec at this
 simpa [List.getD_eq_getElem?_getD, List.getElem?_eq_getElem h1, List.getElem?_eq_getElem h2, List.getElem?_eq_getElem h3, List.getElem?_eq_getElem h4] using this
structure Red (p : Int) (n : Nat) (L B : List (List Int)) (q : List Int) : Prop where
 vs : Vs p n B
 len : q.length = B.length
 rref : Rref p n B.length (rw' B) (fun i => (q.getD i 0).toNat)
 span : ∀ v, Span p n (B.map vec) v ↔ Span p n (L.map vec) v
 pos : ∀ x, x ∈ q → 0 ≤ x
theorem Red.unique {p : Int} {n : Nat} {L L' B B' : List (List Int)} {q q' : List Int} (hp : Pr p) (h : Red p n L B q) (h' : Red p n L' B' q') (hs : ∀ v, Span p n (L.map vec) v ↔ Span p n (L'.map vec) v) : B = B' ∧ q = q' := by
 have hp0 : 0 < p ∨ p ≤ 0 := by omega
 obtain ⟨e1, e2⟩ := h.rref.unique hp h'.rref (fun v => by rw [qCw, qCw, h.span v, h'.span v, hs v])
 have hB : B = B' := qMg h.vs h'.vs e1 fun i hi j hj => by
  have hd := (e2 i hi).2 j hj
  have a := qFn h.vs hi hj
  have b := qFn h'.vs (i := i) (by omega) hj
  obtain ⟨k, hk⟩ := hd
  have hp0 : 0 < p := by omega
  have : k = 0 := by
   rcases Int.lt_trichotomy k 0 with hl | h0 | hg
   ·have := Int.mul_le_mul_of_nonneg_left (show k ≤ -1 by omega) (Int.le_of_lt hp0); omega
   ·exact h0
   ·have := Int.mul_le_mul_of_nonneg_left (show 1 ≤ k by omega) (Int.le_of_lt hp0); omega
  rw [this] at hk; omega
 refine ⟨hB, List.ext_getElem (by rw [h.len, h'.len, e1]) fun i h1 h2 => ?_⟩
 have h3 := (e2 i (by rw [← h.len]; exact h1)).1
 have p1 := h.pos _ (List.getElem_mem h1)
 have p2 := h'.pos _ (List.getElem_mem h2)
 simp only [List.getD_eq_getElem?_getD, List.getElem?_eq_getElem h1, List.getElem?_eq_getElem h2, Option.getD_some] at h3
 omega
theorem Red.of {p : Int} {n : Nat} {L M : List (List Int)} {r : Nat} {q : List Int} (hl : M.length = L.length) (hv : Vs p n M) (hq : q.length = r) (hpos : ∀ x, x ∈ q → 0 ≤ x)
  (h : El p n L.length (rw' L) n r (rw' M) (fun i => (q.getD i 0).toNat)) : Red p n L (M.take r) q := by
 have hr := h.g.rm
 have hlen : (M.take r).length = r := by rw [List.length_take]; omega
 have e : ∀ i, i < r → rw' (M.take r) i = rw' M i := fun i hi => by
  unfold rw'
  rw [List.getD_eq_getElem?_getD, List.getD_eq_getElem?_getD, List.getElem?_take_of_lt hi]
 have hrr := h.g.rref
 refine ⟨fun x hx => hv x (List.mem_of_mem_take hx), by omega, ?_, fun v => ?_, hpos⟩
 ·rw [hlen]
  exact ⟨hrr.lt, hrr.mono, fun i hi => by rw [e i hi]; exact hrr.one i hi, fun i j hi hj hne => by rw [e i hi]; exact hrr.off i j hi hj hne, fun i c hi hc => by rw [e i hi]; exact hrr.pre i c hi hc⟩
 ·rw [← qCw L, ← h.span v, ← qCw, hlen]
  have : rows (rw' (M.take r)) r = rows (rw' M) r := List.map_congr_left fun i hi => e i (List.mem_range.1 hi)
  rw [this]
end Go.Proofs.Ytgdfkcipffjjcaa.B.LinT
set_option linter.unusedVariables false
set_option linter.unusedSimpArgs false
namespace Go.Proofs.Ytgdfkcipffjjcaa.B.LinT
def fl (w : Nat) (X : List Int) : Nat → Vec := fun i j => X.getD (i * w + j) 0
theorem qCc {w i j m : Nat} (hi : i < m) (hj : j < w) : i * w + j < m * w := by
 have := Nat.mul_le_mul_right w (show i + 1 ≤ m by omega)
 rw [Nat.add_mul, Nat.one_mul] at this; omega
theorem qMm {w i j i' j' : Nat} (hj : j < w) (hj' : j' < w) (h : i * w + j = i' * w + j') : i = i' ∧ j = j' := by
 rcases Nat.lt_trichotomy i i' with hl | he | hg
 ·have := qCc hl hj; omega
 ·subst he; omega
 ·have := qCc hg hj'; omega
theorem qLm (X : List Int) (a b : Nat) (x : Int) (ha : a < X.length) : (X.set a x).getD b 0 = if b = a then x else X.getD b 0 := by
 rw [List.getD_eq_getElem?_getD, List.getElem?_set, List.getD_eq_getElem?_getD]
 by_cases h : b = a
 ·subst h; simp [ha]
 ·rw [if_neg (Ne.symm h), if_neg h]
theorem qKg {w : Nat} (X : List Int) {i j i' j' : Nat} (x : Int) (hj : j < w) (hj' : j' < w) (ha : i * w + j < X.length) : fl w (X.set (i * w + j) x) i' j' = if i' = i ∧ j' = j then x else fl w X i' j' := by
 unfold fl
 rw [qLm _ _ _ _ ha]
 by_cases h : i' = i ∧ j' = j
 ·rw [if_pos h, if_pos (by rw [h.1, h.2])]
 ·rw [if_neg h, if_neg (fun he => h (qMm hj' hj he))]
structure Upd (w : Nat) (X : List Int) (i0 : Nat) (g : Nat → Int) (t : Nat) (Y : List Int) : Prop where
 len : Y.length = X.length
 at_ : ∀ i j, j < w → fl w Y i j = if i = i0 ∧ j < t then g j else fl w X i j
theorem Upd.start (w : Nat) (X : List Int) (i0 : Nat) (g : Nat → Int) : Upd w X i0 g 0 X := ⟨rfl, fun i j _ => by rw [if_neg (by omega)]⟩
theorem Upd.next {w : Nat} {X : List Int} {i0 : Nat} {g : Nat → Int} {t : Nat} {Y : List Int} (h : Upd w X i0 g t Y) (ht : t < w) (hi : i0 * w + t < X.length) {x : Int} (hx : x = g t) : Upd w X i0 g (t + 1) (Y.set (i0 * w + t) x) := by
 refine ⟨by rw [List.length_set, h.len], fun i j hj => ?_⟩
 rw [qKg Y x ht hj (by rw [h.len]; exact hi), h.at_ i j hj]
 by_cases h1 : i = i0 ∧ j = t
 ·rw [if_pos h1, if_pos (by omega), hx, h1.2]
 ·rw [if_neg h1]
  by_cases h2 : i = i0 ∧ j < t
  ·rw [if_pos h2, if_pos (by omega)]
  ·rw [if_neg h2, if_neg (by omega)]
structure Swp (w : Nat) (X : List Int) (a b : Nat) (t : Nat) (Y : List Int) : Prop where
 len : Y.length = X.length
 at_ : ∀ i j, j < w → fl w Y i j = if j < t then (if i = a then fl w X b j else if i = b then fl w X a j else fl w X i j) else fl w X i j
theorem Swp.start (w : Nat) (X : List Int) (a b : Nat) : Swp w X a b 0 X := ⟨rfl, fun i j _ => by rw [if_neg (by omega)]⟩
theorem Swp.next {w : Nat} {X : List Int} {a b : Nat} {t : Nat} {Y : List Int} (h : Swp w X a b t Y) (hab : a ≠ b) (ht : t < w) (ha : a * w + t < X.length) (hb : b * w + t < X.length) :
  Swp w X a b (t + 1) ((Y.set (b * w + t) (fl w Y a t)).set (a * w + t) (fl w Y b t)) := by
 refine ⟨by rw [List.length_set, List.length_set, h.len], fun i j hj => ?_⟩
 rw [qKg _ _ ht hj (by rw [List.length_set, h.len]; exact ha), qKg _ _ ht hj (by rw [h.len]; exact hb), h.at_ i j hj, h.at_ a t ht, h.at_ b t ht]
 rw [if_neg (Nat.lt_irrefl t), if_neg (Nat.lt_irrefl t)]
 rcases Nat.lt_trichotomy j t with hl | he | hg
 ·rw [if_neg (fun hh => by omega), if_neg (fun hh => by omega), if_pos hl, if_pos (show j < t + 1 by omega)]
 ·subst he
  rw [if_neg (Nat.lt_irrefl j), if_pos (Nat.lt_succ_self j)]
  by_cases h1 : i = a
  ·rw [if_pos ⟨h1, rfl⟩, if_pos h1]
  ·rw [if_neg (fun hh => h1 hh.1), if_neg h1]
   by_cases h2 : i = b
   ·rw [if_pos ⟨h2, rfl⟩, if_pos h2]
   ·rw [if_neg (fun hh => h2 hh.1), if_neg h2]
 ·rw [if_neg (fun hh => by omega), if_neg (fun hh => by omega), if_neg (show ¬ j < t by omega), if_neg (show ¬ j < t + 1 by omega)]
def unfl (w m : Nat) (X : List Int) : List (List Int) := (List.range m).map fun i => (X.drop (i * w)).take w
theorem qC4 (w m : Nat) (X : List Int) : (unfl w m X).length = m := by simp [unfl]
theorem qId {w m : Nat} (X : List Int) {i j : Nat} (hi : i < m) (hj : j < w) : rw' (unfl w m X) i j = fl w X i j := by
 unfold rw' vec unfl fl
 have h1 : ((List.range m).map fun i => (X.drop (i * w)).take w).getD i [] = (X.drop (i * w)).take w := by
  rw [List.getD_eq_getElem?_getD, List.getElem?_map, List.getElem?_range hi]; rfl
 rw [h1, List.getD_eq_getElem?_getD, List.getElem?_take_of_lt hj, List.getElem?_drop, ← List.getD_eq_getElem?_getD]
theorem qL7 {p : Int} {w m : Nat} {X : List Int} (hl : X.length = m * w) (h : ∀ i j, i < m → j < w → 0 ≤ fl w X i j ∧ fl w X i j < p) : Vs p w (unfl w m X) := by
 intro x hx
 obtain ⟨i, hi, rfl⟩ := List.mem_map.1 hx
 have him := List.mem_range.1 hi
 have h2 := Nat.mul_le_mul_right w (show i + 1 ≤ m by omega)
 rw [Nat.add_mul, Nat.one_mul] at h2
 refine ⟨by rw [List.length_take, List.length_drop]; omega, fun y hy => ?_⟩
 obtain ⟨j, hj, rfl⟩ := List.getElem_of_mem hy
 have hjw : j < w := by rw [List.length_take] at hj; omega
 have h3 := h i j him hjw
 unfold fl at h3
 rw [List.getElem_take, List.getElem_drop]
 rwa [List.getD_eq_getElem?_getD, List.getElem?_eq_getElem (by omega), Option.getD_some] at h3
theorem qJg {w m r : Nat} (X : List Int) (h : r ≤ m) : (unfl w m X).take r = unfl w r X := by
 unfold unfl
 rw [← List.map_take, List.take_range, Nat.min_eq_left h]
theorem qF3 {w : Nat} : ∀ (L : List (List Int)), (∀ x, x ∈ L → x.length = w) → ∀ i j, i < L.length → j < w → fl w L.flatten i j = rw' L i j
 | [], _, i, j, hi, _ => by simp at hi
 | a :: L, h, i, j, hi, hj => by
  have ha := h a (by simp)
  unfold fl rw' vec
  rw [List.flatten_cons]
  cases i with
  | zero =>
   rw [List.getD_eq_getElem?_getD, Nat.zero_mul, Nat.zero_add, List.getElem?_append_left (by omega)]
   simp [List.getD_eq_getElem?_getD]
  | succ i =>
   have ih := qF3 L (fun x hx => h x (by simp [hx])) i j (by simpa using hi) hj
   unfold fl rw' vec at ih
   rw [List.getD_eq_getElem?_getD, List.getElem?_append_right (by rw [Nat.add_mul]; omega), ← List.getD_eq_getElem?_getD]
   have : (i + 1) * w + j - a.length = i * w + j := by rw [Nat.add_mul]; omega
   rw [this, ih]
   simp [List.getD_eq_getElem?_getD]
theorem qDf {w : Nat} : ∀ (L : List (List Int)), (∀ x, x ∈ L → x.length = w) → L.flatten.length = L.length * w
 | [], _ => by simp
 | a :: L, h => by
  rw [List.flatten_cons, List.length_append, qDf L (fun x hx => h x (by simp [hx])), h a (by simp), List.length_cons, Nat.add_mul]; omega
structure FlInv (p : Int) (w m : Nat) (L : List (List Int)) (c : Nat) (X : List Int) (q : List Int) : Prop where
 len : X.length = m * w
 pos : ∀ x, x ∈ q → 0 ≤ x
 el : El p w m (rw' L) c q.length (fl w X) (fun i => (q.getD i 0).toNat)
theorem FlInv.red {p : Int} {w : Nat} {L : List (List Int)} {X : List Int} {q : List Int} (h : FlInv p w L.length L w X q) : Red p w L (unfl w q.length X) q := by
 have hr := h.el.g.rm
 rw [← qJg X hr]
 refine Red.of (qC4 _ _ _) (qL7 h.len fun i j hi hj => ⟨h.el.ge i j hi hj, h.el.lt i j hi hj⟩) rfl h.pos (h.el.congr (Nat.le_refl _) fun i j hi hj => qId X hi hj)
end Go.Proofs.Ytgdfkcipffjjcaa.B.LinT
set_option linter.unusedVariables false
set_option linter.unusedSimpArgs false
namespace Go.Proofs.Ytgdfkcipffjjcaa.B.LinT
theorem Red.dim {p : Int} {n : Nat} {L B : List (List Int)} {q : List Int} (hp : Pr p) (h : Red p n L B q) : LinT.dim p n (Span p n (L.map vec)) = B.length := by
 rw [← h.rref.indep hp, qCw]
 exact qE7 fun v => (h.span v).symm
end Go.Proofs.Ytgdfkcipffjjcaa.B.LinT
set_option linter.unusedVariables false
set_option linter.unusedSimpArgs false
namespace Go.Proofs.Ytgdfkcipffjjcaa.B
open Go.RowKit Go.Proofs.YtgdfkcipffjjcaaW.PrintWords
open LinT
theorem qB4 {a : Int} {p : Nat} (h : 0 ≤ a) : Int.tmod a (p : Int) = a % (p : Int) := Int.tmod_eq_emod_of_nonneg h
theorem qI5 (p : Nat) (hp : 2 ≤ p) (hp2 : p ≤ 251) : ∀ (e x0 x7 : Nat), e ≤ 1000 → x0 < p → x7 < p → Ev (fun k => z97.l0 k (x0 : Int) (e : Int) (p : Int) (x7 : Int)) ((x7 * x0 ^ e % p : Nat) : Int) := by
 intro e
 induction e using Nat.strongRecOn with
 | _ e ih =>
  intro x0 x7 he h0 h7
  refine Ev.step (fun k => z97.l0.eq_2 ..) ?_
  rcases Nat.eq_zero_or_pos e with h | h
  ·subst h
   refine qAd (by omega) (qBi (Ev.now _) ?_)
   rw [Nat.pow_zero, Nat.mul_one, Nat.mod_eq_of_lt h7]
  ·have hb : x0 * x0 ≤ 250 * 250 := Nat.mul_le_mul (by omega) (by omega)
   have hb2 : x7 * x0 ≤ 250 * 250 := Nat.mul_le_mul (by omega) (by omega)
   have e1 : Int.tmod (wrap64 ((x0 : Int) * (x0 : Int))) (p : Int) = ((x0 * x0 % p : Nat) : Int) := by
    rw [← Int.natCast_mul, qAi (by omega) (by omega), qB4 (by omega)]; simp
   have e2 : wrap64 (Int.tdiv (e : Int) 2) = ((e / 2 : Nat) : Int) := by
    have : Int.tdiv (e : Int) 2 = ((e / 2 : Nat) : Int) := by rw [Int.tdiv_eq_ediv_of_nonneg (by omega)]; simp
    rw [this, qAi (by omega) (by omega)]
   have e3 : Int.tmod (e : Int) 2 = ((e % 2 : Nat) : Int) := by rw [Int.tmod_eq_emod_of_nonneg (by omega)]; simp
   have e4 : Int.tmod (wrap64 ((x7 : Int) * (x0 : Int))) (p : Int) = ((x7 * x0 % p : Nat) : Int) := by
    rw [← Int.natCast_mul, qAi (by omega) (by omega), qB4 (by omega)]; simp
   have hpow : x0 ^ e = (x0 * x0) ^ (e / 2) * x0 ^ (e % 2) := by
    rw [← Nat.pow_two, ← Nat.pow_mul, ← Nat.pow_add, Nat.div_add_mod]
   have hm : ∀ y, y % p * (x0 * x0 % p) ^ (e / 2) % p = y * (x0 * x0) ^ (e / 2) % p := fun y => by
    rw [Nat.mul_mod, Nat.pow_mod, Nat.mod_mod, Nat.mod_mod, ← Nat.pow_mod, ← Nat.mul_mod]
   refine qAa (by omega) ?_
   rw [e1, e2, e3, e4]
   have hp0 : 0 < p := by omega
   rcases Nat.mod_two_eq_zero_or_one e with h2 | h2
   ·refine qAd (by rw [h2]; decide) (qAd (by omega) ?_)
    refine qBi (ih (e / 2) (by omega) (x0 * x0 % p) x7 (by omega) (Nat.mod_lt _ hp0) h7) ?_
    have := hm x7
    rw [Nat.mod_eq_of_lt h7] at this
    rw [this, hpow, h2, Nat.pow_zero, Nat.mul_one]
   ·refine qAa (by rw [h2]; decide) (qAd (by omega) ?_)
    refine qBi (ih (e / 2) (by omega) (x0 * x0 % p) (x7 * x0 % p) (by omega) (Nat.mod_lt _ hp0) (Nat.mod_lt _ hp0)) ?_
    rw [hm, hpow, h2, Nat.pow_one, Nat.mul_assoc, Nat.mul_comm x0]
theorem qI7 {p a : Nat} (hp : isP p = true) (ha : a < p) : Ev (fun k => z84.f k (a : Int) (p : Int)) ((a ^ (p - 2) % p : Nat) : Int) := by
 have h2 := qBd hp
 unfold z84.f z97.f
 have e : wrap64 ((p : Int) - 2) = ((p - 2 : Nat) : Int) := by rw [qAi (by omega) (by omega)]; omega
 rw [e]
 have h := qI5 p h2.1 h2.2 (p - 2) a 1 (by omega) ha (by omega)
 rw [Nat.one_mul] at h
 exact Ev.bind h (Ev.now _)
def addT (p : Nat) (x y : List Int) (c : Int) : List Int := (List.range x.length).map fun j => (x.getD j 0 + c * y.getD j 0) % (p : Int)
def Rng (p : Nat) (x : List Int) : Prop := ∀ y, y ∈ x → 0 ≤ y ∧ y < (p : Int)
theorem qB9 {p : Nat} {x : List Int} (h : Rng p x) {j : Nat} (hj : j < x.length) : 0 ≤ x.getD j 0 ∧ x.getD j 0 < (p : Int) := h _ (qA1 0 hj)
theorem qIv (p : Nat) (x y : List Int) (c : Int) : (addT p x y c).length = x.length := by simp [addT]
theorem qIw {p : Nat} {x y : List Int} {c : Int} {j : Nat} (hj : j < x.length) : (addT p x y c).getD j 0 = (x.getD j 0 + c * y.getD j 0) % (p : Int) := by
 unfold addT
 rw [List.getD_eq_getElem?_getD, List.getElem?_map, List.getElem?_range hj]; rfl
theorem qIu {p : Nat} (hp : 0 < p) (x y : List Int) (c : Int) : Rng p (addT p x y c) := by
 intro z hz
 obtain ⟨j, _, rfl⟩ := List.mem_map.1 hz
 exact ⟨Int.emod_nonneg _ (by omega), Int.emod_lt_of_pos _ (by omega)⟩
theorem qDi {p : Nat} (hp0 : 0 < p) (hp : p ≤ 251) (x y : List Int) (c : Int) (hx : Rng p x) (hy : Rng p y) (hl : x.length ≤ y.length) (hm : x.length ≤ 1048576) (hc0 : 0 ≤ c) (hc : c ≤ 251) :
  Ev (fun k => z20.f k x y c (p : Int)) (addT p x y c) := by
 unfold z20.f
 refine qEd (fun s i k => z20.l0 k x y c (p : Int) s (x.length : Int) (i : Int)) (fun j => (x.getD j 0 + c * y.getD j 0) % (p : Int)) x.length (fun j s hj hs r hr => ?_) _ ?_
 ·have hsl : s.length = j := by rw [hs]; simp
  have a := qB9 hx hj
  have b := qB9 hy (j := j) (by omega)
  have hcb : 0 ≤ c * y.getD j 0 := Int.mul_nonneg hc0 b.1
  have hcb2 : c * y.getD j 0 ≤ 251 * 251 := Int.mul_le_mul hc (by omega) b.1 (by decide)
  refine Ev.step (fun k => z20.l0.eq_2 ..) ?_
  (repeat (first | refine qAa (by omega) ?_ | refine qAd (by omega) ?_))
  rw [qAj (by omega), qAx, qAx, qAi (x := c * y.getD j 0) (by omega) (by omega), qAi (by omega) (by omega), qB4 (by omega)]
  exact hr
 ·refine Ev.step (fun k => z20.l0.eq_2 ..) ?_
  exact qAd (by omega) (Ev.now _)
theorem qI3 {p : Nat} (hp : 2 ≤ p) (hp2 : p ≤ 251) {a : Int} (h0 : -1000000000 ≤ a) (h1 : a ≤ 1000000000) : z83.f a (p : Int) = some (a % (p : Int)) := by
 unfold z83.f
 rw [if_neg (by omega)]
 have h2 : Int.tmod a (p : Int) = a % (p : Int) ∨ Int.tmod a (p : Int) = a % (p : Int) - (p : Int) := by
  rw [Int.tmod_eq_emod]
  split
  ·left; omega
  ·right; simp
 have h3 := Int.emod_nonneg a (b := (p : Int)) (by omega)
 have h4 := Int.emod_lt_of_pos a (b := (p : Int)) (by omega)
 congr 1
 rcases h2 with h | h
 ·rw [h, qAi (by omega) (by omega), qB4 (by omega)]; simp
 ·rw [h, qAi (by omega) (by omega), qB4 (by omega)]; simp
end Go.Proofs.Ytgdfkcipffjjcaa.B
set_option linter.unusedVariables false
set_option linter.unusedSimpArgs false
namespace Go.Proofs.Ytgdfkcipffjjcaa.B
open Go.RowKit Go.Proofs.YtgdfkcipffjjcaaW.PrintWords
open LinT
def okP (p : Int) : Bool := (decide (2 ≤ p) && decide (p ≤ 251)) && isP p.toNat
theorem qKa {n : Nat} (h0 : 2 ≤ n) (h1 : n ≤ 251) : isP n = true ↔ ∀ d, 2 ≤ d → d < 16 → n < d * d ∨ n % d ≠ 0 := by
 unfold isP
 rw [Bool.and_eq_true, Bool.and_eq_true, decide_eq_true_iff, decide_eq_true_iff, List.all_eq_true]
 constructor
 ·rintro ⟨_, h⟩ d hd hd2
  have := h d (List.mem_range.2 hd2)
  rw [Bool.or_eq_true, Bool.or_eq_true, decide_eq_true_iff, decide_eq_true_iff, decide_eq_true_iff] at this
  rcases this with (h3 | h3) | h3
  ·omega
  ·exact .inl h3
  ·exact .inr h3
 ·intro h
  refine ⟨⟨h0, h1⟩, fun d hd => ?_⟩
  rw [Bool.or_eq_true, Bool.or_eq_true, decide_eq_true_iff, decide_eq_true_iff, decide_eq_true_iff]
  by_cases h2 : d < 2
  ·exact .inl (.inl h2)
  ·rcases h d (by omega) (List.mem_range.1 hd) with h3 | h3
   ·exact .inl (.inr h3)
   ·exact .inr h3
theorem qC7 {n : Nat} (h0 : 2 ≤ n) (h1 : n ≤ 251) : ∀ (e d : Nat), d + e = 16 → 2 ≤ d → ∃ b, Ev (fun k => z47.l0 k (n : Int) (d : Int)) b ∧ (b = true ↔ ∀ d', d ≤ d' → d' < 16 → n < d' * d' ∨ n % d' ≠ 0) := by
 intro e
 induction e with
 | zero =>
  intro d hd h2
  have : d = 16 := by omega
  subst this
  refine ⟨true, ?_, by simp; omega⟩
  refine Ev.step (fun k => z47.l0.eq_2 ..) ?_
  rw [← Int.natCast_mul, qAi (by omega) (by omega)]
  exact qAd (by omega) (Ev.now _)
 | succ e ih =>
  intro d hd h2
  have hdd : d * d ≤ 16 * 16 := Nat.mul_le_mul (by omega) (by omega)
  have hw : wrap64 ((d : Int) * (d : Int)) = ((d * d : Nat) : Int) := by rw [← Int.natCast_mul, qAi (by omega) (by omega)]
  have hm : Int.tmod (n : Int) (d : Int) = ((n % d : Nat) : Int) := by rw [Int.tmod_eq_emod_of_nonneg (by omega)]; simp
  by_cases hl : n < d * d
  ·refine ⟨true, ?_, ?_⟩
   ·refine Ev.step (fun k => z47.l0.eq_2 ..) ?_
    rw [hw]
    exact qAd (by omega) (Ev.now _)
   ·simp only [true_iff]
    intro d' h3 _
    have := Nat.mul_le_mul h3 h3
    left; omega
  ·by_cases hz : n % d = 0
   ·refine ⟨false, ?_, ?_⟩
    ·refine Ev.step (fun k => z47.l0.eq_2 ..) ?_
     rw [hw, hm]
     exact qAa (by omega) (qAd (by omega) (qAa (by omega) (Ev.now _)))
    ·simp only [Bool.false_eq_true, false_iff]
     intro h
     rcases h d (Nat.le_refl _) (by omega) with h3 | h3
     ·exact hl h3
     ·exact h3 hz
   ·obtain ⟨b, hb, hi⟩ := ih (d + 1) (by omega) (by omega)
    refine ⟨b, ?_, hi.trans ⟨fun h d' h3 h4 => ?_, fun h d' h3 h4 => h d' (by omega) h4⟩⟩
    ·refine Ev.step (fun k => z47.l0.eq_2 ..) ?_
     rw [hw, hm]
     refine qAa (by omega) (qAd (by omega) (qAd (by omega) ?_))
     rw [qAj (by omega)]; exact hb
    ·rcases Nat.lt_or_ge d d' with h5 | h5
     ·exact h d' (by omega) h4
     ·have : d' = d := by omega
      subst this; exact .inr hz
theorem qDm {n : Nat} (h0 : 2 ≤ n) (h1 : n ≤ 251) : ∀ (e d : Nat), d + e = 16 → 2 ≤ d → ∃ b, Ev (fun k => z66.l0 k (n : Int) (d : Int)) b ∧ (b = true ↔ ∀ d', d ≤ d' → d' < 16 → n < d' * d' ∨ n % d' ≠ 0) := by
 intro e
 induction e with
 | zero =>
  intro d hd h2
  have : d = 16 := by omega
  subst this
  refine ⟨true, ?_, by simp; omega⟩
  refine Ev.step (fun k => z66.l0.eq_2 ..) ?_
  rw [← Int.natCast_mul, qAi (by omega) (by omega)]
  exact qAd (by omega) (Ev.now _)
 | succ e ih =>
  intro d hd h2
  have hdd : d * d ≤ 16 * 16 := Nat.mul_le_mul (by omega) (by omega)
  have hw : wrap64 ((d : Int) * (d : Int)) = ((d * d : Nat) : Int) := by rw [← Int.natCast_mul, qAi (by omega) (by omega)]
  have hm : Int.tmod (n : Int) (d : Int) = ((n % d : Nat) : Int) := by rw [Int.tmod_eq_emod_of_nonneg (by omega)]; simp
  by_cases hl : n < d * d
  ·refine ⟨true, ?_, ?_⟩
   ·refine Ev.step (fun k => z66.l0.eq_2 ..) ?_
    rw [hw]
    exact qAd (by omega) (Ev.now _)
   ·simp only [true_iff]
    intro d' h3 _
    have := Nat.mul_le_mul h3 h3
    left; omega
  ·by_cases hz : n % d = 0
   ·refine ⟨false, ?_, ?_⟩
    ·refine Ev.step (fun k => z66.l0.eq_2 ..) ?_
     rw [hw, hm]
     exact qAa (by omega) (qAd (by omega) (qAa (by omega) (Ev.now _)))
    ·simp only [Bool.false_eq_true, false_iff]
     intro h
     rcases h d (Nat.le_refl _) (by omega) with h3 | h3
     ·exact hl h3
     ·exact h3 hz
   ·obtain ⟨b, hb, hi⟩ := ih (d + 1) (by omega) (by omega)
    refine ⟨b, ?_, hi.trans ⟨fun h d' h3 h4 => ?_, fun h d' h3 h4 => h d' (by omega) h4⟩⟩
    ·refine Ev.step (fun k => z66.l0.eq_2 ..) ?_
     rw [hw, hm]
     refine qAa (by omega) (qAd (by omega) (qAd (by omega) ?_))
     rw [qAj (by omega)]; exact hb
    ·rcases Nat.lt_or_ge d d' with h5 | h5
     ·exact h d' (by omega) h4
     ·have : d' = d := by omega
      subst this; exact .inr hz
theorem qHf (p : Int) : Ev (fun k => z47.f k p) (okP p) := by
 unfold z47.f okP
 refine Ev.bind (qAt (qC3 _ _ _)) ?_
 cases h : decide (2 ≤ p) && decide (p ≤ 251) with
 | false => exact qAd (by decide) (Ev.now _)
 | true =>
  rw [Bool.and_eq_true, decide_eq_true_iff, decide_eq_true_iff] at h
  obtain ⟨n, rfl⟩ := Int.eq_ofNat_of_zero_le (show 0 ≤ p by omega)
  obtain ⟨b, hb, hi⟩ := qC7 (n := n) (by omega) (by omega) 14 2 (by omega) (by omega)
  refine qAa rfl (qBi hb ?_)
  rw [Bool.true_and, Int.toNat_natCast, Bool.eq_iff_iff, qKa (by omega) (by omega), hi]
theorem qGg (p : Int) : Ev (fun k => z66.f k p) (okP p) := by
 unfold z66.f okP
 refine Ev.bind (qAt (qE2 _ _ _)) ?_
 cases h : decide (2 ≤ p) && decide (p ≤ 251) with
 | false => exact qAd (by decide) (Ev.now _)
 | true =>
  rw [Bool.and_eq_true, decide_eq_true_iff, decide_eq_true_iff] at h
  obtain ⟨n, rfl⟩ := Int.eq_ofNat_of_zero_le (show 0 ≤ p by omega)
  obtain ⟨b, hb, hi⟩ := qDm (n := n) (by omega) (by omega) 14 2 (by omega) (by omega)
  refine qAa rfl (qBi hb ?_)
  rw [Bool.true_and, Int.toNat_natCast, Bool.eq_iff_iff, qKa (by omega) (by omega), hi]
theorem qHw {p : Int} : okP p = true ↔ ∃ n : Nat, p = (n : Int) ∧ isP n = true := by
 unfold okP
 rw [Bool.and_eq_true, Bool.and_eq_true, decide_eq_true_iff, decide_eq_true_iff]
 constructor
 ·rintro ⟨⟨h0, h1⟩, h⟩
  exact ⟨p.toNat, by omega, h⟩
 ·rintro ⟨n, rfl, h⟩
  have := qBd h
  exact ⟨⟨by omega, by omega⟩, by rw [Int.toNat_natCast]; exact h⟩
end Go.Proofs.Ytgdfkcipffjjcaa.B
set_option linter.unusedVariables false
set_option linter.unusedSimpArgs false
namespace Go.Proofs.Ytgdfkcipffjjcaa.B
open Go.RowKit Go.Proofs.YtgdfkcipffjjcaaW.PrintWords
open LinT
theorem qG3 (p : Int) : Ev (fun k => z38.f k p) (okP p) := by
 unfold z38.f
 exact Ev.bind (qGg p) (Ev.now _)
end Go.Proofs.Ytgdfkcipffjjcaa.B
set_option linter.unusedVariables false
set_option linter.unusedSimpArgs false
namespace Go.Proofs.Ytgdfkcipffjjcaa.B
open Go.RowKit Go.Proofs.YtgdfkcipffjjcaaW.PrintWords
open SimT LinT
def run (a m : Nat) : List Int := (List.range m).map fun j => ((a + j : Nat) : Int)
theorem qD2 (a m : Nat) : (run a m).length = m := by simp [run]
theorem qCd {a m j : Nat} (h : j < m) : (run a m).getD j 0 = ((a + j : Nat) : Int) := by
 unfold run
 rw [List.getD_eq_getElem?_getD, List.getElem?_map, List.getElem?_range h]; rfl
theorem qLc (a m : Nat) : run a (m + 1) = run a m ++ [((a + m : Nat) : Int)] := by
 unfold run
 rw [List.range_succ, List.map_append]; rfl
theorem qIm {p : Nat → Bool} (h : ∀ i j k, i ≤ j → j ≤ k → p i = true → p k = true → p j = true) : ∀ n, ∃ a m, filt p n = run a m ∧ (m = 0 ∨ a + m ≤ n) ∧ ∀ j, j < m → p (a + j) = true
 | 0 => ⟨0, 0, rfl, .inl rfl, fun j hj => by omega⟩
 | n + 1 => by
  obtain ⟨a, m, h1, h2, h3⟩ := qIm h n
  rw [qC1]
  cases hp : p n with
  | false => exact ⟨a, m, by simpa using h1, by omega, h3⟩
  | true =>
   rcases Nat.eq_zero_or_pos m with h0 | h0
   ·refine ⟨n, 1, ?_, by omega, fun j hj => by rw [show n + j = n by omega]; exact hp⟩
    rw [h1, h0]; rfl
   ·have hlt : a + m = n := by
     rcases Nat.lt_or_ge (a + m) n with hl | hg
     ·have hpm : p (a + m) = true := h a (a + m) n (by omega) (by omega) (by have := h3 0 h0; simpa using this) hp
      have hmem : ((a + m : Nat) : Int) ∈ filt p n := qGm.2 ⟨a + m, hl, hpm, rfl⟩
      rw [h1] at hmem
      unfold run at hmem
      obtain ⟨j, hj, he⟩ := List.mem_map.1 hmem
      have := List.mem_range.1 hj
      omega
     ·omega
    refine ⟨a, m + 1, ?_, by omega, fun j hj => ?_⟩
    ·rw [h1, qLc, hlt]; rfl
    ·rcases Nat.lt_or_ge j m with hl | hg
     ·exact h3 j hl
     ·rw [show a + j = n by omega]; exact hp
theorem qJk {C : List (List Int)} (hs : Srt C) {i j : Nat} (hij : i ≤ j) (hj : j < C.length) : (C.getD i []).length ≤ (C.getD j []).length := by
 rcases Nat.lt_or_ge i j with hl | hg
 ·have := (qEs _ _).1 (qEo hs hl hj); omega
 ·have : i = j := by omega
  rw [this]; exact Nat.le_refl _
theorem qDs {C : List (List Int)} (hs : Srt C) (d : Int) : ∃ a m, qAr C d = run a m ∧ (m = 0 ∨ a + m ≤ C.length) ∧ ∀ j, j < m → ((C.getD (a + j) []).length : Int) = d + 1 := by
 have e : qAr C d = filt (fun i => decide (i < C.length) && decide (((C.getD i []).length : Int) = d + 1)) C.length := qF4 _ fun i hi => by simp [hi]
 obtain ⟨a, m, h1, h2, h3⟩ := qIm (p := fun i => decide (i < C.length) && decide (((C.getD i []).length : Int) = d + 1)) (fun i j k hij hjk hi hk => by
  rw [Bool.and_eq_true, decide_eq_true_iff, decide_eq_true_iff] at hi hk ⊢
  have a1 := qJk hs hij (by omega)
  have a2 := qJk hs hjk hk.1
  exact ⟨by omega, by omega⟩) C.length
 refine ⟨a, m, e.trans h1, h2, fun j hj => ?_⟩
 have := h3 j hj
 rw [Bool.and_eq_true, decide_eq_true_iff, decide_eq_true_iff] at this
 exact this.2
theorem qLl (l : List Int) (x : Int) (hl : l.length < 9223372036854775807) : (x ∉ l → Ev (fun k => z58.f k l x) (-1)) ∧ ∀ i, i < l.length → l.getD i 0 = x → (∀ j, j < i → l.getD j 0 ≠ x) → Ev (fun k => z58.f k l x) (i : Int) := by
 unfold z58.f
 have skip : ∀ j, j < l.length → l.getD j 0 ≠ x → Le (fun k => z58.l0 k l x (l.length : Int) ((j + 1 : Nat) : Int)) (fun k => z58.l0 k l x (l.length : Int) (j : Int)) := fun j hj hne r hr => by
  refine Ev.step (fun k => z58.l0.eq_2 ..) ?_
  refine qAa (by omega) (qAa (by omega) (qAa (by omega) (qAd (by rw [qAx]; exact fun e => hne e.symm) ?_)))
  rw [qAj (by omega)]; exact hr
 constructor
 ·intro hx
  have main : ∀ (d i : Nat), i + d = l.length → Ev (fun k => z58.l0 k l x (l.length : Int) (i : Int)) (-1) := by
   intro d
   induction d with
   | zero =>
    intro i hi
    refine Ev.step (fun k => z58.l0.eq_2 ..) ?_
    exact qAd (by omega) (Ev.now _)
   | succ d ih => exact fun i hi => skip i (by omega) (fun e => hx (e ▸ qA1 0 (by omega))) _ (ih (i + 1) (by omega))
  exact main l.length 0 (by omega)
 ·intro i hi he hb
  have main : ∀ (d j : Nat), j + d = i → Ev (fun k => z58.l0 k l x (l.length : Int) (j : Int)) (i : Int) := by
   intro d
   induction d with
   | zero =>
    intro j hj
    have : j = i := by omega
    subst this
    refine Ev.step (fun k => z58.l0.eq_2 ..) ?_
    exact qAa (by omega) (qAa (by omega) (qAa (by omega) (qAa (by rw [qAx]; exact he.symm) (Ev.now _))))
   | succ d ih => exact fun j hj => skip j (by omega) (hb j (by omega)) _ (ih (j + 1) (by omega))
  exact main i 0 (by omega)
theorem qKb {a m : Nat} (hm : m < 9223372036854775807) {j : Nat} (hj : j < m) : Ev (fun k => z58.f k (run a m) ((a + j : Nat) : Int)) (j : Int) := by
 refine (qLl (run a m) _ (by rw [qD2]; exact hm)).2 j (by rw [qD2]; exact hj) (qCd hj) (fun i hi => ?_)
 rw [qCd (by omega)]; omega
def askD (C : List (List Int)) (d p : Int) : Int :=
 if (okC C && okP p) = true then (if (decide (0 ≤ d) && decide (d ≤ 3)) = true then (if (qAr C (d - 1)).length ≤ 32 ∧ (qAr C d).length ≤ 32 ∧ (qAr C (d + 1)).length ≤ 32 then 0 else 5) else 2) else 1
section
variable {C : List (List Int)} (hl : C.length ≤ 1048576) (hr : ∀ x ∈ C, x.length ≤ 1048576)
include hl hr
theorem qJa (d p : Int) : Ev (fun k => z31.f k C d p) (askD C d p) := by
 unfold z31.f askD
 have hj : ∀ b, Ev (fun k => z31.j0 k d (!b) C) (if b = true then (if (decide (0 ≤ d) && decide (d ≤ 3)) = true then (if (qAr C (d - 1)).length ≤ 32 ∧ (qAr C d).length ≤ 32 ∧ (qAr C (d + 1)).length ≤ 32 then 0 else 5) else 2) else 1) := fun b => by
  refine Ev.step (fun k => z31.j0.eq_2 ..) ?_
  cases b with
  | false => exact qAa rfl (Ev.now _)
  | true =>
   refine qAd (by decide) ?_
   unfold z48.f
   refine Ev.bind (a := decide (0 ≤ d) && decide (d ≤ 3)) (Ev.bind (qAt (qC3 _ _ _)) (Ev.now _)) ?_
   cases hd : decide (0 ≤ d) && decide (d ≤ 3) with
   | false => exact qAd (by decide) (Ev.now _)
   | true =>
    rw [Bool.and_eq_true, decide_eq_true_iff, decide_eq_true_iff] at hd
    refine qAa rfl ?_
    have w0 : wrap64 (d - 1) = d - 1 := qAi (by omega) (by omega)
    have w1 : wrap64 (d + 1) = d + 1 := qAi (by omega) (by omega)
    rw [w0, if_pos rfl, if_pos rfl]
    refine Ev.step (fun k => z31.l0.eq_2 ..) ?_
    rw [w1, show wrap64 (d - 1 + 1) = d by rw [qAi (by omega) (by omega)]; omega]
    refine qAa (by omega) (Ev.bind (qBl hl (by omega) (by omega)) ?_)
    by_cases h0 : (qAr C (d - 1)).length ≤ 32
    ·refine qAd (by omega) ?_
     refine Ev.step (fun k => z31.l0.eq_2 ..) ?_
     rw [w1]
     refine qAa (by omega) (Ev.bind (qBl hl (by omega) (by omega)) ?_)
     by_cases h1 : (qAr C d).length ≤ 32
     ·refine qAd (by omega) ?_
      refine Ev.step (fun k => z31.l0.eq_2 ..) ?_
      rw [w1]
      refine qAa (by omega) (Ev.bind (qBl hl (by omega) (by omega)) ?_)
      by_cases h2 : (qAr C (d + 1)).length ≤ 32
      ·refine qAd (by omega) ?_
       refine Ev.step (fun k => z31.l0.eq_2 ..) ?_
       rw [w1, if_pos ⟨h0, h1, h2⟩, show wrap64 (d + 1 + 1) = d + 1 + 1 from qAi (by omega) (by omega)]
       exact qAd (by omega) (Ev.now _)
      ·rw [if_neg (fun h => h2 h.2.2)]
       exact qAa (by omega) (Ev.now _)
     ·rw [if_neg (fun h => h1 h.2.1)]
      exact qAa (by omega) (Ev.now _)
    ·rw [if_neg (fun h => h0 h.1)]
     exact qAa (by omega) (Ev.now _)
 refine Ev.bind (qHe C hl hr) ?_
 cases ho : okC C with
 | false => exact qAd (by decide) (by simpa using hj false)
 | true => exact qAa rfl (Ev.bind (qHf p) (by simpa using hj (okP p)))
theorem qHq (d p : Int) : Ev (fun k => z23.f k C d p) (askD C d p) := by
 unfold z23.f askD
 have hj : ∀ b, Ev (fun k => z23.j0 k d (!b) C) (if b = true then (if (decide (0 ≤ d) && decide (d ≤ 3)) = true then (if (qAr C (d - 1)).length ≤ 32 ∧ (qAr C d).length ≤ 32 ∧ (qAr C (d + 1)).length ≤ 32 then 0 else 5) else 2) else 1) := fun b => by
  refine Ev.step (fun k => z23.j0.eq_2 ..) ?_
  cases b with
  | false => exact qAa rfl (Ev.now _)
  | true =>
   refine qAd (by decide) ?_
   unfold z39.f
   refine Ev.bind (a := decide (0 ≤ d) && decide (d ≤ 3)) (Ev.bind (qAt (qE2 _ _ _)) (Ev.now _)) ?_
   cases hd : decide (0 ≤ d) && decide (d ≤ 3) with
   | false => exact qAd (by decide) (Ev.now _)
   | true =>
    rw [Bool.and_eq_true, decide_eq_true_iff, decide_eq_true_iff] at hd
    refine qAa rfl ?_
    have w0 : wrap64 (d - 1) = d - 1 := qAi (by omega) (by omega)
    have w1 : wrap64 (d + 1) = d + 1 := qAi (by omega) (by omega)
    rw [w0, w1, if_pos rfl, if_pos rfl]
    refine Ev.bind (qCe hl (by omega) (by omega)) ?_
    by_cases h1 : (qAr C d).length ≤ 32
    ·refine qAd (by omega) (Ev.bind (qCe hl (by omega) (by omega)) ?_)
     by_cases h0 : (qAr C (d - 1)).length ≤ 32
     ·refine qAd (by omega) (Ev.bind (qCe hl (by omega) (by omega)) ?_)
      by_cases h2 : (qAr C (d + 1)).length ≤ 32
      ·exact qBi (qAd (by omega) (Ev.now _)) (if_pos ⟨h0, h1, h2⟩).symm
      ·exact qBi (qAa (by omega) (Ev.now _)) (if_neg (fun h => h2 h.2.2)).symm
     ·exact qBi (qAa (by omega) (Ev.now _)) (if_neg (fun h => h0 h.1)).symm
    ·exact qBi (qAa (by omega) (Ev.now _)) (if_neg (fun h => h1 h.2.1)).symm
 refine Ev.bind (qJl C hl hr) ?_
 cases ho : okC C with
 | false => exact qAd (by decide) (by simpa using hj false)
 | true => exact qAa rfl (Ev.bind (qG3 p) (by simpa using hj (okP p)))
end
theorem qE9 {C : List (List Int)} {d p : Int} (h : askD C d p = 0) : okC C = true ∧ okP p = true ∧ 0 ≤ d ∧ d ≤ 3 ∧ (qAr C (d - 1)).length ≤ 32 ∧ (qAr C d).length ≤ 32 ∧ (qAr C (d + 1)).length ≤ 32 := by
 unfold askD at h
 split at h
 ·rename_i h1
  rw [Bool.and_eq_true] at h1
  split at h
  ·rename_i h2
   rw [Bool.and_eq_true, decide_eq_true_iff, decide_eq_true_iff] at h2
   split at h
   ·rename_i h3
    exact ⟨h1.1, h1.2, h2.1, h2.2, h3⟩
   ·omega
  ·omega
 ·omega
end Go.Proofs.Ytgdfkcipffjjcaa.B
set_option linter.unusedVariables false
set_option linter.unusedSimpArgs false
namespace Go.Proofs.Ytgdfkcipffjjcaa.B
open Go.RowKit Go.Proofs.YtgdfkcipffjjcaaW.PrintWords
open LinT
theorem qJx (p : Int) {m n : Nat} {X : List Int} (hl : X.length = m * n) (hm : m ≤ 1024) (hn : n ≤ 1024) {i : Nat} (hi : i < m) : impl_Matrix_row.f p (m : Int) (n : Int) X (i : Int) = some ((X.drop (i * n)).take n) := by
 have hb : m * n ≤ 1024 * 1024 := Nat.mul_le_mul hm hn
 have h2 := Nat.mul_le_mul_right n (show i + 1 ≤ m by omega)
 have h1 : (i + 1) * n = i * n + n := by rw [Nat.add_mul, Nat.one_mul]
 unfold impl_Matrix_row.f
 have e1 : wrap64 ((i : Int) * (n : Int)) = ((i * n : Nat) : Int) := by rw [← Int.natCast_mul, qAi (by omega) (by omega)]
 have e2 : wrap64 (wrap64 ((i : Int) + 1) * (n : Int)) = ((i * n + n : Nat) : Int) := by
  rw [qAj (by omega), ← Int.natCast_mul, h1, qAi (by omega) (by omega)]
 rw [e1, e2, if_pos (by omega), Int.toNat_natCast, Int.toNat_natCast, List.drop_take]
 rw [show i * n + n - i * n = n by omega]
theorem qLd {n : Nat} (X : List Int) (i : Nat) {j : Nat} (hj : j < n) : ((X.drop (i * n)).take n).getD j 0 = fl n X i j := by
 unfold fl
 rw [List.getD_eq_getElem?_getD, List.getElem?_take_of_lt hj, List.getElem?_drop, ← List.getD_eq_getElem?_getD]
theorem qC5 {m n : Nat} {X : List Int} (hl : X.length = m * n) {i : Nat} (hi : i < m) : ((X.drop (i * n)).take n).length = n := by
 have h2 := Nat.mul_le_mul_right n (show i + 1 ≤ m by omega)
 rw [Nat.add_mul, Nat.one_mul] at h2
 rw [List.length_take, List.length_drop]; omega
end Go.Proofs.Ytgdfkcipffjjcaa.B
set_option linter.unusedVariables false
set_option linter.unusedSimpArgs false
namespace Go.Proofs.Ytgdfkcipffjjcaa.B
open Go.RowKit Go.Proofs.YtgdfkcipffjjcaaW.PrintWords
open LinT
theorem qL6 (p : Int) (m n : Nat) (hm : m ≤ 1048576) (hn : n ≤ 1048576) : Ev (fun k => z56.f k p (m : Int) (n : Int)) (p, (m : Int), (n : Int), List.replicate (m * n) 0) := by
 unfold z56.f z126.f
 have hin : ∀ (i t : Nat), t ≤ 1048576 * 1048576 → Le (fun k => z126.l0 k (n : Int) (m : Int) (wrap64 ((i : Int) + 1)) p (m : Int) (n : Int) (List.replicate (t + n) 0)) (fun k => z126.l1 k (n : Int) (i : Int) (m : Int) (i : Int) (n : Int) 0 p (m : Int) (n : Int) (List.replicate t 0)) := by
  intro i t ht
  have main : ∀ (d j : Nat), j + d = n → Le (fun k => z126.l0 k (n : Int) (m : Int) (wrap64 ((i : Int) + 1)) p (m : Int) (n : Int) (List.replicate (t + n) 0)) (fun k => z126.l1 k (n : Int) (i : Int) (m : Int) (i : Int) (n : Int) (j : Int) p (m : Int) (n : Int) (List.replicate (t + j) 0)) := by
   intro d
   induction d with
   | zero =>
    intro j hj r hr
    have : j = n := by omega
    subst this
    refine Ev.step (fun k => z126.l1.eq_2 ..) ?_
    exact qAd (by omega) hr
   | succ d ih =>
    intro j hj r hr
    have := ih (j + 1) (by omega) r hr
    refine Ev.step (fun k => z126.l1.eq_2 ..) ?_
    refine qAa (by omega) (Ev.bind (qAt (r := (0 : Int)) rfl) (qAa (by rw [List.length_replicate]; omega) ?_))
    rw [qAj (by omega)]
    have e : List.replicate (t + j) (0 : Int) ++ [0] = List.replicate (t + (j + 1)) 0 := by rw [show t + (j + 1) = t + j + 1 by omega, List.replicate_succ']
    rw [e]; exact this
  exact main n 0 (by omega)
 have out : ∀ (d i : Nat), i + d = m → Ev (fun k => z126.l0 k (n : Int) (m : Int) (i : Int) p (m : Int) (n : Int) (List.replicate (i * n) 0)) (p, (m : Int), (n : Int), List.replicate (m * n) 0) := by
  intro d
  induction d with
  | zero =>
   intro i hi
   have : i = m := by omega
   subst this
   refine Ev.step (fun k => z126.l0.eq_2 ..) ?_
   exact qAd (by omega) (Ev.now _)
  | succ d ih =>
   intro i hi
   have hb : i * n ≤ 1048576 * 1048576 := Nat.mul_le_mul (by omega) hn
   have h := ih (i + 1) (by omega)
   rw [Nat.add_mul, Nat.one_mul] at h
   refine Ev.step (fun k => z126.l0.eq_2 ..) ?_
   refine qAa (by omega) (hin i (i * n) hb _ ?_)
   rw [qAj (by omega)]; exact h
 have h := out m 0 (by omega)
 rw [Nat.zero_mul] at h
 exact Ev.bind h (Ev.now _)
theorem qJd (p : Int) (m n : Nat) (hm : m ≤ 1024) (hn : n ≤ 1024) : z41.f p (m : Int) (n : Int) = some (p, (m : Int), (n : Int), List.replicate (m * n) 0) := by
 have hb : m * n ≤ 1024 * 1024 := Nat.mul_le_mul hm hn
 unfold z41.f
 rw [← Int.natCast_mul, qAi (by omega) (by omega), if_pos (by omega), if_pos (by rw [Int.toNat_natCast]; omega), Int.toNat_natCast]
end Go.Proofs.Ytgdfkcipffjjcaa.B
set_option linter.unusedVariables false
set_option linter.unusedSimpArgs false
namespace Go.Proofs.Ytgdfkcipffjjcaa.B
open Go.RowKit Go.Proofs.YtgdfkcipffjjcaaW.PrintWords
open SimT LinT
def sgn (p : Int) (i : Nat) : Int := if i % 2 = 0 then 1 else p - 1
theorem qLb {p : Nat} (hp : p ≤ 251) (i : Nat) : z59.f (i : Int) (p : Int) = some (sgn (p : Int) i) := by
 unfold z59.f sgn
 rw [Int.tmod_eq_emod_of_nonneg (by omega), qAi (by omega) (by omega)]
 by_cases h : i % 2 = 0
 ·rw [if_pos h, if_pos (by omega)]
 ·rw [if_neg h, if_neg (by omega)]
theorem qLa {p : Nat} (hp0 : 2 ≤ p) (hp : p ≤ 251) (i : Nat) : z43.f (i : Int) (p : Int) = some (sgn (p : Int) i) := by
 unfold z43.f sgn
 rw [Int.tmod_eq_emod_of_nonneg (by omega), qAi (by omega) (by omega)]
 by_cases h : i % 2 = 0
 ·rw [if_pos h, if_pos (by omega), if_neg (by omega), Int.emod_eq_of_lt (by omega) (by omega)]
 ·rw [if_neg h, if_neg (by omega)]
theorem qMb {p : Nat} (hp0 : 2 ≤ p) (i : Nat) : 0 ≤ sgn (p : Int) i ∧ sgn (p : Int) i < (p : Int) := by
 unfold sgn; split <;> omega
def colF (C : List (List Int)) (d : Int) (j : Nat) : List Int := qB3 C (C.getD ((qAr C d).getD j 0).toNat [])
def colG (C : List (List Int)) (d p : Int) (n j : Nat) (s : List Int) : List Int :=
 iter (fun i s => s.set (((colF C d j).getD i 0 - (qAr C (d - 1)).getD 0 0).toNat * n + j) (sgn p i)) 0 (colF C d j).length s
def qDy (C : List (List Int)) (d p : Int) : List Int :=
 iter (colG C d p (qAr C d).length) 0 (qAr C d).length (List.replicate ((qAr C (d - 1)).length * (qAr C d).length) 0)
def bMat (C : List (List Int)) (d p : Int) : Int × Int × Int × List Int := (p, ((qAr C (d - 1)).length : Int), ((qAr C d).length : Int), qDy C d p)
theorem qIq {C : List (List Int)} (ho : okC C = true) {d : Int} {a m b n : Nat} (ha : qAr C (d - 1) = run a m) (hb : qAr C d = run b n) {j i : Nat} (hj : j < n) (hi : i < (colF C d j).length) : ∃ r, r < m ∧ (colF C d j).getD i 0 = ((a + r : Nat) : Int) := by
 unfold colF at hi ⊢
 rw [hb, qCd hj, Int.toNat_natCast] at hi ⊢
 have hmem : ((b + j : Nat) : Int) ∈ qAr C d := by rw [hb]; unfold run; exact List.mem_map.2 ⟨j, List.mem_range.2 hj, rfl⟩
 obtain ⟨i0, hi0, hp0, he0⟩ := qGm.1 hmem
 have : i0 = b + j := by omega
 subst this
 have hlen := of_decide_eq_true hp0
 have hsC : C.getD (b + j) [] ∈ C := qA1 [] hi0
 generalize C.getD (b + j) [] = s at hi hlen hsC ⊢
 unfold qB3 at hi ⊢
 have hi' : i < (qBe s).length := by simpa using hi
 have e : ((qBe s).map (idx C)).getD i 0 = idx C ((qBe s).getD i []) := by
  rw [List.getD_eq_getElem?_getD, List.getElem?_map, List.getD_eq_getElem?_getD, List.getElem?_eq_getElem hi']; rfl
 rw [e]
 have hf : (qBe s).getD i [] ∈ qBe s := qA1 [] hi'
 obtain ⟨h1, k, hk, hd⟩ := qDu.1 hf
 have hin := (qEy.1 ho).2.2.2 s hsC h1 k hk
 obtain ⟨q, hq, hq1, hq2, _⟩ := qE3 hin
 rw [← hd, hq1]
 have hdl : (drp s k).length = s.length - 1 := qF8 hk
 have hqm : ((q : Nat) : Int) ∈ qAr C (d - 1) := qGm.2 ⟨q, hq, decide_eq_true (by rw [hq2, hdl]; omega), rfl⟩
 rw [ha] at hqm
 unfold run at hqm
 obtain ⟨r, hr, h3⟩ := List.mem_map.1 hqm
 exact ⟨r, List.mem_range.1 hr, by omega⟩
theorem qIr {C : List (List Int)} (ho : okC C = true) (d : Int) (j : Nat) : (colF C d j).length ≤ 4 := by
 unfold colF qB3
 rw [List.length_map]
 by_cases h : ((qAr C d).getD j 0).toNat < C.length
 ·have := (qEt ((qEy.1 ho).2.2.1 _ (qA1 [] h))).2
  exact Nat.le_trans (qE4 _) this
 ·rw [List.getD_eq_getElem?_getD, List.getElem?_eq_none (by omega)]
  simp [qBe]
theorem qGq {C : List (List Int)} {d p : Int} {n j : Nat} {s : List Int} {q : Nat} (hq : 2 ≤ q) (hp : p = (q : Int)) (h : s.length = q ∨ True) (hr : Rng q s) : (colG C d p n j s).length = s.length ∧ Rng q (colG C d p n j s) := by
 have := qGn (fun i s => s.set (((colF C d j).getD i 0 - (qAr C (d - 1)).getD 0 0).toNat * n + j) (sgn p i)) (fun _ t => t.length = s.length ∧ Rng q t) (colF C d j).length 0 s ⟨rfl, hr⟩ (fun i t _ _ ht => ⟨by rw [List.length_set]; exact ht.1, fun z hz => by
  rcases List.mem_or_eq_of_mem_set hz with h1 | h1
  ·exact ht.2 z h1
  ·rw [h1, hp]; exact qMb hq i⟩)
 exact this
theorem qDx (C : List (List Int)) (d : Int) {p : Nat} (hp : 2 ≤ p) : (qDy C d (p : Int)).length = (qAr C (d - 1)).length * (qAr C d).length ∧ Rng p (qDy C d (p : Int)) := by
 have := qGn (colG C d (p : Int) (qAr C d).length) (fun _ t => t.length = (qAr C (d - 1)).length * (qAr C d).length ∧ Rng p t) (qAr C d).length 0 (List.replicate ((qAr C (d - 1)).length * (qAr C d).length) 0) ⟨by rw [List.length_replicate], fun z hz => by rw [(List.mem_replicate.1 hz).2]; omega⟩ (fun j t _ _ ht => by
  have := qGq (C := C) (d := d) (n := (qAr C d).length) (j := j) hp (p := (p : Int)) rfl (.inr trivial) ht.2
  exact ⟨this.1.trans ht.1, this.2⟩)
 exact this
section
variable {C : List (List Int)} (hl : C.length ≤ 1048576) (hr : ∀ x ∈ C, x.length ≤ 1048576)
include hl hr
theorem qIl {p : Nat} (hp : isP p = true) (ho : okC C = true) {d : Int} (h0 : 0 ≤ d) (h3 : d ≤ 4) (hm : (qAr C (d - 1)).length ≤ 48) (hn : (qAr C d).length ≤ 48) : Ev (fun k => z35.f k C d (p : Int)) (bMat C d (p : Int)) := by
 have h2 := qBd hp
 have hs := (qEy.1 ho).2.1
 obtain ⟨a, m, ha, ham, _⟩ := qDs hs (d - 1)
 obtain ⟨b, n, hb, hbn, _⟩ := qDs hs d
 have hml : (qAr C (d - 1)).length = m := by rw [ha, qD2]
 have hnl : (qAr C d).length = n := by rw [hb, qD2]
 unfold z35.f bMat
 have ew : wrap64 (d - 1) = d - 1 := qAi (by omega) (by omega)
 rw [ew]
 clear ew
 refine Ev.bind (qBl hl (by omega) (by omega)) (Ev.bind (qBl hl (by omega) (by omega)) (Ev.bind (qAt (qDo _)) (Ev.bind (qAt (qDo _)) (Ev.bind (qL6 (p : Int) _ _ (by omega) (by omega)) ?_))))
 dsimp only
 have hcol : ∀ (j : Nat) (s : List Int), j < n → s.length = m * n → Le (fun k => z35.l0 k (p : Int) (qAr C (d - 1)) (qAr C d) ((qAr C d).length : Int) (wrap64 ((j : Int) + 1)) C (p : Int) ((qAr C (d - 1)).length : Int) ((qAr C d).length : Int) (colG C d (p : Int) n j s))
   (fun k => z35.l1 k (p : Int) (qAr C (d - 1)) (qAr C d) (j : Int) ((qAr C d).length : Int) (j : Int) (colF C d j) ((colF C d j).length : Int) 0 C (p : Int) ((qAr C (d - 1)).length : Int) ((qAr C d).length : Int) s) := by
  intro j s hj hsl
  have hcl := qIr ho d j
  have h := (qBj (fun (t : List Int) (i : Nat) k => z35.l1 k (p : Int) (qAr C (d - 1)) (qAr C d) (j : Int) ((qAr C d).length : Int) (j : Int) (colF C d j) ((colF C d j).length : Int) (i : Int) C (p : Int) ((qAr C (d - 1)).length : Int) ((qAr C d).length : Int) t)
   (fun i s => s.set (((colF C d j).getD i 0 - (qAr C (d - 1)).getD 0 0).toNat * n + j) (sgn (p : Int) i)) (fun _ t => t.length = m * n) (colF C d j).length 0 s hsl (fun i t _ hi ht => ⟨fun r hr' => ?_, by rw [List.length_set]; exact ht⟩)).1
  ·refine Le.trans (fun r hr' => ?_) h
   refine Ev.step (fun k => z35.l1.eq_2 ..) ?_
   exact qAd (by omega) hr'
  ·have hi' : i < (colF C d j).length := by omega
   obtain ⟨r0, hr0, hf⟩ := qIq ho ha hb hj hi'
   have hlt : r0 * n + j < m * n := qCc hr0 hj
   have hmn : m * n ≤ 48 * 48 := Nat.mul_le_mul (by omega) (by omega)
   have hix := qKb (a := a) (m := m) (by omega) hr0
   rw [← ha, ← hf] at hix
   refine Ev.step (fun k => z35.l1.eq_2 ..) ?_
   refine qAa (by omega) (qAa (by omega) (qAa (by omega) ?_))
   rw [qAx]
   refine Ev.bind hix (Ev.bind (qAt (qLb h2.2 i)) ?_)
   have e1 : wrap64 (wrap64 ((r0 : Int) * ((qAr C d).length : Int)) + (j : Int)) = ((r0 * n + j : Nat) : Int) := by
    rw [hnl, ← Int.natCast_mul, qAi (x := ((r0 * n : Nat) : Int)) (by omega) (by omega), qAi (by omega) (by omega)]; omega
   have e2 : (((colF C d j).getD i 0) - (qAr C (d - 1)).getD 0 0).toNat = r0 := by
    rw [hf, ha, qCd (by omega)]; omega
   rw [e2] at hr'
   rw [e1]
   clear e1 e2 hf hix
   refine qAa (by omega) (qAa (by omega) ?_)
   rw [qAj (by omega), Int.toNat_natCast]
   exact hr'
 have hall := (qBj (fun (t : List Int) (j : Nat) k => z35.l0 k (p : Int) (qAr C (d - 1)) (qAr C d) ((qAr C d).length : Int) (j : Int) C (p : Int) ((qAr C (d - 1)).length : Int) ((qAr C d).length : Int) t)
  (colG C d (p : Int) n) (fun _ t => t.length = m * n ∧ Rng p t) n 0 (List.replicate (m * n) 0) ⟨by rw [List.length_replicate], fun z hz => by rw [(List.mem_replicate.1 hz).2]; omega⟩ (fun j t _ hj ht => ⟨fun r hr' => ?_, ?_⟩)).1
 ·have h : Ev (fun k => z35.l0 k (p : Int) (qAr C (d - 1)) (qAr C d) ((qAr C d).length : Int) ((0 + n : Nat) : Int) C (p : Int) ((qAr C (d - 1)).length : Int) ((qAr C d).length : Int) (iter (colG C d (p : Int) n) 0 n (List.replicate (m * n) 0))) (p, ((qAr C (d - 1)).length : Int), ((qAr C d).length : Int), qDy C d (p : Int)) := by
   unfold qDy
   rw [hml, hnl]
   refine Ev.step (fun k => z35.l0.eq_2 ..) ?_
   exact qAd (by omega) (Ev.now _)
  have := hall _ h
  rw [hml, hnl] at this ⊢
  exact this
 ·have hj' : j < n := by omega
  have hup : rd (qAr C d) (j : Int) = ((b + j : Nat) : Int) := by rw [qAx, hb, qCd hj']
  have hbC : b + j < C.length := by omega
  have hcF : qB3 C (C.getD (b + j) []) = colF C d j := by
   unfold colF; rw [hb, qCd hj', Int.toNat_natCast]
  refine Ev.step (fun k => z35.l0.eq_2 ..) ?_
  refine qAa (by omega) (qAa (by omega) (qAa (by omega) ?_))
  rw [hup]
  have hfi := qFk hl hr hs hbC
  rw [hcF] at hfi
  refine Ev.bind hfi (hcol j t hj' ht.1 r ?_)
  rw [qAj (by omega)]; exact hr'
 ·have := qGq (C := C) (d := d) (n := n) (j := j) h2.1 (p := (p : Int)) rfl (.inr trivial) ht.2
  exact ⟨this.1.trans ht.1, this.2⟩
theorem qIe {p : Nat} (hp : isP p = true) (ho : okC C = true) {d : Int} (h0 : 0 ≤ d) (h3 : d ≤ 4) (hm : (qAr C (d - 1)).length ≤ 48) (hn : (qAr C d).length ≤ 48) : Ev (fun k => z26.f k C d (p : Int)) (bMat C d (p : Int)) := by
 have h2 := qBd hp
 have hs := (qEy.1 ho).2.1
 obtain ⟨a, m, ha, ham, ham2⟩ := qDs hs (d - 1)
 obtain ⟨b, n, hb, hbn, hbn2⟩ := qDs hs d
 have hml : (qAr C (d - 1)).length = m := by rw [ha, qD2]
 have hnl : (qAr C d).length = n := by rw [hb, qD2]
 unfold z26.f bMat
 have ew : wrap64 (d - 1) = d - 1 := qAi (by omega) (by omega)
 rw [ew]
 clear ew
 refine Ev.bind (qCe hl (by omega) (by omega)) (Ev.bind (qCe hl (by omega) (by omega)) (Ev.bind (qAt (qJd (p : Int) _ _ (by omega) (by omega))) ?_))
 dsimp only
 rcases Int.lt_or_le 0 d with hd0 | hd0
 ·have hdec : decide (d > 0) = true := decide_eq_true hd0
  have hcol : ∀ (j : Nat) (s : List Int), j < n → s.length = m * n → Le (fun k => z26.l0 k d (p : Int) (qAr C d) (qAr C (d - 1)) (wrap64 ((j : Int) + 1)) C (p : Int) ((qAr C (d - 1)).length : Int) ((qAr C d).length : Int) (colG C d (p : Int) n j s))
    (fun k => z26.l1 k d (p : Int) (qAr C d) (qAr C (d - 1)) (j : Int) (colF C d j) 0 C (p : Int) ((qAr C (d - 1)).length : Int) ((qAr C d).length : Int) s) := by
   intro j s hj hsl
   have hcl := qIr ho d j
   have h := (qBj (fun (t : List Int) (i : Nat) k => z26.l1 k d (p : Int) (qAr C d) (qAr C (d - 1)) (j : Int) (colF C d j) (i : Int) C (p : Int) ((qAr C (d - 1)).length : Int) ((qAr C d).length : Int) t)
    (fun i s => s.set (((colF C d j).getD i 0 - (qAr C (d - 1)).getD 0 0).toNat * n + j) (sgn (p : Int) i)) (fun _ t => t.length = m * n) (colF C d j).length 0 s hsl (fun i t _ hi ht => ⟨fun r hr' => ?_, by rw [List.length_set]; exact ht⟩)).1
   ·refine Le.trans (fun r hr' => ?_) h
    refine Ev.step (fun k => z26.l1.eq_2 ..) ?_
    exact qAd (by omega) hr'
   ·have hi' : i < (colF C d j).length := by omega
    obtain ⟨r0, hr0, hf⟩ := qIq ho ha hb hj hi'
    have hlt : r0 * n + j < m * n := qCc hr0 hj
    have hmn : m * n ≤ 48 * 48 := Nat.mul_le_mul (by omega) (by omega)
    have e2 : (((colF C d j).getD i 0) - (qAr C (d - 1)).getD 0 0).toNat = r0 := by
     rw [hf, ha, qCd (by omega)]; omega
    have e1 : wrap64 (wrap64 (wrap64 (rd (colF C d j) (i : Int) - rd (qAr C (d - 1)) 0) * ((qAr C d).length : Int)) + (j : Int)) = ((r0 * n + j : Nat) : Int) := by
     have e3 : rd (qAr C (d - 1)) 0 = (a : Int) := by
      have := qAx (qAr C (d - 1)) 0
      rw [ha, qCd (by omega)] at this
      rw [ha]; simpa using this
     have e4 : wrap64 (((a + r0 : Nat) : Int) - (a : Int)) = (r0 : Int) := by rw [qAi (by omega) (by omega)]; omega
     rw [qAx, hf, e3, e4, hnl, ← Int.natCast_mul, qAi (x := ((r0 * n : Nat) : Int)) (by omega) (by omega), qAi (by omega) (by omega)]; omega
    refine Ev.step (fun k => z26.l1.eq_2 ..) ?_
    rw [e2] at hr'
    rw [e1]
    clear e1 e2 hf
    refine qAa (by omega) (qAa (by omega) (qAa (by omega) (Ev.bind (qAt (qLa h2.1 h2.2 i)) (qAa (by omega) (qAa (by omega) ?_)))))
    rw [qAj (by omega), Int.toNat_natCast]
    exact hr'
  have hall := (qBj (fun (t : List Int) (j : Nat) k => z26.l0 k d (p : Int) (qAr C d) (qAr C (d - 1)) (j : Int) C (p : Int) ((qAr C (d - 1)).length : Int) ((qAr C d).length : Int) t)
   (colG C d (p : Int) n) (fun _ t => t.length = m * n ∧ Rng p t) n 0 (List.replicate (m * n) 0) ⟨by rw [List.length_replicate], fun z hz => by rw [(List.mem_replicate.1 hz).2]; omega⟩ (fun j t _ hj ht => ⟨fun r hr' => ?_, ?_⟩)).1
  ·have h : Ev (fun k => z26.l0 k d (p : Int) (qAr C d) (qAr C (d - 1)) ((0 + n : Nat) : Int) C (p : Int) ((qAr C (d - 1)).length : Int) ((qAr C d).length : Int) (iter (colG C d (p : Int) n) 0 n (List.replicate (m * n) 0))) (p, ((qAr C (d - 1)).length : Int), ((qAr C d).length : Int), qDy C d (p : Int)) := by
    unfold qDy
    rw [hml, hnl]
    refine Ev.step (fun k => z26.l0.eq_2 ..) ?_
    refine qAd (by omega) ?_
    refine Ev.step (fun k => z26.j1.eq_2 ..) ?_
    exact qAd (by decide) (Ev.now _)
   have := hall _ h
   rw [hml, hnl] at this ⊢
   exact this
  ·have hj' : j < n := by omega
   have hup : rd (qAr C d) (j : Int) = ((b + j : Nat) : Int) := by rw [qAx, hb, qCd hj']
   have hbC : b + j < C.length := by omega
   have hcF : qB3 C (C.getD (b + j) []) = colF C d j := by
    unfold colF; rw [hb, qCd hj', Int.toNat_natCast]
   have hfi := qG4 hl hr hbC
   rw [hcF] at hfi
   refine Ev.step (fun k => z26.l0.eq_2 ..) ?_
   refine qAa (by omega) ?_
   rw [hdec]
   refine Ev.step (fun k => z26.j1.eq_2 ..) ?_
   refine qAa rfl (qAa (by omega) (qAa (by omega) ?_))
   rw [hup]
   refine Ev.bind hfi (hcol j t hj' ht.1 r ?_)
   rw [qAj (by omega)]; exact hr'
  ·have := qGq (C := C) (d := d) (n := n) (j := j) h2.1 (p := (p : Int)) rfl (.inr trivial) ht.2
   exact ⟨this.1.trans ht.1, this.2⟩
 ·have hd : d = 0 := by omega
  subst hd
  have hm0 : m = 0 := by
   rcases Nat.eq_zero_or_pos m with h | h
   ·exact h
   ·have h5 := ham2 0 h
    have h6 := (qEt ((qEy.1 ho).2.2.1 _ (qA1 [] (show a + 0 < C.length by omega)))).1
    omega
  have hcells : qDy C 0 (p : Int) = List.replicate ((qAr C (0 - 1)).length * (qAr C 0).length) 0 := by
   have := (qDx C 0 h2.1).1
   rw [hml, hm0, Nat.zero_mul] at this ⊢
   exact List.eq_nil_of_length_eq_zero this
  rw [hcells]
  refine Ev.step (fun k => z26.l0.eq_2 ..) ?_
  have hdec : decide ((0 : Int) > 0) = false := by decide
  rw [hdec]
  have hj : Ev (fun k => z26.j1 k 0 (p : Int) (qAr C 0) (qAr C (0 - 1)) 0 false C (p : Int) ((qAr C (0 - 1)).length : Int) ((qAr C 0).length : Int) (List.replicate ((qAr C (0 - 1)).length * (qAr C 0).length) 0)) (p, ((qAr C (0 - 1)).length : Int), ((qAr C 0).length : Int), List.replicate ((qAr C (0 - 1)).length * (qAr C 0).length) 0) := by
   refine Ev.step (fun k => z26.j1.eq_2 ..) ?_
   exact qAd (by decide) (Ev.now _)
  by_cases h : (0 : Int) < ((qAr C 0).length : Int)
  ·exact qAa h hj
  ·exact qAd h hj
end
end Go.Proofs.Ytgdfkcipffjjcaa.B
set_option linter.unusedVariables false
set_option linter.unusedSimpArgs false
namespace Go.Proofs.Ytgdfkcipffjjcaa.B
open Go.RowKit Go.Proofs.YtgdfkcipffjjcaaW.PrintWords
open LinT
def vecC (l : List Int) (n p : Int) : Bool := decide ((l.length : Int) = n) && l.all fun y => decide (0 ≤ y) && decide (y ≤ p - 1)
theorem qK7 {l : List Int} {n p : Nat} : vecC l (n : Int) (p : Int) = true ↔ l.length = n ∧ Rng p l := by
 unfold vecC Rng
 rw [Bool.and_eq_true, decide_eq_true_iff, List.all_eq_true]
 constructor
 ·rintro ⟨h1, h2⟩
  refine ⟨by omega, fun y hy => ?_⟩
  have := h2 y hy
  rw [Bool.and_eq_true, decide_eq_true_iff, decide_eq_true_iff] at this
  omega
 ·rintro ⟨h1, h2⟩
  refine ⟨by omega, fun y hy => ?_⟩
  have := h2 y hy
  rw [Bool.and_eq_true, decide_eq_true_iff, decide_eq_true_iff]
  omega
theorem qDt {p : Nat} (hp : p ≤ 251) (a : Int) : Ev (fun k => z95.f a (p : Int)) (!(decide (0 ≤ a) && decide (a ≤ (p : Int) - 1))) := by
 unfold z95.f z96.f
 rw [qAi (by omega) (by omega)]
 exact Ev.bind (a := decide (0 ≤ a) && decide (a ≤ (p : Int) - 1)) (Ev.bind (qAt (qC3 _ _ _)) (Ev.now _)) (Ev.now _)
theorem qGu {p : Nat} (hq : p ≤ 251) (l : List Int) (hl : l.length ≤ 1048576) : Ev (fun k => z124.f k l (p : Int)) (l.any fun a => !(decide (0 ≤ a) && decide (a ≤ (p : Int) - 1))) := by
 obtain ⟨t, ht, hd⟩ := qB5 (l) 0 (fun i k => z125.l0 k (l) ((l).length : Int) (i : Int) (p : Int)) (fun a => !(decide (0 ≤ a) && decide (a ≤ (p : Int) - 1))) (fun j hj hp r hr => by
   refine Ev.step (fun k => z125.l0.eq_2 ..) ?_
   refine qAa (by omega) (qAa (by omega) (qAa (by omega) ?_))
   rw [qAx, qAj (by omega)]
   exact Ev.bind (qDt hq _) (qAd (by rw [hp]; decide) hr)) (fun j hj hp => by
   refine Ev.step (fun k => z125.l0.eq_2 ..) ?_
   refine qAa (by omega) (qAa (by omega) (qAa (by omega) ?_))
   rw [qAx]
   exact Ev.bind (qDt hq _) (qAa hp (Ev.now _))) (by
   refine Ev.step (fun k => z125.l0.eq_2 ..) ?_
   exact qAd (by omega) (Ev.now _))
 unfold z124.f z125.f
 refine Ev.bind ht (qBi (Ev.now _) hd)
theorem qFm {p : Nat} (hp : p ≤ 251) (l : List Int) (hl : l.length ≤ 1048576) : Ev (fun k => z76.f k l (p : Int)) (l.all fun y => decide (0 ≤ y) && decide (y ≤ (p : Int) - 1)) := by
 unfold z76.f
 refine Ev.bind (qGu hp l hl) (qBi (Ev.now _) ?_)
 rw [List.any_eq_not_all_not]; simp
theorem qHy {p : Nat} (hp : p ≤ 251) (l : List Int) (n : Int) (hl : l.length ≤ 1048576) : Ev (fun k => z50.f k l n (p : Int)) (vecC l n (p : Int)) := by
 unfold z50.f vecC
 refine Ev.bind (qAt (r := (l.length : Int)) rfl) ?_
 by_cases h : (l.length : Int) = n
 ·refine qAa h (Ev.bind (qFm hp l hl) (qBi (Ev.now _) ?_))
  rw [decide_eq_true h, Bool.true_and]
 ·refine qBi (qAd h (Ev.now _)) ?_
  rw [decide_eq_false h, Bool.false_and]
end Go.Proofs.Ytgdfkcipffjjcaa.B
set_option linter.unusedVariables false
set_option linter.unusedSimpArgs false
namespace Go.Proofs.Ytgdfkcipffjjcaa.B
open Go.RowKit Go.Proofs.YtgdfkcipffjjcaaW.PrintWords
open LinT
theorem qKm {p : Nat} (hp : p ≤ 251) (l : List Int) (n : Int) (hl : l.length ≤ 1048576) : Ev (fun k => z24.f k l n (p : Int)) (vecC l n (p : Int)) := by
 unfold z24.f vecC
 rw [Bool.and_comm, ← qDz l 0]
 have hw : wrap64 ((p : Int) - 1) = (p : Int) - 1 := qAi (by omega) (by omega)
 refine qDh (fun (i : Nat) k => z24.l0 k l n (p : Int) (i : Int)) (fun i => decide (0 ≤ l.getD i 0) && decide (l.getD i 0 ≤ (p : Int) - 1)) (decide ((l.length : Int) = n)) l.length (fun j hj _ hp' r hr => ?_) (fun j hj _ hp' => ?_) (fun _ => ?_)
 ·refine Ev.step (fun k => z24.l0.eq_2 ..) ?_
  rw [hw, qAx]
  clear hw
  refine qAa (by omega) (qAa (by omega) (Ev.bind (qAt (qE2 _ _ _)) (qAa hp' ?_)))
  rw [qAj (by omega)]; exact hr
 ·refine Ev.step (fun k => z24.l0.eq_2 ..) ?_
  rw [hw, qAx]
  clear hw
  exact qAa (by omega) (qAa (by omega) (Ev.bind (qAt (qE2 _ _ _)) (qAd (by rw [hp']; decide) (Ev.now _))))
 ·refine Ev.step (fun k => z24.l0.eq_2 ..) ?_
  exact qBi (qAd (by omega) (Ev.now _)) (by rw [Bool.beq_eq_decide_eq])
end Go.Proofs.Ytgdfkcipffjjcaa.B
set_option linter.unusedVariables false
set_option linter.unusedSimpArgs false
namespace Go.Proofs.Ytgdfkcipffjjcaa.B
open Go.RowKit Go.Proofs.YtgdfkcipffjjcaaW.PrintWords
open SimT LinT
def askV (C : List (List Int)) (d p : Int) (ch : List Int) : Int := if askD C d p = 0 then (if vecC ch ((qAr C d).length : Int) p = true then 0 else 7) else askD C d p
section
variable {C : List (List Int)} (hl : C.length ≤ 1048576) (hr : ∀ x ∈ C, x.length ≤ 1048576)
include hl hr
theorem qD9 (d p : Int) (ch : List Int) (hc : ch.length ≤ 1048576) : Ev (fun k => z17.f k C d p ch) (askV C d p ch) := by
 unfold z17.f askV
 refine Ev.bind (qJa hl hr d p) ?_
 by_cases hz : askD C d p = 0
 ·obtain ⟨ho, hpp, h0, h3, _⟩ := qE9 hz
  obtain ⟨n, rfl, hp1⟩ := qHw.1 hpp
  refine qBi (qAa hz ?_) (if_pos hz).symm
  unfold z32.f
  refine Ev.bind (a := vecC ch ((qAr C d).length : Int) (n : Int)) (Ev.bind (qBl hl (by omega) (by omega)) (Ev.bind (qAt (qDo _)) (Ev.bind (qHy (qBd hp1).2 ch _ hc) (Ev.now _)))) ?_
  cases hv : vecC ch ((qAr C d).length : Int) (n : Int) with
  | true => exact qAa rfl (Ev.now _)
  | false => exact qAd (by decide) (Ev.now _)
 ·exact qBi (qAd hz (Ev.now _)) (if_neg hz).symm
theorem qEa (d p : Int) (ch : List Int) (hc : ch.length ≤ 1048576) : Ev (fun k => z12.f k C d p ch) (askV C d p ch) := by
 unfold z12.f askV
 refine Ev.bind (qHq hl hr d p) ?_
 by_cases hz : askD C d p = 0
 ·obtain ⟨ho, hpp, h0, h3, _⟩ := qE9 hz
  obtain ⟨n, rfl, hp1⟩ := qHw.1 hpp
  refine qBi (qAa hz ?_) (if_pos hz).symm
  refine Ev.bind (qCe hl (by omega) (by omega)) (Ev.bind (qKm (qBd hp1).2 ch _ hc) ?_)
  cases hv : vecC ch ((qAr C d).length : Int) (n : Int) with
  | true => exact qAa rfl (Ev.now _)
  | false => exact qAd (by decide) (Ev.now _)
 ·exact qBi (qAd hz (Ev.now _)) (if_neg hz).symm
end
theorem qHn {C : List (List Int)} {d p : Int} {ch : List Int} (h : askV C d p ch = 0) : okC C = true ∧ 0 ≤ d ∧ d ≤ 3 ∧ (qAr C (d - 1)).length ≤ 32 ∧ (qAr C d).length ≤ 32 ∧ (qAr C (d + 1)).length ≤ 32 ∧ ∃ q : Nat, p = (q : Int) ∧ isP q = true ∧ ch.length = (qAr C d).length ∧ Rng q ch := by
 unfold askV at h
 by_cases hz : askD C d p = 0
 ·rw [if_pos hz] at h
  obtain ⟨ho, hpp, h0, h3, h4, h5, h6⟩ := qE9 hz
  obtain ⟨n, rfl, hp1⟩ := qHw.1 hpp
  by_cases hv : vecC ch ((qAr C d).length : Int) (n : Int) = true
  ·obtain ⟨e1, e2⟩ := qK7.1 hv
   exact ⟨ho, h0, h3, h4, h5, h6, n, rfl, hp1, e1, e2⟩
  ·rw [if_neg hv] at h; omega
 ·rw [if_neg hz] at h; exact absurd h hz
end Go.Proofs.Ytgdfkcipffjjcaa.B
set_option linter.unusedVariables false
set_option linter.unusedSimpArgs false
namespace Go.Proofs.Ytgdfkcipffjjcaa.B
open Go.RowKit Go.Proofs.YtgdfkcipffjjcaaW.PrintWords
open LinT
theorem qMl (l : List (List Int)) (c : Nat) (hc : ∀ x, x ∈ l → c < x.length) (hl : l.length ≤ 1048576) :
  ∃ t : Int, Ev (fun k => z129.f k l (c : Int)) t ∧ ((t = -1 ∧ ∀ i, i < l.length → rw' l i c = 0) ∨ ∃ i : Nat, t = (i : Int) ∧ i < l.length ∧ rw' l i c ≠ 0) := by
 unfold z129.f
 have main : ∀ (d i : Nat), i + d = l.length → (∀ j, j < i → rw' l j c = 0) → ∃ t : Int, Ev (fun k => z129.l0 k l (l.length : Int) (i : Int) (c : Int)) t ∧ ((t = -1 ∧ ∀ i, i < l.length → rw' l i c = 0) ∨ ∃ i : Nat, t = (i : Int) ∧ i < l.length ∧ rw' l i c ≠ 0) := by
  intro d
  induction d with
  | zero =>
   intro i hi hz
   refine ⟨-1, ?_, .inl ⟨rfl, fun j hj => hz j (by omega)⟩⟩
   refine Ev.step (fun k => z129.l0.eq_2 ..) ?_
   exact qAd (by omega) (Ev.now _)
  | succ d ih =>
   intro i hi hz
   have hlen := hc (l.getD i []) (qA1 [] (by omega))
   have hv : z82.f (rI_ l (i : Int)) (c : Int) = some (rw' l i c != 0) := by
    unfold z82.f
    rw [qA3, if_pos (by omega), if_pos (by omega), qAx]; rfl
   by_cases h : rw' l i c = 0
   ·obtain ⟨t, ht, hh⟩ := ih (i + 1) (by omega) (fun j hj => by
     rcases Nat.lt_or_ge j i with h1 | h1
     ·exact hz j h1
     ·have : j = i := by omega
      rw [this]; exact h)
    refine ⟨t, ?_, hh⟩
    refine Ev.step (fun k => z129.l0.eq_2 ..) ?_
    (repeat (first | refine qAa (by omega) ?_ | refine qAd (by omega) ?_))
    refine Ev.bind (qAt hv) (qAd (by rw [h]; decide) ?_)
    rw [qAj (by omega)]; exact ht
   ·refine ⟨(i : Int), ?_, .inr ⟨i, rfl, by omega, h⟩⟩
    refine Ev.step (fun k => z129.l0.eq_2 ..) ?_
    (repeat (first | refine qAa (by omega) ?_ | refine qAd (by omega) ?_))
    exact Ev.bind (qAt hv) (qAa (by simpa using h) (Ev.now _))
 exact main l.length 0 (by omega) (fun j hj => by omega)
theorem qCs {p : Int} {n : Nat} {R : List (List Int)} (h : Vs p n R) {i : Nat} (hi : i < R.length) : (R.getD i []).length = n := (h _ (qA1 [] hi)).1
theorem qC8 {p : Nat} {n : Nat} {R : List (List Int)} (h : Vs (p : Int) n R) {i : Nat} (hi : i < R.length) : Rng p (R.getD i []) := (h _ (qA1 [] hi)).2
theorem qJe {p : Int} {n : Nat} {R : List (List Int)} (h : Vs p n R) (i : Nat) {x : List Int} (hx : x.length = n) (hr : ∀ y, y ∈ x → 0 ≤ y ∧ y < p) : Vs p n (R.set i x) := by
 intro y hy
 rcases List.mem_or_eq_of_mem_set hy with h1 | h1
 ·exact h y h1
 ·rw [h1]; exact ⟨hx, hr⟩
theorem qBy {R : List (List Int)} {a : Nat} (b : Nat) (x : List Int) (ha : a < R.length) : (R.set a x).getD b [] = if b = a then x else R.getD b [] := by
 rw [List.getD_eq_getElem?_getD, List.getElem?_set, List.getD_eq_getElem?_getD]
 by_cases h : b = a
 ·subst h; simp [ha]
 ·rw [if_neg (Ne.symm h), if_neg h]
def clr (p top c : Nat) (R : List (List Int)) (i : Nat) : List Int :=
 if i = top then R.getD i [] else if rw' R i c = 0 then R.getD i [] else addT p (R.getD i []) (R.getD top []) ((p : Int) - rw' R i c)
structure Clr (p n top c : Nat) (R0 : List (List Int)) (i : Nat) (R : List (List Int)) : Prop where
 len : R.length = R0.length
 at_ : ∀ j, j < R0.length → R.getD j [] = if j < i then clr p top c R0 j else R0.getD j []
theorem clr_ok {p n : Nat} (hp : 0 < p) {top c : Nat} {R : List (List Int)} (h : Vs (p : Int) n R) {i : Nat} (hi : i < R.length) : (clr p top c R i).length = n ∧ Rng p (clr p top c R i) := by
 unfold clr
 split
 ·exact ⟨qCs h hi, qC8 h hi⟩
 ·split
  ·exact ⟨qCs h hi, qC8 h hi⟩
  ·exact ⟨by rw [qIv, qCs h hi], qIu hp _ _ _⟩
theorem Clr.vs {p n : Nat} (hp : 0 < p) {top c : Nat} {R0 R : List (List Int)} {i : Nat} (h0 : Vs (p : Int) n R0) (h : Clr p n top c R0 i R) : Vs (p : Int) n R := by
 intro x hx
 obtain ⟨j, hj, rfl⟩ := List.getElem_of_mem hx
 have e : R[j] = R.getD j [] := by rw [List.getD_eq_getElem?_getD, List.getElem?_eq_getElem hj]; rfl
 have hj0 : j < R0.length := by rw [← h.len]; exact hj
 rw [e, h.at_ j hj0]
 split
 ·exact clr_ok hp h0 hj0
 ·exact ⟨qCs h0 hj0, qC8 h0 hj0⟩
theorem qLr {p n : Nat} (hp : isP p = true) (hn : n ≤ 1048576) {top c : Nat} (hc : c < n) {R0 : List (List Int)} (hv : Vs (p : Int) n R0) (ht : top < R0.length) (hm : R0.length ≤ 1048576) (q : List Int) (hq : q.length ≤ 1048576) (det : Int) {β : Int × Int} :
  ∃ R, Clr p n top c R0 R0.length R ∧ ∀ r, Ev (fun k => z61.l0 k R (n : Int) (p : Int) (q ++ [(c : Int)]) det (n : Int) ((c + 1 : Nat) : Int)) r →
   Ev (fun k => z61.l1 k R0 (n : Int) (p : Int) q det (top : Int) (n : Int) (c : Int) (R0.length : Int) 0 (c : Int)) r := by
 have h2 := qBd hp
 have main : ∀ (d i : Nat) (R : List (List Int)), i + d = R0.length → Clr p n top c R0 i R → ∃ R', Clr p n top c R0 R0.length R' ∧ ∀ r, Ev (fun k => z61.l0 k R' (n : Int) (p : Int) (q ++ [(c : Int)]) det (n : Int) ((c + 1 : Nat) : Int)) r →
   Ev (fun k => z61.l1 k R (n : Int) (p : Int) q det (top : Int) (n : Int) (c : Int) (R0.length : Int) (i : Int) (c : Int)) r := by
  intro d
  induction d with
  | zero =>
   intro i R hi hR
   have : i = R0.length := by omega
   subst this
   refine ⟨R, hR, fun r hr => ?_⟩
   refine Ev.step (fun k => z61.l1.eq_2 ..) ?_
   refine qAd (by omega) (qAa (by omega) ?_)
   rw [qAj (by omega)]; exact hr
  | succ d ih =>
   intro i R hi hR
   have hRv := hR.vs (by omega) hv
   have hRl := hR.len
   have hrow : R.getD i [] = R0.getD i [] := by rw [hR.at_ i (by omega), if_neg (by omega)]
   have htop : R.getD top [] = R0.getD top [] := by
    rw [hR.at_ top ht]
    split
    ·unfold clr; rw [if_pos rfl]
    ·rfl
   have hlen := qCs hv (i := i) (by omega)
   have hval : rd (rI_ R (i : Int)) (c : Int) = rw' R0 i c := by rw [qA3, qAx, hrow]; rfl
   by_cases h1 : i = top
   ·obtain ⟨R', h3, h4⟩ := ih (i + 1) R (by omega) ⟨hRl, fun j hj => by
     rw [hR.at_ j hj]
     by_cases hji : j = i
     ·rw [hji, if_neg (Nat.lt_irrefl i), if_pos (Nat.lt_succ_self i)]; unfold clr; rw [if_pos h1]
     ·by_cases hjl : j < i
      ·rw [if_pos hjl, if_pos (by omega)]
      ·rw [if_neg hjl, if_neg (by omega)]⟩
    refine ⟨R', h3, fun r hr => ?_⟩
    refine Ev.step (fun k => z61.l1.eq_2 ..) ?_
    refine qAa (by omega) (qAa (by omega) (qAa (by omega) (qAa (by omega) ?_)))
    rw [qAj (by omega)]; exact h4 r hr
   ·by_cases h0 : rw' R0 i c = 0
    ·obtain ⟨R', h3, h4⟩ := ih (i + 1) R (by omega) ⟨hRl, fun j hj => by
      rw [hR.at_ j hj]
      by_cases hji : j = i
      ·rw [hji, if_neg (Nat.lt_irrefl i), if_pos (Nat.lt_succ_self i)]; unfold clr; rw [if_neg h1, if_pos h0]
      ·by_cases hjl : j < i
       ·rw [if_pos hjl, if_pos (by omega)]
       ·rw [if_neg hjl, if_neg (by omega)]⟩
     refine ⟨R', h3, fun r hr => ?_⟩
     refine Ev.step (fun k => z61.l1.eq_2 ..) ?_
     rw [hval]
     refine qAa (by omega) (qAa (by omega) (qAa (by omega) (qAd (by omega) (qAa (by omega) (qAa (by rw [qA3, hrow, hlen]; omega) (qAa h0 ?_))))))
     rw [qAj (by omega)]; exact h4 r hr
    ·have hb := qB9 (qC8 hv (i := i) (by omega)) (j := c) (by omega)
     have hb' : 0 ≤ rw' R0 i c ∧ rw' R0 i c < (p : Int) := hb
     have hadd := qDi (p := p) (by omega) h2.2 (R0.getD i []) (R0.getD top []) ((p : Int) - rw' R0 i c) (qC8 hv (by omega)) (qC8 hv ht) (by rw [qCs hv ht, hlen]; exact Nat.le_refl _) (by omega) (by omega) (by omega)
     obtain ⟨R', h3, h4⟩ := ih (i + 1) (R.set i (addT p (R0.getD i []) (R0.getD top []) ((p : Int) - rw' R0 i c))) (by omega) ⟨by rw [List.length_set, hRl], fun j hj => by
      rw [qBy j _ (by omega)]
      by_cases hji : j = i
      ·rw [if_pos hji, hji, if_pos (Nat.lt_succ_self i)]; unfold clr; rw [if_neg h1, if_neg h0]
      ·rw [if_neg hji, hR.at_ j hj]
       by_cases hjl : j < i
       ·rw [if_pos hjl, if_pos (by omega)]
       ·rw [if_neg hjl, if_neg (by omega)]⟩
     refine ⟨R', h3, fun r hr => ?_⟩
     refine Ev.step (fun k => z61.l1.eq_2 ..) ?_
     rw [hval]
     refine qAa (by omega) (qAa (by omega) (qAa (by omega) (qAd (by omega) (qAa (by omega) (qAa (by rw [qA3, hrow, hlen]; omega) (qAd h0 (qAa (by omega) (qAa (by omega) ?_))))))))
     rw [qA3, qA3, hrow, htop, qAi (by omega) (by omega), qAj (by omega)]
     exact Ev.bind hadd (h4 r hr)
 obtain ⟨R', h1, h3⟩ := main R0.length 0 R0 (by omega) ⟨rfl, fun j hj => by rw [if_neg (by omega)]⟩
 exact ⟨R', h1, h3⟩
structure StI (p n : Nat) (L : List (List Int)) (c : Nat) (R : List (List Int)) (q : List Int) : Prop where
 len : R.length = L.length
 vs : Vs (p : Int) n R
 pos : ∀ x, x ∈ q → 0 ≤ x
 el : El (p : Int) n L.length (rw' L) c q.length (rw' R) (fun i => (q.getD i 0).toNat)
theorem qIn (a : Int) (p : Int) : p ∣ a % p - a := by
 have := Int.dvd_neg.2 (Int.dvd_self_sub_emod (x := a) (m := p))
 rwa [show -(a - a % p) = a % p - a by omega] at this
theorem qJ8 {p n : Nat} (hp : isP p = true) (hn : n ≤ 1048576) {L : List (List Int)} (hm : L.length ≤ 1048576) {c : Nat} (hc : c < n) {R : List (List Int)} {q : List Int} (h : StI p n L c R q) (hq : q.length ≤ c) (hqm : q.length < L.length) (hne : rw' R q.length c ≠ 0) (det : Int) :
  ∃ R' det', StI p n L (c + 1) R' (q ++ [(c : Int)]) ∧ ∀ r, Ev (fun k => z61.l0 k R' (n : Int) (p : Int) (q ++ [(c : Int)]) det' (n : Int) ((c + 1 : Nat) : Int)) r →
   Ev (fun k => z61.j1 k R (n : Int) (p : Int) q det (q.length : Int) (n : Int) (c : Int) (c : Int)) r := by
 have h2 := qBd hp
 have hRl := h.len
 have htop := qCs h.vs (i := q.length) (by omega)
 have hb : 0 ≤ rw' R q.length c ∧ rw' R q.length c < (p : Int) := qB9 (qC8 h.vs (i := q.length) (by omega)) (j := c) (by omega)
 obtain ⟨a, ha⟩ := Int.eq_ofNat_of_zero_le hb.1
 have hap : a < p := by omega
 have hinv := qI7 hp hap
 have hcong := qH1 hp hap (by omega)
 have hbp : a ^ (p - 2) % p < p := Nat.mod_lt _ (by omega)
 generalize hbe : a ^ (p - 2) % p = b at hinv hcong hbp
 have hz : Rng p (List.replicate n 0) := fun y hy => by rw [(List.mem_replicate.1 hy).2]; omega
 have hadd := qDi (p := p) (by omega) h2.2 (List.replicate n 0) (R.getD q.length []) (b : Int) hz (qC8 h.vs (by omega)) (by rw [htop]; simp) (by simpa using hn) (by omega) (by omega)
 generalize hR1 : addT p (List.replicate n 0) (R.getD q.length []) (b : Int) = x1 at hadd
 have hx1l : x1.length = n := by rw [← hR1, qIv]; simp
 have hx1r : Rng p x1 := by rw [← hR1]; exact qIu (by omega) _ _ _
 have hx1 : ∀ j, j < n → (p : Int) ∣ x1.getD j 0 - (b : Int) * rw' R q.length j := fun j hj => by
  have e : x1.getD j 0 = ((b : Int) * rw' R q.length j) % (p : Int) := by
   rw [← hR1, qIw (by simpa using hj)]
   have : (List.replicate n (0 : Int)).getD j 0 = 0 := by simp [List.getD_eq_getElem?_getD, hj]
   rw [this, Int.zero_add]; rfl
  rw [e]; exact qIn _ _
 have hv1 : Vs (p : Int) n (R.set q.length x1) := qJe h.vs _ hx1l hx1r
 obtain ⟨R2, hclr, hgo⟩ := qLr (β := (0, 0)) hp hn hc hv1 (top := q.length) (by rw [List.length_set]; omega) (by rw [List.length_set]; omega) q (by omega) (Int.tmod (wrap64 (det * (a : Int))) (p : Int))
 have hR2v := hclr.vs (by omega) hv1
 have hR2l : R2.length = L.length := by rw [hclr.len, List.length_set, hRl]
 have htop2 : R2.getD q.length [] = x1 := by
  rw [hclr.at_ _ (by rw [List.length_set]; omega), if_pos (by rw [List.length_set]; omega)]
  unfold clr
  rw [if_pos rfl, qBy _ _ (by omega), if_pos rfl]
 have hoth : ∀ i, i < L.length → i ≠ q.length → ∀ j, j < n → (p : Int) ∣ rw' R2 i j - (rw' R i j - rw' R i c * rw' R2 q.length j) := fun i hi hne j hj => by
  have e0 : ∀ t, rw' (R.set q.length x1) i t = rw' R i t := fun t => by unfold rw'; rw [qBy _ _ (by omega), if_neg hne]
  have e1 : R2.getD i [] = clr p q.length c (R.set q.length x1) i := by rw [hclr.at_ _ (by rw [List.length_set]; omega), if_pos (by rw [List.length_set]; omega)]
  have e2 : (R.set q.length x1).getD i [] = R.getD i [] := by rw [qBy _ _ (by omega), if_neg hne]
  have e3 : (R.set q.length x1).getD q.length [] = x1 := by rw [qBy _ _ (by omega), if_pos rfl]
  have e4 : rw' R2 q.length j = x1.getD j 0 := by unfold rw' vec; rw [htop2]
  unfold clr at e1
  rw [if_neg hne, e0 c, e2, e3] at e1
  by_cases hz : rw' R i c = 0
  ·rw [if_pos hz] at e1
   have : rw' R2 i j = rw' R i j := by unfold rw'; rw [e1]
   rw [this, hz, Int.zero_mul]; simp
  ·rw [if_neg hz] at e1
   have : rw' R2 i j = (rw' R i j + ((p : Int) - rw' R i c) * x1.getD j 0) % (p : Int) := by
    unfold rw' vec
    rw [e1, qIw (by rw [qCs h.vs (by omega)]; exact hj)]
    rfl
   rw [this, e4]
   have h5 := qIn (rw' R i j + ((p : Int) - rw' R i c) * x1.getD j 0) (p : Int)
   have h6 := Int.dvd_add h5 (Int.dvd_mul_right (p : Int) (x1.getD j 0))
   rwa [show (rw' R i j + ((p : Int) - rw' R i c) * x1.getD j 0) % (p : Int) - (rw' R i j + ((p : Int) - rw' R i c) * x1.getD j 0) + (p : Int) * x1.getD j 0 = (rw' R i j + ((p : Int) - rw' R i c) * x1.getD j 0) % (p : Int) - (rw' R i j - rw' R i c * x1.getD j 0) by grind] at h6
 have hqs : ∀ i, i < q.length → ((q ++ [(c : Int)]).getD i 0) = q.getD i 0 := fun i hi => by
  rw [List.getD_eq_getElem?_getD, List.getElem?_append_left hi, List.getD_eq_getElem?_getD]
 refine ⟨R2, Int.tmod (wrap64 (det * (a : Int))) (p : Int), ⟨hR2l, hR2v, fun x hx => ?_, ?_⟩, fun r hr => ?_⟩
 ·rcases List.mem_append.1 hx with h1 | h1
  ·exact h.pos x h1
  ·rw [List.mem_singleton.1 h1]; omega
 ·rw [List.length_append]
  refine h.el.step hc hqm (b := (b : Int)) (by rw [ha]; exact hcong) (fun j hj => ?_) (fun i j hi hne hj => hoth i hi hne j hj) (fun i hi => by rw [hqs i hi]) (by simp) (fun i j hi hj => ?_) (fun i j hi hj => ?_)
  ·have : rw' R2 q.length j = x1.getD j 0 := by unfold rw' vec; rw [htop2]
   rw [this]; exact hx1 j hj
  ·exact (qFn hR2v (by omega) hj).1
  ·exact (qFn hR2v (by omega) hj).2
 ·refine Ev.step (fun k => z61.j1.eq_2 ..) ?_
  have hrd : rd (rI_ R (q.length : Int)) (c : Int) = (a : Int) := by rw [qA3, qAx, ← ha]; rfl
  rw [hrd]
  refine qAa (by omega) (qAa (by omega) (qAa (by omega) (qAa (by rw [qA3, htop]; omega) (qAd (by omega) (qAa (by omega) (qAa (by omega) (Ev.bind hinv ?_)))))))
  rw [qA3]
  refine Ev.bind (by simpa using hadd) ?_
  have := hgo r hr
  rw [List.length_set] at this
  simpa using this
theorem qMo {p n : Nat} (hp : isP p = true) (hn : n ≤ 1048576) {L : List (List Int)} (hm : L.length ≤ 1048576) (hL : Vs (p : Int) n L) :
  ∃ R q det, Ev (fun k => z61.f k L (n : Int) (p : Int)) (q, det, R) ∧ StI p n L n R q := by
 have h2 := qBd hp
 unfold z61.f
 have main : ∀ (d c : Nat) (R : List (List Int)) (q : List Int) (det : Int), c + d = n → q.length ≤ c → StI p n L c R q →
   ∃ R' q' det', Ev (fun k => z61.l0 k R (n : Int) (p : Int) q det (n : Int) (c : Int)) (q', det', R') ∧ StI p n L n R' q' := by
  intro d
  induction d with
  | zero =>
   intro c R q det hc hq h
   have : c = n := by omega
   subst this
   refine ⟨R, q, det, ?_, h⟩
   refine Ev.step (fun k => z61.l0.eq_2 ..) ?_
   exact qAd (by omega) (Ev.now _)
  | succ d ih =>
   intro c R q det hc hq h
   have hrm := h.el.g.rm
   have hRl := h.len
   obtain ⟨t, ht, hd⟩ := qMl (R.drop q.length) c (fun x hx => by have := (h.vs x (List.mem_of_mem_drop hx)).1; omega) (by rw [List.length_drop]; omega)
   have hdrop : ∀ i, i < (R.drop q.length).length → rw' (R.drop q.length) i c = rw' R (q.length + i) c := fun i hi => by
    unfold rw' vec
    rw [List.getD_eq_getElem?_getD (l := R.drop q.length), List.getElem?_drop, ← List.getD_eq_getElem?_getD]
   have hdl : (R.drop q.length).length = L.length - q.length := by rw [List.length_drop, hRl]
   rcases hd with ⟨e, hz⟩ | ⟨i, e, hi, hne⟩
   ·subst e
    obtain ⟨R', q', det', h3, h4⟩ := ih (c + 1) R q 0 (by omega) (by omega) ⟨h.len, h.vs, h.pos, h.el.none (fun i h1 h3 => by
     have := hz (i - q.length) (by omega)
     rw [hdrop _ (by omega), show q.length + (i - q.length) = i by omega] at this; exact this)⟩
    refine ⟨R', q', det', ?_, h4⟩
    refine Ev.step (fun k => z61.l0.eq_2 ..) ?_
    refine qAa (by omega) (qAa (by omega) (qAa (by omega) (Ev.bind (by simpa using ht) (qAa (by decide) ?_))))
    rw [qAj (by omega)]; exact h3
   ·subst e
    rw [hdrop i hi] at hne
    have hqm : q.length < L.length := by omega
    rcases Nat.eq_zero_or_pos i with h0 | h0
    ·subst h0
     rw [Nat.add_zero] at hne
     obtain ⟨R1, det1, hst, hgo⟩ := qJ8 hp hn hm (by omega) h hq hqm hne det
     obtain ⟨R', q', det', h3, h4⟩ := ih (c + 1) R1 (q ++ [(c : Int)]) det1 (by omega) (by simp; omega) hst
     refine ⟨R', q', det', ?_, h4⟩
     refine Ev.step (fun k => z61.l0.eq_2 ..) ?_
     refine qAa (by omega) (qAa (by omega) (qAa (by omega) (Ev.bind (by simpa using ht) (qAd (by decide) (qAd (by decide) ?_)))))
     exact hgo _ h3
    ·have g1 : (c : Int) < (n : Int) := by omega
     have g2 : (0 : Int) ≤ (q.length : Int) := by omega
     have g3 : (q.length : Int) ≤ (R.length : Int) := by omega
     have g4 : ¬ ((i : Int) < 0) := by omega
     have g5 : (i : Int) > 0 := by omega
     have g6 : (0 : Int) ≤ ((q.length + i : Nat) : Int) := by omega
     have g7 : ((q.length + i : Nat) : Int) < (R.length : Int) := by omega
     have g8 : (q.length : Int) < (R.length : Int) := by omega
     have hs : StI p n L c ((R.set q.length (R.getD (q.length + i) [])).set (q.length + i) (R.getD q.length [])) q := by
      refine ⟨by simp [hRl], qJe (qJe h.vs _ (qCs h.vs (by omega)) (qC8 h.vs (by omega))) _ (qCs h.vs (by omega)) (qC8 h.vs (by omega)), h.pos, ?_⟩
      have hat : ∀ j, ((R.set q.length (R.getD (q.length + i) [])).set (q.length + i) (R.getD q.length [])).getD j [] = if j = q.length + i then R.getD q.length [] else if j = q.length then R.getD (q.length + i) [] else R.getD j [] := fun j => by
       rw [qBy _ _ (by rw [List.length_set]; omega), qBy _ _ (by omega)]
      refine h.el.swap (a := q.length + i) (by omega) (by omega) (fun j => ?_) (fun j => ?_) (fun k j hk h1 h3 => ?_)
      ·unfold rw'; rw [hat, if_neg (by omega), if_pos rfl]
      ·unfold rw'; rw [hat, if_pos rfl]
      ·unfold rw'; rw [hat, if_neg h3, if_neg h1]
     have hne' : rw' ((R.set q.length (R.getD (q.length + i) [])).set (q.length + i) (R.getD q.length [])) q.length c ≠ 0 := by
      have : ((R.set q.length (R.getD (q.length + i) [])).set (q.length + i) (R.getD q.length [])).getD q.length [] = R.getD (q.length + i) [] := by
       rw [qBy _ _ (by rw [List.length_set]; omega), if_neg (by omega), qBy _ _ (by omega), if_pos rfl]
      unfold rw'; rw [this]; exact hne
     have hred : ∃ d2, z83.f (wrap64 (-det)) (p : Int) = some d2 := ⟨_, by unfold z83.f; rw [if_neg (by omega)]⟩
     obtain ⟨d2, hd2⟩ := hred
     obtain ⟨R1, det1, hst, hgo⟩ := qJ8 hp hn hm (by omega) hs hq hqm hne' d2
     obtain ⟨R', q', det', h3, h4⟩ := ih (c + 1) R1 (q ++ [(c : Int)]) det1 (by omega) (by simp; omega) hst
     refine ⟨R', q', det', ?_, h4⟩
     refine Ev.step (fun k => z61.l0.eq_2 ..) ?_
     have hw : wrap64 ((q.length : Int) + (i : Int)) = ((q.length + i : Nat) : Int) := by rw [qAi (by omega) (by omega)]; omega
     refine qAa g1 (qAa g2 (qAa g3 (Ev.bind (by simpa using ht) (qAd g4 (qAa g5 ?_)))))
     rw [hw]
     refine qAa g6 (qAa g7 (qAa g8 (Ev.bind (qAt hd2) ?_)))
     rw [qA3, qA3, Int.toNat_natCast, Int.toNat_natCast]
     exact hgo _ h3
 obtain ⟨R', q', det', h3, h4⟩ := main n 0 L [] 1 (by omega) (by simp) ⟨rfl, hL, fun x hx => by simp at hx, El.start (fun i j hi hj => (qFn hL hi hj).1) (fun i j hi hj => (qFn hL hi hj).2) _⟩
 exact ⟨R', q', det', h3, h4⟩
theorem StI.red {p n : Nat} {L R : List (List Int)} {q : List Int} (h : StI p n L n R q) : Red (p : Int) n L (R.take q.length) q := Red.of h.len h.vs rfl h.pos h.el
end Go.Proofs.Ytgdfkcipffjjcaa.B
set_option linter.unusedVariables false
set_option linter.unusedSimpArgs false
namespace Go.Proofs.Ytgdfkcipffjjcaa.B
open Go.RowKit Go.Proofs.YtgdfkcipffjjcaaW.PrintWords
open LinT
theorem qH0 {p : Nat} (hp0 : 2 ≤ p) (hp : p ≤ 251) {a : Nat} (ha : a < p) : ∀ (n x : Nat), n ≤ 1000 → x < p → Ev (fun k => z68.l0 k (a : Int) (p : Int) (x : Int) (n : Int)) ((x * a ^ n % p : Nat) : Int) := by
 intro n
 induction n with
 | zero =>
  intro x _ hx
  refine Ev.step (fun k => z68.l0.eq_2 ..) ?_
  refine qAd (by omega) (qBi (Ev.now _) ?_)
  rw [Nat.pow_zero, Nat.mul_one, Nat.mod_eq_of_lt hx]
 | succ n ih =>
  intro x hn hx
  have hb : x * a ≤ 250 * 250 := Nat.mul_le_mul (by omega) (by omega)
  have e1 : Int.tmod (wrap64 ((x : Int) * (a : Int))) (p : Int) = ((x * a % p : Nat) : Int) := by
   rw [← Int.natCast_mul, qAi (by omega) (by omega), qB4 (by omega)]; simp
  have e2 : wrap64 (((n + 1 : Nat) : Int) - 1) = (n : Int) := by rw [qAi (by omega) (by omega)]; omega
  refine Ev.step (fun k => z68.l0.eq_2 ..) ?_
  rw [e1, e2]
  clear e1 e2
  refine qAa (by omega) (qAd (by omega) (qBi (ih (x * a % p) (by omega) (Nat.mod_lt _ (by omega))) ?_))
  rw [Nat.mod_mul_mod, Nat.pow_succ, Nat.mul_assoc, Nat.mul_comm a]
theorem qFh {p a : Nat} (hp : isP p = true) (ha : a < p) : Ev (fun k => z68.f k (a : Int) (p : Int)) ((a ^ (p - 2) % p : Nat) : Int) := by
 have h2 := qBd hp
 unfold z68.f
 have e : wrap64 ((p : Int) - 2) = ((p - 2 : Nat) : Int) := by rw [qAi (by omega) (by omega)]; omega
 rw [e]
 have h := qH0 h2.1 h2.2 ha (p - 2) 1 (by omega) (by omega)
 rwa [Nat.one_mul] at h
theorem qJ6 {p : Nat} (hp : 2 ≤ p) (hp2 : p ≤ 251) {a : Int} (h0 : -1000000000 ≤ a) (h1 : a ≤ 1000000000) : z30.f a (p : Int) = some (a % (p : Int)) := by
 have := qI3 hp hp2 h0 h1
 unfold z83.f at this
 unfold z30.f
 exact this
theorem ix {i w j : Nat} (hi : i ≤ 1024) (hw : w ≤ 1024) (hj : j ≤ 1024) : wrap64 (wrap64 ((i : Int) * (w : Int)) + (j : Int)) = ((i * w + j : Nat) : Int) := by
 have hb : i * w ≤ 1024 * 1024 := Nat.mul_le_mul hi hw
 rw [← Int.natCast_mul, qAi (x := ((i * w : Nat) : Int)) (by omega) (by omega), qAi (by omega) (by omega)]; omega
theorem rdfl (w : Nat) (X : List Int) (i j : Nat) : rd X ((i * w + j : Nat) : Int) = fl w X i j := qAx X _
section
variable {p w m : Nat} (hp : isP p = true) (hw : w ≤ 1024) (hm : m ≤ 1024) (X0 : List Int) (q : List Int) (det : Int)
include hp hw hm
omit hp in
theorem qLn {row c : Nat} (hr : row ≤ m) (hc : c < w) {X : List Int} (hX : X.length = m * w) : ∃ t, row ≤ t ∧ t ≤ m ∧ ((t = m ∧ ∀ i, row ≤ i → i < m → fl w X i c = 0) ∨ (t < m ∧ fl w X t c ≠ 0)) ∧
  Le (fun k => z45.j3 k (p : Int) (w : Int) q det (row : Int) (c : Int) (t : Int) (p : Int) (m : Int) (w : Int) X0 (p : Int) (m : Int) (w : Int) X) (fun k => z45.l1 k (p : Int) (w : Int) q det (row : Int) (c : Int) (row : Int) (p : Int) (m : Int) (w : Int) X0 (p : Int) (m : Int) (w : Int) X) := by
 have main : ∀ (d t : Nat), t + d = m → row ≤ t → (∀ i, row ≤ i → i < t → fl w X i c = 0) → ∃ t', row ≤ t' ∧ t' ≤ m ∧ ((t' = m ∧ ∀ i, row ≤ i → i < m → fl w X i c = 0) ∨ (t' < m ∧ fl w X t' c ≠ 0)) ∧
  Le (fun k => z45.j3 k (p : Int) (w : Int) q det (row : Int) (c : Int) (t' : Int) (p : Int) (m : Int) (w : Int) X0 (p : Int) (m : Int) (w : Int) X) (fun k => z45.l1 k (p : Int) (w : Int) q det (row : Int) (c : Int) (t : Int) (p : Int) (m : Int) (w : Int) X0 (p : Int) (m : Int) (w : Int) X) := by
  intro d
  induction d with
  | zero =>
   intro t ht h1 hz
   have : t = m := by omega
   subst this
   refine ⟨t, h1, Nat.le_refl _, .inl ⟨rfl, hz⟩, fun r hr => ?_⟩
   refine Ev.step (fun k => z45.l1.eq_2 ..) ?_
   exact qAd (by omega) hr
  | succ d ih =>
   intro t ht h1 hz
   have hlt := qCc (show t < m by omega) hc
   have e := ix (i := t) (w := w) (j := c) (by omega) hw (by omega)
   by_cases h : fl w X t c = 0
   ·obtain ⟨t', a1, a2, a3, a4⟩ := ih (t + 1) (by omega) (by omega) (fun i hi hi2 => by
     rcases Nat.lt_or_ge i t with hl | hg
     ·exact hz i hi hl
     ·rw [show i = t by omega]; exact h)
    refine ⟨t', a1, a2, a3, fun r hr => ?_⟩
    have := a4 r hr
    refine Ev.step (fun k => z45.l1.eq_2 ..) ?_
    rw [e, rdfl]
    clear e
    refine qAa (by omega) (qAa (by omega) (qAa (by omega) (qAa h ?_)))
    rw [qAj (by omega)]; exact this
   ·refine ⟨t, h1, by omega, .inr ⟨by omega, h⟩, fun r hr => ?_⟩
    refine Ev.step (fun k => z45.l1.eq_2 ..) ?_
    rw [e, rdfl]
    clear e
    exact qAa (by omega) (qAa (by omega) (qAa (by omega) (qAd h hr)))
 exact main (m - row) row (by omega) (Nat.le_refl _) (fun i h1 h2 => by omega)
omit hp in
theorem qK8 {row c t : Nat} (hr : row < m) (ht : t < m) (hne : row ≠ t) {X : List Int} (hX : X.length = m * w) : ∃ Y, Swp w X row t w Y ∧
  Le (fun k => z45.j5 k (p : Int) (w : Int) q det (row : Int) (c : Int) (p : Int) (m : Int) (w : Int) X0 (p : Int) (m : Int) (w : Int) Y) (fun k => z45.l2 k (p : Int) (w : Int) q det (row : Int) (c : Int) (t : Int) 0 (p : Int) (m : Int) (w : Int) X0 (p : Int) (m : Int) (w : Int) X) := by
 have main : ∀ (d j : Nat) (Y : List Int), j + d = w → Swp w X row t j Y → ∃ Y', Swp w X row t w Y' ∧
  Le (fun k => z45.j5 k (p : Int) (w : Int) q det (row : Int) (c : Int) (p : Int) (m : Int) (w : Int) X0 (p : Int) (m : Int) (w : Int) Y') (fun k => z45.l2 k (p : Int) (w : Int) q det (row : Int) (c : Int) (t : Int) (j : Int) (p : Int) (m : Int) (w : Int) X0 (p : Int) (m : Int) (w : Int) Y) := by
  intro d
  induction d with
  | zero =>
   intro j Y hj hY
   have : j = w := by omega
   subst this
   refine ⟨Y, hY, fun r hr => ?_⟩
   refine Ev.step (fun k => z45.l2.eq_2 ..) ?_
   exact qAd (by omega) hr
  | succ d ih =>
   intro j Y hj hY
   have hl := hY.len
   have h1 := qCc hr (show j < w by omega)
   have h2 := qCc ht (show j < w by omega)
   obtain ⟨Y', h3, h4⟩ := ih (j + 1) _ (by omega) (hY.next hne (by omega) (by omega) (by omega))
   refine ⟨Y', h3, fun r hr => ?_⟩
   have := h4 r hr
   obtain ⟨e1, e2⟩ := And.intro (ix (i := t) (w := w) (j := j) (by omega) hw (by omega)) (ix (i := row) (w := w) (j := j) (by omega) hw (by omega))
   refine Ev.step (fun k => z45.l2.eq_2 ..) ?_
   rw [e1, e2, rdfl, rdfl]
   clear e1 e2
   refine qAa (by omega) (qAa (by omega) (qAa (by omega) (qAa (by omega) (qAa (by omega) ?_))))
   rw [qAj (by omega), Int.toNat_natCast, Int.toNat_natCast]; exact this
 exact main w 0 X (by omega) (Swp.start w X row t)
theorem qJu {row c : Nat} (hr : row < m) {inv : Nat} (hi : inv < p) {X : List Int} (hX : X.length = m * w) (hR : Rng p X) : ∃ Y, Upd w X row (fun j => fl w X row j * (inv : Int) % (p : Int)) w Y ∧
  Le (fun k => z45.l4 k (p : Int) (w : Int) q det (row : Int) (c : Int) 0 (p : Int) (m : Int) (w : Int) X0 (p : Int) (m : Int) (w : Int) Y) (fun k => z45.l3 k (p : Int) (w : Int) q det (row : Int) (c : Int) (inv : Int) 0 (p : Int) (m : Int) (w : Int) X0 (p : Int) (m : Int) (w : Int) X) := by
 have hp2 := qBd hp
 have main : ∀ (d j : Nat) (Y : List Int), j + d = w → Upd w X row (fun j => fl w X row j * (inv : Int) % (p : Int)) j Y → ∃ Y', Upd w X row (fun j => fl w X row j * (inv : Int) % (p : Int)) w Y' ∧
  Le (fun k => z45.l4 k (p : Int) (w : Int) q det (row : Int) (c : Int) 0 (p : Int) (m : Int) (w : Int) X0 (p : Int) (m : Int) (w : Int) Y') (fun k => z45.l3 k (p : Int) (w : Int) q det (row : Int) (c : Int) (inv : Int) (j : Int) (p : Int) (m : Int) (w : Int) X0 (p : Int) (m : Int) (w : Int) Y) := by
  intro d
  induction d with
  | zero =>
   intro j Y hj hY
   have : j = w := by omega
   subst this
   refine ⟨Y, hY, fun r hr => ?_⟩
   refine Ev.step (fun k => z45.l3.eq_2 ..) ?_
   exact qAd (by omega) hr
  | succ d ih =>
   intro j Y hj hY
   have hl := hY.len
   have h1 := qCc hr (show j < w by omega)
   have hv : fl w Y row j = fl w X row j := by rw [hY.at_ row j (by omega), if_neg (by omega)]
   have hx : 0 ≤ fl w X row j ∧ fl w X row j < (p : Int) := qB9 hR (by omega)
   have hb : 0 ≤ fl w X row j * (inv : Int) ∧ fl w X row j * (inv : Int) ≤ 250 * 250 := ⟨Int.mul_nonneg hx.1 (by omega), Int.mul_le_mul (by omega) (by omega) (by omega) (by decide)⟩
   obtain ⟨Y', h3, h4⟩ := ih (j + 1) _ (by omega) (hY.next (by omega) (by omega) (x := fl w X row j * (inv : Int) % (p : Int)) rfl)
   refine ⟨Y', h3, fun r hr => ?_⟩
   have := h4 r hr
   have e2 := ix (i := row) (w := w) (j := j) (by omega) hw (by omega)
   refine Ev.step (fun k => z45.l3.eq_2 ..) ?_
   rw [e2, rdfl, hv]
   clear e2
   refine qAa (by omega) (qAa (by omega) (qAa (by omega) (qAd (by omega) ?_)))
   rw [qAj (by omega), Int.toNat_natCast, qAi (by omega) (by omega), qB4 (by omega)]; exact this
 exact main w 0 X (by omega) (Upd.start w X row _)
theorem qKp {row c i : Nat} (hr : row < m) (hi : i < m) (hne : i ≠ row) {f : Int} (hf : 0 ≤ f ∧ f < (p : Int)) {X : List Int} (hX : X.length = m * w) (hR : ∀ i j, i < m → j < w → 0 ≤ fl w X i j ∧ fl w X i j < (p : Int)) : ∃ Y, Upd w X i (fun j => (fl w X i j - f * fl w X row j) % (p : Int)) w Y ∧
  Le (fun k => z45.l4 k (p : Int) (w : Int) q det (row : Int) (c : Int) ((i + 1 : Nat) : Int) (p : Int) (m : Int) (w : Int) X0 (p : Int) (m : Int) (w : Int) Y) (fun k => z45.l5 k (p : Int) (w : Int) q det (row : Int) (c : Int) (i : Int) f 0 (p : Int) (m : Int) (w : Int) X0 (p : Int) (m : Int) (w : Int) X) := by
 have hp2 := qBd hp
 have main : ∀ (d j : Nat) (Y : List Int), j + d = w → Upd w X i (fun j => (fl w X i j - f * fl w X row j) % (p : Int)) j Y → ∃ Y', Upd w X i (fun j => (fl w X i j - f * fl w X row j) % (p : Int)) w Y' ∧
  Le (fun k => z45.l4 k (p : Int) (w : Int) q det (row : Int) (c : Int) ((i + 1 : Nat) : Int) (p : Int) (m : Int) (w : Int) X0 (p : Int) (m : Int) (w : Int) Y') (fun k => z45.l5 k (p : Int) (w : Int) q det (row : Int) (c : Int) (i : Int) f (j : Int) (p : Int) (m : Int) (w : Int) X0 (p : Int) (m : Int) (w : Int) Y) := by
  intro d
  induction d with
  | zero =>
   intro j Y hj hY
   have : j = w := by omega
   subst this
   refine ⟨Y, hY, fun r hr => ?_⟩
   refine Ev.step (fun k => z45.l5.eq_2 ..) ?_
   refine qAd (by omega) ?_
   rw [qAj (by omega)]; exact hr
  | succ d ih =>
   intro j Y hj hY
   have hl := hY.len
   have h1 := qCc hr (show j < w by omega)
   have h2 := qCc hi (show j < w by omega)
   have hv : fl w Y i j = fl w X i j := by rw [hY.at_ i j (by omega), if_neg (by omega)]
   have hv2 : fl w Y row j = fl w X row j := by rw [hY.at_ row j (by omega), if_neg (by omega)]
   have hx := hR i j hi (by omega)
   have hx2 := hR row j hr (by omega)
   have hb : 0 ≤ f * fl w X row j ∧ f * fl w X row j ≤ 250 * 250 := ⟨Int.mul_nonneg hf.1 hx2.1, Int.mul_le_mul (by omega) (by omega) hx2.1 (by decide)⟩
   obtain ⟨Y', h3, h4⟩ := ih (j + 1) _ (by omega) (hY.next (by omega) (by omega) (x := (fl w X i j - f * fl w X row j) % (p : Int)) rfl)
   refine ⟨Y', h3, fun r hr => ?_⟩
   have := h4 r hr
   have hmv := qJ6 (p := p) hp2.1 hp2.2 (a := fl w X i j - f * fl w X row j) (by omega) (by omega)
   have b1 : -9223372036854775808 ≤ f * fl w X row j := by omega
   have b2 : f * fl w X row j ≤ 9223372036854775807 := by omega
   have b3 : -9223372036854775808 ≤ fl w X i j - f * fl w X row j := by omega
   have b4 : fl w X i j - f * fl w X row j ≤ 9223372036854775807 := by omega
   obtain ⟨e1, e2⟩ := And.intro (ix (i := i) (w := w) (j := j) (by omega) hw (by omega)) (ix (i := row) (w := w) (j := j) (by omega) hw (by omega))
   have e3 : wrap64 (fl w X i j - wrap64 (f * fl w X row j)) = fl w X i j - f * fl w X row j := by rw [qAi b1 b2, qAi b3 b4]
   refine Ev.step (fun k => z45.l5.eq_2 ..) ?_
   rw [e1, e2, rdfl, rdfl, hv, hv2, e3]
   clear e1 e2 e3
   refine qAa (by omega) (qAa (by omega) (qAa (by omega) (qAa (by omega) (qAa (by omega) (Ev.bind (qAt hmv) ?_)))))
   rw [qAj (by omega), Int.toNat_natCast]; exact this
 exact main w 0 X (by omega) (Upd.start w X i _)
omit hp hw hm in
def cl (p w row c : Nat) (X : List Int) (i j : Nat) : Int := if i = row ∨ fl w X i c = 0 then fl w X i j else (fl w X i j - fl w X i c * fl w X row j) % (p : Int)
omit hp hw hm in
theorem qKq {row c : Nat} (hp0 : 0 < p) {X : List Int} (hR : ∀ i j, i < m → j < w → 0 ≤ fl w X i j ∧ fl w X i j < (p : Int)) {i j : Nat} (hi : i < m) (hj : j < w) : 0 ≤ cl p w row c X i j ∧ cl p w row c X i j < (p : Int) := by
 unfold cl
 split
 ·exact hR i j hi hj
 ·exact ⟨Int.emod_nonneg _ (by omega), Int.emod_lt_of_pos _ (by omega)⟩
theorem qHl {row c : Nat} (hr : row < m) (hc : c < w) (hq : q.length ≤ 1048576) {X : List Int} (hX : X.length = m * w) (hR : ∀ i j, i < m → j < w → 0 ≤ fl w X i j ∧ fl w X i j < (p : Int)) : ∃ Y : List Int, Y.length = X.length ∧ (∀ i j, i < m → j < w → fl w Y i j = cl p w row c X i j) ∧
  Le (fun k => z45.l0 k (p : Int) (w : Int) (q ++ [(c : Int)]) det ((row + 1 : Nat) : Int) ((c + 1 : Nat) : Int) (p : Int) (m : Int) (w : Int) X0 (p : Int) (m : Int) (w : Int) Y) (fun k => z45.l4 k (p : Int) (w : Int) q det (row : Int) (c : Int) 0 (p : Int) (m : Int) (w : Int) X0 (p : Int) (m : Int) (w : Int) X) := by
 have hp2 := qBd hp
 have main : ∀ (d i : Nat) (Y : List Int), i + d = m → Y.length = X.length → (∀ i' j, i' < m → j < w → fl w Y i' j = if i' < i then cl p w row c X i' j else fl w X i' j) → ∃ Y' : List Int, Y'.length = X.length ∧ (∀ i j, i < m → j < w → fl w Y' i j = cl p w row c X i j) ∧
  Le (fun k => z45.l0 k (p : Int) (w : Int) (q ++ [(c : Int)]) det ((row + 1 : Nat) : Int) ((c + 1 : Nat) : Int) (p : Int) (m : Int) (w : Int) X0 (p : Int) (m : Int) (w : Int) Y') (fun k => z45.l4 k (p : Int) (w : Int) q det (row : Int) (c : Int) (i : Int) (p : Int) (m : Int) (w : Int) X0 (p : Int) (m : Int) (w : Int) Y) := by
  intro d
  induction d with
  | zero =>
   intro i Y hi hl hY
   have : i = m := by omega
   subst this
   refine ⟨Y, hl, fun i' j hi' hj => by rw [hY i' j hi' hj, if_pos hi'], fun r hr' => ?_⟩
   refine Ev.step (fun k => z45.l4.eq_2 ..) ?_
   refine qAd (by omega) (qAa (by omega) ?_)
   rw [qAj (by omega), qAj (by omega)]; exact hr'
  | succ d ih =>
   intro i Y hi hl hY
   have him : i < m := by omega
   have h1 := qCc him hc
   have e := ix (i := i) (w := w) (j := c) (by omega) hw (by omega)
   have hic : fl w Y i c = fl w X i c := by rw [hY i c him hc, if_neg (by omega)]
   by_cases h : i = row ∨ fl w X i c = 0
   ·obtain ⟨Y', a1, a2, a3⟩ := ih (i + 1) Y (by omega) hl (fun i' j hi' hj => by
     rw [hY i' j hi' hj]
     by_cases hlt : i' < i
     ·rw [if_pos hlt, if_pos (by omega)]
     ·rw [if_neg hlt]
      by_cases he : i' = i
      ·rw [if_pos (by omega), he]; unfold cl; rw [if_pos h]
      ·rw [if_neg (by omega)])
    refine ⟨Y', a1, a2, fun r hr' => ?_⟩
    have hn := a3 r hr'
    have hj8 : Ev (fun k => z45.j8 k (p : Int) (w : Int) q det (row : Int) (c : Int) (i : Int) (fl w Y i c) true (p : Int) (m : Int) (w : Int) X0 (p : Int) (m : Int) (w : Int) Y) r := by
     refine Ev.step (fun k => z45.j8.eq_2 ..) ?_
     refine qAa rfl ?_
     rw [qAj (by omega)]; exact hn
    refine Ev.step (fun k => z45.l4.eq_2 ..) ?_
    rw [e, rdfl]
    clear e
    refine qAa (by omega) (qAa (by omega) (qAa (by omega) ?_))
    by_cases hir : i = row
    ·exact qAa (by omega) hj8
    ·have hz : (fl w Y i c == 0) = true := by rw [hic, h.resolve_left hir]; rfl
     rw [hz]
     exact qAd (by omega) hj8
   ·have hne : i ≠ row := fun he => h (.inl he)
    have hnz : fl w X i c ≠ 0 := fun he => h (.inr he)
    have hYR : ∀ i j, i < m → j < w → 0 ≤ fl w Y i j ∧ fl w Y i j < (p : Int) := fun i' j hi' hj => by
     rw [hY i' j hi' hj]
     split
     ·exact qKq (by omega) hR hi' hj
     ·exact hR i' j hi' hj
    obtain ⟨Z, hZ, hgo⟩ := qKp hp hw hm X0 q det (c := c) hr him hne (f := fl w Y i c) (hYR i c him hc) (by omega) hYR
    have hrow : ∀ j, j < w → fl w Y row j = fl w X row j := fun j hj => by
     rw [hY row j hr hj]
     split
     ·unfold cl; rw [if_pos (.inl rfl)]
     ·rfl
    obtain ⟨Y', a1, a2, a3⟩ := ih (i + 1) Z (by omega) (by rw [hZ.len, hl]) (fun i' j hi' hj => by
     rw [hZ.at_ i' j hj]
     by_cases he : i' = i
     ·rw [if_pos ⟨he, hj⟩, if_pos (by omega), he]
      unfold cl
      rw [if_neg h, hic, hrow j hj, hY i j him hj, if_neg (by omega)]
     ·rw [if_neg (fun hh => he hh.1), hY i' j hi' hj]
      by_cases hlt : i' < i
      ·rw [if_pos hlt, if_pos (by omega)]
      ·rw [if_neg hlt, if_neg (by omega)])
    refine ⟨Y', a1, a2, fun r hr' => ?_⟩
    have hn := hgo r (a3 r hr')
    have hj8 : Ev (fun k => z45.j8 k (p : Int) (w : Int) q det (row : Int) (c : Int) (i : Int) (fl w Y i c) false (p : Int) (m : Int) (w : Int) X0 (p : Int) (m : Int) (w : Int) Y) r := by
     refine Ev.step (fun k => z45.j8.eq_2 ..) ?_
     exact qAd (by decide) hn
    refine Ev.step (fun k => z45.l4.eq_2 ..) ?_
    rw [e, rdfl]
    clear e
    have hz : (fl w Y i c == 0) = false := by rw [hic]; simpa using hnz
    rw [hz]
    exact qAa (by omega) (qAa (by omega) (qAa (by omega) (qAd (by omega) hj8)))
 exact main m 0 X (by omega) rfl (fun i' j hi' hj => by rw [if_neg (by omega)])
end
theorem qLz {p w m : Nat} {X : List Int} (hX : X.length = m * w) : Rng p X ↔ ∀ i j, i < m → j < w → 0 ≤ fl w X i j ∧ fl w X i j < (p : Int) := by
 constructor
 ·intro h i j hi hj
  have := qCc hi hj
  exact qB9 h (by omega)
 ·intro h y hy
  obtain ⟨k, hk, rfl⟩ := List.getElem_of_mem hy
  have hw : 0 < w := by
   rcases Nat.eq_zero_or_pos w with h0 | h0
   ·rw [h0, Nat.mul_zero] at hX; omega
   ·exact h0
  have h1 : k / w < m := (Nat.div_lt_iff_lt_mul hw).2 (by omega)
  have h2 := h (k / w) (k % w) h1 (Nat.mod_lt _ hw)
  unfold fl at h2
  rw [Nat.mul_comm, Nat.div_add_mod] at h2
  rwa [List.getD_eq_getElem?_getD, List.getElem?_eq_getElem hk, Option.getD_some] at h2
theorem qIk {p w m : Nat} (hp : isP p = true) (hw : w ≤ 1024) (hm : m ≤ 1024) (X0 : List Int) {L : List (List Int)} (hL : L.length = m) {c : Nat} (hc : c < w) {X : List Int} {q : List Int} (h : FlInv (p : Int) w m L c X q) (hq : q.length ≤ c) (hqm : q.length < m) (hne : fl w X q.length c ≠ 0) (det : Int) :
  ∃ Y det', FlInv (p : Int) w m L (c + 1) Y (q ++ [(c : Int)]) ∧
  Le (fun k => z45.l0 k (p : Int) (w : Int) (q ++ [(c : Int)]) det' ((q.length + 1 : Nat) : Int) ((c + 1 : Nat) : Int) (p : Int) (m : Int) (w : Int) X0 (p : Int) (m : Int) (w : Int) Y) (fun k => z45.j5 k (p : Int) (w : Int) q det (q.length : Int) (c : Int) (p : Int) (m : Int) (w : Int) X0 (p : Int) (m : Int) (w : Int) X) := by
 have h2 := qBd hp
 have hR : ∀ i j, i < m → j < w → 0 ≤ fl w X i j ∧ fl w X i j < (p : Int) := fun i j hi hj => ⟨h.el.ge i j hi hj, h.el.lt i j hi hj⟩
 have hRx := (qLz (p := p) h.len).2 hR
 obtain ⟨a, ha⟩ := Int.eq_ofNat_of_zero_le (hR q.length c hqm hc).1
 have hap : a < p := by have := (hR q.length c hqm hc).2; omega
 have hinv := qFh hp hap
 have hcong := qH1 hp hap (by omega)
 have hbp : a ^ (p - 2) % p < p := Nat.mod_lt _ (by omega)
 generalize hbe : a ^ (p - 2) % p = b at hinv hcong hbp
 obtain ⟨Y, hY, hgo1⟩ := qJu hp hw hm X0 q (Int.tmod (wrap64 (det * (a : Int))) (p : Int)) (c := c) hqm hbp h.len hRx
 have hYR : ∀ i j, i < m → j < w → 0 ≤ fl w Y i j ∧ fl w Y i j < (p : Int) := fun i j hi hj => by
  rw [hY.at_ i j hj]
  split
  ·exact ⟨Int.emod_nonneg _ (by omega), Int.emod_lt_of_pos _ (by omega)⟩
  ·exact hR i j hi hj
 obtain ⟨Z, hZl, hZ, hgo2⟩ := qHl hp hw hm X0 q (Int.tmod (wrap64 (det * (a : Int))) (p : Int)) hqm hc (by omega) (by rw [hY.len]; exact h.len) hYR
 have hqs : ∀ i, i < q.length → ((q ++ [(c : Int)]).getD i 0) = q.getD i 0 := fun i hi => by
  rw [List.getD_eq_getElem?_getD, List.getElem?_append_left hi, List.getD_eq_getElem?_getD]
 have hYrow : ∀ j, j < w → fl w Y q.length j = fl w X q.length j * (b : Int) % (p : Int) := fun j hj => by rw [hY.at_ _ j hj, if_pos ⟨rfl, hj⟩]
 have hYoth : ∀ i j, j < w → i ≠ q.length → fl w Y i j = fl w X i j := fun i j hj hi => by rw [hY.at_ _ j hj, if_neg (fun hh => hi hh.1)]
 have hZrow : ∀ j, j < w → fl w Z q.length j = fl w Y q.length j := fun j hj => by rw [hZ _ j hqm hj]; unfold cl; rw [if_pos (.inl rfl)]
 refine ⟨Z, Int.tmod (wrap64 (det * (a : Int))) (p : Int), ⟨by rw [hZl, hY.len, h.len], fun x hx => ?_, ?_⟩, fun r hr => ?_⟩
 ·rcases List.mem_append.1 hx with h1 | h1
  ·exact h.pos x h1
  ·rw [List.mem_singleton.1 h1]; omega
 ·rw [List.length_append]
  refine h.el.step hc hqm (b := (b : Int)) (by rw [ha]; exact hcong) (fun j hj => ?_) (fun i j hi hni hj => ?_) (fun i hi => by rw [hqs i hi]) (by simp) (fun i j hi hj => ?_) (fun i j hi hj => ?_)
  ·rw [hZrow j hj, hYrow j hj, Int.mul_comm]
   have := Int.dvd_neg.2 (Int.dvd_self_sub_emod (x := (b : Int) * fl w X q.length j) (m := (p : Int)))
   rwa [Int.neg_sub] at this
  ·rw [hZ i j hi hj, hZrow j hj]
   unfold cl
   by_cases hz : fl w X i c = 0
   ·rw [if_pos (.inr (by rw [hYoth i c hc hni]; exact hz)), hYoth i j hj hni, hz, Int.zero_mul]; simp
   ·rw [if_neg (fun hh => by rcases hh with hh | hh; exact hni hh; rw [hYoth i c hc hni] at hh; exact hz hh), hYoth i j hj hni, hYoth i c hc hni]
    have := Int.dvd_neg.2 (Int.dvd_self_sub_emod (x := fl w X i j - fl w X i c * fl w Y q.length j) (m := (p : Int)))
    rwa [Int.neg_sub] at this
  ·rw [hZ i j hi hj]; exact (qKq (by omega) hYR hi hj).1
  ·rw [hZ i j hi hj]; exact (qKq (by omega) hYR hi hj).2
 ·have hn := hgo1 r (hgo2 r hr)
  have hlt := qCc hqm hc
  have hl := h.len
  have e := ix (i := q.length) (w := w) (j := c) (by omega) hw (by omega)
  refine Ev.step (fun k => z45.j5.eq_2 ..) ?_
  rw [e, rdfl, ha]
  clear e
  exact qAa (by omega) (qAa (by omega) (qAd (by omega) (Ev.bind hinv hn)))
theorem qMc {p w m : Nat} (hp : isP p = true) (hw : w ≤ 1024) (hm : m ≤ 1024) {X : List Int} (hX : X.length = m * w) (hR : Rng p X) {L : List (List Int)} (hL : L.length = m) (hLX : ∀ i j, i < m → j < w → rw' L i j = fl w X i j) :
  ∃ Y q det, Ev (fun k => z45.f k (p : Int) (m : Int) (w : Int) X) ((p : Int), (m : Int), (w : Int), Y, q, det) ∧ FlInv (p : Int) w m L w Y q := by
 have h2 := qBd hp
 have hmw : m * w ≤ 1024 * 1024 := Nat.mul_le_mul hm hw
 have stop : ∀ (c : Nat) (Y q : List Int) (det : Int), Ev (fun k => z45.j1 k (p : Int) (w : Int) q det (q.length : Int) (c : Int) false (p : Int) (m : Int) (w : Int) X (p : Int) (m : Int) (w : Int) Y) ((p : Int), (m : Int), (w : Int), Y, q, det) := fun c Y q det => by
  refine Ev.step (fun k => z45.j1.eq_2 ..) ?_
  exact qAd (by decide) (Ev.now _)
 have main : ∀ (d c : Nat) (Y : List Int) (q : List Int) (det : Int), c + d = w → q.length ≤ c → FlInv (p : Int) w m L c Y q →
   ∃ Y' q' det', Ev (fun k => z45.l0 k (p : Int) (w : Int) q det (q.length : Int) (c : Int) (p : Int) (m : Int) (w : Int) X (p : Int) (m : Int) (w : Int) Y) ((p : Int), (m : Int), (w : Int), Y', q', det') ∧ FlInv (p : Int) w m L w Y' q' := by
  intro d
  induction d with
  | zero =>
   intro c Y q det hc hq h
   have : c = w := by omega
   subst this
   refine ⟨Y, q, det, ?_, h⟩
   refine Ev.step (fun k => z45.l0.eq_2 ..) ?_
   exact qAd (by omega) (stop _ _ _ _)
  | succ d ih =>
   intro c Y q det hc hq h
   have hrm := h.el.g.rm
   rcases Nat.lt_or_ge q.length m with hlt | hge
   ·obtain ⟨t, ht1, ht2, htd, hgo⟩ := qLn hw hm X q det (row := q.length) (c := c) (by omega) (by omega) h.len
    have hstart : ∀ r, Ev (fun k => z45.j3 k (p : Int) (w : Int) q det (q.length : Int) (c : Int) (t : Int) (p : Int) (m : Int) (w : Int) X (p : Int) (m : Int) (w : Int) Y) r →
      Ev (fun k => z45.l0 k (p : Int) (w : Int) q det (q.length : Int) (c : Int) (p : Int) (m : Int) (w : Int) X (p : Int) (m : Int) (w : Int) Y) r := fun r hr => by
     have hdec : decide ((q.length : Int) < (m : Int)) = true := decide_eq_true (by omega)
     refine Ev.step (fun k => z45.l0.eq_2 ..) ?_
     refine qAa (by omega) ?_
     rw [hdec]
     refine Ev.step (fun k => z45.j1.eq_2 ..) ?_
     exact qAa rfl (hgo r hr)
    rcases htd with ⟨e, hz⟩ | ⟨htm, hne⟩
    ·obtain ⟨Y', q', det', h3, h4⟩ := ih (c + 1) Y q det (by omega) (by omega) ⟨h.len, h.pos, h.el.none hz⟩
     refine ⟨Y', q', det', hstart _ ?_, h4⟩
     refine Ev.step (fun k => z45.j3.eq_2 ..) ?_
     refine qAa (by omega) ?_
     rw [qAj (by omega)]; exact h3
    ·rcases Nat.eq_or_lt_of_le ht1 with e | hlt2
     ·rw [← e] at hne
      obtain ⟨Y1, det1, hst, hgo1⟩ := qIk hp hw hm X hL (by omega) h hq hlt hne det
      obtain ⟨Y', q', det', h3, h4⟩ := ih (c + 1) Y1 (q ++ [(c : Int)]) det1 (by omega) (by simp; omega) hst
      refine ⟨Y', q', det', hstart _ ?_, h4⟩
      refine Ev.step (fun k => z45.j3.eq_2 ..) ?_
      refine qAd (by omega) (qAa (by omega) (hgo1 _ ?_))
      rw [List.length_append] at h3
      exact h3
     ·obtain ⟨Y1, hsw, hgo1⟩ := qK8 hw hm X q (wrap64 ((p : Int) - det)) (c := c) hlt htm (by omega) h.len
      have hs : FlInv (p : Int) w m L c Y1 q := by
       refine ⟨by rw [hsw.len, h.len], h.pos, ?_⟩
       refine h.el.swap' (a := t) (by omega) (by omega) htm (fun j hj => ?_) (fun j hj => ?_) (fun i j hi h1 h3 hj => ?_)
       ·rw [hsw.at_ _ j hj, if_pos hj, if_pos rfl]
       ·rw [hsw.at_ _ j hj, if_pos hj, if_neg (by omega), if_pos rfl]
       ·rw [hsw.at_ _ j hj, if_pos hj, if_neg h1, if_neg h3]
      have hne' : fl w Y1 q.length c ≠ 0 := by rw [hsw.at_ _ c (by omega), if_pos (by omega), if_pos rfl]; exact hne
      obtain ⟨Y2, det1, hst, hgo2⟩ := qIk hp hw hm X hL (by omega) hs hq hlt hne' (wrap64 ((p : Int) - det))
      obtain ⟨Y', q', det', h3, h4⟩ := ih (c + 1) Y2 (q ++ [(c : Int)]) det1 (by omega) (by simp; omega) hst
      refine ⟨Y', q', det', hstart _ ?_, h4⟩
      rw [List.length_append] at h3
      have h5 := hgo1 _ (hgo2 _ h3)
      have g1 : ¬ ((t : Int) = (m : Int)) := by omega
      have g2 : ¬ ((t : Int) = (q.length : Int)) := by omega
      refine Ev.step (fun k => z45.j3.eq_2 ..) ?_
      exact qAd g1 (qAd g2 h5)
   ·refine ⟨Y, q, det, ?_, h.len, h.pos, h.el.full (by omega) (by omega)⟩
    have hdec : decide ((q.length : Int) < (m : Int)) = false := decide_eq_false (by omega)
    refine Ev.step (fun k => z45.l0.eq_2 ..) ?_
    refine qAa (by omega) ?_
    rw [hdec]
    exact stop _ _ _ _
 have hfl := (qLz (p := p) hX).1 hR
 obtain ⟨Y', q', det', h3, h4⟩ := main w 0 X [] 1 (by omega) (by simp) ⟨hX, fun x hx => by simp at hx, (El.start (R := fl w X) (fun i j hi hj => (hfl i j hi hj).1) (fun i j hi hj => (hfl i j hi hj).2) _).congr0 fun i j hi hj => hLX i j hi hj⟩
 refine ⟨Y', q', det', ?_, h4⟩
 unfold z45.f
 have hown : z67.f X = some X := by
  unfold z67.f
  show (if (([] : List Int)).length + X.length < 17592186044416 then some ([] ++ X) else none) = some X
  rw [if_pos (by simp; omega)]; rfl
 exact Ev.bind (qAt hown) h3
end Go.Proofs.Ytgdfkcipffjjcaa.B
set_option linter.unusedVariables false
set_option linter.unusedSimpArgs false
namespace Go.Proofs.Ytgdfkcipffjjcaa.B
open Go.RowKit Go.Proofs.YtgdfkcipffjjcaaW.PrintWords
open LinT
theorem qKo (l : List Int) (hl : l.length ≤ 1048576) : slices_Clone_int64_int64.f l = some l := by
 unfold slices_Clone_int64_int64.f
 simp
 omega
theorem qJw {p m n : Nat} {X : List Int} (hX : X.length = m * n) (hm : m ≤ 1024) (hn : n ≤ 1024) : Ev (fun k => z60.f k (p : Int) (m : Int) (n : Int) X) (unfl n m X) := by
 unfold z60.f
 refine qEd (fun s i k => z60.l0 k s (m : Int) (i : Int) (p : Int) (m : Int) (n : Int) X) (fun i => (X.drop (i * n)).take n) m (fun i s hi hs r hr => ?_) _ ?_
 ·have hsl : s.length = i := by rw [hs]; simp
  have hrl := qC5 hX hi
  refine Ev.step (fun k => z60.l0.eq_2 ..) ?_
  refine qAa (by omega) (Ev.bind (qAt (qJx _ hX hm hn hi)) (Ev.bind (qAt (qKo _ (by omega))) (qAa (by omega) ?_)))
  rw [qAj (by omega)]; exact hr
 ·refine Ev.step (fun k => z60.l0.eq_2 ..) ?_
  exact qAd (by omega) (Ev.now _)
theorem qKd {α : Type} (z : α) (L : List α) {r i : Nat} (h : i < r) : (L.take r).getD i z = L.getD i z := by
 rw [List.getD_eq_getElem?_getD, List.getD_eq_getElem?_getD, List.getElem?_take_of_lt h]
theorem red_q {p : Int} {n : Nat} {L B : List (List Int)} {q : List Int} (h : Red p n L B q) {i : Nat} (hi : i < q.length) : 0 ≤ q.getD i 0 ∧ q.getD i 0 < (n : Int) := by
 have h1 := h.pos _ (qA1 0 hi)
 have h2 := h.rref.lt i (by rw [← h.len]; exact hi)
 exact ⟨h1, by omega⟩
end Go.Proofs.Ytgdfkcipffjjcaa.B
set_option linter.unusedVariables false
set_option linter.unusedSimpArgs false
namespace Go.Proofs.Ytgdfkcipffjjcaa.B
open Go.RowKit Go.Proofs.YtgdfkcipffjjcaaW.PrintWords
open LinT
def augL (m n : Nat) (X b : List Int) : List (List Int) := (List.range m).map fun i => (X.drop (i * n)).take n ++ [b.getD i 0]
theorem qBt (m n : Nat) (X b : List Int) : (augL m n X b).length = m := by simp [augL]
theorem qKw {p m n : Nat} {X b : List Int} (hX : X.length = m * n) (hR : Rng p X) (hb : b.length = m) (hbr : Rng p b) : Vs (p : Int) (n + 1) (augL m n X b) := by
 intro x hx
 obtain ⟨i, hi, rfl⟩ := List.mem_map.1 hx
 have him := List.mem_range.1 hi
 refine ⟨by rw [List.length_append, qC5 hX him]; rfl, fun y hy => ?_⟩
 rcases List.mem_append.1 hy with h | h
 ·exact hR y (List.mem_of_mem_drop (List.mem_of_mem_take h))
 ·rw [List.mem_singleton.1 h]; exact qB9 hbr (by omega)
def solG (B : List (List Int)) (q : List Int) (n : Nat) : Nat → Nat → List Int → List Int × Bool
 | 0, _, s => (s, true)
 | d + 1, i, s => if q.getD i 0 = (n : Int) then ([], false) else solG B q n d (i + 1) (s.set (q.getD i 0).toNat ((B.getD i []).getD n 0))
def solC (B : List (List Int)) (q : List Int) (n : Nat) : List Int × Bool := solG B q n q.length 0 (List.replicate n 0)
theorem qIf (B : List (List Int)) (q : List Int) (n : Nat) : ∀ d i s, (solG B q n d i s).1.length ≤ s.length
 | 0, i, s => Nat.le_refl _
 | d + 1, i, s => by
  unfold solG
  split
  ·simp
  ·have := qIf B q n d (i + 1) (s.set (q.getD i 0).toNat ((B.getD i []).getD n 0))
   rwa [List.length_set] at this
theorem qK9 (B : List (List Int)) (q : List Int) (n : Nat) : (solC B q n).1.length ≤ n := by
 have := qIf B q n q.length 0 (List.replicate n 0)
 rwa [List.length_replicate] at this
theorem qJo {p m n : Nat} (hp : isP p = true) {X b : List Int} (hX : X.length = m * n) (hR : Rng p X) (hb : b.length = m) (hbr : Rng p b) (hm : m ≤ 1000) (hn : n ≤ 1000) :
  ∃ B q, Red (p : Int) (n + 1) (augL m n X b) B q ∧ Ev (fun k => z36.f k (p : Int) (m : Int) (n : Int) X b) (solC B q n) := by
 have hvs := qKw hX hR hb hbr
 obtain ⟨R, q, det, hE, hst⟩ := qMo hp (n := n + 1) (L := augL m n X b) (by omega) (by rw [qBt]; omega) hvs
 have hred := hst.red
 refine ⟨R.take q.length, q, hred, ?_⟩
 have hRl := hst.len
 rw [qBt] at hRl
 have hqm := hst.el.g.rm
 rw [qBt] at hqm
 unfold z36.f
 refine Ev.bind (qJw hX (by omega) (by omega)) ?_
 -- the last part
 have hl1 : ∀ (d i : Nat) (s : List Int), i + d = q.length → s.length = n → Ev (fun k => z36.l1 k R s q (q.length : Int) (i : Int) (p : Int) (m : Int) (n : Int) X) (solG (R.take q.length) q n d i s) := by
  intro d
  induction d with
  | zero =>
   intro i s hi hs
   refine Ev.step (fun k => z36.l1.eq_2 ..) ?_
   exact qAd (by omega) (Ev.now _)
  | succ d ih =>
   intro i s hi hs
   have hqi := red_q hred (i := i) (by omega)
   have hrl := qCs hst.vs (i := i) (by omega)
   unfold solG
   refine Ev.step (fun k => z36.l1.eq_2 ..) ?_
   rw [qAx, qA3, qAx]
   by_cases h : q.getD i 0 = (n : Int)
   ·rw [if_pos h]
    exact qAa (by omega) (qAa (by omega) (qAa (by omega) (qAa h (Ev.now _))))
   ·rw [if_neg h]
    refine qAa (by omega) (qAa (by omega) (qAa (by omega) (qAd h (qAa (by omega) (qAa (by omega) (qAa (by omega) (qAa (by omega) (qAa (by omega) ?_))))))))
    rw [qAj (by omega), qKd [] R (show i < q.length by omega)]
    exact ih (i + 1) _ (by omega) (by rw [List.length_set]; exact hs)
 -- the rows get a further number
 have hl0 : ∀ (d i : Nat) (W : List (List Int)), i + d = m → W = (augL i n X b) ++ (unfl n m X).drop i → Ev (fun k => z36.l0 k b W (m : Int) (i : Int) (p : Int) (m : Int) (n : Int) X) (solC (R.take q.length) q n) := by
  intro d
  induction d with
  | zero =>
   intro i W hi hW
   have : i = m := by omega
   subst this
   have hWe : W = augL i n X b := by
    rw [hW, List.drop_of_length_le (by rw [qC4]; exact Nat.le_refl _), List.append_nil]
   rw [hWe]
   have e : wrap64 ((n : Int) + 1) = ((n + 1 : Nat) : Int) := qAj (by omega)
   refine Ev.step (fun k => z36.l0.eq_2 ..) ?_
   rw [e]
   clear e
   refine qAd (by omega) (Ev.bind hE (qAa (by omega) (qAa (by omega) ?_)))
   rw [Int.toNat_natCast]
   exact hl1 q.length 0 _ (by omega) (by simp)
  | succ d ih =>
   intro i W hi hW
   have hWi : W.getD i [] = (X.drop (i * n)).take n := by
    rw [hW, List.getD_eq_getElem?_getD, List.getElem?_append_right (by rw [qBt]; exact Nat.le_refl _), qBt, Nat.sub_self, List.getElem?_drop, Nat.add_zero]
    unfold unfl
    rw [List.getElem?_map, List.getElem?_range (by omega)]; rfl
   have hrl := qC5 hX (show i < m by omega)
   have hWl : W.length = m := by rw [hW, List.length_append, qBt, List.length_drop, qC4]; omega
   have hnext := ih (i + 1) (W.set i ((X.drop (i * n)).take n ++ [b.getD i 0])) (by omega) (by
    rw [hW, List.set_append_right _ _ (by rw [qBt]; exact Nat.le_refl _), qBt, Nat.sub_self]
    have hd : (unfl n m X).drop i = ((unfl n m X).getD i []) :: (unfl n m X).drop (i + 1) := by
     rw [List.drop_eq_getElem_cons (by rw [qC4]; omega), List.getD_eq_getElem?_getD, List.getElem?_eq_getElem (by rw [qC4]; omega)]; rfl
    rw [hd, List.set_cons_zero]
    have ha : augL (i + 1) n X b = augL i n X b ++ [(X.drop (i * n)).take n ++ [b.getD i 0]] := by
     unfold augL
     rw [List.range_succ, List.map_append]; rfl
    rw [ha, List.append_assoc]; rfl)
   refine Ev.step (fun k => z36.l0.eq_2 ..) ?_
   rw [qA3, qAx, hWi]
   refine qAa (by omega) (qAa (by omega) (qAa (by omega) (qAa (by omega) (qAa (by omega) ?_))))
   rw [qAj (by omega), Int.toNat_natCast]
   exact hnext
 have h := hl0 m 0 (unfl n m X) (by omega) (by simp [augL])
 rw [qC4]
 exact h
theorem qKx (m n : Nat) (X b : List Int) : augL (m + 1) n X b = augL m n X b ++ [(X.drop (m * n)).take n ++ [b.getD m 0]] := by
 unfold augL
 rw [List.range_succ, List.map_append]; rfl
theorem qMj {p m n : Nat} {X b : List Int} (hX : X.length = m * n) (hb : b.length = m) (hm : m ≤ 1000) (hn : n ≤ 1000) :
  Ev (fun k => z44.f k (p : Int) (m : Int) (n : Int) X (p : Int) (m : Int) 1 b) ((p : Int), (m : Int), ((n + 1 : Nat) : Int), (augL m n X b).flatten) := by
 unfold z44.f
 have e0 : wrap64 ((n : Int) + 1) = ((n + 1 : Nat) : Int) := qAj (by omega)
 rw [e0]
 clear e0
 have hmn : m * n ≤ 1000 * 1000 := Nat.mul_le_mul hm hn
 have main : ∀ (d i : Nat), i + d = m → Ev (fun k => z44.l0 k (i : Int) (p : Int) (m : Int) (n : Int) X (p : Int) (m : Int) 1 b (p : Int) (m : Int) ((n + 1 : Nat) : Int) (augL i n X b).flatten) ((p : Int), (m : Int), ((n + 1 : Nat) : Int), (augL m n X b).flatten) := by
  intro d
  induction d with
  | zero =>
   intro i hi
   have : i = m := by omega
   subst this
   refine Ev.step (fun k => z44.l0.eq_2 ..) ?_
   exact qAd (by omega) (Ev.now _)
  | succ d ih =>
   intro i hi
   have h := ih (i + 1) (by omega)
   have hrl := qC5 hX (show i < m by omega)
   have h2 := Nat.mul_le_mul_right n (show i + 1 ≤ m by omega)
   have h1 : (i + 1) * n = i * n + n := by rw [Nat.add_mul, Nat.one_mul]
   have hfl : (augL i n X b).flatten.length = i * (n + 1) := by
    rw [qDf (w := n + 1) _ (fun x hx => by
     obtain ⟨j, hj, rfl⟩ := List.mem_map.1 hx
     have := List.mem_range.1 hj
     rw [List.length_append, qC5 hX (by omega)]; rfl), qBt]
   have hfl2 : i * (n + 1) ≤ 1000 * 1001 := Nat.mul_le_mul (by omega) (by omega)
   obtain ⟨e1, e2, e3, e4, e5⟩ : wrap64 ((i : Int) * (n : Int)) = ((i * n : Nat) : Int) ∧ wrap64 (wrap64 ((i : Int) + 1) * (n : Int)) = ((i * n + n : Nat) : Int) ∧ wrap64 ((i : Int) * 1) = (i : Int) ∧ wrap64 (wrap64 ((i : Int) + 1) * 1) = ((i + 1 : Nat) : Int) ∧ wrap64 ((i : Int) + 1) = ((i + 1 : Nat) : Int) :=
    ⟨by rw [← Int.natCast_mul, qAi (by omega) (by omega)], by rw [qAj (by omega), ← Int.natCast_mul, h1, qAi (by omega) (by omega)], by rw [Int.mul_one, qAi (by omega) (by omega)], by rw [qAj (by omega), Int.mul_one, qAi (by omega) (by omega)], qAj (by omega)⟩
   refine Ev.step (fun k => z44.l0.eq_2 ..) ?_
   rw [e1, e2, e3, e4, e5]
   clear e1 e2 e3 e4 e5
   simp only [Int.toNat_natCast]
   have d1 : (X.take (i * n + n)).drop (i * n) = (X.drop (i * n)).take n := by rw [List.drop_take]; congr 1; omega
   have d2 : (b.take (i + 1)).drop i = [b.getD i 0] := by
    rw [List.drop_take, show i + 1 - i = 1 by omega, List.drop_eq_getElem_cons (by omega), List.take_succ_cons, List.take_zero, List.getD_eq_getElem?_getD, List.getElem?_eq_getElem (by omega)]; rfl
   rw [d1, d2]
   refine qAa (by omega) (qAa (by omega) (qAa (by omega) (qAa (by omega) (qAa (by omega) (Ev.bind (qAt rfl) (qAa (by omega) (qAa (by omega) (qAa (by omega) (qAa (by rw [List.length_append]; simp only [List.length_cons, List.length_nil]; omega) ?_)))))))))
   rw [qKx, List.flatten_append, List.flatten_cons, List.flatten_nil, List.append_nil, ← List.append_assoc] at h
   exact h
 exact main m 0 (by omega)
theorem qJn {p m n : Nat} (hp : isP p = true) {X b : List Int} (hX : X.length = m * n) (hR : Rng p X) (hb : b.length = m) (hbr : Rng p b) (hm : m ≤ 1000) (hn : n ≤ 1000) :
  ∃ B q, Red (p : Int) (n + 1) (augL m n X b) B q ∧ Ev (fun k => z29.f k (p : Int) (m : Int) (n : Int) X b) (solC B q n) := by
 have hvs := qKw hX hR hb hbr
 have hfl : (augL m n X b).flatten.length = m * (n + 1) := by rw [qDf (w := n + 1) _ (fun x hx => (hvs x hx).1), qBt]
 obtain ⟨Y, q, det, hE, hst⟩ := qMc hp (w := n + 1) (m := m) (X := (augL m n X b).flatten) (by omega) (by omega) hfl (fun y hy => by
  obtain ⟨x, hx, hy2⟩ := List.mem_flatten.1 hy
  exact (hvs x hx).2 y hy2) (L := augL m n X b) (qBt _ _ _ _) (fun i j hi hj => (qF3 _ (fun x hx => (hvs x hx).1) i j (by rw [qBt]; exact hi) hj).symm)
 have hst' : FlInv (p : Int) (n + 1) (augL m n X b).length (augL m n X b) (n + 1) Y q := by rw [qBt]; exact hst
 have hred := hst'.red
 have hqm := hst.el.g.rm
 refine ⟨unfl (n + 1) q.length Y, q, hred, ?_⟩
 unfold z29.f
 refine Ev.bind (qMj hX hb hm hn) (Ev.bind hE (qAa (by omega) (qAa (by rw [Int.toNat_natCast]; omega) ?_)))
 rw [Int.toNat_natCast]
 have hYl := hst.len
 have hl1 : ∀ (d i : Nat) (s : List Int), i + d = q.length → s.length = n → Ev (fun k => z29.l0 k q s (i : Int) (p : Int) (m : Int) (n : Int) X (p : Int) (m : Int) ((n + 1 : Nat) : Int) (augL m n X b).flatten (p : Int) (m : Int) ((n + 1 : Nat) : Int) Y) (solG (unfl (n + 1) q.length Y) q n d i s) := by
  intro d
  induction d with
  | zero =>
   intro i s hi hs
   refine Ev.step (fun k => z29.l0.eq_2 ..) ?_
   exact qAd (by omega) (Ev.now _)
  | succ d ih =>
   intro i s hi hs
   have hqi := red_q hred (i := i) (by omega)
   have hlt := qCc (show i < m by omega) (show n < n + 1 by omega)
   have hB : ((unfl (n + 1) q.length Y).getD i []).getD n 0 = fl (n + 1) Y i n := qId Y (by omega) (by omega)
   have e := ix (i := i) (w := n + 1) (j := n) (by omega) (by omega) (by omega)
   unfold solG
   refine Ev.step (fun k => z29.l0.eq_2 ..) ?_
   rw [qAx, e, rdfl, hB]
   clear e
   by_cases h : q.getD i 0 = (n : Int)
   ·rw [if_pos h]
    exact qAa (by omega) (qAa (by omega) (qAa h (Ev.now _)))
   ·rw [if_neg h]
    refine qAa (by omega) (qAa (by omega) (qAd h (qAa (by omega) (qAa (by omega) (qAa (by omega) (qAa (by omega) ?_))))))
    rw [qAj (by omega)]
    exact ih (i + 1) _ (by omega) (by rw [List.length_set]; exact hs)
 exact hl1 q.length 0 _ (by omega) (by simp)
theorem qI0 {p m n : Nat} (hp : isP p = true) {X b : List Int} (hX : X.length = m * n) (hR : Rng p X) (hb : b.length = m) (hbr : Rng p b) (hm : m ≤ 1000) (hn : n ≤ 1000) :
  ∃ r : List Int × Bool, r.1.length ≤ n ∧ Ev (fun k => z36.f k (p : Int) (m : Int) (n : Int) X b) r ∧ Ev (fun k => z29.f k (p : Int) (m : Int) (n : Int) X b) r := by
 obtain ⟨B, q, h1, h2⟩ := qJo hp hX hR hb hbr hm hn
 obtain ⟨B', q', h3, h4⟩ := qJn hp hX hR hb hbr hm hn
 obtain ⟨e1, e2⟩ := h1.unique (pr_of hp) h3 (fun v => Iff.rfl)
 subst e1 e2
 exact ⟨_, qK9 _ _ _, h2, h4⟩
end Go.Proofs.Ytgdfkcipffjjcaa.B
set_option linter.unusedVariables false
set_option linter.unusedSimpArgs false
namespace Go.Proofs.Ytgdfkcipffjjcaa.B
open Go.RowKit Go.Proofs.YtgdfkcipffjjcaaW.PrintWords
open SimT LinT
section
variable {C : List (List Int)} (hl : C.length ≤ 1048576) (hr : ∀ x ∈ C, x.length ≤ 1048576)
include hl hr
theorem qKi {p : Nat} (hp : isP p = true) (ho : okC C = true) {d : Int} (h0 : 0 ≤ d) (h3 : d ≤ 3) (hm : (qAr C d).length ≤ 32) (hn : (qAr C (d + 1)).length ≤ 32) {ch : List Int} (hc : ch.length = (qAr C d).length) (hcr : Rng p ch) :
  ∃ g : List Int × Bool, g.1.length ≤ 32 ∧ Ev (fun k => z19.f k C d (p : Int) ch) g ∧ Ev (fun k => z14.f k C d (p : Int) ch) g := by
 have h2 := qBd hp
 have e1 : d + 1 - 1 = d := by omega
 have hb := qDx C (d + 1) h2.1
 have hI := qIl hl hr hp ho (d := d + 1) (by omega) (by omega) (by rw [e1]; omega) (by omega)
 have hS := qIe hl hr hp ho (d := d + 1) (by omega) (by omega) (by rw [e1]; omega) (by omega)
 unfold bMat at hI hS
 rw [e1] at hb hI hS
 obtain ⟨g, hg, s1, s2⟩ := qI0 hp hb.1 hb.2 hc hcr (by omega) (by omega)
 have ew : wrap64 (d + 1) = d + 1 := qAi (by omega) (by omega)
 refine ⟨g, by omega, ?_, ?_⟩
 ·unfold z19.f
  rw [ew]
  exact Ev.bind hI (Ev.bind s1 (Ev.now _))
 ·unfold z14.f
  rw [ew]
  exact Ev.bind hS (Ev.bind s2 (Ev.now _))
end
end Go.Proofs.Ytgdfkcipffjjcaa.B
set_option linter.unusedVariables false
set_option linter.unusedSimpArgs false
namespace Go.Proofs.Ytgdfkcipffjjcaa.B
open Go.RowKit Go.Proofs.YtgdfkcipffjjcaaW.PrintWords
open LinT
def mulV (p : Nat) (m n : Nat) (X v : List Int) : List Int := (List.range m).map fun i => sm (fun j => fl n X i j * v.getD j 0) n % (p : Int)
theorem qGh {f : Nat → Int} {b : Int} : ∀ n, (∀ j, j < n → 0 ≤ f j ∧ f j ≤ b) → 0 ≤ sm f n ∧ sm f n ≤ (n : Int) * b
 | 0, _ => by simp [sm]
 | n + 1, h => by
  have h1 := qGh n (fun j hj => h j (by omega))
  have h2 := h n (by omega)
  show 0 ≤ sm f n + f n ∧ sm f n + f n ≤ _
  have e : ((n + 1 : Nat) : Int) * b = (n : Int) * b + b := by rw [Int.natCast_add, Int.add_mul]; simp
  rw [e]; omega
theorem qFv {p : Nat} (hp : p ≤ 251) {a b : Int} (ha : 0 ≤ a ∧ a < (p : Int)) (hb : 0 ≤ b ∧ b < (p : Int)) : 0 ≤ a * b ∧ a * b ≤ 62500 :=
 ⟨Int.mul_nonneg ha.1 hb.1, Int.le_trans (Int.mul_le_mul (show a ≤ 250 by omega) (show b ≤ 250 by omega) hb.1 (by decide)) (by decide)⟩
theorem dot_ev {p : Nat} (hp0 : 2 ≤ p) (hp : p ≤ 251) (x y : List Int) (hx : Rng p x) (hy : Rng p y) (hl : x.length ≤ y.length) (hm : x.length ≤ 1048576) :
  Ev (fun k => z54.f k x y (p : Int)) (sm (fun j => x.getD j 0 * y.getD j 0) x.length % (p : Int)) := by
 unfold z54.f
 have main : ∀ (d j : Nat), j + d = x.length → Ev (fun k => z54.l0 k x y (p : Int) (sm (fun j => x.getD j 0 * y.getD j 0) j % (p : Int)) (x.length : Int) (j : Int)) (sm (fun j => x.getD j 0 * y.getD j 0) x.length % (p : Int)) := by
  intro d
  induction d with
  | zero =>
   intro j hj
   have : j = x.length := by omega
   subst this
   refine Ev.step (fun k => z54.l0.eq_2 ..) ?_
   exact qAd (by omega) (Ev.now _)
  | succ d ih =>
   intro j hj
   have h := ih (j + 1) (by omega)
   have hb := qFv hp (qB9 hx (j := j) (by omega)) (qB9 hy (j := j) (by omega))
   have h1 := Int.emod_nonneg (sm (fun j => x.getD j 0 * y.getD j 0) j) (b := (p : Int)) (by omega)
   have h2 := Int.emod_lt_of_pos (sm (fun j => x.getD j 0 * y.getD j 0) j) (b := (p : Int)) (by omega)
   refine Ev.step (fun k => z54.l0.eq_2 ..) ?_
   rw [qAx, qAx]
   (repeat (first | refine qAa (by omega) ?_ | refine qAd (by omega) ?_))
   rw [qAj (by omega), qAi (x := x.getD j 0 * y.getD j 0) (by omega) (by omega), qAi (by omega) (by omega), qB4 (by omega), Int.emod_add_emod]
   exact h
 have h := main x.length 0 (by omega)
 simpa [sm] using h
theorem qLt {p m n : Nat} (hp0 : 2 ≤ p) (hp : p ≤ 251) {X v : List Int} (hX : X.length = m * n) (hr : Rng p X) (hv : v.length = n) (hvr : Rng p v) (hm : m ≤ 1024) (hn : n ≤ 1024) :
  Ev (fun k => z34.f k (p : Int) (m : Int) (n : Int) X v) (mulV p m n X v) := by
 unfold z34.f
 refine qEd (fun s i k => z34.l0 k v s (m : Int) (i : Int) (p : Int) (m : Int) (n : Int) X) (fun i => sm (fun j => fl n X i j * v.getD j 0) n % (p : Int)) m (fun i s hi hs r hr' => ?_) _ ?_
 ·have hsl : s.length = i := by rw [hs]; simp
  have hrl := qC5 hX hi
  have hd := dot_ev (p := p) hp0 hp ((X.drop (i * n)).take n) v (fun y hy => hr y (List.mem_of_mem_drop (List.mem_of_mem_take hy))) hvr (by omega) (by omega)
  rw [hrl, qDn n (fun j hj => by rw [qLd X i hj])] at hd
  refine Ev.step (fun k => z34.l0.eq_2 ..) ?_
  refine qAa (by omega) (Ev.bind (qAt (qJx _ hX hm hn hi)) (Ev.bind hd (qAa (by omega) ?_)))
  rw [qAj (by omega)]; exact hr'
 ·refine Ev.step (fun k => z34.l0.eq_2 ..) ?_
  exact qAd (by omega) (Ev.now _)
theorem qKy {p m n : Nat} (hp0 : 2 ≤ p) (hp : p ≤ 251) {X v : List Int} (hX : X.length = m * n) (hr : Rng p X) (hv : v.length = n) (hvr : Rng p v) (hm : m ≤ 1024) (hn : n ≤ 1024) :
  Ev (fun k => z28.f k (p : Int) (m : Int) (n : Int) X v) (mulV p m n X v) := by
 unfold z28.f
 have hb : m * n ≤ 1024 * 1024 := Nat.mul_le_mul hm hn
 refine qEd (fun s i k => z28.l0 k v s (i : Int) (p : Int) (m : Int) (n : Int) X) (fun i => sm (fun j => fl n X i j * v.getD j 0) n % (p : Int)) m (fun i s hi hs r hr' => ?_) _ ?_
 ·have hsl : s.length = i := by rw [hs]; simp
  have h2 := Nat.mul_le_mul_right n (show i + 1 ≤ m by omega)
  rw [Nat.add_mul, Nat.one_mul] at h2
  have hpr : ∀ j, j < n → 0 ≤ fl n X i j * v.getD j 0 ∧ fl n X i j * v.getD j 0 ≤ 62500 := fun j hj => qFv hp (by unfold fl; exact qB9 hr (by omega)) (qB9 hvr (by omega))
  have main : ∀ (d j : Nat), j + d = n → Ev (fun k => z28.l1 k v s (i : Int) (sm (fun j => fl n X i j * v.getD j 0) j) (j : Int) (p : Int) (m : Int) (n : Int) X) r := by
   intro d
   induction d with
   | zero =>
    intro j hj
    have : j = n := by omega
    subst this
    have hsb := qGh (b := 62500) j hpr
    refine Ev.step (fun k => z28.l1.eq_2 ..) ?_
    refine qAd (by omega) (qAd (by omega) (qAa (by omega) ?_))
    rw [qB4 hsb.1, qAj (by omega)]; exact hr'
   | succ d ih =>
    intro j hj
    have h := ih (j + 1) (by omega)
    have hsb := qGh (b := 62500) j (fun t ht => hpr t (by omega))
    have hj2 := hpr j (by omega)
    have e : wrap64 (wrap64 ((i : Int) * (n : Int)) + (j : Int)) = ((i * n + j : Nat) : Int) := by
     rw [← Int.natCast_mul, qAi (x := ((i * n : Nat) : Int)) (by omega) (by omega), qAi (by omega) (by omega)]; omega
    refine Ev.step (fun k => z28.l1.eq_2 ..) ?_
    rw [e, qAx, qAx]
    clear e
    refine qAa (by omega) (qAa (by omega) (qAa (by omega) (qAa (by omega) (qAa (by omega) ?_))))
    rw [qAj (by omega)]
    have e2 : X.getD (i * n + j) 0 * v.getD j 0 = fl n X i j * v.getD j 0 := rfl
    rw [e2, qAi (x := fl n X i j * v.getD j 0) (by omega) (by omega), qAi (by omega) (by omega)]
    exact h
  refine Ev.step (fun k => z28.l0.eq_2 ..) ?_
  exact qAa (by omega) (main n 0 (by omega))
 ·refine Ev.step (fun k => z28.l0.eq_2 ..) ?_
  exact qAd (by omega) (Ev.now _)
end Go.Proofs.Ytgdfkcipffjjcaa.B
set_option linter.unusedVariables false
set_option linter.unusedSimpArgs false
namespace Go.Proofs.Ytgdfkcipffjjcaa.B
open Go.RowKit Go.Proofs.YtgdfkcipffjjcaaW.PrintWords
theorem qFw (a : Int) : Ev (fun k => z53.f a) (a != 0) := qAt rfl
theorem qGs (l : List Int) (hl : l.length ≤ 1048576) : Ev (fun k => z127.f k l) (l.any fun a => a != 0) := by
 obtain ⟨t, ht, hd⟩ := qB5 (l) 0 (fun i k => z128.l0 k (l) ((l).length : Int) (i : Int) ) (fun a => a != 0) (fun j hj hp r hr => by
   refine Ev.step (fun k => z128.l0.eq_2 ..) ?_
   refine qAa (by omega) (qAa (by omega) (qAa (by omega) ?_))
   rw [qAx, qAj (by omega)]
   exact Ev.bind (qFw _) (qAd (by rw [hp]; decide) hr)) (fun j hj hp => by
   refine Ev.step (fun k => z128.l0.eq_2 ..) ?_
   refine qAa (by omega) (qAa (by omega) (qAa (by omega) ?_))
   rw [qAx]
   exact Ev.bind (qFw _) (qAa hp (Ev.now _))) (by
   refine Ev.step (fun k => z128.l0.eq_2 ..) ?_
   exact qAd (by omega) (Ev.now _))
 unfold z127.f z128.f
 refine Ev.bind ht (qBi (Ev.now _) hd)
theorem qJ9 (l : List Int) (hl : l.length ≤ 1048576) : Ev (fun k => z33.f k l) (l.all fun a => a == 0) := by
 unfold z33.f
 refine Ev.bind (qGs l hl) (qBi (Ev.now _) ?_)
 rw [List.any_eq_not_all_not]; simp [bne]
end Go.Proofs.Ytgdfkcipffjjcaa.B
set_option linter.unusedVariables false
set_option linter.unusedSimpArgs false
namespace Go.Proofs.Ytgdfkcipffjjcaa.B
open Go.RowKit Go.Proofs.YtgdfkcipffjjcaaW.PrintWords
theorem qMf (l : List Int) (hl : l.length ≤ 1048576) : Ev (fun k => z27.f k l) (l.all fun a => a == 0) := by
 unfold z27.f
 refine qH5 l 0 (fun (i : Nat) k => z27.l0 k l (i : Int)) (fun a => a == 0) (fun j hj hp r hr => ?_) (fun j hj hp => ?_) ?_
 ·refine Ev.step (fun k => z27.l0.eq_2 ..) ?_
  rw [qAx]
  refine qAa (by omega) (qAa (by omega) (qAa (eq_of_beq hp) ?_))
  rw [qAj (by omega)]; exact hr
 ·refine Ev.step (fun k => z27.l0.eq_2 ..) ?_
  rw [qAx]
  exact qAa (by omega) (qAa (by omega) (qAd (ne_of_beq_false hp) (Ev.now _)))
 ·refine Ev.step (fun k => z27.l0.eq_2 ..) ?_
  exact qAd (by omega) (Ev.now _)
end Go.Proofs.Ytgdfkcipffjjcaa.B
set_option linter.unusedVariables false
set_option linter.unusedSimpArgs false
namespace Go.Proofs.Ytgdfkcipffjjcaa.B
open Go.RowKit Go.Proofs.YtgdfkcipffjjcaaW.PrintWords
open SimT LinT
def cyc (C : List (List Int)) (d p : Int) (ch : List Int) : Bool := (mulV p.toNat (qAr C (d - 1)).length (qAr C d).length (qDy C d p) ch).all fun a => a == 0
theorem qIj (p m n : Nat) (X v : List Int) : (mulV p m n X v).length = m := by simp [mulV]
section
variable {C : List (List Int)} (hl : C.length ≤ 1048576) (hr : ∀ x ∈ C, x.length ≤ 1048576)
include hl hr
theorem qF1 {p : Nat} (hp : isP p = true) (ho : okC C = true) {d : Int} (h0 : 0 ≤ d) (h3 : d ≤ 3) (hm : (qAr C (d - 1)).length ≤ 32) (hn : (qAr C d).length ≤ 32) {ch : List Int} (hc : ch.length = (qAr C d).length) (hcr : Rng p ch) :
  Ev (fun k => z18.f k C d (p : Int) ch) (cyc C d (p : Int) ch) := by
 have h2 := qBd hp
 have hb := qDx C d h2.1
 unfold z18.f
 exact Ev.bind (qIl hl hr hp ho h0 (by omega) (by omega) (by omega)) (Ev.bind (qLt h2.1 h2.2 hb.1 hb.2 hc hcr (by omega) (by omega)) (Ev.bind (qJ9 _ (by rw [qIj]; omega)) (Ev.now _)))
theorem qFq {p : Nat} (hp : isP p = true) (ho : okC C = true) {d : Int} (h0 : 0 ≤ d) (h3 : d ≤ 3) (hm : (qAr C (d - 1)).length ≤ 32) (hn : (qAr C d).length ≤ 32) {ch : List Int} (hc : ch.length = (qAr C d).length) (hcr : Rng p ch) :
  Ev (fun k => z13.f k C d (p : Int) ch) (cyc C d (p : Int) ch) := by
 have h2 := qBd hp
 have hb := qDx C d h2.1
 unfold z13.f
 exact Ev.bind (qIe hl hr hp ho h0 (by omega) (by omega) (by omega)) (Ev.bind (qKy h2.1 h2.2 hb.1 hb.2 hc hcr (by omega) (by omega)) (Ev.bind (qMf _ (by rw [qIj]; omega)) (Ev.now _)))
end
end Go.Proofs.Ytgdfkcipffjjcaa.B
set_option linter.unusedVariables false
set_option linter.unusedSimpArgs false
namespace Go.Proofs.Ytgdfkcipffjjcaa.B
open Go.RowKit Go.Proofs.YtgdfkcipffjjcaaW.PrintWords
open SimT LinT
def less (p : Int) (x y : List Int) : List Int := (List.range x.length).map (fun i => (x.getD i 0 - y.getD i 0) % p)
theorem qLj (p : Int) (x y : List Int) : (less p x y).length = x.length := by simp [less]
theorem qLi {p : Nat} (hp : 0 < p) (x y : List Int) : Rng p (less p x y) := by
 intro a ha
 simp only [less, List.mem_map] at ha
 obtain ⟨i, _, rfl⟩ := ha
 exact ⟨Int.emod_nonneg _ (by omega), Int.emod_lt_of_pos _ (by omega)⟩
theorem qMh {p : Nat} (hp : 2 ≤ p) (hp2 : p ≤ 251) {x y : List Int} (hx : Rng p x) (hy : Rng p y) (hl : x.length ≤ y.length) (hm : x.length ≤ 1048576) : Ev (fun k => z15.f k x y (p : Int)) (less p x y) := by
 unfold z15.f
 have main : ∀ (d i : Nat), i + d = x.length → Ev (fun k => z15.l0 k x y (p : Int) ((List.range i).map (fun i => (x.getD i 0 - y.getD i 0) % (p : Int))) (i : Int)) (less p x y) := by
  intro d
  induction d with
  | zero =>
   intro i hi
   have hi : i = x.length := by omega
   subst hi
   refine Ev.step (fun k => z15.l0.eq_2 ..) ?_
   exact qAd (by omega) (Ev.now _)
  | succ d ih =>
   intro i hi
   have hxi := hx _ (qA1 (i := i) 0 (show i < x.length by omega))
   have hyi := hy _ (qA1 (i := i) 0 (show i < y.length by omega))
   have hlen : ((List.range i).map (fun i => (x.getD i 0 - y.getD i 0) % (p : Int))).length = i := by simp
   have hstep : (List.range i).map (fun i => (x.getD i 0 - y.getD i 0) % (p : Int)) ++ [(x.getD i 0 - y.getD i 0) % (p : Int)] = (List.range (i + 1)).map (fun i => (x.getD i 0 - y.getD i 0) % (p : Int)) := by
    rw [List.range_succ, List.map_append]; rfl
   have hval : z30.f (wrap64 (x.getD i 0 - y.getD i 0)) (p : Int) = some ((x.getD i 0 - y.getD i 0) % (p : Int)) := by
    rw [qAi (by omega) (by omega)]
    exact qJ6 hp hp2 (by omega) (by omega)
   refine Ev.step (fun k => z15.l0.eq_2 ..) ?_
   rw [qAx, qAx, qAj (by omega)]
   refine qAa (by omega) (qAa (by omega) (qAa (by omega) (Ev.bind (qAt hval) (qAa (by omega) ?_))))
   rw [hstep]
   exact ih (i + 1) (by omega)
 exact main x.length 0 (by omega)
theorem qI1 {C : List (List Int)} (hl : C.length ≤ 1048576) (hr : ∀ x ∈ C, x.length ≤ 1048576) (d p : Int) (a b : List Int) (ha : a.length ≤ 1048576) (hb : b.length ≤ 1048576) :
  ∃ g : Bool, Ev (fun k => z8.f k C d p a b) g ∧ Ev (fun k => z5.f k C d p a b) g := by
 have a1 := qD9 hl hr d p a ha
 have a2 := qEa hl hr d p a ha
 have b1 := qD9 hl hr d p b hb
 have b2 := qEa hl hr d p b hb
 have n1 : Ev (fun k => z8.j0 k d p a b true C) false := by
  refine Ev.step (fun k => z8.j0.eq_2 ..) ?_
  exact qAa rfl (Ev.now _)
 have n2 : Ev (fun k => z5.j0 k d p a b true C) false := by
  refine Ev.step (fun k => z5.j0.eq_2 ..) ?_
  exact qAa rfl (Ev.now _)
 unfold z8.f z5.f
 by_cases hz : askV C d p a = 0
 ·by_cases hy : askV C d p b = 0
  ·obtain ⟨ho, h0, h3, h4, h5, h6, q, rfl, hq, hlen, hrng⟩ := qHn hz
   obtain ⟨_, _, _, _, _, _, q', hqq, _, hlen', hrng'⟩ := qHn hy
   have : q' = q := by omega
   subst this
   have hq2 := qBd hq
   have ca1 := qF1 hl hr hq ho h0 h3 h4 h5 hlen hrng
   have ca2 := qFq hl hr hq ho h0 h3 h4 h5 hlen hrng
   have cb1 := qF1 hl hr hq ho h0 h3 h4 h5 hlen' hrng'
   have cb2 := qFq hl hr hq ho h0 h3 h4 h5 hlen' hrng'
   cases hca : cyc C d (q' : Int) a with
   | false =>
    rw [hca] at ca1 ca2
    exact ⟨false, Ev.bind a1 (qAa hz (Ev.bind b1 (qAa hy (Ev.bind ca1 (qAd (by decide) n1))))), Ev.bind a2 (qAa hz (Ev.bind b2 (qAa hy (Ev.bind ca2 (qAd (by decide) n2)))))⟩
   | true =>
    rw [hca] at ca1 ca2
    cases hcb : cyc C d (q' : Int) b with
    | false =>
     rw [hcb] at cb1 cb2
     exact ⟨false, Ev.bind a1 (qAa hz (Ev.bind b1 (qAa hy (Ev.bind ca1 (qAa rfl (Ev.bind cb1 n1)))))), Ev.bind a2 (qAa hz (Ev.bind b2 (qAa hy (Ev.bind ca2 (qAa rfl (Ev.bind cb2 n2))))))⟩
    | true =>
     rw [hcb] at cb1 cb2
     obtain ⟨g, hg, f1, f2⟩ := qKi hl hr hq ho h0 h3 h5 h6 (ch := less (q' : Int) a b) (by rw [qLj]; exact hlen) (qLi (by omega) a b)
     have e2 := qMh hq2.1 hq2.2 hrng hrng' (by omega) (by omega)
     have e1 := qDi (by omega) hq2.2 a b ((q' : Int) - 1) hrng hrng' (by omega) (by omega) (by omega) (by omega)
     have hsame : addT q' a b ((q' : Int) - 1) = less (q' : Int) a b := by
      unfold addT less
      refine List.map_congr_left (fun i _ => ?_)
      rw [show a.getD i 0 + ((q' : Int) - 1) * b.getD i 0 = (a.getD i 0 - b.getD i 0) + (q' : Int) * b.getD i 0 by rw [Int.sub_mul, Int.one_mul]; omega]
      exact Int.add_mul_emod_self_left _ _ _
     rw [hsame] at e1
     have ew : wrap64 ((q' : Int) - 1) = (q' : Int) - 1 := qAi (by omega) (by omega)
     refine ⟨g.2, Ev.bind a1 (qAa hz (Ev.bind b1 (qAa hy (Ev.bind ca1 (qAa rfl (Ev.bind cb1 ?_)))))), Ev.bind a2 (qAa hz (Ev.bind b2 (qAa hy (Ev.bind ca2 (qAa rfl (Ev.bind cb2 ?_))))))⟩
     ·refine Ev.step (fun k => z8.j0.eq_2 ..) ?_
      rw [ew]
      exact qAd (by decide) (Ev.bind e1 (Ev.bind f1 (Ev.now _)))
     ·refine Ev.step (fun k => z5.j0.eq_2 ..) ?_
      exact qAd (by decide) (Ev.bind e2 (Ev.bind f2 (Ev.now _)))
  ·exact ⟨false, Ev.bind a1 (qAa hz (Ev.bind b1 (qAd hy n1))), Ev.bind a2 (qAa hz (Ev.bind b2 (qAd hy n2)))⟩
 ·exact ⟨false, Ev.bind a1 (qAd hz n1), Ev.bind a2 (qAd hz n2)⟩
theorem qD3 {l0 : List (List Int)} {a1 a2 : Int} {l3 l4 : List Int} (h0 : WfLL l0) (h1 : Wf a1) (h2 : Wf a2) (h3 : WfL l3) (h4 : WfL l4) : ∃ k, z3.f k l0 a1 a2 l3 l4 = some true := by
 refine Ev.rounds (g := fun k => z3.f k l0 a1 a2 l3 l4) ?_
 unfold z3.f
 by_cases hbig : (l3.length : Int) > 1048576
 ·exact qAa hbig (Ev.now _)
 refine qAd hbig ?_
 by_cases hbig2 : (l4.length : Int) > 1048576
 ·exact qAa hbig2 (Ev.now _)
 refine qAd hbig2 ?_
 rcases qG1 l0 1048576 h0 (by omega) (by omega) with ⟨t, ht, hn⟩ | ⟨ht, hb⟩
 ·exact Ev.bind ht (qAa hn (Ev.now _))
 have htn := qBv l0
 have hrow : ∀ x ∈ l0, x.length ≤ 1048576 := fun x hx => by have := qEb l0 x hx; omega
 have hlen : l0.length ≤ 1048576 := by omega
 have hto := qGy l0 hlen hrow
 have heq := qFl l0 (by omega) (fun x hx => by have := hrow x hx; omega)
 refine Ev.bind ht (qAd (by omega) ?_)
 have hto1 := qDb l3 (by omega)
 have heq1 := qDv l3 (by omega)
 have hto2 := qDb l4 (by omega)
 have heq2 := qDv l4 (by omega)
 obtain ⟨g, him, hsp⟩ := qI1 hlen hrow a1 a2 l3 l4 (by omega) (by omega)
 (repeat (first | exact Ev.now _ | refine qAa rfl ?_ | refine qAd (by simp only []; omega) ?_ | refine qAd (by omega) ?_ | refine qAd (by simp) ?_ | refine Ev.bind (by assumption) ?_ | refine Ev.bind (qAt (by assumption)) ?_))
end Go.Proofs.Ytgdfkcipffjjcaa.B
