/- What the functions come to, for the law FnMoebius. -/
import Derived.Test.YtagefgkneandpaaKAKMGAK0
import Derived.Test.YtagefgkneandpaaKANEIHN0
import Derived.Test.YtagefgkneandpaaKCCAGHG0
import Derived.Test.YtagefgkneandpaaKCCICKC0
import Derived.Test.YtagefgkneandpaaKCJOGEK0
import Derived.Test.YtagefgkneandpaaKFDNINJ0
import Derived.Test.YtagefgkneandpaaKHEDLFP0
import Derived.Test.YtagefgkneandpaaKHJMDKI0
import Derived.Test.YtagefgkneandpaaKHPILOM0
import Derived.Test.YtagefgkneandpaaKJCGAFM0
import Derived.Test.YtagefgkneandpaaKJEEHLP0
import Derived.Test.YtagefgkneandpaaKJNPNAB0
import Derived.Test.YtagefgkneandpaaKJOPMEJ0
import Derived.Test.YtagefgkneandpaaKKDAHJJ0
import Derived.Test.YtagefgkneandpaaKKPPEJH0
import Derived.Test.YtagefgkneandpaaKMMPLLE0
import Derived.Test.YtagefgkneandpaaKW0
import Derived.Below
import Derived.ChangeOld
import Derived.Deep.Matrix
import Derived.Lib.SmallJoins
import Derived.OpenShut
import Derived.ProofKit
import Derived.ShutString
import Derived.SizedLaws
import Derived.WalkKit
set_option linter.unusedVariables false
set_option linter.unusedSimpArgs false
namespace Go.Proofs.Ytagefgkneandpaa.B
open Go.RowKit Go.ChangeShapes Go.WideShapes Go.Deep Go.Proofs.YtagefgkneandpaaW.PrintWords

def Wf (n : Int) : Prop := -9223372036854775808 ≤ n ∧ n ≤ 9223372036854775807
def WfL (l : List Int) : Prop := l.length ≤ 9223372036854775807 ∧ ∀ n ∈ l, Wf n
def WfLL (l : List (List Int)) : Prop := l.length ≤ 9223372036854775807 ∧ ∀ r ∈ l, WfL r
theorem wf_of {n : Int} (h : (Lit.int .i64 n).wf = true) : Wf n := by
 unfold Wf
 simp [Lit.wf, IntKind.min, IntKind.max, IntKind.bits, IntKind.signed] at h
 omega

section
variable {H : Type} {enc : TypeId × Value → H} {P : Program} {w : World} {base : Nat} {held : Bool} {fuel : Nat}
theorem opened_int {t : TypeId} {v : Value} {x : DataW H × List MemPlace} (ht : P.underlying t = some (.int .i64)) (h : DataW.trod enc P w base (fun _ => true) held fuel t [v] = some x) : ∃ n, v = .int .i64 n ∧ Wf n := by
 obtain ⟨n, he, _, hw⟩ := DataW.trod_int ht h
 exact ⟨n, by simpa using he, wf_of hw⟩
theorem opened_ints {t e : TypeId} {v : Value} {x : DataW H × List MemPlace} (ht : P.underlying t = some (.slice e)) (he : P.underlying e = some (.int .i64)) (hc : P.cellsOf e = 1) (h : DataW.trod enc P w base (fun _ => true) held fuel t [v] = some x) :
  ∃ A l c, v = .slice A l.length c ∧ (Kd.int .i64).C w A l.length l ∧ l.length ≤ c ∧ WfL l := by
 rcases open_ints ht he hc h with ⟨hcs, _⟩ | ⟨a, l, c, zs, hcs, _, hl, hm, hz, _, hcell, hwz⟩
 ·refine ⟨none, [], 0, by simpa using hcs, ⟨rfl, by simp, fun h => by simp at h⟩, by simp, by simp [WfL]⟩
 ·simp only [if_true] at hz
  have hlen : (zs.take l).length = l := by rw [List.length_take]; omega
  refine ⟨some a, zs.take l, c, by rw [hlen]; simpa using hcs, ⟨rfl, by rw [hlen]; simp only [maxLen] at hm; omega, fun _ => ⟨a, rfl, fun j p hj => ?_⟩⟩, by omega, ?_, fun n hn => wf_of (hwz n (List.mem_of_mem_take hn))⟩
  ·have hjl : j < l := by have := (List.getElem?_eq_some_iff.1 hj).1; omega
   refine ⟨[.int .i64 p], rfl, rfl, fun i u hu => ?_⟩
   cases i with
   | zero =>
    simp only [List.getElem?_cons_zero, Option.some.injEq] at hu
    subst hu
    rw [Nat.add_zero, show j * (Kd.int .i64).sz = j from Nat.mul_one j, hcell j (by omega)]
    rw [List.getElem?_take, if_pos hjl] at hj
    rw [List.getD_eq_getElem?_getD, hj]; rfl
   | succ i => simp at hu
  ·rw [hlen]; simp only [maxLen] at hm; omega
theorem opened_rows {t e q : TypeId} {v : Value} {x : DataW H × List MemPlace} (ht : P.underlying t = some (.slice e)) (he : P.underlying e = some (.slice q)) (hq : P.underlying q = some (.int .i64)) (ce : P.cellsOf e = 1) (cq : P.cellsOf q = 1) (h : DataW.trod enc P w base (fun _ => true) held fuel t [v] = some x) :
  ∃ A l c, v = .slice A l.length c ∧ (Kd.slice 2 (Kd.int .i64)).C w A l.length l ∧ l.length ≤ c ∧ WfLL l := by
 rcases open_slice1 ht ce h with ⟨hcs, _⟩ | ⟨a, l, c, m, n, V, D, Pl, hcs, _, hl, hm, hmm, _, hx⟩
 ·refine ⟨none, [], 0, by simpa using hcs, ⟨rfl, by simp, fun h => by simp at h⟩, by simp, by simp [WfLL]⟩
 ·simp only [if_true] at hmm
  subst hmm
  have each : ∀ r, r < m → ∃ y : Option Addr × List Int × Nat, V r = .slice y.1 y.2.1.length y.2.2 ∧ (Kd.int .i64).C w y.1 y.2.1.length y.2.1 ∧ y.2.1.length ≤ y.2.2 ∧ WfL y.2.1 := by
   intro r hr
   obtain ⟨A, l, c, h1, h2, h3, h4⟩ := opened_ints he hq cq (hx r hr).2
   exact ⟨(A, l, c), h1, h2, h3, h4⟩
  obtain ⟨y, hy⟩ := choose_lt each
  have hlen : ((List.range l).map fun r => (y r).2.1).length = l := by simp
  refine ⟨some a, (List.range l).map fun r => (y r).2.1, m, by rw [hlen]; simpa using hcs, ⟨rfl, by rw [hlen]; simp only [maxLen] at hm; omega, fun _ => ⟨a, rfl, fun j p hj => ?_⟩⟩, by omega, ?_, ?_⟩
  ·have hjl : j < l := by have := (List.getElem?_eq_some_iff.1 hj).1; omega
   rw [List.getElem?_map, List.getElem?_range hjl] at hj
   simp only [Option.map_some, Option.some.injEq] at hj
   subst hj
   obtain ⟨h1, h2, h3, h4⟩ := hy j (by omega)
   refine ⟨[.slice (y j).1 (y j).2.1.length (y j).2.2], rfl, ⟨_, _, rfl, h3, h2⟩, fun i u hu => ?_⟩
   cases i with
   | zero =>
    simp only [List.getElem?_cons_zero, Option.some.injEq] at hu
    subst hu
    rw [Nat.add_zero, show j * (Kd.slice 2 (Kd.int .i64)).sz = j from Nat.mul_one j, (hx j (by omega)).1, h1]
   | succ i => simp at hu
  ·rw [hlen]; simp only [maxLen] at hm; omega
  ·intro r hr
   simp only [List.mem_map, List.mem_range] at hr
   obtain ⟨j, hj, rfl⟩ := hr
   exact (hy j (by omega)).2.2.2

theorem open_agg1 {r : Reach} {b0 : Nat} {t : TypeId} {f0 : Field} {v : Value} {d : DataW H} {p : List MemPlace} (hs : P.underlying t = some (.struct #[f0])) (hone : oneCellFields P #[f0] = true) (hC : P.cellsOf t = 1)
  (hv : Value.okWide P w r b0 t v) (h : DataW.Trod enc P w base (fun _ => true) held t v d p) :
  ∃ (v0 : Value) (y0 : DataW H × List MemPlace) (n : Nat), v = .agg #[v0] ∧ DataW.trod enc P w base (fun _ => true) held n f0.type [v0] = some y0 := by
 obtain ⟨cs, rfl, hsz⟩ := okWide_struct hs hv
 obtain ⟨c0, rfl⟩ : ∃ c0, cs = #[c0] := by
  have h1 : cs.size = 1 := hsz.trans hC
  match cs, h1 with | ⟨[c0]⟩, _ => exact ⟨c0, rfl⟩
 obtain ⟨fuel, hf⟩ := h
 obtain ⟨y0, n, hx, _, h0⟩ := trod_struct1 hs hf
 obtain ⟨o0, k0⟩ := hone_of hone 0 f0 rfl
 exact ⟨c0, y0, n, rfl, by simpa [Value.cells, o0, k0] using h0⟩
end
theorem own : ownKnob Try.prog.godebug = none := by kernel_rfl
theorem laidOut : laidOutB Try.prog = true := by kernel_rfl
end Go.Proofs.Ytagefgkneandpaa.B

set_option linter.unusedVariables false
set_option linter.unusedSimpArgs false
namespace Go.Proofs.Ytagefgkneandpaa.B
open Go.RowKit Go.ChangeShapes Go.WideShapes Go.Deep Go.Proofs.YtagefgkneandpaaW.PrintWords

def WfB (l : List Int) : Prop := l.length ≤ 9223372036854775807 ∧ ∀ n ∈ l, 0 ≤ n ∧ n ≤ 255
theorem byte_of {n : Int} (h : (Lit.int .u8 n).wf = true) : 0 ≤ n ∧ n ≤ 255 := by
 simp [Lit.wf, IntKind.min, IntKind.max, IntKind.bits, IntKind.signed] at h
 omega
section
variable {H : Type} {enc : TypeId × Value → H} {P : Program} {w : World} {base : Nat} {held : Bool} {fuel : Nat}
theorem opened_bytes {t e : TypeId} {v : Value} {x : DataW H × List MemPlace} (ht : P.underlying t = some (.slice e)) (he : P.underlying e = some (.int .u8)) (hc : P.cellsOf e = 1) (h : DataW.trod enc P w base (fun _ => true) held fuel t [v] = some x) :
  ∃ A l c, v = .slice A l.length c ∧ (Kd.int .u8).C w A l.length l ∧ l.length ≤ c ∧ WfB l := by
 rcases open_ints ht he hc h with ⟨hcs, _⟩ | ⟨a, l, c, zs, hcs, _, hl, hm, hz, _, hcell, hwz⟩
 ·refine ⟨none, [], 0, by simpa using hcs, ⟨rfl, by simp, fun h => by simp at h⟩, by simp, by simp [WfB]⟩
 ·simp only [if_true] at hz
  have hlen : (zs.take l).length = l := by rw [List.length_take]; omega
  refine ⟨some a, zs.take l, c, by rw [hlen]; simpa using hcs, ⟨rfl, by rw [hlen]; simp only [maxLen] at hm; omega, fun _ => ⟨a, rfl, fun j p hj => ?_⟩⟩, by omega, ?_, fun n hn => byte_of (hwz n (List.mem_of_mem_take hn))⟩
  ·have hjl : j < l := by have := (List.getElem?_eq_some_iff.1 hj).1; omega
   refine ⟨[.int .u8 p], rfl, rfl, fun i u hu => ?_⟩
   cases i with
   | zero =>
    simp only [List.getElem?_cons_zero, Option.some.injEq] at hu
    subst hu
    rw [Nat.add_zero, show j * (Kd.int .u8).sz = j from Nat.mul_one j, hcell j (by omega)]
    rw [List.getElem?_take, if_pos hjl] at hj
    rw [List.getD_eq_getElem?_getD, hj]; rfl
   | succ i => simp at hu
  ·rw [hlen]; simp only [maxLen] at hm; omega
end
end Go.Proofs.Ytagefgkneandpaa.B

set_option linter.unusedVariables false
set_option linter.unusedSimpArgs false
namespace Go.Proofs.Ytagefgkneandpaa.B
open Go.RowKit Go.Proofs.YtagefgkneandpaaW.PrintWords

theorem ev_pos {α : Type} {c : Prop} [Decidable c] {t f : Nat → Option α} {r : α} (h : c) (e : Ev t r) : Ev (fun k => if c then t k else f k) r := by
 simp only [if_pos h]; exact e
theorem ev_neg {α : Type} {c : Prop} [Decidable c] {t f : Nat → Option α} {r : α} (h : ¬ c) (e : Ev f r) : Ev (fun k => if c then t k else f k) r := by
 simp only [if_neg h]; exact e
theorem ev_const {α : Type} {x : Option α} {r : α} (h : x = some r) : Ev (fun _ => x) r := ⟨0, fun _ _ => h⟩
theorem ev_eq {α : Type} {g : Nat → Option α} {r r' : α} (h : Ev g r) (e : r = r') : Ev g r' := e ▸ h
def Le {α : Type} (g f : Nat → Option α) : Prop := ∀ r, Ev g r → Ev f r
theorem Le.refl {α : Type} (g : Nat → Option α) : Le g g := fun _ h => h
theorem Le.trans {α : Type} {g f e : Nat → Option α} (h : Le g f) (h' : Le f e) : Le g e := fun r hr => h' r (h r hr)

def iter {σ : Type} (F : Nat → σ → σ) : Nat → Nat → σ → σ
 | _, 0, s => s
 | i, d + 1, s => iter F (i + 1) d (F i s)
theorem le_iter {σ β : Type} (L : σ → Nat → Nat → Option β) (F : Nat → σ → σ) : ∀ (d i : Nat) (s : σ), (∀ j s, i ≤ j → j < i + d → Le (L (F j s) (j + 1)) (L s j)) → Le (L (iter F i d s) (i + d)) (L s i)
 | 0, i, s, _ => Le.refl _
 | d + 1, i, s, h => by
  have ih := le_iter L F d (i + 1) (F i s) (fun j s h1 h2 => h j s (by omega) (by omega))
  rw [show i + 1 + d = i + (d + 1) by omega] at ih
  exact ih.trans (h i s (Nat.le_refl _) (by omega))
theorem le_iter_inv {σ β : Type} (L : σ → Nat → Nat → Option β) (F : Nat → σ → σ) (I : Nat → σ → Prop) : ∀ (d i : Nat) (s : σ), I i s → (∀ j s, i ≤ j → j < i + d → I j s → Le (L (F j s) (j + 1)) (L s j) ∧ I (j + 1) (F j s)) → Le (L (iter F i d s) (i + d)) (L s i) ∧ I (i + d) (iter F i d s)
 | 0, i, s, hI, _ => ⟨Le.refl _, hI⟩
 | d + 1, i, s, hI, h => by
  obtain ⟨h0, hI1⟩ := h i s (Nat.le_refl _) (by omega) hI
  have ih := le_iter_inv L F I d (i + 1) (F i s) hI1 (fun j s h1 h2 => h j s (by omega) (by omega))
  rw [show i + 1 + d = i + (d + 1) by omega] at ih
  exact ⟨ih.1.trans h0, ih.2⟩
theorem iter_inv {σ : Type} (F : Nat → σ → σ) (I : Nat → σ → Prop) : ∀ (d i : Nat) (s : σ), I i s → (∀ j s, i ≤ j → j < i + d → I j s → I (j + 1) (F j s)) → I (i + d) (iter F i d s)
 | 0, i, s, hI, _ => hI
 | d + 1, i, s, hI, h => by
  have ih := iter_inv F I d (i + 1) (F i s) (h i s (Nat.le_refl _) (by omega) hI) (fun j s h1 h2 => h j s (by omega) (by omega))
  rw [show i + 1 + d = i + (d + 1) by omega] at ih
  exact ih
theorem iter_congr {σ : Type} {F G : Nat → σ → σ} : ∀ (d i : Nat) (s : σ), (∀ j s, i ≤ j → j < i + d → F j s = G j s) → iter F i d s = iter G i d s
 | 0, i, s, _ => rfl
 | d + 1, i, s, h => by
  simp only [iter]
  rw [h i s (Nat.le_refl _) (by omega)]
  exact iter_congr d (i + 1) _ (fun j s h1 h2 => h j s (by omega) (by omega))
theorem iter_add {σ : Type} (F : Nat → σ → σ) : ∀ (d e i : Nat) (s : σ), iter F i (d + e) s = iter F (i + d) e (iter F i d s)
 | 0, e, i, s => by simp [iter]
 | d + 1, e, i, s => by
  rw [show d + 1 + e = d + e + 1 by omega]
  simp only [iter]
  rw [iter_add F d e (i + 1) (F i s), show i + 1 + d = i + (d + 1) by omega]
theorem iter_last {σ : Type} (F : Nat → σ → σ) (d i : Nat) (s : σ) : iter F i (d + 1) s = F (i + d) (iter F i d s) := by
 rw [iter_add F d 1 i s]; rfl
theorem ev_find {β : Type} {r : β} (L : Nat → Nat → Option β) (p : Nat → Bool) : ∀ (d i : Nat), (∀ j, i ≤ j → j < i + d → p j = false → Le (L (j + 1)) (L j)) →
  (∀ j, i ≤ j → j < i + d → p j = true → (∀ m, i ≤ m → m < j → p m = false) → Ev (L j) r) → ((∀ m, i ≤ m → m < i + d → p m = false) → Ev (L (i + d)) r) → Ev (L i) r
 | 0, i, _, _, he => he (fun m h1 h2 => by omega)
 | d + 1, i, h0, h1, he => by
  cases hp : p i with
  | true => exact h1 i (Nat.le_refl _) (by omega) hp (fun m h1 h2 => by omega)
  | false =>
   refine h0 i (Nat.le_refl _) (by omega) hp r (ev_find L p d (i + 1) (fun j a b => h0 j (by omega) (by omega)) (fun j a b c e => h1 j (by omega) (by omega) c (fun m u v => ?_)) (fun e => ?_))
   ·rcases Nat.eq_or_lt_of_le u with rfl | u
    ·exact hp
    ·exact e m u v
   ·rw [show i + 1 + d = i + (d + 1) by omega]
    refine he (fun m u v => ?_)
    rcases Nat.eq_or_lt_of_le u with rfl | u
    ·exact hp
    ·exact e m u (by omega)
theorem all_range {α : Type} (xs : List α) (z : α) (p : α → Bool) : (List.range xs.length).all (fun i => p (xs.getD i z)) = xs.all p := by
 rw [Bool.eq_iff_iff, List.all_eq_true, List.all_eq_true]
 constructor
 ·intro h x hx
  obtain ⟨i, hi, rfl⟩ := List.mem_iff_getElem.1 hx
  have := h i (List.mem_range.2 hi)
  rwa [List.getD_eq_getElem?_getD, List.getElem?_eq_getElem hi] at this
 ·intro h i hi
  have hi := List.mem_range.1 hi
  rw [List.getD_eq_getElem?_getD, List.getElem?_eq_getElem hi]
  exact h _ (List.getElem_mem hi)
theorem ev_all (L : Nat → Nat → Option Bool) (p : Nat → Bool) (n : Nat) (h1 : ∀ j, j < n → p j = true → Le (L (j + 1)) (L j)) (h0 : ∀ j, j < n → p j = false → Ev (L j) false) (he : Ev (L n) true) : Ev (L 0) ((List.range n).all p) := by
 refine ev_find L (fun j => !p j) n 0 (fun j _ hj hp => h1 j (by omega) (by simpa using hp)) (fun j _ hj hp _ => ?_) (fun h => ?_)
 ·have hp' : p j = false := by simpa using hp
  have : (List.range n).all p = false := by
   rw [Bool.eq_false_iff]
   intro h
   have := List.all_eq_true.1 h j (List.mem_range.2 (by omega))
   rw [hp'] at this; cases this
  rw [this]
  exact h0 j (by omega) hp'
 ·have : (List.range n).all p = true := List.all_eq_true.2 (fun j hj => by simpa using h j (Nat.zero_le _) (by have := List.mem_range.1 hj; omega))
  rw [this, Nat.zero_add]
  exact he
theorem ev_all_list {α : Type} (xs : List α) (z : α) (L : Nat → Nat → Option Bool) (p : α → Bool) (h1 : ∀ j, j < xs.length → p (xs.getD j z) = true → Le (L (j + 1)) (L j)) (h0 : ∀ j, j < xs.length → p (xs.getD j z) = false → Ev (L j) false) (he : Ev (L xs.length) true) : Ev (L 0) (xs.all p) := by
 rw [← all_range xs z]
 exact ev_all L (fun j => p (xs.getD j z)) xs.length h1 h0 he
theorem least {q : Nat → Prop} (h : ∃ j, q j) : ∃ j, q j ∧ ∀ m, m < j → ¬ q m := by
 obtain ⟨j, hj⟩ := h
 induction j using Nat.strongRecOn with
 | _ j ih =>
  by_cases hm : ∃ m, m < j ∧ q m
  ·obtain ⟨m, h1, h2⟩ := hm
   exact ih m h1 h2
  ·exact ⟨j, hj, fun m h1 h2 => hm ⟨m, h1, h2⟩⟩
theorem ev_index (L : Nat → Nat → Option Int) (p : Nat → Bool) (n : Nat) (h0 : ∀ j, j < n → p j = false → Le (L (j + 1)) (L j)) (h1 : ∀ j, j < n → p j = true → Ev (L j) (j : Int)) (he : Ev (L n) (-1)) : ∃ t : Int, Ev (L 0) t ∧ decide (t ≥ 0) = (List.range n).any p := by
 by_cases h : ∃ j, j < n ∧ p j = true
 ·obtain ⟨j, ⟨hj, hp⟩, hmin⟩ : ∃ j, (j < n ∧ p j = true) ∧ ∀ m, m < j → ¬ (m < n ∧ p m = true) := by
   exact least h
  refine ⟨j, ?_, ?_⟩
  ·refine ev_find L p n 0 (fun i _ hi hpi => h0 i (by omega) hpi) (fun i _ hi hpi hbef => ?_) (fun hall => ?_)
   ·have : i = j := by
     rcases Nat.lt_trichotomy i j with hlt | he | hlt
     ·exact absurd ⟨by omega, hpi⟩ (hmin i hlt)
     ·exact he
     ·have := hbef j (Nat.zero_le _) hlt; rw [hp] at this; cases this
    subst this
    exact h1 i hj hp
   ·have := hall j (Nat.zero_le _) (by omega); rw [hp] at this; cases this
  ·have : (List.range n).any p = true := List.any_eq_true.2 ⟨j, List.mem_range.2 hj, hp⟩
   rw [this]; simp
 ·have hno : ∀ j, j < n → p j = false := fun j hj => by
   cases hp : p j with
   | true => exact absurd ⟨j, hj, hp⟩ h
   | false => rfl
  refine ⟨-1, ?_, ?_⟩
  ·refine ev_find L p n 0 (fun i _ hi hpi => h0 i (by omega) hpi) (fun i _ hi hpi hbef => ?_) (fun _ => by rw [Nat.zero_add]; exact he)
   have := hno i (by omega); rw [hpi] at this; cases this
  ·have : (List.range n).any p = false := by
    rw [Bool.eq_false_iff]
    intro hc
    obtain ⟨j, hj, hp⟩ := List.any_eq_true.1 hc
    have := hno j (List.mem_range.1 hj); rw [hp] at this; cases this
   rw [this]; rfl
theorem any_range {α : Type} (xs : List α) (z : α) (p : α → Bool) : (List.range xs.length).any (fun i => p (xs.getD i z)) = xs.any p := by
 have h := all_range xs z (fun x => !p x)
 rw [List.any_eq_not_all_not, List.any_eq_not_all_not, h]
theorem ev_index_list {α : Type} (xs : List α) (z : α) (L : Nat → Nat → Option Int) (p : α → Bool) (h0 : ∀ j, j < xs.length → p (xs.getD j z) = false → Le (L (j + 1)) (L j)) (h1 : ∀ j, j < xs.length → p (xs.getD j z) = true → Ev (L j) (j : Int)) (he : Ev (L xs.length) (-1)) : ∃ t : Int, Ev (L 0) t ∧ decide (t ≥ 0) = xs.any p := by
 rw [← any_range xs z]
 exact ev_index L (fun j => p (xs.getD j z)) xs.length h0 h1 he
theorem wrap_small {x : Int} (h0 : -9223372036854775808 ≤ x) (h1 : x ≤ 9223372036854775807) : wrap64 x = x := by
 unfold wrap64; omega
theorem wrap_succ {i : Nat} (h : i < 9223372036854775807) : wrap64 ((i : Int) + 1) = ((i + 1 : Nat) : Int) := by
 unfold wrap64; omega
theorem rd_nat (xs : List Int) (i : Nat) : rd xs (i : Int) = xs.getD i 0 := by simp [rd]
theorem rdOf_nat {α : Type} (z : α) (xs : List α) (i : Nat) : rdOf z xs (i : Int) = xs.getD i z := by simp [rdOf]

theorem set_prefix {α : Type} (l : List α) (i : Nat) (z : α) (hi : i < l.length) (y : α) (hy : y = l.getD i z) : (l.take i ++ List.replicate (l.length - i) z).set i y = l.take (i + 1) ++ List.replicate (l.length - (i + 1)) z := by
 have h1 : (l.take i).length = i := by rw [List.length_take]; omega
 rw [List.set_append_right _ _ (by omega), h1, Nat.sub_self, show l.length - i = (l.length - (i + 1)) + 1 by omega, List.replicate_succ, List.set_cons_zero, List.take_succ_eq_append_getElem hi, List.append_assoc]
 subst hy
 simp [List.getElem?_eq_getElem hi]

def markInts : List Int → Int → List Int
 | [], _ => []
 | _ :: l, a => a :: markInts l (a + 1)
def markRows : List (List Int) → Int → List (List Int)
 | [], _ => []
 | l :: ls, a => markInts l a :: markRows ls (a + l.length)
def total : List (List Int) → Int
 | [] => 0
 | l :: ls => l.length + total ls
theorem total_nonneg : ∀ ls, 0 ≤ total ls
 | [] => Int.le_refl _
 | l :: ls => by have := total_nonneg ls; simp only [total]; omega
theorem total_append : ∀ l m : List (List Int), total (l ++ m) = total l + total m
 | [], m => by simp [total]
 | x :: l, m => by simp only [List.cons_append, total, total_append l m]; omega
theorem markInts_length : ∀ (l : List Int) (a : Int), (markInts l a).length = l.length
 | [], _ => rfl
 | _ :: l, a => by simp [markInts, markInts_length l]
theorem markRows_length : ∀ (l : List (List Int)) (a : Int), (markRows l a).length = l.length
 | [], _ => rfl
 | _ :: l, a => by simp [markRows, markRows_length l]
theorem markInts_append : ∀ (l m : List Int) (a : Int), markInts (l ++ m) a = markInts l a ++ markInts m (a + l.length)
 | [], m, a => by simp [markInts]
 | _ :: l, m, a => by simp only [List.cons_append, markInts, markInts_append l m, List.length_cons]; congr 3; push_cast; omega
theorem markRows_append : ∀ (l m : List (List Int)) (a : Int), markRows (l ++ m) a = markRows l a ++ markRows m (a + total l)
 | [], m, a => by simp [markRows, total]
 | x :: l, m, a => by simp only [List.cons_append, markRows, markRows_append l m, total]; congr 3; omega

end Go.Proofs.Ytagefgkneandpaa.B

set_option linter.unusedVariables false
set_option linter.unusedSimpArgs false
namespace Go.Proofs.Ytagefgkneandpaa.B
open Go.RowKit Go.Proofs.YtagefgkneandpaaW.PrintWords

def row (n : Nat) (f : Nat → Bool) : List Bool := (List.range n).map f
def tab (n : Nat) (R : Nat → Nat → Bool) : List (List Bool) := (List.range n).map fun a => row n (R a)
def upd (R : Nat → Nat → Bool) (a c : Nat) (v : Bool) : Nat → Nat → Bool := fun a' c' => if a' = a ∧ c' = c then v else R a' c'
theorem row_length (n : Nat) (f : Nat → Bool) : (row n f).length = n := by simp [row]
theorem tab_length (n : Nat) (R : Nat → Nat → Bool) : (tab n R).length = n := by simp [tab]
theorem row_get {n : Nat} {f : Nat → Bool} {j : Nat} (h : j < n) : rdOf false (row n f) (j : Int) = f j := by
 rw [rdOf_nat, row, List.getD_eq_getElem?_getD, List.getElem?_map, List.getElem?_range h]; rfl
theorem tab_get {n : Nat} {R : Nat → Nat → Bool} {i : Nat} (h : i < n) : rd_ListBool (tab n R) (i : Int) = row n (R i) := by
 simp [rd_ListBool, tab, List.getElem?_range h, h]
theorem row_set {n : Nat} {f : Nat → Bool} {c : Nat} (v : Bool) : (row n f).set c v = row n (fun c' => if c' = c then v else f c') := by
 apply List.ext_getElem (by simp [row])
 intro i h1 h2
 simp only [row, List.getElem_set, List.getElem_map, List.getElem_range]
 by_cases h : i = c
 ·simp [h]
 ·simp [h, Ne.symm h]
theorem tab_set {n : Nat} {R : Nat → Nat → Bool} {a c : Nat} (v : Bool) : (tab n R).set a ((row n (R a)).set c v) = tab n (upd R a c v) := by
 apply List.ext_getElem (by simp [tab])
 intro i h1 h2
 simp only [tab, List.getElem_set, List.getElem_map, List.getElem_range, row_set]
 by_cases h : a = i
 ·subst h
  simp only [↓reduceIte]
  congr 1
  funext c'
  simp [upd]
 ·have h' : ¬ i = a := fun e => h e.symm
  simp only [if_neg h]
  congr 1
  funext c'
  simp [upd, h']
theorem upd_self (R : Nat → Nat → Bool) (a c : Nat) (v : Bool) (h : v = R a c) : upd R a c v = R := by
 funext a' c'
 simp only [upd]
 split
 ·rename_i e; obtain ⟨rfl, rfl⟩ := e; exact h
 ·rfl

def diag (a b : Nat) : Bool := a == b
def pairsRel (pairs : List (List Int)) (R : Nat → Nat → Bool) : Nat → Nat → Bool := iter (fun i R => upd R ((pairs.getD i []).getD 0 0).toNat ((pairs.getD i []).getD 1 0).toNat true) 0 pairs.length R
def wCell (x a c : Nat) (R : Nat → Nat → Bool) : Nat → Nat → Bool := upd R a c (R a c || R a x && R x c)
def wRow (n x a : Nat) (R : Nat → Nat → Bool) : Nat → Nat → Bool := iter (wCell x a) 0 n R
def wRound (n x : Nat) (R : Nat → Nat → Bool) : Nat → Nat → Bool := iter (wRow n x) 0 n R
def warshall (n : Nat) (R : Nat → Nat → Bool) : Nat → Nat → Bool := iter (wRound n) 0 n R
def orderOf (n : Nat) (pairs : List (List Int)) : Nat → Nat → Bool := warshall n (pairsRel pairs diag)
def elem (a n : Int) : Bool := decide (0 ≤ a) && decide (a ≤ wrap64 (n - 1))
def isPair (n : Int) (p : List Int) : Bool := p.length == 2 && (elem (p.getD 0 0) n && elem (p.getD 1 0) n)
def isOrd (n : Nat) (R : Nat → Nat → Bool) : Bool := (List.range n).all fun x => (List.range x).all fun y => !(R x y && R y x)
def between (n : Nat) (R : Nat → Nat → Bool) (x y : Nat) : Bool := (List.range n).any fun z => !(z == x) && (!(z == y) && (R x z && R z y))
def covers (n : Nat) (R : Nat → Nat → Bool) (x y : Nat) : Bool := !(x == y) && (R x y && !between n R x y)
def coverRow (n : Nat) (R : Nat → Nat → Bool) (x : Nat) (s : List (List Int)) : List (List Int) := iter (fun y s => if covers n R x y then s ++ [[(x : Int), (y : Int)]] else s) 0 n s
def coversOf (n : Nat) (R : Nat → Nat → Bool) : List (List Int) := iter (coverRow n R) 0 n []
theorem coversOf_length (n : Nat) (R : Nat → Nat → Bool) : (coversOf n R).length ≤ n * n := by
 have hrow : ∀ x s, (coverRow n R x s).length ≤ s.length + n := fun x s => by
  have := iter_inv (fun y s => if covers n R x y then s ++ [[(x : Int), (y : Int)]] else s) (fun i (t : List (List Int)) => t.length ≤ s.length + i) n 0 s (by omega) (fun j t _ _ h => by
   split
   ·simp only [List.length_append, List.length_singleton]; omega
   ·omega)
  simpa [coverRow] using this
 have := iter_inv (coverRow n R) (fun i (t : List (List Int)) => t.length ≤ i * n) n 0 [] (by simp) (fun j t _ _ h => by
  have := hrow j t
  rw [Nat.add_mul, Nat.one_mul]; omega)
 simpa [coversOf] using this
theorem iter_or (p : Nat → Bool) : ∀ (d i : Nat) (b : Bool), iter (fun j b => b || p j) i d b = (b || (List.range' i d).any p)
 | 0, i, b => by simp [iter]
 | d + 1, i, b => by
  simp only [iter]
  rw [iter_or p d (i + 1)]
  simp [List.range'_succ, Bool.or_assoc]
theorem iter_or_any (p : Nat → Bool) (n : Nat) : iter (fun j b => b || p j) 0 n false = (List.range n).any p := by
 rw [iter_or, Bool.false_or, List.range_eq_range']
theorem iter_and (p : Nat → Bool) : ∀ (d i : Nat) (b : Bool), iter (fun j b => b && p j) i d b = (b && (List.range' i d).all p)
 | 0, i, b => by simp [iter]
 | d + 1, i, b => by
  simp only [iter]
  rw [iter_and p d (i + 1)]
  simp [List.range'_succ, Bool.and_assoc]
theorem iter_and_all (p : Nat → Bool) (n : Nat) : iter (fun j b => b && p j) 0 n true = (List.range n).all p := by
 rw [iter_and, Bool.true_and, List.range_eq_range']
def pick (p : Nat → Bool) (n : Nat) : List Int := iter (fun x s => if p x = true then s ++ [(x : Int)] else s) 0 n []
theorem pick_step_le (p : Nat → Bool) (n i : Nat) (s : List Int) : (iter (fun x s => if p x = true then s ++ [(x : Int)] else s) i n s).length ≤ s.length + n := by
 have := iter_inv (fun x s => if p x = true then s ++ [(x : Int)] else s) (fun j (t : List Int) => t.length + i ≤ s.length + j) n i s (by omega) (fun j t _ _ h => by
  split
  ·simp only [List.length_append, List.length_singleton]; omega
  ·omega)
 omega
theorem pick_le (p : Nat → Bool) (n : Nat) : (pick p n).length ≤ n := by
 have := pick_step_le p n 0 []
 simpa [pick] using this
end Go.Proofs.Ytagefgkneandpaa.B

set_option linter.unusedVariables false
set_option linter.unusedSimpArgs false
namespace Go.Proofs.Ytagefgkneandpaa.B
open Go.RowKit Go.Proofs.YtagefgkneandpaaW.PrintWords

theorem within_val (a b c : Int) : z75.f a b c = some (decide (b ≤ a) && decide (a ≤ c)) := by
 unfold z75.f
 by_cases h : a ≥ b
 ·rw [if_pos h]; simp [h]
 ·rw [if_neg h]; simp; omega
theorem in_val (a b c : Int) : z76.f a b c = some (decide (b ≤ a) && decide (a ≤ c)) := by
 unfold z76.f
 by_cases h : a ≥ b
 ·rw [if_pos h]; simp [h]
 ·rw [if_neg h]; simp; omega

theorem getD_mem {α : Type} {l : List α} {i : Nat} (z : α) (h : i < l.length) : l.getD i z ∈ l := by
 rw [List.getD_eq_getElem?_getD, List.getElem?_eq_getElem h]; exact List.getElem_mem h

theorem rdl_nat (l : List (List Int)) (i : Nat) : rd_ListInt l (i : Int) = l.getD i [] := by simp [rd_ListInt]

end Go.Proofs.Ytagefgkneandpaa.B

set_option linter.unusedVariables false
set_option linter.unusedSimpArgs false
namespace Go.Proofs.Ytagefgkneandpaa.B
open Go.RowKit Go.Proofs.YtagefgkneandpaaW.PrintWords

def Pairs (n : Nat) (pairs : List (List Int)) : Prop := ∀ p ∈ pairs, p.length = 2 ∧ 0 ≤ p.getD 0 0 ∧ p.getD 0 0 < n ∧ 0 ≤ p.getD 1 0 ∧ p.getD 1 0 < n
section
variable {n : Nat} {pairs : List (List Int)}
theorem belowOf_cells (hn : n ≤ 12) (x a : Nat) (hx : x < n) (ha : a < n) (m : Nat) (hm : m = n) (R : Nat → Nat → Bool) : Le (fun k => z68.l3 k (tab n (wRow n x a R)) (x : Int) (n : Int) (x : Int) (n : Int) ((a + 1 : Nat) : Int)) (fun k => z68.l4 k (tab n R) (x : Int) (a : Int) (n : Int) (x : Int) (n : Int) (a : Int) (n : Int) ((0 : Nat) : Int)) := by
 have h := le_iter (fun (R : Nat → Nat → Bool) (c : Nat) k => z68.l4 k (tab n R) (x : Int) (a : Int) (n : Int) (x : Int) (n : Int) (a : Int) (n : Int) (c : Int)) (wCell x a) n 0 R (fun c R _ hc r hr => by
  have hc : c < n := by omega
  refine Ev.step (fun k => z68.l4.eq_2 ..) ?_
  simp only [tab_length, tab_get ha, tab_get hx, row_length, row_get hc, row_get hx, Int.toNat_natCast, wrap_succ (show c < 9223372036854775807 by omega)]
  (repeat (first | refine ev_pos (by omega) ?_ | refine ev_neg (by omega) ?_))
  have hs := fun v => tab_set (n := n) (R := R) (a := a) (c := c) v
  simp only [hs]
  by_cases h1 : R a c = true
  ·refine ev_pos h1 ?_
   have : wCell x a c R = upd R a c true := by simp [wCell, h1]
   rw [this] at hr; exact hr
  ·refine ev_neg h1 ?_
   (repeat (first | refine ev_pos (by omega) ?_ | refine ev_neg (by omega) ?_))
   by_cases h2 : R a x = true
   ·refine ev_pos h2 ?_
    (repeat (first | refine ev_pos (by omega) ?_ | refine ev_neg (by omega) ?_))
    have : wCell x a c R = upd R a c (R x c) := by simp [wCell, h1, h2]
    rw [this] at hr; exact hr
   ·refine ev_neg h2 ?_
    have : wCell x a c R = upd R a c false := by simp [wCell, h1, h2]
    rw [this] at hr; exact hr)
 refine Le.trans (fun r hr => ?_) h
 rw [Nat.zero_add]
 refine Ev.step (fun k => z68.l4.eq_2 ..) ?_
 rw [wrap_succ (show a < 9223372036854775807 by omega)]
 exact ev_neg (by omega) hr
theorem belowOf_round (hn : n ≤ 12) (x : Nat) (hx : x < n) (R : Nat → Nat → Bool) : Le (fun k => z68.l2 k (tab n (wRound n x R)) (n : Int) ((x + 1 : Nat) : Int)) (fun k => z68.l3 k (tab n R) (x : Int) (n : Int) (x : Int) (n : Int) ((0 : Nat) : Int)) := by
 have h := le_iter (fun (R : Nat → Nat → Bool) (a : Nat) k => z68.l3 k (tab n R) (x : Int) (n : Int) (x : Int) (n : Int) (a : Int)) (wRow n x) n 0 R (fun a R _ ha r hr => by
  have ha : a < n := by omega
  refine Ev.step (fun k => z68.l3.eq_2 ..) ?_
  (repeat (first | refine ev_pos (by omega) ?_ | refine ev_neg (by omega) ?_))
  rw [tab_length]
  exact belowOf_cells hn x a hx ha n rfl R r hr)
 refine Le.trans (fun r hr => ?_) h
 rw [Nat.zero_add]
 refine Ev.step (fun k => z68.l3.eq_2 ..) ?_
 rw [wrap_succ (show x < 9223372036854775807 by omega)]
 exact ev_neg (by omega) hr
theorem belowOf_loop (hn : n ≤ 12) (R : Nat → Nat → Bool) : Ev (fun k => z68.l2 k (tab n R) (n : Int) ((0 : Nat) : Int)) (tab n (warshall n R)) := by
 have h := le_iter (fun (R : Nat → Nat → Bool) (x : Nat) k => z68.l2 k (tab n R) (n : Int) (x : Int)) (wRound n) n 0 R (fun x R _ hx r hr => by
  have hx : x < n := by omega
  refine Ev.step (fun k => z68.l2.eq_2 ..) ?_
  (repeat (first | refine ev_pos (by omega) ?_ | refine ev_neg (by omega) ?_))
  rw [tab_length]
  exact belowOf_round hn x hx R r hr)
 refine h _ ?_
 rw [Nat.zero_add]
 refine Ev.step (fun k => z68.l2.eq_2 ..) ?_
 exact ev_neg (by omega) (Ev.now _)
theorem belowOf_pairs (hn : n ≤ 12) (hp : Pairs n pairs) (hl : pairs.length < 9223372036854775807) (R : Nat → Nat → Bool) : Ev (fun k => z68.l1 k (tab n R) pairs (pairs.length : Int) ((0 : Nat) : Int)) (tab n (warshall n (pairsRel pairs R))) := by
 have h := le_iter (fun (R : Nat → Nat → Bool) (i : Nat) k => z68.l1 k (tab n R) pairs (pairs.length : Int) (i : Int)) (fun i R => upd R ((pairs.getD i []).getD 0 0).toNat ((pairs.getD i []).getD 1 0).toNat true) pairs.length 0 R (fun i R _ hi r hr => by
  have hi : i < pairs.length := by omega
  obtain ⟨h2, h3, h4, h5, h6⟩ := hp _ (getD_mem [] hi)
  obtain ⟨u, hu⟩ := Int.eq_ofNat_of_zero_le h3
  obtain ⟨v, hv⟩ := Int.eq_ofNat_of_zero_le h5
  have hu' : u < n := by omega
  have hv' : v < n := by omega
  have e0 : rd (rd_ListInt pairs (i : Int)) 0 = (u : Int) := by rw [rdl_nat, show (0 : Int) = ((0 : Nat) : Int) from rfl, rd_nat]; exact hu
  have e1 : rd (rd_ListInt pairs (i : Int)) 1 = (v : Int) := by rw [rdl_nat, show (1 : Int) = ((1 : Nat) : Int) from rfl, rd_nat]; exact hv
  have e2 : ((rd_ListInt pairs (i : Int)).length : Int) = 2 := by rw [rdl_nat, h2]; rfl
  have et : ((pairs.getD i []).getD 0 0).toNat = u := by rw [hu]; exact Int.toNat_natCast u
  have ev : ((pairs.getD i []).getD 1 0).toNat = v := by rw [hv]; exact Int.toNat_natCast v
  rw [et, ev] at hr
  refine Ev.step (fun k => z68.l1.eq_2 ..) ?_
  simp only [e0, e1, e2, tab_length, tab_get hu', row_length, Int.toNat_natCast, wrap_succ (show i < 9223372036854775807 by omega), tab_set]
  (repeat (first | refine ev_pos (by omega) ?_ | refine ev_neg (by omega) ?_))
  exact hr)
 refine h _ ?_
 rw [Nat.zero_add]
 refine Ev.step (fun k => z68.l1.eq_2 ..) ?_
 refine ev_neg (by omega) ?_
 rw [tab_length]
 exact belowOf_loop hn _
theorem tab_diag_rows (n : Nat) : (List.range n).map (fun a => row n (diag a)) = tab n diag := rfl
theorem belowOf_ev (hn : n ≤ 12) (hp : Pairs n pairs) (hl : pairs.length < 9223372036854775807) : Ev (fun k => z68.f k (n : Int) pairs) (tab n (orderOf n pairs)) := by
 have h := le_iter_inv (fun (s : List (List Bool)) (i : Nat) k => z68.l0 k (n : Int) pairs s (n : Int) (i : Int)) (fun i s => s.set i (row n (diag i))) (fun i s => s = (tab n diag).take i ++ List.replicate (n - i) []) n 0 (List.replicate n []) (by simp) (by
  intro i s _ hi hs
  have hi : i < n := by omega
  have hlen : s.length = n := by subst hs; simp only [List.length_append, List.length_take, List.length_replicate, tab_length]; omega
  have hrep : List.replicate n false = row n (fun _ => false) := by simp [row, List.map_const']
  have hsl : (s.set i (List.replicate n false)).length = n := by rw [List.length_set]; exact hlen
  have hrd : rd_ListBool (s.set i (List.replicate n false)) (i : Int) = List.replicate n false := by
   simp [rd_ListBool, List.getElem?_set_self (show i < s.length by omega)]
  have hrow : (List.replicate n false).set i true = row n (diag i) := by
   rw [hrep, row_set]
   congr 1
   funext c
   simp only [diag]
   by_cases e : c = i
   ·simp [e]
   ·simp [e, Ne.symm e]
  refine ⟨fun r hr => ?_, ?_⟩
  ·refine Ev.step (fun k => z68.l0.eq_2 ..) ?_
   simp only [Int.toNat_natCast, hlen, hsl, hrd, List.length_replicate, hrow, List.set_set, Option.bind_some, wrap_succ (show i < 9223372036854775807 by omega)]
   (repeat (first | refine ev_pos (by omega) ?_ | refine ev_neg (by omega) ?_))
   exact hr
  ·subst hs
   have := set_prefix (tab n diag) i [] (by rw [tab_length]; exact hi) (row n (diag i)) (by rw [List.getD_eq_getElem?_getD]; simp [tab, List.getElem?_range hi])
   rw [tab_length] at this
   exact this)
 unfold z68.f
 simp only [Int.toNat_natCast, Option.bind_some, List.length_replicate]
 (repeat (first | refine ev_pos (by omega) ?_ | refine ev_neg (by omega) ?_))
 refine h.1 _ ?_
 rw [Nat.zero_add, h.2, show (List.take (0 + n) (tab n diag) ++ List.replicate (n - (0 + n)) ([] : List Bool)) = tab n diag by rw [Nat.zero_add, Nat.sub_self, List.replicate_zero, List.append_nil, List.take_of_length_le (by rw [tab_length]; exact Nat.le_refl _)]]
 refine Ev.step (fun k => z68.l0.eq_2 ..) ?_
 refine ev_neg (by omega) ?_
 exact belowOf_pairs hn hp hl diag
end
end Go.Proofs.Ytagefgkneandpaa.B

set_option linter.unusedVariables false
set_option linter.unusedSimpArgs false
namespace Go.Proofs.Ytagefgkneandpaa.B
open Go.RowKit Go.Proofs.YtagefgkneandpaaW.PrintWords

section
variable {n : Nat} {pairs : List (List Int)} {R : Nat → Nat → Bool}
theorem isOrder_ev (hn : n ≤ 12) : Ev (fun k => z69.f k (tab n R)) (isOrd n R) := by
 unfold z69.f isOrd
 rw [tab_length]
 refine ev_all (fun x k => z69.l0 k (tab n R) (n : Int) (x : Int)) _ n (fun x hx hp r hr => ?_) (fun x hx hp => ?_) ?_
 ·refine Ev.step (fun k => z69.l0.eq_2 ..) ?_
  (first | refine ev_pos (by omega) ?_ | refine ev_neg (by omega) ?_)
  have hp := List.all_eq_true.1 hp
  refine ev_find (fun y k => z69.l1 k (tab n R) (x : Int) (n : Int) (x : Int) (x : Int) (y : Int)) (fun _ => false) x 0 (fun y _ hy _ r hr => ?_) (fun _ _ _ h => by cases h) (fun _ => ?_)
  ·have hy : y < x := by omega
   have hyn : y < n := by omega
   have hq := hp y (List.mem_range.2 hy)
   refine Ev.step (fun k => z69.l1.eq_2 ..) ?_
   simp only [tab_length, tab_get hx, tab_get hyn, row_length, row_get hx, row_get hyn, wrap_succ (show y < 9223372036854775807 by omega)]
   (repeat (first | refine ev_pos (by omega) ?_ | refine ev_neg (by omega) ?_))
   by_cases h1 : R x y = true
   ·refine ev_pos h1 ?_
    (repeat (first | refine ev_pos (by omega) ?_ | refine ev_neg (by omega) ?_))
    have h2 : R y x = false := by rw [h1] at hq; simpa using hq
    exact ev_neg (by rw [h2]; decide) hr
   ·exact ev_neg h1 hr
  ·rw [Nat.zero_add]
   refine Ev.step (fun k => z69.l1.eq_2 ..) ?_
   rw [wrap_succ (show x < 9223372036854775807 by omega)]
   exact ev_neg (by omega) hr
 ·refine Ev.step (fun k => z69.l0.eq_2 ..) ?_
  (first | refine ev_pos (by omega) ?_ | refine ev_neg (by omega) ?_)
  refine ev_find (fun y k => z69.l1 k (tab n R) (x : Int) (n : Int) (x : Int) (x : Int) (y : Int)) (fun y => R x y && R y x) x 0 (fun y _ hy hpy r hr => ?_) (fun y _ hy hpy _ => ?_) (fun h => ?_)
  ·have hy : y < x := by omega
   have hyn : y < n := by omega
   refine Ev.step (fun k => z69.l1.eq_2 ..) ?_
   simp only [tab_length, tab_get hx, tab_get hyn, row_length, row_get hx, row_get hyn, wrap_succ (show y < 9223372036854775807 by omega)]
   (repeat (first | refine ev_pos (by omega) ?_ | refine ev_neg (by omega) ?_))
   by_cases h1 : R x y = true
   ·refine ev_pos h1 ?_
    (repeat (first | refine ev_pos (by omega) ?_ | refine ev_neg (by omega) ?_))
    have h2 : R y x = false := by rw [h1] at hpy; simpa using hpy
    exact ev_neg (by rw [h2]; decide) hr
   ·exact ev_neg h1 hr
  ·have hy : y < x := by omega
   have hyn : y < n := by omega
   obtain ⟨h1, h2⟩ := (Bool.and_eq_true _ _).mp hpy
   refine Ev.step (fun k => z69.l1.eq_2 ..) ?_
   simp only [tab_length, tab_get hx, tab_get hyn, row_length, row_get hx, row_get hyn]
   (repeat (first | refine ev_pos (by omega) ?_ | refine ev_neg (by omega) ?_))
   exact Ev.now _
  ·exfalso
   have : ((List.range x).all fun y => !(R x y && R y x)) = true := List.all_eq_true.2 (fun y hy => by rw [h y (Nat.zero_le _) (by have := List.mem_range.1 hy; omega)]; rfl)
   rw [hp] at this; cases this
 ·refine Ev.step (fun k => z69.l0.eq_2 ..) ?_
  exact ev_neg (by omega) (Ev.now _)

theorem between_iter (x y : Nat) : iter (fun z b => b || (!(z == x) && (!(z == y) && (R x z && R z y)))) 0 n false = between n R x y := iter_or_any _ n

theorem implCovers_ev (hn : n ≤ 12) : Ev (fun k => z70.f k (tab n R)) (coversOf n R) := by
 unfold z70.f
 rw [tab_length]
 have hlen : ∀ x s, (coverRow n R x s).length ≤ s.length + n := fun x s => by
  have := iter_inv (fun y s => if covers n R x y then s ++ [[(x : Int), (y : Int)]] else s) (fun i (t : List (List Int)) => t.length ≤ s.length + i) n 0 s (by omega) (fun j t _ _ h => by
   split
   ·simp only [List.length_append, List.length_singleton]; omega
   ·omega)
  simpa [coverRow] using this
 have h := le_iter_inv (fun (s : List (List Int)) (x : Nat) k => z70.l0 k (tab n R) s (n : Int) (x : Int)) (coverRow n R) (fun x s => s.length ≤ x * n) n 0 [] (by simp) (fun x s _ hx hs => ⟨fun r hr => ?_, by have := hlen x s; rw [Nat.add_mul, Nat.one_mul]; omega⟩)
 ·refine h.1 _ ?_
  rw [Nat.zero_add]
  refine Ev.step (fun k => z70.l0.eq_2 ..) ?_
  exact ev_neg (by omega) (Ev.now _)
 ·have hx : x < n := by omega
  have hxn : x * n ≤ 12 * 12 := Nat.mul_le_mul (by omega) hn
  refine Ev.step (fun k => z70.l0.eq_2 ..) ?_
  (first | refine ev_pos (by omega) ?_ | refine ev_neg (by omega) ?_)
  rw [tab_length]
  have g := le_iter_inv (fun (s : List (List Int)) (y : Nat) k => z70.l1 k (tab n R) s (x : Int) (n : Int) (x : Int) (n : Int) (y : Int)) (fun y s => if covers n R x y then s ++ [[(x : Int), (y : Int)]] else s) (fun y t => t.length ≤ s.length + y) n 0 s (by omega) (fun y t _ hy ht => ⟨fun r hr => ?_, by
   split
   ·simp only [List.length_append, List.length_singleton]; omega
   ·omega⟩)
  ·refine g.1 _ ?_
   rw [Nat.zero_add]
   refine Ev.step (fun k => z70.l1.eq_2 ..) ?_
   rw [wrap_succ (show x < 9223372036854775807 by omega)]
   exact ev_neg (by omega) hr
  ·have hy : y < n := by omega
   refine Ev.step (fun k => z70.l1.eq_2 ..) ?_
   (first | refine ev_pos (by omega) ?_ | refine ev_neg (by omega) ?_)
   rw [tab_length]
   have e := le_iter (fun (b : Bool) (z : Nat) k => z70.l2 k (tab n R) t (x : Int) (y : Int) b (n : Int) (x : Int) (n : Int) (y : Int) (n : Int) (z : Int)) (fun z b => b || (!(z == x) && (!(z == y) && (R x z && R z y)))) n 0 false (fun z b _ hz r hr => ?_)
   ·refine e _ ?_
    rw [between_iter, Nat.zero_add]
    refine Ev.step (fun k => z70.l2.eq_2 ..) ?_
    simp only [tab_length, tab_get hx, row_length, row_get hy, wrap_succ (show y < 9223372036854775807 by omega)]
    (first | refine ev_pos (by omega) ?_ | refine ev_neg (by omega) ?_)
    by_cases hxy : x = y
    ·have hc : covers n R x y = false := by simp [covers, hxy]
     rw [hc] at hr
     exact ev_pos (by omega) hr
    ·(repeat (first | refine ev_pos (by omega) ?_ | refine ev_neg (by omega) ?_))
     by_cases h1 : R x y = true
     ·refine ev_pos h1 ?_
      cases hb : between n R x y with
      | true =>
       have hc : covers n R x y = false := by simp [covers, hb]
       rw [hc] at hr
       exact ev_pos rfl hr
      | false =>
       have hc : covers n R x y = true := by simp [covers, hb, h1, hxy]
       rw [hc] at hr
       exact ev_neg (by decide) (ev_pos (by omega) hr)
     ·have hc : covers n R x y = false := by simp [covers, h1]
      rw [hc] at hr
      exact ev_neg h1 hr
   ·have hz : z < n := by omega
    refine Ev.step (fun k => z70.l2.eq_2 ..) ?_
    simp only [tab_length, tab_get hx, tab_get hz, row_length, row_get hz, row_get hy, wrap_succ (show z < 9223372036854775807 by omega)]
    (first | refine ev_pos (by omega) ?_ | refine ev_neg (by omega) ?_)
    cases b with
    | true => exact ev_pos rfl (by simpa using hr)
    | false =>
     refine ev_neg (by decide) ?_
     by_cases hzx : z = x
     ·have : (z == x) = true := by simpa using hzx
      rw [this] at hr
      exact ev_pos (by omega) (by simpa using hr)
     ·have h0 : (z == x) = false := by simpa using hzx
      rw [h0] at hr
      refine ev_neg (by omega) ?_
      by_cases hzy : z = y
      ·have : (z == y) = true := by simpa using hzy
       rw [this] at hr
       exact ev_pos (by omega) (by simpa using hr)
      ·have h0 : (z == y) = false := by simpa using hzy
       rw [h0] at hr
       refine ev_neg (by omega) ?_
       (repeat (first | refine ev_pos (by omega) ?_ | refine ev_neg (by omega) ?_))
       by_cases h1 : R x z = true
       ·rw [h1] at hr
        refine ev_pos h1 ?_
        (repeat (first | refine ev_pos (by omega) ?_ | refine ev_neg (by omega) ?_))
        simpa using hr
       ·have h1' : R x z = false := by simpa using h1
        rw [h1'] at hr
        exact ev_neg h1 (by simpa using hr)
end
end Go.Proofs.Ytagefgkneandpaa.B

set_option linter.unusedVariables false
set_option linter.unusedSimpArgs false
namespace Go.Proofs.Ytagefgkneandpaa.B
open Go.RowKit Go.Proofs.YtagefgkneandpaaW.PrintWords

section
variable {n : Nat} {pairs : List (List Int)} {R : Nat → Nat → Bool}
theorem table_cells (hn : n ≤ 12) (x a : Nat) (hx : x < n) (ha : a < n) (R : Nat → Nat → Bool) : Le (fun k => z79.l3 k (n : Int) (tab n (wRow n x a R)) (x : Int) ((a + 1 : Nat) : Int)) (fun k => z79.l4 k (n : Int) (tab n R) (x : Int) (a : Int) ((0 : Nat) : Int)) := by
 have h := le_iter (fun (R : Nat → Nat → Bool) (c : Nat) k => z79.l4 k (n : Int) (tab n R) (x : Int) (a : Int) (c : Int)) (wCell x a) n 0 R (fun c R _ hc r hr => by
  have hc : c < n := by omega
  refine Ev.step (fun k => z79.l4.eq_2 ..) ?_
  have hs := fun v => tab_set (n := n) (R := R) (a := a) (c := c) v
  simp only [tab_length, tab_get ha, tab_get hx, row_length, row_get hc, row_get hx, Int.toNat_natCast, wrap_succ (show c < 9223372036854775807 by omega), hs]
  refine ev_pos (by omega) (ev_pos (by omega) (ev_pos (by omega) (ev_pos (by omega) (ev_pos (by omega) ?_))))
  cases h2 : R a x with
  | false =>
   have : wCell x a c R = R := by
    have : wCell x a c R = upd R a c (R a c) := by simp [wCell, h2]
    rw [this]; exact upd_self _ _ _ _ rfl
   rw [this] at hr
   exact ev_neg (by decide) hr
  | true =>
   refine ev_pos rfl (ev_pos (by omega) (ev_pos (by omega) (ev_pos (by omega) ?_)))
   cases h3 : R x c with
   | false =>
    have : wCell x a c R = R := by
     have : wCell x a c R = upd R a c (R a c) := by simp [wCell, h3]
     rw [this]; exact upd_self _ _ _ _ rfl
    rw [this] at hr
    exact ev_neg (by decide) hr
   | true =>
    have : wCell x a c R = upd R a c true := by simp [wCell, h2, h3]
    rw [this] at hr
    exact ev_pos rfl (ev_pos (by omega) hr))
 refine Le.trans (fun r hr => ?_) h
 rw [Nat.zero_add]
 refine Ev.step (fun k => z79.l4.eq_2 ..) ?_
 rw [wrap_succ (show a < 9223372036854775807 by omega)]
 exact ev_neg (by omega) hr
theorem table_round (hn : n ≤ 12) (x : Nat) (hx : x < n) (R : Nat → Nat → Bool) : Le (fun k => z79.l2 k (n : Int) (tab n (wRound n x R)) ((x + 1 : Nat) : Int)) (fun k => z79.l3 k (n : Int) (tab n R) (x : Int) ((0 : Nat) : Int)) := by
 have h := le_iter (fun (R : Nat → Nat → Bool) (a : Nat) k => z79.l3 k (n : Int) (tab n R) (x : Int) (a : Int)) (wRow n x) n 0 R (fun a R _ ha r hr => by
  have ha : a < n := by omega
  refine Ev.step (fun k => z79.l3.eq_2 ..) ?_
  (first | refine ev_pos (by omega) ?_ | refine ev_neg (by omega) ?_)
  exact table_cells hn x a hx ha R r hr)
 refine Le.trans (fun r hr => ?_) h
 rw [Nat.zero_add]
 refine Ev.step (fun k => z79.l3.eq_2 ..) ?_
 rw [wrap_succ (show x < 9223372036854775807 by omega)]
 exact ev_neg (by omega) hr
theorem table_loop (hn : n ≤ 12) (R : Nat → Nat → Bool) : Ev (fun k => z79.l2 k (n : Int) (tab n R) ((0 : Nat) : Int)) (tab n (warshall n R)) := by
 have h := le_iter (fun (R : Nat → Nat → Bool) (x : Nat) k => z79.l2 k (n : Int) (tab n R) (x : Int)) (wRound n) n 0 R (fun x R _ hx r hr => by
  have hx : x < n := by omega
  refine Ev.step (fun k => z79.l2.eq_2 ..) ?_
  (first | refine ev_pos (by omega) ?_ | refine ev_neg (by omega) ?_)
  exact table_round hn x hx R r hr)
 refine h _ ?_
 rw [Nat.zero_add]
 refine Ev.step (fun k => z79.l2.eq_2 ..) ?_
 exact ev_neg (by omega) (Ev.now _)
theorem table_pairs (hn : n ≤ 12) (hp : Pairs n pairs) (hl : pairs.length < 9223372036854775807) (R : Nat → Nat → Bool) : Ev (fun k => z79.l1 k (n : Int) pairs (tab n R) ((0 : Nat) : Int)) (tab n (warshall n (pairsRel pairs R))) := by
 have h := le_iter (fun (R : Nat → Nat → Bool) (i : Nat) k => z79.l1 k (n : Int) pairs (tab n R) (i : Int)) (fun i R => upd R ((pairs.getD i []).getD 0 0).toNat ((pairs.getD i []).getD 1 0).toNat true) pairs.length 0 R (fun i R _ hi r hr => by
  have hi : i < pairs.length := by omega
  obtain ⟨h2, h3, h4, h5, h6⟩ := hp _ (getD_mem [] hi)
  obtain ⟨u, hu⟩ := Int.eq_ofNat_of_zero_le h3
  obtain ⟨v, hv⟩ := Int.eq_ofNat_of_zero_le h5
  have hu' : u < n := by omega
  have hv' : v < n := by omega
  have e0 : rd (rd_ListInt pairs (i : Int)) 0 = (u : Int) := by rw [rdl_nat, show (0 : Int) = ((0 : Nat) : Int) from rfl, rd_nat]; exact hu
  have e1 : rd (rd_ListInt pairs (i : Int)) 1 = (v : Int) := by rw [rdl_nat, show (1 : Int) = ((1 : Nat) : Int) from rfl, rd_nat]; exact hv
  have e2 : ((rd_ListInt pairs (i : Int)).length : Int) = 2 := by rw [rdl_nat, h2]; rfl
  have et : ((pairs.getD i []).getD 0 0).toNat = u := by rw [hu]; exact Int.toNat_natCast u
  have ev : ((pairs.getD i []).getD 1 0).toNat = v := by rw [hv]; exact Int.toNat_natCast v
  rw [et, ev] at hr
  refine Ev.step (fun k => z79.l1.eq_2 ..) ?_
  simp only [e0, e1, e2, tab_length, tab_get hu', row_length, Int.toNat_natCast, wrap_succ (show i < 9223372036854775807 by omega), tab_set]
  (repeat (first | refine ev_pos (by omega) ?_ | refine ev_neg (by omega) ?_))
  exact hr)
 refine h _ ?_
 rw [Nat.zero_add]
 refine Ev.step (fun k => z79.l1.eq_2 ..) ?_
 exact ev_neg (by omega) (table_loop hn _)
theorem table_ev (hn : n ≤ 12) (hp : Pairs n pairs) (hl : pairs.length < 9223372036854775807) : Ev (fun k => z79.f k (n : Int) pairs) (tab n (orderOf n pairs)) := by
 have h := le_iter_inv (fun (s : List (List Bool)) (i : Nat) k => z79.l0 k (n : Int) pairs s (i : Int)) (fun i s => s ++ [row n (diag i)]) (fun i s => s = (tab n diag).take i) n 0 [] (by simp) (by
  intro i s _ hi hs
  have hi : i < n := by omega
  have hlen : s.length = i := by subst hs; simp only [List.length_take, tab_length]; omega
  have hrep : List.replicate n false = row n (fun _ => false) := by simp [row, List.map_const']
  have hrow : (List.replicate n false).set i true = row n (diag i) := by
   rw [hrep, row_set]
   congr 1
   funext c
   simp only [diag]
   by_cases e : c = i
   ·simp [e]
   ·simp [e, Ne.symm e]
  refine ⟨fun r hr => ?_, ?_⟩
  ·refine Ev.step (fun k => z79.l0.eq_2 ..) ?_
   simp only [Int.toNat_natCast, hlen, List.length_replicate, hrow, Option.bind_some, wrap_succ (show i < 9223372036854775807 by omega)]
   (repeat (first | refine ev_pos (by omega) ?_ | refine ev_neg (by omega) ?_))
   exact hr
  ·subst hs
   rw [List.take_succ_eq_append_getElem (by rw [tab_length]; exact hi)]
   simp [tab])
 unfold z79.f
 refine h.1 _ ?_
 rw [Nat.zero_add, h.2, Nat.zero_add, List.take_of_length_le (by rw [tab_length]; exact Nat.le_refl _)]
 refine Ev.step (fun k => z79.l0.eq_2 ..) ?_
 exact ev_neg (by omega) (table_pairs hn hp hl diag)

theorem isOrd_iff : isOrd n R = true ↔ ∀ x y, x < n → y < n → x ≠ y → R x y = true → R y x = false := by
 unfold isOrd
 rw [List.all_eq_true]
 constructor
 ·intro h x y hx hy hne hxy
  rcases Nat.lt_or_gt_of_ne hne with hlt | hlt
  ·have := List.all_eq_true.1 (h y (List.mem_range.2 hy)) x (List.mem_range.2 hlt)
   rw [hxy, Bool.and_true] at this
   simpa using this
  ·have := List.all_eq_true.1 (h x (List.mem_range.2 hx)) y (List.mem_range.2 hlt)
   rw [hxy, Bool.true_and] at this
   simpa using this
 ·intro h x hx
  have hx := List.mem_range.1 hx
  refine List.all_eq_true.2 (fun y hy => ?_)
  have hy := List.mem_range.1 hy
  cases hxy : R x y with
  | false => rfl
  | true => rw [h x y hx (by omega) (by omega) hxy]; rfl

theorem specBetween (hn : n ≤ 12) {x y : Nat} (hx : x < n) (hy : y < n) (s : List (List Int)) {r : List (List Int) × Bool} (hs : s.length < 5864062014805)
  (h : Ev (fun k => z78.l1 k (tab n R) (if between n R x y = true then s else s ++ [[(x : Int), (y : Int)]]) (x : Int) ((y + 1 : Nat) : Int)) r) : Ev (fun k => z78.l2 k (tab n R) s (x : Int) (y : Int) false ((0 : Nat) : Int)) r := by
 have e := le_iter (fun (b : Bool) (z : Nat) k => z78.l2 k (tab n R) s (x : Int) (y : Int) b (z : Int)) (fun z b => b || (!(z == x) && (!(z == y) && (R x z && R z y)))) n 0 false (fun z b _ hz r hr => ?_)
 ·refine e _ ?_
  rw [between_iter, Nat.zero_add]
  refine Ev.step (fun k => z78.l2.eq_2 ..) ?_
  simp only [tab_length, wrap_succ (show y < 9223372036854775807 by omega)]
  (first | refine ev_pos (by omega) ?_ | refine ev_neg (by omega) ?_)
  cases hb : between n R x y with
  | true => rw [hb] at h; exact ev_pos rfl h
  | false => rw [hb] at h; exact ev_neg (by decide) (ev_pos (by omega) h)
 ·have hz : z < n := by omega
  refine Ev.step (fun k => z78.l2.eq_2 ..) ?_
  simp only [tab_length, tab_get hx, tab_get hz, row_length, row_get hz, row_get hy, wrap_succ (show z < 9223372036854775807 by omega)]
  (first | refine ev_pos (by omega) ?_ | refine ev_neg (by omega) ?_)
  cases b with
  | true => exact ev_pos rfl (by simpa using hr)
  | false =>
   refine ev_neg (by decide) ?_
   by_cases hzx : z = x
   ·have : (z == x) = true := by simpa using hzx
    rw [this] at hr
    exact ev_pos (by omega) (by simpa using hr)
   ·have h0 : (z == x) = false := by simpa using hzx
    rw [h0] at hr
    refine ev_neg (by omega) ?_
    by_cases hzy : z = y
    ·have : (z == y) = true := by simpa using hzy
     rw [this] at hr
     exact ev_pos (by omega) (by simpa using hr)
    ·have h0 : (z == y) = false := by simpa using hzy
     rw [h0] at hr
     refine ev_neg (by omega) (ev_pos (by omega) (ev_pos (by omega) (ev_pos (by omega) (ev_pos (by omega) ?_))))
     cases h1 : R x z with
     | true =>
      rw [h1] at hr
      refine ev_pos rfl (ev_pos (by omega) (ev_pos (by omega) ?_))
      simpa using hr
     | false =>
      rw [h1] at hr
      exact ev_neg (by decide) (by simpa using hr)
theorem specCell (hn : n ≤ 12) {x y : Nat} (hx : x < n) (hy : y < n) (s : List (List Int)) {r : List (List Int) × Bool} (hs : s.length < 5864062014805) (ho : x ≠ y → R x y = true → R y x = false)
  (h : Ev (fun k => z78.l1 k (tab n R) (if covers n R x y = true then s ++ [[(x : Int), (y : Int)]] else s) (x : Int) ((y + 1 : Nat) : Int)) r) : Ev (fun k => z78.l1 k (tab n R) s (x : Int) (y : Int)) r := by
 refine Ev.step (fun k => z78.l1.eq_2 ..) ?_
 simp only [tab_length, tab_get hx, row_length, row_get hy]
 (first | refine ev_pos (by omega) ?_ | refine ev_neg (by omega) ?_)
 have skip : covers n R x y = false → Ev (fun k => z78.j2 k (tab n R) s (x : Int) (y : Int) true) r := fun hc => by
  rw [hc] at h
  refine Ev.step (fun k => z78.j2.eq_2 ..) ?_
  rw [wrap_succ (show y < 9223372036854775807 by omega)]
  exact ev_pos rfl h
 by_cases hxy : x = y
 ·exact ev_pos (by omega) (skip (by simp [covers, hxy]))
 ·refine ev_neg (by omega) (ev_pos (by omega) (ev_pos (by omega) (ev_pos (by omega) (ev_pos (by omega) ?_))))
  cases h1 : R x y with
  | false => exact skip (by simp [covers, h1])
  | true =>
   have h2 := ho hxy h1
   refine Ev.step (fun k => z78.j2.eq_2 ..) ?_
   simp only [tab_length, tab_get hy, row_length, row_get hx, h2]
   refine ev_neg (by decide) (ev_pos (by omega) (ev_pos (by omega) (ev_pos (by omega) (ev_pos (by omega) (ev_neg (by decide) ?_)))))
   refine specBetween hn hx hy s hs ?_
   cases hb : between n R x y with
   | true =>
    have hc : covers n R x y = false := by simp [covers, hb]
    rw [hc] at h; exact h
   | false =>
    have hc : covers n R x y = true := by simp [covers, hb, h1, hxy]
    rw [hc] at h; exact h
theorem coverRow_le (x : Nat) (s : List (List Int)) : (coverRow n R x s).length ≤ s.length + n := by
 have := iter_inv (fun y s => if covers n R x y then s ++ [[(x : Int), (y : Int)]] else s) (fun i (t : List (List Int)) => t.length ≤ s.length + i) n 0 s (by omega) (fun j t _ _ h => by
  split
  ·simp only [List.length_append, List.length_singleton]; omega
  ·omega)
 simpa [coverRow] using this
theorem specCovers_ev (hn : n ≤ 12) : Ev (fun k => z78.f k (tab n R)) (if isOrd n R = true then (coversOf n R, true) else ([], false)) := by
 unfold z78.f
 have hrow : ∀ (x : Nat) (s : List (List Int)) (d y : Nat), x < n → y + d ≤ n → (∀ z, z < y + d → x ≠ z → R x z = true → R z x = false) → s.length ≤ 1000 → ∀ r, Ev (fun k => z78.l1 k (tab n R) (iter (fun y s => if covers n R x y then s ++ [[(x : Int), (y : Int)]] else s) y d s) (x : Int) ((y + d : Nat) : Int)) r → Ev (fun k => z78.l1 k (tab n R) s (x : Int) (y : Int)) r := fun x s d y hx hd ho hs r hr => by
  have g := le_iter_inv (fun (s : List (List Int)) (y : Nat) k => z78.l1 k (tab n R) s (x : Int) (y : Int)) (fun y s => if covers n R x y then s ++ [[(x : Int), (y : Int)]] else s) (fun i t => t.length + y ≤ s.length + i) d y s (by omega) (fun i t hi1 hi2 ht => ⟨fun r hr => specCell hn hx (by omega) t (by omega) (ho i (by omega)) hr, by
   split
   ·simp only [List.length_append, List.length_singleton]; omega
   ·omega⟩)
  exact g.1 r hr
 by_cases hO : isOrd n R = true
 ·rw [if_pos hO]
  have hO := isOrd_iff.1 hO
  have h := le_iter_inv (fun (s : List (List Int)) (x : Nat) k => z78.l0 k (tab n R) s (x : Int)) (coverRow n R) (fun x s => s.length ≤ x * n) n 0 [] (by simp) (fun x s _ hx hs => ⟨fun r hr => ?_, by have := coverRow_le (n := n) (R := R) x s; rw [Nat.add_mul, Nat.one_mul]; omega⟩)
  ·refine h.1 _ ?_
   rw [Nat.zero_add]
   refine Ev.step (fun k => z78.l0.eq_2 ..) ?_
   rw [tab_length]
   exact ev_neg (by omega) (Ev.now _)
  ·have hx : x < n := by omega
   have hxn : x * n ≤ 12 * 12 := Nat.mul_le_mul (by omega) hn
   refine Ev.step (fun k => z78.l0.eq_2 ..) ?_
   rw [tab_length]
   (first | refine ev_pos (by omega) ?_ | refine ev_neg (by omega) ?_)
   refine hrow x s n 0 hx (by omega) (fun z hz hne h => hO x z hx (by omega) hne h) (by omega) r ?_
   rw [Nat.zero_add]
   refine Ev.step (fun k => z78.l1.eq_2 ..) ?_
   rw [tab_length, wrap_succ (show x < 9223372036854775807 by omega)]
   exact ev_neg (by omega) hr
 ·rw [if_neg hO]
  have hbad : ∃ x, x < n ∧ ∃ y, y < n ∧ x ≠ y ∧ R x y = true ∧ R y x = true := by
   apply Classical.byContradiction
   intro hc
   apply hO
   refine isOrd_iff.2 (fun x y hx hy hne hxy => ?_)
   cases h : R y x with
   | false => rfl
   | true => exact absurd ⟨x, hx, y, hy, hne, hxy, h⟩ hc
  obtain ⟨x, ⟨hx, hy'⟩, hmin⟩ := least hbad
  obtain ⟨y, ⟨hy, hne, h1, h2⟩, hymin⟩ := least hy'
  have h := le_iter_inv (fun (s : List (List Int)) (x : Nat) k => z78.l0 k (tab n R) s (x : Int)) (coverRow n R) (fun x s => s.length ≤ x * n) x 0 [] (by simp) (fun i s _ hi hs => ⟨fun r hr => ?_, by have := coverRow_le (n := n) (R := R) i s; rw [Nat.add_mul, Nat.one_mul]; omega⟩)
  ·refine h.1 _ ?_
   have hl := h.2
   have hxn : x * n ≤ 12 * 12 := Nat.mul_le_mul (by omega) hn
   rw [Nat.zero_add] at hl ⊢
   refine Ev.step (fun k => z78.l0.eq_2 ..) ?_
   rw [tab_length]
   (first | refine ev_pos (by omega) ?_ | refine ev_neg (by omega) ?_)
   refine hrow x _ y 0 hx (by omega) (fun z hz hne' h' => ?_) (by omega) _ ?_
   ·cases h'' : R z x with
    | false => rfl
    | true => exact absurd ⟨by omega, hne', h', h''⟩ (hymin z (by omega))
   ·rw [Nat.zero_add]
    refine Ev.step (fun k => z78.l1.eq_2 ..) ?_
    simp only [tab_length, tab_get hx, row_length, row_get hy, h1]
    refine ev_pos (by omega) (ev_neg (by omega) (ev_pos (by omega) (ev_pos (by omega) (ev_pos (by omega) (ev_pos (by omega) ?_)))))
    refine Ev.step (fun k => z78.j2.eq_2 ..) ?_
    simp only [tab_length, tab_get hy, row_length, row_get hx, h2]
    exact ev_neg (by decide) (ev_pos (by omega) (ev_pos (by omega) (ev_pos (by omega) (ev_pos (by omega) (ev_pos (by simp) (Ev.now _))))))
  ·have hi' : i < n := by omega
   have hin : i * n ≤ 12 * 12 := Nat.mul_le_mul (by omega) hn
   refine Ev.step (fun k => z78.l0.eq_2 ..) ?_
   rw [tab_length]
   (first | refine ev_pos (by omega) ?_ | refine ev_neg (by omega) ?_)
   refine hrow i s n 0 hi' (by omega) (fun z hz hne h => ?_) (by omega) r ?_
   ·cases h'' : R z i with
    | false => rfl
    | true => exact absurd ⟨hi', z, by omega, hne, h, h''⟩ (hmin i (by omega))
   ·rw [Nat.zero_add]
    refine Ev.step (fun k => z78.l1.eq_2 ..) ?_
    rw [tab_length, wrap_succ (show i < 9223372036854775807 by omega)]
    exact ev_neg (by omega) hr
end
end Go.Proofs.Ytagefgkneandpaa.B

-- written for this claim by a program (mp.py over the kit's printer)
namespace Go.Proofs.Ytagefgkneandpaa.B
open Go.RowKit Go.Proofs.YtagefgkneandpaaW.PrintWords Go.Proofs.YtagefgkneandpaaW.PrintLast Go.Proofs.YtagefgkneandpaaW.PrintMore
attribute [local go_sem] max2_int min2_int max_two min_two max_three min_three max_four min_four
set_option linter.unusedVariables false
set_option linter.unusedSimpArgs false

def z84.f (l0 : List Int) (a1 : Int) : Option (Int) := if (wrap64 (a1 - (l0.length : Int))) < 0 then (some (-1)) else (some (wrap64 (a1 - (l0.length : Int))))
set_option maxHeartbeats 8000000 in
set_option maxRecDepth 100000 in
theorem z84.calls (A0 : Option Addr) (c0 : Nat) (l0 : List Int) (a1 : Int) (r : Int) (w : World) (hr0 : Kd.C (Kd.int .i64) w A0 l0.length l0) (hc0 : l0.length ≤ c0) (h : z84.f l0 a1 = some r) :
  Calls Try.prog 84 #[.slice A0 l0.length c0, .int .i64 a1] w fun e w' => e = .returned (.int .i64 r) ∧ Drawn0 w w' := by
 have HR0 := Aside0.mk hr0
 have HC0 := Aside0.mk hc0
 clear hr0 hc0
 have H : (if (wrap64 (a1 - (l0.length : Int))) < 0 then (some (-1)) else (some (wrap64 (a1 - (l0.length : Int))))) = some r := h
 clear h
 by_cases c3 : (wrap64 (a1 - (l0.length : Int))) < 0
 ·rw [if_pos c3] at H
  have c3b0 : decide ((wrap64 (a1 - (l0.length : Int))) < 0) = true := decide_eq_true c3
  clear c3
  obtain rfl := Option.some.inj H
  go_enter Try.func84, Try.ntmps84
  go_wp2
  go_ret
  exact ⟨by first | rfl | (simp; done) | (simp [*]; done), by repeat (first | exact Drawn0.refl _ | apply Drawn0.step)⟩
 ·rw [if_neg c3] at H
  have c3b0 : decide ((wrap64 (a1 - (l0.length : Int))) < 0) = false := decide_eq_false c3
  clear c3
  obtain rfl := Option.some.inj H
  go_enter Try.func84, Try.ntmps84
  go_wp2
  go_ret
  exact ⟨by first | rfl | (simp; done) | (simp [*]; done), by repeat (first | exact Drawn0.refl _ | apply Drawn0.step)⟩

end Go.Proofs.Ytagefgkneandpaa.B

-- written for this claim by a program (mp.py over the kit's printer)
namespace Go.Proofs.Ytagefgkneandpaa.B
open Go.RowKit Go.Proofs.YtagefgkneandpaaW.PrintWords Go.Proofs.YtagefgkneandpaaW.PrintLast Go.Proofs.YtagefgkneandpaaW.PrintMore
attribute [local go_sem] max2_int min2_int max_two min_two max_three min_three max_four min_four
set_option linter.unusedVariables false
set_option linter.unusedSimpArgs false

def z50.l0 : Nat → List (List Int) → Int → Int → Option (Int)
 | 0, _, _, _ => none
 | k + 1, x0, x1, x5 => if x5 < (x0.length : Int) then (if 0 ≤ x5 then ((z84.f (rd_ListInt x0 x5) x1).bind fun t102 => (if t102 < 0 then (some (-1)) else (z50.l0 k x0 t102 (wrap64 (x5 + 1))))) else (none)) else (some x1)
def z50.f (k : Nat) (l0 : List (List Int)) (a1 : Int) : Option (Int) := if (wrap64 (a1 - (l0.length : Int))) < 0 then (some (-1)) else (z50.l0 k l0 (wrap64 (a1 - (l0.length : Int))) 0)
set_option maxHeartbeats 8000000 in
set_option maxRecDepth 100000 in
theorem z50.calls (k : Nat) (A0 : Option Addr) (c0 : Nat) (l0 : List (List Int)) (a1 : Int) (r : Int) (w : World) (hr0 : Kd.C (Kd.slice 2 (Kd.int .i64)) w A0 l0.length l0) (hc0 : l0.length ≤ c0) (h : z50.f k l0 a1 = some r) :
  Calls Try.prog 50 #[.slice A0 l0.length c0, .int .i64 a1] w fun e w' => e = .returned (.int .i64 r) ∧ Drawn0 w w' := by
 have HR0 := Aside0.mk hr0
 have HC0 := Aside0.mk hc0
 clear hr0 hc0
 have H : (if (wrap64 (a1 - (l0.length : Int))) < 0 then (some (-1)) else (z50.l0 k l0 (wrap64 (a1 - (l0.length : Int))) 0)) = some r := h
 clear h
 by_cases c3 : (wrap64 (a1 - (l0.length : Int))) < 0
 ·rw [if_pos c3] at H
  have c3b0 : decide ((wrap64 (a1 - (l0.length : Int))) < 0) = true := decide_eq_true c3
  clear c3
  obtain rfl := Option.some.inj H
  go_enter Try.func50, Try.ntmps50
  go_wp2
  go_ret
  exact ⟨by first | rfl | (simp; done) | (simp [*]; done), by repeat (first | exact Drawn0.refl _ | apply Drawn0.step)⟩
 ·rw [if_neg c3] at H
  have c3b0 : decide ((wrap64 (a1 - (l0.length : Int))) < 0) = false := decide_eq_false c3
  clear c3
  have H' := Aside0.mk H
  clear H
  go_enter Try.func50, Try.ntmps50
  go_wp2
  go_loopg [1, 5] k (fun kq v1 v5 w' => ∃ (x1_1 : Int) (x5_1 : Int), v1 = .int .i64 x1_1 ∧ v5 = .int .i64 x5_1 ∧ Aside0 (z50.l0 kq l0 x1_1 x5_1 = some r) ∧ Aside0 (kq ≤ k) ∧ Drawn0 w w')
  case atStart => exact ⟨(wrap64 (a1 - (l0.length : Int))), (0), E_, E_, H', ⟨Nat.le_refl _⟩, by repeat (first | exact Drawn0.refl _ | apply Drawn0.step)⟩
  case round =>
   clear H'
   (try clear p2);(try clear c3);(try clear c3b0)
   obtain ⟨x1_1, x5_1, rfl, rfl, HA, HK1, ⟨m1, rfl⟩⟩ := hrel
   cases gk with
   | zero => exact absurd HA.out (by simp [z50.l0])
   | succ k1 =>
    have H := HA.out
    clear HA
    simp only [z50.l0] at H
    by_cases c4 : x5_1 < (l0.length : Int)
    ·rw [if_pos c4] at H
     have c4b0 : decide (x5_1 < (l0.length : Int)) = true := decide_eq_true c4
     clear c4
     have c5 := O1_ H
     replace H := O2_ H
     have c5b0 := decide_eq_true c5
     clear c5
     replace H := Option.bind_eq_some_iff.mp H
     obtain ⟨t102, A60, H⟩ := H
     have A6 := Aside0.mk A60
     clear A60
     by_cases c7 : t102 < 0
     ·rw [if_pos c7] at H
      have c7b0 : decide (t102 < 0) = true := decide_eq_true c7
      clear c7
      obtain rfl := Option.some.inj H
      have p101 : 0 ≤ (x5_1 : Int) := D_
      have q101 : x5_1 < (l0.length : Int) := D_
      obtain ⟨ad101, A101_0, c101_0, e101, hx101_0, hl101_0, hi101_0⟩ := at_ListInt HR0.out x5_1 p101 q101
      cases e101
      have HR101_0 := Aside0.mk hi101_0
      have HC101_0 := Aside0.mk hl101_0
      clear hi101_0 hl101_0
      replace p101 := eq_true p101
      replace q101 := eq_true q101
      go_wp2_with (first | ((with_reducible refine gate_callee (f := 84) rfl ?_); refine goesL_ (some 23) rfl rfl Try.func84 (by kernel_rfl) rfl #[.slice A101_0 (rd_ListInt l0 x5_1).length c101_0, .int .i64 x1_1] rfl (by (try simp only [List.map_toArray, List.map_cons, List.map_nil]); first | done | rfl | (simp only [List.length_drop, List.length_take]; rfl)) ?_; (with_reducible refine (z84.calls _ _ (rd_ListInt l0 x5_1) x1_1 t102 _ ?side1 ?side2 A6.out).mono ?_); (case side1 => exact KC_ HR101_0.out); (case side2 => exact HC101_0.out); rintro e w' ⟨rfl, ⟨nd, rfl⟩⟩; refine ⟨_, rfl, ?_⟩))
      go_ret
      exact ⟨by first | rfl | (simp; done) | (simp [*]; done), by repeat (first | exact Drawn0.refl _ | apply Drawn0.step)⟩
     ·rw [if_neg c7] at H
      have c7b0 : decide (t102 < 0) = false := decide_eq_false c7
      clear c7
      have H' := Aside0.mk H
      clear H
      have p101 : 0 ≤ (x5_1 : Int) := D_
      have q101 : x5_1 < (l0.length : Int) := D_
      obtain ⟨ad101, A101_0, c101_0, e101, hx101_0, hl101_0, hi101_0⟩ := at_ListInt HR0.out x5_1 p101 q101
      cases e101
      have HR101_0 := Aside0.mk hi101_0
      have HC101_0 := Aside0.mk hl101_0
      clear hi101_0 hl101_0
      replace p101 := eq_true p101
      replace q101 := eq_true q101
      go_wp2_with (first | ((with_reducible refine gate_callee (f := 84) rfl ?_); refine goesL_ (some 23) rfl rfl Try.func84 (by kernel_rfl) rfl #[.slice A101_0 (rd_ListInt l0 x5_1).length c101_0, .int .i64 x1_1] rfl (by (try simp only [List.map_toArray, List.map_cons, List.map_nil]); first | done | rfl | (simp only [List.length_drop, List.length_take]; rfl)) ?_; (with_reducible refine (z84.calls _ _ (rd_ListInt l0 x5_1) x1_1 t102 _ ?side1 ?side2 A6.out).mono ?_); (case side1 => exact KC_ HR101_0.out); (case side2 => exact HC101_0.out); rintro e w' ⟨rfl, ⟨nd, rfl⟩⟩; refine ⟨_, rfl, ?_⟩))
      go_roundg k1
      case measure => exact Q1_ HK1
      case rel => exact ⟨(t102), (wrap64 (x5_1 + 1)), E_, E_, H', ⟨Q1_ HK1⟩, by repeat (first | exact Drawn0.refl _ | apply Drawn0.step)⟩
    ·rw [if_neg c4] at H
     have c4b0 : decide (x5_1 < (l0.length : Int)) = false := decide_eq_false c4
     clear c4
     obtain rfl := Option.some.inj H
     go_wp2
     go_ret
     exact ⟨by first | rfl | (simp; done) | (simp [*]; done), by repeat (first | exact Drawn0.refl _ | apply Drawn0.step)⟩

end Go.Proofs.Ytagefgkneandpaa.B

-- written for this claim by a program (mp.py over the kit's printer)
namespace Go.Proofs.Ytagefgkneandpaa.B
open Go.RowKit Go.Proofs.YtagefgkneandpaaW.PrintWords Go.Proofs.YtagefgkneandpaaW.PrintLast Go.Proofs.YtagefgkneandpaaW.PrintMore
attribute [local go_sem] max2_int min2_int max_two min_two max_three min_three max_four min_four
set_option linter.unusedVariables false
set_option linter.unusedSimpArgs false

def z85.l0 : Nat → List Int → List Int → Int → Option (List Int)
 | 0, _, _, _ => none
 | k + 1, x0, x3, x4 => if x4 < (x0.length : Int) then (if 0 ≤ x4 then (if x4 < (x3.length : Int) then (z85.l0 k x0 (x3.set (x4 : Int).toNat (rd x0 x4)) (wrap64 (x4 + 1))) else (none)) else (none)) else (some x3)
def z85.f (k : Nat) (l0 : List Int) : Option (List Int) := if 0 ≤ (l0.length : Int) then (if ((l0.length : Int) : Int).toNat ≤ 35184372088832 then (z85.l0 k l0 (List.replicate ((l0.length : Int) : Int).toNat 0) 0) else (none)) else (none)
set_option maxHeartbeats 8000000 in
set_option maxRecDepth 100000 in
theorem z85.calls (k : Nat) (A0 : Option Addr) (c0 : Nat) (l0 : List Int) (r : List Int) (w : World) (hr0 : Kd.C (Kd.int .i64) w A0 l0.length l0) (hc0 : l0.length ≤ c0) (h : z85.f k l0 = some r) :
  Calls Try.prog 85 #[.slice A0 l0.length c0] w fun e w' => ∃ v0_ : Value, e = .returned (v0_) ∧ Kd.R (Kd.int .i64) 2 w' w.heap.size (fun _ => True) v0_ r ∧ Below w.heap.size w w' := by
 have HR0 := Aside0.mk hr0
 have HC0 := Aside0.mk hc0
 clear hr0 hc0
 have HB := Aside0.mk (Below.refl w.heap.size w)
 have H : (if 0 ≤ (l0.length : Int) then (if ((l0.length : Int) : Int).toNat ≤ 35184372088832 then (z85.l0 k l0 (List.replicate ((l0.length : Int) : Int).toNat 0) 0) else (none)) else (none)) = some r := h
 clear h
 have c2 := O1_ H
 replace H := O2_ H
 have c2b0 := eq_true c2
 have c2b1 : decide (0 ≤ (l0.length : Int)) = true := decide_eq_true c2
 clear c2
 have c3 := O1_ H
 replace H := O2_ H
 have c3b0 := eq_true c3
 have c3b1 : decide (((l0.length : Int) : Int).toNat ≤ 35184372088832) = true := decide_eq_true c3
 clear c3
 obtain ⟨y101, hy101⟩ : ∃ y_ : List Int, y_ = (List.replicate ((l0.length : Int) : Int).toNat 0) := ⟨_, rfl⟩
 replace H : (z85.l0 k l0 y101 0) = some r := Y_ hy101 H
 have Ny101 := Aside0.mk hy101
 clear hy101
 have H' := Aside0.mk H
 clear H
 go_enter Try.func85, Try.ntmps85
 go_wp2_with (first | ((with_reducible refine gate_dst (N := 7) rfl ?_); refine Kd.R_make (Kd.int .i64) _ 2 rfl (N := 7) rfl 32 _ _ rfl (l0.length : Int) rfl rfl Try.underlying32 (.int .i64 0) 8 info2 rfl (by decide) (by omega) 0 (ok := fun _ => True) (okp := fun _ => True) rfl (fun _ hk => hk) trivial (D_) (Nat.le_trans (Nat.mul_le_mul_right _ (D_ : (l0.length : Int).toNat ≤ 35184372088832)) (by omega)) (Below.refl _ _) (Nat.le_refl _) ?_; intro v102 w4 ho5 hb hg_ hnew_; clear hg_ hnew_; (first | rw [← Ny101.out] at ho5 | (simp only [Int.reduceToNat] at ho5; rw [← Ny101.out] at ho5)); have HO103 := Aside0.mk (Kd.R_lower ho5 (below_size (B_ HB.out))); replace HB := Aside0.mk (below_step (B_ HB.out) hb); clear hb ho5))
 go_loopg [4] k (fun kq v4 w' => ∃ (x3_1 : List Int) (x4_1 : Int), v4 = .int .i64 x4_1 ∧ Aside0 (z85.l0 kq l0 x3_1 x4_1 = some r) ∧ Aside0 (kq ≤ k) ∧ Aside0 (Kd.R (Kd.int .i64) 2 w' w.heap.size (fun _ => True) v102 x3_1) ∧ Aside0 (Below w.heap.size w w'))
 case atStart => exact ⟨(y101), (0), E_, H', ⟨Nat.le_refl _⟩, ⟨KR_ HO103.out⟩, ⟨B_ HB.out⟩⟩
 case round =>
  clear H'
  (try clear c2);(try clear c2b0);(try clear c2b1);(try clear p2);(try clear c3);(try clear c3b0);(try clear c3b1)
  obtain ⟨x3_1, x4_1, rfl, HA, HK1, HO_3, HB⟩ := hrel
  cases gk with
  | zero => exact absurd HA.out (by simp [z85.l0])
  | succ k1 =>
   have H := HA.out
   clear HA
   simp only [z85.l0] at H
   by_cases c6 : x4_1 < (l0.length : Int)
   ·rw [if_pos c6] at H
    have c6b0 : decide (x4_1 < (l0.length : Int)) = true := decide_eq_true c6
    clear c6
    have c7 := O1_ H
    replace H := O2_ H
    have c7b0 := decide_eq_true c7
    clear c7
    have c8 := O1_ H
    replace H := O2_ H
    have c8b0 := decide_eq_true c8
    clear c8
    obtain ⟨y105, hy105⟩ : ∃ y_ : List Int, y_ = (x3_1.set (x4_1 : Int).toNat (rd l0 x4_1)) := ⟨_, rfl⟩
    replace H : (z85.l0 k1 l0 y105 (wrap64 (x4_1 + 1))) = some r := Y_ hy105 H
    have Ny105 := Aside0.mk hy105
    clear hy105
    have H' := Aside0.mk H
    clear H
    have p104 : 0 ≤ (x4_1 : Int) := D_
    have q104 : x4_1 < (l0.length : Int) := D_
    obtain ⟨ad104, e104, hx104_0⟩ := Kd.at_int HR0.out x4_1 p104 q104
    cases e104
    replace hx104_0 := (HB.out.cell (World.block_lt_of_cell? w _ hx104_0)).trans hx104_0
    replace p104 := eq_true p104
    replace q104 := eq_true q104
    have p9 : 0 ≤ (x4_1 : Int) := D_
    have q9 : (x4_1 : Int) < ((x3_1.length : Int) : Int) := D_
    obtain ⟨go9, co9, eo9, gb9, gl9, cl9, HG9⟩ := Kd.R_form HO_3.out (by omega)
    (first | cases eo9 | (injection eo9 with ea_ en_ ec_; (first | subst ea_ | (injection ea_ with ea_; subst ea_)); subst ec_; clear en_))
    have GB9 := Aside0.mk gb9
    have GG9 := Aside0.mk HG9
    clear gb9 gl9 HG9
    obtain ⟨hx9_0, hf9_0⟩ := Kd.R_celln 0 HO_3.out (x4_1 : Int) p9 q9
    replace p9 := eq_true p9
    replace q9 := eq_true q9
    have HP10 := Kd.R_putg HO_3.out (x4_1 : Int) (rd l0 x4_1)
    go_wp2_with (first | ((with_reducible refine gate_store (t := 2) (p := 20) rfl ?_); refine store_event (t := 2) (p := 20) (v := ?vo_w11) (w1 := (wr.setCell ⟨go9, (x4_1 : Int).toNat, none⟩ (.int .i64 (rd l0 x4_1)))) ?hg ?ho ?hn ?hr ?_; (case ho => rfl); (case hg => rfl); (case hn => rfl); (case hr => first | (go_simp; done) | (go_simp; rfl)); intro w11 hw; have hg : wr.grownBy w11 (some go9) := (by rw [hw]; exact HP10.2); have hp_ : Kd.R (Kd.int .i64) 2 w11 w.heap.size (fun _ => True) (.slice (some ⟨go9, 0, none⟩) x3_1.length co9) y105 := (by rw [hw, Ny105.out]; exact HP10.1); clear HP10; replace HO_3 := Aside0.mk (hp_); replace HB := Aside0.mk ((by rw [hw]; exact below_set (HB.out) GB9.out : Below w.heap.size w w11)); clear hg hw hp_))
    go_roundg k1
    case measure => exact Q1_ HK1
    case rel => exact ⟨(y105), (wrap64 (x4_1 + 1)), E_, H', ⟨Q1_ HK1⟩, ⟨KR_ HO_3.out⟩, ⟨B_ HB.out⟩⟩
   ·rw [if_neg c6] at H
    have c6b0 : decide (x4_1 < (l0.length : Int)) = false := decide_eq_false c6
    clear c6
    obtain rfl := Option.some.inj H
    go_wp2
    go_ret
    exact ⟨_, F_, KR_ HO_3.out, B_ HB.out⟩

end Go.Proofs.Ytagefgkneandpaa.B

-- written for this claim by a program (mp.py over the kit's printer)
namespace Go.Proofs.Ytagefgkneandpaa.B
open Go.RowKit Go.Proofs.YtagefgkneandpaaW.PrintWords Go.Proofs.YtagefgkneandpaaW.PrintLast Go.Proofs.YtagefgkneandpaaW.PrintMore
attribute [local go_sem] max2_int min2_int max_two min_two max_three min_three max_four min_four
set_option linter.unusedVariables false
set_option linter.unusedSimpArgs false

def z52.l0 : Nat → List (List Int) → List (List Int) → Int → Option ((List (List Int)))
 | 0, _, _, _ => none
 | k + 1, x0, x3, x4 => if x4 < (x0.length : Int) then (if 0 ≤ x4 then ((z85.f k (rd_ListInt x0 x4)).bind fun t105 => (if x4 < (x3.length : Int) then (z52.l0 k x0 (x3.set (x4 : Int).toNat t105) (wrap64 (x4 + 1))) else (none))) else (none)) else (some x3)
def z52.f (k : Nat) (l0 : List (List Int)) : Option ((List (List Int))) := if 0 ≤ (l0.length : Int) then (if ((l0.length : Int) : Int).toNat ≤ 11728124029610 then (z52.l0 k l0 (List.replicate ((l0.length : Int) : Int).toNat []) 0) else (none)) else (none)
set_option maxHeartbeats 8000000 in
set_option maxRecDepth 100000 in
theorem z52.calls (k : Nat) (A0 : Option Addr) (c0 : Nat) (l0 : List (List Int)) (r : List (List Int)) (w : World) (hr0 : Kd.C (Kd.slice 2 (Kd.int .i64)) w A0 l0.length l0) (hc0 : l0.length ≤ c0) (h : z52.f k l0 = some r) :
  Calls Try.prog 52 #[.slice A0 l0.length c0] w fun e w' => ∃ v0_ : Value, e = .returned (v0_) ∧ Kd.S (Kd.slice 2 (Kd.int .i64)) 32 w' w.heap.size (fun _ => True) v0_ r ∧ Below w.heap.size w w' := by
 have HR0 := Aside0.mk hr0
 have HC0 := Aside0.mk hc0
 clear hr0 hc0
 have HB := Aside0.mk (Below.refl w.heap.size w)
 have H : (if 0 ≤ (l0.length : Int) then (if ((l0.length : Int) : Int).toNat ≤ 11728124029610 then (z52.l0 k l0 (List.replicate ((l0.length : Int) : Int).toNat []) 0) else (none)) else (none)) = some r := h
 clear h
 have c2 := O1_ H
 replace H := O2_ H
 have c2b0 := eq_true c2
 have c2b1 : decide (0 ≤ (l0.length : Int)) = true := decide_eq_true c2
 clear c2
 have c3 := O1_ H
 replace H := O2_ H
 have c3b0 := eq_true c3
 have c3b1 : decide (((l0.length : Int) : Int).toNat ≤ 11728124029610) = true := decide_eq_true c3
 clear c3
 obtain ⟨y101, hy101⟩ : ∃ y_ : List (List Int), y_ = (List.replicate ((l0.length : Int) : Int).toNat []) := ⟨_, rfl⟩
 replace H : (z52.l0 k l0 y101 0) = some r := Y_ hy101 H
 have Ny101 := Aside0.mk hy101
 clear hy101
 have H' := Aside0.mk H
 clear H
 go_enter Try.func52, Try.ntmps52
 go_wp2_with (first | ((with_reducible refine gate_dst (N := 7) rfl ?_); refine Kd.S_make (Kd.slice 2 (Kd.int .i64)) _ 32 rfl (N := 7) rfl 24 _ _ rfl (l0.length : Int) rfl rfl Try.underlying24 (.slice none 0 0) 24 info32 rfl (by decide) (by omega) [] (ok := fun _ => True) (okp := fun _ => True) ⟨_, rfl, Kd.R_nil _ _ _ _ _⟩ (fun _ hk => hk) trivial (D_) (Nat.le_trans (Nat.mul_le_mul_right _ (D_ : (l0.length : Int).toNat ≤ 11728124029610)) (by omega)) (Below.refl _ _) (Nat.le_refl _) ?_; intro v102 w4 ho5 hb hg_ hnew_; clear hg_ hnew_; (first | rw [← Ny101.out] at ho5 | (simp only [Int.reduceToNat] at ho5; rw [← Ny101.out] at ho5)); have HO103 := Aside0.mk (Kd.S_lower ho5 (below_size (B_ HB.out))); replace HB := Aside0.mk (below_step (B_ HB.out) hb); clear hb ho5))
 go_loopg [4] k (fun kq v4 w' => ∃ (x3_1 : List (List Int)) (x4_1 : Int), v4 = .int .i64 x4_1 ∧ Aside0 (z52.l0 kq l0 x3_1 x4_1 = some r) ∧ Aside0 (kq ≤ k) ∧ Aside0 (Kd.S (Kd.slice 2 (Kd.int .i64)) 32 w' w.heap.size (fun _ => True) v102 x3_1) ∧ Aside0 (Below w.heap.size w w'))
 case atStart => exact ⟨(y101), (0), E_, H', ⟨Nat.le_refl _⟩, ⟨KS_ HO103.out⟩, ⟨B_ HB.out⟩⟩
 case round =>
  clear H'
  (try clear c2);(try clear c2b0);(try clear c2b1);(try clear p2);(try clear c3);(try clear c3b0);(try clear c3b1);(try clear c5)
  obtain ⟨x3_1, x4_1, rfl, HA, HK1, HO_3, HB⟩ := hrel
  cases gk with
  | zero => exact absurd HA.out (by simp [z52.l0])
  | succ k1 =>
   have H := HA.out
   clear HA
   simp only [z52.l0] at H
   by_cases c6 : x4_1 < (l0.length : Int)
   ·rw [if_pos c6] at H
    have c6b0 : decide (x4_1 < (l0.length : Int)) = true := decide_eq_true c6
    clear c6
    have c7 := O1_ H
    replace H := O2_ H
    have c7b0 := decide_eq_true c7
    clear c7
    replace H := Option.bind_eq_some_iff.mp H
    obtain ⟨t105, A80, H⟩ := H
    have A8 := Aside0.mk A80
    clear A80
    have c9 := O1_ H
    replace H := O2_ H
    have c9b0 := decide_eq_true c9
    clear c9
    obtain ⟨y108, hy108⟩ : ∃ y_ : List (List Int), y_ = (x3_1.set (x4_1 : Int).toNat t105) := ⟨_, rfl⟩
    replace H : (z52.l0 k1 l0 y108 (wrap64 (x4_1 + 1))) = some r := Y_ hy108 H
    have Ny108 := Aside0.mk hy108
    clear hy108
    have H' := Aside0.mk H
    clear H
    have p104 : 0 ≤ (x4_1 : Int) := D_
    have q104 : x4_1 < (l0.length : Int) := D_
    obtain ⟨ad104, A104_0, c104_0, e104, hx104_0, hl104_0, hi104_0⟩ := at_ListInt HR0.out x4_1 p104 q104
    cases e104
    replace hx104_0 := (HB.out.cell (World.block_lt_of_cell? w _ hx104_0)).trans hx104_0
    have HR104_0 := Aside0.mk hi104_0
    have HC104_0 := Aside0.mk hl104_0
    clear hi104_0 hl104_0
    replace p104 := eq_true p104
    replace q104 := eq_true q104
    go_wp2_with (first | ((with_reducible refine gate_callee (f := 85) rfl ?_); refine goesL_ (some 20) rfl rfl Try.func85 (by kernel_rfl) rfl #[.slice A104_0 (rd_ListInt l0 x4_1).length c104_0] rfl (by (try simp only [List.map_toArray, List.map_cons, List.map_nil]); first | done | rfl | (simp only [List.length_drop, List.length_take]; rfl)) ?_; (with_reducible refine (z85.calls k1 _ _ (rd_ListInt l0 x4_1) t105 _ ?side1 ?side2 A8.out).mono ?_); (case side1 => exact KC_ (Kd.C_below HR104_0.out HB.out)); (case side2 => exact HC104_0.out); rintro e w11 ⟨v106, rfl, ho0, hb⟩; refine ⟨_, rfl, ?_⟩; replace HO_3 := Aside0.mk (Kd.S_elder' (KS_ HO_3.out) (Kd.R_base ho0) hb); have HO107 := Aside0.mk (Kd.R_lower ho0 (below_size (B_ HB.out))); replace HB := Aside0.mk (below_step (B_ HB.out) hb); (try clear hb); (try clear hb2); (try clear hk); (try clear hi); (try clear ho0); have p10 : 0 ≤ (x4_1 : Int) := D_; have q10 : (x4_1 : Int) < ((x3_1.length : Int) : Int) := D_; obtain ⟨go10, co10, eo10, gb10, gl10, cl10, HG10⟩ := Kd.S_form HO_3.out (by omega); (first | cases eo10 | (injection eo10 with ea_ en_ ec_; (first | subst ea_ | (injection ea_ with ea_; subst ea_)); subst ec_; clear en_)); have GB10 := Aside0.mk gb10; have GG10 := Aside0.mk HG10; clear gb10 gl10 HG10; obtain ⟨_, ce10, hcl10, hM10, hcc10, hfr10, _, _⟩ := Kd.S_elem HO_3.out [] (x4_1 : Int) p10 q10; obtain ⟨ve10_0, rfl, ge10_0⟩ := hM10; have hx10_0 := hcc10 0 _ rfl; have hf10_0 := hfr10 0; (try simp only [show ((Kd.slice 2 (Kd.int .i64))).sz = 1 from rfl, Nat.mul_one, Nat.add_zero] at hx10_0); (try simp only [show ((Kd.slice 2 (Kd.int .i64))).sz = 1 from rfl, Nat.mul_one, Nat.add_zero] at hf10_0); clear hcl10 hcc10 hfr10; (try clear hM10); replace p10 := eq_true p10; replace q10 := eq_true q10; obtain ⟨Ao14, co14, eo14⟩ := Kd.R_slice HO107.out; subst eo14; have n_ := Aside0.mk (Kd.S_mono (ok' := (fun k_ => some k_ ≠ (.slice Ao14 t105.length co14 : Value).ownBlock)) HO_3.out (fun k_ hk => hk.2)); clear HO_3; have HO_3 := n_; clear n_; have HX12 := Aside0.mk (show Kd.S (Kd.slice 2 (Kd.int .i64)) 32 w11 w.heap.size (fun k_ => ((fun _ => True)) k_ ∧ ¬ ((fun k_ => some k_ = (.slice Ao14 t105.length co14 : Value).ownBlock)) k_) (.slice (some ⟨go10, 0, none⟩) x3_1.length co10) x3_1 from (by (with_reducible repeat (first | apply Kd.S_alloc | apply Kd.S_drewN | apply Kd.S_drew)); exact Kd.S_mono HO_3.out (fun k_ hk => ⟨trivial, fun e_ => hk e_⟩))); obtain ⟨oki12, ce12, hcl12, hM12, hcc12, hfr12, hoki12, hH12⟩ := Kd.S_elem HX12.out [] (x4_1 : Int) (D_) (by have h_ : (x4_1 : Int) < ((x3_1.length : Int) : Int) := D_; first | exact h_ | (have e_ := (Kd.S_reads' HO_3.out).1; omega) | simpa using h_); obtain ⟨ve12_0, rfl, ge12_0⟩ := hM12; have HP12 := Kd.S_seg hH12 (D_) (by have h_ : (x4_1 : Int) < ((x3_1.length : Int) : Int) := D_; first | exact h_ | (have e_ := (Kd.S_reads' HO_3.out).1; omega) | simpa using h_) (seg := [.slice Ao14 t105.length co14]) (j := 0) (show 1 ≤ 1 from by decide) (x' := t105) (Kd.M_row (Kd.R_mono (Kd.R_tight rfl (Kd.R_mono (ok' := fun k_ => ((fun _ => True)) k_ ∧ k_ ≠ go10) (Kd.R_apart' (HO107.out) (Kd.S_typed HO_3.out) (by decide)) (fun k_ hk => ⟨trivial, fun e_ => (hk.2) (by rw [e_]; rfl)⟩))) (fun _ h_ => Or.inr (h_)))) (fun _ hk => hk) (fun k_ hk_ => ((Kd.R_mono (ok' := fun k_ => ((fun _ => True)) k_ ∧ k_ ≠ go10) (Kd.R_apart' (HO107.out) (Kd.S_typed HO_3.out) (by decide)) (fun k_ hk => ⟨trivial, fun e_ => (hk.2) (by rw [e_]; rfl)⟩))).1 k_ hk_.symm); have hx12_0 := hcc12 0 _ rfl; (try simp only [show ((Kd.slice 2 (Kd.int .i64))).sz = 1 from rfl, Nat.mul_one, Nat.add_zero] at hx12_0); have hf12_0 := hfr12 0; (try simp only [show ((Kd.slice 2 (Kd.int .i64))).sz = 1 from rfl, Nat.mul_one, Nat.add_zero] at hf12_0); clear hcl12 hcc12 hfr12 hoki12 hH12; (try clear hM12); (try simp only [show ((Kd.slice 2 (Kd.int .i64))).sz = 1 from rfl, Nat.mul_one, Nat.add_zero] at HP12)) | ((with_reducible refine gate_store (t := 32) (p := 21) rfl ?_); refine store_event (t := 32) (p := 21) (v := ?vo_w13) (w1 := (w11.setCell ⟨go10, (x4_1 : Int).toNat, none⟩ (.slice Ao14 t105.length co14))) ?hg ?ho ?hn ?hr ?_; (case ho => rfl); (case hg => rfl); (case hn => rfl); (case hr => first | (go_simp; done) | (go_simp; rfl)); intro w13 hw; have hg : w11.grownBy w13 (some go10) := (by rw [hw]; exact HP12.2); have hp_ : Kd.S (Kd.slice 2 (Kd.int .i64)) 32 w13 w.heap.size (fun _ => True) (.slice (some ⟨go10, 0, none⟩) x3_1.length co10) y108 := (by rw [hw, Ny108.out]; exact HP12.1); clear HP12; replace HO_3 := Aside0.mk (hp_); replace HB := Aside0.mk ((by rw [hw]; exact below_set (HB.out) GB10.out : Below w.heap.size w w13)); clear HO107; clear hg hw hp_))
    go_roundg k1
    case measure => exact Q1_ HK1
    case rel => exact ⟨(y108), (wrap64 (x4_1 + 1)), E_, H', ⟨Q1_ HK1⟩, ⟨KS_ HO_3.out⟩, ⟨B_ HB.out⟩⟩
   ·rw [if_neg c6] at H
    have c6b0 : decide (x4_1 < (l0.length : Int)) = false := decide_eq_false c6
    clear c6
    obtain rfl := Option.some.inj H
    go_wp2
    go_ret
    exact ⟨_, F_, KS_ HO_3.out, B_ HB.out⟩

end Go.Proofs.Ytagefgkneandpaa.B

-- written for this claim by a program (mp.py over the kit's printer)
namespace Go.Proofs.Ytagefgkneandpaa.B
open Go.RowKit Go.Proofs.YtagefgkneandpaaW.PrintWords Go.Proofs.YtagefgkneandpaaW.PrintLast Go.Proofs.YtagefgkneandpaaW.PrintMore
attribute [local go_sem] max2_int min2_int max_two min_two max_three min_three max_four min_four
set_option linter.unusedVariables false
set_option linter.unusedSimpArgs false

def z89.l0 : Nat → List Int → List Int → Int → Option (Bool)
 | 0, _, _, _ => none
 | k + 1, x0, x1, x5 => if x5 < (x0.length : Int) then (if 0 ≤ x5 then (if x5 < (x1.length : Int) then (if (rd x0 x5) = (rd x1 x5) then (z89.l0 k x0 x1 (wrap64 (x5 + 1))) else (some false)) else (none)) else (none)) else (some true)
def z89.f (k : Nat) (l0 : List Int) (l1 : List Int) : Option (Bool) := if (l0.length : Int) = (l1.length : Int) then (z89.l0 k l0 l1 0) else (some false)
set_option maxHeartbeats 8000000 in
set_option maxRecDepth 100000 in
theorem z89.calls (k : Nat) (A0 : Option Addr) (c0 : Nat) (l0 : List Int) (A1 : Option Addr) (c1 : Nat) (l1 : List Int) (r : Bool) (w : World) (hr0 : Kd.C (Kd.int .i64) w A0 l0.length l0) (hc0 : l0.length ≤ c0) (hr1 : Kd.C (Kd.int .i64) w A1 l1.length l1) (hc1 : l1.length ≤ c1) (h : z89.f k l0 l1 = some r) :
  Calls Try.prog 89 #[.slice A0 l0.length c0, .slice A1 l1.length c1] w fun e w' => e = .returned (.bool r) ∧ Drawn0 w w' := by
 have HR0 := Aside0.mk hr0
 have HC0 := Aside0.mk hc0
 clear hr0 hc0
 have HR1 := Aside0.mk hr1
 have HC1 := Aside0.mk hc1
 clear hr1 hc1
 have H : (if (l0.length : Int) = (l1.length : Int) then (z89.l0 k l0 l1 0) else (some false)) = some r := h
 clear h
 by_cases c3 : (l0.length : Int) = (l1.length : Int)
 ·rw [if_pos c3] at H
  have c3b0 : ((l0.length : Int) == (l1.length : Int)) = true := beq_iff_eq.mpr c3
  have c3b1 : ((l0.length : Int) != (l1.length : Int)) = false := bne_eq_false_iff_eq.mpr c3
  have c3b2 : (l0.length == l1.length) = true := by first | simpa using c3 | (simp at c3 ⊢; omega)
  clear c3
  have H' := Aside0.mk H
  clear H
  go_enter Try.func89, Try.ntmps89
  go_wp2
  repeat (go_quiet (fail); try go_wp2)
  go_loopg [5] k (fun kq v5 w' => ∃ (x5_1 : Int), v5 = .int .i64 x5_1 ∧ Aside0 (z89.l0 kq l0 l1 x5_1 = some r) ∧ Aside0 (kq ≤ k) ∧ Drawn0 w w')
  case atStart => exact ⟨(0), E_, H', ⟨Nat.le_refl _⟩, by repeat (first | exact Drawn0.refl _ | apply Drawn0.step)⟩
  case round =>
   clear H'
   (try clear c1);(try clear p2);(try clear c3);(try clear c3b0);(try clear c3b1);(try clear c3b2)
   obtain ⟨x5_1, rfl, HA, HK1, ⟨m1, rfl⟩⟩ := hrel
   cases gk with
   | zero => exact absurd HA.out (by simp [z89.l0])
   | succ k1 =>
    have H := HA.out
    clear HA
    simp only [z89.l0] at H
    by_cases c4 : x5_1 < (l0.length : Int)
    ·rw [if_pos c4] at H
     have c4b0 : decide (x5_1 < (l0.length : Int)) = true := decide_eq_true c4
     clear c4
     have c5 := O1_ H
     replace H := O2_ H
     have c5b0 := decide_eq_true c5
     clear c5
     have c6 := O1_ H
     replace H := O2_ H
     have c6b0 := decide_eq_true c6
     clear c6
     by_cases c7 : (rd l0 x5_1) = (rd l1 x5_1)
     ·rw [if_pos c7] at H
      have c7b0 : ((rd l0 x5_1) == (rd l1 x5_1)) = true := beq_iff_eq.mpr c7
      have c7b1 : ((rd l0 x5_1) != (rd l1 x5_1)) = false := bne_eq_false_iff_eq.mpr c7
      clear c7
      have H' := Aside0.mk H
      clear H
      have p101 : 0 ≤ (x5_1 : Int) := D_
      have q101 : x5_1 < (l0.length : Int) := D_
      obtain ⟨ad101, e101, hx101_0⟩ := Kd.at_int HR0.out x5_1 p101 q101
      cases e101
      replace p101 := eq_true p101
      replace q101 := eq_true q101
      have p102 : 0 ≤ (x5_1 : Int) := D_
      have q102 : x5_1 < (l1.length : Int) := D_
      obtain ⟨ad102, e102, hx102_0⟩ := Kd.at_int HR1.out x5_1 p102 q102
      cases e102
      replace p102 := eq_true p102
      replace q102 := eq_true q102
      go_wp2
      repeat (go_quiet (fail); try go_wp2)
      go_roundg k1
      case measure => exact Q1_ HK1
      case rel => exact ⟨(wrap64 (x5_1 + 1)), E_, H', ⟨Q1_ HK1⟩, by repeat (first | exact Drawn0.refl _ | apply Drawn0.step)⟩
     ·rw [if_neg c7] at H
      have c7b0 : ((rd l0 x5_1) == (rd l1 x5_1)) = false := beq_eq_false_iff_ne.mpr c7
      have c7b1 : ((rd l0 x5_1) != (rd l1 x5_1)) = true := bne_iff_ne.mpr c7
      obtain rfl := Option.some.inj H
      have p101 : 0 ≤ (x5_1 : Int) := D_
      have q101 : x5_1 < (l0.length : Int) := D_
      obtain ⟨ad101, e101, hx101_0⟩ := Kd.at_int HR0.out x5_1 p101 q101
      cases e101
      replace p101 := eq_true p101
      replace q101 := eq_true q101
      have p102 : 0 ≤ (x5_1 : Int) := D_
      have q102 : x5_1 < (l1.length : Int) := D_
      obtain ⟨ad102, e102, hx102_0⟩ := Kd.at_int HR1.out x5_1 p102 q102
      cases e102
      replace p102 := eq_true p102
      replace q102 := eq_true q102
      go_wp2
      repeat (go_quiet (fail); try go_wp2)
      go_ret
      exact ⟨by first | rfl | (simp; done) | (simp [*]; done), by repeat (first | exact Drawn0.refl _ | apply Drawn0.step)⟩
    ·rw [if_neg c4] at H
     have c4b0 : decide (x5_1 < (l0.length : Int)) = false := decide_eq_false c4
     clear c4
     obtain rfl := Option.some.inj H
     go_wp2
     repeat (go_quiet (fail); try go_wp2)
     go_ret
     exact ⟨by first | rfl | (simp; done) | (simp [*]; done), by repeat (first | exact Drawn0.refl _ | apply Drawn0.step)⟩
 ·rw [if_neg c3] at H
  have c3b0 : ((l0.length : Int) == (l1.length : Int)) = false := beq_eq_false_iff_ne.mpr c3
  have c3b1 : ((l0.length : Int) != (l1.length : Int)) = true := bne_iff_ne.mpr c3
  have c3b2 : (l0.length == l1.length) = false := by first | simpa using c3 | (simp at c3 ⊢; omega)
  obtain rfl := Option.some.inj H
  go_enter Try.func89, Try.ntmps89
  go_wp2
  repeat (go_quiet (fail); try go_wp2)
  go_ret
  exact ⟨by first | rfl | (simp; done) | (simp [*]; done), by repeat (first | exact Drawn0.refl _ | apply Drawn0.step)⟩

end Go.Proofs.Ytagefgkneandpaa.B

-- written for this claim by a program (mp.py over the kit's printer)
namespace Go.Proofs.Ytagefgkneandpaa.B
open Go.RowKit Go.Proofs.YtagefgkneandpaaW.PrintWords Go.Proofs.YtagefgkneandpaaW.PrintLast Go.Proofs.YtagefgkneandpaaW.PrintMore
attribute [local go_sem] max2_int min2_int max_two min_two max_three min_three max_four min_four
set_option linter.unusedVariables false
set_option linter.unusedSimpArgs false

def z55.l0 : Nat → List (List Int) → List (List Int) → Int → Option (Bool)
 | 0, _, _, _ => none
 | k + 1, x0, x1, x5 => if x5 < (x0.length : Int) then (if 0 ≤ x5 then (if x5 < (x1.length : Int) then ((z89.f k (rd_ListInt x0 x5) (rd_ListInt x1 x5)).bind fun t103 => (if t103 = true then (z55.l0 k x0 x1 (wrap64 (x5 + 1))) else (some false))) else (none)) else (none)) else (some true)
def z55.f (k : Nat) (l0 : List (List Int)) (l1 : List (List Int)) : Option (Bool) := if (l0.length : Int) = (l1.length : Int) then (z55.l0 k l0 l1 0) else (some false)
set_option maxHeartbeats 8000000 in
set_option maxRecDepth 100000 in
theorem z55.calls (k : Nat) (A0 : Option Addr) (c0 : Nat) (l0 : List (List Int)) (A1 : Option Addr) (c1 : Nat) (l1 : List (List Int)) (r : Bool) (w : World) (hr0 : Kd.C (Kd.slice 2 (Kd.int .i64)) w A0 l0.length l0) (hc0 : l0.length ≤ c0) (hr1 : Kd.C (Kd.slice 2 (Kd.int .i64)) w A1 l1.length l1) (hc1 : l1.length ≤ c1) (h : z55.f k l0 l1 = some r) :
  Calls Try.prog 55 #[.slice A0 l0.length c0, .slice A1 l1.length c1] w fun e w' => e = .returned (.bool r) ∧ Drawn0 w w' := by
 have HR0 := Aside0.mk hr0
 have HC0 := Aside0.mk hc0
 clear hr0 hc0
 have HR1 := Aside0.mk hr1
 have HC1 := Aside0.mk hc1
 clear hr1 hc1
 have H : (if (l0.length : Int) = (l1.length : Int) then (z55.l0 k l0 l1 0) else (some false)) = some r := h
 clear h
 by_cases c3 : (l0.length : Int) = (l1.length : Int)
 ·rw [if_pos c3] at H
  have c3b0 : ((l0.length : Int) == (l1.length : Int)) = true := beq_iff_eq.mpr c3
  have c3b1 : ((l0.length : Int) != (l1.length : Int)) = false := bne_eq_false_iff_eq.mpr c3
  have c3b2 : (l0.length == l1.length) = true := by first | simpa using c3 | (simp at c3 ⊢; omega)
  clear c3
  have H' := Aside0.mk H
  clear H
  go_enter Try.func55, Try.ntmps55
  go_wp2
  repeat (go_quiet (fail); try go_wp2)
  go_loopg [5] k (fun kq v5 w' => ∃ (x5_1 : Int), v5 = .int .i64 x5_1 ∧ Aside0 (z55.l0 kq l0 l1 x5_1 = some r) ∧ Aside0 (kq ≤ k) ∧ Drawn0 w w')
  case atStart => exact ⟨(0), E_, H', ⟨Nat.le_refl _⟩, by repeat (first | exact Drawn0.refl _ | apply Drawn0.step)⟩
  case round =>
   clear H'
   (try clear c1);(try clear p2);(try clear c3);(try clear c3b0);(try clear c3b1);(try clear c3b2)
   obtain ⟨x5_1, rfl, HA, HK1, ⟨m1, rfl⟩⟩ := hrel
   cases gk with
   | zero => exact absurd HA.out (by simp [z55.l0])
   | succ k1 =>
    have H := HA.out
    clear HA
    simp only [z55.l0] at H
    by_cases c4 : x5_1 < (l0.length : Int)
    ·rw [if_pos c4] at H
     have c4b0 : decide (x5_1 < (l0.length : Int)) = true := decide_eq_true c4
     clear c4
     have c5 := O1_ H
     replace H := O2_ H
     have c5b0 := decide_eq_true c5
     clear c5
     have c6 := O1_ H
     replace H := O2_ H
     have c6b0 := decide_eq_true c6
     clear c6
     replace H := Option.bind_eq_some_iff.mp H
     obtain ⟨t103, A70, H⟩ := H
     have A7 := Aside0.mk A70
     clear A70
     by_cases c8 : t103 = true
     ·subst c8
      replace H := T_ H
      have H' := Aside0.mk H
      clear H
      have p101 : 0 ≤ (x5_1 : Int) := D_
      have q101 : x5_1 < (l0.length : Int) := D_
      obtain ⟨ad101, A101_0, c101_0, e101, hx101_0, hl101_0, hi101_0⟩ := at_ListInt HR0.out x5_1 p101 q101
      cases e101
      have HR101_0 := Aside0.mk hi101_0
      have HC101_0 := Aside0.mk hl101_0
      clear hi101_0 hl101_0
      replace p101 := eq_true p101
      replace q101 := eq_true q101
      have p102 : 0 ≤ (x5_1 : Int) := D_
      have q102 : x5_1 < (l1.length : Int) := D_
      obtain ⟨ad102, A102_0, c102_0, e102, hx102_0, hl102_0, hi102_0⟩ := at_ListInt HR1.out x5_1 p102 q102
      cases e102
      have HR102_0 := Aside0.mk hi102_0
      have HC102_0 := Aside0.mk hl102_0
      clear hi102_0 hl102_0
      replace p102 := eq_true p102
      replace q102 := eq_true q102
      go_wp2_with (first | (go_at_call 89; (with_reducible refine (z89.calls k1 _ _ (rd_ListInt l0 x5_1) _ _ (rd_ListInt l1 x5_1) true _ ?side1 ?side2 ?side3 ?side4 A7.out).mono ?_); (case side1 => exact KC_ HR101_0.out); (case side2 => exact HC101_0.out); (case side3 => exact KC_ HR102_0.out); (case side4 => exact HC102_0.out); rintro e w' ⟨rfl, ⟨nd, rfl⟩⟩; (try first | exact ⟨rfl, _, World.drewN_drewN _ _ _⟩ | exact ⟨rfl, _, Eq.trans (World.drewN_drewN _ _ _) (congrArg (World.drewN _) (Nat.add_assoc _ _ _))⟩)))
      repeat (go_quiet (first | (go_at_call 89; (with_reducible refine (z89.calls k1 _ _ (rd_ListInt l0 x5_1) _ _ (rd_ListInt l1 x5_1) true _ ?side1 ?side2 ?side3 ?side4 A7.out).mono ?_); (case side1 => exact KC_ HR101_0.out); (case side2 => exact HC101_0.out); (case side3 => exact KC_ HR102_0.out); (case side4 => exact HC102_0.out); rintro e w' ⟨rfl, ⟨nd, rfl⟩⟩; (try first | exact ⟨rfl, _, World.drewN_drewN _ _ _⟩ | exact ⟨rfl, _, Eq.trans (World.drewN_drewN _ _ _) (congrArg (World.drewN _) (Nat.add_assoc _ _ _))⟩))); try go_wp2_with (first | (go_at_call 89; (with_reducible refine (z89.calls k1 _ _ (rd_ListInt l0 x5_1) _ _ (rd_ListInt l1 x5_1) true _ ?side1 ?side2 ?side3 ?side4 A7.out).mono ?_); (case side1 => exact KC_ HR101_0.out); (case side2 => exact HC101_0.out); (case side3 => exact KC_ HR102_0.out); (case side4 => exact HC102_0.out); rintro e w' ⟨rfl, ⟨nd, rfl⟩⟩; (try first | exact ⟨rfl, _, World.drewN_drewN _ _ _⟩ | exact ⟨rfl, _, Eq.trans (World.drewN_drewN _ _ _) (congrArg (World.drewN _) (Nat.add_assoc _ _ _))⟩))))
      go_roundg k1
      case measure => exact Q1_ HK1
      case rel => exact ⟨(wrap64 (x5_1 + 1)), E_, H', ⟨Q1_ HK1⟩, by repeat (first | exact Drawn0.refl _ | apply Drawn0.step)⟩
     ·replace c8 := Bool.eq_false_iff.mpr c8
      subst c8
      replace H := N_ H
      obtain rfl := Option.some.inj H
      have p101 : 0 ≤ (x5_1 : Int) := D_
      have q101 : x5_1 < (l0.length : Int) := D_
      obtain ⟨ad101, A101_0, c101_0, e101, hx101_0, hl101_0, hi101_0⟩ := at_ListInt HR0.out x5_1 p101 q101
      cases e101
      have HR101_0 := Aside0.mk hi101_0
      have HC101_0 := Aside0.mk hl101_0
      clear hi101_0 hl101_0
      replace p101 := eq_true p101
      replace q101 := eq_true q101
      have p102 : 0 ≤ (x5_1 : Int) := D_
      have q102 : x5_1 < (l1.length : Int) := D_
      obtain ⟨ad102, A102_0, c102_0, e102, hx102_0, hl102_0, hi102_0⟩ := at_ListInt HR1.out x5_1 p102 q102
      cases e102
      have HR102_0 := Aside0.mk hi102_0
      have HC102_0 := Aside0.mk hl102_0
      clear hi102_0 hl102_0
      replace p102 := eq_true p102
      replace q102 := eq_true q102
      go_wp2_with (first | (go_at_call 89; (with_reducible refine (z89.calls k1 _ _ (rd_ListInt l0 x5_1) _ _ (rd_ListInt l1 x5_1) false _ ?side1 ?side2 ?side3 ?side4 A7.out).mono ?_); (case side1 => exact KC_ HR101_0.out); (case side2 => exact HC101_0.out); (case side3 => exact KC_ HR102_0.out); (case side4 => exact HC102_0.out); rintro e w' ⟨rfl, ⟨nd, rfl⟩⟩; (try first | exact ⟨rfl, _, World.drewN_drewN _ _ _⟩ | exact ⟨rfl, _, Eq.trans (World.drewN_drewN _ _ _) (congrArg (World.drewN _) (Nat.add_assoc _ _ _))⟩)))
      repeat (go_quiet (first | (go_at_call 89; (with_reducible refine (z89.calls k1 _ _ (rd_ListInt l0 x5_1) _ _ (rd_ListInt l1 x5_1) false _ ?side1 ?side2 ?side3 ?side4 A7.out).mono ?_); (case side1 => exact KC_ HR101_0.out); (case side2 => exact HC101_0.out); (case side3 => exact KC_ HR102_0.out); (case side4 => exact HC102_0.out); rintro e w' ⟨rfl, ⟨nd, rfl⟩⟩; (try first | exact ⟨rfl, _, World.drewN_drewN _ _ _⟩ | exact ⟨rfl, _, Eq.trans (World.drewN_drewN _ _ _) (congrArg (World.drewN _) (Nat.add_assoc _ _ _))⟩))); try go_wp2_with (first | (go_at_call 89; (with_reducible refine (z89.calls k1 _ _ (rd_ListInt l0 x5_1) _ _ (rd_ListInt l1 x5_1) false _ ?side1 ?side2 ?side3 ?side4 A7.out).mono ?_); (case side1 => exact KC_ HR101_0.out); (case side2 => exact HC101_0.out); (case side3 => exact KC_ HR102_0.out); (case side4 => exact HC102_0.out); rintro e w' ⟨rfl, ⟨nd, rfl⟩⟩; (try first | exact ⟨rfl, _, World.drewN_drewN _ _ _⟩ | exact ⟨rfl, _, Eq.trans (World.drewN_drewN _ _ _) (congrArg (World.drewN _) (Nat.add_assoc _ _ _))⟩))))
      go_ret
      exact ⟨by first | rfl | (simp; done) | (simp [*]; done), by repeat (first | exact Drawn0.refl _ | apply Drawn0.step)⟩
    ·rw [if_neg c4] at H
     have c4b0 : decide (x5_1 < (l0.length : Int)) = false := decide_eq_false c4
     clear c4
     obtain rfl := Option.some.inj H
     go_wp2
     repeat (go_quiet (fail); try go_wp2)
     go_ret
     exact ⟨by first | rfl | (simp; done) | (simp [*]; done), by repeat (first | exact Drawn0.refl _ | apply Drawn0.step)⟩
 ·rw [if_neg c3] at H
  have c3b0 : ((l0.length : Int) == (l1.length : Int)) = false := beq_eq_false_iff_ne.mpr c3
  have c3b1 : ((l0.length : Int) != (l1.length : Int)) = true := bne_iff_ne.mpr c3
  have c3b2 : (l0.length == l1.length) = false := by first | simpa using c3 | (simp at c3 ⊢; omega)
  obtain rfl := Option.some.inj H
  go_enter Try.func55, Try.ntmps55
  go_wp2
  repeat (go_quiet (fail); try go_wp2)
  go_ret
  exact ⟨by first | rfl | (simp; done) | (simp [*]; done), by repeat (first | exact Drawn0.refl _ | apply Drawn0.step)⟩

end Go.Proofs.Ytagefgkneandpaa.B

set_option linter.unusedVariables false
set_option linter.unusedSimpArgs false
namespace Go.Proofs.Ytagefgkneandpaa.B
open Go.RowKit Go.Proofs.YtagefgkneandpaaW.PrintWords

theorem szInt64S_val (l : List Int) (a : Int) (h0 : 0 ≤ a) (h1 : a ≤ 9223372036854775807) (hl : l.length ≤ 9223372036854775807) : z84.f l a = some (if a - l.length < 0 then -1 else a - l.length) := by
 unfold z84.f
 have e : wrap64 (a - (l.length : Int)) = a - l.length := wrap_small (by omega) (by omega)
 rw [e]
 split <;> rfl
theorem szInt64SS_ev (l : List (List Int)) (a : Int) (hw : WfLL l) (h0 : 0 ≤ a) (h1 : a ≤ 9223372036854775807) :
  (∃ t, Ev (fun k => z50.f k l a) t ∧ t < 0) ∨ (Ev (fun k => z50.f k l a) (a - l.length - total l) ∧ l.length + total l ≤ a) := by
 have loop : ∀ (d i : Nat) (b : Int), d + i = l.length → 0 ≤ b → b ≤ 9223372036854775807 → (∃ t, Ev (fun k => z50.l0 k l b (i : Int)) t ∧ t < 0) ∨ (Ev (fun k => z50.l0 k l b (i : Int)) (b - total (l.drop i)) ∧ total (l.drop i) ≤ b) := by
  intro d
  induction d with
  | zero =>
   intro i b hd hb0 hb1
   right
   have hi : l.length = i := by omega
   rw [List.drop_of_length_le (by omega)]
   refine ⟨Ev.step (fun k => z50.l0.eq_2 ..) (ev_neg (by omega) (ev_eq (Ev.now b) (by simp [total]))), by simpa [total] using hb0⟩
  | succ d ih =>
   intro i b hd hb0 hb1
   have hi : i < l.length := by omega
   have hdr : l.drop i = l.getD i [] :: l.drop (i + 1) := by
    rw [List.drop_eq_getElem_cons hi, List.getD_eq_getElem?_getD, List.getElem?_eq_getElem hi]; rfl
   have hm : l.getD i [] ∈ l := by
    rw [List.getD_eq_getElem?_getD, List.getElem?_eq_getElem hi]; exact List.getElem_mem hi
   have hrl := (hw.2 _ hm).1
   have hv := szInt64S_val (l.getD i []) b hb0 hb1 hrl
   have hrd : rd_ListInt l (i : Int) = l.getD i [] := by simp [rd_ListInt]
   have hlen : l.length ≤ 9223372036854775807 := hw.1
   by_cases hneg : b - ((l.getD i []).length : Int) < 0
   ·left
    rw [if_pos hneg] at hv
    refine ⟨-1, Ev.step (fun k => z50.l0.eq_2 ..) (ev_pos (by omega) (ev_pos (by omega) ?_)), by omega⟩
    rw [hrd]
    exact Ev.bind (ev_const hv) (ev_pos (by omega) (Ev.now _))
   ·rw [if_neg hneg] at hv
    rcases ih (i + 1) (b - ((l.getD i []).length : Int)) (by omega) (by omega) (by omega) with ⟨t, ht, htn⟩ | ⟨ht, htb⟩
    ·left
     refine ⟨t, Ev.step (fun k => z50.l0.eq_2 ..) (ev_pos (by omega) (ev_pos (by omega) ?_)), htn⟩
     rw [hrd, wrap_succ (by omega)]
     exact Ev.bind (ev_const hv) (ev_neg (by omega) ht)
    ·right
     rw [hdr]
     simp only [total]
     refine ⟨Ev.step (fun k => z50.l0.eq_2 ..) (ev_pos (by omega) (ev_pos (by omega) ?_)), by omega⟩
     rw [hrd, wrap_succ (by omega)]
     exact Ev.bind (ev_const hv) (ev_neg (by omega) (ev_eq ht (by omega)))
 have hlen : l.length ≤ 9223372036854775807 := hw.1
 have e : wrap64 (a - (l.length : Int)) = a - l.length := wrap_small (by omega) (by omega)
 by_cases hneg : a - (l.length : Int) < 0
 ·left
  refine ⟨-1, ?_, by omega⟩
  unfold z50.f
  rw [e]
  exact ev_pos hneg (Ev.now _)
 ·rcases loop l.length 0 (a - l.length) (by omega) (by omega) (by omega) with ⟨t, ht, htn⟩ | ⟨ht, htb⟩
  ·left
   refine ⟨t, ?_, htn⟩
   unfold z50.f
   rw [e]
   exact ev_neg hneg ht
  ·right
   refine ⟨?_, by simp only [List.drop_zero] at htb; omega⟩
   unfold z50.f
   rw [e]
   exact ev_neg hneg ht

theorem toInt64S_ev (l : List Int) (hl : l.length ≤ 1048576) : Ev (fun k => z85.f k l) l := by
 have h := le_iter_inv (fun (s : List Int) (i : Nat) k => z85.l0 k l s (i : Int)) (fun i s => s.set i (l.getD i 0)) (fun i s => s = l.take i ++ List.replicate (l.length - i) 0) l.length 0 (List.replicate l.length 0) (by simp) (by
  intro j s _ hj hs
  refine ⟨fun r hr => Ev.step (fun k => z85.l0.eq_2 ..) (ev_pos (by omega) (ev_pos (by omega) (ev_pos ?_ ?_))), ?_⟩
  ·subst hs; simp only [List.length_append, List.length_take, List.length_replicate]; omega
  ·rw [wrap_succ (by omega), rd_nat, Int.toNat_natCast]; exact hr
  ·subst hs; exact set_prefix l j 0 (by omega) _ rfl)
 unfold z85.f
 refine ev_pos (by omega) (ev_pos (by omega) ?_)
 rw [Int.toNat_natCast]
 refine h.1 l (Ev.step (fun k => z85.l0.eq_2 ..) (ev_neg (by omega) (ev_eq (Ev.now _) ?_)))
 rw [h.2]
 simp
theorem toInt64SS_ev (l : List (List Int)) (hl : l.length ≤ 1048576) (hr : ∀ x ∈ l, x.length ≤ 1048576) : Ev (fun k => z52.f k l) l := by
 have h := le_iter_inv (fun (s : List (List Int)) (i : Nat) k => z52.l0 k l s (i : Int)) (fun i s => s.set i (l.getD i [])) (fun i s => s = l.take i ++ List.replicate (l.length - i) []) l.length 0 (List.replicate l.length []) (by simp) (by
  intro j s _ hj hs
  have hm : l.getD j [] ∈ l := by
   rw [List.getD_eq_getElem?_getD, List.getElem?_eq_getElem (by omega)]; exact List.getElem_mem _
  have hrd : rd_ListInt l (j : Int) = l.getD j [] := by simp [rd_ListInt]
  refine ⟨fun r hr' => Ev.step (fun k => z52.l0.eq_2 ..) (ev_pos (by omega) (ev_pos (by omega) ?_)), ?_⟩
  ·rw [hrd]
   refine Ev.bind (toInt64S_ev _ (hr _ hm)) (ev_pos ?_ ?_)
   ·subst hs; simp only [List.length_append, List.length_take, List.length_replicate]; omega
   ·rw [wrap_succ (by omega), Int.toNat_natCast]; exact hr'
  ·subst hs; exact set_prefix l j [] (by omega) _ rfl)
 unfold z52.f
 refine ev_pos (by omega) (ev_pos (by omega) ?_)
 rw [Int.toNat_natCast]
 refine h.1 l (Ev.step (fun k => z52.l0.eq_2 ..) (ev_neg (by omega) (ev_eq (Ev.now _) ?_)))
 rw [h.2]
 simp

theorem list_eq_range {α : Type} [BEq α] [LawfulBEq α] (l m : List α) (z : α) (h : l.length = m.length) : (List.range l.length).all (fun i => l.getD i z == m.getD i z) = (l == m) := by
 rw [Bool.eq_iff_iff, List.all_eq_true, beq_iff_eq]
 constructor
 ·intro e
  apply List.ext_getElem h
  intro i h1 h2
  have := e i (List.mem_range.2 h1)
  simpa [List.getD_eq_getElem?_getD, List.getElem?_eq_getElem h1, List.getElem?_eq_getElem h2] using this
 ·rintro rfl i _
  exact beq_self_eq_true _
theorem len_ne_beq {α : Type} [BEq α] [LawfulBEq α] {l m : List α} (h : l.length ≠ m.length) : (l == m) = false := by
 rw [Bool.eq_false_iff]; intro e; exact h (by rw [eq_of_beq e])
theorem eqInt64S_ev (l m : List Int) (hl : l.length < 9223372036854775807) : Ev (fun k => z89.f k l m) (l == m) := by
 unfold z89.f
 by_cases h : l.length = m.length
 ·refine ev_pos (by omega) ?_
  rw [← list_eq_range l m 0 h]
  refine ev_all (fun (i : Nat) k => z89.l0 k l m (i : Int)) _ l.length (fun j hj hp r hr => ?_) (fun j hj hp => ?_) ?_
  ·refine Ev.step (fun k => z89.l0.eq_2 ..) (ev_pos (by omega) (ev_pos (by omega) (ev_pos (by omega) (ev_pos ?_ ?_))))
   ·rw [rd_nat, rd_nat]; exact eq_of_beq hp
   ·rw [wrap_succ (by omega)]; exact hr
  ·refine Ev.step (fun k => z89.l0.eq_2 ..) (ev_pos (by omega) (ev_pos (by omega) (ev_pos (by omega) (ev_neg ?_ (Ev.now _)))))
   rw [rd_nat, rd_nat]; exact ne_of_beq_false hp
  ·exact Ev.step (fun k => z89.l0.eq_2 ..) (ev_neg (by omega) (Ev.now _))
 ·rw [len_ne_beq h]
  exact ev_neg (by omega) (Ev.now _)
theorem eqInt64SS_ev (l m : List (List Int)) (hl : l.length < 9223372036854775807) (hr : ∀ x ∈ l, x.length < 9223372036854775807) : Ev (fun k => z55.f k l m) (l == m) := by
 unfold z55.f
 by_cases h : l.length = m.length
 ·refine ev_pos (by omega) ?_
  rw [← list_eq_range l m [] h]
  have hm : ∀ j, j < l.length → Ev (fun k => z89.f k (rd_ListInt l (j : Int)) (rd_ListInt m (j : Int))) (l.getD j [] == m.getD j []) := fun j hj => by
   have h1 : rd_ListInt l (j : Int) = l.getD j [] := by simp [rd_ListInt]
   have h2 : rd_ListInt m (j : Int) = m.getD j [] := by simp [rd_ListInt]
   rw [h1, h2]
   refine eqInt64S_ev _ _ (hr _ ?_)
   rw [List.getD_eq_getElem?_getD, List.getElem?_eq_getElem hj]; exact List.getElem_mem hj
  refine ev_all (fun (i : Nat) k => z55.l0 k l m (i : Int)) _ l.length (fun j hj hp r hr => ?_) (fun j hj hp => ?_) ?_
  ·refine Ev.step (fun k => z55.l0.eq_2 ..) (ev_pos (by omega) (ev_pos (by omega) (ev_pos (by omega) (Ev.bind (hm j hj) (ev_pos hp ?_)))))
   rw [wrap_succ (by omega)]; exact hr
  ·exact Ev.step (fun k => z55.l0.eq_2 ..) (ev_pos (by omega) (ev_pos (by omega) (ev_pos (by omega) (Ev.bind (hm j hj) (ev_neg (by rw [hp]; decide) (Ev.now _))))))
  ·exact Ev.step (fun k => z55.l0.eq_2 ..) (ev_neg (by omega) (Ev.now _))
 ·rw [len_ne_beq h]
  exact ev_neg (by omega) (Ev.now _)
end Go.Proofs.Ytagefgkneandpaa.B

set_option linter.unusedVariables false
set_option linter.unusedSimpArgs false
namespace Go.Proofs.Ytagefgkneandpaa.B
open Go.RowKit Go.Proofs.YtagefgkneandpaaW.PrintWords

theorem slicesEqual_ev (l m : List Int) (hl : l.length < 9223372036854775807) : Ev (fun k => z98.f k l m) (l == m) := by
 unfold z98.f
 by_cases h : l.length = m.length
 ·refine ev_pos (by omega) ?_
  rw [← list_eq_range l m 0 h]
  refine ev_all (fun (i : Nat) k => z98.l0 k l m (l.length : Int) (i : Int)) _ l.length (fun j hj hp r hr => ?_) (fun j hj hp => ?_) ?_
  ·refine Ev.step (fun k => z98.l0.eq_2 ..) ?_
   refine ev_pos (by omega) (ev_pos (by omega) (ev_pos (by omega) (ev_pos (by omega) (ev_pos ?_ ?_))))
   ·rw [rd_nat, rd_nat]; exact eq_of_beq hp
   ·rw [wrap_succ (by omega)]; exact hr
  ·refine Ev.step (fun k => z98.l0.eq_2 ..) ?_
   refine ev_pos (by omega) (ev_pos (by omega) (ev_pos (by omega) (ev_pos (by omega) (ev_neg ?_ (Ev.now _)))))
   rw [rd_nat, rd_nat]; exact ne_of_beq_false hp
  ·refine Ev.step (fun k => z98.l0.eq_2 ..) ?_
   exact ev_neg (by omega) (Ev.now _)
 ·rw [len_ne_beq h]
  exact ev_neg (by omega) (Ev.now _)
theorem same_ev (l m : List Int) (hl : l.length < 9223372036854775807) : Ev (fun k => z95.f k l m) (l == m) := by
 unfold z95.f
 by_cases h : l.length = m.length
 ·refine ev_pos (by omega) ?_
  rw [← list_eq_range l m 0 h]
  refine ev_all (fun (i : Nat) k => z95.l0 k l m (i : Int)) _ l.length (fun j hj hp r hr => ?_) (fun j hj hp => ?_) ?_
  ·refine Ev.step (fun k => z95.l0.eq_2 ..) ?_
   refine ev_pos (by omega) (ev_pos (by omega) (ev_pos (by omega) (ev_pos ?_ ?_)))
   ·rw [rd_nat, rd_nat]; exact eq_of_beq hp
   ·rw [wrap_succ (by omega)]; exact hr
  ·refine Ev.step (fun k => z95.l0.eq_2 ..) ?_
   refine ev_pos (by omega) (ev_pos (by omega) (ev_pos (by omega) (ev_neg ?_ (Ev.now _))))
   rw [rd_nat, rd_nat]; exact ne_of_beq_false hp
  ·refine Ev.step (fun k => z95.l0.eq_2 ..) ?_
   exact ev_neg (by omega) (Ev.now _)
 ·rw [len_ne_beq h]
  exact ev_neg (by omega) (Ev.now _)
end Go.Proofs.Ytagefgkneandpaa.B

set_option linter.unusedVariables false
set_option linter.unusedSimpArgs false
namespace Go.Proofs.Ytagefgkneandpaa.B
open Go.RowKit Go.Proofs.YtagefgkneandpaaW.PrintWords

theorem areSame_ev (l m : List (List Int)) (hl : l.length < 9223372036854775807) (hr : ∀ x ∈ l, x.length < 9223372036854775807) : Ev (fun k => z74.f k l m) (l == m) := by
 unfold z74.f z136.f
 refine Ev.bind (a := (l == m)) ?_ (Ev.now _)
 by_cases h : l.length = m.length
 ·refine ev_pos (by omega) ?_
  rw [← list_eq_range l m [] h]
  have hm : ∀ j, j < l.length → Ev (fun k => z98.f k (rd_ListInt l (j : Int)) (rd_ListInt m (j : Int))) (l.getD j [] == m.getD j []) := fun j hj => by
   rw [rdl_nat, rdl_nat]
   exact slicesEqual_ev _ _ (hr _ (getD_mem [] hj))
  refine ev_all (fun (i : Nat) k => z136.l0 k m l (l.length : Int) (i : Int)) _ l.length (fun j hj hp r hr => ?_) (fun j hj hp => ?_) ?_
  ·refine Ev.step (fun k => z136.l0.eq_2 ..) ?_
   refine ev_pos (by omega) (ev_pos (by omega) (ev_pos (by omega) (ev_pos (by omega) (Ev.bind (hm j hj) (ev_pos hp ?_)))))
   rw [wrap_succ (by omega)]; exact hr
  ·refine Ev.step (fun k => z136.l0.eq_2 ..) ?_
   exact ev_pos (by omega) (ev_pos (by omega) (ev_pos (by omega) (ev_pos (by omega) (Ev.bind (hm j hj) (ev_neg (by rw [hp]; decide) (Ev.now _))))))
  ·refine Ev.step (fun k => z136.l0.eq_2 ..) ?_
   exact ev_neg (by omega) (Ev.now _)
 ·rw [len_ne_beq h]
  exact ev_neg (by omega) (Ev.now _)
end Go.Proofs.Ytagefgkneandpaa.B

set_option linter.unusedVariables false
set_option linter.unusedSimpArgs false
namespace Go.Proofs.Ytagefgkneandpaa.B
open Go.RowKit Go.Proofs.YtagefgkneandpaaW.PrintWords

theorem isElement_val (a n : Int) : z37.f a n = some (elem a n) := by
 unfold z37.f
 rw [within_val]; rfl
theorem isSize_val (a : Int) : z66.f a = some (decide (0 ≤ a) && decide (a ≤ 12)) := by
 unfold z66.f
 rw [within_val]; rfl
theorem areElements1_val (a n : Int) : z81.f a n = some (!elem a n) := by
 unfold z81.f
 rw [isElement_val]; rfl
theorem areElements_ev (l : List Int) (n : Int) (hl : l.length < 9223372036854775807) : Ev (fun k => z44.f k l n) (l.all (fun a => elem a n)) := by
 obtain ⟨t, ht, hd⟩ := ev_index_list l 0 (fun i k => z134.l0 k l (l.length : Int) (i : Int) n) (fun a => !elem a n) (fun j hj hp r hr => by
  refine Ev.step (fun k => z134.l0.eq_2 ..) ?_
  (repeat (first | refine ev_pos (by omega) ?_ | refine ev_neg (by omega) ?_))
  rw [rd_nat, wrap_succ (by omega)]
  exact Ev.bind (ev_const (areElements1_val _ _)) (ev_neg (by rw [hp]; decide) hr)) (fun j hj hp => by
  refine Ev.step (fun k => z134.l0.eq_2 ..) ?_
  (repeat (first | refine ev_pos (by omega) ?_ | refine ev_neg (by omega) ?_))
  rw [rd_nat]
  exact Ev.bind (ev_const (areElements1_val _ _)) (ev_pos hp (Ev.now _))) (by
  refine Ev.step (fun k => z134.l0.eq_2 ..) ?_
  exact ev_neg (by omega) (Ev.now _))
 unfold z44.f z133.f z134.f
 refine Ev.bind (Ev.bind ht (Ev.now _)) (ev_eq (Ev.now _) ?_)
 rw [hd, List.any_eq_not_all_not]
 simp
theorem elem_iff {a : Int} {n : Nat} (hn : n ≤ 12) : elem a (n : Int) = true ↔ 0 ≤ a ∧ a < n := by
 unfold elem
 rw [wrap_small (by omega) (by omega)]
 simp only [Bool.and_eq_true, decide_eq_true_eq]
 omega
theorem len2 {p : List Int} (h : p.length = 2) : p = [p.getD 0 0, p.getD 1 0] := by
 match p, h with
 | [a, b], _ => rfl
theorem arePairs1_ev (p : List Int) (n : Int) : Ev (fun k => z96.f k p n) (!isPair n p) := by
 unfold z96.f isPair
 by_cases h : p.length = 2
 ·refine ev_pos (by omega) (Ev.bind (areElements_ev p n (by omega)) (ev_eq (Ev.now _) ?_))
  rw [len2 h]
  simp
 ·refine ev_neg (by omega) (ev_eq (Ev.now _) ?_)
  have : (p.length == 2) = false := by simpa using h
  rw [this]; rfl
theorem arePairs_ev (n : Int) (l : List (List Int)) (hl : l.length < 9223372036854775807) : Ev (fun k => z67.f k n l) (l.all (isPair n)) := by
 obtain ⟨t, ht, hd⟩ := ev_index_list l [] (fun i k => z135.l0 k l (l.length : Int) (i : Int) n) (fun p => !isPair n p) (fun j hj hp r hr => by
  refine Ev.step (fun k => z135.l0.eq_2 ..) ?_
  (repeat (first | refine ev_pos (by omega) ?_ | refine ev_neg (by omega) ?_))
  rw [rdl_nat, wrap_succ (by omega)]
  exact Ev.bind (arePairs1_ev _ _) (ev_neg (by rw [hp]; decide) hr)) (fun j hj hp => by
  refine Ev.step (fun k => z135.l0.eq_2 ..) ?_
  (repeat (first | refine ev_pos (by omega) ?_ | refine ev_neg (by omega) ?_))
  rw [rdl_nat]
  exact Ev.bind (arePairs1_ev _ _) (ev_pos hp (Ev.now _))) (by
  refine Ev.step (fun k => z135.l0.eq_2 ..) ?_
  exact ev_neg (by omega) (Ev.now _))
 unfold z67.f z132.f z135.f
 refine Ev.bind (Ev.bind ht (Ev.now _)) (ev_eq (Ev.now _) ?_)
 rw [hd, List.any_eq_not_all_not]
 simp
theorem specPairs_ev (n : Int) (l : List (List Int)) (hl : l.length < 9223372036854775807) : Ev (fun k => z77.f k n l) (l.all (isPair n)) := by
 unfold z77.f
 have e0 : ∀ x : List Int, rd x 0 = x.getD 0 0 := fun x => rd_nat x 0
 have e1 : ∀ x : List Int, rd x 1 = x.getD 1 0 := fun x => rd_nat x 1
 refine ev_all_list l [] (fun i k => z77.l0 k n l (i : Int)) (isPair n) (fun j hj hp r hr => ?_) (fun j hj hp => ?_) ?_
 ·obtain ⟨h2, hp⟩ := (Bool.and_eq_true _ _).mp hp
  obtain ⟨ha, hb⟩ := (Bool.and_eq_true _ _).mp hp
  have h2 : (l.getD j []).length = 2 := by simpa using h2
  refine Ev.step (fun k => z77.l0.eq_2 ..) ?_
  simp only [rdl_nat, e0, e1, h2, wrap_succ (show j < 9223372036854775807 by omega)]
  refine ev_pos (by omega) (ev_pos (by omega) (ev_pos (by omega) (ev_pos (by omega) (Ev.bind (ev_const (in_val _ _ _)) (ev_pos ha (ev_pos (by omega) (Ev.bind (ev_const (in_val _ _ _)) (ev_pos hb hr))))))))
 ·refine Ev.step (fun k => z77.l0.eq_2 ..) ?_
  simp only [rdl_nat, e0, e1]
  refine ev_pos (by omega) (ev_pos (by omega) ?_)
  by_cases h2 : (l.getD j []).length = 2
  ·refine ev_pos (by omega) (ev_pos (by omega) (Ev.bind (ev_const (in_val _ _ _)) ?_))
   unfold isPair at hp
   rw [h2] at hp
   have hp : (elem ((l.getD j []).getD 0 0) n && elem ((l.getD j []).getD 1 0) n) = false := by simpa using hp
   by_cases ha : elem ((l.getD j []).getD 0 0) n = true
   ·rw [ha, Bool.true_and] at hp
    refine ev_pos ha (ev_pos (by omega) (Ev.bind (ev_const (in_val _ _ _)) (ev_neg ?_ (Ev.now _))))
    exact Bool.eq_false_iff.1 hp
   ·exact ev_neg ha (Ev.now _)
  ·exact ev_neg (by omega) (Ev.now _)
 ·refine Ev.step (fun k => z77.l0.eq_2 ..) ?_
  exact ev_neg (by omega) (Ev.now _)
theorem pairs_of (n : Nat) (hn : n ≤ 12) (l : List (List Int)) (h : l.all (isPair (n : Int)) = true) : Pairs n l := by
 intro p hp
 have h := List.all_eq_true.1 h p hp
 obtain ⟨h2, h⟩ := (Bool.and_eq_true _ _).mp h
 obtain ⟨ha, hb⟩ := (Bool.and_eq_true _ _).mp h
 have h2 : p.length = 2 := by simpa using h2
 have ha := (elem_iff hn).1 ha
 have hb := (elem_iff hn).1 hb
 exact ⟨h2, ha.1, ha.2, hb.1, hb.2⟩

theorem samePairs_ev (l m : List (List Int)) (hl : l.length < 9223372036854775807) (hr : ∀ x ∈ l, x.length < 9223372036854775807) : Ev (fun k => z63.f k l m) (l == m) := by
 unfold z63.f
 by_cases h : l.length = m.length
 ·refine ev_pos (by omega) ?_
  rw [← list_eq_range l m [] h]
  have hm : ∀ j, j < l.length → Ev (fun k => z95.f k (rd_ListInt l (j : Int)) (rd_ListInt m (j : Int))) (l.getD j [] == m.getD j []) := fun j hj => by
   rw [rdl_nat, rdl_nat]
   exact same_ev _ _ (hr _ (getD_mem [] hj))
  refine ev_all (fun (i : Nat) k => z63.l0 k l m (i : Int)) _ l.length (fun j hj hp r hr => ?_) (fun j hj hp => ?_) ?_
  ·refine Ev.step (fun k => z63.l0.eq_2 ..) ?_
   refine ev_pos (by omega) (ev_pos (by omega) (ev_pos (by omega) (Ev.bind (hm j hj) (ev_pos hp ?_))))
   rw [wrap_succ (by omega)]; exact hr
  ·refine Ev.step (fun k => z63.l0.eq_2 ..) ?_
   exact ev_pos (by omega) (ev_pos (by omega) (ev_pos (by omega) (Ev.bind (hm j hj) (ev_neg (by rw [hp]; decide) (Ev.now _)))))
  ·refine Ev.step (fun k => z63.l0.eq_2 ..) ?_
   exact ev_neg (by omega) (Ev.now _)
 ·rw [len_ne_beq h]
  exact ev_neg (by omega) (Ev.now _)
end Go.Proofs.Ytagefgkneandpaa.B

set_option linter.unusedVariables false
set_option linter.unusedSimpArgs false
namespace Go.Proofs.Ytagefgkneandpaa.B
open Go.RowKit Go.Proofs.YtagefgkneandpaaW.PrintWords

def okPoset (a : Int) (l : List (List Int)) : Bool :=
 (decide (0 ≤ a) && decide (a ≤ 12)) && (decide (l.length ≤ 30) && (l.all (isPair a) && (isOrd a.toNat (orderOf a.toNat l) && (coversOf a.toNat (orderOf a.toNat l) == l))))

theorem covers_small {n : Nat} (hn : n ≤ 12) (R : Nat → Nat → Bool) : (coversOf n R).length ≤ 144 := by
 have h := coversOf_length n R
 have : n * n ≤ 12 * 12 := Nat.mul_le_mul hn hn
 omega
theorem covers_two (n : Nat) (R : Nat → Nat → Bool) : ∀ p ∈ coversOf n R, p.length = 2 := by
 have hrow : ∀ x s, (∀ p ∈ s, p.length = 2) → ∀ p ∈ coverRow n R x s, p.length = 2 := fun x s hs => by
  have := iter_inv (fun y s => if covers n R x y then s ++ [[(x : Int), (y : Int)]] else s) (fun i (t : List (List Int)) => ∀ p ∈ t, p.length = 2) n 0 s hs (fun j t _ _ h => by
   split
   ·intro p hp
    rcases List.mem_append.1 hp with hp | hp
    ·exact h p hp
    ·rw [List.mem_singleton.1 hp]; rfl
   ·exact h)
  exact this
 exact iter_inv (coverRow n R) (fun i (t : List (List Int)) => ∀ p ∈ t, p.length = 2) n 0 [] (by simp) (fun j t _ _ h => hrow j t h)

section
variable {a : Int} {l : List (List Int)}
theorem size_nat (h : (decide (0 ≤ a) && decide (a ≤ 12)) = true) : ∃ n : Nat, a = n ∧ n ≤ 12 := by
 simp only [Bool.and_eq_true, decide_eq_true_eq] at h
 obtain ⟨n, rfl⟩ := Int.eq_ofNat_of_zero_le h.1
 exact ⟨n, rfl, by omega⟩
theorem implValidPoset_ev (hl : l.length < 9223372036854775807) : Ev (fun k => z36.f k a l) (okPoset a l) := by
 unfold z36.f okPoset
 refine Ev.bind (ev_const (isSize_val a)) ?_
 by_cases hs : (decide (0 ≤ a) && decide (a ≤ 12)) = true
 ·obtain ⟨n, rfl, hn⟩ := size_nat hs
  refine ev_pos hs ?_
  rw [hs, Bool.true_and]
  by_cases h30 : (l.length : Int) > 30
  ·rw [decide_eq_false (show ¬ l.length ≤ 30 by omega), Bool.false_and]
   refine ev_pos h30 ?_
   refine Ev.step (fun k => z36.j0.eq_2 ..) ?_
   exact ev_pos rfl (Ev.now _)
  ·rw [decide_eq_true (show l.length ≤ 30 by omega), Bool.true_and]
   refine ev_neg h30 (Ev.bind (arePairs_ev _ l hl) ?_)
   refine Ev.step (fun k => z36.j0.eq_2 ..) ?_
   by_cases hp : l.all (isPair (n : Int)) = true
   ·rw [hp, Bool.true_and, Int.toNat_natCast]
    refine ev_neg (by decide) (Ev.bind (belowOf_ev hn (pairs_of n hn l hp) hl) (Ev.bind (isOrder_ev hn) ?_))
    by_cases ho : isOrd n (orderOf n l) = true
    ·rw [ho, Bool.true_and]
     refine ev_pos rfl (Ev.bind (implCovers_ev hn) (Ev.bind (areSame_ev _ _ ?_ ?_) (Ev.now _)))
     ·have := covers_small hn (orderOf n l); omega
     ·intro x hx; rw [covers_two _ _ x hx]; omega
    ·have ho : isOrd n (orderOf n l) = false := Bool.eq_false_iff.2 ho
     rw [ho, Bool.false_and]
     exact ev_neg (by decide) (Ev.now _)
   ·have hp : l.all (isPair (n : Int)) = false := Bool.eq_false_iff.2 hp
    rw [hp, Bool.false_and]
    exact ev_pos rfl (Ev.now _)
 ·refine ev_neg hs ?_
  rw [Bool.eq_false_iff.2 hs, Bool.false_and]
  refine Ev.step (fun k => z36.j0.eq_2 ..) ?_
  exact ev_pos rfl (Ev.now _)
theorem specOk_ev (hl : l.length < 9223372036854775807) : Ev (fun k => z40.f k a l) (okPoset a l) := by
 unfold z40.f okPoset
 refine Ev.bind (ev_const (in_val a 0 12)) ?_
 by_cases hs : (decide (0 ≤ a) && decide (a ≤ 12)) = true
 ·obtain ⟨n, rfl, hn⟩ := size_nat hs
  refine ev_pos hs ?_
  rw [hs, Bool.true_and]
  by_cases h30 : (l.length : Int) > 30
  ·rw [decide_eq_false (show ¬ l.length ≤ 30 by omega), Bool.false_and]
   refine ev_pos h30 ?_
   refine Ev.step (fun k => z40.j0.eq_2 ..) ?_
   exact ev_pos rfl (Ev.now _)
  ·rw [decide_eq_true (show l.length ≤ 30 by omega), Bool.true_and]
   refine ev_neg h30 (Ev.bind (specPairs_ev _ l hl) ?_)
   refine Ev.step (fun k => z40.j0.eq_2 ..) ?_
   by_cases hp : l.all (isPair (n : Int)) = true
   ·rw [hp, Bool.true_and, Int.toNat_natCast]
    refine ev_neg (by decide) (Ev.bind (table_ev hn (pairs_of n hn l hp) hl) (Ev.bind (specCovers_ev hn) ?_))
    by_cases ho : isOrd n (orderOf n l) = true
    ·rw [if_pos ho, ho, Bool.true_and]
     refine ev_pos rfl (Ev.bind (samePairs_ev _ _ ?_ ?_) (Ev.now _))
     ·have := covers_small hn (orderOf n l); exact Nat.lt_of_le_of_lt this (by decide)
     ·intro x hx; rw [covers_two _ _ x hx]; omega
    ·rw [if_neg ho]
     have ho : isOrd n (orderOf n l) = false := Bool.eq_false_iff.2 ho
     rw [ho, Bool.false_and]
     exact ev_neg (by decide) (Ev.now _)
   ·have hp : l.all (isPair (n : Int)) = false := Bool.eq_false_iff.2 hp
    rw [hp, Bool.false_and]
    exact ev_pos rfl (Ev.now _)
 ·refine ev_neg hs ?_
  rw [Bool.eq_false_iff.2 hs, Bool.false_and]
  refine Ev.step (fun k => z40.j0.eq_2 ..) ?_
  exact ev_pos rfl (Ev.now _)
theorem okPoset_iff : okPoset a l = true ↔ ∃ n : Nat, a = n ∧ n ≤ 12 ∧ l.length ≤ 30 ∧ l.all (isPair (n : Int)) = true ∧ isOrd n (orderOf n l) = true ∧ coversOf n (orderOf n l) = l := by
 unfold okPoset
 simp only [Bool.and_eq_true, decide_eq_true_eq, beq_iff_eq]
 constructor
 ·rintro ⟨⟨h1, h2⟩, h3, h4, h5, h6⟩
  obtain ⟨n, rfl⟩ := Int.eq_ofNat_of_zero_le h1
  rw [Int.toNat_natCast] at h5 h6
  exact ⟨n, rfl, by omega, h3, h4, h5, h6⟩
 ·rintro ⟨n, rfl, h2, h3, h4, h5, h6⟩
  rw [Int.toNat_natCast]
  exact ⟨⟨by omega, by omega⟩, h3, h4, h5, h6⟩
end
end Go.Proofs.Ytagefgkneandpaa.B

set_option linter.unusedVariables false
set_option linter.unusedSimpArgs false
namespace Go.Proofs.Ytagefgkneandpaa.B
open Go.RowKit Go.Proofs.YtagefgkneandpaaW.PrintWords

theorem wRound_eq (n x : Nat) (R : Nat → Nat → Bool) (hx : x < n) : ∀ a c, wRound n x R a c = if a < n ∧ c < n then (R a c || R a x && R x c) else R a c := by
 have hrow : ∀ (a : Nat) (S : Nat → Nat → Bool), a < n → (∀ c, S x c = R x c) → (∀ c, S a c = R a c) → ∀ a' c', wRow n x a S a' c' = if a' = a ∧ c' < n then (R a c' || R a x && R x c') else S a' c' := by
  intro a S ha hSx hSa
  have := iter_inv (wCell x a) (fun i (T : Nat → Nat → Bool) => ∀ a' c', T a' c' = if a' = a ∧ c' < i then (R a c' || R a x && R x c') else S a' c') n 0 S (fun a' c' => by simp) (fun j T _ _ hT a' c' => by
   have hax : T a x = R a x := by
    rw [hT]
    split
    ·cases R a x <;> simp
    ·exact hSa x
   have hxj : T x j = R x j := by
    rw [hT]
    split
    ·rename_i h; omega
    ·exact hSx j
   have haj : T a j = R a j := by
    rw [hT, if_neg (by omega)]; exact hSa j
   simp only [wCell, upd]
   by_cases h : a' = a ∧ c' = j
   ·obtain ⟨rfl, rfl⟩ := h
    rw [if_pos ⟨rfl, rfl⟩, if_pos ⟨rfl, by omega⟩, haj, hax, hxj]
   ·rw [if_neg h, hT]
    by_cases h2 : a' = a ∧ c' < j
    ·rw [if_pos h2, if_pos ⟨h2.1, by omega⟩]
    ·rw [if_neg h2, if_neg (by omega)])
  rw [Nat.zero_add] at this
  exact this
 have := iter_inv (wRow n x) (fun i (T : Nat → Nat → Bool) => ∀ a c, T a c = if a < i ∧ c < n then (R a c || R a x && R x c) else R a c) n 0 R (fun a c => by simp) (fun j T _ hj hT => by
  have hTx : ∀ c, T x c = R x c := fun c => by
   rw [hT]
   split
   ·cases R x c <;> simp
   ·rfl
  have hTj : ∀ c, T j c = R j c := fun c => by rw [hT, if_neg (by omega)]
  intro a c
  rw [hrow j T (by omega) hTx hTj a c]
  by_cases h : a = j ∧ c < n
  ·obtain ⟨rfl, hc⟩ := h
   rw [if_pos ⟨rfl, hc⟩, if_pos ⟨by omega, hc⟩]
  ·rw [if_neg h, hT]
   by_cases h2 : a < j ∧ c < n
   ·rw [if_pos h2, if_pos ⟨by omega, h2.2⟩]
   ·rw [if_neg h2, if_neg (by omega)])
 rw [Nat.zero_add] at this
 exact this
def Thru (n m : Nat) (R : Nat → Nat → Bool) : Prop := ∀ a y c, a < n → y < m → c < n → R a y = true → R y c = true → R a c = true
theorem warshall_thru (n : Nat) (R : Nat → Nat → Bool) : Thru n n (warshall n R) := by
 have := iter_inv (wRound n) (fun i T => i ≤ n → Thru n i T) n 0 R (fun _ a y c _ h => by omega) (fun m T _ hm hT _ => by
  have hmn : m < n := by omega
  have hT := hT (by omega)
  have e := wRound_eq n m T hmn
  intro a y c ha hy hc h1 h2
  have hyn : y < n := by omega
  rw [e, if_pos ⟨ha, hyn⟩] at h1
  rw [e, if_pos ⟨hyn, hc⟩] at h2
  rw [e, if_pos ⟨ha, hc⟩]
  simp only [Bool.or_eq_true, Bool.and_eq_true] at h1 h2 ⊢
  by_cases hym : y = m
  ·subst hym
   right
   exact ⟨h1.elim id (fun h => h.1), h2.elim id (fun h => h.2)⟩
  ·have hy : y < m := by omega
   rcases h1 with h1 | ⟨h1, h1'⟩
   ·rcases h2 with h2 | ⟨h2, h2'⟩
    ·exact .inl (hT a y c ha hy hc h1 h2)
    ·exact .inr ⟨hT a y m ha hy hmn h1 h2, h2'⟩
   ·rcases h2 with h2 | ⟨h2, h2'⟩
    ·exact .inr ⟨h1, hT m y c hmn hy hc h1' h2⟩
    ·exact .inr ⟨h1, h2'⟩)
 rw [Nat.zero_add] at this
 exact this (Nat.le_refl _)
theorem warshall_le (n : Nat) (R : Nat → Nat → Bool) (a c : Nat) (h : R a c = true) : warshall n R a c = true :=
 iter_inv (wRound n) (fun _ T => T a c = true) n 0 R h (fun m T _ hm hT => by
  rw [wRound_eq n m T (by omega)]
  split
  ·rw [hT]; rfl
  ·exact hT)
theorem pairs_le (l : List (List Int)) (R : Nat → Nat → Bool) (a c : Nat) (h : R a c = true) : pairsRel l R a c = true :=
 iter_inv _ (fun _ (T : Nat → Nat → Bool) => T a c = true) l.length 0 R h (fun m T _ hm hT => by
  simp only [upd]
  split
  ·rfl
  ·exact hT)
section
variable {n : Nat} {l : List (List Int)} {a b c : Nat}
theorem order_refl (a : Nat) : orderOf n l a a = true := warshall_le n _ a a (pairs_le l _ a a (by simp [diag]))
theorem order_trans (ha : a < n) (hb : b < n) (hc : c < n) (h1 : orderOf n l a b = true) (h2 : orderOf n l b c = true) : orderOf n l a c = true := warshall_thru n _ a b c ha hb hc h1 h2
theorem order_anti (ho : isOrd n (orderOf n l) = true) (ha : a < n) (hb : b < n) (h1 : orderOf n l a b = true) (h2 : orderOf n l b a = true) : a = b := by
 apply Classical.byContradiction
 intro hne
 have := isOrd_iff.1 ho a b ha hb hne h1
 rw [h2] at this; cases this
end
end Go.Proofs.Ytagefgkneandpaa.B

set_option linter.unusedVariables false
set_option linter.unusedSimpArgs false
namespace Go.Proofs.Ytagefgkneandpaa.B
open Go.RowKit Go.Proofs.YtagefgkneandpaaW.PrintWords

theorem order_ev {n : Nat} {l : List (List Int)} (hn : n ≤ 12) (hp : Pairs n l) (hl : l.length < 9223372036854775807) : Ev (fun k => z38.f k (n : Int) l) (tab n (orderOf n l)) := by
 unfold z38.f
 exact Ev.bind (belowOf_ev hn hp hl) (Ev.now _)
theorem specOrder_ev {n : Nat} {l : List (List Int)} (hn : n ≤ 12) (hp : Pairs n l) (hl : l.length < 9223372036854775807) : Ev (fun k => z42.f k (n : Int) l) (tab n (orderOf n l)) := by
 unfold z42.f
 exact Ev.bind (table_ev hn hp hl) (Ev.now _)
theorem specElement_val (a : Int) (l : List (List Int)) (x : Int) : z41.f a l x = some (elem x a) := by
 unfold z41.f
 rw [in_val]; rfl
end Go.Proofs.Ytagefgkneandpaa.B

-- written for this claim by a program (mp.py over the kit's printer)
namespace Go.Proofs.Ytagefgkneandpaa.B
open Go.RowKit Go.Proofs.YtagefgkneandpaaW.PrintWords Go.Proofs.YtagefgkneandpaaW.PrintLast Go.Proofs.YtagefgkneandpaaW.PrintMore
attribute [local go_sem] max2_int min2_int max_two min_two max_three min_three max_four min_four
set_option linter.unusedVariables false
set_option linter.unusedSimpArgs false

def z92.l0 : Nat → List Int → Int → Int → Int → Option (Int)
 | 0, _, _, _, _ => none
 | k + 1, x0, x1, x7, x8 => if x8 < x7 then (if 0 ≤ x8 then (if x8 < (x0.length : Int) then (if x1 = (rd x0 x8) then (some x8) else (z92.l0 k x0 x1 x7 (wrap64 (x8 + 1)))) else (none)) else (none)) else (some (-1))
def z92.f (k : Nat) (l0 : List Int) (a1 : Int) : Option (Int) := z92.l0 k l0 a1 (l0.length : Int) 0
set_option maxHeartbeats 8000000 in
set_option maxRecDepth 100000 in
theorem z92.calls (k : Nat) (A0 : Option Addr) (c0 : Nat) (l0 : List Int) (a1 : Int) (r : Int) (w : World) (hr0 : Kd.C (Kd.int .i64) w A0 l0.length l0) (hc0 : l0.length ≤ c0) (h : z92.f k l0 a1 = some r) :
  Calls Try.prog 92 #[.slice A0 l0.length c0, .int .i64 a1] w fun e w' => e = .returned (.int .i64 r) ∧ Drawn0 w w' := by
 have HR0 := Aside0.mk hr0
 have HC0 := Aside0.mk hc0
 clear hr0 hc0
 have H : (z92.l0 k l0 a1 (l0.length : Int) 0) = some r := h
 clear h
 have H' := Aside0.mk H
 clear H
 go_enter Try.func92, Try.ntmps92
 go_wp2
 go_loopg [8] k (fun kq v8 w' => ∃ (x8_1 : Int), v8 = .int .i64 x8_1 ∧ Aside0 (z92.l0 kq l0 a1 (l0.length : Int) x8_1 = some r) ∧ Aside0 (kq ≤ k) ∧ Drawn0 w w')
 case atStart => exact ⟨(0), E_, H', ⟨Nat.le_refl _⟩, by repeat (first | exact Drawn0.refl _ | apply Drawn0.step)⟩
 case round =>
  clear H'
  (try clear p2)
  obtain ⟨x8_1, rfl, HA, HK1, ⟨m1, rfl⟩⟩ := hrel
  cases gk with
  | zero => exact absurd HA.out (by simp [z92.l0])
  | succ k1 =>
   have H := HA.out
   clear HA
   simp only [z92.l0] at H
   by_cases c3 : x8_1 < (l0.length : Int)
   ·rw [if_pos c3] at H
    have c3b0 : decide (x8_1 < (l0.length : Int)) = true := decide_eq_true c3
    clear c3
    have c4 := O1_ H
    replace H := O2_ H
    have c4b0 := decide_eq_true c4
    clear c4
    have c5 := O1_ H
    replace H := O2_ H
    have c5b0 := decide_eq_true c5
    clear c5
    by_cases c6 : a1 = (rd l0 x8_1)
    ·rw [if_pos c6] at H
     have c6b0 : (a1 == (rd l0 x8_1)) = true := beq_iff_eq.mpr c6
     have c6b1 : (a1 != (rd l0 x8_1)) = false := bne_eq_false_iff_eq.mpr c6
     clear c6
     obtain rfl := Option.some.inj H
     have p101 : 0 ≤ (x8_1 : Int) := D_
     have q101 : x8_1 < (l0.length : Int) := D_
     obtain ⟨ad101, e101, hx101_0⟩ := Kd.at_int HR0.out x8_1 p101 q101
     cases e101
     replace p101 := eq_true p101
     replace q101 := eq_true q101
     go_wp2
     go_ret
     exact ⟨by first | rfl | (simp; done) | (simp [*]; done), by repeat (first | exact Drawn0.refl _ | apply Drawn0.step)⟩
    ·rw [if_neg c6] at H
     have c6b0 : (a1 == (rd l0 x8_1)) = false := beq_eq_false_iff_ne.mpr c6
     have c6b1 : (a1 != (rd l0 x8_1)) = true := bne_iff_ne.mpr c6
     have H' := Aside0.mk H
     clear H
     have p101 : 0 ≤ (x8_1 : Int) := D_
     have q101 : x8_1 < (l0.length : Int) := D_
     obtain ⟨ad101, e101, hx101_0⟩ := Kd.at_int HR0.out x8_1 p101 q101
     cases e101
     replace p101 := eq_true p101
     replace q101 := eq_true q101
     go_wp2
     go_roundg k1
     case measure => exact Q1_ HK1
     case rel => exact ⟨(wrap64 (x8_1 + 1)), E_, H', ⟨Q1_ HK1⟩, by repeat (first | exact Drawn0.refl _ | apply Drawn0.step)⟩
   ·rw [if_neg c3] at H
    have c3b0 : decide (x8_1 < (l0.length : Int)) = false := decide_eq_false c3
    clear c3
    obtain rfl := Option.some.inj H
    go_wp2
    go_ret
    exact ⟨by first | rfl | (simp; done) | (simp [*]; done), by repeat (first | exact Drawn0.refl _ | apply Drawn0.step)⟩

end Go.Proofs.Ytagefgkneandpaa.B

-- written for this claim by a program (mp.py over the kit's printer)
namespace Go.Proofs.Ytagefgkneandpaa.B
open Go.RowKit Go.Proofs.YtagefgkneandpaaW.PrintWords Go.Proofs.YtagefgkneandpaaW.PrintLast Go.Proofs.YtagefgkneandpaaW.PrintMore
attribute [local go_sem] max2_int min2_int max_two min_two max_three min_three max_four min_four
set_option linter.unusedVariables false
set_option linter.unusedSimpArgs false

def z58.f (k : Nat) (l0 : List Int) (a1 : Int) : Option (Bool) := (z92.f k l0 a1).bind fun t101 => (some (decide (t101 ≥ 0)))
set_option maxHeartbeats 8000000 in
set_option maxRecDepth 100000 in
theorem z58.calls (k : Nat) (A0 : Option Addr) (c0 : Nat) (l0 : List Int) (a1 : Int) (r : Bool) (w : World) (hr0 : Kd.C (Kd.int .i64) w A0 l0.length l0) (hc0 : l0.length ≤ c0) (h : z58.f k l0 a1 = some r) :
  Calls Try.prog 58 #[.slice A0 l0.length c0, .int .i64 a1] w fun e w' => e = .returned (.bool r) ∧ Drawn0 w w' := by
 have HR0 := Aside0.mk hr0
 have HC0 := Aside0.mk hc0
 clear hr0 hc0
 have H : ((z92.f k l0 a1).bind fun t101 => (some (decide (t101 ≥ 0)))) = some r := h
 clear h
 replace H := Option.bind_eq_some_iff.mp H
 obtain ⟨t101, A30, H⟩ := H
 have A3 := Aside0.mk A30
 clear A30
 obtain rfl := Option.some.inj H
 go_enter Try.func58, Try.ntmps58
 go_wp2_with (first | ((with_reducible refine gate_callee (f := 92) rfl ?_); refine goesL_ (some 7) rfl rfl Try.func92 (by kernel_rfl) rfl #[.slice A0 l0.length c0, .int .i64 a1] rfl (by (try simp only [List.map_toArray, List.map_cons, List.map_nil]); first | done | rfl | (simp only [List.length_drop, List.length_take]; rfl)) ?_; (with_reducible refine (z92.calls k _ _ l0 a1 t101 _ ?side1 ?side2 A3.out).mono ?_); (case side1 => exact KC_ HR0.out); (case side2 => exact HC0.out); rintro e w' ⟨rfl, ⟨nd, rfl⟩⟩; refine ⟨_, rfl, ?_⟩))
 go_ret
 exact ⟨by first | rfl | (simp; done) | (simp [*]; done), by repeat (first | exact Drawn0.refl _ | apply Drawn0.step)⟩

end Go.Proofs.Ytagefgkneandpaa.B

set_option linter.unusedVariables false
set_option linter.unusedSimpArgs false
namespace Go.Proofs.Ytagefgkneandpaa.B
open Go.RowKit Go.Proofs.YtagefgkneandpaaW.PrintWords

def has (s : List Int) (x : Int) : Bool := s.any (fun z => z == x)
theorem contains_ev (s : List Int) (x : Int) (hl : s.length < 9223372036854775807) : Ev (fun k => z58.f k s x) (has s x) := by
 obtain ⟨t, ht, hd⟩ := ev_index_list s 0 (fun i k => z92.l0 k s x (s.length : Int) (i : Int)) (fun z => z == x) (fun j hj hp r hr => by
  refine Ev.step (fun k => z92.l0.eq_2 ..) ?_
  rw [rd_nat, wrap_succ (by omega)]
  exact ev_pos (by omega) (ev_pos (by omega) (ev_pos (by omega) (ev_neg (by intro e; rw [← e] at hp; simp at hp) hr)))) (fun j hj hp => by
  refine Ev.step (fun k => z92.l0.eq_2 ..) ?_
  rw [rd_nat]
  exact ev_pos (by omega) (ev_pos (by omega) (ev_pos (by omega) (ev_pos (eq_of_beq hp).symm (Ev.now _))))) (by
  refine Ev.step (fun k => z92.l0.eq_2 ..) ?_
  exact ev_neg (by omega) (Ev.now _))
 unfold z58.f z92.f
 exact Ev.bind ht (ev_eq (Ev.now _) hd)
theorem has_iff {s : List Int} {x : Int} : has s x = true ↔ x ∈ s := by
 unfold has
 rw [List.any_eq_true]
 exact ⟨fun ⟨y, hy, e⟩ => (eq_of_beq e) ▸ hy, fun h => ⟨x, h, beq_self_eq_true x⟩⟩
end Go.Proofs.Ytagefgkneandpaa.B

set_option linter.unusedVariables false
set_option linter.unusedSimpArgs false
namespace Go.Proofs.Ytagefgkneandpaa.B
open Go.RowKit Go.Proofs.YtagefgkneandpaaW.PrintWords

def ready (n : Nat) (R : Nat → Nat → Bool) (s : List Int) (x : Nat) : Bool := !has s (x : Int) && (List.range n).all fun y => y == x || (!R y x || has s (y : Int))
def next (n : Nat) (R : Nat → Nat → Bool) (s : List Int) : List Int := match (List.range n).find? (ready n R s) with
 | some x => s ++ [(x : Int)]
 | none => s
def firstExt (n : Nat) (R : Nat → Nat → Bool) : List Int := iter (fun _ s => next n R s) 0 n []

section
variable {n : Nat} {R : Nat → Nat → Bool} {s : List Int}
theorem next_some {x : Nat} (hx : x < n) (h : ready n R s x = true) (hm : ∀ m, m < x → ready n R s m = false) : next n R s = s ++ [(x : Int)] := by
 have : (List.range n).find? (ready n R s) = some x := by
  rw [List.find?_range_eq_some]
  exact ⟨h, List.mem_range.2 hx, fun j hj => by rw [hm j hj]; rfl⟩
 unfold next; rw [this]
theorem next_none (hm : ∀ m, m < n → ready n R s m = false) : next n R s = s := by
 have : (List.range n).find? (ready n R s) = none := by
  rw [List.find?_eq_none]
  intro x hx
  rw [hm x (List.mem_range.1 hx)]; decide
 unfold next; rw [this]
end
theorem countP_lt {α : Type} (p q : α → Bool) : ∀ (l : List α), (∀ x ∈ l, p x = true → q x = true) → (∃ x ∈ l, q x = true ∧ p x = false) → l.countP p < l.countP q
 | [], _, h => by obtain ⟨x, hx, _⟩ := h; cases hx
 | a :: l, h, hx => by
  have hle : l.countP p ≤ l.countP q := List.countP_mono_left (fun x hx => h x (List.mem_cons_of_mem _ hx))
  obtain ⟨x, hm, hq, hp⟩ := hx
  rcases List.mem_cons.1 hm with rfl | hm
  ·simp only [List.countP_cons, hq, hp]
   simp; omega
  ·have := countP_lt p q l (fun x hx => h x (List.mem_cons_of_mem _ hx)) ⟨x, hm, hq, hp⟩
   have ha := h a List.mem_cons_self
   simp only [List.countP_cons]
   cases hpa : p a with
   | false => simp; cases q a <;> simp <;> omega
   | true => rw [ha hpa]; simp; omega
theorem subset_length : ∀ (l s : List Int), l.Nodup → (∀ x ∈ l, x ∈ s) → l.length ≤ s.length
 | [], s, _, _ => Nat.zero_le _
 | a :: l, s, hd, h => by
  have ha := h a List.mem_cons_self
  obtain ⟨hna, hd'⟩ := List.nodup_cons.1 hd
  have := subset_length l (s.erase a) hd' (fun x hx => by
   have hne : x ≠ a := by rintro rfl; exact hna hx
   exact (List.mem_erase_of_ne hne).2 (h x (List.mem_cons_of_mem _ hx)))
  rw [List.length_erase_of_mem ha] at this
  have : 0 < s.length := List.length_pos_of_mem ha
  simp only [List.length_cons]; omega
structure Ord (n : Nat) (R : Nat → Nat → Bool) : Prop where
 refl : ∀ a, a < n → R a a = true
 trans : ∀ a b c, a < n → b < n → c < n → R a b = true → R b c = true → R a c = true
 anti : ∀ a b, a < n → b < n → R a b = true → R b a = true → a = b
theorem ready_exists {n : Nat} {R : Nat → Nat → Bool} (ho : Ord n R) {s : List Int} (hs : s.length < n) : ∃ x, x < n ∧ ready n R s x = true := by
 have hfree : ∃ c x, x < n ∧ has s (x : Int) = false ∧ (List.range n).countP (fun y => R y x) = c := by
  apply Classical.byContradiction
  intro hc
  have hall : ∀ x, x < n → ((x : Nat) : Int) ∈ s := fun x hx => by
   cases h : has s (x : Int) with
   | true => exact has_iff.1 h
   | false => exact absurd ⟨_, x, hx, h, rfl⟩ hc
  have := subset_length ((List.range n).map (fun x => ((x : Nat) : Int))) s (List.nodup_iff_pairwise_ne.2 (by
   rw [List.pairwise_map]
   exact List.Pairwise.imp (fun h e => h (Int.ofNat.inj e)) (List.nodup_iff_pairwise_ne.1 List.nodup_range))) (fun x hx => by
   obtain ⟨y, hy, rfl⟩ := List.mem_map.1 hx
   exact hall y (List.mem_range.1 hy))
  rw [List.length_map, List.length_range] at this
  omega
 obtain ⟨c, ⟨x, hx, hf, hc⟩, hmin⟩ := least hfree
 refine ⟨x, hx, ?_⟩
 unfold ready
 rw [hf, Bool.not_false, Bool.true_and]
 refine List.all_eq_true.2 (fun y hy => ?_)
 have hy := List.mem_range.1 hy
 by_cases e : y = x
 ·simp [e]
 ·cases h1 : R y x with
  | false => simp
  | true =>
   cases h2 : has s (y : Int) with
   | true => simp
   | false =>
    exfalso
    refine hmin _ ?_ ⟨y, hy, h2, rfl⟩
    rw [← hc]
    refine countP_lt _ _ _ (fun z hz hzy => ho.trans z y x (List.mem_range.1 hz) hy hx hzy h1) ⟨x, List.mem_range.2 hx, ho.refl x hx, ?_⟩
    cases h3 : R x y with
    | false => rfl
    | true => exact absurd (ho.anti y x hy hx h1 h3) e
theorem next_length {n : Nat} {R : Nat → Nat → Bool} (ho : Ord n R) {s : List Int} (hs : s.length < n) : (next n R s).length = s.length + 1 := by
 obtain ⟨x, ⟨hx, hr⟩, hm⟩ := least (ready_exists ho hs)
 rw [next_some hx hr (fun m hm' => by
  cases h : ready n R s m with
  | false => rfl
  | true => exact absurd ⟨by omega, h⟩ (hm m hm'))]
 simp
theorem ord_of {n : Nat} {l : List (List Int)} (h : isOrd n (orderOf n l) = true) : Ord n (orderOf n l) :=
 ⟨fun a _ => order_refl a, fun _ _ _ ha hb hc h1 h2 => order_trans ha hb hc h1 h2, fun _ _ ha hb h1 h2 => order_anti h ha hb h1 h2⟩
end Go.Proofs.Ytagefgkneandpaa.B

set_option linter.unusedVariables false
set_option linter.unusedSimpArgs false
namespace Go.Proofs.Ytagefgkneandpaa.B
open Go.RowKit Go.Proofs.YtagefgkneandpaaW.PrintWords

structure Ext (n : Nat) (R : Nat → Nat → Bool) (i : Nat) (s : List Int) : Prop where
 len : s.length = i
 nodup : s.Nodup
 mem : ∀ y ∈ s, 0 ≤ y ∧ y < n
 low : ∀ j x, s[j]? = some x → ∀ y, y < n → (y : Int) ≠ x → R y x.toNat = true → (y : Int) ∈ s.take j
section
variable {n : Nat} {R : Nat → Nat → Bool}
theorem ext_next (ho : Ord n R) {i : Nat} {s : List Int} (hi : i < n) (h : Ext n R i s) : Ext n R (i + 1) (next n R s) := by
 obtain ⟨x, ⟨hx, hr⟩, hm⟩ := least (ready_exists ho (show s.length < n by rw [h.len]; exact hi))
 rw [next_some hx hr (fun m hm' => by
  cases h' : ready n R s m with
  | false => rfl
  | true => exact absurd ⟨by omega, h'⟩ (hm m hm'))]
 obtain ⟨hnot, hall⟩ := (Bool.and_eq_true _ _).mp hr
 have hxs : (x : Int) ∉ s := fun hc => by rw [has_iff.2 hc] at hnot; cases hnot
 refine ⟨by simp [h.len], ?_, ?_, ?_⟩
 ·rw [List.nodup_append]
  refine ⟨h.nodup, by simp, fun a ha b hb => ?_⟩
  rw [List.mem_singleton.1 hb]
  rintro rfl
  exact hxs ha
 ·intro y hy
  rcases List.mem_append.1 hy with hy | hy
  ·exact h.mem y hy
  ·rw [List.mem_singleton.1 hy]; omega
 ·intro j z hz y hy hne hR
  rcases Nat.lt_or_ge j s.length with hj | hj
  ·rw [List.getElem?_append_left hj] at hz
   rw [List.take_append_of_le_length (by omega)]
   exact h.low j z hz y hy hne hR
  ·rw [List.getElem?_append_right hj] at hz
   have hj0 : j - s.length = 0 := by
    have := (List.getElem?_eq_some_iff.1 hz).1
    simpa using this
   have hjs : j = s.length := by omega
   rw [hj0] at hz
   simp only [List.getElem?_cons_zero, Option.some.injEq] at hz
   subst hz
   rw [hjs, List.take_left']
   ·rw [Int.toNat_natCast] at hR
    have := List.all_eq_true.1 hall y (List.mem_range.2 hy)
    have hne' : (y == x) = false := by simpa using fun e : y = x => hne (by rw [e])
    rw [hne', hR] at this
    exact has_iff.1 (by simpa using this)
   ·rfl
theorem firstExt_ext (ho : Ord n R) : Ext n R n (firstExt n R) := by
 have := iter_inv (fun _ s => next n R s) (fun i s => Ext n R i s) n 0 [] ⟨rfl, List.nodup_nil, by simp, by simp⟩ (fun i s _ hi h => ext_next ho (by omega) h)
 rw [Nat.zero_add] at this
 exact this
theorem range_nodup (n : Nat) : ((List.range n).map (fun x => ((x : Nat) : Int))).Nodup := List.nodup_iff_pairwise_ne.2 (by
 rw [List.pairwise_map]
 exact List.Pairwise.imp (fun h e => h (Int.ofNat.inj e)) (List.nodup_iff_pairwise_ne.1 List.nodup_range))
theorem ext_all {s : List Int} (h : Ext n R n s) {y : Nat} (hy : y < n) : (y : Int) ∈ s := by
 apply Classical.byContradiction
 intro hc
 have hmem : (y : Int) ∈ (List.range n).map (fun x => ((x : Nat) : Int)) := List.mem_map.2 ⟨y, List.mem_range.2 hy, rfl⟩
 have := subset_length s (((List.range n).map (fun x => ((x : Nat) : Int))).erase y) h.nodup (fun z hz => by
  obtain ⟨h0, h1⟩ := h.mem z hz
  obtain ⟨v, rfl⟩ := Int.eq_ofNat_of_zero_le h0
  refine (List.mem_erase_of_ne (fun e => hc (by rw [← e]; exact hz))).2 (List.mem_map.2 ⟨v, List.mem_range.2 (by omega), rfl⟩))
 rw [List.length_erase_of_mem hmem, List.length_map, List.length_range, h.len] at this
 omega
theorem sum_perm {l m : List Int} (h : l.Perm m) : l.sum = m.sum := by
 induction h with
 | nil => rfl
 | cons x _ ih => simp only [List.sum_cons, ih]
 | swap x y l => simp only [List.sum_cons]; omega
 | trans _ _ ih1 ih2 => exact ih1.trans ih2
theorem perm_of_mem {l m : List Int} (hl : l.Nodup) (hm : m.Nodup) (h : ∀ x, x ∈ l ↔ x ∈ m) : l.Perm m := by
 rw [List.perm_iff_count]
 intro a
 rw [List.Nodup.count hl, List.Nodup.count hm]
 by_cases ha : a ∈ l
 ·rw [if_pos ha, if_pos ((h a).1 ha)]
 ·rw [if_neg ha, if_neg (fun hc => ha ((h a).2 hc))]
theorem ext_below {s : List Int} (ho : Ord n R) (h : Ext n R n s) {j x : Nat} (hx : s[j]? = some (x : Int)) (p : Nat → Bool) (hp : ∀ z, z < n → p z = true → R z x = true) :
  ((s.take j).filter (fun z => p z.toNat)).Perm (((List.range n).filter (fun z => !(z == x) && p z)).map (fun z => ((z : Nat) : Int))) := by
 have hj : j < s.length := (List.getElem?_eq_some_iff.1 hx).1
 have hxm : (x : Int) ∈ s := List.mem_of_getElem? hx
 have hxn : x < n := by have := h.mem _ hxm; omega
 refine perm_of_mem ?_ ?_ (fun z => ?_)
 ·exact List.Nodup.sublist List.filter_sublist (List.Nodup.sublist (List.take_sublist _ _) h.nodup)
 ·refine List.nodup_iff_pairwise_ne.2 ?_
  rw [List.pairwise_map]
  exact List.Pairwise.imp (fun h e => h (Int.ofNat.inj e)) (List.nodup_iff_pairwise_ne.1 (List.Nodup.sublist List.filter_sublist List.nodup_range))
 ·simp only [List.mem_filter, List.mem_map, List.mem_range, Bool.and_eq_true, Bool.not_eq_true', beq_eq_false_iff_ne]
  constructor
  ·rintro ⟨hz, hpz⟩
   have hzm := List.mem_of_mem_take hz
   obtain ⟨h0, h1⟩ := h.mem z hzm
   obtain ⟨v, rfl⟩ := Int.eq_ofNat_of_zero_le h0
   rw [Int.toNat_natCast] at hpz
   refine ⟨v, ⟨by omega, ?_, hpz⟩, rfl⟩
   rintro rfl
   -- x itself isn't ahead of its place
   obtain ⟨i, hi, he⟩ := List.mem_iff_getElem.1 hz
   rw [List.length_take] at hi
   rw [List.getElem_take] at he
   have h3 := (List.getElem?_eq_some_iff.1 hx).2
   exact List.pairwise_iff_getElem.1 (List.nodup_iff_pairwise_ne.1 h.nodup) i j (by omega) hj (by omega) (by rw [he, h3])
  ·rintro ⟨v, ⟨hv, hne, hpv⟩, rfl⟩
   refine ⟨h.low j x hx v hv (fun e => hne (Int.ofNat.inj e)) (by rw [Int.toNat_natCast]; exact hp v hv hpv), by rw [Int.toNat_natCast]; exact hpv⟩
end
end Go.Proofs.Ytagefgkneandpaa.B

set_option linter.unusedVariables false
set_option linter.unusedSimpArgs false
namespace Go.Proofs.Ytagefgkneandpaa.B
open Go.RowKit Go.Proofs.YtagefgkneandpaaW.PrintWords

def Cong (x y : Int) : Prop := ∃ q : Int, x = y + 18446744073709551616 * q
theorem Cong.refl (x : Int) : Cong x x := ⟨0, by omega⟩
theorem Cong.symm {x y : Int} (h : Cong x y) : Cong y x := by obtain ⟨q, h⟩ := h; exact ⟨-q, by omega⟩
theorem Cong.trans {x y z : Int} (h : Cong x y) (k : Cong y z) : Cong x z := by
 obtain ⟨q, h⟩ := h
 obtain ⟨q', k⟩ := k
 exact ⟨q + q', by omega⟩
theorem Cong.add {x y z t : Int} (h : Cong x y) (k : Cong z t) : Cong (x + z) (y + t) := by
 obtain ⟨q, h⟩ := h
 obtain ⟨q', k⟩ := k
 exact ⟨q + q', by omega⟩
theorem Cong.neg {x y : Int} (h : Cong x y) : Cong (-x) (-y) := by
 obtain ⟨q, h⟩ := h
 exact ⟨-q, by omega⟩
theorem wrap_cong (x : Int) : Cong (wrap64 x) x := ⟨-((x + 9223372036854775808) / 18446744073709551616), by unfold wrap64; omega⟩
theorem wrap_eq {x y : Int} (h : Cong x y) : wrap64 x = wrap64 y := by
 obtain ⟨q, h⟩ := h
 unfold wrap64; omega
theorem wrap_range (x : Int) : -9223372036854775808 ≤ wrap64 x ∧ wrap64 x ≤ 9223372036854775807 := by
 unfold wrap64; omega
theorem wrap_wrap (x : Int) : wrap64 (wrap64 x) = wrap64 x := wrap_eq (wrap_cong x)
theorem iter_sum (p : Nat → Bool) (m : Nat → Int) : ∀ (d i : Nat) (s : Int), Cong (iter (fun z s => if p z = true then wrap64 (s + m z) else s) i d s) (s + (((List.range' i d).filter p).map m).sum)
 | 0, i, s => by simp [iter]; exact Cong.refl _
 | d + 1, i, s => by
  have ih := iter_sum p m d (i + 1) (if p i = true then wrap64 (s + m i) else s)
  simp only [iter]
  refine ih.trans ?_
  rw [List.range'_succ]
  by_cases h : p i = true
  ·rw [if_pos h, List.filter_cons_of_pos h, List.map_cons, List.sum_cons, ← Int.add_assoc]
   exact (wrap_cong _).add (Cong.refl _)
  ·rw [if_neg h, List.filter_cons_of_neg h]
   exact Cong.refl _
theorem iter_sub (p : Int → Bool) (m : Int → Int) (s : List Int) : ∀ (d i : Nat) (v : Int), i + d ≤ s.length → Cong (iter (fun k v => if p (s.getD k 0) = true then wrap64 (v - m (s.getD k 0)) else v) i d v) (v - ((((s.drop i).take d).filter p).map m).sum)
 | 0, i, v, _ => by simp [iter]; exact Cong.refl _
 | d + 1, i, v, h => by
  have ih := iter_sub p m s d (i + 1) (if p (s.getD i 0) = true then wrap64 (v - m (s.getD i 0)) else v) (by omega)
  simp only [iter]
  refine ih.trans ?_
  have e : s.getD i 0 = s[i]'(by omega) := by rw [List.getD_eq_getElem?_getD, List.getElem?_eq_getElem (by omega)]; rfl
  rw [List.drop_eq_getElem_cons (show i < s.length by omega), List.take_succ_cons, ← e]
  by_cases h : p (s.getD i 0) = true
  ·rw [if_pos h, List.filter_cons_of_pos h, List.map_cons, List.sum_cons]
   have : v - (m (s.getD i 0) + (((List.take d (List.drop (i + 1) s)).filter p).map m).sum) = (v - m (s.getD i 0)) + -(((List.take d (List.drop (i + 1) s)).filter p).map m).sum := by omega
   rw [this, Int.sub_eq_add_neg]
   exact (wrap_cong _).add (Cong.refl _)
  ·rw [if_neg h, List.filter_cons_of_neg h]
   exact Cong.refl _

def vec (n : Nat) (f : Nat → Int) : List Int := (List.range n).map f
theorem vec_length (n : Nat) (f : Nat → Int) : (vec n f).length = n := by simp [vec]
theorem vec_get {n : Nat} {f : Nat → Int} {j : Nat} (h : j < n) : rd (vec n f) (j : Int) = f j := by
 rw [rd_nat, vec, List.getD_eq_getElem?_getD, List.getElem?_map, List.getElem?_range h]; rfl
def upd1 (f : Nat → Int) (c : Nat) (v : Int) : Nat → Int := fun c' => if c' = c then v else f c'
theorem vec_set {n : Nat} {f : Nat → Int} {c : Nat} (v : Int) : (vec n f).set c v = vec n (upd1 f c v) := by
 apply List.ext_getElem (by simp [vec])
 intro i h1 h2
 simp only [vec, List.getElem_set, List.getElem_map, List.getElem_range, upd1]
 by_cases h : i = c
 ·simp [h]
 ·simp [h, Ne.symm h]
theorem vec_zero (n : Nat) : List.replicate n (0 : Int) = vec n (fun _ => 0) := by simp [vec, List.map_const']
theorem upd1_same (f : Nat → Int) (c : Nat) (u v : Int) : upd1 (upd1 f c u) c v = upd1 f c v := by
 funext c'; simp only [upd1]; split <;> rfl
end Go.Proofs.Ytagefgkneandpaa.B

set_option linter.unusedVariables false
set_option linter.unusedSimpArgs false
namespace Go.Proofs.Ytagefgkneandpaa.B
open Go.RowKit Go.Proofs.YtagefgkneandpaaW.PrintWords

theorem wrap64_i64 (n : Int) (h0 : 0 ≤ n) (h1 : n < 9223372036854775808) : IntKind.i64.wrap n = n := by
 rw [IntKind.wrap_i64]; omega
theorem pow12 {x : Nat} (h : x ≤ 12) : 2 ^ x ≤ 4096 := Nat.pow_le_pow_right (n := 2) (by decide) h
theorem shl_one {x : Nat} (h : x ≤ 12) : shl .i64 1 (x : Int) = ((2 ^ x : Nat) : Int) := by
 have hp := pow12 h
 have h2 : (2 : Int) ^ x = ((2 ^ x : Nat) : Int) := by simp
 unfold shl
 rw [Int.toNat_natCast, show min x IntKind.i64.bits = x from Nat.min_eq_left (by show x ≤ 64; omega), Int.one_mul, h2]
 exact wrap64_i64 _ (Int.natCast_nonneg _) (by omega)
theorem shr_nat {a x : Nat} (h : x ≤ 64) : shr .i64 (a : Int) (x : Int) = ((a / 2 ^ x : Nat) : Int) := by
 have h2 : (2 : Int) ^ x = ((2 ^ x : Nat) : Int) := by simp
 unfold shr
 rw [Int.toNat_natCast, show min x IntKind.i64.bits = x from Nat.min_eq_left (by show x ≤ 64; omega), h2]
 exact (Int.natCast_ediv a (2 ^ x)).symm
theorem i62 (n : Int) (h0 : 0 ≤ n) (h1 : n < 2 ^ 62) : IntKind.i64.wrap n = n := by
 have h2 : (2 : Int) ^ 62 = 4611686018427387904 := by decide
 rw [h2] at h1
 exact wrap64_i64 n h0 (by omega)
theorem and_nat {a b : Nat} (ha : a < 2 ^ 62) (hb : b < 2 ^ 62) : Go.bits .and .i64 (a : Int) (b : Int) = ((a &&& b : Nat) : Int) := (bits_nat .i64 62 (by decide) i62 a b ha hb).1
theorem or_nat {a b : Nat} (ha : a < 2 ^ 62) (hb : b < 2 ^ 62) : Go.bits .or .i64 (a : Int) (b : Int) = ((a ||| b : Nat) : Int) := (bits_nat .i64 62 (by decide) i62 a b ha hb).2
theorem and_two_pow' (a x : Nat) : a &&& 2 ^ x = if a.testBit x = true then 2 ^ x else 0 := by
 apply Nat.eq_of_testBit_eq
 intro i
 rw [Nat.testBit_and, Nat.testBit_two_pow]
 split
 ·rename_i h
  rw [Nat.testBit_two_pow]
  by_cases e : x = i
  ·subst e; simp [h]
  ·simp [e]
 ·rename_i h
  by_cases e : x = i
  ·subst e; simp [h]
  ·simp [e]
theorem testBit_shr (a x : Nat) : (a / 2 ^ x % 2 = 1) ↔ a.testBit x = true := by
 rw [Nat.testBit_eq_decide_div_mod_eq, decide_eq_true_eq]
theorem and_one_eq {a : Nat} (ha : a < 2 ^ 62) : (Go.bits .and .i64 (a : Int) 1 = 1) ↔ a % 2 = 1 := by
 have := and_nat (b := 1) ha (by decide)
 rw [show ((1 : Nat) : Int) = 1 from rfl] at this
 rw [this, Nat.and_one_is_mod]
 omega
theorem and_bit_zero {a x : Nat} (ha : a < 2 ^ 62) (hx : x ≤ 12) : (Go.bits .and .i64 (a : Int) ((2 ^ x : Nat) : Int) = 0) ↔ a.testBit x = false := by
 have hp := pow12 hx
 have h1 : 0 < 2 ^ x := Nat.two_pow_pos x
 rw [and_nat ha (Nat.lt_of_le_of_lt hp (by decide)), and_two_pow']
 cases h : a.testBit x with
 | true =>
  rw [if_pos rfl]
  refine ⟨fun e => ?_, fun e => by cases e⟩
  have e2 : (2 ^ x : Nat) = 0 := Int.ofNat.inj e
  omega
 | false => simp
def members (set m : Nat) : List Int := iter (fun x s => if set.testBit x = true then s ++ [(x : Int)] else s) 0 m []
theorem members_le (set m : Nat) : (members set m).length ≤ m := by
 have := iter_inv (fun x s => if set.testBit x = true then s ++ [(x : Int)] else s) (fun i (t : List Int) => t.length ≤ i) m 0 [] (by simp) (fun j t _ _ h => by
  split
  ·simp only [List.length_append, List.length_singleton]; omega
  ·omega)
 simpa [members] using this
theorem members_mem (set m : Nat) : ∀ y ∈ members set m, 0 ≤ y ∧ y < m := by
 have := iter_inv (fun x s => if set.testBit x = true then s ++ [(x : Int)] else s) (fun i (t : List Int) => ∀ y ∈ t, 0 ≤ y ∧ y < i) m 0 [] (by simp) (fun j t _ _ h => by
  split
  ·intro y hy
   rcases List.mem_append.1 hy with hy | hy
   ·have := h y hy; omega
   ·rw [List.mem_singleton.1 hy]; omega
  ·intro y hy; have := h y hy; omega)
 simpa [members] using this
theorem members_more (set m d : Nat) (h : set < 2 ^ m) : members set (m + d) = members set m := by
 unfold members
 rw [iter_add, Nat.zero_add]
 generalize iter (fun x s => if set.testBit x = true then s ++ [(x : Int)] else s) 0 m [] = s
 have := iter_inv (fun x s => if set.testBit x = true then s ++ [(x : Int)] else s) (fun i (t : List Int) => t = s) d m s rfl (fun j t hj _ ht => by
  have : set.testBit j = false := Nat.testBit_lt_two_pow (Nat.lt_of_lt_of_le h (Nat.pow_le_pow_right (by decide) hj))
  rw [this]; simpa using ht)
 exact this
end Go.Proofs.Ytagefgkneandpaa.B

set_option linter.unusedVariables false
set_option linter.unusedSimpArgs false
namespace Go.Proofs.Ytagefgkneandpaa.B
open Go.RowKit Go.Proofs.YtagefgkneandpaaW.PrintWords

def sumTo (f : Nat → Int) : Nat → Int
 | 0 => 0
 | k + 1 => sumTo f k + f k
theorem sumTo_congr {f g : Nat → Int} : ∀ {n : Nat}, (∀ x, x < n → f x = g x) → sumTo f n = sumTo g n
 | 0, _ => rfl
 | n + 1, h => by simp only [sumTo]; rw [sumTo_congr (fun x hx => h x (by omega)), h n (by omega)]
theorem sumTo_nonneg {f : Nat → Int} : ∀ {n : Nat}, (∀ x, x < n → 0 ≤ f x) → 0 ≤ sumTo f n
 | 0, _ => Int.le_refl _
 | n + 1, h => by have := sumTo_nonneg (n := n) (fun x hx => h x (by omega)); have := h n (by omega); simp only [sumTo]; omega
theorem sumTo_le {f : Nat → Int} {b : Int} : ∀ {n : Nat}, (∀ x, x < n → f x ≤ b) → sumTo f n ≤ n * b
 | 0, _ => by simp [sumTo]
 | n + 1, h => by
  have := sumTo_le (n := n) (fun x hx => h x (by omega))
  have := h n (by omega)
  simp only [sumTo]
  rw [Int.natCast_add, Int.add_mul]
  omega
theorem sumTo_mono {f : Nat → Int} {m : Nat} : ∀ {n : Nat}, m ≤ n → (∀ x, x < n → 0 ≤ f x) → sumTo f m ≤ sumTo f n
 | 0, h, _ => by
  have : m = 0 := by omega
  subst this; exact Int.le_refl _
 | n + 1, h, hf => by
  rcases Nat.eq_or_lt_of_le h with h | h
  ·subst h; exact Int.le_refl _
  ·have := sumTo_mono (n := n) (m := m) (by omega) (fun x hx => hf x (by omega))
   have := hf n (by omega)
   simp only [sumTo]; omega
theorem sumTo_zero {f : Nat → Int} : ∀ {n : Nat}, (∀ x, x < n → f x = 0) → sumTo f n = 0
 | 0, _ => rfl
 | n + 1, h => by simp only [sumTo]; rw [sumTo_zero (fun x hx => h x (by omega)), h n (by omega)]; rfl
theorem sumTo_le_each {f g : Nat → Int} : ∀ {n : Nat}, (∀ x, x < n → f x ≤ g x) → sumTo f n ≤ sumTo g n
 | 0, _ => Int.le_refl _
 | n + 1, h => by have := sumTo_le_each (n := n) (fun x hx => h x (by omega)); have := h n (by omega); simp only [sumTo]; omega
theorem sumTo_ne {f : Nat → Int} : ∀ {n : Nat}, sumTo f n ≠ 0 → ∃ x, x < n ∧ f x ≠ 0
 | 0, h => absurd rfl h
 | n + 1, h => by
  by_cases h0 : f n = 0
  ·simp only [sumTo, h0, Int.add_zero] at h
   obtain ⟨x, hx, hf⟩ := sumTo_ne h
   exact ⟨x, by omega, hf⟩
  ·exact ⟨n, by omega, h0⟩

def del (t x : Nat) : Nat := t ^^^ 2 ^ x
theorem del_bit {t x : Nat} (h : t.testBit x = true) (y : Nat) : (del t x).testBit y = (t.testBit y && !(y == x)) := by
 unfold del
 rw [Nat.testBit_xor, Nat.testBit_two_pow]
 by_cases e : x = y
 ·subst e; simp [h]
 ·have e' : (y == x) = false := by simpa using fun h => e h.symm
  simp [e, e']
theorem add_bit (s x y : Nat) : (s ||| 2 ^ x).testBit y = (s.testBit y || (y == x)) := by
 rw [Nat.testBit_or, Nat.testBit_two_pow]
 congr 1
 rw [Bool.eq_iff_iff]; simp; exact eq_comm
theorem del_add {s x : Nat} (h : s.testBit x = false) : del (s ||| 2 ^ x) x = s := by
 apply Nat.eq_of_testBit_eq
 intro y
 have hb : (s ||| 2 ^ x).testBit x = true := by rw [add_bit]; simp
 rw [del_bit hb, add_bit]
 by_cases e : y = x
 ·subst e; simp [h]
 ·have e' : (y == x) = false := by simpa using e
  simp [e']
theorem add_del {t x : Nat} (h : t.testBit x = true) : del t x ||| 2 ^ x = t := by
 apply Nat.eq_of_testBit_eq
 intro y
 rw [add_bit, del_bit h]
 by_cases e : y = x
 ·subst e; simp [h]
 ·have e' : (y == x) = false := by simpa using e
  simp [e']
theorem del_lt {t x : Nat} (h : t.testBit x = true) : del t x < t := by
 have h1 : del t x ≤ t := Nat.le_of_testBit (fun y hy => by
  rw [del_bit h] at hy
  exact ((Bool.and_eq_true _ _).mp hy).1)
 have h2 : del t x ≠ t := fun e => by
  have := del_bit h x
  rw [e, h] at this
  simp at this
 omega
def pc (t : Nat) : Nat := (List.range 12).countP (fun x => t.testBit x)
theorem countP_less (p q : Nat → Bool) (x : Nat) (hp : p x = true) (hq : ∀ y, q y = (p y && !(y == x))) : ∀ (l : List Nat), l.Nodup → x ∈ l → l.countP p = l.countP q + 1
 | [], _, h => by cases h
 | a :: l, hd, h => by
  obtain ⟨hna, hd'⟩ := List.nodup_cons.1 hd
  simp only [List.countP_cons]
  by_cases e : a = x
  ·subst e
   have : l.countP q = l.countP p := List.countP_congr (fun y hy => by
    have : y ≠ a := by rintro rfl; exact hna hy
    rw [hq y]; simp [this])
   rw [this, hq a, hp]; simp
  ·have hx : x ∈ l := by
    rcases List.mem_cons.1 h with h | h
    ·exact absurd h.symm e
    ·exact h
   rw [countP_less p q x hp hq l hd' hx, hq a]
   have : (a == x) = false := by simpa using e
   rw [this, Bool.not_false, Bool.and_true]; omega
theorem pc_del {t x : Nat} (h : t.testBit x = true) (hx : x < 12) : pc t = pc (del t x) + 1 :=
 countP_less _ _ x h (fun y => del_bit h y) _ List.nodup_range (List.mem_range.2 hx)
theorem pc_le (t : Nat) : pc t ≤ 12 := by
 have := List.countP_le_length (p := fun x => t.testBit x) (l := List.range 12)
 rwa [List.length_range] at this

section
variable {n : Nat} {R : Nat → Nat → Bool}
def lowIn (n : Nat) (R : Nat → Nat → Bool) (t x : Nat) : Bool := (List.range n).all fun y => y == x || (!R y x || t.testBit y)
def last (n : Nat) (R : Nat → Nat → Bool) (t x : Nat) : Bool := t.testBit x && (List.range n).all fun y => y == x || (!(t.testBit y && R x y) && (t.testBit y || !R y x))
def ext (n : Nat) (R : Nat → Nat → Bool) (t : Nat) : Int := if t = 0 then 1 else sumTo (fun x => if h : last n R t x = true then ext n R (del t x) else 0) n
termination_by t
decreasing_by exact del_lt ((Bool.and_eq_true _ _).mp h).1
theorem ext_eq (t : Nat) (h : t ≠ 0) : ext n R t = sumTo (fun x => if last n R t x = true then ext n R (del t x) else 0) n := by
 rw [ext, if_neg h]
 refine sumTo_congr (fun x hx => ?_)
 by_cases h : last n R t x = true
 ·rw [dif_pos h, if_pos h]
 ·rw [dif_neg h, if_neg h]
theorem ext_zero : ext n R 0 = 1 := by rw [ext, if_pos rfl]
theorem last_bit {t x : Nat} (h : last n R t x = true) : t.testBit x = true := ((Bool.and_eq_true _ _).mp h).1
theorem ext_nonneg : ∀ t, 0 ≤ ext n R t := by
 intro t
 induction t using Nat.strongRecOn with
 | _ t ih =>
  by_cases h : t = 0
  ·subst h; rw [ext_zero]; omega
  ·rw [ext_eq t h]
   refine sumTo_nonneg (fun x hx => ?_)
   split
   ·rename_i hl; exact ih _ (del_lt (last_bit hl))
   ·omega
theorem ext_le (hn : n ≤ 12) : ∀ t, ext n R t ≤ 13 ^ pc t := by
 intro t
 induction t using Nat.strongRecOn with
 | _ t ih =>
  by_cases h : t = 0
  ·subst h
   rw [ext_zero]
   have : pc 0 = 0 := by unfold pc; simp
   rw [this]; decide
  ·rw [ext_eq t h]
   by_cases hb : ∃ x, x < n ∧ t.testBit x = true
   ·obtain ⟨x, hx, hxb⟩ := hb
    have hp := pc_del hxb (show x < 12 by omega)
    have := sumTo_le (f := fun x => if last n R t x = true then ext n R (del t x) else 0) (b := 13 ^ (pc t - 1)) (n := n) (fun y hy => by
     split
     ·rename_i hl
      have h1 := ih _ (del_lt (last_bit hl))
      have h2 := pc_del (last_bit hl) (show y < 12 by omega)
      rwa [show pc t - 1 = pc (del t y) by omega]
     ·exact Int.le_of_lt (Int.pow_pos (by decide)))
    refine Int.le_trans this ?_
    rw [show pc t = pc t - 1 + 1 by omega, Int.pow_succ, show pc t - 1 + 1 - 1 = pc t - 1 by omega, Int.mul_comm]
    exact Int.mul_le_mul_of_nonneg_left (by omega) (Int.le_of_lt (Int.pow_pos (by decide)))
   ·rw [sumTo_zero (fun x hx => by
     rw [if_neg]
     intro hl
     exact hb ⟨x, hx, last_bit hl⟩)]
    exact Int.le_of_lt (Int.pow_pos (by decide))
theorem ext_small (hn : n ≤ 12) (t : Nat) : ext n R t ≤ 23298085122481 := by
 have h1 := ext_le (R := R) hn t
 have h2 : (13 : Int) ^ pc t ≤ 13 ^ 12 := by
  have := Nat.pow_le_pow_right (n := 13) (by decide) (pc_le t)
  exact_mod_cast this
 have h3 : (13 : Int) ^ 12 = 23298085122481 := by decide
 omega
theorem ext_down (ho : Ord n R) : ∀ t, ext n R t ≠ 0 → ∀ x, x < n → t.testBit x = true → ∀ y, y < n → R y x = true → t.testBit y = true := by
 intro t
 induction t using Nat.strongRecOn with
 | _ t ih =>
  intro he x hx hxb y hy hR
  have ht0 : t ≠ 0 := by rintro rfl; simp at hxb
  rw [ext_eq t ht0] at he
  obtain ⟨z, hz, hze⟩ := sumTo_ne he
  by_cases hl : last n R t z = true
  ·rw [if_pos hl] at hze
   obtain ⟨hzb, hall⟩ := (Bool.and_eq_true _ _).mp hl
   by_cases hxz : x = z
   ·subst hxz
    by_cases hyx : y = x
    ·subst hyx; exact hxb
    ·have := List.all_eq_true.1 hall y (List.mem_range.2 hy)
     have e : (y == x) = false := by simpa using hyx
     rw [e, Bool.false_or] at this
     obtain ⟨_, h2⟩ := (Bool.and_eq_true _ _).mp this
     rw [hR] at h2
     simpa using h2
   ·have hxd : (del t z).testBit x = true := by
     rw [del_bit hzb, hxb]; simpa using hxz
    have := ih _ (del_lt hzb) hze x hx hxd y hy hR
    rw [del_bit hzb] at this
    exact ((Bool.and_eq_true _ _).mp this).1
  ·rw [if_neg hl] at hze
   exact absurd rfl hze
theorem ext_sum (ho : Ord n R) (t : Nat) (h : t ≠ 0) : ext n R t = sumTo (fun x => if (t.testBit x && lowIn n R (del t x) x) = true then ext n R (del t x) else 0) n := by
 rw [ext_eq t h]
 refine sumTo_congr (fun x hx => ?_)
 by_cases hl : last n R t x = true
 ·have hb := last_bit hl
  obtain ⟨_, hall⟩ := (Bool.and_eq_true _ _).mp hl
  rw [if_pos hl, if_pos]
  rw [hb, Bool.true_and]
  refine List.all_eq_true.2 (fun y hy => ?_)
  have := List.all_eq_true.1 hall y hy
  rw [del_bit hb]
  by_cases e : y = x
  ·simp [e]
  ·have e' : (y == x) = false := by simpa using e
   rw [e', Bool.false_or] at this ⊢
   obtain ⟨_, h2⟩ := (Bool.and_eq_true _ _).mp this
   cases h3 : R y x with
   | false => rfl
   | true => rw [h3] at h2; simpa using h2
 ·rw [if_neg hl]
  by_cases hr : (t.testBit x && lowIn n R (del t x) x) = true
  ·rw [if_pos hr]
   obtain ⟨hb, hlow⟩ := (Bool.and_eq_true _ _).mp hr
   apply Classical.byContradiction
   intro hne
   apply hl
   unfold last
   rw [hb, Bool.true_and]
   refine List.all_eq_true.2 (fun y hy => ?_)
   have hyn := List.mem_range.1 hy
   by_cases e : y = x
   ·simp [e]
   ·have e' : (y == x) = false := by simpa using e
    have hlo := List.all_eq_true.1 hlow y hy
    rw [e', Bool.false_or] at hlo ⊢
    rw [del_bit hb, e'] at hlo
    have hmax : (t.testBit y && R x y) = false := by
     cases hyt : t.testBit y with
     | false => rfl
     | true =>
      cases hxy : R x y with
      | false => rfl
      | true =>
       exfalso
       have := ext_down ho _ (fun h => hne h.symm) y hyn (by rw [del_bit hb, hyt, e']; rfl) x hx hxy
       rw [del_bit hb] at this
       simp at this
    rw [hmax]
    cases h3 : R y x with
    | false => simp
    | true => rw [h3] at hlo; simpa using hlo
  ·rw [if_neg hr]
end
end Go.Proofs.Ytagefgkneandpaa.B

set_option linter.unusedVariables false
set_option linter.unusedSimpArgs false
namespace Go.Proofs.Ytagefgkneandpaa.B
open Go.RowKit Go.Proofs.YtagefgkneandpaaW.PrintWords

theorem andNot_bit {a x : Nat} (ha : a < 2 ^ 62) (hx : x ≤ 12) (hb : a.testBit x = true) : Go.bits .andNot .i64 (a : Int) ((2 ^ x : Nat) : Int) = ((del a x : Nat) : Int) := by
 have hlt := del_lt hb
 have hv : (BitVec.ofInt 64 (a : Int) &&& ~~~ BitVec.ofInt 64 ((2 ^ x : Nat) : Int)).toNat = del a x := by
  apply Nat.eq_of_testBit_eq
  intro i
  rw [BitVec.testBit_toNat, del_bit hb, BitVec.ofInt_natCast, BitVec.ofInt_natCast]
  simp only [BitVec.getLsbD_and, BitVec.getLsbD_not, BitVec.getLsbD_ofNat, Nat.testBit_two_pow]
  by_cases hi : i < 64
  ·simp only [hi, decide_true, Bool.true_and]
   congr 2
   rw [Bool.eq_iff_iff]; simp; exact eq_comm
  ·have h0 : a.testBit i = false := Nat.testBit_lt_two_pow (Nat.lt_of_lt_of_le ha (Nat.pow_le_pow_right (by decide) (by omega)))
   simp [hi, h0]
 show IntKind.i64.wrap ((BitVec.ofInt 64 (a : Int) &&& ~~~ BitVec.ofInt 64 ((2 ^ x : Nat) : Int)).toNat : Int) = _
 rw [hv]
 have : del a x < 2 ^ 62 := by omega
 exact i62 _ (Int.natCast_nonneg _) (by exact_mod_cast this)
theorem bit_val {a x : Nat} (ha : a < 2 ^ 62) (hx : x ≤ 64) : ((Go.bits .and .i64 (shr .i64 (a : Int) (x : Int)) 1) = 1) ↔ a.testBit x = true := by
 rw [shr_nat hx, and_one_eq (Nat.lt_of_le_of_lt (Nat.div_le_self _ _) ha), testBit_shr]
theorem bit_beq {a x : Nat} (ha : a < 2 ^ 62) (hx : x ≤ 64) : ((Go.bits .and .i64 (shr .i64 (a : Int) (x : Int)) 1) == 1) = a.testBit x := by
 rw [Bool.eq_iff_iff, beq_iff_eq]; exact bit_val ha hx
section
variable {n : Nat} {R : Nat → Nat → Bool} {l : List (List Int)}
def part (n : Nat) (R : Nat → Nat → Bool) (s x : Nat) : Int := (if s = 0 then 1 else 0) + sumTo (fun x => if last n R s x = true then ext n R (del s x) else 0) x
theorem part_full (s : Nat) : part n R s n = ext n R s := by
 unfold part
 by_cases h : s = 0
 ·subst h
  rw [if_pos rfl, ext_zero, sumTo_zero (fun x hx => by
   rw [if_neg]
   intro hl
   have := last_bit hl
   simp at this)]
  rfl
 ·rw [if_neg h, Int.zero_add, ext_eq s h]
theorem part_bound (hn : n ≤ 12) (s : Nat) {x : Nat} (hx : x ≤ n) : 0 ≤ part n R s x ∧ part n R s x ≤ 23298085122481 := by
 have hnn : ∀ y, y < n → 0 ≤ (if last n R s y = true then ext n R (del s y) else 0) := fun y _ => by
  split
  ·exact ext_nonneg _
  ·omega
 have h1 := sumTo_mono (f := fun x => if last n R s x = true then ext n R (del s x) else 0) hx hnn
 have h2 := ext_small (R := R) hn s
 rw [← part_full (n := n) (R := R) s] at h2
 have h3 := sumTo_nonneg (f := fun x => if last n R s x = true then ext n R (del s x) else 0) (n := x) (fun y hy => hnn y (by omega))
 unfold part at h2 ⊢
 constructor
 ·split <;> omega
 ·omega
def cvals (n : Nat) (R : Nat → Nat → Bool) (s t : Nat) : Int := if t < s then ext n R t else if t = 0 then 1 else 0
theorem extensions_ev (hn : n ≤ 12) (hp : Pairs n l) (hl : l.length < 9223372036854775807) : Ev (fun k => z47.f k (n : Int) l) (vec (2 ^ n) (ext n (orderOf n l))) := by
 unfold z47.f
 have hpw := pow12 hn
 have hpos := Nat.two_pow_pos n
 refine Ev.bind (order_ev hn hp hl) ?_
 generalize orderOf n l = R
 rw [shl_one hn]
 simp only [Int.toNat_natCast, Option.bind_some, List.length_replicate]
 refine ev_pos (by omega) (ev_pos (by omega) (ev_pos (by omega) (ev_pos (by omega) ?_)))
 have hstart : (List.replicate (2 ^ n) (0 : Int)).set (0 : Int).toNat 1 = vec (2 ^ n) (cvals n R 0) := by
  rw [vec_zero, show (0 : Int).toNat = 0 from rfl, vec_set]
  congr 1
 rw [hstart]
 have h := le_iter_inv (fun (C : Nat → Int) (s : Nat) k => z47.l0 k (tab n R) (vec (2 ^ n) C) ((2 ^ n : Nat) : Int) (s : Int) (n : Int) l) (fun s _ => cvals n R (s + 1)) (fun s C => C = cvals n R s) (2 ^ n) 0 (cvals n R 0) rfl (fun s C _ hs hC => ⟨fun r hr => by
  subst hC
  have hs : s < 2 ^ n := by omega
  have hs62 : s < 2 ^ 62 := Nat.lt_of_lt_of_le hs (Nat.le_trans hpw (by decide))
  refine Ev.step (fun k => z47.l0.eq_2 ..) ?_
  refine ev_pos (by omega) ?_
  have h0 : cvals n R s = upd1 (cvals n R s) s (part n R s 0) := by
   funext t
   simp only [upd1]
   split
   ·rename_i e; subst e; simp [cvals, part, sumTo]
   ·rfl
  have h1 : upd1 (cvals n R s) s (part n R s n) = cvals n R (s + 1) := by
   rw [part_full]
   funext t
   simp only [upd1, cvals]
   split
   ·rename_i e; subst e; rw [if_pos (by omega)]
   ·rename_i e
    by_cases hts : t < s
    ·rw [if_pos hts, if_pos (by omega)]
    ·rw [if_neg hts, if_neg (show ¬ t < s + 1 by omega)]
  rw [h0]
  have g := le_iter_inv (fun (V : Nat → Int) (x : Nat) k => z47.l1 k (tab n R) (vec (2 ^ n) V) (s : Int) ((2 ^ n : Nat) : Int) (s : Int) (n : Int) (x : Int) (n : Int) l) (fun x _ => upd1 (cvals n R s) s (part n R s (x + 1))) (fun x V => V = upd1 (cvals n R s) s (part n R s x)) n 0 _ rfl (fun x V _ hx hV => ⟨fun r hr => by
   subst hV
   have hx : x < n := by omega
   refine Ev.step (fun k => z47.l1.eq_2 ..) ?_
   refine ev_pos (by omega) (ev_pos (by omega) ?_)
   rw [bit_beq hs62 (by omega)]
   have e := le_iter (fun (b : Bool) (y : Nat) k => z47.l2 k (tab n R) (vec (2 ^ n) (upd1 (cvals n R s) s (part n R s x))) (s : Int) (x : Int) b ((2 ^ n : Nat) : Int) (s : Int) (n : Int) (x : Int) (n : Int) (y : Int) (n : Int) l) (fun y b => b && (y == x || (!(s.testBit y && R x y) && (s.testBit y || !R y x)))) n 0 (s.testBit x) (fun y b _ hy r hr => by
    have hy : y < n := by omega
    have hbv := bit_val (a := s) (x := y) hs62 (by omega)
    refine Ev.step (fun k => z47.l2.eq_2 ..) ?_
    simp only [tab_length, tab_get hx, tab_get hy, row_length, row_get hy, row_get hx, wrap_succ (show y < 9223372036854775807 by omega)]
    refine ev_pos (by omega) (ev_pos (by omega) ?_)
    cases b with
    | false => exact ev_neg (by decide) (by simpa using hr)
    | true =>
     refine ev_pos rfl ?_
     by_cases e : y = x
     ·have e' : (y == x) = true := by simpa using e
      rw [e'] at hr
      exact ev_pos (by omega) (by simpa using hr)
     ·have e' : (y == x) = false := by simpa using e
      rw [e'] at hr
      refine ev_neg (by omega) ?_
      cases hbit : s.testBit y with
      | true =>
       rw [hbit] at hr
       refine ev_pos (hbv.2 hbit) (ev_pos (by omega) (ev_pos (by omega) (ev_pos (by omega) ?_)))
       cases hxy : R x y with
       | true => rw [hxy] at hr; exact ev_pos rfl (by simpa using hr)
       | false => rw [hxy] at hr; exact ev_neg (by decide) (by simpa using hr)
      | false =>
       rw [hbit] at hr
       exact ev_neg (fun h => by rw [hbv.1 h] at hbit; cases hbit) (ev_pos (by omega) (ev_pos (by omega) (ev_pos (by omega) (by simpa using hr)))))
   refine e _ ?_
   have el : iter (fun y b => b && (y == x || (!(s.testBit y && R x y) && (s.testBit y || !R y x)))) 0 n (s.testBit x) = last n R s x := by
    rw [iter_and, last, List.range_eq_range']
   rw [el, Nat.zero_add]
   refine Ev.step (fun k => z47.l2.eq_2 ..) ?_
   refine ev_neg (by omega) ?_
   rw [wrap_succ (show x < 9223372036854775807 by omega)]
   have hstep : part n R s (x + 1) = part n R s x + (if last n R s x = true then ext n R (del s x) else 0) := by
    unfold part; simp only [sumTo]; omega
   cases hlast : last n R s x with
   | false =>
    rw [hlast] at hstep
    have : part n R s (x + 1) = part n R s x := by rw [hstep]; simp
    rw [this] at hr
    exact ev_neg (by decide) hr
   | true =>
    rw [hlast, if_pos rfl] at hstep
    have hb := last_bit hlast
    have hd := del_lt hb
    have hbd := part_bound (R := R) hn s (show x + 1 ≤ n by omega)
    rw [shl_one (show x ≤ 12 by omega), andNot_bit hs62 (by omega) hb]
    simp only [vec_length, vec_get hs, vec_get (show del s x < 2 ^ n by omega), vec_set, Int.toNat_natCast, upd1_same]
    have hu : upd1 (cvals n R s) s (part n R s x) s = part n R s x := by simp [upd1]
    have hu2 : upd1 (cvals n R s) s (part n R s x) (del s x) = ext n R (del s x) := by
     simp only [upd1, cvals]
     rw [if_neg (by omega), if_pos hd]
    rw [hu, hu2, ← hstep, wrap_small (by omega) (by omega)]
    exact ev_pos (by simp) (ev_pos (by omega) (ev_pos (by omega) (ev_pos (by omega) (ev_pos (by omega) (ev_pos (by omega) hr))))), rfl⟩)
  refine g.1 _ ?_
  rw [g.2, Nat.zero_add, h1]
  refine Ev.step (fun k => z47.l1.eq_2 ..) ?_
  rw [wrap_succ (show s < 9223372036854775807 by omega)]
  exact ev_neg (by omega) hr, rfl⟩)
 refine h.1 _ ?_
 rw [h.2, Nat.zero_add]
 refine Ev.step (fun k => z47.l0.eq_2 ..) ?_
 refine ev_neg (by omega) (ev_eq (Ev.now _) ?_)
 unfold vec
 refine List.map_congr_left (fun t ht => ?_)
 unfold cvals
 rw [if_pos (List.mem_range.1 ht)]
end
end Go.Proofs.Ytagefgkneandpaa.B

set_option linter.unusedVariables false
set_option linter.unusedSimpArgs false
namespace Go.Proofs.Ytagefgkneandpaa.B
open Go.RowKit Go.Proofs.YtagefgkneandpaaW.PrintWords
section
variable {n : Nat} {R : Nat → Nat → Bool}
def ideals (n : Nat) (R : Nat → Nat → Bool) (s : Nat) : Int := sumTo (fun t => if ext n R t = 0 then 0 else 1) s
theorem ideals_le (s : Nat) : 0 ≤ ideals n R s ∧ ideals n R s ≤ s := by
 have h1 := sumTo_nonneg (f := fun t => if ext n R t = 0 then 0 else 1) (n := s) (fun x _ => by split <;> omega)
 have h2 := sumTo_le (f := fun t => if ext n R t = 0 then 0 else 1) (b := 1) (n := s) (fun x _ => by split <;> omega)
 unfold ideals
 omega
end
section
variable {n : Nat} {R : Nat → Nat → Bool}
def cnt (n : Nat) (R : Nat → Nat → Bool) (x : Nat) : Nat := (List.range n).countP (fun z => R z x)
theorem cnt_lt (ho : Ord n R) {z x : Nat} (hz : z < n) (hx : x < n) (hne : z ≠ x) (h : R z x = true) : cnt n R z < cnt n R x :=
 countP_lt _ _ _ (fun y hy hyz => ho.trans y z x (List.mem_range.1 hy) hz hx hyz h) ⟨x, List.mem_range.2 hx, ho.refl x hx, by
  cases h3 : R x z with
  | false => rfl
  | true => exact absurd (ho.anti z x hz hx h h3) hne⟩
def mid (R : Nat → Nat → Bool) (a x z : Nat) : Bool := !(z == x) && (R a z && R z x)
def muF (n : Nat) (R : Nat → Nat → Bool) (a : Nat) : Nat → Nat → Int
 | 0, _ => 0
 | f + 1, x => if x = a then 1 else wrap64 (-(((List.range n).filter (mid R a x)).map (muF n R a f)).sum)
theorem muF_stable (ho : Ord n R) (a : Nat) : ∀ (f g x : Nat), x < n → cnt n R x < f → cnt n R x < g → muF n R a f x = muF n R a g x
 | 0, _, _, _, h, _ => by omega
 | _ + 1, 0, _, _, _, h => by omega
 | f + 1, g + 1, x, hx, hf, hg => by
  simp only [muF]
  split
  ·rfl
  ·congr 3
   refine List.map_congr_left (fun z hz => ?_)
   obtain ⟨hz, hm⟩ := List.mem_filter.1 hz
   have hz := List.mem_range.1 hz
   obtain ⟨h1, h2⟩ := (Bool.and_eq_true _ _).mp hm
   obtain ⟨h2, h3⟩ := (Bool.and_eq_true _ _).mp h2
   have hc := cnt_lt ho hz hx (by simpa using h1) h3
   exact muF_stable ho a f g z hz (by omega) (by omega)
def mu (n : Nat) (R : Nat → Nat → Bool) (a x : Nat) : Int := muF n R a (cnt n R x + 1) x
theorem mu_eq (ho : Ord n R) {a x : Nat} (hx : x < n) : mu n R a x = if x = a then 1 else wrap64 (-(((List.range n).filter (mid R a x)).map (mu n R a)).sum) := by
 show (if x = a then 1 else wrap64 (-(((List.range n).filter (mid R a x)).map (muF n R a (cnt n R x))).sum)) = _
 split
 ·rfl
 ·congr 3
  refine List.map_congr_left (fun z hz => ?_)
  obtain ⟨hz, hm⟩ := List.mem_filter.1 hz
  have hz := List.mem_range.1 hz
  obtain ⟨h1, h2⟩ := (Bool.and_eq_true _ _).mp hm
  obtain ⟨h2, h3⟩ := (Bool.and_eq_true _ _).mp h2
  have hc := cnt_lt ho hz hx (by simpa using h1) h3
  show muF n R a (cnt n R x) z = muF n R a (cnt n R z + 1) z
  exact muF_stable ho a _ _ z hz (by omega) (by omega)
theorem moebius_ev (hn : n ≤ 12) (ho : Ord n R) {a : Nat} (ha : a < n) : ∀ (c x : Nat), cnt n R x ≤ c → x < n → R a x = true → Ev (fun k => z39.f k (tab n R) (a : Int) (x : Int)) (mu n R a x) := by
 intro c
 induction c with
 | zero =>
  intro x hc hx hax
  exfalso
  have : 0 < cnt n R x := List.countP_pos_iff.2 ⟨x, List.mem_range.2 hx, ho.refl x hx⟩
  omega
 | succ c ih =>
  intro x hc hx hax
  rw [mu_eq ho hx]
  refine Ev.step (fun k => z39.f.eq_2 ..) ?_
  by_cases he : x = a
  ·rw [if_pos he]
   exact ev_pos (by omega) (Ev.now _)
  ·rw [if_neg he]
   refine ev_neg (by omega) ?_
   rw [tab_length]
   have h := le_iter (fun (s : Int) (z : Nat) k => z39.l0 k (tab n R) (a : Int) (x : Int) s (n : Int) (z : Int)) (fun z s => if mid R a x z = true then wrap64 (s + mu n R a z) else s) n 0 0 (fun z s _ hz r hr => by
    have hz : z < n := by omega
    refine Ev.step (fun k => z39.l0.eq_2 ..) ?_
    simp only [tab_length, tab_get ha, tab_get hz, row_length, row_get hz, row_get hx, wrap_succ (show z < 9223372036854775807 by omega)]
    refine ev_pos (by omega) ?_
    by_cases hzx : z = x
    ·have : mid R a x z = false := by simp [mid, hzx]
     rw [this] at hr
     exact ev_pos (by omega) hr
    ·refine ev_neg (by omega) (ev_pos (by omega) (ev_pos (by omega) (ev_pos (by omega) (ev_pos (by omega) ?_))))
     cases h1 : R a z with
     | false =>
      have : mid R a x z = false := by simp [mid, h1]
      rw [this] at hr
      exact ev_neg (by decide) hr
     | true =>
      refine ev_pos rfl (ev_pos (by omega) (ev_pos (by omega) (ev_pos (by omega) ?_)))
      cases h2 : R z x with
      | false =>
       have : mid R a x z = false := by simp [mid, h2]
       rw [this] at hr
       exact ev_neg (by decide) hr
      | true =>
       have : mid R a x z = true := by simp [mid, h1, h2, hzx]
       rw [this] at hr
       exact ev_pos rfl (Ev.bind (ih z (by have := cnt_lt ho hz hx hzx h2; omega) hz h1) hr))
   refine h _ ?_
   rw [Nat.zero_add]
   refine Ev.step (fun k => z39.l0.eq_2 ..) ?_
   refine ev_neg (by omega) (ev_eq (Ev.now _) ?_)
   refine wrap_eq (Cong.neg ?_)
   have := iter_sum (mid R a x) (mu n R a) n 0 0
   rw [← List.range_eq_range', Int.zero_add] at this
   exact this
end
def moebiusOf (a : Int) (l : List (List Int)) (x y : Int) : Int × Int :=
 if okPoset a l = true then
  if (elem x a && elem y a) = true then
   if orderOf a.toNat l x.toNat y.toNat = true then (mu a.toNat (orderOf a.toNat l) x.toNat y.toNat, 0) else (0, 6)
  else (0, 2)
 else (0, 1)
theorem implMoebiusOf_ev {a : Int} {l : List (List Int)} (hl : l.length < 9223372036854775807) (x y : Int) : Ev (fun k => z8.f k a l x y) (moebiusOf a l x y) := by
 unfold z8.f moebiusOf
 refine Ev.bind (implValidPoset_ev hl) ?_
 cases ho : okPoset a l with
 | false => exact ev_neg (by decide) (Ev.now _)
 | true =>
  obtain ⟨n, rfl, hn, _, hp, hO, _⟩ := okPoset_iff.1 ho
  refine ev_pos rfl (Ev.bind (ev_const (isElement_val x _)) ?_)
  rw [if_pos rfl]
  cases hx : elem x (n : Int) with
  | false =>
   refine ev_neg (by decide) ?_
   refine Ev.step (fun k => z8.j0.eq_2 ..) ?_
   exact ev_pos rfl (Ev.now _)
  | true =>
   refine ev_pos rfl (Ev.bind (ev_const (isElement_val y _)) ?_)
   refine Ev.step (fun k => z8.j0.eq_2 ..) ?_
   cases hy : elem y (n : Int) with
   | false => exact ev_pos rfl (Ev.now _)
   | true =>
    obtain ⟨hx0, hx1⟩ := (elem_iff hn).1 hx
    obtain ⟨hy0, hy1⟩ := (elem_iff hn).1 hy
    obtain ⟨u, rfl⟩ := Int.eq_ofNat_of_zero_le hx0
    obtain ⟨v, rfl⟩ := Int.eq_ofNat_of_zero_le hy0
    have hu : u < n := by omega
    have hv : v < n := by omega
    refine ev_neg (by decide) (Ev.bind (order_ev hn (pairs_of n hn l hp) hl) ?_)
    simp only [tab_length, tab_get hu, row_length, row_get hv, Int.toNat_natCast, Bool.and_self, if_true]
    refine ev_pos (by omega) (ev_pos (by omega) (ev_pos (by omega) (ev_pos (by omega) ?_)))
    cases hR : orderOf n l u v with
    | false => exact ev_neg (by decide) (Ev.now _)
    | true => exact ev_pos rfl (Ev.bind (order_ev hn (pairs_of n hn l hp) hl) (Ev.bind (moebius_ev hn (ord_of hO) hu _ v (Nat.le_refl _) hv hR) (Ev.now _)))
def isBelow (a : Int) (l : List (List Int)) (x y : Int) : Bool := okPoset a l && (elem x a && (elem y a && orderOf a.toNat l x.toNat y.toNat))
theorem specIsBelow_ev {a : Int} {l : List (List Int)} (hl : l.length < 9223372036854775807) (x y : Int) : Ev (fun k => z9.f k a l x y) (isBelow a l x y) := by
 unfold z9.f isBelow
 refine Ev.bind (specOk_ev hl) ?_
 cases ho : okPoset a l with
 | false => exact ev_neg (by decide) (Ev.now _)
 | true =>
  obtain ⟨n, rfl, hn, _, hp, _, _⟩ := okPoset_iff.1 ho
  refine ev_pos rfl (Ev.bind (ev_const (specElement_val _ _ x)) ?_)
  cases hx : elem x (n : Int) with
  | false => exact ev_neg (by decide) (Ev.now _)
  | true =>
   refine ev_pos rfl (Ev.bind (ev_const (specElement_val _ _ y)) ?_)
   cases hy : elem y (n : Int) with
   | false => exact ev_neg (by decide) (Ev.now _)
   | true =>
    obtain ⟨hx0, hx1⟩ := (elem_iff hn).1 hx
    obtain ⟨hy0, hy1⟩ := (elem_iff hn).1 hy
    obtain ⟨u, rfl⟩ := Int.eq_ofNat_of_zero_le hx0
    obtain ⟨v, rfl⟩ := Int.eq_ofNat_of_zero_le hy0
    refine ev_pos rfl (Ev.bind (specOrder_ev hn (pairs_of n hn l hp) hl) ?_)
    simp only [tab_length, tab_get (show u < n by omega), row_length, row_get (show v < n by omega)]
    (repeat (first | refine ev_pos (by omega) ?_ | refine ev_neg (by omega) ?_))
    exact ev_eq (Ev.now _) (by simp)
def idealOf (a : Int) (l : List (List Int)) (s : List Int) : List Int × Int :=
 if okPoset a l = true then
  if s.all (fun x => elem x a) = true then (pick (fun x => s.any (fun y => orderOf a.toNat l x y.toNat)) a.toNat, 0) else ([], 2)
 else ([], 1)
section
variable {n : Nat} {l : List (List Int)} {s : List Int} {R : Nat → Nat → Bool}
theorem idealContains_ev (hs : ∀ y ∈ s, 0 ≤ y ∧ y < n) (hl : s.length < 9223372036854775807) {x : Nat} (hx : x < n) : Ev (fun k => z137.f k s (tab n R) (x : Int)) (s.any (fun y => R x y.toNat)) := by
 have hm : ∀ y ∈ s, z46.f y (tab n R) (x : Int) = some (R x y.toNat) := fun y hy => by
  obtain ⟨h0, h1⟩ := hs y hy
  obtain ⟨v, rfl⟩ := Int.eq_ofNat_of_zero_le h0
  unfold z46.f
  simp only [tab_length, tab_get hx, row_length, row_get (show v < n by omega)]
  rw [if_pos (by omega), if_pos (by omega), if_pos (by omega), if_pos (by omega)]
  simp
 obtain ⟨t, ht, hd⟩ := ev_index_list (s) 0 (fun i k => z138.l0 k (s) ((s).length : Int) (i : Int) (tab n R) (x : Int)) (fun y => R x y.toNat) (fun j hj hp r hr => by
   refine Ev.step (fun k => z138.l0.eq_2 ..) ?_
   refine ev_pos (by omega) (ev_pos (by omega) (ev_pos (by omega) ?_))
   rw [rd_nat, wrap_succ (by omega)]
   exact Ev.bind (ev_const (hm _ (getD_mem 0 hj))) (ev_neg (by rw [hp]; decide) hr)) (fun j hj hp => by
   refine Ev.step (fun k => z138.l0.eq_2 ..) ?_
   refine ev_pos (by omega) (ev_pos (by omega) (ev_pos (by omega) ?_))
   rw [rd_nat]
   exact Ev.bind (ev_const (hm _ (getD_mem 0 hj))) (ev_pos hp (Ev.now _))) (by
   refine Ev.step (fun k => z138.l0.eq_2 ..) ?_
   exact ev_neg (by omega) (Ev.now _))
 unfold z137.f z138.f
 refine Ev.bind ht (ev_eq (Ev.now _) hd)
theorem implIdealOf_ev {a : Int} (hl : l.length < 9223372036854775807) (hs : s.length < 9223372036854775807) : Ev (fun k => z11.f k a l s) (idealOf a l s) := by
 unfold z11.f idealOf
 refine Ev.bind (implValidPoset_ev hl) ?_
 cases ho : okPoset a l with
 | false => exact ev_neg (by decide) (Ev.now _)
 | true =>
  obtain ⟨n, rfl, hn, _, hp, _, _⟩ := okPoset_iff.1 ho
  refine ev_pos rfl (Ev.bind (areElements_ev s _ hs) ?_)
  rw [if_pos rfl, Int.toNat_natCast]
  cases he : s.all (fun x => elem x (n : Int)) with
  | false => exact ev_neg (by decide) (Ev.now _)
  | true =>
   have hsn : ∀ y ∈ s, 0 ≤ y ∧ y < n := fun y hy => (elem_iff hn).1 (List.all_eq_true.1 he y hy)
   refine ev_pos rfl (Ev.bind (order_ev hn (pairs_of n hn l hp) hl) ?_)
   rw [if_pos rfl]
   have h := le_iter_inv (fun (t : List Int) (x : Nat) k => z11.l0 k s t (n : Int) (x : Int) (tab n (orderOf n l))) (fun x t => if (s.any (fun y => orderOf n l x y.toNat)) = true then t ++ [(x : Int)] else t) (fun i t => t.length ≤ i) n 0 [] (by simp) (fun x t _ hx ht => ⟨fun r hr => by
     refine Ev.step (fun k => z11.l0.eq_2 ..) ?_
     rw [wrap_succ (by omega)]
     refine ev_pos (by omega) (Ev.bind (idealContains_ev hsn hs (by omega)) ?_)
     cases hc : s.any (fun y => orderOf n l x y.toNat) with
     | true => rw [hc] at hr; exact ev_pos rfl (ev_pos (by omega) hr)
     | false => rw [hc] at hr; exact ev_neg (by decide) hr, by
     split
     ·simp only [List.length_append, List.length_singleton]; omega
     ·omega⟩)
   refine h.1 _ ?_
   rw [Nat.zero_add]
   refine Ev.step (fun k => z11.l0.eq_2 ..) ?_
   exact ev_neg (by omega) (Ev.now _)
theorem idealOf_small (a : Int) (l : List (List Int)) (s : List Int) : (idealOf a l s).1.length ≤ 12 := by
 unfold idealOf
 split
 ·rename_i h
  obtain ⟨n, rfl, hn, _⟩ := okPoset_iff.1 h
  rw [Int.toNat_natCast]
  split
  ·have := pick_le (fun x => s.any (fun y => orderOf n l x y.toNat)) n
   exact Nat.le_trans this hn
  ·simp
 ·simp
end
def minimalOf (a : Int) (l : List (List Int)) : List Int × Int := if okPoset a l = true then (pick (fun x => !l.any (fun c => c.getD 1 0 == (x : Int))) a.toNat, 0) else ([], 1)
section
variable {n : Nat} {l : List (List Int)}
theorem minContains_ev (hp : Pairs n l) (hl : l.length < 9223372036854775807) (x : Nat) : Ev (fun k => z139.f k l (x : Int)) (l.any (fun c => c.getD 1 0 == (x : Int))) := by
 have hm : ∀ c ∈ l, z49.f c (x : Int) = some (c.getD 1 0 == (x : Int)) := fun c hc => by
  unfold z49.f
  have := (hp c hc).1
  rw [if_pos (by omega)]
  rw [show rd c 1 = c.getD 1 0 from rd_nat c 1]
 obtain ⟨t, ht, hd⟩ := ev_index_list (l) [] (fun i k => z140.l0 k (l) ((l).length : Int) (i : Int) (x : Int)) (fun c => c.getD 1 0 == (x : Int)) (fun j hj hp r hr => by
   refine Ev.step (fun k => z140.l0.eq_2 ..) ?_
   refine ev_pos (by omega) (ev_pos (by omega) (ev_pos (by omega) ?_))
   rw [rdl_nat, wrap_succ (by omega)]
   exact Ev.bind (ev_const (hm _ (getD_mem [] hj))) (ev_neg (by rw [hp]; decide) hr)) (fun j hj hp => by
   refine Ev.step (fun k => z140.l0.eq_2 ..) ?_
   refine ev_pos (by omega) (ev_pos (by omega) (ev_pos (by omega) ?_))
   rw [rdl_nat]
   exact Ev.bind (ev_const (hm _ (getD_mem [] hj))) (ev_pos hp (Ev.now _))) (by
   refine Ev.step (fun k => z140.l0.eq_2 ..) ?_
   exact ev_neg (by omega) (Ev.now _))
 unfold z139.f z140.f
 refine Ev.bind ht (ev_eq (Ev.now _) hd)
theorem implMinimalOf_ev {a : Int} (hl : l.length < 9223372036854775807) : Ev (fun k => z13.f k a l) (minimalOf a l) := by
 unfold z13.f minimalOf
 refine Ev.bind (implValidPoset_ev hl) ?_
 cases ho : okPoset a l with
 | false => exact ev_neg (by decide) (Ev.now _)
 | true =>
  obtain ⟨n, rfl, hn, _, hp, _, _⟩ := okPoset_iff.1 ho
  refine ev_pos rfl ?_
  rw [if_pos rfl, Int.toNat_natCast]
  have h := le_iter_inv (fun (s : List Int) (x : Nat) k => z13.l0 k s (n : Int) (x : Int) (n : Int) l) (fun x s => if (!l.any (fun c => c.getD 1 0 == (x : Int))) = true then s ++ [(x : Int)] else s) (fun i s => s.length ≤ i) n 0 [] (by simp) (fun x s _ hx hs => ⟨fun r hr => by
    refine Ev.step (fun k => z13.l0.eq_2 ..) ?_
    rw [wrap_succ (by omega)]
    refine ev_pos (by omega) (Ev.bind (minContains_ev (pairs_of n hn l hp) hl x) ?_)
    cases hc : l.any (fun c => c.getD 1 0 == (x : Int)) with
    | true => rw [hc] at hr; exact ev_pos rfl hr
    | false => rw [hc] at hr; exact ev_neg (by decide) (ev_pos (by omega) hr), by
    split
    ·simp only [List.length_append, List.length_singleton]; omega
    ·omega⟩)
  refine h.1 _ ?_
  rw [Nat.zero_add]
  refine Ev.step (fun k => z13.l0.eq_2 ..) ?_
  exact ev_neg (by omega) (Ev.now _)
theorem minimalOf_small (a : Int) (l : List (List Int)) : (minimalOf a l).1.length ≤ 12 := by
 unfold minimalOf
 split
 ·rename_i h
  obtain ⟨n, rfl, hn, _⟩ := okPoset_iff.1 h
  rw [Int.toNat_natCast]
  have := pick_le (fun x => !l.any (fun c => c.getD 1 0 == (x : Int))) n
  exact Nat.le_trans this hn
 ·simp
end
def countIdeals (a : Int) (l : List (List Int)) : Int × Int := if okPoset a l = true then (ideals a.toNat (orderOf a.toNat l) (2 ^ a.toNat), 0) else (0, 1)
theorem implCount_ev {a : Int} {l : List (List Int)} (hl : l.length < 9223372036854775807) : Ev (fun k => z12.f k a l) (countIdeals a l) := by
 unfold z12.f countIdeals
 refine Ev.bind (implValidPoset_ev hl) ?_
 cases ho : okPoset a l with
 | false => exact ev_neg (by decide) (Ev.now _)
 | true =>
  obtain ⟨n, rfl, hn, _, hp, hO, _⟩ := okPoset_iff.1 ho
  have hpw := pow12 hn
  refine ev_pos rfl (Ev.bind (extensions_ev hn (pairs_of n hn l hp) hl) ?_)
  rw [if_pos rfl, Int.toNat_natCast, vec_length]
  generalize orderOf n l = R
  have h := le_iter_inv (fun (c : Int) (s : Nat) k => z12.l0 k c (vec (2 ^ n) (ext n R)) ((2 ^ n : Nat) : Int) (s : Int)) (fun s _ => ideals n R (s + 1)) (fun s c => c = ideals n R s) (2 ^ n) 0 0 rfl (fun s c _ hs hc => ⟨fun r hr => by
   subst hc
   have hs : s < 2 ^ n := by omega
   have hi := ideals_le (n := n) (R := R) s
   have hin : ideals n R (s + 1) = ideals n R s + (if ext n R s = 0 then 0 else 1) := rfl
   have hnn := ext_nonneg (n := n) (R := R) s
   refine Ev.step (fun k => z12.l0.eq_2 ..) ?_
   rw [vec_length, vec_get hs, wrap_succ (show s < 9223372036854775807 by omega)]
   refine ev_pos (by omega) (ev_pos (by omega) (ev_pos (by omega) ?_))
   by_cases he : ext n R s = 0
   ·rw [he, if_pos rfl, Int.add_zero] at hin
    rw [hin] at hr
    exact ev_neg (by omega) hr
   ·rw [if_neg he] at hin
    rw [wrap_small (x := ideals n R s + 1) (by omega) (by omega), ← hin]
    exact ev_pos (by omega) hr, rfl⟩)
  refine h.1 _ ?_
  rw [h.2, Nat.zero_add]
  refine Ev.step (fun k => z12.l0.eq_2 ..) ?_
  exact ev_neg (by omega) (Ev.now _)
def posetOf (a : Int) (l : List (List Int)) : Int × List (List Int) × Int :=
 if (decide (0 ≤ a) && decide (a ≤ 12)) = true then
  if l.all (isPair a) = true then
   if isOrd a.toNat (orderOf a.toNat l) = true then
    if ((coversOf a.toNat (orderOf a.toNat l)).length : Int) > 30 then (0, [], 5) else (a, coversOf a.toNat (orderOf a.toNat l), 0)
   else (0, [], 6)
  else (0, [], 2)
 else (0, [], 2)
section
variable {a : Int} {l : List (List Int)}
theorem specPosetOf_ev (hl : l.length < 9223372036854775807) : Ev (fun k => z51.f k a l) (posetOf a l) := by
 unfold z51.f posetOf
 refine Ev.bind (ev_const (in_val a 0 12)) ?_
 by_cases hs : (decide (0 ≤ a) && decide (a ≤ 12)) = true
 ·obtain ⟨n, rfl, hn⟩ := size_nat hs
  rw [if_pos hs]
  refine ev_pos hs ?_
  refine Ev.bind (specPairs_ev _ l hl) ?_
  refine Ev.step (fun k => z51.j0.eq_2 ..) ?_
  by_cases hp : l.all (isPair (n : Int)) = true
  ·rw [if_pos hp]
   refine ev_neg (by rw [hp]; decide) (Ev.bind (table_ev hn (pairs_of n hn l hp) hl) (Ev.bind (specCovers_ev hn) ?_))
   rw [Int.toNat_natCast]
   by_cases ho : isOrd n (orderOf n l) = true
   ·rw [if_pos ho, if_pos ho]
    refine ev_pos rfl ?_
    by_cases hc : ((coversOf n (orderOf n l)).length : Int) > 30
    ·refine ev_pos hc ?_
     rw [if_pos hc]; exact Ev.now _
    ·refine ev_neg hc ?_
     rw [if_neg hc]; exact Ev.now _
   ·rw [if_neg ho, if_neg ho]; exact ev_neg (by decide) (Ev.now _)
  ·rw [if_neg hp]
   exact ev_pos (by simpa using hp) (Ev.now _)
 ·rw [if_neg hs]
  refine ev_neg hs ?_
  refine Ev.step (fun k => z51.j0.eq_2 ..) ?_
  exact ev_pos rfl (Ev.now _)
end
theorem posetOf_small (a : Int) (l : List (List Int)) : (posetOf a l).2.1.length ≤ 144 ∧ ∀ x ∈ (posetOf a l).2.1, x.length = 2 := by
 unfold posetOf
 by_cases hs : (decide (0 ≤ a) && decide (a ≤ 12)) = true
 ·rw [if_pos hs]
  obtain ⟨n, rfl, hn⟩ := size_nat hs
  rw [Int.toNat_natCast]
  split
  ·split
   ·split
    ·simp
    ·exact ⟨covers_small hn _, covers_two n _⟩
   ·simp
  ·simp
 ·rw [if_neg hs]; simp
end Go.Proofs.Ytagefgkneandpaa.B

set_option linter.unusedVariables false
set_option linter.unusedSimpArgs false
namespace Go.Proofs.Ytagefgkneandpaa.B
open Go.RowKit Go.Proofs.YtagefgkneandpaaW.PrintWords

section
variable {n : Nat} {R : Nat → Nat → Bool}
theorem sum_split (p : Nat → Bool) (f : Nat → Int) (b : Nat) (hp : p b = true) : ∀ (L : List Nat), L.Nodup → b ∈ L → ((L.filter p).map f).sum = ((L.filter (fun z => !(z == b) && p z)).map f).sum + f b
 | [], _, h => by simp at h
 | x :: L, hn, h => by
  have hn := List.nodup_cons.1 hn
  by_cases e : x = b
  ·subst e
   have hrest : L.filter (fun z => !(z == x) && p z) = L.filter p := List.filter_congr (fun z hz => by
    have : z ≠ x := fun e => hn.1 (e ▸ hz)
    simp [this])
   rw [List.filter_cons_of_pos hp, List.filter_cons_of_neg (by simp), hrest, List.map_cons, List.sum_cons]
   omega
  ·have hb : b ∈ L := by
    rcases List.mem_cons.1 h with h | h
    ·exact absurd h.symm e
    ·exact h
   have ih := sum_split p f b hp L hn.2 hb
   by_cases hx : p x = true
   ·rw [List.filter_cons_of_pos hx, List.filter_cons_of_pos (by simp [e, hx]), List.map_cons, List.map_cons, List.sum_cons, List.sum_cons, ih]
    omega
   ·rw [List.filter_cons_of_neg hx, List.filter_cons_of_neg (by simp [hx]), ih]
def msum (n : Nat) (R : Nat → Nat → Bool) (a b : Nat) : Int := iter (fun x s => if (R a x && R x b) = true then wrap64 (s + mu n R a x) else s) 0 n 0
theorem mu_self (ho : Ord n R) {a : Nat} (ha : a < n) : mu n R a a = 1 := by rw [mu_eq ho ha, if_pos rfl]
theorem msum_eq (ho : Ord n R) {a b : Nat} (ha : a < n) (hb : b < n) (hab : R a b = true) : msum n R a b = if a = b then 1 else 0 := by
 have h := iter_sum (fun x => R a x && R x b) (mu n R a) n 0 0
 rw [← List.range_eq_range', Int.zero_add] at h
 have hr : wrap64 (msum n R a b) = msum n R a b := iter_inv (fun x s => if (R a x && R x b) = true then wrap64 (s + mu n R a x) else s) (fun _ v => wrap64 v = v) n 0 0 (wrap_small (by decide) (by decide)) (fun j v _ _ hv => by
  split
  ·exact wrap_wrap _
  ·exact hv)
 have hs := sum_split (fun x => R a x && R x b) (mu n R a) b (by simp [hab, ho.refl b hb]) (List.range n) List.nodup_range (List.mem_range.2 hb)
 have hc : wrap64 (msum n R a b) = wrap64 (((List.range n).filter (fun x => R a x && R x b)).map (mu n R a)).sum := wrap_eq h
 rw [hs, hr] at hc
 rw [hc]
 by_cases e : a = b
 ·subst e
  rw [if_pos rfl, mu_self ho ha]
  have : (List.range n).filter (fun z => !(z == a) && (R a z && R z a)) = [] := by
   rw [List.filter_eq_nil_iff]
   intro z hz h
   have hz := List.mem_range.1 hz
   obtain ⟨h1, h2⟩ := (Bool.and_eq_true _ _).mp h
   obtain ⟨h2, h3⟩ := (Bool.and_eq_true _ _).mp h2
   have := ho.anti a z ha hz h2 h3
   subst this
   simp at h1
  rw [this, List.map_nil, List.sum_nil]
  exact wrap_small (by decide) (by decide)
 ·rw [if_neg e, mu_eq ho hb, if_neg (fun h => e h.symm)]
  have hm : (List.range n).filter (fun z => !(z == b) && (R a z && R z b)) = (List.range n).filter (mid R a b) := rfl
  rw [hm]
  generalize (((List.range n).filter (mid R a b)).map (mu n R a)).sum = S
  have hcg : Cong (S + wrap64 (-S)) (S + -S) := Cong.add (Cong.refl S) (wrap_cong (-S))
  rw [wrap_eq hcg, show S + -S = 0 by omega]
  exact wrap_small (by decide) (by decide)

theorem pick_eq (p : Nat → Bool) : pick p n = ((List.range n).filter p).map (fun x => ((x : Nat) : Int)) := by
 have : ∀ (d i : Nat) (s : List Int), iter (fun x s => if p x = true then s ++ [(x : Int)] else s) i d s = s ++ ((List.range' i d).filter p).map (fun x => ((x : Nat) : Int)) := by
  intro d
  induction d with
  | zero => intro i s; simp [iter]
  | succ d ih =>
   intro i s
   rw [iter, ih, List.range'_succ]
   by_cases h : p i = true
   ·rw [if_pos h, List.filter_cons_of_pos h]; simp
   ·rw [if_neg h, List.filter_cons_of_neg h]
 unfold pick
 rw [this, List.nil_append, List.range_eq_range']
theorem mem_pick {p : Nat → Bool} {y : Int} : y ∈ pick p n ↔ ∃ x : Nat, x < n ∧ p x = true ∧ y = x := by
 rw [pick_eq, List.mem_map]
 constructor
 ·rintro ⟨x, hx, rfl⟩
  obtain ⟨h1, h2⟩ := List.mem_filter.1 hx
  exact ⟨x, List.mem_range.1 h1, h2, rfl⟩
 ·rintro ⟨x, h1, h2, rfl⟩
  exact ⟨x, List.mem_filter.2 ⟨List.mem_range.2 h1, h2⟩, rfl⟩
theorem pick_congr {p q : Nat → Bool} (h : ∀ x, x < n → p x = q x) : pick p n = pick q n := by
 rw [pick_eq, pick_eq]
 congr 1
 exact List.filter_congr (fun x hx => h x (List.mem_range.1 hx))
theorem ideal_again (ho : Ord n R) {s : List Int} (hs : ∀ y ∈ s, 0 ≤ y ∧ y < n) : pick (fun x => (pick (fun x => s.any (fun y => R x y.toNat)) n).any (fun y => R x y.toNat)) n = pick (fun x => s.any (fun y => R x y.toNat)) n := by
 refine pick_congr (fun x hx => ?_)
 rw [Bool.eq_iff_iff, List.any_eq_true, List.any_eq_true]
 constructor
 ·rintro ⟨y, hy, hr⟩
  obtain ⟨z, hz, hq, rfl⟩ := mem_pick.1 hy
  obtain ⟨w, hw, hr2⟩ := List.any_eq_true.1 hq
  obtain ⟨w0, w1⟩ := hs w hw
  rw [Int.toNat_natCast] at hr
  exact ⟨w, hw, ho.trans x z w.toNat hx hz (by omega) hr hr2⟩
 ·rintro ⟨w, hw, hr⟩
  exact ⟨(x : Int), mem_pick.2 ⟨x, hx, List.any_eq_true.2 ⟨w, hw, hr⟩, rfl⟩, by rw [Int.toNat_natCast]; exact ho.refl x hx⟩
theorem ideal_has (ho : Ord n R) {s : List Int} (hs : ∀ y ∈ s, 0 ≤ y ∧ y < n) {w : Int} (hw : w ∈ s) : w ∈ pick (fun x => s.any (fun y => R x y.toNat)) n := by
 obtain ⟨w0, w1⟩ := hs w hw
 refine mem_pick.2 ⟨w.toNat, by omega, List.any_eq_true.2 ⟨w, hw, ho.refl _ (by omega)⟩, by omega⟩
theorem ideal_elem {p : Nat → Bool} (hn : n ≤ 12) : (pick p n).all (fun x => elem x (n : Int)) = true := by
 rw [List.all_eq_true]
 intro y hy
 obtain ⟨x, hx, _, rfl⟩ := mem_pick.1 hy
 exact (elem_iff hn).2 ⟨by omega, by omega⟩

theorem least_of (ho : Ord n R) (q : Nat → Bool) (h : ∃ x, x < n ∧ q x = true) : ∃ x, x < n ∧ q x = true ∧ ∀ y, y < n → q y = true → R y x = true → y = x := by
 have hall : ∀ (c x : Nat), cnt n R x ≤ c → x < n → q x = true → ∃ x, x < n ∧ q x = true ∧ ∀ y, y < n → q y = true → R y x = true → y = x := by
  intro c
  induction c with
  | zero =>
   intro x hc hx _
   have : 0 < cnt n R x := List.countP_pos_iff.2 ⟨x, List.mem_range.2 hx, ho.refl x hx⟩
   omega
  | succ c ih =>
   intro x hc hx hq
   by_cases hm : ∀ y, y < n → q y = true → R y x = true → y = x
   ·exact ⟨x, hx, hq, hm⟩
   ·have : ∃ y, y < n ∧ q y = true ∧ R y x = true ∧ y ≠ x := by
     apply Classical.byContradiction
     intro hno
     exact hm (fun y h1 h2 h3 => Classical.byContradiction (fun h4 => hno ⟨y, h1, h2, h3, h4⟩))
    obtain ⟨y, h1, h2, h3, h4⟩ := this
    have := cnt_lt ho h1 hx h4 h3
    exact ih y (by omega) h1 h2
 obtain ⟨x, hx, hq⟩ := h
 exact hall _ x (Nat.le_refl _) hx hq

theorem sumTo_has {f : Nat → Int} : ∀ {n x : Nat}, x < n → (∀ y, y < n → 0 ≤ f y) → f x ≤ sumTo f n
 | n + 1, x, hx, hf => by
  have h0 := sumTo_nonneg (n := n) (fun y hy => hf y (by omega))
  have hn := hf n (by omega)
  simp only [sumTo]
  by_cases e : x = n
  ·subst e; omega
  ·have := sumTo_has (n := n) (x := x) (by omega) (fun y hy => hf y (by omega)); omega
theorem sumTo_succ (f : Nat → Int) (n : Nat) : sumTo f (n + 1) = sumTo f n + f n := rfl
theorem ideals_enough (ho : Ord n R) : ∀ i, i ≤ n → ∃ t, t < 2 ^ n ∧ ext n R t ≠ 0 ∧ (List.range n).countP (fun x => t.testBit x) = i ∧ (i : Int) + 1 ≤ ideals n R (t + 1) := by
 intro i
 induction i with
 | zero =>
  intro _
  refine ⟨0, Nat.two_pow_pos n, by rw [ext_zero]; decide, ?_, ?_⟩
  ·rw [List.countP_eq_zero]; intro x _; simp
  ·simp [ideals, sumTo, ext_zero]
 | succ i ih =>
  intro hi
  obtain ⟨t, ht, he, hc, hid⟩ := ih (by omega)
  have hfree : ∃ x, x < n ∧ (!t.testBit x) = true := by
   apply Classical.byContradiction
   intro hno
   have hall : (List.range n).countP (fun x => t.testBit x) = (List.range n).length := by
    rw [List.countP_eq_length]
    intro x hx
    cases hb : t.testBit x with
    | true => rfl
    | false => exact absurd ⟨x, List.mem_range.1 hx, by simp [hb]⟩ hno
   rw [List.length_range] at hall
   omega
  obtain ⟨x, hx, hq, hmin⟩ := least_of ho (fun x => !t.testBit x) hfree
  have hq : t.testBit x = false := by simpa using hq
  have hbit : ∀ y, (t ||| 2 ^ x).testBit y = (t.testBit y || (y == x)) := fun y => add_bit t x y
  have hx1 : (t ||| 2 ^ x).testBit x = true := by rw [hbit]; simp
  have hdel : del (t ||| 2 ^ x) x = t := del_add hq
  have hlt : t < t ||| 2 ^ x := by have := del_lt hx1; rwa [hdel] at this
  have hlow : lowIn n R t x = true := by
   unfold lowIn
   rw [List.all_eq_true]
   intro y hy
   have hy := List.mem_range.1 hy
   cases hty : t.testBit y with
   | true => simp
   | false =>
    cases hr : R y x with
    | false => simp
    | true => have := hmin y hy (by simp [hty]) hr; simp [this]
  have hext : ext n R (t ||| 2 ^ x) ≠ 0 := by
   rw [ext_sum ho _ (by omega)]
   have := sumTo_has (f := fun x_1 => if ((t ||| 2 ^ x).testBit x_1 && lowIn n R (del (t ||| 2 ^ x) x_1) x_1) = true then ext n R (del (t ||| 2 ^ x) x_1) else 0) (n := n) hx (fun y _ => by
    (try dsimp only)
    split
    ·exact ext_nonneg _
    ·omega)
   simp only [hx1, hdel, hlow, Bool.and_self, if_true] at this
   have := ext_nonneg (n := n) (R := R) t
   omega
  refine ⟨t ||| 2 ^ x, Nat.or_lt_two_pow ht (Nat.pow_lt_pow_right (by decide) hx), hext, ?_, ?_⟩
  ·have := countP_less (fun y => (t ||| 2 ^ x).testBit y) (fun y => t.testBit y) x hx1 (fun y => by
    show t.testBit y = ((t ||| 2 ^ x).testBit y && !(y == x))
    rw [hbit]
    by_cases e : y = x
    ·subst e; simp [hq]
    ·rw [show (y == x) = false from beq_false_of_ne e]; cases t.testBit y <;> rfl) (List.range n) List.nodup_range (List.mem_range.2 hx)
   omega
  ·have hm := sumTo_mono (f := fun t => if ext n R t = 0 then (0 : Int) else 1) (m := t + 1) (n := t ||| 2 ^ x) (by omega) (fun y _ => by (try dsimp only); split <;> omega)
   unfold ideals at hid ⊢
   rw [sumTo_succ (n := t ||| 2 ^ x), if_neg hext]
   omega
theorem ideals_many (ho : Ord n R) : (n : Int) + 1 ≤ ideals n R (2 ^ n) := by
 obtain ⟨t, ht, _, _, h⟩ := ideals_enough ho n (Nat.le_refl n)
 have hm := sumTo_mono (f := fun t => if ext n R t = 0 then (0 : Int) else 1) (m := t + 1) (n := 2 ^ n) (by omega) (fun y _ => by (try dsimp only); split <;> omega)
 unfold ideals at h ⊢
 omega
theorem covers_mem (n : Nat) (R : Nat → Nat → Bool) : ∀ p ∈ coversOf n R, ∃ x y : Nat, p = [(x : Int), (y : Int)] ∧ x < n ∧ y < n ∧ x ≠ y ∧ R x y = true := by
 have hrow : ∀ x s, x < n → (∀ p ∈ s, ∃ x y : Nat, p = [(x : Int), (y : Int)] ∧ x < n ∧ y < n ∧ x ≠ y ∧ R x y = true) → ∀ p ∈ coverRow n R x s, ∃ x y : Nat, p = [(x : Int), (y : Int)] ∧ x < n ∧ y < n ∧ x ≠ y ∧ R x y = true := fun x s hx hs => by
  have := iter_inv (fun y s => if covers n R x y then s ++ [[(x : Int), (y : Int)]] else s) (fun i (t : List (List Int)) => ∀ p ∈ t, ∃ x y : Nat, p = [(x : Int), (y : Int)] ∧ x < n ∧ y < n ∧ x ≠ y ∧ R x y = true) n 0 s hs (fun j t _ hj h => by
   split
   ·rename_i hc
    intro p hp
    rcases List.mem_append.1 hp with hp | hp
    ·exact h p hp
    ·obtain ⟨h1, h2⟩ := (Bool.and_eq_true _ _).mp hc
     obtain ⟨h2, _⟩ := (Bool.and_eq_true _ _).mp h2
     exact ⟨x, j, List.mem_singleton.1 hp, hx, by omega, by simpa using h1, h2⟩
   ·exact h)
  exact this
 exact iter_inv (coverRow n R) (fun i (t : List (List Int)) => ∀ p ∈ t, ∃ x y : Nat, p = [(x : Int), (y : Int)] ∧ x < n ∧ y < n ∧ x ≠ y ∧ R x y = true) n 0 [] (by simp) (fun j t _ hj h => hrow j t (by omega) h)
theorem minimal_some (ho : Ord n R) (hn : 0 < n) : (pick (fun x => !(coversOf n R).any (fun c => c.getD 1 0 == (x : Int))) n).length ≠ 0 := by
 obtain ⟨x, hx, _, hm⟩ := least_of ho (fun _ => true) ⟨0, hn, rfl⟩
 have : (x : Int) ∈ pick (fun x => !(coversOf n R).any (fun c => c.getD 1 0 == (x : Int))) n := by
  refine mem_pick.2 ⟨x, hx, ?_, rfl⟩
  rw [Bool.not_eq_true', List.any_eq_false]
  intro c hc he
  obtain ⟨u, v, rfl, hu, hv, hne, hr⟩ := covers_mem n R c hc
  have : (v : Int) = (x : Int) := by simpa using he
  have : v = x := by omega
  subst this
  exact hne (hm u hu rfl hr)
 intro h0
 rw [List.length_eq_zero_iff.1 h0] at this
 simp at this
end
end Go.Proofs.Ytagefgkneandpaa.B

set_option linter.unusedVariables false
set_option linter.unusedSimpArgs false
namespace Go.Proofs.Ytagefgkneandpaa.B
open Go.RowKit Go.Proofs.YtagefgkneandpaaW.PrintWords

def Byt (l : List Int) : Prop := ∀ n ∈ l, 0 ≤ n ∧ n ≤ 255
theorem u64_range (n : Int) : 0 ≤ IntKind.u64.wrap n ∧ IntKind.u64.wrap n ≤ 18446744073709551615 := by
 rw [show IntKind.u64.wrap n = n % 18446744073709551616 by simp [IntKind.wrap, IntKind.bits, IntKind.signed]]; omega
theorem and_255 {x : Int} (h0 : 0 ≤ x) (h1 : x ≤ 18446744073709551615) : 0 ≤ wrap64 (Go.bits .and .u64 (x / 1099511627776) 255) ∧ wrap64 (Go.bits .and .u64 (x / 1099511627776) 255) ≤ 255 := by
 obtain ⟨m, hm⟩ := Int.eq_ofNat_of_zero_le (show 0 ≤ x / 1099511627776 by omega)
 have hb : m < 2 ^ 24 := by
  have : x / 1099511627776 ≤ 16777215 := by omega
  omega
 have h := (bits_nat .u64 24 (by decide) (fun n a b => by
  have e : (2 : Int) ^ 24 = 16777216 := by decide
  rw [e] at b
  rw [show IntKind.u64.wrap n = n % 18446744073709551616 by simp [IntKind.wrap, IntKind.bits, IntKind.signed]]; omega) m 255 hb (by decide)).1
 rw [hm, show (255 : Int) = ((255 : Nat) : Int) from rfl, h]
 have h2 : m &&& 255 ≤ 255 := Nat.and_le_right
 rw [wrap_small (by omega) (by omega)]
 omega
theorem next_ok {l : List Int} (hl : Byt l) {a : Int} (z : Int) (h0 : 0 ≤ a) (h1 : a ≤ 4611686018427387904) : ∃ v z', z80.f l a z = some (v, a + 1, z') ∧ 0 ≤ v ∧ v ≤ 255 := by
 unfold z80.f
 have hw : wrap64 (a + 1) = a + 1 := wrap_small (by omega) (by omega)
 rw [hw]
 clear hw
 by_cases h : a < (l.length : Int)
 ·rw [if_pos h, if_pos h0, if_pos (by omega)]
  obtain ⟨i, rfl⟩ := Int.eq_ofNat_of_zero_le h0
  obtain ⟨b0, b1⟩ := hl _ (getD_mem (i := i) 0 (show i < l.length by omega))
  refine ⟨_, _, rfl, ?_, ?_⟩
  ·rw [rd_nat, wrap_small (by omega) (by omega)]; exact b0
  ·rw [rd_nat, wrap_small (by omega) (by omega)]; exact b1
 ·rw [if_neg h, if_neg (by omega)]
  exact ⟨_, _, rfl, (and_255 (u64_range _).1 (u64_range _).2).1, (and_255 (u64_range _).1 (u64_range _).2).2⟩
theorem pick_ok {l : List Int} (hl : Byt l) {a : Int} (z n : Int) (h0 : 0 ≤ a) (h1 : a ≤ 4611686018427387000) : ∃ v a' z', z43.f l a z n = some (v, a', z') ∧ 0 ≤ v ∧ (n ≤ 1 → v = 0) ∧ (1 < n → v < n) ∧ a ≤ a' ∧ a' ≤ a + 2 := by
 unfold z43.f
 by_cases h : n ≤ 1
 ·rw [if_pos h]
  exact ⟨0, a, z, rfl, by omega, fun _ => rfl, fun h => by omega, by omega, by omega⟩
 rw [if_neg h]
 obtain ⟨v, z1, e, hv, hv'⟩ := next_ok hl z h0 (by omega)
 rw [e]
 show ∃ v' a' z', (if n > 200 then _ else _) = some (v', a', z') ∧ _
 by_cases h2 : n > 200
 ·rw [if_pos h2]
  obtain ⟨u, z2, e2, hu, hu'⟩ := next_ok (a := a + 1) hl z1 (by omega) (by omega)
  rw [e2]
  have hx : wrap64 (wrap64 (v * 256) + u) = v * 256 + u := by
   rw [wrap_small (x := v * 256) (by omega) (by omega), wrap_small (by omega) (by omega)]
  show ∃ v' a' z', (if n = 0 then none else some (Int.tmod (wrap64 (wrap64 (v * 256) + u)) n, a + 1 + 1, z2)) = some (v', a', z') ∧ _
  rw [if_neg (by omega), hx]
  clear hx
  exact ⟨_, _, _, rfl, Int.tmod_nonneg _ (by omega), fun h => by omega, fun _ => Int.tmod_lt_of_pos _ (by omega), by omega, by omega⟩
 ·rw [if_neg h2]
  show ∃ v' a' z', (if n = 0 then none else some (Int.tmod v n, a + 1, z1)) = some (v', a', z') ∧ _
  rw [if_neg (by omega)]
  exact ⟨_, _, _, rfl, Int.tmod_nonneg _ hv, fun h => by omega, fun _ => Int.tmod_lt_of_pos _ (by omega), by omega, by omega⟩
theorem one_ok {l : List Int} (hl : Byt l) {a : Int} (z n : Int) (h0 : 0 ≤ a) (h1 : a ≤ 4611686018427387000) : ∃ (v : Bool) (a' z' : Int), z72.f l a z n = some (v, a', z') ∧ a ≤ a' ∧ a' ≤ a + 2 := by
 obtain ⟨v, a', z', e, _, _, _, h2, h3⟩ := pick_ok hl z n h0 h1
 unfold z72.f
 rw [e]
 exact ⟨_, _, _, rfl, h2, h3⟩
theorem among_ok {l : List Int} (hl : Byt l) {a : Int} (z : Int) (s : List Int) (hs : 0 < s.length) (h0 : 0 ≤ a) (h1 : a ≤ 4611686018427387000) : ∃ (v a' z' : Int), z65.f l a z s = some (v, a', z') ∧ a ≤ a' ∧ a' ≤ a + 2 := by
 obtain ⟨v, a', z', e, hv, hv1, hv2, h2, h3⟩ := pick_ok hl z (s.length : Int) h0 h1
 unfold z65.f
 rw [e]
 have hlt : v < (s.length : Int) := by
  by_cases h : (s.length : Int) ≤ 1
  ·rw [hv1 h]; omega
  ·exact hv2 (by omega)
 show ∃ v' a'' z'', (if 0 ≤ v then (if v < (s.length : Int) then some (rd s v, a', z') else none) else none) = some (v', a'', z'') ∧ _
 rw [if_pos hv, if_pos hlt]
 exact ⟨_, _, _, rfl, h2, h3⟩
end Go.Proofs.Ytagefgkneandpaa.B

set_option linter.unusedVariables false
set_option linter.unusedSimpArgs false
namespace Go.Proofs.Ytagefgkneandpaa.B
open Go.RowKit Go.Proofs.YtagefgkneandpaaW.PrintWords

section
variable {l : List Int}
theorem pairs_loop (hl : Byt l) (x1 : Int) : ∀ (d : Nat) (L : List (List Int)) (a z : Int), 0 ≤ a → a + 4 * d ≤ 1000000 → L.length + d ≤ 1000000 →
  ∃ L' a' z', Ev (fun k => z64.l0 k x1 L (d : Int) l a z) (L', a', z') ∧ L'.length ≤ L.length + d ∧ a ≤ a' ∧ a' ≤ a + 4 * d := by
 intro d
 induction d with
 | zero =>
  intro L a z h0 h1 h2
  refine ⟨L, a, z, ?_, by omega, by omega, by omega⟩
  refine Ev.step (fun k => z64.l0.eq_2 ..) ?_
  refine ev_neg (by omega) ?_
  refine Ev.step (fun k => z64.j1.eq_2 ..) ?_
  exact ev_neg (by decide) (Ev.now _)
 | succ d ih =>
  intro L a z h0 h1 h2
  by_cases hx : x1 > 1
  ·obtain ⟨u, a1, z1, e1, _, _, _, p1, p2⟩ := pick_ok hl z (wrap64 (x1 - 1)) h0 (by omega)
   obtain ⟨v, a2, z2, e2, _, _, _, p3, p4⟩ := pick_ok (a := a1) hl z1 (wrap64 ((wrap64 (x1 - u)) - 1)) (by omega) (by omega)
   obtain ⟨L', a', z', e, q1, q2, q3⟩ := ih (L ++ [[u, wrap64 ((wrap64 (u + 1)) + v)]]) a2 z2 (by omega) (by omega) (by simp; omega)
   refine ⟨L', a', z', ?_, by simp at q1; omega, by omega, by omega⟩
   refine Ev.step (fun k => z64.l0.eq_2 ..) ?_
   refine ev_pos (by omega) ?_
   refine Ev.step (fun k => z64.j1.eq_2 ..) ?_
   refine ev_pos (by simpa using hx) (Ev.bind (ev_const e1) (Ev.bind (ev_const e2) (ev_pos (by omega) ?_)))
   rw [show wrap64 (((d + 1 : Nat) : Int) - 1) = (d : Int) by rw [wrap_small (by omega) (by omega)]; omega]
   exact e
  ·refine ⟨L, a, z, ?_, by omega, by omega, by omega⟩
   refine Ev.step (fun k => z64.l0.eq_2 ..) ?_
   refine ev_pos (by omega) ?_
   refine Ev.step (fun k => z64.j1.eq_2 ..) ?_
   exact ev_neg (by simpa using hx) (Ev.now _)
theorem pairs_ok (hl : Byt l) (x1 : Int) (a z : Int) (h0 : 0 ≤ a) (h1 : a ≤ 1000) :
  ∃ L' a' z', Ev (fun k => z64.f k l a z x1) (L', a', z') ∧ L'.length ≤ 9 ∧ a ≤ a' ∧ a' ≤ a + 40 := by
 obtain ⟨u, a1, z1, e1, hu, _, hu2, p1, p2⟩ := pick_ok hl z 9 h0 (by omega)
 have := hu2 (by decide)
 obtain ⟨d, rfl⟩ := Int.eq_ofNat_of_zero_le hu
 obtain ⟨L', a', z', e, q1, q2, q3⟩ := pairs_loop hl x1 d [] a1 z1 (by omega) (by omega) (by simp; omega)
 unfold z64.f
 exact ⟨L', a', z', Ev.bind (ev_const e1) e, by simp at q1; omega, by omega, by omega⟩
theorem dual_ok (p : Int) (L : List (List Int)) (h : L.length ≤ 1000) : ∃ r : Int × List (List Int) × Int, Ev (fun k => z17.f k p L) r ∧ r.2.1.length ≤ 144 := by
 unfold z17.f
 cases ho : okPoset p L with
 | false =>
  have he := specOk_ev (a := p) (l := L) (by omega)
  rw [ho] at he
  exact ⟨(0, [], 1), Ev.bind he (ev_neg (by decide) (Ev.now _)), by simp⟩
 | true =>
  have he := specOk_ev (a := p) (l := L) (by omega)
  rw [ho] at he
  obtain ⟨n, rfl, hn, _, hp, _, _⟩ := okPoset_iff.1 ho
  have hP := pairs_of n hn L hp
  have main : ∀ (d i : Nat) (X : List (List Int)), i + d = L.length → X.length = i → ∃ r : Int × List (List Int) × Int, Ev (fun k => z17.l0 k X (i : Int) (n : Int) L) r ∧ r.2.1.length ≤ 144 := by
   intro d
   induction d with
   | zero =>
    intro i X hi hX
    refine ⟨posetOf n X, ?_, (posetOf_small _ _).1⟩
    refine Ev.step (fun k => z17.l0.eq_2 ..) ?_
    exact ev_neg (by omega) (Ev.bind (specPosetOf_ev (by omega)) (Ev.now _))
   | succ d ih =>
    intro i X hi hX
    obtain ⟨r, hr, hs⟩ := ih (i + 1) (X ++ [[rd (L.getD i []) 1, rd (L.getD i []) 0]]) (by omega) (by simp [hX])
    have h2 := (hP _ (getD_mem (i := i) [] (show i < L.length by omega))).1
    refine ⟨r, ?_, hs⟩
    refine Ev.step (fun k => z17.l0.eq_2 ..) ?_
    rw [rdl_nat, wrap_succ (by omega)]
    exact ev_pos (by omega) (ev_pos (by omega) (ev_pos (by omega) (ev_pos (by omega) (ev_pos (by omega) hr))))
  obtain ⟨r, hr, hs⟩ := main L.length 0 [] (by omega) rfl
  exact ⟨r, Ev.bind he (ev_pos rfl hr), hs⟩
theorem rows_in (x9 a z q : Int) : ∀ (d : Nat) (L : List (List Int)), d ≤ 6 → L.length + d ≤ 900 → ∃ L' : List (List Int), L'.length ≤ L.length + d ∧ Le (fun k => z71.l0 k (wrap64 (x9 + 1)) l a z q L') (fun k => z71.l1 k x9 ((11 - d : Nat) : Int) l a z q L) := by
 intro d
 induction d with
 | zero =>
  intro L hd hL
  refine ⟨L, by omega, fun r hr => ?_⟩
  refine Ev.step (fun k => z71.l1.eq_2 ..) ?_
  exact ev_neg (by omega) hr
 | succ d ih =>
  intro L hd hL
  obtain ⟨L', h1, h2⟩ := ih (L ++ [[x9, ((11 - (d + 1) : Nat) : Int)]]) (by omega) (by
   simp only [List.length_append, List.length_singleton]
   omega)
  refine ⟨L', by simp only [List.length_append, List.length_singleton] at h1; omega, fun r hr => ?_⟩
  refine Ev.step (fun k => z71.l1.eq_2 ..) ?_
  refine ev_pos (by omega) (ev_pos (by omega) ?_)
  rw [wrap_succ (by omega), show 11 - (d + 1) + 1 = 11 - d by omega]
  exact h2 r hr
theorem rows_out (a z q : Int) : ∀ (d : Nat) (L : List (List Int)), d ≤ 5 → L.length + 6 * d ≤ 800 → ∃ L' : List (List Int), L'.length ≤ L.length + 6 * d ∧ Ev (fun k => z71.l0 k ((5 - d : Nat) : Int) l a z q L) (q, L', a, z) := by
 intro d
 induction d with
 | zero =>
  intro L hd hL
  refine ⟨L, by omega, ?_⟩
  refine Ev.step (fun k => z71.l0.eq_2 ..) ?_
  exact ev_neg (by omega) (Ev.now _)
 | succ d ih =>
  intro L hd hL
  obtain ⟨L1, h1, h2⟩ := rows_in (l := l) ((5 - (d + 1) : Nat) : Int) a z q 6 L (by omega) (by omega)
  obtain ⟨L', h3, h4⟩ := ih L1 (by omega) (by omega)
  refine ⟨L', by omega, ?_⟩
  refine Ev.step (fun k => z71.l0.eq_2 ..) ?_
  refine ev_pos (by omega) (h2 _ ?_)
  rw [wrap_succ (by omega), show 5 - (d + 1) + 1 = 5 - d by omega]
  exact h4
theorem drawOk_ok (hl : Byt l) (a z : Int) (h0 : 0 ≤ a) (h1 : a ≤ 900) : ∃ (p : Int) (L : List (List Int)) (a' z' : Int), Ev (fun k => z71.f k l a z) (p, L, a', z') ∧ L.length ≤ 144 ∧ a ≤ a' ∧ a' ≤ a + 44 := by
 obtain ⟨u, a1, z1, e1, _, _, _, p1, p2⟩ := pick_ok hl z 7 h0 (by omega)
 obtain ⟨X, a2, z2, e2, hX, p3, p4⟩ := pairs_ok hl u a1 z1 (by omega) (by omega)
 have e3 := specPosetOf_ev (a := u) (l := X) (by omega)
 have hs := (posetOf_small u X).1
 obtain ⟨v, a3, z3, e4, _, _, _, p5, p6⟩ := pick_ok (a := a2) hl z2 12 (by omega) (by omega)
 unfold z71.f
 by_cases hv : v = 0
 ·obtain ⟨r, e5, hr⟩ := dual_ok (posetOf u X).1 (posetOf u X).2.1 (by omega)
  exact ⟨r.1, r.2.1, a3, z3, Ev.bind (ev_const e1) (Ev.bind e2 (Ev.bind e3 (Ev.bind (ev_const e4) (ev_pos hv (Ev.bind e5 (Ev.now _)))))), hr, by omega, by omega⟩
 ·by_cases hv1 : v = 1
  ·obtain ⟨L', h3, h4⟩ := rows_out (l := l) a3 z3 11 5 [] (by omega) (by simp)
   exact ⟨11, L', a3, z3, Ev.bind (ev_const e1) (Ev.bind e2 (Ev.bind e3 (Ev.bind (ev_const e4) (ev_neg hv (ev_pos hv1 h4))))), by simp at h3; omega, by omega, by omega⟩
  ·exact ⟨_, _, a3, z3, Ev.bind (ev_const e1) (Ev.bind e2 (Ev.bind e3 (Ev.bind (ev_const e4) (ev_neg hv (ev_neg hv1 (Ev.now _)))))), hs, by omega, by omega⟩
theorem draw_ok (hl : Byt l) (a z : Int) (h0 : 0 ≤ a) (h1 : a ≤ 800) : ∃ (p : Int) (L : List (List Int)) (a' z' : Int), Ev (fun k => z34.f k l a z) (p, L, a', z') ∧ L.length ≤ 145 ∧ a ≤ a' ∧ a' ≤ a + 60 := by
 obtain ⟨p, L, a1, z1, e1, hL, p1, p2⟩ := drawOk_ok hl a z h0 (by omega)
 obtain ⟨v, a2, z2, e2, _, _, _, p3, p4⟩ := pick_ok (a := a1) hl z1 20 (by omega) (by omega)
 unfold z34.f
 by_cases h2 : v = 0
 ·obtain ⟨s, a3, z3, e3, p5, p6⟩ := among_ok (a := a2) hl z2 [(-1), 12, 13] (by decide) (by omega) (by omega)
  exact ⟨s, L, a3, z3, Ev.bind e1 (Ev.bind (ev_const e2) (ev_pos h2 (Ev.bind (ev_const e3) (Ev.now _)))), by omega, by omega, by omega⟩
 by_cases h3 : v = 1
 ·obtain ⟨s, a3, z3, e3, _, _, _, p5, p6⟩ := pick_ok (a := a2) hl z2 4 (by omega) (by omega)
  obtain ⟨t, a4, z4, e4, _, _, _, p7, p8⟩ := pick_ok (a := a3) hl z3 4 (by omega) (by omega)
  exact ⟨p, L ++ [[s, t]], a4, z4, Ev.bind e1 (Ev.bind (ev_const e2) (ev_neg h2 (ev_pos h3 (Ev.bind (ev_const e3) (Ev.bind (ev_const e4) (ev_pos (show L.length < 5864062014805 by omega) (Ev.now _))))))), by simp; omega, by omega, by omega⟩
 by_cases h4 : v = 2
 ·exact ⟨p, L ++ [[0]], a2, z2, Ev.bind e1 (Ev.bind (ev_const e2) (ev_neg h2 (ev_neg h3 (ev_pos h4 (ev_pos (show L.length < 5864062014805 by omega) (Ev.now _)))))), by simp; omega, by omega, by omega⟩
 by_cases h5 : v = 3
 ·exact ⟨3, [[0, 1], [0, 2], [1, 2]], a2, z2, Ev.bind e1 (Ev.bind (ev_const e2) (ev_neg h2 (ev_neg h3 (ev_neg h4 (ev_pos h5 (Ev.now _)))))), by simp, by omega, by omega⟩
 ·exact ⟨p, L, a2, z2, Ev.bind e1 (Ev.bind (ev_const e2) (ev_neg h2 (ev_neg h3 (ev_neg h4 (ev_neg h5 (Ev.now _)))))), by omega, by omega, by omega⟩
theorem element_ok (hl : Byt l) (a z p : Int) (L : List (List Int)) (h0 : 0 ≤ a) (h1 : a ≤ 100000) : ∃ (v a' z' : Int), z35.f l a z p L = some (v, a', z') ∧ a ≤ a' ∧ a' ≤ a + 4 := by
 obtain ⟨b, a1, z1, e1, p1, p2⟩ := one_ok hl z 12 h0 (by omega)
 unfold z35.f
 rw [e1]
 cases b with
 | true =>
  obtain ⟨v, a2, z2, e2, p3, p4⟩ := among_ok (a := a1) hl z1 [(-1), p] (by simp) (by omega) (by omega)
  refine ⟨v, a2, z2, ?_, by omega, by omega⟩
  simp [e2]
 | false =>
  obtain ⟨m, hm⟩ : ∃ m, z73.f 1 p = some m := by unfold z73.f; split <;> exact ⟨_, rfl⟩
  obtain ⟨v, a2, z2, e2, _, _, _, p3, p4⟩ := pick_ok (a := a1) hl z1 m (by omega) (by omega)
  refine ⟨v, a2, z2, ?_, by omega, by omega⟩
  simp [hm, e2]
theorem drawMoebius_ok (hl : Byt l) : ∃ (p : Int) (L : List (List Int)) (x y : Int), Ev (fun k => z7.f k l) (p, L, x, y) ∧ L.length ≤ 145 := by
 obtain ⟨p, L, a1, z1, e1, hL, p1, p2⟩ := draw_ok hl 0 0 (by omega) (by omega)
 obtain ⟨x, a2, z2, e2, p3, p4⟩ := element_ok hl a1 z1 p L (by omega) (by omega)
 obtain ⟨y, a3, z3, e3, p5, p6⟩ := element_ok hl a2 z2 p L (by omega) (by omega)
 unfold z7.f
 exact ⟨p, L, x, y, Ev.bind (ev_const (show z33.f l = some (l, 0, 0) from rfl)) (Ev.bind e1 (Ev.bind (ev_const e2) (Ev.bind (ev_const e3) (Ev.now _)))), hL⟩
theorem ideal_loop (hl : Byt l) (p : Int) (L : List (List Int)) : ∀ (d : Nat) (X : List Int) (a z : Int), 0 ≤ a → a + 4 * d ≤ 100000 → X.length + d ≤ 100 → ∃ X' : List Int, X'.length ≤ X.length + d ∧ Ev (fun k => z10.l0 k X (d : Int) l a z p L) (p, L, X') := by
 intro d
 induction d with
 | zero =>
  intro X a z h0 h1 h2
  refine ⟨X, by omega, ?_⟩
  refine Ev.step (fun k => z10.l0.eq_2 ..) ?_
  exact ev_neg (by omega) (Ev.now _)
 | succ d ih =>
  intro X a z h0 h1 h2
  obtain ⟨v, a1, z1, e1, p1, p2⟩ := element_ok hl a z p L (by omega) (by omega)
  obtain ⟨X', h3, h4⟩ := ih (X ++ [v]) a1 z1 (by omega) (by omega) (by simp; omega)
  refine ⟨X', by simp at h3; omega, ?_⟩
  refine Ev.step (fun k => z10.l0.eq_2 ..) ?_
  refine ev_pos (by omega) (Ev.bind (ev_const e1) (ev_pos (by omega) ?_))
  rw [show wrap64 (((d + 1 : Nat) : Int) - 1) = (d : Int) by rw [wrap_small (by omega) (by omega)]; omega]
  exact h4
theorem drawIdeal_ok (hl : Byt l) : ∃ (p : Int) (L : List (List Int)) (X : List Int), Ev (fun k => z10.f k l) (p, L, X) ∧ L.length ≤ 145 ∧ X.length ≤ 10 := by
 obtain ⟨p, L, a1, z1, e1, hL, p1, p2⟩ := draw_ok hl 0 0 (by omega) (by omega)
 obtain ⟨u, a2, z2, e2, hu, _, hu2, p3, p4⟩ := pick_ok (a := a1) hl z1 4 (by omega) (by omega)
 have := hu2 (by decide)
 obtain ⟨d, rfl⟩ := Int.eq_ofNat_of_zero_le hu
 obtain ⟨X, h3, h4⟩ := ideal_loop hl p L d [] a2 z2 (by omega) (by omega) (by simp; omega)
 unfold z10.f
 exact ⟨p, L, X, Ev.bind (ev_const (show z33.f l = some (l, 0, 0) from rfl)) (Ev.bind e1 (Ev.bind (ev_const e2) h4)), hL, by simp at h3; omega⟩
end
end Go.Proofs.Ytagefgkneandpaa.B

set_option linter.unusedVariables false
set_option linter.unusedSimpArgs false
namespace Go.Proofs.Ytagefgkneandpaa.B
open Go.RowKit Go.Proofs.YtagefgkneandpaaW.PrintWords

theorem nums_self (l : List Int) (hl : l.length ≤ 1000) : Ev (fun k => z14.f k l l) true := by
 unfold z14.f
 refine ev_pos rfl ?_
 have main : ∀ (d i : Nat), i + d = l.length → Ev (fun k => z14.l0 k l l (i : Int)) true := by
  intro d
  induction d with
  | zero =>
   intro i hi
   refine Ev.step (fun k => z14.l0.eq_2 ..) ?_
   exact ev_neg (by omega) (Ev.now _)
  | succ d ih =>
   intro i hi
   refine Ev.step (fun k => z14.l0.eq_2 ..) ?_
   rw [wrap_succ (by omega)]
   exact ev_pos (by omega) (ev_pos (by omega) (ev_pos (by omega) (ev_pos rfl (ih (i + 1) (by omega)))))
 exact main l.length 0 (by omega)
theorem has10_ev (l : List Int) (hl : l.length ≤ 1000) (x : Int) (hx : x ∈ l) : Ev (fun k => z15.f k l x) true := by
 unfold z15.f
 obtain ⟨j, hj, he⟩ := List.mem_iff_getElem.1 hx
 have main : ∀ (d i : Nat), i + d = j → Ev (fun k => z15.l0 k l x (i : Int)) true := by
  intro d
  induction d with
  | zero =>
   intro i hi
   have hi : i = j := by omega
   subst hi
   refine Ev.step (fun k => z15.l0.eq_2 ..) ?_
   rw [rd_nat, List.getD_eq_getElem?_getD, List.getElem?_eq_getElem hj]
   exact ev_pos (by omega) (ev_pos (by omega) (ev_pos he (Ev.now _)))
  | succ d ih =>
   intro i hi
   refine Ev.step (fun k => z15.l0.eq_2 ..) ?_
   rw [wrap_succ (by omega)]
   refine ev_pos (by omega) (ev_pos (by omega) ?_)
   by_cases h : rd l (i : Int) = x
   ·exact ev_pos h (Ev.now _)
   ·exact ev_neg h (ih (i + 1) (by omega))
 exact main j 0 (by omega)
theorem mob_two {l1 : List Int} (hb1 : Byt l1) : Ev (fun k => z3.j3 k l1) true := by
 obtain ⟨p, L, X, e, hL, hX⟩ := drawIdeal_ok hb1
 refine Ev.step (fun k => z3.j3.eq_2 ..) ?_
 refine Ev.bind e (Ev.bind (implIdealOf_ev (a := p) (l := L) (s := X) (by omega) (by omega)) ?_)
 unfold idealOf
 cases ho : okPoset p L with
 | false => rw [if_neg (by decide)]; exact ev_neg (by decide) (Ev.now _)
 | true =>
  have hoo := ho
  obtain ⟨n, rfl, hn, _, hp, hO, hcov⟩ := okPoset_iff.1 ho
  have hord := ord_of hO
  rw [if_pos rfl, Int.toNat_natCast]
  cases hs : X.all (fun x => elem x (n : Int)) with
  | false => rw [if_neg (by decide)]; exact ev_neg (by decide) (Ev.now _)
  | true =>
   have hsn : ∀ y ∈ X, 0 ≤ y ∧ y < n := fun y hy => (elem_iff hn).1 (List.all_eq_true.1 hs y hy)
   rw [if_pos rfl]
   refine ev_pos rfl ?_
   have hag := ideal_again hord hsn
   have hsm : (pick (fun x => X.any (fun y => orderOf n L x y.toNat)) n).length ≤ 12 := by
    have := pick_le (fun x => X.any (fun y => orderOf n L x y.toNat)) n
    omega
   have hel := ideal_elem (p := fun x => X.any (fun y => orderOf n L x y.toNat)) hn
   have hhas : ∀ w ∈ X, w ∈ pick (fun x => X.any (fun y => orderOf n L x y.toNat)) n := fun w hw => ideal_has hord hsn hw
   have e2 := implIdealOf_ev (a := (n : Int)) (l := L) (s := pick (fun x => X.any (fun y => orderOf n L x y.toNat)) n) (by omega) (by omega)
   have e3 := implCount_ev (a := (n : Int)) (l := L) (by omega)
   have e4 := implMinimalOf_ev (a := (n : Int)) (l := L) (by omega)
   unfold idealOf at e2
   unfold countIdeals at e3
   unfold minimalOf at e4
   rw [hoo, if_pos rfl, Int.toNat_natCast, hel, if_pos rfl, hag] at e2
   rw [hoo, if_pos rfl, Int.toNat_natCast] at e3 e4
   have hmany := ideals_many hord
   have hmin : ((pick (fun x => !L.any (fun c => c.getD 1 0 == (x : Int))) n).length : Int) = 0 ↔ (n : Int) = 0 := by
    constructor
    ·intro h
     by_cases h0 : 0 < n
     ·have := minimal_some hord h0
      rw [hcov] at this
      omega
     ·omega
    ·intro h
     have h0 : n = 0 := by omega
     have := pick_le (fun x => !L.any (fun c => c.getD 1 0 == (x : Int))) n
     omega
   generalize pick (fun x => X.any (fun y => orderOf n L x y.toNat)) n = I at *
   generalize pick (fun x => !L.any (fun c => c.getD 1 0 == (x : Int))) n = M at *
   refine Ev.bind e2 (Ev.bind e3 (Ev.bind e4 (ev_pos rfl (Ev.bind (nums_self I (by omega)) (ev_pos rfl (ev_pos rfl (ev_neg ?_ (ev_pos rfl ?_))))))))
   ·show ¬ (ideals n (orderOf n L) (2 ^ n) < wrap64 ((n : Int) + 1))
    rw [wrap_small (x := (n : Int) + 1) (by omega) (by omega)]
    omega
   ·have hbb : (((M.length : Int) == 0) != ((n : Int) == 0)) = false := by
     rw [bne_eq_false_iff_eq, Bool.eq_iff_iff, beq_iff_eq, beq_iff_eq]
     exact hmin
    show Ev (fun k => z3.j4 k X I (((M.length : Int) == 0) != ((n : Int) == 0))) true
    rw [hbb]
    refine Ev.step (fun k => z3.j4.eq_2 ..) ?_
    refine ev_neg (by decide) ?_
    have main : ∀ (d i : Nat), i + d = X.length → Ev (fun k => z3.l1 k X I (i : Int)) true := by
     intro d
     induction d with
     | zero =>
      intro i hi
      refine Ev.step (fun k => z3.l1.eq_2 ..) ?_
      exact ev_neg (by omega) (Ev.now _)
     | succ d ih =>
      intro i hi
      refine Ev.step (fun k => z3.l1.eq_2 ..) ?_
      rw [rd_nat, wrap_succ (by omega)]
      exact ev_pos (by omega) (ev_pos (by omega) (Ev.bind (has10_ev I (by omega) _ (hhas _ (getD_mem 0 (by omega)))) (ev_pos rfl (ih (i + 1) (by omega)))))
    exact main X.length 0 (by omega)
theorem pure_FnMoebius {l0 l1 : List Int} (h0 : WfB l0) (h1 : WfB l1) : ∃ k, z3.f k l0 l1 = some true := by
 refine Ev.rounds (g := fun k => z3.f k l0 l1) ?_
 unfold z3.f
 have yes : Ev (fun k => z3.j0 k l0 l1 true) true := by
  refine Ev.step (fun k => z3.j0.eq_2 ..) ?_
  exact ev_pos rfl (Ev.now _)
 refine Ev.bind (ev_const rfl) ?_
 by_cases c0 : decide ((l0.length : Int) > 1048576) = true
 ·exact ev_pos c0 yes
 refine ev_neg c0 (Ev.bind (ev_const rfl) ?_)
 cases hc : decide ((l1.length : Int) > 1048576) with
 | true => exact yes
 | false =>
  have hb0 : Byt l0 := h0.2
  have hb1 : Byt l1 := h1.2
  have two := mob_two hb1
  obtain ⟨p, L, x, y, e, hL⟩ := drawMoebius_ok hb0
  refine Ev.step (fun k => z3.j0.eq_2 ..) ?_
  refine ev_neg (by decide) (Ev.bind e (Ev.bind (implMoebiusOf_ev (a := p) (l := L) (by omega) x y) ?_))
  unfold moebiusOf
  cases ho : okPoset p L with
  | false => rw [if_neg (by decide)]; exact ev_neg (by decide) two
  | true =>
   have hoo := ho
   obtain ⟨n, rfl, hn, _, hp, hO, hcov⟩ := okPoset_iff.1 ho
   have hord := ord_of hO
   rw [if_pos rfl]
   cases hx : (elem x (n : Int) && elem y (n : Int)) with
   | false => rw [if_neg (by decide)]; exact ev_neg (by decide) two
   | true =>
    rw [if_pos rfl]
    cases hr : orderOf (n : Int).toNat L x.toNat y.toNat with
    | false => rw [if_neg (by decide)]; exact ev_neg (by decide) two
    | true =>
     rw [if_pos rfl]
     rw [Int.toNat_natCast] at hr ⊢
     obtain ⟨hx1, hy1⟩ := (Bool.and_eq_true _ _).mp hx
     obtain ⟨u0, u1⟩ := (elem_iff hn).1 hx1
     obtain ⟨v0, v1⟩ := (elem_iff hn).1 hy1
     obtain ⟨u, rfl⟩ := Int.eq_ofNat_of_zero_le u0
     obtain ⟨v, rfl⟩ := Int.eq_ofNat_of_zero_le v0
     rw [Int.toNat_natCast, Int.toNat_natCast] at hr ⊢
     have hu : u < n := by omega
     have hv : v < n := by omega
     refine ev_pos rfl ?_
     have hel : ∀ z : Nat, z < n → elem (z : Int) (n : Int) = true := fun z hz => (elem_iff hn).2 ⟨by omega, by omega⟩
     have hbelow : ∀ z w : Nat, z < n → w < n → isBelow (n : Int) L (z : Int) (w : Int) = orderOf n L z w := fun z w hz hw => by
      unfold isBelow
      rw [hoo, hel z hz, hel w hw, Int.toNat_natCast, Int.toNat_natCast, Int.toNat_natCast]
      simp
     have hmu : ∀ z : Nat, z < n → orderOf n L u z = true → moebiusOf (n : Int) L (u : Int) (z : Int) = (mu n (orderOf n L) u z, 0) := fun z hz h => by
      unfold moebiusOf
      rw [hoo, if_pos rfl, hel u hu, hel z hz, Int.toNat_natCast, Int.toNat_natCast, Int.toNat_natCast, h]
      rfl
     have hB := fun (z w : Nat) => specIsBelow_ev (a := (n : Int)) (l := L) (by omega) (z : Int) (w : Int)
     have hM := fun (z : Nat) => implMoebiusOf_ev (a := (n : Int)) (l := L) (by omega) (u : Int) (z : Int)
     have h := le_iter (fun (s : Int) (z : Nat) k => z3.l0 k l1 (u : Int) (v : Int) (mu n (orderOf n L) u v) s (z : Int) (n : Int) L) (fun z s => if (orderOf n L u z && orderOf n L z v) = true then wrap64 (s + mu n (orderOf n L) u z) else s) n 0 0 (fun z s _ hz r hr => by
      have hz : z < n := by omega
      have b1 := hB u z
      have b2 := hB z v
      rw [hbelow u z hu hz] at b1
      rw [hbelow z v hz hv] at b2
      have skip : (orderOf n L u z && orderOf n L z v) = false → Ev (fun k => z3.j2 k l1 (u : Int) (v : Int) (mu n (orderOf n L) u v) s (z : Int) false (n : Int) L) r := fun hf => by
       rw [hf] at hr
       refine Ev.step (fun k => z3.j2.eq_2 ..) ?_
       rw [wrap_succ (by omega)]
       exact ev_neg (by decide) hr
      refine Ev.step (fun k => z3.l0.eq_2 ..) ?_
      refine ev_pos (by omega) (Ev.bind b1 ?_)
      cases h1 : orderOf n L u z with
      | false => exact ev_neg (by decide) (skip (by rw [h1]; rfl))
      | true =>
       refine ev_pos rfl (Ev.bind b2 ?_)
       cases h2 : orderOf n L z v with
       | false => exact skip (by rw [h2]; simp)
       | true =>
        rw [h1, h2] at hr
        have m1 := hM z
        rw [hmu z hz h1] at m1
        refine Ev.step (fun k => z3.j2.eq_2 ..) ?_
        rw [wrap_succ (by omega)]
        exact ev_pos rfl (Ev.bind m1 (ev_pos rfl hr)))
     refine h _ ?_
     rw [Nat.zero_add]
     have hsum := msum_eq hord hu hv hr
     unfold msum at hsum
     rw [hsum]
     refine Ev.step (fun k => z3.l0.eq_2 ..) ?_
     refine ev_neg (by omega) ?_
     by_cases huv : u = v
     ·subst huv
      rw [if_pos rfl]
      exact ev_pos rfl (ev_pos rfl (ev_pos (mu_self hord hu) two))
     ·rw [if_neg huv]
      exact ev_neg (by omega) (ev_pos rfl two)
end Go.Proofs.Ytagefgkneandpaa.B

