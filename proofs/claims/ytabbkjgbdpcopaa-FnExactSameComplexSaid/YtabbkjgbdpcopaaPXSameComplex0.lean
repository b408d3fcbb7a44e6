/- What the functions come to, for the law FnExactSameComplex. -/
import Derived.Test.YtabbkjgbdpcopaaKAAKPMA0
import Derived.Test.YtabbkjgbdpcopaaKCHHDIJ0
import Derived.Test.YtabbkjgbdpcopaaKDLMKCM0
import Derived.Test.YtabbkjgbdpcopaaKJIEIBA0
import Derived.Test.YtabbkjgbdpcopaaKW0
import Derived.Below
import Derived.ChangeOld
import Derived.Deep.Matrix
import Derived.Lib.SmallJoins
import Derived.OpenShut
import Derived.ProofKit
import Derived.ShutString
import Derived.SizedLaws
import Derived.WalkKit
set_option linter.unusedVariables false
set_option linter.unusedSimpArgs false
namespace Go.Proofs.Ytabbkjgbdpcopaa.B
open Go.RowKit Go.ChangeShapes Go.WideShapes Go.Deep Go.Proofs.YtabbkjgbdpcopaaW.PrintWords

def Wf (n : Int) : Prop := -9223372036854775808 ≤ n ∧ n ≤ 9223372036854775807
def WfL (l : List Int) : Prop := l.length ≤ 9223372036854775807 ∧ ∀ n ∈ l, Wf n
def WfLL (l : List (List Int)) : Prop := l.length ≤ 9223372036854775807 ∧ ∀ r ∈ l, WfL r
theorem wf_of {n : Int} (h : (Lit.int .i64 n).wf = true) : Wf n := by
 unfold Wf
 simp [Lit.wf, IntKind.min, IntKind.max, IntKind.bits, IntKind.signed] at h
 omega

section
variable {H : Type} {enc : TypeId × Value → H} {P : Program} {w : World} {base : Nat} {held : Bool} {fuel : Nat}
theorem opened_int {t : TypeId} {v : Value} {x : DataW H × List MemPlace} (ht : P.underlying t = some (.int .i64)) (h : DataW.trod enc P w base (fun _ => true) held fuel t [v] = some x) : ∃ n, v = .int .i64 n ∧ Wf n := by
 obtain ⟨n, he, _, hw⟩ := DataW.trod_int ht h
 exact ⟨n, by simpa using he, wf_of hw⟩
theorem opened_ints {t e : TypeId} {v : Value} {x : DataW H × List MemPlace} (ht : P.underlying t = some (.slice e)) (he : P.underlying e = some (.int .i64)) (hc : P.cellsOf e = 1) (h : DataW.trod enc P w base (fun _ => true) held fuel t [v] = some x) :
  ∃ A l c, v = .slice A l.length c ∧ (Kd.int .i64).C w A l.length l ∧ l.length ≤ c ∧ WfL l := by
 rcases open_ints ht he hc h with ⟨hcs, _⟩ | ⟨a, l, c, zs, hcs, _, hl, hm, hz, _, hcell, hwz⟩
 ·refine ⟨none, [], 0, by simpa using hcs, ⟨rfl, by simp, fun h => by simp at h⟩, by simp, by simp [WfL]⟩
 ·simp only [if_true] at hz
  have hlen : (zs.take l).length = l := by rw [List.length_take]; omega
  refine ⟨some a, zs.take l, c, by rw [hlen]; simpa using hcs, ⟨rfl, by rw [hlen]; simp only [maxLen] at hm; omega, fun _ => ⟨a, rfl, fun j p hj => ?_⟩⟩, by omega, ?_, fun n hn => wf_of (hwz n (List.mem_of_mem_take hn))⟩
  ·have hjl : j < l := by have := (List.getElem?_eq_some_iff.1 hj).1; omega
   refine ⟨[.int .i64 p], rfl, rfl, fun i u hu => ?_⟩
   cases i with
   | zero =>
    simp only [List.getElem?_cons_zero, Option.some.injEq] at hu
    subst hu
    rw [Nat.add_zero, show j * (Kd.int .i64).sz = j from Nat.mul_one j, hcell j (by omega)]
    rw [List.getElem?_take, if_pos hjl] at hj
    rw [List.getD_eq_getElem?_getD, hj]; rfl
   | succ i => simp at hu
  ·rw [hlen]; simp only [maxLen] at hm; omega
theorem opened_rows {t e q : TypeId} {v : Value} {x : DataW H × List MemPlace} (ht : P.underlying t = some (.slice e)) (he : P.underlying e = some (.slice q)) (hq : P.underlying q = some (.int .i64)) (ce : P.cellsOf e = 1) (cq : P.cellsOf q = 1) (h : DataW.trod enc P w base (fun _ => true) held fuel t [v] = some x) :
  ∃ A l c, v = .slice A l.length c ∧ (Kd.slice 2 (Kd.int .i64)).C w A l.length l ∧ l.length ≤ c ∧ WfLL l := by
 rcases open_slice1 ht ce h with ⟨hcs, _⟩ | ⟨a, l, c, m, n, V, D, Pl, hcs, _, hl, hm, hmm, _, hx⟩
 ·refine ⟨none, [], 0, by simpa using hcs, ⟨rfl, by simp, fun h => by simp at h⟩, by simp, by simp [WfLL]⟩
 ·simp only [if_true] at hmm
  subst hmm
  have each : ∀ r, r < m → ∃ y : Option Addr × List Int × Nat, V r = .slice y.1 y.2.1.length y.2.2 ∧ (Kd.int .i64).C w y.1 y.2.1.length y.2.1 ∧ y.2.1.length ≤ y.2.2 ∧ WfL y.2.1 := by
   intro r hr
   obtain ⟨A, l, c, h1, h2, h3, h4⟩ := opened_ints he hq cq (hx r hr).2
   exact ⟨(A, l, c), h1, h2, h3, h4⟩
  obtain ⟨y, hy⟩ := choose_lt each
  have hlen : ((List.range l).map fun r => (y r).2.1).length = l := by simp
  refine ⟨some a, (List.range l).map fun r => (y r).2.1, m, by rw [hlen]; simpa using hcs, ⟨rfl, by rw [hlen]; simp only [maxLen] at hm; omega, fun _ => ⟨a, rfl, fun j p hj => ?_⟩⟩, by omega, ?_, ?_⟩
  ·have hjl : j < l := by have := (List.getElem?_eq_some_iff.1 hj).1; omega
   rw [List.getElem?_map, List.getElem?_range hjl] at hj
   simp only [Option.map_some, Option.some.injEq] at hj
   subst hj
   obtain ⟨h1, h2, h3, h4⟩ := hy j (by omega)
   refine ⟨[.slice (y j).1 (y j).2.1.length (y j).2.2], rfl, ⟨_, _, rfl, h3, h2⟩, fun i u hu => ?_⟩
   cases i with
   | zero =>
    simp only [List.getElem?_cons_zero, Option.some.injEq] at hu
    subst hu
    rw [Nat.add_zero, show j * (Kd.slice 2 (Kd.int .i64)).sz = j from Nat.mul_one j, (hx j (by omega)).1, h1]
   | succ i => simp at hu
  ·rw [hlen]; simp only [maxLen] at hm; omega
  ·intro r hr
   simp only [List.mem_map, List.mem_range] at hr
   obtain ⟨j, hj, rfl⟩ := hr
   exact (hy j (by omega)).2.2.2

theorem open_agg1 {r : Reach} {b0 : Nat} {t : TypeId} {f0 : Field} {v : Value} {d : DataW H} {p : List MemPlace} (hs : P.underlying t = some (.struct #[f0])) (hone : oneCellFields P #[f0] = true) (hC : P.cellsOf t = 1)
  (hv : Value.okWide P w r b0 t v) (h : DataW.Trod enc P w base (fun _ => true) held t v d p) :
  ∃ (v0 : Value) (y0 : DataW H × List MemPlace) (n : Nat), v = .agg #[v0] ∧ DataW.trod enc P w base (fun _ => true) held n f0.type [v0] = some y0 := by
 obtain ⟨cs, rfl, hsz⟩ := okWide_struct hs hv
 obtain ⟨c0, rfl⟩ : ∃ c0, cs = #[c0] := by
  have h1 : cs.size = 1 := hsz.trans hC
  match cs, h1 with | ⟨[c0]⟩, _ => exact ⟨c0, rfl⟩
 obtain ⟨fuel, hf⟩ := h
 obtain ⟨y0, n, hx, _, h0⟩ := trod_struct1 hs hf
 obtain ⟨o0, k0⟩ := hone_of hone 0 f0 rfl
 exact ⟨c0, y0, n, rfl, by simpa [Value.cells, o0, k0] using h0⟩
end
theorem own : ownKnob Try.prog.godebug = none := by kernel_rfl
theorem laidOut : laidOutB Try.prog = true := by kernel_rfl
end Go.Proofs.Ytabbkjgbdpcopaa.B

set_option linter.unusedVariables false
set_option linter.unusedSimpArgs false
namespace Go.Proofs.Ytabbkjgbdpcopaa.B
open Go.RowKit Go.Proofs.YtabbkjgbdpcopaaW.PrintWords

theorem ev_pos {α : Type} {c : Prop} [Decidable c] {t f : Nat → Option α} {r : α} (h : c) (e : Ev t r) : Ev (fun k => if c then t k else f k) r := by
 simp only [if_pos h]; exact e
theorem ev_neg {α : Type} {c : Prop} [Decidable c] {t f : Nat → Option α} {r : α} (h : ¬ c) (e : Ev f r) : Ev (fun k => if c then t k else f k) r := by
 simp only [if_neg h]; exact e
theorem ev_const {α : Type} {x : Option α} {r : α} (h : x = some r) : Ev (fun _ => x) r := ⟨0, fun _ _ => h⟩
theorem ev_eq {α : Type} {g : Nat → Option α} {r r' : α} (h : Ev g r) (e : r = r') : Ev g r' := e ▸ h
def Le {α : Type} (g f : Nat → Option α) : Prop := ∀ r, Ev g r → Ev f r
theorem Le.refl {α : Type} (g : Nat → Option α) : Le g g := fun _ h => h
theorem Le.trans {α : Type} {g f e : Nat → Option α} (h : Le g f) (h' : Le f e) : Le g e := fun r hr => h' r (h r hr)

def iter {σ : Type} (F : Nat → σ → σ) : Nat → Nat → σ → σ
 | _, 0, s => s
 | i, d + 1, s => iter F (i + 1) d (F i s)
theorem le_iter {σ β : Type} (L : σ → Nat → Nat → Option β) (F : Nat → σ → σ) : ∀ (d i : Nat) (s : σ), (∀ j s, i ≤ j → j < i + d → Le (L (F j s) (j + 1)) (L s j)) → Le (L (iter F i d s) (i + d)) (L s i)
 | 0, i, s, _ => Le.refl _
 | d + 1, i, s, h => by
  have ih := le_iter L F d (i + 1) (F i s) (fun j s h1 h2 => h j s (by omega) (by omega))
  rw [show i + 1 + d = i + (d + 1) by omega] at ih
  exact ih.trans (h i s (Nat.le_refl _) (by omega))
theorem le_iter_inv {σ β : Type} (L : σ → Nat → Nat → Option β) (F : Nat → σ → σ) (I : Nat → σ → Prop) : ∀ (d i : Nat) (s : σ), I i s → (∀ j s, i ≤ j → j < i + d → I j s → Le (L (F j s) (j + 1)) (L s j) ∧ I (j + 1) (F j s)) → Le (L (iter F i d s) (i + d)) (L s i) ∧ I (i + d) (iter F i d s)
 | 0, i, s, hI, _ => ⟨Le.refl _, hI⟩
 | d + 1, i, s, hI, h => by
  obtain ⟨h0, hI1⟩ := h i s (Nat.le_refl _) (by omega) hI
  have ih := le_iter_inv L F I d (i + 1) (F i s) hI1 (fun j s h1 h2 => h j s (by omega) (by omega))
  rw [show i + 1 + d = i + (d + 1) by omega] at ih
  exact ⟨ih.1.trans h0, ih.2⟩
theorem iter_inv {σ : Type} (F : Nat → σ → σ) (I : Nat → σ → Prop) : ∀ (d i : Nat) (s : σ), I i s → (∀ j s, i ≤ j → j < i + d → I j s → I (j + 1) (F j s)) → I (i + d) (iter F i d s)
 | 0, i, s, hI, _ => hI
 | d + 1, i, s, hI, h => by
  have ih := iter_inv F I d (i + 1) (F i s) (h i s (Nat.le_refl _) (by omega) hI) (fun j s h1 h2 => h j s (by omega) (by omega))
  rw [show i + 1 + d = i + (d + 1) by omega] at ih
  exact ih
theorem iter_congr {σ : Type} {F G : Nat → σ → σ} : ∀ (d i : Nat) (s : σ), (∀ j s, i ≤ j → j < i + d → F j s = G j s) → iter F i d s = iter G i d s
 | 0, i, s, _ => rfl
 | d + 1, i, s, h => by
  simp only [iter]
  rw [h i s (Nat.le_refl _) (by omega)]
  exact iter_congr d (i + 1) _ (fun j s h1 h2 => h j s (by omega) (by omega))
theorem iter_add {σ : Type} (F : Nat → σ → σ) : ∀ (d e i : Nat) (s : σ), iter F i (d + e) s = iter F (i + d) e (iter F i d s)
 | 0, e, i, s => by simp [iter]
 | d + 1, e, i, s => by
  rw [show d + 1 + e = d + e + 1 by omega]
  simp only [iter]
  rw [iter_add F d e (i + 1) (F i s), show i + 1 + d = i + (d + 1) by omega]
theorem iter_last {σ : Type} (F : Nat → σ → σ) (d i : Nat) (s : σ) : iter F i (d + 1) s = F (i + d) (iter F i d s) := by
 rw [iter_add F d 1 i s]; rfl
theorem ev_find {β : Type} {r : β} (L : Nat → Nat → Option β) (p : Nat → Bool) : ∀ (d i : Nat), (∀ j, i ≤ j → j < i + d → p j = false → Le (L (j + 1)) (L j)) →
  (∀ j, i ≤ j → j < i + d → p j = true → (∀ m, i ≤ m → m < j → p m = false) → Ev (L j) r) → ((∀ m, i ≤ m → m < i + d → p m = false) → Ev (L (i + d)) r) → Ev (L i) r
 | 0, i, _, _, he => he (fun m h1 h2 => by omega)
 | d + 1, i, h0, h1, he => by
  cases hp : p i with
  | true => exact h1 i (Nat.le_refl _) (by omega) hp (fun m h1 h2 => by omega)
  | false =>
   refine h0 i (Nat.le_refl _) (by omega) hp r (ev_find L p d (i + 1) (fun j a b => h0 j (by omega) (by omega)) (fun j a b c e => h1 j (by omega) (by omega) c (fun m u v => ?_)) (fun e => ?_))
   ·rcases Nat.eq_or_lt_of_le u with rfl | u
    ·exact hp
    ·exact e m u v
   ·rw [show i + 1 + d = i + (d + 1) by omega]
    refine he (fun m u v => ?_)
    rcases Nat.eq_or_lt_of_le u with rfl | u
    ·exact hp
    ·exact e m u (by omega)
theorem all_range {α : Type} (xs : List α) (z : α) (p : α → Bool) : (List.range xs.length).all (fun i => p (xs.getD i z)) = xs.all p := by
 rw [Bool.eq_iff_iff, List.all_eq_true, List.all_eq_true]
 constructor
 ·intro h x hx
  obtain ⟨i, hi, rfl⟩ := List.mem_iff_getElem.1 hx
  have := h i (List.mem_range.2 hi)
  rwa [List.getD_eq_getElem?_getD, List.getElem?_eq_getElem hi] at this
 ·intro h i hi
  have hi := List.mem_range.1 hi
  rw [List.getD_eq_getElem?_getD, List.getElem?_eq_getElem hi]
  exact h _ (List.getElem_mem hi)
theorem ev_all (L : Nat → Nat → Option Bool) (p : Nat → Bool) (n : Nat) (h1 : ∀ j, j < n → p j = true → Le (L (j + 1)) (L j)) (h0 : ∀ j, j < n → p j = false → Ev (L j) false) (he : Ev (L n) true) : Ev (L 0) ((List.range n).all p) := by
 refine ev_find L (fun j => !p j) n 0 (fun j _ hj hp => h1 j (by omega) (by simpa using hp)) (fun j _ hj hp _ => ?_) (fun h => ?_)
 ·have hp' : p j = false := by simpa using hp
  have : (List.range n).all p = false := by
   rw [Bool.eq_false_iff]
   intro h
   have := List.all_eq_true.1 h j (List.mem_range.2 (by omega))
   rw [hp'] at this; cases this
  rw [this]
  exact h0 j (by omega) hp'
 ·have : (List.range n).all p = true := List.all_eq_true.2 (fun j hj => by simpa using h j (Nat.zero_le _) (by have := List.mem_range.1 hj; omega))
  rw [this, Nat.zero_add]
  exact he
theorem ev_all_list {α : Type} (xs : List α) (z : α) (L : Nat → Nat → Option Bool) (p : α → Bool) (h1 : ∀ j, j < xs.length → p (xs.getD j z) = true → Le (L (j + 1)) (L j)) (h0 : ∀ j, j < xs.length → p (xs.getD j z) = false → Ev (L j) false) (he : Ev (L xs.length) true) : Ev (L 0) (xs.all p) := by
 rw [← all_range xs z]
 exact ev_all L (fun j => p (xs.getD j z)) xs.length h1 h0 he
theorem least {q : Nat → Prop} (h : ∃ j, q j) : ∃ j, q j ∧ ∀ m, m < j → ¬ q m := by
 obtain ⟨j, hj⟩ := h
 induction j using Nat.strongRecOn with
 | _ j ih =>
  by_cases hm : ∃ m, m < j ∧ q m
  ·obtain ⟨m, h1, h2⟩ := hm
   exact ih m h1 h2
  ·exact ⟨j, hj, fun m h1 h2 => hm ⟨m, h1, h2⟩⟩
theorem ev_index (L : Nat → Nat → Option Int) (p : Nat → Bool) (n : Nat) (h0 : ∀ j, j < n → p j = false → Le (L (j + 1)) (L j)) (h1 : ∀ j, j < n → p j = true → Ev (L j) (j : Int)) (he : Ev (L n) (-1)) : ∃ t : Int, Ev (L 0) t ∧ decide (t ≥ 0) = (List.range n).any p := by
 by_cases h : ∃ j, j < n ∧ p j = true
 ·obtain ⟨j, ⟨hj, hp⟩, hmin⟩ : ∃ j, (j < n ∧ p j = true) ∧ ∀ m, m < j → ¬ (m < n ∧ p m = true) := by
   exact least h
  refine ⟨j, ?_, ?_⟩
  ·refine ev_find L p n 0 (fun i _ hi hpi => h0 i (by omega) hpi) (fun i _ hi hpi hbef => ?_) (fun hall => ?_)
   ·have : i = j := by
     rcases Nat.lt_trichotomy i j with hlt | he | hlt
     ·exact absurd ⟨by omega, hpi⟩ (hmin i hlt)
     ·exact he
     ·have := hbef j (Nat.zero_le _) hlt; rw [hp] at this; cases this
    subst this
    exact h1 i hj hp
   ·have := hall j (Nat.zero_le _) (by omega); rw [hp] at this; cases this
  ·have : (List.range n).any p = true := List.any_eq_true.2 ⟨j, List.mem_range.2 hj, hp⟩
   rw [this]; simp
 ·have hno : ∀ j, j < n → p j = false := fun j hj => by
   cases hp : p j with
   | true => exact absurd ⟨j, hj, hp⟩ h
   | false => rfl
  refine ⟨-1, ?_, ?_⟩
  ·refine ev_find L p n 0 (fun i _ hi hpi => h0 i (by omega) hpi) (fun i _ hi hpi hbef => ?_) (fun _ => by rw [Nat.zero_add]; exact he)
   have := hno i (by omega); rw [hpi] at this; cases this
  ·have : (List.range n).any p = false := by
    rw [Bool.eq_false_iff]
    intro hc
    obtain ⟨j, hj, hp⟩ := List.any_eq_true.1 hc
    have := hno j (List.mem_range.1 hj); rw [hp] at this; cases this
   rw [this]; rfl
theorem any_range {α : Type} (xs : List α) (z : α) (p : α → Bool) : (List.range xs.length).any (fun i => p (xs.getD i z)) = xs.any p := by
 have h := all_range xs z (fun x => !p x)
 rw [List.any_eq_not_all_not, List.any_eq_not_all_not, h]
theorem ev_index_list {α : Type} (xs : List α) (z : α) (L : Nat → Nat → Option Int) (p : α → Bool) (h0 : ∀ j, j < xs.length → p (xs.getD j z) = false → Le (L (j + 1)) (L j)) (h1 : ∀ j, j < xs.length → p (xs.getD j z) = true → Ev (L j) (j : Int)) (he : Ev (L xs.length) (-1)) : ∃ t : Int, Ev (L 0) t ∧ decide (t ≥ 0) = xs.any p := by
 rw [← any_range xs z]
 exact ev_index L (fun j => p (xs.getD j z)) xs.length h0 h1 he
theorem wrap_small {x : Int} (h0 : -9223372036854775808 ≤ x) (h1 : x ≤ 9223372036854775807) : wrap64 x = x := by
 unfold wrap64; omega
theorem wrap_succ {i : Nat} (h : i < 9223372036854775807) : wrap64 ((i : Int) + 1) = ((i + 1 : Nat) : Int) := by
 unfold wrap64; omega
theorem rd_nat (xs : List Int) (i : Nat) : rd xs (i : Int) = xs.getD i 0 := by simp [rd]
theorem rdOf_nat {α : Type} (z : α) (xs : List α) (i : Nat) : rdOf z xs (i : Int) = xs.getD i z := by simp [rdOf]

theorem set_prefix {α : Type} (l : List α) (i : Nat) (z : α) (hi : i < l.length) (y : α) (hy : y = l.getD i z) : (l.take i ++ List.replicate (l.length - i) z).set i y = l.take (i + 1) ++ List.replicate (l.length - (i + 1)) z := by
 have h1 : (l.take i).length = i := by rw [List.length_take]; omega
 rw [List.set_append_right _ _ (by omega), h1, Nat.sub_self, show l.length - i = (l.length - (i + 1)) + 1 by omega, List.replicate_succ, List.set_cons_zero, List.take_succ_eq_append_getElem hi, List.append_assoc]
 subst hy
 simp [List.getElem?_eq_getElem hi]

def markInts : List Int → Int → List Int
 | [], _ => []
 | _ :: l, a => a :: markInts l (a + 1)
def markRows : List (List Int) → Int → List (List Int)
 | [], _ => []
 | l :: ls, a => markInts l a :: markRows ls (a + l.length)
def total : List (List Int) → Int
 | [] => 0
 | l :: ls => l.length + total ls
theorem total_nonneg : ∀ ls, 0 ≤ total ls
 | [] => Int.le_refl _
 | l :: ls => by have := total_nonneg ls; simp only [total]; omega
theorem total_append : ∀ l m : List (List Int), total (l ++ m) = total l + total m
 | [], m => by simp [total]
 | x :: l, m => by simp only [List.cons_append, total, total_append l m]; omega
theorem markInts_length : ∀ (l : List Int) (a : Int), (markInts l a).length = l.length
 | [], _ => rfl
 | _ :: l, a => by simp [markInts, markInts_length l]
theorem markRows_length : ∀ (l : List (List Int)) (a : Int), (markRows l a).length = l.length
 | [], _ => rfl
 | _ :: l, a => by simp [markRows, markRows_length l]
theorem markInts_append : ∀ (l m : List Int) (a : Int), markInts (l ++ m) a = markInts l a ++ markInts m (a + l.length)
 | [], m, a => by simp [markInts]
 | _ :: l, m, a => by simp only [List.cons_append, markInts, markInts_append l m, List.length_cons]; congr 3; push_cast; omega
theorem markRows_append : ∀ (l m : List (List Int)) (a : Int), markRows (l ++ m) a = markRows l a ++ markRows m (a + total l)
 | [], m, a => by simp [markRows, total]
 | x :: l, m, a => by simp only [List.cons_append, markRows, markRows_append l m, total]; congr 3; omega

end Go.Proofs.Ytabbkjgbdpcopaa.B

set_option linter.unusedVariables false
set_option linter.unusedSimpArgs false
namespace Go.Proofs.Ytabbkjgbdpcopaa.B
open Go.RowKit Go.Proofs.YtabbkjgbdpcopaaW.PrintWords

theorem szInt64S_val (l : List Int) (a : Int) (h0 : 0 ≤ a) (h1 : a ≤ 9223372036854775807) (hl : l.length ≤ 9223372036854775807) : laws_szInt64S.f l a = some (if a - l.length < 0 then -1 else a - l.length) := by
 unfold laws_szInt64S.f
 have e : wrap64 (a - (l.length : Int)) = a - l.length := wrap_small (by omega) (by omega)
 rw [e]
 split <;> rfl
theorem szInt64SS_ev (l : List (List Int)) (a : Int) (hw : WfLL l) (h0 : 0 ≤ a) (h1 : a ≤ 9223372036854775807) :
  (∃ t, Ev (fun k => laws_szInt64SS.f k l a) t ∧ t < 0) ∨ (Ev (fun k => laws_szInt64SS.f k l a) (a - l.length - total l) ∧ l.length + total l ≤ a) := by
 have loop : ∀ (d i : Nat) (b : Int), d + i = l.length → 0 ≤ b → b ≤ 9223372036854775807 → (∃ t, Ev (fun k => laws_szInt64SS.l0 k l b (i : Int)) t ∧ t < 0) ∨ (Ev (fun k => laws_szInt64SS.l0 k l b (i : Int)) (b - total (l.drop i)) ∧ total (l.drop i) ≤ b) := by
  intro d
  induction d with
  | zero =>
   intro i b hd hb0 hb1
   right
   have hi : l.length = i := by omega
   rw [List.drop_of_length_le (by omega)]
   refine ⟨Ev.step (fun k => laws_szInt64SS.l0.eq_2 ..) (ev_neg (by omega) (ev_eq (Ev.now b) (by simp [total]))), by simpa [total] using hb0⟩
  | succ d ih =>
   intro i b hd hb0 hb1
   have hi : i < l.length := by omega
   have hdr : l.drop i = l.getD i [] :: l.drop (i + 1) := by
    rw [List.drop_eq_getElem_cons hi, List.getD_eq_getElem?_getD, List.getElem?_eq_getElem hi]; rfl
   have hm : l.getD i [] ∈ l := by
    rw [List.getD_eq_getElem?_getD, List.getElem?_eq_getElem hi]; exact List.getElem_mem hi
   have hrl := (hw.2 _ hm).1
   have hv := szInt64S_val (l.getD i []) b hb0 hb1 hrl
   have hrd : rd_ListInt l (i : Int) = l.getD i [] := by simp [rd_ListInt]
   have hlen : l.length ≤ 9223372036854775807 := hw.1
   by_cases hneg : b - ((l.getD i []).length : Int) < 0
   ·left
    rw [if_pos hneg] at hv
    refine ⟨-1, Ev.step (fun k => laws_szInt64SS.l0.eq_2 ..) (ev_pos (by omega) (ev_pos (by omega) ?_)), by omega⟩
    rw [hrd]
    exact Ev.bind (ev_const hv) (ev_pos (by omega) (Ev.now _))
   ·rw [if_neg hneg] at hv
    rcases ih (i + 1) (b - ((l.getD i []).length : Int)) (by omega) (by omega) (by omega) with ⟨t, ht, htn⟩ | ⟨ht, htb⟩
    ·left
     refine ⟨t, Ev.step (fun k => laws_szInt64SS.l0.eq_2 ..) (ev_pos (by omega) (ev_pos (by omega) ?_)), htn⟩
     rw [hrd, wrap_succ (by omega)]
     exact Ev.bind (ev_const hv) (ev_neg (by omega) ht)
    ·right
     rw [hdr]
     simp only [total]
     refine ⟨Ev.step (fun k => laws_szInt64SS.l0.eq_2 ..) (ev_pos (by omega) (ev_pos (by omega) ?_)), by omega⟩
     rw [hrd, wrap_succ (by omega)]
     exact Ev.bind (ev_const hv) (ev_neg (by omega) (ev_eq ht (by omega)))
 have hlen : l.length ≤ 9223372036854775807 := hw.1
 have e : wrap64 (a - (l.length : Int)) = a - l.length := wrap_small (by omega) (by omega)
 by_cases hneg : a - (l.length : Int) < 0
 ·left
  refine ⟨-1, ?_, by omega⟩
  unfold laws_szInt64SS.f
  rw [e]
  exact ev_pos hneg (Ev.now _)
 ·rcases loop l.length 0 (a - l.length) (by omega) (by omega) (by omega) with ⟨t, ht, htn⟩ | ⟨ht, htb⟩
  ·left
   refine ⟨t, ?_, htn⟩
   unfold laws_szInt64SS.f
   rw [e]
   exact ev_neg hneg ht
  ·right
   refine ⟨?_, by simp only [List.drop_zero] at htb; omega⟩
   unfold laws_szInt64SS.f
   rw [e]
   exact ev_neg hneg ht

theorem toInt64S_ev (l : List Int) (hl : l.length ≤ 1048576) : Ev (fun k => laws_toInt64S.f k l) l := by
 have h := le_iter_inv (fun (s : List Int) (i : Nat) k => laws_toInt64S.l0 k l s (i : Int)) (fun i s => s.set i (l.getD i 0)) (fun i s => s = l.take i ++ List.replicate (l.length - i) 0) l.length 0 (List.replicate l.length 0) (by simp) (by
  intro j s _ hj hs
  refine ⟨fun r hr => Ev.step (fun k => laws_toInt64S.l0.eq_2 ..) (ev_pos (by omega) (ev_pos (by omega) (ev_pos ?_ ?_))), ?_⟩
  ·subst hs; simp only [List.length_append, List.length_take, List.length_replicate]; omega
  ·rw [wrap_succ (by omega), rd_nat, Int.toNat_natCast]; exact hr
  ·subst hs; exact set_prefix l j 0 (by omega) _ rfl)
 unfold laws_toInt64S.f
 refine ev_pos (by omega) (ev_pos (by omega) ?_)
 rw [Int.toNat_natCast]
 refine h.1 l (Ev.step (fun k => laws_toInt64S.l0.eq_2 ..) (ev_neg (by omega) (ev_eq (Ev.now _) ?_)))
 rw [h.2]
 simp
theorem toInt64SS_ev (l : List (List Int)) (hl : l.length ≤ 1048576) (hr : ∀ x ∈ l, x.length ≤ 1048576) : Ev (fun k => laws_toInt64SS.f k l) l := by
 have h := le_iter_inv (fun (s : List (List Int)) (i : Nat) k => laws_toInt64SS.l0 k l s (i : Int)) (fun i s => s.set i (l.getD i [])) (fun i s => s = l.take i ++ List.replicate (l.length - i) []) l.length 0 (List.replicate l.length []) (by simp) (by
  intro j s _ hj hs
  have hm : l.getD j [] ∈ l := by
   rw [List.getD_eq_getElem?_getD, List.getElem?_eq_getElem (by omega)]; exact List.getElem_mem _
  have hrd : rd_ListInt l (j : Int) = l.getD j [] := by simp [rd_ListInt]
  refine ⟨fun r hr' => Ev.step (fun k => laws_toInt64SS.l0.eq_2 ..) (ev_pos (by omega) (ev_pos (by omega) ?_)), ?_⟩
  ·rw [hrd]
   refine Ev.bind (toInt64S_ev _ (hr _ hm)) (ev_pos ?_ ?_)
   ·subst hs; simp only [List.length_append, List.length_take, List.length_replicate]; omega
   ·rw [wrap_succ (by omega), Int.toNat_natCast]; exact hr'
  ·subst hs; exact set_prefix l j [] (by omega) _ rfl)
 unfold laws_toInt64SS.f
 refine ev_pos (by omega) (ev_pos (by omega) ?_)
 rw [Int.toNat_natCast]
 refine h.1 l (Ev.step (fun k => laws_toInt64SS.l0.eq_2 ..) (ev_neg (by omega) (ev_eq (Ev.now _) ?_)))
 rw [h.2]
 simp

theorem list_eq_range {α : Type} [BEq α] [LawfulBEq α] (l m : List α) (z : α) (h : l.length = m.length) : (List.range l.length).all (fun i => l.getD i z == m.getD i z) = (l == m) := by
 rw [Bool.eq_iff_iff, List.all_eq_true, beq_iff_eq]
 constructor
 ·intro e
  apply List.ext_getElem h
  intro i h1 h2
  have := e i (List.mem_range.2 h1)
  simpa [List.getD_eq_getElem?_getD, List.getElem?_eq_getElem h1, List.getElem?_eq_getElem h2] using this
 ·rintro rfl i _
  exact beq_self_eq_true _
theorem len_ne_beq {α : Type} [BEq α] [LawfulBEq α] {l m : List α} (h : l.length ≠ m.length) : (l == m) = false := by
 rw [Bool.eq_false_iff]; intro e; exact h (by rw [eq_of_beq e])
theorem eqInt64S_ev (l m : List Int) (hl : l.length < 9223372036854775807) : Ev (fun k => laws_eqInt64S.f k l m) (l == m) := by
 unfold laws_eqInt64S.f
 by_cases h : l.length = m.length
 ·refine ev_pos (by omega) ?_
  rw [← list_eq_range l m 0 h]
  refine ev_all (fun (i : Nat) k => laws_eqInt64S.l0 k l m (i : Int)) _ l.length (fun j hj hp r hr => ?_) (fun j hj hp => ?_) ?_
  ·refine Ev.step (fun k => laws_eqInt64S.l0.eq_2 ..) (ev_pos (by omega) (ev_pos (by omega) (ev_pos (by omega) (ev_pos ?_ ?_))))
   ·rw [rd_nat, rd_nat]; exact eq_of_beq hp
   ·rw [wrap_succ (by omega)]; exact hr
  ·refine Ev.step (fun k => laws_eqInt64S.l0.eq_2 ..) (ev_pos (by omega) (ev_pos (by omega) (ev_pos (by omega) (ev_neg ?_ (Ev.now _)))))
   rw [rd_nat, rd_nat]; exact ne_of_beq_false hp
  ·exact Ev.step (fun k => laws_eqInt64S.l0.eq_2 ..) (ev_neg (by omega) (Ev.now _))
 ·rw [len_ne_beq h]
  exact ev_neg (by omega) (Ev.now _)
theorem eqInt64SS_ev (l m : List (List Int)) (hl : l.length < 9223372036854775807) (hr : ∀ x ∈ l, x.length < 9223372036854775807) : Ev (fun k => laws_eqInt64SS.f k l m) (l == m) := by
 unfold laws_eqInt64SS.f
 by_cases h : l.length = m.length
 ·refine ev_pos (by omega) ?_
  rw [← list_eq_range l m [] h]
  have hm : ∀ j, j < l.length → Ev (fun k => laws_eqInt64S.f k (rd_ListInt l (j : Int)) (rd_ListInt m (j : Int))) (l.getD j [] == m.getD j []) := fun j hj => by
   have h1 : rd_ListInt l (j : Int) = l.getD j [] := by simp [rd_ListInt]
   have h2 : rd_ListInt m (j : Int) = m.getD j [] := by simp [rd_ListInt]
   rw [h1, h2]
   refine eqInt64S_ev _ _ (hr _ ?_)
   rw [List.getD_eq_getElem?_getD, List.getElem?_eq_getElem hj]; exact List.getElem_mem hj
  refine ev_all (fun (i : Nat) k => laws_eqInt64SS.l0 k l m (i : Int)) _ l.length (fun j hj hp r hr => ?_) (fun j hj hp => ?_) ?_
  ·refine Ev.step (fun k => laws_eqInt64SS.l0.eq_2 ..) (ev_pos (by omega) (ev_pos (by omega) (ev_pos (by omega) (Ev.bind (hm j hj) (ev_pos hp ?_)))))
   rw [wrap_succ (by omega)]; exact hr
  ·exact Ev.step (fun k => laws_eqInt64SS.l0.eq_2 ..) (ev_pos (by omega) (ev_pos (by omega) (ev_pos (by omega) (Ev.bind (hm j hj) (ev_neg (by rw [hp]; decide) (Ev.now _))))))
  ·exact Ev.step (fun k => laws_eqInt64SS.l0.eq_2 ..) (ev_neg (by omega) (Ev.now _))
 ·rw [len_ne_beq h]
  exact ev_neg (by omega) (Ev.now _)
end Go.Proofs.Ytabbkjgbdpcopaa.B

set_option linter.unusedVariables false
set_option linter.unusedSimpArgs false
namespace Go.Proofs.Ytabbkjgbdpcopaa.B
open Go.RowKit Go.Proofs.YtabbkjgbdpcopaaW.PrintWords

theorem within_val (a b c : Int) : impl_within.f a b c = some (decide (b ≤ a) && decide (a ≤ c)) := by
 unfold impl_within.f
 by_cases h : a ≥ b
 ·rw [if_pos h]; simp [h]
 ·rw [if_neg h]; simp; omega
theorem in_val (a b c : Int) : spec_l00In.f a b c = some (decide (b ≤ a) && decide (a ≤ c)) := by
 unfold spec_l00In.f
 by_cases h : a ≥ b
 ·rw [if_pos h]; simp [h]
 ·rw [if_neg h]; simp; omega

theorem getD_mem {α : Type} {l : List α} {i : Nat} (z : α) (h : i < l.length) : l.getD i z ∈ l := by
 rw [List.getD_eq_getElem?_getD, List.getElem?_eq_getElem h]; exact List.getElem_mem h

theorem rdl_nat (l : List (List Int)) (i : Nat) : rd_ListInt l (i : Int) = l.getD i [] := by simp [rd_ListInt]

end Go.Proofs.Ytabbkjgbdpcopaa.B

set_option linter.unusedVariables false
set_option linter.unusedSimpArgs false
namespace Go.Proofs.Ytabbkjgbdpcopaa.B
open Go.RowKit Go.Proofs.YtabbkjgbdpcopaaW.PrintWords

theorem slicesEqual_ev (l m : List Int) (hl : l.length < 9223372036854775807) : Ev (fun k => slices_Equal_int64_int64.f k l m) (l == m) := by
 unfold slices_Equal_int64_int64.f
 by_cases h : l.length = m.length
 ·refine ev_pos (by omega) ?_
  rw [← list_eq_range l m 0 h]
  refine ev_all (fun (i : Nat) k => slices_Equal_int64_int64.l0 k l m (l.length : Int) (i : Int)) _ l.length (fun j hj hp r hr => ?_) (fun j hj hp => ?_) ?_
  ·refine Ev.step (fun k => slices_Equal_int64_int64.l0.eq_2 ..) ?_
   refine ev_pos (by omega) (ev_pos (by omega) (ev_pos (by omega) (ev_pos (by omega) (ev_pos ?_ ?_))))
   ·rw [rd_nat, rd_nat]; exact eq_of_beq hp
   ·rw [wrap_succ (by omega)]; exact hr
  ·refine Ev.step (fun k => slices_Equal_int64_int64.l0.eq_2 ..) ?_
   refine ev_pos (by omega) (ev_pos (by omega) (ev_pos (by omega) (ev_pos (by omega) (ev_neg ?_ (Ev.now _)))))
   rw [rd_nat, rd_nat]; exact ne_of_beq_false hp
  ·refine Ev.step (fun k => slices_Equal_int64_int64.l0.eq_2 ..) ?_
   exact ev_neg (by omega) (Ev.now _)
 ·rw [len_ne_beq h]
  exact ev_neg (by omega) (Ev.now _)
theorem areSame_ev (l m : List (List Int)) (hl : l.length < 9223372036854775807) (hr : ∀ x ∈ l, x.length < 9223372036854775807) : Ev (fun k => impl_areSame.f k l m) (l == m) := by
 unfold impl_areSame.f slices_EqualFunc_int64_int64_int64_int64_at_slices_Equal_int64_int64.f
 refine Ev.bind (a := (l == m)) ?_ (Ev.now _)
 by_cases h : l.length = m.length
 ·refine ev_pos (by omega) ?_
  rw [← list_eq_range l m [] h]
  have hm : ∀ j, j < l.length → Ev (fun k => slices_Equal_int64_int64.f k (rd_ListInt l (j : Int)) (rd_ListInt m (j : Int))) (l.getD j [] == m.getD j []) := fun j hj => by
   rw [rdl_nat, rdl_nat]
   exact slicesEqual_ev _ _ (hr _ (getD_mem [] hj))
  refine ev_all (fun (i : Nat) k => slices_EqualFunc_int64_int64_int64_int64_at_slices_Equal_int64_int64.l0 k m l (l.length : Int) (i : Int)) _ l.length (fun j hj hp r hr => ?_) (fun j hj hp => ?_) ?_
  ·refine Ev.step (fun k => slices_EqualFunc_int64_int64_int64_int64_at_slices_Equal_int64_int64.l0.eq_2 ..) ?_
   refine ev_pos (by omega) (ev_pos (by omega) (ev_pos (by omega) (ev_pos (by omega) (Ev.bind (hm j hj) (ev_pos hp ?_)))))
   rw [wrap_succ (by omega)]; exact hr
  ·refine Ev.step (fun k => slices_EqualFunc_int64_int64_int64_int64_at_slices_Equal_int64_int64.l0.eq_2 ..) ?_
   exact ev_pos (by omega) (ev_pos (by omega) (ev_pos (by omega) (ev_pos (by omega) (Ev.bind (hm j hj) (ev_neg (by rw [hp]; decide) (Ev.now _))))))
  ·refine Ev.step (fun k => slices_EqualFunc_int64_int64_int64_int64_at_slices_Equal_int64_int64.l0.eq_2 ..) ?_
   exact ev_neg (by omega) (Ev.now _)
 ·rw [len_ne_beq h]
  exact ev_neg (by omega) (Ev.now _)
theorem same_ev (l m : List Int) (hl : l.length < 9223372036854775807) : Ev (fun k => spec_l00Same.f k l m) (l == m) := by
 unfold spec_l00Same.f
 by_cases h : l.length = m.length
 ·refine ev_pos (by omega) ?_
  rw [← list_eq_range l m 0 h]
  refine ev_all (fun (i : Nat) k => spec_l00Same.l0 k l m (i : Int)) _ l.length (fun j hj hp r hr => ?_) (fun j hj hp => ?_) ?_
  ·refine Ev.step (fun k => spec_l00Same.l0.eq_2 ..) ?_
   refine ev_pos (by omega) (ev_pos (by omega) (ev_pos (by omega) (ev_pos ?_ ?_)))
   ·rw [rd_nat, rd_nat]; exact eq_of_beq hp
   ·rw [wrap_succ (by omega)]; exact hr
  ·refine Ev.step (fun k => spec_l00Same.l0.eq_2 ..) ?_
   refine ev_pos (by omega) (ev_pos (by omega) (ev_pos (by omega) (ev_neg ?_ (Ev.now _))))
   rw [rd_nat, rd_nat]; exact ne_of_beq_false hp
  ·refine Ev.step (fun k => spec_l00Same.l0.eq_2 ..) ?_
   exact ev_neg (by omega) (Ev.now _)
 ·rw [len_ne_beq h]
  exact ev_neg (by omega) (Ev.now _)
end Go.Proofs.Ytabbkjgbdpcopaa.B

set_option linter.unusedVariables false
set_option linter.unusedSimpArgs false
namespace Go.Proofs.Ytabbkjgbdpcopaa.B
open Go.RowKit Go.Proofs.YtabbkjgbdpcopaaW.PrintWords

theorem row_le_total : ∀ (l : List (List Int)) (x : List Int), x ∈ l → x.length ≤ total l
 | [], x, h => by cases h
 | y :: l, x, h => by
  simp only [total]
  rcases List.mem_cons.1 h with rfl | h
  ·have := total_nonneg l; omega
  ·have := row_le_total l x h; omega
theorem total_le_of {l : List (List Int)} {m : Nat} (h : ∀ x ∈ l, x.length ≤ m) : total l ≤ l.length * m := by
 induction l with
 | nil => simp [total]
 | cons x l ih =>
  have h1 := h x List.mem_cons_self
  have h2 := ih (fun y hy => h y (List.mem_cons_of_mem _ hy))
  simp only [total, List.length_cons]
  rw [Int.natCast_add, Int.add_mul]
  omega
theorem eqComplex_self (l : List (List Int)) (hl : l.length < 9223372036854775807) (hr : ∀ x ∈ l, x.length < 9223372036854775807) : Ev (fun k => laws_eqComplex.f k l l) true := by
 unfold laws_eqComplex.f
 exact Ev.bind (ev_eq (eqInt64SS_ev l l hl hr) (beq_self_eq_true l)) (ev_pos rfl (Ev.now _))
theorem toComplex_ev (l : List (List Int)) (hl : l.length ≤ 1048576) (hr : ∀ x ∈ l, x.length ≤ 1048576) : Ev (fun k => laws_toComplex.f k l) l := by
 unfold laws_toComplex.f
 exact Ev.bind (toInt64SS_ev l hl hr) (Ev.now _)
theorem szComplex_ev (l : List (List Int)) (b : Int) (hw : WfLL l) (h0 : 0 ≤ b) (h1 : b ≤ 9223372036854775807) :
  (∃ t, Ev (fun k => laws_szComplex.f k l b) t ∧ t < 0) ∨ (Ev (fun k => laws_szComplex.f k l b) (b - l.length - total l) ∧ l.length + total l ≤ b) := by
 unfold laws_szComplex.f
 rcases szInt64SS_ev l b hw h0 h1 with ⟨t, ht, hn⟩ | ⟨ht, hb⟩
 ·exact .inl ⟨-1, Ev.bind ht (ev_pos hn (Ev.now _)), by omega⟩
 ·exact .inr ⟨Ev.bind ht (ev_neg (by omega) (Ev.now _)), hb⟩
end Go.Proofs.Ytabbkjgbdpcopaa.B

set_option linter.unusedVariables false
set_option linter.unusedSimpArgs false
namespace Go.Proofs.Ytabbkjgbdpcopaa.B
open Go.RowKit Go.Proofs.YtabbkjgbdpcopaaW.PrintWords

theorem l05Same_ev (l m : List (List Int)) (hl : l.length < 9223372036854775807) (hr : ∀ x ∈ l, x.length < 9223372036854775807) : Ev (fun k => spec_l05Same.f k l m) (l == m) := by
 unfold spec_l05Same.f
 by_cases h : l.length = m.length
 ·refine ev_pos (by omega) ?_
  rw [← list_eq_range l m [] h]
  have hm : ∀ j, j < l.length → Ev (fun k => spec_l00Same.f k (rd_ListInt l (j : Int)) (rd_ListInt m (j : Int))) (l.getD j [] == m.getD j []) := fun j hj => by
   rw [rdl_nat, rdl_nat]
   exact same_ev _ _ (hr _ (getD_mem [] hj))
  refine ev_all (fun (i : Nat) k => spec_l05Same.l0 k (i : Int) l m) _ l.length (fun j hj hp r hr => ?_) (fun j hj hp => ?_) ?_
  ·refine Ev.step (fun k => spec_l05Same.l0.eq_2 ..) ?_
   refine ev_pos (by omega) (ev_pos (by omega) (ev_pos (by omega) (Ev.bind (hm j hj) (ev_pos hp ?_))))
   rw [wrap_succ (by omega)]; exact hr
  ·refine Ev.step (fun k => spec_l05Same.l0.eq_2 ..) ?_
   exact ev_pos (by omega) (ev_pos (by omega) (ev_pos (by omega) (Ev.bind (hm j hj) (ev_neg (by rw [hp]; decide) (Ev.now _)))))
  ·refine Ev.step (fun k => spec_l05Same.l0.eq_2 ..) ?_
   exact ev_neg (by omega) (Ev.now _)
 ·rw [len_ne_beq h]
  exact ev_neg (by omega) (Ev.now _)
theorem pure_SameComplex {l0 l1 : List (List Int)} (h0 : WfLL l0) (h1 : WfLL l1) : ∃ k, laws_FnExactSameComplex.f k l0 l1 = some true := by
 refine Ev.rounds (g := fun k => laws_FnExactSameComplex.f k l0 l1) ?_
 unfold laws_FnExactSameComplex.f
 rcases szComplex_ev l0 1048576 h0 (by omega) (by omega) with ⟨t, ht, hn⟩ | ⟨ht, hb⟩
 ·exact Ev.bind ht (ev_pos hn (Ev.now _))
 have htn := total_nonneg l0
 refine Ev.bind ht (ev_neg (by omega) ?_)
 rcases szComplex_ev l1 (1048576 - l0.length - total l0) h1 (by omega) (by omega) with ⟨t, ht', hn⟩ | ⟨ht', hb'⟩
 ·exact Ev.bind ht' (ev_pos hn (Ev.now _))
 have htn' := total_nonneg l1
 have hrow : ∀ x ∈ l0, x.length ≤ 1048576 := fun x hx => by have := row_le_total l0 x hx; omega
 have hrow' : ∀ x ∈ l1, x.length ≤ 1048576 := fun x hx => by have := row_le_total l1 x hx; omega
 have hto := toComplex_ev l0 (by omega) hrow
 have hto' := toComplex_ev l1 (by omega) hrow'
 have hlt : l0.length < 9223372036854775807 := by omega
 have hr : ∀ x ∈ l0, x.length < 9223372036854775807 := fun x hx => by have := hrow x hx; omega
 have heq := eqComplex_self l0 hlt hr
 have heq' := eqComplex_self l1 (by omega) (fun x hx => by have := hrow' x hx; omega)
 have hsp : Ev (fun k => spec_SameComplex.f k l0 l1) (l0 == l1) := by
  unfold spec_SameComplex.f
  exact Ev.bind (l05Same_ev l0 l1 hlt hr) (Ev.now _)
 have him : Ev (fun k => impl_SameComplex.f k l0 l1) (l0 == l1) := by
  unfold impl_SameComplex.f
  exact Ev.bind (areSame_ev l0 l1 hlt hr) (Ev.now _)
 refine Ev.bind ht' (ev_neg (by omega) ?_)
 (repeat (first | exact Ev.now _ | refine ev_pos rfl ?_ | refine ev_neg (by simp only []; omega) ?_ | refine ev_neg (by omega) ?_ | refine ev_neg (by simp) ?_ | refine Ev.bind (by assumption) ?_ | refine Ev.bind (ev_const (by assumption)) ?_))
end Go.Proofs.Ytabbkjgbdpcopaa.B

