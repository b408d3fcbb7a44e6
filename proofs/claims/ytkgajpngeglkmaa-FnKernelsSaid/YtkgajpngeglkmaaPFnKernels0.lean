/- What the functions come to, for the law FnKernels. -/
import Derived.Test.YtkgajpngeglkmaaKAMGLJJ0
import Derived.Test.YtkgajpngeglkmaaKAOAHPH0
import Derived.Test.YtkgajpngeglkmaaKGEFCMG0
import Derived.Test.YtkgajpngeglkmaaKHHICCB0
import Derived.Test.YtkgajpngeglkmaaKICBICJ0
import Derived.Test.YtkgajpngeglkmaaKKEPDLE0
import Derived.Test.YtkgajpngeglkmaaKKJBPOK0
import Derived.Test.YtkgajpngeglkmaaKLBBOAD0
import Derived.Test.YtkgajpngeglkmaaKLGGKON0
import Derived.Test.YtkgajpngeglkmaaKLPPPPL0
import Derived.Test.YtkgajpngeglkmaaKMCIMDJ0
import Derived.Test.YtkgajpngeglkmaaKMFOOHB0
import Derived.Test.YtkgajpngeglkmaaKMGFADP0
import Derived.Test.YtkgajpngeglkmaaKMMKMDJ0
import Derived.Test.YtkgajpngeglkmaaKNBLNIL0
import Derived.Test.YtkgajpngeglkmaaKONCMDO0
import Derived.Test.YtkgajpngeglkmaaKONDPAI0
import Derived.Test.YtkgajpngeglkmaaKOOCLJA0
import Derived.Test.YtkgajpngeglkmaaKPIECNI0
import Derived.Test.YtkgajpngeglkmaaKPIHLJJ0
import Derived.Test.YtkgajpngeglkmaaKW0
import Derived.Below
import Derived.ChangeOld
import Derived.Deep.Matrix
import Derived.Lib.SmallJoins
import Derived.OpenShut
import Derived.ProofKit
import Derived.ShutString
import Derived.SizedLaws
import Derived.WalkKit
set_option linter.unusedVariables false
set_option linter.unusedSimpArgs false
namespace Go.Proofs.Ytkgajpngeglkmaa.B
open Go.RowKit Go.ChangeShapes Go.WideShapes Go.Deep Go.Proofs.YtkgajpngeglkmaaW.PrintWords

def Wf (n : Int) : Prop := -9223372036854775808 ≤ n ∧ n ≤ 9223372036854775807
def WfL (l : List Int) : Prop := l.length ≤ 9223372036854775807 ∧ ∀ n ∈ l, Wf n
def WfLL (l : List (List Int)) : Prop := l.length ≤ 9223372036854775807 ∧ ∀ r ∈ l, WfL r
theorem wf_of {n : Int} (h : (Lit.int .i64 n).wf = true) : Wf n := by
 unfold Wf
 simp [Lit.wf, IntKind.min, IntKind.max, IntKind.bits, IntKind.signed] at h
 omega

section
variable {H : Type} {enc : TypeId × Value → H} {P : Program} {w : World} {base : Nat} {held : Bool} {fuel : Nat}
theorem opened_int {t : TypeId} {v : Value} {x : DataW H × List MemPlace} (ht : P.underlying t = some (.int .i64)) (h : DataW.trod enc P w base (fun _ => true) held fuel t [v] = some x) : ∃ n, v = .int .i64 n ∧ Wf n := by
 obtain ⟨n, he, _, hw⟩ := DataW.trod_int ht h
 exact ⟨n, by simpa using he, wf_of hw⟩
theorem qHr {t e : TypeId} {v : Value} {x : DataW H × List MemPlace} (ht : P.underlying t = some (.slice e)) (he : P.underlying e = some (.int .i64)) (hc : P.cellsOf e = 1) (h : DataW.trod enc P w base (fun _ => true) held fuel t [v] = some x) :
  ∃ A l c, v = .slice A l.length c ∧ (Kd.int .i64).C w A l.length l ∧ l.length ≤ c ∧ WfL l := by
 rcases open_ints ht he hc h with ⟨hcs, _⟩ | ⟨a, l, c, zs, hcs, _, hl, hm, hz, _, hcell, hwz⟩
 ·refine ⟨none, [], 0, by simpa using hcs, ⟨rfl, by simp, fun h => by simp at h⟩, by simp, by simp [WfL]⟩
 ·simp only [if_true] at hz
  have hlen : (zs.take l).length = l := by rw [List.length_take]; omega
  refine ⟨some a, zs.take l, c, by rw [hlen]; simpa using hcs, ⟨rfl, by rw [hlen]; simp only [maxLen] at hm; omega, fun _ => ⟨a, rfl, fun j p hj => ?_⟩⟩, by omega, ?_, fun n hn => wf_of (hwz n (List.mem_of_mem_take hn))⟩
  ·have hjl : j < l := by have := (List.getElem?_eq_some_iff.1 hj).1; omega
   refine ⟨[.int .i64 p], rfl, rfl, fun i u hu => ?_⟩
   cases i with
   | zero =>
    simp only [List.getElem?_cons_zero, Option.some.injEq] at hu
    subst hu
    rw [Nat.add_zero, show j * (Kd.int .i64).sz = j from Nat.mul_one j, hcell j (by omega)]
    rw [List.getElem?_take, if_pos hjl] at hj
    rw [List.getD_eq_getElem?_getD, hj]; rfl
   | succ i => simp at hu
  ·rw [hlen]; simp only [maxLen] at hm; omega
theorem qLw {t e q : TypeId} {v : Value} {x : DataW H × List MemPlace} (ht : P.underlying t = some (.slice e)) (he : P.underlying e = some (.slice q)) (hq : P.underlying q = some (.int .i64)) (ce : P.cellsOf e = 1) (cq : P.cellsOf q = 1) (h : DataW.trod enc P w base (fun _ => true) held fuel t [v] = some x) :
  ∃ A l c, v = .slice A l.length c ∧ (Kd.slice 2 (Kd.int .i64)).C w A l.length l ∧ l.length ≤ c ∧ WfLL l := by
 rcases open_slice1 ht ce h with ⟨hcs, _⟩ | ⟨a, l, c, m, n, V, D, Pl, hcs, _, hl, hm, hmm, _, hx⟩
 ·refine ⟨none, [], 0, by simpa using hcs, ⟨rfl, by simp, fun h => by simp at h⟩, by simp, by simp [WfLL]⟩
 ·simp only [if_true] at hmm
  subst hmm
  have each : ∀ r, r < m → ∃ y : Option Addr × List Int × Nat, V r = .slice y.1 y.2.1.length y.2.2 ∧ (Kd.int .i64).C w y.1 y.2.1.length y.2.1 ∧ y.2.1.length ≤ y.2.2 ∧ WfL y.2.1 := by
   intro r hr
   obtain ⟨A, l, c, h1, h2, h3, h4⟩ := qHr he hq cq (hx r hr).2
   exact ⟨(A, l, c), h1, h2, h3, h4⟩
  obtain ⟨y, hy⟩ := choose_lt each
  have hlen : ((List.range l).map fun r => (y r).2.1).length = l := by simp
  refine ⟨some a, (List.range l).map fun r => (y r).2.1, m, by rw [hlen]; simpa using hcs, ⟨rfl, by rw [hlen]; simp only [maxLen] at hm; omega, fun _ => ⟨a, rfl, fun j p hj => ?_⟩⟩, by omega, ?_, ?_⟩
  ·have hjl : j < l := by have := (List.getElem?_eq_some_iff.1 hj).1; omega
   rw [List.getElem?_map, List.getElem?_range hjl] at hj
   simp only [Option.map_some, Option.some.injEq] at hj
   subst hj
   obtain ⟨h1, h2, h3, h4⟩ := hy j (by omega)
   refine ⟨[.slice (y j).1 (y j).2.1.length (y j).2.2], rfl, ⟨_, _, rfl, h3, h2⟩, fun i u hu => ?_⟩
   cases i with
   | zero =>
    simp only [List.getElem?_cons_zero, Option.some.injEq] at hu
    subst hu
    rw [Nat.add_zero, show j * (Kd.slice 2 (Kd.int .i64)).sz = j from Nat.mul_one j, (hx j (by omega)).1, h1]
   | succ i => simp at hu
  ·rw [hlen]; simp only [maxLen] at hm; omega
  ·intro r hr
   simp only [List.mem_map, List.mem_range] at hr
   obtain ⟨j, hj, rfl⟩ := hr
   exact (hy j (by omega)).2.2.2

theorem open_agg1 {r : Reach} {b0 : Nat} {t : TypeId} {f0 : Field} {v : Value} {d : DataW H} {p : List MemPlace} (hs : P.underlying t = some (.struct #[f0])) (hone : oneCellFields P #[f0] = true) (hC : P.cellsOf t = 1)
  (hv : Value.okWide P w r b0 t v) (h : DataW.Trod enc P w base (fun _ => true) held t v d p) :
  ∃ (v0 : Value) (y0 : DataW H × List MemPlace) (n : Nat), v = .agg #[v0] ∧ DataW.trod enc P w base (fun _ => true) held n f0.type [v0] = some y0 := by
 obtain ⟨cs, rfl, hsz⟩ := okWide_struct hs hv
 obtain ⟨c0, rfl⟩ : ∃ c0, cs = #[c0] := by
  have h1 : cs.size = 1 := hsz.trans hC
  match cs, h1 with | ⟨[c0]⟩, _ => exact ⟨c0, rfl⟩
 obtain ⟨fuel, hf⟩ := h
 obtain ⟨y0, n, hx, _, h0⟩ := trod_struct1 hs hf
 obtain ⟨o0, k0⟩ := hone_of hone 0 f0 rfl
 exact ⟨c0, y0, n, rfl, by simpa [Value.cells, o0, k0] using h0⟩
end
theorem own : ownKnob Try.prog.godebug = none := by kernel_rfl
theorem qJf : laidOutB Try.prog = true := by kernel_rfl
end Go.Proofs.Ytkgajpngeglkmaa.B

set_option linter.unusedVariables false
set_option linter.unusedSimpArgs false
namespace Go.Proofs.Ytkgajpngeglkmaa.B
open Go.RowKit Go.ChangeShapes Go.WideShapes Go.Deep Go.Proofs.YtkgajpngeglkmaaW.PrintWords

def WfB (l : List Int) : Prop := l.length ≤ 9223372036854775807 ∧ ∀ n ∈ l, 0 ≤ n ∧ n ≤ 255
theorem qMd {n : Int} (h : (Lit.int .u8 n).wf = true) : 0 ≤ n ∧ n ≤ 255 := by
 simp [Lit.wf, IntKind.min, IntKind.max, IntKind.bits, IntKind.signed] at h
 omega
section
variable {H : Type} {enc : TypeId × Value → H} {P : Program} {w : World} {base : Nat} {held : Bool} {fuel : Nat}
theorem qD6 {t e : TypeId} {v : Value} {x : DataW H × List MemPlace} (ht : P.underlying t = some (.slice e)) (he : P.underlying e = some (.int .u8)) (hc : P.cellsOf e = 1) (h : DataW.trod enc P w base (fun _ => true) held fuel t [v] = some x) :
  ∃ A l c, v = .slice A l.length c ∧ (Kd.int .u8).C w A l.length l ∧ l.length ≤ c ∧ WfB l := by
 rcases open_ints ht he hc h with ⟨hcs, _⟩ | ⟨a, l, c, zs, hcs, _, hl, hm, hz, _, hcell, hwz⟩
 ·refine ⟨none, [], 0, by simpa using hcs, ⟨rfl, by simp, fun h => by simp at h⟩, by simp, by simp [WfB]⟩
 ·simp only [if_true] at hz
  have hlen : (zs.take l).length = l := by rw [List.length_take]; omega
  refine ⟨some a, zs.take l, c, by rw [hlen]; simpa using hcs, ⟨rfl, by rw [hlen]; simp only [maxLen] at hm; omega, fun _ => ⟨a, rfl, fun j p hj => ?_⟩⟩, by omega, ?_, fun n hn => qMd (hwz n (List.mem_of_mem_take hn))⟩
  ·have hjl : j < l := by have := (List.getElem?_eq_some_iff.1 hj).1; omega
   refine ⟨[.int .u8 p], rfl, rfl, fun i u hu => ?_⟩
   cases i with
   | zero =>
    simp only [List.getElem?_cons_zero, Option.some.injEq] at hu
    subst hu
    rw [Nat.add_zero, show j * (Kd.int .u8).sz = j from Nat.mul_one j, hcell j (by omega)]
    rw [List.getElem?_take, if_pos hjl] at hj
    rw [List.getD_eq_getElem?_getD, hj]; rfl
   | succ i => simp at hu
  ·rw [hlen]; simp only [maxLen] at hm; omega
end
end Go.Proofs.Ytkgajpngeglkmaa.B

set_option linter.unusedVariables false
set_option linter.unusedSimpArgs false
namespace Go.Proofs.Ytkgajpngeglkmaa.B
open Go.RowKit Go.Proofs.YtkgajpngeglkmaaW.PrintWords
theorem qEa {α β : Type} (L : List α → Nat → Nat → Option β) (g : Nat → α) : ∀ (n : Nat), (∀ j s, j < n → s = (List.range j).map g → Le (L (s ++ [g j]) (j + 1)) (L s j)) → Le (L ((List.range n).map g) n) (L [] 0)
 | 0, _ => Le.refl _
 | n + 1, h => by
  have ih := qEa L g n (fun j s hj => h j s (by omega))
  refine Le.trans ?_ ih
  rw [List.range_succ, List.map_append]
  exact h n _ (by omega) rfl
theorem qEw (L : Nat → Nat → Option Bool) (p : Nat → Bool) (b : Bool) : ∀ (n : Nat), (∀ j, j < n → (∀ m, m < j → p m = true) → p j = true → Le (L (j + 1)) (L j)) → (∀ j, j < n → (∀ m, m < j → p m = true) → p j = false → Ev (L j) false) → ((∀ m, m < n → p m = true) → Ev (L n) b) → Ev (L 0) ((List.range n).all p && b) := by
 intro n h1 h0 he
 have main : ∀ (d i : Nat), i + d = n → (∀ m, m < i → p m = true) → Ev (L i) ((List.range n).all p && b) := by
  intro d
  induction d with
  | zero =>
   intro i hi hall
   have : i = n := by omega
   subst this
   have e : (List.range i).all p = true := List.all_eq_true.2 (fun j hj => hall j (List.mem_range.1 hj))
   rw [e, Bool.true_and]; exact he hall
  | succ d ih =>
   intro i hi hall
   cases hp : p i with
   | true =>
    refine h1 i (by omega) hall hp _ (ih (i + 1) (by omega) (fun m hm => ?_))
    rcases Nat.lt_or_ge m i with hl | hg
    ·exact hall m hl
    ·have : m = i := by omega
     subst this; exact hp
   | false =>
    have e : (List.range n).all p = false := by
     rw [Bool.eq_false_iff]
     intro h
     have := List.all_eq_true.1 h i (List.mem_range.2 (by omega))
     rw [hp] at this; cases this
    rw [e, Bool.false_and]
    exact h0 i (by omega) hall hp
 exact main n 0 (by omega) (fun m hm => by omega)
theorem qGz {α β : Type} (z : α) (g : α → β) (l : List α) : l.map g = (List.range l.length).map fun j => g (l.getD j z) := by
 apply List.ext_getElem
 ·simp
 ·intro n h1 h2
  simp only [List.getElem_map, List.getElem_range, List.getD_eq_getElem?_getD]
  have : n < l.length := by simpa using h1
  simp [List.getElem?_eq_getElem this]
end Go.Proofs.Ytkgajpngeglkmaa.B
set_option linter.unusedVariables false
set_option linter.unusedSimpArgs false
namespace Go.Proofs.Ytkgajpngeglkmaa.B
open Go.RowKit Go.Proofs.YtkgajpngeglkmaaW.PrintWords
theorem qCi (a b c : Int) : z111.f a b c = some (decide (b ≤ a) && decide (a ≤ c)) := by
 unfold z111.f
 by_cases h : a ≥ b
 ·rw [if_pos h]; simp [h]
 ·rw [if_neg h]; simp; omega
theorem qD8 (a b c : Int) : z65.f a b c = some (decide (b ≤ a) && decide (a ≤ c)) := by
 unfold z65.f
 by_cases h : a ≥ b
 ·rw [if_pos h]; simp [h]
 ·rw [if_neg h]; simp; omega
theorem qBe {α : Type} {l : List α} {i : Nat} (z : α) (h : i < l.length) : l.getD i z ∈ l := by
 rw [List.getD_eq_getElem?_getD, List.getElem?_eq_getElem h]; exact List.getElem_mem h
theorem qBc (l : List (List Int)) (i : Nat) : rI_ l (i : Int) = l.getD i [] := by simp [rI_]
end Go.Proofs.Ytkgajpngeglkmaa.B
set_option linter.unusedVariables false
set_option linter.unusedSimpArgs false
namespace Go.Proofs.Ytkgajpngeglkmaa.B.LinT
abbrev Vec := Nat → Int
theorem qA4 {p a : Int} (c : Int) (h : p ∣ a) : p ∣ c * a := Int.dvd_trans h (Int.dvd_mul_left c a)
def Zr (p : Int) (n : Nat) (v : Vec) : Prop := ∀ i, i < n → p ∣ v i
structure Sub (p : Int) (n : Nat) (S : Vec → Prop) : Prop where
 zero : ∀ v, Zr p n v → S v
 add : ∀ v w, S v → S w → S (fun i => v i + w i)
 smul : ∀ (c : Int) v, S v → S (fun i => c * v i)
theorem Sub.congr {p : Int} {n : Nat} {S : Vec → Prop} (h : Sub p n S) {v w : Vec} (hv : S v) (e : ∀ i, i < n → p ∣ w i - v i) : S w := by
 have := h.add v (fun i => w i - v i) hv (h.zero _ e)
 have e2 : (fun i => v i + (w i - v i)) = w := by funext i; omega
 rwa [e2] at this
theorem Sub.sub {p : Int} {n : Nat} {S : Vec → Prop} (h : Sub p n S) {v w : Vec} (hv : S v) (hw : S w) : S (fun i => v i - w i) := by
 have := h.add v _ hv (h.smul (-1) w hw)
 have e2 : (fun i => v i + -1 * w i) = fun i => v i - w i := by funext i; omega
 rwa [e2] at this
def Ld (p : Int) (n : Nat) (v : Vec) (i : Nat) : Prop := i < n ∧ ¬ p ∣ v i ∧ ∀ j, j < i → p ∣ v j
theorem qLg {q : Nat → Prop} (h : ∃ j, q j) : ∃ j, q j ∧ ∀ m, m < j → ¬ q m := by
 obtain ⟨j, hj⟩ := h
 induction j using Nat.strongRecOn with
 | _ j ih =>
  by_cases hm : ∃ m, m < j ∧ q m
  ·obtain ⟨m, h1, h2⟩ := hm
   exact ih m h1 h2
  ·exact ⟨j, hj, fun m h1 h2 => hm ⟨m, h1, h2⟩⟩
theorem ld_of {p : Int} {n : Nat} {v : Vec} (h : ¬ Zr p n v) : ∃ i, Ld p n v i := by
 have : ∃ i, i < n ∧ ¬ p ∣ v i := by
  refine Classical.byContradiction fun hc => h fun i hi => Classical.byContradiction fun hd => hc ⟨i, hi, hd⟩
 obtain ⟨i, ⟨h1, h2⟩, h3⟩ := qLg this
 exact ⟨i, h1, h2, fun j hj => Classical.byContradiction fun hd => h3 j hj ⟨by omega, hd⟩⟩
theorem ld_nz {p : Int} {n : Nat} {v : Vec} {i : Nat} (h : Ld p n v i) : ¬ Zr p n v := fun hz => h.2.1 (hz i h.1)
def Pl (p : Int) (n : Nat) (S : Vec → Prop) (i : Nat) : Prop := ∃ v, S v ∧ Ld p n v i
open Classical in
noncomputable def cnt (Q : Nat → Prop) : Nat → Nat
 | 0 => 0
 | n + 1 => cnt Q n + (if Q n then 1 else 0)
theorem qLm (Q : Nat → Prop) : ∀ n, cnt Q n ≤ n
 | 0 => Nat.le_refl _
 | n + 1 => by have := qLm Q n; simp only [cnt]; split <;> omega
theorem qDr {Q R : Nat → Prop} : ∀ n, (∀ i, i < n → Q i → R i) → cnt Q n ≤ cnt R n
 | 0, _ => Nat.le_refl _
 | n + 1, h => by
  have ih := qDr n (fun i hi => h i (by omega))
  have hn := h n (by omega)
  simp only [cnt]
  by_cases hq : Q n
  ·rw [if_pos hq, if_pos (hn hq)]; omega
  ·rw [if_neg hq]; split <;> omega
theorem qDs {Q R : Nat → Prop} (n : Nat) (h : ∀ i, i < n → (Q i ↔ R i)) : cnt Q n = cnt R n :=
 Nat.le_antisymm (qDr n fun i hi => (h i hi).1) (qDr n fun i hi => (h i hi).2)
theorem qD0 {Q R : Nat → Prop} : ∀ n, (∀ i, i < n → Q i → R i) → cnt Q n = cnt R n → ∀ i, i < n → R i → Q i
 | 0, _, _, i, hi, _ => by omega
 | n + 1, h, e, i, hi, hr => by
  have hm := qDr n (fun i hi => h i (by omega))
  have hn := h n (by omega)
  simp only [cnt] at e
  by_cases hq : Q n
  ·rw [if_pos hq, if_pos (hn hq)] at e
   rcases Nat.lt_or_ge i n with hl | hg
   ·exact qD0 n (fun i hi => h i (by omega)) (by omega) i hl hr
   ·have : i = n := by omega
    subst this; exact hq
  ·rw [if_neg hq] at e
   have hnr : ¬ R n := fun hR => by rw [if_pos hR] at e; omega
   rw [if_neg hnr] at e
   rcases Nat.lt_or_ge i n with hl | hg
   ·exact qD0 n (fun i hi => h i (by omega)) (by omega) i hl hr
   ·have : i = n := by omega
    subst this; exact absurd hr hnr
theorem qDz {Q R : Nat → Prop} (i0 : Nat) : ∀ n, i0 < n → ¬ Q i0 → (∀ i, i < n → (R i ↔ Q i ∨ i = i0)) → cnt R n = cnt Q n + 1
 | 0, h, _, _ => by omega
 | n + 1, h, hq, he => by
  simp only [cnt]
  rcases Nat.lt_or_ge i0 n with hl | hg
  ·rw [qDz i0 n hl hq (fun i hi => he i (by omega))]
   have e := he n (by omega)
   have e2 : R n ↔ Q n := by
    rw [e]
    constructor
    ·rintro (h | h)
     ·exact h
     ·omega
    ·exact Or.inl
   by_cases hqn : Q n
   ·rw [if_pos hqn, if_pos (e2.2 hqn)]
   ·rw [if_neg hqn, if_neg (fun h => hqn (e2.1 h))]
  ·have : i0 = n := by omega
   subst this
   rw [if_neg hq, if_pos ((he i0 (by omega)).2 (.inr rfl)), qDs (Q := R) (R := Q) i0 (fun i hi => by
    rw [he i (by omega)]; constructor
    ·rintro (h | h)
     ·exact h
     ·omega
    ·exact Or.inl)]
theorem qG8 (Q : Nat → Prop) (a : Nat) : ∀ b, cnt Q (a + b) = cnt Q a + cnt (fun j => Q (a + j)) b
 | 0 => by simp [cnt]
 | b + 1 => by
  rw [show a + (b + 1) = (a + b) + 1 by omega]
  simp only [cnt]
  rw [qG8 Q a b]; omega
theorem qJz (Q : Nat → Prop) : ∀ n, (∀ i, i < n → Q i) → cnt Q n = n
 | 0, _ => rfl
 | n + 1, h => by simp only [cnt]; rw [qJz Q n (fun i hi => h i (by omega)), if_pos (h n (by omega))]
theorem qF7 (Q : Nat → Prop) : ∀ n, (∀ i, i < n → ¬ Q i) → cnt Q n = 0
 | 0, _ => rfl
 | n + 1, h => by simp only [cnt]; rw [qF7 Q n (fun i hi => h i (by omega)), if_neg (h n (by omega))]
noncomputable def dim (p : Int) (n : Nat) (S : Vec → Prop) : Nat := cnt (Pl p n S) n
theorem qLk (p : Int) (n : Nat) (S : Vec → Prop) : dim p n S ≤ n := qLm _ _
theorem qF6 {p : Int} {n : Nat} {S T : Vec → Prop} (h : ∀ v, S v → T v) : dim p n S ≤ dim p n T :=
 qDr n fun i _ ⟨v, h1, h2⟩ => ⟨v, h v h1, h2⟩
theorem qBi {p : Int} {n : Nat} {S T : Vec → Prop} (h : ∀ v, S v ↔ T v) : dim p n S = dim p n T :=
 Nat.le_antisymm (qF6 fun v => (h v).1) (qF6 fun v => (h v).2)
def Pr (p : Int) : Prop := (¬ p ∣ 1) ∧ ∀ a, ¬ p ∣ a → ∃ b, p ∣ a * b - 1
theorem qHs {p a b : Int} (hp : Pr p) (h : ¬ p ∣ a) (h' : ¬ p ∣ b) : ¬ p ∣ a * b := fun hd => by
 obtain ⟨c, hc⟩ := hp.2 a h
 apply h'
 obtain ⟨k, hk⟩ := hd
 obtain ⟨m, hm⟩ := hc
 exact ⟨c * k - m * b, by grind⟩
theorem qGs {p : Int} {n : Nat} {S : Vec → Prop} (hp : Pr p) (hS : Sub p n S) (v : Vec) : ∃ s, S s ∧ (Zr p n (fun i => v i - s i) ∨ ∃ i, Ld p n (fun i => v i - s i) i ∧ ¬ Pl p n S i) := by
 have main : ∀ (d : Nat) (v : Vec), (∀ j, j + d < n → p ∣ v j) → ∃ s, S s ∧ (Zr p n (fun i => v i - s i) ∨ ∃ i, Ld p n (fun i => v i - s i) i ∧ ¬ Pl p n S i) := by
  intro d
  induction d with
  | zero =>
   intro v hv
   refine ⟨fun _ => 0, hS.zero _ (fun i _ => Int.dvd_zero p), .inl fun i hi => ?_⟩
   simpa using hv i (by omega)
  | succ d ih =>
   intro v hv
   by_cases hz : Zr p n v
   ·refine ⟨fun _ => 0, hS.zero _ (fun i _ => Int.dvd_zero p), .inl fun i hi => ?_⟩
    simpa using hz i hi
   ·obtain ⟨i, hi⟩ := ld_of hz
    by_cases hP : Pl p n S i
    ·obtain ⟨s, hs, hl⟩ := hP
     obtain ⟨b, hb⟩ := hp.2 _ hl.2.1
     obtain ⟨t, ht, h⟩ := ih (fun j => v j - (v i * b) * s j) (fun j hj => by
      rcases Nat.lt_trichotomy j i with h1 | h1 | h1
      ·exact Int.dvd_sub (hi.2.2 j h1) (qA4 _ (hl.2.2 j h1))
      ·subst h1
       obtain ⟨k, hk⟩ := hb
       exact ⟨-(v j * k), by grind⟩
      ·have : i < n := hi.1
       exact absurd (hv i (by omega)) hi.2.1)
     refine ⟨fun j => (v i * b) * s j + t j, hS.add _ _ (hS.smul _ _ hs) ht, ?_⟩
     have e : (fun j => v j - ((v i * b) * s j + t j)) = fun j => v j - (v i * b) * s j - t j := by funext j; omega
     rw [e]; exact h
    ·refine ⟨fun _ => 0, hS.zero _ (fun i _ => Int.dvd_zero p), .inr ⟨i, ?_, hP⟩⟩
     simpa using hi
 exact main n v (fun j hj => by omega)
theorem qFe {p : Int} {n : Nat} {S T : Vec → Prop} (hp : Pr p) (hS : Sub p n S) (hT : Sub p n T) (h : ∀ v, S v → T v) (e : dim p n S = dim p n T) : ∀ v, T v → S v := by
 intro v hv
 obtain ⟨s, hs, hz | ⟨i, hi, hP⟩⟩ := qGs hp hS v
 ·exact hS.congr hs hz
 ·exact absurd (qD0 n (fun i _ ⟨v, h1, h2⟩ => ⟨v, h v h1, h2⟩) e i hi.1 ⟨_, hT.sub hv (h s hs), hi⟩) hP
def Ins (p : Int) (n : Nat) (S : Vec → Prop) (x v : Vec) : Prop := ∃ (c : Int) (s : Vec), S s ∧ ∀ i, i < n → p ∣ v i - (c * x i + s i)
theorem Ins.isSub {p : Int} {n : Nat} {S : Vec → Prop} (hS : Sub p n S) (x : Vec) : Sub p n (Ins p n S x) where
 zero v hv := ⟨0, fun _ => 0, hS.zero _ (fun i _ => Int.dvd_zero p), fun i hi => by simpa using hv i hi⟩
 add := by
  rintro v w ⟨c, s, hs, h⟩ ⟨c', s', hs', h'⟩
  refine ⟨c + c', _, hS.add _ _ hs hs', fun i hi => ?_⟩
  have := Int.dvd_add (h i hi) (h' i hi)
  have e : v i + w i - ((c + c') * x i + (s i + s' i)) = (v i - (c * x i + s i)) + (w i - (c' * x i + s' i)) := by grind
  rw [e]; exact this
 smul := by
  rintro d v ⟨c, s, hs, h⟩
  refine ⟨d * c, _, hS.smul d _ hs, fun i hi => ?_⟩
  have := qA4 d (h i hi)
  have e : d * v i - (d * c * x i + d * s i) = d * (v i - (c * x i + s i)) := by grind
  rw [e]; exact this
theorem Ins.old {p : Int} {n : Nat} {S : Vec → Prop} {x v : Vec} (h : S v) : Ins p n S x v := ⟨0, v, h, fun i _ => by simp⟩
theorem Ins.new {p : Int} {n : Nat} {S : Vec → Prop} (hS : Sub p n S) {x : Vec} : Ins p n S x x := ⟨1, fun _ => 0, hS.zero _ (fun i _ => Int.dvd_zero p), fun i _ => by simp⟩
theorem Ins.least {p : Int} {n : Nat} {S T : Vec → Prop} (hT : Sub p n T) {x v : Vec} (h : ∀ v, S v → T v) (hx : T x) (hv : Ins p n S x v) : T v := by
 obtain ⟨c, s, hs, he⟩ := hv
 exact hT.congr (hT.add _ _ (hT.smul c _ hx) (h s hs)) he
theorem qJw {p : Int} {n : Nat} {S : Vec → Prop} (hp : Pr p) (hS : Sub p n S) {x : Vec} (hx : ¬ S x) : dim p n (Ins p n S x) = dim p n S + 1 := by
 obtain ⟨s, hs, hz | ⟨i0, hi, hP⟩⟩ := qGs hp hS x
 ·exact absurd (hS.congr hs hz) hx
 refine qDz i0 n hi.1 hP (fun i hin => ⟨?_, ?_⟩)
 ·rintro ⟨v, ⟨c, t, ht, he⟩, hl⟩
  by_cases hc : p ∣ c
  ·left
   refine ⟨v, hS.congr ht (fun j hj => ?_), hl⟩
   have := Int.dvd_add (he j hj) (Int.dvd_mul_of_dvd_left (c := x j) hc)
   have e : v j - t j = v j - (c * x j + t j) + c * x j := by omega
   rw [e]; exact this
  ·-- v = c (x - s) + (c s + t)
   have hu : S (fun j => c * s j + t j) := hS.add _ _ (hS.smul c _ hs) ht
   have hv : ∀ j, j < n → p ∣ v j - (c * (x j - s j) + (c * s j + t j)) := fun j hj => by
    have e : v j - (c * (x j - s j) + (c * s j + t j)) = v j - (c * x j + t j) := by grind
    rw [e]; exact he j hj
   generalize hdef : (fun j => c * s j + t j) = u at hu
   have hv : ∀ j, j < n → p ∣ v j - (c * (x j - s j) + u j) := fun j hj => by rw [← hdef]; exact hv j hj
   rcases Nat.lt_trichotomy i i0 with h1 | h1 | h1
   ·left
    refine ⟨u, hu, hin, fun hd => hl.2.1 ?_, fun j hj => ?_⟩
    ·have h2 := hi.2.2 i h1
     have := Int.dvd_add (hv i hin) (Int.dvd_add (qA4 c h2) hd)
     have e : v i = v i - (c * (x i - s i) + u i) + (c * (x i - s i) + u i) := by omega
     rw [e]; exact this
    ·have h2 := hi.2.2 j (by omega)
     have h3 := hl.2.2 j hj
     have := Int.dvd_sub h3 (Int.dvd_add (hv j (by omega)) (qA4 c h2))
     have e : u j = v j - (v j - (c * (x j - s j) + u j) + c * (x j - s j)) := by omega
     rw [e]; exact this
   ·exact .inr h1
   ·exfalso
    -- u has the lead i0
    refine hP ⟨u, hu, hi.1, fun hd => ?_, fun j hj => ?_⟩
    ·have h3 := hl.2.2 i0 h1
     have h4 : p ∣ c * (x i0 - s i0) := by
      have := Int.dvd_sub h3 (Int.dvd_add (hv i0 hi.1) hd)
      have e : c * (x i0 - s i0) = v i0 - (v i0 - (c * (x i0 - s i0) + u i0) + u i0) := by omega
      rw [e]; exact this
     exact qHs hp hc hi.2.1 h4
    ·have h2 := hi.2.2 j hj
     have h3 := hl.2.2 j (by omega)
     have := Int.dvd_sub h3 (Int.dvd_add (hv j (by have := hi.1; omega)) (qA4 c h2))
     have e : u j = v j - (v j - (c * (x j - s j) + u j) + c * (x j - s j)) := by omega
     rw [e]; exact this
 ·rintro (⟨v, hv, hl⟩ | rfl)
  ·exact ⟨v, Ins.old hv, hl⟩
  ·exact ⟨_, (Ins.isSub hS x).sub (Ins.new hS) (Ins.old hs), hi⟩
def Span (p : Int) (n : Nat) : List Vec → Vec → Prop
 | [] => Zr p n
 | x :: L => Ins p n (Span p n L) x
theorem zr_sub (p : Int) (n : Nat) : Sub p n (Zr p n) where
 zero _ h := h
 add _ _ h h' i hi := Int.dvd_add (h i hi) (h' i hi)
 smul c _ h i hi := qA4 c (h i hi)
theorem qA8 (p : Int) (n : Nat) : ∀ L, Sub p n (Span p n L)
 | [] => zr_sub p n
 | x :: L => Ins.isSub (qA8 p n L) x
theorem qBg {p : Int} {n : Nat} : ∀ {L : List Vec} {x : Vec}, x ∈ L → Span p n L x
 | y :: L, x, h => by
  rcases List.mem_cons.1 h with rfl | h
  ·exact Ins.new (qA8 p n L)
  ·exact Ins.old (qBg h)
theorem qBh {p : Int} {n : Nat} {T : Vec → Prop} (hT : Sub p n T) : ∀ {L : List Vec} {v : Vec}, (∀ x, x ∈ L → T x) → Span p n L v → T v
 | [], v, _, hv => hT.zero v hv
 | y :: L, v, h, hv => Ins.least hT (fun v hv => qBh hT (fun x hx => h x (List.mem_cons_of_mem _ hx)) hv) (h y List.mem_cons_self) hv
theorem qCk {p : Int} {n : Nat} {L M : List Vec} (h : ∀ x, x ∈ L → Span p n M x) {v : Vec} (hv : Span p n L v) : Span p n M v := qBh (qA8 p n M) h hv
def qFc (p : Int) (n : Nat) : List Vec → Prop
 | [] => True
 | x :: L => ¬ Span p n L x ∧ qFc p n L
theorem qId (p : Int) (n : Nat) : dim p n (Zr p n) = 0 := qF7 _ n (fun i _ ⟨_, h1, h2⟩ => ld_nz h2 h1)
theorem qCx {p : Int} {n : Nat} (hp : Pr p) : ∀ {L : List Vec}, qFc p n L → dim p n (Span p n L) = L.length
 | [], _ => qId p n
 | x :: L, h => by
  have := qJw hp (qA8 p n L) h.1
  simp only [Span, List.length_cons]
  rw [this, qCx hp h.2]
theorem ins_eq {p : Int} {n : Nat} {S : Vec → Prop} (hS : Sub p n S) {x : Vec} (hx : S x) (v : Vec) : Ins p n S x v ↔ S v :=
 ⟨fun h => Ins.least hS (fun _ h => h) hx h, Ins.old⟩
theorem qEz {p : Int} {n : Nat} (hp : Pr p) : ∀ (L : List Vec), dim p n (Span p n L) ≤ L.length
 | [] => by rw [show Span p n [] = Zr p n from rfl, qId]; exact Nat.le_refl _
 | x :: L => by
  have ih := qEz (n := n) hp L
  simp only [Span, List.length_cons]
  by_cases hx : Span p n L x
  ·rw [qBi (ins_eq (qA8 p n L) hx)]; omega
  ·rw [qJw hp (qA8 p n L) hx]; omega
def Fst (p : Int) (a : Nat) (U : Vec → Prop) (v : Vec) : Prop := ∃ u, U u ∧ ∀ i, i < a → p ∣ v i - u i
def behind (a : Nat) (w : Vec) : Vec := fun i => if i < a then 0 else w (i - a)
def Snd (a : Nat) (U : Vec → Prop) (w : Vec) : Prop := U (behind a w)
theorem qJv {p : Int} {a b : Nat} {U : Vec → Prop} (hU : Sub p (a + b) U) : dim p (a + b) U = dim p a (Fst p a U) + dim p b (Snd a U) := by
 unfold dim
 rw [qG8]
 congr 1
 ·refine qDs a (fun i hi => ⟨?_, ?_⟩)
  ·rintro ⟨v, hv, h1, h2, h3⟩
   exact ⟨v, ⟨v, hv, fun i _ => by simp⟩, hi, h2, h3⟩
  ·rintro ⟨v, ⟨u, hu, he⟩, h1, h2, h3⟩
   refine ⟨u, hu, by omega, fun hd => h2 ?_, fun j hj => ?_⟩
   ·have := Int.dvd_add (he i hi) hd
    rwa [show v i - u i + u i = v i by omega] at this
   ·have := Int.dvd_sub (h3 j hj) (he j (by omega))
    rwa [show v j - (v j - u j) = u j by omega] at this
 ·refine qDs b (fun i hi => ⟨?_, ?_⟩)
  ·rintro ⟨v, hv, h1, h2, h3⟩
   refine ⟨fun j => v (a + j), hU.congr hv (fun j hj => ?_), hi, h2, fun j hj => h3 _ (by omega)⟩
   unfold behind
   split
   ·have := h3 j (by omega)
    rw [show (0 : Int) - v j = -(v j) by omega]; exact Int.dvd_neg.2 this
   ·have e : a + (j - a) = j := by omega
    show p ∣ v (a + (j - a)) - v j
    rw [e]; simp
  ·rintro ⟨w, hw, h1, h2, h3⟩
   refine ⟨_, hw, by omega, ?_, fun j hj => ?_⟩
   ·unfold behind; rw [if_neg (by omega), show a + i - a = i by omega]; exact h2
   ·unfold behind; split
    ·exact Int.dvd_zero p
    ·exact h3 _ (by omega)
theorem qHc {p : Int} {n : Nat} {S : Vec → Prop} (hp : Pr p) (hS : Sub p n S) : ∃ L, qFc p n L ∧ ∀ v, Span p n L v ↔ S v := by
 have main : ∀ (d : Nat) (L : List Vec), qFc p n L → (∀ x, x ∈ L → S x) → n ≤ L.length + d → ∃ L, qFc p n L ∧ ∀ v, Span p n L v ↔ S v := by
  intro d
  induction d with
  | zero =>
   intro L hL hx hd
   refine ⟨L, hL, fun v => ⟨qBh hS hx, ?_⟩⟩
   have h1 := qCx hp hL
   have h2 : dim p n (Span p n L) ≤ dim p n S := qF6 fun v => qBh hS hx
   have h3 := qLk p n S
   exact qFe hp (qA8 p n L) hS (fun v => qBh hS hx) (by omega) v
  | succ d ih =>
   intro L hL hx hd
   by_cases h : ∀ v, S v → Span p n L v
   ·exact ⟨L, hL, fun v => ⟨qBh hS hx, h v⟩⟩
   ·obtain ⟨v, hv⟩ := Classical.not_forall.1 h
    have hv1 : S v := Classical.byContradiction fun hc => hv fun h => absurd h hc
    have hv2 : ¬ Span p n L v := fun hc => hv fun _ => hc
    refine ih (v :: L) ⟨hv2, hL⟩ (fun x hxm => ?_) (by simp only [List.length_cons]; omega)
    rcases List.mem_cons.1 hxm with rfl | hm
    ·exact hv1
    ·exact hx x hm
 exact main n [] trivial (fun x hx => by cases hx) (by simp)
structure Lmap (p : Int) (a b : Nat) (f : Vec → Vec) : Prop where
 zr : ∀ v, Zr p a v → Zr p b (f v)
 add : ∀ v w j, j < b → p ∣ f (fun i => v i + w i) j - (f v j + f w j)
 smul : ∀ (c : Int) v j, j < b → p ∣ f (fun i => c * v i) j - c * f v j
theorem Lmap.sub {p : Int} {a b : Nat} {f : Vec → Vec} (hf : Lmap p a b f) (v w : Vec) (j : Nat) (hj : j < b) : p ∣ f (fun i => v i - w i) j - (f v j - f w j) := by
 have h1 := hf.add v (fun i => -1 * w i) j hj
 have h2 := hf.smul (-1) w j hj
 have e : (fun i => v i + -1 * w i) = fun i => v i - w i := by funext i; omega
 simp only [e] at h1
 have := Int.dvd_add h1 h2
 have e2 : f (fun i => v i - w i) j - (f v j - f w j) = f (fun i => v i - w i) j - (f v j + f (fun i => -1 * w i) j) + (f (fun i => -1 * w i) j - -1 * f w j) := by omega
 rw [e2]; exact this
def Img (p : Int) (b : Nat) (f : Vec → Vec) (S : Vec → Prop) (y : Vec) : Prop := ∃ v, S v ∧ ∀ j, j < b → p ∣ y j - f v j
theorem qJl {p : Int} {a b : Nat} {f : Vec → Vec} {S : Vec → Prop} (hf : Lmap p a b f) (hS : Sub p a S) : Sub p b (Img p b f S) where
 zero y hy := ⟨fun _ => 0, hS.zero _ (fun _ _ => Int.dvd_zero p), fun j hj => Int.dvd_sub (hy j hj) (hf.zr _ (fun _ _ => Int.dvd_zero p) j hj)⟩
 add := by
  rintro y z ⟨v, hv, h⟩ ⟨w, hw, h'⟩
  refine ⟨_, hS.add _ _ hv hw, fun j hj => ?_⟩
  have := Int.dvd_sub (Int.dvd_add (h j hj) (h' j hj)) (hf.add v w j hj)
  have e : y j + z j - f (fun i => v i + w i) j = (y j - f v j + (z j - f w j)) - (f (fun i => v i + w i) j - (f v j + f w j)) := by omega
  rw [e]; exact this
 smul := by
  rintro c y ⟨v, hv, h⟩
  refine ⟨_, hS.smul c _ hv, fun j hj => ?_⟩
  have := Int.dvd_sub (qA4 c (h j hj)) (hf.smul c v j hj)
  have e : c * y j - f (fun i => c * v i) j = c * (y j - f v j) - (f (fun i => c * v i) j - c * f v j) := by grind
  rw [e]; exact this
theorem qLi {p : Int} {b : Nat} {f : Vec → Vec} {S : Vec → Prop} {v : Vec} (h : S v) : Img p b f S (f v) := ⟨v, h, fun j _ => by simp⟩
theorem qH2 {p : Int} {a b : Nat} {f : Vec → Vec} (hf : Lmap p a b f) : ∀ (L : List Vec) (y : Vec), Span p b (L.map f) y ↔ Img p b f (Span p a L) y := by
 intro L y
 constructor
 ·refine qBh (qJl hf (qA8 p a L)) (fun x hx => ?_)
  obtain ⟨v, hv, rfl⟩ := List.mem_map.1 hx
  exact qLi (qBg hv)
 ·rintro ⟨v, hv, he⟩
  refine (qA8 p b (L.map f)).congr (v := f v) ?_ he
  have hT : Sub p a (fun v => Span p b (L.map f) (f v)) := {
   zero := fun v hv => (qA8 p b _).zero _ (hf.zr v hv)
   add := fun v w hv hw => (qA8 p b _).congr ((qA8 p b _).add _ _ hv hw) (hf.add v w)
   smul := fun c v hv => (qA8 p b _).congr ((qA8 p b _).smul c _ hv) (hf.smul c v) }
  exact qBh hT (fun x hx => qBg (List.mem_map_of_mem hx)) hv
theorem qMa {p : Int} {a b : Nat} {f : Vec → Vec} {S : Vec → Prop} (hp : Pr p) (hf : Lmap p a b f) (hS : Sub p a S) (hinj : ∀ v, S v → Zr p b (f v) → Zr p a v) : dim p b (Img p b f S) = dim p a S := by
 obtain ⟨L, hL, hLS⟩ := qHc hp hS
 have hind : ∀ M : List Vec, (∀ x, x ∈ M → S x) → qFc p a M → qFc p b (M.map f) := by
  intro M
  induction M with
  | nil => intro _ _; trivial
  | cons x M ih =>
   intro hx hM
   refine ⟨fun hs => hM.1 ?_, ih (fun y hy => hx y (List.mem_cons_of_mem _ hy)) hM.2⟩
   obtain ⟨v, hv, he⟩ := (qH2 hf M _).1 hs
   have hvS : S v := qBh hS (fun y hy => hx y (List.mem_cons_of_mem _ hy)) hv
   have hxS := hx x List.mem_cons_self
   refine (qA8 p a M).congr hv (hinj _ (hS.sub hxS hvS) (fun j hj => ?_))
   have := Int.dvd_add (hf.sub x v j hj) (he j hj)
   rwa [Int.sub_add_cancel] at this
 have h1 := qCx hp (hind L (fun x hx => (hLS x).1 (qBg hx)) hL)
 have h2 := qCx hp hL
 rw [List.length_map] at h1
 rw [← qBi (S := Span p a L) hLS, h2, ← h1]
 refine qBi fun y => ?_
 rw [qH2 hf L y]
 constructor
 ·rintro ⟨v, hv, he⟩; exact ⟨v, (hLS v).2 hv, he⟩
 ·rintro ⟨v, hv, he⟩; exact ⟨v, (hLS v).1 hv, he⟩
def qEv (b : Nat) (f : Vec → Vec) (v : Vec) : Vec := fun i => if i < b then f v i else v (i - b)
theorem qIs {p : Int} {a b : Nat} {f : Vec → Vec} (hf : Lmap p a b f) : Lmap p a (b + a) (qEv b f) where
 zr v hv i hi := by
  unfold qEv; split
  ·exact hf.zr v hv i (by assumption)
  ·exact hv _ (by omega)
 add v w j hj := by
  unfold qEv; split
  ·exact hf.add v w j (by assumption)
  ·simp
 smul c v j hj := by
  unfold qEv; split
  ·exact hf.smul c v j (by assumption)
  ·simp
def qMj (S T : Vec → Prop) (v : Vec) : Prop := S v ∧ T v
def Ker (p : Int) (b : Nat) (f : Vec → Vec) (v : Vec) : Prop := Zr p b (f v)
theorem qL1 {p : Int} {a b : Nat} {f : Vec → Vec} (hf : Lmap p a b f) : Sub p a (Ker p b f) where
 zero v h := hf.zr v h
 add v w h h' j hj := by
  have := Int.dvd_add (hf.add v w j hj) (Int.dvd_add (h j hj) (h' j hj))
  rwa [Int.sub_add_cancel] at this
 smul c v h j hj := by
  have := Int.dvd_add (hf.smul c v j hj) (qA4 c (h j hj))
  rwa [Int.sub_add_cancel] at this
theorem qD5 {p : Int} {a b : Nat} {f : Vec → Vec} {S : Vec → Prop} (hp : Pr p) (hf : Lmap p a b f) (hS : Sub p a S) : dim p b (Img p b f S) + dim p a (qMj S (Ker p b f)) = dim p a S := by
 have hg := qIs hf
 have hU := qJl hg hS
 have h1 := qMa hp hg hS (fun v _ hz i hi => by
  have := hz (b + i) (by omega)
  unfold qEv at this
  rwa [if_neg (by omega), show b + i - b = i by omega] at this)
 rw [← h1, qJv hU]
 congr 1
 ·refine qBi fun y => ⟨?_, ?_⟩
  ·rintro ⟨v, hv, he⟩
   refine ⟨qEv b f v, qLi hv, fun j hj => ?_⟩
   unfold qEv; rw [if_pos hj]; exact he j hj
  ·rintro ⟨u, ⟨v, hv, he⟩, h⟩
   refine ⟨v, hv, fun j hj => ?_⟩
   have h2 := he j (by omega)
   unfold qEv at h2; rw [if_pos hj] at h2
   have := Int.dvd_add (h j hj) h2
   rwa [show y j - u j + (u j - f v j) = y j - f v j by omega] at this
 ·refine qBi fun w => ⟨?_, ?_⟩
  ·rintro ⟨hw, hk⟩
   refine ⟨w, hw, fun j hj => ?_⟩
   unfold behind qEv
   by_cases h : j < b
   ·rw [if_pos h, if_pos h]
    have := Int.dvd_neg.2 (hk j h)
    rwa [show (0 : Int) - f w j = -(f w j) by omega]
   ·rw [if_neg h, if_neg h]; simp
  ·rintro ⟨v, hv, he⟩
   have e1 : ∀ i, i < a → p ∣ w i - v i := fun i hi => by
    have := he (b + i) (by omega)
    unfold behind qEv at this
    rwa [if_neg (by omega), if_neg (by omega), show b + i - b = i by omega] at this
   refine ⟨hS.congr hv e1, (qL1 hf).congr (v := v) (fun j hj => ?_) e1⟩
   have := he j (by omega)
   unfold behind qEv at this
   rw [if_pos hj, if_pos hj] at this
   have := Int.dvd_neg.2 this
   rwa [show -((0 : Int) - f v j) = f v j by omega] at this
def All (v : Vec) : Prop := True
theorem qKa (p : Int) (n : Nat) : Sub p n All := ⟨fun _ _ => trivial, fun _ _ _ _ => trivial, fun _ _ _ => trivial⟩
theorem qHx {p : Int} (hp : Pr p) (n : Nat) : dim p n All = n := qJz _ n fun i hi => by
 refine ⟨fun j => if j = i then 1 else 0, trivial, hi, ?_, fun j hj => ?_⟩
 ·simp only [if_pos]; exact hp.1
 ·simp only []; rw [if_neg (by omega)]; exact Int.dvd_zero p
def sm (f : Nat → Int) : Nat → Int
 | 0 => 0
 | n + 1 => sm f n + f n
theorem qBv {f g : Nat → Int} : ∀ n, (∀ i, i < n → f i = g i) → sm f n = sm g n
 | 0, _ => rfl
 | n + 1, h => by simp only [sm]; rw [qBv n (fun i hi => h i (by omega)), h n (by omega)]
theorem qFh (f g : Nat → Int) : ∀ n, sm (fun i => f i + g i) n = sm f n + sm g n
 | 0 => rfl
 | n + 1 => by simp only [sm]; rw [qFh f g n]; omega
theorem qFf (c : Int) (f : Nat → Int) : ∀ n, sm (fun i => c * f i) n = c * sm f n
 | 0 => by simp [sm]
 | n + 1 => by simp only [sm]; rw [qFf c f n, Int.mul_add]
theorem qFg {p : Int} {f : Nat → Int} : ∀ n, (∀ i, i < n → p ∣ f i) → p ∣ sm f n
 | 0, _ => Int.dvd_zero p
 | n + 1, h => Int.dvd_add (qFg n fun i hi => h i (by omega)) (h n (by omega))
theorem sm_sub (f g : Nat → Int) (n : Nat) : sm (fun i => f i - g i) n = sm f n - sm g n := by
 have h := qFh f (fun i => -1 * g i) n
 rw [qFf] at h
 rw [show (fun i => f i - g i) = fun i => f i + -1 * g i by funext i; omega, h]; omega
theorem qHj : ∀ n, sm (fun _ => 0) n = 0
 | 0 => rfl
 | n + 1 => by simp only [sm]; rw [qHj n]; rfl
theorem qCl {f : Nat → Int} {p : Int} (i0 : Nat) : ∀ n, i0 < n → (∀ i, i < n → i ≠ i0 → p ∣ f i) → p ∣ sm f n - f i0
 | 0, h, _ => by omega
 | n + 1, h, hz => by
  simp only [sm]
  rcases Nat.lt_or_ge i0 n with hl | hg
  ·have := Int.dvd_add (qCl i0 n hl (fun i hi => hz i (by omega))) (hz n (by omega) (by omega))
   rwa [show sm f n - f i0 + f n = sm f n + f n - f i0 by omega] at this
  ·have : i0 = n := by omega
   subst this
   have := qFg (p := p) (f := f) i0 (fun i hi => hz i (by omega) (by omega))
   rwa [show sm f i0 + f i0 - f i0 = sm f i0 by omega]
theorem qI5 (f : Nat → Nat → Int) (m : Nat) : ∀ n, sm (fun i => sm (fun j => f i j) m) n = sm (fun j => sm (fun i => f i j) n) m
 | 0 => by simp only [sm]; rw [qHj]
 | n + 1 => by
  simp only [sm]
  rw [qI5 f m n, ← qFh]
def dt (n : Nat) (v w : Vec) : Int := sm (fun i => v i * w i) n
theorem qCw (n : Nat) (v w : Vec) : dt n v w = dt n w v := qBv n fun i _ => Int.mul_comm _ _
theorem qJu (n : Nat) (v w x : Vec) : dt n (fun i => v i + w i) x = dt n v x + dt n w x := by
 unfold dt; rw [← qFh]; exact qBv n fun i _ => Int.add_mul _ _ _
theorem qJt (n : Nat) (c : Int) (v x : Vec) : dt n (fun i => c * v i) x = c * dt n v x := by
 unfold dt; rw [← qFf]; exact qBv n fun i _ => Int.mul_assoc _ _ _
theorem qL8 {p : Int} {n : Nat} {v : Vec} (x : Vec) (h : Zr p n v) : p ∣ dt n v x := qFg n fun i hi => Int.dvd_mul_of_dvd_left (h i hi)
def Perp (p : Int) (n : Nat) (S : Vec → Prop) (v : Vec) : Prop := ∀ s, S s → p ∣ dt n v s
theorem qH5 (p : Int) (n : Nat) (S : Vec → Prop) : Sub p n (Perp p n S) where
 zero v hv s _ := qL8 s hv
 add v w h h' s hs := by rw [qJu]; exact Int.dvd_add (h s hs) (h' s hs)
 smul c v h s hs := by rw [qJt]; exact qA4 c (h s hs)
theorem qGw (p : Int) (n : Nat) (v : Vec) : Sub p n (fun s => p ∣ dt n v s) where
 zero w hw := by rw [qCw]; exact qL8 v hw
 add s t h h' := by rw [qCw, qJu, qCw n s, qCw n t]; exact Int.dvd_add h h'
 smul c s h := by rw [qCw, qJt, qCw n s]; exact qA4 c h
theorem qEl {p : Int} {n : Nat} (L : List Vec) (v : Vec) : Perp p n (Span p n L) v ↔ ∀ x, x ∈ L → p ∣ dt n v x :=
 ⟨fun h x hx => h x (qBg hx), fun h s hs => qBh (qGw p n v) h hs⟩
structure Rref (p : Int) (n r : Nat) (R : Nat → Vec) (q : Nat → Nat) : Prop where
 lt : ∀ i, i < r → q i < n
 mono : ∀ i j, i < j → j < r → q i < q j
 one : ∀ i, i < r → p ∣ R i (q i) - 1
 off : ∀ i j, i < r → j < r → i ≠ j → p ∣ R i (q j)
 pre : ∀ i c, i < r → c < q i → p ∣ R i c
def rows (R : Nat → Vec) (r : Nat) : List Vec := (List.range r).map R
theorem qBk {R : Nat → Vec} {r i : Nat} (h : i < r) : R i ∈ rows R r := List.mem_map_of_mem (List.mem_range.2 h)
theorem qB5 {R : Nat → Vec} {r : Nat} {x : Vec} (h : x ∈ rows R r) : ∃ i, i < r ∧ R i = x := by
 obtain ⟨i, hi, he⟩ := List.mem_map.1 h
 exact ⟨i, List.mem_range.1 hi, he⟩
def comb (R : Nat → Vec) (r : Nat) (c : Nat → Int) : Vec := fun j => sm (fun i => c i * R i j) r
theorem qG3 {p : Int} {n : Nat} {S : Vec → Prop} (hS : Sub p n S) (R : Nat → Vec) (c : Nat → Int) : ∀ r, (∀ i, i < r → S (R i)) → S (comb R r c)
 | 0, _ => hS.zero _ (fun _ _ => Int.dvd_zero p)
 | r + 1, h => hS.add _ _ (qG3 hS R c r (fun i hi => h i (by omega))) (hS.smul (c r) _ (h r (by omega)))
theorem qEg {p : Int} {n : Nat} (R : Nat → Vec) (r : Nat) (v : Vec) : Span p n (rows R r) v ↔ ∃ c, ∀ j, j < n → p ∣ v j - comb R r c j := by
 constructor
 ·refine qBh (T := fun v => ∃ c, ∀ j, j < n → p ∣ v j - comb R r c j) ⟨?_, ?_, ?_⟩ (fun x hx => ?_)
  ·intro v hv
   refine ⟨fun _ => 0, fun j hj => ?_⟩
   have e : comb R r (fun _ => 0) j = 0 := by
    unfold comb; rw [qBv (g := fun _ => 0) r (fun i _ => Int.zero_mul _), qHj]
   rw [e, Int.sub_zero]; exact hv j hj
  ·rintro v w ⟨c, hc⟩ ⟨d, hd⟩
   refine ⟨fun i => c i + d i, fun j hj => ?_⟩
   have e : comb R r (fun i => c i + d i) j = comb R r c j + comb R r d j := by
    unfold comb; rw [← qFh]; exact qBv r fun i _ => Int.add_mul _ _ _
   have := Int.dvd_add (hc j hj) (hd j hj)
   rwa [show v j - comb R r c j + (w j - comb R r d j) = v j + w j - (comb R r c j + comb R r d j) by omega, ← e] at this
  ·rintro a v ⟨c, hc⟩
   refine ⟨fun i => a * c i, fun j hj => ?_⟩
   have e : comb R r (fun i => a * c i) j = a * comb R r c j := by
    unfold comb; rw [← qFf]; exact qBv r fun i _ => Int.mul_assoc _ _ _
   have := qA4 a (hc j hj)
   rwa [Int.mul_sub, ← e] at this
  ·obtain ⟨i0, hi0, rfl⟩ := qB5 hx
   refine ⟨fun i => if i = i0 then 1 else 0, fun j hj => ?_⟩
   have := qCl (p := p) (f := fun i => (if i = i0 then 1 else 0) * R i j) i0 r hi0 (fun i _ hne => by simp [hne])
   simp only [if_pos, Int.one_mul] at this
   have := Int.dvd_neg.2 this
   rwa [Int.neg_sub] at this
 ·rintro ⟨c, hc⟩
  exact (qA8 p n _).congr (qG3 (qA8 p n _) R c r (fun i hi => qBg (qBk hi))) hc
theorem Rref.coef {p : Int} {n r : Nat} {R : Nat → Vec} {q : Nat → Nat} (h : Rref p n r R q) {v : Vec} (hv : Span p n (rows R r) v) (j : Nat) (hj : j < n) : p ∣ v j - comb R r (fun i => v (q i)) j := by
 obtain ⟨c, hc⟩ := (qEg R r v).1 hv
 have e : ∀ i, i < r → p ∣ v (q i) - c i := fun i hi => by
  have h1 := hc (q i) (h.lt i hi)
  have h2 := qCl (p := p) (f := fun k => c k * R k (q i)) i r hi (fun k hk hne => qA4 _ (h.off k i hk hi hne))
  have h3 := qA4 (c i) (h.one i hi)
  have := Int.dvd_add h1 (Int.dvd_add h2 h3)
  have e : v (q i) - comb R r c (q i) + (sm (fun k => c k * R k (q i)) r - c i * R i (q i) + c i * (R i (q i) - 1)) = v (q i) - c i := by
   unfold comb; grind
  rwa [e] at this
 have h4 : p ∣ comb R r c j - comb R r (fun i => v (q i)) j := by
  unfold comb
  rw [← sm_sub]
  refine qFg r fun i hi => ?_
  have := qA4 (R i j) (e i hi)
  have := Int.dvd_neg.2 this
  have e2 : -(R i j * (v (q i) - c i)) = c i * R i j - v (q i) * R i j := by grind
  rwa [e2] at this
 have := Int.dvd_add (hc j hj) h4
 rwa [show v j - comb R r c j + (comb R r c j - comb R r (fun i => v (q i)) j) = v j - comb R r (fun i => v (q i)) j by omega] at this
theorem Rref.zero {p : Int} {n r : Nat} {R : Nat → Vec} {q : Nat → Nat} (h : Rref p n r R q) {v : Vec} (hv : Span p n (rows R r) v) (hz : ∀ i, i < r → p ∣ v (q i)) : Zr p n v := fun j hj => by
 have h1 := h.coef hv j hj
 have h2 : p ∣ comb R r (fun i => v (q i)) j := qFg r fun i hi => Int.dvd_mul_of_dvd_left (hz i hi)
 have := Int.dvd_add h1 h2
 rwa [Int.sub_add_cancel] at this
theorem Rref.pl {p : Int} {n r : Nat} {R : Nat → Vec} {q : Nat → Nat} (hp : Pr p) (h : Rref p n r R q) (c : Nat) : Pl p n (Span p n (rows R r)) c ↔ ∃ i, i < r ∧ q i = c := by
 constructor
 ·rintro ⟨v, hv, hl⟩
  -- the first i with v (q i) not zero
  have hex : ∃ i, i < r ∧ ¬ p ∣ v (q i) := Classical.byContradiction fun hc => by
   refine ld_nz hl (h.zero hv fun i hi => Classical.byContradiction fun hd => hc ⟨i, hi, hd⟩)
  obtain ⟨i, ⟨hi, hni⟩, hmin⟩ := qLg hex
  refine ⟨i, hi, ?_⟩
  have hsm : ∀ c, c < q i → p ∣ v c := fun c hc => by
   have h1 := h.coef hv c (by have := h.lt i hi; omega)
   have h2 : p ∣ comb R r (fun i => v (q i)) c := qFg r fun k hk => by
    rcases Nat.lt_or_ge k i with hki | hki
    ·exact Int.dvd_mul_of_dvd_left (Classical.byContradiction fun hd => hmin k hki ⟨hk, hd⟩)
    ·refine qA4 _ (h.pre k c hk ?_)
     rcases Nat.eq_or_lt_of_le hki with rfl | hlt
     ·exact hc
     ·have := h.mono i k hlt hk; omega
   have := Int.dvd_add h1 h2
   rwa [Int.sub_add_cancel] at this
  rcases Nat.lt_trichotomy (q i) c with h1 | h1 | h1
  ·exact absurd (hl.2.2 _ h1) hni
  ·exact h1
  ·exact absurd (hsm c h1) hl.2.1
 ·rintro ⟨i, hi, rfl⟩
  refine ⟨R i, qBg (qBk hi), h.lt i hi, fun hd => hp.1 ?_, fun j hj => h.pre i j hi hj⟩
  have := Int.dvd_sub hd (h.one i hi)
  rwa [show R i (q i) - (R i (q i) - 1) = 1 by omega] at this
theorem Rref.indep {p : Int} {n r : Nat} {R : Nat → Vec} {q : Nat → Nat} (hp : Pr p) (h : Rref p n r R q) : dim p n (Span p n (rows R r)) = r := by
 have main : ∀ k, k ≤ r → cnt (fun c => ∃ i, i < k ∧ q i = c) n = k := by
  intro k
  induction k with
  | zero => intro _; exact qF7 _ n (fun c _ ⟨i, hi, _⟩ => by omega)
  | succ k ih =>
   intro hk
   rw [qDz (Q := fun c => ∃ i, i < k ∧ q i = c) (q k) n (h.lt k (by omega)) (fun ⟨i, hi, he⟩ => by have := h.mono i k hi (by omega); omega) (fun c _ => ⟨?_, ?_⟩), ih (by omega)]
   ·rintro ⟨i, hi, he⟩
    rcases Nat.lt_or_ge i k with hl | hg
    ·exact .inl ⟨i, hl, he⟩
    ·have : i = k := by omega
     subst this; exact .inr he.symm
   ·rintro (⟨i, hi, he⟩ | he)
    ·exact ⟨i, by omega, he⟩
    ·exact ⟨k, by omega, he.symm⟩
 unfold dim
 rw [qDs n (fun c _ => h.pl hp c)]
 exact main r (Nat.le_refl _)
theorem Rref.unique {p : Int} {n r r' : Nat} {R R' : Nat → Vec} {q q' : Nat → Nat} (hp : Pr p) (h : Rref p n r R q) (h' : Rref p n r' R' q') (hs : ∀ v, Span p n (rows R r) v ↔ Span p n (rows R' r') v) :
  r = r' ∧ ∀ i, i < r → q i = q' i ∧ ∀ j, j < n → p ∣ R i j - R' i j := by
 have hr : r = r' := by rw [← h.indep hp, ← h'.indep hp]; exact qBi hs
 subst hr
 have hpl : ∀ c, (∃ i, i < r ∧ q i = c) ↔ ∃ i, i < r ∧ q' i = c := fun c => by
  rw [← h.pl hp c, ← h'.pl hp c]
  exact ⟨fun ⟨v, h1, h2⟩ => ⟨v, (hs v).1 h1, h2⟩, fun ⟨v, h1, h2⟩ => ⟨v, (hs v).2 h1, h2⟩⟩
 have hq : ∀ i, i < r → q i = q' i := by
  intro i
  induction i using Nat.strongRecOn with
  | _ i ih =>
   intro hi
   obtain ⟨j, hj, e1⟩ := (hpl (q i)).1 ⟨i, hi, rfl⟩
   obtain ⟨k, hk, e2⟩ := (hpl (q' i)).2 ⟨i, hi, rfl⟩
   rcases Nat.lt_trichotomy i j with hl | he | hl
   ·-- q' i < q' j = q i; k must be < i
    have h1 := h'.mono i j hl hj
    rcases Nat.lt_trichotomy k i with hk' | hk' | hk'
    ·have := ih k hk' hk; have := h'.mono k i hk' hi; omega
    ·subst hk'; omega
    ·have := h.mono i k hk' hk; omega
   ·subst he; omega
   ·have := ih j hl hj; have := h.mono j i hl hi; omega
 refine ⟨rfl, fun i hi => ⟨hq i hi, fun j hj => ?_⟩⟩
 have hd : Span p n (rows R r) (fun j => R i j - R' i j) := (qA8 p n _).sub (qBg (qBk hi)) ((hs _).2 (qBg (qBk hi)))
 refine h.zero hd (fun k hk => ?_) j hj
 by_cases e : i = k
 ·subst e
  have h1 := h.one i hi
  have h2 := h'.one i hi
  rw [← hq i hi] at h2
  have := Int.dvd_sub h1 h2
  rwa [show R i (q i) - 1 - (R' i (q i) - 1) = R i (q i) - R' i (q i) by omega] at this
 ·have h1 := h.off i k hi hk e
  have h2 := h'.off i k hi hk e
  rw [← hq k hk] at h2
  exact Int.dvd_sub h1 h2
def qCs (n : Nat) (R : Nat → Vec) (v : Vec) : Vec := fun i => dt n v (R i)
theorem qEi (p : Int) (n r : Nat) (R : Nat → Vec) : Lmap p n r (qCs n R) where
 zr v hv i _ := qL8 (R i) hv
 add v w j _ := by unfold qCs; rw [qJu]; simp
 smul c v j _ := by unfold qCs; rw [qJt]; simp
theorem qC0 {p : Int} {n r : Nat} {R : Nat → Vec} (v : Vec) : Ker p r (qCs n R) v ↔ Perp p n (Span p n (rows R r)) v := by
 rw [qEl]
 constructor
 ·intro h x hx
  obtain ⟨i, hi, rfl⟩ := qB5 hx
  exact h i hi
 ·intro h i hi
  exact h _ (qBk hi)
def qHi (c : Nat) : Vec := fun j => if j = c then 1 else 0
theorem qL9 {p : Int} {n : Nat} (c : Nat) (hc : c < n) (v : Vec) : dt n (qHi c) v = v c := by
 have main : ∀ m, dt m (qHi c) v = if c < m then v c else 0 := by
  intro m
  induction m with
  | zero => simp [dt, sm]
  | succ m ih =>
   unfold dt at ih ⊢
   simp only [sm, ih]
   have e : qHi c m = if m = c then 1 else 0 := rfl
   rw [e]
   by_cases h1 : c < m
   ·rw [if_pos h1, if_neg (show ¬ m = c by omega), if_pos (show c < m + 1 by omega)]; simp
   ·by_cases h2 : m = c
    ·subst h2; simp
    ·rw [if_neg h1, if_neg h2, if_neg (show ¬ c < m + 1 by omega)]; simp
 rw [main, if_pos hc]
theorem Rref.dim_perp {p : Int} {n r : Nat} {R : Nat → Vec} {q : Nat → Nat} (hp : Pr p) (h : Rref p n r R q) : dim p n (Perp p n (Span p n (rows R r))) + r = n := by
 have h1 := qD5 hp (qEi p n r R) (qKa p n)
 have h2 : dim p r (Img p r (qCs n R) All) = r := by
  have : ∀ y, Img p r (qCs n R) All y ↔ All y := fun y => ⟨fun _ => trivial, fun _ => by
   refine ⟨fun c => sm (fun i => y i * qHi (q i) c) r, trivial, fun j hj => ?_⟩
   have e : qCs n R (fun c => sm (fun i => y i * qHi (q i) c) r) j = sm (fun i => y i * R j (q i)) r := by
    unfold qCs dt
    have e1 : ∀ c, c < n → sm (fun i => y i * qHi (q i) c) r * R j c = sm (fun i => y i * (qHi (q i) c * R j c)) r := fun c _ => by
     rw [Int.mul_comm, ← qFf]
     exact qBv r fun i _ => by grind
    rw [qBv n e1, qI5]
    refine qBv r fun i hi => ?_
    rw [qFf]
    have := qL9 (p := p) (n := n) (q i) (h.lt i hi) (R j)
    unfold dt at this
    rw [this]
   rw [e]
   have h3 := qCl (p := p) (f := fun i => y i * R j (q i)) j r hj (fun k hk hne => qA4 _ (h.off j k hj hk (Ne.symm hne)))
   have h4 := qA4 (y j) (h.one j hj)
   have := Int.dvd_neg.2 (Int.dvd_add h3 h4)
   have e2 : -(sm (fun i => y i * R j (q i)) r - y j * R j (q j) + y j * (R j (q j) - 1)) = y j - sm (fun i => y i * R j (q i)) r := by grind
   rwa [e2] at this⟩
  rw [qBi this, qHx hp r]
 rw [qHx hp n, h2] at h1
 have h3 : dim p n (qMj All (Ker p r (qCs n R))) = dim p n (Perp p n (Span p n (rows R r))) := qBi fun v => ⟨fun h => (qC0 v).1 h.2, fun h => ⟨trivial, (qC0 v).2 h⟩⟩
 omega
structure GInv (p : Int) (n m c r : Nat) (R : Nat → Vec) (q : Nat → Nat) : Prop where
 rm : r ≤ m
 lt : ∀ i, i < r → q i < c
 mono : ∀ i j, i < j → j < r → q i < q j
 one : ∀ i, i < r → p ∣ R i (q i) - 1
 off : ∀ i j, i < r → j < m → j ≠ i → p ∣ R j (q i)
 pre : ∀ i k, i < r → k < q i → p ∣ R i k
 low : ∀ i k, r ≤ i → i < m → k < c → p ∣ R i k
theorem GInv.start (p : Int) (n m : Nat) (R : Nat → Vec) (q : Nat → Nat) : GInv p n m 0 0 R q :=
 ⟨Nat.zero_le _, fun i h => by omega, fun i j _ h => by omega, fun i h => by omega, fun i j h => by omega, fun i k h => by omega, fun i k _ _ h => by omega⟩
theorem GInv.none {p : Int} {n m c r : Nat} {R : Nat → Vec} {q : Nat → Nat} (h : GInv p n m c r R q) (hz : ∀ i, r ≤ i → i < m → p ∣ R i c) : GInv p n m (c + 1) r R q :=
 ⟨h.rm, fun i hi => by have := h.lt i hi; omega, h.mono, h.one, h.off, h.pre, fun i k h1 h2 h3 => by
  rcases Nat.lt_or_ge k c with hl | hg
  ·exact h.low i k h1 h2 hl
  ·have : k = c := by omega
   subst this; exact hz i h1 h2⟩
theorem GInv.swap {p : Int} {n m c r : Nat} {R R1 : Nat → Vec} {q : Nat → Nat} (h : GInv p n m c r R q) {a : Nat} (ha : r ≤ a) (ham : a < m) (e1 : ∀ j, R1 r j = R a j) (e2 : ∀ j, R1 a j = R r j) (e3 : ∀ i j, i < m → i ≠ r → i ≠ a → R1 i j = R i j) : GInv p n m c r R1 q := by
 have e : ∀ i, i < m → ∃ k, k < m ∧ (r ≤ i → r ≤ k) ∧ (i < r → k = i) ∧ ∀ j, R1 i j = R k j := fun i hi => by
  by_cases h1 : i = r
  ·subst h1; exact ⟨a, ham, fun _ => ha, fun hh => by omega, e1⟩
  ·by_cases h2 : i = a
   ·subst h2; exact ⟨r, by omega, fun _ => Nat.le_refl _, fun hh => by omega, e2⟩
   ·exact ⟨i, hi, fun hh => hh, fun _ => rfl, fun j => e3 i j hi h1 h2⟩
 refine ⟨h.rm, h.lt, h.mono, fun i hi => ?_, fun i j hi hj hne => ?_, fun i k hi hk => ?_, fun i k h1 h2 h3 => ?_⟩
 ·obtain ⟨k, _, _, hk, he⟩ := e i (by omega)
  rw [he, hk hi]; exact h.one i hi
 ·obtain ⟨k, hkm, hkr, hk, he⟩ := e j hj
  rw [he]
  refine h.off i k hi hkm ?_
  rcases Nat.lt_or_ge j r with hl | hg
  ·rw [hk hl]; exact hne
  ·have := hkr hg; omega
 ·obtain ⟨k', _, _, hk', he⟩ := e i (by omega)
  rw [he, hk' hi]; exact h.pre i k hi hk
 ·obtain ⟨k', hkm, hkr, _, he⟩ := e i h2
  rw [he]; exact h.low k' k (hkr h1) hkm h3
theorem GInv.step {p : Int} {n m c r : Nat} {R R' : Nat → Vec} {q q' : Nat → Nat} (h : GInv p n m c r R q) (hrm : r < m) {b : Int} (hb : p ∣ R r c * b - 1)
  (e1 : ∀ j, j ≤ c → p ∣ R' r j - b * R r j) (e2 : ∀ i j, i < m → i ≠ r → j ≤ c → p ∣ R' i j - (R i j - R i c * R' r j)) (hq : ∀ i, i < r → q' i = q i) (hqr : q' r = c) : GInv p n m (c + 1) (r + 1) R' q' := by
 have top0 : ∀ k, k < c → p ∣ R' r k := fun k hk => by
  have := Int.dvd_add (e1 k (by omega)) (qA4 b (h.low r k (Nat.le_refl _) hrm hk))
  rwa [Int.sub_add_cancel] at this
 have top1 : p ∣ R' r c - 1 := by
  have := Int.dvd_add (e1 c (Nat.le_refl _)) hb
  rwa [show R' r c - b * R r c + (R r c * b - 1) = R' r c - 1 by grind] at this
 have same : ∀ i k, i < m → i ≠ r → k < c → p ∣ R' i k - R i k := fun i k hi hne hk => by
  have := Int.dvd_sub (e2 i k hi hne (by omega)) (qA4 (R i c) (top0 k hk))
  rwa [show R' i k - (R i k - R i c * R' r k) - R i c * R' r k = R' i k - R i k by omega] at this
 have clr : ∀ i, i < m → i ≠ r → p ∣ R' i c := fun i hi hne => by
  have := Int.dvd_sub (e2 i c hi hne (Nat.le_refl _)) (qA4 (R i c) top1)
  rwa [show R' i c - (R i c - R i c * R' r c) - R i c * (R' r c - 1) = R' i c by grind] at this
 refine ⟨by omega, fun i hi => ?_, fun i j hij hj => ?_, fun i hi => ?_, fun i j hi hj hne => ?_, fun i k hi hk => ?_, fun i k h1 h2 h3 => ?_⟩
 ·rcases Nat.lt_or_ge i r with hl | hg
  ·rw [hq i hl]; have := h.lt i hl; omega
  ·have : i = r := by omega
   subst this; omega
 ·rcases Nat.lt_or_ge j r with hl | hg
  ·rw [hq i (by omega), hq j hl]; exact h.mono i j hij hl
  ·have : j = r := by omega
   subst this; rw [hq i hij, hqr]; exact h.lt i hij
 ·rcases Nat.lt_or_ge i r with hl | hg
  ·rw [hq i hl]
   have := Int.dvd_add (same i (q i) (by omega) (by omega) (h.lt i hl)) (h.one i hl)
   rwa [show R' i (q i) - R i (q i) + (R i (q i) - 1) = R' i (q i) - 1 by omega] at this
  ·have : i = r := by omega
   subst this; rw [hqr]; exact top1
 ·rcases Nat.lt_or_ge i r with hl | hg
  ·rw [hq i hl]
   by_cases hj' : j = r
   ·subst hj'; exact top0 _ (h.lt i hl)
   ·have := Int.dvd_add (same j (q i) hj hj' (h.lt i hl)) (h.off i j hl hj hne)
    rwa [Int.sub_add_cancel] at this
  ·have : i = r := by omega
   subst this; rw [hqr]; exact clr j hj hne
 ·rcases Nat.lt_or_ge i r with hl | hg
  ·rw [hq i hl] at hk
   have := h.lt i hl
   have := Int.dvd_add (same i k (by omega) (by omega) (by omega)) (h.pre i k hl hk)
   rwa [Int.sub_add_cancel] at this
  ·have : i = r := by omega
   subst this; rw [hqr] at hk; exact top0 k hk
 ·rcases Nat.lt_or_ge k c with hl | hg
  ·have := Int.dvd_add (same i k h2 (by omega) hl) (h.low i k (by omega) h2 hl)
   rwa [Int.sub_add_cancel] at this
  ·have : k = c := by omega
   subst this; exact clr i h2 (by omega)
theorem GInv.rref {p : Int} {n m r : Nat} {R : Nat → Vec} {q : Nat → Nat} (h : GInv p n m n r R q) : Rref p n r R q :=
 ⟨h.lt, h.mono, h.one, fun i j hi hj hne => h.off j i hj (by have := h.rm; omega) hne, h.pre⟩
theorem GInv.span {p : Int} {n m r : Nat} {R : Nat → Vec} {q : Nat → Nat} (h : GInv p n m n r R q) (v : Vec) : Span p n (rows R m) v ↔ Span p n (rows R r) v := by
 constructor
 ·refine qCk (fun x hx => ?_)
  obtain ⟨i, hi, rfl⟩ := qB5 hx
  rcases Nat.lt_or_ge i r with hl | hg
  ·exact qBg (qBk hl)
  ·exact (qA8 p n _).zero _ (fun k hk => h.low i k hg hi hk)
 ·refine qCk (fun x hx => ?_)
  obtain ⟨i, hi, rfl⟩ := qB5 hx
  exact qBg (qBk (by have := h.rm; omega))
theorem qI4 {p : Int} {n m r : Nat} {R R' : Nat → Vec} (hrm : r < m) {a b : Int} (c : Nat → Int) (hb : p ∣ a * b - 1)
  (e1 : ∀ j, j < n → p ∣ R' r j - b * R r j) (e2 : ∀ i j, i < m → i ≠ r → j < n → p ∣ R' i j - (R i j - c i * R' r j)) (v : Vec) : Span p n (rows R' m) v ↔ Span p n (rows R m) v := by
 have sub := qA8 p n (rows R m)
 have sub' := qA8 p n (rows R' m)
 have htop : Span p n (rows R m) (R' r) := sub.congr (sub.smul b _ (qBg (qBk hrm))) e1
 constructor
 ·refine qCk (fun x hx => ?_)
  obtain ⟨i, hi, rfl⟩ := qB5 hx
  by_cases h : i = r
  ·subst h; exact htop
  ·exact sub.congr (sub.sub (qBg (qBk hi)) (sub.smul (c i) _ htop)) (fun j hj => e2 i j hi h hj)
 ·refine qCk (fun x hx => ?_)
  obtain ⟨i, hi, rfl⟩ := qB5 hx
  by_cases h : i = r
  ·subst h
   refine sub'.congr (sub'.smul a _ (qBg (qBk hi))) (fun j hj => ?_)
   have h1 := qA4 a (e1 j hj)
   have h2 := qA4 (R i j) hb
   have := Int.dvd_neg.2 (Int.dvd_add h1 h2)
   rwa [show -(a * (R' i j - b * R i j) + R i j * (a * b - 1)) = R i j - a * R' i j by grind] at this
  ·refine sub'.congr (sub'.add _ _ (qBg (qBk hi)) (sub'.smul (c i) _ (qBg (qBk hrm)))) (fun j hj => ?_)
   have := Int.dvd_neg.2 (e2 i j hi h hj)
   rwa [show -(R' i j - (R i j - c i * R' r j)) = R i j - (R' i j + c i * R' r j) by omega] at this
theorem qDi {p : Int} {n m : Nat} {R R' : Nat → Vec} (h : ∀ i, i < m → ∃ k, k < m ∧ ∀ j, j < n → p ∣ R' i j - R k j) (h' : ∀ i, i < m → ∃ k, k < m ∧ ∀ j, j < n → p ∣ R i j - R' k j) (v : Vec) : Span p n (rows R' m) v ↔ Span p n (rows R m) v := by
 constructor
 ·refine qCk (fun x hx => ?_)
  obtain ⟨i, hi, rfl⟩ := qB5 hx
  obtain ⟨k, hk, he⟩ := h i hi
  exact (qA8 p n _).congr (qBg (qBk hk)) he
 ·refine qCk (fun x hx => ?_)
  obtain ⟨i, hi, rfl⟩ := qB5 hx
  obtain ⟨k, hk, he⟩ := h' i hi
  exact (qA8 p n _).congr (qBg (qBk hk)) he
structure KerVec (p : Int) (n r : Nat) (R : Nat → Vec) (q : Nat → Nat) (c : Nat) (x : Vec) : Prop where
 one : p ∣ x c - 1
 piv : ∀ i, i < r → p ∣ x (q i) + R i c
 oth : ∀ j, j < n → j ≠ c → (∀ i, i < r → q i ≠ j) → p ∣ x j
theorem Rref.perp_iff {p : Int} {n r : Nat} {R : Nat → Vec} {q : Nat → Nat} (h : Rref p n r R q) (v : Vec) : Perp p n (Span p n (rows R r)) v ↔ ∀ i, i < r → p ∣ dt n v (R i) := by
 rw [qEl]
 constructor
 ·exact fun h' i hi => h' _ (qBk hi)
 ·intro h' x hx
  obtain ⟨i, hi, rfl⟩ := qB5 hx
  exact h' i hi
theorem sm_two {f : Nat → Int} {p : Int} (a b : Nat) (hab : a ≠ b) : ∀ n, a < n → b < n → (∀ i, i < n → i ≠ a → i ≠ b → p ∣ f i) → p ∣ sm f n - (f a + f b) := by
 intro n ha hb hz
 have h1 := qCl (p := p) (f := fun i => if i = a then 0 else f i) b n hb (fun i hi hne => by
  by_cases h : i = a
  ·simp only [if_pos h]; exact Int.dvd_zero p
  ·simp only [if_neg h]; exact hz i hi h hne)
 have h2 := qCl (p := p) (f := fun i => if i = a then f i else 0) a n ha (fun i hi hne => by
  simp only [if_neg hne]; exact Int.dvd_zero p)
 have e : sm f n = sm (fun i => if i = a then 0 else f i) n + sm (fun i => if i = a then f i else 0) n := by
  rw [← qFh]; exact qBv n fun i _ => by split <;> omega
 have := Int.dvd_add h1 h2
 simp only [if_neg (Ne.symm hab), if_pos] at this
 rw [e]
 rwa [show sm (fun i => if i = a then 0 else f i) n - f b + (sm (fun i => if i = a then f i else 0) n - f a) = sm (fun i => if i = a then 0 else f i) n + sm (fun i => if i = a then f i else 0) n - (f a + f b) by omega] at this
theorem KerVec.perp {p : Int} {n r : Nat} {R : Nat → Vec} {q : Nat → Nat} (h : Rref p n r R q) {c : Nat} (hc : c < n) (hf : ∀ i, i < r → q i ≠ c) {x : Vec} (hx : KerVec p n r R q c x) : Perp p n (Span p n (rows R r)) x := by
 rw [h.perp_iff]
 intro i hi
 have h1 := sm_two (p := p) (f := fun j => x j * R i j) c (q i) (Ne.symm (hf i hi)) n hc (h.lt i hi) (fun j hj h1 h2 => by
  by_cases h3 : ∃ k, k < r ∧ q k = j
  ·obtain ⟨k, hk, rfl⟩ := h3
   exact qA4 _ (h.off i k hi hk (fun e => by subst e; exact h2 rfl))
  ·exact Int.dvd_mul_of_dvd_left (hx.oth j hj h1 (fun k hk e => h3 ⟨k, hk, e⟩)))
 have h2 := qA4 (R i c) hx.one
 have h3 := qA4 (R i (q i)) (hx.piv i hi)
 have h4 := qA4 (R i c) (h.one i hi)
 have := Int.dvd_sub (Int.dvd_add h1 (Int.dvd_add h2 h3)) h4
 unfold dt
 rwa [show sm (fun j => x j * R i j) n - (x c * R i c + x (q i) * R i (q i)) + (R i c * (x c - 1) + R i (q i) * (x (q i) + R i c)) - R i c * (R i (q i) - 1) = sm (fun j => x j * R i j) n by grind] at this
theorem qEs {p : Int} {n r : Nat} {R : Nat → Vec} {q : Nat → Nat} (hp : Pr p) : ∀ (F : List Nat) (X : Nat → Vec), (∀ c, c ∈ F → c < n ∧ (∀ i, i < r → q i ≠ c) ∧ KerVec p n r R q c (X c)) → F.Nodup → qFc p n (F.map X)
 | [], _, _, _ => trivial
 | c :: F, X, h, hn => by
  have hc := h c List.mem_cons_self
  have hcF : c ∉ F := (List.nodup_cons.1 hn).1
  refine ⟨fun hs => hp.1 ?_, qEs hp F X (fun d hd => h d (List.mem_cons_of_mem _ hd)) (List.nodup_cons.1 hn).2⟩
  have hT : Sub p n (fun v => p ∣ v c) := ⟨fun v hv => hv c hc.1, fun v w h1 h2 => Int.dvd_add h1 h2, fun a v h1 => qA4 a h1⟩
  have h0 : p ∣ X c c := qBh hT (fun x hx => by
   obtain ⟨d, hd, rfl⟩ := List.mem_map.1 hx
   have hd' := h d (List.mem_cons_of_mem _ hd)
   exact hd'.2.2.oth c hc.1 (fun e => hcF (by rw [e]; exact hd)) hc.2.1) hs
  have := Int.dvd_sub h0 hc.2.2.one
  rwa [show X c c - (X c c - 1) = 1 by omega] at this
theorem qKx {p : Int} {n r : Nat} {R : Nat → Vec} {q : Nat → Nat} (hp : Pr p) (h : Rref p n r R q) (F : List Nat) (X : Nat → Vec) (hF : ∀ c, c ∈ F → c < n ∧ (∀ i, i < r → q i ≠ c) ∧ KerVec p n r R q c (X c)) (hn : F.Nodup) (hl : F.length + r = n) (v : Vec) :
  Span p n (F.map X) v ↔ Perp p n (Span p n (rows R r)) v := by
 have hle : ∀ v, Span p n (F.map X) v → Perp p n (Span p n (rows R r)) v := fun v => qBh (qH5 p n _) (fun x hx => by
  obtain ⟨c, hc, rfl⟩ := List.mem_map.1 hx
  obtain ⟨h1, h2, h3⟩ := hF c hc
  exact h3.perp h h1 h2)
 refine ⟨hle v, qFe hp (qA8 p n _) (qH5 p n _) hle ?_ v⟩
 have h1 := qCx hp (qEs hp F X hF hn)
 have h2 := h.dim_perp hp
 rw [List.length_map] at h1
 omega
theorem qIt {n r : Nat} {q : Nat → Nat} (lt : ∀ i, i < r → q i < n) (mono : ∀ i j, i < j → j < r → q i < q j) (f : Nat → Bool) (hf : ∀ c, c < n → (f c = true ↔ ∀ i, i < r → q i ≠ c)) : ((List.range n).filter f).length + r = n := by
 induction n generalizing r with
 | zero =>
  rcases Nat.eq_zero_or_pos r with h | h
  ·subst h; rfl
  ·have := lt 0 h; omega
 | succ n ih =>
  rw [List.range_succ, List.filter_append, List.length_append]
  by_cases hc : ∃ i, i < r ∧ q i = n
  ·obtain ⟨i, hi, he⟩ := hc
   have hir : i = r - 1 := by
    rcases Nat.lt_or_ge i (r - 1) with hl | hg
    ·have := mono i (r - 1) hl (by omega); have := lt (r - 1) (by omega); omega
    ·omega
   have hfn : f n = false := by
    cases hfn : f n with
    | false => rfl
    | true => exact absurd he ((hf n (by omega)).1 hfn i hi)
   have := ih (r := r - 1) (fun j hj => by have := mono j (r - 1) (by omega) (by omega); rw [← hir, he] at this; exact this) (fun a b hab hb => mono a b hab (by omega)) (fun c hcn => by
    rw [hf c (by omega)]
    constructor
    ·exact fun h j hj => h j (by omega)
    ·intro h j hj
     rcases Nat.lt_or_ge j (r - 1) with hl | hg
     ·exact h j hl
     ·have : j = i := by omega
      subst this; omega)
   simp only [List.filter_cons, hfn, List.filter_nil]
   simp only [Bool.false_eq_true, if_false, List.length_nil]
   omega
  ·have hfn : f n = true := (hf n (by omega)).2 (fun i hi he => hc ⟨i, hi, he⟩)
   have := ih (r := r) (fun j hj => by
    have h1 := lt j hj
    rcases Nat.lt_or_ge (q j) n with hl | hg
    ·exact hl
    ·exact absurd ⟨j, hj, by omega⟩ hc) mono (fun c hcn => hf c (by omega))
   simp only [List.filter_cons, hfn, List.filter_nil]
   simp only [if_true, List.length_cons, List.length_nil]
   omega
end Go.Proofs.Ytkgajpngeglkmaa.B.LinT
set_option linter.unusedVariables false
set_option linter.unusedSimpArgs false
namespace Go.Proofs.Ytkgajpngeglkmaa.B.LinT
def isP (p : Nat) : Bool := decide (2 ≤ p) && decide (p ≤ 251) && (List.range 16).all fun d => decide (d < 2) || decide (p < d * d) || decide (p % d ≠ 0)
theorem qIu : ((List.range 252).all fun p => !isP p || (List.range p).all fun a => a == 0 || a * a ^ (p - 2) % p == 1) = true := by decide +kernel
theorem qBo {p : Nat} (h : isP p = true) : 2 ≤ p ∧ p ≤ 251 := by
 unfold isP at h
 rw [Bool.and_eq_true, Bool.and_eq_true, decide_eq_true_iff, decide_eq_true_iff] at h
 exact h.1
theorem fermat {p a : Nat} (h : isP p = true) (ha : a < p) (h0 : a ≠ 0) : a * a ^ (p - 2) % p = 1 := by
 have h1 := List.all_eq_true.1 qIu p (List.mem_range.2 (by have := qBo h; omega))
 rw [h] at h1
 have h2 : ∀ x, x < p → x = 0 ∨ x * x ^ (p - 2) % p = 1 := by simpa using h1
 exact (h2 a ha).resolve_left h0
theorem qHv {p a : Nat} (h : isP p = true) (ha : a < p) (h0 : a ≠ 0) : (p : Int) ∣ (a : Int) * ((a ^ (p - 2) % p : Nat) : Int) - 1 := by
 have h1 := fermat h ha h0
 have h2 : a * (a ^ (p - 2) % p) % p = 1 := by rw [Nat.mul_mod, Nat.mod_mod, ← Nat.mul_mod]; exact h1
 have h3 := Nat.div_add_mod (a * (a ^ (p - 2) % p)) p
 rw [h2] at h3
 refine ⟨((a * (a ^ (p - 2) % p) / p : Nat) : Int), ?_⟩
 have h4 : ((a * (a ^ (p - 2) % p) : Nat) : Int) = ((p * (a * (a ^ (p - 2) % p) / p) + 1 : Nat) : Int) := by rw [h3]
 rw [Int.natCast_mul, Int.natCast_add, Int.natCast_mul] at h4
 omega
theorem qC9 {p : Nat} (h : isP p = true) : Pr (p : Int) := by
 have h2 := qBo h
 refine ⟨fun hd => ?_, fun a ha => ?_⟩
 ·have := Int.le_of_dvd (by decide) hd; omega
 ·have hm : a % (p : Int) ≠ 0 := fun he => ha (Int.dvd_of_emod_eq_zero he)
  have h3 := Int.emod_nonneg a (b := (p : Int)) (by omega)
  have h4 := Int.emod_lt_of_pos a (b := (p : Int)) (by omega)
  obtain ⟨n, hn⟩ := Int.eq_ofNat_of_zero_le h3
  have h5 := qHv (a := n) h (by omega) (by omega)
  refine ⟨((n ^ (p - 2) % p : Nat) : Int), ?_⟩
  have h6 : (p : Int) ∣ a - (n : Int) := by rw [← hn]; exact Int.dvd_self_sub_emod
  have h7 := Int.dvd_add (show (p : Int) ∣ (a - (n : Int)) * ((n ^ (p - 2) % p : Nat) : Int) from Int.dvd_mul_of_dvd_left h6) h5
  rwa [show (a - (n : Int)) * ((n ^ (p - 2) % p : Nat) : Int) + ((n : Int) * ((n ^ (p - 2) % p : Nat) : Int) - 1) = a * ((n ^ (p - 2) % p : Nat) : Int) - 1 by grind] at h7
structure El (p : Int) (n m : Nat) (R0 : Nat → Vec) (c r : Nat) (R : Nat → Vec) (q : Nat → Nat) : Prop where
 g : GInv p n m c r R q
 sp : ∀ v, Span p n (rows R m) v ↔ Span p n (rows R0 m) v
 ge : ∀ i j, i < m → j < n → 0 ≤ R i j
 lt : ∀ i j, i < m → j < n → R i j < p
theorem El.start {p : Int} {n m : Nat} {R : Nat → Vec} (h0 : ∀ i j, i < m → j < n → 0 ≤ R i j) (h1 : ∀ i j, i < m → j < n → R i j < p) (q : Nat → Nat) : El p n m R 0 0 R q :=
 ⟨GInv.start p n m R q, fun _ => Iff.rfl, h0, h1⟩
theorem El.none {p : Int} {n m c r : Nat} {R0 R : Nat → Vec} {q : Nat → Nat} (h : El p n m R0 c r R q) (hz : ∀ i, r ≤ i → i < m → R i c = 0) : El p n m R0 (c + 1) r R q :=
 ⟨h.g.none fun i h1 h2 => by rw [hz i h1 h2]; exact Int.dvd_zero p, h.sp, h.ge, h.lt⟩
theorem El.congr {p : Int} {n m c r : Nat} {R0 R R1 : Nat → Vec} {q : Nat → Nat} (h : El p n m R0 c r R q) (hc : c ≤ n) (e : ∀ i j, i < m → j < n → R1 i j = R i j) : El p n m R0 c r R1 q := by
 have hr := h.g.rm
 refine ⟨⟨h.g.rm, h.g.lt, h.g.mono, fun i hi => ?_, fun i j hi hj hne => ?_, fun i k hi hk => ?_, fun i k h1 h2 h3 => ?_⟩, fun v => ?_, fun i j hi hj => by rw [e i j hi hj]; exact h.ge i j hi hj, fun i j hi hj => by rw [e i j hi hj]; exact h.lt i j hi hj⟩
 ·have := h.g.lt i hi
  rw [e i _ (by omega) (by omega)]; exact h.g.one i hi
 ·have := h.g.lt i hi
  rw [e j _ hj (by omega)]; exact h.g.off i j hi hj hne
 ·have := h.g.lt i hi
  rw [e i _ (by omega) (by omega)]; exact h.g.pre i k hi hk
 ·rw [e i _ h2 (by omega)]; exact h.g.low i k h1 h2 h3
 ·rw [← h.sp v]
  exact qDi (fun i hi => ⟨i, hi, fun j hj => by rw [e i j hi hj, Int.sub_self]; exact Int.dvd_zero p⟩) (fun i hi => ⟨i, hi, fun j hj => by rw [e i j hi hj, Int.sub_self]; exact Int.dvd_zero p⟩) v
theorem El.swap {p : Int} {n m c r : Nat} {R0 R R1 : Nat → Vec} {q : Nat → Nat} (h : El p n m R0 c r R q) {a : Nat} (ha : r ≤ a) (ham : a < m) (e1 : ∀ j, R1 r j = R a j) (e2 : ∀ j, R1 a j = R r j) (e3 : ∀ i j, i < m → i ≠ r → i ≠ a → R1 i j = R i j) : El p n m R0 c r R1 q := by
 have e : ∀ i, i < m → ∃ k, k < m ∧ ∀ j, R1 i j = R k j := fun i hi => by
  by_cases h1 : i = r
  ·subst h1; exact ⟨a, ham, e1⟩
  ·by_cases h2 : i = a
   ·subst h2; exact ⟨r, by omega, e2⟩
   ·exact ⟨i, hi, fun j => e3 i j hi h1 h2⟩
 have e' : ∀ i, i < m → ∃ k, k < m ∧ ∀ j, R i j = R1 k j := fun i hi => by
  by_cases h1 : i = r
  ·subst h1; exact ⟨a, ham, fun j => (e2 j).symm⟩
  ·by_cases h2 : i = a
   ·subst h2; exact ⟨r, by omega, fun j => (e1 j).symm⟩
   ·exact ⟨i, hi, fun j => (e3 i j hi h1 h2).symm⟩
 refine ⟨h.g.swap ha ham e1 e2 e3, fun v => ?_, fun i j hi hj => ?_, fun i j hi hj => ?_⟩
 ·rw [← h.sp v]
  refine qDi (fun i hi => ?_) (fun i hi => ?_) v
  ·obtain ⟨k, hk, he⟩ := e i hi
   exact ⟨k, hk, fun j _ => by rw [he j, Int.sub_self]; exact Int.dvd_zero p⟩
  ·obtain ⟨k, hk, he⟩ := e' i hi
   exact ⟨k, hk, fun j _ => by rw [he j, Int.sub_self]; exact Int.dvd_zero p⟩
 ·obtain ⟨k, hk, he⟩ := e i hi
  rw [he]; exact h.ge k j hk hj
 ·obtain ⟨k, hk, he⟩ := e i hi
  rw [he]; exact h.lt k j hk hj
theorem El.congr0 {p : Int} {n m c r : Nat} {R0 R1 R : Nat → Vec} {q : Nat → Nat} (h : El p n m R0 c r R q) (e : ∀ i j, i < m → j < n → R1 i j = R0 i j) : El p n m R1 c r R q :=
 ⟨h.g, fun v => (h.sp v).trans (qDi (fun i hi => ⟨i, hi, fun j hj => by rw [e i j hi hj, Int.sub_self]; exact Int.dvd_zero p⟩) (fun i hi => ⟨i, hi, fun j hj => by rw [e i j hi hj, Int.sub_self]; exact Int.dvd_zero p⟩) v), h.ge, h.lt⟩
theorem El.swap' {p : Int} {n m c r : Nat} {R0 R R1 : Nat → Vec} {q : Nat → Nat} (h : El p n m R0 c r R q) (hc : c ≤ n) {a : Nat} (ha : r ≤ a) (ham : a < m) (e1 : ∀ j, j < n → R1 r j = R a j) (e2 : ∀ j, j < n → R1 a j = R r j) (e3 : ∀ i j, i < m → i ≠ r → i ≠ a → j < n → R1 i j = R i j) : El p n m R0 c r R1 q := by
 refine (h.swap (R1 := fun i j => if i = r then R a j else if i = a then R r j else R i j) ha ham (fun j => by simp) (fun j => ?_) (fun i j _ h1 h2 => by simp [h1, h2])).congr hc (fun i j hi hj => ?_)
 ·by_cases h1 : a = r
  ·subst h1; simp
  ·simp [h1]
 ·by_cases h1 : i = r
  ·subst h1; simp [e1 j hj]
  ·by_cases h2 : i = a
   ·subst h2; simp [h1, e2 j hj]
   ·simp [h1, h2, e3 i j hi h1 h2 hj]
theorem El.step {p : Int} {n m c r : Nat} {R0 R R' : Nat → Vec} {q q' : Nat → Nat} (h : El p n m R0 c r R q) (hc : c < n) (hrm : r < m) {b : Int} (hb : p ∣ R r c * b - 1)
  (e1 : ∀ j, j < n → p ∣ R' r j - b * R r j) (e2 : ∀ i j, i < m → i ≠ r → j < n → p ∣ R' i j - (R i j - R i c * R' r j)) (hq : ∀ i, i < r → q' i = q i) (hqr : q' r = c)
  (h0 : ∀ i j, i < m → j < n → 0 ≤ R' i j) (h1 : ∀ i j, i < m → j < n → R' i j < p) : El p n m R0 (c + 1) (r + 1) R' q' :=
 ⟨h.g.step hrm hb (fun j hj => e1 j (by omega)) (fun i j hi hne hj => e2 i j hi hne (by omega)) hq hqr, fun v => by rw [← h.sp v]; exact qI4 hrm (fun i => R i c) hb e1 e2 v, h0, h1⟩
theorem El.full {p : Int} {n m r : Nat} {R0 R : Nat → Vec} {q : Nat → Nat} : ∀ {c : Nat}, c ≤ n → r = m → El p n m R0 c r R q → El p n m R0 n r R q := by
 intro c hc hr h
 obtain ⟨d, hd⟩ : ∃ d, n = c + d := ⟨n - c, by omega⟩
 have : ∀ e, El p n m R0 (c + e) r R q := fun e => by
  induction e with
  | zero => exact h
  | succ e ih => exact ih.none (fun i h1 h2 => by omega)
 rw [hd] at this ⊢; exact this d
theorem El.same {p : Int} {n m m' r r' : Nat} {R0 R R0' R' : Nat → Vec} {q q' : Nat → Nat} (hp : Pr p) (h : El p n m R0 n r R q) (h' : El p n m' R0' n r' R' q')
  (hs : ∀ v, Span p n (rows R0 m) v ↔ Span p n (rows R0' m') v) : r = r' ∧ ∀ i, i < r → q i = q' i ∧ ∀ j, j < n → R i j = R' i j := by
 have hs2 : ∀ v, Span p n (rows R r) v ↔ Span p n (rows R' r') v := fun v => by rw [← h.g.span v, ← h'.g.span v, h.sp v, h'.sp v, hs v]
 obtain ⟨e1, e2⟩ := h.g.rref.unique hp h'.g.rref hs2
 refine ⟨e1, fun i hi => ⟨(e2 i hi).1, fun j hj => ?_⟩⟩
 have hd := (e2 i hi).2 j hj
 have hr := h.g.rm
 have hr' := h'.g.rm
 have a1 := h.ge i j (by omega) hj
 have a2 := h.lt i j (by omega) hj
 have b1 := h'.ge i j (by omega) hj
 have b2 := h'.lt i j (by omega) hj
 obtain ⟨k, hk⟩ := hd
 have hp0 : 0 < p := by omega
 have : k = 0 := by
  rcases Int.lt_trichotomy k 0 with hl | h0 | hg
  ·have := Int.mul_le_mul_of_nonneg_left (show k ≤ -1 by omega) (Int.le_of_lt hp0); omega
  ·exact h0
  ·have := Int.mul_le_mul_of_nonneg_left (show 1 ≤ k by omega) (Int.le_of_lt hp0); omega
 rw [this] at hk; omega
theorem El.span {p : Int} {n m r : Nat} {R0 R : Nat → Vec} {q : Nat → Nat} (h : El p n m R0 n r R q) (v : Vec) : Span p n (rows R r) v ↔ Span p n (rows R0 m) v := by rw [← h.g.span v, h.sp v]
theorem El.dim {p : Int} {n m r : Nat} {R0 R : Nat → Vec} {q : Nat → Nat} (hp : Pr p) (h : El p n m R0 n r R q) : dim p n (Span p n (rows R0 m)) = r := by
 rw [← h.g.rref.indep hp]; exact qBi fun v => (h.span v).symm
def vec (l : List Int) : Vec := fun j => l.getD j 0
def rw' (L : List (List Int)) : Nat → Vec := fun i => vec (L.getD i [])
theorem qBr (L : List (List Int)) : rows (rw' L) L.length = L.map vec := by
 unfold rows rw'
 refine List.ext_getElem (by simp) fun i h1 h2 => ?_
 have hi : i < L.length := by simpa using h1
 simp [List.getD_eq_getElem?_getD, List.getElem?_eq_getElem hi]
def Vs (p : Int) (n : Nat) (L : List (List Int)) : Prop := ∀ x, x ∈ L → x.length = n ∧ ∀ y, y ∈ x → 0 ≤ y ∧ y < p
theorem qD2 {p : Int} {n : Nat} {L : List (List Int)} (h : Vs p n L) {i j : Nat} (hi : i < L.length) (hj : j < n) : 0 ≤ rw' L i j ∧ rw' L i j < p := by
 have hm : L.getD i [] ∈ L := by rw [List.getD_eq_getElem?_getD, List.getElem?_eq_getElem hi, Option.getD_some]; exact List.getElem_mem hi
 obtain ⟨h1, h2⟩ := h _ hm
 unfold rw' vec
 have hjl : j < (L.getD i []).length := by omega
 rw [List.getD_eq_getElem?_getD (l := L.getD i []), List.getElem?_eq_getElem hjl, Option.getD_some]
 exact h2 _ (List.getElem_mem hjl)
theorem qLy {L M : List (List Int)} {p : Int} {n : Nat} (hL : Vs p n L) (hM : Vs p n M) (hl : L.length = M.length) (h : ∀ i, i < L.length → ∀ j, j < n → rw' L i j = rw' M i j) : L = M := by
 refine List.ext_getElem hl fun i h1 h2 => ?_
 have e1 := (hL _ (List.getElem_mem h1)).1
 have e2 := (hM _ (List.getElem_mem h2)).1
 refine List.ext_getElem (by omega) fun j h3 h4 => ?_
 have := h i h1 j (by omega)
 unfold rw' vec at this
 simpa [List.getD_eq_getElem?_getD, List.getElem?_eq_getElem h1, List.getElem?_eq_getElem h2, List.getElem?_eq_getElem h3, List.getElem?_eq_getElem h4] using this
structure Red (p : Int) (n : Nat) (L B : List (List Int)) (q : List Int) : Prop where
 vs : Vs p n B
 len : q.length = B.length
 rref : Rref p n B.length (rw' B) (fun i => (q.getD i 0).toNat)
 span : ∀ v, Span p n (B.map vec) v ↔ Span p n (L.map vec) v
 pos : ∀ x, x ∈ q → 0 ≤ x
theorem Red.unique {p : Int} {n : Nat} {L L' B B' : List (List Int)} {q q' : List Int} (hp : Pr p) (h : Red p n L B q) (h' : Red p n L' B' q') (hs : ∀ v, Span p n (L.map vec) v ↔ Span p n (L'.map vec) v) : B = B' ∧ q = q' := by
 have hp0 : 0 < p ∨ p ≤ 0 := by omega
 obtain ⟨e1, e2⟩ := h.rref.unique hp h'.rref (fun v => by rw [qBr, qBr, h.span v, h'.span v, hs v])
 have hB : B = B' := qLy h.vs h'.vs e1 fun i hi j hj => by
  have hd := (e2 i hi).2 j hj
  have a := qD2 h.vs hi hj
  have b := qD2 h'.vs (i := i) (by omega) hj
  obtain ⟨k, hk⟩ := hd
  have hp0 : 0 < p := by omega
  have : k = 0 := by
   rcases Int.lt_trichotomy k 0 with hl | h0 | hg
   ·have := Int.mul_le_mul_of_nonneg_left (show k ≤ -1 by omega) (Int.le_of_lt hp0); omega
   ·exact h0
   ·have := Int.mul_le_mul_of_nonneg_left (show 1 ≤ k by omega) (Int.le_of_lt hp0); omega
  rw [this] at hk; omega
 refine ⟨hB, List.ext_getElem (by rw [h.len, h'.len, e1]) fun i h1 h2 => ?_⟩
 have h3 := (e2 i (by rw [← h.len]; exact h1)).1
 have p1 := h.pos _ (List.getElem_mem h1)
 have p2 := h'.pos _ (List.getElem_mem h2)
 simp only [List.getD_eq_getElem?_getD, List.getElem?_eq_getElem h1, List.getElem?_eq_getElem h2, Option.getD_some] at h3
 omega
theorem Red.of {p : Int} {n : Nat} {L M : List (List Int)} {r : Nat} {q : List Int} (hl : M.length = L.length) (hv : Vs p n M) (hq : q.length = r) (hpos : ∀ x, x ∈ q → 0 ≤ x)
  (h : El p n L.length (rw' L) n r (rw' M) (fun i => (q.getD i 0).toNat)) : Red p n L (M.take r) q := by
 have hr := h.g.rm
 have hlen : (M.take r).length = r := by rw [List.length_take]; omega
 have e : ∀ i, i < r → rw' (M.take r) i = rw' M i := fun i hi => by
  unfold rw'
  rw [List.getD_eq_getElem?_getD, List.getD_eq_getElem?_getD, List.getElem?_take_of_lt hi]
 have hrr := h.g.rref
 refine ⟨fun x hx => hv x (List.mem_of_mem_take hx), by omega, ?_, fun v => ?_, hpos⟩
 ·rw [hlen]
  exact ⟨hrr.lt, hrr.mono, fun i hi => by rw [e i hi]; exact hrr.one i hi, fun i j hi hj hne => by rw [e i hi]; exact hrr.off i j hi hj hne, fun i c hi hc => by rw [e i hi]; exact hrr.pre i c hi hc⟩
 ·rw [← qBr L, ← h.span v, ← qBr, hlen]
  have : rows (rw' (M.take r)) r = rows (rw' M) r := List.map_congr_left fun i hi => e i (List.mem_range.1 hi)
  rw [this]
end Go.Proofs.Ytkgajpngeglkmaa.B.LinT
set_option linter.unusedVariables false
set_option linter.unusedSimpArgs false
namespace Go.Proofs.Ytkgajpngeglkmaa.B.LinT
def fl (w : Nat) (X : List Int) : Nat → Vec := fun i j => X.getD (i * w + j) 0
theorem qCm {w i j m : Nat} (hi : i < m) (hj : j < w) : i * w + j < m * w := by
 have := Nat.mul_le_mul_right w (show i + 1 ≤ m by omega)
 rw [Nat.add_mul, Nat.one_mul] at this; omega
theorem qL4 {w i j i' j' : Nat} (hj : j < w) (hj' : j' < w) (h : i * w + j = i' * w + j') : i = i' ∧ j = j' := by
 rcases Nat.lt_trichotomy i i' with hl | he | hg
 ·have := qCm hl hj; omega
 ·subst he; omega
 ·have := qCm hg hj'; omega
theorem qDp (X : List Int) (a b : Nat) (x : Int) (ha : a < X.length) : (X.set a x).getD b 0 = if b = a then x else X.getD b 0 := by
 rw [List.getD_eq_getElem?_getD, List.getElem?_set, List.getD_eq_getElem?_getD]
 by_cases h : b = a
 ·subst h; simp [ha]
 ·rw [if_neg (Ne.symm h), if_neg h]
theorem qJp {w : Nat} (X : List Int) {i j i' j' : Nat} (x : Int) (hj : j < w) (hj' : j' < w) (ha : i * w + j < X.length) : fl w (X.set (i * w + j) x) i' j' = if i' = i ∧ j' = j then x else fl w X i' j' := by
 unfold fl
 rw [qDp _ _ _ _ ha]
 by_cases h : i' = i ∧ j' = j
 ·rw [if_pos h, if_pos (by rw [h.1, h.2])]
 ·rw [if_neg h, if_neg (fun he => h (qL4 hj' hj he))]
structure Upd (w : Nat) (X : List Int) (i0 : Nat) (g : Nat → Int) (t : Nat) (Y : List Int) : Prop where
 len : Y.length = X.length
 at_ : ∀ i j, j < w → fl w Y i j = if i = i0 ∧ j < t then g j else fl w X i j
theorem Upd.start (w : Nat) (X : List Int) (i0 : Nat) (g : Nat → Int) : Upd w X i0 g 0 X := ⟨rfl, fun i j _ => by rw [if_neg (by omega)]⟩
theorem Upd.next {w : Nat} {X : List Int} {i0 : Nat} {g : Nat → Int} {t : Nat} {Y : List Int} (h : Upd w X i0 g t Y) (ht : t < w) (hi : i0 * w + t < X.length) {x : Int} (hx : x = g t) : Upd w X i0 g (t + 1) (Y.set (i0 * w + t) x) := by
 refine ⟨by rw [List.length_set, h.len], fun i j hj => ?_⟩
 rw [qJp Y x ht hj (by rw [h.len]; exact hi), h.at_ i j hj]
 by_cases h1 : i = i0 ∧ j = t
 ·rw [if_pos h1, if_pos (by omega), hx, h1.2]
 ·rw [if_neg h1]
  by_cases h2 : i = i0 ∧ j < t
  ·rw [if_pos h2, if_pos (by omega)]
  ·rw [if_neg h2, if_neg (by omega)]
structure Swp (w : Nat) (X : List Int) (a b : Nat) (t : Nat) (Y : List Int) : Prop where
 len : Y.length = X.length
 at_ : ∀ i j, j < w → fl w Y i j = if j < t then (if i = a then fl w X b j else if i = b then fl w X a j else fl w X i j) else fl w X i j
theorem Swp.start (w : Nat) (X : List Int) (a b : Nat) : Swp w X a b 0 X := ⟨rfl, fun i j _ => by rw [if_neg (by omega)]⟩
theorem Swp.next {w : Nat} {X : List Int} {a b : Nat} {t : Nat} {Y : List Int} (h : Swp w X a b t Y) (hab : a ≠ b) (ht : t < w) (ha : a * w + t < X.length) (hb : b * w + t < X.length) :
  Swp w X a b (t + 1) ((Y.set (b * w + t) (fl w Y a t)).set (a * w + t) (fl w Y b t)) := by
 refine ⟨by rw [List.length_set, List.length_set, h.len], fun i j hj => ?_⟩
 rw [qJp _ _ ht hj (by rw [List.length_set, h.len]; exact ha), qJp _ _ ht hj (by rw [h.len]; exact hb), h.at_ i j hj, h.at_ a t ht, h.at_ b t ht]
 rw [if_neg (Nat.lt_irrefl t), if_neg (Nat.lt_irrefl t)]
 rcases Nat.lt_trichotomy j t with hl | he | hg
 ·rw [if_neg (fun hh => by omega), if_neg (fun hh => by omega), if_pos hl, if_pos (show j < t + 1 by omega)]
 ·subst he
  rw [if_neg (Nat.lt_irrefl j), if_pos (Nat.lt_succ_self j)]
  by_cases h1 : i = a
  ·rw [if_pos ⟨h1, rfl⟩, if_pos h1]
  ·rw [if_neg (fun hh => h1 hh.1), if_neg h1]
   by_cases h2 : i = b
   ·rw [if_pos ⟨h2, rfl⟩, if_pos h2]
   ·rw [if_neg (fun hh => h2 hh.1), if_neg h2]
 ·rw [if_neg (fun hh => by omega), if_neg (fun hh => by omega), if_neg (show ¬ j < t by omega), if_neg (show ¬ j < t + 1 by omega)]
def unfl (w m : Nat) (X : List Int) : List (List Int) := (List.range m).map fun i => (X.drop (i * w)).take w
theorem qCe (w m : Nat) (X : List Int) : (unfl w m X).length = m := by simp [unfl]
theorem qFz {w m : Nat} (X : List Int) {i j : Nat} (hi : i < m) (hj : j < w) : rw' (unfl w m X) i j = fl w X i j := by
 unfold rw' vec unfl fl
 have h1 : ((List.range m).map fun i => (X.drop (i * w)).take w).getD i [] = (X.drop (i * w)).take w := by
  rw [List.getD_eq_getElem?_getD, List.getElem?_map, List.getElem?_range hi]; rfl
 rw [h1, List.getD_eq_getElem?_getD, List.getElem?_take_of_lt hj, List.getElem?_drop, ← List.getD_eq_getElem?_getD]
theorem qI1 {p : Int} {w m : Nat} {X : List Int} (hl : X.length = m * w) (h : ∀ i j, i < m → j < w → 0 ≤ fl w X i j ∧ fl w X i j < p) : Vs p w (unfl w m X) := by
 intro x hx
 obtain ⟨i, hi, rfl⟩ := List.mem_map.1 hx
 have him := List.mem_range.1 hi
 have h2 := Nat.mul_le_mul_right w (show i + 1 ≤ m by omega)
 rw [Nat.add_mul, Nat.one_mul] at h2
 refine ⟨by rw [List.length_take, List.length_drop]; omega, fun y hy => ?_⟩
 obtain ⟨j, hj, rfl⟩ := List.getElem_of_mem hy
 have hjw : j < w := by rw [List.length_take] at hj; omega
 have h3 := h i j him hjw
 unfold fl at h3
 rw [List.getElem_take, List.getElem_drop]
 rwa [List.getD_eq_getElem?_getD, List.getElem?_eq_getElem (by omega), Option.getD_some] at h3
theorem qI2 {w m r : Nat} (X : List Int) (h : r ≤ m) : (unfl w m X).take r = unfl w r X := by
 unfold unfl
 rw [← List.map_take, List.take_range, Nat.min_eq_left h]
theorem qFp {w : Nat} : ∀ (L : List (List Int)), (∀ x, x ∈ L → x.length = w) → ∀ i j, i < L.length → j < w → fl w L.flatten i j = rw' L i j
 | [], _, i, j, hi, _ => by simp at hi
 | a :: L, h, i, j, hi, hj => by
  have ha := h a (by simp)
  unfold fl rw' vec
  rw [List.flatten_cons]
  cases i with
  | zero =>
   rw [List.getD_eq_getElem?_getD, Nat.zero_mul, Nat.zero_add, List.getElem?_append_left (by omega)]
   simp [List.getD_eq_getElem?_getD]
  | succ i =>
   have ih := qFp L (fun x hx => h x (by simp [hx])) i j (by simpa using hi) hj
   unfold fl rw' vec at ih
   rw [List.getD_eq_getElem?_getD, List.getElem?_append_right (by rw [Nat.add_mul]; omega), ← List.getD_eq_getElem?_getD]
   have : (i + 1) * w + j - a.length = i * w + j := by rw [Nat.add_mul]; omega
   rw [this, ih]
   simp [List.getD_eq_getElem?_getD]
theorem qCd {w : Nat} : ∀ (L : List (List Int)), (∀ x, x ∈ L → x.length = w) → L.flatten.length = L.length * w
 | [], _ => by simp
 | a :: L, h => by
  rw [List.flatten_cons, List.length_append, qCd L (fun x hx => h x (by simp [hx])), h a (by simp), List.length_cons, Nat.add_mul]; omega
structure FlInv (p : Int) (w m : Nat) (L : List (List Int)) (c : Nat) (X : List Int) (q : List Int) : Prop where
 len : X.length = m * w
 pos : ∀ x, x ∈ q → 0 ≤ x
 el : El p w m (rw' L) c q.length (fl w X) (fun i => (q.getD i 0).toNat)
theorem FlInv.red {p : Int} {w : Nat} {L : List (List Int)} {X : List Int} {q : List Int} (h : FlInv p w L.length L w X q) : Red p w L (unfl w q.length X) q := by
 have hr := h.el.g.rm
 rw [← qI2 X hr]
 refine Red.of (qCe _ _ _) (qI1 h.len fun i j hi hj => ⟨h.el.ge i j hi hj, h.el.lt i j hi hj⟩) rfl h.pos (h.el.congr (Nat.le_refl _) fun i j hi hj => qFz X hi hj)
end Go.Proofs.Ytkgajpngeglkmaa.B.LinT
set_option linter.unusedVariables false
set_option linter.unusedSimpArgs false
namespace Go.Proofs.Ytkgajpngeglkmaa.B.LinT
theorem qLh {p a : Int} (h0 : 0 ≤ a) (h1 : a < p) (hd : p ∣ a) : a = 0 := by
 have := Int.emod_eq_of_lt h0 h1
 rw [Int.emod_eq_zero_of_dvd hd] at this; omega
theorem rng_eq {p a b : Int} (h0 : 0 ≤ a) (h1 : a < p) (g0 : 0 ≤ b) (g1 : b < p) (hd : p ∣ a - b) : a = b := by
 have e1 := Int.emod_eq_of_lt h0 h1
 have e2 := Int.emod_eq_of_lt g0 g1
 have := Int.emod_emod_of_dvd a (Int.dvd_refl p)
 have := (Int.emod_eq_emod_iff_emod_sub_eq_zero).2 (Int.emod_eq_zero_of_dvd hd)
 omega
theorem Red.place {p : Int} {n : Nat} {L B : List (List Int)} {q : List Int} (h : Red p n L B q) (hp : 1 < p) {i : Nat} (hi : i < B.length) :
  (q.getD i 0).toNat < n ∧ (B.getD i []).getD (q.getD i 0).toNat 0 = 1 ∧ ∀ j, j < (q.getD i 0).toNat → (B.getD i []).getD j 0 = 0 := by
 have h1 := h.rref.lt i hi
 refine ⟨h1, ?_, fun j hj => ?_⟩
 ·have a := qD2 h.vs hi h1
  exact rng_eq a.1 a.2 (by omega) hp (h.rref.one i hi)
 ·have a := qD2 h.vs hi (j := j) (by omega)
  exact qLh a.1 a.2 (h.rref.pre i j hi hj)
theorem Red.in_iff {p : Int} {n : Nat} {L B : List (List Int)} {q : List Int} (h : Red p n L B q) (v : Vec) :
  Span p n (B.map vec) v ↔ ∀ j, j < n → p ∣ v j - comb (rw' B) B.length (fun i => v (q.getD i 0).toNat) j := by
 constructor
 ·intro hv j hj
  rw [← qBr] at hv
  exact h.rref.coef hv j hj
 ·intro hv
  rw [← qBr]
  exact (qEg _ _ _).2 ⟨_, hv⟩
theorem Red.dim {p : Int} {n : Nat} {L B : List (List Int)} {q : List Int} (hp : Pr p) (h : Red p n L B q) : LinT.dim p n (Span p n (L.map vec)) = B.length := by
 rw [← h.rref.indep hp, qBr]
 exact qBi fun v => (h.span v).symm
theorem Red.len_le {p : Int} {n : Nat} {L B : List (List Int)} {q : List Int} (h : Red p n L B q) (hp : Pr p) : B.length ≤ n ∧ B.length ≤ L.length := by
 rw [← h.dim hp]
 exact ⟨qLk p n _, Nat.le_trans (qEz hp _) (by simp)⟩
theorem Red.of_same {p : Int} {n : Nat} {L L' B : List (List Int)} {q : List Int} (h : Red p n L B q) (hs : ∀ v, Span p n (L.map vec) v ↔ Span p n (L'.map vec) v) : Red p n L' B q :=
 ⟨h.vs, h.len, h.rref, fun v => (h.span v).trans (hs v), h.pos⟩
theorem Red.self {p : Int} {n : Nat} {L B : List (List Int)} {q : List Int} (h : Red p n L B q) : Red p n B B q := h.of_same fun v => (h.span v).symm
end Go.Proofs.Ytkgajpngeglkmaa.B.LinT
set_option linter.unusedVariables false
set_option linter.unusedSimpArgs false
namespace Go.Proofs.Ytkgajpngeglkmaa.B
open Go.RowKit Go.Proofs.YtkgajpngeglkmaaW.PrintWords
open LinT
theorem qB4 {a : Int} {p : Nat} (h : 0 ≤ a) : Int.tmod a (p : Int) = a % (p : Int) := Int.tmod_eq_emod_of_nonneg h
theorem qIm (p : Nat) (hp : 2 ≤ p) (hp2 : p ≤ 251) : ∀ (e x0 x7 : Nat), e ≤ 1000 → x0 < p → x7 < p → Ev (fun k => z139.l0 k (x0 : Int) (e : Int) (p : Int) (x7 : Int)) ((x7 * x0 ^ e % p : Nat) : Int) := by
 intro e
 induction e using Nat.strongRecOn with
 | _ e ih =>
  intro x0 x7 he h0 h7
  refine Ev.step (fun k => z139.l0.eq_2 ..) ?_
  rcases Nat.eq_zero_or_pos e with h | h
  ·subst h
   refine qAs (by omega) (qBp (Ev.now _) ?_)
   rw [Nat.pow_zero, Nat.mul_one, Nat.mod_eq_of_lt h7]
  ·have hb : x0 * x0 ≤ 250 * 250 := Nat.mul_le_mul (by omega) (by omega)
   have hb2 : x7 * x0 ≤ 250 * 250 := Nat.mul_le_mul (by omega) (by omega)
   have e1 : Int.tmod (wrap64 ((x0 : Int) * (x0 : Int))) (p : Int) = ((x0 * x0 % p : Nat) : Int) := by
    rw [← Int.natCast_mul, qAt (by omega) (by omega), qB4 (by omega)]; simp
   have e2 : wrap64 (Int.tdiv (e : Int) 2) = ((e / 2 : Nat) : Int) := by
    have : Int.tdiv (e : Int) 2 = ((e / 2 : Nat) : Int) := by rw [Int.tdiv_eq_ediv_of_nonneg (by omega)]; simp
    rw [this, qAt (by omega) (by omega)]
   have e3 : Int.tmod (e : Int) 2 = ((e % 2 : Nat) : Int) := by rw [Int.tmod_eq_emod_of_nonneg (by omega)]; simp
   have e4 : Int.tmod (wrap64 ((x7 : Int) * (x0 : Int))) (p : Int) = ((x7 * x0 % p : Nat) : Int) := by
    rw [← Int.natCast_mul, qAt (by omega) (by omega), qB4 (by omega)]; simp
   have hpow : x0 ^ e = (x0 * x0) ^ (e / 2) * x0 ^ (e % 2) := by
    rw [← Nat.pow_two, ← Nat.pow_mul, ← Nat.pow_add, Nat.div_add_mod]
   have hm : ∀ y, y % p * (x0 * x0 % p) ^ (e / 2) % p = y * (x0 * x0) ^ (e / 2) % p := fun y => by
    rw [Nat.mul_mod, Nat.pow_mod, Nat.mod_mod, Nat.mod_mod, ← Nat.pow_mod, ← Nat.mul_mod]
   refine qAh (by omega) ?_
   rw [e1, e2, e3, e4]
   have hp0 : 0 < p := by omega
   rcases Nat.mod_two_eq_zero_or_one e with h2 | h2
   ·refine qAs (by rw [h2]; decide) (qAs (by omega) ?_)
    refine qBp (ih (e / 2) (by omega) (x0 * x0 % p) x7 (by omega) (Nat.mod_lt _ hp0) h7) ?_
    have := hm x7
    rw [Nat.mod_eq_of_lt h7] at this
    rw [this, hpow, h2, Nat.pow_zero, Nat.mul_one]
   ·refine qAh (by rw [h2]; decide) (qAs (by omega) ?_)
    refine qBp (ih (e / 2) (by omega) (x0 * x0 % p) (x7 * x0 % p) (by omega) (Nat.mod_lt _ hp0) (Nat.mod_lt _ hp0)) ?_
    rw [hm, hpow, h2, Nat.pow_one, Nat.mul_assoc, Nat.mul_comm x0]
theorem qIr {p a : Nat} (hp : isP p = true) (ha : a < p) : Ev (fun k => z131.f k (a : Int) (p : Int)) ((a ^ (p - 2) % p : Nat) : Int) := by
 have h2 := qBo hp
 unfold z131.f z139.f
 have e : wrap64 ((p : Int) - 2) = ((p - 2 : Nat) : Int) := by rw [qAt (by omega) (by omega)]; omega
 rw [e]
 have h := qIm p h2.1 h2.2 (p - 2) a 1 (by omega) ha (by omega)
 rw [Nat.one_mul] at h
 exact Ev.bind h (Ev.now _)
def addT (p : Nat) (x y : List Int) (c : Int) : List Int := (List.range x.length).map fun j => (x.getD j 0 + c * y.getD j 0) % (p : Int)
def Rng (p : Nat) (x : List Int) : Prop := ∀ y, y ∈ x → 0 ≤ y ∧ y < (p : Int)
theorem qB3 {p : Nat} {x : List Int} (h : Rng p x) {j : Nat} (hj : j < x.length) : 0 ≤ x.getD j 0 ∧ x.getD j 0 < (p : Int) := h _ (qBe 0 hj)
theorem qGf (p : Nat) (x y : List Int) (c : Int) : (addT p x y c).length = x.length := by simp [addT]
theorem qGg {p : Nat} {x y : List Int} {c : Int} {j : Nat} (hj : j < x.length) : (addT p x y c).getD j 0 = (x.getD j 0 + c * y.getD j 0) % (p : Int) := by
 unfold addT
 rw [List.getD_eq_getElem?_getD, List.getElem?_map, List.getElem?_range hj]; rfl
theorem qGe {p : Nat} (hp : 0 < p) (x y : List Int) (c : Int) : Rng p (addT p x y c) := by
 intro z hz
 obtain ⟨j, _, rfl⟩ := List.mem_map.1 hz
 exact ⟨Int.emod_nonneg _ (by omega), Int.emod_lt_of_pos _ (by omega)⟩
theorem qDc {p : Nat} (hp0 : 0 < p) (hp : p ≤ 251) (x y : List Int) (c : Int) (hx : Rng p x) (hy : Rng p y) (hl : x.length ≤ y.length) (hm : x.length ≤ 1048576) (hc0 : 0 ≤ c) (hc : c ≤ 251) :
  Ev (fun k => z108.f k x y c (p : Int)) (addT p x y c) := by
 unfold z108.f
 refine qEa (fun s i k => z108.l0 k x y c (p : Int) s (x.length : Int) (i : Int)) (fun j => (x.getD j 0 + c * y.getD j 0) % (p : Int)) x.length (fun j s hj hs r hr => ?_) _ ?_
 ·have hsl : s.length = j := by rw [hs]; simp
  have a := qB3 hx hj
  have b := qB3 hy (j := j) (by omega)
  have hcb : 0 ≤ c * y.getD j 0 := Int.mul_nonneg hc0 b.1
  have hcb2 : c * y.getD j 0 ≤ 251 * 251 := Int.mul_le_mul hc (by omega) b.1 (by decide)
  refine Ev.step (fun k => z108.l0.eq_2 ..) ?_
  (repeat (first | refine qAh (by omega) ?_ | refine qAs (by omega) ?_))
  rw [qAw (by omega), qA9, qA9, qAt (x := c * y.getD j 0) (by omega) (by omega), qAt (by omega) (by omega), qB4 (by omega)]
  exact hr
 ·refine Ev.step (fun k => z108.l0.eq_2 ..) ?_
  exact qAs (by omega) (Ev.now _)
theorem qFk {p : Nat} (hp : 2 ≤ p) (hp2 : p ≤ 251) {a : Int} (h0 : -1000000000 ≤ a) (h1 : a ≤ 1000000000) : z116.f a (p : Int) = some (a % (p : Int)) := by
 unfold z116.f
 rw [if_neg (by omega)]
 have h2 : Int.tmod a (p : Int) = a % (p : Int) ∨ Int.tmod a (p : Int) = a % (p : Int) - (p : Int) := by
  rw [Int.tmod_eq_emod]
  split
  ·left; omega
  ·right; simp
 have h3 := Int.emod_nonneg a (b := (p : Int)) (by omega)
 have h4 := Int.emod_lt_of_pos a (b := (p : Int)) (by omega)
 congr 1
 rcases h2 with h | h
 ·rw [h, qAt (by omega) (by omega), qB4 (by omega)]; simp
 ·rw [h, qAt (by omega) (by omega), qB4 (by omega)]; simp
end Go.Proofs.Ytkgajpngeglkmaa.B
set_option linter.unusedVariables false
set_option linter.unusedSimpArgs false
namespace Go.Proofs.Ytkgajpngeglkmaa.B
open Go.RowKit Go.Proofs.YtkgajpngeglkmaaW.PrintWords
open LinT
def okP (p : Int) : Bool := (decide (2 ≤ p) && decide (p ≤ 251)) && isP p.toNat
theorem qJk {n : Nat} (h0 : 2 ≤ n) (h1 : n ≤ 251) : isP n = true ↔ ∀ d, 2 ≤ d → d < 16 → n < d * d ∨ n % d ≠ 0 := by
 unfold isP
 rw [Bool.and_eq_true, Bool.and_eq_true, decide_eq_true_iff, decide_eq_true_iff, List.all_eq_true]
 constructor
 ·rintro ⟨_, h⟩ d hd hd2
  have := h d (List.mem_range.2 hd2)
  rw [Bool.or_eq_true, Bool.or_eq_true, decide_eq_true_iff, decide_eq_true_iff, decide_eq_true_iff] at this
  rcases this with (h3 | h3) | h3
  ·omega
  ·exact .inl h3
  ·exact .inr h3
 ·intro h
  refine ⟨⟨h0, h1⟩, fun d hd => ?_⟩
  rw [Bool.or_eq_true, Bool.or_eq_true, decide_eq_true_iff, decide_eq_true_iff, decide_eq_true_iff]
  by_cases h2 : d < 2
  ·exact .inl (.inl h2)
  ·rcases h d (by omega) (List.mem_range.1 hd) with h3 | h3
   ·exact .inl (.inr h3)
   ·exact .inr h3
theorem qC5 {n : Nat} (h0 : 2 ≤ n) (h1 : n ≤ 251) : ∀ (e d : Nat), d + e = 16 → 2 ≤ d → ∃ b, Ev (fun k => z73.l0 k (n : Int) (d : Int)) b ∧ (b = true ↔ ∀ d', d ≤ d' → d' < 16 → n < d' * d' ∨ n % d' ≠ 0) := by
 intro e
 induction e with
 | zero =>
  intro d hd h2
  have : d = 16 := by omega
  subst this
  refine ⟨true, ?_, by simp; omega⟩
  refine Ev.step (fun k => z73.l0.eq_2 ..) ?_
  rw [← Int.natCast_mul, qAt (by omega) (by omega)]
  exact qAs (by omega) (Ev.now _)
 | succ e ih =>
  intro d hd h2
  have hdd : d * d ≤ 16 * 16 := Nat.mul_le_mul (by omega) (by omega)
  have hw : wrap64 ((d : Int) * (d : Int)) = ((d * d : Nat) : Int) := by rw [← Int.natCast_mul, qAt (by omega) (by omega)]
  have hm : Int.tmod (n : Int) (d : Int) = ((n % d : Nat) : Int) := by rw [Int.tmod_eq_emod_of_nonneg (by omega)]; simp
  by_cases hl : n < d * d
  ·refine ⟨true, ?_, ?_⟩
   ·refine Ev.step (fun k => z73.l0.eq_2 ..) ?_
    rw [hw]
    exact qAs (by omega) (Ev.now _)
   ·simp only [true_iff]
    intro d' h3 _
    have := Nat.mul_le_mul h3 h3
    left; omega
  ·by_cases hz : n % d = 0
   ·refine ⟨false, ?_, ?_⟩
    ·refine Ev.step (fun k => z73.l0.eq_2 ..) ?_
     rw [hw, hm]
     exact qAh (by omega) (qAs (by omega) (qAh (by omega) (Ev.now _)))
    ·simp only [Bool.false_eq_true, false_iff]
     intro h
     rcases h d (Nat.le_refl _) (by omega) with h3 | h3
     ·exact hl h3
     ·exact h3 hz
   ·obtain ⟨b, hb, hi⟩ := ih (d + 1) (by omega) (by omega)
    refine ⟨b, ?_, hi.trans ⟨fun h d' h3 h4 => ?_, fun h d' h3 h4 => h d' (by omega) h4⟩⟩
    ·refine Ev.step (fun k => z73.l0.eq_2 ..) ?_
     rw [hw, hm]
     refine qAh (by omega) (qAs (by omega) (qAs (by omega) ?_))
     rw [qAw (by omega)]; exact hb
    ·rcases Nat.lt_or_ge d d' with h5 | h5
     ·exact h d' (by omega) h4
     ·have : d' = d := by omega
      subst this; exact .inr hz
theorem qDg {n : Nat} (h0 : 2 ≤ n) (h1 : n ≤ 251) : ∀ (e d : Nat), d + e = 16 → 2 ≤ d → ∃ b, Ev (fun k => z63.l0 k (n : Int) (d : Int)) b ∧ (b = true ↔ ∀ d', d ≤ d' → d' < 16 → n < d' * d' ∨ n % d' ≠ 0) := by
 intro e
 induction e with
 | zero =>
  intro d hd h2
  have : d = 16 := by omega
  subst this
  refine ⟨true, ?_, by simp; omega⟩
  refine Ev.step (fun k => z63.l0.eq_2 ..) ?_
  rw [← Int.natCast_mul, qAt (by omega) (by omega)]
  exact qAs (by omega) (Ev.now _)
 | succ e ih =>
  intro d hd h2
  have hdd : d * d ≤ 16 * 16 := Nat.mul_le_mul (by omega) (by omega)
  have hw : wrap64 ((d : Int) * (d : Int)) = ((d * d : Nat) : Int) := by rw [← Int.natCast_mul, qAt (by omega) (by omega)]
  have hm : Int.tmod (n : Int) (d : Int) = ((n % d : Nat) : Int) := by rw [Int.tmod_eq_emod_of_nonneg (by omega)]; simp
  by_cases hl : n < d * d
  ·refine ⟨true, ?_, ?_⟩
   ·refine Ev.step (fun k => z63.l0.eq_2 ..) ?_
    rw [hw]
    exact qAs (by omega) (Ev.now _)
   ·simp only [true_iff]
    intro d' h3 _
    have := Nat.mul_le_mul h3 h3
    left; omega
  ·by_cases hz : n % d = 0
   ·refine ⟨false, ?_, ?_⟩
    ·refine Ev.step (fun k => z63.l0.eq_2 ..) ?_
     rw [hw, hm]
     exact qAh (by omega) (qAs (by omega) (qAh (by omega) (Ev.now _)))
    ·simp only [Bool.false_eq_true, false_iff]
     intro h
     rcases h d (Nat.le_refl _) (by omega) with h3 | h3
     ·exact hl h3
     ·exact h3 hz
   ·obtain ⟨b, hb, hi⟩ := ih (d + 1) (by omega) (by omega)
    refine ⟨b, ?_, hi.trans ⟨fun h d' h3 h4 => ?_, fun h d' h3 h4 => h d' (by omega) h4⟩⟩
    ·refine Ev.step (fun k => z63.l0.eq_2 ..) ?_
     rw [hw, hm]
     refine qAh (by omega) (qAs (by omega) (qAs (by omega) ?_))
     rw [qAw (by omega)]; exact hb
    ·rcases Nat.lt_or_ge d d' with h5 | h5
     ·exact h d' (by omega) h4
     ·have : d' = d := by omega
      subst this; exact .inr hz
theorem qD9 (p : Int) : Ev (fun k => z73.f k p) (okP p) := by
 unfold z73.f okP
 refine Ev.bind (qAz (qCi _ _ _)) ?_
 cases h : decide (2 ≤ p) && decide (p ≤ 251) with
 | false => exact qAs (by decide) (Ev.now _)
 | true =>
  rw [Bool.and_eq_true, decide_eq_true_iff, decide_eq_true_iff] at h
  obtain ⟨n, rfl⟩ := Int.eq_ofNat_of_zero_le (show 0 ≤ p by omega)
  obtain ⟨b, hb, hi⟩ := qC5 (n := n) (by omega) (by omega) 14 2 (by omega) (by omega)
  refine qAh rfl (qBp hb ?_)
  rw [Bool.true_and, Int.toNat_natCast, Bool.eq_iff_iff, qJk (by omega) (by omega), hi]
theorem qDh (p : Int) : Ev (fun k => z63.f k p) (okP p) := by
 unfold z63.f okP
 refine Ev.bind (qAz (qD8 _ _ _)) ?_
 cases h : decide (2 ≤ p) && decide (p ≤ 251) with
 | false => exact qAs (by decide) (Ev.now _)
 | true =>
  rw [Bool.and_eq_true, decide_eq_true_iff, decide_eq_true_iff] at h
  obtain ⟨n, rfl⟩ := Int.eq_ofNat_of_zero_le (show 0 ≤ p by omega)
  obtain ⟨b, hb, hi⟩ := qDg (n := n) (by omega) (by omega) 14 2 (by omega) (by omega)
  refine qAh rfl (qBp hb ?_)
  rw [Bool.true_and, Int.toNat_natCast, Bool.eq_iff_iff, qJk (by omega) (by omega), hi]
theorem qF3 {p : Int} : okP p = true ↔ ∃ n : Nat, p = (n : Int) ∧ isP n = true := by
 unfold okP
 rw [Bool.and_eq_true, Bool.and_eq_true, decide_eq_true_iff, decide_eq_true_iff]
 constructor
 ·rintro ⟨⟨h0, h1⟩, h⟩
  exact ⟨p.toNat, by omega, h⟩
 ·rintro ⟨n, rfl, h⟩
  have := qBo h
  exact ⟨⟨by omega, by omega⟩, by rw [Int.toNat_natCast]; exact h⟩
end Go.Proofs.Ytkgajpngeglkmaa.B
set_option linter.unusedVariables false
set_option linter.unusedSimpArgs false
namespace Go.Proofs.Ytkgajpngeglkmaa.B
open Go.RowKit Go.Proofs.YtkgajpngeglkmaaW.PrintWords
open LinT
def vecC (l : List Int) (n p : Int) : Bool := decide ((l.length : Int) = n) && l.all fun y => decide (0 ≤ y) && decide (y ≤ p - 1)
theorem qDe {l : List Int} {n p : Nat} : vecC l (n : Int) (p : Int) = true ↔ l.length = n ∧ Rng p l := by
 unfold vecC Rng
 rw [Bool.and_eq_true, decide_eq_true_iff, List.all_eq_true]
 constructor
 ·rintro ⟨h1, h2⟩
  refine ⟨by omega, fun y hy => ?_⟩
  have := h2 y hy
  rw [Bool.and_eq_true, decide_eq_true_iff, decide_eq_true_iff] at this
  omega
 ·rintro ⟨h1, h2⟩
  refine ⟨by omega, fun y hy => ?_⟩
  have := h2 y hy
  rw [Bool.and_eq_true, decide_eq_true_iff, decide_eq_true_iff]
  omega
theorem qDo {p : Nat} (hp : p ≤ 251) (a : Int) : Ev (fun k => z127.f a (p : Int)) (!(decide (0 ≤ a) && decide (a ≤ (p : Int) - 1))) := by
 unfold z127.f z128.f
 rw [qAt (by omega) (by omega)]
 exact Ev.bind (a := decide (0 ≤ a) && decide (a ≤ (p : Int) - 1)) (Ev.bind (qAz (qCi _ _ _)) (Ev.now _)) (Ev.now _)
theorem qGd {p : Nat} (hq : p ≤ 251) (l : List Int) (hl : l.length ≤ 1048576) : Ev (fun k => z159.f k l (p : Int)) (l.any fun a => !(decide (0 ≤ a) && decide (a ≤ (p : Int) - 1))) := by
 obtain ⟨t, ht, hd⟩ := qB9 (l) 0 (fun i k => z160.l0 k (l) ((l).length : Int) (i : Int) (p : Int)) (fun a => !(decide (0 ≤ a) && decide (a ≤ (p : Int) - 1))) (fun j hj hp r hr => by
   refine Ev.step (fun k => z160.l0.eq_2 ..) ?_
   refine qAh (by omega) (qAh (by omega) (qAh (by omega) ?_))
   rw [qA9, qAw (by omega)]
   exact Ev.bind (qDo hq _) (qAs (by rw [hp]; decide) hr)) (fun j hj hp => by
   refine Ev.step (fun k => z160.l0.eq_2 ..) ?_
   refine qAh (by omega) (qAh (by omega) (qAh (by omega) ?_))
   rw [qA9]
   exact Ev.bind (qDo hq _) (qAh hp (Ev.now _))) (by
   refine Ev.step (fun k => z160.l0.eq_2 ..) ?_
   exact qAs (by omega) (Ev.now _))
 unfold z159.f z160.f
 refine Ev.bind ht (qBp (Ev.now _) hd)
theorem qC7 {p : Nat} (hp : p ≤ 251) (l : List Int) (hl : l.length ≤ 1048576) : Ev (fun k => z107.f k l (p : Int)) (l.all fun y => decide (0 ≤ y) && decide (y ≤ (p : Int) - 1)) := by
 unfold z107.f
 refine Ev.bind (qGd hp l hl) (qBp (Ev.now _) ?_)
 rw [List.any_eq_not_all_not]; simp
theorem qEt {p : Nat} (hp : p ≤ 251) (l : List Int) (n : Int) (hl : l.length ≤ 1048576) : Ev (fun k => z61.f k l n (p : Int)) (vecC l n (p : Int)) := by
 unfold z61.f vecC
 refine Ev.bind (qAz (r := (l.length : Int)) rfl) ?_
 by_cases h : (l.length : Int) = n
 ·refine qAh h (Ev.bind (qC7 hp l hl) (qBp (Ev.now _) ?_))
  rw [decide_eq_true h, Bool.true_and]
 ·refine qBp (qAs h (Ev.now _)) ?_
  rw [decide_eq_false h, Bool.false_and]
end Go.Proofs.Ytkgajpngeglkmaa.B
set_option linter.unusedVariables false
set_option linter.unusedSimpArgs false
namespace Go.Proofs.Ytkgajpngeglkmaa.B
open Go.RowKit Go.Proofs.YtkgajpngeglkmaaW.PrintWords
open LinT
theorem qG5 {p : Nat} (hp : p ≤ 251) (l : List Int) (n : Int) (hl : l.length ≤ 1048576) : Ev (fun k => z84.f k l n (p : Int)) (vecC l n (p : Int)) := by
 unfold z84.f vecC
 rw [Bool.and_comm, ← qDu l 0]
 have hw : wrap64 ((p : Int) - 1) = (p : Int) - 1 := qAt (by omega) (by omega)
 refine qEw (fun (i : Nat) k => z84.l0 k l n (p : Int) (i : Int)) (fun i => decide (0 ≤ l.getD i 0) && decide (l.getD i 0 ≤ (p : Int) - 1)) (decide ((l.length : Int) = n)) l.length (fun j hj _ hp' r hr => ?_) (fun j hj _ hp' => ?_) (fun _ => ?_)
 ·refine Ev.step (fun k => z84.l0.eq_2 ..) ?_
  rw [hw, qA9]
  clear hw
  refine qAh (by omega) (qAh (by omega) (Ev.bind (qAz (qD8 _ _ _)) (qAh hp' ?_)))
  rw [qAw (by omega)]; exact hr
 ·refine Ev.step (fun k => z84.l0.eq_2 ..) ?_
  rw [hw, qA9]
  clear hw
  exact qAh (by omega) (qAh (by omega) (Ev.bind (qAz (qD8 _ _ _)) (qAs (by rw [hp']; decide) (Ev.now _))))
 ·refine Ev.step (fun k => z84.l0.eq_2 ..) ?_
  exact qBp (qAs (by omega) (Ev.now _)) (by rw [Bool.beq_eq_decide_eq])
end Go.Proofs.Ytkgajpngeglkmaa.B
set_option linter.unusedVariables false
set_option linter.unusedSimpArgs false
namespace Go.Proofs.Ytkgajpngeglkmaa.B
open Go.RowKit Go.Proofs.YtkgajpngeglkmaaW.PrintWords
open LinT
theorem qGo (p : Int) : Ev (fun k => z118.f k p) (okP p) := by
 unfold z118.f
 exact Ev.bind (qDh p) (Ev.now _)
end Go.Proofs.Ytkgajpngeglkmaa.B
set_option linter.unusedVariables false
set_option linter.unusedSimpArgs false
namespace Go.Proofs.Ytkgajpngeglkmaa.B
open Go.RowKit Go.Proofs.YtkgajpngeglkmaaW.PrintWords
open LinT
theorem matV (p r c : Int) {X : List Int} (hX : X.length ≤ 1048576) :
  (Ev (fun k => z79.f k p r c X) true ∧ Ev (fun k => z82.f k p r c X) true ∧ ∃ q m n : Nat, p = (q : Int) ∧ r = (m : Int) ∧ c = (n : Int) ∧ isP q = true ∧ m ≤ 32 ∧ n ≤ 32 ∧ X.length = m * n ∧ Rng q X) ∨
  (Ev (fun k => z79.f k p r c X) false ∧ Ev (fun k => z82.f k p r c X) false) := by
 unfold z79.f z82.f z74.f
 have hI := qD9 p
 have hS := qGo p
 cases hp : okP p with
 | false =>
  rw [hp] at hI hS
  exact .inr ⟨Ev.bind hI (qAs (by decide) (Ev.now _)), Ev.bind hS (qAs (by decide) (Ev.now _))⟩
 | true =>
 rw [hp] at hI hS
 obtain ⟨q, rfl, hq⟩ := qF3.1 hp
 have h2 := qBo hq
 have sr := qCi r 0 32
 have sc := qCi c 0 32
 have tr := qD8 r 0 32
 have tc := qD8 c 0 32
 cases hr : (decide (0 ≤ r) && decide (r ≤ 32)) with
 | false =>
  rw [hr] at sr tr
  exact .inr ⟨Ev.bind hI (qAh rfl (Ev.bind (Ev.bind (qAz sr) (Ev.now _)) (qAs (by decide) (Ev.now _)))), Ev.bind hS (qAh rfl (Ev.bind (qAz tr) (qAs (by decide) (Ev.now _))))⟩
 | true =>
 rw [hr] at sr tr
 cases hc : (decide (0 ≤ c) && decide (c ≤ 32)) with
 | false =>
  rw [hc] at sc tc
  exact .inr ⟨Ev.bind hI (qAh rfl (Ev.bind (Ev.bind (qAz sr) (Ev.now _)) (qAh rfl (Ev.bind (Ev.bind (qAz sc) (Ev.now _)) (qAs (by decide) (Ev.now _)))))), Ev.bind hS (qAh rfl (Ev.bind (qAz tr) (qAh rfl (Ev.bind (qAz tc) (qAs (by decide) (Ev.now _))))))⟩
 | true =>
 rw [hc] at sc tc
 rw [Bool.and_eq_true, decide_eq_true_iff, decide_eq_true_iff] at hr hc
 obtain ⟨m, rfl⟩ := Int.eq_ofNat_of_zero_le hr.1
 obtain ⟨n, rfl⟩ := Int.eq_ofNat_of_zero_le hc.1
 have hb : m * n ≤ 32 * 32 := Nat.mul_le_mul (by omega) (by omega)
 have ew : wrap64 ((m : Int) * (n : Int)) = ((m * n : Nat) : Int) := by rw [← Int.natCast_mul, qAt (by omega) (by omega)]
 rw [ew]
 clear ew
 have hcol := qG5 h2.2 X ((m * n : Nat) : Int) hX
 have hel := qC7 h2.2 X hX
 have one : ∀ b, Ev (fun k => z107.f k X (q : Int)) b → vecC X ((m * n : Nat) : Int) (q : Int) = (decide ((X.length : Int) = ((m * n : Nat) : Int)) && b) → Ev (fun k => (z73.f k (q : Int)).bind fun t102 => if t102 = true then ((z111.f (m : Int) 0 32).bind fun t101 => some t101).bind fun t103 => if t103 = true then ((z111.f (n : Int) 0 32).bind fun t101 => some t101).bind fun t104 => if t104 = true then (z106.f X).bind fun t105 => if t105 = ((m * n : Nat) : Int) then (z107.f k X (q : Int)).bind fun t106 => some t106 else some false else some false else some false else some false) (vecC X ((m * n : Nat) : Int) (q : Int)) := fun b hb' he => by
  refine Ev.bind hI (qAh rfl (Ev.bind (Ev.bind (qAz sr) (Ev.now _)) (qAh rfl (Ev.bind (Ev.bind (qAz sc) (Ev.now _)) (qAh rfl (Ev.bind (qAz (r := (X.length : Int)) rfl) ?_))))))
  rw [he]
  by_cases h : (X.length : Int) = ((m * n : Nat) : Int)
  ·refine qAh h (Ev.bind hb' (qBp (Ev.now _) ?_))
   rw [decide_eq_true h, Bool.true_and]
  ·refine qAs h (qBp (Ev.now _) ?_)
   rw [decide_eq_false h, Bool.false_and]
 have hi := one _ hel rfl
 have hs : Ev (fun k => (z118.f k (q : Int)).bind fun t101 => if t101 = true then (z65.f (m : Int) 0 32).bind fun t102 => if t102 = true then (z65.f (n : Int) 0 32).bind fun t103 => if t103 = true then (z84.f k X ((m * n : Nat) : Int) (q : Int)).bind fun t104 => some t104 else some false else some false else some false) (vecC X ((m * n : Nat) : Int) (q : Int)) :=
  Ev.bind hS (qAh rfl (Ev.bind (qAz tr) (qAh rfl (Ev.bind (qAz tc) (qAh rfl (Ev.bind hcol (Ev.now _)))))))
 cases hv : vecC X ((m * n : Nat) : Int) (q : Int) with
 | false => rw [hv] at hi hs; exact .inr ⟨hi, hs⟩
 | true =>
  rw [hv] at hi hs
  obtain ⟨v1, v2⟩ := qDe.1 hv
  exact .inl ⟨hi, hs, q, m, n, rfl, rfl, rfl, hq, by omega, by omega, v1, v2⟩
end Go.Proofs.Ytkgajpngeglkmaa.B
set_option linter.unusedVariables false
set_option linter.unusedSimpArgs false
namespace Go.Proofs.Ytkgajpngeglkmaa.B
open Go.RowKit Go.Proofs.YtkgajpngeglkmaaW.PrintWords
end Go.Proofs.Ytkgajpngeglkmaa.B
set_option linter.unusedVariables false
set_option linter.unusedSimpArgs false
namespace Go.Proofs.Ytkgajpngeglkmaa.B
open Go.RowKit Go.Proofs.YtkgajpngeglkmaaW.PrintWords
def Byt (l : List Int) : Prop := ∀ n ∈ l, 0 ≤ n ∧ n ≤ 255
theorem qDf (n : Int) : 0 ≤ IntKind.u64.wrap n ∧ IntKind.u64.wrap n ≤ 18446744073709551615 := by
 rw [show IntKind.u64.wrap n = n % 18446744073709551616 by simp [IntKind.wrap, IntKind.bits, IntKind.signed]]; omega
theorem qJ9 {x : Int} (h0 : 0 ≤ x) (h1 : x ≤ 18446744073709551615) : 0 ≤ wrap64 (Go.bits .and .u64 (x / 1099511627776) 255) ∧ wrap64 (Go.bits .and .u64 (x / 1099511627776) 255) ≤ 255 := by
 obtain ⟨m, hm⟩ := Int.eq_ofNat_of_zero_le (show 0 ≤ x / 1099511627776 by omega)
 have hb : m < 2 ^ 24 := by
  have : x / 1099511627776 ≤ 16777215 := by omega
  omega
 have h := (bits_nat .u64 24 (by decide) (fun n a b => by
  have e : (2 : Int) ^ 24 = 16777216 := by decide
  rw [e] at b
  rw [show IntKind.u64.wrap n = n % 18446744073709551616 by simp [IntKind.wrap, IntKind.bits, IntKind.signed]]; omega) m 255 hb (by decide)).1
 rw [hm, show (255 : Int) = ((255 : Nat) : Int) from rfl, h]
 have h2 : m &&& 255 ≤ 255 := Nat.and_le_right
 rw [qAt (by omega) (by omega)]
 omega
theorem qJc {l : List Int} (hl : Byt l) {a : Int} (z : Int) (h0 : 0 ≤ a) (h1 : a ≤ 4611686018427387904) : ∃ v z', z110.f l a z = some (v, a + 1, z') ∧ 0 ≤ v ∧ v ≤ 255 := by
 unfold z110.f
 have hw : wrap64 (a + 1) = a + 1 := qAt (by omega) (by omega)
 rw [hw]
 clear hw
 by_cases h : a < (l.length : Int)
 ·rw [if_pos h, if_pos h0, if_pos (by omega)]
  obtain ⟨i, rfl⟩ := Int.eq_ofNat_of_zero_le h0
  obtain ⟨b0, b1⟩ := hl _ (qBe (i := i) 0 (show i < l.length by omega))
  refine ⟨_, _, rfl, ?_, ?_⟩
  ·rw [qA9, qAt (by omega) (by omega)]; exact b0
  ·rw [qA9, qAt (by omega) (by omega)]; exact b1
 ·rw [if_neg h, if_neg (by omega)]
  exact ⟨_, _, rfl, (qJ9 (qDf _).1 (qDf _).2).1, (qJ9 (qDf _).1 (qDf _).2).2⟩
theorem qDa {l : List Int} (hl : Byt l) {a : Int} (z n : Int) (h0 : 0 ≤ a) (h1 : a ≤ 4611686018427387000) : ∃ v a' z', z71.f l a z n = some (v, a', z') ∧ 0 ≤ v ∧ (n ≤ 1 → v = 0) ∧ (1 < n → v < n) ∧ a ≤ a' ∧ a' ≤ a + 2 := by
 unfold z71.f
 by_cases h : n ≤ 1
 ·rw [if_pos h]
  exact ⟨0, a, z, rfl, by omega, fun _ => rfl, fun h => by omega, by omega, by omega⟩
 rw [if_neg h]
 obtain ⟨v, z1, e, hv, hv'⟩ := qJc hl z h0 (by omega)
 rw [e]
 show ∃ v' a' z', (if n > 200 then _ else _) = some (v', a', z') ∧ _
 by_cases h2 : n > 200
 ·rw [if_pos h2]
  obtain ⟨u, z2, e2, hu, hu'⟩ := qJc (a := a + 1) hl z1 (by omega) (by omega)
  rw [e2]
  have hx : wrap64 (wrap64 (v * 256) + u) = v * 256 + u := by
   rw [qAt (x := v * 256) (by omega) (by omega), qAt (by omega) (by omega)]
  show ∃ v' a' z', (if n = 0 then none else some (Int.tmod (wrap64 (wrap64 (v * 256) + u)) n, a + 1 + 1, z2)) = some (v', a', z') ∧ _
  rw [if_neg (by omega), hx]
  clear hx
  exact ⟨_, _, _, rfl, Int.tmod_nonneg _ (by omega), fun h => by omega, fun _ => Int.tmod_lt_of_pos _ (by omega), by omega, by omega⟩
 ·rw [if_neg h2]
  show ∃ v' a' z', (if n = 0 then none else some (Int.tmod v n, a + 1, z1)) = some (v', a', z') ∧ _
  rw [if_neg (by omega)]
  exact ⟨_, _, _, rfl, Int.tmod_nonneg _ hv, fun h => by omega, fun _ => Int.tmod_lt_of_pos _ (by omega), by omega, by omega⟩
theorem one_ok {l : List Int} (hl : Byt l) {a : Int} (z n : Int) (h0 : 0 ≤ a) (h1 : a ≤ 4611686018427387000) : ∃ (v : Bool) (a' z' : Int), z104.f l a z n = some (v, a', z') ∧ a ≤ a' ∧ a' ≤ a + 2 := by
 obtain ⟨v, a', z', e, _, _, _, h2, h3⟩ := qDa hl z n h0 h1
 unfold z104.f
 rw [e]
 exact ⟨_, _, _, rfl, h2, h3⟩
end Go.Proofs.Ytkgajpngeglkmaa.B
set_option linter.unusedVariables false
set_option linter.unusedSimpArgs false
namespace Go.Proofs.Ytkgajpngeglkmaa.B
open Go.RowKit Go.Proofs.YtkgajpngeglkmaaW.PrintWords
open LinT
theorem qLt (p : Int) {m n : Nat} {X : List Int} (hl : X.length = m * n) (hm : m ≤ 1024) (hn : n ≤ 1024) {i : Nat} (hi : i < m) : impl_Matrix_row.f p (m : Int) (n : Int) X (i : Int) = some ((X.drop (i * n)).take n) := by
 have hb : m * n ≤ 1024 * 1024 := Nat.mul_le_mul hm hn
 have h2 := Nat.mul_le_mul_right n (show i + 1 ≤ m by omega)
 have h1 : (i + 1) * n = i * n + n := by rw [Nat.add_mul, Nat.one_mul]
 unfold impl_Matrix_row.f
 have e1 : wrap64 ((i : Int) * (n : Int)) = ((i * n : Nat) : Int) := by rw [← Int.natCast_mul, qAt (by omega) (by omega)]
 have e2 : wrap64 (wrap64 ((i : Int) + 1) * (n : Int)) = ((i * n + n : Nat) : Int) := by
  rw [qAw (by omega), ← Int.natCast_mul, h1, qAt (by omega) (by omega)]
 rw [e1, e2, if_pos (by omega), Int.toNat_natCast, Int.toNat_natCast, List.drop_take]
 rw [show i * n + n - i * n = n by omega]
theorem qH3 {m n : Nat} {X : List Int} (hl : X.length = m * n) {i : Nat} (hi : i < m) : ((X.drop (i * n)).take n).length = n := by
 have h2 := Nat.mul_le_mul_right n (show i + 1 ≤ m by omega)
 rw [Nat.add_mul, Nat.one_mul] at h2
 rw [List.length_take, List.length_drop]; omega
end Go.Proofs.Ytkgajpngeglkmaa.B
set_option linter.unusedVariables false
set_option linter.unusedSimpArgs false
namespace Go.Proofs.Ytkgajpngeglkmaa.B
open Go.RowKit Go.Proofs.YtkgajpngeglkmaaW.PrintWords
open LinT
theorem qIy (p : Int) (m n : Nat) (hm : m ≤ 1024) (hn : n ≤ 1024) : z140.f p (m : Int) (n : Int) = some (p, (m : Int), (n : Int), List.replicate (m * n) 0) := by
 have hb : m * n ≤ 1024 * 1024 := Nat.mul_le_mul hm hn
 unfold z140.f
 rw [← Int.natCast_mul, qAt (by omega) (by omega), if_pos (by omega), if_pos (by rw [Int.toNat_natCast]; omega), Int.toNat_natCast]
end Go.Proofs.Ytkgajpngeglkmaa.B
set_option linter.unusedVariables false
set_option linter.unusedSimpArgs false
namespace Go.Proofs.Ytkgajpngeglkmaa.B
open Go.RowKit Go.Proofs.YtkgajpngeglkmaaW.PrintWords
theorem qHe {l : List Int} (hl : Byt l) {a : Int} (z : Int) (s : List Int) (hs : 0 < s.length) (h0 : 0 ≤ a) (h1 : a ≤ 4611686018427387000) : ∃ (v a' z' : Int), z72.f l a z s = some (v, a', z') ∧ v ∈ s ∧ a ≤ a' ∧ a' ≤ a + 2 := by
 obtain ⟨v, a', z', e, hv, hv1, hv2, h2, h3⟩ := qDa hl z (s.length : Int) h0 h1
 unfold z72.f
 rw [e]
 have hlt : v < (s.length : Int) := by
  by_cases h : (s.length : Int) ≤ 1
  ·rw [hv1 h]; omega
  ·exact hv2 (by omega)
 show ∃ v' a'' z'', (if 0 ≤ v then (if v < (s.length : Int) then some (rd s v, a', z') else none) else none) = some (v', a'', z'') ∧ _
 rw [if_pos hv, if_pos hlt]
 refine ⟨_, _, _, rfl, ?_, h2, h3⟩
 obtain ⟨i, rfl⟩ := Int.eq_ofNat_of_zero_le hv
 rw [qA9]
 exact qBe 0 (by omega)
section
variable {l : List Int} (hl : Byt l)
include hl
omit hl in
theorem qJr {p : Int} (hp : p ≠ 0) {m n : Nat} (hm1 : 1 < m) (hm : m ≤ 4) (hn : n ≤ 4) (a z : Int) : ∀ (d j : Nat) (X : List Int), j + d = n → X.length = m * n → ∃ X' : List Int, Ev (fun k => z133.l1 k p (m : Int) (n : Int) (j : Int) l a z p (m : Int) (n : Int) X) (p, (m : Int), (n : Int), X', a, z) ∧ X'.length = m * n := by
 intro d
 induction d with
 | zero =>
  intro j X hj hX
  refine ⟨X, ?_, hX⟩
  refine Ev.step (fun k => z133.l1.eq_2 ..) ?_
  exact qAs (by omega) (Ev.now _)
 | succ d ih =>
  intro j X hj hX
  have h1 : m * n = (m - 1) * n + n := by
   have : m = m - 1 + 1 := by omega
   rw [this, Nat.add_mul, Nat.one_mul]; simp
  have hb : m * n ≤ 4 * 4 := Nat.mul_le_mul hm hn
  have e : wrap64 (wrap64 (wrap64 ((m : Int) - 1) * (n : Int)) + (j : Int)) = (((m - 1) * n + j : Nat) : Int) := by
   rw [qAt (x := (m : Int) - 1) (by omega) (by omega), show (m : Int) - 1 = ((m - 1 : Nat) : Int) by omega, ← Int.natCast_mul, qAt (x := (((m - 1) * n : Nat) : Int)) (by omega) (by omega), qAt (by omega) (by omega)]
   omega
  obtain ⟨X', h2, h3⟩ := ih (j + 1) (X.set ((m - 1) * n + j) (Int.tmod (wrap64 (rd X (j : Int) * 2)) p)) (by omega) (by rw [List.length_set]; exact hX)
  refine ⟨X', ?_, h3⟩
  refine Ev.step (fun k => z133.l1.eq_2 ..) ?_
  rw [e, qAw (by omega), Int.toNat_natCast]
  clear e
  exact qAh (by omega) (qAh (by omega) (qAh (by omega) (qAs hp (qAh (by omega) (qAh (by omega) h2)))))
theorem qL7 {p : Int} (hp : p ≠ 0) {m n : Nat} (hm : m ≤ 4) (hn : n ≤ 4) (a z : Int) (h0 : 0 ≤ a) (h1 : a ≤ 1000) :
  ∃ (X : List Int) (a' z' : Int), Ev (fun k => z133.f k l a z p (m : Int) (n : Int)) (p, (m : Int), (n : Int), X, a', z') ∧ X.length = m * n ∧ 0 ≤ a' ∧ a' ≤ a + 100 := by
 have hb : m * n ≤ 4 * 4 := Nat.mul_le_mul hm hn
 have hj1 : ∀ (b : Bool) (X : List Int) (a z : Int), (b = true → 1 < m) → X.length = m * n → ∃ X' : List Int, Ev (fun k => z133.j1 k p (m : Int) (n : Int) b l a z p (m : Int) (n : Int) X) (p, (m : Int), (n : Int), X', a, z) ∧ X'.length = m * n := by
  intro b X a z hb1 hX
  cases b with
  | false =>
   refine ⟨X, ?_, hX⟩
   refine Ev.step (fun k => z133.j1.eq_2 ..) ?_
   exact qAs (by decide) (Ev.now _)
  | true =>
   obtain ⟨X', h2, h3⟩ := qJr (l := l) hp (hb1 rfl) hm hn a z n 0 X (by omega) hX
   refine ⟨X', ?_, h3⟩
   refine Ev.step (fun k => z133.j1.eq_2 ..) ?_
   exact qAh rfl h2
 have main : ∀ (d j : Nat) (X : List Int) (a z : Int), j + d = m * n → X.length = m * n → 0 ≤ a → a + 4 * d ≤ 2000 → ∃ (X' : List Int) (a' z' : Int), Ev (fun k => z133.l0 k p (m : Int) (n : Int) (j : Int) l a z p (m : Int) (n : Int) X) (p, (m : Int), (n : Int), X', a', z') ∧ X'.length = m * n ∧ 0 ≤ a' ∧ a' ≤ a + 4 * d + 2 := by
  intro d
  induction d with
  | zero =>
   intro j X a z hj hX h0 h1
   by_cases hm1 : 1 < m
   ·obtain ⟨b, a', z', e, e1, e2⟩ := one_ok hl z 3 h0 (by omega)
    obtain ⟨X', h2, h3⟩ := hj1 b X a' z' (fun _ => hm1) hX
    refine ⟨X', a', z', ?_, h3, by omega, by omega⟩
    refine Ev.step (fun k => z133.l0.eq_2 ..) ?_
    exact qAs (by omega) (qAh (by omega) (Ev.bind (qAz e) h2))
   ·obtain ⟨X', h2, h3⟩ := hj1 false X a z (fun h => by cases h) hX
    refine ⟨X', a, z, ?_, h3, by omega, by omega⟩
    refine Ev.step (fun k => z133.l0.eq_2 ..) ?_
    exact qAs (by omega) (qAs (by omega) h2)
  | succ d ih =>
   intro j X a z hj hX h0 h1
   obtain ⟨v, a1, z1, e, _, _, _, e1, e2⟩ := qDa hl z 3 h0 (by omega)
   by_cases hv : v > 0
   ·obtain ⟨u, a2, z2, f, _, _, _, f1, f2⟩ := qDa (a := a1) hl z1 p (by omega) (by omega)
    obtain ⟨X', a', z', h2, h3, h4, h5⟩ := ih (j + 1) (X.set j u) a2 z2 (by omega) (by rw [List.length_set]; exact hX) (by omega) (by omega)
    refine ⟨X', a', z', ?_, h3, h4, by omega⟩
    refine Ev.step (fun k => z133.l0.eq_2 ..) ?_
    rw [qAw (by omega), Int.toNat_natCast]
    exact qAh (by omega) (Ev.bind (qAz e) (qAh hv (Ev.bind (qAz f) (qAh (by omega) h2))))
   ·obtain ⟨X', a', z', h2, h3, h4, h5⟩ := ih (j + 1) X a1 z1 (by omega) hX (by omega) (by omega)
    refine ⟨X', a', z', ?_, h3, h4, by omega⟩
    refine Ev.step (fun k => z133.l0.eq_2 ..) ?_
    rw [qAw (by omega)]
    exact qAh (by omega) (Ev.bind (qAz e) (qAs hv h2))
 obtain ⟨X', a', z', h2, h3, h4, h5⟩ := main (m * n) 0 (List.replicate (m * n) 0) a z (by omega) (by simp) h0 (by omega)
 refine ⟨X', a', z', ?_, h3, h4, by omega⟩
 unfold z133.f
 exact Ev.bind (qAz (qIy p m n (by omega) (by omega))) h2
theorem qG1 (a z : Int) (h0 : 0 ≤ a) (h1 : a ≤ 1000) : ∃ (p a' z' : Int), z132.f l a z = some (p, a', z') ∧ p ∈ ([2, 2, 3, 5, 7, 31, 251] : List Int) ∧ a ≤ a' ∧ a' ≤ a + 2 := by
 obtain ⟨p, a', z', e, hm, h2, h3⟩ := qHe hl z [2, 2, 3, 5, 7, 31, 251] (by decide) h0 (by omega)
 refine ⟨p, a', z', ?_, hm, h2, h3⟩
 unfold z132.f
 rw [e]; rfl
theorem qK2 (a z : Int) (h0 : 0 ≤ a) (h1 : a ≤ 500) : ∃ (p r c : Int) (X : List Int) (a' z' : Int), Ev (fun k => z114.f k l a z) (p, r, c, X, a', z') ∧ X.length ≤ 16 ∧ 0 ≤ a' ∧ a' ≤ a + 120 := by
 obtain ⟨p, a1, z1, e, hm, e1, e2⟩ := qG1 hl a z h0 (by omega)
 obtain ⟨u, a2, z2, f, f0, _, f3, f1, f2⟩ := qDa (a := a1) hl z1 5 (by omega) (by omega)
 obtain ⟨v, a3, z3, g, g0, _, g3, g1, g2⟩ := qDa (a := a2) hl z2 5 (by omega) (by omega)
 have f4 := f3 (by decide)
 have g4 := g3 (by decide)
 obtain ⟨m, rfl⟩ := Int.eq_ofNat_of_zero_le f0
 obtain ⟨n, rfl⟩ := Int.eq_ofNat_of_zero_le g0
 have hp : p ≠ 0 := fun h => by rw [h] at hm; revert hm; decide
 obtain ⟨X, a', z', h2, h3, h4, h5⟩ := qL7 hl hp (m := m) (n := n) (by omega) (by omega) a3 z3 (by omega) (by omega)
 have hb : m * n ≤ 4 * 4 := Nat.mul_le_mul (by omega) (by omega)
 refine ⟨p, (m : Int), (n : Int), X, a', z', ?_, by omega, h4, by omega⟩
 unfold z114.f
 exact Ev.bind (qAz e) (Ev.bind (qAz f) (Ev.bind (qAz g) (Ev.bind h2 (Ev.now _))))
theorem qMe (a z : Int) (h0 : 0 ≤ a) (h1 : a ≤ 500) : ∃ (p r c : Int) (X : List Int) (a' z' : Int), Ev (fun k => z78.f k l a z) (p, r, c, X, a', z') ∧ X.length ≤ 64 ∧ 0 ≤ a' ∧ a' ≤ a + 140 := by
 obtain ⟨p, r, c, X, a1, z1, h2, h3, h4, h5⟩ := qK2 hl a z h0 h1
 obtain ⟨v, a2, z2, e, _, _, _, e1, e2⟩ := qDa (a := a1) hl z1 20 (by omega) (by omega)
 have am : ∀ s : List Int, 0 < s.length → ∃ (v a' z' : Int), z72.f l a2 z2 s = some (v, a', z') ∧ v ∈ s ∧ a2 ≤ a' ∧ a' ≤ a2 + 2 := fun s hs => qHe hl z2 s hs (by omega) (by omega)
 unfold z78.f
 by_cases c0 : v = 0
 ·obtain ⟨u, a', z', f, _, f1, f2⟩ := am [0, 1, 4, 252, 257] (by decide)
  exact ⟨_, _, _, _, _, _, Ev.bind h2 (Ev.bind (qAz e) (qAh c0 (Ev.bind (qAz f) (Ev.now _)))), by dsimp only; omega, by dsimp only; omega, by dsimp only; omega⟩
 by_cases c1 : v = 1
 ·exact ⟨_, _, _, _, _, _, Ev.bind h2 (Ev.bind (qAz e) (qAs c0 (qAh c1 (qAh (by dsimp only; omega) (Ev.now _))))), by dsimp only; simp; omega, by dsimp only; omega, by dsimp only; omega⟩
 by_cases c2 : v = 2
 ·by_cases hX : (X.length : Int) > 0
  ·obtain ⟨u, a', z', f, _, f1, f2⟩ := am [(-1), wrap64 (p - 1), p] (by simp)
   exact ⟨_, _, _, _, _, _, Ev.bind h2 (Ev.bind (qAz e) (qAs c0 (qAs c1 (qAh c2 (qAh hX (Ev.bind (qAz f) (qAh (by dsimp only; omega) (Ev.now _)))))))), by dsimp only; simp; omega, by dsimp only; omega, by dsimp only; omega⟩
  ·exact ⟨_, _, _, _, _, _, Ev.bind h2 (Ev.bind (qAz e) (qAs c0 (qAs c1 (qAh c2 (qAs hX (Ev.now _)))))), by dsimp only; omega, by dsimp only; omega, by dsimp only; omega⟩
 by_cases c3 : v = 3
 ·obtain ⟨u, a', z', f, fm, f1, f2⟩ := am [31, 32, 33] (by decide)
  have hu : 31 ≤ u ∧ u ≤ 33 := by
   simp at fm
   omega
  exact ⟨_, _, _, _, _, _, Ev.bind h2 (Ev.bind (qAz e) (qAs c0 (qAs c1 (qAs c2 (qAh c3 (Ev.bind (qAz f) (qAh (by dsimp only; omega) (qAh (by dsimp only; omega) (Ev.now _))))))))), by dsimp only; rw [List.length_replicate]; omega, by dsimp only; omega, by dsimp only; omega⟩
 by_cases c4 : v = 4
 ·obtain ⟨u, a', z', f, fm, f1, f2⟩ := am [32, 33] (by decide)
  have hu : 31 ≤ u ∧ u ≤ 33 := by
   simp at fm
   omega
  exact ⟨_, _, _, _, _, _, Ev.bind h2 (Ev.bind (qAz e) (qAs c0 (qAs c1 (qAs c2 (qAs c3 (qAh c4 (Ev.bind (qAz f) (qAh (by dsimp only; omega) (qAh (by dsimp only; omega) (Ev.now _)))))))))), by dsimp only; rw [List.length_replicate]; omega, by dsimp only; omega, by dsimp only; omega⟩
 ·exact ⟨_, _, _, _, _, _, Ev.bind h2 (Ev.bind (qAz e) (qAs c0 (qAs c1 (qAs c2 (qAs c3 (qAs c4 (Ev.now _))))))), by dsimp only; omega, by dsimp only; omega, by dsimp only; omega⟩
end
end Go.Proofs.Ytkgajpngeglkmaa.B
set_option linter.unusedVariables false
set_option linter.unusedSimpArgs false
namespace Go.Proofs.Ytkgajpngeglkmaa.B
open Go.RowKit Go.Proofs.YtkgajpngeglkmaaW.PrintWords
open LinT
theorem qL3 (l : List (List Int)) (c : Nat) (hc : ∀ x, x ∈ l → c < x.length) (hl : l.length ≤ 1048576) :
  ∃ t : Int, Ev (fun k => z162.f k l (c : Int)) t ∧ ((t = -1 ∧ ∀ i, i < l.length → rw' l i c = 0) ∨ ∃ i : Nat, t = (i : Int) ∧ i < l.length ∧ rw' l i c ≠ 0) := by
 unfold z162.f
 have main : ∀ (d i : Nat), i + d = l.length → (∀ j, j < i → rw' l j c = 0) → ∃ t : Int, Ev (fun k => z162.l0 k l (l.length : Int) (i : Int) (c : Int)) t ∧ ((t = -1 ∧ ∀ i, i < l.length → rw' l i c = 0) ∨ ∃ i : Nat, t = (i : Int) ∧ i < l.length ∧ rw' l i c ≠ 0) := by
  intro d
  induction d with
  | zero =>
   intro i hi hz
   refine ⟨-1, ?_, .inl ⟨rfl, fun j hj => hz j (by omega)⟩⟩
   refine Ev.step (fun k => z162.l0.eq_2 ..) ?_
   exact qAs (by omega) (Ev.now _)
  | succ d ih =>
   intro i hi hz
   have hlen := hc (l.getD i []) (qBe [] (by omega))
   have hv : z130.f (rI_ l (i : Int)) (c : Int) = some (rw' l i c != 0) := by
    unfold z130.f
    rw [qBc, if_pos (by omega), if_pos (by omega), qA9]; rfl
   by_cases h : rw' l i c = 0
   ·obtain ⟨t, ht, hh⟩ := ih (i + 1) (by omega) (fun j hj => by
     rcases Nat.lt_or_ge j i with h1 | h1
     ·exact hz j h1
     ·have : j = i := by omega
      rw [this]; exact h)
    refine ⟨t, ?_, hh⟩
    refine Ev.step (fun k => z162.l0.eq_2 ..) ?_
    (repeat (first | refine qAh (by omega) ?_ | refine qAs (by omega) ?_))
    refine Ev.bind (qAz hv) (qAs (by rw [h]; decide) ?_)
    rw [qAw (by omega)]; exact ht
   ·refine ⟨(i : Int), ?_, .inr ⟨i, rfl, by omega, h⟩⟩
    refine Ev.step (fun k => z162.l0.eq_2 ..) ?_
    (repeat (first | refine qAh (by omega) ?_ | refine qAs (by omega) ?_))
    exact Ev.bind (qAz hv) (qAh (by simpa using h) (Ev.now _))
 exact main l.length 0 (by omega) (fun j hj => by omega)
theorem qCj {p : Int} {n : Nat} {R : List (List Int)} (h : Vs p n R) {i : Nat} (hi : i < R.length) : (R.getD i []).length = n := (h _ (qBe [] hi)).1
theorem qCr {p : Nat} {n : Nat} {R : List (List Int)} (h : Vs (p : Int) n R) {i : Nat} (hi : i < R.length) : Rng p (R.getD i []) := (h _ (qBe [] hi)).2
theorem qIz {p : Int} {n : Nat} {R : List (List Int)} (h : Vs p n R) (i : Nat) {x : List Int} (hx : x.length = n) (hr : ∀ y, y ∈ x → 0 ≤ y ∧ y < p) : Vs p n (R.set i x) := by
 intro y hy
 rcases List.mem_or_eq_of_mem_set hy with h1 | h1
 ·exact h y h1
 ·rw [h1]; exact ⟨hx, hr⟩
theorem qBy {R : List (List Int)} {a : Nat} (b : Nat) (x : List Int) (ha : a < R.length) : (R.set a x).getD b [] = if b = a then x else R.getD b [] := by
 rw [List.getD_eq_getElem?_getD, List.getElem?_set, List.getD_eq_getElem?_getD]
 by_cases h : b = a
 ·subst h; simp [ha]
 ·rw [if_neg (Ne.symm h), if_neg h]
def clr (p top c : Nat) (R : List (List Int)) (i : Nat) : List Int :=
 if i = top then R.getD i [] else if rw' R i c = 0 then R.getD i [] else addT p (R.getD i []) (R.getD top []) ((p : Int) - rw' R i c)
structure Clr (p n top c : Nat) (R0 : List (List Int)) (i : Nat) (R : List (List Int)) : Prop where
 len : R.length = R0.length
 at_ : ∀ j, j < R0.length → R.getD j [] = if j < i then clr p top c R0 j else R0.getD j []
theorem clr_ok {p n : Nat} (hp : 0 < p) {top c : Nat} {R : List (List Int)} (h : Vs (p : Int) n R) {i : Nat} (hi : i < R.length) : (clr p top c R i).length = n ∧ Rng p (clr p top c R i) := by
 unfold clr
 split
 ·exact ⟨qCj h hi, qCr h hi⟩
 ·split
  ·exact ⟨qCj h hi, qCr h hi⟩
  ·exact ⟨by rw [qGf, qCj h hi], qGe hp _ _ _⟩
theorem Clr.vs {p n : Nat} (hp : 0 < p) {top c : Nat} {R0 R : List (List Int)} {i : Nat} (h0 : Vs (p : Int) n R0) (h : Clr p n top c R0 i R) : Vs (p : Int) n R := by
 intro x hx
 obtain ⟨j, hj, rfl⟩ := List.getElem_of_mem hx
 have e : R[j] = R.getD j [] := by rw [List.getD_eq_getElem?_getD, List.getElem?_eq_getElem hj]; rfl
 have hj0 : j < R0.length := by rw [← h.len]; exact hj
 rw [e, h.at_ j hj0]
 split
 ·exact clr_ok hp h0 hj0
 ·exact ⟨qCj h0 hj0, qCr h0 hj0⟩
theorem qK5 {p n : Nat} (hp : isP p = true) (hn : n ≤ 1048576) {top c : Nat} (hc : c < n) {R0 : List (List Int)} (hv : Vs (p : Int) n R0) (ht : top < R0.length) (hm : R0.length ≤ 1048576) (q : List Int) (hq : q.length ≤ 1048576) (det : Int) {β : Int × Int} :
  ∃ R, Clr p n top c R0 R0.length R ∧ ∀ r, Ev (fun k => z113.l0 k R (n : Int) (p : Int) (q ++ [(c : Int)]) det (n : Int) ((c + 1 : Nat) : Int)) r →
   Ev (fun k => z113.l1 k R0 (n : Int) (p : Int) q det (top : Int) (n : Int) (c : Int) (R0.length : Int) 0 (c : Int)) r := by
 have h2 := qBo hp
 have main : ∀ (d i : Nat) (R : List (List Int)), i + d = R0.length → Clr p n top c R0 i R → ∃ R', Clr p n top c R0 R0.length R' ∧ ∀ r, Ev (fun k => z113.l0 k R' (n : Int) (p : Int) (q ++ [(c : Int)]) det (n : Int) ((c + 1 : Nat) : Int)) r →
   Ev (fun k => z113.l1 k R (n : Int) (p : Int) q det (top : Int) (n : Int) (c : Int) (R0.length : Int) (i : Int) (c : Int)) r := by
  intro d
  induction d with
  | zero =>
   intro i R hi hR
   have : i = R0.length := by omega
   subst this
   refine ⟨R, hR, fun r hr => ?_⟩
   refine Ev.step (fun k => z113.l1.eq_2 ..) ?_
   refine qAs (by omega) (qAh (by omega) ?_)
   rw [qAw (by omega)]; exact hr
  | succ d ih =>
   intro i R hi hR
   have hRv := hR.vs (by omega) hv
   have hRl := hR.len
   have hrow : R.getD i [] = R0.getD i [] := by rw [hR.at_ i (by omega), if_neg (by omega)]
   have htop : R.getD top [] = R0.getD top [] := by
    rw [hR.at_ top ht]
    split
    ·unfold clr; rw [if_pos rfl]
    ·rfl
   have hlen := qCj hv (i := i) (by omega)
   have hval : rd (rI_ R (i : Int)) (c : Int) = rw' R0 i c := by rw [qBc, qA9, hrow]; rfl
   by_cases h1 : i = top
   ·obtain ⟨R', h3, h4⟩ := ih (i + 1) R (by omega) ⟨hRl, fun j hj => by
     rw [hR.at_ j hj]
     by_cases hji : j = i
     ·rw [hji, if_neg (Nat.lt_irrefl i), if_pos (Nat.lt_succ_self i)]; unfold clr; rw [if_pos h1]
     ·by_cases hjl : j < i
      ·rw [if_pos hjl, if_pos (by omega)]
      ·rw [if_neg hjl, if_neg (by omega)]⟩
    refine ⟨R', h3, fun r hr => ?_⟩
    refine Ev.step (fun k => z113.l1.eq_2 ..) ?_
    refine qAh (by omega) (qAh (by omega) (qAh (by omega) (qAh (by omega) ?_)))
    rw [qAw (by omega)]; exact h4 r hr
   ·by_cases h0 : rw' R0 i c = 0
    ·obtain ⟨R', h3, h4⟩ := ih (i + 1) R (by omega) ⟨hRl, fun j hj => by
      rw [hR.at_ j hj]
      by_cases hji : j = i
      ·rw [hji, if_neg (Nat.lt_irrefl i), if_pos (Nat.lt_succ_self i)]; unfold clr; rw [if_neg h1, if_pos h0]
      ·by_cases hjl : j < i
       ·rw [if_pos hjl, if_pos (by omega)]
       ·rw [if_neg hjl, if_neg (by omega)]⟩
     refine ⟨R', h3, fun r hr => ?_⟩
     refine Ev.step (fun k => z113.l1.eq_2 ..) ?_
     rw [hval]
     refine qAh (by omega) (qAh (by omega) (qAh (by omega) (qAs (by omega) (qAh (by omega) (qAh (by rw [qBc, hrow, hlen]; omega) (qAh h0 ?_))))))
     rw [qAw (by omega)]; exact h4 r hr
    ·have hb := qB3 (qCr hv (i := i) (by omega)) (j := c) (by omega)
     have hb' : 0 ≤ rw' R0 i c ∧ rw' R0 i c < (p : Int) := hb
     have hadd := qDc (p := p) (by omega) h2.2 (R0.getD i []) (R0.getD top []) ((p : Int) - rw' R0 i c) (qCr hv (by omega)) (qCr hv ht) (by rw [qCj hv ht, hlen]; exact Nat.le_refl _) (by omega) (by omega) (by omega)
     obtain ⟨R', h3, h4⟩ := ih (i + 1) (R.set i (addT p (R0.getD i []) (R0.getD top []) ((p : Int) - rw' R0 i c))) (by omega) ⟨by rw [List.length_set, hRl], fun j hj => by
      rw [qBy j _ (by omega)]
      by_cases hji : j = i
      ·rw [if_pos hji, hji, if_pos (Nat.lt_succ_self i)]; unfold clr; rw [if_neg h1, if_neg h0]
      ·rw [if_neg hji, hR.at_ j hj]
       by_cases hjl : j < i
       ·rw [if_pos hjl, if_pos (by omega)]
       ·rw [if_neg hjl, if_neg (by omega)]⟩
     refine ⟨R', h3, fun r hr => ?_⟩
     refine Ev.step (fun k => z113.l1.eq_2 ..) ?_
     rw [hval]
     refine qAh (by omega) (qAh (by omega) (qAh (by omega) (qAs (by omega) (qAh (by omega) (qAh (by rw [qBc, hrow, hlen]; omega) (qAs h0 (qAh (by omega) (qAh (by omega) ?_))))))))
     rw [qBc, qBc, hrow, htop, qAt (by omega) (by omega), qAw (by omega)]
     exact Ev.bind hadd (h4 r hr)
 obtain ⟨R', h1, h3⟩ := main R0.length 0 R0 (by omega) ⟨rfl, fun j hj => by rw [if_neg (by omega)]⟩
 exact ⟨R', h1, h3⟩
structure StI (p n : Nat) (L : List (List Int)) (c : Nat) (R : List (List Int)) (q : List Int) : Prop where
 len : R.length = L.length
 vs : Vs (p : Int) n R
 pos : ∀ x, x ∈ q → 0 ≤ x
 el : El (p : Int) n L.length (rw' L) c q.length (rw' R) (fun i => (q.getD i 0).toNat)
theorem qEe (a : Int) (p : Int) : p ∣ a % p - a := by
 have := Int.dvd_neg.2 (Int.dvd_self_sub_emod (x := a) (m := p))
 rwa [show -(a - a % p) = a % p - a by omega] at this
theorem qJe {p n : Nat} (hp : isP p = true) (hn : n ≤ 1048576) {L : List (List Int)} (hm : L.length ≤ 1048576) {c : Nat} (hc : c < n) {R : List (List Int)} {q : List Int} (h : StI p n L c R q) (hq : q.length ≤ c) (hqm : q.length < L.length) (hne : rw' R q.length c ≠ 0) (det : Int) :
  ∃ R' det', StI p n L (c + 1) R' (q ++ [(c : Int)]) ∧ ∀ r, Ev (fun k => z113.l0 k R' (n : Int) (p : Int) (q ++ [(c : Int)]) det' (n : Int) ((c + 1 : Nat) : Int)) r →
   Ev (fun k => z113.j1 k R (n : Int) (p : Int) q det (q.length : Int) (n : Int) (c : Int) (c : Int)) r := by
 have h2 := qBo hp
 have hRl := h.len
 have htop := qCj h.vs (i := q.length) (by omega)
 have hb : 0 ≤ rw' R q.length c ∧ rw' R q.length c < (p : Int) := qB3 (qCr h.vs (i := q.length) (by omega)) (j := c) (by omega)
 obtain ⟨a, ha⟩ := Int.eq_ofNat_of_zero_le hb.1
 have hap : a < p := by omega
 have hinv := qIr hp hap
 have hcong := qHv hp hap (by omega)
 have hbp : a ^ (p - 2) % p < p := Nat.mod_lt _ (by omega)
 generalize hbe : a ^ (p - 2) % p = b at hinv hcong hbp
 have hz : Rng p (List.replicate n 0) := fun y hy => by rw [(List.mem_replicate.1 hy).2]; omega
 have hadd := qDc (p := p) (by omega) h2.2 (List.replicate n 0) (R.getD q.length []) (b : Int) hz (qCr h.vs (by omega)) (by rw [htop]; simp) (by simpa using hn) (by omega) (by omega)
 generalize hR1 : addT p (List.replicate n 0) (R.getD q.length []) (b : Int) = x1 at hadd
 have hx1l : x1.length = n := by rw [← hR1, qGf]; simp
 have hx1r : Rng p x1 := by rw [← hR1]; exact qGe (by omega) _ _ _
 have hx1 : ∀ j, j < n → (p : Int) ∣ x1.getD j 0 - (b : Int) * rw' R q.length j := fun j hj => by
  have e : x1.getD j 0 = ((b : Int) * rw' R q.length j) % (p : Int) := by
   rw [← hR1, qGg (by simpa using hj)]
   have : (List.replicate n (0 : Int)).getD j 0 = 0 := by simp [List.getD_eq_getElem?_getD, hj]
   rw [this, Int.zero_add]; rfl
  rw [e]; exact qEe _ _
 have hv1 : Vs (p : Int) n (R.set q.length x1) := qIz h.vs _ hx1l hx1r
 obtain ⟨R2, hclr, hgo⟩ := qK5 (β := (0, 0)) hp hn hc hv1 (top := q.length) (by rw [List.length_set]; omega) (by rw [List.length_set]; omega) q (by omega) (Int.tmod (wrap64 (det * (a : Int))) (p : Int))
 have hR2v := hclr.vs (by omega) hv1
 have hR2l : R2.length = L.length := by rw [hclr.len, List.length_set, hRl]
 have htop2 : R2.getD q.length [] = x1 := by
  rw [hclr.at_ _ (by rw [List.length_set]; omega), if_pos (by rw [List.length_set]; omega)]
  unfold clr
  rw [if_pos rfl, qBy _ _ (by omega), if_pos rfl]
 have hoth : ∀ i, i < L.length → i ≠ q.length → ∀ j, j < n → (p : Int) ∣ rw' R2 i j - (rw' R i j - rw' R i c * rw' R2 q.length j) := fun i hi hne j hj => by
  have e0 : ∀ t, rw' (R.set q.length x1) i t = rw' R i t := fun t => by unfold rw'; rw [qBy _ _ (by omega), if_neg hne]
  have e1 : R2.getD i [] = clr p q.length c (R.set q.length x1) i := by rw [hclr.at_ _ (by rw [List.length_set]; omega), if_pos (by rw [List.length_set]; omega)]
  have e2 : (R.set q.length x1).getD i [] = R.getD i [] := by rw [qBy _ _ (by omega), if_neg hne]
  have e3 : (R.set q.length x1).getD q.length [] = x1 := by rw [qBy _ _ (by omega), if_pos rfl]
  have e4 : rw' R2 q.length j = x1.getD j 0 := by unfold rw' vec; rw [htop2]
  unfold clr at e1
  rw [if_neg hne, e0 c, e2, e3] at e1
  by_cases hz : rw' R i c = 0
  ·rw [if_pos hz] at e1
   have : rw' R2 i j = rw' R i j := by unfold rw'; rw [e1]
   rw [this, hz, Int.zero_mul]; simp
  ·rw [if_neg hz] at e1
   have : rw' R2 i j = (rw' R i j + ((p : Int) - rw' R i c) * x1.getD j 0) % (p : Int) := by
    unfold rw' vec
    rw [e1, qGg (by rw [qCj h.vs (by omega)]; exact hj)]
    rfl
   rw [this, e4]
   have h5 := qEe (rw' R i j + ((p : Int) - rw' R i c) * x1.getD j 0) (p : Int)
   have h6 := Int.dvd_add h5 (Int.dvd_mul_right (p : Int) (x1.getD j 0))
   rwa [show (rw' R i j + ((p : Int) - rw' R i c) * x1.getD j 0) % (p : Int) - (rw' R i j + ((p : Int) - rw' R i c) * x1.getD j 0) + (p : Int) * x1.getD j 0 = (rw' R i j + ((p : Int) - rw' R i c) * x1.getD j 0) % (p : Int) - (rw' R i j - rw' R i c * x1.getD j 0) by grind] at h6
 have hqs : ∀ i, i < q.length → ((q ++ [(c : Int)]).getD i 0) = q.getD i 0 := fun i hi => by
  rw [List.getD_eq_getElem?_getD, List.getElem?_append_left hi, List.getD_eq_getElem?_getD]
 refine ⟨R2, Int.tmod (wrap64 (det * (a : Int))) (p : Int), ⟨hR2l, hR2v, fun x hx => ?_, ?_⟩, fun r hr => ?_⟩
 ·rcases List.mem_append.1 hx with h1 | h1
  ·exact h.pos x h1
  ·rw [List.mem_singleton.1 h1]; omega
 ·rw [List.length_append]
  refine h.el.step hc hqm (b := (b : Int)) (by rw [ha]; exact hcong) (fun j hj => ?_) (fun i j hi hne hj => hoth i hi hne j hj) (fun i hi => by rw [hqs i hi]) (by simp) (fun i j hi hj => ?_) (fun i j hi hj => ?_)
  ·have : rw' R2 q.length j = x1.getD j 0 := by unfold rw' vec; rw [htop2]
   rw [this]; exact hx1 j hj
  ·exact (qD2 hR2v (by omega) hj).1
  ·exact (qD2 hR2v (by omega) hj).2
 ·refine Ev.step (fun k => z113.j1.eq_2 ..) ?_
  have hrd : rd (rI_ R (q.length : Int)) (c : Int) = (a : Int) := by rw [qBc, qA9, ← ha]; rfl
  rw [hrd]
  refine qAh (by omega) (qAh (by omega) (qAh (by omega) (qAh (by rw [qBc, htop]; omega) (qAs (by omega) (qAh (by omega) (qAh (by omega) (Ev.bind hinv ?_)))))))
  rw [qBc]
  refine Ev.bind (by simpa using hadd) ?_
  have := hgo r hr
  rw [List.length_set] at this
  simpa using this
theorem qJs {p n : Nat} (hp : isP p = true) (hn : n ≤ 1048576) {L : List (List Int)} (hm : L.length ≤ 1048576) (hL : Vs (p : Int) n L) :
  ∃ R q det, Ev (fun k => z113.f k L (n : Int) (p : Int)) (q, det, R) ∧ StI p n L n R q := by
 have h2 := qBo hp
 unfold z113.f
 have main : ∀ (d c : Nat) (R : List (List Int)) (q : List Int) (det : Int), c + d = n → q.length ≤ c → StI p n L c R q →
   ∃ R' q' det', Ev (fun k => z113.l0 k R (n : Int) (p : Int) q det (n : Int) (c : Int)) (q', det', R') ∧ StI p n L n R' q' := by
  intro d
  induction d with
  | zero =>
   intro c R q det hc hq h
   have : c = n := by omega
   subst this
   refine ⟨R, q, det, ?_, h⟩
   refine Ev.step (fun k => z113.l0.eq_2 ..) ?_
   exact qAs (by omega) (Ev.now _)
  | succ d ih =>
   intro c R q det hc hq h
   have hrm := h.el.g.rm
   have hRl := h.len
   obtain ⟨t, ht, hd⟩ := qL3 (R.drop q.length) c (fun x hx => by have := (h.vs x (List.mem_of_mem_drop hx)).1; omega) (by rw [List.length_drop]; omega)
   have hdrop : ∀ i, i < (R.drop q.length).length → rw' (R.drop q.length) i c = rw' R (q.length + i) c := fun i hi => by
    unfold rw' vec
    rw [List.getD_eq_getElem?_getD (l := R.drop q.length), List.getElem?_drop, ← List.getD_eq_getElem?_getD]
   have hdl : (R.drop q.length).length = L.length - q.length := by rw [List.length_drop, hRl]
   rcases hd with ⟨e, hz⟩ | ⟨i, e, hi, hne⟩
   ·subst e
    obtain ⟨R', q', det', h3, h4⟩ := ih (c + 1) R q 0 (by omega) (by omega) ⟨h.len, h.vs, h.pos, h.el.none (fun i h1 h3 => by
     have := hz (i - q.length) (by omega)
     rw [hdrop _ (by omega), show q.length + (i - q.length) = i by omega] at this; exact this)⟩
    refine ⟨R', q', det', ?_, h4⟩
    refine Ev.step (fun k => z113.l0.eq_2 ..) ?_
    refine qAh (by omega) (qAh (by omega) (qAh (by omega) (Ev.bind (by simpa using ht) (qAh (by decide) ?_))))
    rw [qAw (by omega)]; exact h3
   ·subst e
    rw [hdrop i hi] at hne
    have hqm : q.length < L.length := by omega
    rcases Nat.eq_zero_or_pos i with h0 | h0
    ·subst h0
     rw [Nat.add_zero] at hne
     obtain ⟨R1, det1, hst, hgo⟩ := qJe hp hn hm (by omega) h hq hqm hne det
     obtain ⟨R', q', det', h3, h4⟩ := ih (c + 1) R1 (q ++ [(c : Int)]) det1 (by omega) (by simp; omega) hst
     refine ⟨R', q', det', ?_, h4⟩
     refine Ev.step (fun k => z113.l0.eq_2 ..) ?_
     refine qAh (by omega) (qAh (by omega) (qAh (by omega) (Ev.bind (by simpa using ht) (qAs (by decide) (qAs (by decide) ?_)))))
     exact hgo _ h3
    ·have g1 : (c : Int) < (n : Int) := by omega
     have g2 : (0 : Int) ≤ (q.length : Int) := by omega
     have g3 : (q.length : Int) ≤ (R.length : Int) := by omega
     have g4 : ¬ ((i : Int) < 0) := by omega
     have g5 : (i : Int) > 0 := by omega
     have g6 : (0 : Int) ≤ ((q.length + i : Nat) : Int) := by omega
     have g7 : ((q.length + i : Nat) : Int) < (R.length : Int) := by omega
     have g8 : (q.length : Int) < (R.length : Int) := by omega
     have hs : StI p n L c ((R.set q.length (R.getD (q.length + i) [])).set (q.length + i) (R.getD q.length [])) q := by
      refine ⟨by simp [hRl], qIz (qIz h.vs _ (qCj h.vs (by omega)) (qCr h.vs (by omega))) _ (qCj h.vs (by omega)) (qCr h.vs (by omega)), h.pos, ?_⟩
      have hat : ∀ j, ((R.set q.length (R.getD (q.length + i) [])).set (q.length + i) (R.getD q.length [])).getD j [] = if j = q.length + i then R.getD q.length [] else if j = q.length then R.getD (q.length + i) [] else R.getD j [] := fun j => by
       rw [qBy _ _ (by rw [List.length_set]; omega), qBy _ _ (by omega)]
      refine h.el.swap (a := q.length + i) (by omega) (by omega) (fun j => ?_) (fun j => ?_) (fun k j hk h1 h3 => ?_)
      ·unfold rw'; rw [hat, if_neg (by omega), if_pos rfl]
      ·unfold rw'; rw [hat, if_pos rfl]
      ·unfold rw'; rw [hat, if_neg h3, if_neg h1]
     have hne' : rw' ((R.set q.length (R.getD (q.length + i) [])).set (q.length + i) (R.getD q.length [])) q.length c ≠ 0 := by
      have : ((R.set q.length (R.getD (q.length + i) [])).set (q.length + i) (R.getD q.length [])).getD q.length [] = R.getD (q.length + i) [] := by
       rw [qBy _ _ (by rw [List.length_set]; omega), if_neg (by omega), qBy _ _ (by omega), if_pos rfl]
      unfold rw'; rw [this]; exact hne
     have hred : ∃ d2, z116.f (wrap64 (-det)) (p : Int) = some d2 := ⟨_, by unfold z116.f; rw [if_neg (by omega)]⟩
     obtain ⟨d2, hd2⟩ := hred
     obtain ⟨R1, det1, hst, hgo⟩ := qJe hp hn hm (by omega) hs hq hqm hne' d2
     obtain ⟨R', q', det', h3, h4⟩ := ih (c + 1) R1 (q ++ [(c : Int)]) det1 (by omega) (by simp; omega) hst
     refine ⟨R', q', det', ?_, h4⟩
     refine Ev.step (fun k => z113.l0.eq_2 ..) ?_
     have hw : wrap64 ((q.length : Int) + (i : Int)) = ((q.length + i : Nat) : Int) := by rw [qAt (by omega) (by omega)]; omega
     refine qAh g1 (qAh g2 (qAh g3 (Ev.bind (by simpa using ht) (qAs g4 (qAh g5 ?_)))))
     rw [hw]
     refine qAh g6 (qAh g7 (qAh g8 (Ev.bind (qAz hd2) ?_)))
     rw [qBc, qBc, Int.toNat_natCast, Int.toNat_natCast]
     exact hgo _ h3
 obtain ⟨R', q', det', h3, h4⟩ := main n 0 L [] 1 (by omega) (by simp) ⟨rfl, hL, fun x hx => by simp at hx, El.start (fun i j hi hj => (qD2 hL hi hj).1) (fun i j hi hj => (qD2 hL hi hj).2) _⟩
 exact ⟨R', q', det', h3, h4⟩
theorem StI.red {p n : Nat} {L R : List (List Int)} {q : List Int} (h : StI p n L n R q) : Red (p : Int) n L (R.take q.length) q := Red.of h.len h.vs rfl h.pos h.el
end Go.Proofs.Ytkgajpngeglkmaa.B
set_option linter.unusedVariables false
set_option linter.unusedSimpArgs false
namespace Go.Proofs.Ytkgajpngeglkmaa.B
open Go.RowKit Go.Proofs.YtkgajpngeglkmaaW.PrintWords
open LinT
theorem qHu {p : Nat} (hp0 : 2 ≤ p) (hp : p ≤ 251) {a : Nat} (ha : a < p) : ∀ (n x : Nat), n ≤ 1000 → x < p → Ev (fun k => z137.l0 k (a : Int) (p : Int) (x : Int) (n : Int)) ((x * a ^ n % p : Nat) : Int) := by
 intro n
 induction n with
 | zero =>
  intro x _ hx
  refine Ev.step (fun k => z137.l0.eq_2 ..) ?_
  refine qAs (by omega) (qBp (Ev.now _) ?_)
  rw [Nat.pow_zero, Nat.mul_one, Nat.mod_eq_of_lt hx]
 | succ n ih =>
  intro x hn hx
  have hb : x * a ≤ 250 * 250 := Nat.mul_le_mul (by omega) (by omega)
  have e1 : Int.tmod (wrap64 ((x : Int) * (a : Int))) (p : Int) = ((x * a % p : Nat) : Int) := by
   rw [← Int.natCast_mul, qAt (by omega) (by omega), qB4 (by omega)]; simp
  have e2 : wrap64 (((n + 1 : Nat) : Int) - 1) = (n : Int) := by rw [qAt (by omega) (by omega)]; omega
  refine Ev.step (fun k => z137.l0.eq_2 ..) ?_
  rw [e1, e2]
  clear e1 e2
  refine qAh (by omega) (qAs (by omega) (qBp (ih (x * a % p) (by omega) (Nat.mod_lt _ (by omega))) ?_))
  rw [Nat.mod_mul_mod, Nat.pow_succ, Nat.mul_assoc, Nat.mul_comm a]
theorem qFa {p a : Nat} (hp : isP p = true) (ha : a < p) : Ev (fun k => z137.f k (a : Int) (p : Int)) ((a ^ (p - 2) % p : Nat) : Int) := by
 have h2 := qBo hp
 unfold z137.f
 have e : wrap64 ((p : Int) - 2) = ((p - 2 : Nat) : Int) := by rw [qAt (by omega) (by omega)]; omega
 rw [e]
 have h := qHu h2.1 h2.2 ha (p - 2) 1 (by omega) (by omega)
 rwa [Nat.one_mul] at h
theorem qLx {p : Nat} (hp : 2 ≤ p) (hp2 : p ≤ 251) {a : Int} (h0 : -1000000000 ≤ a) (h1 : a ≤ 1000000000) : z138.f a (p : Int) = some (a % (p : Int)) := by
 have := qFk hp hp2 h0 h1
 unfold z116.f at this
 unfold z138.f
 exact this
theorem ix {i w j : Nat} (hi : i ≤ 1024) (hw : w ≤ 1024) (hj : j ≤ 1024) : wrap64 (wrap64 ((i : Int) * (w : Int)) + (j : Int)) = ((i * w + j : Nat) : Int) := by
 have hb : i * w ≤ 1024 * 1024 := Nat.mul_le_mul hi hw
 rw [← Int.natCast_mul, qAt (x := ((i * w : Nat) : Int)) (by omega) (by omega), qAt (by omega) (by omega)]; omega
theorem rdfl (w : Nat) (X : List Int) (i j : Nat) : rd X ((i * w + j : Nat) : Int) = fl w X i j := qA9 X _
section
variable {p w m : Nat} (hp : isP p = true) (hw : w ≤ 1024) (hm : m ≤ 1024) (X0 : List Int) (q : List Int) (det : Int)
include hp hw hm
omit hp in
theorem qKz {row c : Nat} (hr : row ≤ m) (hc : c < w) {X : List Int} (hX : X.length = m * w) : ∃ t, row ≤ t ∧ t ≤ m ∧ ((t = m ∧ ∀ i, row ≤ i → i < m → fl w X i c = 0) ∨ (t < m ∧ fl w X t c ≠ 0)) ∧
  Le (fun k => z119.j3 k (p : Int) (w : Int) q det (row : Int) (c : Int) (t : Int) (p : Int) (m : Int) (w : Int) X0 (p : Int) (m : Int) (w : Int) X) (fun k => z119.l1 k (p : Int) (w : Int) q det (row : Int) (c : Int) (row : Int) (p : Int) (m : Int) (w : Int) X0 (p : Int) (m : Int) (w : Int) X) := by
 have main : ∀ (d t : Nat), t + d = m → row ≤ t → (∀ i, row ≤ i → i < t → fl w X i c = 0) → ∃ t', row ≤ t' ∧ t' ≤ m ∧ ((t' = m ∧ ∀ i, row ≤ i → i < m → fl w X i c = 0) ∨ (t' < m ∧ fl w X t' c ≠ 0)) ∧
  Le (fun k => z119.j3 k (p : Int) (w : Int) q det (row : Int) (c : Int) (t' : Int) (p : Int) (m : Int) (w : Int) X0 (p : Int) (m : Int) (w : Int) X) (fun k => z119.l1 k (p : Int) (w : Int) q det (row : Int) (c : Int) (t : Int) (p : Int) (m : Int) (w : Int) X0 (p : Int) (m : Int) (w : Int) X) := by
  intro d
  induction d with
  | zero =>
   intro t ht h1 hz
   have : t = m := by omega
   subst this
   refine ⟨t, h1, Nat.le_refl _, .inl ⟨rfl, hz⟩, fun r hr => ?_⟩
   refine Ev.step (fun k => z119.l1.eq_2 ..) ?_
   exact qAs (by omega) hr
  | succ d ih =>
   intro t ht h1 hz
   have hlt := qCm (show t < m by omega) hc
   have e := ix (i := t) (w := w) (j := c) (by omega) hw (by omega)
   by_cases h : fl w X t c = 0
   ·obtain ⟨t', a1, a2, a3, a4⟩ := ih (t + 1) (by omega) (by omega) (fun i hi hi2 => by
     rcases Nat.lt_or_ge i t with hl | hg
     ·exact hz i hi hl
     ·rw [show i = t by omega]; exact h)
    refine ⟨t', a1, a2, a3, fun r hr => ?_⟩
    have := a4 r hr
    refine Ev.step (fun k => z119.l1.eq_2 ..) ?_
    rw [e, rdfl]
    clear e
    refine qAh (by omega) (qAh (by omega) (qAh (by omega) (qAh h ?_)))
    rw [qAw (by omega)]; exact this
   ·refine ⟨t, h1, by omega, .inr ⟨by omega, h⟩, fun r hr => ?_⟩
    refine Ev.step (fun k => z119.l1.eq_2 ..) ?_
    rw [e, rdfl]
    clear e
    exact qAh (by omega) (qAh (by omega) (qAh (by omega) (qAs h hr)))
 exact main (m - row) row (by omega) (Nat.le_refl _) (fun i h1 h2 => by omega)
omit hp in
theorem qKm {row c t : Nat} (hr : row < m) (ht : t < m) (hne : row ≠ t) {X : List Int} (hX : X.length = m * w) : ∃ Y, Swp w X row t w Y ∧
  Le (fun k => z119.j5 k (p : Int) (w : Int) q det (row : Int) (c : Int) (p : Int) (m : Int) (w : Int) X0 (p : Int) (m : Int) (w : Int) Y) (fun k => z119.l2 k (p : Int) (w : Int) q det (row : Int) (c : Int) (t : Int) 0 (p : Int) (m : Int) (w : Int) X0 (p : Int) (m : Int) (w : Int) X) := by
 have main : ∀ (d j : Nat) (Y : List Int), j + d = w → Swp w X row t j Y → ∃ Y', Swp w X row t w Y' ∧
  Le (fun k => z119.j5 k (p : Int) (w : Int) q det (row : Int) (c : Int) (p : Int) (m : Int) (w : Int) X0 (p : Int) (m : Int) (w : Int) Y') (fun k => z119.l2 k (p : Int) (w : Int) q det (row : Int) (c : Int) (t : Int) (j : Int) (p : Int) (m : Int) (w : Int) X0 (p : Int) (m : Int) (w : Int) Y) := by
  intro d
  induction d with
  | zero =>
   intro j Y hj hY
   have : j = w := by omega
   subst this
   refine ⟨Y, hY, fun r hr => ?_⟩
   refine Ev.step (fun k => z119.l2.eq_2 ..) ?_
   exact qAs (by omega) hr
  | succ d ih =>
   intro j Y hj hY
   have hl := hY.len
   have h1 := qCm hr (show j < w by omega)
   have h2 := qCm ht (show j < w by omega)
   obtain ⟨Y', h3, h4⟩ := ih (j + 1) _ (by omega) (hY.next hne (by omega) (by omega) (by omega))
   refine ⟨Y', h3, fun r hr => ?_⟩
   have := h4 r hr
   obtain ⟨e1, e2⟩ := And.intro (ix (i := t) (w := w) (j := j) (by omega) hw (by omega)) (ix (i := row) (w := w) (j := j) (by omega) hw (by omega))
   refine Ev.step (fun k => z119.l2.eq_2 ..) ?_
   rw [e1, e2, rdfl, rdfl]
   clear e1 e2
   refine qAh (by omega) (qAh (by omega) (qAh (by omega) (qAh (by omega) (qAh (by omega) ?_))))
   rw [qAw (by omega), Int.toNat_natCast, Int.toNat_natCast]; exact this
 exact main w 0 X (by omega) (Swp.start w X row t)
theorem qI6 {row c : Nat} (hr : row < m) {inv : Nat} (hi : inv < p) {X : List Int} (hX : X.length = m * w) (hR : Rng p X) : ∃ Y, Upd w X row (fun j => fl w X row j * (inv : Int) % (p : Int)) w Y ∧
  Le (fun k => z119.l4 k (p : Int) (w : Int) q det (row : Int) (c : Int) 0 (p : Int) (m : Int) (w : Int) X0 (p : Int) (m : Int) (w : Int) Y) (fun k => z119.l3 k (p : Int) (w : Int) q det (row : Int) (c : Int) (inv : Int) 0 (p : Int) (m : Int) (w : Int) X0 (p : Int) (m : Int) (w : Int) X) := by
 have hp2 := qBo hp
 have main : ∀ (d j : Nat) (Y : List Int), j + d = w → Upd w X row (fun j => fl w X row j * (inv : Int) % (p : Int)) j Y → ∃ Y', Upd w X row (fun j => fl w X row j * (inv : Int) % (p : Int)) w Y' ∧
  Le (fun k => z119.l4 k (p : Int) (w : Int) q det (row : Int) (c : Int) 0 (p : Int) (m : Int) (w : Int) X0 (p : Int) (m : Int) (w : Int) Y') (fun k => z119.l3 k (p : Int) (w : Int) q det (row : Int) (c : Int) (inv : Int) (j : Int) (p : Int) (m : Int) (w : Int) X0 (p : Int) (m : Int) (w : Int) Y) := by
  intro d
  induction d with
  | zero =>
   intro j Y hj hY
   have : j = w := by omega
   subst this
   refine ⟨Y, hY, fun r hr => ?_⟩
   refine Ev.step (fun k => z119.l3.eq_2 ..) ?_
   exact qAs (by omega) hr
  | succ d ih =>
   intro j Y hj hY
   have hl := hY.len
   have h1 := qCm hr (show j < w by omega)
   have hv : fl w Y row j = fl w X row j := by rw [hY.at_ row j (by omega), if_neg (by omega)]
   have hx : 0 ≤ fl w X row j ∧ fl w X row j < (p : Int) := qB3 hR (by omega)
   have hb : 0 ≤ fl w X row j * (inv : Int) ∧ fl w X row j * (inv : Int) ≤ 250 * 250 := ⟨Int.mul_nonneg hx.1 (by omega), Int.mul_le_mul (by omega) (by omega) (by omega) (by decide)⟩
   obtain ⟨Y', h3, h4⟩ := ih (j + 1) _ (by omega) (hY.next (by omega) (by omega) (x := fl w X row j * (inv : Int) % (p : Int)) rfl)
   refine ⟨Y', h3, fun r hr => ?_⟩
   have := h4 r hr
   have e2 := ix (i := row) (w := w) (j := j) (by omega) hw (by omega)
   refine Ev.step (fun k => z119.l3.eq_2 ..) ?_
   rw [e2, rdfl, hv]
   clear e2
   refine qAh (by omega) (qAh (by omega) (qAh (by omega) (qAs (by omega) ?_)))
   rw [qAw (by omega), Int.toNat_natCast, qAt (by omega) (by omega), qB4 (by omega)]; exact this
 exact main w 0 X (by omega) (Upd.start w X row _)
theorem qJ1 {row c i : Nat} (hr : row < m) (hi : i < m) (hne : i ≠ row) {f : Int} (hf : 0 ≤ f ∧ f < (p : Int)) {X : List Int} (hX : X.length = m * w) (hR : ∀ i j, i < m → j < w → 0 ≤ fl w X i j ∧ fl w X i j < (p : Int)) : ∃ Y, Upd w X i (fun j => (fl w X i j - f * fl w X row j) % (p : Int)) w Y ∧
  Le (fun k => z119.l4 k (p : Int) (w : Int) q det (row : Int) (c : Int) ((i + 1 : Nat) : Int) (p : Int) (m : Int) (w : Int) X0 (p : Int) (m : Int) (w : Int) Y) (fun k => z119.l5 k (p : Int) (w : Int) q det (row : Int) (c : Int) (i : Int) f 0 (p : Int) (m : Int) (w : Int) X0 (p : Int) (m : Int) (w : Int) X) := by
 have hp2 := qBo hp
 have main : ∀ (d j : Nat) (Y : List Int), j + d = w → Upd w X i (fun j => (fl w X i j - f * fl w X row j) % (p : Int)) j Y → ∃ Y', Upd w X i (fun j => (fl w X i j - f * fl w X row j) % (p : Int)) w Y' ∧
  Le (fun k => z119.l4 k (p : Int) (w : Int) q det (row : Int) (c : Int) ((i + 1 : Nat) : Int) (p : Int) (m : Int) (w : Int) X0 (p : Int) (m : Int) (w : Int) Y') (fun k => z119.l5 k (p : Int) (w : Int) q det (row : Int) (c : Int) (i : Int) f (j : Int) (p : Int) (m : Int) (w : Int) X0 (p : Int) (m : Int) (w : Int) Y) := by
  intro d
  induction d with
  | zero =>
   intro j Y hj hY
   have : j = w := by omega
   subst this
   refine ⟨Y, hY, fun r hr => ?_⟩
   refine Ev.step (fun k => z119.l5.eq_2 ..) ?_
   refine qAs (by omega) ?_
   rw [qAw (by omega)]; exact hr
  | succ d ih =>
   intro j Y hj hY
   have hl := hY.len
   have h1 := qCm hr (show j < w by omega)
   have h2 := qCm hi (show j < w by omega)
   have hv : fl w Y i j = fl w X i j := by rw [hY.at_ i j (by omega), if_neg (by omega)]
   have hv2 : fl w Y row j = fl w X row j := by rw [hY.at_ row j (by omega), if_neg (by omega)]
   have hx := hR i j hi (by omega)
   have hx2 := hR row j hr (by omega)
   have hb : 0 ≤ f * fl w X row j ∧ f * fl w X row j ≤ 250 * 250 := ⟨Int.mul_nonneg hf.1 hx2.1, Int.mul_le_mul (by omega) (by omega) hx2.1 (by decide)⟩
   obtain ⟨Y', h3, h4⟩ := ih (j + 1) _ (by omega) (hY.next (by omega) (by omega) (x := (fl w X i j - f * fl w X row j) % (p : Int)) rfl)
   refine ⟨Y', h3, fun r hr => ?_⟩
   have := h4 r hr
   have hmv := qLx (p := p) hp2.1 hp2.2 (a := fl w X i j - f * fl w X row j) (by omega) (by omega)
   have b1 : -9223372036854775808 ≤ f * fl w X row j := by omega
   have b2 : f * fl w X row j ≤ 9223372036854775807 := by omega
   have b3 : -9223372036854775808 ≤ fl w X i j - f * fl w X row j := by omega
   have b4 : fl w X i j - f * fl w X row j ≤ 9223372036854775807 := by omega
   obtain ⟨e1, e2⟩ := And.intro (ix (i := i) (w := w) (j := j) (by omega) hw (by omega)) (ix (i := row) (w := w) (j := j) (by omega) hw (by omega))
   have e3 : wrap64 (fl w X i j - wrap64 (f * fl w X row j)) = fl w X i j - f * fl w X row j := by rw [qAt b1 b2, qAt b3 b4]
   refine Ev.step (fun k => z119.l5.eq_2 ..) ?_
   rw [e1, e2, rdfl, rdfl, hv, hv2, e3]
   clear e1 e2 e3
   refine qAh (by omega) (qAh (by omega) (qAh (by omega) (qAh (by omega) (qAh (by omega) (Ev.bind (qAz hmv) ?_)))))
   rw [qAw (by omega), Int.toNat_natCast]; exact this
 exact main w 0 X (by omega) (Upd.start w X i _)
omit hp hw hm in
def cl (p w row c : Nat) (X : List Int) (i j : Nat) : Int := if i = row ∨ fl w X i c = 0 then fl w X i j else (fl w X i j - fl w X i c * fl w X row j) % (p : Int)
omit hp hw hm in
theorem qJ2 {row c : Nat} (hp0 : 0 < p) {X : List Int} (hR : ∀ i j, i < m → j < w → 0 ≤ fl w X i j ∧ fl w X i j < (p : Int)) {i j : Nat} (hi : i < m) (hj : j < w) : 0 ≤ cl p w row c X i j ∧ cl p w row c X i j < (p : Int) := by
 unfold cl
 split
 ·exact hR i j hi hj
 ·exact ⟨Int.emod_nonneg _ (by omega), Int.emod_lt_of_pos _ (by omega)⟩
theorem qHa {row c : Nat} (hr : row < m) (hc : c < w) (hq : q.length ≤ 1048576) {X : List Int} (hX : X.length = m * w) (hR : ∀ i j, i < m → j < w → 0 ≤ fl w X i j ∧ fl w X i j < (p : Int)) : ∃ Y : List Int, Y.length = X.length ∧ (∀ i j, i < m → j < w → fl w Y i j = cl p w row c X i j) ∧
  Le (fun k => z119.l0 k (p : Int) (w : Int) (q ++ [(c : Int)]) det ((row + 1 : Nat) : Int) ((c + 1 : Nat) : Int) (p : Int) (m : Int) (w : Int) X0 (p : Int) (m : Int) (w : Int) Y) (fun k => z119.l4 k (p : Int) (w : Int) q det (row : Int) (c : Int) 0 (p : Int) (m : Int) (w : Int) X0 (p : Int) (m : Int) (w : Int) X) := by
 have hp2 := qBo hp
 have main : ∀ (d i : Nat) (Y : List Int), i + d = m → Y.length = X.length → (∀ i' j, i' < m → j < w → fl w Y i' j = if i' < i then cl p w row c X i' j else fl w X i' j) → ∃ Y' : List Int, Y'.length = X.length ∧ (∀ i j, i < m → j < w → fl w Y' i j = cl p w row c X i j) ∧
  Le (fun k => z119.l0 k (p : Int) (w : Int) (q ++ [(c : Int)]) det ((row + 1 : Nat) : Int) ((c + 1 : Nat) : Int) (p : Int) (m : Int) (w : Int) X0 (p : Int) (m : Int) (w : Int) Y') (fun k => z119.l4 k (p : Int) (w : Int) q det (row : Int) (c : Int) (i : Int) (p : Int) (m : Int) (w : Int) X0 (p : Int) (m : Int) (w : Int) Y) := by
  intro d
  induction d with
  | zero =>
   intro i Y hi hl hY
   have : i = m := by omega
   subst this
   refine ⟨Y, hl, fun i' j hi' hj => by rw [hY i' j hi' hj, if_pos hi'], fun r hr' => ?_⟩
   refine Ev.step (fun k => z119.l4.eq_2 ..) ?_
   refine qAs (by omega) (qAh (by omega) ?_)
   rw [qAw (by omega), qAw (by omega)]; exact hr'
  | succ d ih =>
   intro i Y hi hl hY
   have him : i < m := by omega
   have h1 := qCm him hc
   have e := ix (i := i) (w := w) (j := c) (by omega) hw (by omega)
   have hic : fl w Y i c = fl w X i c := by rw [hY i c him hc, if_neg (by omega)]
   by_cases h : i = row ∨ fl w X i c = 0
   ·obtain ⟨Y', a1, a2, a3⟩ := ih (i + 1) Y (by omega) hl (fun i' j hi' hj => by
     rw [hY i' j hi' hj]
     by_cases hlt : i' < i
     ·rw [if_pos hlt, if_pos (by omega)]
     ·rw [if_neg hlt]
      by_cases he : i' = i
      ·rw [if_pos (by omega), he]; unfold cl; rw [if_pos h]
      ·rw [if_neg (by omega)])
    refine ⟨Y', a1, a2, fun r hr' => ?_⟩
    have hn := a3 r hr'
    have hj8 : Ev (fun k => z119.j8 k (p : Int) (w : Int) q det (row : Int) (c : Int) (i : Int) (fl w Y i c) true (p : Int) (m : Int) (w : Int) X0 (p : Int) (m : Int) (w : Int) Y) r := by
     refine Ev.step (fun k => z119.j8.eq_2 ..) ?_
     refine qAh rfl ?_
     rw [qAw (by omega)]; exact hn
    refine Ev.step (fun k => z119.l4.eq_2 ..) ?_
    rw [e, rdfl]
    clear e
    refine qAh (by omega) (qAh (by omega) (qAh (by omega) ?_))
    by_cases hir : i = row
    ·exact qAh (by omega) hj8
    ·have hz : (fl w Y i c == 0) = true := by rw [hic, h.resolve_left hir]; rfl
     rw [hz]
     exact qAs (by omega) hj8
   ·have hne : i ≠ row := fun he => h (.inl he)
    have hnz : fl w X i c ≠ 0 := fun he => h (.inr he)
    have hYR : ∀ i j, i < m → j < w → 0 ≤ fl w Y i j ∧ fl w Y i j < (p : Int) := fun i' j hi' hj => by
     rw [hY i' j hi' hj]
     split
     ·exact qJ2 (by omega) hR hi' hj
     ·exact hR i' j hi' hj
    obtain ⟨Z, hZ, hgo⟩ := qJ1 hp hw hm X0 q det (c := c) hr him hne (f := fl w Y i c) (hYR i c him hc) (by omega) hYR
    have hrow : ∀ j, j < w → fl w Y row j = fl w X row j := fun j hj => by
     rw [hY row j hr hj]
     split
     ·unfold cl; rw [if_pos (.inl rfl)]
     ·rfl
    obtain ⟨Y', a1, a2, a3⟩ := ih (i + 1) Z (by omega) (by rw [hZ.len, hl]) (fun i' j hi' hj => by
     rw [hZ.at_ i' j hj]
     by_cases he : i' = i
     ·rw [if_pos ⟨he, hj⟩, if_pos (by omega), he]
      unfold cl
      rw [if_neg h, hic, hrow j hj, hY i j him hj, if_neg (by omega)]
     ·rw [if_neg (fun hh => he hh.1), hY i' j hi' hj]
      by_cases hlt : i' < i
      ·rw [if_pos hlt, if_pos (by omega)]
      ·rw [if_neg hlt, if_neg (by omega)])
    refine ⟨Y', a1, a2, fun r hr' => ?_⟩
    have hn := hgo r (a3 r hr')
    have hj8 : Ev (fun k => z119.j8 k (p : Int) (w : Int) q det (row : Int) (c : Int) (i : Int) (fl w Y i c) false (p : Int) (m : Int) (w : Int) X0 (p : Int) (m : Int) (w : Int) Y) r := by
     refine Ev.step (fun k => z119.j8.eq_2 ..) ?_
     exact qAs (by decide) hn
    refine Ev.step (fun k => z119.l4.eq_2 ..) ?_
    rw [e, rdfl]
    clear e
    have hz : (fl w Y i c == 0) = false := by rw [hic]; simpa using hnz
    rw [hz]
    exact qAh (by omega) (qAh (by omega) (qAh (by omega) (qAs (by omega) hj8)))
 exact main m 0 X (by omega) rfl (fun i' j hi' hj => by rw [if_neg (by omega)])
end
theorem qJq {p w m : Nat} {X : List Int} (hX : X.length = m * w) : Rng p X ↔ ∀ i j, i < m → j < w → 0 ≤ fl w X i j ∧ fl w X i j < (p : Int) := by
 constructor
 ·intro h i j hi hj
  have := qCm hi hj
  exact qB3 h (by omega)
 ·intro h y hy
  obtain ⟨k, hk, rfl⟩ := List.getElem_of_mem hy
  have hw : 0 < w := by
   rcases Nat.eq_zero_or_pos w with h0 | h0
   ·rw [h0, Nat.mul_zero] at hX; omega
   ·exact h0
  have h1 : k / w < m := (Nat.div_lt_iff_lt_mul hw).2 (by omega)
  have h2 := h (k / w) (k % w) h1 (Nat.mod_lt _ hw)
  unfold fl at h2
  rw [Nat.mul_comm, Nat.div_add_mod] at h2
  rwa [List.getD_eq_getElem?_getD, List.getElem?_eq_getElem hk, Option.getD_some] at h2
theorem qH8 {p w m : Nat} (hp : isP p = true) (hw : w ≤ 1024) (hm : m ≤ 1024) (X0 : List Int) {L : List (List Int)} (hL : L.length = m) {c : Nat} (hc : c < w) {X : List Int} {q : List Int} (h : FlInv (p : Int) w m L c X q) (hq : q.length ≤ c) (hqm : q.length < m) (hne : fl w X q.length c ≠ 0) (det : Int) :
  ∃ Y det', FlInv (p : Int) w m L (c + 1) Y (q ++ [(c : Int)]) ∧
  Le (fun k => z119.l0 k (p : Int) (w : Int) (q ++ [(c : Int)]) det' ((q.length + 1 : Nat) : Int) ((c + 1 : Nat) : Int) (p : Int) (m : Int) (w : Int) X0 (p : Int) (m : Int) (w : Int) Y) (fun k => z119.j5 k (p : Int) (w : Int) q det (q.length : Int) (c : Int) (p : Int) (m : Int) (w : Int) X0 (p : Int) (m : Int) (w : Int) X) := by
 have h2 := qBo hp
 have hR : ∀ i j, i < m → j < w → 0 ≤ fl w X i j ∧ fl w X i j < (p : Int) := fun i j hi hj => ⟨h.el.ge i j hi hj, h.el.lt i j hi hj⟩
 have hRx := (qJq (p := p) h.len).2 hR
 obtain ⟨a, ha⟩ := Int.eq_ofNat_of_zero_le (hR q.length c hqm hc).1
 have hap : a < p := by have := (hR q.length c hqm hc).2; omega
 have hinv := qFa hp hap
 have hcong := qHv hp hap (by omega)
 have hbp : a ^ (p - 2) % p < p := Nat.mod_lt _ (by omega)
 generalize hbe : a ^ (p - 2) % p = b at hinv hcong hbp
 obtain ⟨Y, hY, hgo1⟩ := qI6 hp hw hm X0 q (Int.tmod (wrap64 (det * (a : Int))) (p : Int)) (c := c) hqm hbp h.len hRx
 have hYR : ∀ i j, i < m → j < w → 0 ≤ fl w Y i j ∧ fl w Y i j < (p : Int) := fun i j hi hj => by
  rw [hY.at_ i j hj]
  split
  ·exact ⟨Int.emod_nonneg _ (by omega), Int.emod_lt_of_pos _ (by omega)⟩
  ·exact hR i j hi hj
 obtain ⟨Z, hZl, hZ, hgo2⟩ := qHa hp hw hm X0 q (Int.tmod (wrap64 (det * (a : Int))) (p : Int)) hqm hc (by omega) (by rw [hY.len]; exact h.len) hYR
 have hqs : ∀ i, i < q.length → ((q ++ [(c : Int)]).getD i 0) = q.getD i 0 := fun i hi => by
  rw [List.getD_eq_getElem?_getD, List.getElem?_append_left hi, List.getD_eq_getElem?_getD]
 have hYrow : ∀ j, j < w → fl w Y q.length j = fl w X q.length j * (b : Int) % (p : Int) := fun j hj => by rw [hY.at_ _ j hj, if_pos ⟨rfl, hj⟩]
 have hYoth : ∀ i j, j < w → i ≠ q.length → fl w Y i j = fl w X i j := fun i j hj hi => by rw [hY.at_ _ j hj, if_neg (fun hh => hi hh.1)]
 have hZrow : ∀ j, j < w → fl w Z q.length j = fl w Y q.length j := fun j hj => by rw [hZ _ j hqm hj]; unfold cl; rw [if_pos (.inl rfl)]
 refine ⟨Z, Int.tmod (wrap64 (det * (a : Int))) (p : Int), ⟨by rw [hZl, hY.len, h.len], fun x hx => ?_, ?_⟩, fun r hr => ?_⟩
 ·rcases List.mem_append.1 hx with h1 | h1
  ·exact h.pos x h1
  ·rw [List.mem_singleton.1 h1]; omega
 ·rw [List.length_append]
  refine h.el.step hc hqm (b := (b : Int)) (by rw [ha]; exact hcong) (fun j hj => ?_) (fun i j hi hni hj => ?_) (fun i hi => by rw [hqs i hi]) (by simp) (fun i j hi hj => ?_) (fun i j hi hj => ?_)
  ·rw [hZrow j hj, hYrow j hj, Int.mul_comm]
   have := Int.dvd_neg.2 (Int.dvd_self_sub_emod (x := (b : Int) * fl w X q.length j) (m := (p : Int)))
   rwa [Int.neg_sub] at this
  ·rw [hZ i j hi hj, hZrow j hj]
   unfold cl
   by_cases hz : fl w X i c = 0
   ·rw [if_pos (.inr (by rw [hYoth i c hc hni]; exact hz)), hYoth i j hj hni, hz, Int.zero_mul]; simp
   ·rw [if_neg (fun hh => by rcases hh with hh | hh; exact hni hh; rw [hYoth i c hc hni] at hh; exact hz hh), hYoth i j hj hni, hYoth i c hc hni]
    have := Int.dvd_neg.2 (Int.dvd_self_sub_emod (x := fl w X i j - fl w X i c * fl w Y q.length j) (m := (p : Int)))
    rwa [Int.neg_sub] at this
  ·rw [hZ i j hi hj]; exact (qJ2 (by omega) hYR hi hj).1
  ·rw [hZ i j hi hj]; exact (qJ2 (by omega) hYR hi hj).2
 ·have hn := hgo1 r (hgo2 r hr)
  have hlt := qCm hqm hc
  have hl := h.len
  have e := ix (i := q.length) (w := w) (j := c) (by omega) hw (by omega)
  refine Ev.step (fun k => z119.j5.eq_2 ..) ?_
  rw [e, rdfl, ha]
  clear e
  exact qAh (by omega) (qAh (by omega) (qAs (by omega) (Ev.bind hinv hn)))
theorem qI8 {p w m : Nat} (hp : isP p = true) (hw : w ≤ 1024) (hm : m ≤ 1024) {X : List Int} (hX : X.length = m * w) (hR : Rng p X) {L : List (List Int)} (hL : L.length = m) (hLX : ∀ i j, i < m → j < w → rw' L i j = fl w X i j) :
  ∃ Y q det, Ev (fun k => z119.f k (p : Int) (m : Int) (w : Int) X) ((p : Int), (m : Int), (w : Int), Y, q, det) ∧ FlInv (p : Int) w m L w Y q := by
 have h2 := qBo hp
 have hmw : m * w ≤ 1024 * 1024 := Nat.mul_le_mul hm hw
 have stop : ∀ (c : Nat) (Y q : List Int) (det : Int), Ev (fun k => z119.j1 k (p : Int) (w : Int) q det (q.length : Int) (c : Int) false (p : Int) (m : Int) (w : Int) X (p : Int) (m : Int) (w : Int) Y) ((p : Int), (m : Int), (w : Int), Y, q, det) := fun c Y q det => by
  refine Ev.step (fun k => z119.j1.eq_2 ..) ?_
  exact qAs (by decide) (Ev.now _)
 have main : ∀ (d c : Nat) (Y : List Int) (q : List Int) (det : Int), c + d = w → q.length ≤ c → FlInv (p : Int) w m L c Y q →
   ∃ Y' q' det', Ev (fun k => z119.l0 k (p : Int) (w : Int) q det (q.length : Int) (c : Int) (p : Int) (m : Int) (w : Int) X (p : Int) (m : Int) (w : Int) Y) ((p : Int), (m : Int), (w : Int), Y', q', det') ∧ FlInv (p : Int) w m L w Y' q' := by
  intro d
  induction d with
  | zero =>
   intro c Y q det hc hq h
   have : c = w := by omega
   subst this
   refine ⟨Y, q, det, ?_, h⟩
   refine Ev.step (fun k => z119.l0.eq_2 ..) ?_
   exact qAs (by omega) (stop _ _ _ _)
  | succ d ih =>
   intro c Y q det hc hq h
   have hrm := h.el.g.rm
   rcases Nat.lt_or_ge q.length m with hlt | hge
   ·obtain ⟨t, ht1, ht2, htd, hgo⟩ := qKz hw hm X q det (row := q.length) (c := c) (by omega) (by omega) h.len
    have hstart : ∀ r, Ev (fun k => z119.j3 k (p : Int) (w : Int) q det (q.length : Int) (c : Int) (t : Int) (p : Int) (m : Int) (w : Int) X (p : Int) (m : Int) (w : Int) Y) r →
      Ev (fun k => z119.l0 k (p : Int) (w : Int) q det (q.length : Int) (c : Int) (p : Int) (m : Int) (w : Int) X (p : Int) (m : Int) (w : Int) Y) r := fun r hr => by
     have hdec : decide ((q.length : Int) < (m : Int)) = true := decide_eq_true (by omega)
     refine Ev.step (fun k => z119.l0.eq_2 ..) ?_
     refine qAh (by omega) ?_
     rw [hdec]
     refine Ev.step (fun k => z119.j1.eq_2 ..) ?_
     exact qAh rfl (hgo r hr)
    rcases htd with ⟨e, hz⟩ | ⟨htm, hne⟩
    ·obtain ⟨Y', q', det', h3, h4⟩ := ih (c + 1) Y q det (by omega) (by omega) ⟨h.len, h.pos, h.el.none hz⟩
     refine ⟨Y', q', det', hstart _ ?_, h4⟩
     refine Ev.step (fun k => z119.j3.eq_2 ..) ?_
     refine qAh (by omega) ?_
     rw [qAw (by omega)]; exact h3
    ·rcases Nat.eq_or_lt_of_le ht1 with e | hlt2
     ·rw [← e] at hne
      obtain ⟨Y1, det1, hst, hgo1⟩ := qH8 hp hw hm X hL (by omega) h hq hlt hne det
      obtain ⟨Y', q', det', h3, h4⟩ := ih (c + 1) Y1 (q ++ [(c : Int)]) det1 (by omega) (by simp; omega) hst
      refine ⟨Y', q', det', hstart _ ?_, h4⟩
      refine Ev.step (fun k => z119.j3.eq_2 ..) ?_
      refine qAs (by omega) (qAh (by omega) (hgo1 _ ?_))
      rw [List.length_append] at h3
      exact h3
     ·obtain ⟨Y1, hsw, hgo1⟩ := qKm hw hm X q (wrap64 ((p : Int) - det)) (c := c) hlt htm (by omega) h.len
      have hs : FlInv (p : Int) w m L c Y1 q := by
       refine ⟨by rw [hsw.len, h.len], h.pos, ?_⟩
       refine h.el.swap' (a := t) (by omega) (by omega) htm (fun j hj => ?_) (fun j hj => ?_) (fun i j hi h1 h3 hj => ?_)
       ·rw [hsw.at_ _ j hj, if_pos hj, if_pos rfl]
       ·rw [hsw.at_ _ j hj, if_pos hj, if_neg (by omega), if_pos rfl]
       ·rw [hsw.at_ _ j hj, if_pos hj, if_neg h1, if_neg h3]
      have hne' : fl w Y1 q.length c ≠ 0 := by rw [hsw.at_ _ c (by omega), if_pos (by omega), if_pos rfl]; exact hne
      obtain ⟨Y2, det1, hst, hgo2⟩ := qH8 hp hw hm X hL (by omega) hs hq hlt hne' (wrap64 ((p : Int) - det))
      obtain ⟨Y', q', det', h3, h4⟩ := ih (c + 1) Y2 (q ++ [(c : Int)]) det1 (by omega) (by simp; omega) hst
      refine ⟨Y', q', det', hstart _ ?_, h4⟩
      rw [List.length_append] at h3
      have h5 := hgo1 _ (hgo2 _ h3)
      have g1 : ¬ ((t : Int) = (m : Int)) := by omega
      have g2 : ¬ ((t : Int) = (q.length : Int)) := by omega
      refine Ev.step (fun k => z119.j3.eq_2 ..) ?_
      exact qAs g1 (qAs g2 h5)
   ·refine ⟨Y, q, det, ?_, h.len, h.pos, h.el.full (by omega) (by omega)⟩
    have hdec : decide ((q.length : Int) < (m : Int)) = false := decide_eq_false (by omega)
    refine Ev.step (fun k => z119.l0.eq_2 ..) ?_
    refine qAh (by omega) ?_
    rw [hdec]
    exact stop _ _ _ _
 have hfl := (qJq (p := p) hX).1 hR
 obtain ⟨Y', q', det', h3, h4⟩ := main w 0 X [] 1 (by omega) (by simp) ⟨hX, fun x hx => by simp at hx, (El.start (R := fl w X) (fun i j hi hj => (hfl i j hi hj).1) (fun i j hi hj => (hfl i j hi hj).2) _).congr0 fun i j hi hj => hLX i j hi hj⟩
 refine ⟨Y', q', det', ?_, h4⟩
 unfold z119.f
 have hown : z88.f X = some X := by
  unfold z88.f
  show (if (([] : List Int)).length + X.length < 17592186044416 then some ([] ++ X) else none) = some X
  rw [if_pos (by simp; omega)]; rfl
 exact Ev.bind (qAz hown) h3
end Go.Proofs.Ytkgajpngeglkmaa.B
set_option linter.unusedVariables false
set_option linter.unusedSimpArgs false
namespace Go.Proofs.Ytkgajpngeglkmaa.B
open Go.RowKit Go.Proofs.YtkgajpngeglkmaaW.PrintWords
open LinT
theorem qG9 (l : List Int) (hl : l.length ≤ 1048576) : slices_Clone_int64_int64.f l = some l := by
 unfold slices_Clone_int64_int64.f
 simp
 omega
theorem qGq {p m n : Nat} {X : List Int} (hX : X.length = m * n) (hm : m ≤ 1024) (hn : n ≤ 1024) : Ev (fun k => z56.f k (p : Int) (m : Int) (n : Int) X) (unfl n m X) := by
 unfold z56.f
 refine qEa (fun s i k => z56.l0 k s (m : Int) (i : Int) (p : Int) (m : Int) (n : Int) X) (fun i => (X.drop (i * n)).take n) m (fun i s hi hs r hr => ?_) _ ?_
 ·have hsl : s.length = i := by rw [hs]; simp
  have hrl := qH3 hX hi
  refine Ev.step (fun k => z56.l0.eq_2 ..) ?_
  refine qAh (by omega) (Ev.bind (qAz (qLt _ hX hm hn hi)) (Ev.bind (qAz (qG9 _ (by omega))) (qAh (by omega) ?_)))
  rw [qAw (by omega)]; exact hr
 ·refine Ev.step (fun k => z56.l0.eq_2 ..) ?_
  exact qAs (by omega) (Ev.now _)
theorem qJm {α : Type} (z : α) (L : List α) {r i : Nat} (h : i < r) : (L.take r).getD i z = L.getD i z := by
 rw [List.getD_eq_getElem?_getD, List.getD_eq_getElem?_getD, List.getElem?_take_of_lt h]
theorem qKp {p : Int} {n : Nat} {L B : List (List Int)} {q : List Int} (h : Red p n L B q) {i : Nat} (hi : i < q.length) : 0 ≤ q.getD i 0 ∧ q.getD i 0 < (n : Int) := by
 have h1 := h.pos _ (qBe 0 hi)
 have h2 := h.rref.lt i (by rw [← h.len]; exact hi)
 exact ⟨h1, by omega⟩
end Go.Proofs.Ytkgajpngeglkmaa.B
-- written for this claim by a program (mp.py over the kit's printer)
namespace Go.Proofs.Ytkgajpngeglkmaa.B
open Go.RowKit Go.Proofs.YtkgajpngeglkmaaW.PrintWords Go.Proofs.YtkgajpngeglkmaaW.PrintLast Go.Proofs.YtkgajpngeglkmaaW.PrintMore
attribute [local go_sem] qAr qAp qAv qAu qAm qAl qAq qAo
set_option linter.unusedVariables false
set_option linter.unusedSimpArgs false

def z52.l0 : Nat → List Int → Int → Int → Option (Bool)
 | 0, _, _, _ => none
 | k + 1, x0, x1, x5 => if x5 < (x0.length : Int) then (if 0 ≤ x5 then (if (rd x0 x5) = x1 then (some true) else (z52.l0 k x0 x1 (wrap64 (x5 + 1)))) else (none)) else (some false)
def z52.f (k : Nat) (l0 : List Int) (a1 : Int) : Option (Bool) := z52.l0 k l0 a1 0
set_option maxHeartbeats 8000000 in
set_option maxRecDepth 100000 in
theorem z52.calls (k : Nat) (A0 : Option Addr) (c0 : Nat) (l0 : List Int) (a1 : Int) (r : Bool) (w : World) (hr0 : Kd.C (Kd.int .i64) w A0 l0.length l0) (hc0 : l0.length ≤ c0) (h : z52.f k l0 a1 = some r) :
  Calls Try.prog 52 #[.slice A0 l0.length c0, .int .i64 a1] w fun e w' => e = .returned (.bool r) ∧ Dz w w' := by
 have HR0 := Zz.mk hr0
 have HC0 := Zz.mk hc0
 clear hr0 hc0
 have H : (z52.l0 k l0 a1 0) = some r := h
 clear h
 have H' := Zz.mk H
 clear H
 go_enter Try.func52, Try.ntmps52
 go_wp2
 go_loopg [5] k (fun kq v5 w' => ∃ (x5_1 : Int), v5 = .int .i64 x5_1 ∧ Zz (z52.l0 kq l0 a1 x5_1 = some r) ∧ Zz (kq ≤ k) ∧ Dz w w')
 case atStart => exact ⟨(0), E_, H', ⟨Nat.le_refl _⟩, by repeat (first | exact Dz.refl _ | apply Dz.step)⟩
 case round =>
  clear H'
  (try clear p2)
  obtain ⟨x5_1, rfl, HA, HK1, ⟨m1, rfl⟩⟩ := hrel
  cases gk with
  | zero => exact absurd HA.out (by simp [z52.l0])
  | succ k1 =>
   have H := HA.out
   clear HA
   simp only [z52.l0] at H
   by_cases c3 : x5_1 < (l0.length : Int)
   ·rw [if_pos c3] at H
    have c3b0 : decide (x5_1 < (l0.length : Int)) = true := decide_eq_true c3
    clear c3
    have c4 := O1_ H
    replace H := O2_ H
    have c4b0 := decide_eq_true c4
    clear c4
    by_cases c5 : (rd l0 x5_1) = a1
    ·rw [if_pos c5] at H
     have c5b0 : ((rd l0 x5_1) == a1) = true := beq_iff_eq.mpr c5
     have c5b1 : ((rd l0 x5_1) != a1) = false := bne_eq_false_iff_eq.mpr c5
     clear c5
     obtain rfl := OI_ H
     have p101 : 0 ≤ (x5_1 : Int) := D_
     have q101 : x5_1 < (l0.length : Int) := D_
     obtain ⟨ad101, e101, hx101_0⟩ := Kd.at_int HR0.out x5_1 p101 q101
     cases e101
     replace p101 := eq_true p101
     replace q101 := eq_true q101
     go_wp2
     go_ret
     exact ⟨by first | rfl | (simp; done) | (simp [*]; done), by repeat (first | exact Dz.refl _ | apply Dz.step)⟩
    ·rw [if_neg c5] at H
     have c5b0 : ((rd l0 x5_1) == a1) = false := beq_eq_false_iff_ne.mpr c5
     have c5b1 : ((rd l0 x5_1) != a1) = true := bne_iff_ne.mpr c5
     have H' := Zz.mk H
     clear H
     have p101 : 0 ≤ (x5_1 : Int) := D_
     have q101 : x5_1 < (l0.length : Int) := D_
     obtain ⟨ad101, e101, hx101_0⟩ := Kd.at_int HR0.out x5_1 p101 q101
     cases e101
     replace p101 := eq_true p101
     replace q101 := eq_true q101
     go_wp2
     go_roundg k1
     case measure => exact Q1_ HK1
     case rel => exact ⟨(wrap64 (x5_1 + 1)), E_, H', ⟨Q1_ HK1⟩, by repeat (first | exact Dz.refl _ | apply Dz.step)⟩
   ·rw [if_neg c3] at H
    have c3b0 : decide (x5_1 < (l0.length : Int)) = false := decide_eq_false c3
    clear c3
    obtain rfl := OI_ H
    go_wp2
    go_ret
    exact ⟨by first | rfl | (simp; done) | (simp [*]; done), by repeat (first | exact Dz.refl _ | apply Dz.step)⟩

end Go.Proofs.Ytkgajpngeglkmaa.B

set_option linter.unusedVariables false
set_option linter.unusedSimpArgs false
namespace Go.Proofs.Ytkgajpngeglkmaa.B
open Go.RowKit Go.Proofs.YtkgajpngeglkmaaW.PrintWords
def has (s : List Int) (x : Int) : Bool := s.any (fun z => z == x)
theorem qE0 (s : List Int) (x : Int) (hl : s.length < 9223372036854775807) : Ev (fun k => z115.f k s x) (has s x) := by
 obtain ⟨t, ht, hd⟩ := qB9 s 0 (fun i k => z134.l0 k s x (s.length : Int) (i : Int)) (fun z => z == x) (fun j hj hp r hr => by
  refine Ev.step (fun k => z134.l0.eq_2 ..) ?_
  rw [qA9, qAw (by omega)]
  exact qAh (by omega) (qAh (by omega) (qAh (by omega) (qAs (by intro e; rw [← e] at hp; simp at hp) hr)))) (fun j hj hp => by
  refine Ev.step (fun k => z134.l0.eq_2 ..) ?_
  rw [qA9]
  exact qAh (by omega) (qAh (by omega) (qAh (by omega) (qAh (eq_of_beq hp).symm (Ev.now _))))) (by
  refine Ev.step (fun k => z134.l0.eq_2 ..) ?_
  exact qAs (by omega) (Ev.now _))
 unfold z115.f z134.f
 exact Ev.bind ht (qBp (Ev.now _) hd)
theorem qL6 {s : List Int} {x : Int} : has s x = true ↔ x ∈ s := by
 unfold has
 rw [List.any_eq_true]
 exact ⟨fun ⟨y, hy, e⟩ => (eq_of_beq e) ▸ hy, fun h => ⟨x, h, beq_self_eq_true x⟩⟩
end Go.Proofs.Ytkgajpngeglkmaa.B
set_option linter.unusedVariables false
set_option linter.unusedSimpArgs false
namespace Go.Proofs.Ytkgajpngeglkmaa.B
open Go.RowKit Go.Proofs.YtkgajpngeglkmaaW.PrintWords
open LinT
theorem qFr {α β : Type} (L : List α → Nat → Nat → Option β) (p : Nat → Bool) (g : Nat → α) : ∀ (n : Nat), (∀ j s, j < n → s.length ≤ j → p j = true → Le (L (s ++ [g j]) (j + 1)) (L s j)) → (∀ j s, j < n → s.length ≤ j → p j = false → Le (L s (j + 1)) (L s j)) → Le (L (((List.range n).filter p).map g) n) (L [] 0)
 | 0, _, _ => Le.refl _
 | n + 1, h1, h0 => by
  have ih := qFr L p g n (fun j s hj => h1 j s (by omega)) (fun j s hj => h0 j s (by omega))
  refine Le.trans ?_ ih
  have hl : (((List.range n).filter p).map g).length ≤ n := by
   rw [List.length_map]
   exact Nat.le_trans (List.length_filter_le _ _) (by simp)
  rw [List.range_succ, List.filter_append, List.map_append]
  cases hp : p n with
  | true =>
   have : [n].filter p = [n] := by simp [hp]
   rw [this]
   exact h1 n _ (by omega) hl hp
  | false =>
   have : [n].filter p = [] := by simp [hp]
   rw [this, List.map_nil, List.append_nil]
   exact h0 n _ (by omega) hl hp
def kerV (p : Nat) (n : Nat) (B : List (List Int)) (q : List Int) (c : Nat) : List Int :=
 iter (fun i s => s.set (q.getD i 0).toNat ((-((B.getD i []).getD c 0)) % (p : Int))) 0 q.length ((List.replicate n 0).set c 1)
def kerC (p : Nat) (n : Nat) (B : List (List Int)) (q : List Int) : List (List Int) := ((List.range n).filter fun (c : Nat) => !has q (c : Int)).map (kerV p n B q)
theorem qJg {p n : Nat} (hp : 2 ≤ p) (B : List (List Int)) (q : List Int) (c : Nat) : (kerV p n B q c).length = n ∧ Rng p (kerV p n B q c) := by
 have hset : ∀ (s : List Int) (i : Nat) (y : Int), s.length = n ∧ Rng p s → 0 ≤ y ∧ y < (p : Int) → (s.set i y).length = n ∧ Rng p (s.set i y) := fun s i y hs hy => ⟨by rw [List.length_set]; exact hs.1, fun z hz => by
  rcases List.mem_or_eq_of_mem_set hz with h | h
  ·exact hs.2 z h
  ·rw [h]; exact hy⟩
 have := qH9 (fun i s => s.set (q.getD i 0).toNat ((-((B.getD i []).getD c 0)) % (p : Int))) (fun _ s => s.length = n ∧ Rng p s) q.length 0 ((List.replicate n 0).set c 1)
  (hset _ _ _ ⟨by simp, fun z hz => by rw [(List.mem_replicate.1 hz).2]; omega⟩ (by omega)) (fun j s _ _ hs => hset _ _ _ hs ⟨Int.emod_nonneg _ (by omega), Int.emod_lt_of_pos _ (by omega)⟩)
 exact this
theorem qL2 {p n : Nat} (hp : 2 ≤ p) (B : List (List Int)) (q : List Int) : Vs (p : Int) n (kerC p n B q) := fun x hx => by
 obtain ⟨c, _, rfl⟩ := List.mem_map.1 hx
 exact qJg hp B q c
theorem qKk {p m n : Nat} {X : List Int} (hX : X.length = m * n) (hR : Rng p X) : Vs (p : Int) n (unfl n m X) := qI1 hX ((qJq hX).1 hR)
theorem qIo {p m n : Nat} (hp : isP p = true) {X : List Int} (hX : X.length = m * n) (hR : Rng p X) (hm : m ≤ 1000) (hn : n ≤ 1000) :
  ∃ B q, Red (p : Int) n (unfl n m X) B q ∧ Ev (fun k => z80.f k (p : Int) (m : Int) (n : Int) X) (kerC p n B q) := by
 have h2 := qBo hp
 have hvs := qKk hX hR
 obtain ⟨R, q, det, hE, hst⟩ := qJs hp (n := n) (L := unfl n m X) (by omega) (by rw [qCe]; omega) hvs
 have hred := hst.red
 refine ⟨R.take q.length, q, hred, ?_⟩
 have hRl := hst.len
 rw [qCe] at hRl
 have hqm := hst.el.g.rm
 rw [qCe] at hqm
 unfold z80.f
 refine Ev.bind (qGq hX (by omega) (by omega)) (Ev.bind hE ?_)
 refine qFr (fun s c k => z80.l0 k R q s (n : Int) (c : Int) (p : Int) (m : Int) (n : Int) X) (fun c => !has q (c : Int)) (kerV p n (R.take q.length) q) n (fun c s hc hs hp' r hr => ?_) (fun c s hc hs hp' r hr => ?_) _ ?_
 ·have hnot : has q (c : Int) = false := by simpa using hp'
  have hv := (qJg (n := n) h2.1 (R.take q.length) q c).1
  have hl1 := (qEr (fun (v : List Int) (i : Nat) k => z80.l1 k R q s (c : Int) v (n : Int) (c : Int) q (q.length : Int) (i : Int) (p : Int) (m : Int) (n : Int) X) (fun i v => v.set (q.getD i 0).toNat ((-(((R.take q.length).getD i []).getD c 0)) % (p : Int))) (fun _ v => v.length = n) q.length 0 ((List.replicate n 0).set c 1) (by simp) (fun i v _ hi hv' => ⟨fun r' hr' => ?_, by rw [List.length_set]; exact hv'⟩)).1
  ·refine Ev.step (fun k => z80.l0.eq_2 ..) ?_
   refine qAh (by omega) (Ev.bind (qE0 q (c : Int) (by omega)) ?_)
   rw [hnot]
   refine qAs (by decide) (qAh (by omega) (qAh (by omega) (Ev.bind (qAz rfl) (qAh (by omega) (qAh (by simp; omega) ?_)))))
   rw [Int.toNat_natCast, Int.toNat_natCast]
   refine hl1 r ?_
   refine Ev.step (fun k => z80.l1.eq_2 ..) ?_
   refine qAs (by omega) (qAh (by omega) ?_)
   rw [qAw (by omega)]
   exact hr
  ·have hi' : i < q.length := by omega
   have hqi := qKp hred hi'
   have hrl := qCj hst.vs (i := i) (by omega)
   have hx := qB3 (qCr hst.vs (i := i) (by omega)) (j := c) (by omega)
   have hrv := qFk h2.1 h2.2 (a := -((R.getD i []).getD c 0)) (by omega) (by omega)
   have hw : wrap64 (-((R.getD i []).getD c 0)) = -((R.getD i []).getD c 0) := qAt (by omega) (by omega)
   refine Ev.step (fun k => z80.l1.eq_2 ..) ?_
   rw [qA9, qBc, qA9, hw]
   clear hw
   refine qAh (by omega) (qAh (by omega) (qAh (by omega) (qAh (by omega) (qAh (by omega) (qAh (by omega) (Ev.bind (qAz hrv) (qAh (by omega) (qAh (by omega) ?_))))))))
   rw [qAw (by omega)]
   rw [qJm [] R hi'] at hr'
   exact hr'
 ·have hin : has q (c : Int) = true := by simpa using hp'
  refine Ev.step (fun k => z80.l0.eq_2 ..) ?_
  refine qAh (by omega) (Ev.bind (qE0 q (c : Int) (by omega)) ?_)
  rw [hin]
  refine qAh rfl ?_
  rw [qAw (by omega)]; exact hr
 ·refine Ev.step (fun k => z80.l0.eq_2 ..) ?_
  exact qAs (by omega) (Ev.now _)
end Go.Proofs.Ytkgajpngeglkmaa.B
set_option linter.unusedVariables false
set_option linter.unusedSimpArgs false
namespace Go.Proofs.Ytkgajpngeglkmaa.B
open Go.RowKit Go.Proofs.YtkgajpngeglkmaaW.PrintWords
open LinT
theorem qFi {P : Nat → Nat} {g : Nat → Int} : ∀ (t : Nat) (s : List Int), (∀ i, i < t → P i < s.length) → (∀ i j, i < t → j < t → P i = P j → i = j) →
  (iter (fun i s => s.set (P i) (g i)) 0 t s).length = s.length ∧ (∀ i, i < t → (iter (fun i s => s.set (P i) (g i)) 0 t s).getD (P i) 0 = g i) ∧ ∀ j, (∀ i, i < t → P i ≠ j) → (iter (fun i s => s.set (P i) (g i)) 0 t s).getD j 0 = s.getD j 0
 | 0, s, _, _ => ⟨rfl, fun i hi => absurd hi (Nat.not_lt_zero i), fun _ _ => rfl⟩
 | t + 1, s, hP, hinj => by
  obtain ⟨h1, h2, h3⟩ := qFi (P := P) (g := g) t s (fun i hi => hP i (by omega)) (fun i j hi hj => hinj i j (by omega) (by omega))
  have hl := hP t (by omega)
  rw [qJi, Nat.zero_add]
  refine ⟨by rw [List.length_set, h1], fun i hi => ?_, fun j hj => ?_⟩
  ·rw [qDp _ _ _ _ (by rw [h1]; exact hl)]
   by_cases e : i = t
   ·subst e; rw [if_pos rfl]
   ·rw [if_neg (fun h => e (hinj i t hi (by omega) h)), h2 i (by omega)]
  ·rw [qDp _ _ _ _ (by rw [h1]; exact hl), if_neg (fun h => hj t (by omega) h.symm), h3 j (fun i hi => hj i (by omega))]
theorem qKy {p n : Nat} {L B : List (List Int)} {q : List Int} (h : Red (p : Int) n L B q) {c : Nat} (hc : c < n) (hf : ∀ i, i < B.length → (q.getD i 0).toNat ≠ c) :
  KerVec (p : Int) n B.length (rw' B) (fun i => (q.getD i 0).toNat) c (vec (kerV p n B q c)) := by
 have hr := h.rref
 have hql := h.len
 have hcl : c < (List.replicate n (0 : Int)).length := by rw [List.length_replicate]; exact hc
 obtain ⟨_, h2, h3⟩ := qFi (P := fun i => (q.getD i 0).toNat) (g := fun i => (-((B.getD i []).getD c 0)) % (p : Int)) q.length ((List.replicate n 0).set c 1) (fun i hi => by
  rw [List.length_set, List.length_replicate]; exact hr.lt i (by omega)) (fun i j hi hj e => by
  rcases Nat.lt_trichotomy i j with hl | he | hg
  ·have h9 : (q.getD i 0).toNat < (q.getD j 0).toNat := hr.mono i j hl (by omega)
   have e' : (q.getD i 0).toNat = (q.getD j 0).toNat := e
   omega
  ·exact he
  ·have h9 : (q.getD j 0).toNat < (q.getD i 0).toNat := hr.mono j i hg (by omega)
   have e' : (q.getD i 0).toNat = (q.getD j 0).toNat := e
   omega)
 refine ⟨?_, fun i hi => ?_, fun j hj hne hq => ?_⟩
 ·show (p : Int) ∣ (kerV p n B q c).getD c 0 - 1
  unfold kerV
  rw [h3 c (fun i hi => hf i (by omega)), qDp _ _ _ _ hcl, if_pos rfl]
  exact Int.dvd_zero _
 ·show (p : Int) ∣ (kerV p n B q c).getD (q.getD i 0).toNat 0 + (B.getD i []).getD c 0
  unfold kerV
  rw [h2 i (by omega)]
  generalize (B.getD i []).getD c 0 = a
  refine ⟨-((-a) / (p : Int)), ?_⟩
  rw [Int.emod_def]
  grind
 ·show (p : Int) ∣ (kerV p n B q c).getD j 0
  unfold kerV
  rw [h3 j (fun i hi => hq i (by omega)), qDp _ _ _ _ hcl, if_neg hne]
  rw [List.getD_eq_getElem?_getD, List.getElem?_replicate, if_pos hj]
  exact Int.dvd_zero _
theorem qCy {p : Int} {n : Nat} {S T : Vec → Prop} (h : ∀ v, S v ↔ T v) (v : Vec) : Perp p n S v ↔ Perp p n T v :=
 ⟨fun hv s hs => hv s ((h s).2 hs), fun hv s hs => hv s ((h s).1 hs)⟩
theorem qKq {p : Int} {n : Nat} {L B : List (List Int)} {q : List Int} (hp : Pr p) (h : Red p n L B q) : LinT.dim p n (Perp p n (Span p n (L.map vec))) + B.length = n := by
 have h1 := h.rref.dim_perp hp
 rw [qBr, qBi (qCy h.span)] at h1
 exact h1
theorem qIp {p n : Nat} (hp : isP p = true) {L B : List (List Int)} {q : List Int} (h : Red (p : Int) n L B q) :
  (kerC p n B q).length + B.length = n ∧ qFc (p : Int) n ((kerC p n B q).map vec) ∧ ∀ v, Span (p : Int) n ((kerC p n B q).map vec) v ↔ Perp (p : Int) n (Span (p : Int) n (L.map vec)) v := by
 have hr := h.rref
 have hql := h.len
 have hfq : ∀ c : Nat, c < n → ((!has q (c : Int)) = true ↔ ∀ i, i < B.length → (q.getD i 0).toNat ≠ c) := fun c _ => by
  rw [Bool.not_eq_true', Bool.eq_false_iff, Ne, qL6]
  constructor
  ·intro hn i hi e
   have h1 := qKp h (i := i) (by omega)
   exact hn (by rw [← e, Int.toNat_of_nonneg h1.1]; exact qBe 0 (by omega))
  ·intro hn hm
   obtain ⟨i, hi, e⟩ := List.mem_iff_getElem.1 hm
   have := hn i (by omega)
   rw [List.getD_eq_getElem?_getD, List.getElem?_eq_getElem hi, Option.getD_some, e] at this
   exact this (by omega)
 have hcnt := qIt (n := n) (r := B.length) (q := fun i => (q.getD i 0).toNat) hr.lt hr.mono (fun c => !has q (c : Int)) hfq
 have hF : ∀ c, c ∈ ((List.range n).filter fun (c : Nat) => !has q (c : Int)) → c < n ∧ (∀ i, i < B.length → (fun i => (q.getD i 0).toNat) i ≠ c) ∧ KerVec (p : Int) n B.length (rw' B) (fun i => (q.getD i 0).toNat) c ((fun c => vec (kerV p n B q c)) c) := fun c hc => by
  obtain ⟨h1, h2⟩ := List.mem_filter.1 hc
  have h1 := List.mem_range.1 h1
  have h3 := (hfq c h1).1 h2
  exact ⟨h1, h3, qKy h h1 h3⟩
 have hnd : ((List.range n).filter fun (c : Nat) => !has q (c : Int)).Nodup := List.Pairwise.filter _ List.nodup_range
 have e : (kerC p n B q).map vec = ((List.range n).filter fun (c : Nat) => !has q (c : Int)).map (fun c => vec (kerV p n B q c)) := by
  unfold kerC; rw [List.map_map]; rfl
 refine ⟨by unfold kerC; rw [List.length_map]; exact hcnt, ?_, fun v => ?_⟩
 ·rw [e]; exact qEs (qC9 hp) _ _ hF hnd
 ·rw [e, qKx (qC9 hp) hr _ _ hF hnd hcnt v, qBr]
  exact qCy h.span v
end Go.Proofs.Ytkgajpngeglkmaa.B
set_option linter.unusedVariables false
set_option linter.unusedSimpArgs false
namespace Go.Proofs.Ytkgajpngeglkmaa.B
open Go.RowKit Go.Proofs.YtkgajpngeglkmaaW.PrintWords
theorem qB7 {α : Type} [BEq α] [LawfulBEq α] (l m : List α) (z : α) (h : l.length = m.length) : (List.range l.length).all (fun i => l.getD i z == m.getD i z) = (l == m) := by
 rw [Bool.eq_iff_iff, List.all_eq_true, beq_iff_eq]
 constructor
 ·intro e
  apply List.ext_getElem h
  intro i h1 h2
  have := e i (List.mem_range.2 h1)
  simpa [List.getD_eq_getElem?_getD, List.getElem?_eq_getElem h1, List.getElem?_eq_getElem h2] using this
 ·rintro rfl i _
  exact beq_self_eq_true _
theorem qCz {α : Type} [BEq α] [LawfulBEq α] {l m : List α} (h : l.length ≠ m.length) : (l == m) = false := by
 rw [Bool.eq_false_iff]; intro e; exact h (by rw [eq_of_beq e])
end Go.Proofs.Ytkgajpngeglkmaa.B
set_option linter.unusedVariables false
set_option linter.unusedSimpArgs false
namespace Go.Proofs.Ytkgajpngeglkmaa.B
open Go.RowKit Go.Proofs.YtkgajpngeglkmaaW.PrintWords
theorem qE7 (l m : List Int) (hl : l.length < 9223372036854775807) : Ev (fun k => z123.f k l m) (l == m) := by
 unfold z123.f
 by_cases h : l.length = m.length
 ·refine qAh (by omega) ?_
  rw [← qB7 l m 0 h]
  refine qG0 (fun (i : Nat) k => z123.l0 k l m (l.length : Int) (i : Int)) _ l.length (fun j hj hp r hr => ?_) (fun j hj hp => ?_) ?_
  ·refine Ev.step (fun k => z123.l0.eq_2 ..) ?_
   refine qAh (by omega) (qAh (by omega) (qAh (by omega) (qAh (by omega) (qAh ?_ ?_))))
   ·rw [qA9, qA9]; exact eq_of_beq hp
   ·rw [qAw (by omega)]; exact hr
  ·refine Ev.step (fun k => z123.l0.eq_2 ..) ?_
   refine qAh (by omega) (qAh (by omega) (qAh (by omega) (qAh (by omega) (qAs ?_ (Ev.now _)))))
   rw [qA9, qA9]; exact ne_of_beq_false hp
  ·refine Ev.step (fun k => z123.l0.eq_2 ..) ?_
   exact qAs (by omega) (Ev.now _)
 ·rw [qCz h]
  exact qAs (by omega) (Ev.now _)
theorem qI7 (l m : List Int) (hl : l.length < 9223372036854775807) : Ev (fun k => z121.f k l m) (l == m) := by
 unfold z121.f
 by_cases h : l.length = m.length
 ·refine qAh (by omega) ?_
  rw [← qB7 l m 0 h]
  refine qG0 (fun (i : Nat) k => z121.l0 k l m (i : Int)) _ l.length (fun j hj hp r hr => ?_) (fun j hj hp => ?_) ?_
  ·refine Ev.step (fun k => z121.l0.eq_2 ..) ?_
   refine qAh (by omega) (qAh (by omega) (qAh (by omega) (qAh ?_ ?_)))
   ·rw [qA9, qA9]; exact eq_of_beq hp
   ·rw [qAw (by omega)]; exact hr
  ·refine Ev.step (fun k => z121.l0.eq_2 ..) ?_
   refine qAh (by omega) (qAh (by omega) (qAh (by omega) (qAs ?_ (Ev.now _))))
   rw [qA9, qA9]; exact ne_of_beq_false hp
  ·refine Ev.step (fun k => z121.l0.eq_2 ..) ?_
   exact qAs (by omega) (Ev.now _)
 ·rw [qCz h]
  exact qAs (by omega) (Ev.now _)
end Go.Proofs.Ytkgajpngeglkmaa.B
set_option linter.unusedVariables false
set_option linter.unusedSimpArgs false
namespace Go.Proofs.Ytkgajpngeglkmaa.B
open Go.RowKit Go.Proofs.YtkgajpngeglkmaaW.PrintWords
theorem qIx (l m : List (List Int)) (hl : l.length < 9223372036854775807) (hr : ∀ x ∈ l, x.length < 9223372036854775807) : Ev (fun k => z95.f k l m) (l == m) := by
 unfold z95.f z163.f
 refine Ev.bind (a := (l == m)) ?_ (Ev.now _)
 by_cases h : l.length = m.length
 ·refine qAh (by omega) ?_
  rw [← qB7 l m [] h]
  have hm : ∀ j, j < l.length → Ev (fun k => z123.f k (rI_ l (j : Int)) (rI_ m (j : Int))) (l.getD j [] == m.getD j []) := fun j hj => by
   rw [qBc, qBc]
   exact qE7 _ _ (hr _ (qBe [] hj))
  refine qG0 (fun (i : Nat) k => z163.l0 k m l (l.length : Int) (i : Int)) _ l.length (fun j hj hp r hr => ?_) (fun j hj hp => ?_) ?_
  ·refine Ev.step (fun k => z163.l0.eq_2 ..) ?_
   refine qAh (by omega) (qAh (by omega) (qAh (by omega) (qAh (by omega) (Ev.bind (hm j hj) (qAh hp ?_)))))
   rw [qAw (by omega)]; exact hr
  ·refine Ev.step (fun k => z163.l0.eq_2 ..) ?_
   exact qAh (by omega) (qAh (by omega) (qAh (by omega) (qAh (by omega) (Ev.bind (hm j hj) (qAs (by rw [hp]; decide) (Ev.now _))))))
  ·refine Ev.step (fun k => z163.l0.eq_2 ..) ?_
   exact qAs (by omega) (Ev.now _)
 ·rw [qCz h]
  exact qAs (by omega) (Ev.now _)
end Go.Proofs.Ytkgajpngeglkmaa.B
set_option linter.unusedVariables false
set_option linter.unusedSimpArgs false
namespace Go.Proofs.Ytkgajpngeglkmaa.B
open Go.RowKit Go.Proofs.YtkgajpngeglkmaaW.PrintWords
theorem qF4 (l : List (List Int)) (k : Nat) (hk : k < l.length) : (l.take (k + 1)).flatten = (l.take k).flatten ++ l.getD k [] := by
 have ht : l.take (k + 1) = l.take k ++ [l.getD k []] := by
  rw [List.take_succ_eq_append_getElem hk, List.getD_eq_getElem?_getD, List.getElem?_eq_getElem hk]; rfl
 rw [ht, List.flatten_append]; simp
end Go.Proofs.Ytkgajpngeglkmaa.B
set_option linter.unusedVariables false
set_option linter.unusedSimpArgs false
namespace Go.Proofs.Ytkgajpngeglkmaa.B
open Go.RowKit Go.Proofs.YtkgajpngeglkmaaW.PrintWords
open LinT
noncomputable def redB (p : Int) (n : Nat) (L : List (List Int)) : List (List Int) := open Classical in if h : ∃ B q, Red p n L B q then Classical.choose h else []
theorem qHn {p : Int} {n : Nat} {L B : List (List Int)} {q : List Int} (hp : Pr p) (h : Red p n L B q) : redB p n L = B := by
 have hex : ∃ B q, Red p n L B q := ⟨B, q, h⟩
 unfold redB
 rw [dif_pos hex]
 obtain ⟨q', hq'⟩ := Classical.choose_spec hex
 exact (hq'.unique hp h (fun v => Iff.rfl)).1
theorem qEb (l : List (List Int)) (hl : l.length ≤ 1048576) (hr : ∀ x ∈ l, x.length ≤ 1048576) : Ev (fun k => z92.f k l) l := by
 unfold z92.f
 have e : l = (List.range l.length).map fun j => id (l.getD j []) := by
  have := qGz ([] : List Int) id l
  rwa [List.map_id] at this
 refine qBp ?_ e.symm
 refine qEa (fun s i k => z92.l0 k s l (l.length : Int) (i : Int)) (fun j => id (l.getD j [])) l.length (fun j s hj hs r hr' => ?_) _ ?_
 ·have hsl : s.length = j := by rw [hs]; simp
  have := hr _ (qBe ([] : List Int) hj)
  refine Ev.step (fun k => z92.l0.eq_2 ..) ?_
  rw [qBc]
  refine qAh (by omega) (qAh (by omega) (qAh (by omega) (Ev.bind (qAz (qG9 _ this)) (qAh (by omega) ?_))))
  rw [qAw (by omega)]; exact hr'
 ·refine Ev.step (fun k => z92.l0.eq_2 ..) ?_
  exact qAs (by omega) (Ev.now _)
theorem qDw {p n : Nat} (hp : isP p = true) (hn : n ≤ 1024) {L : List (List Int)} (hm : L.length ≤ 1048576) (hL : Vs (p : Int) n L) :
  Ev (fun k => z76.f k (p : Int) (n : Int) L) ((p : Int), (n : Int), redB (p : Int) n L) ∧ ∃ q, Red (p : Int) n L (redB (p : Int) n L) q := by
 obtain ⟨R, q, det, hE, hst⟩ := qJs hp (n := n) (by omega) hm hL
 have hred := hst.red
 have he := qHn (qC9 hp) hred
 rw [he]
 refine ⟨?_, q, hred⟩
 have hRl := hst.len
 have hqm := hst.el.g.rm
 have hrow : ∀ x ∈ L, x.length ≤ 1048576 := fun x hx => by rw [(hL x hx).1]; omega
 unfold z76.f
 refine Ev.bind (qEb L hm hrow) (Ev.bind hE ?_)
 dsimp only
 refine qAh (by omega) (qAh (by omega) ?_)
 rw [Int.toNat_natCast]
 refine Ev.bind (qEb _ (by rw [List.length_take]; omega) (fun x hx => ?_)) (Ev.now _)
 rw [(hst.vs x (List.mem_of_mem_take hx)).1]; omega
theorem qKn {p n : Nat} {L : List (List Int)} (hm : L.length ≤ 1024) (hn : n ≤ 1024) (hL : ∀ x, x ∈ L → x.length = n) : Ev (fun k => z120.f k (p : Int) (n : Int) L) ((p : Int), (L.length : Int), (n : Int), L.flatten) := by
 unfold z120.f
 have main : ∀ (d i : Nat), i + d = L.length → Ev (fun k => z120.l0 k L (i : Int) (p : Int) (L.length : Int) (n : Int) (L.take i).flatten) ((p : Int), (L.length : Int), (n : Int), L.flatten) := by
  intro d
  induction d with
  | zero =>
   intro i hi
   have : i = L.length := by omega
   subst this
   rw [List.take_length]
   refine Ev.step (fun k => z120.l0.eq_2 ..) ?_
   exact qAs (by omega) (Ev.now _)
  | succ d ih =>
   intro i hi
   have h := ih (i + 1) (by omega)
   have hlen := hL _ (qBe ([] : List Int) (show i < L.length by omega))
   have hfl : (L.take i).flatten.length = i * n := by
    rw [qCd (w := n) _ (fun x hx => hL x (List.mem_of_mem_take hx)), List.length_take, Nat.min_eq_left (by omega)]
   have hb : i * n ≤ 1024 * 1024 := Nat.mul_le_mul (by omega) hn
   rw [qF4 L i (by omega)] at h
   refine Ev.step (fun k => z120.l0.eq_2 ..) ?_
   rw [qBc]
   refine qAh (by omega) (qAh (by omega) (qAh (by omega) ?_))
   rw [qAw (by omega)]; exact h
 have := main L.length 0 (by omega)
 simpa using this
theorem qK7 {p n : Nat} (hp : isP p = true) (hn : n ≤ 1000) {L : List (List Int)} (hm : L.length ≤ 1000) (hL : Vs (p : Int) n L) :
  Ev (fun k => z87.f k (p : Int) (n : Int) L) (redB (p : Int) n L) ∧ ∃ q, Red (p : Int) n L (redB (p : Int) n L) q := by
 have hlen : ∀ x, x ∈ L → x.length = n := fun x hx => (hL x hx).1
 have hfl := qCd (w := n) L hlen
 obtain ⟨Y, q, det, hE, hst⟩ := qI8 hp (w := n) (m := L.length) (X := L.flatten) (by omega) (by omega) hfl (fun y hy => by
  obtain ⟨x, hx, hy2⟩ := List.mem_flatten.1 hy
  exact (hL x hx).2 y hy2) (L := L) rfl (fun i j hi hj => (qFp _ hlen i j hi hj).symm)
 have hred := hst.red
 have he := qHn (qC9 hp) hred
 rw [he]
 refine ⟨?_, q, hred⟩
 have hqm := hst.el.g.rm
 have hYl := hst.len
 have hmn : L.length * n ≤ 1000 * 1000 := Nat.mul_le_mul hm hn
 unfold z87.f
 refine Ev.bind (qKn (by omega) (by omega) hlen) (Ev.bind hE ?_)
 refine qEa (fun s i k => z87.l0 k (n : Int) q s (i : Int) (p : Int) (L.length : Int) (n : Int) Y) (fun i => (Y.drop (i * n)).take n) q.length (fun i s hi hs r hr => ?_) _ ?_
 ·have hsl : s.length = i := by rw [hs]; simp
  have hrl := qH3 hYl (show i < L.length by omega)
  have h2 := Nat.mul_le_mul_right n (show i + 1 ≤ L.length by omega)
  have h1 : (i + 1) * n = i * n + n := by rw [Nat.add_mul, Nat.one_mul]
  have hown : z88.f ((Y.drop (i * n)).take n) = some ((Y.drop (i * n)).take n) := by
   unfold z88.f
   show (if (([] : List Int)).length + ((Y.drop (i * n)).take n).length < 17592186044416 then some ([] ++ (Y.drop (i * n)).take n) else none) = _
   rw [if_pos (by rw [hrl]; simp; omega)]; rfl
  obtain ⟨e1, e2⟩ : wrap64 ((i : Int) * (n : Int)) = ((i * n : Nat) : Int) ∧ wrap64 (wrap64 ((i : Int) + 1) * (n : Int)) = ((i * n + n : Nat) : Int) :=
   ⟨by rw [← Int.natCast_mul, qAt (by omega) (by omega)], by rw [qAw (by omega), ← Int.natCast_mul, h1, qAt (by omega) (by omega)]⟩
  refine Ev.step (fun k => z87.l0.eq_2 ..) ?_
  rw [e1, e2, Int.toNat_natCast, Int.toNat_natCast]
  clear e1 e2
  have d1 : (Y.take (i * n + n)).drop (i * n) = (Y.drop (i * n)).take n := by rw [List.drop_take]; congr 1; omega
  rw [d1]
  refine qAh (by omega) (qAh (by omega) (qAh (by omega) (qAh (by omega) (Ev.bind (qAz hown) (qAh (by omega) ?_)))))
  rw [qAw (by omega)]; exact hr
 ·refine Ev.step (fun k => z87.l0.eq_2 ..) ?_
  exact qAs (by omega) (Ev.now _)
theorem qD7 {p : Nat} (hq : p ≤ 251) (x : List Int) (n : Int) (hx : x.length ≤ 1048576) : Ev (fun k => z112.f k x n (p : Int)) (!vecC x n (p : Int)) := by
 unfold z112.f
 exact Ev.bind (qEt hq x n hx) (Ev.now _)
theorem qHd {p : Nat} (hq : p ≤ 251) (L : List (List Int)) (n : Int) (hl : L.length ≤ 1048576) (hx : ∀ x ∈ L, x.length ≤ 1048576) : Ev (fun k => z158.f k L n (p : Int)) (L.any fun x => !vecC x n (p : Int)) := by
 obtain ⟨t, ht, hd⟩ := qB9 (L) [] (fun i k => z161.l0 k (L) ((L).length : Int) (i : Int) n (p : Int)) (fun x => !vecC x n (p : Int)) (fun j hj hp r hr => by
   refine Ev.step (fun k => z161.l0.eq_2 ..) ?_
   refine qAh (by omega) (qAh (by omega) (qAh (by omega) ?_))
   rw [qBc, qAw (by omega)]
   exact Ev.bind (qD7 hq _ n (hx _ (qBe ([] : List Int) hj))) (qAs (by rw [hp]; decide) hr)) (fun j hj hp => by
   refine Ev.step (fun k => z161.l0.eq_2 ..) ?_
   refine qAh (by omega) (qAh (by omega) (qAh (by omega) ?_))
   rw [qBc]
   exact Ev.bind (qD7 hq _ n (hx _ (qBe ([] : List Int) hj))) (qAh hp (Ev.now _))) (by
   refine Ev.step (fun k => z161.l0.eq_2 ..) ?_
   exact qAs (by omega) (Ev.now _))
 unfold z158.f z161.f
 refine Ev.bind ht (qBp (Ev.now _) hd)
theorem qGb {p : Nat} (hq : p ≤ 251) (L : List (List Int)) (n : Int) (hl : L.length ≤ 1048576) (hx : ∀ x ∈ L, x.length ≤ 1048576) : Ev (fun k => z75.f k L n (p : Int)) (L.all fun x => vecC x n (p : Int)) := by
 unfold z75.f
 refine Ev.bind (qHd hq L n hl hx) (qBp (Ev.now _) ?_)
 rw [List.any_eq_not_all_not]; simp
theorem qFd {p : Nat} (hq : p ≤ 251) (x : List Int) {n : Nat} (hn : n ≤ 64) (hx : x.length ≤ 1048576) : Ev (fun k => z77.f k (p : Int) (n : Int) x) (vecC x (n : Int) (p : Int)) := by
 unfold z77.f z64.f vecC
 have hw : wrap64 ((p : Int) - 1) = (p : Int) - 1 := qAt (by omega) (by omega)
 have h := qEw (fun (i : Nat) k => z64.l0 k x (p : Int) (i : Int)) (fun i => decide (0 ≤ x.getD i 0) && decide (x.getD i 0 ≤ (p : Int) - 1)) (decide ((x.length : Int) ≤ 64)) x.length (fun j hj _ hp' r hr => by
  refine Ev.step (fun k => z64.l0.eq_2 ..) ?_
  rw [hw, qA9]
  clear hw
  refine qAh (by omega) (qAh (by omega) (Ev.bind (qAz (qD8 _ _ _)) (qAh hp' ?_)))
  rw [qAw (by omega)]; exact hr) (fun j hj _ hp' => by
  refine Ev.step (fun k => z64.l0.eq_2 ..) ?_
  rw [hw, qA9]
  clear hw
  exact qAh (by omega) (qAh (by omega) (Ev.bind (qAz (qD8 _ _ _)) (qAs (by rw [hp']; decide) (Ev.now _))))) (fun _ => by
  refine Ev.step (fun k => z64.l0.eq_2 ..) ?_
  clear hw
  exact qAs (by omega) (Ev.now _))
 clear hw
 rw [qDu x 0 (fun y => decide (0 ≤ y) && decide (y ≤ (p : Int) - 1))] at h
 refine Ev.bind h ?_
 cases ha : (x.all fun y => decide (0 ≤ y) && decide (y ≤ (p : Int) - 1)) with
 | false =>
  rw [Bool.false_and, Bool.and_false]
  exact qAs (by decide) (Ev.now _)
 | true =>
  rw [Bool.true_and, Bool.and_true]
  by_cases h64 : (x.length : Int) ≤ 64
  ·rw [decide_eq_true h64]
   exact qAh rfl (qBp (Ev.now _) (by rw [Bool.beq_eq_decide_eq]))
  ·rw [decide_eq_false h64, decide_eq_false (by omega)]
   exact qAs (by decide) (Ev.now _)
theorem qHh {p : Nat} (hq : p ≤ 251) (L : List (List Int)) {n : Nat} (hn : n ≤ 64) (hl : L.length ≤ 1048576) (hx : ∀ x ∈ L, x.length ≤ 1048576) : Ev (fun k => z93.f k (p : Int) (n : Int) L) (L.all fun x => vecC x (n : Int) (p : Int)) := by
 unfold z93.f
 refine qEx L [] (fun (i : Nat) k => z93.l0 k (p : Int) (n : Int) L (i : Int)) (fun x => vecC x (n : Int) (p : Int)) (fun j hj hp r hr => ?_) (fun j hj hp => ?_) ?_
 ·have := hx _ (qBe ([] : List Int) hj)
  refine Ev.step (fun k => z93.l0.eq_2 ..) ?_
  rw [qBc]
  refine qAh (by omega) (qAh (by omega) (Ev.bind (qFd hq _ hn this) (qAh hp ?_)))
  rw [qAw (by omega)]; exact hr
 ·have := hx _ (qBe ([] : List Int) hj)
  refine Ev.step (fun k => z93.l0.eq_2 ..) ?_
  rw [qBc]
  exact qAh (by omega) (qAh (by omega) (Ev.bind (qFd hq _ hn this) (qAs (by rw [hp]; decide) (Ev.now _))))
 ·refine Ev.step (fun k => z93.l0.eq_2 ..) ?_
  exact qAs (by omega) (Ev.now _)
theorem qIg {p n : Nat} {L : List (List Int)} : (L.all fun x => vecC x (n : Int) (p : Int)) = true ↔ Vs (p : Int) n L := by
 rw [List.all_eq_true]
 constructor
 ·intro h x hx
  obtain ⟨h1, h2⟩ := qDe.1 (h x hx)
  exact ⟨h1, h2⟩
 ·exact fun h x hx => qDe.2 ⟨(h x hx).1, (h x hx).2⟩
theorem qHk (l m : List (List Int)) (hl : l.length < 9223372036854775807) (hr : ∀ x ∈ l, x.length < 9223372036854775807) : Ev (fun k => z94.f k l m) (l == m) := by
 unfold z94.f
 by_cases h : l.length = m.length
 ·refine qAh (by omega) ?_
  rw [← qB7 l m [] h]
  refine qG0 (fun (i : Nat) k => z94.l0 k l m (i : Int)) _ l.length (fun j hj hp r hr' => ?_) (fun j hj hp => ?_) ?_
  ·have hrow := hr _ (qBe ([] : List Int) hj)
   refine Ev.step (fun k => z94.l0.eq_2 ..) ?_
   rw [qBc, qBc]
   refine qAh (by omega) (qAh (by omega) (qAh (by omega) (Ev.bind (qI7 _ _ hrow) (qAh hp ?_))))
   rw [qAw (by omega)]; exact hr'
  ·have hrow := hr _ (qBe ([] : List Int) hj)
   refine Ev.step (fun k => z94.l0.eq_2 ..) ?_
   rw [qBc, qBc]
   exact qAh (by omega) (qAh (by omega) (qAh (by omega) (Ev.bind (qI7 _ _ hrow) (qAs (by rw [hp]; decide) (Ev.now _)))))
  ·refine Ev.step (fun k => z94.l0.eq_2 ..) ?_
   exact qAs (by omega) (Ev.now _)
 ·rw [qCz h]
  exact qAs (by omega) (Ev.now _)
noncomputable def okS (p n : Int) (L : List (List Int)) : Bool := open Classical in (okP p && (decide (0 ≤ n) && decide (n ≤ 32))) && ((L.all fun x => vecC x n p) && (redB p n.toNat L == L))
section
variable {L : List (List Int)} (hl : L.length ≤ 1048576) (hr : ∀ x ∈ L, x.length ≤ 1048576)
include hl hr
theorem qFy (p n : Int) : Ev (fun k => z54.f k p n L) (okS p n L) := by
 unfold z54.f okS z74.f
 refine Ev.bind (qD9 p) ?_
 cases hp : okP p with
 | false => exact qAs (by decide) (qBp (Ev.now _) (by simp))
 | true =>
  obtain ⟨q, rfl, hq⟩ := qF3.1 hp
  refine qAh rfl (Ev.bind (a := decide (0 ≤ n) && decide (n ≤ 32)) (Ev.bind (qAz (qCi _ _ _)) (Ev.now _)) ?_)
  cases hn : decide (0 ≤ n) && decide (n ≤ 32) with
  | false => exact qAs (by decide) (qBp (Ev.now _) (by simp))
  | true =>
   rw [Bool.and_eq_true, decide_eq_true_iff, decide_eq_true_iff] at hn
   obtain ⟨m, rfl⟩ := Int.eq_ofNat_of_zero_le hn.1
   refine qAh rfl (Ev.bind (qGb (qBo hq).2 L _ hl hr) ?_)
   cases hv : (L.all fun x => vecC x (m : Int) (q : Int)) with
   | false => exact qAs (by decide) (qBp (Ev.now _) (by simp))
   | true =>
    obtain ⟨h1, qq, h2⟩ := qDw hq (by omega) hl (qIg.1 hv)
    have h3 := h2.len_le (qC9 hq)
    refine qAh rfl (Ev.bind h1 ?_)
    dsimp only
    refine Ev.bind (qIx _ L (by omega) (fun x hx => by rw [(h2.vs x hx).1]; omega)) (qBp (Ev.now _) ?_)
    rw [Int.toNat_natCast]
    simp
theorem okS_ev (p n : Int) : Ev (fun k => z50.f k p n L) (okS p n L) := by
 unfold z50.f okS
 have stop : ∀ p n, Ev (fun k => z50.j0 k true p n L) false := fun p n => by
  refine Ev.step (fun k => z50.j0.eq_2 ..) ?_
  exact qAh rfl (Ev.now _)
 refine Ev.bind (qDh p) ?_
 cases hp : okP p with
 | false => exact qAs (by decide) (qBp (stop _ _) (by simp))
 | true =>
  obtain ⟨q, rfl, hq⟩ := qF3.1 hp
  refine qAh rfl (Ev.bind (qAz (qD8 _ _ _)) ?_)
  cases hn : decide (0 ≤ n) && decide (n ≤ 32) with
  | false => exact qAs (by decide) (qBp (stop _ _) (by simp))
  | true =>
   rw [Bool.and_eq_true, decide_eq_true_iff, decide_eq_true_iff] at hn
   obtain ⟨m, rfl⟩ := Int.eq_ofNat_of_zero_le hn.1
   refine qAh rfl ?_
   by_cases hlen : (L.length : Int) > (m : Int)
   ·refine qBp (qAh hlen (stop _ _)) ?_
    cases hv : (L.all fun x => vecC x (m : Int) (q : Int)) with
    | false => simp
    | true =>
     obtain ⟨h1, qq, h2⟩ := qDw (L := L) hq (show m ≤ 1024 by omega) hl (qIg.1 hv)
     have h3 := h2.len_le (qC9 hq)
     have hne : ¬ (redB (q : Int) m L = L) := fun he => by rw [he] at h3; omega
     rw [Int.toNat_natCast]
     simp [hne]
   ·refine qAs hlen (Ev.bind (qHh (qBo hq).2 L (by omega) hl hr) ?_)
    cases hv : (L.all fun x => vecC x (m : Int) (q : Int)) with
    | false => exact qBp (stop _ _) (by simp)
    | true =>
     obtain ⟨h1, qq, h2⟩ := qK7 (L := L) hq (show m ≤ 1000 by omega) (by omega) (qIg.1 hv)
     have h3 := h2.len_le (qC9 hq)
     have hj : Ev (fun k => z50.j0 k false (q : Int) (m : Int) L) (redB (q : Int) m L == L) := by
      refine Ev.step (fun k => z50.j0.eq_2 ..) ?_
      exact qAs (by decide) (Ev.bind h1 (Ev.bind (qHk _ L (by omega) (fun x hx => by rw [(h2.vs x hx).1]; omega)) (Ev.now _)))
     refine qBp hj ?_
     rw [Int.toNat_natCast]
     simp
end
end Go.Proofs.Ytkgajpngeglkmaa.B
set_option linter.unusedVariables false
set_option linter.unusedSimpArgs false
namespace Go.Proofs.Ytkgajpngeglkmaa.B
open Go.RowKit Go.Proofs.YtkgajpngeglkmaaW.PrintWords
theorem qFo (a : Int) : Ev (fun k => z129.f a) (a != 0) := qAz rfl
theorem qGc (l : List Int) (hl : l.length ≤ 1048576) : Ev (fun k => z165.f k l) (l.any fun a => a != 0) := by
 obtain ⟨t, ht, hd⟩ := qB9 (l) 0 (fun i k => z166.l0 k (l) ((l).length : Int) (i : Int) ) (fun a => a != 0) (fun j hj hp r hr => by
   refine Ev.step (fun k => z166.l0.eq_2 ..) ?_
   refine qAh (by omega) (qAh (by omega) (qAh (by omega) ?_))
   rw [qA9, qAw (by omega)]
   exact Ev.bind (qFo _) (qAs (by rw [hp]; decide) hr)) (fun j hj hp => by
   refine Ev.step (fun k => z166.l0.eq_2 ..) ?_
   refine qAh (by omega) (qAh (by omega) (qAh (by omega) ?_))
   rw [qA9]
   exact Ev.bind (qFo _) (qAh hp (Ev.now _))) (by
   refine Ev.step (fun k => z166.l0.eq_2 ..) ?_
   exact qAs (by omega) (Ev.now _))
 unfold z165.f z166.f
 refine Ev.bind ht (qBp (Ev.now _) hd)
theorem qJj (l : List Int) (hl : l.length ≤ 1048576) : Ev (fun k => z109.f k l) (l.all fun a => a == 0) := by
 unfold z109.f
 refine Ev.bind (qGc l hl) (qBp (Ev.now _) ?_)
 rw [List.any_eq_not_all_not]; simp [bne]
end Go.Proofs.Ytkgajpngeglkmaa.B
set_option linter.unusedVariables false
set_option linter.unusedSimpArgs false
namespace Go.Proofs.Ytkgajpngeglkmaa.B
open Go.RowKit Go.Proofs.YtkgajpngeglkmaaW.PrintWords
open LinT
theorem qKu (l : List Int) (hl : l.length ≤ 1048576) {c : Nat} (hc : c < l.length) (h1 : l.getD c 0 ≠ 0) (h0 : ∀ j, j < c → l.getD j 0 = 0) : Ev (fun k => z164.f k l) (c : Int) := by
 unfold z164.f
 have main : ∀ (d i : Nat), i + d = c → Ev (fun k => z164.l0 k l (l.length : Int) (i : Int)) (c : Int) := by
  intro d
  induction d with
  | zero =>
   intro i hi
   have : i = c := by omega
   subst this
   refine Ev.step (fun k => z164.l0.eq_2 ..) ?_
   rw [qA9]
   exact qAh (by omega) (qAh (by omega) (qAh (by omega) (Ev.bind (qAz (r := true) (by unfold z97.f; rw [show (l.getD i 0 != 0) = true from bne_iff_ne.2 h1])) (qAh rfl (Ev.now _)))))
  | succ d ih =>
   intro i hi
   have hz := h0 i (by omega)
   refine Ev.step (fun k => z164.l0.eq_2 ..) ?_
   rw [qA9]
   refine qAh (by omega) (qAh (by omega) (qAh (by omega) (Ev.bind (qAz (r := false) (by unfold z97.f; rw [hz]; rfl)) (qAs (by decide) ?_))))
   rw [qAw (by omega)]
   exact ih (i + 1) (by omega)
 exact main c 0 (by omega)
theorem q_eq {p : Int} {n : Nat} {L B : List (List Int)} {q : List Int} (h : Red p n L B q) {i : Nat} (hi : i < B.length) : q.getD i 0 = (((q.getD i 0).toNat : Nat) : Int) := by
 have := (qKp h (i := i) (by rw [h.len]; exact hi)).1
 omega
theorem qHp {p n : Nat} (hp : 1 < p) (hn : n ≤ 1024) {L B : List (List Int)} {q : List Int} (h : Red (p : Int) n L B q) (hB : B.length ≤ 1048576) (a b : Int) : Ev (fun k => z55.f k a b B) q := by
 unfold z55.f
 have e : q = (List.range B.length).map fun i => q.getD i 0 := by
  have := qGz (0 : Int) id q
  rw [List.map_id, h.len] at this
  exact this
 refine qBp ?_ e.symm
 refine qEa (fun s i k => z55.l0 k s B (B.length : Int) (i : Int)) (fun i => q.getD i 0) B.length (fun i s hi hs r hr => ?_) _ ?_
 ·have hsl : s.length = i := by rw [hs]; simp
  obtain ⟨h1, h2, h3⟩ := h.place (by omega) hi
  have hlen := qCj h.vs hi
  have hpl := qKu (B.getD i []) (by omega) (c := (q.getD i 0).toNat) (by omega) (by rw [h2]; decide) h3
  rw [← q_eq h hi] at hpl
  refine Ev.step (fun k => z55.l0.eq_2 ..) ?_
  rw [qBc]
  refine qAh (by omega) (qAh (by omega) (qAh (by omega) (Ev.bind hpl (qAh (by omega) ?_))))
  rw [qAw (by omega)]; exact hr
 ·refine Ev.step (fun k => z55.l0.eq_2 ..) ?_
  exact qAs (by omega) (Ev.now _)
def qLl (q x : List Int) : List Int := (List.range q.length).map fun i => x.getD (q.getD i 0).toNat 0
noncomputable def inSp (p : Int) (n : Nat) (B : List (List Int)) (x : List Int) : Bool := @decide (Span p n (B.map vec) (vec x)) (Classical.propDecidable _)
theorem qIc {p : Int} {n : Nat} {B : List (List Int)} {x : List Int} : inSp p n B x = true ↔ Span p n (B.map vec) (vec x) := by unfold inSp; exact @decide_eq_true_iff _ (Classical.propDecidable _)
theorem qFb {p n : Nat} (hp : isP p = true) (hn : n ≤ 1024) {L B : List (List Int)} {q : List Int} (h : Red (p : Int) n L B q) (hB : B.length ≤ 1048576) {x : List Int} (hx : x.length = n) (hxr : Rng p x) :
  Ev (fun k => z62.f k (p : Int) (n : Int) B x) (qLl q x, inSp (p : Int) n B x) := by
 have h2 := qBo hp
 have hBl := (h.len_le (qC9 hp)).1
 unfold z62.f
 refine Ev.bind (qHp (by omega) hn h hB _ _) ?_
 -- rest after i rounds: x less the rows' multiples
 have main : ∀ (d i : Nat) (rest : List Int), i + d = q.length → rest.length = n → Rng p rest → (∀ j, j < n → (p : Int) ∣ rest.getD j 0 - (x.getD j 0 - comb (rw' B) i (fun t => x.getD (q.getD t 0).toNat 0) j)) →
   Ev (fun k => z62.l0 k x ((List.range i).map fun t => x.getD (q.getD t 0).toNat 0) rest q (q.length : Int) (i : Int) (p : Int) (n : Int) B) (qLl q x, inSp (p : Int) n B x) := by
  intro d
  induction d with
  | zero =>
   intro i rest hi hl hr hc
   have : i = q.length := by omega
   subst this
   have hz : (rest.all fun a => a == 0) = inSp (p : Int) n B x := by
    rw [Bool.eq_iff_iff, qIc, h.in_iff]
    rw [h.len] at hc
    constructor
    ·intro hall j hj
     have h0 : rest.getD j 0 = 0 := by
      have := List.all_eq_true.1 hall _ (qBe 0 (show j < rest.length by omega))
      simpa using this
     have := hc j hj
     rw [h0] at this
     have := Int.dvd_neg.2 this
     rwa [show -(0 - (x.getD j 0 - comb (rw' B) B.length (fun t => x.getD (q.getD t 0).toNat 0) j)) = vec x j - comb (rw' B) B.length (fun i => vec x (q.getD i 0).toNat) j by unfold vec; omega] at this
    ·intro hall
     rw [List.all_eq_true]
     intro y hy
     obtain ⟨j, hj, rfl⟩ := List.getElem_of_mem hy
     have e : rest[j] = rest.getD j 0 := by rw [List.getD_eq_getElem?_getD, List.getElem?_eq_getElem hj]; rfl
     have h3 := hall j (by omega)
     have h4 := Int.dvd_add (hc j (by omega)) h3
     rw [show rest.getD j 0 - (x.getD j 0 - comb (rw' B) B.length (fun t => x.getD (q.getD t 0).toNat 0) j) + (vec x j - comb (rw' B) B.length (fun i => vec x (q.getD i 0).toNat) j) = rest.getD j 0 by unfold vec; omega] at h4
     have h5 := qB3 hr hj
     rw [e, qLh h5.1 h5.2 h4]; rfl
   refine Ev.step (fun k => z62.l0.eq_2 ..) ?_
   refine qAs (by omega) (Ev.bind (qJj rest (by omega)) (qBp (Ev.now _) ?_))
   rw [hz]; rfl
  | succ d ih =>
   intro i rest hi hl hr hc
   have hiB : i < B.length := by rw [← h.len]; omega
   have hqi := qKp h (i := i) (by omega)
   have hxq := qB3 hxr (j := (q.getD i 0).toNat) (by omega)
   have hrow := qCj h.vs hiB
   have hcc : Int.tmod (wrap64 ((p : Int) - x.getD (q.getD i 0).toNat 0)) (p : Int) = ((p : Int) - x.getD (q.getD i 0).toNat 0) % (p : Int) := by
    rw [qAt (by omega) (by omega), qB4 (by omega)]
   have hm0 := Int.emod_nonneg ((p : Int) - x.getD (q.getD i 0).toNat 0) (b := (p : Int)) (by omega)
   have hm1 := Int.emod_lt_of_pos ((p : Int) - x.getD (q.getD i 0).toNat 0) (b := (p : Int)) (by omega)
   have hrd : rd x (rd q (i : Int)) = x.getD (q.getD i 0).toNat 0 := by
    rw [qA9, q_eq h hiB, qA9, Int.toNat_natCast]
   have hadd : Ev (fun k => z108.f k rest (B.getD i []) (((p : Int) - x.getD (q.getD i 0).toNat 0) % (p : Int)) (p : Int)) (addT p rest (B.getD i []) (((p : Int) - x.getD (q.getD i 0).toNat 0) % (p : Int))) := by
    clear hcc
    exact qDc (by omega) h2.2 rest (B.getD i []) _ hr (qCr h.vs hiB) (by omega) (by omega) hm0 (by omega)
   have hnext := ih (i + 1) (addT p rest (B.getD i []) (((p : Int) - x.getD (q.getD i 0).toNat 0) % (p : Int))) (by omega) (by rw [qGf, hl]) (qGe (by omega) _ _ _) (fun j hj => by
    rw [qGg (by omega)]
    have h3 := qEe (rest.getD j 0 + ((p : Int) - x.getD (q.getD i 0).toNat 0) % (p : Int) * (B.getD i []).getD j 0) (p : Int)
    have h4 := hc j hj
    have h5 := qA4 ((B.getD i []).getD j 0) (qEe ((p : Int) - x.getD (q.getD i 0).toNat 0) (p : Int))
    have h6 : (p : Int) ∣ (p : Int) * (B.getD i []).getD j 0 := Int.dvd_mul_right _ _
    have h7 := Int.dvd_add (Int.dvd_add (Int.dvd_add h3 h4) h5) h6
    have e : comb (rw' B) (i + 1) (fun t => x.getD (q.getD t 0).toNat 0) j = comb (rw' B) i (fun t => x.getD (q.getD t 0).toNat 0) j + x.getD (q.getD i 0).toNat 0 * (B.getD i []).getD j 0 := rfl
    rw [e]
    generalize comb (rw' B) i (fun t => x.getD (q.getD t 0).toNat 0) j = cm at h7 ⊢
    generalize (rest.getD j 0 + ((p : Int) - x.getD (q.getD i 0).toNat 0) % (p : Int) * (B.getD i []).getD j 0) % (p : Int) = em at h7 ⊢
    generalize ((p : Int) - x.getD (q.getD i 0).toNat 0) % (p : Int) = cc at h7 ⊢
    generalize (B.getD i []).getD j 0 = bb at h7 ⊢
    generalize x.getD (q.getD i 0).toNat 0 = xx at h7 ⊢
    rwa [show em - (rest.getD j 0 + cc * bb) + (rest.getD j 0 - (x.getD j 0 - cm)) + bb * (cc - ((p : Int) - xx)) + (p : Int) * bb = em - (x.getD j 0 - (cm + xx * bb)) by grind] at h7)
   rw [List.range_succ, List.map_append] at hnext
   have hlen2 : ((List.range i).map fun t => x.getD (q.getD t 0).toNat 0).length < 17592186044416 := by simp; omega
   have g1 : (i : Int) < (q.length : Int) := by omega
   have g2 : (0 : Int) ≤ (i : Int) := by omega
   have g3 : (0 : Int) ≤ rd q (i : Int) := by rw [qA9]; exact hqi.1
   have g4 : rd q (i : Int) < (x.length : Int) := by rw [qA9, hx]; exact hqi.2
   have g5 : (i : Int) < (B.length : Int) := by omega
   have g6 : ¬ ((p : Int) = 0) := by omega
   have g7 : wrap64 ((i : Int) + 1) = ((i + 1 : Nat) : Int) := by clear hcc; exact qAw (by omega)
   refine Ev.step (fun k => z62.l0.eq_2 ..) ?_
   rw [hrd, hcc, qBc, g7]
   exact qAh g1 (qAh g2 (qAh g1 (qAh g3 (qAh g4 (qAh hlen2 (qAh g5 (qAs g6 (Ev.bind hadd hnext))))))))
 have h0 := main q.length 0 x (by omega) hx hxr (fun j hj => by
  have : comb (rw' B) 0 (fun t => x.getD (q.getD t 0).toNat 0) j = 0 := rfl
  rw [this, Int.sub_zero, Int.sub_self]; exact Int.dvd_zero _)
 exact h0
theorem qG2 {p n : Nat} (hp : isP p = true) (hn : n ≤ 1024) {L B : List (List Int)} {q : List Int} (h : Red (p : Int) n L B q) (hB : B.length ≤ 1048576) {x : List Int} (hx : x.length = n) (hxr : Rng p x) :
  Ev (fun k => z45.f k (p : Int) (n : Int) B x) (inSp (p : Int) n B x) := by
 unfold z45.f
 exact Ev.bind (qFb hp hn h hB hx hxr) (Ev.now _)
end Go.Proofs.Ytkgajpngeglkmaa.B
set_option linter.unusedVariables false
set_option linter.unusedSimpArgs false
namespace Go.Proofs.Ytkgajpngeglkmaa.B
open Go.RowKit Go.Proofs.YtkgajpngeglkmaaW.PrintWords
open LinT
end Go.Proofs.Ytkgajpngeglkmaa.B
set_option linter.unusedVariables false
set_option linter.unusedSimpArgs false
namespace Go.Proofs.Ytkgajpngeglkmaa.B
open Go.RowKit Go.Proofs.YtkgajpngeglkmaaW.PrintWords
open LinT
theorem qJy {p : Int} {m n : Nat} (R : Nat → Vec) (y : Vec) : Span p m (rows (fun j i => R i j) n) y ↔ Img p m (qCs n R) All y := by
 rw [qEg]
 constructor
 ·rintro ⟨c, hc⟩
  exact ⟨c, trivial, fun i hi => hc i hi⟩
 ·rintro ⟨v, _, hv⟩
  exact ⟨v, fun i hi => hv i hi⟩
theorem qMc {p : Int} {m n r : Nat} (hp : Pr p) {R : Nat → Vec} (hR : LinT.dim p n (Perp p n (Span p n (rows R m))) + r = n) : LinT.dim p m (Span p m (rows (fun j i => R i j) n)) = r := by
 have h := qD5 hp (qEi p n m R) (qKa p n)
 rw [qHx hp, ← qBi (qJy R)] at h
 have e : LinT.dim p n (qMj All (Ker p m (qCs n R))) = LinT.dim p n (Perp p n (Span p n (rows R m))) := qBi fun v => ⟨fun hv => (qC0 v).1 hv.2, fun hv => ⟨trivial, (qC0 v).2 hv⟩⟩
 omega
def qDb (m n : Nat) (X : List Int) : List (List Int) := (List.range n).map fun j => (List.range m).map fun i => fl n X i j
theorem qDq (m n : Nat) (X : List Int) : (qDb m n X).length = n := by simp [qDb]
theorem qJx {m n : Nat} (X : List Int) {i j : Nat} (hi : i < m) (hj : j < n) : rw' (qDb m n X) j i = fl n X i j := by
 unfold rw' vec qDb
 have h1 : ((List.range n).map fun j => (List.range m).map fun i => fl n X i j).getD j [] = (List.range m).map fun i => fl n X i j := by
  rw [List.getD_eq_getElem?_getD, List.getElem?_map, List.getElem?_range hj]; rfl
 rw [h1, List.getD_eq_getElem?_getD, List.getElem?_map, List.getElem?_range hi]; rfl
theorem qK4 {p m n : Nat} {X : List Int} (hX : X.length = m * n) (hR : Rng p X) : Vs (p : Int) m (qDb m n X) := by
 intro x hx
 obtain ⟨j, hj, rfl⟩ := List.mem_map.1 hx
 have hjn := List.mem_range.1 hj
 refine ⟨by simp, fun y hy => ?_⟩
 obtain ⟨i, hi, rfl⟩ := List.mem_map.1 hy
 have him := List.mem_range.1 hi
 have := qCm him hjn
 exact qB3 hR (by omega)
theorem qCt {p : Int} {n r : Nat} {R R' : Nat → Vec} (h : ∀ i j, i < r → j < n → R i j = R' i j) (v : Vec) : Span p n (rows R r) v ↔ Span p n (rows R' r) v :=
 qDi (fun i hi => ⟨i, hi, fun j hj => by rw [h i j hi hj, Int.sub_self]; exact Int.dvd_zero _⟩) (fun i hi => ⟨i, hi, fun j hj => by rw [h i j hi hj, Int.sub_self]; exact Int.dvd_zero _⟩) v
theorem qG6 {p : Int} {m n : Nat} (X : List Int) (v : Vec) : Span p m ((qDb m n X).map vec) v ↔ Span p m (rows (fun j i => fl n X i j) n) v := by
 rw [← qBr, qDq]
 exact qCt (fun j i hj hi => qJx X hi hj) v
theorem qGj {p : Int} {m n : Nat} (X : List Int) (v : Vec) : Span p n ((unfl n m X).map vec) v ↔ Span p n (rows (fl n X) m) v := by
 rw [← qBr, qCe]
 exact qCt (fun i j hi hj => qFz X hi hj) v
theorem qK3 {p m n : Nat} (hp : isP p = true) {X : List Int} {B : List (List Int)} {q : List Int} (h : Red (p : Int) n (unfl n m X) B q) : LinT.dim (p : Int) m (Span (p : Int) m ((qDb m n X).map vec)) = B.length := by
 rw [qBi (qG6 X)]
 refine qMc (R := fl n X) (qC9 hp) ?_
 have h1 := qKq (qC9 hp) h
 rw [qBi (qCy (qGj X))] at h1
 exact h1
end Go.Proofs.Ytkgajpngeglkmaa.B
set_option linter.unusedVariables false
set_option linter.unusedSimpArgs false
namespace Go.Proofs.Ytkgajpngeglkmaa.B
open Go.RowKit Go.Proofs.YtkgajpngeglkmaaW.PrintWords
open LinT
theorem at_val (p : Int) {m n : Nat} {X : List Int} (hX : X.length = m * n) (hm : m ≤ 1024) (hn : n ≤ 1024) {i j : Nat} (hi : i < m) (hj : j < n) : z136.f p (m : Int) (n : Int) X (i : Int) (j : Int) = some (fl n X i j) := by
 have hb : m * n ≤ 1024 * 1024 := Nat.mul_le_mul hm hn
 have h2 := qCm hi hj
 unfold z136.f
 have e : wrap64 (wrap64 ((i : Int) * (n : Int)) + (j : Int)) = ((i * n + j : Nat) : Int) := by
  rw [← Int.natCast_mul, qAt (x := ((i * n : Nat) : Int)) (by omega) (by omega), qAt (by omega) (by omega)]; omega
 rw [e, if_pos (by omega), if_pos (by omega), qA9]
 rfl
theorem qGk {w : Nat} : ∀ (L : List (List Int)), (∀ x ∈ L, x.length = w) → unfl w L.length L.flatten = L := by
 intro L h
 refine List.ext_getElem (by rw [qCe]) fun i h1 h2 => ?_
 have hi : i < L.length := h2
 show ((List.range L.length).map fun i => (L.flatten.drop (i * w)).take w)[i]'(by simpa using hi) = L[i]
 rw [List.getElem_map, List.getElem_range]
 have main : ∀ (L : List (List Int)), (∀ x ∈ L, x.length = w) → ∀ i (hi : i < L.length), (L.flatten.drop (i * w)).take w = L[i] := by
  intro L
  induction L with
  | nil => intro _ i hi; simp at hi
  | cons a L ih =>
   intro h i hi
   have ha := h a List.mem_cons_self
   cases i with
   | zero => simp [ha]
   | succ i =>
    rw [List.flatten_cons, List.drop_append, List.drop_of_length_le (by rw [ha, Nat.add_mul]; omega), List.nil_append, ha, show (i + 1) * w - w = i * w by rw [Nat.add_mul]; omega]
    exact ih (fun x hx => h x (List.mem_cons_of_mem _ hx)) i (by simpa using hi)
 exact main L h i hi
theorem qG7 {m n : Nat} (X : List Int) (x : List Int) (hx : x ∈ qDb m n X) : x.length = m := by
 obtain ⟨j, _, rfl⟩ := List.mem_map.1 hx
 simp
theorem qGl (p : Int) {m n : Nat} {X : List Int} (hX : X.length = m * n) (hm : m ≤ 1024) (hn : n ≤ 1024) : Ev (fun k => z117.f k p (m : Int) (n : Int) X) (p, (n : Int), (m : Int), (qDb m n X).flatten) := by
 unfold z117.f z169.f
 have hin : ∀ (j : Nat) (S : List Int), j < n → S.length ≤ 1024 * 1024 → Le (fun k => z169.l0 k (m : Int) (n : Int) (wrap64 ((j : Int) + 1)) p (m : Int) (n : Int) X p (n : Int) (m : Int) (S ++ (List.range m).map fun i => fl n X i j)) (fun k => z169.l1 k (m : Int) (j : Int) (n : Int) (j : Int) (m : Int) 0 p (m : Int) (n : Int) X p (n : Int) (m : Int) S) := by
  intro j S hj hS
  have h := qEa (fun (s : List Int) (i : Nat) k => z169.l1 k (m : Int) (j : Int) (n : Int) (j : Int) (m : Int) (i : Int) p (m : Int) (n : Int) X p (n : Int) (m : Int) (S ++ s)) (fun i => fl n X i j) m (fun i s hi hs r hr => by
   have hsl : s.length = i := by rw [hs]; simp
   refine Ev.step (fun k => z169.l1.eq_2 ..) ?_
   refine qAh (by omega) (Ev.bind (a := fl n X i j) ?_ (qAh (by rw [List.length_append]; omega) ?_))
   ·refine qAz ?_
    unfold z135.f
    rw [at_val p hX hm hn hi hj]; rfl
   ·rw [qAw (by omega), List.append_assoc]; exact hr)
  intro r hr
  have h2 := h r (by
   refine Ev.step (fun k => z169.l1.eq_2 ..) ?_
   exact qAs (by omega) hr)
  simpa using h2
 have out : ∀ (d j : Nat), j + d = n → Ev (fun k => z169.l0 k (m : Int) (n : Int) (j : Int) p (m : Int) (n : Int) X p (n : Int) (m : Int) (((List.range j).map fun j => (List.range m).map fun i => fl n X i j).flatten)) (p, (n : Int), (m : Int), (qDb m n X).flatten) := by
  intro d
  induction d with
  | zero =>
   intro j hj
   have : j = n := by omega
   subst this
   refine Ev.step (fun k => z169.l0.eq_2 ..) ?_
   exact qAs (by omega) (Ev.now _)
  | succ d ih =>
   intro j hj
   have h := ih (j + 1) (by omega)
   have hl : (((List.range j).map fun j => (List.range m).map fun i => fl n X i j).flatten).length = j * m := by
    rw [qCd (w := m) _ (fun x hx => by
     obtain ⟨_, _, rfl⟩ := List.mem_map.1 hx
     simp)]
    simp
   have hb : j * m ≤ 1024 * 1024 := Nat.mul_le_mul (by omega) hm
   rw [List.range_succ, List.map_append, List.flatten_append, List.map_cons, List.map_nil, List.flatten_cons, List.flatten_nil, List.append_nil] at h
   refine Ev.step (fun k => z169.l0.eq_2 ..) ?_
   refine qAh (by omega) (hin j _ (by omega) (by omega) _ ?_)
   rw [qAw (by omega)]
   exact h
 have h := out n 0 (by omega)
 exact Ev.bind h (Ev.now _)
theorem qG4 {p m n : Nat} {X : List Int} (hX : X.length = m * n) (hm : m ≤ 1024) (hn : n ≤ 1024) : Ev (fun k => z81.f k (p : Int) (m : Int) (n : Int) X) (qDb m n X) := by
 unfold z81.f
 refine Ev.bind (qGl (p : Int) hX hm hn) (Ev.bind (qGq (p := p) (m := n) (n := m) ?_ hn hm) ?_)
 ·rw [qCd _ (qG7 X), qDq]
 ·refine qBp (Ev.now _) ?_
  have := qGk (qDb m n X) (qG7 X)
  rw [qDq] at this
  exact this
end Go.Proofs.Ytkgajpngeglkmaa.B
set_option linter.unusedVariables false
set_option linter.unusedSimpArgs false
namespace Go.Proofs.Ytkgajpngeglkmaa.B
open Go.RowKit Go.Proofs.YtkgajpngeglkmaaW.PrintWords
open LinT
def mulV (p : Nat) (m n : Nat) (X v : List Int) : List Int := (List.range m).map fun i => sm (fun j => fl n X i j * v.getD j 0) n % (p : Int)
theorem qF1 {f : Nat → Int} {b : Int} : ∀ n, (∀ j, j < n → 0 ≤ f j ∧ f j ≤ b) → 0 ≤ sm f n ∧ sm f n ≤ (n : Int) * b
 | 0, _ => by simp [sm]
 | n + 1, h => by
  have h1 := qF1 n (fun j hj => h j (by omega))
  have h2 := h n (by omega)
  show 0 ≤ sm f n + f n ∧ sm f n + f n ≤ _
  have e : ((n + 1 : Nat) : Int) * b = (n : Int) * b + b := by rw [Int.natCast_add, Int.add_mul]; simp
  rw [e]; omega
theorem qIl {p : Nat} (hp : p ≤ 251) {a b : Int} (ha : 0 ≤ a ∧ a < (p : Int)) (hb : 0 ≤ b ∧ b < (p : Int)) : 0 ≤ a * b ∧ a * b ≤ 62500 :=
 ⟨Int.mul_nonneg ha.1 hb.1, Int.le_trans (Int.mul_le_mul (show a ≤ 250 by omega) (show b ≤ 250 by omega) hb.1 (by decide)) (by decide)⟩
theorem qJ7 {p m n : Nat} (hp0 : 2 ≤ p) (hp : p ≤ 251) {X v : List Int} (hX : X.length = m * n) (hr : Rng p X) (hv : v.length = n) (hvr : Rng p v) (hm : m ≤ 1024) (hn : n ≤ 1024) :
  Ev (fun k => z85.f k (p : Int) (m : Int) (n : Int) X v) (mulV p m n X v) := by
 unfold z85.f
 have hb : m * n ≤ 1024 * 1024 := Nat.mul_le_mul hm hn
 refine qEa (fun s i k => z85.l0 k v s (i : Int) (p : Int) (m : Int) (n : Int) X) (fun i => sm (fun j => fl n X i j * v.getD j 0) n % (p : Int)) m (fun i s hi hs r hr' => ?_) _ ?_
 ·have hsl : s.length = i := by rw [hs]; simp
  have h2 := Nat.mul_le_mul_right n (show i + 1 ≤ m by omega)
  rw [Nat.add_mul, Nat.one_mul] at h2
  have hpr : ∀ j, j < n → 0 ≤ fl n X i j * v.getD j 0 ∧ fl n X i j * v.getD j 0 ≤ 62500 := fun j hj => qIl hp (by unfold fl; exact qB3 hr (by omega)) (qB3 hvr (by omega))
  have main : ∀ (d j : Nat), j + d = n → Ev (fun k => z85.l1 k v s (i : Int) (sm (fun j => fl n X i j * v.getD j 0) j) (j : Int) (p : Int) (m : Int) (n : Int) X) r := by
   intro d
   induction d with
   | zero =>
    intro j hj
    have : j = n := by omega
    subst this
    have hsb := qF1 (b := 62500) j hpr
    refine Ev.step (fun k => z85.l1.eq_2 ..) ?_
    refine qAs (by omega) (qAs (by omega) (qAh (by omega) ?_))
    rw [qB4 hsb.1, qAw (by omega)]; exact hr'
   | succ d ih =>
    intro j hj
    have h := ih (j + 1) (by omega)
    have hsb := qF1 (b := 62500) j (fun t ht => hpr t (by omega))
    have hj2 := hpr j (by omega)
    have e : wrap64 (wrap64 ((i : Int) * (n : Int)) + (j : Int)) = ((i * n + j : Nat) : Int) := by
     rw [← Int.natCast_mul, qAt (x := ((i * n : Nat) : Int)) (by omega) (by omega), qAt (by omega) (by omega)]; omega
    refine Ev.step (fun k => z85.l1.eq_2 ..) ?_
    rw [e, qA9, qA9]
    clear e
    refine qAh (by omega) (qAh (by omega) (qAh (by omega) (qAh (by omega) (qAh (by omega) ?_))))
    rw [qAw (by omega)]
    have e2 : X.getD (i * n + j) 0 * v.getD j 0 = fl n X i j * v.getD j 0 := rfl
    rw [e2, qAt (x := fl n X i j * v.getD j 0) (by omega) (by omega), qAt (by omega) (by omega)]
    exact h
  refine Ev.step (fun k => z85.l0.eq_2 ..) ?_
  exact qAh (by omega) (main n 0 (by omega))
 ·refine Ev.step (fun k => z85.l0.eq_2 ..) ?_
  exact qAs (by omega) (Ev.now _)
end Go.Proofs.Ytkgajpngeglkmaa.B
set_option linter.unusedVariables false
set_option linter.unusedSimpArgs false
namespace Go.Proofs.Ytkgajpngeglkmaa.B
open Go.RowKit Go.Proofs.YtkgajpngeglkmaaW.PrintWords
open LinT
theorem qKr {p m n : Nat} (hp : isP p = true) {X : List Int} (hX : X.length = m * n) (hR : Rng p X) (hm : m ≤ 1000) (hn : n ≤ 1000) {B : List (List Int)} {q : List Int} (h : Red (p : Int) n (unfl n m X) B q) :
  Ev (fun k => z83.f k (p : Int) (m : Int) (n : Int) X) (B.length : Int) := by
 obtain ⟨Y, q', det, hE, hst⟩ := qI8 hp (w := n) (m := m) (X := X) (by omega) (by omega) hX hR (L := unfl n m X) (qCe _ _ _) (fun i j hi hj => qFz X hi hj)
 have hst' : FlInv (p : Int) n (unfl n m X).length (unfl n m X) n Y q' := by rw [qCe]; exact hst
 have e := hst'.red.unique (qC9 hp) h (fun v => Iff.rfl)
 have h1 := h.len
 rw [← e.2] at h1
 unfold z83.f
 exact Ev.bind hE (qBp (Ev.now _) (by dsimp only; rw [h1]))
theorem qIb {p : Int} {n : Nat} : ∀ {L : List Vec} {x : Vec}, qFc p n L → x ∈ L → ¬ Zr p n x
 | y :: L, x, h, hx, hz => by
  rcases List.mem_cons.1 hx with e | e
  ·subst e; exact h.1 ((qA8 p n L).zero _ hz)
  ·exact qIb h.2 e hz
theorem qGi (l : List Int) (hl : l.length ≤ 1048576) : Ev (fun k => z35.f k l) (l.all fun a => a == 0) := by
 unfold z35.f
 refine qEx l 0 (fun (i : Nat) k => z35.l0 k l (i : Int)) (fun a => a == 0) (fun j hj hp r hr => ?_) (fun j hj hp => ?_) ?_
 ·refine Ev.step (fun k => z35.l0.eq_2 ..) ?_
  rw [qA9]
  refine qAh (by omega) (qAh (by omega) (qAh (eq_of_beq hp) ?_))
  rw [qAw (by omega)]; exact hr
 ·refine Ev.step (fun k => z35.l0.eq_2 ..) ?_
  rw [qA9]
  exact qAh (by omega) (qAh (by omega) (qAs (ne_of_beq_false hp) (Ev.now _)))
 ·refine Ev.step (fun k => z35.l0.eq_2 ..) ?_
  exact qAs (by omega) (Ev.now _)
theorem qK8 {l : List Int} (hl : Byt l) {p : Nat} (hp : 2 ≤ p) (hp2 : p ≤ 251) {k : Nat} (hk : k ≤ 1000) : ∃ v : Int, z36.f l (k : Int) (p : Int) = some v ∧ 0 ≤ v ∧ v < (p : Int) := by
 unfold z36.f
 rw [if_neg (by omega)]
 by_cases h : (k : Int) < (l.length : Int)
 ·rw [if_pos h, if_pos (by omega), if_neg (by omega)]
  obtain ⟨b0, b1⟩ := hl _ (qBe (i := k) 0 (show k < l.length by omega))
  rw [qA9, qAt (by omega) (by omega)]
  exact ⟨_, rfl, Int.tmod_nonneg _ b0, Int.tmod_lt_of_pos _ (by omega)⟩
 ·rw [if_neg h, if_neg (by omega), qAt (x := (k : Int) * 37) (by omega) (by omega), qAt (by omega) (by omega)]
  exact ⟨_, rfl, Int.tmod_nonneg _ (by omega), Int.tmod_lt_of_pos _ (by omega)⟩
theorem qEd (p m n : Nat) (X v : List Int) : (mulV p m n X v).length = m := by simp [mulV]
theorem qH7 {p : Nat} (hp : 2 ≤ p) (m n : Nat) (X v : List Int) : Rng p (mulV p m n X v) := fun y hy => by
 obtain ⟨i, _, rfl⟩ := List.mem_map.1 hy
 exact ⟨Int.emod_nonneg _ (by omega), Int.emod_lt_of_pos _ (by omega)⟩
theorem qE8 {l0 l1 : List Int} (h0 : WfB l0) (h1 : WfB l1) : ∃ k, z6.f k l0 l1 = some true := by
 refine Ev.rounds (g := fun k => z6.f k l0 l1) ?_
 unfold z6.f
 have hb0 : Byt l0 := h0.2
 have hb1 : Byt l1 := h1.2
 have hend : Ev (fun k => z6.j0 k l0 l1 true) true := by
  refine Ev.step (fun k => z6.j0.eq_2 ..) ?_
  exact qAh rfl (Ev.now _)
 refine Ev.bind (a := decide ((l0.length : Int) > 1048576)) (qAz rfl) ?_
 by_cases c0 : (l0.length : Int) > 1048576
 ·rw [decide_eq_true c0]
  exact qAh rfl hend
 rw [decide_eq_false c0]
 refine qAs (by decide) (Ev.bind (a := decide ((l1.length : Int) > 1048576)) (qAz rfl) ?_)
 by_cases c1 : (l1.length : Int) > 1048576
 ·rw [decide_eq_true c1]
  exact hend
 rw [decide_eq_false c1]
 obtain ⟨p, r, c, X, a', z', hd, hXl, _, _⟩ := qMe hb0 0 0 (by decide) (by decide)
 have hdraw : Ev (fun k => z30.f k l0) (p, r, c, X) := by
  unfold z30.f
  exact Ev.bind (qAz (r := (l0, 0, 0)) rfl) (Ev.bind hd (Ev.now _))
 refine Ev.step (fun k => z6.j0.eq_2 ..) ?_
 refine qAs (by decide) (Ev.bind hdraw ?_)
 dsimp only
 rcases matV p r c (X := X) (by omega) with ⟨i1, s1, q, m, n, rfl, rfl, rfl, hq, hm, hn, hX, hR⟩ | ⟨i1, s1⟩
 ·have h2 := qBo hq
  obtain ⟨B, t, red, k1⟩ := qIo hq hX hR (by omega) (by omega)
  obtain ⟨e1, e2, e3⟩ := qIp hq red
  have hK := qL2 h2.1 B t (n := n)
  generalize hKe : kerC q n B t = K at k1 e1 e2 e3 hK
  have hBl := (red.len_le (qC9 hq)).1
  have hcl := qG4 (p := q) hX (by omega) (by omega)
  obtain ⟨sp, qs, sr⟩ := qDw hq (n := m) (by omega) (L := qDb m n X) (by rw [qDq]; omega) (qK4 hX hR)
  have hSl : (redB (q : Int) m (qDb m n X)).length = B.length := by
   rw [← sr.dim (qC9 hq)]
   exact qK3 hq red
  have hSm := (sr.len_le (qC9 hq)).1
  generalize hSe : redB (q : Int) m (qDb m n X) = S at sp sr hSl hSm
  have hself : redB (q : Int) m S = S := qHn (qC9 hq) sr.self
  have hok : okS (q : Int) (m : Int) S = true := by
   unfold okS
   rw [qF3.2 ⟨q, rfl, hq⟩, Int.toNat_natCast, hself, decide_eq_true (show (0 : Int) ≤ (m : Int) by omega), decide_eq_true (show (m : Int) ≤ 32 by omega), qIg.2 sr.vs]
   simp
  have hSr : ∀ x ∈ S, x.length ≤ 1048576 := fun x hx => by rw [(sr.vs x hx).1]; omega
  have hkern : Ev (fun k => z31.f k (q : Int) (m : Int) (n : Int) X) (K, 0) := by
   unfold z31.f
   exact Ev.bind i1 (qAh rfl (Ev.bind k1 (Ev.now _)))
  have hcols : Ev (fun k => z32.f k (q : Int) (m : Int) (n : Int) X) ((q : Int), (m : Int), S, 0) := by
   unfold z32.f
   exact Ev.bind i1 (qAh rfl (Ev.bind hcl (Ev.bind sp (Ev.now _))))
  have hrank : Ev (fun k => z33.f k (q : Int) (m : Int) (n : Int) X) ((B.length : Int), 0) := by
   unfold z33.f
   exact Ev.bind s1 (qAh rfl (Ev.bind (qKr hq hX hR (by omega) (by omega) red) (Ev.now _)))
  have hvalid : Ev (fun k => z29.f k (q : Int) (m : Int) S) true := by
   unfold z29.f
   exact Ev.bind (qBp (okS_ev (by omega) hSr (q : Int) (m : Int)) hok) (Ev.now _)
  have happly : ∀ x : List Int, x.length = n → Rng q x → Ev (fun k => z34.f k (q : Int) (m : Int) (n : Int) X x) (mulV q m n X x, 0) := fun x hx hxr => by
   unfold z34.f
   refine Ev.bind s1 (qAh rfl (Ev.bind (qBp (qG5 h2.2 x (n : Int) (by omega)) (qDe.2 ⟨hx, hxr⟩)) (qAh rfl (Ev.bind (qJ7 h2.1 h2.2 hX hR hx hxr (by omega) (by omega)) (Ev.now _)))))
  refine Ev.bind hkern (Ev.bind hcols (qAh rfl (Ev.bind hrank (qAh rfl (qAh rfl (qAh ?_ (Ev.bind hvalid (qAh rfl (qAh ?_ ?_)))))))))
  ·dsimp only
   rw [qAt (by omega) (by omega)]; omega
  ·dsimp only
   rw [hSl]
  dsimp only
  have hj : ((m : Int) != (m : Int)) = false := by simp
  rw [hj]
  refine Ev.step (fun k => z6.j1.eq_2 ..) ?_
  refine qAs (by decide) ?_
  -- a vector that some bytes choose
  have last : ∀ x : List Int, x.length = n → Rng q x → Ev (fun k => (z34.f k (q : Int) (m : Int) (n : Int) X x).bind fun bt139 => if bt139.2 = 0 then (z22.f k (q : Int) (m : Int) S bt139.1).bind fun t143 => some t143 else some false) true := fun x hx hxr => by
   refine Ev.bind (happly x hx hxr) (qAh rfl (Ev.bind (a := true) ?_ (Ev.now _)))
   unfold z22.f
   refine Ev.bind (qBp (qFy (by omega) hSr (q : Int) (m : Int)) hok) (qAh rfl (Ev.bind (qBp (qEt h2.2 (mulV q m n X x) (m : Int) (by rw [qEd]; omega)) (qDe.2 ⟨qEd q m n X x, qH7 h2.1 m n X x⟩)) (qAh rfl (Ev.bind (qG2 hq (by omega) sr (by omega) (qEd q m n X x) (qH7 h2.1 m n X x)) (qBp (Ev.now _) ?_)))))
   rw [qIc, sr.span, qG6 X]
   refine (qJy (p := (q : Int)) (m := m) (n := n) (fl n X) _).2 ⟨vec x, trivial, fun i hi => ?_⟩
   have e : vec (mulV q m n X x) i = sm (fun j => fl n X i j * x.getD j 0) n % (q : Int) := by
    show (mulV q m n X x).getD i 0 = _
    unfold mulV
    rw [List.getD_eq_getElem?_getD, List.getElem?_map, List.getElem?_range hi]; rfl
   have e' : qCs n (fl n X) (vec x) i = sm (fun j => fl n X i j * x.getD j 0) n := qCw n (vec x) (fl n X i)
   rw [e, e']
   generalize sm (fun j => fl n X i j * x.getD j 0) n = a
   refine ⟨-(a / (q : Int)), ?_⟩
   rw [Int.emod_def]
   grind
  have hl1 : ∀ (d k : Nat) (x : List Int), k + d = n → x.length = k → Rng q x → Ev (fun t => z6.l1 t l1 x (k : Int) (q : Int) (m : Int) (n : Int) X (q : Int) (m : Int) S) true := by
   intro d
   induction d with
   | zero =>
    intro k x hk hx hxr
    refine Ev.step (fun k => z6.l1.eq_2 ..) ?_
    exact qAs (by omega) (last x (by omega) hxr)
   | succ d ih =>
    intro k x hk hx hxr
    obtain ⟨v, hv, v0, v1⟩ := qK8 hb1 h2.1 h2.2 (k := k) (by omega)
    refine Ev.step (fun k => z6.l1.eq_2 ..) ?_
    rw [qAw (by omega)]
    refine qAh (by omega) (Ev.bind (qAz hv) (qAh (by omega) (ih (k + 1) (x ++ [v]) (by omega) (by simp; omega) (fun y hy => ?_))))
    rcases List.mem_append.1 hy with h | h
    ·exact hxr y h
    ·rw [List.mem_singleton.1 h]; exact ⟨v0, v1⟩
  -- all vectors of the kernel lead to 0
  have hl0 : ∀ (d i : Nat), i + d = K.length → Ev (fun t => z6.l0 t l1 K (i : Int) (q : Int) (m : Int) (n : Int) X (q : Int) (m : Int) S) true := by
   intro d
   induction d with
   | zero =>
    intro i hi
    refine Ev.step (fun k => z6.l0.eq_2 ..) ?_
    exact qAs (by omega) (hl1 n 0 [] (by omega) rfl (fun y hy => absurd hy List.not_mem_nil))
   | succ d ih =>
    intro i hi
    have hmem := qBe ([] : List Int) (show i < K.length by omega)
    obtain ⟨x1, x2⟩ := hK _ hmem
    generalize hxe : K.getD i [] = x at hmem x1 x2
    have hz : ((mulV q m n X x).all fun a => a == 0) = true := by
     rw [List.all_eq_true]
     intro y hy
     obtain ⟨j, hj, rfl⟩ := List.mem_map.1 hy
     have hj := List.mem_range.1 hj
     have hperp := (e3 (vec x)).1 (qBg (List.mem_map_of_mem hmem))
     rw [qCy (qGj X), qEl] at hperp
     have := hperp _ (qBk (R := fl n X) hj)
     rw [qCw] at this
     have h9 : sm (fun t => fl n X j t * x.getD t 0) n % (q : Int) = 0 := Int.emod_eq_zero_of_dvd this
     rw [h9]; rfl
    have hnz : (x.all fun a => a == 0) = false := by
     rw [Bool.eq_false_iff]
     intro h
     refine qIb e2 (List.mem_map_of_mem hmem) (fun j hj => ?_)
     rw [List.all_eq_true] at h
     have : vec x j = 0 := by
      have := h _ (qBe (0 : Int) (show j < x.length by omega))
      exact eq_of_beq this
     rw [this]; exact Int.dvd_zero _
    have z1 := qGi (mulV q m n X x) (by rw [qEd]; omega)
    have z2 := qGi x (by omega)
    rw [hz] at z1
    rw [hnz] at z2
    have next := ih (i + 1) (by omega)
    refine Ev.step (fun k => z6.l0.eq_2 ..) ?_
    rw [qBc, hxe, qAw (by omega)]
    exact qAh (by omega) (qAh (by omega) (Ev.bind (happly x x1 x2) (qAh rfl (Ev.bind z1 (qAh rfl (Ev.bind z2 (qAs (by decide) next)))))))
  exact hl0 K.length 0 (by omega)
 ·refine Ev.bind (a := (([] : List (List Int)), 1)) ?_ (Ev.bind (a := (0, 0, ([] : List (List Int)), 1)) ?_ (qAs (by decide) (qAh rfl (Ev.now _))))
  ·unfold z31.f
   exact Ev.bind i1 (qAs (by decide) (Ev.now _))
  ·unfold z32.f
   exact Ev.bind i1 (qAs (by decide) (Ev.now _))
end Go.Proofs.Ytkgajpngeglkmaa.B
