/- What the functions come to, for the law FnExactHeightOf. -/
import Derived.Test.YtnohkeijhfjbeaaKANNLMG0
import Derived.Test.YtnohkeijhfjbeaaKAOCFAE0
import Derived.Test.YtnohkeijhfjbeaaKCOICNJ0
import Derived.Test.YtnohkeijhfjbeaaKCOJMAA0
import Derived.Test.YtnohkeijhfjbeaaKCPMJHE0
import Derived.Test.YtnohkeijhfjbeaaKDHKDMB0
import Derived.Test.YtnohkeijhfjbeaaKECLLPD0
import Derived.Test.YtnohkeijhfjbeaaKEEAMGF0
import Derived.Test.YtnohkeijhfjbeaaKFBDDKI0
import Derived.Test.YtnohkeijhfjbeaaKGPBBGI0
import Derived.Test.YtnohkeijhfjbeaaKIGNEMA0
import Derived.Test.YtnohkeijhfjbeaaKILNFOB0
import Derived.Test.YtnohkeijhfjbeaaKJACNBM0
import Derived.Test.YtnohkeijhfjbeaaKKDGBDD0
import Derived.Test.YtnohkeijhfjbeaaKKNFIBK0
import Derived.Test.YtnohkeijhfjbeaaKMDIKOF0
import Derived.Test.YtnohkeijhfjbeaaKNHICON0
import Derived.Test.YtnohkeijhfjbeaaKNMDHOC0
import Derived.Test.YtnohkeijhfjbeaaKOBNFMB0
import Derived.Test.YtnohkeijhfjbeaaKOJFGHC0
import Derived.Test.YtnohkeijhfjbeaaKOPOHAO0
import Derived.Test.YtnohkeijhfjbeaaKW0
import Derived.Below
import Derived.ChangeOld
import Derived.Deep.Matrix
import Derived.Lib.SmallJoins
import Derived.OpenShut
import Derived.ProofKit
import Derived.ShutString
import Derived.SizedLaws
import Derived.WalkKit
set_option linter.unusedVariables false
set_option linter.unusedSimpArgs false
namespace Go.Proofs.Ytnohkeijhfjbeaa.B
open Go.RowKit Go.ChangeShapes Go.WideShapes Go.Deep Go.Proofs.YtnohkeijhfjbeaaW.PrintWords

def Wf (n : Int) : Prop := -9223372036854775808 ≤ n ∧ n ≤ 9223372036854775807
def WfL (l : List Int) : Prop := l.length ≤ 9223372036854775807 ∧ ∀ n ∈ l, Wf n
def WfLL (l : List (List Int)) : Prop := l.length ≤ 9223372036854775807 ∧ ∀ r ∈ l, WfL r
theorem wf_of {n : Int} (h : (Lit.int .i64 n).wf = true) : Wf n := by
 unfold Wf
 simp [Lit.wf, IntKind.min, IntKind.max, IntKind.bits, IntKind.signed] at h
 omega

section
variable {H : Type} {enc : TypeId × Value → H} {P : Program} {w : World} {base : Nat} {held : Bool} {fuel : Nat}
theorem opened_int {t : TypeId} {v : Value} {x : DataW H × List MemPlace} (ht : P.underlying t = some (.int .i64)) (h : DataW.trod enc P w base (fun _ => true) held fuel t [v] = some x) : ∃ n, v = .int .i64 n ∧ Wf n := by
 obtain ⟨n, he, _, hw⟩ := DataW.trod_int ht h
 exact ⟨n, by simpa using he, wf_of hw⟩
theorem opened_ints {t e : TypeId} {v : Value} {x : DataW H × List MemPlace} (ht : P.underlying t = some (.slice e)) (he : P.underlying e = some (.int .i64)) (hc : P.cellsOf e = 1) (h : DataW.trod enc P w base (fun _ => true) held fuel t [v] = some x) :
  ∃ A l c, v = .slice A l.length c ∧ (Kd.int .i64).C w A l.length l ∧ l.length ≤ c ∧ WfL l := by
 rcases open_ints ht he hc h with ⟨hcs, _⟩ | ⟨a, l, c, zs, hcs, _, hl, hm, hz, _, hcell, hwz⟩
 ·refine ⟨none, [], 0, by simpa using hcs, ⟨rfl, by simp, fun h => by simp at h⟩, by simp, by simp [WfL]⟩
 ·simp only [if_true] at hz
  have hlen : (zs.take l).length = l := by rw [List.length_take]; omega
  refine ⟨some a, zs.take l, c, by rw [hlen]; simpa using hcs, ⟨rfl, by rw [hlen]; simp only [maxLen] at hm; omega, fun _ => ⟨a, rfl, fun j p hj => ?_⟩⟩, by omega, ?_, fun n hn => wf_of (hwz n (List.mem_of_mem_take hn))⟩
  ·have hjl : j < l := by have := (List.getElem?_eq_some_iff.1 hj).1; omega
   refine ⟨[.int .i64 p], rfl, rfl, fun i u hu => ?_⟩
   cases i with
   | zero =>
    simp only [List.getElem?_cons_zero, Option.some.injEq] at hu
    subst hu
    rw [Nat.add_zero, show j * (Kd.int .i64).sz = j from Nat.mul_one j, hcell j (by omega)]
    rw [List.getElem?_take, if_pos hjl] at hj
    rw [List.getD_eq_getElem?_getD, hj]; rfl
   | succ i => simp at hu
  ·rw [hlen]; simp only [maxLen] at hm; omega
theorem opened_rows {t e q : TypeId} {v : Value} {x : DataW H × List MemPlace} (ht : P.underlying t = some (.slice e)) (he : P.underlying e = some (.slice q)) (hq : P.underlying q = some (.int .i64)) (ce : P.cellsOf e = 1) (cq : P.cellsOf q = 1) (h : DataW.trod enc P w base (fun _ => true) held fuel t [v] = some x) :
  ∃ A l c, v = .slice A l.length c ∧ (Kd.slice 2 (Kd.int .i64)).C w A l.length l ∧ l.length ≤ c ∧ WfLL l := by
 rcases open_slice1 ht ce h with ⟨hcs, _⟩ | ⟨a, l, c, m, n, V, D, Pl, hcs, _, hl, hm, hmm, _, hx⟩
 ·refine ⟨none, [], 0, by simpa using hcs, ⟨rfl, by simp, fun h => by simp at h⟩, by simp, by simp [WfLL]⟩
 ·simp only [if_true] at hmm
  subst hmm
  have each : ∀ r, r < m → ∃ y : Option Addr × List Int × Nat, V r = .slice y.1 y.2.1.length y.2.2 ∧ (Kd.int .i64).C w y.1 y.2.1.length y.2.1 ∧ y.2.1.length ≤ y.2.2 ∧ WfL y.2.1 := by
   intro r hr
   obtain ⟨A, l, c, h1, h2, h3, h4⟩ := opened_ints he hq cq (hx r hr).2
   exact ⟨(A, l, c), h1, h2, h3, h4⟩
  obtain ⟨y, hy⟩ := choose_lt each
  have hlen : ((List.range l).map fun r => (y r).2.1).length = l := by simp
  refine ⟨some a, (List.range l).map fun r => (y r).2.1, m, by rw [hlen]; simpa using hcs, ⟨rfl, by rw [hlen]; simp only [maxLen] at hm; omega, fun _ => ⟨a, rfl, fun j p hj => ?_⟩⟩, by omega, ?_, ?_⟩
  ·have hjl : j < l := by have := (List.getElem?_eq_some_iff.1 hj).1; omega
   rw [List.getElem?_map, List.getElem?_range hjl] at hj
   simp only [Option.map_some, Option.some.injEq] at hj
   subst hj
   obtain ⟨h1, h2, h3, h4⟩ := hy j (by omega)
   refine ⟨[.slice (y j).1 (y j).2.1.length (y j).2.2], rfl, ⟨_, _, rfl, h3, h2⟩, fun i u hu => ?_⟩
   cases i with
   | zero =>
    simp only [List.getElem?_cons_zero, Option.some.injEq] at hu
    subst hu
    rw [Nat.add_zero, show j * (Kd.slice 2 (Kd.int .i64)).sz = j from Nat.mul_one j, (hx j (by omega)).1, h1]
   | succ i => simp at hu
  ·rw [hlen]; simp only [maxLen] at hm; omega
  ·intro r hr
   simp only [List.mem_map, List.mem_range] at hr
   obtain ⟨j, hj, rfl⟩ := hr
   exact (hy j (by omega)).2.2.2

theorem open_agg1 {r : Reach} {b0 : Nat} {t : TypeId} {f0 : Field} {v : Value} {d : DataW H} {p : List MemPlace} (hs : P.underlying t = some (.struct #[f0])) (hone : oneCellFields P #[f0] = true) (hC : P.cellsOf t = 1)
  (hv : Value.okWide P w r b0 t v) (h : DataW.Trod enc P w base (fun _ => true) held t v d p) :
  ∃ (v0 : Value) (y0 : DataW H × List MemPlace) (n : Nat), v = .agg #[v0] ∧ DataW.trod enc P w base (fun _ => true) held n f0.type [v0] = some y0 := by
 obtain ⟨cs, rfl, hsz⟩ := okWide_struct hs hv
 obtain ⟨c0, rfl⟩ : ∃ c0, cs = #[c0] := by
  have h1 : cs.size = 1 := hsz.trans hC
  match cs, h1 with | ⟨[c0]⟩, _ => exact ⟨c0, rfl⟩
 obtain ⟨fuel, hf⟩ := h
 obtain ⟨y0, n, hx, _, h0⟩ := trod_struct1 hs hf
 obtain ⟨o0, k0⟩ := hone_of hone 0 f0 rfl
 exact ⟨c0, y0, n, rfl, by simpa [Value.cells, o0, k0] using h0⟩
end
theorem own : ownKnob Try.prog.godebug = none := by kernel_rfl
theorem laidOut : laidOutB Try.prog = true := by kernel_rfl
end Go.Proofs.Ytnohkeijhfjbeaa.B

set_option linter.unusedVariables false
set_option linter.unusedSimpArgs false
namespace Go.Proofs.Ytnohkeijhfjbeaa.B
open Go.RowKit Go.Proofs.YtnohkeijhfjbeaaW.PrintWords

def row (n : Nat) (f : Nat → Bool) : List Bool := (List.range n).map f
def tab (n : Nat) (R : Nat → Nat → Bool) : List (List Bool) := (List.range n).map fun a => row n (R a)
def upd (R : Nat → Nat → Bool) (a c : Nat) (v : Bool) : Nat → Nat → Bool := fun a' c' => if a' = a ∧ c' = c then v else R a' c'
theorem row_length (n : Nat) (f : Nat → Bool) : (row n f).length = n := by simp [row]
theorem tab_length (n : Nat) (R : Nat → Nat → Bool) : (tab n R).length = n := by simp [tab]
theorem row_get {n : Nat} {f : Nat → Bool} {j : Nat} (h : j < n) : rdOf false (row n f) (j : Int) = f j := by
 rw [rdOf_nat, row, List.getD_eq_getElem?_getD, List.getElem?_map, List.getElem?_range h]; rfl
theorem tab_get {n : Nat} {R : Nat → Nat → Bool} {i : Nat} (h : i < n) : rd_ListBool (tab n R) (i : Int) = row n (R i) := by
 simp [rd_ListBool, tab, List.getElem?_range h, h]
theorem row_set {n : Nat} {f : Nat → Bool} {c : Nat} (v : Bool) : (row n f).set c v = row n (fun c' => if c' = c then v else f c') := by
 apply List.ext_getElem (by simp [row])
 intro i h1 h2
 simp only [row, List.getElem_set, List.getElem_map, List.getElem_range]
 by_cases h : i = c
 ·simp [h]
 ·simp [h, Ne.symm h]
theorem tab_set {n : Nat} {R : Nat → Nat → Bool} {a c : Nat} (v : Bool) : (tab n R).set a ((row n (R a)).set c v) = tab n (upd R a c v) := by
 apply List.ext_getElem (by simp [tab])
 intro i h1 h2
 simp only [tab, List.getElem_set, List.getElem_map, List.getElem_range, row_set]
 by_cases h : a = i
 ·subst h
  simp only [↓reduceIte]
  congr 1
  funext c'
  simp [upd]
 ·have h' : ¬ i = a := fun e => h e.symm
  simp only [if_neg h]
  congr 1
  funext c'
  simp [upd, h']
theorem upd_self (R : Nat → Nat → Bool) (a c : Nat) (v : Bool) (h : v = R a c) : upd R a c v = R := by
 funext a' c'
 simp only [upd]
 split
 ·rename_i e; obtain ⟨rfl, rfl⟩ := e; exact h
 ·rfl

def diag (a b : Nat) : Bool := a == b
def pairsRel (pairs : List (List Int)) (R : Nat → Nat → Bool) : Nat → Nat → Bool := iter (fun i R => upd R ((pairs.getD i []).getD 0 0).toNat ((pairs.getD i []).getD 1 0).toNat true) 0 pairs.length R
def wCell (x a c : Nat) (R : Nat → Nat → Bool) : Nat → Nat → Bool := upd R a c (R a c || R a x && R x c)
def wRow (n x a : Nat) (R : Nat → Nat → Bool) : Nat → Nat → Bool := iter (wCell x a) 0 n R
def wRound (n x : Nat) (R : Nat → Nat → Bool) : Nat → Nat → Bool := iter (wRow n x) 0 n R
def warshall (n : Nat) (R : Nat → Nat → Bool) : Nat → Nat → Bool := iter (wRound n) 0 n R
def orderOf (n : Nat) (pairs : List (List Int)) : Nat → Nat → Bool := warshall n (pairsRel pairs diag)
def elem (a n : Int) : Bool := decide (0 ≤ a) && decide (a ≤ wrap64 (n - 1))
def isPair (n : Int) (p : List Int) : Bool := p.length == 2 && (elem (p.getD 0 0) n && elem (p.getD 1 0) n)
def isOrd (n : Nat) (R : Nat → Nat → Bool) : Bool := (List.range n).all fun x => (List.range x).all fun y => !(R x y && R y x)
def between (n : Nat) (R : Nat → Nat → Bool) (x y : Nat) : Bool := (List.range n).any fun z => !(z == x) && (!(z == y) && (R x z && R z y))
def covers (n : Nat) (R : Nat → Nat → Bool) (x y : Nat) : Bool := !(x == y) && (R x y && !between n R x y)
def coverRow (n : Nat) (R : Nat → Nat → Bool) (x : Nat) (s : List (List Int)) : List (List Int) := iter (fun y s => if covers n R x y then s ++ [[(x : Int), (y : Int)]] else s) 0 n s
def coversOf (n : Nat) (R : Nat → Nat → Bool) : List (List Int) := iter (coverRow n R) 0 n []
theorem coversOf_length (n : Nat) (R : Nat → Nat → Bool) : (coversOf n R).length ≤ n * n := by
 have hrow : ∀ x s, (coverRow n R x s).length ≤ s.length + n := fun x s => by
  have := iter_inv (fun y s => if covers n R x y then s ++ [[(x : Int), (y : Int)]] else s) (fun i (t : List (List Int)) => t.length ≤ s.length + i) n 0 s (by omega) (fun j t _ _ h => by
   split
   ·simp only [List.length_append, List.length_singleton]; omega
   ·omega)
  simpa [coverRow] using this
 have := iter_inv (coverRow n R) (fun i (t : List (List Int)) => t.length ≤ i * n) n 0 [] (by simp) (fun j t _ _ h => by
  have := hrow j t
  rw [Nat.add_mul, Nat.one_mul]; omega)
 simpa [coversOf] using this
theorem iter_or (p : Nat → Bool) : ∀ (d i : Nat) (b : Bool), iter (fun j b => b || p j) i d b = (b || (List.range' i d).any p)
 | 0, i, b => by simp [iter]
 | d + 1, i, b => by
  simp only [iter]
  rw [iter_or p d (i + 1)]
  simp [List.range'_succ, Bool.or_assoc]
theorem iter_or_any (p : Nat → Bool) (n : Nat) : iter (fun j b => b || p j) 0 n false = (List.range n).any p := by
 rw [iter_or, Bool.false_or, List.range_eq_range']
theorem iter_and (p : Nat → Bool) : ∀ (d i : Nat) (b : Bool), iter (fun j b => b && p j) i d b = (b && (List.range' i d).all p)
 | 0, i, b => by simp [iter]
 | d + 1, i, b => by
  simp only [iter]
  rw [iter_and p d (i + 1)]
  simp [List.range'_succ, Bool.and_assoc]
theorem iter_and_all (p : Nat → Bool) (n : Nat) : iter (fun j b => b && p j) 0 n true = (List.range n).all p := by
 rw [iter_and, Bool.true_and, List.range_eq_range']
def pick (p : Nat → Bool) (n : Nat) : List Int := iter (fun x s => if p x = true then s ++ [(x : Int)] else s) 0 n []
theorem pick_step_le (p : Nat → Bool) (n i : Nat) (s : List Int) : (iter (fun x s => if p x = true then s ++ [(x : Int)] else s) i n s).length ≤ s.length + n := by
 have := iter_inv (fun x s => if p x = true then s ++ [(x : Int)] else s) (fun j (t : List Int) => t.length + i ≤ s.length + j) n i s (by omega) (fun j t _ _ h => by
  split
  ·simp only [List.length_append, List.length_singleton]; omega
  ·omega)
 omega
theorem pick_le (p : Nat → Bool) (n : Nat) : (pick p n).length ≤ n := by
 have := pick_step_le p n 0 []
 simpa [pick] using this
end Go.Proofs.Ytnohkeijhfjbeaa.B

set_option linter.unusedVariables false
set_option linter.unusedSimpArgs false
namespace Go.Proofs.Ytnohkeijhfjbeaa.B
open Go.RowKit Go.Proofs.YtnohkeijhfjbeaaW.PrintWords

theorem within_val (a b c : Int) : impl_within.f a b c = some (decide (b ≤ a) && decide (a ≤ c)) := by
 unfold impl_within.f
 by_cases h : a ≥ b
 ·rw [if_pos h]; simp [h]
 ·rw [if_neg h]; simp; omega
theorem in_val (a b c : Int) : spec_l00In.f a b c = some (decide (b ≤ a) && decide (a ≤ c)) := by
 unfold spec_l00In.f
 by_cases h : a ≥ b
 ·rw [if_pos h]; simp [h]
 ·rw [if_neg h]; simp; omega

def Pairs (n : Nat) (pairs : List (List Int)) : Prop := ∀ p ∈ pairs, p.length = 2 ∧ 0 ≤ p.getD 0 0 ∧ p.getD 0 0 < n ∧ 0 ≤ p.getD 1 0 ∧ p.getD 1 0 < n
theorem getD_mem {α : Type} {l : List α} {i : Nat} (z : α) (h : i < l.length) : l.getD i z ∈ l := by
 rw [List.getD_eq_getElem?_getD, List.getElem?_eq_getElem h]; exact List.getElem_mem h

section
variable {n : Nat} {pairs : List (List Int)}
theorem rdl_nat (l : List (List Int)) (i : Nat) : rd_ListInt l (i : Int) = l.getD i [] := by simp [rd_ListInt]

theorem belowOf_cells (hn : n ≤ 12) (x a : Nat) (hx : x < n) (ha : a < n) (m : Nat) (hm : m = n) (R : Nat → Nat → Bool) : Le (fun k => impl_belowOf.l3 k (tab n (wRow n x a R)) (x : Int) (n : Int) (x : Int) (n : Int) ((a + 1 : Nat) : Int)) (fun k => impl_belowOf.l4 k (tab n R) (x : Int) (a : Int) (n : Int) (x : Int) (n : Int) (a : Int) (n : Int) ((0 : Nat) : Int)) := by
 have h := le_iter (fun (R : Nat → Nat → Bool) (c : Nat) k => impl_belowOf.l4 k (tab n R) (x : Int) (a : Int) (n : Int) (x : Int) (n : Int) (a : Int) (n : Int) (c : Int)) (wCell x a) n 0 R (fun c R _ hc r hr => by
  have hc : c < n := by omega
  refine Ev.step (fun k => impl_belowOf.l4.eq_2 ..) ?_
  simp only [tab_length, tab_get ha, tab_get hx, row_length, row_get hc, row_get hx, Int.toNat_natCast, wrap_succ (show c < 9223372036854775807 by omega)]
  (repeat (first | refine ev_pos (by omega) ?_ | refine ev_neg (by omega) ?_))
  have hs := fun v => tab_set (n := n) (R := R) (a := a) (c := c) v
  simp only [hs]
  by_cases h1 : R a c = true
  ·refine ev_pos h1 ?_
   have : wCell x a c R = upd R a c true := by simp [wCell, h1]
   rw [this] at hr; exact hr
  ·refine ev_neg h1 ?_
   (repeat (first | refine ev_pos (by omega) ?_ | refine ev_neg (by omega) ?_))
   by_cases h2 : R a x = true
   ·refine ev_pos h2 ?_
    (repeat (first | refine ev_pos (by omega) ?_ | refine ev_neg (by omega) ?_))
    have : wCell x a c R = upd R a c (R x c) := by simp [wCell, h1, h2]
    rw [this] at hr; exact hr
   ·refine ev_neg h2 ?_
    have : wCell x a c R = upd R a c false := by simp [wCell, h1, h2]
    rw [this] at hr; exact hr)
 refine Le.trans (fun r hr => ?_) h
 rw [Nat.zero_add]
 refine Ev.step (fun k => impl_belowOf.l4.eq_2 ..) ?_
 rw [wrap_succ (show a < 9223372036854775807 by omega)]
 exact ev_neg (by omega) hr
theorem belowOf_round (hn : n ≤ 12) (x : Nat) (hx : x < n) (R : Nat → Nat → Bool) : Le (fun k => impl_belowOf.l2 k (tab n (wRound n x R)) (n : Int) ((x + 1 : Nat) : Int)) (fun k => impl_belowOf.l3 k (tab n R) (x : Int) (n : Int) (x : Int) (n : Int) ((0 : Nat) : Int)) := by
 have h := le_iter (fun (R : Nat → Nat → Bool) (a : Nat) k => impl_belowOf.l3 k (tab n R) (x : Int) (n : Int) (x : Int) (n : Int) (a : Int)) (wRow n x) n 0 R (fun a R _ ha r hr => by
  have ha : a < n := by omega
  refine Ev.step (fun k => impl_belowOf.l3.eq_2 ..) ?_
  (repeat (first | refine ev_pos (by omega) ?_ | refine ev_neg (by omega) ?_))
  rw [tab_length]
  exact belowOf_cells hn x a hx ha n rfl R r hr)
 refine Le.trans (fun r hr => ?_) h
 rw [Nat.zero_add]
 refine Ev.step (fun k => impl_belowOf.l3.eq_2 ..) ?_
 rw [wrap_succ (show x < 9223372036854775807 by omega)]
 exact ev_neg (by omega) hr
theorem belowOf_loop (hn : n ≤ 12) (R : Nat → Nat → Bool) : Ev (fun k => impl_belowOf.l2 k (tab n R) (n : Int) ((0 : Nat) : Int)) (tab n (warshall n R)) := by
 have h := le_iter (fun (R : Nat → Nat → Bool) (x : Nat) k => impl_belowOf.l2 k (tab n R) (n : Int) (x : Int)) (wRound n) n 0 R (fun x R _ hx r hr => by
  have hx : x < n := by omega
  refine Ev.step (fun k => impl_belowOf.l2.eq_2 ..) ?_
  (repeat (first | refine ev_pos (by omega) ?_ | refine ev_neg (by omega) ?_))
  rw [tab_length]
  exact belowOf_round hn x hx R r hr)
 refine h _ ?_
 rw [Nat.zero_add]
 refine Ev.step (fun k => impl_belowOf.l2.eq_2 ..) ?_
 exact ev_neg (by omega) (Ev.now _)
theorem belowOf_pairs (hn : n ≤ 12) (hp : Pairs n pairs) (hl : pairs.length < 9223372036854775807) (R : Nat → Nat → Bool) : Ev (fun k => impl_belowOf.l1 k (tab n R) pairs (pairs.length : Int) ((0 : Nat) : Int)) (tab n (warshall n (pairsRel pairs R))) := by
 have h := le_iter (fun (R : Nat → Nat → Bool) (i : Nat) k => impl_belowOf.l1 k (tab n R) pairs (pairs.length : Int) (i : Int)) (fun i R => upd R ((pairs.getD i []).getD 0 0).toNat ((pairs.getD i []).getD 1 0).toNat true) pairs.length 0 R (fun i R _ hi r hr => by
  have hi : i < pairs.length := by omega
  obtain ⟨h2, h3, h4, h5, h6⟩ := hp _ (getD_mem [] hi)
  obtain ⟨u, hu⟩ := Int.eq_ofNat_of_zero_le h3
  obtain ⟨v, hv⟩ := Int.eq_ofNat_of_zero_le h5
  have hu' : u < n := by omega
  have hv' : v < n := by omega
  have e0 : rd (rd_ListInt pairs (i : Int)) 0 = (u : Int) := by rw [rdl_nat, show (0 : Int) = ((0 : Nat) : Int) from rfl, rd_nat]; exact hu
  have e1 : rd (rd_ListInt pairs (i : Int)) 1 = (v : Int) := by rw [rdl_nat, show (1 : Int) = ((1 : Nat) : Int) from rfl, rd_nat]; exact hv
  have e2 : ((rd_ListInt pairs (i : Int)).length : Int) = 2 := by rw [rdl_nat, h2]; rfl
  have et : ((pairs.getD i []).getD 0 0).toNat = u := by rw [hu]; exact Int.toNat_natCast u
  have ev : ((pairs.getD i []).getD 1 0).toNat = v := by rw [hv]; exact Int.toNat_natCast v
  rw [et, ev] at hr
  refine Ev.step (fun k => impl_belowOf.l1.eq_2 ..) ?_
  simp only [e0, e1, e2, tab_length, tab_get hu', row_length, Int.toNat_natCast, wrap_succ (show i < 9223372036854775807 by omega), tab_set]
  (repeat (first | refine ev_pos (by omega) ?_ | refine ev_neg (by omega) ?_))
  exact hr)
 refine h _ ?_
 rw [Nat.zero_add]
 refine Ev.step (fun k => impl_belowOf.l1.eq_2 ..) ?_
 refine ev_neg (by omega) ?_
 rw [tab_length]
 exact belowOf_loop hn _
theorem tab_diag_rows (n : Nat) : (List.range n).map (fun a => row n (diag a)) = tab n diag := rfl
theorem belowOf_ev (hn : n ≤ 12) (hp : Pairs n pairs) (hl : pairs.length < 9223372036854775807) : Ev (fun k => impl_belowOf.f k (n : Int) pairs) (tab n (orderOf n pairs)) := by
 have h := le_iter_inv (fun (s : List (List Bool)) (i : Nat) k => impl_belowOf.l0 k (n : Int) pairs s (n : Int) (i : Int)) (fun i s => s.set i (row n (diag i))) (fun i s => s = (tab n diag).take i ++ List.replicate (n - i) []) n 0 (List.replicate n []) (by simp) (by
  intro i s _ hi hs
  have hi : i < n := by omega
  have hlen : s.length = n := by subst hs; simp only [List.length_append, List.length_take, List.length_replicate, tab_length]; omega
  have hrep : List.replicate n false = row n (fun _ => false) := by simp [row, List.map_const']
  have hsl : (s.set i (List.replicate n false)).length = n := by rw [List.length_set]; exact hlen
  have hrd : rd_ListBool (s.set i (List.replicate n false)) (i : Int) = List.replicate n false := by
   simp [rd_ListBool, List.getElem?_set_self (show i < s.length by omega)]
  have hrow : (List.replicate n false).set i true = row n (diag i) := by
   rw [hrep, row_set]
   congr 1
   funext c
   simp only [diag]
   by_cases e : c = i
   ·simp [e]
   ·simp [e, Ne.symm e]
  refine ⟨fun r hr => ?_, ?_⟩
  ·refine Ev.step (fun k => impl_belowOf.l0.eq_2 ..) ?_
   simp only [Int.toNat_natCast, hlen, hsl, hrd, List.length_replicate, hrow, List.set_set, Option.bind_some, wrap_succ (show i < 9223372036854775807 by omega)]
   (repeat (first | refine ev_pos (by omega) ?_ | refine ev_neg (by omega) ?_))
   exact hr
  ·subst hs
   have := set_prefix (tab n diag) i [] (by rw [tab_length]; exact hi) (row n (diag i)) (by rw [List.getD_eq_getElem?_getD]; simp [tab, List.getElem?_range hi])
   rw [tab_length] at this
   exact this)
 unfold impl_belowOf.f
 simp only [Int.toNat_natCast, Option.bind_some, List.length_replicate]
 (repeat (first | refine ev_pos (by omega) ?_ | refine ev_neg (by omega) ?_))
 refine h.1 _ ?_
 rw [Nat.zero_add, h.2, show (List.take (0 + n) (tab n diag) ++ List.replicate (n - (0 + n)) ([] : List Bool)) = tab n diag by rw [Nat.zero_add, Nat.sub_self, List.replicate_zero, List.append_nil, List.take_of_length_le (by rw [tab_length]; exact Nat.le_refl _)]]
 refine Ev.step (fun k => impl_belowOf.l0.eq_2 ..) ?_
 refine ev_neg (by omega) ?_
 exact belowOf_pairs hn hp hl diag
end
end Go.Proofs.Ytnohkeijhfjbeaa.B

set_option linter.unusedVariables false
set_option linter.unusedSimpArgs false
namespace Go.Proofs.Ytnohkeijhfjbeaa.B
open Go.RowKit Go.Proofs.YtnohkeijhfjbeaaW.PrintWords

section
variable {n : Nat} {pairs : List (List Int)} {R : Nat → Nat → Bool}
theorem isOrder_ev (hn : n ≤ 12) : Ev (fun k => impl_below_isOrder.f k (tab n R)) (isOrd n R) := by
 unfold impl_below_isOrder.f isOrd
 rw [tab_length]
 refine ev_all (fun x k => impl_below_isOrder.l0 k (tab n R) (n : Int) (x : Int)) _ n (fun x hx hp r hr => ?_) (fun x hx hp => ?_) ?_
 ·refine Ev.step (fun k => impl_below_isOrder.l0.eq_2 ..) ?_
  (first | refine ev_pos (by omega) ?_ | refine ev_neg (by omega) ?_)
  have hp := List.all_eq_true.1 hp
  refine ev_find (fun y k => impl_below_isOrder.l1 k (tab n R) (x : Int) (n : Int) (x : Int) (x : Int) (y : Int)) (fun _ => false) x 0 (fun y _ hy _ r hr => ?_) (fun _ _ _ h => by cases h) (fun _ => ?_)
  ·have hy : y < x := by omega
   have hyn : y < n := by omega
   have hq := hp y (List.mem_range.2 hy)
   refine Ev.step (fun k => impl_below_isOrder.l1.eq_2 ..) ?_
   simp only [tab_length, tab_get hx, tab_get hyn, row_length, row_get hx, row_get hyn, wrap_succ (show y < 9223372036854775807 by omega)]
   (repeat (first | refine ev_pos (by omega) ?_ | refine ev_neg (by omega) ?_))
   by_cases h1 : R x y = true
   ·refine ev_pos h1 ?_
    (repeat (first | refine ev_pos (by omega) ?_ | refine ev_neg (by omega) ?_))
    have h2 : R y x = false := by rw [h1] at hq; simpa using hq
    exact ev_neg (by rw [h2]; decide) hr
   ·exact ev_neg h1 hr
  ·rw [Nat.zero_add]
   refine Ev.step (fun k => impl_below_isOrder.l1.eq_2 ..) ?_
   rw [wrap_succ (show x < 9223372036854775807 by omega)]
   exact ev_neg (by omega) hr
 ·refine Ev.step (fun k => impl_below_isOrder.l0.eq_2 ..) ?_
  (first | refine ev_pos (by omega) ?_ | refine ev_neg (by omega) ?_)
  refine ev_find (fun y k => impl_below_isOrder.l1 k (tab n R) (x : Int) (n : Int) (x : Int) (x : Int) (y : Int)) (fun y => R x y && R y x) x 0 (fun y _ hy hpy r hr => ?_) (fun y _ hy hpy _ => ?_) (fun h => ?_)
  ·have hy : y < x := by omega
   have hyn : y < n := by omega
   refine Ev.step (fun k => impl_below_isOrder.l1.eq_2 ..) ?_
   simp only [tab_length, tab_get hx, tab_get hyn, row_length, row_get hx, row_get hyn, wrap_succ (show y < 9223372036854775807 by omega)]
   (repeat (first | refine ev_pos (by omega) ?_ | refine ev_neg (by omega) ?_))
   by_cases h1 : R x y = true
   ·refine ev_pos h1 ?_
    (repeat (first | refine ev_pos (by omega) ?_ | refine ev_neg (by omega) ?_))
    have h2 : R y x = false := by rw [h1] at hpy; simpa using hpy
    exact ev_neg (by rw [h2]; decide) hr
   ·exact ev_neg h1 hr
  ·have hy : y < x := by omega
   have hyn : y < n := by omega
   obtain ⟨h1, h2⟩ := (Bool.and_eq_true _ _).mp hpy
   refine Ev.step (fun k => impl_below_isOrder.l1.eq_2 ..) ?_
   simp only [tab_length, tab_get hx, tab_get hyn, row_length, row_get hx, row_get hyn]
   (repeat (first | refine ev_pos (by omega) ?_ | refine ev_neg (by omega) ?_))
   exact Ev.now _
  ·exfalso
   have : ((List.range x).all fun y => !(R x y && R y x)) = true := List.all_eq_true.2 (fun y hy => by rw [h y (Nat.zero_le _) (by have := List.mem_range.1 hy; omega)]; rfl)
   rw [hp] at this; cases this
 ·refine Ev.step (fun k => impl_below_isOrder.l0.eq_2 ..) ?_
  exact ev_neg (by omega) (Ev.now _)

theorem between_iter (x y : Nat) : iter (fun z b => b || (!(z == x) && (!(z == y) && (R x z && R z y)))) 0 n false = between n R x y := iter_or_any _ n

theorem implCovers_ev (hn : n ≤ 12) : Ev (fun k => impl_below_covers.f k (tab n R)) (coversOf n R) := by
 unfold impl_below_covers.f
 rw [tab_length]
 have hlen : ∀ x s, (coverRow n R x s).length ≤ s.length + n := fun x s => by
  have := iter_inv (fun y s => if covers n R x y then s ++ [[(x : Int), (y : Int)]] else s) (fun i (t : List (List Int)) => t.length ≤ s.length + i) n 0 s (by omega) (fun j t _ _ h => by
   split
   ·simp only [List.length_append, List.length_singleton]; omega
   ·omega)
  simpa [coverRow] using this
 have h := le_iter_inv (fun (s : List (List Int)) (x : Nat) k => impl_below_covers.l0 k (tab n R) s (n : Int) (x : Int)) (coverRow n R) (fun x s => s.length ≤ x * n) n 0 [] (by simp) (fun x s _ hx hs => ⟨fun r hr => ?_, by have := hlen x s; rw [Nat.add_mul, Nat.one_mul]; omega⟩)
 ·refine h.1 _ ?_
  rw [Nat.zero_add]
  refine Ev.step (fun k => impl_below_covers.l0.eq_2 ..) ?_
  exact ev_neg (by omega) (Ev.now _)
 ·have hx : x < n := by omega
  have hxn : x * n ≤ 12 * 12 := Nat.mul_le_mul (by omega) hn
  refine Ev.step (fun k => impl_below_covers.l0.eq_2 ..) ?_
  (first | refine ev_pos (by omega) ?_ | refine ev_neg (by omega) ?_)
  rw [tab_length]
  have g := le_iter_inv (fun (s : List (List Int)) (y : Nat) k => impl_below_covers.l1 k (tab n R) s (x : Int) (n : Int) (x : Int) (n : Int) (y : Int)) (fun y s => if covers n R x y then s ++ [[(x : Int), (y : Int)]] else s) (fun y t => t.length ≤ s.length + y) n 0 s (by omega) (fun y t _ hy ht => ⟨fun r hr => ?_, by
   split
   ·simp only [List.length_append, List.length_singleton]; omega
   ·omega⟩)
  ·refine g.1 _ ?_
   rw [Nat.zero_add]
   refine Ev.step (fun k => impl_below_covers.l1.eq_2 ..) ?_
   rw [wrap_succ (show x < 9223372036854775807 by omega)]
   exact ev_neg (by omega) hr
  ·have hy : y < n := by omega
   refine Ev.step (fun k => impl_below_covers.l1.eq_2 ..) ?_
   (first | refine ev_pos (by omega) ?_ | refine ev_neg (by omega) ?_)
   rw [tab_length]
   have e := le_iter (fun (b : Bool) (z : Nat) k => impl_below_covers.l2 k (tab n R) t (x : Int) (y : Int) b (n : Int) (x : Int) (n : Int) (y : Int) (n : Int) (z : Int)) (fun z b => b || (!(z == x) && (!(z == y) && (R x z && R z y)))) n 0 false (fun z b _ hz r hr => ?_)
   ·refine e _ ?_
    rw [between_iter, Nat.zero_add]
    refine Ev.step (fun k => impl_below_covers.l2.eq_2 ..) ?_
    simp only [tab_length, tab_get hx, row_length, row_get hy, wrap_succ (show y < 9223372036854775807 by omega)]
    (first | refine ev_pos (by omega) ?_ | refine ev_neg (by omega) ?_)
    by_cases hxy : x = y
    ·have hc : covers n R x y = false := by simp [covers, hxy]
     rw [hc] at hr
     exact ev_pos (by omega) hr
    ·(repeat (first | refine ev_pos (by omega) ?_ | refine ev_neg (by omega) ?_))
     by_cases h1 : R x y = true
     ·refine ev_pos h1 ?_
      cases hb : between n R x y with
      | true =>
       have hc : covers n R x y = false := by simp [covers, hb]
       rw [hc] at hr
       exact ev_pos rfl hr
      | false =>
       have hc : covers n R x y = true := by simp [covers, hb, h1, hxy]
       rw [hc] at hr
       exact ev_neg (by decide) (ev_pos (by omega) hr)
     ·have hc : covers n R x y = false := by simp [covers, h1]
      rw [hc] at hr
      exact ev_neg h1 hr
   ·have hz : z < n := by omega
    refine Ev.step (fun k => impl_below_covers.l2.eq_2 ..) ?_
    simp only [tab_length, tab_get hx, tab_get hz, row_length, row_get hz, row_get hy, wrap_succ (show z < 9223372036854775807 by omega)]
    (first | refine ev_pos (by omega) ?_ | refine ev_neg (by omega) ?_)
    cases b with
    | true => exact ev_pos rfl (by simpa using hr)
    | false =>
     refine ev_neg (by decide) ?_
     by_cases hzx : z = x
     ·have : (z == x) = true := by simpa using hzx
      rw [this] at hr
      exact ev_pos (by omega) (by simpa using hr)
     ·have h0 : (z == x) = false := by simpa using hzx
      rw [h0] at hr
      refine ev_neg (by omega) ?_
      by_cases hzy : z = y
      ·have : (z == y) = true := by simpa using hzy
       rw [this] at hr
       exact ev_pos (by omega) (by simpa using hr)
      ·have h0 : (z == y) = false := by simpa using hzy
       rw [h0] at hr
       refine ev_neg (by omega) ?_
       (repeat (first | refine ev_pos (by omega) ?_ | refine ev_neg (by omega) ?_))
       by_cases h1 : R x z = true
       ·rw [h1] at hr
        refine ev_pos h1 ?_
        (repeat (first | refine ev_pos (by omega) ?_ | refine ev_neg (by omega) ?_))
        simpa using hr
       ·have h1' : R x z = false := by simpa using h1
        rw [h1'] at hr
        exact ev_neg h1 (by simpa using hr)
end
end Go.Proofs.Ytnohkeijhfjbeaa.B

set_option linter.unusedVariables false
set_option linter.unusedSimpArgs false
namespace Go.Proofs.Ytnohkeijhfjbeaa.B
open Go.RowKit Go.Proofs.YtnohkeijhfjbeaaW.PrintWords

section
variable {n : Nat} {pairs : List (List Int)} {R : Nat → Nat → Bool}
theorem table_cells (hn : n ≤ 12) (x a : Nat) (hx : x < n) (ha : a < n) (R : Nat → Nat → Bool) : Le (fun k => spec_l06Table.l3 k (n : Int) (tab n (wRow n x a R)) (x : Int) ((a + 1 : Nat) : Int)) (fun k => spec_l06Table.l4 k (n : Int) (tab n R) (x : Int) (a : Int) ((0 : Nat) : Int)) := by
 have h := le_iter (fun (R : Nat → Nat → Bool) (c : Nat) k => spec_l06Table.l4 k (n : Int) (tab n R) (x : Int) (a : Int) (c : Int)) (wCell x a) n 0 R (fun c R _ hc r hr => by
  have hc : c < n := by omega
  refine Ev.step (fun k => spec_l06Table.l4.eq_2 ..) ?_
  have hs := fun v => tab_set (n := n) (R := R) (a := a) (c := c) v
  simp only [tab_length, tab_get ha, tab_get hx, row_length, row_get hc, row_get hx, Int.toNat_natCast, wrap_succ (show c < 9223372036854775807 by omega), hs]
  refine ev_pos (by omega) (ev_pos (by omega) (ev_pos (by omega) (ev_pos (by omega) (ev_pos (by omega) ?_))))
  cases h2 : R a x with
  | false =>
   have : wCell x a c R = R := by
    have : wCell x a c R = upd R a c (R a c) := by simp [wCell, h2]
    rw [this]; exact upd_self _ _ _ _ rfl
   rw [this] at hr
   exact ev_neg (by decide) hr
  | true =>
   refine ev_pos rfl (ev_pos (by omega) (ev_pos (by omega) (ev_pos (by omega) ?_)))
   cases h3 : R x c with
   | false =>
    have : wCell x a c R = R := by
     have : wCell x a c R = upd R a c (R a c) := by simp [wCell, h3]
     rw [this]; exact upd_self _ _ _ _ rfl
    rw [this] at hr
    exact ev_neg (by decide) hr
   | true =>
    have : wCell x a c R = upd R a c true := by simp [wCell, h2, h3]
    rw [this] at hr
    exact ev_pos rfl (ev_pos (by omega) hr))
 refine Le.trans (fun r hr => ?_) h
 rw [Nat.zero_add]
 refine Ev.step (fun k => spec_l06Table.l4.eq_2 ..) ?_
 rw [wrap_succ (show a < 9223372036854775807 by omega)]
 exact ev_neg (by omega) hr
theorem table_round (hn : n ≤ 12) (x : Nat) (hx : x < n) (R : Nat → Nat → Bool) : Le (fun k => spec_l06Table.l2 k (n : Int) (tab n (wRound n x R)) ((x + 1 : Nat) : Int)) (fun k => spec_l06Table.l3 k (n : Int) (tab n R) (x : Int) ((0 : Nat) : Int)) := by
 have h := le_iter (fun (R : Nat → Nat → Bool) (a : Nat) k => spec_l06Table.l3 k (n : Int) (tab n R) (x : Int) (a : Int)) (wRow n x) n 0 R (fun a R _ ha r hr => by
  have ha : a < n := by omega
  refine Ev.step (fun k => spec_l06Table.l3.eq_2 ..) ?_
  (first | refine ev_pos (by omega) ?_ | refine ev_neg (by omega) ?_)
  exact table_cells hn x a hx ha R r hr)
 refine Le.trans (fun r hr => ?_) h
 rw [Nat.zero_add]
 refine Ev.step (fun k => spec_l06Table.l3.eq_2 ..) ?_
 rw [wrap_succ (show x < 9223372036854775807 by omega)]
 exact ev_neg (by omega) hr
theorem table_loop (hn : n ≤ 12) (R : Nat → Nat → Bool) : Ev (fun k => spec_l06Table.l2 k (n : Int) (tab n R) ((0 : Nat) : Int)) (tab n (warshall n R)) := by
 have h := le_iter (fun (R : Nat → Nat → Bool) (x : Nat) k => spec_l06Table.l2 k (n : Int) (tab n R) (x : Int)) (wRound n) n 0 R (fun x R _ hx r hr => by
  have hx : x < n := by omega
  refine Ev.step (fun k => spec_l06Table.l2.eq_2 ..) ?_
  (first | refine ev_pos (by omega) ?_ | refine ev_neg (by omega) ?_)
  exact table_round hn x hx R r hr)
 refine h _ ?_
 rw [Nat.zero_add]
 refine Ev.step (fun k => spec_l06Table.l2.eq_2 ..) ?_
 exact ev_neg (by omega) (Ev.now _)
theorem table_pairs (hn : n ≤ 12) (hp : Pairs n pairs) (hl : pairs.length < 9223372036854775807) (R : Nat → Nat → Bool) : Ev (fun k => spec_l06Table.l1 k (n : Int) pairs (tab n R) ((0 : Nat) : Int)) (tab n (warshall n (pairsRel pairs R))) := by
 have h := le_iter (fun (R : Nat → Nat → Bool) (i : Nat) k => spec_l06Table.l1 k (n : Int) pairs (tab n R) (i : Int)) (fun i R => upd R ((pairs.getD i []).getD 0 0).toNat ((pairs.getD i []).getD 1 0).toNat true) pairs.length 0 R (fun i R _ hi r hr => by
  have hi : i < pairs.length := by omega
  obtain ⟨h2, h3, h4, h5, h6⟩ := hp _ (getD_mem [] hi)
  obtain ⟨u, hu⟩ := Int.eq_ofNat_of_zero_le h3
  obtain ⟨v, hv⟩ := Int.eq_ofNat_of_zero_le h5
  have hu' : u < n := by omega
  have hv' : v < n := by omega
  have e0 : rd (rd_ListInt pairs (i : Int)) 0 = (u : Int) := by rw [rdl_nat, show (0 : Int) = ((0 : Nat) : Int) from rfl, rd_nat]; exact hu
  have e1 : rd (rd_ListInt pairs (i : Int)) 1 = (v : Int) := by rw [rdl_nat, show (1 : Int) = ((1 : Nat) : Int) from rfl, rd_nat]; exact hv
  have e2 : ((rd_ListInt pairs (i : Int)).length : Int) = 2 := by rw [rdl_nat, h2]; rfl
  have et : ((pairs.getD i []).getD 0 0).toNat = u := by rw [hu]; exact Int.toNat_natCast u
  have ev : ((pairs.getD i []).getD 1 0).toNat = v := by rw [hv]; exact Int.toNat_natCast v
  rw [et, ev] at hr
  refine Ev.step (fun k => spec_l06Table.l1.eq_2 ..) ?_
  simp only [e0, e1, e2, tab_length, tab_get hu', row_length, Int.toNat_natCast, wrap_succ (show i < 9223372036854775807 by omega), tab_set]
  (repeat (first | refine ev_pos (by omega) ?_ | refine ev_neg (by omega) ?_))
  exact hr)
 refine h _ ?_
 rw [Nat.zero_add]
 refine Ev.step (fun k => spec_l06Table.l1.eq_2 ..) ?_
 exact ev_neg (by omega) (table_loop hn _)
theorem table_ev (hn : n ≤ 12) (hp : Pairs n pairs) (hl : pairs.length < 9223372036854775807) : Ev (fun k => spec_l06Table.f k (n : Int) pairs) (tab n (orderOf n pairs)) := by
 have h := le_iter_inv (fun (s : List (List Bool)) (i : Nat) k => spec_l06Table.l0 k (n : Int) pairs s (i : Int)) (fun i s => s ++ [row n (diag i)]) (fun i s => s = (tab n diag).take i) n 0 [] (by simp) (by
  intro i s _ hi hs
  have hi : i < n := by omega
  have hlen : s.length = i := by subst hs; simp only [List.length_take, tab_length]; omega
  have hrep : List.replicate n false = row n (fun _ => false) := by simp [row, List.map_const']
  have hrow : (List.replicate n false).set i true = row n (diag i) := by
   rw [hrep, row_set]
   congr 1
   funext c
   simp only [diag]
   by_cases e : c = i
   ·simp [e]
   ·simp [e, Ne.symm e]
  refine ⟨fun r hr => ?_, ?_⟩
  ·refine Ev.step (fun k => spec_l06Table.l0.eq_2 ..) ?_
   simp only [Int.toNat_natCast, hlen, List.length_replicate, hrow, Option.bind_some, wrap_succ (show i < 9223372036854775807 by omega)]
   (repeat (first | refine ev_pos (by omega) ?_ | refine ev_neg (by omega) ?_))
   exact hr
  ·subst hs
   rw [List.take_succ_eq_append_getElem (by rw [tab_length]; exact hi)]
   simp [tab])
 unfold spec_l06Table.f
 refine h.1 _ ?_
 rw [Nat.zero_add, h.2, Nat.zero_add, List.take_of_length_le (by rw [tab_length]; exact Nat.le_refl _)]
 refine Ev.step (fun k => spec_l06Table.l0.eq_2 ..) ?_
 exact ev_neg (by omega) (table_pairs hn hp hl diag)

theorem isOrd_iff : isOrd n R = true ↔ ∀ x y, x < n → y < n → x ≠ y → R x y = true → R y x = false := by
 unfold isOrd
 rw [List.all_eq_true]
 constructor
 ·intro h x y hx hy hne hxy
  rcases Nat.lt_or_gt_of_ne hne with hlt | hlt
  ·have := List.all_eq_true.1 (h y (List.mem_range.2 hy)) x (List.mem_range.2 hlt)
   rw [hxy, Bool.and_true] at this
   simpa using this
  ·have := List.all_eq_true.1 (h x (List.mem_range.2 hx)) y (List.mem_range.2 hlt)
   rw [hxy, Bool.true_and] at this
   simpa using this
 ·intro h x hx
  have hx := List.mem_range.1 hx
  refine List.all_eq_true.2 (fun y hy => ?_)
  have hy := List.mem_range.1 hy
  cases hxy : R x y with
  | false => rfl
  | true => rw [h x y hx (by omega) (by omega) hxy]; rfl

theorem specBetween (hn : n ≤ 12) {x y : Nat} (hx : x < n) (hy : y < n) (s : List (List Int)) {r : List (List Int) × Bool} (hs : s.length < 5864062014805)
  (h : Ev (fun k => spec_l06Covers.l1 k (tab n R) (if between n R x y = true then s else s ++ [[(x : Int), (y : Int)]]) (x : Int) ((y + 1 : Nat) : Int)) r) : Ev (fun k => spec_l06Covers.l2 k (tab n R) s (x : Int) (y : Int) false ((0 : Nat) : Int)) r := by
 have e := le_iter (fun (b : Bool) (z : Nat) k => spec_l06Covers.l2 k (tab n R) s (x : Int) (y : Int) b (z : Int)) (fun z b => b || (!(z == x) && (!(z == y) && (R x z && R z y)))) n 0 false (fun z b _ hz r hr => ?_)
 ·refine e _ ?_
  rw [between_iter, Nat.zero_add]
  refine Ev.step (fun k => spec_l06Covers.l2.eq_2 ..) ?_
  simp only [tab_length, wrap_succ (show y < 9223372036854775807 by omega)]
  (first | refine ev_pos (by omega) ?_ | refine ev_neg (by omega) ?_)
  cases hb : between n R x y with
  | true => rw [hb] at h; exact ev_pos rfl h
  | false => rw [hb] at h; exact ev_neg (by decide) (ev_pos (by omega) h)
 ·have hz : z < n := by omega
  refine Ev.step (fun k => spec_l06Covers.l2.eq_2 ..) ?_
  simp only [tab_length, tab_get hx, tab_get hz, row_length, row_get hz, row_get hy, wrap_succ (show z < 9223372036854775807 by omega)]
  (first | refine ev_pos (by omega) ?_ | refine ev_neg (by omega) ?_)
  cases b with
  | true => exact ev_pos rfl (by simpa using hr)
  | false =>
   refine ev_neg (by decide) ?_
   by_cases hzx : z = x
   ·have : (z == x) = true := by simpa using hzx
    rw [this] at hr
    exact ev_pos (by omega) (by simpa using hr)
   ·have h0 : (z == x) = false := by simpa using hzx
    rw [h0] at hr
    refine ev_neg (by omega) ?_
    by_cases hzy : z = y
    ·have : (z == y) = true := by simpa using hzy
     rw [this] at hr
     exact ev_pos (by omega) (by simpa using hr)
    ·have h0 : (z == y) = false := by simpa using hzy
     rw [h0] at hr
     refine ev_neg (by omega) (ev_pos (by omega) (ev_pos (by omega) (ev_pos (by omega) (ev_pos (by omega) ?_))))
     cases h1 : R x z with
     | true =>
      rw [h1] at hr
      refine ev_pos rfl (ev_pos (by omega) (ev_pos (by omega) ?_))
      simpa using hr
     | false =>
      rw [h1] at hr
      exact ev_neg (by decide) (by simpa using hr)
theorem specCell (hn : n ≤ 12) {x y : Nat} (hx : x < n) (hy : y < n) (s : List (List Int)) {r : List (List Int) × Bool} (hs : s.length < 5864062014805) (ho : x ≠ y → R x y = true → R y x = false)
  (h : Ev (fun k => spec_l06Covers.l1 k (tab n R) (if covers n R x y = true then s ++ [[(x : Int), (y : Int)]] else s) (x : Int) ((y + 1 : Nat) : Int)) r) : Ev (fun k => spec_l06Covers.l1 k (tab n R) s (x : Int) (y : Int)) r := by
 refine Ev.step (fun k => spec_l06Covers.l1.eq_2 ..) ?_
 simp only [tab_length, tab_get hx, row_length, row_get hy]
 (first | refine ev_pos (by omega) ?_ | refine ev_neg (by omega) ?_)
 have skip : covers n R x y = false → Ev (fun k => spec_l06Covers.j2 k (tab n R) s (x : Int) (y : Int) true) r := fun hc => by
  rw [hc] at h
  refine Ev.step (fun k => spec_l06Covers.j2.eq_2 ..) ?_
  rw [wrap_succ (show y < 9223372036854775807 by omega)]
  exact ev_pos rfl h
 by_cases hxy : x = y
 ·exact ev_pos (by omega) (skip (by simp [covers, hxy]))
 ·refine ev_neg (by omega) (ev_pos (by omega) (ev_pos (by omega) (ev_pos (by omega) (ev_pos (by omega) ?_))))
  cases h1 : R x y with
  | false => exact skip (by simp [covers, h1])
  | true =>
   have h2 := ho hxy h1
   refine Ev.step (fun k => spec_l06Covers.j2.eq_2 ..) ?_
   simp only [tab_length, tab_get hy, row_length, row_get hx, h2]
   refine ev_neg (by decide) (ev_pos (by omega) (ev_pos (by omega) (ev_pos (by omega) (ev_pos (by omega) (ev_neg (by decide) ?_)))))
   refine specBetween hn hx hy s hs ?_
   cases hb : between n R x y with
   | true =>
    have hc : covers n R x y = false := by simp [covers, hb]
    rw [hc] at h; exact h
   | false =>
    have hc : covers n R x y = true := by simp [covers, hb, h1, hxy]
    rw [hc] at h; exact h
theorem coverRow_le (x : Nat) (s : List (List Int)) : (coverRow n R x s).length ≤ s.length + n := by
 have := iter_inv (fun y s => if covers n R x y then s ++ [[(x : Int), (y : Int)]] else s) (fun i (t : List (List Int)) => t.length ≤ s.length + i) n 0 s (by omega) (fun j t _ _ h => by
  split
  ·simp only [List.length_append, List.length_singleton]; omega
  ·omega)
 simpa [coverRow] using this
theorem specCovers_ev (hn : n ≤ 12) : Ev (fun k => spec_l06Covers.f k (tab n R)) (if isOrd n R = true then (coversOf n R, true) else ([], false)) := by
 unfold spec_l06Covers.f
 have hrow : ∀ (x : Nat) (s : List (List Int)) (d y : Nat), x < n → y + d ≤ n → (∀ z, z < y + d → x ≠ z → R x z = true → R z x = false) → s.length ≤ 1000 → ∀ r, Ev (fun k => spec_l06Covers.l1 k (tab n R) (iter (fun y s => if covers n R x y then s ++ [[(x : Int), (y : Int)]] else s) y d s) (x : Int) ((y + d : Nat) : Int)) r → Ev (fun k => spec_l06Covers.l1 k (tab n R) s (x : Int) (y : Int)) r := fun x s d y hx hd ho hs r hr => by
  have g := le_iter_inv (fun (s : List (List Int)) (y : Nat) k => spec_l06Covers.l1 k (tab n R) s (x : Int) (y : Int)) (fun y s => if covers n R x y then s ++ [[(x : Int), (y : Int)]] else s) (fun i t => t.length + y ≤ s.length + i) d y s (by omega) (fun i t hi1 hi2 ht => ⟨fun r hr => specCell hn hx (by omega) t (by omega) (ho i (by omega)) hr, by
   split
   ·simp only [List.length_append, List.length_singleton]; omega
   ·omega⟩)
  exact g.1 r hr
 by_cases hO : isOrd n R = true
 ·rw [if_pos hO]
  have hO := isOrd_iff.1 hO
  have h := le_iter_inv (fun (s : List (List Int)) (x : Nat) k => spec_l06Covers.l0 k (tab n R) s (x : Int)) (coverRow n R) (fun x s => s.length ≤ x * n) n 0 [] (by simp) (fun x s _ hx hs => ⟨fun r hr => ?_, by have := coverRow_le (n := n) (R := R) x s; rw [Nat.add_mul, Nat.one_mul]; omega⟩)
  ·refine h.1 _ ?_
   rw [Nat.zero_add]
   refine Ev.step (fun k => spec_l06Covers.l0.eq_2 ..) ?_
   rw [tab_length]
   exact ev_neg (by omega) (Ev.now _)
  ·have hx : x < n := by omega
   have hxn : x * n ≤ 12 * 12 := Nat.mul_le_mul (by omega) hn
   refine Ev.step (fun k => spec_l06Covers.l0.eq_2 ..) ?_
   rw [tab_length]
   (first | refine ev_pos (by omega) ?_ | refine ev_neg (by omega) ?_)
   refine hrow x s n 0 hx (by omega) (fun z hz hne h => hO x z hx (by omega) hne h) (by omega) r ?_
   rw [Nat.zero_add]
   refine Ev.step (fun k => spec_l06Covers.l1.eq_2 ..) ?_
   rw [tab_length, wrap_succ (show x < 9223372036854775807 by omega)]
   exact ev_neg (by omega) hr
 ·rw [if_neg hO]
  have hbad : ∃ x, x < n ∧ ∃ y, y < n ∧ x ≠ y ∧ R x y = true ∧ R y x = true := by
   apply Classical.byContradiction
   intro hc
   apply hO
   refine isOrd_iff.2 (fun x y hx hy hne hxy => ?_)
   cases h : R y x with
   | false => rfl
   | true => exact absurd ⟨x, hx, y, hy, hne, hxy, h⟩ hc
  obtain ⟨x, ⟨hx, hy'⟩, hmin⟩ := least hbad
  obtain ⟨y, ⟨hy, hne, h1, h2⟩, hymin⟩ := least hy'
  have h := le_iter_inv (fun (s : List (List Int)) (x : Nat) k => spec_l06Covers.l0 k (tab n R) s (x : Int)) (coverRow n R) (fun x s => s.length ≤ x * n) x 0 [] (by simp) (fun i s _ hi hs => ⟨fun r hr => ?_, by have := coverRow_le (n := n) (R := R) i s; rw [Nat.add_mul, Nat.one_mul]; omega⟩)
  ·refine h.1 _ ?_
   have hl := h.2
   have hxn : x * n ≤ 12 * 12 := Nat.mul_le_mul (by omega) hn
   rw [Nat.zero_add] at hl ⊢
   refine Ev.step (fun k => spec_l06Covers.l0.eq_2 ..) ?_
   rw [tab_length]
   (first | refine ev_pos (by omega) ?_ | refine ev_neg (by omega) ?_)
   refine hrow x _ y 0 hx (by omega) (fun z hz hne' h' => ?_) (by omega) _ ?_
   ·cases h'' : R z x with
    | false => rfl
    | true => exact absurd ⟨by omega, hne', h', h''⟩ (hymin z (by omega))
   ·rw [Nat.zero_add]
    refine Ev.step (fun k => spec_l06Covers.l1.eq_2 ..) ?_
    simp only [tab_length, tab_get hx, row_length, row_get hy, h1]
    refine ev_pos (by omega) (ev_neg (by omega) (ev_pos (by omega) (ev_pos (by omega) (ev_pos (by omega) (ev_pos (by omega) ?_)))))
    refine Ev.step (fun k => spec_l06Covers.j2.eq_2 ..) ?_
    simp only [tab_length, tab_get hy, row_length, row_get hx, h2]
    exact ev_neg (by decide) (ev_pos (by omega) (ev_pos (by omega) (ev_pos (by omega) (ev_pos (by omega) (ev_pos (by simp) (Ev.now _))))))
  ·have hi' : i < n := by omega
   have hin : i * n ≤ 12 * 12 := Nat.mul_le_mul (by omega) hn
   refine Ev.step (fun k => spec_l06Covers.l0.eq_2 ..) ?_
   rw [tab_length]
   (first | refine ev_pos (by omega) ?_ | refine ev_neg (by omega) ?_)
   refine hrow i s n 0 hi' (by omega) (fun z hz hne h => ?_) (by omega) r ?_
   ·cases h'' : R z i with
    | false => rfl
    | true => exact absurd ⟨hi', z, by omega, hne, h, h''⟩ (hmin i (by omega))
   ·rw [Nat.zero_add]
    refine Ev.step (fun k => spec_l06Covers.l1.eq_2 ..) ?_
    rw [tab_length, wrap_succ (show i < 9223372036854775807 by omega)]
    exact ev_neg (by omega) hr
end
end Go.Proofs.Ytnohkeijhfjbeaa.B

set_option linter.unusedVariables false
set_option linter.unusedSimpArgs false
namespace Go.Proofs.Ytnohkeijhfjbeaa.B
open Go.RowKit Go.Proofs.YtnohkeijhfjbeaaW.PrintWords

theorem szInt64S_val (l : List Int) (a : Int) (h0 : 0 ≤ a) (h1 : a ≤ 9223372036854775807) (hl : l.length ≤ 9223372036854775807) : laws_szInt64S.f l a = some (if a - l.length < 0 then -1 else a - l.length) := by
 unfold laws_szInt64S.f
 have e : wrap64 (a - (l.length : Int)) = a - l.length := wrap_small (by omega) (by omega)
 rw [e]
 split <;> rfl
theorem szInt64SS_ev (l : List (List Int)) (a : Int) (hw : WfLL l) (h0 : 0 ≤ a) (h1 : a ≤ 9223372036854775807) :
  (∃ t, Ev (fun k => laws_szInt64SS.f k l a) t ∧ t < 0) ∨ (Ev (fun k => laws_szInt64SS.f k l a) (a - l.length - total l) ∧ l.length + total l ≤ a) := by
 have loop : ∀ (d i : Nat) (b : Int), d + i = l.length → 0 ≤ b → b ≤ 9223372036854775807 → (∃ t, Ev (fun k => laws_szInt64SS.l0 k l b (i : Int)) t ∧ t < 0) ∨ (Ev (fun k => laws_szInt64SS.l0 k l b (i : Int)) (b - total (l.drop i)) ∧ total (l.drop i) ≤ b) := by
  intro d
  induction d with
  | zero =>
   intro i b hd hb0 hb1
   right
   have hi : l.length = i := by omega
   rw [List.drop_of_length_le (by omega)]
   refine ⟨Ev.step (fun k => laws_szInt64SS.l0.eq_2 ..) (ev_neg (by omega) (ev_eq (Ev.now b) (by simp [total]))), by simpa [total] using hb0⟩
  | succ d ih =>
   intro i b hd hb0 hb1
   have hi : i < l.length := by omega
   have hdr : l.drop i = l.getD i [] :: l.drop (i + 1) := by
    rw [List.drop_eq_getElem_cons hi, List.getD_eq_getElem?_getD, List.getElem?_eq_getElem hi]; rfl
   have hm : l.getD i [] ∈ l := by
    rw [List.getD_eq_getElem?_getD, List.getElem?_eq_getElem hi]; exact List.getElem_mem hi
   have hrl := (hw.2 _ hm).1
   have hv := szInt64S_val (l.getD i []) b hb0 hb1 hrl
   have hrd : rd_ListInt l (i : Int) = l.getD i [] := by simp [rd_ListInt]
   have hlen : l.length ≤ 9223372036854775807 := hw.1
   by_cases hneg : b - ((l.getD i []).length : Int) < 0
   ·left
    rw [if_pos hneg] at hv
    refine ⟨-1, Ev.step (fun k => laws_szInt64SS.l0.eq_2 ..) (ev_pos (by omega) (ev_pos (by omega) ?_)), by omega⟩
    rw [hrd]
    exact Ev.bind (ev_const hv) (ev_pos (by omega) (Ev.now _))
   ·rw [if_neg hneg] at hv
    rcases ih (i + 1) (b - ((l.getD i []).length : Int)) (by omega) (by omega) (by omega) with ⟨t, ht, htn⟩ | ⟨ht, htb⟩
    ·left
     refine ⟨t, Ev.step (fun k => laws_szInt64SS.l0.eq_2 ..) (ev_pos (by omega) (ev_pos (by omega) ?_)), htn⟩
     rw [hrd, wrap_succ (by omega)]
     exact Ev.bind (ev_const hv) (ev_neg (by omega) ht)
    ·right
     rw [hdr]
     simp only [total]
     refine ⟨Ev.step (fun k => laws_szInt64SS.l0.eq_2 ..) (ev_pos (by omega) (ev_pos (by omega) ?_)), by omega⟩
     rw [hrd, wrap_succ (by omega)]
     exact Ev.bind (ev_const hv) (ev_neg (by omega) (ev_eq ht (by omega)))
 have hlen : l.length ≤ 9223372036854775807 := hw.1
 have e : wrap64 (a - (l.length : Int)) = a - l.length := wrap_small (by omega) (by omega)
 by_cases hneg : a - (l.length : Int) < 0
 ·left
  refine ⟨-1, ?_, by omega⟩
  unfold laws_szInt64SS.f
  rw [e]
  exact ev_pos hneg (Ev.now _)
 ·rcases loop l.length 0 (a - l.length) (by omega) (by omega) (by omega) with ⟨t, ht, htn⟩ | ⟨ht, htb⟩
  ·left
   refine ⟨t, ?_, htn⟩
   unfold laws_szInt64SS.f
   rw [e]
   exact ev_neg hneg ht
  ·right
   refine ⟨?_, by simp only [List.drop_zero] at htb; omega⟩
   unfold laws_szInt64SS.f
   rw [e]
   exact ev_neg hneg ht

theorem toInt64S_ev (l : List Int) (hl : l.length ≤ 1048576) : Ev (fun k => laws_toInt64S.f k l) l := by
 have h := le_iter_inv (fun (s : List Int) (i : Nat) k => laws_toInt64S.l0 k l s (i : Int)) (fun i s => s.set i (l.getD i 0)) (fun i s => s = l.take i ++ List.replicate (l.length - i) 0) l.length 0 (List.replicate l.length 0) (by simp) (by
  intro j s _ hj hs
  refine ⟨fun r hr => Ev.step (fun k => laws_toInt64S.l0.eq_2 ..) (ev_pos (by omega) (ev_pos (by omega) (ev_pos ?_ ?_))), ?_⟩
  ·subst hs; simp only [List.length_append, List.length_take, List.length_replicate]; omega
  ·rw [wrap_succ (by omega), rd_nat, Int.toNat_natCast]; exact hr
  ·subst hs; exact set_prefix l j 0 (by omega) _ rfl)
 unfold laws_toInt64S.f
 refine ev_pos (by omega) (ev_pos (by omega) ?_)
 rw [Int.toNat_natCast]
 refine h.1 l (Ev.step (fun k => laws_toInt64S.l0.eq_2 ..) (ev_neg (by omega) (ev_eq (Ev.now _) ?_)))
 rw [h.2]
 simp
theorem toInt64SS_ev (l : List (List Int)) (hl : l.length ≤ 1048576) (hr : ∀ x ∈ l, x.length ≤ 1048576) : Ev (fun k => laws_toInt64SS.f k l) l := by
 have h := le_iter_inv (fun (s : List (List Int)) (i : Nat) k => laws_toInt64SS.l0 k l s (i : Int)) (fun i s => s.set i (l.getD i [])) (fun i s => s = l.take i ++ List.replicate (l.length - i) []) l.length 0 (List.replicate l.length []) (by simp) (by
  intro j s _ hj hs
  have hm : l.getD j [] ∈ l := by
   rw [List.getD_eq_getElem?_getD, List.getElem?_eq_getElem (by omega)]; exact List.getElem_mem _
  have hrd : rd_ListInt l (j : Int) = l.getD j [] := by simp [rd_ListInt]
  refine ⟨fun r hr' => Ev.step (fun k => laws_toInt64SS.l0.eq_2 ..) (ev_pos (by omega) (ev_pos (by omega) ?_)), ?_⟩
  ·rw [hrd]
   refine Ev.bind (toInt64S_ev _ (hr _ hm)) (ev_pos ?_ ?_)
   ·subst hs; simp only [List.length_append, List.length_take, List.length_replicate]; omega
   ·rw [wrap_succ (by omega), Int.toNat_natCast]; exact hr'
  ·subst hs; exact set_prefix l j [] (by omega) _ rfl)
 unfold laws_toInt64SS.f
 refine ev_pos (by omega) (ev_pos (by omega) ?_)
 rw [Int.toNat_natCast]
 refine h.1 l (Ev.step (fun k => laws_toInt64SS.l0.eq_2 ..) (ev_neg (by omega) (ev_eq (Ev.now _) ?_)))
 rw [h.2]
 simp

theorem list_eq_range {α : Type} [BEq α] [LawfulBEq α] (l m : List α) (z : α) (h : l.length = m.length) : (List.range l.length).all (fun i => l.getD i z == m.getD i z) = (l == m) := by
 rw [Bool.eq_iff_iff, List.all_eq_true, beq_iff_eq]
 constructor
 ·intro e
  apply List.ext_getElem h
  intro i h1 h2
  have := e i (List.mem_range.2 h1)
  simpa [List.getD_eq_getElem?_getD, List.getElem?_eq_getElem h1, List.getElem?_eq_getElem h2] using this
 ·rintro rfl i _
  exact beq_self_eq_true _
theorem len_ne_beq {α : Type} [BEq α] [LawfulBEq α] {l m : List α} (h : l.length ≠ m.length) : (l == m) = false := by
 rw [Bool.eq_false_iff]; intro e; exact h (by rw [eq_of_beq e])
theorem eqInt64S_ev (l m : List Int) (hl : l.length < 9223372036854775807) : Ev (fun k => laws_eqInt64S.f k l m) (l == m) := by
 unfold laws_eqInt64S.f
 by_cases h : l.length = m.length
 ·refine ev_pos (by omega) ?_
  rw [← list_eq_range l m 0 h]
  refine ev_all (fun (i : Nat) k => laws_eqInt64S.l0 k l m (i : Int)) _ l.length (fun j hj hp r hr => ?_) (fun j hj hp => ?_) ?_
  ·refine Ev.step (fun k => laws_eqInt64S.l0.eq_2 ..) (ev_pos (by omega) (ev_pos (by omega) (ev_pos (by omega) (ev_pos ?_ ?_))))
   ·rw [rd_nat, rd_nat]; exact eq_of_beq hp
   ·rw [wrap_succ (by omega)]; exact hr
  ·refine Ev.step (fun k => laws_eqInt64S.l0.eq_2 ..) (ev_pos (by omega) (ev_pos (by omega) (ev_pos (by omega) (ev_neg ?_ (Ev.now _)))))
   rw [rd_nat, rd_nat]; exact ne_of_beq_false hp
  ·exact Ev.step (fun k => laws_eqInt64S.l0.eq_2 ..) (ev_neg (by omega) (Ev.now _))
 ·rw [len_ne_beq h]
  exact ev_neg (by omega) (Ev.now _)
theorem eqInt64SS_ev (l m : List (List Int)) (hl : l.length < 9223372036854775807) (hr : ∀ x ∈ l, x.length < 9223372036854775807) : Ev (fun k => laws_eqInt64SS.f k l m) (l == m) := by
 unfold laws_eqInt64SS.f
 by_cases h : l.length = m.length
 ·refine ev_pos (by omega) ?_
  rw [← list_eq_range l m [] h]
  have hm : ∀ j, j < l.length → Ev (fun k => laws_eqInt64S.f k (rd_ListInt l (j : Int)) (rd_ListInt m (j : Int))) (l.getD j [] == m.getD j []) := fun j hj => by
   have h1 : rd_ListInt l (j : Int) = l.getD j [] := by simp [rd_ListInt]
   have h2 : rd_ListInt m (j : Int) = m.getD j [] := by simp [rd_ListInt]
   rw [h1, h2]
   refine eqInt64S_ev _ _ (hr _ ?_)
   rw [List.getD_eq_getElem?_getD, List.getElem?_eq_getElem hj]; exact List.getElem_mem hj
  refine ev_all (fun (i : Nat) k => laws_eqInt64SS.l0 k l m (i : Int)) _ l.length (fun j hj hp r hr => ?_) (fun j hj hp => ?_) ?_
  ·refine Ev.step (fun k => laws_eqInt64SS.l0.eq_2 ..) (ev_pos (by omega) (ev_pos (by omega) (ev_pos (by omega) (Ev.bind (hm j hj) (ev_pos hp ?_)))))
   rw [wrap_succ (by omega)]; exact hr
  ·exact Ev.step (fun k => laws_eqInt64SS.l0.eq_2 ..) (ev_pos (by omega) (ev_pos (by omega) (ev_pos (by omega) (Ev.bind (hm j hj) (ev_neg (by rw [hp]; decide) (Ev.now _))))))
  ·exact Ev.step (fun k => laws_eqInt64SS.l0.eq_2 ..) (ev_neg (by omega) (Ev.now _))
 ·rw [len_ne_beq h]
  exact ev_neg (by omega) (Ev.now _)
end Go.Proofs.Ytnohkeijhfjbeaa.B

set_option linter.unusedVariables false
set_option linter.unusedSimpArgs false
namespace Go.Proofs.Ytnohkeijhfjbeaa.B
open Go.RowKit Go.Proofs.YtnohkeijhfjbeaaW.PrintWords

theorem isElement_val (a n : Int) : impl_isElement.f a n = some (elem a n) := by
 unfold impl_isElement.f
 rw [within_val]; rfl
theorem isSize_val (a : Int) : impl_isSize.f a = some (decide (0 ≤ a) && decide (a ≤ 12)) := by
 unfold impl_isSize.f
 rw [within_val]; rfl
theorem areElements1_val (a n : Int) : impl_areElements_1.f a n = some (!elem a n) := by
 unfold impl_areElements_1.f
 rw [isElement_val]; rfl
theorem areElements_ev (l : List Int) (n : Int) (hl : l.length < 9223372036854775807) : Ev (fun k => impl_areElements.f k l n) (l.all (fun a => elem a n)) := by
 obtain ⟨t, ht, hd⟩ := ev_index_list l 0 (fun i k => slices_IndexFunc_int64_int64_at_impl_areElements_1.l0 k l (l.length : Int) (i : Int) n) (fun a => !elem a n) (fun j hj hp r hr => by
  refine Ev.step (fun k => slices_IndexFunc_int64_int64_at_impl_areElements_1.l0.eq_2 ..) ?_
  (repeat (first | refine ev_pos (by omega) ?_ | refine ev_neg (by omega) ?_))
  rw [rd_nat, wrap_succ (by omega)]
  exact Ev.bind (ev_const (areElements1_val _ _)) (ev_neg (by rw [hp]; decide) hr)) (fun j hj hp => by
  refine Ev.step (fun k => slices_IndexFunc_int64_int64_at_impl_areElements_1.l0.eq_2 ..) ?_
  (repeat (first | refine ev_pos (by omega) ?_ | refine ev_neg (by omega) ?_))
  rw [rd_nat]
  exact Ev.bind (ev_const (areElements1_val _ _)) (ev_pos hp (Ev.now _))) (by
  refine Ev.step (fun k => slices_IndexFunc_int64_int64_at_impl_areElements_1.l0.eq_2 ..) ?_
  exact ev_neg (by omega) (Ev.now _))
 unfold impl_areElements.f slices_ContainsFunc_int64_int64_at_impl_areElements_1.f slices_IndexFunc_int64_int64_at_impl_areElements_1.f
 refine Ev.bind (Ev.bind ht (Ev.now _)) (ev_eq (Ev.now _) ?_)
 rw [hd, List.any_eq_not_all_not]
 simp
theorem elem_iff {a : Int} {n : Nat} (hn : n ≤ 12) : elem a (n : Int) = true ↔ 0 ≤ a ∧ a < n := by
 unfold elem
 rw [wrap_small (by omega) (by omega)]
 simp only [Bool.and_eq_true, decide_eq_true_eq]
 omega
theorem len2 {p : List Int} (h : p.length = 2) : p = [p.getD 0 0, p.getD 1 0] := by
 match p, h with
 | [a, b], _ => rfl
theorem arePairs1_ev (p : List Int) (n : Int) : Ev (fun k => impl_arePairs_1.f k p n) (!isPair n p) := by
 unfold impl_arePairs_1.f isPair
 by_cases h : p.length = 2
 ·refine ev_pos (by omega) (Ev.bind (areElements_ev p n (by omega)) (ev_eq (Ev.now _) ?_))
  rw [len2 h]
  simp
 ·refine ev_neg (by omega) (ev_eq (Ev.now _) ?_)
  have : (p.length == 2) = false := by simpa using h
  rw [this]; rfl
theorem arePairs_ev (n : Int) (l : List (List Int)) (hl : l.length < 9223372036854775807) : Ev (fun k => impl_arePairs.f k n l) (l.all (isPair n)) := by
 obtain ⟨t, ht, hd⟩ := ev_index_list l [] (fun i k => slices_IndexFunc_int64_int64_at_impl_arePairs_1.l0 k l (l.length : Int) (i : Int) n) (fun p => !isPair n p) (fun j hj hp r hr => by
  refine Ev.step (fun k => slices_IndexFunc_int64_int64_at_impl_arePairs_1.l0.eq_2 ..) ?_
  (repeat (first | refine ev_pos (by omega) ?_ | refine ev_neg (by omega) ?_))
  rw [rdl_nat, wrap_succ (by omega)]
  exact Ev.bind (arePairs1_ev _ _) (ev_neg (by rw [hp]; decide) hr)) (fun j hj hp => by
  refine Ev.step (fun k => slices_IndexFunc_int64_int64_at_impl_arePairs_1.l0.eq_2 ..) ?_
  (repeat (first | refine ev_pos (by omega) ?_ | refine ev_neg (by omega) ?_))
  rw [rdl_nat]
  exact Ev.bind (arePairs1_ev _ _) (ev_pos hp (Ev.now _))) (by
  refine Ev.step (fun k => slices_IndexFunc_int64_int64_at_impl_arePairs_1.l0.eq_2 ..) ?_
  exact ev_neg (by omega) (Ev.now _))
 unfold impl_arePairs.f slices_ContainsFunc_int64_int64_at_impl_arePairs_1.f slices_IndexFunc_int64_int64_at_impl_arePairs_1.f
 refine Ev.bind (Ev.bind ht (Ev.now _)) (ev_eq (Ev.now _) ?_)
 rw [hd, List.any_eq_not_all_not]
 simp
theorem specPairs_ev (n : Int) (l : List (List Int)) (hl : l.length < 9223372036854775807) : Ev (fun k => spec_l06Pairs.f k n l) (l.all (isPair n)) := by
 unfold spec_l06Pairs.f
 have e0 : ∀ x : List Int, rd x 0 = x.getD 0 0 := fun x => rd_nat x 0
 have e1 : ∀ x : List Int, rd x 1 = x.getD 1 0 := fun x => rd_nat x 1
 refine ev_all_list l [] (fun i k => spec_l06Pairs.l0 k n l (i : Int)) (isPair n) (fun j hj hp r hr => ?_) (fun j hj hp => ?_) ?_
 ·obtain ⟨h2, hp⟩ := (Bool.and_eq_true _ _).mp hp
  obtain ⟨ha, hb⟩ := (Bool.and_eq_true _ _).mp hp
  have h2 : (l.getD j []).length = 2 := by simpa using h2
  refine Ev.step (fun k => spec_l06Pairs.l0.eq_2 ..) ?_
  simp only [rdl_nat, e0, e1, h2, wrap_succ (show j < 9223372036854775807 by omega)]
  refine ev_pos (by omega) (ev_pos (by omega) (ev_pos (by omega) (ev_pos (by omega) (Ev.bind (ev_const (in_val _ _ _)) (ev_pos ha (ev_pos (by omega) (Ev.bind (ev_const (in_val _ _ _)) (ev_pos hb hr))))))))
 ·refine Ev.step (fun k => spec_l06Pairs.l0.eq_2 ..) ?_
  simp only [rdl_nat, e0, e1]
  refine ev_pos (by omega) (ev_pos (by omega) ?_)
  by_cases h2 : (l.getD j []).length = 2
  ·refine ev_pos (by omega) (ev_pos (by omega) (Ev.bind (ev_const (in_val _ _ _)) ?_))
   unfold isPair at hp
   rw [h2] at hp
   have hp : (elem ((l.getD j []).getD 0 0) n && elem ((l.getD j []).getD 1 0) n) = false := by simpa using hp
   by_cases ha : elem ((l.getD j []).getD 0 0) n = true
   ·rw [ha, Bool.true_and] at hp
    refine ev_pos ha (ev_pos (by omega) (Ev.bind (ev_const (in_val _ _ _)) (ev_neg ?_ (Ev.now _))))
    exact Bool.eq_false_iff.1 hp
   ·exact ev_neg ha (Ev.now _)
  ·exact ev_neg (by omega) (Ev.now _)
 ·refine Ev.step (fun k => spec_l06Pairs.l0.eq_2 ..) ?_
  exact ev_neg (by omega) (Ev.now _)
theorem pairs_of (n : Nat) (hn : n ≤ 12) (l : List (List Int)) (h : l.all (isPair (n : Int)) = true) : Pairs n l := by
 intro p hp
 have h := List.all_eq_true.1 h p hp
 obtain ⟨h2, h⟩ := (Bool.and_eq_true _ _).mp h
 obtain ⟨ha, hb⟩ := (Bool.and_eq_true _ _).mp h
 have h2 : p.length = 2 := by simpa using h2
 have ha := (elem_iff hn).1 ha
 have hb := (elem_iff hn).1 hb
 exact ⟨h2, ha.1, ha.2, hb.1, hb.2⟩

theorem slicesEqual_ev (l m : List Int) (hl : l.length < 9223372036854775807) : Ev (fun k => slices_Equal_int64_int64.f k l m) (l == m) := by
 unfold slices_Equal_int64_int64.f
 by_cases h : l.length = m.length
 ·refine ev_pos (by omega) ?_
  rw [← list_eq_range l m 0 h]
  refine ev_all (fun (i : Nat) k => slices_Equal_int64_int64.l0 k l m (l.length : Int) (i : Int)) _ l.length (fun j hj hp r hr => ?_) (fun j hj hp => ?_) ?_
  ·refine Ev.step (fun k => slices_Equal_int64_int64.l0.eq_2 ..) ?_
   refine ev_pos (by omega) (ev_pos (by omega) (ev_pos (by omega) (ev_pos (by omega) (ev_pos ?_ ?_))))
   ·rw [rd_nat, rd_nat]; exact eq_of_beq hp
   ·rw [wrap_succ (by omega)]; exact hr
  ·refine Ev.step (fun k => slices_Equal_int64_int64.l0.eq_2 ..) ?_
   refine ev_pos (by omega) (ev_pos (by omega) (ev_pos (by omega) (ev_pos (by omega) (ev_neg ?_ (Ev.now _)))))
   rw [rd_nat, rd_nat]; exact ne_of_beq_false hp
  ·refine Ev.step (fun k => slices_Equal_int64_int64.l0.eq_2 ..) ?_
   exact ev_neg (by omega) (Ev.now _)
 ·rw [len_ne_beq h]
  exact ev_neg (by omega) (Ev.now _)
theorem areSame_ev (l m : List (List Int)) (hl : l.length < 9223372036854775807) (hr : ∀ x ∈ l, x.length < 9223372036854775807) : Ev (fun k => impl_areSame.f k l m) (l == m) := by
 unfold impl_areSame.f slices_EqualFunc_int64_int64_int64_int64_at_slices_Equal_int64_int64.f
 refine Ev.bind (a := (l == m)) ?_ (Ev.now _)
 by_cases h : l.length = m.length
 ·refine ev_pos (by omega) ?_
  rw [← list_eq_range l m [] h]
  have hm : ∀ j, j < l.length → Ev (fun k => slices_Equal_int64_int64.f k (rd_ListInt l (j : Int)) (rd_ListInt m (j : Int))) (l.getD j [] == m.getD j []) := fun j hj => by
   rw [rdl_nat, rdl_nat]
   exact slicesEqual_ev _ _ (hr _ (getD_mem [] hj))
  refine ev_all (fun (i : Nat) k => slices_EqualFunc_int64_int64_int64_int64_at_slices_Equal_int64_int64.l0 k m l (l.length : Int) (i : Int)) _ l.length (fun j hj hp r hr => ?_) (fun j hj hp => ?_) ?_
  ·refine Ev.step (fun k => slices_EqualFunc_int64_int64_int64_int64_at_slices_Equal_int64_int64.l0.eq_2 ..) ?_
   refine ev_pos (by omega) (ev_pos (by omega) (ev_pos (by omega) (ev_pos (by omega) (Ev.bind (hm j hj) (ev_pos hp ?_)))))
   rw [wrap_succ (by omega)]; exact hr
  ·refine Ev.step (fun k => slices_EqualFunc_int64_int64_int64_int64_at_slices_Equal_int64_int64.l0.eq_2 ..) ?_
   exact ev_pos (by omega) (ev_pos (by omega) (ev_pos (by omega) (ev_pos (by omega) (Ev.bind (hm j hj) (ev_neg (by rw [hp]; decide) (Ev.now _))))))
  ·refine Ev.step (fun k => slices_EqualFunc_int64_int64_int64_int64_at_slices_Equal_int64_int64.l0.eq_2 ..) ?_
   exact ev_neg (by omega) (Ev.now _)
 ·rw [len_ne_beq h]
  exact ev_neg (by omega) (Ev.now _)
theorem same_ev (l m : List Int) (hl : l.length < 9223372036854775807) : Ev (fun k => spec_l00Same.f k l m) (l == m) := by
 unfold spec_l00Same.f
 by_cases h : l.length = m.length
 ·refine ev_pos (by omega) ?_
  rw [← list_eq_range l m 0 h]
  refine ev_all (fun (i : Nat) k => spec_l00Same.l0 k l m (i : Int)) _ l.length (fun j hj hp r hr => ?_) (fun j hj hp => ?_) ?_
  ·refine Ev.step (fun k => spec_l00Same.l0.eq_2 ..) ?_
   refine ev_pos (by omega) (ev_pos (by omega) (ev_pos (by omega) (ev_pos ?_ ?_)))
   ·rw [rd_nat, rd_nat]; exact eq_of_beq hp
   ·rw [wrap_succ (by omega)]; exact hr
  ·refine Ev.step (fun k => spec_l00Same.l0.eq_2 ..) ?_
   refine ev_pos (by omega) (ev_pos (by omega) (ev_pos (by omega) (ev_neg ?_ (Ev.now _))))
   rw [rd_nat, rd_nat]; exact ne_of_beq_false hp
  ·refine Ev.step (fun k => spec_l00Same.l0.eq_2 ..) ?_
   exact ev_neg (by omega) (Ev.now _)
 ·rw [len_ne_beq h]
  exact ev_neg (by omega) (Ev.now _)
theorem samePairs_ev (l m : List (List Int)) (hl : l.length < 9223372036854775807) (hr : ∀ x ∈ l, x.length < 9223372036854775807) : Ev (fun k => spec_l06SamePairs.f k l m) (l == m) := by
 unfold spec_l06SamePairs.f
 by_cases h : l.length = m.length
 ·refine ev_pos (by omega) ?_
  rw [← list_eq_range l m [] h]
  have hm : ∀ j, j < l.length → Ev (fun k => spec_l00Same.f k (rd_ListInt l (j : Int)) (rd_ListInt m (j : Int))) (l.getD j [] == m.getD j []) := fun j hj => by
   rw [rdl_nat, rdl_nat]
   exact same_ev _ _ (hr _ (getD_mem [] hj))
  refine ev_all (fun (i : Nat) k => spec_l06SamePairs.l0 k l m (i : Int)) _ l.length (fun j hj hp r hr => ?_) (fun j hj hp => ?_) ?_
  ·refine Ev.step (fun k => spec_l06SamePairs.l0.eq_2 ..) ?_
   refine ev_pos (by omega) (ev_pos (by omega) (ev_pos (by omega) (Ev.bind (hm j hj) (ev_pos hp ?_))))
   rw [wrap_succ (by omega)]; exact hr
  ·refine Ev.step (fun k => spec_l06SamePairs.l0.eq_2 ..) ?_
   exact ev_pos (by omega) (ev_pos (by omega) (ev_pos (by omega) (Ev.bind (hm j hj) (ev_neg (by rw [hp]; decide) (Ev.now _)))))
  ·refine Ev.step (fun k => spec_l06SamePairs.l0.eq_2 ..) ?_
   exact ev_neg (by omega) (Ev.now _)
 ·rw [len_ne_beq h]
  exact ev_neg (by omega) (Ev.now _)
end Go.Proofs.Ytnohkeijhfjbeaa.B

set_option linter.unusedVariables false
set_option linter.unusedSimpArgs false
namespace Go.Proofs.Ytnohkeijhfjbeaa.B
open Go.RowKit Go.Proofs.YtnohkeijhfjbeaaW.PrintWords

def okPoset (a : Int) (l : List (List Int)) : Bool :=
 (decide (0 ≤ a) && decide (a ≤ 12)) && (decide (l.length ≤ 30) && (l.all (isPair a) && (isOrd a.toNat (orderOf a.toNat l) && (coversOf a.toNat (orderOf a.toNat l) == l))))

theorem covers_small {n : Nat} (hn : n ≤ 12) (R : Nat → Nat → Bool) : (coversOf n R).length ≤ 144 := by
 have h := coversOf_length n R
 have : n * n ≤ 12 * 12 := Nat.mul_le_mul hn hn
 omega
theorem covers_two (n : Nat) (R : Nat → Nat → Bool) : ∀ p ∈ coversOf n R, p.length = 2 := by
 have hrow : ∀ x s, (∀ p ∈ s, p.length = 2) → ∀ p ∈ coverRow n R x s, p.length = 2 := fun x s hs => by
  have := iter_inv (fun y s => if covers n R x y then s ++ [[(x : Int), (y : Int)]] else s) (fun i (t : List (List Int)) => ∀ p ∈ t, p.length = 2) n 0 s hs (fun j t _ _ h => by
   split
   ·intro p hp
    rcases List.mem_append.1 hp with hp | hp
    ·exact h p hp
    ·rw [List.mem_singleton.1 hp]; rfl
   ·exact h)
  exact this
 exact iter_inv (coverRow n R) (fun i (t : List (List Int)) => ∀ p ∈ t, p.length = 2) n 0 [] (by simp) (fun j t _ _ h => hrow j t h)

section
variable {a : Int} {l : List (List Int)}
theorem size_nat (h : (decide (0 ≤ a) && decide (a ≤ 12)) = true) : ∃ n : Nat, a = n ∧ n ≤ 12 := by
 simp only [Bool.and_eq_true, decide_eq_true_eq] at h
 obtain ⟨n, rfl⟩ := Int.eq_ofNat_of_zero_le h.1
 exact ⟨n, rfl, by omega⟩
theorem implValidPoset_ev (hl : l.length < 9223372036854775807) : Ev (fun k => impl_ValidPoset.f k a l) (okPoset a l) := by
 unfold impl_ValidPoset.f okPoset
 refine Ev.bind (ev_const (isSize_val a)) ?_
 by_cases hs : (decide (0 ≤ a) && decide (a ≤ 12)) = true
 ·obtain ⟨n, rfl, hn⟩ := size_nat hs
  refine ev_pos hs ?_
  rw [hs, Bool.true_and]
  by_cases h30 : (l.length : Int) > 30
  ·rw [decide_eq_false (show ¬ l.length ≤ 30 by omega), Bool.false_and]
   refine ev_pos h30 ?_
   refine Ev.step (fun k => impl_ValidPoset.j0.eq_2 ..) ?_
   exact ev_pos rfl (Ev.now _)
  ·rw [decide_eq_true (show l.length ≤ 30 by omega), Bool.true_and]
   refine ev_neg h30 (Ev.bind (arePairs_ev _ l hl) ?_)
   refine Ev.step (fun k => impl_ValidPoset.j0.eq_2 ..) ?_
   by_cases hp : l.all (isPair (n : Int)) = true
   ·rw [hp, Bool.true_and, Int.toNat_natCast]
    refine ev_neg (by decide) (Ev.bind (belowOf_ev hn (pairs_of n hn l hp) hl) (Ev.bind (isOrder_ev hn) ?_))
    by_cases ho : isOrd n (orderOf n l) = true
    ·rw [ho, Bool.true_and]
     refine ev_pos rfl (Ev.bind (implCovers_ev hn) (Ev.bind (areSame_ev _ _ ?_ ?_) (Ev.now _)))
     ·have := covers_small hn (orderOf n l); omega
     ·intro x hx; rw [covers_two _ _ x hx]; omega
    ·have ho : isOrd n (orderOf n l) = false := Bool.eq_false_iff.2 ho
     rw [ho, Bool.false_and]
     exact ev_neg (by decide) (Ev.now _)
   ·have hp : l.all (isPair (n : Int)) = false := Bool.eq_false_iff.2 hp
    rw [hp, Bool.false_and]
    exact ev_pos rfl (Ev.now _)
 ·refine ev_neg hs ?_
  rw [Bool.eq_false_iff.2 hs, Bool.false_and]
  refine Ev.step (fun k => impl_ValidPoset.j0.eq_2 ..) ?_
  exact ev_pos rfl (Ev.now _)
theorem specOk_ev (hl : l.length < 9223372036854775807) : Ev (fun k => spec_l06Ok.f k a l) (okPoset a l) := by
 unfold spec_l06Ok.f okPoset
 refine Ev.bind (ev_const (in_val a 0 12)) ?_
 by_cases hs : (decide (0 ≤ a) && decide (a ≤ 12)) = true
 ·obtain ⟨n, rfl, hn⟩ := size_nat hs
  refine ev_pos hs ?_
  rw [hs, Bool.true_and]
  by_cases h30 : (l.length : Int) > 30
  ·rw [decide_eq_false (show ¬ l.length ≤ 30 by omega), Bool.false_and]
   refine ev_pos h30 ?_
   refine Ev.step (fun k => spec_l06Ok.j0.eq_2 ..) ?_
   exact ev_pos rfl (Ev.now _)
  ·rw [decide_eq_true (show l.length ≤ 30 by omega), Bool.true_and]
   refine ev_neg h30 (Ev.bind (specPairs_ev _ l hl) ?_)
   refine Ev.step (fun k => spec_l06Ok.j0.eq_2 ..) ?_
   by_cases hp : l.all (isPair (n : Int)) = true
   ·rw [hp, Bool.true_and, Int.toNat_natCast]
    refine ev_neg (by decide) (Ev.bind (table_ev hn (pairs_of n hn l hp) hl) (Ev.bind (specCovers_ev hn) ?_))
    by_cases ho : isOrd n (orderOf n l) = true
    ·rw [if_pos ho, ho, Bool.true_and]
     refine ev_pos rfl (Ev.bind (samePairs_ev _ _ ?_ ?_) (Ev.now _))
     ·have := covers_small hn (orderOf n l); exact Nat.lt_of_le_of_lt this (by decide)
     ·intro x hx; rw [covers_two _ _ x hx]; omega
    ·rw [if_neg ho]
     have ho : isOrd n (orderOf n l) = false := Bool.eq_false_iff.2 ho
     rw [ho, Bool.false_and]
     exact ev_neg (by decide) (Ev.now _)
   ·have hp : l.all (isPair (n : Int)) = false := Bool.eq_false_iff.2 hp
    rw [hp, Bool.false_and]
    exact ev_pos rfl (Ev.now _)
 ·refine ev_neg hs ?_
  rw [Bool.eq_false_iff.2 hs, Bool.false_and]
  refine Ev.step (fun k => spec_l06Ok.j0.eq_2 ..) ?_
  exact ev_pos rfl (Ev.now _)
theorem okPoset_iff : okPoset a l = true ↔ ∃ n : Nat, a = n ∧ n ≤ 12 ∧ l.length ≤ 30 ∧ l.all (isPair (n : Int)) = true ∧ isOrd n (orderOf n l) = true ∧ coversOf n (orderOf n l) = l := by
 unfold okPoset
 simp only [Bool.and_eq_true, decide_eq_true_eq, beq_iff_eq]
 constructor
 ·rintro ⟨⟨h1, h2⟩, h3, h4, h5, h6⟩
  obtain ⟨n, rfl⟩ := Int.eq_ofNat_of_zero_le h1
  rw [Int.toNat_natCast] at h5 h6
  exact ⟨n, rfl, by omega, h3, h4, h5, h6⟩
 ·rintro ⟨n, rfl, h2, h3, h4, h5, h6⟩
  rw [Int.toNat_natCast]
  exact ⟨⟨by omega, by omega⟩, h3, h4, h5, h6⟩
end
end Go.Proofs.Ytnohkeijhfjbeaa.B

set_option linter.unusedVariables false
set_option linter.unusedSimpArgs false
namespace Go.Proofs.Ytnohkeijhfjbeaa.B
open Go.RowKit Go.Proofs.YtnohkeijhfjbeaaW.PrintWords

theorem mark_val (l : List (List Int)) (a : Int) (h0 : 0 ≤ a) (h1 : a + total l ≤ 9223372036854775807) : laws_markInt64SS.f l a = some (a + total l, markRows l a) := by
 unfold laws_markInt64SS.f
 rw [if_pos ⟨h0, h1⟩]
theorem markInts_get : ∀ (l : List Int) (a : Int) (i : Nat), i < l.length → (markInts l a).getD i 0 = a + i
 | [], a, i, h => by simp at h
 | x :: l, a, 0, h => by simp [markInts]
 | x :: l, a, i + 1, h => by
  have := markInts_get l (a + 1) i (by simpa using h)
  simp only [markInts, List.getD_cons_succ, this]
  omega
theorem heldInt64S_ev (l : List Int) (a : Int) (h0 : 0 ≤ a) (h1 : a + l.length ≤ 9223372036854775807) : Ev (fun k => laws_heldInt64S.f k (markInts l a) a) (a + l.length) := by
 unfold laws_heldInt64S.f
 have h := ev_find (r := a + l.length) (fun (i : Nat) k => laws_heldInt64S.l0 k (markInts l a) (a + i) (i : Int)) (fun _ => false) l.length 0 (fun j _ hj _ r hr => by
  refine Ev.step (fun k => laws_heldInt64S.l0.eq_2 ..) ?_
  rw [rd_nat, markInts_get l a j (by omega), markInts_length, wrap_succ (by omega), wrap_small (by omega) (by omega), show a + (j : Int) + 1 = a + ((j + 1 : Nat) : Int) by omega]
  (repeat (first | refine ev_pos (by omega) ?_ | refine ev_neg (by omega) ?_))
  exact hr) (fun _ _ _ h => by cases h) (fun _ => by
  refine Ev.step (fun k => laws_heldInt64S.l0.eq_2 ..) ?_
  rw [markInts_length]
  exact ev_neg (by omega) (ev_eq (Ev.now _) (by omega)))
 simpa using h
theorem markRows_get : ∀ (l : List (List Int)) (a : Int) (i : Nat), i < l.length → (markRows l a).getD i [] = markInts (l.getD i []) (a + total (l.take i))
 | [], a, i, h => by simp at h
 | x :: l, a, 0, h => by simp [markRows, total]
 | x :: l, a, i + 1, h => by
  have := markRows_get l (a + x.length) i (by simpa using h)
  simp only [markRows, List.getD_cons_succ, this, List.take_succ_cons, total]
  congr 1
  omega
theorem total_take_succ' (l0 : List (List Int)) (k : Nat) (hk : k < l0.length) : total (l0.take (k + 1)) = total (l0.take k) + (l0.getD k []).length := by
 have ht : l0.take (k + 1) = l0.take k ++ [l0.getD k []] := by
  rw [List.take_succ_eq_append_getElem hk, List.getD_eq_getElem?_getD, List.getElem?_eq_getElem hk]; rfl
 rw [ht, total_append]; simp [total]
theorem total_take_le' (l0 : List (List Int)) (k : Nat) : total (l0.take k) ≤ total l0 := by
 have h := total_append (l0.take k) (l0.drop k)
 rw [List.take_append_drop] at h
 have := total_nonneg (l0.drop k)
 omega
theorem heldInt64SS_ev (l : List (List Int)) (a : Int) (h0 : 0 ≤ a) (h1 : a + total l ≤ 9223372036854775807) (hl : l.length < 9223372036854775807) : Ev (fun k => laws_heldInt64SS.f k (markRows l a) a) (a + total l) := by
 unfold laws_heldInt64SS.f
 have h := ev_find (r := a + total l) (fun (i : Nat) k => laws_heldInt64SS.l0 k (markRows l a) (a + total (l.take i)) (i : Int)) (fun _ => false) l.length 0 (fun j _ hj _ r hr => by
  have hrd : rd_ListInt (markRows l a) (j : Int) = markInts (l.getD j []) (a + total (l.take j)) := by
   rw [← markRows_get l a j (by omega)]; simp [rd_ListInt]
  have e1 := total_take_succ' l j (by omega)
  have e2 := total_take_le' l (j + 1)
  have e3 := total_nonneg (l.take j)
  refine Ev.step (fun k => laws_heldInt64SS.l0.eq_2 ..) ?_
  rw [hrd, markRows_length, wrap_succ (by omega)]
  (repeat (first | refine ev_pos (by omega) ?_ | refine ev_neg (by omega) ?_))
  refine Ev.bind (heldInt64S_ev _ _ (by omega) (by omega)) (ev_neg (by omega) ?_)
  rw [show a + total (l.take j) + ((l.getD j []).length : Int) = a + total (l.take (j + 1)) by omega]
  exact hr) (fun _ _ _ h => by cases h) (fun _ => by
  refine Ev.step (fun k => laws_heldInt64SS.l0.eq_2 ..) ?_
  rw [markRows_length]
  refine ev_neg (by omega) (ev_eq (Ev.now _) ?_)
  rw [Nat.zero_add, List.take_length])
 simpa [total] using h
end Go.Proofs.Ytnohkeijhfjbeaa.B

set_option linter.unusedVariables false
set_option linter.unusedSimpArgs false
namespace Go.Proofs.Ytnohkeijhfjbeaa.B
open Go.RowKit Go.Proofs.YtnohkeijhfjbeaaW.PrintWords

theorem row_le_total : ∀ (l : List (List Int)) (x : List Int), x ∈ l → x.length ≤ total l
 | [], x, h => by cases h
 | y :: l, x, h => by
  simp only [total]
  rcases List.mem_cons.1 h with rfl | h
  ·have := total_nonneg l; omega
  ·have := row_le_total l x h; omega
theorem total_le_of {l : List (List Int)} {m : Nat} (h : ∀ x ∈ l, x.length ≤ m) : total l ≤ l.length * m := by
 induction l with
 | nil => simp [total]
 | cons x l ih =>
  have h1 := h x List.mem_cons_self
  have h2 := ih (fun y hy => h y (List.mem_cons_of_mem _ hy))
  simp only [total, List.length_cons]
  rw [Int.natCast_add, Int.add_mul]
  omega
theorem eqPoset_ev (a b : Int) (l m : List (List Int)) (hl : l.length < 9223372036854775807) (hr : ∀ x ∈ l, x.length < 9223372036854775807) : Ev (fun k => laws_eqPoset.f k a l b m) (decide (a = b) && (l == m)) := by
 unfold laws_eqPoset.f
 by_cases h : a = b
 ·refine ev_pos h (Ev.bind (eqInt64SS_ev l m hl hr) ?_)
  rw [decide_eq_true h, Bool.true_and]
  cases hh : (l == m) with
  | true => exact ev_pos rfl (Ev.now _)
  | false => exact ev_neg (by decide) (Ev.now _)
 ·rw [decide_eq_false h, Bool.false_and]
  exact ev_neg h (Ev.now _)
theorem eqPoset_self (a : Int) (l : List (List Int)) (hl : l.length < 9223372036854775807) (hr : ∀ x ∈ l, x.length < 9223372036854775807) : Ev (fun k => laws_eqPoset.f k a l a l) true :=
 ev_eq (eqPoset_ev a a l l hl hr) (by simp)
theorem toPoset_ev (a : Int) (l : List (List Int)) (hl : l.length ≤ 1048576) (hr : ∀ x ∈ l, x.length ≤ 1048576) : Ev (fun k => laws_toPoset.f k a l) (a, l) := by
 unfold laws_toPoset.f
 exact Ev.bind (toInt64SS_ev l hl hr) (Ev.now _)
theorem szPoset_ev (a : Int) (l : List (List Int)) (b : Int) (hw : WfLL l) (h0 : 0 ≤ b) (h1 : b ≤ 9223372036854775807) :
  (∃ t, Ev (fun k => laws_szPoset.f k a l b) t ∧ t < 0) ∨ (Ev (fun k => laws_szPoset.f k a l b) (b - l.length - total l) ∧ l.length + total l ≤ b) := by
 unfold laws_szPoset.f
 rcases szInt64SS_ev l b hw h0 h1 with ⟨t, ht, hn⟩ | ⟨ht, hb⟩
 ·exact .inl ⟨-1, Ev.bind ht (ev_pos hn (Ev.now _)), by omega⟩
 ·exact .inr ⟨Ev.bind ht (ev_neg (by omega) (Ev.now _)), hb⟩
theorem heldPoset_ev (a : Int) (l : List (List Int)) (b : Int) (h0 : 0 ≤ b) (h1 : b + total l ≤ 9223372036854775807) (hl : l.length < 9223372036854775807) : Ev (fun k => laws_heldPoset.f k a (markRows l b) b) (b + total l) := by
 unfold laws_heldPoset.f
 have := total_nonneg l
 exact Ev.bind (heldInt64SS_ev l b h0 h1 hl) (ev_neg (by omega) (Ev.now _))
theorem two_total {l : List (List Int)} (h : l.length ≤ 144) (h2 : ∀ x ∈ l, x.length = 2) : total l ≤ 288 := by
 have := total_le_of (l := l) (m := 2) (fun x hx => Nat.le_of_eq (h2 x hx))
 omega

end Go.Proofs.Ytnohkeijhfjbeaa.B

set_option linter.unusedVariables false
set_option linter.unusedSimpArgs false
namespace Go.Proofs.Ytnohkeijhfjbeaa.B
open Go.RowKit Go.Proofs.YtnohkeijhfjbeaaW.PrintWords

theorem wRound_eq (n x : Nat) (R : Nat → Nat → Bool) (hx : x < n) : ∀ a c, wRound n x R a c = if a < n ∧ c < n then (R a c || R a x && R x c) else R a c := by
 have hrow : ∀ (a : Nat) (S : Nat → Nat → Bool), a < n → (∀ c, S x c = R x c) → (∀ c, S a c = R a c) → ∀ a' c', wRow n x a S a' c' = if a' = a ∧ c' < n then (R a c' || R a x && R x c') else S a' c' := by
  intro a S ha hSx hSa
  have := iter_inv (wCell x a) (fun i (T : Nat → Nat → Bool) => ∀ a' c', T a' c' = if a' = a ∧ c' < i then (R a c' || R a x && R x c') else S a' c') n 0 S (fun a' c' => by simp) (fun j T _ _ hT a' c' => by
   have hax : T a x = R a x := by
    rw [hT]
    split
    ·cases R a x <;> simp
    ·exact hSa x
   have hxj : T x j = R x j := by
    rw [hT]
    split
    ·rename_i h; omega
    ·exact hSx j
   have haj : T a j = R a j := by
    rw [hT, if_neg (by omega)]; exact hSa j
   simp only [wCell, upd]
   by_cases h : a' = a ∧ c' = j
   ·obtain ⟨rfl, rfl⟩ := h
    rw [if_pos ⟨rfl, rfl⟩, if_pos ⟨rfl, by omega⟩, haj, hax, hxj]
   ·rw [if_neg h, hT]
    by_cases h2 : a' = a ∧ c' < j
    ·rw [if_pos h2, if_pos ⟨h2.1, by omega⟩]
    ·rw [if_neg h2, if_neg (by omega)])
  rw [Nat.zero_add] at this
  exact this
 have := iter_inv (wRow n x) (fun i (T : Nat → Nat → Bool) => ∀ a c, T a c = if a < i ∧ c < n then (R a c || R a x && R x c) else R a c) n 0 R (fun a c => by simp) (fun j T _ hj hT => by
  have hTx : ∀ c, T x c = R x c := fun c => by
   rw [hT]
   split
   ·cases R x c <;> simp
   ·rfl
  have hTj : ∀ c, T j c = R j c := fun c => by rw [hT, if_neg (by omega)]
  intro a c
  rw [hrow j T (by omega) hTx hTj a c]
  by_cases h : a = j ∧ c < n
  ·obtain ⟨rfl, hc⟩ := h
   rw [if_pos ⟨rfl, hc⟩, if_pos ⟨by omega, hc⟩]
  ·rw [if_neg h, hT]
   by_cases h2 : a < j ∧ c < n
   ·rw [if_pos h2, if_pos ⟨by omega, h2.2⟩]
   ·rw [if_neg h2, if_neg (by omega)])
 rw [Nat.zero_add] at this
 exact this
def Thru (n m : Nat) (R : Nat → Nat → Bool) : Prop := ∀ a y c, a < n → y < m → c < n → R a y = true → R y c = true → R a c = true
theorem warshall_thru (n : Nat) (R : Nat → Nat → Bool) : Thru n n (warshall n R) := by
 have := iter_inv (wRound n) (fun i T => i ≤ n → Thru n i T) n 0 R (fun _ a y c _ h => by omega) (fun m T _ hm hT _ => by
  have hmn : m < n := by omega
  have hT := hT (by omega)
  have e := wRound_eq n m T hmn
  intro a y c ha hy hc h1 h2
  have hyn : y < n := by omega
  rw [e, if_pos ⟨ha, hyn⟩] at h1
  rw [e, if_pos ⟨hyn, hc⟩] at h2
  rw [e, if_pos ⟨ha, hc⟩]
  simp only [Bool.or_eq_true, Bool.and_eq_true] at h1 h2 ⊢
  by_cases hym : y = m
  ·subst hym
   right
   exact ⟨h1.elim id (fun h => h.1), h2.elim id (fun h => h.2)⟩
  ·have hy : y < m := by omega
   rcases h1 with h1 | ⟨h1, h1'⟩
   ·rcases h2 with h2 | ⟨h2, h2'⟩
    ·exact .inl (hT a y c ha hy hc h1 h2)
    ·exact .inr ⟨hT a y m ha hy hmn h1 h2, h2'⟩
   ·rcases h2 with h2 | ⟨h2, h2'⟩
    ·exact .inr ⟨h1, hT m y c hmn hy hc h1' h2⟩
    ·exact .inr ⟨h1, h2'⟩)
 rw [Nat.zero_add] at this
 exact this (Nat.le_refl _)
theorem warshall_le (n : Nat) (R : Nat → Nat → Bool) (a c : Nat) (h : R a c = true) : warshall n R a c = true :=
 iter_inv (wRound n) (fun _ T => T a c = true) n 0 R h (fun m T _ hm hT => by
  rw [wRound_eq n m T (by omega)]
  split
  ·rw [hT]; rfl
  ·exact hT)
theorem pairs_le (l : List (List Int)) (R : Nat → Nat → Bool) (a c : Nat) (h : R a c = true) : pairsRel l R a c = true :=
 iter_inv _ (fun _ (T : Nat → Nat → Bool) => T a c = true) l.length 0 R h (fun m T _ hm hT => by
  simp only [upd]
  split
  ·rfl
  ·exact hT)
section
variable {n : Nat} {l : List (List Int)} {a b c : Nat}
theorem order_refl (a : Nat) : orderOf n l a a = true := warshall_le n _ a a (pairs_le l _ a a (by simp [diag]))
theorem order_trans (ha : a < n) (hb : b < n) (hc : c < n) (h1 : orderOf n l a b = true) (h2 : orderOf n l b c = true) : orderOf n l a c = true := warshall_thru n _ a b c ha hb hc h1 h2
theorem order_anti (ho : isOrd n (orderOf n l) = true) (ha : a < n) (hb : b < n) (h1 : orderOf n l a b = true) (h2 : orderOf n l b a = true) : a = b := by
 apply Classical.byContradiction
 intro hne
 have := isOrd_iff.1 ho a b ha hb hne h1
 rw [h2] at this; cases this
end
end Go.Proofs.Ytnohkeijhfjbeaa.B

set_option linter.unusedVariables false
set_option linter.unusedSimpArgs false
namespace Go.Proofs.Ytnohkeijhfjbeaa.B
open Go.RowKit Go.Proofs.YtnohkeijhfjbeaaW.PrintWords

theorem order_ev {n : Nat} {l : List (List Int)} (hn : n ≤ 12) (hp : Pairs n l) (hl : l.length < 9223372036854775807) : Ev (fun k => impl_Poset_order.f k (n : Int) l) (tab n (orderOf n l)) := by
 unfold impl_Poset_order.f
 exact Ev.bind (belowOf_ev hn hp hl) (Ev.now _)
theorem specOrder_ev {n : Nat} {l : List (List Int)} (hn : n ≤ 12) (hp : Pairs n l) (hl : l.length < 9223372036854775807) : Ev (fun k => spec_l06Order.f k (n : Int) l) (tab n (orderOf n l)) := by
 unfold spec_l06Order.f
 exact Ev.bind (table_ev hn hp hl) (Ev.now _)
theorem specElement_val (a : Int) (l : List (List Int)) (x : Int) : spec_l06Element.f a l x = some (elem x a) := by
 unfold spec_l06Element.f
 rw [in_val]; rfl
end Go.Proofs.Ytnohkeijhfjbeaa.B

set_option linter.unusedVariables false
set_option linter.unusedSimpArgs false
namespace Go.Proofs.Ytnohkeijhfjbeaa.B
open Go.RowKit Go.Proofs.YtnohkeijhfjbeaaW.PrintWords

def has (s : List Int) (x : Int) : Bool := s.any (fun z => z == x)
def ready (n : Nat) (R : Nat → Nat → Bool) (s : List Int) (x : Nat) : Bool := !has s (x : Int) && (List.range n).all fun y => y == x || (!R y x || has s (y : Int))
def next (n : Nat) (R : Nat → Nat → Bool) (s : List Int) : List Int := match (List.range n).find? (ready n R s) with
 | some x => s ++ [(x : Int)]
 | none => s
def firstExt (n : Nat) (R : Nat → Nat → Bool) : List Int := iter (fun _ s => next n R s) 0 n []

section
variable {n : Nat} {R : Nat → Nat → Bool} {s : List Int}
theorem next_some {x : Nat} (hx : x < n) (h : ready n R s x = true) (hm : ∀ m, m < x → ready n R s m = false) : next n R s = s ++ [(x : Int)] := by
 have : (List.range n).find? (ready n R s) = some x := by
  rw [List.find?_range_eq_some]
  exact ⟨h, List.mem_range.2 hx, fun j hj => by rw [hm j hj]; rfl⟩
 unfold next; rw [this]
theorem next_none (hm : ∀ m, m < n → ready n R s m = false) : next n R s = s := by
 have : (List.range n).find? (ready n R s) = none := by
  rw [List.find?_eq_none]
  intro x hx
  rw [hm x (List.mem_range.1 hx)]; decide
 unfold next; rw [this]
theorem contains_ev (s : List Int) (x : Int) (hl : s.length < 9223372036854775807) : Ev (fun k => slices_Contains_int64_int64.f k s x) (has s x) := by
 obtain ⟨t, ht, hd⟩ := ev_index_list s 0 (fun i k => slices_Index_int64_int64.l0 k s x (s.length : Int) (i : Int)) (fun z => z == x) (fun j hj hp r hr => by
  refine Ev.step (fun k => slices_Index_int64_int64.l0.eq_2 ..) ?_
  rw [rd_nat, wrap_succ (by omega)]
  exact ev_pos (by omega) (ev_pos (by omega) (ev_pos (by omega) (ev_neg (by intro e; rw [← e] at hp; simp at hp) hr)))) (fun j hj hp => by
  refine Ev.step (fun k => slices_Index_int64_int64.l0.eq_2 ..) ?_
  rw [rd_nat]
  exact ev_pos (by omega) (ev_pos (by omega) (ev_pos (by omega) (ev_pos (eq_of_beq hp).symm (Ev.now _))))) (by
  refine Ev.step (fun k => slices_Index_int64_int64.l0.eq_2 ..) ?_
  exact ev_neg (by omega) (Ev.now _))
 unfold slices_Contains_int64_int64.f slices_Index_int64_int64.f
 exact Ev.bind ht (ev_eq (Ev.now _) hd)
theorem has_ev (s : List Int) (x : Int) (hl : s.length < 9223372036854775807) : Ev (fun k => spec_l00Has.f k s x) (has s x) := by
 unfold spec_l00Has.f
 refine ev_find (fun (i : Nat) k => spec_l00Has.l0 k s x (i : Int)) (fun i => s.getD i 0 == x) s.length 0 (fun j _ hj hp r hr => ?_) (fun j _ hj hp _ => ?_) (fun hall => ?_)
 ·refine Ev.step (fun k => spec_l00Has.l0.eq_2 ..) ?_
  rw [rd_nat, wrap_succ (by omega)]
  exact ev_pos (by omega) (ev_pos (by omega) (ev_neg (by intro e; rw [← e] at hp; simp at hp) hr))
 ·have : has s x = true := List.any_eq_true.2 ⟨_, getD_mem 0 (show j < s.length by omega), hp⟩
  rw [this]
  refine Ev.step (fun k => spec_l00Has.l0.eq_2 ..) ?_
  rw [rd_nat]
  exact ev_pos (by omega) (ev_pos (by omega) (ev_pos (eq_of_beq hp) (Ev.now _)))
 ·have : has s x = false := by
   rw [has, ← any_range s 0, Bool.eq_false_iff]
   intro h
   obtain ⟨i, hi, hp⟩ := List.any_eq_true.1 h
   rw [hall i (Nat.zero_le _) (by have := List.mem_range.1 hi; omega)] at hp; cases hp
  rw [this, Nat.zero_add]
  refine Ev.step (fun k => spec_l00Has.l0.eq_2 ..) ?_
  exact ev_neg (by omega) (Ev.now _)

theorem specReady (hn : n ≤ 12) {x : Nat} (hx : x < n) (hs : s.length ≤ 12) {r : List Int} (h : Ev (fun k => if ready n R s x = true then spec_l06First.l0 k (tab n R) (s ++ [(x : Int)]) else spec_l06First.l1 k (tab n R) s ((x + 1 : Nat) : Int)) r) : Ev (fun k => spec_l06First.l1 k (tab n R) s (x : Int)) r := by
 refine Ev.step (fun k => spec_l06First.l1.eq_2 ..) ?_
 rw [tab_length]
 refine ev_pos (by omega) (Ev.bind (has_ev s _ (by omega)) ?_)
 have exit : ∀ (y : Nat), y ≤ n → ready n R s x = false → Ev (fun k => spec_l06First.l2 k (tab n R) s (x : Int) false (y : Int)) r := fun y hy hf => by
  rw [hf] at h
  have h : Ev (fun k => spec_l06First.l1 k (tab n R) s ((x + 1 : Nat) : Int)) r := h
  refine Ev.step (fun k => spec_l06First.l2.eq_2 ..) ?_
  rw [tab_length, wrap_succ (show x < 9223372036854775807 by omega)]
  by_cases hyn : y < n
  ·exact ev_pos (by omega) (ev_neg (by decide) h)
  ·exact ev_neg (by omega) (ev_neg (by decide) h)
 cases hh : has s (x : Int) with
 | true => exact exit 0 (Nat.zero_le _) (by simp [ready, hh])
 | false =>
  refine ev_find (fun (y : Nat) k => spec_l06First.l2 k (tab n R) s (x : Int) true (y : Int)) (fun y => !(y == x || (!R y x || has s (y : Int)))) n 0 (fun y _ hy hp r hr => ?_) (fun y _ hy hp _ => ?_) (fun hall => ?_)
  ·have hy : y < n := by omega
   refine Ev.step (fun k => spec_l06First.l2.eq_2 ..) ?_
   simp only [tab_length, tab_get hy, row_length, row_get hx, wrap_succ (show y < 9223372036854775807 by omega)]
   refine ev_pos (by omega) (ev_pos (by simp) ?_)
   by_cases e : y = x
   ·exact ev_pos (by omega) hr
   ·refine ev_neg (by omega) (ev_pos (by omega) (ev_pos (by omega) (ev_pos (by omega) ?_)))
    have e' : (y == x) = false := by simpa using e
    rw [e', Bool.false_or] at hp
    cases h1 : R y x with
    | false => exact ev_neg (by decide) hr
    | true =>
     rw [h1] at hp
     have h2 : has s (y : Int) = true := by simpa using hp
     exact ev_pos rfl (Ev.bind (ev_eq (has_ev s _ (by omega)) h2) hr)
  ·have hy : y < n := by omega
   have e : y ≠ x := by rintro rfl; simp at hp
   have e' : (y == x) = false := by simpa using e
   rw [e', Bool.false_or] at hp
   have h1 : R y x = true := by
    cases h1 : R y x with
    | true => rfl
    | false => rw [h1] at hp; simp at hp
   have h2 : has s (y : Int) = false := by rw [h1] at hp; simpa using hp
   refine Ev.step (fun k => spec_l06First.l2.eq_2 ..) ?_
   simp only [tab_length, tab_get hy, row_length, row_get hx, wrap_succ (show y < 9223372036854775807 by omega)]
   refine ev_pos (by omega) (ev_pos (by simp) (ev_neg (by omega) (ev_pos (by omega) (ev_pos (by omega) (ev_pos (by omega) (ev_pos h1 (Ev.bind (ev_eq (has_ev s _ (by omega)) h2) (exit (y + 1) (by omega) ?_))))))))
   unfold ready
   rw [hh, Bool.not_false, Bool.true_and, Bool.eq_false_iff]
   intro hc
   have := List.all_eq_true.1 hc y (List.mem_range.2 hy)
   rw [e', h1, h2] at this
   cases this
  ·have hr : ready n R s x = true := by
    unfold ready
    rw [hh, Bool.not_false, Bool.true_and]
    exact List.all_eq_true.2 (fun y hy => (Bool.not_eq_false' _).mp (hall y (Nat.zero_le _) (by have := List.mem_range.1 hy; omega)))
   rw [hr] at h
   have h : Ev (fun k => spec_l06First.l0 k (tab n R) (s ++ [(x : Int)])) r := h
   rw [Nat.zero_add]
   refine Ev.step (fun k => spec_l06First.l2.eq_2 ..) ?_
   rw [tab_length]
   exact ev_neg (by omega) (ev_pos rfl (ev_pos (by omega) h))
end
theorem countP_lt {α : Type} (p q : α → Bool) : ∀ (l : List α), (∀ x ∈ l, p x = true → q x = true) → (∃ x ∈ l, q x = true ∧ p x = false) → l.countP p < l.countP q
 | [], _, h => by obtain ⟨x, hx, _⟩ := h; cases hx
 | a :: l, h, hx => by
  have hle : l.countP p ≤ l.countP q := List.countP_mono_left (fun x hx => h x (List.mem_cons_of_mem _ hx))
  obtain ⟨x, hm, hq, hp⟩ := hx
  rcases List.mem_cons.1 hm with rfl | hm
  ·simp only [List.countP_cons, hq, hp]
   simp; omega
  ·have := countP_lt p q l (fun x hx => h x (List.mem_cons_of_mem _ hx)) ⟨x, hm, hq, hp⟩
   have ha := h a List.mem_cons_self
   simp only [List.countP_cons]
   cases hpa : p a with
   | false => simp; cases q a <;> simp <;> omega
   | true => rw [ha hpa]; simp; omega
theorem subset_length : ∀ (l s : List Int), l.Nodup → (∀ x ∈ l, x ∈ s) → l.length ≤ s.length
 | [], s, _, _ => Nat.zero_le _
 | a :: l, s, hd, h => by
  have ha := h a List.mem_cons_self
  obtain ⟨hna, hd'⟩ := List.nodup_cons.1 hd
  have := subset_length l (s.erase a) hd' (fun x hx => by
   have hne : x ≠ a := by rintro rfl; exact hna hx
   exact (List.mem_erase_of_ne hne).2 (h x (List.mem_cons_of_mem _ hx)))
  rw [List.length_erase_of_mem ha] at this
  have : 0 < s.length := List.length_pos_of_mem ha
  simp only [List.length_cons]; omega
theorem has_iff {s : List Int} {x : Int} : has s x = true ↔ x ∈ s := by
 unfold has
 rw [List.any_eq_true]
 constructor
 ·rintro ⟨z, hz, e⟩; rw [← eq_of_beq e]; exact hz
 ·intro h; exact ⟨x, h, beq_self_eq_true x⟩
structure Ord (n : Nat) (R : Nat → Nat → Bool) : Prop where
 refl : ∀ a, a < n → R a a = true
 trans : ∀ a b c, a < n → b < n → c < n → R a b = true → R b c = true → R a c = true
 anti : ∀ a b, a < n → b < n → R a b = true → R b a = true → a = b
theorem ready_exists {n : Nat} {R : Nat → Nat → Bool} (ho : Ord n R) {s : List Int} (hs : s.length < n) : ∃ x, x < n ∧ ready n R s x = true := by
 have hfree : ∃ c x, x < n ∧ has s (x : Int) = false ∧ (List.range n).countP (fun y => R y x) = c := by
  apply Classical.byContradiction
  intro hc
  have hall : ∀ x, x < n → ((x : Nat) : Int) ∈ s := fun x hx => by
   cases h : has s (x : Int) with
   | true => exact has_iff.1 h
   | false => exact absurd ⟨_, x, hx, h, rfl⟩ hc
  have := subset_length ((List.range n).map (fun x => ((x : Nat) : Int))) s (List.nodup_iff_pairwise_ne.2 (by
   rw [List.pairwise_map]
   exact List.Pairwise.imp (fun h e => h (Int.ofNat.inj e)) (List.nodup_iff_pairwise_ne.1 List.nodup_range))) (fun x hx => by
   obtain ⟨y, hy, rfl⟩ := List.mem_map.1 hx
   exact hall y (List.mem_range.1 hy))
  rw [List.length_map, List.length_range] at this
  omega
 obtain ⟨c, ⟨x, hx, hf, hc⟩, hmin⟩ := least hfree
 refine ⟨x, hx, ?_⟩
 unfold ready
 rw [hf, Bool.not_false, Bool.true_and]
 refine List.all_eq_true.2 (fun y hy => ?_)
 have hy := List.mem_range.1 hy
 by_cases e : y = x
 ·simp [e]
 ·cases h1 : R y x with
  | false => simp
  | true =>
   cases h2 : has s (y : Int) with
   | true => simp
   | false =>
    exfalso
    refine hmin _ ?_ ⟨y, hy, h2, rfl⟩
    rw [← hc]
    refine countP_lt _ _ _ (fun z hz hzy => ho.trans z y x (List.mem_range.1 hz) hy hx hzy h1) ⟨x, List.mem_range.2 hx, ho.refl x hx, ?_⟩
    cases h3 : R x y with
    | false => rfl
    | true => exact absurd (ho.anti y x hy hx h1 h3) e
theorem next_length {n : Nat} {R : Nat → Nat → Bool} (ho : Ord n R) {s : List Int} (hs : s.length < n) : (next n R s).length = s.length + 1 := by
 obtain ⟨x, ⟨hx, hr⟩, hm⟩ := least (ready_exists ho hs)
 rw [next_some hx hr (fun m hm' => by
  cases h : ready n R s m with
  | false => rfl
  | true => exact absurd ⟨by omega, h⟩ (hm m hm'))]
 simp
theorem specFirst_ev {n : Nat} {R : Nat → Nat → Bool} (hn : n ≤ 12) (ho : Ord n R) : Ev (fun k => spec_l06First.f k (tab n R)) (firstExt n R) := by
 unfold spec_l06First.f
 have h := le_iter_inv (fun (s : List Int) (i : Nat) k => spec_l06First.l0 k (tab n R) s) (fun _ s => next n R s) (fun i s => s.length = i) n 0 [] rfl (fun i s _ hi hs => ⟨fun r hr => by
  refine Ev.step (fun k => spec_l06First.l0.eq_2 ..) ?_
  rw [tab_length]
  refine ev_pos (by omega) ?_
  refine ev_find (fun (x : Nat) k => spec_l06First.l1 k (tab n R) s (x : Int)) (ready n R s) n 0 (fun x _ hx hp r hr => ?_) (fun x _ hx hp hm => ?_) (fun hall => ?_)
  ·refine specReady hn (by omega) (by omega) ?_
   rw [hp]; exact hr
  ·refine specReady hn (by omega) (by omega) ?_
   rw [hp]
   rw [next_some (by omega) hp (fun m hm' => hm m (Nat.zero_le _) hm')] at hr
   exact hr
  ·obtain ⟨x, hx, hr'⟩ := ready_exists ho (show s.length < n by omega)
   have := hall x (Nat.zero_le _) (by omega)
   rw [hr'] at this
   exact absurd this (by decide), (next_length ho (show s.length < n by omega)).trans (by rw [hs])⟩)
 refine h.1 _ ?_
 refine Ev.step (fun k => spec_l06First.l0.eq_2 ..) ?_
 rw [tab_length]
 have := h.2
 refine ev_neg ?_ (Ev.now _)
 rw [this]; omega
theorem ord_of {n : Nat} {l : List (List Int)} (h : isOrd n (orderOf n l) = true) : Ord n (orderOf n l) :=
 ⟨fun a _ => order_refl a, fun _ _ _ ha hb hc h1 h2 => order_trans ha hb hc h1 h2, fun _ _ ha hb h1 h2 => order_anti h ha hb h1 h2⟩
end Go.Proofs.Ytnohkeijhfjbeaa.B

set_option linter.unusedVariables false
set_option linter.unusedSimpArgs false
namespace Go.Proofs.Ytnohkeijhfjbeaa.B
open Go.RowKit Go.Proofs.YtnohkeijhfjbeaaW.PrintWords

structure Ext (n : Nat) (R : Nat → Nat → Bool) (i : Nat) (s : List Int) : Prop where
 len : s.length = i
 nodup : s.Nodup
 mem : ∀ y ∈ s, 0 ≤ y ∧ y < n
 low : ∀ j x, s[j]? = some x → ∀ y, y < n → (y : Int) ≠ x → R y x.toNat = true → (y : Int) ∈ s.take j
section
variable {n : Nat} {R : Nat → Nat → Bool}
theorem ext_next (ho : Ord n R) {i : Nat} {s : List Int} (hi : i < n) (h : Ext n R i s) : Ext n R (i + 1) (next n R s) := by
 obtain ⟨x, ⟨hx, hr⟩, hm⟩ := least (ready_exists ho (show s.length < n by rw [h.len]; exact hi))
 rw [next_some hx hr (fun m hm' => by
  cases h' : ready n R s m with
  | false => rfl
  | true => exact absurd ⟨by omega, h'⟩ (hm m hm'))]
 obtain ⟨hnot, hall⟩ := (Bool.and_eq_true _ _).mp hr
 have hxs : (x : Int) ∉ s := fun hc => by rw [has_iff.2 hc] at hnot; cases hnot
 refine ⟨by simp [h.len], ?_, ?_, ?_⟩
 ·rw [List.nodup_append]
  refine ⟨h.nodup, by simp, fun a ha b hb => ?_⟩
  rw [List.mem_singleton.1 hb]
  rintro rfl
  exact hxs ha
 ·intro y hy
  rcases List.mem_append.1 hy with hy | hy
  ·exact h.mem y hy
  ·rw [List.mem_singleton.1 hy]; omega
 ·intro j z hz y hy hne hR
  rcases Nat.lt_or_ge j s.length with hj | hj
  ·rw [List.getElem?_append_left hj] at hz
   rw [List.take_append_of_le_length (by omega)]
   exact h.low j z hz y hy hne hR
  ·rw [List.getElem?_append_right hj] at hz
   have hj0 : j - s.length = 0 := by
    have := (List.getElem?_eq_some_iff.1 hz).1
    simpa using this
   have hjs : j = s.length := by omega
   rw [hj0] at hz
   simp only [List.getElem?_cons_zero, Option.some.injEq] at hz
   subst hz
   rw [hjs, List.take_left']
   ·rw [Int.toNat_natCast] at hR
    have := List.all_eq_true.1 hall y (List.mem_range.2 hy)
    have hne' : (y == x) = false := by simpa using fun e : y = x => hne (by rw [e])
    rw [hne', hR] at this
    exact has_iff.1 (by simpa using this)
   ·rfl
theorem firstExt_ext (ho : Ord n R) : Ext n R n (firstExt n R) := by
 have := iter_inv (fun _ s => next n R s) (fun i s => Ext n R i s) n 0 [] ⟨rfl, List.nodup_nil, by simp, by simp⟩ (fun i s _ hi h => ext_next ho (by omega) h)
 rw [Nat.zero_add] at this
 exact this
theorem range_nodup (n : Nat) : ((List.range n).map (fun x => ((x : Nat) : Int))).Nodup := List.nodup_iff_pairwise_ne.2 (by
 rw [List.pairwise_map]
 exact List.Pairwise.imp (fun h e => h (Int.ofNat.inj e)) (List.nodup_iff_pairwise_ne.1 List.nodup_range))
theorem ext_all {s : List Int} (h : Ext n R n s) {y : Nat} (hy : y < n) : (y : Int) ∈ s := by
 apply Classical.byContradiction
 intro hc
 have hmem : (y : Int) ∈ (List.range n).map (fun x => ((x : Nat) : Int)) := List.mem_map.2 ⟨y, List.mem_range.2 hy, rfl⟩
 have := subset_length s (((List.range n).map (fun x => ((x : Nat) : Int))).erase y) h.nodup (fun z hz => by
  obtain ⟨h0, h1⟩ := h.mem z hz
  obtain ⟨v, rfl⟩ := Int.eq_ofNat_of_zero_le h0
  refine (List.mem_erase_of_ne (fun e => hc (by rw [← e]; exact hz))).2 (List.mem_map.2 ⟨v, List.mem_range.2 (by omega), rfl⟩))
 rw [List.length_erase_of_mem hmem, List.length_map, List.length_range, h.len] at this
 omega
theorem sum_perm {l m : List Int} (h : l.Perm m) : l.sum = m.sum := by
 induction h with
 | nil => rfl
 | cons x _ ih => simp only [List.sum_cons, ih]
 | swap x y l => simp only [List.sum_cons]; omega
 | trans _ _ ih1 ih2 => exact ih1.trans ih2
theorem perm_of_mem {l m : List Int} (hl : l.Nodup) (hm : m.Nodup) (h : ∀ x, x ∈ l ↔ x ∈ m) : l.Perm m := by
 rw [List.perm_iff_count]
 intro a
 rw [List.Nodup.count hl, List.Nodup.count hm]
 by_cases ha : a ∈ l
 ·rw [if_pos ha, if_pos ((h a).1 ha)]
 ·rw [if_neg ha, if_neg (fun hc => ha ((h a).2 hc))]
theorem ext_below {s : List Int} (ho : Ord n R) (h : Ext n R n s) {j x : Nat} (hx : s[j]? = some (x : Int)) (p : Nat → Bool) (hp : ∀ z, z < n → p z = true → R z x = true) :
  ((s.take j).filter (fun z => p z.toNat)).Perm (((List.range n).filter (fun z => !(z == x) && p z)).map (fun z => ((z : Nat) : Int))) := by
 have hj : j < s.length := (List.getElem?_eq_some_iff.1 hx).1
 have hxm : (x : Int) ∈ s := List.mem_of_getElem? hx
 have hxn : x < n := by have := h.mem _ hxm; omega
 refine perm_of_mem ?_ ?_ (fun z => ?_)
 ·exact List.Nodup.sublist List.filter_sublist (List.Nodup.sublist (List.take_sublist _ _) h.nodup)
 ·refine List.nodup_iff_pairwise_ne.2 ?_
  rw [List.pairwise_map]
  exact List.Pairwise.imp (fun h e => h (Int.ofNat.inj e)) (List.nodup_iff_pairwise_ne.1 (List.Nodup.sublist List.filter_sublist List.nodup_range))
 ·simp only [List.mem_filter, List.mem_map, List.mem_range, Bool.and_eq_true, Bool.not_eq_true', beq_eq_false_iff_ne]
  constructor
  ·rintro ⟨hz, hpz⟩
   have hzm := List.mem_of_mem_take hz
   obtain ⟨h0, h1⟩ := h.mem z hzm
   obtain ⟨v, rfl⟩ := Int.eq_ofNat_of_zero_le h0
   rw [Int.toNat_natCast] at hpz
   refine ⟨v, ⟨by omega, ?_, hpz⟩, rfl⟩
   rintro rfl
   -- x itself isn't ahead of its place
   obtain ⟨i, hi, he⟩ := List.mem_iff_getElem.1 hz
   rw [List.length_take] at hi
   rw [List.getElem_take] at he
   have h3 := (List.getElem?_eq_some_iff.1 hx).2
   exact List.pairwise_iff_getElem.1 (List.nodup_iff_pairwise_ne.1 h.nodup) i j (by omega) hj (by omega) (by rw [he, h3])
  ·rintro ⟨v, ⟨hv, hne, hpv⟩, rfl⟩
   refine ⟨h.low j x hx v hv (fun e => hne (Int.ofNat.inj e)) (by rw [Int.toNat_natCast]; exact hp v hv hpv), by rw [Int.toNat_natCast]; exact hpv⟩
end
end Go.Proofs.Ytnohkeijhfjbeaa.B

set_option linter.unusedVariables false
set_option linter.unusedSimpArgs false
namespace Go.Proofs.Ytnohkeijhfjbeaa.B
open Go.RowKit Go.Proofs.YtnohkeijhfjbeaaW.PrintWords

def Cong (x y : Int) : Prop := ∃ q : Int, x = y + 18446744073709551616 * q
theorem Cong.refl (x : Int) : Cong x x := ⟨0, by omega⟩
theorem Cong.symm {x y : Int} (h : Cong x y) : Cong y x := by obtain ⟨q, h⟩ := h; exact ⟨-q, by omega⟩
theorem Cong.trans {x y z : Int} (h : Cong x y) (k : Cong y z) : Cong x z := by
 obtain ⟨q, h⟩ := h
 obtain ⟨q', k⟩ := k
 exact ⟨q + q', by omega⟩
theorem Cong.add {x y z t : Int} (h : Cong x y) (k : Cong z t) : Cong (x + z) (y + t) := by
 obtain ⟨q, h⟩ := h
 obtain ⟨q', k⟩ := k
 exact ⟨q + q', by omega⟩
theorem Cong.neg {x y : Int} (h : Cong x y) : Cong (-x) (-y) := by
 obtain ⟨q, h⟩ := h
 exact ⟨-q, by omega⟩
theorem wrap_cong (x : Int) : Cong (wrap64 x) x := ⟨-((x + 9223372036854775808) / 18446744073709551616), by unfold wrap64; omega⟩
theorem wrap_eq {x y : Int} (h : Cong x y) : wrap64 x = wrap64 y := by
 obtain ⟨q, h⟩ := h
 unfold wrap64; omega
theorem wrap_range (x : Int) : -9223372036854775808 ≤ wrap64 x ∧ wrap64 x ≤ 9223372036854775807 := by
 unfold wrap64; omega
theorem wrap_wrap (x : Int) : wrap64 (wrap64 x) = wrap64 x := wrap_eq (wrap_cong x)
theorem iter_sum (p : Nat → Bool) (m : Nat → Int) : ∀ (d i : Nat) (s : Int), Cong (iter (fun z s => if p z = true then wrap64 (s + m z) else s) i d s) (s + (((List.range' i d).filter p).map m).sum)
 | 0, i, s => by simp [iter]; exact Cong.refl _
 | d + 1, i, s => by
  have ih := iter_sum p m d (i + 1) (if p i = true then wrap64 (s + m i) else s)
  simp only [iter]
  refine ih.trans ?_
  rw [List.range'_succ]
  by_cases h : p i = true
  ·rw [if_pos h, List.filter_cons_of_pos h, List.map_cons, List.sum_cons, ← Int.add_assoc]
   exact (wrap_cong _).add (Cong.refl _)
  ·rw [if_neg h, List.filter_cons_of_neg h]
   exact Cong.refl _
theorem iter_sub (p : Int → Bool) (m : Int → Int) (s : List Int) : ∀ (d i : Nat) (v : Int), i + d ≤ s.length → Cong (iter (fun k v => if p (s.getD k 0) = true then wrap64 (v - m (s.getD k 0)) else v) i d v) (v - ((((s.drop i).take d).filter p).map m).sum)
 | 0, i, v, _ => by simp [iter]; exact Cong.refl _
 | d + 1, i, v, h => by
  have ih := iter_sub p m s d (i + 1) (if p (s.getD i 0) = true then wrap64 (v - m (s.getD i 0)) else v) (by omega)
  simp only [iter]
  refine ih.trans ?_
  have e : s.getD i 0 = s[i]'(by omega) := by rw [List.getD_eq_getElem?_getD, List.getElem?_eq_getElem (by omega)]; rfl
  rw [List.drop_eq_getElem_cons (show i < s.length by omega), List.take_succ_cons, ← e]
  by_cases h : p (s.getD i 0) = true
  ·rw [if_pos h, List.filter_cons_of_pos h, List.map_cons, List.sum_cons]
   have : v - (m (s.getD i 0) + (((List.take d (List.drop (i + 1) s)).filter p).map m).sum) = (v - m (s.getD i 0)) + -(((List.take d (List.drop (i + 1) s)).filter p).map m).sum := by omega
   rw [this, Int.sub_eq_add_neg]
   exact (wrap_cong _).add (Cong.refl _)
  ·rw [if_neg h, List.filter_cons_of_neg h]
   exact Cong.refl _

def vec (n : Nat) (f : Nat → Int) : List Int := (List.range n).map f
theorem vec_length (n : Nat) (f : Nat → Int) : (vec n f).length = n := by simp [vec]
theorem vec_get {n : Nat} {f : Nat → Int} {j : Nat} (h : j < n) : rd (vec n f) (j : Int) = f j := by
 rw [rd_nat, vec, List.getD_eq_getElem?_getD, List.getElem?_map, List.getElem?_range h]; rfl
def upd1 (f : Nat → Int) (c : Nat) (v : Int) : Nat → Int := fun c' => if c' = c then v else f c'
theorem vec_set {n : Nat} {f : Nat → Int} {c : Nat} (v : Int) : (vec n f).set c v = vec n (upd1 f c v) := by
 apply List.ext_getElem (by simp [vec])
 intro i h1 h2
 simp only [vec, List.getElem_set, List.getElem_map, List.getElem_range, upd1]
 by_cases h : i = c
 ·simp [h]
 ·simp [h, Ne.symm h]
theorem vec_zero (n : Nat) : List.replicate n (0 : Int) = vec n (fun _ => 0) := by simp [vec, List.map_const']
theorem upd1_same (f : Nat → Int) (c : Nat) (u v : Int) : upd1 (upd1 f c u) c v = upd1 f c v := by
 funext c'; simp only [upd1]; split <;> rfl
end Go.Proofs.Ytnohkeijhfjbeaa.B

set_option linter.unusedVariables false
set_option linter.unusedSimpArgs false
namespace Go.Proofs.Ytnohkeijhfjbeaa.B
open Go.RowKit Go.Proofs.YtnohkeijhfjbeaaW.PrintWords

theorem wrap64_i64 (n : Int) (h0 : 0 ≤ n) (h1 : n < 9223372036854775808) : IntKind.i64.wrap n = n := by
 rw [IntKind.wrap_i64]; omega
theorem pow12 {x : Nat} (h : x ≤ 12) : 2 ^ x ≤ 4096 := Nat.pow_le_pow_right (n := 2) (by decide) h
theorem shl_one {x : Nat} (h : x ≤ 12) : shl .i64 1 (x : Int) = ((2 ^ x : Nat) : Int) := by
 have hp := pow12 h
 have h2 : (2 : Int) ^ x = ((2 ^ x : Nat) : Int) := by simp
 unfold shl
 rw [Int.toNat_natCast, show min x IntKind.i64.bits = x from Nat.min_eq_left (by show x ≤ 64; omega), Int.one_mul, h2]
 exact wrap64_i64 _ (Int.natCast_nonneg _) (by omega)
theorem shr_nat {a x : Nat} (h : x ≤ 64) : shr .i64 (a : Int) (x : Int) = ((a / 2 ^ x : Nat) : Int) := by
 have h2 : (2 : Int) ^ x = ((2 ^ x : Nat) : Int) := by simp
 unfold shr
 rw [Int.toNat_natCast, show min x IntKind.i64.bits = x from Nat.min_eq_left (by show x ≤ 64; omega), h2]
 exact (Int.natCast_ediv a (2 ^ x)).symm
theorem i62 (n : Int) (h0 : 0 ≤ n) (h1 : n < 2 ^ 62) : IntKind.i64.wrap n = n := by
 have h2 : (2 : Int) ^ 62 = 4611686018427387904 := by decide
 rw [h2] at h1
 exact wrap64_i64 n h0 (by omega)
theorem and_nat {a b : Nat} (ha : a < 2 ^ 62) (hb : b < 2 ^ 62) : Go.bits .and .i64 (a : Int) (b : Int) = ((a &&& b : Nat) : Int) := (bits_nat .i64 62 (by decide) i62 a b ha hb).1
theorem or_nat {a b : Nat} (ha : a < 2 ^ 62) (hb : b < 2 ^ 62) : Go.bits .or .i64 (a : Int) (b : Int) = ((a ||| b : Nat) : Int) := (bits_nat .i64 62 (by decide) i62 a b ha hb).2
theorem and_two_pow' (a x : Nat) : a &&& 2 ^ x = if a.testBit x = true then 2 ^ x else 0 := by
 apply Nat.eq_of_testBit_eq
 intro i
 rw [Nat.testBit_and, Nat.testBit_two_pow]
 split
 ·rename_i h
  rw [Nat.testBit_two_pow]
  by_cases e : x = i
  ·subst e; simp [h]
  ·simp [e]
 ·rename_i h
  by_cases e : x = i
  ·subst e; simp [h]
  ·simp [e]
theorem testBit_shr (a x : Nat) : (a / 2 ^ x % 2 = 1) ↔ a.testBit x = true := by
 rw [Nat.testBit_eq_decide_div_mod_eq, decide_eq_true_eq]
theorem and_one_eq {a : Nat} (ha : a < 2 ^ 62) : (Go.bits .and .i64 (a : Int) 1 = 1) ↔ a % 2 = 1 := by
 have := and_nat (b := 1) ha (by decide)
 rw [show ((1 : Nat) : Int) = 1 from rfl] at this
 rw [this, Nat.and_one_is_mod]
 omega
theorem and_bit_zero {a x : Nat} (ha : a < 2 ^ 62) (hx : x ≤ 12) : (Go.bits .and .i64 (a : Int) ((2 ^ x : Nat) : Int) = 0) ↔ a.testBit x = false := by
 have hp := pow12 hx
 have h1 : 0 < 2 ^ x := Nat.two_pow_pos x
 rw [and_nat ha (Nat.lt_of_le_of_lt hp (by decide)), and_two_pow']
 cases h : a.testBit x with
 | true =>
  rw [if_pos rfl]
  refine ⟨fun e => ?_, fun e => by cases e⟩
  have e2 : (2 ^ x : Nat) = 0 := Int.ofNat.inj e
  omega
 | false => simp
def members (set m : Nat) : List Int := iter (fun x s => if set.testBit x = true then s ++ [(x : Int)] else s) 0 m []
theorem members_le (set m : Nat) : (members set m).length ≤ m := by
 have := iter_inv (fun x s => if set.testBit x = true then s ++ [(x : Int)] else s) (fun i (t : List Int) => t.length ≤ i) m 0 [] (by simp) (fun j t _ _ h => by
  split
  ·simp only [List.length_append, List.length_singleton]; omega
  ·omega)
 simpa [members] using this
theorem members_mem (set m : Nat) : ∀ y ∈ members set m, 0 ≤ y ∧ y < m := by
 have := iter_inv (fun x s => if set.testBit x = true then s ++ [(x : Int)] else s) (fun i (t : List Int) => ∀ y ∈ t, 0 ≤ y ∧ y < i) m 0 [] (by simp) (fun j t _ _ h => by
  split
  ·intro y hy
   rcases List.mem_append.1 hy with hy | hy
   ·have := h y hy; omega
   ·rw [List.mem_singleton.1 hy]; omega
  ·intro y hy; have := h y hy; omega)
 simpa [members] using this
theorem members_more (set m d : Nat) (h : set < 2 ^ m) : members set (m + d) = members set m := by
 unfold members
 rw [iter_add, Nat.zero_add]
 generalize iter (fun x s => if set.testBit x = true then s ++ [(x : Int)] else s) 0 m [] = s
 have := iter_inv (fun x s => if set.testBit x = true then s ++ [(x : Int)] else s) (fun i (t : List Int) => t = s) d m s rfl (fun j t hj _ ht => by
  have : set.testBit j = false := Nat.testBit_lt_two_pow (Nat.lt_of_lt_of_le h (Nat.pow_le_pow_right (by decide) hj))
  rw [this]; simpa using ht)
 exact this
end Go.Proofs.Ytnohkeijhfjbeaa.B

set_option linter.unusedVariables false
set_option linter.unusedSimpArgs false
namespace Go.Proofs.Ytnohkeijhfjbeaa.B
open Go.RowKit Go.Proofs.YtnohkeijhfjbeaaW.PrintWords

def pairsOk (c : Nat → Nat → Bool) (s : List Int) : Bool := (List.range s.length).all fun k => (List.range k).all fun j => c (s.getD j 0).toNat (s.getD k 0).toNat
def less : List Int → List Int → Bool
 | x :: s, y :: t => if x = y then less s t else decide (x < y)
 | _, _ => false
def better (c : Nat → Nat → Bool) (set : Nat) (best : List Int) : List Int :=
 if best.length ≤ (members set 12).length ∧ pairsOk c (members set 12) = true then
  if best.length < (members set 12).length then members set 12 else if less (members set 12) best = true then members set 12 else best
 else best
def largest (c : Nat → Nat → Bool) (n : Nat) : List Int := iter (better c) 0 (2 ^ n) []
theorem better_le (c : Nat → Nat → Bool) (set : Nat) (best : List Int) (h : best.length ≤ 12) : (better c set best).length ≤ 12 := by
 have := members_le set 12
 unfold better
 split
 ·split
  ·exact this
  ·split
   ·exact this
   ·exact h
 ·exact h
theorem largest_le (c : Nat → Nat → Bool) (n : Nat) : (largest c n).length ≤ 12 :=
 iter_inv (better c) (fun _ t => t.length ≤ 12) (2 ^ n) 0 [] (by simp) (fun j t _ _ h => better_le c j t h)

theorem members_ev {set : Nat} (h : set < 2 ^ 12) : Ev (fun k => impl_members.f k (set : Int)) (members set 12) := by
 have hex : ∃ x, set / 2 ^ x = 0 := ⟨12, Nat.div_eq_of_lt h⟩
 obtain ⟨m, hm, hmin⟩ := least hex
 have hm12 : m ≤ 12 := Nat.le_of_not_lt (fun hlt => hmin 12 hlt (Nat.div_eq_of_lt h))
 have hlt : set < 2 ^ m := by
  rcases Nat.lt_or_ge set (2 ^ m) with h' | h'
  ·exact h'
  ·have := Nat.div_pos h' (Nat.two_pow_pos m); omega
 have hs62 : set < 2 ^ 62 := Nat.lt_of_lt_of_le h (by decide)
 rw [show 12 = m + (12 - m) by omega, members_more set m (12 - m) hlt]
 unfold impl_members.f
 have g := le_iter_inv (fun (s : List Int) (x : Nat) k => impl_members.l0 k (set : Int) s (x : Int)) (fun x s => if set.testBit x = true then s ++ [(x : Int)] else s) (fun i s => s.length ≤ i) m 0 [] (by simp) (fun x s _ hx hs => ⟨fun r hr => by
  have hpos : set / 2 ^ x ≠ 0 := hmin x (by omega)
  have h62 : set / 2 ^ x < 2 ^ 62 := Nat.lt_of_le_of_lt (Nat.div_le_self _ _) hs62
  refine Ev.step (fun k => impl_members.l0.eq_2 ..) ?_
  rw [shr_nat (show x ≤ 64 by omega), wrap_succ (show x < 9223372036854775807 by omega)]
  have hbit := testBit_shr set x
  generalize set / 2 ^ x = q at hpos h62 hbit ⊢
  refine ev_pos (by omega) (ev_pos (by omega) ?_)
  cases hb : set.testBit x with
  | true =>
   rw [hb] at hr
   exact ev_pos ((and_one_eq h62).2 (hbit.2 hb)) (ev_pos (by omega) hr)
  | false =>
   rw [hb] at hr
   exact ev_neg (fun e => by have := hbit.1 ((and_one_eq h62).1 e); rw [hb] at this; cases this) hr, by
  split
  ·simp only [List.length_append, List.length_singleton]; omega
  ·omega⟩)
 refine g.1 _ ?_
 rw [Nat.zero_add]
 refine Ev.step (fun k => impl_members.l0.eq_2 ..) ?_
 rw [shr_nat (show m ≤ 64 by omega), hm]
 exact ev_pos (by omega) (ev_neg (by decide) (Ev.now _))
theorem cmp_val (a b : Int) : cmp_Compare_int64.f a b = some (if a < b then -1 else if a > b then 1 else 0) := by
 unfold cmp_Compare_int64.f cmp_isNaN_int64.f
 simp only [bne_self_eq_false, Option.bind_some]
 rw [if_neg (by decide), if_neg (by decide)]
 split
 ·rfl
 ·split <;> rfl
theorem less_drop (s t : List Int) (i : Nat) (h1 : i < s.length) (h2 : i < t.length) : less (s.drop i) (t.drop i) = if s.getD i 0 = t.getD i 0 then less (s.drop (i + 1)) (t.drop (i + 1)) else decide (s.getD i 0 < t.getD i 0) := by
 rw [List.drop_eq_getElem_cons h1, List.drop_eq_getElem_cons h2]
 simp only [less, List.getD_eq_getElem?_getD, List.getElem?_eq_getElem h1, List.getElem?_eq_getElem h2, Option.getD_some]
theorem compare_ev (s t : List Int) (h : s.length = t.length) (hl : s.length < 9223372036854775807) : ∃ c, Ev (fun k => slices_Compare_int64_int64.f k s t) c ∧ decide (c < 0) = less s t := by
 have loop : ∀ d i, i + d = s.length → ∃ c, Ev (fun k => slices_Compare_int64_int64.l0 k s t s (s.length : Int) (i : Int)) c ∧ decide (c < 0) = less (s.drop i) (t.drop i) := by
  intro d
  induction d with
  | zero =>
   intro i hi
   refine ⟨0, ?_, ?_⟩
   ·refine Ev.step (fun k => slices_Compare_int64_int64.l0.eq_2 ..) ?_
    exact ev_neg (by omega) (ev_neg (by omega) (Ev.now _))
   ·rw [List.drop_of_length_le (by omega)]; simp [less]
  | succ d ih =>
   intro i hi
   obtain ⟨c, hc, hd⟩ := ih (i + 1) (by omega)
   rw [less_drop s t i (by omega) (by omega)]
   by_cases he : s.getD i 0 = t.getD i 0
   ·refine ⟨c, ?_, by rw [if_pos he]; exact hd⟩
    refine Ev.step (fun k => slices_Compare_int64_int64.l0.eq_2 ..) ?_
    rw [rd_nat, rd_nat, wrap_succ (by omega)]
    refine ev_pos (by omega) (ev_pos (by omega) (ev_pos (by omega) (ev_neg (by omega) (ev_pos (by omega) (Ev.bind (ev_const (cmp_val _ _)) ?_)))))
    rw [if_neg (by omega), if_neg (by omega)]
    exact ev_pos rfl hc
   ·rw [if_neg he]
    refine ⟨if s.getD i 0 < t.getD i 0 then -1 else if s.getD i 0 > t.getD i 0 then 1 else 0, ?_, ?_⟩
    ·refine Ev.step (fun k => slices_Compare_int64_int64.l0.eq_2 ..) ?_
     rw [rd_nat, rd_nat]
     refine ev_pos (by omega) (ev_pos (by omega) (ev_pos (by omega) (ev_neg (by omega) (ev_pos (by omega) (Ev.bind (ev_const (cmp_val _ _)) (ev_neg ?_ (Ev.now _)))))))
     split
     ·decide
     ·rw [if_pos (by omega)]; decide
    ·by_cases hlt : s.getD i 0 < t.getD i 0
     ·rw [if_pos hlt, decide_eq_true hlt]; rfl
     ·rw [if_neg hlt, if_pos (by omega), decide_eq_false hlt]; rfl
 unfold slices_Compare_int64_int64.f
 exact loop s.length 0 (by omega)

end Go.Proofs.Ytnohkeijhfjbeaa.B

set_option linter.unusedVariables false
set_option linter.unusedSimpArgs false
namespace Go.Proofs.Ytnohkeijhfjbeaa.B
open Go.RowKit Go.Proofs.YtnohkeijhfjbeaaW.PrintWords

section
variable {n : Nat} {R : Nat → Nat → Bool}
theorem condHeightOf_val {x y : Nat} (hx : x < n) (hy : y < n) : impl_HeightOf_1.f (x : Int) (y : Int) (tab n R) = some (R x y || R y x) := by
 unfold impl_HeightOf_1.f
 simp only [tab_length, tab_get hx, tab_get hy, row_length, row_get hx, row_get hy]
 rw [if_pos (by omega), if_pos (by omega), if_pos (by omega), if_pos (by omega)]
 cases h1 : R x y with
 | true => simp
 | false =>
  rw [if_neg (by decide), if_pos (by omega), if_pos (by omega)]
  simp
theorem eachPairHeightOf_ev {s : List Int} (hs : ∀ y ∈ s, 0 ≤ y ∧ y < n) (hl : s.length ≤ 12) : Ev (fun k => impl_eachPair_at_impl_HeightOf_1.f k s (tab n R)) (pairsOk (fun x y => R x y || R y x) s) := by
 unfold impl_eachPair_at_impl_HeightOf_1.f pairsOk
 have hel : ∀ i, i < s.length → ∃ v : Nat, s.getD i 0 = v ∧ v < n ∧ (s.getD i 0).toNat = v := fun i hi => by
  obtain ⟨h0, h1⟩ := hs _ (getD_mem 0 hi)
  obtain ⟨v, hv⟩ := Int.eq_ofNat_of_zero_le h0
  exact ⟨v, hv, by omega, by rw [hv]; exact Int.toNat_natCast v⟩
 have htk : ∀ k j, j < k → k < s.length → rd (s.take k) (j : Int) = s.getD j 0 := fun k j h1 h2 => by
  rw [rd_nat, List.getD_eq_getElem?_getD, List.getElem?_take, if_pos h1, List.getD_eq_getElem?_getD]
 have hlen : ∀ k, k < s.length → (s.take k).length = k := fun k h => by rw [List.length_take]; omega
 have inner : ∀ (k : Nat) (hk : k < s.length) (j : Nat) (hj : j < k) (r : Bool),
   (((fun x y => R x y || R y x) (s.getD j 0).toNat (s.getD k 0).toNat) = true → Ev (fun q => impl_eachPair_at_impl_HeightOf_1.l1 q s (s.getD k 0) s (s.length : Int) (k : Int) (s.take k) ((s.take k).length : Int) ((j + 1 : Nat) : Int) (tab n R)) r) →
   (((fun x y => R x y || R y x) (s.getD j 0).toNat (s.getD k 0).toNat) = false → r = false) → Ev (fun q => impl_eachPair_at_impl_HeightOf_1.l1 q s (s.getD k 0) s (s.length : Int) (k : Int) (s.take k) ((s.take k).length : Int) (j : Int) (tab n R)) r := fun k hk j hj r h1 h0 => by
  obtain ⟨u, hu, hun, hut⟩ := hel j (by omega)
  obtain ⟨v, hv, hvn, hvt⟩ := hel k hk
  rw [hut, hvt] at h1 h0
  have hc := condHeightOf_val (n := n) (R := R) hun hvn
  refine Ev.step (fun k => impl_eachPair_at_impl_HeightOf_1.l1.eq_2 ..) ?_
  rw [htk k j hj hk, wrap_succ (show j < 9223372036854775807 by omega), hlen k hk, hu, hv]
  rw [hlen k hk, hv] at h1
  refine ev_pos (by omega) (ev_pos (by omega) (ev_pos (by omega) (Ev.bind (ev_const hc) ?_)))
  dsimp only at h1 h0
  cases hh : (fun x y => R x y || R y x) u v with
  | true => dsimp only at hh; rw [hh] at h1 ⊢; exact ev_pos rfl (h1 rfl)
  | false => dsimp only at hh; rw [hh] at h0 ⊢; exact ev_neg (by decide) (ev_eq (Ev.now _) (h0 rfl).symm)
 refine ev_all (fun (k : Nat) q => impl_eachPair_at_impl_HeightOf_1.l0 q s s (s.length : Int) (k : Int) (tab n R)) _ s.length (fun k hk hp r hr => ?_) (fun k hk hp => ?_) ?_
 ·have hp := List.all_eq_true.1 hp
  refine Ev.step (fun k => impl_eachPair_at_impl_HeightOf_1.l0.eq_2 ..) ?_
  rw [rd_nat, Int.toNat_natCast]
  refine ev_pos (by omega) (ev_pos (by omega) (ev_pos (by omega) (ev_pos (by omega) ?_)))
  refine ev_find (fun (j : Nat) q => impl_eachPair_at_impl_HeightOf_1.l1 q s (s.getD k 0) s (s.length : Int) (k : Int) (s.take k) ((s.take k).length : Int) (j : Int) (tab n R)) (fun _ => false) k 0 (fun j _ hj _ r hr => ?_) (fun _ _ _ h => by cases h) (fun _ => ?_)
  ·refine inner k hk j (by omega) r (fun _ => hr) (fun h => ?_)
   have := hp j (List.mem_range.2 (by omega))
   rw [h] at this; cases this
  ·rw [Nat.zero_add]
   refine Ev.step (fun k => impl_eachPair_at_impl_HeightOf_1.l1.eq_2 ..) ?_
   rw [hlen k hk, wrap_succ (show k < 9223372036854775807 by omega)]
   exact ev_neg (by omega) hr
 ·refine Ev.step (fun k => impl_eachPair_at_impl_HeightOf_1.l0.eq_2 ..) ?_
  rw [rd_nat, Int.toNat_natCast]
  refine ev_pos (by omega) (ev_pos (by omega) (ev_pos (by omega) (ev_pos (by omega) ?_)))
  refine ev_find (fun (j : Nat) q => impl_eachPair_at_impl_HeightOf_1.l1 q s (s.getD k 0) s (s.length : Int) (k : Int) (s.take k) ((s.take k).length : Int) (j : Int) (tab n R)) (fun j => !((fun x y => R x y || R y x) (s.getD j 0).toNat (s.getD k 0).toNat)) k 0 (fun j _ hj hpj r hr => ?_) (fun j _ hj hpj _ => ?_) (fun hall => ?_)
  ·refine inner k hk j (by omega) r (fun _ => hr) (fun h => ?_)
   rw [h] at hpj; cases hpj
  ·refine inner k hk j (by omega) false (fun h => ?_) (fun _ => rfl)
   rw [h] at hpj; cases hpj
  ·exfalso
   have : ((List.range k).all fun j => (fun x y => R x y || R y x) (s.getD j 0).toNat (s.getD k 0).toNat) = true := List.all_eq_true.2 (fun j hj => (Bool.not_eq_false' _).mp (hall j (Nat.zero_le _) (by have := List.mem_range.1 hj; omega)))
   rw [hp] at this; cases this
 ·refine Ev.step (fun k => impl_eachPair_at_impl_HeightOf_1.l0.eq_2 ..) ?_
  exact ev_neg (by omega) (Ev.now _)
theorem largestHeightOf_ev (hn : n ≤ 12) (l : List (List Int)) : Ev (fun k => impl_largest_at_impl_HeightOf_1.f k (n : Int) l (tab n R)) (largest (fun x y => R x y || R y x) n) := by
 unfold impl_largest_at_impl_HeightOf_1.f
 have hp := pow12 hn
 rw [shl_one hn]
 refine ev_pos (by omega) ?_
 have h := le_iter_inv (fun (s : List Int) (i : Nat) k => impl_largest_at_impl_HeightOf_1.l0 k s ((2 ^ n : Nat) : Int) (i : Int) (tab n R)) (better (fun x y => R x y || R y x)) (fun i s => s.length ≤ 12) (2 ^ n) 0 [] (by simp) (fun i s _ hi hs => ⟨fun r hr => by
  have hi : i < 2 ^ n := by omega
  have hm12 : members i 12 = members i n := by
   rw [show 12 = n + (12 - n) by omega, members_more i n (12 - n) hi]
  have hmem : ∀ y ∈ members i 12, 0 ≤ y ∧ y < n := fun y hy => by rw [hm12] at hy; exact members_mem i n y hy
  have hle := members_le i 12
  refine Ev.step (fun k => impl_largest_at_impl_HeightOf_1.l0.eq_2 ..) ?_
  refine ev_pos (by omega) (Ev.bind (members_ev (by omega)) ?_)
  unfold better at hr
  by_cases hsh : (members i 12).length < s.length
  ·rw [if_neg (fun h => by omega)] at hr
   refine ev_pos (by omega) ?_
   refine Ev.step (fun k => impl_largest_at_impl_HeightOf_1.j1.eq_2 ..) ?_
   rw [wrap_succ (by omega)]
   exact ev_pos rfl hr
  ·refine ev_neg (by omega) (Ev.bind (eachPairHeightOf_ev hmem hle) ?_)
   refine Ev.step (fun k => impl_largest_at_impl_HeightOf_1.j1.eq_2 ..) ?_
   rw [wrap_succ (by omega)]
   cases hc : pairsOk (fun x y => R x y || R y x) (members i 12) with
   | false =>
    rw [hc, if_neg (fun h => by cases h.2)] at hr
    exact ev_pos rfl hr
   | true =>
    rw [hc, if_pos ⟨by omega, rfl⟩] at hr
    refine ev_neg (by decide) ?_
    by_cases hgt : s.length < (members i 12).length
    ·rw [if_pos hgt] at hr
     exact ev_pos (by omega) hr
    ·rw [if_neg hgt] at hr
     obtain ⟨c, hcv, hcd⟩ := compare_ev (members i 12) s (by omega) (by omega)
     refine ev_neg (by omega) (Ev.bind hcv ?_)
     rw [← hcd] at hr
     by_cases hc0 : c < 0
     ·rw [if_pos (decide_eq_true hc0)] at hr
      exact ev_pos hc0 hr
     ·rw [if_neg (by simpa using hc0)] at hr
      exact ev_neg hc0 hr, better_le _ _ _ hs⟩)
 refine h.1 _ ?_
 rw [Nat.zero_add]
 refine Ev.step (fun k => impl_largest_at_impl_HeightOf_1.l0.eq_2 ..) ?_
 exact ev_neg (by omega) (Ev.now _)
end
end Go.Proofs.Ytnohkeijhfjbeaa.B

set_option linter.unusedVariables false
set_option linter.unusedSimpArgs false
namespace Go.Proofs.Ytnohkeijhfjbeaa.B
open Go.RowKit Go.Proofs.YtnohkeijhfjbeaaW.PrintWords

def maxL : List Int → Int
 | [] => 0
 | x :: l => max x (maxL l)
theorem maxL_nonneg : ∀ l, 0 ≤ maxL l
 | [] => Int.le_refl _
 | x :: l => by have := maxL_nonneg l; simp only [maxL]; omega
theorem maxL_perm {l m : List Int} (h : l.Perm m) : maxL l = maxL m := by
 induction h with
 | nil => rfl
 | cons x _ ih => simp only [maxL, ih]
 | swap x y l => simp only [maxL]; omega
 | trans _ _ ih1 ih2 => exact ih1.trans ih2
theorem maxL_ge : ∀ {l : List Int} {x : Int}, x ∈ l → x ≤ maxL l
 | y :: l, x, h => by
  simp only [maxL]
  rcases List.mem_cons.1 h with rfl | h
  ·omega
  ·have := maxL_ge h; omega
theorem maxL_mem : ∀ (l : List Int), maxL l = 0 ∨ maxL l ∈ l
 | [] => .inl rfl
 | x :: l => by
  have ih := maxL_mem l
  have hn := maxL_nonneg l
  simp only [maxL]
  rcases Int.le_total x (maxL l) with h | h
  ·rw [Int.max_eq_right h]
   exact ih.imp id (fun h => List.mem_cons_of_mem _ h)
  ·rw [Int.max_eq_left h]; exact .inr List.mem_cons_self
theorem maxL_le : ∀ {l : List Int} {b : Int}, 0 ≤ b → (∀ x ∈ l, x ≤ b) → maxL l ≤ b
 | [], b, h, _ => h
 | x :: l, b, h, hx => by
  have := maxL_le h (fun y hy => hx y (List.mem_cons_of_mem _ hy))
  have := hx x List.mem_cons_self
  simp only [maxL]; omega
theorem maxL_append : ∀ (l : List Int) (x : Int), maxL (l ++ [x]) = max (maxL l) (max x 0)
 | [], x => by simp only [List.nil_append, maxL]; omega
 | y :: l, x => by simp only [List.cons_append, maxL, maxL_append l x]; omega
theorem iter_max (p : Int → Bool) (m : Int → Int) (s : List Int) : ∀ (d i : Nat) (v : Int), i + d ≤ s.length → 1 ≤ v → iter (fun k v => if p (s.getD k 0) = true then max v (m (s.getD k 0) + 1) else v) i d v = max v (maxL ((((s.drop i).take d).filter p).map m) + 1)
 | 0, i, v, _, hv => by simp [iter, maxL]; omega
 | d + 1, i, v, h, hv => by
  have e : s.getD i 0 = s[i]'(by omega) := by rw [List.getD_eq_getElem?_getD, List.getElem?_eq_getElem (by omega)]; rfl
  simp only [iter]
  rw [List.drop_eq_getElem_cons (show i < s.length by omega), List.take_succ_cons, ← e]
  by_cases h' : p (s.getD i 0) = true
  ·rw [if_pos h', List.filter_cons_of_pos h', List.map_cons, iter_max p m s d (i + 1) _ (by omega) (by omega)]
   simp only [maxL]; omega
  ·rw [if_neg h', List.filter_cons_of_neg h', iter_max p m s d (i + 1) _ (by omega) hv]

section
variable {n : Nat} {R : Nat → Nat → Bool}
def cnt (n : Nat) (R : Nat → Nat → Bool) (x : Nat) : Nat := (List.range n).countP (fun z => R z x)
theorem cnt_lt (ho : Ord n R) {z x : Nat} (hz : z < n) (hx : x < n) (hne : z ≠ x) (h : R z x = true) : cnt n R z < cnt n R x :=
 countP_lt _ _ _ (fun y hy hyz => ho.trans y z x (List.mem_range.1 hy) hz hx hyz h) ⟨x, List.mem_range.2 hx, ho.refl x hx, by
  cases h3 : R x z with
  | false => rfl
  | true => exact absurd (ho.anti z x hz hx h h3) hne⟩
def under (R : Nat → Nat → Bool) (x z : Nat) : Bool := !(z == x) && R z x
theorem under_iff {x z : Nat} : under R x z = true ↔ z ≠ x ∧ R z x = true := by simp [under]
def hF (n : Nat) (R : Nat → Nat → Bool) : Nat → Nat → Int
 | 0, _ => 0
 | f + 1, x => maxL (((List.range n).filter (under R x)).map (hF n R f)) + 1
theorem hF_stable (ho : Ord n R) : ∀ (f g x : Nat), x < n → cnt n R x < f → cnt n R x < g → hF n R f x = hF n R g x
 | 0, _, _, _, h, _ => by omega
 | _ + 1, 0, _, _, _, h => by omega
 | f + 1, g + 1, x, hx, hf, hg => by
  simp only [hF]
  congr 2
  refine List.map_congr_left (fun z hz => ?_)
  obtain ⟨hz, hm⟩ := List.mem_filter.1 hz
  have hz := List.mem_range.1 hz
  obtain ⟨h1, h3⟩ := under_iff.1 hm
  have hc := cnt_lt ho hz hx h1 h3
  exact hF_stable ho f g z hz (by omega) (by omega)
def ht (n : Nat) (R : Nat → Nat → Bool) (x : Nat) : Int := hF n R (cnt n R x + 1) x
theorem ht_eq (ho : Ord n R) {x : Nat} (hx : x < n) : ht n R x = maxL (((List.range n).filter (under R x)).map (ht n R)) + 1 := by
 show maxL (((List.range n).filter (under R x)).map (hF n R (cnt n R x))) + 1 = _
 congr 2
 refine List.map_congr_left (fun z hz => ?_)
 obtain ⟨hz, hm⟩ := List.mem_filter.1 hz
 have hz := List.mem_range.1 hz
 obtain ⟨h1, h3⟩ := under_iff.1 hm
 have hc := cnt_lt ho hz hx h1 h3
 show hF n R (cnt n R x) z = hF n R (cnt n R z + 1) z
 exact hF_stable ho _ _ z hz (by omega) (by omega)
theorem ht_lt (ho : Ord n R) {z x : Nat} (hz : z < n) (hx : x < n) (hne : z ≠ x) (h : R z x = true) : ht n R z < ht n R x := by
 rw [ht_eq ho hx]
 have := maxL_ge (List.mem_map.2 ⟨z, List.mem_filter.2 ⟨List.mem_range.2 hz, under_iff.2 ⟨hne, h⟩⟩, rfl⟩ : ht n R z ∈ ((List.range n).filter (under R x)).map (ht n R))
 omega
theorem ht_pos (ho : Ord n R) {x : Nat} (hx : x < n) : 1 ≤ ht n R x := by
 rw [ht_eq ho hx]
 have := maxL_nonneg (((List.range n).filter (under R x)).map (ht n R))
 omega
theorem ht_le (ho : Ord n R) : ∀ (c x : Nat), cnt n R x ≤ c → x < n → ht n R x ≤ cnt n R x := by
 intro c
 induction c with
 | zero =>
  intro x hc hx
  have : 0 < cnt n R x := List.countP_pos_iff.2 ⟨x, List.mem_range.2 hx, ho.refl x hx⟩
  omega
 | succ c ih =>
  intro x hc hx
  have hp : 0 < cnt n R x := List.countP_pos_iff.2 ⟨x, List.mem_range.2 hx, ho.refl x hx⟩
  rw [ht_eq ho hx]
  have : maxL (((List.range n).filter (under R x)).map (ht n R)) ≤ (cnt n R x : Int) - 1 := maxL_le (by omega) (fun y hy => by
   obtain ⟨z, hz, rfl⟩ := List.mem_map.1 hy
   obtain ⟨hz, hm⟩ := List.mem_filter.1 hz
   have hz := List.mem_range.1 hz
   obtain ⟨h1, h3⟩ := under_iff.1 hm
   have hc' := cnt_lt ho hz hx h1 h3
   have := ih z (by omega) hz
   omega)
  omega
theorem cnt_le (x : Nat) : cnt n R x ≤ n := by
 have := List.countP_le_length (p := fun z => R z x) (l := List.range n)
 rw [List.length_range] at this
 exact this
theorem iter_append (p : Nat → Bool) : ∀ (d i : Nat) (s : List Int), iter (fun x s => if p x = true then s ++ [(x : Int)] else s) i d s = s ++ ((List.range' i d).filter p).map (fun x => ((x : Nat) : Int))
 | 0, i, s => by simp [iter]
 | d + 1, i, s => by
  simp only [iter]
  rw [iter_append p d (i + 1), List.range'_succ]
  by_cases h : p i = true
  ·rw [if_pos h, List.filter_cons_of_pos h]; simp
  ·rw [if_neg h, List.filter_cons_of_neg h]
theorem members_eq (set m : Nat) : members set m = ((List.range m).filter (fun x => set.testBit x)).map (fun x => ((x : Nat) : Int)) := by
 unfold members
 rw [iter_append, List.nil_append, List.range_eq_range']
theorem members_bit {set m : Nat} {y : Int} (h : y ∈ members set m) : ∃ x : Nat, y = x ∧ x < m ∧ set.testBit x = true := by
 rw [members_eq] at h
 obtain ⟨x, hx, rfl⟩ := List.mem_map.1 h
 obtain ⟨h1, h2⟩ := List.mem_filter.1 hx
 exact ⟨x, rfl, List.mem_range.1 h1, h2⟩
theorem members_nodup (set m : Nat) : (members set m).Nodup := by
 rw [members_eq]
 refine List.nodup_iff_pairwise_ne.2 ?_
 rw [List.pairwise_map]
 exact List.Pairwise.imp (fun h e => h (Int.ofNat.inj e)) (List.nodup_iff_pairwise_ne.1 (List.Nodup.sublist List.filter_sublist List.nodup_range))
theorem members_len (set m : Nat) : (members set m).length = (List.range m).countP (fun x => set.testBit x) := by
 rw [members_eq, List.length_map, List.countP_eq_length_filter]
theorem countP_one (p q : Nat → Bool) (x : Nat) (hp : p x = false) (hq : ∀ y, q y = (p y || (y == x))) : ∀ (l : List Nat), l.Nodup → x ∈ l → l.countP q = l.countP p + 1
 | [], _, h => by cases h
 | a :: l, hd, h => by
  obtain ⟨hna, hd'⟩ := List.nodup_cons.1 hd
  simp only [List.countP_cons]
  by_cases e : a = x
  ·subst e
   have : l.countP q = l.countP p := List.countP_congr (fun y hy => by
    have : y ≠ a := by rintro rfl; exact hna hy
    rw [hq y]; simp [this])
   rw [this, hq a, hp]; simp
  ·have hx : x ∈ l := by
    rcases List.mem_cons.1 h with h | h
    ·exact absurd h.symm e
    ·exact h
   rw [countP_one p q x hp hq l hd' hx, hq a]
   have : (a == x) = false := by simpa using e
   rw [this, Bool.or_false]; omega
theorem chain_exists (hn : n ≤ 12) (ho : Ord n R) : ∀ (c x : Nat), cnt n R x ≤ c → x < n → ∃ set, set < 2 ^ n ∧ (∀ y, set.testBit y = true → y < n ∧ R y x = true) ∧ (∀ y z, set.testBit y = true → set.testBit z = true → (R y z || R z y) = true) ∧ ((members set 12).length : Int) = ht n R x := by
 intro c
 induction c with
 | zero =>
  intro x hc hx
  have : 0 < cnt n R x := List.countP_pos_iff.2 ⟨x, List.mem_range.2 hx, ho.refl x hx⟩
  omega
 | succ c ih =>
  intro x hc hx
  rw [ht_eq ho hx]
  have add : ∀ (set : Nat) (h : Int), set < 2 ^ n → (∀ y, set.testBit y = true → y < n ∧ y ≠ x ∧ R y x = true) → (∀ y z, set.testBit y = true → set.testBit z = true → (R y z || R z y) = true) → ((members set 12).length : Int) = h →
    ∃ set', set' < 2 ^ n ∧ (∀ y, set'.testBit y = true → y < n ∧ R y x = true) ∧ (∀ y z, set'.testBit y = true → set'.testBit z = true → (R y z || R z y) = true) ∧ ((members set' 12).length : Int) = h + 1 := fun set h hs hb hp hl => by
   have hbit : ∀ y, (set ||| 2 ^ x).testBit y = (set.testBit y || (y == x)) := fun y => by
    rw [Nat.testBit_or, Nat.testBit_two_pow]
    congr 1
    rw [Bool.eq_iff_iff]; simp; exact eq_comm
   have hx0 : set.testBit x = false := by
    cases h' : set.testBit x with
    | false => rfl
    | true => exact absurd rfl (hb x h').2.1
   refine ⟨set ||| 2 ^ x, Nat.or_lt_two_pow hs (Nat.pow_lt_pow_right (by decide) hx), fun y hy => ?_, fun y z hy hz => ?_, ?_⟩
   ·rw [hbit] at hy
    rcases (Bool.or_eq_true _ _).mp hy with hy1 | hy1
    ·exact ⟨(hb y hy1).1, (hb y hy1).2.2⟩
    ·have e : y = x := by simpa using hy1
     rw [e]
     exact ⟨hx, ho.refl x hx⟩
   ·rw [hbit] at hy hz
    rcases (Bool.or_eq_true _ _).mp hy with hy1 | hy1
    ·rcases (Bool.or_eq_true _ _).mp hz with hz1 | hz1
     ·exact hp y z hy1 hz1
     ·have e : z = x := by simpa using hz1
      rw [e, (hb y hy1).2.2]; rfl
    ·have e : y = x := by simpa using hy1
     rcases (Bool.or_eq_true _ _).mp hz with hz1 | hz1
     ·rw [e, (hb z hz1).2.2]; simp
     ·have e' : z = x := by simpa using hz1
      rw [e, e', ho.refl x hx]; rfl
   ·rw [members_len, countP_one (fun y => set.testBit y) (fun y => (set ||| 2 ^ x).testBit y) x hx0 hbit _ List.nodup_range (List.mem_range.2 (by omega)), ← members_len]
    omega
  rcases maxL_mem (((List.range n).filter (under R x)).map (ht n R)) with h0 | hmem
  ·rw [h0]
   have hm0 : members 0 12 = [] := by rw [members_eq]; simp
   exact add 0 0 (Nat.two_pow_pos n) (fun y hy => by simp at hy) (fun y z hy => by simp at hy) (by rw [hm0]; rfl)
  ·obtain ⟨z, hzf, hzv⟩ := List.mem_map.1 hmem
   obtain ⟨hzr, hm⟩ := List.mem_filter.1 hzf
   have hzn := List.mem_range.1 hzr
   obtain ⟨h1, h3⟩ := under_iff.1 hm
   have hc' := cnt_lt ho hzn hx h1 h3
   obtain ⟨set, hs, hb, hp, hl⟩ := ih z (by omega) hzn
   rw [← hzv]
   refine add set (ht n R z) hs (fun y hy => ?_) hp hl
   obtain ⟨hyn, hyz⟩ := hb y hy
   refine ⟨hyn, fun e => ?_, ho.trans y z x hyn hzn hx hyz h3⟩
   rw [e] at hyz
   exact h1 (ho.anti z x hzn hx h3 hyz)
theorem better_ge (c : Nat → Nat → Bool) (set : Nat) (best : List Int) : best.length ≤ (better c set best).length ∧ (pairsOk c (members set 12) = true → (members set 12).length ≤ (better c set best).length) ∧ (better c set best = best ∨ better c set best = members set 12 ∧ pairsOk c (members set 12) = true) := by
 unfold better
 split
 ·rename_i h
  split
  ·exact ⟨by omega, fun _ => Nat.le_refl _, .inr ⟨rfl, h.2⟩⟩
  ·split
   ·exact ⟨h.1, fun _ => Nat.le_refl _, .inr ⟨rfl, h.2⟩⟩
   ·exact ⟨Nat.le_refl _, fun _ => by omega, .inl rfl⟩
 ·rename_i h
  refine ⟨Nat.le_refl _, fun hp => ?_, .inl rfl⟩
  rcases Nat.lt_or_ge (members set 12).length best.length with h' | h'
  ·omega
  ·exact absurd ⟨h', hp⟩ h
theorem largest_ge (c : Nat → Nat → Bool) (n : Nat) {set : Nat} (hs : set < 2 ^ n) (hp : pairsOk c (members set 12) = true) : (members set 12).length ≤ (largest c n).length := by
 have := iter_inv (better c) (fun i (t : List Int) => set < i → (members set 12).length ≤ t.length) (2 ^ n) 0 [] (by simp) (fun i t _ _ h hlt => by
  obtain ⟨h1, h2, _⟩ := better_ge c i t
  rcases Nat.lt_or_ge set i with h' | h'
  ·exact Nat.le_trans (h h') h1
  ·have : set = i := by omega
   subst this
   exact h2 hp)
 exact this (by omega)
theorem largest_ok (c : Nat → Nat → Bool) (n : Nat) : largest c n = [] ∨ ∃ set, set < 2 ^ n ∧ largest c n = members set 12 ∧ pairsOk c (members set 12) = true :=
 iter_inv (better c) (fun i (t : List Int) => t = [] ∨ ∃ set, set < 2 ^ n ∧ t = members set 12 ∧ pairsOk c (members set 12) = true) (2 ^ n) 0 [] (.inl rfl) (fun i t _ hi h => by
  obtain ⟨_, _, h3⟩ := better_ge c i t
  rcases h3 with h3 | ⟨h3, h4⟩
  ·rw [h3]; exact h
  ·exact .inr ⟨i, by omega, h3, h4⟩)
def most (n : Nat) (R : Nat → Nat → Bool) : Int := maxL ((List.range n).map (ht n R))
theorem largest_most (hn : n ≤ 12) (ho : Ord n R) : ((largest (fun x y => R x y || R y x) n).length : Int) = most n R := by
 apply Int.le_antisymm
 ·rcases largest_ok (fun x y => R x y || R y x) n with h | ⟨set, hs, h, hp⟩
  ·rw [h]; exact maxL_nonneg _
  ·rw [h]
   have hm12 : members set 12 = members set n := by
    rw [show 12 = n + (12 - n) by omega, members_more set n (12 - n) hs]
   rw [hm12] at hp ⊢
   have hel : ∀ y ∈ members set n, ∃ x : Nat, y = x ∧ x < n := fun y hy => by
    obtain ⟨x, hx, hxn, _⟩ := members_bit hy
    exact ⟨x, hx, hxn⟩
   have hnd : ((members set n).map (fun y => ht n R y.toNat)).Nodup := by
    refine List.nodup_iff_pairwise_ne.2 ?_
    rw [List.pairwise_map]
    refine List.pairwise_iff_getElem.2 (fun i j hi hj hij => ?_)
    obtain ⟨u, hu, hun⟩ := hel _ (List.getElem_mem hi)
    obtain ⟨v, hv, hvn⟩ := hel _ (List.getElem_mem hj)
    have hne : u ≠ v := by
     rintro rfl
     exact List.pairwise_iff_getElem.1 (List.nodup_iff_pairwise_ne.1 (members_nodup set n)) i j hi hj hij (by rw [hu, hv])
    have := List.all_eq_true.1 (List.all_eq_true.1 hp j (List.mem_range.2 hj)) i (List.mem_range.2 hij)
    simp only [List.getD_eq_getElem?_getD, List.getElem?_eq_getElem hi, List.getElem?_eq_getElem hj, Option.getD_some, hu, hv, Int.toNat_natCast] at this
    rw [hu, hv, Int.toNat_natCast, Int.toNat_natCast]
    rcases (Bool.or_eq_true _ _).mp this with h | h
    ·have := ht_lt ho hun hvn hne h; omega
    ·have := ht_lt ho hvn hun (Ne.symm hne) h; omega
   have hmn := maxL_nonneg ((List.range n).map (ht n R))
   have hsub := subset_length _ ((List.range (most n R).toNat).map (fun x => ((x : Nat) : Int) + 1)) hnd (fun y hy => by
    obtain ⟨z, hz, rfl⟩ := List.mem_map.1 hy
    obtain ⟨x, rfl, hxn⟩ := hel z hz
    rw [Int.toNat_natCast]
    have h1 := ht_pos ho hxn
    have h2 : ht n R x ≤ most n R := maxL_ge (List.mem_map.2 ⟨x, List.mem_range.2 hxn, rfl⟩)
    exact List.mem_map.2 ⟨(ht n R x - 1).toNat, List.mem_range.2 (by omega), by omega⟩)
   rw [List.length_map, List.length_map, List.length_range] at hsub
   have : 0 ≤ most n R := hmn
   omega
 ·refine maxL_le (Int.natCast_nonneg _) (fun y hy => ?_)
  obtain ⟨x, hx, rfl⟩ := List.mem_map.1 hy
  have hx := List.mem_range.1 hx
  obtain ⟨set, hs, hb, hp, hl⟩ := chain_exists hn ho _ x (Nat.le_refl _) hx
  rw [← hl]
  have := largest_ge (fun x y => R x y || R y x) n hs (List.all_eq_true.2 (fun k hk => List.all_eq_true.2 (fun j hj => by
   have hk := List.mem_range.1 hk
   have hj := List.mem_range.1 hj
   obtain ⟨u, hu, _, hub⟩ := members_bit (getD_mem 0 (show j < (members set 12).length by omega))
   obtain ⟨v, hv, _, hvb⟩ := members_bit (getD_mem 0 hk)
   rw [hu, hv, Int.toNat_natCast, Int.toNat_natCast]
   exact hp u v hub hvb)))
  omega
def hvals (n : Nat) (R : Nat → Nat → Bool) (s : List Int) (i : Nat) (y : Nat) : Int := if (y : Int) ∈ s.take i then ht n R y else 0
theorem max_val (a b : Int) : spec_l00Max.f a b = some (max a b) := by
 unfold spec_l00Max.f
 split
 ·congr 1; omega
 ·congr 1; omega
theorem hnotyet {s : List Int} (hs : Ext n R n s) {i x : Nat} (hx : s[i]? = some (x : Int)) : (x : Int) ∉ s.take i := by
 intro hc
 obtain ⟨hi, h3⟩ := List.getElem?_eq_some_iff.1 hx
 obtain ⟨j, hj, he⟩ := List.mem_iff_getElem.1 hc
 rw [List.length_take] at hj
 rw [List.getElem_take] at he
 exact List.pairwise_iff_getElem.1 (List.nodup_iff_pairwise_ne.1 hs.nodup) j i (by omega) hi (by omega) (by rw [he, h3])
theorem hvals_step {s : List Int} {i x : Nat} (hx : s[i]? = some (x : Int)) : upd1 (hvals n R s i) x (ht n R x) = hvals n R s (i + 1) := by
 have hi : i < s.length := (List.getElem?_eq_some_iff.1 hx).1
 have ht' : s.take (i + 1) = s.take i ++ [(x : Int)] := by
  rw [List.take_succ_eq_append_getElem hi, (List.getElem?_eq_some_iff.1 hx).2]
 funext y
 simp only [upd1, hvals, ht', List.mem_append, List.mem_singleton]
 by_cases e : y = x
 ·subst e; simp
 ·rw [if_neg e]
  have : ¬ ((y : Int) = (x : Int)) := fun h => e (Int.ofNat.inj h)
  simp [this]
theorem specHt_ev (hn : n ≤ 12) (ho : Ord n R) {s : List Int} (hs : Ext n R n s) :
  Ev (fun k => spec_HeightOf.l0 k (tab n R) s (vec n (fun _ => 0)) 0 ((0 : Nat) : Int)) (most n R, 0) := by
 have hlen := hs.len
 have hnth : ∀ i, i < n → ∃ x : Nat, s[i]? = some (x : Int) ∧ x < n ∧ s.getD i 0 = (x : Int) := fun i hi => by
  have hi' : i < s.length := by omega
  obtain ⟨h0, h1⟩ := hs.mem _ (List.getElem_mem hi')
  obtain ⟨x, hx⟩ := Int.eq_ofNat_of_zero_le h0
  exact ⟨x, by rw [List.getElem?_eq_getElem hi', hx], by omega, by rw [List.getD_eq_getElem?_getD, List.getElem?_eq_getElem hi', hx]; rfl⟩
 have hsmall : ∀ y, y < n → ht n R y ≤ 12 := fun y hy => by
  have := ht_le ho _ y (Nat.le_refl _) hy
  have := cnt_le (n := n) (R := R) y
  omega
 have h := le_iter_inv (fun (V : (Nat → Int) × Int) (i : Nat) k => spec_HeightOf.l0 k (tab n R) s (vec n V.1) V.2 (i : Int)) (fun i _ => (hvals n R s (i + 1), maxL ((s.take (i + 1)).map (fun z => ht n R z.toNat)))) (fun i V => V = (hvals n R s i, maxL ((s.take i).map (fun z => ht n R z.toNat)))) n 0 ((fun _ => 0), 0) (by simp [hvals, maxL]; funext y; simp [hvals]) (fun i V _ hi hV => ⟨fun r hr => by
  subst hV
  have hi : i < n := by omega
  obtain ⟨x, hx, hxn, hxd⟩ := hnth i hi
  have hv0 : hvals n R s i x = 0 := by
   unfold hvals
   rw [if_neg (fun h => hnotyet hs hx h)]
  refine Ev.step (fun k => spec_HeightOf.l0.eq_2 ..) ?_
  rw [rd_nat, hxd, hlen, vec_length, Int.toNat_natCast, vec_set]
  refine ev_pos (by omega) (ev_pos (by omega) (ev_pos (by omega) (ev_pos (by omega) ?_)))
  have g := le_iter_inv (fun (v : Int) (j : Nat) k => spec_HeightOf.l1 k (tab n R) s (vec n (upd1 (hvals n R s i) x v)) (maxL ((s.take i).map (fun z => ht n R z.toNat))) (i : Int) (x : Int) (j : Int)) (fun j v => if (fun z : Int => R z.toNat x) (s.getD j 0) = true then max v ((fun z : Int => ht n R z.toNat) (s.getD j 0) + 1) else v) (fun _ v => True) i 0 1 trivial (fun j v _ hj _ => ⟨fun r hr => by
   have hj : j < i := by omega
   obtain ⟨z, hz, hzn, hzd⟩ := hnth j (by omega)
   have hzt : (z : Int) ∈ s.take i := by
    rw [List.mem_iff_getElem?]
    exact ⟨j, by rw [List.getElem?_take, if_pos hj]; exact hz⟩
   have hzx : z ≠ x := by rintro rfl; exact hnotyet hs hx hzt
   rw [hzd] at hr
   simp only [Int.toNat_natCast] at hr
   refine Ev.step (fun k => spec_HeightOf.l1.eq_2 ..) ?_
   simp only [rd_nat, hzd, tab_length, tab_get hzn, row_length, row_get hxn, hlen, vec_length, Int.toNat_natCast, wrap_succ (show j < 9223372036854775807 by omega)]
   simp only [← rd_nat, vec_get hzn, vec_get hxn, vec_set, upd1_same]
   refine ev_pos (by omega) (ev_pos (by omega) (ev_pos (by omega) (ev_pos (by omega) (ev_pos (by omega) (ev_pos (by omega) (ev_pos (by omega) ?_))))))
   have hux : upd1 (hvals n R s i) x v x = v := by simp [upd1]
   have huz : upd1 (hvals n R s i) x v z = ht n R z := by simp [upd1, hzx, hvals, hzt]
   rw [hux, huz]
   cases h1 : R z x with
   | false => rw [h1] at hr; exact ev_neg (by decide) hr
   | true =>
    rw [h1] at hr
    have hb := hsmall z hzn
    have hp := ht_pos ho hzn
    rw [wrap_small (by omega) (by omega)]
    exact ev_pos rfl (ev_pos (by omega) (ev_pos (by omega) (Ev.bind (ev_const (max_val _ _)) (by simpa using hr)))), trivial⟩)
  refine g.1 _ ?_
  rw [Nat.zero_add, iter_max (fun z => R z.toNat x) (fun z => ht n R z.toNat) s i 0 1 (by omega) (by omega), List.drop_zero]
  have hperm := ext_below ho hs hx (fun z => R z x) (fun z _ h => h)
  have hmax := maxL_perm (hperm.map (fun z => ht n R z.toNat))
  rw [List.map_map] at hmax
  have hcomp : ((fun z : Int => ht n R z.toNat) ∘ fun z : Nat => (z : Int)) = ht n R := by funext z; simp
  rw [hcomp] at hmax
  have hval : max 1 (maxL (((s.take i).filter (fun z => R z.toNat x)).map (fun z => ht n R z.toNat)) + 1) = ht n R x := by
   rw [hmax, ht_eq ho hxn]
   have := maxL_nonneg (((List.range n).filter (fun z => !(z == x) && R z x)).map (ht n R))
   show max 1 (maxL (((List.range n).filter (under R x)).map (ht n R)) + 1) = _
   have := maxL_nonneg (((List.range n).filter (under R x)).map (ht n R))
   omega
  rw [hval, hvals_step hx]
  refine Ev.step (fun k => spec_HeightOf.l1.eq_2 ..) ?_
  rw [vec_length, wrap_succ (show i < 9223372036854775807 by omega), vec_get hxn]
  have hxv : hvals n R s (i + 1) x = ht n R x := by rw [← hvals_step hx]; simp [upd1]
  rw [hxv]
  refine ev_neg (by omega) (ev_pos (by omega) (ev_pos (by omega) (Ev.bind (ev_const (max_val _ _)) ?_)))
  have htk : s.take (i + 1) = s.take i ++ [(x : Int)] := by
   obtain ⟨hi', h3⟩ := List.getElem?_eq_some_iff.1 hx
   rw [List.take_succ_eq_append_getElem hi', h3]
  have e : maxL ((s.take (i + 1)).map (fun z => ht n R z.toNat)) = max (maxL ((s.take i).map (fun z => ht n R z.toNat))) (ht n R x) := by
   rw [htk, List.map_append, List.map_singleton, maxL_append, Int.toNat_natCast]
   have := ht_pos ho hxn
   omega
  rw [e] at hr
  exact hr, rfl⟩)
 refine h.1 _ ?_
 rw [h.2, Nat.zero_add]
 refine Ev.step (fun k => spec_HeightOf.l0.eq_2 ..) ?_
 rw [hlen]
 refine ev_neg (by omega) (ev_eq (Ev.now _) ?_)
 congr 1
 unfold most
 rw [List.take_of_length_le (by omega)]
 have hperm : s.Perm ((List.range n).map (fun z => ((z : Nat) : Int))) := perm_of_mem hs.nodup (range_nodup n) (fun z => by
  constructor
  ·intro hz
   obtain ⟨h0, h1⟩ := hs.mem z hz
   obtain ⟨v, rfl⟩ := Int.eq_ofNat_of_zero_le h0
   exact List.mem_map.2 ⟨v, List.mem_range.2 (by omega), rfl⟩
  ·intro hz
   obtain ⟨v, hv, rfl⟩ := List.mem_map.1 hz
   exact ext_all hs (List.mem_range.1 hv))
 rw [maxL_perm (hperm.map (fun z => ht n R z.toNat)), List.map_map]
 congr 1
end
def heightOf (a : Int) (l : List (List Int)) : Int × Int := if okPoset a l = true then (most a.toNat (orderOf a.toNat l), 0) else (0, 1)
theorem implHeightOf_ev {a : Int} {l : List (List Int)} (hl : l.length < 9223372036854775807) : Ev (fun k => impl_HeightOf.f k a l) (heightOf a l) := by
 unfold impl_HeightOf.f heightOf
 refine Ev.bind (implValidPoset_ev hl) ?_
 cases ho : okPoset a l with
 | false => exact ev_neg (by decide) (Ev.now _)
 | true =>
  obtain ⟨n, rfl, hn, _, hp, hO, _⟩ := okPoset_iff.1 ho
  refine ev_pos rfl (Ev.bind (order_ev hn (pairs_of n hn l hp) hl) (Ev.bind (largestHeightOf_ev hn l) ?_))
  rw [if_pos rfl, Int.toNat_natCast, ← largest_most hn (ord_of hO)]
  unfold impl_size_int64.f
  exact Ev.bind (Ev.now _) (Ev.now _)
theorem specHeightOf_ev {a : Int} {l : List (List Int)} (hl : l.length < 9223372036854775807) : Ev (fun k => spec_HeightOf.f k a l) (heightOf a l) := by
 unfold spec_HeightOf.f heightOf
 refine Ev.bind (specOk_ev hl) ?_
 cases ho : okPoset a l with
 | false => exact ev_neg (by decide) (Ev.now _)
 | true =>
  obtain ⟨n, rfl, hn, _, hp, hO, _⟩ := okPoset_iff.1 ho
  refine ev_pos rfl (Ev.bind (specOrder_ev hn (pairs_of n hn l hp) hl) (Ev.bind (specFirst_ev hn (ord_of hO)) ?_))
  rw [if_pos rfl, Int.toNat_natCast]
  refine ev_pos (by omega) (ev_pos (by omega) ?_)
  rw [vec_zero]
  exact specHt_ev hn (ord_of hO) (firstExt_ext (ord_of hO))
theorem pure_HeightOf {a0 : Int} {l1 : List (List Int)} (h0 : Wf a0) (h1 : WfLL l1) : ∃ k, laws_FnExactHeightOf.f k a0 l1 = some true := by
 refine Ev.rounds (g := fun k => laws_FnExactHeightOf.f k a0 l1) ?_
 unfold laws_FnExactHeightOf.f
 rcases szPoset_ev a0 l1 1048576 h1 (by omega) (by omega) with ⟨t, ht, hn⟩ | ⟨ht, hb⟩
 ·exact Ev.bind ht (ev_pos hn (Ev.now _))
 ·have htn := total_nonneg l1
  have hrow : ∀ x ∈ l1, x.length ≤ 1048576 := fun x hx => by have := row_le_total l1 x hx; omega
  have hlen : l1.length ≤ 1048576 := by omega
  have hto := toPoset_ev a0 l1 hlen hrow
  have hlt : l1.length < 9223372036854775807 := by omega
  have heq := eqPoset_self a0 l1 hlt (fun x hx => by have := hrow x hx; omega)
  have hsp := specHeightOf_ev (a := a0) hlt
  have him := implHeightOf_ev (a := a0) hlt
  refine Ev.bind ht (ev_neg (by omega) ?_)
  (repeat (first | exact Ev.now _ | refine ev_pos rfl ?_ | refine ev_neg (by simp only []; omega) ?_ | refine ev_neg (by omega) ?_ | refine ev_neg (by simp) ?_ | refine Ev.bind (by assumption) ?_ | refine Ev.bind (ev_const (by assumption)) ?_))
end Go.Proofs.Ytnohkeijhfjbeaa.B

