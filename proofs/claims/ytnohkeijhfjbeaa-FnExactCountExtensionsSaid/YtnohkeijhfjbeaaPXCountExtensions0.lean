/- What the functions come to, for the law FnExactCountExtensions. -/
import Derived.Test.YtnohkeijhfjbeaaKANNLMG0
import Derived.Test.YtnohkeijhfjbeaaKCOICNJ0
import Derived.Test.YtnohkeijhfjbeaaKCOJMAA0
import Derived.Test.YtnohkeijhfjbeaaKCPMJHE0
import Derived.Test.YtnohkeijhfjbeaaKDHKDMB0
import Derived.Test.YtnohkeijhfjbeaaKECLLPD0
import Derived.Test.YtnohkeijhfjbeaaKEEAMGF0
import Derived.Test.YtnohkeijhfjbeaaKFDABEP0
import Derived.Test.YtnohkeijhfjbeaaKGPBBGI0
import Derived.Test.YtnohkeijhfjbeaaKIGNEMA0
import Derived.Test.YtnohkeijhfjbeaaKILNFOB0
import Derived.Test.YtnohkeijhfjbeaaKJACNBM0
import Derived.Test.YtnohkeijhfjbeaaKKNFIBK0
import Derived.Test.YtnohkeijhfjbeaaKLCGABC0
import Derived.Test.YtnohkeijhfjbeaaKLIIJKK0
import Derived.Test.YtnohkeijhfjbeaaKNMDHOC0
import Derived.Test.YtnohkeijhfjbeaaKOHGGFJ0
import Derived.Test.YtnohkeijhfjbeaaKOJFGHC0
import Derived.Test.YtnohkeijhfjbeaaKPNGCFG0
import Derived.Test.YtnohkeijhfjbeaaKW0
import Derived.Below
import Derived.ChangeOld
import Derived.Deep.Matrix
import Derived.Lib.SmallJoins
import Derived.OpenShut
import Derived.ProofKit
import Derived.ShutString
import Derived.SizedLaws
import Derived.WalkKit
set_option linter.unusedVariables false
set_option linter.unusedSimpArgs false
namespace Go.Proofs.Ytnohkeijhfjbeaa.B
open Go.RowKit Go.ChangeShapes Go.WideShapes Go.Deep Go.Proofs.YtnohkeijhfjbeaaW.PrintWords

def Wf (n : Int) : Prop := -9223372036854775808 ≤ n ∧ n ≤ 9223372036854775807
def WfL (l : List Int) : Prop := l.length ≤ 9223372036854775807 ∧ ∀ n ∈ l, Wf n
def WfLL (l : List (List Int)) : Prop := l.length ≤ 9223372036854775807 ∧ ∀ r ∈ l, WfL r
theorem wf_of {n : Int} (h : (Lit.int .i64 n).wf = true) : Wf n := by
 unfold Wf
 simp [Lit.wf, IntKind.min, IntKind.max, IntKind.bits, IntKind.signed] at h
 omega

section
variable {H : Type} {enc : TypeId × Value → H} {P : Program} {w : World} {base : Nat} {held : Bool} {fuel : Nat}
theorem opened_int {t : TypeId} {v : Value} {x : DataW H × List MemPlace} (ht : P.underlying t = some (.int .i64)) (h : DataW.trod enc P w base (fun _ => true) held fuel t [v] = some x) : ∃ n, v = .int .i64 n ∧ Wf n := by
 obtain ⟨n, he, _, hw⟩ := DataW.trod_int ht h
 exact ⟨n, by simpa using he, wf_of hw⟩
theorem opened_ints {t e : TypeId} {v : Value} {x : DataW H × List MemPlace} (ht : P.underlying t = some (.slice e)) (he : P.underlying e = some (.int .i64)) (hc : P.cellsOf e = 1) (h : DataW.trod enc P w base (fun _ => true) held fuel t [v] = some x) :
  ∃ A l c, v = .slice A l.length c ∧ (Kd.int .i64).C w A l.length l ∧ l.length ≤ c ∧ WfL l := by
 rcases open_ints ht he hc h with ⟨hcs, _⟩ | ⟨a, l, c, zs, hcs, _, hl, hm, hz, _, hcell, hwz⟩
 ·refine ⟨none, [], 0, by simpa using hcs, ⟨rfl, by simp, fun h => by simp at h⟩, by simp, by simp [WfL]⟩
 ·simp only [if_true] at hz
  have hlen : (zs.take l).length = l := by rw [List.length_take]; omega
  refine ⟨some a, zs.take l, c, by rw [hlen]; simpa using hcs, ⟨rfl, by rw [hlen]; simp only [maxLen] at hm; omega, fun _ => ⟨a, rfl, fun j p hj => ?_⟩⟩, by omega, ?_, fun n hn => wf_of (hwz n (List.mem_of_mem_take hn))⟩
  ·have hjl : j < l := by have := (List.getElem?_eq_some_iff.1 hj).1; omega
   refine ⟨[.int .i64 p], rfl, rfl, fun i u hu => ?_⟩
   cases i with
   | zero =>
    simp only [List.getElem?_cons_zero, Option.some.injEq] at hu
    subst hu
    rw [Nat.add_zero, show j * (Kd.int .i64).sz = j from Nat.mul_one j, hcell j (by omega)]
    rw [List.getElem?_take, if_pos hjl] at hj
    rw [List.getD_eq_getElem?_getD, hj]; rfl
   | succ i => simp at hu
  ·rw [hlen]; simp only [maxLen] at hm; omega
theorem opened_rows {t e q : TypeId} {v : Value} {x : DataW H × List MemPlace} (ht : P.underlying t = some (.slice e)) (he : P.underlying e = some (.slice q)) (hq : P.underlying q = some (.int .i64)) (ce : P.cellsOf e = 1) (cq : P.cellsOf q = 1) (h : DataW.trod enc P w base (fun _ => true) held fuel t [v] = some x) :
  ∃ A l c, v = .slice A l.length c ∧ (Kd.slice 2 (Kd.int .i64)).C w A l.length l ∧ l.length ≤ c ∧ WfLL l := by
 rcases open_slice1 ht ce h with ⟨hcs, _⟩ | ⟨a, l, c, m, n, V, D, Pl, hcs, _, hl, hm, hmm, _, hx⟩
 ·refine ⟨none, [], 0, by simpa using hcs, ⟨rfl, by simp, fun h => by simp at h⟩, by simp, by simp [WfLL]⟩
 ·simp only [if_true] at hmm
  subst hmm
  have each : ∀ r, r < m → ∃ y : Option Addr × List Int × Nat, V r = .slice y.1 y.2.1.length y.2.2 ∧ (Kd.int .i64).C w y.1 y.2.1.length y.2.1 ∧ y.2.1.length ≤ y.2.2 ∧ WfL y.2.1 := by
   intro r hr
   obtain ⟨A, l, c, h1, h2, h3, h4⟩ := opened_ints he hq cq (hx r hr).2
   exact ⟨(A, l, c), h1, h2, h3, h4⟩
  obtain ⟨y, hy⟩ := choose_lt each
  have hlen : ((List.range l).map fun r => (y r).2.1).length = l := by simp
  refine ⟨some a, (List.range l).map fun r => (y r).2.1, m, by rw [hlen]; simpa using hcs, ⟨rfl, by rw [hlen]; simp only [maxLen] at hm; omega, fun _ => ⟨a, rfl, fun j p hj => ?_⟩⟩, by omega, ?_, ?_⟩
  ·have hjl : j < l := by have := (List.getElem?_eq_some_iff.1 hj).1; omega
   rw [List.getElem?_map, List.getElem?_range hjl] at hj
   simp only [Option.map_some, Option.some.injEq] at hj
   subst hj
   obtain ⟨h1, h2, h3, h4⟩ := hy j (by omega)
   refine ⟨[.slice (y j).1 (y j).2.1.length (y j).2.2], rfl, ⟨_, _, rfl, h3, h2⟩, fun i u hu => ?_⟩
   cases i with
   | zero =>
    simp only [List.getElem?_cons_zero, Option.some.injEq] at hu
    subst hu
    rw [Nat.add_zero, show j * (Kd.slice 2 (Kd.int .i64)).sz = j from Nat.mul_one j, (hx j (by omega)).1, h1]
   | succ i => simp at hu
  ·rw [hlen]; simp only [maxLen] at hm; omega
  ·intro r hr
   simp only [List.mem_map, List.mem_range] at hr
   obtain ⟨j, hj, rfl⟩ := hr
   exact (hy j (by omega)).2.2.2

theorem open_agg1 {r : Reach} {b0 : Nat} {t : TypeId} {f0 : Field} {v : Value} {d : DataW H} {p : List MemPlace} (hs : P.underlying t = some (.struct #[f0])) (hone : oneCellFields P #[f0] = true) (hC : P.cellsOf t = 1)
  (hv : Value.okWide P w r b0 t v) (h : DataW.Trod enc P w base (fun _ => true) held t v d p) :
  ∃ (v0 : Value) (y0 : DataW H × List MemPlace) (n : Nat), v = .agg #[v0] ∧ DataW.trod enc P w base (fun _ => true) held n f0.type [v0] = some y0 := by
 obtain ⟨cs, rfl, hsz⟩ := okWide_struct hs hv
 obtain ⟨c0, rfl⟩ : ∃ c0, cs = #[c0] := by
  have h1 : cs.size = 1 := hsz.trans hC
  match cs, h1 with | ⟨[c0]⟩, _ => exact ⟨c0, rfl⟩
 obtain ⟨fuel, hf⟩ := h
 obtain ⟨y0, n, hx, _, h0⟩ := trod_struct1 hs hf
 obtain ⟨o0, k0⟩ := hone_of hone 0 f0 rfl
 exact ⟨c0, y0, n, rfl, by simpa [Value.cells, o0, k0] using h0⟩
end
theorem own : ownKnob Try.prog.godebug = none := by kernel_rfl
theorem laidOut : laidOutB Try.prog = true := by kernel_rfl
end Go.Proofs.Ytnohkeijhfjbeaa.B

set_option linter.unusedVariables false
set_option linter.unusedSimpArgs false
namespace Go.Proofs.Ytnohkeijhfjbeaa.B
open Go.RowKit Go.Proofs.YtnohkeijhfjbeaaW.PrintWords

def row (n : Nat) (f : Nat → Bool) : List Bool := (List.range n).map f
def tab (n : Nat) (R : Nat → Nat → Bool) : List (List Bool) := (List.range n).map fun a => row n (R a)
def upd (R : Nat → Nat → Bool) (a c : Nat) (v : Bool) : Nat → Nat → Bool := fun a' c' => if a' = a ∧ c' = c then v else R a' c'
theorem row_length (n : Nat) (f : Nat → Bool) : (row n f).length = n := by simp [row]
theorem tab_length (n : Nat) (R : Nat → Nat → Bool) : (tab n R).length = n := by simp [tab]
theorem row_get {n : Nat} {f : Nat → Bool} {j : Nat} (h : j < n) : rdOf false (row n f) (j : Int) = f j := by
 rw [rdOf_nat, row, List.getD_eq_getElem?_getD, List.getElem?_map, List.getElem?_range h]; rfl
theorem tab_get {n : Nat} {R : Nat → Nat → Bool} {i : Nat} (h : i < n) : rd_ListBool (tab n R) (i : Int) = row n (R i) := by
 simp [rd_ListBool, tab, List.getElem?_range h, h]
theorem row_set {n : Nat} {f : Nat → Bool} {c : Nat} (v : Bool) : (row n f).set c v = row n (fun c' => if c' = c then v else f c') := by
 apply List.ext_getElem (by simp [row])
 intro i h1 h2
 simp only [row, List.getElem_set, List.getElem_map, List.getElem_range]
 by_cases h : i = c
 ·simp [h]
 ·simp [h, Ne.symm h]
theorem tab_set {n : Nat} {R : Nat → Nat → Bool} {a c : Nat} (v : Bool) : (tab n R).set a ((row n (R a)).set c v) = tab n (upd R a c v) := by
 apply List.ext_getElem (by simp [tab])
 intro i h1 h2
 simp only [tab, List.getElem_set, List.getElem_map, List.getElem_range, row_set]
 by_cases h : a = i
 ·subst h
  simp only [↓reduceIte]
  congr 1
  funext c'
  simp [upd]
 ·have h' : ¬ i = a := fun e => h e.symm
  simp only [if_neg h]
  congr 1
  funext c'
  simp [upd, h']
theorem upd_self (R : Nat → Nat → Bool) (a c : Nat) (v : Bool) (h : v = R a c) : upd R a c v = R := by
 funext a' c'
 simp only [upd]
 split
 ·rename_i e; obtain ⟨rfl, rfl⟩ := e; exact h
 ·rfl

def diag (a b : Nat) : Bool := a == b
def pairsRel (pairs : List (List Int)) (R : Nat → Nat → Bool) : Nat → Nat → Bool := iter (fun i R => upd R ((pairs.getD i []).getD 0 0).toNat ((pairs.getD i []).getD 1 0).toNat true) 0 pairs.length R
def wCell (x a c : Nat) (R : Nat → Nat → Bool) : Nat → Nat → Bool := upd R a c (R a c || R a x && R x c)
def wRow (n x a : Nat) (R : Nat → Nat → Bool) : Nat → Nat → Bool := iter (wCell x a) 0 n R
def wRound (n x : Nat) (R : Nat → Nat → Bool) : Nat → Nat → Bool := iter (wRow n x) 0 n R
def warshall (n : Nat) (R : Nat → Nat → Bool) : Nat → Nat → Bool := iter (wRound n) 0 n R
def orderOf (n : Nat) (pairs : List (List Int)) : Nat → Nat → Bool := warshall n (pairsRel pairs diag)
def elem (a n : Int) : Bool := decide (0 ≤ a) && decide (a ≤ wrap64 (n - 1))
def isPair (n : Int) (p : List Int) : Bool := p.length == 2 && (elem (p.getD 0 0) n && elem (p.getD 1 0) n)
def isOrd (n : Nat) (R : Nat → Nat → Bool) : Bool := (List.range n).all fun x => (List.range x).all fun y => !(R x y && R y x)
def between (n : Nat) (R : Nat → Nat → Bool) (x y : Nat) : Bool := (List.range n).any fun z => !(z == x) && (!(z == y) && (R x z && R z y))
def covers (n : Nat) (R : Nat → Nat → Bool) (x y : Nat) : Bool := !(x == y) && (R x y && !between n R x y)
def coverRow (n : Nat) (R : Nat → Nat → Bool) (x : Nat) (s : List (List Int)) : List (List Int) := iter (fun y s => if covers n R x y then s ++ [[(x : Int), (y : Int)]] else s) 0 n s
def coversOf (n : Nat) (R : Nat → Nat → Bool) : List (List Int) := iter (coverRow n R) 0 n []
theorem coversOf_length (n : Nat) (R : Nat → Nat → Bool) : (coversOf n R).length ≤ n * n := by
 have hrow : ∀ x s, (coverRow n R x s).length ≤ s.length + n := fun x s => by
  have := iter_inv (fun y s => if covers n R x y then s ++ [[(x : Int), (y : Int)]] else s) (fun i (t : List (List Int)) => t.length ≤ s.length + i) n 0 s (by omega) (fun j t _ _ h => by
   split
   ·simp only [List.length_append, List.length_singleton]; omega
   ·omega)
  simpa [coverRow] using this
 have := iter_inv (coverRow n R) (fun i (t : List (List Int)) => t.length ≤ i * n) n 0 [] (by simp) (fun j t _ _ h => by
  have := hrow j t
  rw [Nat.add_mul, Nat.one_mul]; omega)
 simpa [coversOf] using this
theorem iter_or (p : Nat → Bool) : ∀ (d i : Nat) (b : Bool), iter (fun j b => b || p j) i d b = (b || (List.range' i d).any p)
 | 0, i, b => by simp [iter]
 | d + 1, i, b => by
  simp only [iter]
  rw [iter_or p d (i + 1)]
  simp [List.range'_succ, Bool.or_assoc]
theorem iter_or_any (p : Nat → Bool) (n : Nat) : iter (fun j b => b || p j) 0 n false = (List.range n).any p := by
 rw [iter_or, Bool.false_or, List.range_eq_range']
theorem iter_and (p : Nat → Bool) : ∀ (d i : Nat) (b : Bool), iter (fun j b => b && p j) i d b = (b && (List.range' i d).all p)
 | 0, i, b => by simp [iter]
 | d + 1, i, b => by
  simp only [iter]
  rw [iter_and p d (i + 1)]
  simp [List.range'_succ, Bool.and_assoc]
theorem iter_and_all (p : Nat → Bool) (n : Nat) : iter (fun j b => b && p j) 0 n true = (List.range n).all p := by
 rw [iter_and, Bool.true_and, List.range_eq_range']
def pick (p : Nat → Bool) (n : Nat) : List Int := iter (fun x s => if p x = true then s ++ [(x : Int)] else s) 0 n []
theorem pick_step_le (p : Nat → Bool) (n i : Nat) (s : List Int) : (iter (fun x s => if p x = true then s ++ [(x : Int)] else s) i n s).length ≤ s.length + n := by
 have := iter_inv (fun x s => if p x = true then s ++ [(x : Int)] else s) (fun j (t : List Int) => t.length + i ≤ s.length + j) n i s (by omega) (fun j t _ _ h => by
  split
  ·simp only [List.length_append, List.length_singleton]; omega
  ·omega)
 omega
theorem pick_le (p : Nat → Bool) (n : Nat) : (pick p n).length ≤ n := by
 have := pick_step_le p n 0 []
 simpa [pick] using this
end Go.Proofs.Ytnohkeijhfjbeaa.B

set_option linter.unusedVariables false
set_option linter.unusedSimpArgs false
namespace Go.Proofs.Ytnohkeijhfjbeaa.B
open Go.RowKit Go.Proofs.YtnohkeijhfjbeaaW.PrintWords

theorem within_val (a b c : Int) : z89.f a b c = some (decide (b ≤ a) && decide (a ≤ c)) := by
 unfold z89.f
 by_cases h : a ≥ b
 ·rw [if_pos h]; simp [h]
 ·rw [if_neg h]; simp; omega
theorem in_val (a b c : Int) : z55.f a b c = some (decide (b ≤ a) && decide (a ≤ c)) := by
 unfold z55.f
 by_cases h : a ≥ b
 ·rw [if_pos h]; simp [h]
 ·rw [if_neg h]; simp; omega

theorem getD_mem {α : Type} {l : List α} {i : Nat} (z : α) (h : i < l.length) : l.getD i z ∈ l := by
 rw [List.getD_eq_getElem?_getD, List.getElem?_eq_getElem h]; exact List.getElem_mem h

theorem rdl_nat (l : List (List Int)) (i : Nat) : rd_ListInt l (i : Int) = l.getD i [] := by simp [rd_ListInt]

end Go.Proofs.Ytnohkeijhfjbeaa.B

set_option linter.unusedVariables false
set_option linter.unusedSimpArgs false
namespace Go.Proofs.Ytnohkeijhfjbeaa.B
open Go.RowKit Go.Proofs.YtnohkeijhfjbeaaW.PrintWords

def Pairs (n : Nat) (pairs : List (List Int)) : Prop := ∀ p ∈ pairs, p.length = 2 ∧ 0 ≤ p.getD 0 0 ∧ p.getD 0 0 < n ∧ 0 ≤ p.getD 1 0 ∧ p.getD 1 0 < n
section
variable {n : Nat} {pairs : List (List Int)}
theorem belowOf_cells (hn : n ≤ 12) (x a : Nat) (hx : x < n) (ha : a < n) (m : Nat) (hm : m = n) (R : Nat → Nat → Bool) : Le (fun k => z61.l3 k (tab n (wRow n x a R)) (x : Int) (n : Int) (x : Int) (n : Int) ((a + 1 : Nat) : Int)) (fun k => z61.l4 k (tab n R) (x : Int) (a : Int) (n : Int) (x : Int) (n : Int) (a : Int) (n : Int) ((0 : Nat) : Int)) := by
 have h := le_iter (fun (R : Nat → Nat → Bool) (c : Nat) k => z61.l4 k (tab n R) (x : Int) (a : Int) (n : Int) (x : Int) (n : Int) (a : Int) (n : Int) (c : Int)) (wCell x a) n 0 R (fun c R _ hc r hr => by
  have hc : c < n := by omega
  refine Ev.step (fun k => z61.l4.eq_2 ..) ?_
  simp only [tab_length, tab_get ha, tab_get hx, row_length, row_get hc, row_get hx, Int.toNat_natCast, wrap_succ (show c < 9223372036854775807 by omega)]
  (repeat (first | refine ev_pos (by omega) ?_ | refine ev_neg (by omega) ?_))
  have hs := fun v => tab_set (n := n) (R := R) (a := a) (c := c) v
  simp only [hs]
  by_cases h1 : R a c = true
  ·refine ev_pos h1 ?_
   have : wCell x a c R = upd R a c true := by simp [wCell, h1]
   rw [this] at hr; exact hr
  ·refine ev_neg h1 ?_
   (repeat (first | refine ev_pos (by omega) ?_ | refine ev_neg (by omega) ?_))
   by_cases h2 : R a x = true
   ·refine ev_pos h2 ?_
    (repeat (first | refine ev_pos (by omega) ?_ | refine ev_neg (by omega) ?_))
    have : wCell x a c R = upd R a c (R x c) := by simp [wCell, h1, h2]
    rw [this] at hr; exact hr
   ·refine ev_neg h2 ?_
    have : wCell x a c R = upd R a c false := by simp [wCell, h1, h2]
    rw [this] at hr; exact hr)
 refine Le.trans (fun r hr => ?_) h
 rw [Nat.zero_add]
 refine Ev.step (fun k => z61.l4.eq_2 ..) ?_
 rw [wrap_succ (show a < 9223372036854775807 by omega)]
 exact ev_neg (by omega) hr
theorem belowOf_round (hn : n ≤ 12) (x : Nat) (hx : x < n) (R : Nat → Nat → Bool) : Le (fun k => z61.l2 k (tab n (wRound n x R)) (n : Int) ((x + 1 : Nat) : Int)) (fun k => z61.l3 k (tab n R) (x : Int) (n : Int) (x : Int) (n : Int) ((0 : Nat) : Int)) := by
 have h := le_iter (fun (R : Nat → Nat → Bool) (a : Nat) k => z61.l3 k (tab n R) (x : Int) (n : Int) (x : Int) (n : Int) (a : Int)) (wRow n x) n 0 R (fun a R _ ha r hr => by
  have ha : a < n := by omega
  refine Ev.step (fun k => z61.l3.eq_2 ..) ?_
  (repeat (first | refine ev_pos (by omega) ?_ | refine ev_neg (by omega) ?_))
  rw [tab_length]
  exact belowOf_cells hn x a hx ha n rfl R r hr)
 refine Le.trans (fun r hr => ?_) h
 rw [Nat.zero_add]
 refine Ev.step (fun k => z61.l3.eq_2 ..) ?_
 rw [wrap_succ (show x < 9223372036854775807 by omega)]
 exact ev_neg (by omega) hr
theorem belowOf_loop (hn : n ≤ 12) (R : Nat → Nat → Bool) : Ev (fun k => z61.l2 k (tab n R) (n : Int) ((0 : Nat) : Int)) (tab n (warshall n R)) := by
 have h := le_iter (fun (R : Nat → Nat → Bool) (x : Nat) k => z61.l2 k (tab n R) (n : Int) (x : Int)) (wRound n) n 0 R (fun x R _ hx r hr => by
  have hx : x < n := by omega
  refine Ev.step (fun k => z61.l2.eq_2 ..) ?_
  (repeat (first | refine ev_pos (by omega) ?_ | refine ev_neg (by omega) ?_))
  rw [tab_length]
  exact belowOf_round hn x hx R r hr)
 refine h _ ?_
 rw [Nat.zero_add]
 refine Ev.step (fun k => z61.l2.eq_2 ..) ?_
 exact ev_neg (by omega) (Ev.now _)
theorem belowOf_pairs (hn : n ≤ 12) (hp : Pairs n pairs) (hl : pairs.length < 9223372036854775807) (R : Nat → Nat → Bool) : Ev (fun k => z61.l1 k (tab n R) pairs (pairs.length : Int) ((0 : Nat) : Int)) (tab n (warshall n (pairsRel pairs R))) := by
 have h := le_iter (fun (R : Nat → Nat → Bool) (i : Nat) k => z61.l1 k (tab n R) pairs (pairs.length : Int) (i : Int)) (fun i R => upd R ((pairs.getD i []).getD 0 0).toNat ((pairs.getD i []).getD 1 0).toNat true) pairs.length 0 R (fun i R _ hi r hr => by
  have hi : i < pairs.length := by omega
  obtain ⟨h2, h3, h4, h5, h6⟩ := hp _ (getD_mem [] hi)
  obtain ⟨u, hu⟩ := Int.eq_ofNat_of_zero_le h3
  obtain ⟨v, hv⟩ := Int.eq_ofNat_of_zero_le h5
  have hu' : u < n := by omega
  have hv' : v < n := by omega
  have e0 : rd (rd_ListInt pairs (i : Int)) 0 = (u : Int) := by rw [rdl_nat, show (0 : Int) = ((0 : Nat) : Int) from rfl, rd_nat]; exact hu
  have e1 : rd (rd_ListInt pairs (i : Int)) 1 = (v : Int) := by rw [rdl_nat, show (1 : Int) = ((1 : Nat) : Int) from rfl, rd_nat]; exact hv
  have e2 : ((rd_ListInt pairs (i : Int)).length : Int) = 2 := by rw [rdl_nat, h2]; rfl
  have et : ((pairs.getD i []).getD 0 0).toNat = u := by rw [hu]; exact Int.toNat_natCast u
  have ev : ((pairs.getD i []).getD 1 0).toNat = v := by rw [hv]; exact Int.toNat_natCast v
  rw [et, ev] at hr
  refine Ev.step (fun k => z61.l1.eq_2 ..) ?_
  simp only [e0, e1, e2, tab_length, tab_get hu', row_length, Int.toNat_natCast, wrap_succ (show i < 9223372036854775807 by omega), tab_set]
  (repeat (first | refine ev_pos (by omega) ?_ | refine ev_neg (by omega) ?_))
  exact hr)
 refine h _ ?_
 rw [Nat.zero_add]
 refine Ev.step (fun k => z61.l1.eq_2 ..) ?_
 refine ev_neg (by omega) ?_
 rw [tab_length]
 exact belowOf_loop hn _
theorem tab_diag_rows (n : Nat) : (List.range n).map (fun a => row n (diag a)) = tab n diag := rfl
theorem belowOf_ev (hn : n ≤ 12) (hp : Pairs n pairs) (hl : pairs.length < 9223372036854775807) : Ev (fun k => z61.f k (n : Int) pairs) (tab n (orderOf n pairs)) := by
 have h := le_iter_inv (fun (s : List (List Bool)) (i : Nat) k => z61.l0 k (n : Int) pairs s (n : Int) (i : Int)) (fun i s => s.set i (row n (diag i))) (fun i s => s = (tab n diag).take i ++ List.replicate (n - i) []) n 0 (List.replicate n []) (by simp) (by
  intro i s _ hi hs
  have hi : i < n := by omega
  have hlen : s.length = n := by subst hs; simp only [List.length_append, List.length_take, List.length_replicate, tab_length]; omega
  have hrep : List.replicate n false = row n (fun _ => false) := by simp [row, List.map_const']
  have hsl : (s.set i (List.replicate n false)).length = n := by rw [List.length_set]; exact hlen
  have hrd : rd_ListBool (s.set i (List.replicate n false)) (i : Int) = List.replicate n false := by
   simp [rd_ListBool, List.getElem?_set_self (show i < s.length by omega)]
  have hrow : (List.replicate n false).set i true = row n (diag i) := by
   rw [hrep, row_set]
   congr 1
   funext c
   simp only [diag]
   by_cases e : c = i
   ·simp [e]
   ·simp [e, Ne.symm e]
  refine ⟨fun r hr => ?_, ?_⟩
  ·refine Ev.step (fun k => z61.l0.eq_2 ..) ?_
   simp only [Int.toNat_natCast, hlen, hsl, hrd, List.length_replicate, hrow, List.set_set, Option.bind_some, wrap_succ (show i < 9223372036854775807 by omega)]
   (repeat (first | refine ev_pos (by omega) ?_ | refine ev_neg (by omega) ?_))
   exact hr
  ·subst hs
   have := set_prefix (tab n diag) i [] (by rw [tab_length]; exact hi) (row n (diag i)) (by rw [List.getD_eq_getElem?_getD]; simp [tab, List.getElem?_range hi])
   rw [tab_length] at this
   exact this)
 unfold z61.f
 simp only [Int.toNat_natCast, Option.bind_some, List.length_replicate]
 (repeat (first | refine ev_pos (by omega) ?_ | refine ev_neg (by omega) ?_))
 refine h.1 _ ?_
 rw [Nat.zero_add, h.2, show (List.take (0 + n) (tab n diag) ++ List.replicate (n - (0 + n)) ([] : List Bool)) = tab n diag by rw [Nat.zero_add, Nat.sub_self, List.replicate_zero, List.append_nil, List.take_of_length_le (by rw [tab_length]; exact Nat.le_refl _)]]
 refine Ev.step (fun k => z61.l0.eq_2 ..) ?_
 refine ev_neg (by omega) ?_
 exact belowOf_pairs hn hp hl diag
end
end Go.Proofs.Ytnohkeijhfjbeaa.B

set_option linter.unusedVariables false
set_option linter.unusedSimpArgs false
namespace Go.Proofs.Ytnohkeijhfjbeaa.B
open Go.RowKit Go.Proofs.YtnohkeijhfjbeaaW.PrintWords

section
variable {n : Nat} {pairs : List (List Int)} {R : Nat → Nat → Bool}
theorem isOrder_ev (hn : n ≤ 12) : Ev (fun k => z62.f k (tab n R)) (isOrd n R) := by
 unfold z62.f isOrd
 rw [tab_length]
 refine ev_all (fun x k => z62.l0 k (tab n R) (n : Int) (x : Int)) _ n (fun x hx hp r hr => ?_) (fun x hx hp => ?_) ?_
 ·refine Ev.step (fun k => z62.l0.eq_2 ..) ?_
  (first | refine ev_pos (by omega) ?_ | refine ev_neg (by omega) ?_)
  have hp := List.all_eq_true.1 hp
  refine ev_find (fun y k => z62.l1 k (tab n R) (x : Int) (n : Int) (x : Int) (x : Int) (y : Int)) (fun _ => false) x 0 (fun y _ hy _ r hr => ?_) (fun _ _ _ h => by cases h) (fun _ => ?_)
  ·have hy : y < x := by omega
   have hyn : y < n := by omega
   have hq := hp y (List.mem_range.2 hy)
   refine Ev.step (fun k => z62.l1.eq_2 ..) ?_
   simp only [tab_length, tab_get hx, tab_get hyn, row_length, row_get hx, row_get hyn, wrap_succ (show y < 9223372036854775807 by omega)]
   (repeat (first | refine ev_pos (by omega) ?_ | refine ev_neg (by omega) ?_))
   by_cases h1 : R x y = true
   ·refine ev_pos h1 ?_
    (repeat (first | refine ev_pos (by omega) ?_ | refine ev_neg (by omega) ?_))
    have h2 : R y x = false := by rw [h1] at hq; simpa using hq
    exact ev_neg (by rw [h2]; decide) hr
   ·exact ev_neg h1 hr
  ·rw [Nat.zero_add]
   refine Ev.step (fun k => z62.l1.eq_2 ..) ?_
   rw [wrap_succ (show x < 9223372036854775807 by omega)]
   exact ev_neg (by omega) hr
 ·refine Ev.step (fun k => z62.l0.eq_2 ..) ?_
  (first | refine ev_pos (by omega) ?_ | refine ev_neg (by omega) ?_)
  refine ev_find (fun y k => z62.l1 k (tab n R) (x : Int) (n : Int) (x : Int) (x : Int) (y : Int)) (fun y => R x y && R y x) x 0 (fun y _ hy hpy r hr => ?_) (fun y _ hy hpy _ => ?_) (fun h => ?_)
  ·have hy : y < x := by omega
   have hyn : y < n := by omega
   refine Ev.step (fun k => z62.l1.eq_2 ..) ?_
   simp only [tab_length, tab_get hx, tab_get hyn, row_length, row_get hx, row_get hyn, wrap_succ (show y < 9223372036854775807 by omega)]
   (repeat (first | refine ev_pos (by omega) ?_ | refine ev_neg (by omega) ?_))
   by_cases h1 : R x y = true
   ·refine ev_pos h1 ?_
    (repeat (first | refine ev_pos (by omega) ?_ | refine ev_neg (by omega) ?_))
    have h2 : R y x = false := by rw [h1] at hpy; simpa using hpy
    exact ev_neg (by rw [h2]; decide) hr
   ·exact ev_neg h1 hr
  ·have hy : y < x := by omega
   have hyn : y < n := by omega
   obtain ⟨h1, h2⟩ := (Bool.and_eq_true _ _).mp hpy
   refine Ev.step (fun k => z62.l1.eq_2 ..) ?_
   simp only [tab_length, tab_get hx, tab_get hyn, row_length, row_get hx, row_get hyn]
   (repeat (first | refine ev_pos (by omega) ?_ | refine ev_neg (by omega) ?_))
   exact Ev.now _
  ·exfalso
   have : ((List.range x).all fun y => !(R x y && R y x)) = true := List.all_eq_true.2 (fun y hy => by rw [h y (Nat.zero_le _) (by have := List.mem_range.1 hy; omega)]; rfl)
   rw [hp] at this; cases this
 ·refine Ev.step (fun k => z62.l0.eq_2 ..) ?_
  exact ev_neg (by omega) (Ev.now _)

theorem between_iter (x y : Nat) : iter (fun z b => b || (!(z == x) && (!(z == y) && (R x z && R z y)))) 0 n false = between n R x y := iter_or_any _ n

theorem implCovers_ev (hn : n ≤ 12) : Ev (fun k => z63.f k (tab n R)) (coversOf n R) := by
 unfold z63.f
 rw [tab_length]
 have hlen : ∀ x s, (coverRow n R x s).length ≤ s.length + n := fun x s => by
  have := iter_inv (fun y s => if covers n R x y then s ++ [[(x : Int), (y : Int)]] else s) (fun i (t : List (List Int)) => t.length ≤ s.length + i) n 0 s (by omega) (fun j t _ _ h => by
   split
   ·simp only [List.length_append, List.length_singleton]; omega
   ·omega)
  simpa [coverRow] using this
 have h := le_iter_inv (fun (s : List (List Int)) (x : Nat) k => z63.l0 k (tab n R) s (n : Int) (x : Int)) (coverRow n R) (fun x s => s.length ≤ x * n) n 0 [] (by simp) (fun x s _ hx hs => ⟨fun r hr => ?_, by have := hlen x s; rw [Nat.add_mul, Nat.one_mul]; omega⟩)
 ·refine h.1 _ ?_
  rw [Nat.zero_add]
  refine Ev.step (fun k => z63.l0.eq_2 ..) ?_
  exact ev_neg (by omega) (Ev.now _)
 ·have hx : x < n := by omega
  have hxn : x * n ≤ 12 * 12 := Nat.mul_le_mul (by omega) hn
  refine Ev.step (fun k => z63.l0.eq_2 ..) ?_
  (first | refine ev_pos (by omega) ?_ | refine ev_neg (by omega) ?_)
  rw [tab_length]
  have g := le_iter_inv (fun (s : List (List Int)) (y : Nat) k => z63.l1 k (tab n R) s (x : Int) (n : Int) (x : Int) (n : Int) (y : Int)) (fun y s => if covers n R x y then s ++ [[(x : Int), (y : Int)]] else s) (fun y t => t.length ≤ s.length + y) n 0 s (by omega) (fun y t _ hy ht => ⟨fun r hr => ?_, by
   split
   ·simp only [List.length_append, List.length_singleton]; omega
   ·omega⟩)
  ·refine g.1 _ ?_
   rw [Nat.zero_add]
   refine Ev.step (fun k => z63.l1.eq_2 ..) ?_
   rw [wrap_succ (show x < 9223372036854775807 by omega)]
   exact ev_neg (by omega) hr
  ·have hy : y < n := by omega
   refine Ev.step (fun k => z63.l1.eq_2 ..) ?_
   (first | refine ev_pos (by omega) ?_ | refine ev_neg (by omega) ?_)
   rw [tab_length]
   have e := le_iter (fun (b : Bool) (z : Nat) k => z63.l2 k (tab n R) t (x : Int) (y : Int) b (n : Int) (x : Int) (n : Int) (y : Int) (n : Int) (z : Int)) (fun z b => b || (!(z == x) && (!(z == y) && (R x z && R z y)))) n 0 false (fun z b _ hz r hr => ?_)
   ·refine e _ ?_
    rw [between_iter, Nat.zero_add]
    refine Ev.step (fun k => z63.l2.eq_2 ..) ?_
    simp only [tab_length, tab_get hx, row_length, row_get hy, wrap_succ (show y < 9223372036854775807 by omega)]
    (first | refine ev_pos (by omega) ?_ | refine ev_neg (by omega) ?_)
    by_cases hxy : x = y
    ·have hc : covers n R x y = false := by simp [covers, hxy]
     rw [hc] at hr
     exact ev_pos (by omega) hr
    ·(repeat (first | refine ev_pos (by omega) ?_ | refine ev_neg (by omega) ?_))
     by_cases h1 : R x y = true
     ·refine ev_pos h1 ?_
      cases hb : between n R x y with
      | true =>
       have hc : covers n R x y = false := by simp [covers, hb]
       rw [hc] at hr
       exact ev_pos rfl hr
      | false =>
       have hc : covers n R x y = true := by simp [covers, hb, h1, hxy]
       rw [hc] at hr
       exact ev_neg (by decide) (ev_pos (by omega) hr)
     ·have hc : covers n R x y = false := by simp [covers, h1]
      rw [hc] at hr
      exact ev_neg h1 hr
   ·have hz : z < n := by omega
    refine Ev.step (fun k => z63.l2.eq_2 ..) ?_
    simp only [tab_length, tab_get hx, tab_get hz, row_length, row_get hz, row_get hy, wrap_succ (show z < 9223372036854775807 by omega)]
    (first | refine ev_pos (by omega) ?_ | refine ev_neg (by omega) ?_)
    cases b with
    | true => exact ev_pos rfl (by simpa using hr)
    | false =>
     refine ev_neg (by decide) ?_
     by_cases hzx : z = x
     ·have : (z == x) = true := by simpa using hzx
      rw [this] at hr
      exact ev_pos (by omega) (by simpa using hr)
     ·have h0 : (z == x) = false := by simpa using hzx
      rw [h0] at hr
      refine ev_neg (by omega) ?_
      by_cases hzy : z = y
      ·have : (z == y) = true := by simpa using hzy
       rw [this] at hr
       exact ev_pos (by omega) (by simpa using hr)
      ·have h0 : (z == y) = false := by simpa using hzy
       rw [h0] at hr
       refine ev_neg (by omega) ?_
       (repeat (first | refine ev_pos (by omega) ?_ | refine ev_neg (by omega) ?_))
       by_cases h1 : R x z = true
       ·rw [h1] at hr
        refine ev_pos h1 ?_
        (repeat (first | refine ev_pos (by omega) ?_ | refine ev_neg (by omega) ?_))
        simpa using hr
       ·have h1' : R x z = false := by simpa using h1
        rw [h1'] at hr
        exact ev_neg h1 (by simpa using hr)
end
end Go.Proofs.Ytnohkeijhfjbeaa.B

set_option linter.unusedVariables false
set_option linter.unusedSimpArgs false
namespace Go.Proofs.Ytnohkeijhfjbeaa.B
open Go.RowKit Go.Proofs.YtnohkeijhfjbeaaW.PrintWords

section
variable {n : Nat} {pairs : List (List Int)} {R : Nat → Nat → Bool}
theorem table_cells (hn : n ≤ 12) (x a : Nat) (hx : x < n) (ha : a < n) (R : Nat → Nat → Bool) : Le (fun k => z58.l3 k (n : Int) (tab n (wRow n x a R)) (x : Int) ((a + 1 : Nat) : Int)) (fun k => z58.l4 k (n : Int) (tab n R) (x : Int) (a : Int) ((0 : Nat) : Int)) := by
 have h := le_iter (fun (R : Nat → Nat → Bool) (c : Nat) k => z58.l4 k (n : Int) (tab n R) (x : Int) (a : Int) (c : Int)) (wCell x a) n 0 R (fun c R _ hc r hr => by
  have hc : c < n := by omega
  refine Ev.step (fun k => z58.l4.eq_2 ..) ?_
  have hs := fun v => tab_set (n := n) (R := R) (a := a) (c := c) v
  simp only [tab_length, tab_get ha, tab_get hx, row_length, row_get hc, row_get hx, Int.toNat_natCast, wrap_succ (show c < 9223372036854775807 by omega), hs]
  refine ev_pos (by omega) (ev_pos (by omega) (ev_pos (by omega) (ev_pos (by omega) (ev_pos (by omega) ?_))))
  cases h2 : R a x with
  | false =>
   have : wCell x a c R = R := by
    have : wCell x a c R = upd R a c (R a c) := by simp [wCell, h2]
    rw [this]; exact upd_self _ _ _ _ rfl
   rw [this] at hr
   exact ev_neg (by decide) hr
  | true =>
   refine ev_pos rfl (ev_pos (by omega) (ev_pos (by omega) (ev_pos (by omega) ?_)))
   cases h3 : R x c with
   | false =>
    have : wCell x a c R = R := by
     have : wCell x a c R = upd R a c (R a c) := by simp [wCell, h3]
     rw [this]; exact upd_self _ _ _ _ rfl
    rw [this] at hr
    exact ev_neg (by decide) hr
   | true =>
    have : wCell x a c R = upd R a c true := by simp [wCell, h2, h3]
    rw [this] at hr
    exact ev_pos rfl (ev_pos (by omega) hr))
 refine Le.trans (fun r hr => ?_) h
 rw [Nat.zero_add]
 refine Ev.step (fun k => z58.l4.eq_2 ..) ?_
 rw [wrap_succ (show a < 9223372036854775807 by omega)]
 exact ev_neg (by omega) hr
theorem table_round (hn : n ≤ 12) (x : Nat) (hx : x < n) (R : Nat → Nat → Bool) : Le (fun k => z58.l2 k (n : Int) (tab n (wRound n x R)) ((x + 1 : Nat) : Int)) (fun k => z58.l3 k (n : Int) (tab n R) (x : Int) ((0 : Nat) : Int)) := by
 have h := le_iter (fun (R : Nat → Nat → Bool) (a : Nat) k => z58.l3 k (n : Int) (tab n R) (x : Int) (a : Int)) (wRow n x) n 0 R (fun a R _ ha r hr => by
  have ha : a < n := by omega
  refine Ev.step (fun k => z58.l3.eq_2 ..) ?_
  (first | refine ev_pos (by omega) ?_ | refine ev_neg (by omega) ?_)
  exact table_cells hn x a hx ha R r hr)
 refine Le.trans (fun r hr => ?_) h
 rw [Nat.zero_add]
 refine Ev.step (fun k => z58.l3.eq_2 ..) ?_
 rw [wrap_succ (show x < 9223372036854775807 by omega)]
 exact ev_neg (by omega) hr
theorem table_loop (hn : n ≤ 12) (R : Nat → Nat → Bool) : Ev (fun k => z58.l2 k (n : Int) (tab n R) ((0 : Nat) : Int)) (tab n (warshall n R)) := by
 have h := le_iter (fun (R : Nat → Nat → Bool) (x : Nat) k => z58.l2 k (n : Int) (tab n R) (x : Int)) (wRound n) n 0 R (fun x R _ hx r hr => by
  have hx : x < n := by omega
  refine Ev.step (fun k => z58.l2.eq_2 ..) ?_
  (first | refine ev_pos (by omega) ?_ | refine ev_neg (by omega) ?_)
  exact table_round hn x hx R r hr)
 refine h _ ?_
 rw [Nat.zero_add]
 refine Ev.step (fun k => z58.l2.eq_2 ..) ?_
 exact ev_neg (by omega) (Ev.now _)
theorem table_pairs (hn : n ≤ 12) (hp : Pairs n pairs) (hl : pairs.length < 9223372036854775807) (R : Nat → Nat → Bool) : Ev (fun k => z58.l1 k (n : Int) pairs (tab n R) ((0 : Nat) : Int)) (tab n (warshall n (pairsRel pairs R))) := by
 have h := le_iter (fun (R : Nat → Nat → Bool) (i : Nat) k => z58.l1 k (n : Int) pairs (tab n R) (i : Int)) (fun i R => upd R ((pairs.getD i []).getD 0 0).toNat ((pairs.getD i []).getD 1 0).toNat true) pairs.length 0 R (fun i R _ hi r hr => by
  have hi : i < pairs.length := by omega
  obtain ⟨h2, h3, h4, h5, h6⟩ := hp _ (getD_mem [] hi)
  obtain ⟨u, hu⟩ := Int.eq_ofNat_of_zero_le h3
  obtain ⟨v, hv⟩ := Int.eq_ofNat_of_zero_le h5
  have hu' : u < n := by omega
  have hv' : v < n := by omega
  have e0 : rd (rd_ListInt pairs (i : Int)) 0 = (u : Int) := by rw [rdl_nat, show (0 : Int) = ((0 : Nat) : Int) from rfl, rd_nat]; exact hu
  have e1 : rd (rd_ListInt pairs (i : Int)) 1 = (v : Int) := by rw [rdl_nat, show (1 : Int) = ((1 : Nat) : Int) from rfl, rd_nat]; exact hv
  have e2 : ((rd_ListInt pairs (i : Int)).length : Int) = 2 := by rw [rdl_nat, h2]; rfl
  have et : ((pairs.getD i []).getD 0 0).toNat = u := by rw [hu]; exact Int.toNat_natCast u
  have ev : ((pairs.getD i []).getD 1 0).toNat = v := by rw [hv]; exact Int.toNat_natCast v
  rw [et, ev] at hr
  refine Ev.step (fun k => z58.l1.eq_2 ..) ?_
  simp only [e0, e1, e2, tab_length, tab_get hu', row_length, Int.toNat_natCast, wrap_succ (show i < 9223372036854775807 by omega), tab_set]
  (repeat (first | refine ev_pos (by omega) ?_ | refine ev_neg (by omega) ?_))
  exact hr)
 refine h _ ?_
 rw [Nat.zero_add]
 refine Ev.step (fun k => z58.l1.eq_2 ..) ?_
 exact ev_neg (by omega) (table_loop hn _)
theorem table_ev (hn : n ≤ 12) (hp : Pairs n pairs) (hl : pairs.length < 9223372036854775807) : Ev (fun k => z58.f k (n : Int) pairs) (tab n (orderOf n pairs)) := by
 have h := le_iter_inv (fun (s : List (List Bool)) (i : Nat) k => z58.l0 k (n : Int) pairs s (i : Int)) (fun i s => s ++ [row n (diag i)]) (fun i s => s = (tab n diag).take i) n 0 [] (by simp) (by
  intro i s _ hi hs
  have hi : i < n := by omega
  have hlen : s.length = i := by subst hs; simp only [List.length_take, tab_length]; omega
  have hrep : List.replicate n false = row n (fun _ => false) := by simp [row, List.map_const']
  have hrow : (List.replicate n false).set i true = row n (diag i) := by
   rw [hrep, row_set]
   congr 1
   funext c
   simp only [diag]
   by_cases e : c = i
   ·simp [e]
   ·simp [e, Ne.symm e]
  refine ⟨fun r hr => ?_, ?_⟩
  ·refine Ev.step (fun k => z58.l0.eq_2 ..) ?_
   simp only [Int.toNat_natCast, hlen, List.length_replicate, hrow, Option.bind_some, wrap_succ (show i < 9223372036854775807 by omega)]
   (repeat (first | refine ev_pos (by omega) ?_ | refine ev_neg (by omega) ?_))
   exact hr
  ·subst hs
   rw [List.take_succ_eq_append_getElem (by rw [tab_length]; exact hi)]
   simp [tab])
 unfold z58.f
 refine h.1 _ ?_
 rw [Nat.zero_add, h.2, Nat.zero_add, List.take_of_length_le (by rw [tab_length]; exact Nat.le_refl _)]
 refine Ev.step (fun k => z58.l0.eq_2 ..) ?_
 exact ev_neg (by omega) (table_pairs hn hp hl diag)

theorem isOrd_iff : isOrd n R = true ↔ ∀ x y, x < n → y < n → x ≠ y → R x y = true → R y x = false := by
 unfold isOrd
 rw [List.all_eq_true]
 constructor
 ·intro h x y hx hy hne hxy
  rcases Nat.lt_or_gt_of_ne hne with hlt | hlt
  ·have := List.all_eq_true.1 (h y (List.mem_range.2 hy)) x (List.mem_range.2 hlt)
   rw [hxy, Bool.and_true] at this
   simpa using this
  ·have := List.all_eq_true.1 (h x (List.mem_range.2 hx)) y (List.mem_range.2 hlt)
   rw [hxy, Bool.true_and] at this
   simpa using this
 ·intro h x hx
  have hx := List.mem_range.1 hx
  refine List.all_eq_true.2 (fun y hy => ?_)
  have hy := List.mem_range.1 hy
  cases hxy : R x y with
  | false => rfl
  | true => rw [h x y hx (by omega) (by omega) hxy]; rfl

theorem specBetween (hn : n ≤ 12) {x y : Nat} (hx : x < n) (hy : y < n) (s : List (List Int)) {r : List (List Int) × Bool} (hs : s.length < 5864062014805)
  (h : Ev (fun k => z57.l1 k (tab n R) (if between n R x y = true then s else s ++ [[(x : Int), (y : Int)]]) (x : Int) ((y + 1 : Nat) : Int)) r) : Ev (fun k => z57.l2 k (tab n R) s (x : Int) (y : Int) false ((0 : Nat) : Int)) r := by
 have e := le_iter (fun (b : Bool) (z : Nat) k => z57.l2 k (tab n R) s (x : Int) (y : Int) b (z : Int)) (fun z b => b || (!(z == x) && (!(z == y) && (R x z && R z y)))) n 0 false (fun z b _ hz r hr => ?_)
 ·refine e _ ?_
  rw [between_iter, Nat.zero_add]
  refine Ev.step (fun k => z57.l2.eq_2 ..) ?_
  simp only [tab_length, wrap_succ (show y < 9223372036854775807 by omega)]
  (first | refine ev_pos (by omega) ?_ | refine ev_neg (by omega) ?_)
  cases hb : between n R x y with
  | true => rw [hb] at h; exact ev_pos rfl h
  | false => rw [hb] at h; exact ev_neg (by decide) (ev_pos (by omega) h)
 ·have hz : z < n := by omega
  refine Ev.step (fun k => z57.l2.eq_2 ..) ?_
  simp only [tab_length, tab_get hx, tab_get hz, row_length, row_get hz, row_get hy, wrap_succ (show z < 9223372036854775807 by omega)]
  (first | refine ev_pos (by omega) ?_ | refine ev_neg (by omega) ?_)
  cases b with
  | true => exact ev_pos rfl (by simpa using hr)
  | false =>
   refine ev_neg (by decide) ?_
   by_cases hzx : z = x
   ·have : (z == x) = true := by simpa using hzx
    rw [this] at hr
    exact ev_pos (by omega) (by simpa using hr)
   ·have h0 : (z == x) = false := by simpa using hzx
    rw [h0] at hr
    refine ev_neg (by omega) ?_
    by_cases hzy : z = y
    ·have : (z == y) = true := by simpa using hzy
     rw [this] at hr
     exact ev_pos (by omega) (by simpa using hr)
    ·have h0 : (z == y) = false := by simpa using hzy
     rw [h0] at hr
     refine ev_neg (by omega) (ev_pos (by omega) (ev_pos (by omega) (ev_pos (by omega) (ev_pos (by omega) ?_))))
     cases h1 : R x z with
     | true =>
      rw [h1] at hr
      refine ev_pos rfl (ev_pos (by omega) (ev_pos (by omega) ?_))
      simpa using hr
     | false =>
      rw [h1] at hr
      exact ev_neg (by decide) (by simpa using hr)
theorem specCell (hn : n ≤ 12) {x y : Nat} (hx : x < n) (hy : y < n) (s : List (List Int)) {r : List (List Int) × Bool} (hs : s.length < 5864062014805) (ho : x ≠ y → R x y = true → R y x = false)
  (h : Ev (fun k => z57.l1 k (tab n R) (if covers n R x y = true then s ++ [[(x : Int), (y : Int)]] else s) (x : Int) ((y + 1 : Nat) : Int)) r) : Ev (fun k => z57.l1 k (tab n R) s (x : Int) (y : Int)) r := by
 refine Ev.step (fun k => z57.l1.eq_2 ..) ?_
 simp only [tab_length, tab_get hx, row_length, row_get hy]
 (first | refine ev_pos (by omega) ?_ | refine ev_neg (by omega) ?_)
 have skip : covers n R x y = false → Ev (fun k => z57.j2 k (tab n R) s (x : Int) (y : Int) true) r := fun hc => by
  rw [hc] at h
  refine Ev.step (fun k => z57.j2.eq_2 ..) ?_
  rw [wrap_succ (show y < 9223372036854775807 by omega)]
  exact ev_pos rfl h
 by_cases hxy : x = y
 ·exact ev_pos (by omega) (skip (by simp [covers, hxy]))
 ·refine ev_neg (by omega) (ev_pos (by omega) (ev_pos (by omega) (ev_pos (by omega) (ev_pos (by omega) ?_))))
  cases h1 : R x y with
  | false => exact skip (by simp [covers, h1])
  | true =>
   have h2 := ho hxy h1
   refine Ev.step (fun k => z57.j2.eq_2 ..) ?_
   simp only [tab_length, tab_get hy, row_length, row_get hx, h2]
   refine ev_neg (by decide) (ev_pos (by omega) (ev_pos (by omega) (ev_pos (by omega) (ev_pos (by omega) (ev_neg (by decide) ?_)))))
   refine specBetween hn hx hy s hs ?_
   cases hb : between n R x y with
   | true =>
    have hc : covers n R x y = false := by simp [covers, hb]
    rw [hc] at h; exact h
   | false =>
    have hc : covers n R x y = true := by simp [covers, hb, h1, hxy]
    rw [hc] at h; exact h
theorem coverRow_le (x : Nat) (s : List (List Int)) : (coverRow n R x s).length ≤ s.length + n := by
 have := iter_inv (fun y s => if covers n R x y then s ++ [[(x : Int), (y : Int)]] else s) (fun i (t : List (List Int)) => t.length ≤ s.length + i) n 0 s (by omega) (fun j t _ _ h => by
  split
  ·simp only [List.length_append, List.length_singleton]; omega
  ·omega)
 simpa [coverRow] using this
theorem specCovers_ev (hn : n ≤ 12) : Ev (fun k => z57.f k (tab n R)) (if isOrd n R = true then (coversOf n R, true) else ([], false)) := by
 unfold z57.f
 have hrow : ∀ (x : Nat) (s : List (List Int)) (d y : Nat), x < n → y + d ≤ n → (∀ z, z < y + d → x ≠ z → R x z = true → R z x = false) → s.length ≤ 1000 → ∀ r, Ev (fun k => z57.l1 k (tab n R) (iter (fun y s => if covers n R x y then s ++ [[(x : Int), (y : Int)]] else s) y d s) (x : Int) ((y + d : Nat) : Int)) r → Ev (fun k => z57.l1 k (tab n R) s (x : Int) (y : Int)) r := fun x s d y hx hd ho hs r hr => by
  have g := le_iter_inv (fun (s : List (List Int)) (y : Nat) k => z57.l1 k (tab n R) s (x : Int) (y : Int)) (fun y s => if covers n R x y then s ++ [[(x : Int), (y : Int)]] else s) (fun i t => t.length + y ≤ s.length + i) d y s (by omega) (fun i t hi1 hi2 ht => ⟨fun r hr => specCell hn hx (by omega) t (by omega) (ho i (by omega)) hr, by
   split
   ·simp only [List.length_append, List.length_singleton]; omega
   ·omega⟩)
  exact g.1 r hr
 by_cases hO : isOrd n R = true
 ·rw [if_pos hO]
  have hO := isOrd_iff.1 hO
  have h := le_iter_inv (fun (s : List (List Int)) (x : Nat) k => z57.l0 k (tab n R) s (x : Int)) (coverRow n R) (fun x s => s.length ≤ x * n) n 0 [] (by simp) (fun x s _ hx hs => ⟨fun r hr => ?_, by have := coverRow_le (n := n) (R := R) x s; rw [Nat.add_mul, Nat.one_mul]; omega⟩)
  ·refine h.1 _ ?_
   rw [Nat.zero_add]
   refine Ev.step (fun k => z57.l0.eq_2 ..) ?_
   rw [tab_length]
   exact ev_neg (by omega) (Ev.now _)
  ·have hx : x < n := by omega
   have hxn : x * n ≤ 12 * 12 := Nat.mul_le_mul (by omega) hn
   refine Ev.step (fun k => z57.l0.eq_2 ..) ?_
   rw [tab_length]
   (first | refine ev_pos (by omega) ?_ | refine ev_neg (by omega) ?_)
   refine hrow x s n 0 hx (by omega) (fun z hz hne h => hO x z hx (by omega) hne h) (by omega) r ?_
   rw [Nat.zero_add]
   refine Ev.step (fun k => z57.l1.eq_2 ..) ?_
   rw [tab_length, wrap_succ (show x < 9223372036854775807 by omega)]
   exact ev_neg (by omega) hr
 ·rw [if_neg hO]
  have hbad : ∃ x, x < n ∧ ∃ y, y < n ∧ x ≠ y ∧ R x y = true ∧ R y x = true := by
   apply Classical.byContradiction
   intro hc
   apply hO
   refine isOrd_iff.2 (fun x y hx hy hne hxy => ?_)
   cases h : R y x with
   | false => rfl
   | true => exact absurd ⟨x, hx, y, hy, hne, hxy, h⟩ hc
  obtain ⟨x, ⟨hx, hy'⟩, hmin⟩ := least hbad
  obtain ⟨y, ⟨hy, hne, h1, h2⟩, hymin⟩ := least hy'
  have h := le_iter_inv (fun (s : List (List Int)) (x : Nat) k => z57.l0 k (tab n R) s (x : Int)) (coverRow n R) (fun x s => s.length ≤ x * n) x 0 [] (by simp) (fun i s _ hi hs => ⟨fun r hr => ?_, by have := coverRow_le (n := n) (R := R) i s; rw [Nat.add_mul, Nat.one_mul]; omega⟩)
  ·refine h.1 _ ?_
   have hl := h.2
   have hxn : x * n ≤ 12 * 12 := Nat.mul_le_mul (by omega) hn
   rw [Nat.zero_add] at hl ⊢
   refine Ev.step (fun k => z57.l0.eq_2 ..) ?_
   rw [tab_length]
   (first | refine ev_pos (by omega) ?_ | refine ev_neg (by omega) ?_)
   refine hrow x _ y 0 hx (by omega) (fun z hz hne' h' => ?_) (by omega) _ ?_
   ·cases h'' : R z x with
    | false => rfl
    | true => exact absurd ⟨by omega, hne', h', h''⟩ (hymin z (by omega))
   ·rw [Nat.zero_add]
    refine Ev.step (fun k => z57.l1.eq_2 ..) ?_
    simp only [tab_length, tab_get hx, row_length, row_get hy, h1]
    refine ev_pos (by omega) (ev_neg (by omega) (ev_pos (by omega) (ev_pos (by omega) (ev_pos (by omega) (ev_pos (by omega) ?_)))))
    refine Ev.step (fun k => z57.j2.eq_2 ..) ?_
    simp only [tab_length, tab_get hy, row_length, row_get hx, h2]
    exact ev_neg (by decide) (ev_pos (by omega) (ev_pos (by omega) (ev_pos (by omega) (ev_pos (by omega) (ev_pos (by simp) (Ev.now _))))))
  ·have hi' : i < n := by omega
   have hin : i * n ≤ 12 * 12 := Nat.mul_le_mul (by omega) hn
   refine Ev.step (fun k => z57.l0.eq_2 ..) ?_
   rw [tab_length]
   (first | refine ev_pos (by omega) ?_ | refine ev_neg (by omega) ?_)
   refine hrow i s n 0 hi' (by omega) (fun z hz hne h => ?_) (by omega) r ?_
   ·cases h'' : R z i with
    | false => rfl
    | true => exact absurd ⟨hi', z, by omega, hne, h, h''⟩ (hmin i (by omega))
   ·rw [Nat.zero_add]
    refine Ev.step (fun k => z57.l1.eq_2 ..) ?_
    rw [tab_length, wrap_succ (show i < 9223372036854775807 by omega)]
    exact ev_neg (by omega) hr
end
end Go.Proofs.Ytnohkeijhfjbeaa.B

set_option linter.unusedVariables false
set_option linter.unusedSimpArgs false
namespace Go.Proofs.Ytnohkeijhfjbeaa.B
open Go.RowKit Go.Proofs.YtnohkeijhfjbeaaW.PrintWords

theorem szInt64S_val (l : List Int) (a : Int) (h0 : 0 ≤ a) (h1 : a ≤ 9223372036854775807) (hl : l.length ≤ 9223372036854775807) : z54.f l a = some (if a - l.length < 0 then -1 else a - l.length) := by
 unfold z54.f
 have e : wrap64 (a - (l.length : Int)) = a - l.length := wrap_small (by omega) (by omega)
 rw [e]
 split <;> rfl
theorem szInt64SS_ev (l : List (List Int)) (a : Int) (hw : WfLL l) (h0 : 0 ≤ a) (h1 : a ≤ 9223372036854775807) :
  (∃ t, Ev (fun k => z20.f k l a) t ∧ t < 0) ∨ (Ev (fun k => z20.f k l a) (a - l.length - total l) ∧ l.length + total l ≤ a) := by
 have loop : ∀ (d i : Nat) (b : Int), d + i = l.length → 0 ≤ b → b ≤ 9223372036854775807 → (∃ t, Ev (fun k => z20.l0 k l b (i : Int)) t ∧ t < 0) ∨ (Ev (fun k => z20.l0 k l b (i : Int)) (b - total (l.drop i)) ∧ total (l.drop i) ≤ b) := by
  intro d
  induction d with
  | zero =>
   intro i b hd hb0 hb1
   right
   have hi : l.length = i := by omega
   rw [List.drop_of_length_le (by omega)]
   refine ⟨Ev.step (fun k => z20.l0.eq_2 ..) (ev_neg (by omega) (ev_eq (Ev.now b) (by simp [total]))), by simpa [total] using hb0⟩
  | succ d ih =>
   intro i b hd hb0 hb1
   have hi : i < l.length := by omega
   have hdr : l.drop i = l.getD i [] :: l.drop (i + 1) := by
    rw [List.drop_eq_getElem_cons hi, List.getD_eq_getElem?_getD, List.getElem?_eq_getElem hi]; rfl
   have hm : l.getD i [] ∈ l := by
    rw [List.getD_eq_getElem?_getD, List.getElem?_eq_getElem hi]; exact List.getElem_mem hi
   have hrl := (hw.2 _ hm).1
   have hv := szInt64S_val (l.getD i []) b hb0 hb1 hrl
   have hrd : rd_ListInt l (i : Int) = l.getD i [] := by simp [rd_ListInt]
   have hlen : l.length ≤ 9223372036854775807 := hw.1
   by_cases hneg : b - ((l.getD i []).length : Int) < 0
   ·left
    rw [if_pos hneg] at hv
    refine ⟨-1, Ev.step (fun k => z20.l0.eq_2 ..) (ev_pos (by omega) (ev_pos (by omega) ?_)), by omega⟩
    rw [hrd]
    exact Ev.bind (ev_const hv) (ev_pos (by omega) (Ev.now _))
   ·rw [if_neg hneg] at hv
    rcases ih (i + 1) (b - ((l.getD i []).length : Int)) (by omega) (by omega) (by omega) with ⟨t, ht, htn⟩ | ⟨ht, htb⟩
    ·left
     refine ⟨t, Ev.step (fun k => z20.l0.eq_2 ..) (ev_pos (by omega) (ev_pos (by omega) ?_)), htn⟩
     rw [hrd, wrap_succ (by omega)]
     exact Ev.bind (ev_const hv) (ev_neg (by omega) ht)
    ·right
     rw [hdr]
     simp only [total]
     refine ⟨Ev.step (fun k => z20.l0.eq_2 ..) (ev_pos (by omega) (ev_pos (by omega) ?_)), by omega⟩
     rw [hrd, wrap_succ (by omega)]
     exact Ev.bind (ev_const hv) (ev_neg (by omega) (ev_eq ht (by omega)))
 have hlen : l.length ≤ 9223372036854775807 := hw.1
 have e : wrap64 (a - (l.length : Int)) = a - l.length := wrap_small (by omega) (by omega)
 by_cases hneg : a - (l.length : Int) < 0
 ·left
  refine ⟨-1, ?_, by omega⟩
  unfold z20.f
  rw [e]
  exact ev_pos hneg (Ev.now _)
 ·rcases loop l.length 0 (a - l.length) (by omega) (by omega) (by omega) with ⟨t, ht, htn⟩ | ⟨ht, htb⟩
  ·left
   refine ⟨t, ?_, htn⟩
   unfold z20.f
   rw [e]
   exact ev_neg hneg ht
  ·right
   refine ⟨?_, by simp only [List.drop_zero] at htb; omega⟩
   unfold z20.f
   rw [e]
   exact ev_neg hneg ht

theorem toInt64S_ev (l : List Int) (hl : l.length ≤ 1048576) : Ev (fun k => z42.f k l) l := by
 have h := le_iter_inv (fun (s : List Int) (i : Nat) k => z42.l0 k l s (i : Int)) (fun i s => s.set i (l.getD i 0)) (fun i s => s = l.take i ++ List.replicate (l.length - i) 0) l.length 0 (List.replicate l.length 0) (by simp) (by
  intro j s _ hj hs
  refine ⟨fun r hr => Ev.step (fun k => z42.l0.eq_2 ..) (ev_pos (by omega) (ev_pos (by omega) (ev_pos ?_ ?_))), ?_⟩
  ·subst hs; simp only [List.length_append, List.length_take, List.length_replicate]; omega
  ·rw [wrap_succ (by omega), rd_nat, Int.toNat_natCast]; exact hr
  ·subst hs; exact set_prefix l j 0 (by omega) _ rfl)
 unfold z42.f
 refine ev_pos (by omega) (ev_pos (by omega) ?_)
 rw [Int.toNat_natCast]
 refine h.1 l (Ev.step (fun k => z42.l0.eq_2 ..) (ev_neg (by omega) (ev_eq (Ev.now _) ?_)))
 rw [h.2]
 simp
theorem toInt64SS_ev (l : List (List Int)) (hl : l.length ≤ 1048576) (hr : ∀ x ∈ l, x.length ≤ 1048576) : Ev (fun k => z22.f k l) l := by
 have h := le_iter_inv (fun (s : List (List Int)) (i : Nat) k => z22.l0 k l s (i : Int)) (fun i s => s.set i (l.getD i [])) (fun i s => s = l.take i ++ List.replicate (l.length - i) []) l.length 0 (List.replicate l.length []) (by simp) (by
  intro j s _ hj hs
  have hm : l.getD j [] ∈ l := by
   rw [List.getD_eq_getElem?_getD, List.getElem?_eq_getElem (by omega)]; exact List.getElem_mem _
  have hrd : rd_ListInt l (j : Int) = l.getD j [] := by simp [rd_ListInt]
  refine ⟨fun r hr' => Ev.step (fun k => z22.l0.eq_2 ..) (ev_pos (by omega) (ev_pos (by omega) ?_)), ?_⟩
  ·rw [hrd]
   refine Ev.bind (toInt64S_ev _ (hr _ hm)) (ev_pos ?_ ?_)
   ·subst hs; simp only [List.length_append, List.length_take, List.length_replicate]; omega
   ·rw [wrap_succ (by omega), Int.toNat_natCast]; exact hr'
  ·subst hs; exact set_prefix l j [] (by omega) _ rfl)
 unfold z22.f
 refine ev_pos (by omega) (ev_pos (by omega) ?_)
 rw [Int.toNat_natCast]
 refine h.1 l (Ev.step (fun k => z22.l0.eq_2 ..) (ev_neg (by omega) (ev_eq (Ev.now _) ?_)))
 rw [h.2]
 simp

theorem list_eq_range {α : Type} [BEq α] [LawfulBEq α] (l m : List α) (z : α) (h : l.length = m.length) : (List.range l.length).all (fun i => l.getD i z == m.getD i z) = (l == m) := by
 rw [Bool.eq_iff_iff, List.all_eq_true, beq_iff_eq]
 constructor
 ·intro e
  apply List.ext_getElem h
  intro i h1 h2
  have := e i (List.mem_range.2 h1)
  simpa [List.getD_eq_getElem?_getD, List.getElem?_eq_getElem h1, List.getElem?_eq_getElem h2] using this
 ·rintro rfl i _
  exact beq_self_eq_true _
theorem len_ne_beq {α : Type} [BEq α] [LawfulBEq α] {l m : List α} (h : l.length ≠ m.length) : (l == m) = false := by
 rw [Bool.eq_false_iff]; intro e; exact h (by rw [eq_of_beq e])
theorem eqInt64S_ev (l m : List Int) (hl : l.length < 9223372036854775807) : Ev (fun k => z34.f k l m) (l == m) := by
 unfold z34.f
 by_cases h : l.length = m.length
 ·refine ev_pos (by omega) ?_
  rw [← list_eq_range l m 0 h]
  refine ev_all (fun (i : Nat) k => z34.l0 k l m (i : Int)) _ l.length (fun j hj hp r hr => ?_) (fun j hj hp => ?_) ?_
  ·refine Ev.step (fun k => z34.l0.eq_2 ..) (ev_pos (by omega) (ev_pos (by omega) (ev_pos (by omega) (ev_pos ?_ ?_))))
   ·rw [rd_nat, rd_nat]; exact eq_of_beq hp
   ·rw [wrap_succ (by omega)]; exact hr
  ·refine Ev.step (fun k => z34.l0.eq_2 ..) (ev_pos (by omega) (ev_pos (by omega) (ev_pos (by omega) (ev_neg ?_ (Ev.now _)))))
   rw [rd_nat, rd_nat]; exact ne_of_beq_false hp
  ·exact Ev.step (fun k => z34.l0.eq_2 ..) (ev_neg (by omega) (Ev.now _))
 ·rw [len_ne_beq h]
  exact ev_neg (by omega) (Ev.now _)
theorem eqInt64SS_ev (l m : List (List Int)) (hl : l.length < 9223372036854775807) (hr : ∀ x ∈ l, x.length < 9223372036854775807) : Ev (fun k => z24.f k l m) (l == m) := by
 unfold z24.f
 by_cases h : l.length = m.length
 ·refine ev_pos (by omega) ?_
  rw [← list_eq_range l m [] h]
  have hm : ∀ j, j < l.length → Ev (fun k => z34.f k (rd_ListInt l (j : Int)) (rd_ListInt m (j : Int))) (l.getD j [] == m.getD j []) := fun j hj => by
   have h1 : rd_ListInt l (j : Int) = l.getD j [] := by simp [rd_ListInt]
   have h2 : rd_ListInt m (j : Int) = m.getD j [] := by simp [rd_ListInt]
   rw [h1, h2]
   refine eqInt64S_ev _ _ (hr _ ?_)
   rw [List.getD_eq_getElem?_getD, List.getElem?_eq_getElem hj]; exact List.getElem_mem hj
  refine ev_all (fun (i : Nat) k => z24.l0 k l m (i : Int)) _ l.length (fun j hj hp r hr => ?_) (fun j hj hp => ?_) ?_
  ·refine Ev.step (fun k => z24.l0.eq_2 ..) (ev_pos (by omega) (ev_pos (by omega) (ev_pos (by omega) (Ev.bind (hm j hj) (ev_pos hp ?_)))))
   rw [wrap_succ (by omega)]; exact hr
  ·exact Ev.step (fun k => z24.l0.eq_2 ..) (ev_pos (by omega) (ev_pos (by omega) (ev_pos (by omega) (Ev.bind (hm j hj) (ev_neg (by rw [hp]; decide) (Ev.now _))))))
  ·exact Ev.step (fun k => z24.l0.eq_2 ..) (ev_neg (by omega) (Ev.now _))
 ·rw [len_ne_beq h]
  exact ev_neg (by omega) (Ev.now _)
end Go.Proofs.Ytnohkeijhfjbeaa.B

set_option linter.unusedVariables false
set_option linter.unusedSimpArgs false
namespace Go.Proofs.Ytnohkeijhfjbeaa.B
open Go.RowKit Go.Proofs.YtnohkeijhfjbeaaW.PrintWords

theorem slicesEqual_ev (l m : List Int) (hl : l.length < 9223372036854775807) : Ev (fun k => z88.f k l m) (l == m) := by
 unfold z88.f
 by_cases h : l.length = m.length
 ·refine ev_pos (by omega) ?_
  rw [← list_eq_range l m 0 h]
  refine ev_all (fun (i : Nat) k => z88.l0 k l m (l.length : Int) (i : Int)) _ l.length (fun j hj hp r hr => ?_) (fun j hj hp => ?_) ?_
  ·refine Ev.step (fun k => z88.l0.eq_2 ..) ?_
   refine ev_pos (by omega) (ev_pos (by omega) (ev_pos (by omega) (ev_pos (by omega) (ev_pos ?_ ?_))))
   ·rw [rd_nat, rd_nat]; exact eq_of_beq hp
   ·rw [wrap_succ (by omega)]; exact hr
  ·refine Ev.step (fun k => z88.l0.eq_2 ..) ?_
   refine ev_pos (by omega) (ev_pos (by omega) (ev_pos (by omega) (ev_pos (by omega) (ev_neg ?_ (Ev.now _)))))
   rw [rd_nat, rd_nat]; exact ne_of_beq_false hp
  ·refine Ev.step (fun k => z88.l0.eq_2 ..) ?_
   exact ev_neg (by omega) (Ev.now _)
 ·rw [len_ne_beq h]
  exact ev_neg (by omega) (Ev.now _)
theorem areSame_ev (l m : List (List Int)) (hl : l.length < 9223372036854775807) (hr : ∀ x ∈ l, x.length < 9223372036854775807) : Ev (fun k => z53.f k l m) (l == m) := by
 unfold z53.f z117.f
 refine Ev.bind (a := (l == m)) ?_ (Ev.now _)
 by_cases h : l.length = m.length
 ·refine ev_pos (by omega) ?_
  rw [← list_eq_range l m [] h]
  have hm : ∀ j, j < l.length → Ev (fun k => z88.f k (rd_ListInt l (j : Int)) (rd_ListInt m (j : Int))) (l.getD j [] == m.getD j []) := fun j hj => by
   rw [rdl_nat, rdl_nat]
   exact slicesEqual_ev _ _ (hr _ (getD_mem [] hj))
  refine ev_all (fun (i : Nat) k => z117.l0 k m l (l.length : Int) (i : Int)) _ l.length (fun j hj hp r hr => ?_) (fun j hj hp => ?_) ?_
  ·refine Ev.step (fun k => z117.l0.eq_2 ..) ?_
   refine ev_pos (by omega) (ev_pos (by omega) (ev_pos (by omega) (ev_pos (by omega) (Ev.bind (hm j hj) (ev_pos hp ?_)))))
   rw [wrap_succ (by omega)]; exact hr
  ·refine Ev.step (fun k => z117.l0.eq_2 ..) ?_
   exact ev_pos (by omega) (ev_pos (by omega) (ev_pos (by omega) (ev_pos (by omega) (Ev.bind (hm j hj) (ev_neg (by rw [hp]; decide) (Ev.now _))))))
  ·refine Ev.step (fun k => z117.l0.eq_2 ..) ?_
   exact ev_neg (by omega) (Ev.now _)
 ·rw [len_ne_beq h]
  exact ev_neg (by omega) (Ev.now _)
theorem same_ev (l m : List Int) (hl : l.length < 9223372036854775807) : Ev (fun k => z86.f k l m) (l == m) := by
 unfold z86.f
 by_cases h : l.length = m.length
 ·refine ev_pos (by omega) ?_
  rw [← list_eq_range l m 0 h]
  refine ev_all (fun (i : Nat) k => z86.l0 k l m (i : Int)) _ l.length (fun j hj hp r hr => ?_) (fun j hj hp => ?_) ?_
  ·refine Ev.step (fun k => z86.l0.eq_2 ..) ?_
   refine ev_pos (by omega) (ev_pos (by omega) (ev_pos (by omega) (ev_pos ?_ ?_)))
   ·rw [rd_nat, rd_nat]; exact eq_of_beq hp
   ·rw [wrap_succ (by omega)]; exact hr
  ·refine Ev.step (fun k => z86.l0.eq_2 ..) ?_
   refine ev_pos (by omega) (ev_pos (by omega) (ev_pos (by omega) (ev_neg ?_ (Ev.now _))))
   rw [rd_nat, rd_nat]; exact ne_of_beq_false hp
  ·refine Ev.step (fun k => z86.l0.eq_2 ..) ?_
   exact ev_neg (by omega) (Ev.now _)
 ·rw [len_ne_beq h]
  exact ev_neg (by omega) (Ev.now _)
end Go.Proofs.Ytnohkeijhfjbeaa.B

set_option linter.unusedVariables false
set_option linter.unusedSimpArgs false
namespace Go.Proofs.Ytnohkeijhfjbeaa.B
open Go.RowKit Go.Proofs.YtnohkeijhfjbeaaW.PrintWords

theorem isElement_val (a n : Int) : z68.f a n = some (elem a n) := by
 unfold z68.f
 rw [within_val]; rfl
theorem isSize_val (a : Int) : z59.f a = some (decide (0 ≤ a) && decide (a ≤ 12)) := by
 unfold z59.f
 rw [within_val]; rfl
theorem areElements1_val (a n : Int) : z92.f a n = some (!elem a n) := by
 unfold z92.f
 rw [isElement_val]; rfl
theorem areElements_ev (l : List Int) (n : Int) (hl : l.length < 9223372036854775807) : Ev (fun k => z74.f k l n) (l.all (fun a => elem a n)) := by
 obtain ⟨t, ht, hd⟩ := ev_index_list l 0 (fun i k => z120.l0 k l (l.length : Int) (i : Int) n) (fun a => !elem a n) (fun j hj hp r hr => by
  refine Ev.step (fun k => z120.l0.eq_2 ..) ?_
  (repeat (first | refine ev_pos (by omega) ?_ | refine ev_neg (by omega) ?_))
  rw [rd_nat, wrap_succ (by omega)]
  exact Ev.bind (ev_const (areElements1_val _ _)) (ev_neg (by rw [hp]; decide) hr)) (fun j hj hp => by
  refine Ev.step (fun k => z120.l0.eq_2 ..) ?_
  (repeat (first | refine ev_pos (by omega) ?_ | refine ev_neg (by omega) ?_))
  rw [rd_nat]
  exact Ev.bind (ev_const (areElements1_val _ _)) (ev_pos hp (Ev.now _))) (by
  refine Ev.step (fun k => z120.l0.eq_2 ..) ?_
  exact ev_neg (by omega) (Ev.now _))
 unfold z74.f z119.f z120.f
 refine Ev.bind (Ev.bind ht (Ev.now _)) (ev_eq (Ev.now _) ?_)
 rw [hd, List.any_eq_not_all_not]
 simp
theorem elem_iff {a : Int} {n : Nat} (hn : n ≤ 12) : elem a (n : Int) = true ↔ 0 ≤ a ∧ a < n := by
 unfold elem
 rw [wrap_small (by omega) (by omega)]
 simp only [Bool.and_eq_true, decide_eq_true_eq]
 omega
theorem len2 {p : List Int} (h : p.length = 2) : p = [p.getD 0 0, p.getD 1 0] := by
 match p, h with
 | [a, b], _ => rfl
theorem arePairs1_ev (p : List Int) (n : Int) : Ev (fun k => z90.f k p n) (!isPair n p) := by
 unfold z90.f isPair
 by_cases h : p.length = 2
 ·refine ev_pos (by omega) (Ev.bind (areElements_ev p n (by omega)) (ev_eq (Ev.now _) ?_))
  rw [len2 h]
  simp
 ·refine ev_neg (by omega) (ev_eq (Ev.now _) ?_)
  have : (p.length == 2) = false := by simpa using h
  rw [this]; rfl
theorem arePairs_ev (n : Int) (l : List (List Int)) (hl : l.length < 9223372036854775807) : Ev (fun k => z60.f k n l) (l.all (isPair n)) := by
 obtain ⟨t, ht, hd⟩ := ev_index_list l [] (fun i k => z121.l0 k l (l.length : Int) (i : Int) n) (fun p => !isPair n p) (fun j hj hp r hr => by
  refine Ev.step (fun k => z121.l0.eq_2 ..) ?_
  (repeat (first | refine ev_pos (by omega) ?_ | refine ev_neg (by omega) ?_))
  rw [rdl_nat, wrap_succ (by omega)]
  exact Ev.bind (arePairs1_ev _ _) (ev_neg (by rw [hp]; decide) hr)) (fun j hj hp => by
  refine Ev.step (fun k => z121.l0.eq_2 ..) ?_
  (repeat (first | refine ev_pos (by omega) ?_ | refine ev_neg (by omega) ?_))
  rw [rdl_nat]
  exact Ev.bind (arePairs1_ev _ _) (ev_pos hp (Ev.now _))) (by
  refine Ev.step (fun k => z121.l0.eq_2 ..) ?_
  exact ev_neg (by omega) (Ev.now _))
 unfold z60.f z118.f z121.f
 refine Ev.bind (Ev.bind ht (Ev.now _)) (ev_eq (Ev.now _) ?_)
 rw [hd, List.any_eq_not_all_not]
 simp
theorem specPairs_ev (n : Int) (l : List (List Int)) (hl : l.length < 9223372036854775807) : Ev (fun k => z56.f k n l) (l.all (isPair n)) := by
 unfold z56.f
 have e0 : ∀ x : List Int, rd x 0 = x.getD 0 0 := fun x => rd_nat x 0
 have e1 : ∀ x : List Int, rd x 1 = x.getD 1 0 := fun x => rd_nat x 1
 refine ev_all_list l [] (fun i k => z56.l0 k n l (i : Int)) (isPair n) (fun j hj hp r hr => ?_) (fun j hj hp => ?_) ?_
 ·obtain ⟨h2, hp⟩ := (Bool.and_eq_true _ _).mp hp
  obtain ⟨ha, hb⟩ := (Bool.and_eq_true _ _).mp hp
  have h2 : (l.getD j []).length = 2 := by simpa using h2
  refine Ev.step (fun k => z56.l0.eq_2 ..) ?_
  simp only [rdl_nat, e0, e1, h2, wrap_succ (show j < 9223372036854775807 by omega)]
  refine ev_pos (by omega) (ev_pos (by omega) (ev_pos (by omega) (ev_pos (by omega) (Ev.bind (ev_const (in_val _ _ _)) (ev_pos ha (ev_pos (by omega) (Ev.bind (ev_const (in_val _ _ _)) (ev_pos hb hr))))))))
 ·refine Ev.step (fun k => z56.l0.eq_2 ..) ?_
  simp only [rdl_nat, e0, e1]
  refine ev_pos (by omega) (ev_pos (by omega) ?_)
  by_cases h2 : (l.getD j []).length = 2
  ·refine ev_pos (by omega) (ev_pos (by omega) (Ev.bind (ev_const (in_val _ _ _)) ?_))
   unfold isPair at hp
   rw [h2] at hp
   have hp : (elem ((l.getD j []).getD 0 0) n && elem ((l.getD j []).getD 1 0) n) = false := by simpa using hp
   by_cases ha : elem ((l.getD j []).getD 0 0) n = true
   ·rw [ha, Bool.true_and] at hp
    refine ev_pos ha (ev_pos (by omega) (Ev.bind (ev_const (in_val _ _ _)) (ev_neg ?_ (Ev.now _))))
    exact Bool.eq_false_iff.1 hp
   ·exact ev_neg ha (Ev.now _)
  ·exact ev_neg (by omega) (Ev.now _)
 ·refine Ev.step (fun k => z56.l0.eq_2 ..) ?_
  exact ev_neg (by omega) (Ev.now _)
theorem pairs_of (n : Nat) (hn : n ≤ 12) (l : List (List Int)) (h : l.all (isPair (n : Int)) = true) : Pairs n l := by
 intro p hp
 have h := List.all_eq_true.1 h p hp
 obtain ⟨h2, h⟩ := (Bool.and_eq_true _ _).mp h
 obtain ⟨ha, hb⟩ := (Bool.and_eq_true _ _).mp h
 have h2 : p.length = 2 := by simpa using h2
 have ha := (elem_iff hn).1 ha
 have hb := (elem_iff hn).1 hb
 exact ⟨h2, ha.1, ha.2, hb.1, hb.2⟩

theorem samePairs_ev (l m : List (List Int)) (hl : l.length < 9223372036854775807) (hr : ∀ x ∈ l, x.length < 9223372036854775807) : Ev (fun k => z52.f k l m) (l == m) := by
 unfold z52.f
 by_cases h : l.length = m.length
 ·refine ev_pos (by omega) ?_
  rw [← list_eq_range l m [] h]
  have hm : ∀ j, j < l.length → Ev (fun k => z86.f k (rd_ListInt l (j : Int)) (rd_ListInt m (j : Int))) (l.getD j [] == m.getD j []) := fun j hj => by
   rw [rdl_nat, rdl_nat]
   exact same_ev _ _ (hr _ (getD_mem [] hj))
  refine ev_all (fun (i : Nat) k => z52.l0 k l m (i : Int)) _ l.length (fun j hj hp r hr => ?_) (fun j hj hp => ?_) ?_
  ·refine Ev.step (fun k => z52.l0.eq_2 ..) ?_
   refine ev_pos (by omega) (ev_pos (by omega) (ev_pos (by omega) (Ev.bind (hm j hj) (ev_pos hp ?_))))
   rw [wrap_succ (by omega)]; exact hr
  ·refine Ev.step (fun k => z52.l0.eq_2 ..) ?_
   exact ev_pos (by omega) (ev_pos (by omega) (ev_pos (by omega) (Ev.bind (hm j hj) (ev_neg (by rw [hp]; decide) (Ev.now _)))))
  ·refine Ev.step (fun k => z52.l0.eq_2 ..) ?_
   exact ev_neg (by omega) (Ev.now _)
 ·rw [len_ne_beq h]
  exact ev_neg (by omega) (Ev.now _)
end Go.Proofs.Ytnohkeijhfjbeaa.B

set_option linter.unusedVariables false
set_option linter.unusedSimpArgs false
namespace Go.Proofs.Ytnohkeijhfjbeaa.B
open Go.RowKit Go.Proofs.YtnohkeijhfjbeaaW.PrintWords

def okPoset (a : Int) (l : List (List Int)) : Bool :=
 (decide (0 ≤ a) && decide (a ≤ 12)) && (decide (l.length ≤ 30) && (l.all (isPair a) && (isOrd a.toNat (orderOf a.toNat l) && (coversOf a.toNat (orderOf a.toNat l) == l))))

theorem covers_small {n : Nat} (hn : n ≤ 12) (R : Nat → Nat → Bool) : (coversOf n R).length ≤ 144 := by
 have h := coversOf_length n R
 have : n * n ≤ 12 * 12 := Nat.mul_le_mul hn hn
 omega
theorem covers_two (n : Nat) (R : Nat → Nat → Bool) : ∀ p ∈ coversOf n R, p.length = 2 := by
 have hrow : ∀ x s, (∀ p ∈ s, p.length = 2) → ∀ p ∈ coverRow n R x s, p.length = 2 := fun x s hs => by
  have := iter_inv (fun y s => if covers n R x y then s ++ [[(x : Int), (y : Int)]] else s) (fun i (t : List (List Int)) => ∀ p ∈ t, p.length = 2) n 0 s hs (fun j t _ _ h => by
   split
   ·intro p hp
    rcases List.mem_append.1 hp with hp | hp
    ·exact h p hp
    ·rw [List.mem_singleton.1 hp]; rfl
   ·exact h)
  exact this
 exact iter_inv (coverRow n R) (fun i (t : List (List Int)) => ∀ p ∈ t, p.length = 2) n 0 [] (by simp) (fun j t _ _ h => hrow j t h)

section
variable {a : Int} {l : List (List Int)}
theorem size_nat (h : (decide (0 ≤ a) && decide (a ≤ 12)) = true) : ∃ n : Nat, a = n ∧ n ≤ 12 := by
 simp only [Bool.and_eq_true, decide_eq_true_eq] at h
 obtain ⟨n, rfl⟩ := Int.eq_ofNat_of_zero_le h.1
 exact ⟨n, rfl, by omega⟩
theorem implValidPoset_ev (hl : l.length < 9223372036854775807) : Ev (fun k => z29.f k a l) (okPoset a l) := by
 unfold z29.f okPoset
 refine Ev.bind (ev_const (isSize_val a)) ?_
 by_cases hs : (decide (0 ≤ a) && decide (a ≤ 12)) = true
 ·obtain ⟨n, rfl, hn⟩ := size_nat hs
  refine ev_pos hs ?_
  rw [hs, Bool.true_and]
  by_cases h30 : (l.length : Int) > 30
  ·rw [decide_eq_false (show ¬ l.length ≤ 30 by omega), Bool.false_and]
   refine ev_pos h30 ?_
   refine Ev.step (fun k => z29.j0.eq_2 ..) ?_
   exact ev_pos rfl (Ev.now _)
  ·rw [decide_eq_true (show l.length ≤ 30 by omega), Bool.true_and]
   refine ev_neg h30 (Ev.bind (arePairs_ev _ l hl) ?_)
   refine Ev.step (fun k => z29.j0.eq_2 ..) ?_
   by_cases hp : l.all (isPair (n : Int)) = true
   ·rw [hp, Bool.true_and, Int.toNat_natCast]
    refine ev_neg (by decide) (Ev.bind (belowOf_ev hn (pairs_of n hn l hp) hl) (Ev.bind (isOrder_ev hn) ?_))
    by_cases ho : isOrd n (orderOf n l) = true
    ·rw [ho, Bool.true_and]
     refine ev_pos rfl (Ev.bind (implCovers_ev hn) (Ev.bind (areSame_ev _ _ ?_ ?_) (Ev.now _)))
     ·have := covers_small hn (orderOf n l); omega
     ·intro x hx; rw [covers_two _ _ x hx]; omega
    ·have ho : isOrd n (orderOf n l) = false := Bool.eq_false_iff.2 ho
     rw [ho, Bool.false_and]
     exact ev_neg (by decide) (Ev.now _)
   ·have hp : l.all (isPair (n : Int)) = false := Bool.eq_false_iff.2 hp
    rw [hp, Bool.false_and]
    exact ev_pos rfl (Ev.now _)
 ·refine ev_neg hs ?_
  rw [Bool.eq_false_iff.2 hs, Bool.false_and]
  refine Ev.step (fun k => z29.j0.eq_2 ..) ?_
  exact ev_pos rfl (Ev.now _)
theorem specOk_ev (hl : l.length < 9223372036854775807) : Ev (fun k => z65.f k a l) (okPoset a l) := by
 unfold z65.f okPoset
 refine Ev.bind (ev_const (in_val a 0 12)) ?_
 by_cases hs : (decide (0 ≤ a) && decide (a ≤ 12)) = true
 ·obtain ⟨n, rfl, hn⟩ := size_nat hs
  refine ev_pos hs ?_
  rw [hs, Bool.true_and]
  by_cases h30 : (l.length : Int) > 30
  ·rw [decide_eq_false (show ¬ l.length ≤ 30 by omega), Bool.false_and]
   refine ev_pos h30 ?_
   refine Ev.step (fun k => z65.j0.eq_2 ..) ?_
   exact ev_pos rfl (Ev.now _)
  ·rw [decide_eq_true (show l.length ≤ 30 by omega), Bool.true_and]
   refine ev_neg h30 (Ev.bind (specPairs_ev _ l hl) ?_)
   refine Ev.step (fun k => z65.j0.eq_2 ..) ?_
   by_cases hp : l.all (isPair (n : Int)) = true
   ·rw [hp, Bool.true_and, Int.toNat_natCast]
    refine ev_neg (by decide) (Ev.bind (table_ev hn (pairs_of n hn l hp) hl) (Ev.bind (specCovers_ev hn) ?_))
    by_cases ho : isOrd n (orderOf n l) = true
    ·rw [if_pos ho, ho, Bool.true_and]
     refine ev_pos rfl (Ev.bind (samePairs_ev _ _ ?_ ?_) (Ev.now _))
     ·have := covers_small hn (orderOf n l); exact Nat.lt_of_le_of_lt this (by decide)
     ·intro x hx; rw [covers_two _ _ x hx]; omega
    ·rw [if_neg ho]
     have ho : isOrd n (orderOf n l) = false := Bool.eq_false_iff.2 ho
     rw [ho, Bool.false_and]
     exact ev_neg (by decide) (Ev.now _)
   ·have hp : l.all (isPair (n : Int)) = false := Bool.eq_false_iff.2 hp
    rw [hp, Bool.false_and]
    exact ev_pos rfl (Ev.now _)
 ·refine ev_neg hs ?_
  rw [Bool.eq_false_iff.2 hs, Bool.false_and]
  refine Ev.step (fun k => z65.j0.eq_2 ..) ?_
  exact ev_pos rfl (Ev.now _)
theorem okPoset_iff : okPoset a l = true ↔ ∃ n : Nat, a = n ∧ n ≤ 12 ∧ l.length ≤ 30 ∧ l.all (isPair (n : Int)) = true ∧ isOrd n (orderOf n l) = true ∧ coversOf n (orderOf n l) = l := by
 unfold okPoset
 simp only [Bool.and_eq_true, decide_eq_true_eq, beq_iff_eq]
 constructor
 ·rintro ⟨⟨h1, h2⟩, h3, h4, h5, h6⟩
  obtain ⟨n, rfl⟩ := Int.eq_ofNat_of_zero_le h1
  rw [Int.toNat_natCast] at h5 h6
  exact ⟨n, rfl, by omega, h3, h4, h5, h6⟩
 ·rintro ⟨n, rfl, h2, h3, h4, h5, h6⟩
  rw [Int.toNat_natCast]
  exact ⟨⟨by omega, by omega⟩, h3, h4, h5, h6⟩
end
end Go.Proofs.Ytnohkeijhfjbeaa.B

set_option linter.unusedVariables false
set_option linter.unusedSimpArgs false
namespace Go.Proofs.Ytnohkeijhfjbeaa.B
open Go.RowKit Go.Proofs.YtnohkeijhfjbeaaW.PrintWords

theorem mark_val (l : List (List Int)) (a : Int) (h0 : 0 ≤ a) (h1 : a + total l ≤ 9223372036854775807) : laws_markInt64SS.f l a = some (a + total l, markRows l a) := by
 unfold laws_markInt64SS.f
 rw [if_pos ⟨h0, h1⟩]
theorem markInts_get : ∀ (l : List Int) (a : Int) (i : Nat), i < l.length → (markInts l a).getD i 0 = a + i
 | [], a, i, h => by simp at h
 | x :: l, a, 0, h => by simp [markInts]
 | x :: l, a, i + 1, h => by
  have := markInts_get l (a + 1) i (by simpa using h)
  simp only [markInts, List.getD_cons_succ, this]
  omega
theorem heldInt64S_ev (l : List Int) (a : Int) (h0 : 0 ≤ a) (h1 : a + l.length ≤ 9223372036854775807) : Ev (fun k => z36.f k (markInts l a) a) (a + l.length) := by
 unfold z36.f
 have h := ev_find (r := a + l.length) (fun (i : Nat) k => z36.l0 k (markInts l a) (a + i) (i : Int)) (fun _ => false) l.length 0 (fun j _ hj _ r hr => by
  refine Ev.step (fun k => z36.l0.eq_2 ..) ?_
  rw [rd_nat, markInts_get l a j (by omega), markInts_length, wrap_succ (by omega), wrap_small (by omega) (by omega), show a + (j : Int) + 1 = a + ((j + 1 : Nat) : Int) by omega]
  (repeat (first | refine ev_pos (by omega) ?_ | refine ev_neg (by omega) ?_))
  exact hr) (fun _ _ _ h => by cases h) (fun _ => by
  refine Ev.step (fun k => z36.l0.eq_2 ..) ?_
  rw [markInts_length]
  exact ev_neg (by omega) (ev_eq (Ev.now _) (by omega)))
 simpa using h
theorem markRows_get : ∀ (l : List (List Int)) (a : Int) (i : Nat), i < l.length → (markRows l a).getD i [] = markInts (l.getD i []) (a + total (l.take i))
 | [], a, i, h => by simp at h
 | x :: l, a, 0, h => by simp [markRows, total]
 | x :: l, a, i + 1, h => by
  have := markRows_get l (a + x.length) i (by simpa using h)
  simp only [markRows, List.getD_cons_succ, this, List.take_succ_cons, total]
  congr 1
  omega
theorem total_take_succ' (l0 : List (List Int)) (k : Nat) (hk : k < l0.length) : total (l0.take (k + 1)) = total (l0.take k) + (l0.getD k []).length := by
 have ht : l0.take (k + 1) = l0.take k ++ [l0.getD k []] := by
  rw [List.take_succ_eq_append_getElem hk, List.getD_eq_getElem?_getD, List.getElem?_eq_getElem hk]; rfl
 rw [ht, total_append]; simp [total]
theorem total_take_le' (l0 : List (List Int)) (k : Nat) : total (l0.take k) ≤ total l0 := by
 have h := total_append (l0.take k) (l0.drop k)
 rw [List.take_append_drop] at h
 have := total_nonneg (l0.drop k)
 omega
theorem heldInt64SS_ev (l : List (List Int)) (a : Int) (h0 : 0 ≤ a) (h1 : a + total l ≤ 9223372036854775807) (hl : l.length < 9223372036854775807) : Ev (fun k => z64.f k (markRows l a) a) (a + total l) := by
 unfold z64.f
 have h := ev_find (r := a + total l) (fun (i : Nat) k => z64.l0 k (markRows l a) (a + total (l.take i)) (i : Int)) (fun _ => false) l.length 0 (fun j _ hj _ r hr => by
  have hrd : rd_ListInt (markRows l a) (j : Int) = markInts (l.getD j []) (a + total (l.take j)) := by
   rw [← markRows_get l a j (by omega)]; simp [rd_ListInt]
  have e1 := total_take_succ' l j (by omega)
  have e2 := total_take_le' l (j + 1)
  have e3 := total_nonneg (l.take j)
  refine Ev.step (fun k => z64.l0.eq_2 ..) ?_
  rw [hrd, markRows_length, wrap_succ (by omega)]
  (repeat (first | refine ev_pos (by omega) ?_ | refine ev_neg (by omega) ?_))
  refine Ev.bind (heldInt64S_ev _ _ (by omega) (by omega)) (ev_neg (by omega) ?_)
  rw [show a + total (l.take j) + ((l.getD j []).length : Int) = a + total (l.take (j + 1)) by omega]
  exact hr) (fun _ _ _ h => by cases h) (fun _ => by
  refine Ev.step (fun k => z64.l0.eq_2 ..) ?_
  rw [markRows_length]
  refine ev_neg (by omega) (ev_eq (Ev.now _) ?_)
  rw [Nat.zero_add, List.take_length])
 simpa [total] using h
end Go.Proofs.Ytnohkeijhfjbeaa.B

set_option linter.unusedVariables false
set_option linter.unusedSimpArgs false
namespace Go.Proofs.Ytnohkeijhfjbeaa.B
open Go.RowKit Go.Proofs.YtnohkeijhfjbeaaW.PrintWords

theorem row_le_total : ∀ (l : List (List Int)) (x : List Int), x ∈ l → x.length ≤ total l
 | [], x, h => by cases h
 | y :: l, x, h => by
  simp only [total]
  rcases List.mem_cons.1 h with rfl | h
  ·have := total_nonneg l; omega
  ·have := row_le_total l x h; omega
theorem total_le_of {l : List (List Int)} {m : Nat} (h : ∀ x ∈ l, x.length ≤ m) : total l ≤ l.length * m := by
 induction l with
 | nil => simp [total]
 | cons x l ih =>
  have h1 := h x List.mem_cons_self
  have h2 := ih (fun y hy => h y (List.mem_cons_of_mem _ hy))
  simp only [total, List.length_cons]
  rw [Int.natCast_add, Int.add_mul]
  omega
theorem eqPoset_ev (a b : Int) (l m : List (List Int)) (hl : l.length < 9223372036854775807) (hr : ∀ x ∈ l, x.length < 9223372036854775807) : Ev (fun k => z19.f k a l b m) (decide (a = b) && (l == m)) := by
 unfold z19.f
 by_cases h : a = b
 ·refine ev_pos h (Ev.bind (eqInt64SS_ev l m hl hr) ?_)
  rw [decide_eq_true h, Bool.true_and]
  cases hh : (l == m) with
  | true => exact ev_pos rfl (Ev.now _)
  | false => exact ev_neg (by decide) (Ev.now _)
 ·rw [decide_eq_false h, Bool.false_and]
  exact ev_neg h (Ev.now _)
theorem eqPoset_self (a : Int) (l : List (List Int)) (hl : l.length < 9223372036854775807) (hr : ∀ x ∈ l, x.length < 9223372036854775807) : Ev (fun k => z19.f k a l a l) true :=
 ev_eq (eqPoset_ev a a l l hl hr) (by simp)
theorem toPoset_ev (a : Int) (l : List (List Int)) (hl : l.length ≤ 1048576) (hr : ∀ x ∈ l, x.length ≤ 1048576) : Ev (fun k => z17.f k a l) (a, l) := by
 unfold z17.f
 exact Ev.bind (toInt64SS_ev l hl hr) (Ev.now _)
theorem szPoset_ev (a : Int) (l : List (List Int)) (b : Int) (hw : WfLL l) (h0 : 0 ≤ b) (h1 : b ≤ 9223372036854775807) :
  (∃ t, Ev (fun k => z15.f k a l b) t ∧ t < 0) ∨ (Ev (fun k => z15.f k a l b) (b - l.length - total l) ∧ l.length + total l ≤ b) := by
 unfold z15.f
 rcases szInt64SS_ev l b hw h0 h1 with ⟨t, ht, hn⟩ | ⟨ht, hb⟩
 ·exact .inl ⟨-1, Ev.bind ht (ev_pos hn (Ev.now _)), by omega⟩
 ·exact .inr ⟨Ev.bind ht (ev_neg (by omega) (Ev.now _)), hb⟩
theorem heldPoset_ev (a : Int) (l : List (List Int)) (b : Int) (h0 : 0 ≤ b) (h1 : b + total l ≤ 9223372036854775807) (hl : l.length < 9223372036854775807) : Ev (fun k => z27.f k a (markRows l b) b) (b + total l) := by
 unfold z27.f
 have := total_nonneg l
 exact Ev.bind (heldInt64SS_ev l b h0 h1 hl) (ev_neg (by omega) (Ev.now _))
theorem two_total {l : List (List Int)} (h : l.length ≤ 144) (h2 : ∀ x ∈ l, x.length = 2) : total l ≤ 288 := by
 have := total_le_of (l := l) (m := 2) (fun x hx => Nat.le_of_eq (h2 x hx))
 omega

end Go.Proofs.Ytnohkeijhfjbeaa.B

set_option linter.unusedVariables false
set_option linter.unusedSimpArgs false
namespace Go.Proofs.Ytnohkeijhfjbeaa.B
open Go.RowKit Go.Proofs.YtnohkeijhfjbeaaW.PrintWords

theorem wRound_eq (n x : Nat) (R : Nat → Nat → Bool) (hx : x < n) : ∀ a c, wRound n x R a c = if a < n ∧ c < n then (R a c || R a x && R x c) else R a c := by
 have hrow : ∀ (a : Nat) (S : Nat → Nat → Bool), a < n → (∀ c, S x c = R x c) → (∀ c, S a c = R a c) → ∀ a' c', wRow n x a S a' c' = if a' = a ∧ c' < n then (R a c' || R a x && R x c') else S a' c' := by
  intro a S ha hSx hSa
  have := iter_inv (wCell x a) (fun i (T : Nat → Nat → Bool) => ∀ a' c', T a' c' = if a' = a ∧ c' < i then (R a c' || R a x && R x c') else S a' c') n 0 S (fun a' c' => by simp) (fun j T _ _ hT a' c' => by
   have hax : T a x = R a x := by
    rw [hT]
    split
    ·cases R a x <;> simp
    ·exact hSa x
   have hxj : T x j = R x j := by
    rw [hT]
    split
    ·rename_i h; omega
    ·exact hSx j
   have haj : T a j = R a j := by
    rw [hT, if_neg (by omega)]; exact hSa j
   simp only [wCell, upd]
   by_cases h : a' = a ∧ c' = j
   ·obtain ⟨rfl, rfl⟩ := h
    rw [if_pos ⟨rfl, rfl⟩, if_pos ⟨rfl, by omega⟩, haj, hax, hxj]
   ·rw [if_neg h, hT]
    by_cases h2 : a' = a ∧ c' < j
    ·rw [if_pos h2, if_pos ⟨h2.1, by omega⟩]
    ·rw [if_neg h2, if_neg (by omega)])
  rw [Nat.zero_add] at this
  exact this
 have := iter_inv (wRow n x) (fun i (T : Nat → Nat → Bool) => ∀ a c, T a c = if a < i ∧ c < n then (R a c || R a x && R x c) else R a c) n 0 R (fun a c => by simp) (fun j T _ hj hT => by
  have hTx : ∀ c, T x c = R x c := fun c => by
   rw [hT]
   split
   ·cases R x c <;> simp
   ·rfl
  have hTj : ∀ c, T j c = R j c := fun c => by rw [hT, if_neg (by omega)]
  intro a c
  rw [hrow j T (by omega) hTx hTj a c]
  by_cases h : a = j ∧ c < n
  ·obtain ⟨rfl, hc⟩ := h
   rw [if_pos ⟨rfl, hc⟩, if_pos ⟨by omega, hc⟩]
  ·rw [if_neg h, hT]
   by_cases h2 : a < j ∧ c < n
   ·rw [if_pos h2, if_pos ⟨by omega, h2.2⟩]
   ·rw [if_neg h2, if_neg (by omega)])
 rw [Nat.zero_add] at this
 exact this
def Thru (n m : Nat) (R : Nat → Nat → Bool) : Prop := ∀ a y c, a < n → y < m → c < n → R a y = true → R y c = true → R a c = true
theorem warshall_thru (n : Nat) (R : Nat → Nat → Bool) : Thru n n (warshall n R) := by
 have := iter_inv (wRound n) (fun i T => i ≤ n → Thru n i T) n 0 R (fun _ a y c _ h => by omega) (fun m T _ hm hT _ => by
  have hmn : m < n := by omega
  have hT := hT (by omega)
  have e := wRound_eq n m T hmn
  intro a y c ha hy hc h1 h2
  have hyn : y < n := by omega
  rw [e, if_pos ⟨ha, hyn⟩] at h1
  rw [e, if_pos ⟨hyn, hc⟩] at h2
  rw [e, if_pos ⟨ha, hc⟩]
  simp only [Bool.or_eq_true, Bool.and_eq_true] at h1 h2 ⊢
  by_cases hym : y = m
  ·subst hym
   right
   exact ⟨h1.elim id (fun h => h.1), h2.elim id (fun h => h.2)⟩
  ·have hy : y < m := by omega
   rcases h1 with h1 | ⟨h1, h1'⟩
   ·rcases h2 with h2 | ⟨h2, h2'⟩
    ·exact .inl (hT a y c ha hy hc h1 h2)
    ·exact .inr ⟨hT a y m ha hy hmn h1 h2, h2'⟩
   ·rcases h2 with h2 | ⟨h2, h2'⟩
    ·exact .inr ⟨h1, hT m y c hmn hy hc h1' h2⟩
    ·exact .inr ⟨h1, h2'⟩)
 rw [Nat.zero_add] at this
 exact this (Nat.le_refl _)
theorem warshall_le (n : Nat) (R : Nat → Nat → Bool) (a c : Nat) (h : R a c = true) : warshall n R a c = true :=
 iter_inv (wRound n) (fun _ T => T a c = true) n 0 R h (fun m T _ hm hT => by
  rw [wRound_eq n m T (by omega)]
  split
  ·rw [hT]; rfl
  ·exact hT)
theorem pairs_le (l : List (List Int)) (R : Nat → Nat → Bool) (a c : Nat) (h : R a c = true) : pairsRel l R a c = true :=
 iter_inv _ (fun _ (T : Nat → Nat → Bool) => T a c = true) l.length 0 R h (fun m T _ hm hT => by
  simp only [upd]
  split
  ·rfl
  ·exact hT)
section
variable {n : Nat} {l : List (List Int)} {a b c : Nat}
theorem order_refl (a : Nat) : orderOf n l a a = true := warshall_le n _ a a (pairs_le l _ a a (by simp [diag]))
theorem order_trans (ha : a < n) (hb : b < n) (hc : c < n) (h1 : orderOf n l a b = true) (h2 : orderOf n l b c = true) : orderOf n l a c = true := warshall_thru n _ a b c ha hb hc h1 h2
theorem order_anti (ho : isOrd n (orderOf n l) = true) (ha : a < n) (hb : b < n) (h1 : orderOf n l a b = true) (h2 : orderOf n l b a = true) : a = b := by
 apply Classical.byContradiction
 intro hne
 have := isOrd_iff.1 ho a b ha hb hne h1
 rw [h2] at this; cases this
end
end Go.Proofs.Ytnohkeijhfjbeaa.B

set_option linter.unusedVariables false
set_option linter.unusedSimpArgs false
namespace Go.Proofs.Ytnohkeijhfjbeaa.B
open Go.RowKit Go.Proofs.YtnohkeijhfjbeaaW.PrintWords

theorem order_ev {n : Nat} {l : List (List Int)} (hn : n ≤ 12) (hp : Pairs n l) (hl : l.length < 9223372036854775807) : Ev (fun k => z69.f k (n : Int) l) (tab n (orderOf n l)) := by
 unfold z69.f
 exact Ev.bind (belowOf_ev hn hp hl) (Ev.now _)
theorem specOrder_ev {n : Nat} {l : List (List Int)} (hn : n ≤ 12) (hp : Pairs n l) (hl : l.length < 9223372036854775807) : Ev (fun k => z67.f k (n : Int) l) (tab n (orderOf n l)) := by
 unfold z67.f
 exact Ev.bind (table_ev hn hp hl) (Ev.now _)
theorem specElement_val (a : Int) (l : List (List Int)) (x : Int) : z66.f a l x = some (elem x a) := by
 unfold z66.f
 rw [in_val]; rfl
end Go.Proofs.Ytnohkeijhfjbeaa.B

set_option linter.unusedVariables false
set_option linter.unusedSimpArgs false
namespace Go.Proofs.Ytnohkeijhfjbeaa.B
open Go.RowKit Go.Proofs.YtnohkeijhfjbeaaW.PrintWords

def has (s : List Int) (x : Int) : Bool := s.any (fun z => z == x)
def ready (n : Nat) (R : Nat → Nat → Bool) (s : List Int) (x : Nat) : Bool := !has s (x : Int) && (List.range n).all fun y => y == x || (!R y x || has s (y : Int))
def next (n : Nat) (R : Nat → Nat → Bool) (s : List Int) : List Int := match (List.range n).find? (ready n R s) with
 | some x => s ++ [(x : Int)]
 | none => s
def firstExt (n : Nat) (R : Nat → Nat → Bool) : List Int := iter (fun _ s => next n R s) 0 n []

section
variable {n : Nat} {R : Nat → Nat → Bool} {s : List Int}
theorem next_some {x : Nat} (hx : x < n) (h : ready n R s x = true) (hm : ∀ m, m < x → ready n R s m = false) : next n R s = s ++ [(x : Int)] := by
 have : (List.range n).find? (ready n R s) = some x := by
  rw [List.find?_range_eq_some]
  exact ⟨h, List.mem_range.2 hx, fun j hj => by rw [hm j hj]; rfl⟩
 unfold next; rw [this]
theorem next_none (hm : ∀ m, m < n → ready n R s m = false) : next n R s = s := by
 have : (List.range n).find? (ready n R s) = none := by
  rw [List.find?_eq_none]
  intro x hx
  rw [hm x (List.mem_range.1 hx)]; decide
 unfold next; rw [this]
theorem contains_ev (s : List Int) (x : Int) (hl : s.length < 9223372036854775807) : Ev (fun k => z79.f k s x) (has s x) := by
 obtain ⟨t, ht, hd⟩ := ev_index_list s 0 (fun i k => z95.l0 k s x (s.length : Int) (i : Int)) (fun z => z == x) (fun j hj hp r hr => by
  refine Ev.step (fun k => z95.l0.eq_2 ..) ?_
  rw [rd_nat, wrap_succ (by omega)]
  exact ev_pos (by omega) (ev_pos (by omega) (ev_pos (by omega) (ev_neg (by intro e; rw [← e] at hp; simp at hp) hr)))) (fun j hj hp => by
  refine Ev.step (fun k => z95.l0.eq_2 ..) ?_
  rw [rd_nat]
  exact ev_pos (by omega) (ev_pos (by omega) (ev_pos (by omega) (ev_pos (eq_of_beq hp).symm (Ev.now _))))) (by
  refine Ev.step (fun k => z95.l0.eq_2 ..) ?_
  exact ev_neg (by omega) (Ev.now _))
 unfold z79.f z95.f
 exact Ev.bind ht (ev_eq (Ev.now _) hd)
theorem has_ev (s : List Int) (x : Int) (hl : s.length < 9223372036854775807) : Ev (fun k => z94.f k s x) (has s x) := by
 unfold z94.f
 refine ev_find (fun (i : Nat) k => z94.l0 k s x (i : Int)) (fun i => s.getD i 0 == x) s.length 0 (fun j _ hj hp r hr => ?_) (fun j _ hj hp _ => ?_) (fun hall => ?_)
 ·refine Ev.step (fun k => z94.l0.eq_2 ..) ?_
  rw [rd_nat, wrap_succ (by omega)]
  exact ev_pos (by omega) (ev_pos (by omega) (ev_neg (by intro e; rw [← e] at hp; simp at hp) hr))
 ·have : has s x = true := List.any_eq_true.2 ⟨_, getD_mem 0 (show j < s.length by omega), hp⟩
  rw [this]
  refine Ev.step (fun k => z94.l0.eq_2 ..) ?_
  rw [rd_nat]
  exact ev_pos (by omega) (ev_pos (by omega) (ev_pos (eq_of_beq hp) (Ev.now _)))
 ·have : has s x = false := by
   rw [has, ← any_range s 0, Bool.eq_false_iff]
   intro h
   obtain ⟨i, hi, hp⟩ := List.any_eq_true.1 h
   rw [hall i (Nat.zero_le _) (by have := List.mem_range.1 hi; omega)] at hp; cases hp
  rw [this, Nat.zero_add]
  refine Ev.step (fun k => z94.l0.eq_2 ..) ?_
  exact ev_neg (by omega) (Ev.now _)

theorem specReady (hn : n ≤ 12) {x : Nat} (hx : x < n) (hs : s.length ≤ 12) {r : List Int} (h : Ev (fun k => if ready n R s x = true then z77.l0 k (tab n R) (s ++ [(x : Int)]) else z77.l1 k (tab n R) s ((x + 1 : Nat) : Int)) r) : Ev (fun k => z77.l1 k (tab n R) s (x : Int)) r := by
 refine Ev.step (fun k => z77.l1.eq_2 ..) ?_
 rw [tab_length]
 refine ev_pos (by omega) (Ev.bind (has_ev s _ (by omega)) ?_)
 have exit : ∀ (y : Nat), y ≤ n → ready n R s x = false → Ev (fun k => z77.l2 k (tab n R) s (x : Int) false (y : Int)) r := fun y hy hf => by
  rw [hf] at h
  have h : Ev (fun k => z77.l1 k (tab n R) s ((x + 1 : Nat) : Int)) r := h
  refine Ev.step (fun k => z77.l2.eq_2 ..) ?_
  rw [tab_length, wrap_succ (show x < 9223372036854775807 by omega)]
  by_cases hyn : y < n
  ·exact ev_pos (by omega) (ev_neg (by decide) h)
  ·exact ev_neg (by omega) (ev_neg (by decide) h)
 cases hh : has s (x : Int) with
 | true => exact exit 0 (Nat.zero_le _) (by simp [ready, hh])
 | false =>
  refine ev_find (fun (y : Nat) k => z77.l2 k (tab n R) s (x : Int) true (y : Int)) (fun y => !(y == x || (!R y x || has s (y : Int)))) n 0 (fun y _ hy hp r hr => ?_) (fun y _ hy hp _ => ?_) (fun hall => ?_)
  ·have hy : y < n := by omega
   refine Ev.step (fun k => z77.l2.eq_2 ..) ?_
   simp only [tab_length, tab_get hy, row_length, row_get hx, wrap_succ (show y < 9223372036854775807 by omega)]
   refine ev_pos (by omega) (ev_pos (by simp) ?_)
   by_cases e : y = x
   ·exact ev_pos (by omega) hr
   ·refine ev_neg (by omega) (ev_pos (by omega) (ev_pos (by omega) (ev_pos (by omega) ?_)))
    have e' : (y == x) = false := by simpa using e
    rw [e', Bool.false_or] at hp
    cases h1 : R y x with
    | false => exact ev_neg (by decide) hr
    | true =>
     rw [h1] at hp
     have h2 : has s (y : Int) = true := by simpa using hp
     exact ev_pos rfl (Ev.bind (ev_eq (has_ev s _ (by omega)) h2) hr)
  ·have hy : y < n := by omega
   have e : y ≠ x := by rintro rfl; simp at hp
   have e' : (y == x) = false := by simpa using e
   rw [e', Bool.false_or] at hp
   have h1 : R y x = true := by
    cases h1 : R y x with
    | true => rfl
    | false => rw [h1] at hp; simp at hp
   have h2 : has s (y : Int) = false := by rw [h1] at hp; simpa using hp
   refine Ev.step (fun k => z77.l2.eq_2 ..) ?_
   simp only [tab_length, tab_get hy, row_length, row_get hx, wrap_succ (show y < 9223372036854775807 by omega)]
   refine ev_pos (by omega) (ev_pos (by simp) (ev_neg (by omega) (ev_pos (by omega) (ev_pos (by omega) (ev_pos (by omega) (ev_pos h1 (Ev.bind (ev_eq (has_ev s _ (by omega)) h2) (exit (y + 1) (by omega) ?_))))))))
   unfold ready
   rw [hh, Bool.not_false, Bool.true_and, Bool.eq_false_iff]
   intro hc
   have := List.all_eq_true.1 hc y (List.mem_range.2 hy)
   rw [e', h1, h2] at this
   cases this
  ·have hr : ready n R s x = true := by
    unfold ready
    rw [hh, Bool.not_false, Bool.true_and]
    exact List.all_eq_true.2 (fun y hy => (Bool.not_eq_false' _).mp (hall y (Nat.zero_le _) (by have := List.mem_range.1 hy; omega)))
   rw [hr] at h
   have h : Ev (fun k => z77.l0 k (tab n R) (s ++ [(x : Int)])) r := h
   rw [Nat.zero_add]
   refine Ev.step (fun k => z77.l2.eq_2 ..) ?_
   rw [tab_length]
   exact ev_neg (by omega) (ev_pos rfl (ev_pos (by omega) h))
end
theorem countP_lt {α : Type} (p q : α → Bool) : ∀ (l : List α), (∀ x ∈ l, p x = true → q x = true) → (∃ x ∈ l, q x = true ∧ p x = false) → l.countP p < l.countP q
 | [], _, h => by obtain ⟨x, hx, _⟩ := h; cases hx
 | a :: l, h, hx => by
  have hle : l.countP p ≤ l.countP q := List.countP_mono_left (fun x hx => h x (List.mem_cons_of_mem _ hx))
  obtain ⟨x, hm, hq, hp⟩ := hx
  rcases List.mem_cons.1 hm with rfl | hm
  ·simp only [List.countP_cons, hq, hp]
   simp; omega
  ·have := countP_lt p q l (fun x hx => h x (List.mem_cons_of_mem _ hx)) ⟨x, hm, hq, hp⟩
   have ha := h a List.mem_cons_self
   simp only [List.countP_cons]
   cases hpa : p a with
   | false => simp; cases q a <;> simp <;> omega
   | true => rw [ha hpa]; simp; omega
theorem subset_length : ∀ (l s : List Int), l.Nodup → (∀ x ∈ l, x ∈ s) → l.length ≤ s.length
 | [], s, _, _ => Nat.zero_le _
 | a :: l, s, hd, h => by
  have ha := h a List.mem_cons_self
  obtain ⟨hna, hd'⟩ := List.nodup_cons.1 hd
  have := subset_length l (s.erase a) hd' (fun x hx => by
   have hne : x ≠ a := by rintro rfl; exact hna hx
   exact (List.mem_erase_of_ne hne).2 (h x (List.mem_cons_of_mem _ hx)))
  rw [List.length_erase_of_mem ha] at this
  have : 0 < s.length := List.length_pos_of_mem ha
  simp only [List.length_cons]; omega
theorem has_iff {s : List Int} {x : Int} : has s x = true ↔ x ∈ s := by
 unfold has
 rw [List.any_eq_true]
 constructor
 ·rintro ⟨z, hz, e⟩; rw [← eq_of_beq e]; exact hz
 ·intro h; exact ⟨x, h, beq_self_eq_true x⟩
structure Ord (n : Nat) (R : Nat → Nat → Bool) : Prop where
 refl : ∀ a, a < n → R a a = true
 trans : ∀ a b c, a < n → b < n → c < n → R a b = true → R b c = true → R a c = true
 anti : ∀ a b, a < n → b < n → R a b = true → R b a = true → a = b
theorem ready_exists {n : Nat} {R : Nat → Nat → Bool} (ho : Ord n R) {s : List Int} (hs : s.length < n) : ∃ x, x < n ∧ ready n R s x = true := by
 have hfree : ∃ c x, x < n ∧ has s (x : Int) = false ∧ (List.range n).countP (fun y => R y x) = c := by
  apply Classical.byContradiction
  intro hc
  have hall : ∀ x, x < n → ((x : Nat) : Int) ∈ s := fun x hx => by
   cases h : has s (x : Int) with
   | true => exact has_iff.1 h
   | false => exact absurd ⟨_, x, hx, h, rfl⟩ hc
  have := subset_length ((List.range n).map (fun x => ((x : Nat) : Int))) s (List.nodup_iff_pairwise_ne.2 (by
   rw [List.pairwise_map]
   exact List.Pairwise.imp (fun h e => h (Int.ofNat.inj e)) (List.nodup_iff_pairwise_ne.1 List.nodup_range))) (fun x hx => by
   obtain ⟨y, hy, rfl⟩ := List.mem_map.1 hx
   exact hall y (List.mem_range.1 hy))
  rw [List.length_map, List.length_range] at this
  omega
 obtain ⟨c, ⟨x, hx, hf, hc⟩, hmin⟩ := least hfree
 refine ⟨x, hx, ?_⟩
 unfold ready
 rw [hf, Bool.not_false, Bool.true_and]
 refine List.all_eq_true.2 (fun y hy => ?_)
 have hy := List.mem_range.1 hy
 by_cases e : y = x
 ·simp [e]
 ·cases h1 : R y x with
  | false => simp
  | true =>
   cases h2 : has s (y : Int) with
   | true => simp
   | false =>
    exfalso
    refine hmin _ ?_ ⟨y, hy, h2, rfl⟩
    rw [← hc]
    refine countP_lt _ _ _ (fun z hz hzy => ho.trans z y x (List.mem_range.1 hz) hy hx hzy h1) ⟨x, List.mem_range.2 hx, ho.refl x hx, ?_⟩
    cases h3 : R x y with
    | false => rfl
    | true => exact absurd (ho.anti y x hy hx h1 h3) e
theorem next_length {n : Nat} {R : Nat → Nat → Bool} (ho : Ord n R) {s : List Int} (hs : s.length < n) : (next n R s).length = s.length + 1 := by
 obtain ⟨x, ⟨hx, hr⟩, hm⟩ := least (ready_exists ho hs)
 rw [next_some hx hr (fun m hm' => by
  cases h : ready n R s m with
  | false => rfl
  | true => exact absurd ⟨by omega, h⟩ (hm m hm'))]
 simp
theorem specFirst_ev {n : Nat} {R : Nat → Nat → Bool} (hn : n ≤ 12) (ho : Ord n R) : Ev (fun k => z77.f k (tab n R)) (firstExt n R) := by
 unfold z77.f
 have h := le_iter_inv (fun (s : List Int) (i : Nat) k => z77.l0 k (tab n R) s) (fun _ s => next n R s) (fun i s => s.length = i) n 0 [] rfl (fun i s _ hi hs => ⟨fun r hr => by
  refine Ev.step (fun k => z77.l0.eq_2 ..) ?_
  rw [tab_length]
  refine ev_pos (by omega) ?_
  refine ev_find (fun (x : Nat) k => z77.l1 k (tab n R) s (x : Int)) (ready n R s) n 0 (fun x _ hx hp r hr => ?_) (fun x _ hx hp hm => ?_) (fun hall => ?_)
  ·refine specReady hn (by omega) (by omega) ?_
   rw [hp]; exact hr
  ·refine specReady hn (by omega) (by omega) ?_
   rw [hp]
   rw [next_some (by omega) hp (fun m hm' => hm m (Nat.zero_le _) hm')] at hr
   exact hr
  ·obtain ⟨x, hx, hr'⟩ := ready_exists ho (show s.length < n by omega)
   have := hall x (Nat.zero_le _) (by omega)
   rw [hr'] at this
   exact absurd this (by decide), (next_length ho (show s.length < n by omega)).trans (by rw [hs])⟩)
 refine h.1 _ ?_
 refine Ev.step (fun k => z77.l0.eq_2 ..) ?_
 rw [tab_length]
 have := h.2
 refine ev_neg ?_ (Ev.now _)
 rw [this]; omega
theorem ord_of {n : Nat} {l : List (List Int)} (h : isOrd n (orderOf n l) = true) : Ord n (orderOf n l) :=
 ⟨fun a _ => order_refl a, fun _ _ _ ha hb hc h1 h2 => order_trans ha hb hc h1 h2, fun _ _ ha hb h1 h2 => order_anti h ha hb h1 h2⟩
end Go.Proofs.Ytnohkeijhfjbeaa.B

set_option linter.unusedVariables false
set_option linter.unusedSimpArgs false
namespace Go.Proofs.Ytnohkeijhfjbeaa.B
open Go.RowKit Go.Proofs.YtnohkeijhfjbeaaW.PrintWords

theorem wrap64_i64 (n : Int) (h0 : 0 ≤ n) (h1 : n < 9223372036854775808) : IntKind.i64.wrap n = n := by
 rw [IntKind.wrap_i64]; omega
theorem pow12 {x : Nat} (h : x ≤ 12) : 2 ^ x ≤ 4096 := Nat.pow_le_pow_right (n := 2) (by decide) h
theorem shl_one {x : Nat} (h : x ≤ 12) : shl .i64 1 (x : Int) = ((2 ^ x : Nat) : Int) := by
 have hp := pow12 h
 have h2 : (2 : Int) ^ x = ((2 ^ x : Nat) : Int) := by simp
 unfold shl
 rw [Int.toNat_natCast, show min x IntKind.i64.bits = x from Nat.min_eq_left (by show x ≤ 64; omega), Int.one_mul, h2]
 exact wrap64_i64 _ (Int.natCast_nonneg _) (by omega)
theorem shr_nat {a x : Nat} (h : x ≤ 64) : shr .i64 (a : Int) (x : Int) = ((a / 2 ^ x : Nat) : Int) := by
 have h2 : (2 : Int) ^ x = ((2 ^ x : Nat) : Int) := by simp
 unfold shr
 rw [Int.toNat_natCast, show min x IntKind.i64.bits = x from Nat.min_eq_left (by show x ≤ 64; omega), h2]
 exact (Int.natCast_ediv a (2 ^ x)).symm
theorem i62 (n : Int) (h0 : 0 ≤ n) (h1 : n < 2 ^ 62) : IntKind.i64.wrap n = n := by
 have h2 : (2 : Int) ^ 62 = 4611686018427387904 := by decide
 rw [h2] at h1
 exact wrap64_i64 n h0 (by omega)
theorem and_nat {a b : Nat} (ha : a < 2 ^ 62) (hb : b < 2 ^ 62) : Go.bits .and .i64 (a : Int) (b : Int) = ((a &&& b : Nat) : Int) := (bits_nat .i64 62 (by decide) i62 a b ha hb).1
theorem or_nat {a b : Nat} (ha : a < 2 ^ 62) (hb : b < 2 ^ 62) : Go.bits .or .i64 (a : Int) (b : Int) = ((a ||| b : Nat) : Int) := (bits_nat .i64 62 (by decide) i62 a b ha hb).2
theorem and_two_pow' (a x : Nat) : a &&& 2 ^ x = if a.testBit x = true then 2 ^ x else 0 := by
 apply Nat.eq_of_testBit_eq
 intro i
 rw [Nat.testBit_and, Nat.testBit_two_pow]
 split
 ·rename_i h
  rw [Nat.testBit_two_pow]
  by_cases e : x = i
  ·subst e; simp [h]
  ·simp [e]
 ·rename_i h
  by_cases e : x = i
  ·subst e; simp [h]
  ·simp [e]
theorem testBit_shr (a x : Nat) : (a / 2 ^ x % 2 = 1) ↔ a.testBit x = true := by
 rw [Nat.testBit_eq_decide_div_mod_eq, decide_eq_true_eq]
theorem and_one_eq {a : Nat} (ha : a < 2 ^ 62) : (Go.bits .and .i64 (a : Int) 1 = 1) ↔ a % 2 = 1 := by
 have := and_nat (b := 1) ha (by decide)
 rw [show ((1 : Nat) : Int) = 1 from rfl] at this
 rw [this, Nat.and_one_is_mod]
 omega
theorem and_bit_zero {a x : Nat} (ha : a < 2 ^ 62) (hx : x ≤ 12) : (Go.bits .and .i64 (a : Int) ((2 ^ x : Nat) : Int) = 0) ↔ a.testBit x = false := by
 have hp := pow12 hx
 have h1 : 0 < 2 ^ x := Nat.two_pow_pos x
 rw [and_nat ha (Nat.lt_of_le_of_lt hp (by decide)), and_two_pow']
 cases h : a.testBit x with
 | true =>
  rw [if_pos rfl]
  refine ⟨fun e => ?_, fun e => by cases e⟩
  have e2 : (2 ^ x : Nat) = 0 := Int.ofNat.inj e
  omega
 | false => simp
def members (set m : Nat) : List Int := iter (fun x s => if set.testBit x = true then s ++ [(x : Int)] else s) 0 m []
theorem members_le (set m : Nat) : (members set m).length ≤ m := by
 have := iter_inv (fun x s => if set.testBit x = true then s ++ [(x : Int)] else s) (fun i (t : List Int) => t.length ≤ i) m 0 [] (by simp) (fun j t _ _ h => by
  split
  ·simp only [List.length_append, List.length_singleton]; omega
  ·omega)
 simpa [members] using this
theorem members_mem (set m : Nat) : ∀ y ∈ members set m, 0 ≤ y ∧ y < m := by
 have := iter_inv (fun x s => if set.testBit x = true then s ++ [(x : Int)] else s) (fun i (t : List Int) => ∀ y ∈ t, 0 ≤ y ∧ y < i) m 0 [] (by simp) (fun j t _ _ h => by
  split
  ·intro y hy
   rcases List.mem_append.1 hy with hy | hy
   ·have := h y hy; omega
   ·rw [List.mem_singleton.1 hy]; omega
  ·intro y hy; have := h y hy; omega)
 simpa [members] using this
theorem members_more (set m d : Nat) (h : set < 2 ^ m) : members set (m + d) = members set m := by
 unfold members
 rw [iter_add, Nat.zero_add]
 generalize iter (fun x s => if set.testBit x = true then s ++ [(x : Int)] else s) 0 m [] = s
 have := iter_inv (fun x s => if set.testBit x = true then s ++ [(x : Int)] else s) (fun i (t : List Int) => t = s) d m s rfl (fun j t hj _ ht => by
  have : set.testBit j = false := Nat.testBit_lt_two_pow (Nat.lt_of_lt_of_le h (Nat.pow_le_pow_right (by decide) hj))
  rw [this]; simpa using ht)
 exact this
end Go.Proofs.Ytnohkeijhfjbeaa.B

set_option linter.unusedVariables false
set_option linter.unusedSimpArgs false
namespace Go.Proofs.Ytnohkeijhfjbeaa.B
open Go.RowKit Go.Proofs.YtnohkeijhfjbeaaW.PrintWords

def Cong (x y : Int) : Prop := ∃ q : Int, x = y + 18446744073709551616 * q
theorem Cong.refl (x : Int) : Cong x x := ⟨0, by omega⟩
theorem Cong.symm {x y : Int} (h : Cong x y) : Cong y x := by obtain ⟨q, h⟩ := h; exact ⟨-q, by omega⟩
theorem Cong.trans {x y z : Int} (h : Cong x y) (k : Cong y z) : Cong x z := by
 obtain ⟨q, h⟩ := h
 obtain ⟨q', k⟩ := k
 exact ⟨q + q', by omega⟩
theorem Cong.add {x y z t : Int} (h : Cong x y) (k : Cong z t) : Cong (x + z) (y + t) := by
 obtain ⟨q, h⟩ := h
 obtain ⟨q', k⟩ := k
 exact ⟨q + q', by omega⟩
theorem Cong.neg {x y : Int} (h : Cong x y) : Cong (-x) (-y) := by
 obtain ⟨q, h⟩ := h
 exact ⟨-q, by omega⟩
theorem wrap_cong (x : Int) : Cong (wrap64 x) x := ⟨-((x + 9223372036854775808) / 18446744073709551616), by unfold wrap64; omega⟩
theorem wrap_eq {x y : Int} (h : Cong x y) : wrap64 x = wrap64 y := by
 obtain ⟨q, h⟩ := h
 unfold wrap64; omega
theorem wrap_range (x : Int) : -9223372036854775808 ≤ wrap64 x ∧ wrap64 x ≤ 9223372036854775807 := by
 unfold wrap64; omega
theorem wrap_wrap (x : Int) : wrap64 (wrap64 x) = wrap64 x := wrap_eq (wrap_cong x)
theorem iter_sum (p : Nat → Bool) (m : Nat → Int) : ∀ (d i : Nat) (s : Int), Cong (iter (fun z s => if p z = true then wrap64 (s + m z) else s) i d s) (s + (((List.range' i d).filter p).map m).sum)
 | 0, i, s => by simp [iter]; exact Cong.refl _
 | d + 1, i, s => by
  have ih := iter_sum p m d (i + 1) (if p i = true then wrap64 (s + m i) else s)
  simp only [iter]
  refine ih.trans ?_
  rw [List.range'_succ]
  by_cases h : p i = true
  ·rw [if_pos h, List.filter_cons_of_pos h, List.map_cons, List.sum_cons, ← Int.add_assoc]
   exact (wrap_cong _).add (Cong.refl _)
  ·rw [if_neg h, List.filter_cons_of_neg h]
   exact Cong.refl _
theorem iter_sub (p : Int → Bool) (m : Int → Int) (s : List Int) : ∀ (d i : Nat) (v : Int), i + d ≤ s.length → Cong (iter (fun k v => if p (s.getD k 0) = true then wrap64 (v - m (s.getD k 0)) else v) i d v) (v - ((((s.drop i).take d).filter p).map m).sum)
 | 0, i, v, _ => by simp [iter]; exact Cong.refl _
 | d + 1, i, v, h => by
  have ih := iter_sub p m s d (i + 1) (if p (s.getD i 0) = true then wrap64 (v - m (s.getD i 0)) else v) (by omega)
  simp only [iter]
  refine ih.trans ?_
  have e : s.getD i 0 = s[i]'(by omega) := by rw [List.getD_eq_getElem?_getD, List.getElem?_eq_getElem (by omega)]; rfl
  rw [List.drop_eq_getElem_cons (show i < s.length by omega), List.take_succ_cons, ← e]
  by_cases h : p (s.getD i 0) = true
  ·rw [if_pos h, List.filter_cons_of_pos h, List.map_cons, List.sum_cons]
   have : v - (m (s.getD i 0) + (((List.take d (List.drop (i + 1) s)).filter p).map m).sum) = (v - m (s.getD i 0)) + -(((List.take d (List.drop (i + 1) s)).filter p).map m).sum := by omega
   rw [this, Int.sub_eq_add_neg]
   exact (wrap_cong _).add (Cong.refl _)
  ·rw [if_neg h, List.filter_cons_of_neg h]
   exact Cong.refl _

def vec (n : Nat) (f : Nat → Int) : List Int := (List.range n).map f
theorem vec_length (n : Nat) (f : Nat → Int) : (vec n f).length = n := by simp [vec]
theorem vec_get {n : Nat} {f : Nat → Int} {j : Nat} (h : j < n) : rd (vec n f) (j : Int) = f j := by
 rw [rd_nat, vec, List.getD_eq_getElem?_getD, List.getElem?_map, List.getElem?_range h]; rfl
def upd1 (f : Nat → Int) (c : Nat) (v : Int) : Nat → Int := fun c' => if c' = c then v else f c'
theorem vec_set {n : Nat} {f : Nat → Int} {c : Nat} (v : Int) : (vec n f).set c v = vec n (upd1 f c v) := by
 apply List.ext_getElem (by simp [vec])
 intro i h1 h2
 simp only [vec, List.getElem_set, List.getElem_map, List.getElem_range, upd1]
 by_cases h : i = c
 ·simp [h]
 ·simp [h, Ne.symm h]
theorem vec_zero (n : Nat) : List.replicate n (0 : Int) = vec n (fun _ => 0) := by simp [vec, List.map_const']
theorem upd1_same (f : Nat → Int) (c : Nat) (u v : Int) : upd1 (upd1 f c u) c v = upd1 f c v := by
 funext c'; simp only [upd1]; split <;> rfl
end Go.Proofs.Ytnohkeijhfjbeaa.B

set_option linter.unusedVariables false
set_option linter.unusedSimpArgs false
namespace Go.Proofs.Ytnohkeijhfjbeaa.B
open Go.RowKit Go.Proofs.YtnohkeijhfjbeaaW.PrintWords

def sumTo (f : Nat → Int) : Nat → Int
 | 0 => 0
 | k + 1 => sumTo f k + f k
theorem sumTo_congr {f g : Nat → Int} : ∀ {n : Nat}, (∀ x, x < n → f x = g x) → sumTo f n = sumTo g n
 | 0, _ => rfl
 | n + 1, h => by simp only [sumTo]; rw [sumTo_congr (fun x hx => h x (by omega)), h n (by omega)]
theorem sumTo_nonneg {f : Nat → Int} : ∀ {n : Nat}, (∀ x, x < n → 0 ≤ f x) → 0 ≤ sumTo f n
 | 0, _ => Int.le_refl _
 | n + 1, h => by have := sumTo_nonneg (n := n) (fun x hx => h x (by omega)); have := h n (by omega); simp only [sumTo]; omega
theorem sumTo_le {f : Nat → Int} {b : Int} : ∀ {n : Nat}, (∀ x, x < n → f x ≤ b) → sumTo f n ≤ n * b
 | 0, _ => by simp [sumTo]
 | n + 1, h => by
  have := sumTo_le (n := n) (fun x hx => h x (by omega))
  have := h n (by omega)
  simp only [sumTo]
  rw [Int.natCast_add, Int.add_mul]
  omega
theorem sumTo_mono {f : Nat → Int} {m : Nat} : ∀ {n : Nat}, m ≤ n → (∀ x, x < n → 0 ≤ f x) → sumTo f m ≤ sumTo f n
 | 0, h, _ => by
  have : m = 0 := by omega
  subst this; exact Int.le_refl _
 | n + 1, h, hf => by
  rcases Nat.eq_or_lt_of_le h with h | h
  ·subst h; exact Int.le_refl _
  ·have := sumTo_mono (n := n) (m := m) (by omega) (fun x hx => hf x (by omega))
   have := hf n (by omega)
   simp only [sumTo]; omega
theorem sumTo_zero {f : Nat → Int} : ∀ {n : Nat}, (∀ x, x < n → f x = 0) → sumTo f n = 0
 | 0, _ => rfl
 | n + 1, h => by simp only [sumTo]; rw [sumTo_zero (fun x hx => h x (by omega)), h n (by omega)]; rfl
theorem sumTo_le_each {f g : Nat → Int} : ∀ {n : Nat}, (∀ x, x < n → f x ≤ g x) → sumTo f n ≤ sumTo g n
 | 0, _ => Int.le_refl _
 | n + 1, h => by have := sumTo_le_each (n := n) (fun x hx => h x (by omega)); have := h n (by omega); simp only [sumTo]; omega
theorem sumTo_ne {f : Nat → Int} : ∀ {n : Nat}, sumTo f n ≠ 0 → ∃ x, x < n ∧ f x ≠ 0
 | 0, h => absurd rfl h
 | n + 1, h => by
  by_cases h0 : f n = 0
  ·simp only [sumTo, h0, Int.add_zero] at h
   obtain ⟨x, hx, hf⟩ := sumTo_ne h
   exact ⟨x, by omega, hf⟩
  ·exact ⟨n, by omega, h0⟩

def del (t x : Nat) : Nat := t ^^^ 2 ^ x
theorem del_bit {t x : Nat} (h : t.testBit x = true) (y : Nat) : (del t x).testBit y = (t.testBit y && !(y == x)) := by
 unfold del
 rw [Nat.testBit_xor, Nat.testBit_two_pow]
 by_cases e : x = y
 ·subst e; simp [h]
 ·have e' : (y == x) = false := by simpa using fun h => e h.symm
  simp [e, e']
theorem add_bit (s x y : Nat) : (s ||| 2 ^ x).testBit y = (s.testBit y || (y == x)) := by
 rw [Nat.testBit_or, Nat.testBit_two_pow]
 congr 1
 rw [Bool.eq_iff_iff]; simp; exact eq_comm
theorem del_add {s x : Nat} (h : s.testBit x = false) : del (s ||| 2 ^ x) x = s := by
 apply Nat.eq_of_testBit_eq
 intro y
 have hb : (s ||| 2 ^ x).testBit x = true := by rw [add_bit]; simp
 rw [del_bit hb, add_bit]
 by_cases e : y = x
 ·subst e; simp [h]
 ·have e' : (y == x) = false := by simpa using e
  simp [e']
theorem add_del {t x : Nat} (h : t.testBit x = true) : del t x ||| 2 ^ x = t := by
 apply Nat.eq_of_testBit_eq
 intro y
 rw [add_bit, del_bit h]
 by_cases e : y = x
 ·subst e; simp [h]
 ·have e' : (y == x) = false := by simpa using e
  simp [e']
theorem del_lt {t x : Nat} (h : t.testBit x = true) : del t x < t := by
 have h1 : del t x ≤ t := Nat.le_of_testBit (fun y hy => by
  rw [del_bit h] at hy
  exact ((Bool.and_eq_true _ _).mp hy).1)
 have h2 : del t x ≠ t := fun e => by
  have := del_bit h x
  rw [e, h] at this
  simp at this
 omega
def pc (t : Nat) : Nat := (List.range 12).countP (fun x => t.testBit x)
theorem countP_less (p q : Nat → Bool) (x : Nat) (hp : p x = true) (hq : ∀ y, q y = (p y && !(y == x))) : ∀ (l : List Nat), l.Nodup → x ∈ l → l.countP p = l.countP q + 1
 | [], _, h => by cases h
 | a :: l, hd, h => by
  obtain ⟨hna, hd'⟩ := List.nodup_cons.1 hd
  simp only [List.countP_cons]
  by_cases e : a = x
  ·subst e
   have : l.countP q = l.countP p := List.countP_congr (fun y hy => by
    have : y ≠ a := by rintro rfl; exact hna hy
    rw [hq y]; simp [this])
   rw [this, hq a, hp]; simp
  ·have hx : x ∈ l := by
    rcases List.mem_cons.1 h with h | h
    ·exact absurd h.symm e
    ·exact h
   rw [countP_less p q x hp hq l hd' hx, hq a]
   have : (a == x) = false := by simpa using e
   rw [this, Bool.not_false, Bool.and_true]; omega
theorem pc_del {t x : Nat} (h : t.testBit x = true) (hx : x < 12) : pc t = pc (del t x) + 1 :=
 countP_less _ _ x h (fun y => del_bit h y) _ List.nodup_range (List.mem_range.2 hx)
theorem pc_le (t : Nat) : pc t ≤ 12 := by
 have := List.countP_le_length (p := fun x => t.testBit x) (l := List.range 12)
 rwa [List.length_range] at this

section
variable {n : Nat} {R : Nat → Nat → Bool}
def lowIn (n : Nat) (R : Nat → Nat → Bool) (t x : Nat) : Bool := (List.range n).all fun y => y == x || (!R y x || t.testBit y)
def last (n : Nat) (R : Nat → Nat → Bool) (t x : Nat) : Bool := t.testBit x && (List.range n).all fun y => y == x || (!(t.testBit y && R x y) && (t.testBit y || !R y x))
def ext (n : Nat) (R : Nat → Nat → Bool) (t : Nat) : Int := if t = 0 then 1 else sumTo (fun x => if h : last n R t x = true then ext n R (del t x) else 0) n
termination_by t
decreasing_by exact del_lt ((Bool.and_eq_true _ _).mp h).1
theorem ext_eq (t : Nat) (h : t ≠ 0) : ext n R t = sumTo (fun x => if last n R t x = true then ext n R (del t x) else 0) n := by
 rw [ext, if_neg h]
 refine sumTo_congr (fun x hx => ?_)
 by_cases h : last n R t x = true
 ·rw [dif_pos h, if_pos h]
 ·rw [dif_neg h, if_neg h]
theorem ext_zero : ext n R 0 = 1 := by rw [ext, if_pos rfl]
theorem last_bit {t x : Nat} (h : last n R t x = true) : t.testBit x = true := ((Bool.and_eq_true _ _).mp h).1
theorem ext_nonneg : ∀ t, 0 ≤ ext n R t := by
 intro t
 induction t using Nat.strongRecOn with
 | _ t ih =>
  by_cases h : t = 0
  ·subst h; rw [ext_zero]; omega
  ·rw [ext_eq t h]
   refine sumTo_nonneg (fun x hx => ?_)
   split
   ·rename_i hl; exact ih _ (del_lt (last_bit hl))
   ·omega
theorem ext_le (hn : n ≤ 12) : ∀ t, ext n R t ≤ 13 ^ pc t := by
 intro t
 induction t using Nat.strongRecOn with
 | _ t ih =>
  by_cases h : t = 0
  ·subst h
   rw [ext_zero]
   have : pc 0 = 0 := by unfold pc; simp
   rw [this]; decide
  ·rw [ext_eq t h]
   by_cases hb : ∃ x, x < n ∧ t.testBit x = true
   ·obtain ⟨x, hx, hxb⟩ := hb
    have hp := pc_del hxb (show x < 12 by omega)
    have := sumTo_le (f := fun x => if last n R t x = true then ext n R (del t x) else 0) (b := 13 ^ (pc t - 1)) (n := n) (fun y hy => by
     split
     ·rename_i hl
      have h1 := ih _ (del_lt (last_bit hl))
      have h2 := pc_del (last_bit hl) (show y < 12 by omega)
      rwa [show pc t - 1 = pc (del t y) by omega]
     ·exact Int.le_of_lt (Int.pow_pos (by decide)))
    refine Int.le_trans this ?_
    rw [show pc t = pc t - 1 + 1 by omega, Int.pow_succ, show pc t - 1 + 1 - 1 = pc t - 1 by omega, Int.mul_comm]
    exact Int.mul_le_mul_of_nonneg_left (by omega) (Int.le_of_lt (Int.pow_pos (by decide)))
   ·rw [sumTo_zero (fun x hx => by
     rw [if_neg]
     intro hl
     exact hb ⟨x, hx, last_bit hl⟩)]
    exact Int.le_of_lt (Int.pow_pos (by decide))
theorem ext_small (hn : n ≤ 12) (t : Nat) : ext n R t ≤ 23298085122481 := by
 have h1 := ext_le (R := R) hn t
 have h2 : (13 : Int) ^ pc t ≤ 13 ^ 12 := by
  have := Nat.pow_le_pow_right (n := 13) (by decide) (pc_le t)
  exact_mod_cast this
 have h3 : (13 : Int) ^ 12 = 23298085122481 := by decide
 omega
theorem ext_down (ho : Ord n R) : ∀ t, ext n R t ≠ 0 → ∀ x, x < n → t.testBit x = true → ∀ y, y < n → R y x = true → t.testBit y = true := by
 intro t
 induction t using Nat.strongRecOn with
 | _ t ih =>
  intro he x hx hxb y hy hR
  have ht0 : t ≠ 0 := by rintro rfl; simp at hxb
  rw [ext_eq t ht0] at he
  obtain ⟨z, hz, hze⟩ := sumTo_ne he
  by_cases hl : last n R t z = true
  ·rw [if_pos hl] at hze
   obtain ⟨hzb, hall⟩ := (Bool.and_eq_true _ _).mp hl
   by_cases hxz : x = z
   ·subst hxz
    by_cases hyx : y = x
    ·subst hyx; exact hxb
    ·have := List.all_eq_true.1 hall y (List.mem_range.2 hy)
     have e : (y == x) = false := by simpa using hyx
     rw [e, Bool.false_or] at this
     obtain ⟨_, h2⟩ := (Bool.and_eq_true _ _).mp this
     rw [hR] at h2
     simpa using h2
   ·have hxd : (del t z).testBit x = true := by
     rw [del_bit hzb, hxb]; simpa using hxz
    have := ih _ (del_lt hzb) hze x hx hxd y hy hR
    rw [del_bit hzb] at this
    exact ((Bool.and_eq_true _ _).mp this).1
  ·rw [if_neg hl] at hze
   exact absurd rfl hze
theorem ext_sum (ho : Ord n R) (t : Nat) (h : t ≠ 0) : ext n R t = sumTo (fun x => if (t.testBit x && lowIn n R (del t x) x) = true then ext n R (del t x) else 0) n := by
 rw [ext_eq t h]
 refine sumTo_congr (fun x hx => ?_)
 by_cases hl : last n R t x = true
 ·have hb := last_bit hl
  obtain ⟨_, hall⟩ := (Bool.and_eq_true _ _).mp hl
  rw [if_pos hl, if_pos]
  rw [hb, Bool.true_and]
  refine List.all_eq_true.2 (fun y hy => ?_)
  have := List.all_eq_true.1 hall y hy
  rw [del_bit hb]
  by_cases e : y = x
  ·simp [e]
  ·have e' : (y == x) = false := by simpa using e
   rw [e', Bool.false_or] at this ⊢
   obtain ⟨_, h2⟩ := (Bool.and_eq_true _ _).mp this
   cases h3 : R y x with
   | false => rfl
   | true => rw [h3] at h2; simpa using h2
 ·rw [if_neg hl]
  by_cases hr : (t.testBit x && lowIn n R (del t x) x) = true
  ·rw [if_pos hr]
   obtain ⟨hb, hlow⟩ := (Bool.and_eq_true _ _).mp hr
   apply Classical.byContradiction
   intro hne
   apply hl
   unfold last
   rw [hb, Bool.true_and]
   refine List.all_eq_true.2 (fun y hy => ?_)
   have hyn := List.mem_range.1 hy
   by_cases e : y = x
   ·simp [e]
   ·have e' : (y == x) = false := by simpa using e
    have hlo := List.all_eq_true.1 hlow y hy
    rw [e', Bool.false_or] at hlo ⊢
    rw [del_bit hb, e'] at hlo
    have hmax : (t.testBit y && R x y) = false := by
     cases hyt : t.testBit y with
     | false => rfl
     | true =>
      cases hxy : R x y with
      | false => rfl
      | true =>
       exfalso
       have := ext_down ho _ (fun h => hne h.symm) y hyn (by rw [del_bit hb, hyt, e']; rfl) x hx hxy
       rw [del_bit hb] at this
       simp at this
    rw [hmax]
    cases h3 : R y x with
    | false => simp
    | true => rw [h3] at hlo; simpa using hlo
  ·rw [if_neg hr]
end
end Go.Proofs.Ytnohkeijhfjbeaa.B

set_option linter.unusedVariables false
set_option linter.unusedSimpArgs false
namespace Go.Proofs.Ytnohkeijhfjbeaa.B
open Go.RowKit Go.Proofs.YtnohkeijhfjbeaaW.PrintWords

theorem andNot_bit {a x : Nat} (ha : a < 2 ^ 62) (hx : x ≤ 12) (hb : a.testBit x = true) : Go.bits .andNot .i64 (a : Int) ((2 ^ x : Nat) : Int) = ((del a x : Nat) : Int) := by
 have hlt := del_lt hb
 have hv : (BitVec.ofInt 64 (a : Int) &&& ~~~ BitVec.ofInt 64 ((2 ^ x : Nat) : Int)).toNat = del a x := by
  apply Nat.eq_of_testBit_eq
  intro i
  rw [BitVec.testBit_toNat, del_bit hb, BitVec.ofInt_natCast, BitVec.ofInt_natCast]
  simp only [BitVec.getLsbD_and, BitVec.getLsbD_not, BitVec.getLsbD_ofNat, Nat.testBit_two_pow]
  by_cases hi : i < 64
  ·simp only [hi, decide_true, Bool.true_and]
   congr 2
   rw [Bool.eq_iff_iff]; simp; exact eq_comm
  ·have h0 : a.testBit i = false := Nat.testBit_lt_two_pow (Nat.lt_of_lt_of_le ha (Nat.pow_le_pow_right (by decide) (by omega)))
   simp [hi, h0]
 show IntKind.i64.wrap ((BitVec.ofInt 64 (a : Int) &&& ~~~ BitVec.ofInt 64 ((2 ^ x : Nat) : Int)).toNat : Int) = _
 rw [hv]
 have : del a x < 2 ^ 62 := by omega
 exact i62 _ (Int.natCast_nonneg _) (by exact_mod_cast this)
theorem bit_val {a x : Nat} (ha : a < 2 ^ 62) (hx : x ≤ 64) : ((Go.bits .and .i64 (shr .i64 (a : Int) (x : Int)) 1) = 1) ↔ a.testBit x = true := by
 rw [shr_nat hx, and_one_eq (Nat.lt_of_le_of_lt (Nat.div_le_self _ _) ha), testBit_shr]
theorem bit_beq {a x : Nat} (ha : a < 2 ^ 62) (hx : x ≤ 64) : ((Go.bits .and .i64 (shr .i64 (a : Int) (x : Int)) 1) == 1) = a.testBit x := by
 rw [Bool.eq_iff_iff, beq_iff_eq]; exact bit_val ha hx
section
variable {n : Nat} {R : Nat → Nat → Bool} {l : List (List Int)}
def part (n : Nat) (R : Nat → Nat → Bool) (s x : Nat) : Int := (if s = 0 then 1 else 0) + sumTo (fun x => if last n R s x = true then ext n R (del s x) else 0) x
theorem part_full (s : Nat) : part n R s n = ext n R s := by
 unfold part
 by_cases h : s = 0
 ·subst h
  rw [if_pos rfl, ext_zero, sumTo_zero (fun x hx => by
   rw [if_neg]
   intro hl
   have := last_bit hl
   simp at this)]
  rfl
 ·rw [if_neg h, Int.zero_add, ext_eq s h]
theorem part_bound (hn : n ≤ 12) (s : Nat) {x : Nat} (hx : x ≤ n) : 0 ≤ part n R s x ∧ part n R s x ≤ 23298085122481 := by
 have hnn : ∀ y, y < n → 0 ≤ (if last n R s y = true then ext n R (del s y) else 0) := fun y _ => by
  split
  ·exact ext_nonneg _
  ·omega
 have h1 := sumTo_mono (f := fun x => if last n R s x = true then ext n R (del s x) else 0) hx hnn
 have h2 := ext_small (R := R) hn s
 rw [← part_full (n := n) (R := R) s] at h2
 have h3 := sumTo_nonneg (f := fun x => if last n R s x = true then ext n R (del s x) else 0) (n := x) (fun y hy => hnn y (by omega))
 unfold part at h2 ⊢
 constructor
 ·split <;> omega
 ·omega
def cvals (n : Nat) (R : Nat → Nat → Bool) (s t : Nat) : Int := if t < s then ext n R t else if t = 0 then 1 else 0
theorem extensions_ev (hn : n ≤ 12) (hp : Pairs n l) (hl : l.length < 9223372036854775807) : Ev (fun k => z73.f k (n : Int) l) (vec (2 ^ n) (ext n (orderOf n l))) := by
 unfold z73.f
 have hpw := pow12 hn
 have hpos := Nat.two_pow_pos n
 refine Ev.bind (order_ev hn hp hl) ?_
 generalize orderOf n l = R
 rw [shl_one hn]
 simp only [Int.toNat_natCast, Option.bind_some, List.length_replicate]
 refine ev_pos (by omega) (ev_pos (by omega) (ev_pos (by omega) (ev_pos (by omega) ?_)))
 have hstart : (List.replicate (2 ^ n) (0 : Int)).set (0 : Int).toNat 1 = vec (2 ^ n) (cvals n R 0) := by
  rw [vec_zero, show (0 : Int).toNat = 0 from rfl, vec_set]
  congr 1
 rw [hstart]
 have h := le_iter_inv (fun (C : Nat → Int) (s : Nat) k => z73.l0 k (tab n R) (vec (2 ^ n) C) ((2 ^ n : Nat) : Int) (s : Int) (n : Int) l) (fun s _ => cvals n R (s + 1)) (fun s C => C = cvals n R s) (2 ^ n) 0 (cvals n R 0) rfl (fun s C _ hs hC => ⟨fun r hr => by
  subst hC
  have hs : s < 2 ^ n := by omega
  have hs62 : s < 2 ^ 62 := Nat.lt_of_lt_of_le hs (Nat.le_trans hpw (by decide))
  refine Ev.step (fun k => z73.l0.eq_2 ..) ?_
  refine ev_pos (by omega) ?_
  have h0 : cvals n R s = upd1 (cvals n R s) s (part n R s 0) := by
   funext t
   simp only [upd1]
   split
   ·rename_i e; subst e; simp [cvals, part, sumTo]
   ·rfl
  have h1 : upd1 (cvals n R s) s (part n R s n) = cvals n R (s + 1) := by
   rw [part_full]
   funext t
   simp only [upd1, cvals]
   split
   ·rename_i e; subst e; rw [if_pos (by omega)]
   ·rename_i e
    by_cases hts : t < s
    ·rw [if_pos hts, if_pos (by omega)]
    ·rw [if_neg hts, if_neg (show ¬ t < s + 1 by omega)]
  rw [h0]
  have g := le_iter_inv (fun (V : Nat → Int) (x : Nat) k => z73.l1 k (tab n R) (vec (2 ^ n) V) (s : Int) ((2 ^ n : Nat) : Int) (s : Int) (n : Int) (x : Int) (n : Int) l) (fun x _ => upd1 (cvals n R s) s (part n R s (x + 1))) (fun x V => V = upd1 (cvals n R s) s (part n R s x)) n 0 _ rfl (fun x V _ hx hV => ⟨fun r hr => by
   subst hV
   have hx : x < n := by omega
   refine Ev.step (fun k => z73.l1.eq_2 ..) ?_
   refine ev_pos (by omega) (ev_pos (by omega) ?_)
   rw [bit_beq hs62 (by omega)]
   have e := le_iter (fun (b : Bool) (y : Nat) k => z73.l2 k (tab n R) (vec (2 ^ n) (upd1 (cvals n R s) s (part n R s x))) (s : Int) (x : Int) b ((2 ^ n : Nat) : Int) (s : Int) (n : Int) (x : Int) (n : Int) (y : Int) (n : Int) l) (fun y b => b && (y == x || (!(s.testBit y && R x y) && (s.testBit y || !R y x)))) n 0 (s.testBit x) (fun y b _ hy r hr => by
    have hy : y < n := by omega
    have hbv := bit_val (a := s) (x := y) hs62 (by omega)
    refine Ev.step (fun k => z73.l2.eq_2 ..) ?_
    simp only [tab_length, tab_get hx, tab_get hy, row_length, row_get hy, row_get hx, wrap_succ (show y < 9223372036854775807 by omega)]
    refine ev_pos (by omega) (ev_pos (by omega) ?_)
    cases b with
    | false => exact ev_neg (by decide) (by simpa using hr)
    | true =>
     refine ev_pos rfl ?_
     by_cases e : y = x
     ·have e' : (y == x) = true := by simpa using e
      rw [e'] at hr
      exact ev_pos (by omega) (by simpa using hr)
     ·have e' : (y == x) = false := by simpa using e
      rw [e'] at hr
      refine ev_neg (by omega) ?_
      cases hbit : s.testBit y with
      | true =>
       rw [hbit] at hr
       refine ev_pos (hbv.2 hbit) (ev_pos (by omega) (ev_pos (by omega) (ev_pos (by omega) ?_)))
       cases hxy : R x y with
       | true => rw [hxy] at hr; exact ev_pos rfl (by simpa using hr)
       | false => rw [hxy] at hr; exact ev_neg (by decide) (by simpa using hr)
      | false =>
       rw [hbit] at hr
       exact ev_neg (fun h => by rw [hbv.1 h] at hbit; cases hbit) (ev_pos (by omega) (ev_pos (by omega) (ev_pos (by omega) (by simpa using hr)))))
   refine e _ ?_
   have el : iter (fun y b => b && (y == x || (!(s.testBit y && R x y) && (s.testBit y || !R y x)))) 0 n (s.testBit x) = last n R s x := by
    rw [iter_and, last, List.range_eq_range']
   rw [el, Nat.zero_add]
   refine Ev.step (fun k => z73.l2.eq_2 ..) ?_
   refine ev_neg (by omega) ?_
   rw [wrap_succ (show x < 9223372036854775807 by omega)]
   have hstep : part n R s (x + 1) = part n R s x + (if last n R s x = true then ext n R (del s x) else 0) := by
    unfold part; simp only [sumTo]; omega
   cases hlast : last n R s x with
   | false =>
    rw [hlast] at hstep
    have : part n R s (x + 1) = part n R s x := by rw [hstep]; simp
    rw [this] at hr
    exact ev_neg (by decide) hr
   | true =>
    rw [hlast, if_pos rfl] at hstep
    have hb := last_bit hlast
    have hd := del_lt hb
    have hbd := part_bound (R := R) hn s (show x + 1 ≤ n by omega)
    rw [shl_one (show x ≤ 12 by omega), andNot_bit hs62 (by omega) hb]
    simp only [vec_length, vec_get hs, vec_get (show del s x < 2 ^ n by omega), vec_set, Int.toNat_natCast, upd1_same]
    have hu : upd1 (cvals n R s) s (part n R s x) s = part n R s x := by simp [upd1]
    have hu2 : upd1 (cvals n R s) s (part n R s x) (del s x) = ext n R (del s x) := by
     simp only [upd1, cvals]
     rw [if_neg (by omega), if_pos hd]
    rw [hu, hu2, ← hstep, wrap_small (by omega) (by omega)]
    exact ev_pos (by simp) (ev_pos (by omega) (ev_pos (by omega) (ev_pos (by omega) (ev_pos (by omega) (ev_pos (by omega) hr))))), rfl⟩)
  refine g.1 _ ?_
  rw [g.2, Nat.zero_add, h1]
  refine Ev.step (fun k => z73.l1.eq_2 ..) ?_
  rw [wrap_succ (show s < 9223372036854775807 by omega)]
  exact ev_neg (by omega) hr, rfl⟩)
 refine h.1 _ ?_
 rw [h.2, Nat.zero_add]
 refine Ev.step (fun k => z73.l0.eq_2 ..) ?_
 refine ev_neg (by omega) (ev_eq (Ev.now _) ?_)
 unfold vec
 refine List.map_congr_left (fun t ht => ?_)
 unfold cvals
 rw [if_pos (List.mem_range.1 ht)]
end
end Go.Proofs.Ytnohkeijhfjbeaa.B

set_option linter.unusedVariables false
set_option linter.unusedSimpArgs false
namespace Go.Proofs.Ytnohkeijhfjbeaa.B
open Go.RowKit Go.Proofs.YtnohkeijhfjbeaaW.PrintWords

section
variable {n : Nat} {R : Nat → Nat → Bool}
theorem sumTo_at {f g : Nat → Int} {a : Nat} : ∀ {n : Nat}, a < n → (∀ x, x < n → x ≠ a → f x = g x) → sumTo f n = sumTo g n + (f a - g a)
 | 0, h, _ => by omega
 | n + 1, h, he => by
  simp only [sumTo]
  by_cases e : a = n
  ·subst e
   rw [sumTo_congr (fun x hx => he x (by omega) (by omega))]; omega
  ·rw [sumTo_at (n := n) (by omega) (fun x hx hne => he x (by omega) hne), he n (by omega) (fun h => e h.symm)]; omega
def way (n : Nat) (R : Nat → Nat → Bool) (s a t x : Nat) : Int := if (t.testBit x && lowIn n R (del t x) x && (decide (del t x < s) || decide (del t x = s ∧ x < a))) = true then ext n R (del t x) else 0
def ways (n : Nat) (R : Nat → Nat → Bool) (s a t : Nat) : Int := (if t = 0 then 1 else 0) + sumTo (way n R s a t) n
theorem way_nonneg (s a t x : Nat) : 0 ≤ way n R s a t x := by
 unfold way
 split
 ·exact ext_nonneg _
 ·omega
theorem ways_full (ho : Ord n R) {s t : Nat} (h : t ≤ s) : ways n R s 0 t = ext n R t := by
 unfold ways
 by_cases h0 : t = 0
 ·subst h0
  rw [if_pos rfl, ext_zero, sumTo_zero (fun x hx => by unfold way; simp)]
  rfl
 ·rw [if_neg h0, Int.zero_add, ext_sum ho t h0]
  refine sumTo_congr (fun x hx => ?_)
  unfold way
  cases hb : t.testBit x with
  | false => simp
  | true =>
   have : decide (del t x < s) = true := decide_eq_true (Nat.lt_of_lt_of_le (del_lt hb) h)
   rw [this]; simp
theorem ways_le (hn : n ≤ 12) (ho : Ord n R) (s a t : Nat) : 0 ≤ ways n R s a t ∧ ways n R s a t ≤ 23298085122481 := by
 have h1 := sumTo_nonneg (f := way n R s a t) (n := n) (fun x _ => way_nonneg s a t x)
 have h2 : sumTo (way n R s a t) n ≤ sumTo (way n R (t + 1) 0 t) n := sumTo_le_each (fun x hx => by
  unfold way
  cases hb : t.testBit x with
  | false => simp
  | true =>
   have : decide (del t x < t + 1) = true := decide_eq_true (by have := del_lt hb; omega)
   rw [this]
   cases lowIn n R (del t x) x with
   | false => simp
   | true =>
    simp only [Bool.and_self, Bool.true_and, Bool.true_or, if_true]
    split
    ·omega
    ·exact ext_nonneg _)
 have h3 := ways_full ho (show t ≤ t + 1 by omega)
 have h4 := ext_small (R := R) hn t
 unfold ways at h3 ⊢
 constructor
 ·split <;> omega
 ·omega
theorem ways_zero (t : Nat) : ways n R 0 0 t = if t = 0 then 1 else 0 := by
 unfold ways
 rw [sumTo_zero (fun x hx => by unfold way; simp)]
 omega
theorem ways_next (s t : Nat) : ways n R s n t = ways n R (s + 1) 0 t := by
 unfold ways
 congr 1
 refine sumTo_congr (fun x hx => ?_)
 unfold way
 have : (decide (del t x < s) || decide (del t x = s ∧ x < n)) = (decide (del t x < s + 1) || decide (del t x = s + 1 ∧ x < 0)) := by
  rw [Bool.eq_iff_iff]; simp; omega
 rw [this]
theorem ways_skip (s t : Nat) (h : ext n R s = 0) : ways n R s 0 t = ways n R (s + 1) 0 t := by
 rw [← ways_next]
 unfold ways
 congr 1
 refine sumTo_congr (fun x hx => ?_)
 unfold way
 by_cases e : del t x = s
 ·rw [e, h]; simp
 ·have : decide (del t x = s ∧ x < n) = false := decide_eq_false (fun hc => e hc.1)
  rw [this]
  simp
def readyIn (n : Nat) (R : Nat → Nat → Bool) (s a : Nat) : Bool := !s.testBit a && lowIn n R s a
theorem ways_step {s a : Nat} (ha : a < n) (t : Nat) : ways n R s (a + 1) t = if readyIn n R s a = true ∧ t = s ||| 2 ^ a then ways n R s a t + ext n R s else ways n R s a t := by
 have same : ∀ x, x < n → x ≠ a → way n R s (a + 1) t x = way n R s a t x := fun x hx hne => by
  unfold way
  have : decide (del t x = s ∧ x < a + 1) = decide (del t x = s ∧ x < a) := by rw [decide_eq_decide]; omega
  rw [this]
 unfold ways
 rw [sumTo_at ha same]
 have hw0 : del t a = s → way n R s a t a = 0 := fun e => by
  unfold way
  have h1 : decide (del t a < s) = false := decide_eq_false (by omega)
  have h2 : decide (del t a = s ∧ a < a) = false := decide_eq_false (by omega)
  rw [h1, h2]; simp
 by_cases hc : readyIn n R s a = true ∧ t = s ||| 2 ^ a
 ·rw [if_pos hc]
  obtain ⟨hr, ht⟩ := hc
  obtain ⟨h1, h2⟩ := (Bool.and_eq_true _ _).mp hr
  have h1 : s.testBit a = false := by simpa using h1
  have hd : del t a = s := by rw [ht]; exact del_add h1
  have hb : t.testBit a = true := by rw [ht, add_bit]; simp
  have hw : way n R s (a + 1) t a = ext n R s := by
   unfold way
   rw [hd, hb, h2, decide_eq_true (show s = s ∧ a < a + 1 from ⟨rfl, by omega⟩)]
   simp
  rw [hw, hw0 hd]; omega
 ·rw [if_neg hc]
  have : way n R s (a + 1) t a = way n R s a t a := by
   by_cases hd : del t a = s
   ·rw [hw0 hd]
    unfold way
    rw [if_neg]
    intro h
    obtain ⟨h12, _⟩ := (Bool.and_eq_true _ _).mp h
    obtain ⟨hb, h2⟩ := (Bool.and_eq_true _ _).mp h12
    rw [hd] at h2
    refine hc ⟨?_, ?_⟩
    ·unfold readyIn
     rw [h2, ← hd, del_bit hb]; simp
    ·rw [← hd]; exact (add_del hb).symm
   ·unfold way
    have h1 : decide (del t a = s ∧ a < a + 1) = false := decide_eq_false (fun h => hd h.1)
    have h2 : decide (del t a = s ∧ a < a) = false := decide_eq_false (by omega)
    rw [h1, h2]
  rw [this]; omega
def ideals (n : Nat) (R : Nat → Nat → Bool) (s : Nat) : Int := sumTo (fun t => if ext n R t = 0 then 0 else 1) s
theorem ideals_le (s : Nat) : 0 ≤ ideals n R s ∧ ideals n R s ≤ s := by
 have h1 := sumTo_nonneg (f := fun t => if ext n R t = 0 then 0 else 1) (n := s) (fun x _ => by split <;> omega)
 have h2 := sumTo_le (f := fun t => if ext n R t = 0 then 0 else 1) (b := 1) (n := s) (fun x _ => by split <;> omega)
 unfold ideals
 omega
theorem specCount_ev (hn : n ≤ 12) (ho : Ord n R) : Ev (fun k => z72.f k (tab n R)) (ideals n R (2 ^ n), ext n R (2 ^ n - 1)) := by
 have hpw := pow12 hn
 have hpos := Nat.two_pow_pos n
 unfold z72.f
 rw [tab_length, shl_one hn]
 simp only [Int.toNat_natCast, Option.bind_some, List.length_replicate]
 refine ev_pos (by omega) (ev_pos (by omega) (ev_pos (by omega) ?_))
 have hstart : (List.replicate (2 ^ n) (0 : Int)).set (0 : Int).toNat 1 = vec (2 ^ n) (ways n R 0 0) := by
  rw [vec_zero, show (0 : Int).toNat = 0 from rfl, vec_set]
  congr 1
  funext t
  rw [ways_zero]
  simp only [upd1]
 rw [hstart]
 have h := le_iter_inv (fun (V : (Nat → Int) × Int) (s : Nat) k => z72.l0 k (tab n R) (n : Int) (vec (2 ^ n) V.1) V.2 (s : Int)) (fun s _ => (ways n R (s + 1) 0, ideals n R (s + 1))) (fun s V => V = (ways n R s 0, ideals n R s)) (2 ^ n) 0 (ways n R 0 0, 0) rfl (fun s V _ hs hV => ⟨fun r hr => by
  subst hV
  have hs : s < 2 ^ n := by omega
  have hs62 : s < 2 ^ 62 := Nat.lt_of_lt_of_le hs (Nat.le_trans hpw (by decide))
  have hw := ways_full (n := n) (R := R) ho (Nat.le_refl s)
  have hi := ideals_le (n := n) (R := R) s
  have hin : ideals n R (s + 1) = ideals n R s + (if ext n R s = 0 then 0 else 1) := rfl
  dsimp only at hr ⊢
  refine Ev.step (fun k => z72.l0.eq_2 ..) ?_
  rw [shl_one hn, vec_length, vec_get hs, hw, wrap_succ (show s < 9223372036854775807 by omega)]
  refine ev_pos (by omega) (ev_pos (by omega) (ev_pos (by omega) (ev_pos (by omega) ?_)))
  by_cases he : ext n R s = 0
  ·rw [he, if_pos rfl, Int.add_zero] at hin
   have e : ways n R (s + 1) 0 = ways n R s 0 := by funext t; exact (ways_skip s t he).symm
   rw [hin, e] at hr
   exact ev_pos he hr
  ·rw [if_neg he] at hin
   refine ev_neg he ?_
   rw [wrap_small (by omega) (by omega), ← hin]
   have g := le_iter_inv (fun (V : Nat → Int) (a : Nat) k => z72.l1 k (tab n R) (n : Int) (vec (2 ^ n) V) (ideals n R (s + 1)) (s : Int) (a : Int)) (fun a _ => ways n R s (a + 1)) (fun a V => V = ways n R s a) n 0 _ rfl (fun a V _ ha hV => ⟨fun r hr => by
    subst hV
    have ha : a < n := by omega
    have hz : ∀ b : Nat, b ≤ 12 → (Go.bits .and .i64 (s : Int) (shl .i64 1 (b : Int)) = 0 ↔ s.testBit b = false) := fun b hb => by
     rw [shl_one hb]; exact and_bit_zero hs62 hb
    have skip : readyIn n R s a = false → ∀ b : Nat, b ≤ n → Ev (fun k => z72.l2 k (tab n R) (n : Int) (vec (2 ^ n) (ways n R s a)) (ideals n R (s + 1)) (s : Int) (a : Int) false (b : Int)) r := fun hf b hb => by
     have e : ways n R s (a + 1) = ways n R s a := by
      funext t
      rw [ways_step ha, if_neg]
      rintro ⟨h, _⟩
      rw [hf] at h; cases h
     rw [e] at hr
     refine Ev.step (fun k => z72.l2.eq_2 ..) ?_
     rw [wrap_succ (show a < 9223372036854775807 by omega)]
     by_cases hbn : b < n
     ·exact ev_pos (by omega) (ev_neg (by decide) hr)
     ·exact ev_neg (by omega) (ev_neg (by decide) hr)
    refine Ev.step (fun k => z72.l1.eq_2 ..) ?_
    refine ev_pos (by omega) (ev_pos (by omega) ?_)
    have hinit : ((Go.bits .and .i64 (s : Int) (shl .i64 1 (a : Int))) == 0) = !s.testBit a := by
     rw [Bool.eq_iff_iff, beq_iff_eq, hz a (by omega)]; simp
    rw [hinit]
    cases hsa : s.testBit a with
    | true => exact skip (by simp [readyIn, hsa]) 0 (Nat.zero_le _)
    | false =>
     refine ev_find (fun (b : Nat) k => z72.l2 k (tab n R) (n : Int) (vec (2 ^ n) (ways n R s a)) (ideals n R (s + 1)) (s : Int) (a : Int) true (b : Int)) (fun y => !(y == a || (!R y a || s.testBit y))) n 0 (fun y _ hy hp r hr => ?_) (fun y _ hy hp _ => ?_) (fun hall => ?_)
     ·have hy : y < n := by omega
      refine Ev.step (fun k => z72.l2.eq_2 ..) ?_
      simp only [tab_length, tab_get hy, row_length, row_get ha, wrap_succ (show y < 9223372036854775807 by omega)]
      refine ev_pos (by omega) (ev_pos (by simp) ?_)
      by_cases e : y = a
      ·exact ev_pos (by omega) hr
      ·refine ev_neg (by omega) (ev_pos (by omega) (ev_pos (by omega) (ev_pos (by omega) (ev_pos (by omega) ?_))))
       have e' : (y == a) = false := by simpa using e
       rw [e', Bool.false_or] at hp
       cases h1 : R y a with
       | false => exact ev_neg (by decide) hr
       | true =>
        rw [h1] at hp
        have h2 : s.testBit y = true := by simpa using hp
        have h3 : ((Go.bits .and .i64 (s : Int) (shl .i64 1 (y : Int))) != 0) = true := by
         rw [bne_iff_ne, ne_eq, hz y (by omega), h2]; decide
        rw [h3]
        exact ev_pos rfl hr
     ·have hy : y < n := by omega
      have e : y ≠ a := by rintro rfl; simp at hp
      have e' : (y == a) = false := by simpa using e
      rw [e', Bool.false_or] at hp
      have h1 : R y a = true := by
       cases h1 : R y a with
       | true => rfl
       | false => rw [h1] at hp; simp at hp
      have h2 : s.testBit y = false := by rw [h1] at hp; simpa using hp
      have h3 : ((Go.bits .and .i64 (s : Int) (shl .i64 1 (y : Int))) != 0) = false := by
       rw [bne_eq_false_iff_eq]; exact (hz y (by omega)).2 h2
      refine Ev.step (fun k => z72.l2.eq_2 ..) ?_
      simp only [tab_length, tab_get hy, row_length, row_get ha, wrap_succ (show y < 9223372036854775807 by omega), h3]
      refine ev_pos (by omega) (ev_pos (by simp) (ev_neg (by omega) (ev_pos (by omega) (ev_pos (by omega) (ev_pos (by omega) (ev_pos (by omega) (ev_pos h1 (skip ?_ (y + 1) (by omega)))))))))
      unfold readyIn
      rw [hsa, Bool.not_false, Bool.true_and, Bool.eq_false_iff]
      intro hc
      have := List.all_eq_true.1 hc y (List.mem_range.2 hy)
      rw [e', h1, h2] at this
      cases this
     ·have hready : readyIn n R s a = true := by
       unfold readyIn
       rw [hsa, Bool.not_false, Bool.true_and]
       exact List.all_eq_true.2 (fun y hy => (Bool.not_eq_false' _).mp (hall y (Nat.zero_le _) (by have := List.mem_range.1 hy; omega)))
      have hor : s ||| 2 ^ a < 2 ^ n := Nat.or_lt_two_pow hs (Nat.pow_lt_pow_right (by decide) ha)
      have hav := or_nat (a := s) (b := 2 ^ a) hs62 (Nat.lt_of_le_of_lt (pow12 (show a ≤ 12 by omega)) (by decide))
      have hne : s ≠ s ||| 2 ^ a := fun e => by
       have : (s ||| 2 ^ a).testBit a = true := by rw [add_bit]; simp
       rw [← e, hsa] at this; cases this
      have hsv : ways n R s a s = ext n R s := by
       have : ∀ b, b ≤ n → ways n R s b s = ext n R s := by
        intro b
        induction b with
        | zero => intro _; exact hw
        | succ b ihb =>
         intro hb
         rw [ways_step (show b < n by omega), if_neg, ihb (by omega)]
         rintro ⟨hrb, hbe⟩
         have h1 : s.testBit b = false := by simpa using ((Bool.and_eq_true _ _).mp hrb).1
         have : (s ||| 2 ^ b).testBit b = true := by rw [add_bit]; simp
         rw [← hbe, h1] at this; cases this
       exact this a (by omega)
      have e : ways n R s (a + 1) = upd1 (ways n R s a) (s ||| 2 ^ a) (ways n R s a (s ||| 2 ^ a) + ext n R s) := by
       funext t
       rw [ways_step ha]
       simp only [upd1]
       by_cases ht : t = s ||| 2 ^ a
       ·rw [if_pos ⟨hready, ht⟩, if_pos ht, ht]
       ·rw [if_neg (fun h => ht h.2), if_neg ht]
      have hb1 := ways_le hn ho s (a + 1) (s ||| 2 ^ a)
      have hval : ways n R s (a + 1) (s ||| 2 ^ a) = ways n R s a (s ||| 2 ^ a) + ext n R s := by rw [e]; simp [upd1]
      rw [Nat.zero_add]
      refine Ev.step (fun k => z72.l2.eq_2 ..) ?_
      rw [shl_one (show a ≤ 12 by omega), hav]
      simp only [vec_length, vec_get hs, vec_get hor, vec_set, Int.toNat_natCast, hsv]
      rw [wrap_small (x := ways n R s a (s ||| 2 ^ a) + ext n R s) (by omega) (by omega), ← e, wrap_succ (show a < 9223372036854775807 by omega)]
      exact ev_neg (by omega) (ev_pos (by simp) (ev_pos (by omega) (ev_pos (by omega) (ev_pos (by omega) (ev_pos (by omega) (ev_pos (by omega) hr)))))), rfl⟩)
   refine g.1 _ ?_
   rw [g.2, Nat.zero_add]
   have e : ways n R s n = ways n R (s + 1) 0 := by funext t; exact ways_next s t
   rw [e]
   refine Ev.step (fun k => z72.l1.eq_2 ..) ?_
   rw [wrap_succ (show s < 9223372036854775807 by omega)]
   exact ev_neg (by omega) hr, rfl⟩)
 refine h.1 _ ?_
 rw [h.2, Nat.zero_add]
 dsimp only
 refine Ev.step (fun k => z72.l0.eq_2 ..) ?_
 rw [shl_one hn, vec_length, show wrap64 (((2 ^ n : Nat) : Int) - 1) = ((2 ^ n - 1 : Nat) : Int) by rw [wrap_small (by omega) (by omega)]; omega, vec_get (show 2 ^ n - 1 < 2 ^ n by omega), ways_full ho (show 2 ^ n - 1 ≤ 2 ^ n by omega)]
 exact ev_pos (by omega) (ev_neg (by omega) (ev_pos (by omega) (ev_pos (by omega) (Ev.now _))))
end
end Go.Proofs.Ytnohkeijhfjbeaa.B

set_option linter.unusedVariables false
set_option linter.unusedSimpArgs false
namespace Go.Proofs.Ytnohkeijhfjbeaa.B
open Go.RowKit Go.Proofs.YtnohkeijhfjbeaaW.PrintWords

def countExt (a : Int) (l : List (List Int)) : Int × Int := if okPoset a l = true then (ext a.toNat (orderOf a.toNat l) (2 ^ a.toNat - 1), 0) else (0, 1)
theorem implCount_ev {a : Int} {l : List (List Int)} (hl : l.length < 9223372036854775807) : Ev (fun k => z38.f k a l) (countExt a l) := by
 unfold z38.f countExt
 refine Ev.bind (implValidPoset_ev hl) ?_
 cases ho : okPoset a l with
 | false => exact ev_neg (by decide) (Ev.now _)
 | true =>
  obtain ⟨n, rfl, hn, _, hp, hO, _⟩ := okPoset_iff.1 ho
  have hpw := pow12 hn
  have hpos := Nat.two_pow_pos n
  refine ev_pos rfl (Ev.bind (extensions_ev hn (pairs_of n hn l hp) hl) ?_)
  rw [if_pos rfl, Int.toNat_natCast, vec_length, show wrap64 (((2 ^ n : Nat) : Int) - 1) = ((2 ^ n - 1 : Nat) : Int) by rw [wrap_small (by omega) (by omega)]; omega, vec_get (show 2 ^ n - 1 < 2 ^ n by omega)]
  exact ev_pos (by omega) (ev_pos (by omega) (Ev.now _))
theorem specCountOf_ev {a : Int} {l : List (List Int)} (hl : l.length < 9223372036854775807) : Ev (fun k => z37.f k a l) (countExt a l) := by
 unfold z37.f countExt
 refine Ev.bind (specOk_ev hl) ?_
 cases ho : okPoset a l with
 | false => exact ev_neg (by decide) (Ev.now _)
 | true =>
  obtain ⟨n, rfl, hn, _, hp, hO, _⟩ := okPoset_iff.1 ho
  refine ev_pos rfl (Ev.bind (specOrder_ev hn (pairs_of n hn l hp) hl) (Ev.bind (specCount_ev hn (ord_of hO)) ?_))
  rw [if_pos rfl, Int.toNat_natCast]
  exact Ev.now _
theorem pure_CountExtensions {a0 : Int} {l1 : List (List Int)} (h0 : Wf a0) (h1 : WfLL l1) : ∃ k, z8.f k a0 l1 = some true := by
 refine Ev.rounds (g := fun k => z8.f k a0 l1) ?_
 unfold z8.f
 rcases szPoset_ev a0 l1 1048576 h1 (by omega) (by omega) with ⟨t, ht, hn⟩ | ⟨ht, hb⟩
 ·exact Ev.bind ht (ev_pos hn (Ev.now _))
 ·have htn := total_nonneg l1
  have hrow : ∀ x ∈ l1, x.length ≤ 1048576 := fun x hx => by have := row_le_total l1 x hx; omega
  have hlen : l1.length ≤ 1048576 := by omega
  have hto := toPoset_ev a0 l1 hlen hrow
  have hlt : l1.length < 9223372036854775807 := by omega
  have heq := eqPoset_self a0 l1 hlt (fun x hx => by have := hrow x hx; omega)
  have hsp := specCountOf_ev (a := a0) hlt
  have him := implCount_ev (a := a0) hlt
  refine Ev.bind ht (ev_neg (by omega) ?_)
  (repeat (first | exact Ev.now _ | refine ev_pos rfl ?_ | refine ev_neg (by simp only []; omega) ?_ | refine ev_neg (by omega) ?_ | refine ev_neg (by simp) ?_ | refine Ev.bind (by assumption) ?_ | refine Ev.bind (ev_const (by assumption)) ?_))
end Go.Proofs.Ytnohkeijhfjbeaa.B

