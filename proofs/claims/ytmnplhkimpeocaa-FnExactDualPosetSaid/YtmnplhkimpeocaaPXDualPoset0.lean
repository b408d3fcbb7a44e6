/- What the functions come to, for the law FnExactDualPoset. -/
import Derived.Test.YtmnplhkimpeocaaKBMJCAI0
import Derived.Test.YtmnplhkimpeocaaKCMKKEP0
import Derived.Test.YtmnplhkimpeocaaKEGFBIK0
import Derived.Test.YtmnplhkimpeocaaKEGFBIK1
import Derived.Test.YtmnplhkimpeocaaKFFJLHB0
import Derived.Test.YtmnplhkimpeocaaKGOCDOE0
import Derived.Test.YtmnplhkimpeocaaKJILKAP0
import Derived.Test.YtmnplhkimpeocaaKJLAFNI0
import Derived.Test.YtmnplhkimpeocaaKKPPKFL0
import Derived.Test.YtmnplhkimpeocaaKLNJBHL0
import Derived.Test.YtmnplhkimpeocaaKPDGBGL0
import Derived.Test.YtmnplhkimpeocaaKW0
import Derived.Below
import Derived.ChangeOld
import Derived.Deep.Matrix
import Derived.Lib.SmallJoins
import Derived.OpenShut
import Derived.ProofKit
import Derived.ShutString
import Derived.SizedLaws
import Derived.WalkKit
set_option linter.unusedVariables false
set_option linter.unusedSimpArgs false
namespace Go.Proofs.Ytmnplhkimpeocaa.B
open Go.RowKit Go.ChangeShapes Go.WideShapes Go.Deep Go.Proofs.YtmnplhkimpeocaaW.PrintWords

def Wf (n : Int) : Prop := -9223372036854775808 ≤ n ∧ n ≤ 9223372036854775807
def WfL (l : List Int) : Prop := l.length ≤ 9223372036854775807 ∧ ∀ n ∈ l, Wf n
def WfLL (l : List (List Int)) : Prop := l.length ≤ 9223372036854775807 ∧ ∀ r ∈ l, WfL r
theorem wf_of {n : Int} (h : (Lit.int .i64 n).wf = true) : Wf n := by
 unfold Wf
 simp [Lit.wf, IntKind.min, IntKind.max, IntKind.bits, IntKind.signed] at h
 omega

section
variable {H : Type} {enc : TypeId × Value → H} {P : Program} {w : World} {base : Nat} {held : Bool} {fuel : Nat}
theorem opened_int {t : TypeId} {v : Value} {x : DataW H × List MemPlace} (ht : P.underlying t = some (.int .i64)) (h : DataW.trod enc P w base (fun _ => true) held fuel t [v] = some x) : ∃ n, v = .int .i64 n ∧ Wf n := by
 obtain ⟨n, he, _, hw⟩ := DataW.trod_int ht h
 exact ⟨n, by simpa using he, wf_of hw⟩
theorem opened_ints {t e : TypeId} {v : Value} {x : DataW H × List MemPlace} (ht : P.underlying t = some (.slice e)) (he : P.underlying e = some (.int .i64)) (hc : P.cellsOf e = 1) (h : DataW.trod enc P w base (fun _ => true) held fuel t [v] = some x) :
  ∃ A l c, v = .slice A l.length c ∧ (Kd.int .i64).C w A l.length l ∧ l.length ≤ c ∧ WfL l := by
 rcases open_ints ht he hc h with ⟨hcs, _⟩ | ⟨a, l, c, zs, hcs, _, hl, hm, hz, _, hcell, hwz⟩
 ·refine ⟨none, [], 0, by simpa using hcs, ⟨rfl, by simp, fun h => by simp at h⟩, by simp, by simp [WfL]⟩
 ·simp only [if_true] at hz
  have hlen : (zs.take l).length = l := by rw [List.length_take]; omega
  refine ⟨some a, zs.take l, c, by rw [hlen]; simpa using hcs, ⟨rfl, by rw [hlen]; simp only [maxLen] at hm; omega, fun _ => ⟨a, rfl, fun j p hj => ?_⟩⟩, by omega, ?_, fun n hn => wf_of (hwz n (List.mem_of_mem_take hn))⟩
  ·have hjl : j < l := by have := (List.getElem?_eq_some_iff.1 hj).1; omega
   refine ⟨[.int .i64 p], rfl, rfl, fun i u hu => ?_⟩
   cases i with
   | zero =>
    simp only [List.getElem?_cons_zero, Option.some.injEq] at hu
    subst hu
    rw [Nat.add_zero, show j * (Kd.int .i64).sz = j from Nat.mul_one j, hcell j (by omega)]
    rw [List.getElem?_take, if_pos hjl] at hj
    rw [List.getD_eq_getElem?_getD, hj]; rfl
   | succ i => simp at hu
  ·rw [hlen]; simp only [maxLen] at hm; omega
theorem opened_rows {t e q : TypeId} {v : Value} {x : DataW H × List MemPlace} (ht : P.underlying t = some (.slice e)) (he : P.underlying e = some (.slice q)) (hq : P.underlying q = some (.int .i64)) (ce : P.cellsOf e = 1) (cq : P.cellsOf q = 1) (h : DataW.trod enc P w base (fun _ => true) held fuel t [v] = some x) :
  ∃ A l c, v = .slice A l.length c ∧ (Kd.slice 2 (Kd.int .i64)).C w A l.length l ∧ l.length ≤ c ∧ WfLL l := by
 rcases open_slice1 ht ce h with ⟨hcs, _⟩ | ⟨a, l, c, m, n, V, D, Pl, hcs, _, hl, hm, hmm, _, hx⟩
 ·refine ⟨none, [], 0, by simpa using hcs, ⟨rfl, by simp, fun h => by simp at h⟩, by simp, by simp [WfLL]⟩
 ·simp only [if_true] at hmm
  subst hmm
  have each : ∀ r, r < m → ∃ y : Option Addr × List Int × Nat, V r = .slice y.1 y.2.1.length y.2.2 ∧ (Kd.int .i64).C w y.1 y.2.1.length y.2.1 ∧ y.2.1.length ≤ y.2.2 ∧ WfL y.2.1 := by
   intro r hr
   obtain ⟨A, l, c, h1, h2, h3, h4⟩ := opened_ints he hq cq (hx r hr).2
   exact ⟨(A, l, c), h1, h2, h3, h4⟩
  obtain ⟨y, hy⟩ := choose_lt each
  have hlen : ((List.range l).map fun r => (y r).2.1).length = l := by simp
  refine ⟨some a, (List.range l).map fun r => (y r).2.1, m, by rw [hlen]; simpa using hcs, ⟨rfl, by rw [hlen]; simp only [maxLen] at hm; omega, fun _ => ⟨a, rfl, fun j p hj => ?_⟩⟩, by omega, ?_, ?_⟩
  ·have hjl : j < l := by have := (List.getElem?_eq_some_iff.1 hj).1; omega
   rw [List.getElem?_map, List.getElem?_range hjl] at hj
   simp only [Option.map_some, Option.some.injEq] at hj
   subst hj
   obtain ⟨h1, h2, h3, h4⟩ := hy j (by omega)
   refine ⟨[.slice (y j).1 (y j).2.1.length (y j).2.2], rfl, ⟨_, _, rfl, h3, h2⟩, fun i u hu => ?_⟩
   cases i with
   | zero =>
    simp only [List.getElem?_cons_zero, Option.some.injEq] at hu
    subst hu
    rw [Nat.add_zero, show j * (Kd.slice 2 (Kd.int .i64)).sz = j from Nat.mul_one j, (hx j (by omega)).1, h1]
   | succ i => simp at hu
  ·rw [hlen]; simp only [maxLen] at hm; omega
  ·intro r hr
   simp only [List.mem_map, List.mem_range] at hr
   obtain ⟨j, hj, rfl⟩ := hr
   exact (hy j (by omega)).2.2.2

theorem open_agg1 {r : Reach} {b0 : Nat} {t : TypeId} {f0 : Field} {v : Value} {d : DataW H} {p : List MemPlace} (hs : P.underlying t = some (.struct #[f0])) (hone : oneCellFields P #[f0] = true) (hC : P.cellsOf t = 1)
  (hv : Value.okWide P w r b0 t v) (h : DataW.Trod enc P w base (fun _ => true) held t v d p) :
  ∃ (v0 : Value) (y0 : DataW H × List MemPlace) (n : Nat), v = .agg #[v0] ∧ DataW.trod enc P w base (fun _ => true) held n f0.type [v0] = some y0 := by
 obtain ⟨cs, rfl, hsz⟩ := okWide_struct hs hv
 obtain ⟨c0, rfl⟩ : ∃ c0, cs = #[c0] := by
  have h1 : cs.size = 1 := hsz.trans hC
  match cs, h1 with | ⟨[c0]⟩, _ => exact ⟨c0, rfl⟩
 obtain ⟨fuel, hf⟩ := h
 obtain ⟨y0, n, hx, _, h0⟩ := trod_struct1 hs hf
 obtain ⟨o0, k0⟩ := hone_of hone 0 f0 rfl
 exact ⟨c0, y0, n, rfl, by simpa [Value.cells, o0, k0] using h0⟩
end
theorem own : ownKnob Try.prog.godebug = none := by kernel_rfl
theorem laidOut : laidOutB Try.prog = true := by kernel_rfl
end Go.Proofs.Ytmnplhkimpeocaa.B

set_option linter.unusedVariables false
set_option linter.unusedSimpArgs false
namespace Go.Proofs.Ytmnplhkimpeocaa.B
open Go.RowKit Go.Proofs.YtmnplhkimpeocaaW.PrintWords

def row (n : Nat) (f : Nat → Bool) : List Bool := (List.range n).map f
def tab (n : Nat) (R : Nat → Nat → Bool) : List (List Bool) := (List.range n).map fun a => row n (R a)
def upd (R : Nat → Nat → Bool) (a c : Nat) (v : Bool) : Nat → Nat → Bool := fun a' c' => if a' = a ∧ c' = c then v else R a' c'
theorem row_length (n : Nat) (f : Nat → Bool) : (row n f).length = n := by simp [row]
theorem tab_length (n : Nat) (R : Nat → Nat → Bool) : (tab n R).length = n := by simp [tab]
theorem row_get {n : Nat} {f : Nat → Bool} {j : Nat} (h : j < n) : rdOf false (row n f) (j : Int) = f j := by
 rw [rdOf_nat, row, List.getD_eq_getElem?_getD, List.getElem?_map, List.getElem?_range h]; rfl
theorem tab_get {n : Nat} {R : Nat → Nat → Bool} {i : Nat} (h : i < n) : rd_ListBool (tab n R) (i : Int) = row n (R i) := by
 simp [rd_ListBool, tab, List.getElem?_range h, h]
theorem row_set {n : Nat} {f : Nat → Bool} {c : Nat} (v : Bool) : (row n f).set c v = row n (fun c' => if c' = c then v else f c') := by
 apply List.ext_getElem (by simp [row])
 intro i h1 h2
 simp only [row, List.getElem_set, List.getElem_map, List.getElem_range]
 by_cases h : i = c
 ·simp [h]
 ·simp [h, Ne.symm h]
theorem tab_set {n : Nat} {R : Nat → Nat → Bool} {a c : Nat} (v : Bool) : (tab n R).set a ((row n (R a)).set c v) = tab n (upd R a c v) := by
 apply List.ext_getElem (by simp [tab])
 intro i h1 h2
 simp only [tab, List.getElem_set, List.getElem_map, List.getElem_range, row_set]
 by_cases h : a = i
 ·subst h
  simp only [↓reduceIte]
  congr 1
  funext c'
  simp [upd]
 ·have h' : ¬ i = a := fun e => h e.symm
  simp only [if_neg h]
  congr 1
  funext c'
  simp [upd, h']
theorem upd_self (R : Nat → Nat → Bool) (a c : Nat) (v : Bool) (h : v = R a c) : upd R a c v = R := by
 funext a' c'
 simp only [upd]
 split
 ·rename_i e; obtain ⟨rfl, rfl⟩ := e; exact h
 ·rfl

def diag (a b : Nat) : Bool := a == b
def pairsRel (pairs : List (List Int)) (R : Nat → Nat → Bool) : Nat → Nat → Bool := iter (fun i R => upd R ((pairs.getD i []).getD 0 0).toNat ((pairs.getD i []).getD 1 0).toNat true) 0 pairs.length R
def wCell (x a c : Nat) (R : Nat → Nat → Bool) : Nat → Nat → Bool := upd R a c (R a c || R a x && R x c)
def wRow (n x a : Nat) (R : Nat → Nat → Bool) : Nat → Nat → Bool := iter (wCell x a) 0 n R
def wRound (n x : Nat) (R : Nat → Nat → Bool) : Nat → Nat → Bool := iter (wRow n x) 0 n R
def warshall (n : Nat) (R : Nat → Nat → Bool) : Nat → Nat → Bool := iter (wRound n) 0 n R
def orderOf (n : Nat) (pairs : List (List Int)) : Nat → Nat → Bool := warshall n (pairsRel pairs diag)
def elem (a n : Int) : Bool := decide (0 ≤ a) && decide (a ≤ wrap64 (n - 1))
def isPair (n : Int) (p : List Int) : Bool := p.length == 2 && (elem (p.getD 0 0) n && elem (p.getD 1 0) n)
def isOrd (n : Nat) (R : Nat → Nat → Bool) : Bool := (List.range n).all fun x => (List.range x).all fun y => !(R x y && R y x)
def between (n : Nat) (R : Nat → Nat → Bool) (x y : Nat) : Bool := (List.range n).any fun z => !(z == x) && (!(z == y) && (R x z && R z y))
def covers (n : Nat) (R : Nat → Nat → Bool) (x y : Nat) : Bool := !(x == y) && (R x y && !between n R x y)
def coverRow (n : Nat) (R : Nat → Nat → Bool) (x : Nat) (s : List (List Int)) : List (List Int) := iter (fun y s => if covers n R x y then s ++ [[(x : Int), (y : Int)]] else s) 0 n s
def coversOf (n : Nat) (R : Nat → Nat → Bool) : List (List Int) := iter (coverRow n R) 0 n []
theorem coversOf_length (n : Nat) (R : Nat → Nat → Bool) : (coversOf n R).length ≤ n * n := by
 have hrow : ∀ x s, (coverRow n R x s).length ≤ s.length + n := fun x s => by
  have := iter_inv (fun y s => if covers n R x y then s ++ [[(x : Int), (y : Int)]] else s) (fun i (t : List (List Int)) => t.length ≤ s.length + i) n 0 s (by omega) (fun j t _ _ h => by
   split
   ·simp only [List.length_append, List.length_singleton]; omega
   ·omega)
  simpa [coverRow] using this
 have := iter_inv (coverRow n R) (fun i (t : List (List Int)) => t.length ≤ i * n) n 0 [] (by simp) (fun j t _ _ h => by
  have := hrow j t
  rw [Nat.add_mul, Nat.one_mul]; omega)
 simpa [coversOf] using this
theorem iter_or (p : Nat → Bool) : ∀ (d i : Nat) (b : Bool), iter (fun j b => b || p j) i d b = (b || (List.range' i d).any p)
 | 0, i, b => by simp [iter]
 | d + 1, i, b => by
  simp only [iter]
  rw [iter_or p d (i + 1)]
  simp [List.range'_succ, Bool.or_assoc]
theorem iter_or_any (p : Nat → Bool) (n : Nat) : iter (fun j b => b || p j) 0 n false = (List.range n).any p := by
 rw [iter_or, Bool.false_or, List.range_eq_range']
theorem iter_and (p : Nat → Bool) : ∀ (d i : Nat) (b : Bool), iter (fun j b => b && p j) i d b = (b && (List.range' i d).all p)
 | 0, i, b => by simp [iter]
 | d + 1, i, b => by
  simp only [iter]
  rw [iter_and p d (i + 1)]
  simp [List.range'_succ, Bool.and_assoc]
theorem iter_and_all (p : Nat → Bool) (n : Nat) : iter (fun j b => b && p j) 0 n true = (List.range n).all p := by
 rw [iter_and, Bool.true_and, List.range_eq_range']
def pick (p : Nat → Bool) (n : Nat) : List Int := iter (fun x s => if p x = true then s ++ [(x : Int)] else s) 0 n []
theorem pick_step_le (p : Nat → Bool) (n i : Nat) (s : List Int) : (iter (fun x s => if p x = true then s ++ [(x : Int)] else s) i n s).length ≤ s.length + n := by
 have := iter_inv (fun x s => if p x = true then s ++ [(x : Int)] else s) (fun j (t : List Int) => t.length + i ≤ s.length + j) n i s (by omega) (fun j t _ _ h => by
  split
  ·simp only [List.length_append, List.length_singleton]; omega
  ·omega)
 omega
theorem pick_le (p : Nat → Bool) (n : Nat) : (pick p n).length ≤ n := by
 have := pick_step_le p n 0 []
 simpa [pick] using this
end Go.Proofs.Ytmnplhkimpeocaa.B

set_option linter.unusedVariables false
set_option linter.unusedSimpArgs false
namespace Go.Proofs.Ytmnplhkimpeocaa.B
open Go.RowKit Go.Proofs.YtmnplhkimpeocaaW.PrintWords

def Pairs (n : Nat) (pairs : List (List Int)) : Prop := ∀ p ∈ pairs, p.length = 2 ∧ 0 ≤ p.getD 0 0 ∧ p.getD 0 0 < n ∧ 0 ≤ p.getD 1 0 ∧ p.getD 1 0 < n
section
variable {n : Nat} {pairs : List (List Int)}
theorem belowOf_cells (hn : n ≤ 12) (x a : Nat) (hx : x < n) (ha : a < n) (m : Nat) (hm : m = n) (R : Nat → Nat → Bool) : Le (fun k => z30.l3 k (tab n (wRow n x a R)) (x : Int) (n : Int) (x : Int) (n : Int) ((a + 1 : Nat) : Int)) (fun k => z30.l4 k (tab n R) (x : Int) (a : Int) (n : Int) (x : Int) (n : Int) (a : Int) (n : Int) ((0 : Nat) : Int)) := by
 have h := le_iter (fun (R : Nat → Nat → Bool) (c : Nat) k => z30.l4 k (tab n R) (x : Int) (a : Int) (n : Int) (x : Int) (n : Int) (a : Int) (n : Int) (c : Int)) (wCell x a) n 0 R (fun c R _ hc r hr => by
  have hc : c < n := by omega
  refine Ev.step (fun k => z30.l4.eq_2 ..) ?_
  simp only [tab_length, tab_get ha, tab_get hx, row_length, row_get hc, row_get hx, Int.toNat_natCast, wrap_succ (show c < 9223372036854775807 by omega)]
  (repeat (first | refine ev_pos (by omega) ?_ | refine ev_neg (by omega) ?_))
  have hs := fun v => tab_set (n := n) (R := R) (a := a) (c := c) v
  simp only [hs]
  by_cases h1 : R a c = true
  ·refine ev_pos h1 ?_
   have : wCell x a c R = upd R a c true := by simp [wCell, h1]
   rw [this] at hr; exact hr
  ·refine ev_neg h1 ?_
   (repeat (first | refine ev_pos (by omega) ?_ | refine ev_neg (by omega) ?_))
   by_cases h2 : R a x = true
   ·refine ev_pos h2 ?_
    (repeat (first | refine ev_pos (by omega) ?_ | refine ev_neg (by omega) ?_))
    have : wCell x a c R = upd R a c (R x c) := by simp [wCell, h1, h2]
    rw [this] at hr; exact hr
   ·refine ev_neg h2 ?_
    have : wCell x a c R = upd R a c false := by simp [wCell, h1, h2]
    rw [this] at hr; exact hr)
 refine Le.trans (fun r hr => ?_) h
 rw [Nat.zero_add]
 refine Ev.step (fun k => z30.l4.eq_2 ..) ?_
 rw [wrap_succ (show a < 9223372036854775807 by omega)]
 exact ev_neg (by omega) hr
theorem belowOf_round (hn : n ≤ 12) (x : Nat) (hx : x < n) (R : Nat → Nat → Bool) : Le (fun k => z30.l2 k (tab n (wRound n x R)) (n : Int) ((x + 1 : Nat) : Int)) (fun k => z30.l3 k (tab n R) (x : Int) (n : Int) (x : Int) (n : Int) ((0 : Nat) : Int)) := by
 have h := le_iter (fun (R : Nat → Nat → Bool) (a : Nat) k => z30.l3 k (tab n R) (x : Int) (n : Int) (x : Int) (n : Int) (a : Int)) (wRow n x) n 0 R (fun a R _ ha r hr => by
  have ha : a < n := by omega
  refine Ev.step (fun k => z30.l3.eq_2 ..) ?_
  (repeat (first | refine ev_pos (by omega) ?_ | refine ev_neg (by omega) ?_))
  rw [tab_length]
  exact belowOf_cells hn x a hx ha n rfl R r hr)
 refine Le.trans (fun r hr => ?_) h
 rw [Nat.zero_add]
 refine Ev.step (fun k => z30.l3.eq_2 ..) ?_
 rw [wrap_succ (show x < 9223372036854775807 by omega)]
 exact ev_neg (by omega) hr
theorem belowOf_loop (hn : n ≤ 12) (R : Nat → Nat → Bool) : Ev (fun k => z30.l2 k (tab n R) (n : Int) ((0 : Nat) : Int)) (tab n (warshall n R)) := by
 have h := le_iter (fun (R : Nat → Nat → Bool) (x : Nat) k => z30.l2 k (tab n R) (n : Int) (x : Int)) (wRound n) n 0 R (fun x R _ hx r hr => by
  have hx : x < n := by omega
  refine Ev.step (fun k => z30.l2.eq_2 ..) ?_
  (repeat (first | refine ev_pos (by omega) ?_ | refine ev_neg (by omega) ?_))
  rw [tab_length]
  exact belowOf_round hn x hx R r hr)
 refine h _ ?_
 rw [Nat.zero_add]
 refine Ev.step (fun k => z30.l2.eq_2 ..) ?_
 exact ev_neg (by omega) (Ev.now _)
theorem belowOf_pairs (hn : n ≤ 12) (hp : Pairs n pairs) (hl : pairs.length < 9223372036854775807) (R : Nat → Nat → Bool) : Ev (fun k => z30.l1 k (tab n R) pairs (pairs.length : Int) ((0 : Nat) : Int)) (tab n (warshall n (pairsRel pairs R))) := by
 have h := le_iter (fun (R : Nat → Nat → Bool) (i : Nat) k => z30.l1 k (tab n R) pairs (pairs.length : Int) (i : Int)) (fun i R => upd R ((pairs.getD i []).getD 0 0).toNat ((pairs.getD i []).getD 1 0).toNat true) pairs.length 0 R (fun i R _ hi r hr => by
  have hi : i < pairs.length := by omega
  obtain ⟨h2, h3, h4, h5, h6⟩ := hp _ (getD_mem [] hi)
  obtain ⟨u, hu⟩ := Int.eq_ofNat_of_zero_le h3
  obtain ⟨v, hv⟩ := Int.eq_ofNat_of_zero_le h5
  have hu' : u < n := by omega
  have hv' : v < n := by omega
  have e0 : rd (rd_ListInt pairs (i : Int)) 0 = (u : Int) := by rw [rdl_nat, show (0 : Int) = ((0 : Nat) : Int) from rfl, rd_nat]; exact hu
  have e1 : rd (rd_ListInt pairs (i : Int)) 1 = (v : Int) := by rw [rdl_nat, show (1 : Int) = ((1 : Nat) : Int) from rfl, rd_nat]; exact hv
  have e2 : ((rd_ListInt pairs (i : Int)).length : Int) = 2 := by rw [rdl_nat, h2]; rfl
  have et : ((pairs.getD i []).getD 0 0).toNat = u := by rw [hu]; exact Int.toNat_natCast u
  have ev : ((pairs.getD i []).getD 1 0).toNat = v := by rw [hv]; exact Int.toNat_natCast v
  rw [et, ev] at hr
  refine Ev.step (fun k => z30.l1.eq_2 ..) ?_
  simp only [e0, e1, e2, tab_length, tab_get hu', row_length, Int.toNat_natCast, wrap_succ (show i < 9223372036854775807 by omega), tab_set]
  (repeat (first | refine ev_pos (by omega) ?_ | refine ev_neg (by omega) ?_))
  exact hr)
 refine h _ ?_
 rw [Nat.zero_add]
 refine Ev.step (fun k => z30.l1.eq_2 ..) ?_
 refine ev_neg (by omega) ?_
 rw [tab_length]
 exact belowOf_loop hn _
theorem tab_diag_rows (n : Nat) : (List.range n).map (fun a => row n (diag a)) = tab n diag := rfl
theorem belowOf_ev (hn : n ≤ 12) (hp : Pairs n pairs) (hl : pairs.length < 9223372036854775807) : Ev (fun k => z30.f k (n : Int) pairs) (tab n (orderOf n pairs)) := by
 have h := le_iter_inv (fun (s : List (List Bool)) (i : Nat) k => z30.l0 k (n : Int) pairs s (n : Int) (i : Int)) (fun i s => s.set i (row n (diag i))) (fun i s => s = (tab n diag).take i ++ List.replicate (n - i) []) n 0 (List.replicate n []) (by simp) (by
  intro i s _ hi hs
  have hi : i < n := by omega
  have hlen : s.length = n := by subst hs; simp only [List.length_append, List.length_take, List.length_replicate, tab_length]; omega
  have hrep : List.replicate n false = row n (fun _ => false) := by simp [row, List.map_const']
  have hsl : (s.set i (List.replicate n false)).length = n := by rw [List.length_set]; exact hlen
  have hrd : rd_ListBool (s.set i (List.replicate n false)) (i : Int) = List.replicate n false := by
   simp [rd_ListBool, List.getElem?_set_self (show i < s.length by omega)]
  have hrow : (List.replicate n false).set i true = row n (diag i) := by
   rw [hrep, row_set]
   congr 1
   funext c
   simp only [diag]
   by_cases e : c = i
   ·simp [e]
   ·simp [e, Ne.symm e]
  refine ⟨fun r hr => ?_, ?_⟩
  ·refine Ev.step (fun k => z30.l0.eq_2 ..) ?_
   simp only [Int.toNat_natCast, hlen, hsl, hrd, List.length_replicate, hrow, List.set_set, Option.bind_some, wrap_succ (show i < 9223372036854775807 by omega)]
   (repeat (first | refine ev_pos (by omega) ?_ | refine ev_neg (by omega) ?_))
   exact hr
  ·subst hs
   have := set_prefix (tab n diag) i [] (by rw [tab_length]; exact hi) (row n (diag i)) (by rw [List.getD_eq_getElem?_getD]; simp [tab, List.getElem?_range hi])
   rw [tab_length] at this
   exact this)
 unfold z30.f
 simp only [Int.toNat_natCast, Option.bind_some, List.length_replicate]
 (repeat (first | refine ev_pos (by omega) ?_ | refine ev_neg (by omega) ?_))
 refine h.1 _ ?_
 rw [Nat.zero_add, h.2, show (List.take (0 + n) (tab n diag) ++ List.replicate (n - (0 + n)) ([] : List Bool)) = tab n diag by rw [Nat.zero_add, Nat.sub_self, List.replicate_zero, List.append_nil, List.take_of_length_le (by rw [tab_length]; exact Nat.le_refl _)]]
 refine Ev.step (fun k => z30.l0.eq_2 ..) ?_
 refine ev_neg (by omega) ?_
 exact belowOf_pairs hn hp hl diag
end
end Go.Proofs.Ytmnplhkimpeocaa.B

set_option linter.unusedVariables false
set_option linter.unusedSimpArgs false
namespace Go.Proofs.Ytmnplhkimpeocaa.B
open Go.RowKit Go.Proofs.YtmnplhkimpeocaaW.PrintWords

section
variable {n : Nat} {pairs : List (List Int)} {R : Nat → Nat → Bool}
theorem isOrder_ev (hn : n ≤ 12) : Ev (fun k => z31.f k (tab n R)) (isOrd n R) := by
 unfold z31.f isOrd
 rw [tab_length]
 refine ev_all (fun x k => z31.l0 k (tab n R) (n : Int) (x : Int)) _ n (fun x hx hp r hr => ?_) (fun x hx hp => ?_) ?_
 ·refine Ev.step (fun k => z31.l0.eq_2 ..) ?_
  (first | refine ev_pos (by omega) ?_ | refine ev_neg (by omega) ?_)
  have hp := List.all_eq_true.1 hp
  refine ev_find (fun y k => z31.l1 k (tab n R) (x : Int) (n : Int) (x : Int) (x : Int) (y : Int)) (fun _ => false) x 0 (fun y _ hy _ r hr => ?_) (fun _ _ _ h => by cases h) (fun _ => ?_)
  ·have hy : y < x := by omega
   have hyn : y < n := by omega
   have hq := hp y (List.mem_range.2 hy)
   refine Ev.step (fun k => z31.l1.eq_2 ..) ?_
   simp only [tab_length, tab_get hx, tab_get hyn, row_length, row_get hx, row_get hyn, wrap_succ (show y < 9223372036854775807 by omega)]
   (repeat (first | refine ev_pos (by omega) ?_ | refine ev_neg (by omega) ?_))
   by_cases h1 : R x y = true
   ·refine ev_pos h1 ?_
    (repeat (first | refine ev_pos (by omega) ?_ | refine ev_neg (by omega) ?_))
    have h2 : R y x = false := by rw [h1] at hq; simpa using hq
    exact ev_neg (by rw [h2]; decide) hr
   ·exact ev_neg h1 hr
  ·rw [Nat.zero_add]
   refine Ev.step (fun k => z31.l1.eq_2 ..) ?_
   rw [wrap_succ (show x < 9223372036854775807 by omega)]
   exact ev_neg (by omega) hr
 ·refine Ev.step (fun k => z31.l0.eq_2 ..) ?_
  (first | refine ev_pos (by omega) ?_ | refine ev_neg (by omega) ?_)
  refine ev_find (fun y k => z31.l1 k (tab n R) (x : Int) (n : Int) (x : Int) (x : Int) (y : Int)) (fun y => R x y && R y x) x 0 (fun y _ hy hpy r hr => ?_) (fun y _ hy hpy _ => ?_) (fun h => ?_)
  ·have hy : y < x := by omega
   have hyn : y < n := by omega
   refine Ev.step (fun k => z31.l1.eq_2 ..) ?_
   simp only [tab_length, tab_get hx, tab_get hyn, row_length, row_get hx, row_get hyn, wrap_succ (show y < 9223372036854775807 by omega)]
   (repeat (first | refine ev_pos (by omega) ?_ | refine ev_neg (by omega) ?_))
   by_cases h1 : R x y = true
   ·refine ev_pos h1 ?_
    (repeat (first | refine ev_pos (by omega) ?_ | refine ev_neg (by omega) ?_))
    have h2 : R y x = false := by rw [h1] at hpy; simpa using hpy
    exact ev_neg (by rw [h2]; decide) hr
   ·exact ev_neg h1 hr
  ·have hy : y < x := by omega
   have hyn : y < n := by omega
   obtain ⟨h1, h2⟩ := (Bool.and_eq_true _ _).mp hpy
   refine Ev.step (fun k => z31.l1.eq_2 ..) ?_
   simp only [tab_length, tab_get hx, tab_get hyn, row_length, row_get hx, row_get hyn]
   (repeat (first | refine ev_pos (by omega) ?_ | refine ev_neg (by omega) ?_))
   exact Ev.now _
  ·exfalso
   have : ((List.range x).all fun y => !(R x y && R y x)) = true := List.all_eq_true.2 (fun y hy => by rw [h y (Nat.zero_le _) (by have := List.mem_range.1 hy; omega)]; rfl)
   rw [hp] at this; cases this
 ·refine Ev.step (fun k => z31.l0.eq_2 ..) ?_
  exact ev_neg (by omega) (Ev.now _)

theorem between_iter (x y : Nat) : iter (fun z b => b || (!(z == x) && (!(z == y) && (R x z && R z y)))) 0 n false = between n R x y := iter_or_any _ n

theorem implCovers_ev (hn : n ≤ 12) : Ev (fun k => z33.f k (tab n R)) (coversOf n R) := by
 unfold z33.f
 rw [tab_length]
 have hlen : ∀ x s, (coverRow n R x s).length ≤ s.length + n := fun x s => by
  have := iter_inv (fun y s => if covers n R x y then s ++ [[(x : Int), (y : Int)]] else s) (fun i (t : List (List Int)) => t.length ≤ s.length + i) n 0 s (by omega) (fun j t _ _ h => by
   split
   ·simp only [List.length_append, List.length_singleton]; omega
   ·omega)
  simpa [coverRow] using this
 have h := le_iter_inv (fun (s : List (List Int)) (x : Nat) k => z33.l0 k (tab n R) s (n : Int) (x : Int)) (coverRow n R) (fun x s => s.length ≤ x * n) n 0 [] (by simp) (fun x s _ hx hs => ⟨fun r hr => ?_, by have := hlen x s; rw [Nat.add_mul, Nat.one_mul]; omega⟩)
 ·refine h.1 _ ?_
  rw [Nat.zero_add]
  refine Ev.step (fun k => z33.l0.eq_2 ..) ?_
  exact ev_neg (by omega) (Ev.now _)
 ·have hx : x < n := by omega
  have hxn : x * n ≤ 12 * 12 := Nat.mul_le_mul (by omega) hn
  refine Ev.step (fun k => z33.l0.eq_2 ..) ?_
  (first | refine ev_pos (by omega) ?_ | refine ev_neg (by omega) ?_)
  rw [tab_length]
  have g := le_iter_inv (fun (s : List (List Int)) (y : Nat) k => z33.l1 k (tab n R) s (x : Int) (n : Int) (x : Int) (n : Int) (y : Int)) (fun y s => if covers n R x y then s ++ [[(x : Int), (y : Int)]] else s) (fun y t => t.length ≤ s.length + y) n 0 s (by omega) (fun y t _ hy ht => ⟨fun r hr => ?_, by
   split
   ·simp only [List.length_append, List.length_singleton]; omega
   ·omega⟩)
  ·refine g.1 _ ?_
   rw [Nat.zero_add]
   refine Ev.step (fun k => z33.l1.eq_2 ..) ?_
   rw [wrap_succ (show x < 9223372036854775807 by omega)]
   exact ev_neg (by omega) hr
  ·have hy : y < n := by omega
   refine Ev.step (fun k => z33.l1.eq_2 ..) ?_
   (first | refine ev_pos (by omega) ?_ | refine ev_neg (by omega) ?_)
   rw [tab_length]
   have e := le_iter (fun (b : Bool) (z : Nat) k => z33.l2 k (tab n R) t (x : Int) (y : Int) b (n : Int) (x : Int) (n : Int) (y : Int) (n : Int) (z : Int)) (fun z b => b || (!(z == x) && (!(z == y) && (R x z && R z y)))) n 0 false (fun z b _ hz r hr => ?_)
   ·refine e _ ?_
    rw [between_iter, Nat.zero_add]
    refine Ev.step (fun k => z33.l2.eq_2 ..) ?_
    simp only [tab_length, tab_get hx, row_length, row_get hy, wrap_succ (show y < 9223372036854775807 by omega)]
    (first | refine ev_pos (by omega) ?_ | refine ev_neg (by omega) ?_)
    by_cases hxy : x = y
    ·have hc : covers n R x y = false := by simp [covers, hxy]
     rw [hc] at hr
     exact ev_pos (by omega) hr
    ·(repeat (first | refine ev_pos (by omega) ?_ | refine ev_neg (by omega) ?_))
     by_cases h1 : R x y = true
     ·refine ev_pos h1 ?_
      cases hb : between n R x y with
      | true =>
       have hc : covers n R x y = false := by simp [covers, hb]
       rw [hc] at hr
       exact ev_pos rfl hr
      | false =>
       have hc : covers n R x y = true := by simp [covers, hb, h1, hxy]
       rw [hc] at hr
       exact ev_neg (by decide) (ev_pos (by omega) hr)
     ·have hc : covers n R x y = false := by simp [covers, h1]
      rw [hc] at hr
      exact ev_neg h1 hr
   ·have hz : z < n := by omega
    refine Ev.step (fun k => z33.l2.eq_2 ..) ?_
    simp only [tab_length, tab_get hx, tab_get hz, row_length, row_get hz, row_get hy, wrap_succ (show z < 9223372036854775807 by omega)]
    (first | refine ev_pos (by omega) ?_ | refine ev_neg (by omega) ?_)
    cases b with
    | true => exact ev_pos rfl (by simpa using hr)
    | false =>
     refine ev_neg (by decide) ?_
     by_cases hzx : z = x
     ·have : (z == x) = true := by simpa using hzx
      rw [this] at hr
      exact ev_pos (by omega) (by simpa using hr)
     ·have h0 : (z == x) = false := by simpa using hzx
      rw [h0] at hr
      refine ev_neg (by omega) ?_
      by_cases hzy : z = y
      ·have : (z == y) = true := by simpa using hzy
       rw [this] at hr
       exact ev_pos (by omega) (by simpa using hr)
      ·have h0 : (z == y) = false := by simpa using hzy
       rw [h0] at hr
       refine ev_neg (by omega) ?_
       (repeat (first | refine ev_pos (by omega) ?_ | refine ev_neg (by omega) ?_))
       by_cases h1 : R x z = true
       ·rw [h1] at hr
        refine ev_pos h1 ?_
        (repeat (first | refine ev_pos (by omega) ?_ | refine ev_neg (by omega) ?_))
        simpa using hr
       ·have h1' : R x z = false := by simpa using h1
        rw [h1'] at hr
        exact ev_neg h1 (by simpa using hr)
end
end Go.Proofs.Ytmnplhkimpeocaa.B

set_option linter.unusedVariables false
set_option linter.unusedSimpArgs false
namespace Go.Proofs.Ytmnplhkimpeocaa.B
open Go.RowKit Go.Proofs.YtmnplhkimpeocaaW.PrintWords

section
variable {n : Nat} {pairs : List (List Int)} {R : Nat → Nat → Bool}
theorem table_cells (hn : n ≤ 12) (x a : Nat) (hx : x < n) (ha : a < n) (R : Nat → Nat → Bool) : Le (fun k => z25.l3 k (n : Int) (tab n (wRow n x a R)) (x : Int) ((a + 1 : Nat) : Int)) (fun k => z25.l4 k (n : Int) (tab n R) (x : Int) (a : Int) ((0 : Nat) : Int)) := by
 have h := le_iter (fun (R : Nat → Nat → Bool) (c : Nat) k => z25.l4 k (n : Int) (tab n R) (x : Int) (a : Int) (c : Int)) (wCell x a) n 0 R (fun c R _ hc r hr => by
  have hc : c < n := by omega
  refine Ev.step (fun k => z25.l4.eq_2 ..) ?_
  have hs := fun v => tab_set (n := n) (R := R) (a := a) (c := c) v
  simp only [tab_length, tab_get ha, tab_get hx, row_length, row_get hc, row_get hx, Int.toNat_natCast, wrap_succ (show c < 9223372036854775807 by omega), hs]
  refine ev_pos (by omega) (ev_pos (by omega) (ev_pos (by omega) (ev_pos (by omega) (ev_pos (by omega) ?_))))
  cases h2 : R a x with
  | false =>
   have : wCell x a c R = R := by
    have : wCell x a c R = upd R a c (R a c) := by simp [wCell, h2]
    rw [this]; exact upd_self _ _ _ _ rfl
   rw [this] at hr
   exact ev_neg (by decide) hr
  | true =>
   refine ev_pos rfl (ev_pos (by omega) (ev_pos (by omega) (ev_pos (by omega) ?_)))
   cases h3 : R x c with
   | false =>
    have : wCell x a c R = R := by
     have : wCell x a c R = upd R a c (R a c) := by simp [wCell, h3]
     rw [this]; exact upd_self _ _ _ _ rfl
    rw [this] at hr
    exact ev_neg (by decide) hr
   | true =>
    have : wCell x a c R = upd R a c true := by simp [wCell, h2, h3]
    rw [this] at hr
    exact ev_pos rfl (ev_pos (by omega) hr))
 refine Le.trans (fun r hr => ?_) h
 rw [Nat.zero_add]
 refine Ev.step (fun k => z25.l4.eq_2 ..) ?_
 rw [wrap_succ (show a < 9223372036854775807 by omega)]
 exact ev_neg (by omega) hr
theorem table_round (hn : n ≤ 12) (x : Nat) (hx : x < n) (R : Nat → Nat → Bool) : Le (fun k => z25.l2 k (n : Int) (tab n (wRound n x R)) ((x + 1 : Nat) : Int)) (fun k => z25.l3 k (n : Int) (tab n R) (x : Int) ((0 : Nat) : Int)) := by
 have h := le_iter (fun (R : Nat → Nat → Bool) (a : Nat) k => z25.l3 k (n : Int) (tab n R) (x : Int) (a : Int)) (wRow n x) n 0 R (fun a R _ ha r hr => by
  have ha : a < n := by omega
  refine Ev.step (fun k => z25.l3.eq_2 ..) ?_
  (first | refine ev_pos (by omega) ?_ | refine ev_neg (by omega) ?_)
  exact table_cells hn x a hx ha R r hr)
 refine Le.trans (fun r hr => ?_) h
 rw [Nat.zero_add]
 refine Ev.step (fun k => z25.l3.eq_2 ..) ?_
 rw [wrap_succ (show x < 9223372036854775807 by omega)]
 exact ev_neg (by omega) hr
theorem table_loop (hn : n ≤ 12) (R : Nat → Nat → Bool) : Ev (fun k => z25.l2 k (n : Int) (tab n R) ((0 : Nat) : Int)) (tab n (warshall n R)) := by
 have h := le_iter (fun (R : Nat → Nat → Bool) (x : Nat) k => z25.l2 k (n : Int) (tab n R) (x : Int)) (wRound n) n 0 R (fun x R _ hx r hr => by
  have hx : x < n := by omega
  refine Ev.step (fun k => z25.l2.eq_2 ..) ?_
  (first | refine ev_pos (by omega) ?_ | refine ev_neg (by omega) ?_)
  exact table_round hn x hx R r hr)
 refine h _ ?_
 rw [Nat.zero_add]
 refine Ev.step (fun k => z25.l2.eq_2 ..) ?_
 exact ev_neg (by omega) (Ev.now _)
theorem table_pairs (hn : n ≤ 12) (hp : Pairs n pairs) (hl : pairs.length < 9223372036854775807) (R : Nat → Nat → Bool) : Ev (fun k => z25.l1 k (n : Int) pairs (tab n R) ((0 : Nat) : Int)) (tab n (warshall n (pairsRel pairs R))) := by
 have h := le_iter (fun (R : Nat → Nat → Bool) (i : Nat) k => z25.l1 k (n : Int) pairs (tab n R) (i : Int)) (fun i R => upd R ((pairs.getD i []).getD 0 0).toNat ((pairs.getD i []).getD 1 0).toNat true) pairs.length 0 R (fun i R _ hi r hr => by
  have hi : i < pairs.length := by omega
  obtain ⟨h2, h3, h4, h5, h6⟩ := hp _ (getD_mem [] hi)
  obtain ⟨u, hu⟩ := Int.eq_ofNat_of_zero_le h3
  obtain ⟨v, hv⟩ := Int.eq_ofNat_of_zero_le h5
  have hu' : u < n := by omega
  have hv' : v < n := by omega
  have e0 : rd (rd_ListInt pairs (i : Int)) 0 = (u : Int) := by rw [rdl_nat, show (0 : Int) = ((0 : Nat) : Int) from rfl, rd_nat]; exact hu
  have e1 : rd (rd_ListInt pairs (i : Int)) 1 = (v : Int) := by rw [rdl_nat, show (1 : Int) = ((1 : Nat) : Int) from rfl, rd_nat]; exact hv
  have e2 : ((rd_ListInt pairs (i : Int)).length : Int) = 2 := by rw [rdl_nat, h2]; rfl
  have et : ((pairs.getD i []).getD 0 0).toNat = u := by rw [hu]; exact Int.toNat_natCast u
  have ev : ((pairs.getD i []).getD 1 0).toNat = v := by rw [hv]; exact Int.toNat_natCast v
  rw [et, ev] at hr
  refine Ev.step (fun k => z25.l1.eq_2 ..) ?_
  simp only [e0, e1, e2, tab_length, tab_get hu', row_length, Int.toNat_natCast, wrap_succ (show i < 9223372036854775807 by omega), tab_set]
  (repeat (first | refine ev_pos (by omega) ?_ | refine ev_neg (by omega) ?_))
  exact hr)
 refine h _ ?_
 rw [Nat.zero_add]
 refine Ev.step (fun k => z25.l1.eq_2 ..) ?_
 exact ev_neg (by omega) (table_loop hn _)
theorem table_ev (hn : n ≤ 12) (hp : Pairs n pairs) (hl : pairs.length < 9223372036854775807) : Ev (fun k => z25.f k (n : Int) pairs) (tab n (orderOf n pairs)) := by
 have h := le_iter_inv (fun (s : List (List Bool)) (i : Nat) k => z25.l0 k (n : Int) pairs s (i : Int)) (fun i s => s ++ [row n (diag i)]) (fun i s => s = (tab n diag).take i) n 0 [] (by simp) (by
  intro i s _ hi hs
  have hi : i < n := by omega
  have hlen : s.length = i := by subst hs; simp only [List.length_take, tab_length]; omega
  have hrep : List.replicate n false = row n (fun _ => false) := by simp [row, List.map_const']
  have hrow : (List.replicate n false).set i true = row n (diag i) := by
   rw [hrep, row_set]
   congr 1
   funext c
   simp only [diag]
   by_cases e : c = i
   ·simp [e]
   ·simp [e, Ne.symm e]
  refine ⟨fun r hr => ?_, ?_⟩
  ·refine Ev.step (fun k => z25.l0.eq_2 ..) ?_
   simp only [Int.toNat_natCast, hlen, List.length_replicate, hrow, Option.bind_some, wrap_succ (show i < 9223372036854775807 by omega)]
   (repeat (first | refine ev_pos (by omega) ?_ | refine ev_neg (by omega) ?_))
   exact hr
  ·subst hs
   rw [List.take_succ_eq_append_getElem (by rw [tab_length]; exact hi)]
   simp [tab])
 unfold z25.f
 refine h.1 _ ?_
 rw [Nat.zero_add, h.2, Nat.zero_add, List.take_of_length_le (by rw [tab_length]; exact Nat.le_refl _)]
 refine Ev.step (fun k => z25.l0.eq_2 ..) ?_
 exact ev_neg (by omega) (table_pairs hn hp hl diag)

theorem isOrd_iff : isOrd n R = true ↔ ∀ x y, x < n → y < n → x ≠ y → R x y = true → R y x = false := by
 unfold isOrd
 rw [List.all_eq_true]
 constructor
 ·intro h x y hx hy hne hxy
  rcases Nat.lt_or_gt_of_ne hne with hlt | hlt
  ·have := List.all_eq_true.1 (h y (List.mem_range.2 hy)) x (List.mem_range.2 hlt)
   rw [hxy, Bool.and_true] at this
   simpa using this
  ·have := List.all_eq_true.1 (h x (List.mem_range.2 hx)) y (List.mem_range.2 hlt)
   rw [hxy, Bool.true_and] at this
   simpa using this
 ·intro h x hx
  have hx := List.mem_range.1 hx
  refine List.all_eq_true.2 (fun y hy => ?_)
  have hy := List.mem_range.1 hy
  cases hxy : R x y with
  | false => rfl
  | true => rw [h x y hx (by omega) (by omega) hxy]; rfl

theorem specBetween (hn : n ≤ 12) {x y : Nat} (hx : x < n) (hy : y < n) (s : List (List Int)) {r : List (List Int) × Bool} (hs : s.length < 5864062014805)
  (h : Ev (fun k => z24.l1 k (tab n R) (if between n R x y = true then s else s ++ [[(x : Int), (y : Int)]]) (x : Int) ((y + 1 : Nat) : Int)) r) : Ev (fun k => z24.l2 k (tab n R) s (x : Int) (y : Int) false ((0 : Nat) : Int)) r := by
 have e := le_iter (fun (b : Bool) (z : Nat) k => z24.l2 k (tab n R) s (x : Int) (y : Int) b (z : Int)) (fun z b => b || (!(z == x) && (!(z == y) && (R x z && R z y)))) n 0 false (fun z b _ hz r hr => ?_)
 ·refine e _ ?_
  rw [between_iter, Nat.zero_add]
  refine Ev.step (fun k => z24.l2.eq_2 ..) ?_
  simp only [tab_length, wrap_succ (show y < 9223372036854775807 by omega)]
  (first | refine ev_pos (by omega) ?_ | refine ev_neg (by omega) ?_)
  cases hb : between n R x y with
  | true => rw [hb] at h; exact ev_pos rfl h
  | false => rw [hb] at h; exact ev_neg (by decide) (ev_pos (by omega) h)
 ·have hz : z < n := by omega
  refine Ev.step (fun k => z24.l2.eq_2 ..) ?_
  simp only [tab_length, tab_get hx, tab_get hz, row_length, row_get hz, row_get hy, wrap_succ (show z < 9223372036854775807 by omega)]
  (first | refine ev_pos (by omega) ?_ | refine ev_neg (by omega) ?_)
  cases b with
  | true => exact ev_pos rfl (by simpa using hr)
  | false =>
   refine ev_neg (by decide) ?_
   by_cases hzx : z = x
   ·have : (z == x) = true := by simpa using hzx
    rw [this] at hr
    exact ev_pos (by omega) (by simpa using hr)
   ·have h0 : (z == x) = false := by simpa using hzx
    rw [h0] at hr
    refine ev_neg (by omega) ?_
    by_cases hzy : z = y
    ·have : (z == y) = true := by simpa using hzy
     rw [this] at hr
     exact ev_pos (by omega) (by simpa using hr)
    ·have h0 : (z == y) = false := by simpa using hzy
     rw [h0] at hr
     refine ev_neg (by omega) (ev_pos (by omega) (ev_pos (by omega) (ev_pos (by omega) (ev_pos (by omega) ?_))))
     cases h1 : R x z with
     | true =>
      rw [h1] at hr
      refine ev_pos rfl (ev_pos (by omega) (ev_pos (by omega) ?_))
      simpa using hr
     | false =>
      rw [h1] at hr
      exact ev_neg (by decide) (by simpa using hr)
theorem specCell (hn : n ≤ 12) {x y : Nat} (hx : x < n) (hy : y < n) (s : List (List Int)) {r : List (List Int) × Bool} (hs : s.length < 5864062014805) (ho : x ≠ y → R x y = true → R y x = false)
  (h : Ev (fun k => z24.l1 k (tab n R) (if covers n R x y = true then s ++ [[(x : Int), (y : Int)]] else s) (x : Int) ((y + 1 : Nat) : Int)) r) : Ev (fun k => z24.l1 k (tab n R) s (x : Int) (y : Int)) r := by
 refine Ev.step (fun k => z24.l1.eq_2 ..) ?_
 simp only [tab_length, tab_get hx, row_length, row_get hy]
 (first | refine ev_pos (by omega) ?_ | refine ev_neg (by omega) ?_)
 have skip : covers n R x y = false → Ev (fun k => z24.j2 k (tab n R) s (x : Int) (y : Int) true) r := fun hc => by
  rw [hc] at h
  refine Ev.step (fun k => z24.j2.eq_2 ..) ?_
  rw [wrap_succ (show y < 9223372036854775807 by omega)]
  exact ev_pos rfl h
 by_cases hxy : x = y
 ·exact ev_pos (by omega) (skip (by simp [covers, hxy]))
 ·refine ev_neg (by omega) (ev_pos (by omega) (ev_pos (by omega) (ev_pos (by omega) (ev_pos (by omega) ?_))))
  cases h1 : R x y with
  | false => exact skip (by simp [covers, h1])
  | true =>
   have h2 := ho hxy h1
   refine Ev.step (fun k => z24.j2.eq_2 ..) ?_
   simp only [tab_length, tab_get hy, row_length, row_get hx, h2]
   refine ev_neg (by decide) (ev_pos (by omega) (ev_pos (by omega) (ev_pos (by omega) (ev_pos (by omega) (ev_neg (by decide) ?_)))))
   refine specBetween hn hx hy s hs ?_
   cases hb : between n R x y with
   | true =>
    have hc : covers n R x y = false := by simp [covers, hb]
    rw [hc] at h; exact h
   | false =>
    have hc : covers n R x y = true := by simp [covers, hb, h1, hxy]
    rw [hc] at h; exact h
theorem coverRow_le (x : Nat) (s : List (List Int)) : (coverRow n R x s).length ≤ s.length + n := by
 have := iter_inv (fun y s => if covers n R x y then s ++ [[(x : Int), (y : Int)]] else s) (fun i (t : List (List Int)) => t.length ≤ s.length + i) n 0 s (by omega) (fun j t _ _ h => by
  split
  ·simp only [List.length_append, List.length_singleton]; omega
  ·omega)
 simpa [coverRow] using this
theorem specCovers_ev (hn : n ≤ 12) : Ev (fun k => z24.f k (tab n R)) (if isOrd n R = true then (coversOf n R, true) else ([], false)) := by
 unfold z24.f
 have hrow : ∀ (x : Nat) (s : List (List Int)) (d y : Nat), x < n → y + d ≤ n → (∀ z, z < y + d → x ≠ z → R x z = true → R z x = false) → s.length ≤ 1000 → ∀ r, Ev (fun k => z24.l1 k (tab n R) (iter (fun y s => if covers n R x y then s ++ [[(x : Int), (y : Int)]] else s) y d s) (x : Int) ((y + d : Nat) : Int)) r → Ev (fun k => z24.l1 k (tab n R) s (x : Int) (y : Int)) r := fun x s d y hx hd ho hs r hr => by
  have g := le_iter_inv (fun (s : List (List Int)) (y : Nat) k => z24.l1 k (tab n R) s (x : Int) (y : Int)) (fun y s => if covers n R x y then s ++ [[(x : Int), (y : Int)]] else s) (fun i t => t.length + y ≤ s.length + i) d y s (by omega) (fun i t hi1 hi2 ht => ⟨fun r hr => specCell hn hx (by omega) t (by omega) (ho i (by omega)) hr, by
   split
   ·simp only [List.length_append, List.length_singleton]; omega
   ·omega⟩)
  exact g.1 r hr
 by_cases hO : isOrd n R = true
 ·rw [if_pos hO]
  have hO := isOrd_iff.1 hO
  have h := le_iter_inv (fun (s : List (List Int)) (x : Nat) k => z24.l0 k (tab n R) s (x : Int)) (coverRow n R) (fun x s => s.length ≤ x * n) n 0 [] (by simp) (fun x s _ hx hs => ⟨fun r hr => ?_, by have := coverRow_le (n := n) (R := R) x s; rw [Nat.add_mul, Nat.one_mul]; omega⟩)
  ·refine h.1 _ ?_
   rw [Nat.zero_add]
   refine Ev.step (fun k => z24.l0.eq_2 ..) ?_
   rw [tab_length]
   exact ev_neg (by omega) (Ev.now _)
  ·have hx : x < n := by omega
   have hxn : x * n ≤ 12 * 12 := Nat.mul_le_mul (by omega) hn
   refine Ev.step (fun k => z24.l0.eq_2 ..) ?_
   rw [tab_length]
   (first | refine ev_pos (by omega) ?_ | refine ev_neg (by omega) ?_)
   refine hrow x s n 0 hx (by omega) (fun z hz hne h => hO x z hx (by omega) hne h) (by omega) r ?_
   rw [Nat.zero_add]
   refine Ev.step (fun k => z24.l1.eq_2 ..) ?_
   rw [tab_length, wrap_succ (show x < 9223372036854775807 by omega)]
   exact ev_neg (by omega) hr
 ·rw [if_neg hO]
  have hbad : ∃ x, x < n ∧ ∃ y, y < n ∧ x ≠ y ∧ R x y = true ∧ R y x = true := by
   apply Classical.byContradiction
   intro hc
   apply hO
   refine isOrd_iff.2 (fun x y hx hy hne hxy => ?_)
   cases h : R y x with
   | false => rfl
   | true => exact absurd ⟨x, hx, y, hy, hne, hxy, h⟩ hc
  obtain ⟨x, ⟨hx, hy'⟩, hmin⟩ := least hbad
  obtain ⟨y, ⟨hy, hne, h1, h2⟩, hymin⟩ := least hy'
  have h := le_iter_inv (fun (s : List (List Int)) (x : Nat) k => z24.l0 k (tab n R) s (x : Int)) (coverRow n R) (fun x s => s.length ≤ x * n) x 0 [] (by simp) (fun i s _ hi hs => ⟨fun r hr => ?_, by have := coverRow_le (n := n) (R := R) i s; rw [Nat.add_mul, Nat.one_mul]; omega⟩)
  ·refine h.1 _ ?_
   have hl := h.2
   have hxn : x * n ≤ 12 * 12 := Nat.mul_le_mul (by omega) hn
   rw [Nat.zero_add] at hl ⊢
   refine Ev.step (fun k => z24.l0.eq_2 ..) ?_
   rw [tab_length]
   (first | refine ev_pos (by omega) ?_ | refine ev_neg (by omega) ?_)
   refine hrow x _ y 0 hx (by omega) (fun z hz hne' h' => ?_) (by omega) _ ?_
   ·cases h'' : R z x with
    | false => rfl
    | true => exact absurd ⟨by omega, hne', h', h''⟩ (hymin z (by omega))
   ·rw [Nat.zero_add]
    refine Ev.step (fun k => z24.l1.eq_2 ..) ?_
    simp only [tab_length, tab_get hx, row_length, row_get hy, h1]
    refine ev_pos (by omega) (ev_neg (by omega) (ev_pos (by omega) (ev_pos (by omega) (ev_pos (by omega) (ev_pos (by omega) ?_)))))
    refine Ev.step (fun k => z24.j2.eq_2 ..) ?_
    simp only [tab_length, tab_get hy, row_length, row_get hx, h2]
    exact ev_neg (by decide) (ev_pos (by omega) (ev_pos (by omega) (ev_pos (by omega) (ev_pos (by omega) (ev_pos (by simp) (Ev.now _))))))
  ·have hi' : i < n := by omega
   have hin : i * n ≤ 12 * 12 := Nat.mul_le_mul (by omega) hn
   refine Ev.step (fun k => z24.l0.eq_2 ..) ?_
   rw [tab_length]
   (first | refine ev_pos (by omega) ?_ | refine ev_neg (by omega) ?_)
   refine hrow i s n 0 hi' (by omega) (fun z hz hne h => ?_) (by omega) r ?_
   ·cases h'' : R z i with
    | false => rfl
    | true => exact absurd ⟨hi', z, by omega, hne, h, h''⟩ (hmin i (by omega))
   ·rw [Nat.zero_add]
    refine Ev.step (fun k => z24.l1.eq_2 ..) ?_
    rw [tab_length, wrap_succ (show i < 9223372036854775807 by omega)]
    exact ev_neg (by omega) hr
end
end Go.Proofs.Ytmnplhkimpeocaa.B

set_option linter.unusedVariables false
set_option linter.unusedSimpArgs false
namespace Go.Proofs.Ytmnplhkimpeocaa.B
open Go.RowKit Go.Proofs.YtmnplhkimpeocaaW.PrintWords

theorem szInt64S_val (l : List Int) (a : Int) (h0 : 0 ≤ a) (h1 : a ≤ 9223372036854775807) (hl : l.length ≤ 9223372036854775807) : z21.f l a = some (if a - l.length < 0 then -1 else a - l.length) := by
 unfold z21.f
 have e : wrap64 (a - (l.length : Int)) = a - l.length := wrap_small (by omega) (by omega)
 rw [e]
 split <;> rfl
theorem szInt64SS_ev (l : List (List Int)) (a : Int) (hw : WfLL l) (h0 : 0 ≤ a) (h1 : a ≤ 9223372036854775807) :
  (∃ t, Ev (fun k => z11.f k l a) t ∧ t < 0) ∨ (Ev (fun k => z11.f k l a) (a - l.length - total l) ∧ l.length + total l ≤ a) := by
 have loop : ∀ (d i : Nat) (b : Int), d + i = l.length → 0 ≤ b → b ≤ 9223372036854775807 → (∃ t, Ev (fun k => z11.l0 k l b (i : Int)) t ∧ t < 0) ∨ (Ev (fun k => z11.l0 k l b (i : Int)) (b - total (l.drop i)) ∧ total (l.drop i) ≤ b) := by
  intro d
  induction d with
  | zero =>
   intro i b hd hb0 hb1
   right
   have hi : l.length = i := by omega
   rw [List.drop_of_length_le (by omega)]
   refine ⟨Ev.step (fun k => z11.l0.eq_2 ..) (ev_neg (by omega) (ev_eq (Ev.now b) (by simp [total]))), by simpa [total] using hb0⟩
  | succ d ih =>
   intro i b hd hb0 hb1
   have hi : i < l.length := by omega
   have hdr : l.drop i = l.getD i [] :: l.drop (i + 1) := by
    rw [List.drop_eq_getElem_cons hi, List.getD_eq_getElem?_getD, List.getElem?_eq_getElem hi]; rfl
   have hm : l.getD i [] ∈ l := by
    rw [List.getD_eq_getElem?_getD, List.getElem?_eq_getElem hi]; exact List.getElem_mem hi
   have hrl := (hw.2 _ hm).1
   have hv := szInt64S_val (l.getD i []) b hb0 hb1 hrl
   have hrd : rd_ListInt l (i : Int) = l.getD i [] := by simp [rd_ListInt]
   have hlen : l.length ≤ 9223372036854775807 := hw.1
   by_cases hneg : b - ((l.getD i []).length : Int) < 0
   ·left
    rw [if_pos hneg] at hv
    refine ⟨-1, Ev.step (fun k => z11.l0.eq_2 ..) (ev_pos (by omega) (ev_pos (by omega) ?_)), by omega⟩
    rw [hrd]
    exact Ev.bind (ev_const hv) (ev_pos (by omega) (Ev.now _))
   ·rw [if_neg hneg] at hv
    rcases ih (i + 1) (b - ((l.getD i []).length : Int)) (by omega) (by omega) (by omega) with ⟨t, ht, htn⟩ | ⟨ht, htb⟩
    ·left
     refine ⟨t, Ev.step (fun k => z11.l0.eq_2 ..) (ev_pos (by omega) (ev_pos (by omega) ?_)), htn⟩
     rw [hrd, wrap_succ (by omega)]
     exact Ev.bind (ev_const hv) (ev_neg (by omega) ht)
    ·right
     rw [hdr]
     simp only [total]
     refine ⟨Ev.step (fun k => z11.l0.eq_2 ..) (ev_pos (by omega) (ev_pos (by omega) ?_)), by omega⟩
     rw [hrd, wrap_succ (by omega)]
     exact Ev.bind (ev_const hv) (ev_neg (by omega) (ev_eq ht (by omega)))
 have hlen : l.length ≤ 9223372036854775807 := hw.1
 have e : wrap64 (a - (l.length : Int)) = a - l.length := wrap_small (by omega) (by omega)
 by_cases hneg : a - (l.length : Int) < 0
 ·left
  refine ⟨-1, ?_, by omega⟩
  unfold z11.f
  rw [e]
  exact ev_pos hneg (Ev.now _)
 ·rcases loop l.length 0 (a - l.length) (by omega) (by omega) (by omega) with ⟨t, ht, htn⟩ | ⟨ht, htb⟩
  ·left
   refine ⟨t, ?_, htn⟩
   unfold z11.f
   rw [e]
   exact ev_neg hneg ht
  ·right
   refine ⟨?_, by simp only [List.drop_zero] at htb; omega⟩
   unfold z11.f
   rw [e]
   exact ev_neg hneg ht

theorem toInt64S_ev (l : List Int) (hl : l.length ≤ 1048576) : Ev (fun k => z27.f k l) l := by
 have h := le_iter_inv (fun (s : List Int) (i : Nat) k => z27.l0 k l s (i : Int)) (fun i s => s.set i (l.getD i 0)) (fun i s => s = l.take i ++ List.replicate (l.length - i) 0) l.length 0 (List.replicate l.length 0) (by simp) (by
  intro j s _ hj hs
  refine ⟨fun r hr => Ev.step (fun k => z27.l0.eq_2 ..) (ev_pos (by omega) (ev_pos (by omega) (ev_pos ?_ ?_))), ?_⟩
  ·subst hs; simp only [List.length_append, List.length_take, List.length_replicate]; omega
  ·rw [wrap_succ (by omega), rd_nat, Int.toNat_natCast]; exact hr
  ·subst hs; exact set_prefix l j 0 (by omega) _ rfl)
 unfold z27.f
 refine ev_pos (by omega) (ev_pos (by omega) ?_)
 rw [Int.toNat_natCast]
 refine h.1 l (Ev.step (fun k => z27.l0.eq_2 ..) (ev_neg (by omega) (ev_eq (Ev.now _) ?_)))
 rw [h.2]
 simp
theorem toInt64SS_ev (l : List (List Int)) (hl : l.length ≤ 1048576) (hr : ∀ x ∈ l, x.length ≤ 1048576) : Ev (fun k => z14.f k l) l := by
 have h := le_iter_inv (fun (s : List (List Int)) (i : Nat) k => z14.l0 k l s (i : Int)) (fun i s => s.set i (l.getD i [])) (fun i s => s = l.take i ++ List.replicate (l.length - i) []) l.length 0 (List.replicate l.length []) (by simp) (by
  intro j s _ hj hs
  have hm : l.getD j [] ∈ l := by
   rw [List.getD_eq_getElem?_getD, List.getElem?_eq_getElem (by omega)]; exact List.getElem_mem _
  have hrd : rd_ListInt l (j : Int) = l.getD j [] := by simp [rd_ListInt]
  refine ⟨fun r hr' => Ev.step (fun k => z14.l0.eq_2 ..) (ev_pos (by omega) (ev_pos (by omega) ?_)), ?_⟩
  ·rw [hrd]
   refine Ev.bind (toInt64S_ev _ (hr _ hm)) (ev_pos ?_ ?_)
   ·subst hs; simp only [List.length_append, List.length_take, List.length_replicate]; omega
   ·rw [wrap_succ (by omega), Int.toNat_natCast]; exact hr'
  ·subst hs; exact set_prefix l j [] (by omega) _ rfl)
 unfold z14.f
 refine ev_pos (by omega) (ev_pos (by omega) ?_)
 rw [Int.toNat_natCast]
 refine h.1 l (Ev.step (fun k => z14.l0.eq_2 ..) (ev_neg (by omega) (ev_eq (Ev.now _) ?_)))
 rw [h.2]
 simp

theorem list_eq_range {α : Type} [BEq α] [LawfulBEq α] (l m : List α) (z : α) (h : l.length = m.length) : (List.range l.length).all (fun i => l.getD i z == m.getD i z) = (l == m) := by
 rw [Bool.eq_iff_iff, List.all_eq_true, beq_iff_eq]
 constructor
 ·intro e
  apply List.ext_getElem h
  intro i h1 h2
  have := e i (List.mem_range.2 h1)
  simpa [List.getD_eq_getElem?_getD, List.getElem?_eq_getElem h1, List.getElem?_eq_getElem h2] using this
 ·rintro rfl i _
  exact beq_self_eq_true _
theorem len_ne_beq {α : Type} [BEq α] [LawfulBEq α] {l m : List α} (h : l.length ≠ m.length) : (l == m) = false := by
 rw [Bool.eq_false_iff]; intro e; exact h (by rw [eq_of_beq e])
theorem eqInt64S_ev (l m : List Int) (hl : l.length < 9223372036854775807) : Ev (fun k => z37.f k l m) (l == m) := by
 unfold z37.f
 by_cases h : l.length = m.length
 ·refine ev_pos (by omega) ?_
  rw [← list_eq_range l m 0 h]
  refine ev_all (fun (i : Nat) k => z37.l0 k l m (i : Int)) _ l.length (fun j hj hp r hr => ?_) (fun j hj hp => ?_) ?_
  ·refine Ev.step (fun k => z37.l0.eq_2 ..) (ev_pos (by omega) (ev_pos (by omega) (ev_pos (by omega) (ev_pos ?_ ?_))))
   ·rw [rd_nat, rd_nat]; exact eq_of_beq hp
   ·rw [wrap_succ (by omega)]; exact hr
  ·refine Ev.step (fun k => z37.l0.eq_2 ..) (ev_pos (by omega) (ev_pos (by omega) (ev_pos (by omega) (ev_neg ?_ (Ev.now _)))))
   rw [rd_nat, rd_nat]; exact ne_of_beq_false hp
  ·exact Ev.step (fun k => z37.l0.eq_2 ..) (ev_neg (by omega) (Ev.now _))
 ·rw [len_ne_beq h]
  exact ev_neg (by omega) (Ev.now _)
theorem eqInt64SS_ev (l m : List (List Int)) (hl : l.length < 9223372036854775807) (hr : ∀ x ∈ l, x.length < 9223372036854775807) : Ev (fun k => z18.f k l m) (l == m) := by
 unfold z18.f
 by_cases h : l.length = m.length
 ·refine ev_pos (by omega) ?_
  rw [← list_eq_range l m [] h]
  have hm : ∀ j, j < l.length → Ev (fun k => z37.f k (rd_ListInt l (j : Int)) (rd_ListInt m (j : Int))) (l.getD j [] == m.getD j []) := fun j hj => by
   have h1 : rd_ListInt l (j : Int) = l.getD j [] := by simp [rd_ListInt]
   have h2 : rd_ListInt m (j : Int) = m.getD j [] := by simp [rd_ListInt]
   rw [h1, h2]
   refine eqInt64S_ev _ _ (hr _ ?_)
   rw [List.getD_eq_getElem?_getD, List.getElem?_eq_getElem hj]; exact List.getElem_mem hj
  refine ev_all (fun (i : Nat) k => z18.l0 k l m (i : Int)) _ l.length (fun j hj hp r hr => ?_) (fun j hj hp => ?_) ?_
  ·refine Ev.step (fun k => z18.l0.eq_2 ..) (ev_pos (by omega) (ev_pos (by omega) (ev_pos (by omega) (Ev.bind (hm j hj) (ev_pos hp ?_)))))
   rw [wrap_succ (by omega)]; exact hr
  ·exact Ev.step (fun k => z18.l0.eq_2 ..) (ev_pos (by omega) (ev_pos (by omega) (ev_pos (by omega) (Ev.bind (hm j hj) (ev_neg (by rw [hp]; decide) (Ev.now _))))))
  ·exact Ev.step (fun k => z18.l0.eq_2 ..) (ev_neg (by omega) (Ev.now _))
 ·rw [len_ne_beq h]
  exact ev_neg (by omega) (Ev.now _)
end Go.Proofs.Ytmnplhkimpeocaa.B

set_option linter.unusedVariables false
set_option linter.unusedSimpArgs false
namespace Go.Proofs.Ytmnplhkimpeocaa.B
open Go.RowKit Go.Proofs.YtmnplhkimpeocaaW.PrintWords

theorem slicesEqual_ev (l m : List Int) (hl : l.length < 9223372036854775807) : Ev (fun k => z46.f k l m) (l == m) := by
 unfold z46.f
 by_cases h : l.length = m.length
 ·refine ev_pos (by omega) ?_
  rw [← list_eq_range l m 0 h]
  refine ev_all (fun (i : Nat) k => z46.l0 k l m (l.length : Int) (i : Int)) _ l.length (fun j hj hp r hr => ?_) (fun j hj hp => ?_) ?_
  ·refine Ev.step (fun k => z46.l0.eq_2 ..) ?_
   refine ev_pos (by omega) (ev_pos (by omega) (ev_pos (by omega) (ev_pos (by omega) (ev_pos ?_ ?_))))
   ·rw [rd_nat, rd_nat]; exact eq_of_beq hp
   ·rw [wrap_succ (by omega)]; exact hr
  ·refine Ev.step (fun k => z46.l0.eq_2 ..) ?_
   refine ev_pos (by omega) (ev_pos (by omega) (ev_pos (by omega) (ev_pos (by omega) (ev_neg ?_ (Ev.now _)))))
   rw [rd_nat, rd_nat]; exact ne_of_beq_false hp
  ·refine Ev.step (fun k => z46.l0.eq_2 ..) ?_
   exact ev_neg (by omega) (Ev.now _)
 ·rw [len_ne_beq h]
  exact ev_neg (by omega) (Ev.now _)
theorem same_ev (l m : List Int) (hl : l.length < 9223372036854775807) : Ev (fun k => z40.f k l m) (l == m) := by
 unfold z40.f
 by_cases h : l.length = m.length
 ·refine ev_pos (by omega) ?_
  rw [← list_eq_range l m 0 h]
  refine ev_all (fun (i : Nat) k => z40.l0 k l m (i : Int)) _ l.length (fun j hj hp r hr => ?_) (fun j hj hp => ?_) ?_
  ·refine Ev.step (fun k => z40.l0.eq_2 ..) ?_
   refine ev_pos (by omega) (ev_pos (by omega) (ev_pos (by omega) (ev_pos ?_ ?_)))
   ·rw [rd_nat, rd_nat]; exact eq_of_beq hp
   ·rw [wrap_succ (by omega)]; exact hr
  ·refine Ev.step (fun k => z40.l0.eq_2 ..) ?_
   refine ev_pos (by omega) (ev_pos (by omega) (ev_pos (by omega) (ev_neg ?_ (Ev.now _))))
   rw [rd_nat, rd_nat]; exact ne_of_beq_false hp
  ·refine Ev.step (fun k => z40.l0.eq_2 ..) ?_
   exact ev_neg (by omega) (Ev.now _)
 ·rw [len_ne_beq h]
  exact ev_neg (by omega) (Ev.now _)
end Go.Proofs.Ytmnplhkimpeocaa.B

set_option linter.unusedVariables false
set_option linter.unusedSimpArgs false
namespace Go.Proofs.Ytmnplhkimpeocaa.B
open Go.RowKit Go.Proofs.YtmnplhkimpeocaaW.PrintWords

theorem areSame_ev (l m : List (List Int)) (hl : l.length < 9223372036854775807) (hr : ∀ x ∈ l, x.length < 9223372036854775807) : Ev (fun k => z32.f k l m) (l == m) := by
 unfold z32.f z91.f
 refine Ev.bind (a := (l == m)) ?_ (Ev.now _)
 by_cases h : l.length = m.length
 ·refine ev_pos (by omega) ?_
  rw [← list_eq_range l m [] h]
  have hm : ∀ j, j < l.length → Ev (fun k => z46.f k (rd_ListInt l (j : Int)) (rd_ListInt m (j : Int))) (l.getD j [] == m.getD j []) := fun j hj => by
   rw [rdl_nat, rdl_nat]
   exact slicesEqual_ev _ _ (hr _ (getD_mem [] hj))
  refine ev_all (fun (i : Nat) k => z91.l0 k m l (l.length : Int) (i : Int)) _ l.length (fun j hj hp r hr => ?_) (fun j hj hp => ?_) ?_
  ·refine Ev.step (fun k => z91.l0.eq_2 ..) ?_
   refine ev_pos (by omega) (ev_pos (by omega) (ev_pos (by omega) (ev_pos (by omega) (Ev.bind (hm j hj) (ev_pos hp ?_)))))
   rw [wrap_succ (by omega)]; exact hr
  ·refine Ev.step (fun k => z91.l0.eq_2 ..) ?_
   exact ev_pos (by omega) (ev_pos (by omega) (ev_pos (by omega) (ev_pos (by omega) (Ev.bind (hm j hj) (ev_neg (by rw [hp]; decide) (Ev.now _))))))
  ·refine Ev.step (fun k => z91.l0.eq_2 ..) ?_
   exact ev_neg (by omega) (Ev.now _)
 ·rw [len_ne_beq h]
  exact ev_neg (by omega) (Ev.now _)
end Go.Proofs.Ytmnplhkimpeocaa.B

set_option linter.unusedVariables false
set_option linter.unusedSimpArgs false
namespace Go.Proofs.Ytmnplhkimpeocaa.B
open Go.RowKit Go.Proofs.YtmnplhkimpeocaaW.PrintWords

theorem isElement_val (a n : Int) : z61.f a n = some (elem a n) := by
 unfold z61.f
 rw [within_val]; rfl
theorem isSize_val (a : Int) : z28.f a = some (decide (0 ≤ a) && decide (a ≤ 12)) := by
 unfold z28.f
 rw [within_val]; rfl
theorem areElements1_val (a n : Int) : z60.f a n = some (!elem a n) := by
 unfold z60.f
 rw [isElement_val]; rfl
theorem areElements_ev (l : List Int) (n : Int) (hl : l.length < 9223372036854775807) : Ev (fun k => z44.f k l n) (l.all (fun a => elem a n)) := by
 obtain ⟨t, ht, hd⟩ := ev_index_list l 0 (fun i k => z89.l0 k l (l.length : Int) (i : Int) n) (fun a => !elem a n) (fun j hj hp r hr => by
  refine Ev.step (fun k => z89.l0.eq_2 ..) ?_
  (repeat (first | refine ev_pos (by omega) ?_ | refine ev_neg (by omega) ?_))
  rw [rd_nat, wrap_succ (by omega)]
  exact Ev.bind (ev_const (areElements1_val _ _)) (ev_neg (by rw [hp]; decide) hr)) (fun j hj hp => by
  refine Ev.step (fun k => z89.l0.eq_2 ..) ?_
  (repeat (first | refine ev_pos (by omega) ?_ | refine ev_neg (by omega) ?_))
  rw [rd_nat]
  exact Ev.bind (ev_const (areElements1_val _ _)) (ev_pos hp (Ev.now _))) (by
  refine Ev.step (fun k => z89.l0.eq_2 ..) ?_
  exact ev_neg (by omega) (Ev.now _))
 unfold z44.f z88.f z89.f
 refine Ev.bind (Ev.bind ht (Ev.now _)) (ev_eq (Ev.now _) ?_)
 rw [hd, List.any_eq_not_all_not]
 simp
theorem elem_iff {a : Int} {n : Nat} (hn : n ≤ 12) : elem a (n : Int) = true ↔ 0 ≤ a ∧ a < n := by
 unfold elem
 rw [wrap_small (by omega) (by omega)]
 simp only [Bool.and_eq_true, decide_eq_true_eq]
 omega
theorem len2 {p : List Int} (h : p.length = 2) : p = [p.getD 0 0, p.getD 1 0] := by
 match p, h with
 | [a, b], _ => rfl
theorem arePairs1_ev (p : List Int) (n : Int) : Ev (fun k => z43.f k p n) (!isPair n p) := by
 unfold z43.f isPair
 by_cases h : p.length = 2
 ·refine ev_pos (by omega) (Ev.bind (areElements_ev p n (by omega)) (ev_eq (Ev.now _) ?_))
  rw [len2 h]
  simp
 ·refine ev_neg (by omega) (ev_eq (Ev.now _) ?_)
  have : (p.length == 2) = false := by simpa using h
  rw [this]; rfl
theorem arePairs_ev (n : Int) (l : List (List Int)) (hl : l.length < 9223372036854775807) : Ev (fun k => z29.f k n l) (l.all (isPair n)) := by
 obtain ⟨t, ht, hd⟩ := ev_index_list l [] (fun i k => z90.l0 k l (l.length : Int) (i : Int) n) (fun p => !isPair n p) (fun j hj hp r hr => by
  refine Ev.step (fun k => z90.l0.eq_2 ..) ?_
  (repeat (first | refine ev_pos (by omega) ?_ | refine ev_neg (by omega) ?_))
  rw [rdl_nat, wrap_succ (by omega)]
  exact Ev.bind (arePairs1_ev _ _) (ev_neg (by rw [hp]; decide) hr)) (fun j hj hp => by
  refine Ev.step (fun k => z90.l0.eq_2 ..) ?_
  (repeat (first | refine ev_pos (by omega) ?_ | refine ev_neg (by omega) ?_))
  rw [rdl_nat]
  exact Ev.bind (arePairs1_ev _ _) (ev_pos hp (Ev.now _))) (by
  refine Ev.step (fun k => z90.l0.eq_2 ..) ?_
  exact ev_neg (by omega) (Ev.now _))
 unfold z29.f z87.f z90.f
 refine Ev.bind (Ev.bind ht (Ev.now _)) (ev_eq (Ev.now _) ?_)
 rw [hd, List.any_eq_not_all_not]
 simp
theorem specPairs_ev (n : Int) (l : List (List Int)) (hl : l.length < 9223372036854775807) : Ev (fun k => z23.f k n l) (l.all (isPair n)) := by
 unfold z23.f
 have e0 : ∀ x : List Int, rd x 0 = x.getD 0 0 := fun x => rd_nat x 0
 have e1 : ∀ x : List Int, rd x 1 = x.getD 1 0 := fun x => rd_nat x 1
 refine ev_all_list l [] (fun i k => z23.l0 k n l (i : Int)) (isPair n) (fun j hj hp r hr => ?_) (fun j hj hp => ?_) ?_
 ·obtain ⟨h2, hp⟩ := (Bool.and_eq_true _ _).mp hp
  obtain ⟨ha, hb⟩ := (Bool.and_eq_true _ _).mp hp
  have h2 : (l.getD j []).length = 2 := by simpa using h2
  refine Ev.step (fun k => z23.l0.eq_2 ..) ?_
  simp only [rdl_nat, e0, e1, h2, wrap_succ (show j < 9223372036854775807 by omega)]
  refine ev_pos (by omega) (ev_pos (by omega) (ev_pos (by omega) (ev_pos (by omega) (Ev.bind (ev_const (in_val _ _ _)) (ev_pos ha (ev_pos (by omega) (Ev.bind (ev_const (in_val _ _ _)) (ev_pos hb hr))))))))
 ·refine Ev.step (fun k => z23.l0.eq_2 ..) ?_
  simp only [rdl_nat, e0, e1]
  refine ev_pos (by omega) (ev_pos (by omega) ?_)
  by_cases h2 : (l.getD j []).length = 2
  ·refine ev_pos (by omega) (ev_pos (by omega) (Ev.bind (ev_const (in_val _ _ _)) ?_))
   unfold isPair at hp
   rw [h2] at hp
   have hp : (elem ((l.getD j []).getD 0 0) n && elem ((l.getD j []).getD 1 0) n) = false := by simpa using hp
   by_cases ha : elem ((l.getD j []).getD 0 0) n = true
   ·rw [ha, Bool.true_and] at hp
    refine ev_pos ha (ev_pos (by omega) (Ev.bind (ev_const (in_val _ _ _)) (ev_neg ?_ (Ev.now _))))
    exact Bool.eq_false_iff.1 hp
   ·exact ev_neg ha (Ev.now _)
  ·exact ev_neg (by omega) (Ev.now _)
 ·refine Ev.step (fun k => z23.l0.eq_2 ..) ?_
  exact ev_neg (by omega) (Ev.now _)
theorem pairs_of (n : Nat) (hn : n ≤ 12) (l : List (List Int)) (h : l.all (isPair (n : Int)) = true) : Pairs n l := by
 intro p hp
 have h := List.all_eq_true.1 h p hp
 obtain ⟨h2, h⟩ := (Bool.and_eq_true _ _).mp h
 obtain ⟨ha, hb⟩ := (Bool.and_eq_true _ _).mp h
 have h2 : p.length = 2 := by simpa using h2
 have ha := (elem_iff hn).1 ha
 have hb := (elem_iff hn).1 hb
 exact ⟨h2, ha.1, ha.2, hb.1, hb.2⟩

theorem samePairs_ev (l m : List (List Int)) (hl : l.length < 9223372036854775807) (hr : ∀ x ∈ l, x.length < 9223372036854775807) : Ev (fun k => z26.f k l m) (l == m) := by
 unfold z26.f
 by_cases h : l.length = m.length
 ·refine ev_pos (by omega) ?_
  rw [← list_eq_range l m [] h]
  have hm : ∀ j, j < l.length → Ev (fun k => z40.f k (rd_ListInt l (j : Int)) (rd_ListInt m (j : Int))) (l.getD j [] == m.getD j []) := fun j hj => by
   rw [rdl_nat, rdl_nat]
   exact same_ev _ _ (hr _ (getD_mem [] hj))
  refine ev_all (fun (i : Nat) k => z26.l0 k l m (i : Int)) _ l.length (fun j hj hp r hr => ?_) (fun j hj hp => ?_) ?_
  ·refine Ev.step (fun k => z26.l0.eq_2 ..) ?_
   refine ev_pos (by omega) (ev_pos (by omega) (ev_pos (by omega) (Ev.bind (hm j hj) (ev_pos hp ?_))))
   rw [wrap_succ (by omega)]; exact hr
  ·refine Ev.step (fun k => z26.l0.eq_2 ..) ?_
   exact ev_pos (by omega) (ev_pos (by omega) (ev_pos (by omega) (Ev.bind (hm j hj) (ev_neg (by rw [hp]; decide) (Ev.now _)))))
  ·refine Ev.step (fun k => z26.l0.eq_2 ..) ?_
   exact ev_neg (by omega) (Ev.now _)
 ·rw [len_ne_beq h]
  exact ev_neg (by omega) (Ev.now _)
end Go.Proofs.Ytmnplhkimpeocaa.B

set_option linter.unusedVariables false
set_option linter.unusedSimpArgs false
namespace Go.Proofs.Ytmnplhkimpeocaa.B
open Go.RowKit Go.Proofs.YtmnplhkimpeocaaW.PrintWords

def okPoset (a : Int) (l : List (List Int)) : Bool :=
 (decide (0 ≤ a) && decide (a ≤ 12)) && (decide (l.length ≤ 30) && (l.all (isPair a) && (isOrd a.toNat (orderOf a.toNat l) && (coversOf a.toNat (orderOf a.toNat l) == l))))

theorem covers_small {n : Nat} (hn : n ≤ 12) (R : Nat → Nat → Bool) : (coversOf n R).length ≤ 144 := by
 have h := coversOf_length n R
 have : n * n ≤ 12 * 12 := Nat.mul_le_mul hn hn
 omega
theorem covers_two (n : Nat) (R : Nat → Nat → Bool) : ∀ p ∈ coversOf n R, p.length = 2 := by
 have hrow : ∀ x s, (∀ p ∈ s, p.length = 2) → ∀ p ∈ coverRow n R x s, p.length = 2 := fun x s hs => by
  have := iter_inv (fun y s => if covers n R x y then s ++ [[(x : Int), (y : Int)]] else s) (fun i (t : List (List Int)) => ∀ p ∈ t, p.length = 2) n 0 s hs (fun j t _ _ h => by
   split
   ·intro p hp
    rcases List.mem_append.1 hp with hp | hp
    ·exact h p hp
    ·rw [List.mem_singleton.1 hp]; rfl
   ·exact h)
  exact this
 exact iter_inv (coverRow n R) (fun i (t : List (List Int)) => ∀ p ∈ t, p.length = 2) n 0 [] (by simp) (fun j t _ _ h => hrow j t h)

section
variable {a : Int} {l : List (List Int)}
theorem size_nat (h : (decide (0 ≤ a) && decide (a ≤ 12)) = true) : ∃ n : Nat, a = n ∧ n ≤ 12 := by
 simp only [Bool.and_eq_true, decide_eq_true_eq] at h
 obtain ⟨n, rfl⟩ := Int.eq_ofNat_of_zero_le h.1
 exact ⟨n, rfl, by omega⟩
theorem implValidPoset_ev (hl : l.length < 9223372036854775807) : Ev (fun k => z15.f k a l) (okPoset a l) := by
 unfold z15.f okPoset
 refine Ev.bind (ev_const (isSize_val a)) ?_
 by_cases hs : (decide (0 ≤ a) && decide (a ≤ 12)) = true
 ·obtain ⟨n, rfl, hn⟩ := size_nat hs
  refine ev_pos hs ?_
  rw [hs, Bool.true_and]
  by_cases h30 : (l.length : Int) > 30
  ·rw [decide_eq_false (show ¬ l.length ≤ 30 by omega), Bool.false_and]
   refine ev_pos h30 ?_
   refine Ev.step (fun k => z15.j0.eq_2 ..) ?_
   exact ev_pos rfl (Ev.now _)
  ·rw [decide_eq_true (show l.length ≤ 30 by omega), Bool.true_and]
   refine ev_neg h30 (Ev.bind (arePairs_ev _ l hl) ?_)
   refine Ev.step (fun k => z15.j0.eq_2 ..) ?_
   by_cases hp : l.all (isPair (n : Int)) = true
   ·rw [hp, Bool.true_and, Int.toNat_natCast]
    refine ev_neg (by decide) (Ev.bind (belowOf_ev hn (pairs_of n hn l hp) hl) (Ev.bind (isOrder_ev hn) ?_))
    by_cases ho : isOrd n (orderOf n l) = true
    ·rw [ho, Bool.true_and]
     refine ev_pos rfl (Ev.bind (implCovers_ev hn) (Ev.bind (areSame_ev _ _ ?_ ?_) (Ev.now _)))
     ·have := covers_small hn (orderOf n l); omega
     ·intro x hx; rw [covers_two _ _ x hx]; omega
    ·have ho : isOrd n (orderOf n l) = false := Bool.eq_false_iff.2 ho
     rw [ho, Bool.false_and]
     exact ev_neg (by decide) (Ev.now _)
   ·have hp : l.all (isPair (n : Int)) = false := Bool.eq_false_iff.2 hp
    rw [hp, Bool.false_and]
    exact ev_pos rfl (Ev.now _)
 ·refine ev_neg hs ?_
  rw [Bool.eq_false_iff.2 hs, Bool.false_and]
  refine Ev.step (fun k => z15.j0.eq_2 ..) ?_
  exact ev_pos rfl (Ev.now _)
theorem specOk_ev (hl : l.length < 9223372036854775807) : Ev (fun k => z12.f k a l) (okPoset a l) := by
 unfold z12.f okPoset
 refine Ev.bind (ev_const (in_val a 0 12)) ?_
 by_cases hs : (decide (0 ≤ a) && decide (a ≤ 12)) = true
 ·obtain ⟨n, rfl, hn⟩ := size_nat hs
  refine ev_pos hs ?_
  rw [hs, Bool.true_and]
  by_cases h30 : (l.length : Int) > 30
  ·rw [decide_eq_false (show ¬ l.length ≤ 30 by omega), Bool.false_and]
   refine ev_pos h30 ?_
   refine Ev.step (fun k => z12.j0.eq_2 ..) ?_
   exact ev_pos rfl (Ev.now _)
  ·rw [decide_eq_true (show l.length ≤ 30 by omega), Bool.true_and]
   refine ev_neg h30 (Ev.bind (specPairs_ev _ l hl) ?_)
   refine Ev.step (fun k => z12.j0.eq_2 ..) ?_
   by_cases hp : l.all (isPair (n : Int)) = true
   ·rw [hp, Bool.true_and, Int.toNat_natCast]
    refine ev_neg (by decide) (Ev.bind (table_ev hn (pairs_of n hn l hp) hl) (Ev.bind (specCovers_ev hn) ?_))
    by_cases ho : isOrd n (orderOf n l) = true
    ·rw [if_pos ho, ho, Bool.true_and]
     refine ev_pos rfl (Ev.bind (samePairs_ev _ _ ?_ ?_) (Ev.now _))
     ·have := covers_small hn (orderOf n l); exact Nat.lt_of_le_of_lt this (by decide)
     ·intro x hx; rw [covers_two _ _ x hx]; omega
    ·rw [if_neg ho]
     have ho : isOrd n (orderOf n l) = false := Bool.eq_false_iff.2 ho
     rw [ho, Bool.false_and]
     exact ev_neg (by decide) (Ev.now _)
   ·have hp : l.all (isPair (n : Int)) = false := Bool.eq_false_iff.2 hp
    rw [hp, Bool.false_and]
    exact ev_pos rfl (Ev.now _)
 ·refine ev_neg hs ?_
  rw [Bool.eq_false_iff.2 hs, Bool.false_and]
  refine Ev.step (fun k => z12.j0.eq_2 ..) ?_
  exact ev_pos rfl (Ev.now _)
theorem okPoset_iff : okPoset a l = true ↔ ∃ n : Nat, a = n ∧ n ≤ 12 ∧ l.length ≤ 30 ∧ l.all (isPair (n : Int)) = true ∧ isOrd n (orderOf n l) = true ∧ coversOf n (orderOf n l) = l := by
 unfold okPoset
 simp only [Bool.and_eq_true, decide_eq_true_eq, beq_iff_eq]
 constructor
 ·rintro ⟨⟨h1, h2⟩, h3, h4, h5, h6⟩
  obtain ⟨n, rfl⟩ := Int.eq_ofNat_of_zero_le h1
  rw [Int.toNat_natCast] at h5 h6
  exact ⟨n, rfl, by omega, h3, h4, h5, h6⟩
 ·rintro ⟨n, rfl, h2, h3, h4, h5, h6⟩
  rw [Int.toNat_natCast]
  exact ⟨⟨by omega, by omega⟩, h3, h4, h5, h6⟩
end
end Go.Proofs.Ytmnplhkimpeocaa.B

set_option linter.unusedVariables false
set_option linter.unusedSimpArgs false
namespace Go.Proofs.Ytmnplhkimpeocaa.B
open Go.RowKit Go.Proofs.YtmnplhkimpeocaaW.PrintWords

theorem mark_val (l : List (List Int)) (a : Int) (h0 : 0 ≤ a) (h1 : a + total l ≤ 9223372036854775807) : laws_markInt64SS.f l a = some (a + total l, markRows l a) := by
 unfold laws_markInt64SS.f
 rw [if_pos ⟨h0, h1⟩]
theorem markInts_get : ∀ (l : List Int) (a : Int) (i : Nat), i < l.length → (markInts l a).getD i 0 = a + i
 | [], a, i, h => by simp at h
 | x :: l, a, 0, h => by simp [markInts]
 | x :: l, a, i + 1, h => by
  have := markInts_get l (a + 1) i (by simpa using h)
  simp only [markInts, List.getD_cons_succ, this]
  omega
theorem heldInt64S_ev (l : List Int) (a : Int) (h0 : 0 ≤ a) (h1 : a + l.length ≤ 9223372036854775807) : Ev (fun k => z39.f k (markInts l a) a) (a + l.length) := by
 unfold z39.f
 have h := ev_find (r := a + l.length) (fun (i : Nat) k => z39.l0 k (markInts l a) (a + i) (i : Int)) (fun _ => false) l.length 0 (fun j _ hj _ r hr => by
  refine Ev.step (fun k => z39.l0.eq_2 ..) ?_
  rw [rd_nat, markInts_get l a j (by omega), markInts_length, wrap_succ (by omega), wrap_small (by omega) (by omega), show a + (j : Int) + 1 = a + ((j + 1 : Nat) : Int) by omega]
  (repeat (first | refine ev_pos (by omega) ?_ | refine ev_neg (by omega) ?_))
  exact hr) (fun _ _ _ h => by cases h) (fun _ => by
  refine Ev.step (fun k => z39.l0.eq_2 ..) ?_
  rw [markInts_length]
  exact ev_neg (by omega) (ev_eq (Ev.now _) (by omega)))
 simpa using h
theorem markRows_get : ∀ (l : List (List Int)) (a : Int) (i : Nat), i < l.length → (markRows l a).getD i [] = markInts (l.getD i []) (a + total (l.take i))
 | [], a, i, h => by simp at h
 | x :: l, a, 0, h => by simp [markRows, total]
 | x :: l, a, i + 1, h => by
  have := markRows_get l (a + x.length) i (by simpa using h)
  simp only [markRows, List.getD_cons_succ, this, List.take_succ_cons, total]
  congr 1
  omega
theorem total_take_succ' (l0 : List (List Int)) (k : Nat) (hk : k < l0.length) : total (l0.take (k + 1)) = total (l0.take k) + (l0.getD k []).length := by
 have ht : l0.take (k + 1) = l0.take k ++ [l0.getD k []] := by
  rw [List.take_succ_eq_append_getElem hk, List.getD_eq_getElem?_getD, List.getElem?_eq_getElem hk]; rfl
 rw [ht, total_append]; simp [total]
theorem total_take_le' (l0 : List (List Int)) (k : Nat) : total (l0.take k) ≤ total l0 := by
 have h := total_append (l0.take k) (l0.drop k)
 rw [List.take_append_drop] at h
 have := total_nonneg (l0.drop k)
 omega
theorem heldInt64SS_ev (l : List (List Int)) (a : Int) (h0 : 0 ≤ a) (h1 : a + total l ≤ 9223372036854775807) (hl : l.length < 9223372036854775807) : Ev (fun k => z20.f k (markRows l a) a) (a + total l) := by
 unfold z20.f
 have h := ev_find (r := a + total l) (fun (i : Nat) k => z20.l0 k (markRows l a) (a + total (l.take i)) (i : Int)) (fun _ => false) l.length 0 (fun j _ hj _ r hr => by
  have hrd : rd_ListInt (markRows l a) (j : Int) = markInts (l.getD j []) (a + total (l.take j)) := by
   rw [← markRows_get l a j (by omega)]; simp [rd_ListInt]
  have e1 := total_take_succ' l j (by omega)
  have e2 := total_take_le' l (j + 1)
  have e3 := total_nonneg (l.take j)
  refine Ev.step (fun k => z20.l0.eq_2 ..) ?_
  rw [hrd, markRows_length, wrap_succ (by omega)]
  (repeat (first | refine ev_pos (by omega) ?_ | refine ev_neg (by omega) ?_))
  refine Ev.bind (heldInt64S_ev _ _ (by omega) (by omega)) (ev_neg (by omega) ?_)
  rw [show a + total (l.take j) + ((l.getD j []).length : Int) = a + total (l.take (j + 1)) by omega]
  exact hr) (fun _ _ _ h => by cases h) (fun _ => by
  refine Ev.step (fun k => z20.l0.eq_2 ..) ?_
  rw [markRows_length]
  refine ev_neg (by omega) (ev_eq (Ev.now _) ?_)
  rw [Nat.zero_add, List.take_length])
 simpa [total] using h
end Go.Proofs.Ytmnplhkimpeocaa.B

set_option linter.unusedVariables false
set_option linter.unusedSimpArgs false
namespace Go.Proofs.Ytmnplhkimpeocaa.B
open Go.RowKit Go.Proofs.YtmnplhkimpeocaaW.PrintWords

theorem row_le_total : ∀ (l : List (List Int)) (x : List Int), x ∈ l → x.length ≤ total l
 | [], x, h => by cases h
 | y :: l, x, h => by
  simp only [total]
  rcases List.mem_cons.1 h with rfl | h
  ·have := total_nonneg l; omega
  ·have := row_le_total l x h; omega
theorem total_le_of {l : List (List Int)} {m : Nat} (h : ∀ x ∈ l, x.length ≤ m) : total l ≤ l.length * m := by
 induction l with
 | nil => simp [total]
 | cons x l ih =>
  have h1 := h x List.mem_cons_self
  have h2 := ih (fun y hy => h y (List.mem_cons_of_mem _ hy))
  simp only [total, List.length_cons]
  rw [Int.natCast_add, Int.add_mul]
  omega
theorem eqPoset_ev (a b : Int) (l m : List (List Int)) (hl : l.length < 9223372036854775807) (hr : ∀ x ∈ l, x.length < 9223372036854775807) : Ev (fun k => z8.f k a l b m) (decide (a = b) && (l == m)) := by
 unfold z8.f
 by_cases h : a = b
 ·refine ev_pos h (Ev.bind (eqInt64SS_ev l m hl hr) ?_)
  rw [decide_eq_true h, Bool.true_and]
  cases hh : (l == m) with
  | true => exact ev_pos rfl (Ev.now _)
  | false => exact ev_neg (by decide) (Ev.now _)
 ·rw [decide_eq_false h, Bool.false_and]
  exact ev_neg h (Ev.now _)
theorem eqPoset_self (a : Int) (l : List (List Int)) (hl : l.length < 9223372036854775807) (hr : ∀ x ∈ l, x.length < 9223372036854775807) : Ev (fun k => z8.f k a l a l) true :=
 ev_eq (eqPoset_ev a a l l hl hr) (by simp)
theorem toPoset_ev (a : Int) (l : List (List Int)) (hl : l.length ≤ 1048576) (hr : ∀ x ∈ l, x.length ≤ 1048576) : Ev (fun k => z6.f k a l) (a, l) := by
 unfold z6.f
 exact Ev.bind (toInt64SS_ev l hl hr) (Ev.now _)
theorem szPoset_ev (a : Int) (l : List (List Int)) (b : Int) (hw : WfLL l) (h0 : 0 ≤ b) (h1 : b ≤ 9223372036854775807) :
  (∃ t, Ev (fun k => z4.f k a l b) t ∧ t < 0) ∨ (Ev (fun k => z4.f k a l b) (b - l.length - total l) ∧ l.length + total l ≤ b) := by
 unfold z4.f
 rcases szInt64SS_ev l b hw h0 h1 with ⟨t, ht, hn⟩ | ⟨ht, hb⟩
 ·exact .inl ⟨-1, Ev.bind ht (ev_pos hn (Ev.now _)), by omega⟩
 ·exact .inr ⟨Ev.bind ht (ev_neg (by omega) (Ev.now _)), hb⟩
theorem heldPoset_ev (a : Int) (l : List (List Int)) (b : Int) (h0 : 0 ≤ b) (h1 : b + total l ≤ 9223372036854775807) (hl : l.length < 9223372036854775807) : Ev (fun k => z10.f k a (markRows l b) b) (b + total l) := by
 unfold z10.f
 have := total_nonneg l
 exact Ev.bind (heldInt64SS_ev l b h0 h1 hl) (ev_neg (by omega) (Ev.now _))
theorem two_total {l : List (List Int)} (h : l.length ≤ 144) (h2 : ∀ x ∈ l, x.length = 2) : total l ≤ 288 := by
 have := total_le_of (l := l) (m := 2) (fun x hx => Nat.le_of_eq (h2 x hx))
 omega

end Go.Proofs.Ytmnplhkimpeocaa.B

set_option linter.unusedVariables false
set_option linter.unusedSimpArgs false
namespace Go.Proofs.Ytmnplhkimpeocaa.B
open Go.RowKit Go.Proofs.YtmnplhkimpeocaaW.PrintWords

theorem wRound_eq (n x : Nat) (R : Nat → Nat → Bool) (hx : x < n) : ∀ a c, wRound n x R a c = if a < n ∧ c < n then (R a c || R a x && R x c) else R a c := by
 have hrow : ∀ (a : Nat) (S : Nat → Nat → Bool), a < n → (∀ c, S x c = R x c) → (∀ c, S a c = R a c) → ∀ a' c', wRow n x a S a' c' = if a' = a ∧ c' < n then (R a c' || R a x && R x c') else S a' c' := by
  intro a S ha hSx hSa
  have := iter_inv (wCell x a) (fun i (T : Nat → Nat → Bool) => ∀ a' c', T a' c' = if a' = a ∧ c' < i then (R a c' || R a x && R x c') else S a' c') n 0 S (fun a' c' => by simp) (fun j T _ _ hT a' c' => by
   have hax : T a x = R a x := by
    rw [hT]
    split
    ·cases R a x <;> simp
    ·exact hSa x
   have hxj : T x j = R x j := by
    rw [hT]
    split
    ·rename_i h; omega
    ·exact hSx j
   have haj : T a j = R a j := by
    rw [hT, if_neg (by omega)]; exact hSa j
   simp only [wCell, upd]
   by_cases h : a' = a ∧ c' = j
   ·obtain ⟨rfl, rfl⟩ := h
    rw [if_pos ⟨rfl, rfl⟩, if_pos ⟨rfl, by omega⟩, haj, hax, hxj]
   ·rw [if_neg h, hT]
    by_cases h2 : a' = a ∧ c' < j
    ·rw [if_pos h2, if_pos ⟨h2.1, by omega⟩]
    ·rw [if_neg h2, if_neg (by omega)])
  rw [Nat.zero_add] at this
  exact this
 have := iter_inv (wRow n x) (fun i (T : Nat → Nat → Bool) => ∀ a c, T a c = if a < i ∧ c < n then (R a c || R a x && R x c) else R a c) n 0 R (fun a c => by simp) (fun j T _ hj hT => by
  have hTx : ∀ c, T x c = R x c := fun c => by
   rw [hT]
   split
   ·cases R x c <;> simp
   ·rfl
  have hTj : ∀ c, T j c = R j c := fun c => by rw [hT, if_neg (by omega)]
  intro a c
  rw [hrow j T (by omega) hTx hTj a c]
  by_cases h : a = j ∧ c < n
  ·obtain ⟨rfl, hc⟩ := h
   rw [if_pos ⟨rfl, hc⟩, if_pos ⟨by omega, hc⟩]
  ·rw [if_neg h, hT]
   by_cases h2 : a < j ∧ c < n
   ·rw [if_pos h2, if_pos ⟨by omega, h2.2⟩]
   ·rw [if_neg h2, if_neg (by omega)])
 rw [Nat.zero_add] at this
 exact this
def Thru (n m : Nat) (R : Nat → Nat → Bool) : Prop := ∀ a y c, a < n → y < m → c < n → R a y = true → R y c = true → R a c = true
theorem warshall_thru (n : Nat) (R : Nat → Nat → Bool) : Thru n n (warshall n R) := by
 have := iter_inv (wRound n) (fun i T => i ≤ n → Thru n i T) n 0 R (fun _ a y c _ h => by omega) (fun m T _ hm hT _ => by
  have hmn : m < n := by omega
  have hT := hT (by omega)
  have e := wRound_eq n m T hmn
  intro a y c ha hy hc h1 h2
  have hyn : y < n := by omega
  rw [e, if_pos ⟨ha, hyn⟩] at h1
  rw [e, if_pos ⟨hyn, hc⟩] at h2
  rw [e, if_pos ⟨ha, hc⟩]
  simp only [Bool.or_eq_true, Bool.and_eq_true] at h1 h2 ⊢
  by_cases hym : y = m
  ·subst hym
   right
   exact ⟨h1.elim id (fun h => h.1), h2.elim id (fun h => h.2)⟩
  ·have hy : y < m := by omega
   rcases h1 with h1 | ⟨h1, h1'⟩
   ·rcases h2 with h2 | ⟨h2, h2'⟩
    ·exact .inl (hT a y c ha hy hc h1 h2)
    ·exact .inr ⟨hT a y m ha hy hmn h1 h2, h2'⟩
   ·rcases h2 with h2 | ⟨h2, h2'⟩
    ·exact .inr ⟨h1, hT m y c hmn hy hc h1' h2⟩
    ·exact .inr ⟨h1, h2'⟩)
 rw [Nat.zero_add] at this
 exact this (Nat.le_refl _)
theorem warshall_le (n : Nat) (R : Nat → Nat → Bool) (a c : Nat) (h : R a c = true) : warshall n R a c = true :=
 iter_inv (wRound n) (fun _ T => T a c = true) n 0 R h (fun m T _ hm hT => by
  rw [wRound_eq n m T (by omega)]
  split
  ·rw [hT]; rfl
  ·exact hT)
theorem pairs_le (l : List (List Int)) (R : Nat → Nat → Bool) (a c : Nat) (h : R a c = true) : pairsRel l R a c = true :=
 iter_inv _ (fun _ (T : Nat → Nat → Bool) => T a c = true) l.length 0 R h (fun m T _ hm hT => by
  simp only [upd]
  split
  ·rfl
  ·exact hT)
section
variable {n : Nat} {l : List (List Int)} {a b c : Nat}
theorem order_refl (a : Nat) : orderOf n l a a = true := warshall_le n _ a a (pairs_le l _ a a (by simp [diag]))
theorem order_trans (ha : a < n) (hb : b < n) (hc : c < n) (h1 : orderOf n l a b = true) (h2 : orderOf n l b c = true) : orderOf n l a c = true := warshall_thru n _ a b c ha hb hc h1 h2
theorem order_anti (ho : isOrd n (orderOf n l) = true) (ha : a < n) (hb : b < n) (h1 : orderOf n l a b = true) (h2 : orderOf n l b a = true) : a = b := by
 apply Classical.byContradiction
 intro hne
 have := isOrd_iff.1 ho a b ha hb hne h1
 rw [h2] at this; cases this
end
end Go.Proofs.Ytmnplhkimpeocaa.B

set_option linter.unusedVariables false
set_option linter.unusedSimpArgs false
namespace Go.Proofs.Ytmnplhkimpeocaa.B
open Go.RowKit Go.Proofs.YtmnplhkimpeocaaW.PrintWords

def swp2 (p : List Int) : List Int := [p.getD 1 0, p.getD 0 0]
theorem swp2_swp2 {p : List Int} (h : p.length = 2) : swp2 (swp2 p) = p := by
 match p, h with
 | [a, b], _ => rfl
theorem warshall_least (n : Nat) (R T : Nat → Nat → Bool) (hR : ∀ a c, R a c = true → T a c = true) (hT : ∀ a b c, T a b = true → T b c = true → T a c = true) : ∀ a c, warshall n R a c = true → T a c = true :=
 iter_inv (wRound n) (fun _ (S : Nat → Nat → Bool) => ∀ a c, S a c = true → T a c = true) n 0 R hR (fun m S _ hm hS a c h => by
  rw [wRound_eq n m S (by omega)] at h
  split at h
  ·simp only [Bool.or_eq_true, Bool.and_eq_true] at h
   exact h.elim (hS a c) (fun h => hT a m c (hS a m h.1) (hS m c h.2))
  ·exact hS a c h)
theorem pairsRel_iff (l : List (List Int)) (R : Nat → Nat → Bool) (a c : Nat) : pairsRel l R a c = true ↔ R a c = true ∨ ∃ j, j < l.length ∧ a = ((l.getD j []).getD 0 0).toNat ∧ c = ((l.getD j []).getD 1 0).toNat := by
 have := iter_inv (fun i R => upd R ((l.getD i []).getD 0 0).toNat ((l.getD i []).getD 1 0).toNat true) (fun i (T : Nat → Nat → Bool) => ∀ a c, T a c = true ↔ R a c = true ∨ ∃ j, j < i ∧ a = ((l.getD j []).getD 0 0).toNat ∧ c = ((l.getD j []).getD 1 0).toNat) l.length 0 R (fun a c => by simp) (fun m T _ hm hT a c => by
  simp only [upd]
  by_cases h : a = ((l.getD m []).getD 0 0).toNat ∧ c = ((l.getD m []).getD 1 0).toNat
  ·rw [if_pos h]
   exact ⟨fun _ => .inr ⟨m, by omega, h.1, h.2⟩, fun _ => rfl⟩
  ·rw [if_neg h, hT a c]
   constructor
   ·rintro (h1 | ⟨j, hj, h1⟩)
    ·exact .inl h1
    ·exact .inr ⟨j, by omega, h1⟩
   ·rintro (h1 | ⟨j, hj, h1⟩)
    ·exact .inl h1
    ·refine .inr ⟨j, ?_, h1⟩
     rcases Nat.lt_or_ge j m with h2 | h2
     ·exact h2
     ·have : j = m := by omega
      subst this
      exact absurd h1 h)
 rw [Nat.zero_add] at this
 exact this a c
theorem swap_getD (l : List (List Int)) (j : Nat) (hj : j < l.length) : (l.map swp2).getD j [] = swp2 (l.getD j []) := by
 simp [List.getD_eq_getElem?_getD, hj]
theorem pairs_swap {n : Nat} {l : List (List Int)} (h : Pairs n l) : Pairs n (l.map swp2) := by
 intro p hp
 obtain ⟨q, hq, rfl⟩ := List.mem_map.1 hp
 obtain ⟨_, h1, h2, h3, h4⟩ := h q hq
 exact ⟨rfl, h3, h4, h1, h2⟩
theorem swap_swap {n : Nat} {l : List (List Int)} (h : Pairs n l) : (l.map swp2).map swp2 = l := by
 rw [List.map_map]
 conv => rhs; rw [← List.map_id l]
 exact List.map_congr_left (fun p hp => swp2_swp2 (h p hp).1)
theorem swap_le {n : Nat} {l : List (List Int)} (hp : Pairs n l) {a c : Nat} (ha : a < n) (hc : c < n) (h : orderOf n (l.map swp2) a c = true) : orderOf n l c a = true := by
 have hT := warshall_least n (pairsRel (l.map swp2) diag) (fun a c => a == c || (decide (a < n) && (decide (c < n) && orderOf n l c a))) (fun a c h => by
  rcases (pairsRel_iff _ _ a c).1 h with h1 | ⟨j, hj, h1, h2⟩
  ·simp only [diag] at h1
   rw [h1]; rfl
  ·rw [List.length_map] at hj
   rw [swap_getD l j hj] at h1 h2
   have hm : l.getD j [] ∈ l := by
    rw [List.getD_eq_getElem?_getD, List.getElem?_eq_getElem hj]; exact List.getElem_mem _
   obtain ⟨_, h3, h4, h5, h6⟩ := hp _ hm
   simp only [swp2, List.getD_cons_zero, List.getD_cons_succ] at h1 h2
   have ha' : a < n := by omega
   have hc' : c < n := by omega
   have ho : orderOf n l c a = true := warshall_le n _ c a ((pairsRel_iff _ _ c a).2 (.inr ⟨j, hj, h2, h1⟩))
   simp [ha', hc', ho]) (fun a b c h1 h2 => by
  simp only [Bool.or_eq_true, Bool.and_eq_true, beq_iff_eq, decide_eq_true_eq] at h1 h2 ⊢
  rcases h1 with rfl | ⟨h1, h3, h4⟩
  ·exact h2
  ·rcases h2 with rfl | ⟨h5, h6, h7⟩
   ·exact .inr ⟨h1, h3, h4⟩
   ·exact .inr ⟨h1, h6, order_trans h6 h3 h1 h7 h4⟩) a c h
 simp only [Bool.or_eq_true, Bool.and_eq_true, beq_iff_eq, decide_eq_true_eq] at hT
 rcases hT with rfl | ⟨_, _, h⟩
 ·exact order_refl a
 ·exact h
theorem orderOf_swap {n : Nat} {l : List (List Int)} (hp : Pairs n l) {a c : Nat} (ha : a < n) (hc : c < n) : orderOf n (l.map swp2) a c = orderOf n l c a := by
 rw [Bool.eq_iff_iff]
 refine ⟨swap_le hp ha hc, fun h => ?_⟩
 refine swap_le (pairs_swap hp) hc ha ?_
 rw [swap_swap hp]
 exact h
theorem between_swap {n : Nat} {R R' : Nat → Nat → Bool} (h : ∀ a c, a < n → c < n → R' a c = R c a) {x y : Nat} (hx : x < n) (hy : y < n) : between n R' x y = between n R y x := by
 unfold between
 rw [Bool.eq_iff_iff]
 simp only [List.any_eq_true, List.mem_range, Bool.and_eq_true]
 constructor
 ·rintro ⟨z, hz, h1, h2, h3, h4⟩
  rw [h x z hx hz] at h3
  rw [h z y hz hy] at h4
  exact ⟨z, hz, h2, h1, h4, h3⟩
 ·rintro ⟨z, hz, h1, h2, h3, h4⟩
  exact ⟨z, hz, h2, h1, by rw [h x z hx hz]; exact h4, by rw [h z y hz hy]; exact h3⟩
theorem covers_swap {n : Nat} {R R' : Nat → Nat → Bool} (h : ∀ a c, a < n → c < n → R' a c = R c a) {x y : Nat} (hx : x < n) (hy : y < n) : covers n R' x y = covers n R y x := by
 unfold covers
 rw [between_swap h hx hy, h x y hx hy]
 have : (x == y) = (y == x) := by rw [Bool.eq_iff_iff]; simp only [beq_iff_eq]; omega
 rw [this]
theorem coverRow_eq (n : Nat) (R : Nat → Nat → Bool) (x : Nat) (s : List (List Int)) : coverRow n R x s = s ++ ((List.range n).filter (covers n R x)).map (fun y : Nat => [(x : Int), (y : Int)]) := by
 have := iter_inv (fun y s => if covers n R x y then s ++ [[(x : Int), (y : Int)]] else s) (fun i (t : List (List Int)) => t = s ++ ((List.range i).filter (covers n R x)).map (fun y : Nat => [(x : Int), (y : Int)])) n 0 s (by simp) (fun j t _ _ h => by
  rw [List.range_succ, List.filter_append, List.map_append, ← List.append_assoc, ← h]
  by_cases hc : covers n R x j = true
  ·simp [hc]
  ·simp [hc])
 rw [Nat.zero_add] at this
 exact this
theorem coversOf_eq (n : Nat) (R : Nat → Nat → Bool) : coversOf n R = (List.range n).flatMap (fun x : Nat => ((List.range n).filter (covers n R x)).map (fun y : Nat => [(x : Int), (y : Int)])) := by
 have := iter_inv (coverRow n R) (fun i (t : List (List Int)) => t = (List.range i).flatMap (fun x : Nat => ((List.range n).filter (covers n R x)).map (fun y : Nat => [(x : Int), (y : Int)]))) n 0 [] (by simp) (fun j t _ _ h => by
  rw [List.range_succ, List.flatMap_append, ← h, coverRow_eq]
  simp)
 rw [Nat.zero_add] at this
 exact this
theorem mem_coversOf {n : Nat} {R : Nat → Nat → Bool} {p : List Int} : p ∈ coversOf n R ↔ ∃ x y : Nat, x < n ∧ y < n ∧ covers n R x y = true ∧ p = [(x : Int), (y : Int)] := by
 rw [coversOf_eq]
 simp only [List.mem_flatMap, List.mem_range, List.mem_map, List.mem_filter]
 constructor
 ·rintro ⟨x, hx, y, ⟨hy, hc⟩, rfl⟩
  exact ⟨x, y, hx, hy, hc, rfl⟩
 ·rintro ⟨x, y, hx, hy, hc, rfl⟩
  exact ⟨x, hx, y, ⟨hy, hc⟩, rfl⟩
def plt (p q : List Int) : Prop := p.getD 0 0 < q.getD 0 0 ∨ p.getD 0 0 = q.getD 0 0 ∧ p.getD 1 0 < q.getD 1 0
theorem coversOf_rising (n : Nat) (R : Nat → Nat → Bool) : (coversOf n R).Pairwise plt := by
 rw [coversOf_eq, List.pairwise_flatMap]
 refine ⟨fun x _ => ?_, ?_⟩
 ·rw [List.pairwise_map]
  refine List.Pairwise.imp (fun {a b} h => .inr ⟨rfl, ?_⟩) ((List.pairwise_lt_range (n := n)).filter _)
  simp only [List.getD_cons_succ, List.getD_cons_zero]
  omega
 ·refine List.Pairwise.imp (fun {a b} h p hp q hq => .inl ?_) (List.pairwise_lt_range (n := n))
  obtain ⟨y, _, rfl⟩ := List.mem_map.1 hp
  obtain ⟨z, _, rfl⟩ := List.mem_map.1 hq
  simp only [List.getD_cons_zero]
  omega
theorem coversOf_nodup (n : Nat) (R : Nat → Nat → Bool) : (coversOf n R).Nodup :=
 List.Pairwise.imp (fun {a b} h e => by subst e; unfold plt at h; omega) (coversOf_rising n R)
theorem covers_perm {n : Nat} {R R' : Nat → Nat → Bool} (h : ∀ a c, a < n → c < n → R' a c = R c a) : ((coversOf n R).map swp2).Perm (coversOf n R') := by
 refine (List.perm_ext_iff_of_nodup ?_ (coversOf_nodup n R')).2 (fun p => ?_)
 ·refine List.pairwise_map.2 (List.Pairwise.imp_of_mem (fun {a b} ha hb h e => ?_) (coversOf_nodup n R))
  refine h ?_
  rw [← swp2_swp2 (covers_two n R a ha), e, swp2_swp2 (covers_two n R b hb)]
 ·rw [List.mem_map, mem_coversOf]
  constructor
  ·rintro ⟨q, hq, rfl⟩
   obtain ⟨x, y, hx, hy, hc, rfl⟩ := mem_coversOf.1 hq
   exact ⟨y, x, hy, hx, by rw [covers_swap h hy hx]; exact hc, rfl⟩
  ·rintro ⟨x, y, hx, hy, hc, rfl⟩
   exact ⟨[(y : Int), (x : Int)], mem_coversOf.2 ⟨y, x, hy, hx, by rw [← covers_swap h hx hy]; exact hc, rfl⟩, rfl⟩
theorem isOrd_swap {n : Nat} {R R' : Nat → Nat → Bool} (h : ∀ a c, a < n → c < n → R' a c = R c a) : isOrd n R' = isOrd n R := by
 rw [Bool.eq_iff_iff, isOrd_iff, isOrd_iff]
 constructor
 ·intro h1 x y hx hy hne h2
  have := h1 y x hy hx (Ne.symm hne) (by rw [h y x hy hx]; exact h2)
  rw [h x y hx hy] at this; exact this
 ·intro h1 x y hx hy hne h2
  rw [h y x hy hx]
  rw [h x y hx hy] at h2
  exact h1 y x hy hx (Ne.symm hne) h2
theorem sorted_covers {n : Nat} {R R' : Nat → Nat → Bool} (h : ∀ a c, a < n → c < n → R' a c = R c a) (lt : List Int → List Int → Bool) (hlt : ∀ p q : List Int, p.length = 2 → q.length = 2 → (lt p q = true ↔ plt p q)) (l : List (List Int)) (hl : l.Pairwise (fun x y => (!lt y x) = true)) (hp : l.Perm ((coversOf n R).map swp2)) : l = coversOf n R' := by
 have hp' := hp.trans (covers_perm h)
 have h2 := covers_two n R'
 refine List.Perm.eq_of_pairwise (le := fun x y => (!lt y x) = true) ?_ hl ?_ hp'
 ·intro a b ha hb h3 h4
  have la := h2 a (hp'.mem_iff.1 ha)
  have lb := h2 b hb
  have n1 : ¬ plt b a := fun h => by rw [(hlt b a lb la).2 h] at h3; simp at h3
  have n2 : ¬ plt a b := fun h => by rw [(hlt a b la lb).2 h] at h4; simp at h4
  match a, la, b, lb with
  | [a0, a1], _, [b0, b1], _ =>
   simp only [plt, List.getD_cons_zero, List.getD_cons_succ] at n1 n2
   have e0 : a0 = b0 := by omega
   have e1 : a1 = b1 := by omega
   rw [e0, e1]
 ·refine List.Pairwise.imp_of_mem (fun {a b} ha hb h3 => ?_) (coversOf_rising n R')
  rw [Bool.not_eq_true']
  cases h4 : lt b a with
  | false => rfl
  | true =>
   have := (hlt b a (h2 b hb) (h2 a ha)).1 h4
   unfold plt at this h3
   omega
end Go.Proofs.Ytmnplhkimpeocaa.B

set_option linter.unusedVariables false
set_option linter.unusedSimpArgs false
namespace Go.Proofs.Ytmnplhkimpeocaa.B
open Go.RowKit Go.Proofs.YtmnplhkimpeocaaW.PrintWords

def posetOf (a : Int) (l : List (List Int)) : Int × List (List Int) × Int :=
 if (decide (0 ≤ a) && decide (a ≤ 12)) = true then
  if l.all (isPair a) = true then
   if isOrd a.toNat (orderOf a.toNat l) = true then
    if ((coversOf a.toNat (orderOf a.toNat l)).length : Int) > 30 then (0, [], 5) else (a, coversOf a.toNat (orderOf a.toNat l), 0)
   else (0, [], 6)
  else (0, [], 2)
 else (0, [], 2)
section
variable {a : Int} {l : List (List Int)}
theorem specPosetOf_ev (hl : l.length < 9223372036854775807) : Ev (fun k => z13.f k a l) (posetOf a l) := by
 unfold z13.f posetOf
 refine Ev.bind (ev_const (in_val a 0 12)) ?_
 by_cases hs : (decide (0 ≤ a) && decide (a ≤ 12)) = true
 ·obtain ⟨n, rfl, hn⟩ := size_nat hs
  rw [if_pos hs]
  refine ev_pos hs ?_
  refine Ev.bind (specPairs_ev _ l hl) ?_
  refine Ev.step (fun k => z13.j0.eq_2 ..) ?_
  by_cases hp : l.all (isPair (n : Int)) = true
  ·rw [if_pos hp]
   refine ev_neg (by rw [hp]; decide) (Ev.bind (table_ev hn (pairs_of n hn l hp) hl) (Ev.bind (specCovers_ev hn) ?_))
   rw [Int.toNat_natCast]
   by_cases ho : isOrd n (orderOf n l) = true
   ·rw [if_pos ho, if_pos ho]
    refine ev_pos rfl ?_
    by_cases hc : ((coversOf n (orderOf n l)).length : Int) > 30
    ·refine ev_pos hc ?_
     rw [if_pos hc]; exact Ev.now _
    ·refine ev_neg hc ?_
     rw [if_neg hc]; exact Ev.now _
   ·rw [if_neg ho, if_neg ho]; exact ev_neg (by decide) (Ev.now _)
  ·rw [if_neg hp]
   exact ev_pos (by simpa using hp) (Ev.now _)
 ·rw [if_neg hs]
  refine ev_neg hs ?_
  refine Ev.step (fun k => z13.j0.eq_2 ..) ?_
  exact ev_pos rfl (Ev.now _)
end
theorem posetOf_small (a : Int) (l : List (List Int)) : (posetOf a l).2.1.length ≤ 144 ∧ ∀ x ∈ (posetOf a l).2.1, x.length = 2 := by
 unfold posetOf
 by_cases hs : (decide (0 ≤ a) && decide (a ≤ 12)) = true
 ·rw [if_pos hs]
  obtain ⟨n, rfl, hn⟩ := size_nat hs
  rw [Int.toNat_natCast]
  split
  ·split
   ·split
    ·simp
    ·exact ⟨covers_small hn _, covers_two n _⟩
   ·simp
  ·simp
 ·rw [if_neg hs]; simp
end Go.Proofs.Ytmnplhkimpeocaa.B

set_option linter.unusedVariables false
set_option linter.unusedSimpArgs false
namespace Go.Proofs.Ytmnplhkimpeocaa.B
open Go.RowKit Go.Proofs.YtmnplhkimpeocaaW.PrintWords
open SimT

theorem lexlt_plt {p q : List Int} (hp : p.length = 2) (hq : q.length = 2) : lexlt p q = true ↔ plt p q := by
 match p, hp, q, hq with
 | [a, b], _, [c, d], _ =>
  simp only [lexlt, plt, List.getD_cons_zero, List.getD_cons_succ]
  by_cases h1 : a < c
  ·simp [h1]
  ·by_cases h2 : c < a
   ·have : ¬ a = c := by omega
    simp [h1, h2, this]
   ·have h3 : a = c := by omega
    subst h3
    by_cases h4 : b < d
    ·simp [h4]
    ·by_cases h5 : d < b
     ·simp [h4, h5]
     ·simp [h4, h5]
theorem swap_small {l : List (List Int)} (hl : l.length ≤ 1048576) : (l.map swp2).length ≤ 1048576 ∧ ∀ x ∈ l.map swp2, x.length ≤ 1048576 := by
 refine ⟨by rw [List.length_map]; exact hl, fun x hx => ?_⟩
 obtain ⟨p, _, rfl⟩ := List.mem_map.1 hx
 show (2 : Nat) ≤ 1048576
 omega
theorem sortL2_val {l : List (List Int)} (hl : l.length ≤ 1048576) : slices_SortFunc_at_slices_Compare.f (l.map swp2) = some (sortL2 (l.map swp2)) := by
 unfold slices_SortFunc_at_slices_Compare.f
 obtain ⟨h1, h2⟩ := swap_small hl
 rw [if_pos]
 simp only [Bool.and_eq_true, decide_eq_true_eq, List.all_eq_true]
 exact ⟨h1, h2⟩
theorem sortL2_pairwise (l : List (List Int)) : (sortL2 l).Pairwise (fun x y => (!lexlt y x) = true) := by
 unfold sortL2
 refine List.pairwise_mergeSort (fun a b c h1 h2 => ?_) (fun a b => ?_) _
 ·have := swo_lexcmp.ntrans c b a
  rw [lt_lexcmp, lt_lexcmp, lt_lexcmp] at this
  simp only [Bool.not_eq_true'] at h1 h2 ⊢
  exact this h2 h1
 ·cases h : lexlt b a with
  | false => simp
  | true =>
   cases h2 : lexlt a b with
   | false => simp
   | true =>
    have := lexlt_trans h h2
    rw [lexlt_irrefl] at this
    cases this
def dualL (a : Int) (l : List (List Int)) : List (List Int) := coversOf a.toNat (orderOf a.toNat (l.map swp2))
section
variable {a : Int} {l : List (List Int)}
theorem dual_sorted (ho : okPoset a l = true) : sortL2 (l.map swp2) = dualL a l := by
 obtain ⟨n, rfl, hn, _, hp, _, hc⟩ := okPoset_iff.1 ho
 have hP := pairs_of n hn l hp
 unfold dualL
 rw [Int.toNat_natCast]
 refine sorted_covers (n := n) (R := orderOf n l) (fun a c ha hc => orderOf_swap hP ha hc) lexlt (fun p q hp hq => lexlt_plt hp hq) _ (sortL2_pairwise _) ?_
 rw [hc]
 exact List.mergeSort_perm _ _
theorem posetOf_swap (ho : okPoset a l = true) : posetOf a (l.map swp2) = (a, dualL a l, 0) := by
 obtain ⟨n, rfl, hn, h30, hp, hord, hc⟩ := okPoset_iff.1 ho
 have hP := pairs_of n hn l hp
 have hsz : (decide (0 ≤ (n : Int)) && decide ((n : Int) ≤ 12)) = true := by simp; omega
 have hps : (l.map swp2).all (isPair (n : Int)) = true := by
  rw [List.all_eq_true] at hp ⊢
  intro x hx
  obtain ⟨p, hpm, rfl⟩ := List.mem_map.1 hx
  have := hp p hpm
  unfold isPair at this ⊢
  simp only [Bool.and_eq_true, beq_iff_eq] at this ⊢
  exact ⟨rfl, this.2.2, this.2.1⟩
 have hos : isOrd n (orderOf n (l.map swp2)) = true := by rw [isOrd_swap (R := orderOf n l) (fun a c ha hc => orderOf_swap hP ha hc)]; exact hord
 have hlen : (coversOf n (orderOf n (l.map swp2))).length = l.length := by
  have := (covers_perm (n := n) (R := orderOf n l) (R' := orderOf n (l.map swp2)) (fun a c ha hc => orderOf_swap hP ha hc)).length_eq
  rw [List.length_map, hc] at this
  exact this.symm
 unfold posetOf dualL
 rw [if_pos hsz, if_pos hps, Int.toNat_natCast, if_pos hos, if_neg (by rw [hlen]; omega)]
def dualC (a : Int) (l : List (List Int)) : Int × List (List Int) × Int := if okPoset a l = true then (a, dualL a l, 0) else (0, [], 1)
theorem dual_small (a : Int) (l : List (List Int)) : (dualC a l).2.1.length ≤ 144 ∧ ∀ x ∈ (dualC a l).2.1, x.length = 2 := by
 unfold dualC
 split
 ·rename_i ho
  obtain ⟨n, rfl, hn, _⟩ := okPoset_iff.1 ho
  unfold dualL
  rw [Int.toNat_natCast]
  exact ⟨covers_small hn _, covers_two n _⟩
 ·simp
theorem pair_shape {n : Nat} (hP : Pairs n l) {j : Nat} (hj : j < l.length) : ∃ x y : Int, l.getD j [] = [x, y] := by
 have := (hP _ (getD_mem ([] : List Int) hj)).1
 match h : l.getD j [], this with
 | [x, y], _ => exact ⟨x, y, rfl⟩
theorem rd_z (x : List Int) : rd x 0 = x.getD 0 0 := by simp [rd]
theorem rd_o (x : List Int) : rd x 1 = x.getD 1 0 := by simp [rd]
theorem implDual_ev (hl : l.length ≤ 1048576) : Ev (fun k => z7.f k a l) (dualC a l) := by
 unfold z7.f dualC
 refine Ev.bind (implValidPoset_ev (a := a) (by omega)) ?_
 cases ho : okPoset a l with
 | false => exact ev_neg (by decide) (ev_eq (Ev.now _) (by simp))
 | true =>
  obtain ⟨n, hna, hn, h30, hp, _⟩ := okPoset_iff.1 ho
  have hP := pairs_of n hn l hp
  have e : l.map swp2 = (List.range l.length).map fun j => swp2 (l.getD j []) := map_range [] swp2 l
  refine ev_pos rfl (ev_eq (r := (a, dualL a l, 0)) ?_ (by simp))
  refine ev_map (fun (s : List (List Int)) (j : Nat) k => z7.l0 k s l (l.length : Int) (j : Int) a l) (fun j => swp2 (l.getD j [])) l.length (fun j s hj hs r hr' => ?_) _ ?_
  ·have hsl : s.length = j := by rw [hs]; simp
   obtain ⟨x, y, hxy⟩ := pair_shape hP hj
   refine Ev.step (fun k => z7.l0.eq_2 ..) ?_
   rw [rdl_nat, wrap_succ (by omega)]
   rw [hxy] at hr' ⊢
   exact ev_pos (by omega) (ev_pos (by omega) (ev_pos (by omega) (ev_pos (by simp) (ev_pos (by simp) (ev_pos (by omega) hr')))))
  ·rw [← e]
   refine Ev.step (fun k => z7.l0.eq_2 ..) ?_
   refine ev_neg (by omega) (Ev.bind (ev_const (sortL2_val hl)) ?_)
   rw [dual_sorted ho]
   exact Ev.now _
theorem specDual_ev (hl : l.length ≤ 1048576) : Ev (fun k => z5.f k a l) (dualC a l) := by
 unfold z5.f dualC
 refine Ev.bind (specOk_ev (a := a) (by omega)) ?_
 cases ho : okPoset a l with
 | false => exact ev_neg (by decide) (ev_eq (Ev.now _) (by simp))
 | true =>
  obtain ⟨n, hna, hn, h30, hp, _⟩ := okPoset_iff.1 ho
  have hP := pairs_of n hn l hp
  have e : l.map swp2 = (List.range l.length).map fun j => swp2 (l.getD j []) := map_range [] swp2 l
  refine ev_pos rfl (ev_eq (r := (a, dualL a l, 0)) ?_ (by simp))
  refine ev_map (fun (s : List (List Int)) (j : Nat) k => z5.l0 k s (j : Int) a l) (fun j => swp2 (l.getD j [])) l.length (fun j s hj hs r hr' => ?_) _ ?_
  ·have hsl : s.length = j := by rw [hs]; simp
   obtain ⟨x, y, hxy⟩ := pair_shape hP hj
   refine Ev.step (fun k => z5.l0.eq_2 ..) ?_
   rw [rdl_nat, wrap_succ (by omega)]
   rw [hxy] at hr' ⊢
   exact ev_pos (by omega) (ev_pos (by omega) (ev_pos (by simp) (ev_pos (by simp) (ev_pos (by omega) hr'))))
  ·rw [← e]
   have hs := specPosetOf_ev (a := a) (l := l.map swp2) (by rw [List.length_map]; omega)
   rw [posetOf_swap ho] at hs
   refine Ev.step (fun k => z5.l0.eq_2 ..) ?_
   exact ev_neg (by omega) (Ev.bind hs (Ev.now _))
end
theorem pure_DualPoset {a0 : Int} {l1 : List (List Int)} (h0 : Wf a0) (h1 : WfLL l1) : ∃ k, z3.f k a0 l1 = some true := by
 refine Ev.rounds (g := fun k => z3.f k a0 l1) ?_
 unfold z3.f
 rcases szPoset_ev a0 l1 1048576 h1 (by omega) (by omega) with ⟨t, ht, hn⟩ | ⟨ht, hb⟩
 ·exact Ev.bind ht (ev_pos hn (Ev.now _))
 ·have htn := total_nonneg l1
  have hrow : ∀ x ∈ l1, x.length ≤ 1048576 := fun x hx => by have := row_le_total l1 x hx; omega
  have hlen : l1.length ≤ 1048576 := by omega
  have hto := toPoset_ev a0 l1 hlen hrow
  have hlt : l1.length < 9223372036854775807 := by omega
  have hsp := specDual_ev (a := a0) hlen
  have him := implDual_ev (a := a0) hlen
  obtain ⟨hs1, hs2⟩ := dual_small a0 l1
  have htot := two_total hs1 hs2
  generalize dualC a0 l1 = g at hsp him hs1 hs2 htot
  obtain ⟨g0, g1, g2⟩ := g
  dsimp only at hs1 hs2 htot
  have heg := eqPoset_self g0 g1 (Nat.lt_of_le_of_lt hs1 (by decide)) (fun x hx => by rw [hs2 x hx]; decide)
  have heq := eqPoset_self a0 l1 hlt (fun x hx => by have := hrow x hx; omega)
  have hm1 : laws_markPoset.f a0 l1 1 = some (1 + total l1, markRows l1 1) := mark_val l1 1 (by omega) (by omega)
  have hm2 : laws_markPoset.f g0 g1 1 = some (1 + total g1, markRows g1 1) := mark_val g1 1 (by omega) (by omega)
  have hh := heldPoset_ev g0 g1 1 (by omega) (by omega) (Nat.lt_of_le_of_lt hs1 (by decide))
  have hg0 := total_nonneg g1
  refine Ev.bind ht (ev_neg (by omega) ?_)
  (repeat (first | exact Ev.now _ | refine ev_pos rfl ?_ | refine ev_neg (by simp only []; omega) ?_ | refine ev_neg (by omega) ?_ | refine ev_neg (by simp) ?_ | refine Ev.bind (by assumption) ?_ | refine Ev.bind (ev_const (by assumption)) ?_))
end Go.Proofs.Ytmnplhkimpeocaa.B

