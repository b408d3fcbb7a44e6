/- What the functions come to, for the law FnExactBoundaryOf. -/
import Derived.Test.YtipkciildhghiaaKCHHHHI0
import Derived.Test.YtipkciildhghiaaKHAIOGB0
import Derived.Test.YtipkciildhghiaaKHGNPLP0
import Derived.Test.YtipkciildhghiaaKJAGPEI0
import Derived.Test.YtipkciildhghiaaKJGAKKK0
import Derived.Test.YtipkciildhghiaaKKEBAJI0
import Derived.Test.YtipkciildhghiaaKLDFBAJ0
import Derived.Test.YtipkciildhghiaaKLKNNEM0
import Derived.Test.YtipkciildhghiaaKLKPPDI0
import Derived.Test.YtipkciildhghiaaKMBBBEH0
import Derived.Test.YtipkciildhghiaaKMICICC0
import Derived.Test.YtipkciildhghiaaKNAGCJB0
import Derived.Test.YtipkciildhghiaaKNDHLAA0
import Derived.Test.YtipkciildhghiaaKNMBNGE0
import Derived.Test.YtipkciildhghiaaKNNGFGH0
import Derived.Test.YtipkciildhghiaaKODPPFB0
import Derived.Test.YtipkciildhghiaaKOILLIC0
import Derived.Test.YtipkciildhghiaaKOKKPPG0
import Derived.Test.YtipkciildhghiaaKW0
import Derived.Below
import Derived.ChangeOld
import Derived.Deep.Matrix
import Derived.Lib.SmallJoins
import Derived.OpenShut
import Derived.ProofKit
import Derived.ShutString
import Derived.SizedLaws
import Derived.WalkKit
set_option linter.unusedVariables false
set_option linter.unusedSimpArgs false
namespace Go.Proofs.Ytipkciildhghiaa.B
open Go.RowKit Go.ChangeShapes Go.WideShapes Go.Deep Go.Proofs.YtipkciildhghiaaW.PrintWords

def Wf (n : Int) : Prop := -9223372036854775808 ≤ n ∧ n ≤ 9223372036854775807
def WfL (l : List Int) : Prop := l.length ≤ 9223372036854775807 ∧ ∀ n ∈ l, Wf n
def WfLL (l : List (List Int)) : Prop := l.length ≤ 9223372036854775807 ∧ ∀ r ∈ l, WfL r
theorem wf_of {n : Int} (h : (Lit.int .i64 n).wf = true) : Wf n := by
 unfold Wf
 simp [Lit.wf, IntKind.min, IntKind.max, IntKind.bits, IntKind.signed] at h
 omega

section
variable {H : Type} {enc : TypeId × Value → H} {P : Program} {w : World} {base : Nat} {held : Bool} {fuel : Nat}
theorem opened_int {t : TypeId} {v : Value} {x : DataW H × List MemPlace} (ht : P.underlying t = some (.int .i64)) (h : DataW.trod enc P w base (fun _ => true) held fuel t [v] = some x) : ∃ n, v = .int .i64 n ∧ Wf n := by
 obtain ⟨n, he, _, hw⟩ := DataW.trod_int ht h
 exact ⟨n, by simpa using he, wf_of hw⟩
theorem opened_ints {t e : TypeId} {v : Value} {x : DataW H × List MemPlace} (ht : P.underlying t = some (.slice e)) (he : P.underlying e = some (.int .i64)) (hc : P.cellsOf e = 1) (h : DataW.trod enc P w base (fun _ => true) held fuel t [v] = some x) :
  ∃ A l c, v = .slice A l.length c ∧ (Kd.int .i64).C w A l.length l ∧ l.length ≤ c ∧ WfL l := by
 rcases open_ints ht he hc h with ⟨hcs, _⟩ | ⟨a, l, c, zs, hcs, _, hl, hm, hz, _, hcell, hwz⟩
 ·refine ⟨none, [], 0, by simpa using hcs, ⟨rfl, by simp, fun h => by simp at h⟩, by simp, by simp [WfL]⟩
 ·simp only [if_true] at hz
  have hlen : (zs.take l).length = l := by rw [List.length_take]; omega
  refine ⟨some a, zs.take l, c, by rw [hlen]; simpa using hcs, ⟨rfl, by rw [hlen]; simp only [maxLen] at hm; omega, fun _ => ⟨a, rfl, fun j p hj => ?_⟩⟩, by omega, ?_, fun n hn => wf_of (hwz n (List.mem_of_mem_take hn))⟩
  ·have hjl : j < l := by have := (List.getElem?_eq_some_iff.1 hj).1; omega
   refine ⟨[.int .i64 p], rfl, rfl, fun i u hu => ?_⟩
   cases i with
   | zero =>
    simp only [List.getElem?_cons_zero, Option.some.injEq] at hu
    subst hu
    rw [Nat.add_zero, show j * (Kd.int .i64).sz = j from Nat.mul_one j, hcell j (by omega)]
    rw [List.getElem?_take, if_pos hjl] at hj
    rw [List.getD_eq_getElem?_getD, hj]; rfl
   | succ i => simp at hu
  ·rw [hlen]; simp only [maxLen] at hm; omega
theorem opened_rows {t e q : TypeId} {v : Value} {x : DataW H × List MemPlace} (ht : P.underlying t = some (.slice e)) (he : P.underlying e = some (.slice q)) (hq : P.underlying q = some (.int .i64)) (ce : P.cellsOf e = 1) (cq : P.cellsOf q = 1) (h : DataW.trod enc P w base (fun _ => true) held fuel t [v] = some x) :
  ∃ A l c, v = .slice A l.length c ∧ (Kd.slice 2 (Kd.int .i64)).C w A l.length l ∧ l.length ≤ c ∧ WfLL l := by
 rcases open_slice1 ht ce h with ⟨hcs, _⟩ | ⟨a, l, c, m, n, V, D, Pl, hcs, _, hl, hm, hmm, _, hx⟩
 ·refine ⟨none, [], 0, by simpa using hcs, ⟨rfl, by simp, fun h => by simp at h⟩, by simp, by simp [WfLL]⟩
 ·simp only [if_true] at hmm
  subst hmm
  have each : ∀ r, r < m → ∃ y : Option Addr × List Int × Nat, V r = .slice y.1 y.2.1.length y.2.2 ∧ (Kd.int .i64).C w y.1 y.2.1.length y.2.1 ∧ y.2.1.length ≤ y.2.2 ∧ WfL y.2.1 := by
   intro r hr
   obtain ⟨A, l, c, h1, h2, h3, h4⟩ := opened_ints he hq cq (hx r hr).2
   exact ⟨(A, l, c), h1, h2, h3, h4⟩
  obtain ⟨y, hy⟩ := choose_lt each
  have hlen : ((List.range l).map fun r => (y r).2.1).length = l := by simp
  refine ⟨some a, (List.range l).map fun r => (y r).2.1, m, by rw [hlen]; simpa using hcs, ⟨rfl, by rw [hlen]; simp only [maxLen] at hm; omega, fun _ => ⟨a, rfl, fun j p hj => ?_⟩⟩, by omega, ?_, ?_⟩
  ·have hjl : j < l := by have := (List.getElem?_eq_some_iff.1 hj).1; omega
   rw [List.getElem?_map, List.getElem?_range hjl] at hj
   simp only [Option.map_some, Option.some.injEq] at hj
   subst hj
   obtain ⟨h1, h2, h3, h4⟩ := hy j (by omega)
   refine ⟨[.slice (y j).1 (y j).2.1.length (y j).2.2], rfl, ⟨_, _, rfl, h3, h2⟩, fun i u hu => ?_⟩
   cases i with
   | zero =>
    simp only [List.getElem?_cons_zero, Option.some.injEq] at hu
    subst hu
    rw [Nat.add_zero, show j * (Kd.slice 2 (Kd.int .i64)).sz = j from Nat.mul_one j, (hx j (by omega)).1, h1]
   | succ i => simp at hu
  ·rw [hlen]; simp only [maxLen] at hm; omega
  ·intro r hr
   simp only [List.mem_map, List.mem_range] at hr
   obtain ⟨j, hj, rfl⟩ := hr
   exact (hy j (by omega)).2.2.2

theorem open_agg1 {r : Reach} {b0 : Nat} {t : TypeId} {f0 : Field} {v : Value} {d : DataW H} {p : List MemPlace} (hs : P.underlying t = some (.struct #[f0])) (hone : oneCellFields P #[f0] = true) (hC : P.cellsOf t = 1)
  (hv : Value.okWide P w r b0 t v) (h : DataW.Trod enc P w base (fun _ => true) held t v d p) :
  ∃ (v0 : Value) (y0 : DataW H × List MemPlace) (n : Nat), v = .agg #[v0] ∧ DataW.trod enc P w base (fun _ => true) held n f0.type [v0] = some y0 := by
 obtain ⟨cs, rfl, hsz⟩ := okWide_struct hs hv
 obtain ⟨c0, rfl⟩ : ∃ c0, cs = #[c0] := by
  have h1 : cs.size = 1 := hsz.trans hC
  match cs, h1 with | ⟨[c0]⟩, _ => exact ⟨c0, rfl⟩
 obtain ⟨fuel, hf⟩ := h
 obtain ⟨y0, n, hx, _, h0⟩ := trod_struct1 hs hf
 obtain ⟨o0, k0⟩ := hone_of hone 0 f0 rfl
 exact ⟨c0, y0, n, rfl, by simpa [Value.cells, o0, k0] using h0⟩
end
theorem own : ownKnob Try.prog.godebug = none := by kernel_rfl
theorem laidOut : laidOutB Try.prog = true := by kernel_rfl
end Go.Proofs.Ytipkciildhghiaa.B

set_option linter.unusedVariables false
set_option linter.unusedSimpArgs false
namespace Go.Proofs.Ytipkciildhghiaa.B
open Go.RowKit Go.Proofs.YtipkciildhghiaaW.PrintWords

theorem szInt64S_val (l : List Int) (a : Int) (h0 : 0 ≤ a) (h1 : a ≤ 9223372036854775807) (hl : l.length ≤ 9223372036854775807) : z72.f l a = some (if a - l.length < 0 then -1 else a - l.length) := by
 unfold z72.f
 have e : wrap64 (a - (l.length : Int)) = a - l.length := wrap_small (by omega) (by omega)
 rw [e]
 split <;> rfl
theorem szInt64SS_ev (l : List (List Int)) (a : Int) (hw : WfLL l) (h0 : 0 ≤ a) (h1 : a ≤ 9223372036854775807) :
  (∃ t, Ev (fun k => z29.f k l a) t ∧ t < 0) ∨ (Ev (fun k => z29.f k l a) (a - l.length - total l) ∧ l.length + total l ≤ a) := by
 have loop : ∀ (d i : Nat) (b : Int), d + i = l.length → 0 ≤ b → b ≤ 9223372036854775807 → (∃ t, Ev (fun k => z29.l0 k l b (i : Int)) t ∧ t < 0) ∨ (Ev (fun k => z29.l0 k l b (i : Int)) (b - total (l.drop i)) ∧ total (l.drop i) ≤ b) := by
  intro d
  induction d with
  | zero =>
   intro i b hd hb0 hb1
   right
   have hi : l.length = i := by omega
   rw [List.drop_of_length_le (by omega)]
   refine ⟨Ev.step (fun k => z29.l0.eq_2 ..) (ev_neg (by omega) (ev_eq (Ev.now b) (by simp [total]))), by simpa [total] using hb0⟩
  | succ d ih =>
   intro i b hd hb0 hb1
   have hi : i < l.length := by omega
   have hdr : l.drop i = l.getD i [] :: l.drop (i + 1) := by
    rw [List.drop_eq_getElem_cons hi, List.getD_eq_getElem?_getD, List.getElem?_eq_getElem hi]; rfl
   have hm : l.getD i [] ∈ l := by
    rw [List.getD_eq_getElem?_getD, List.getElem?_eq_getElem hi]; exact List.getElem_mem hi
   have hrl := (hw.2 _ hm).1
   have hv := szInt64S_val (l.getD i []) b hb0 hb1 hrl
   have hrd : rd_ListInt l (i : Int) = l.getD i [] := by simp [rd_ListInt]
   have hlen : l.length ≤ 9223372036854775807 := hw.1
   by_cases hneg : b - ((l.getD i []).length : Int) < 0
   ·left
    rw [if_pos hneg] at hv
    refine ⟨-1, Ev.step (fun k => z29.l0.eq_2 ..) (ev_pos (by omega) (ev_pos (by omega) ?_)), by omega⟩
    rw [hrd]
    exact Ev.bind (ev_const hv) (ev_pos (by omega) (Ev.now _))
   ·rw [if_neg hneg] at hv
    rcases ih (i + 1) (b - ((l.getD i []).length : Int)) (by omega) (by omega) (by omega) with ⟨t, ht, htn⟩ | ⟨ht, htb⟩
    ·left
     refine ⟨t, Ev.step (fun k => z29.l0.eq_2 ..) (ev_pos (by omega) (ev_pos (by omega) ?_)), htn⟩
     rw [hrd, wrap_succ (by omega)]
     exact Ev.bind (ev_const hv) (ev_neg (by omega) ht)
    ·right
     rw [hdr]
     simp only [total]
     refine ⟨Ev.step (fun k => z29.l0.eq_2 ..) (ev_pos (by omega) (ev_pos (by omega) ?_)), by omega⟩
     rw [hrd, wrap_succ (by omega)]
     exact Ev.bind (ev_const hv) (ev_neg (by omega) (ev_eq ht (by omega)))
 have hlen : l.length ≤ 9223372036854775807 := hw.1
 have e : wrap64 (a - (l.length : Int)) = a - l.length := wrap_small (by omega) (by omega)
 by_cases hneg : a - (l.length : Int) < 0
 ·left
  refine ⟨-1, ?_, by omega⟩
  unfold z29.f
  rw [e]
  exact ev_pos hneg (Ev.now _)
 ·rcases loop l.length 0 (a - l.length) (by omega) (by omega) (by omega) with ⟨t, ht, htn⟩ | ⟨ht, htb⟩
  ·left
   refine ⟨t, ?_, htn⟩
   unfold z29.f
   rw [e]
   exact ev_neg hneg ht
  ·right
   refine ⟨?_, by simp only [List.drop_zero] at htb; omega⟩
   unfold z29.f
   rw [e]
   exact ev_neg hneg ht

theorem toInt64S_ev (l : List Int) (hl : l.length ≤ 1048576) : Ev (fun k => z38.f k l) l := by
 have h := le_iter_inv (fun (s : List Int) (i : Nat) k => z38.l0 k l s (i : Int)) (fun i s => s.set i (l.getD i 0)) (fun i s => s = l.take i ++ List.replicate (l.length - i) 0) l.length 0 (List.replicate l.length 0) (by simp) (by
  intro j s _ hj hs
  refine ⟨fun r hr => Ev.step (fun k => z38.l0.eq_2 ..) (ev_pos (by omega) (ev_pos (by omega) (ev_pos ?_ ?_))), ?_⟩
  ·subst hs; simp only [List.length_append, List.length_take, List.length_replicate]; omega
  ·rw [wrap_succ (by omega), rd_nat, Int.toNat_natCast]; exact hr
  ·subst hs; exact set_prefix l j 0 (by omega) _ rfl)
 unfold z38.f
 refine ev_pos (by omega) (ev_pos (by omega) ?_)
 rw [Int.toNat_natCast]
 refine h.1 l (Ev.step (fun k => z38.l0.eq_2 ..) (ev_neg (by omega) (ev_eq (Ev.now _) ?_)))
 rw [h.2]
 simp
theorem toInt64SS_ev (l : List (List Int)) (hl : l.length ≤ 1048576) (hr : ∀ x ∈ l, x.length ≤ 1048576) : Ev (fun k => z31.f k l) l := by
 have h := le_iter_inv (fun (s : List (List Int)) (i : Nat) k => z31.l0 k l s (i : Int)) (fun i s => s.set i (l.getD i [])) (fun i s => s = l.take i ++ List.replicate (l.length - i) []) l.length 0 (List.replicate l.length []) (by simp) (by
  intro j s _ hj hs
  have hm : l.getD j [] ∈ l := by
   rw [List.getD_eq_getElem?_getD, List.getElem?_eq_getElem (by omega)]; exact List.getElem_mem _
  have hrd : rd_ListInt l (j : Int) = l.getD j [] := by simp [rd_ListInt]
  refine ⟨fun r hr' => Ev.step (fun k => z31.l0.eq_2 ..) (ev_pos (by omega) (ev_pos (by omega) ?_)), ?_⟩
  ·rw [hrd]
   refine Ev.bind (toInt64S_ev _ (hr _ hm)) (ev_pos ?_ ?_)
   ·subst hs; simp only [List.length_append, List.length_take, List.length_replicate]; omega
   ·rw [wrap_succ (by omega), Int.toNat_natCast]; exact hr'
  ·subst hs; exact set_prefix l j [] (by omega) _ rfl)
 unfold z31.f
 refine ev_pos (by omega) (ev_pos (by omega) ?_)
 rw [Int.toNat_natCast]
 refine h.1 l (Ev.step (fun k => z31.l0.eq_2 ..) (ev_neg (by omega) (ev_eq (Ev.now _) ?_)))
 rw [h.2]
 simp

theorem list_eq_range {α : Type} [BEq α] [LawfulBEq α] (l m : List α) (z : α) (h : l.length = m.length) : (List.range l.length).all (fun i => l.getD i z == m.getD i z) = (l == m) := by
 rw [Bool.eq_iff_iff, List.all_eq_true, beq_iff_eq]
 constructor
 ·intro e
  apply List.ext_getElem h
  intro i h1 h2
  have := e i (List.mem_range.2 h1)
  simpa [List.getD_eq_getElem?_getD, List.getElem?_eq_getElem h1, List.getElem?_eq_getElem h2] using this
 ·rintro rfl i _
  exact beq_self_eq_true _
theorem len_ne_beq {α : Type} [BEq α] [LawfulBEq α] {l m : List α} (h : l.length ≠ m.length) : (l == m) = false := by
 rw [Bool.eq_false_iff]; intro e; exact h (by rw [eq_of_beq e])
theorem eqInt64S_ev (l m : List Int) (hl : l.length < 9223372036854775807) : Ev (fun k => z19.f k l m) (l == m) := by
 unfold z19.f
 by_cases h : l.length = m.length
 ·refine ev_pos (by omega) ?_
  rw [← list_eq_range l m 0 h]
  refine ev_all (fun (i : Nat) k => z19.l0 k l m (i : Int)) _ l.length (fun j hj hp r hr => ?_) (fun j hj hp => ?_) ?_
  ·refine Ev.step (fun k => z19.l0.eq_2 ..) (ev_pos (by omega) (ev_pos (by omega) (ev_pos (by omega) (ev_pos ?_ ?_))))
   ·rw [rd_nat, rd_nat]; exact eq_of_beq hp
   ·rw [wrap_succ (by omega)]; exact hr
  ·refine Ev.step (fun k => z19.l0.eq_2 ..) (ev_pos (by omega) (ev_pos (by omega) (ev_pos (by omega) (ev_neg ?_ (Ev.now _)))))
   rw [rd_nat, rd_nat]; exact ne_of_beq_false hp
  ·exact Ev.step (fun k => z19.l0.eq_2 ..) (ev_neg (by omega) (Ev.now _))
 ·rw [len_ne_beq h]
  exact ev_neg (by omega) (Ev.now _)
theorem eqInt64SS_ev (l m : List (List Int)) (hl : l.length < 9223372036854775807) (hr : ∀ x ∈ l, x.length < 9223372036854775807) : Ev (fun k => z33.f k l m) (l == m) := by
 unfold z33.f
 by_cases h : l.length = m.length
 ·refine ev_pos (by omega) ?_
  rw [← list_eq_range l m [] h]
  have hm : ∀ j, j < l.length → Ev (fun k => z19.f k (rd_ListInt l (j : Int)) (rd_ListInt m (j : Int))) (l.getD j [] == m.getD j []) := fun j hj => by
   have h1 : rd_ListInt l (j : Int) = l.getD j [] := by simp [rd_ListInt]
   have h2 : rd_ListInt m (j : Int) = m.getD j [] := by simp [rd_ListInt]
   rw [h1, h2]
   refine eqInt64S_ev _ _ (hr _ ?_)
   rw [List.getD_eq_getElem?_getD, List.getElem?_eq_getElem hj]; exact List.getElem_mem hj
  refine ev_all (fun (i : Nat) k => z33.l0 k l m (i : Int)) _ l.length (fun j hj hp r hr => ?_) (fun j hj hp => ?_) ?_
  ·refine Ev.step (fun k => z33.l0.eq_2 ..) (ev_pos (by omega) (ev_pos (by omega) (ev_pos (by omega) (Ev.bind (hm j hj) (ev_pos hp ?_)))))
   rw [wrap_succ (by omega)]; exact hr
  ·exact Ev.step (fun k => z33.l0.eq_2 ..) (ev_pos (by omega) (ev_pos (by omega) (ev_pos (by omega) (Ev.bind (hm j hj) (ev_neg (by rw [hp]; decide) (Ev.now _))))))
  ·exact Ev.step (fun k => z33.l0.eq_2 ..) (ev_neg (by omega) (Ev.now _))
 ·rw [len_ne_beq h]
  exact ev_neg (by omega) (Ev.now _)
end Go.Proofs.Ytipkciildhghiaa.B

set_option linter.unusedVariables false
set_option linter.unusedSimpArgs false
namespace Go.Proofs.Ytipkciildhghiaa.B
open Go.RowKit Go.Proofs.YtipkciildhghiaaW.PrintWords

theorem row_le_total : ∀ (l : List (List Int)) (x : List Int), x ∈ l → x.length ≤ total l
 | [], x, h => by cases h
 | y :: l, x, h => by
  simp only [total]
  rcases List.mem_cons.1 h with rfl | h
  ·have := total_nonneg l; omega
  ·have := row_le_total l x h; omega
theorem total_le_of {l : List (List Int)} {m : Nat} (h : ∀ x ∈ l, x.length ≤ m) : total l ≤ l.length * m := by
 induction l with
 | nil => simp [total]
 | cons x l ih =>
  have h1 := h x List.mem_cons_self
  have h2 := ih (fun y hy => h y (List.mem_cons_of_mem _ hy))
  simp only [total, List.length_cons]
  rw [Int.natCast_add, Int.add_mul]
  omega
theorem eqComplex_self (l : List (List Int)) (hl : l.length < 9223372036854775807) (hr : ∀ x ∈ l, x.length < 9223372036854775807) : Ev (fun k => z20.f k l l) true := by
 unfold z20.f
 exact Ev.bind (ev_eq (eqInt64SS_ev l l hl hr) (beq_self_eq_true l)) (ev_pos rfl (Ev.now _))
theorem toComplex_ev (l : List (List Int)) (hl : l.length ≤ 1048576) (hr : ∀ x ∈ l, x.length ≤ 1048576) : Ev (fun k => z17.f k l) l := by
 unfold z17.f
 exact Ev.bind (toInt64SS_ev l hl hr) (Ev.now _)
theorem szComplex_ev (l : List (List Int)) (b : Int) (hw : WfLL l) (h0 : 0 ≤ b) (h1 : b ≤ 9223372036854775807) :
  (∃ t, Ev (fun k => z15.f k l b) t ∧ t < 0) ∨ (Ev (fun k => z15.f k l b) (b - l.length - total l) ∧ l.length + total l ≤ b) := by
 unfold z15.f
 rcases szInt64SS_ev l b hw h0 h1 with ⟨t, ht, hn⟩ | ⟨ht, hb⟩
 ·exact .inl ⟨-1, Ev.bind ht (ev_pos hn (Ev.now _)), by omega⟩
 ·exact .inr ⟨Ev.bind ht (ev_neg (by omega) (Ev.now _)), hb⟩
end Go.Proofs.Ytipkciildhghiaa.B

set_option linter.unusedVariables false
set_option linter.unusedSimpArgs false
namespace Go.Proofs.Ytipkciildhghiaa.B
open Go.RowKit Go.Proofs.YtipkciildhghiaaW.PrintWords

theorem mark_val (l : List (List Int)) (a : Int) (h0 : 0 ≤ a) (h1 : a + total l ≤ 9223372036854775807) : laws_markInt64SS.f l a = some (a + total l, markRows l a) := by
 unfold laws_markInt64SS.f
 rw [if_pos ⟨h0, h1⟩]
theorem markInts_get : ∀ (l : List Int) (a : Int) (i : Nat), i < l.length → (markInts l a).getD i 0 = a + i
 | [], a, i, h => by simp at h
 | x :: l, a, 0, h => by simp [markInts]
 | x :: l, a, i + 1, h => by
  have := markInts_get l (a + 1) i (by simpa using h)
  simp only [markInts, List.getD_cons_succ, this]
  omega
theorem heldInt64S_ev (l : List Int) (a : Int) (h0 : 0 ≤ a) (h1 : a + l.length ≤ 9223372036854775807) : Ev (fun k => z23.f k (markInts l a) a) (a + l.length) := by
 unfold z23.f
 have h := ev_find (r := a + l.length) (fun (i : Nat) k => z23.l0 k (markInts l a) (a + i) (i : Int)) (fun _ => false) l.length 0 (fun j _ hj _ r hr => by
  refine Ev.step (fun k => z23.l0.eq_2 ..) ?_
  rw [rd_nat, markInts_get l a j (by omega), markInts_length, wrap_succ (by omega), wrap_small (by omega) (by omega), show a + (j : Int) + 1 = a + ((j + 1 : Nat) : Int) by omega]
  (repeat (first | refine ev_pos (by omega) ?_ | refine ev_neg (by omega) ?_))
  exact hr) (fun _ _ _ h => by cases h) (fun _ => by
  refine Ev.step (fun k => z23.l0.eq_2 ..) ?_
  rw [markInts_length]
  exact ev_neg (by omega) (ev_eq (Ev.now _) (by omega)))
 simpa using h
theorem markRows_get : ∀ (l : List (List Int)) (a : Int) (i : Nat), i < l.length → (markRows l a).getD i [] = markInts (l.getD i []) (a + total (l.take i))
 | [], a, i, h => by simp at h
 | x :: l, a, 0, h => by simp [markRows, total]
 | x :: l, a, i + 1, h => by
  have := markRows_get l (a + x.length) i (by simpa using h)
  simp only [markRows, List.getD_cons_succ, this, List.take_succ_cons, total]
  congr 1
  omega
theorem total_take_succ' (l0 : List (List Int)) (k : Nat) (hk : k < l0.length) : total (l0.take (k + 1)) = total (l0.take k) + (l0.getD k []).length := by
 have ht : l0.take (k + 1) = l0.take k ++ [l0.getD k []] := by
  rw [List.take_succ_eq_append_getElem hk, List.getD_eq_getElem?_getD, List.getElem?_eq_getElem hk]; rfl
 rw [ht, total_append]; simp [total]
theorem total_take_le' (l0 : List (List Int)) (k : Nat) : total (l0.take k) ≤ total l0 := by
 have h := total_append (l0.take k) (l0.drop k)
 rw [List.take_append_drop] at h
 have := total_nonneg (l0.drop k)
 omega
theorem heldInt64SS_ev (l : List (List Int)) (a : Int) (h0 : 0 ≤ a) (h1 : a + total l ≤ 9223372036854775807) (hl : l.length < 9223372036854775807) : Ev (fun k => z51.f k (markRows l a) a) (a + total l) := by
 unfold z51.f
 have h := ev_find (r := a + total l) (fun (i : Nat) k => z51.l0 k (markRows l a) (a + total (l.take i)) (i : Int)) (fun _ => false) l.length 0 (fun j _ hj _ r hr => by
  have hrd : rd_ListInt (markRows l a) (j : Int) = markInts (l.getD j []) (a + total (l.take j)) := by
   rw [← markRows_get l a j (by omega)]; simp [rd_ListInt]
  have e1 := total_take_succ' l j (by omega)
  have e2 := total_take_le' l (j + 1)
  have e3 := total_nonneg (l.take j)
  refine Ev.step (fun k => z51.l0.eq_2 ..) ?_
  rw [hrd, markRows_length, wrap_succ (by omega)]
  (repeat (first | refine ev_pos (by omega) ?_ | refine ev_neg (by omega) ?_))
  refine Ev.bind (heldInt64S_ev _ _ (by omega) (by omega)) (ev_neg (by omega) ?_)
  rw [show a + total (l.take j) + ((l.getD j []).length : Int) = a + total (l.take (j + 1)) by omega]
  exact hr) (fun _ _ _ h => by cases h) (fun _ => by
  refine Ev.step (fun k => z51.l0.eq_2 ..) ?_
  rw [markRows_length]
  refine ev_neg (by omega) (ev_eq (Ev.now _) ?_)
  rw [Nat.zero_add, List.take_length])
 simpa [total] using h
end Go.Proofs.Ytipkciildhghiaa.B

set_option linter.unusedVariables false
set_option linter.unusedSimpArgs false
namespace Go.Proofs.Ytipkciildhghiaa.B
open Go.RowKit Go.Proofs.YtipkciildhghiaaW.PrintWords

theorem eqInt64S_self (l : List Int) (hl : l.length < 9223372036854775807) : Ev (fun k => z19.f k l l) true := ev_eq (eqInt64S_ev l l hl) (beq_self_eq_true l)
theorem eqInt64SS_self (l : List (List Int)) (hl : l.length < 9223372036854775807) (hr : ∀ x ∈ l, x.length < 9223372036854775807) : Ev (fun k => z33.f k l l) true := ev_eq (eqInt64SS_ev l l hl hr) (beq_self_eq_true l)
theorem markInt64S_mark (l : List Int) (a : Int) (h0 : 0 ≤ a) (h1 : a + l.length ≤ 9223372036854775807) : Ev (fun k => z22.f k l a) (a + l.length, markInts l a) := by
 have := markInt64S_ev l.length l [] l a rfl rfl h0 h1 (by omega)
 simpa [z22.f] using this
end Go.Proofs.Ytipkciildhghiaa.B

set_option linter.unusedVariables false
set_option linter.unusedSimpArgs false
namespace Go.Proofs.Ytipkciildhghiaa.B
open Go.RowKit Go.Proofs.YtipkciildhghiaaW.PrintWords
end Go.Proofs.Ytipkciildhghiaa.B

set_option linter.unusedVariables false
set_option linter.unusedSimpArgs false
namespace Go.Proofs.Ytipkciildhghiaa.B
open Go.RowKit Go.Proofs.YtipkciildhghiaaW.PrintWords

def filt (p : Nat → Bool) (n : Nat) : List Int := ((List.range n).filter p).map fun i : Nat => (i : Int)
theorem filt_succ (p : Nat → Bool) (n : Nat) : filt p (n + 1) = filt p n ++ if p n then [(n : Int)] else [] := by
 unfold filt
 rw [List.range_succ, List.filter_append, List.map_append]
 congr 1
 cases h : p n <;> simp [List.filter_cons, h]
theorem filt_le (p : Nat → Bool) : ∀ n, (filt p n).length ≤ n
 | 0 => Nat.le_refl _
 | n + 1 => by
  have := filt_le p n
  rw [filt_succ, List.length_append]
  split <;> simp <;> omega
theorem filt_congr {p q : Nat → Bool} : ∀ n, (∀ i, i < n → p i = q i) → filt p n = filt q n
 | 0, _ => rfl
 | n + 1, h => by rw [filt_succ, filt_succ, filt_congr n (fun i hi => h i (by omega)), h n (by omega)]
theorem mem_filt {p : Nat → Bool} {n : Nat} {x : Int} : x ∈ filt p n ↔ ∃ i, i < n ∧ p i = true ∧ x = (i : Int) := by
 unfold filt
 rw [List.mem_map]
 constructor
 ·rintro ⟨i, hi, rfl⟩
  obtain ⟨h1, h2⟩ := List.mem_filter.1 hi
  exact ⟨i, List.mem_range.1 h1, h2, rfl⟩
 ·rintro ⟨i, hi, hp, rfl⟩
  exact ⟨i, List.mem_filter.2 ⟨List.mem_range.2 hi, hp⟩, rfl⟩
theorem ev_filt {β : Type} (L : List Int → Nat → Nat → Option β) (p : Nat → Bool) : ∀ (n : Nat), (∀ j s, j < n → s.length ≤ j → p j = true → Le (L (s ++ [(j : Int)]) (j + 1)) (L s j)) → (∀ j s, j < n → s.length ≤ j → p j = false → Le (L s (j + 1)) (L s j)) → Le (L (filt p n) n) (L [] 0)
 | 0, _, _ => Le.refl _
 | n + 1, h1, h0 => by
  have ih := ev_filt L p n (fun j s hj => h1 j s (by omega)) (fun j s hj => h0 j s (by omega))
  refine Le.trans ?_ ih
  rw [filt_succ]
  cases hp : p n with
  | true => exact h1 n _ (by omega) (filt_le p n) hp
  | false => simpa using h0 n _ (by omega) (filt_le p n) hp
theorem ev_map {α β : Type} (L : List α → Nat → Nat → Option β) (g : Nat → α) : ∀ (n : Nat), (∀ j s, j < n → s = (List.range j).map g → Le (L (s ++ [g j]) (j + 1)) (L s j)) → Le (L ((List.range n).map g) n) (L [] 0)
 | 0, _ => Le.refl _
 | n + 1, h => by
  have ih := ev_map L g n (fun j s hj => h j s (by omega))
  refine Le.trans ?_ ih
  rw [List.range_succ, List.map_append]
  exact h n _ (by omega) rfl
theorem ev_all_then (L : Nat → Nat → Option Bool) (p : Nat → Bool) (b : Bool) : ∀ (n : Nat), (∀ j, j < n → (∀ m, m < j → p m = true) → p j = true → Le (L (j + 1)) (L j)) → (∀ j, j < n → (∀ m, m < j → p m = true) → p j = false → Ev (L j) false) → ((∀ m, m < n → p m = true) → Ev (L n) b) → Ev (L 0) ((List.range n).all p && b) := by
 intro n h1 h0 he
 have main : ∀ (d i : Nat), i + d = n → (∀ m, m < i → p m = true) → Ev (L i) ((List.range n).all p && b) := by
  intro d
  induction d with
  | zero =>
   intro i hi hall
   have : i = n := by omega
   subst this
   have e : (List.range i).all p = true := List.all_eq_true.2 (fun j hj => hall j (List.mem_range.1 hj))
   rw [e, Bool.true_and]; exact he hall
  | succ d ih =>
   intro i hi hall
   cases hp : p i with
   | true =>
    refine h1 i (by omega) hall hp _ (ih (i + 1) (by omega) (fun m hm => ?_))
    rcases Nat.lt_or_ge m i with hl | hg
    ·exact hall m hl
    ·have : m = i := by omega
     subst this; exact hp
   | false =>
    have e : (List.range n).all p = false := by
     rw [Bool.eq_false_iff]
     intro h
     have := List.all_eq_true.1 h i (List.mem_range.2 (by omega))
     rw [hp] at this; cases this
    rw [e, Bool.false_and]
    exact h0 i (by omega) hall hp
 exact main n 0 (by omega) (fun m hm => by omega)
theorem map_range {α β : Type} (z : α) (g : α → β) (l : List α) : l.map g = (List.range l.length).map fun j => g (l.getD j z) := by
 apply List.ext_getElem
 ·simp
 ·intro n h1 h2
  simp only [List.getElem_map, List.getElem_range, List.getD_eq_getElem?_getD]
  have : n < l.length := by simpa using h1
  simp [List.getElem?_eq_getElem this]
end Go.Proofs.Ytipkciildhghiaa.B

set_option linter.unusedVariables false
set_option linter.unusedSimpArgs false
namespace Go.Proofs.Ytipkciildhghiaa.B
open Go.RowKit Go.Proofs.YtipkciildhghiaaW.PrintWords

theorem within_val (a b c : Int) : z113.f a b c = some (decide (b ≤ a) && decide (a ≤ c)) := by
 unfold z113.f
 by_cases h : a ≥ b
 ·rw [if_pos h]; simp [h]
 ·rw [if_neg h]; simp; omega
theorem in_val (a b c : Int) : z79.f a b c = some (decide (b ≤ a) && decide (a ≤ c)) := by
 unfold z79.f
 by_cases h : a ≥ b
 ·rw [if_pos h]; simp [h]
 ·rw [if_neg h]; simp; omega

theorem getD_mem {α : Type} {l : List α} {i : Nat} (z : α) (h : i < l.length) : l.getD i z ∈ l := by
 rw [List.getD_eq_getElem?_getD, List.getElem?_eq_getElem h]; exact List.getElem_mem h

theorem rdl_nat (l : List (List Int)) (i : Nat) : rd_ListInt l (i : Int) = l.getD i [] := by simp [rd_ListInt]

end Go.Proofs.Ytipkciildhghiaa.B

set_option linter.unusedVariables false
set_option linter.unusedSimpArgs false
namespace Go.Proofs.Ytipkciildhghiaa.B
open Go.RowKit Go.Proofs.YtipkciildhghiaaW.PrintWords

theorem total_take1 (l : List (List Int)) (k : Nat) (hk : k < l.length) : total (l.take (k + 1)) = total (l.take k) + (l.getD k []).length := by
 have ht : l.take (k + 1) = l.take k ++ [l.getD k []] := by
  rw [List.take_succ_eq_append_getElem hk, List.getD_eq_getElem?_getD, List.getElem?_eq_getElem hk]; rfl
 rw [ht, total_append]; simp [total]
theorem total_take_all (l : List (List Int)) (k : Nat) : total (l.take k) ≤ total l := by
 have h := total_append (l.take k) (l.drop k)
 rw [List.take_append_drop] at h
 have := total_nonneg (l.drop k)
 omega
theorem flatten_length : ∀ l : List (List Int), (l.flatten.length : Int) = total l
 | [] => rfl
 | x :: l => by rw [List.flatten_cons, List.length_append]; have := flatten_length l; simp only [total]; omega
theorem flatten_take1 (l : List (List Int)) (k : Nat) (hk : k < l.length) : (l.take (k + 1)).flatten = (l.take k).flatten ++ l.getD k [] := by
 have ht : l.take (k + 1) = l.take k ++ [l.getD k []] := by
  rw [List.take_succ_eq_append_getElem hk, List.getD_eq_getElem?_getD, List.getElem?_eq_getElem hk]; rfl
 rw [ht, List.flatten_append]; simp
theorem concat_ev (l : List (List Int)) (hl : l.length < 9223372036854775807) (ht : total l ≤ 17592186044415) : Ev (fun k => z156.f k l) l.flatten := by
 unfold z156.f
 -- the second loop
 have h1 : Ev (fun k => z156.l1 k ([] : List Int) l (l.length : Int) 0) l.flatten := by
  have := (le_iter_inv (fun (s : List Int) (i : Nat) k => z156.l1 k s l (l.length : Int) (i : Int)) (fun i s => s ++ l.getD i []) (fun i s => s = (l.take i).flatten) l.length 0 [] (by simp) (by
   intro j s _ hj hs
   have hj' : j < l.length := by omega
   refine ⟨fun r hr => ?_, by rw [flatten_take1 l j hj', hs]⟩
   refine Ev.step (fun k => z156.l1.eq_2 ..) ?_
   rw [rdl_nat, wrap_succ (by omega)]
   have e1 := total_take1 l j hj'
   have e2 := total_take_all l (j + 1)
   have e3 := flatten_length (l.take j)
   rw [← hs] at e3
   exact ev_pos (by omega) (ev_pos (by omega) (ev_pos (by omega) (ev_pos (by omega) hr)))))
  refine this.1 _ ?_
  refine Ev.step (fun k => z156.l1.eq_2 ..) ?_
  refine ev_neg (by omega) (ev_eq (Ev.now _) ?_)
  rw [this.2, Nat.zero_add, List.take_length]
 have := (le_iter_inv (fun (s : Int) (i : Nat) k => z156.l0 k l s l (l.length : Int) (i : Int)) (fun i s => s + (l.getD i []).length) (fun i s => s = total (l.take i)) l.length 0 0 (by simp [total]) (by
  intro j s _ hj hs
  have hj' : j < l.length := by omega
  have e1 := total_take1 l j hj'
  have e2 := total_take_all l (j + 1)
  have e3 := total_nonneg (l.take j)
  refine ⟨fun r hr => ?_, by rw [e1, hs]⟩
  refine Ev.step (fun k => z156.l0.eq_2 ..) ?_
  rw [rdl_nat, wrap_succ (by omega), wrap_small (x := s + ((l.getD j []).length : Int)) (by omega) (by omega)]
  exact ev_pos (by omega) (ev_pos (by omega) (ev_pos (by omega) (ev_neg (by omega) hr)))))
 refine this.1 _ ?_
 refine Ev.step (fun k => z156.l0.eq_2 ..) ?_
 have e4 : iter (fun i s => s + ((l.getD i []).length : Int)) 0 l.length 0 = total l := by
  rw [this.2, Nat.zero_add, List.take_length]
 rw [e4]
 have e5 := total_nonneg l
 refine ev_neg (by omega) (Ev.bind (a := []) (ev_const ?_) h1)
 unfold slices_Grow_int64_int64.f
 rw [if_pos ⟨⟨rfl, e5⟩, ht⟩]
end Go.Proofs.Ytipkciildhghiaa.B

set_option linter.unusedVariables false
set_option linter.unusedSimpArgs false
namespace Go.Proofs.Ytipkciildhghiaa.B.SimT

def lexlt : List Int → List Int → Bool
 | [], [] => false
 | [], _ :: _ => true
 | _ :: _, [] => false
 | a :: l, b :: m => if a < b then true else if b < a then false else lexlt l m
theorem lexlt_irrefl : ∀ l, lexlt l l = false
 | [] => rfl
 | a :: l => by simp [lexlt, lexlt_irrefl l]
theorem lexlt_trans : ∀ {a b c : List Int}, lexlt a b = true → lexlt b c = true → lexlt a c = true
 | [], [], _, h, _ => by cases h
 | [], _ :: _, [], _, h => by cases h
 | [], _ :: _, _ :: _, _, _ => rfl
 | _ :: _, [], _, h, _ => by cases h
 | _ :: _, _ :: _, [], _, h => by cases h
 | a :: l, b :: m, c :: o, h, h' => by
  simp only [lexlt] at h h' ⊢
  by_cases h1 : a < b
  ·by_cases h2 : b < c
   ·rw [if_pos (by omega)]
   ·rw [if_neg h2] at h'
    by_cases h3 : c < b
    ·rw [if_pos h3] at h'; cases h'
    ·rw [if_pos (by omega)]
  ·rw [if_neg h1] at h
   by_cases h2 : b < a
   ·rw [if_pos h2] at h; cases h
   ·rw [if_neg h2] at h
    have e : a = b := by omega
    subst e
    by_cases h3 : a < c
    ·rw [if_pos h3]
    ·rw [if_neg h3] at h' ⊢
     by_cases h4 : c < a
     ·rw [if_pos h4] at h'; cases h'
     ·rw [if_neg h4] at h' ⊢
      exact lexlt_trans h h'
theorem lexlt_tri : ∀ a b : List Int, lexlt a b = true ∨ a = b ∨ lexlt b a = true
 | [], [] => .inr (.inl rfl)
 | [], _ :: _ => .inl rfl
 | _ :: _, [] => .inr (.inr rfl)
 | a :: l, b :: m => by
  simp only [lexlt]
  rcases Int.lt_trichotomy a b with h | h | h
  ·rw [if_pos h]; exact .inl rfl
  ·subst h
   rw [if_neg (by omega), if_neg (by omega)]
   rcases lexlt_tri l m with h | h | h
   ·exact .inl h
   ·subst h; exact .inr (.inl rfl)
   ·rw [if_neg (by omega), if_neg (by omega)]; exact .inr (.inr h)
  ·rw [if_neg (by omega : ¬ a < b), if_pos h]
   rw [if_pos h]; exact .inr (.inr rfl)
def slt (a b : List Int) : Bool := decide (a.length < b.length) || (decide (a.length = b.length) && lexlt a b)
theorem slt_iff (a b : List Int) : slt a b = true ↔ a.length < b.length ∨ (a.length = b.length ∧ lexlt a b = true) := by simp [slt]
theorem slt_irrefl (a : List Int) : slt a a = false := by simp [slt, lexlt_irrefl]
theorem slt_trans {a b c : List Int} (h : slt a b = true) (h' : slt b c = true) : slt a c = true := by
 rw [slt_iff] at *
 rcases h with h | ⟨h1, h2⟩ <;> rcases h' with h' | ⟨h1', h2'⟩
 ·exact .inl (by omega)
 ·exact .inl (by omega)
 ·exact .inl (by omega)
 ·exact .inr ⟨by omega, lexlt_trans h2 h2'⟩
theorem slt_tri (a b : List Int) : slt a b = true ∨ a = b ∨ slt b a = true := by
 rw [slt_iff, slt_iff]
 rcases Nat.lt_trichotomy a.length b.length with h | h | h
 ·exact .inl (.inl h)
 ·rcases lexlt_tri a b with h1 | h1 | h1
  ·exact .inl (.inr ⟨h, h1⟩)
  ·exact .inr (.inl h1)
  ·exact .inr (.inr (.inr ⟨h.symm, h1⟩))
 ·exact .inr (.inr (.inl h))
theorem slt_asymm {a b : List Int} (h : slt a b = true) : slt b a = false := by
 cases h' : slt b a with
 | false => rfl
 | true => have := slt_trans h h'; rw [slt_irrefl] at this; cases this
theorem slt_ne {a b : List Int} (h : slt a b = true) : a ≠ b := fun e => by subst e; rw [slt_irrefl] at h; cases h

def Srt (l : List (List Int)) : Prop := l.Pairwise fun a b => slt a b = true
theorem srt_ext : ∀ {l m : List (List Int)}, Srt l → Srt m → (∀ x, x ∈ l ↔ x ∈ m) → l = m
 | [], [], _, _, _ => rfl
 | [], b :: m, _, _, h => by have := (h b).2 List.mem_cons_self; cases this
 | a :: l, [], _, _, h => by have := (h a).1 List.mem_cons_self; cases this
 | a :: l, b :: m, hl, hm, h => by
  have hl' := List.pairwise_cons.1 hl
  have hm' := List.pairwise_cons.1 hm
  have e : a = b := by
   rcases List.mem_cons.1 ((h a).1 List.mem_cons_self) with h1 | h1
   ·exact h1
   ·rcases List.mem_cons.1 ((h b).2 List.mem_cons_self) with h2 | h2
    ·exact h2.symm
    ·have h3 := hm'.1 a h1
     have h4 := hl'.1 b h2
     rw [slt_asymm h3] at h4; cases h4
  subst e
  congr 1
  refine srt_ext hl'.2 hm'.2 (fun x => ⟨fun hx => ?_, fun hx => ?_⟩)
  ·rcases List.mem_cons.1 ((h x).1 (List.mem_cons_of_mem _ hx)) with h1 | h1
   ·subst h1; have := hl'.1 _ hx; rw [slt_irrefl] at this; cases this
   ·exact h1
  ·rcases List.mem_cons.1 ((h x).2 (List.mem_cons_of_mem _ hx)) with h1 | h1
   ·subst h1; have := hm'.1 _ hx; rw [slt_irrefl] at this; cases this
   ·exact h1
theorem srt_get {l : List (List Int)} (h : Srt l) {i j : Nat} (hij : i < j) (hj : j < l.length) : slt (l.getD i []) (l.getD j []) = true := by
 have := List.pairwise_iff_getElem.1 h i j (by omega) hj hij
 simpa [List.getD_eq_getElem?_getD, List.getElem?_eq_getElem hj, List.getElem?_eq_getElem (show i < l.length by omega)] using this
theorem srt_of_get {l : List (List Int)} (h : ∀ i, i + 1 < l.length → slt (l.getD i []) (l.getD (i + 1) []) = true) : Srt l := by
 have main : ∀ d i, i + d + 1 < l.length → slt (l.getD i []) (l.getD (i + d + 1) []) = true := by
  intro d
  induction d with
  | zero => exact h
  | succ d ih =>
   intro i hi
   have h1 := ih i (by omega)
   have h2 := h (i + d + 1) (by omega)
   exact slt_trans h1 h2
 refine List.pairwise_iff_getElem.2 (fun i j hi hj hij => ?_)
 have := main (j - i - 1) i (by omega)
 rw [show i + (j - i - 1) + 1 = j by omega] at this
 simpa [List.getD_eq_getElem?_getD, List.getElem?_eq_getElem hj, List.getElem?_eq_getElem hi] using this
theorem srt_nodup {l : List (List Int)} (h : Srt l) : l.Nodup := h.imp fun h => slt_ne h

def drp (s : List Int) (k : Nat) : List Int := s.take k ++ s.drop (k + 1)
theorem drp_eq : ∀ (s : List Int) (k : Nat), drp s k = s.eraseIdx k
 | [], k => by cases k <;> rfl
 | a :: s, 0 => by simp [drp]
 | a :: s, k + 1 => by
  have := drp_eq s k
  simp only [drp] at this
  simp [drp, this]
theorem drp_length {s : List Int} {k : Nat} (h : k < s.length) : (drp s k).length = s.length - 1 := by
 rw [drp_eq, List.length_eraseIdx, if_pos h]
theorem drp_sub (s : List Int) (k : Nat) : (drp s k).Sublist s := by rw [drp_eq]; exact List.eraseIdx_sublist ..
theorem drp_slt {s : List Int} {k : Nat} (h : k < s.length) : slt (drp s k) s = true := by
 rw [slt_iff, drp_length h]; exact .inl (by omega)
def Inc (s : List Int) : Prop := s.Pairwise fun a b => a < b
theorem sub_drp : ∀ {t s : List Int}, t.Sublist s → t.length < s.length → ∃ k, k < s.length ∧ t.Sublist (drp s k)
 | _, _, .slnil, h => by simp at h
 | _, _, @List.Sublist.cons _ t s a h, hl => ⟨0, by simp, by simpa [drp] using h⟩
 | _, _, @List.Sublist.cons_cons _ t s a h, hl => by
  obtain ⟨k, hk, hs⟩ := sub_drp h (by simpa using hl)
  exact ⟨k + 1, by simpa using hk, by simpa [drp] using hs.cons_cons a⟩
def Closed (C : List (List Int)) : Prop := ∀ s, s ∈ C → 1 < s.length → ∀ k, k < s.length → drp s k ∈ C
theorem closed_sub {C : List (List Int)} (h : Closed C) : ∀ (d : Nat) {t s : List Int}, s ∈ C → t.Sublist s → t ≠ [] → s.length = t.length + d → t ∈ C
 | 0, t, s, hs, hts, _, hl => by have := hts.eq_of_length (by omega); subst this; exact hs
 | d + 1, t, s, hs, hts, hne, hl => by
  obtain ⟨k, hk, hk2⟩ := sub_drp hts (by omega)
  have htp : 0 < t.length := by cases t with | nil => exact absurd rfl hne | cons a t => simp
  exact closed_sub h d (h s hs (by omega) k hk) hk2 hne (by rw [drp_length hk]; omega)
theorem closed_mem {C : List (List Int)} (h : Closed C) {t s : List Int} (hs : s ∈ C) (hts : t.Sublist s) (hne : t ≠ []) : t ∈ C :=
 closed_sub h (s.length - t.length) hs hts hne (by have := hts.length_le; omega)
theorem inc_sub {t s : List Int} (h : t.Sublist s) (hs : Inc s) : Inc t := List.Pairwise.sublist h hs
theorem sub_of_mem : ∀ {t s : List Int}, Inc t → Inc s → (∀ x, x ∈ t → x ∈ s) → t.Sublist s
 | [], s, _, _, _ => List.nil_sublist s
 | a :: t, [], _, _, h => by have := h a List.mem_cons_self; cases this
 | a :: t, b :: s, ht, hs, h => by
  have ht' := List.pairwise_cons.1 ht
  have hs' := List.pairwise_cons.1 hs
  by_cases e : a = b
  ·subst e
   refine List.Sublist.cons_cons a (sub_of_mem ht'.2 hs'.2 (fun x hx => ?_))
   rcases List.mem_cons.1 (h x (List.mem_cons_of_mem _ hx)) with h1 | h1
   ·subst h1; have := ht'.1 _ hx; omega
   ·exact h1
  ·refine List.Sublist.cons b (sub_of_mem ht hs'.2 (fun x hx => ?_))
   rcases List.mem_cons.1 (h x hx) with h1 | h1
   ·subst h1
    rcases List.mem_cons.1 hx with h2 | h2
    ·exact absurd h2.symm e
    ·rcases List.mem_cons.1 (h a List.mem_cons_self) with h3 | h3
     ·exact absurd h3 e
     ·have := ht'.1 _ h2; have := hs'.1 _ h3; omega
   ·exact h1
theorem inc_ext {t s : List Int} (ht : Inc t) (hs : Inc s) (h : ∀ x, x ∈ t ↔ x ∈ s) : t = s :=
by
 have h1 := sub_of_mem ht hs (fun x => (h x).1)
 have h2 := sub_of_mem hs ht (fun x => (h x).2)
 exact h1.eq_of_length (Nat.le_antisymm h1.length_le h2.length_le)

def ins (C : List (List Int)) (s : List Int) : List (List Int) := (C.takeWhile fun x => slt x s) ++ s :: (C.dropWhile fun x => slt x s)
theorem mem_ins {C : List (List Int)} {s x : List Int} : x ∈ ins C s ↔ x = s ∨ x ∈ C := by
 unfold ins
 have h : x ∈ C ↔ x ∈ (C.takeWhile fun x => slt x s) ∨ x ∈ (C.dropWhile fun x => slt x s) := by
  rw [← List.mem_append, List.takeWhile_append_dropWhile]
 rw [h, List.mem_append, List.mem_cons]
 constructor
 ·rintro (h | h | h)
  ·exact .inr (.inl h)
  ·exact .inl h
  ·exact .inr (.inr h)
 ·rintro (h | h | h)
  ·exact .inr (.inl h)
  ·exact .inl h
  ·exact .inr (.inr h)
theorem ins_srt : ∀ {C : List (List Int)} {s : List Int}, Srt C → s ∉ C → Srt (ins C s)
 | [], s, _, _ => List.pairwise_singleton _ _
 | a :: C, s, h, hn => by
  have h' := List.pairwise_cons.1 h
  have hne : s ≠ a := fun e => hn (by rw [e]; exact List.mem_cons_self)
  have hnC : s ∉ C := fun hm => hn (List.mem_cons_of_mem _ hm)
  unfold ins
  by_cases hlt : slt a s = true
  ·have e1 : (a :: C).takeWhile (fun x => slt x s) = a :: C.takeWhile (fun x => slt x s) := by simp [List.takeWhile_cons, hlt]
   have e2 : (a :: C).dropWhile (fun x => slt x s) = C.dropWhile (fun x => slt x s) := by simp [List.dropWhile_cons, hlt]
   rw [e1, e2, List.cons_append]
   refine List.pairwise_cons.2 ⟨fun x hx => ?_, ins_srt h'.2 hnC⟩
   rcases (mem_ins (C := C)).1 hx with rfl | hx
   ·exact hlt
   ·exact h'.1 x hx
  ·have hf : slt a s = false := by simpa using hlt
   have e1 : (a :: C).takeWhile (fun x => slt x s) = [] := by simp [List.takeWhile_cons, hf]
   have e2 : (a :: C).dropWhile (fun x => slt x s) = a :: C := by simp [List.dropWhile_cons, hf]
   rw [e1, e2, List.nil_append]
   have hsa : slt s a = true := by
    rcases slt_tri a s with h1 | h1 | h1
    ·exact absurd h1 hlt
    ·exact absurd h1.symm hne
    ·exact h1
   refine List.pairwise_cons.2 ⟨fun x hx => ?_, h⟩
   rcases List.mem_cons.1 hx with rfl | hx
   ·exact hsa
   ·exact slt_trans hsa (h'.1 x hx)
def putN : Nat → List (List Int) → List Int → List (List Int)
 | 0, C, _ => C
 | n + 1, C, s => if s ∈ C then C else ins ((List.range s.length).foldl (fun C k => if 1 < s.length then putN n C (drp s k) else C) C) s
theorem sub_cases {x s : List Int} : x.Sublist s ↔ x = s ∨ ∃ k, k < s.length ∧ x.Sublist (drp s k) := by
 constructor
 ·intro h
  rcases Nat.lt_or_ge x.length s.length with hl | hg
  ·exact .inr (sub_drp h hl)
  ·exact .inl (h.eq_of_length (Nat.le_antisymm h.length_le hg))
 ·rintro (rfl | ⟨k, _, h⟩)
  ·exact List.Sublist.refl _
  ·exact h.trans (drp_sub s k)
theorem putN_spec : ∀ (n : Nat) {C : List (List Int)} {s : List Int}, s.length ≤ n → s ≠ [] → Srt C → Closed C →
  Srt (putN n C s) ∧ Closed (putN n C s) ∧ ∀ x, x ∈ putN n C s ↔ x ∈ C ∨ (x.Sublist s ∧ x ≠ [])
 | 0, C, s, hl, hne, _, _ => by
  cases s with
  | nil => exact absurd rfl hne
  | cons a s => simp at hl
 | n + 1, C, s, hl, hne, hs, hc => by
  simp only [putN]
  by_cases hm : s ∈ C
  ·rw [if_pos hm]
   refine ⟨hs, hc, fun x => ⟨.inl, ?_⟩⟩
   rintro (h | ⟨h1, h2⟩)
   ·exact h
   ·exact closed_mem hc hm h1 h2
  ·rw [if_neg hm]
   by_cases h1 : 1 < s.length
   ·simp only [if_pos h1]
    have hfold : ∀ (m : Nat), m ≤ s.length → Srt ((List.range m).foldl (fun C k => putN n C (drp s k)) C) ∧ Closed ((List.range m).foldl (fun C k => putN n C (drp s k)) C) ∧
      ∀ x, x ∈ (List.range m).foldl (fun C k => putN n C (drp s k)) C ↔ x ∈ C ∨ ((∃ k, k < m ∧ x.Sublist (drp s k)) ∧ x ≠ []) := by
     intro m
     induction m with
     | zero => intro _; exact ⟨hs, hc, fun x => ⟨.inl, fun h => h.elim id (fun ⟨⟨k, hk, _⟩, _⟩ => by omega)⟩⟩
     | succ m ih =>
      intro hm
      obtain ⟨i1, i2, i3⟩ := ih (by omega)
      rw [List.range_succ, List.foldl_append, List.foldl_cons, List.foldl_nil]
      have hdl : (drp s m).length = s.length - 1 := drp_length (by omega)
      obtain ⟨j1, j2, j3⟩ := putN_spec n (s := drp s m) (by omega) (fun e => by rw [e] at hdl; simp at hdl; omega) i1 i2
      refine ⟨j1, j2, fun x => ?_⟩
      rw [j3, i3]
      constructor
      ·rintro ((h | ⟨⟨k, hk, hx⟩, hne⟩) | ⟨hx, hne⟩)
       ·exact .inl h
       ·exact .inr ⟨⟨k, by omega, hx⟩, hne⟩
       ·exact .inr ⟨⟨m, by omega, hx⟩, hne⟩
      ·rintro (h | ⟨⟨k, hk, hx⟩, hne⟩)
       ·exact .inl (.inl h)
       ·rcases Nat.lt_or_ge k m with hkm | hkm
        ·exact .inl (.inr ⟨⟨k, hkm, hx⟩, hne⟩)
        ·have : k = m := by omega
         subst this; exact .inr ⟨hx, hne⟩
    obtain ⟨i1, i2, i3⟩ := hfold s.length (Nat.le_refl _)
    generalize (List.range s.length).foldl (fun C k => putN n C (drp s k)) C = C' at i1 i2 i3
    have hsC : s ∉ C' := fun hm' => by
     rcases (i3 s).1 hm' with h | ⟨⟨k, hk, hx⟩, _⟩
     ·exact hm h
     ·have := hx.length_le
      rw [drp_length hk] at this; omega
    refine ⟨ins_srt i1 hsC, fun t ht htl k hk => ?_, fun x => ?_⟩
    ·rw [mem_ins] at ht ⊢
     right
     rcases ht with rfl | ht
     ·refine (i3 _).2 (.inr ⟨⟨k, hk, List.Sublist.refl _⟩, fun e => ?_⟩)
      have := drp_length hk
      rw [e] at this; simp at this; omega
     ·exact i2 t ht htl k hk
    ·rw [mem_ins, i3, sub_cases (x := x) (s := s)]
     constructor
     ·rintro (rfl | h | ⟨h, hne⟩)
      ·exact .inr ⟨.inl rfl, hne⟩
      ·exact .inl h
      ·exact .inr ⟨.inr h, hne⟩
     ·rintro (h | ⟨h | h, hne⟩)
      ·exact .inr (.inl h)
      ·exact .inl h
      ·exact .inr (.inr ⟨h, hne⟩)
   ·simp only [if_neg h1]
    have hfold : ∀ (l : List Nat), l.foldl (fun (C : List (List Int)) (_ : Nat) => C) C = C := by
     intro l; induction l with
     | nil => rfl
     | cons a l ih => simpa using ih
    rw [hfold]
    refine ⟨ins_srt hs hm, fun t ht htl k hk => ?_, fun x => ?_⟩
    ·rw [mem_ins] at ht ⊢
     rcases ht with rfl | ht
     ·omega
     ·exact .inr (hc t ht htl k hk)
    ·rw [mem_ins, sub_cases (x := x) (s := s)]
     constructor
     ·rintro (rfl | h)
      ·exact .inr ⟨.inl rfl, hne⟩
      ·exact .inl h
     ·rintro (h | ⟨h | ⟨k, hk, hx⟩, hx2⟩)
      ·exact .inr h
      ·exact .inl h
      ·have h3 := hx.length_le
       rw [drp_length hk] at h3
       cases x with
       | nil => exact absurd rfl hx2
       | cons a x => simp at h3; omega
theorem put_all : ∀ (L : List (List Int)) {C : List (List Int)}, (∀ s, s ∈ L → s ≠ []) → Srt C → Closed C →
  Srt (L.foldl (fun C s => putN s.length C s) C) ∧ Closed (L.foldl (fun C s => putN s.length C s) C) ∧ ∀ x, x ∈ L.foldl (fun C s => putN s.length C s) C ↔ x ∈ C ∨ ((∃ s, s ∈ L ∧ x.Sublist s) ∧ x ≠ [])
 | [], C, _, hs, hc => ⟨hs, hc, fun x => ⟨.inl, fun h => h.elim id (fun ⟨⟨s, h, _⟩, _⟩ => by cases h)⟩⟩
 | s :: L, C, hne, hs, hc => by
  obtain ⟨i1, i2, i3⟩ := putN_spec s.length (Nat.le_refl _) (hne s List.mem_cons_self) hs hc
  obtain ⟨j1, j2, j3⟩ := put_all L (fun t ht => hne t (List.mem_cons_of_mem _ ht)) i1 i2
  refine ⟨j1, j2, fun x => ?_⟩
  rw [List.foldl_cons, j3, i3]
  constructor
  ·rintro ((h | ⟨h, hx⟩) | ⟨⟨t, ht, h⟩, hx⟩)
   ·exact .inl h
   ·exact .inr ⟨⟨s, List.mem_cons_self, h⟩, hx⟩
   ·exact .inr ⟨⟨t, List.mem_cons_of_mem _ ht, h⟩, hx⟩
  ·rintro (h | ⟨⟨t, ht, h⟩, hx⟩)
   ·exact .inl (.inl h)
   ·rcases List.mem_cons.1 ht with rfl | ht
    ·exact .inl (.inr ⟨h, hx⟩)
    ·exact .inr ⟨⟨t, ht, h⟩, hx⟩
end Go.Proofs.Ytipkciildhghiaa.B.SimT

-- written for this claim by a program (mp.py over the kit's printer)
namespace Go.Proofs.Ytipkciildhghiaa.B
open Go.RowKit Go.Proofs.YtipkciildhghiaaW.PrintWords Go.Proofs.YtipkciildhghiaaW.PrintLast Go.Proofs.YtipkciildhghiaaW.PrintMore
attribute [local go_sem] max2_int min2_int max_two min_two max_three min_three max_four min_four
set_option linter.unusedVariables false
set_option linter.unusedSimpArgs false

def z116.l0 : Nat → List Int → List Int → Int → Int → Option (Bool)
 | 0, _, _, _, _ => none
 | k + 1, x0, x1, x12, x13 => if x13 < x12 then (if 0 ≤ x13 then (if x13 < (x0.length : Int) then (if x13 < (x1.length : Int) then (if (rd x0 x13) = (rd x1 x13) then (z116.l0 k x0 x1 x12 (wrap64 (x13 + 1))) else (some false)) else (none)) else (none)) else (none)) else (some true)
def z116.f (k : Nat) (l0 : List Int) (l1 : List Int) : Option (Bool) := if (l0.length : Int) = (l1.length : Int) then (z116.l0 k l0 l1 (l0.length : Int) 0) else (some false)
set_option maxHeartbeats 8000000 in
set_option maxRecDepth 100000 in
theorem z116.calls (k : Nat) (A0 : Option Addr) (c0 : Nat) (l0 : List Int) (A1 : Option Addr) (c1 : Nat) (l1 : List Int) (r : Bool) (w : World) (hr0 : Kd.C (Kd.int .i64) w A0 l0.length l0) (hc0 : l0.length ≤ c0) (hr1 : Kd.C (Kd.int .i64) w A1 l1.length l1) (hc1 : l1.length ≤ c1) (h : z116.f k l0 l1 = some r) :
  Calls Try.prog 116 #[.slice A0 l0.length c0, .slice A1 l1.length c1] w fun e w' => e = .returned (.bool r) ∧ Drawn0 w w' := by
 have HR0 := Aside0.mk hr0
 have HC0 := Aside0.mk hc0
 clear hr0 hc0
 have HR1 := Aside0.mk hr1
 have HC1 := Aside0.mk hc1
 clear hr1 hc1
 have H : (if (l0.length : Int) = (l1.length : Int) then (z116.l0 k l0 l1 (l0.length : Int) 0) else (some false)) = some r := h
 clear h
 by_cases c3 : (l0.length : Int) = (l1.length : Int)
 ·rw [if_pos c3] at H
  have c3b0 : ((l0.length : Int) == (l1.length : Int)) = true := beq_iff_eq.mpr c3
  have c3b1 : ((l0.length : Int) != (l1.length : Int)) = false := bne_eq_false_iff_eq.mpr c3
  have c3b2 : (l0.length == l1.length) = true := by first | simpa using c3 | (simp at c3 ⊢; omega)
  clear c3
  have H' := Aside0.mk H
  clear H
  go_enter Try.func116, Try.ntmps116
  go_wp2
  repeat (go_quiet (fail); try go_wp2)
  go_loopg [13] k (fun kq v13 w' => ∃ (x13_1 : Int), v13 = .int .i64 x13_1 ∧ Aside0 (z116.l0 kq l0 l1 (l0.length : Int) x13_1 = some r) ∧ Aside0 (kq ≤ k) ∧ Drawn0 w w')
  case atStart => exact ⟨(0), E_, H', ⟨Nat.le_refl _⟩, by repeat (first | exact Drawn0.refl _ | apply Drawn0.step)⟩
  case round =>
   clear H'
   (try clear c1);(try clear p2);(try clear c3);(try clear c3b0);(try clear c3b1);(try clear c3b2)
   obtain ⟨x13_1, rfl, HA, HK1, ⟨m1, rfl⟩⟩ := hrel
   cases gk with
   | zero => exact absurd HA.out (by simp [z116.l0])
   | succ k1 =>
    have H := HA.out
    clear HA
    simp only [z116.l0] at H
    by_cases c4 : x13_1 < (l0.length : Int)
    ·rw [if_pos c4] at H
     have c4b0 : decide (x13_1 < (l0.length : Int)) = true := decide_eq_true c4
     clear c4
     have c5 := O1_ H
     replace H := O2_ H
     have c5b0 := decide_eq_true c5
     clear c5
     have c6 := O1_ H
     replace H := O2_ H
     have c6b0 := decide_eq_true c6
     clear c6
     have c7 := O1_ H
     replace H := O2_ H
     have c7b0 := decide_eq_true c7
     clear c7
     by_cases c8 : (rd l0 x13_1) = (rd l1 x13_1)
     ·rw [if_pos c8] at H
      have c8b0 : ((rd l0 x13_1) == (rd l1 x13_1)) = true := beq_iff_eq.mpr c8
      have c8b1 : ((rd l0 x13_1) != (rd l1 x13_1)) = false := bne_eq_false_iff_eq.mpr c8
      clear c8
      have H' := Aside0.mk H
      clear H
      have p101 : 0 ≤ (x13_1 : Int) := D_
      have q101 : x13_1 < (l0.length : Int) := D_
      obtain ⟨ad101, e101, hx101_0⟩ := Kd.at_int HR0.out x13_1 p101 q101
      cases e101
      replace p101 := eq_true p101
      replace q101 := eq_true q101
      have p102 : 0 ≤ (x13_1 : Int) := D_
      have q102 : x13_1 < (l1.length : Int) := D_
      obtain ⟨ad102, e102, hx102_0⟩ := Kd.at_int HR1.out x13_1 p102 q102
      cases e102
      replace p102 := eq_true p102
      replace q102 := eq_true q102
      go_wp2
      repeat (go_quiet (fail); try go_wp2)
      go_roundg k1
      case measure => exact Q1_ HK1
      case rel => exact ⟨(wrap64 (x13_1 + 1)), E_, H', ⟨Q1_ HK1⟩, by repeat (first | exact Drawn0.refl _ | apply Drawn0.step)⟩
     ·rw [if_neg c8] at H
      have c8b0 : ((rd l0 x13_1) == (rd l1 x13_1)) = false := beq_eq_false_iff_ne.mpr c8
      have c8b1 : ((rd l0 x13_1) != (rd l1 x13_1)) = true := bne_iff_ne.mpr c8
      obtain rfl := Option.some.inj H
      have p101 : 0 ≤ (x13_1 : Int) := D_
      have q101 : x13_1 < (l0.length : Int) := D_
      obtain ⟨ad101, e101, hx101_0⟩ := Kd.at_int HR0.out x13_1 p101 q101
      cases e101
      replace p101 := eq_true p101
      replace q101 := eq_true q101
      have p102 : 0 ≤ (x13_1 : Int) := D_
      have q102 : x13_1 < (l1.length : Int) := D_
      obtain ⟨ad102, e102, hx102_0⟩ := Kd.at_int HR1.out x13_1 p102 q102
      cases e102
      replace p102 := eq_true p102
      replace q102 := eq_true q102
      go_wp2
      repeat (go_quiet (fail); try go_wp2)
      go_ret
      exact ⟨by first | rfl | (simp; done) | (simp [*]; done), by repeat (first | exact Drawn0.refl _ | apply Drawn0.step)⟩
    ·rw [if_neg c4] at H
     have c4b0 : decide (x13_1 < (l0.length : Int)) = false := decide_eq_false c4
     clear c4
     obtain rfl := Option.some.inj H
     go_wp2
     repeat (go_quiet (fail); try go_wp2)
     go_ret
     exact ⟨by first | rfl | (simp; done) | (simp [*]; done), by repeat (first | exact Drawn0.refl _ | apply Drawn0.step)⟩
 ·rw [if_neg c3] at H
  have c3b0 : ((l0.length : Int) == (l1.length : Int)) = false := beq_eq_false_iff_ne.mpr c3
  have c3b1 : ((l0.length : Int) != (l1.length : Int)) = true := bne_iff_ne.mpr c3
  have c3b2 : (l0.length == l1.length) = false := by first | simpa using c3 | (simp at c3 ⊢; omega)
  obtain rfl := Option.some.inj H
  go_enter Try.func116, Try.ntmps116
  go_wp2
  repeat (go_quiet (fail); try go_wp2)
  go_ret
  exact ⟨by first | rfl | (simp; done) | (simp [*]; done), by repeat (first | exact Drawn0.refl _ | apply Drawn0.step)⟩

end Go.Proofs.Ytipkciildhghiaa.B

set_option linter.unusedVariables false
set_option linter.unusedSimpArgs false
namespace Go.Proofs.Ytipkciildhghiaa.B
open Go.RowKit Go.Proofs.YtipkciildhghiaaW.PrintWords

theorem slicesEqual_ev (l m : List Int) (hl : l.length < 9223372036854775807) : Ev (fun k => z116.f k l m) (l == m) := by
 unfold z116.f
 by_cases h : l.length = m.length
 ·refine ev_pos (by omega) ?_
  rw [← list_eq_range l m 0 h]
  refine ev_all (fun (i : Nat) k => z116.l0 k l m (l.length : Int) (i : Int)) _ l.length (fun j hj hp r hr => ?_) (fun j hj hp => ?_) ?_
  ·refine Ev.step (fun k => z116.l0.eq_2 ..) ?_
   refine ev_pos (by omega) (ev_pos (by omega) (ev_pos (by omega) (ev_pos (by omega) (ev_pos ?_ ?_))))
   ·rw [rd_nat, rd_nat]; exact eq_of_beq hp
   ·rw [wrap_succ (by omega)]; exact hr
  ·refine Ev.step (fun k => z116.l0.eq_2 ..) ?_
   refine ev_pos (by omega) (ev_pos (by omega) (ev_pos (by omega) (ev_pos (by omega) (ev_neg ?_ (Ev.now _)))))
   rw [rd_nat, rd_nat]; exact ne_of_beq_false hp
  ·refine Ev.step (fun k => z116.l0.eq_2 ..) ?_
   exact ev_neg (by omega) (Ev.now _)
 ·rw [len_ne_beq h]
  exact ev_neg (by omega) (Ev.now _)
theorem same_ev (l m : List Int) (hl : l.length < 9223372036854775807) : Ev (fun k => z128.f k l m) (l == m) := by
 unfold z128.f
 by_cases h : l.length = m.length
 ·refine ev_pos (by omega) ?_
  rw [← list_eq_range l m 0 h]
  refine ev_all (fun (i : Nat) k => z128.l0 k l m (i : Int)) _ l.length (fun j hj hp r hr => ?_) (fun j hj hp => ?_) ?_
  ·refine Ev.step (fun k => z128.l0.eq_2 ..) ?_
   refine ev_pos (by omega) (ev_pos (by omega) (ev_pos (by omega) (ev_pos ?_ ?_)))
   ·rw [rd_nat, rd_nat]; exact eq_of_beq hp
   ·rw [wrap_succ (by omega)]; exact hr
  ·refine Ev.step (fun k => z128.l0.eq_2 ..) ?_
   refine ev_pos (by omega) (ev_pos (by omega) (ev_pos (by omega) (ev_neg ?_ (Ev.now _))))
   rw [rd_nat, rd_nat]; exact ne_of_beq_false hp
  ·refine Ev.step (fun k => z128.l0.eq_2 ..) ?_
   exact ev_neg (by omega) (Ev.now _)
 ·rw [len_ne_beq h]
  exact ev_neg (by omega) (Ev.now _)
end Go.Proofs.Ytipkciildhghiaa.B

set_option linter.unusedVariables false
set_option linter.unusedSimpArgs false
namespace Go.Proofs.Ytipkciildhghiaa.B
open Go.RowKit Go.Proofs.YtipkciildhghiaaW.PrintWords
open SimT

def lexcmp : List Int → List Int → Int
 | [], [] => 0
 | [], _ :: _ => -1
 | _ :: _, [] => 1
 | a :: l, b :: m => if a < b then -1 else if a > b then 1 else lexcmp l m
theorem lexcmp_neg : ∀ l m, lexcmp l m < 0 ↔ lexlt l m = true
 | [], [] => by simp [lexcmp, lexlt]
 | [], _ :: _ => by simp [lexcmp, lexlt]
 | _ :: _, [] => by simp [lexcmp, lexlt]
 | a :: l, b :: m => by
  simp only [lexcmp, lexlt]
  by_cases h1 : a < b
  ·rw [if_pos h1, if_pos h1]; simp
  ·rw [if_neg h1, if_neg h1]
   by_cases h2 : b < a
   ·rw [if_pos h2, if_pos h2]; simp
   ·rw [if_neg h2, if_neg h2]; exact lexcmp_neg l m
theorem lexcmp_zero : ∀ l m, lexcmp l m = 0 ↔ l = m
 | [], [] => by simp [lexcmp]
 | [], _ :: _ => by simp [lexcmp]
 | _ :: _, [] => by simp [lexcmp]
 | a :: l, b :: m => by
  simp only [lexcmp]
  by_cases h1 : a < b
  ·rw [if_pos h1]
   refine ⟨fun h => by omega, fun h => ?_⟩
   injection h with h _; omega
  ·rw [if_neg h1]
   by_cases h2 : a > b
   ·rw [if_pos h2]
    refine ⟨fun h => by omega, fun h => ?_⟩
    injection h with h _; omega
   ·rw [if_neg h2, lexcmp_zero l m]
    have : a = b := by omega
    subst this
    exact ⟨fun h => by rw [h], fun h => by injection h⟩
def icmp (a b : Int) : Int := if a < b then -1 else if a > b then 1 else 0
theorem cmpInt_val (a b : Int) : z154.f a b = some (icmp a b) := by
 unfold z154.f z181.f icmp
 simp only [bne_self_eq_false, Option.bind_some, Bool.false_eq_true, if_false]
 split
 ·rfl
 ·split <;> rfl
theorem cmpInt64_val (a b : Int) : z182.f a b = some (icmp a b) := by
 unfold z182.f z197.f icmp
 simp only [bne_self_eq_false, Option.bind_some, Bool.false_eq_true, if_false]
 split
 ·rfl
 ·split <;> rfl
theorem drop_cons {l : List Int} {i : Nat} (h : i < l.length) : l.drop i = l.getD i 0 :: l.drop (i + 1) := by
 rw [List.drop_eq_getElem_cons h, List.getD_eq_getElem?_getD, List.getElem?_eq_getElem h]; rfl
theorem slicesCompare_ev (l m : List Int) (hl : l.length < 9223372036854775807) (hm : m.length < 9223372036854775807) : Ev (fun k => z155.f k l m) (lexcmp l m) := by
 have main : ∀ (d i : Nat), i + d = l.length → i ≤ m.length → Ev (fun k => z155.l0 k l m l (l.length : Int) (i : Int)) (lexcmp (l.drop i) (m.drop i)) := by
  intro d
  induction d with
  | zero =>
   intro i hi him
   rw [List.drop_of_length_le (show l.length ≤ i by omega)]
   refine Ev.step (fun k => z155.l0.eq_2 ..) ?_
   refine ev_neg (by omega) ?_
   by_cases h : i < m.length
   ·rw [drop_cons h]
    exact ev_pos (by omega) (Ev.now _)
   ·rw [List.drop_of_length_le (show m.length ≤ i by omega)]
    exact ev_neg (by omega) (Ev.now _)
  | succ d ih =>
   intro i hi him
   rw [drop_cons (show i < l.length by omega)]
   refine Ev.step (fun k => z155.l0.eq_2 ..) ?_
   refine ev_pos (by omega) (ev_pos (by omega) (ev_pos (by omega) ?_))
   by_cases h : i < m.length
   ·rw [drop_cons h, rd_nat, rd_nat, wrap_succ (by omega)]
    refine ev_neg (by omega) (ev_pos (by omega) (Ev.bind (ev_const (cmpInt64_val _ _)) ?_))
    simp only [lexcmp]
    unfold icmp
    by_cases h1 : l.getD i 0 < m.getD i 0
    ·rw [if_pos h1, if_pos h1]; exact ev_neg (by omega) (Ev.now _)
    ·rw [if_neg h1, if_neg h1]
     by_cases h2 : l.getD i 0 > m.getD i 0
     ·rw [if_pos h2, if_pos h2]; exact ev_neg (by omega) (Ev.now _)
     ·rw [if_neg h2, if_neg h2]; exact ev_pos rfl (ih (i + 1) (by omega) (by omega))
   ·rw [List.drop_of_length_le (show m.length ≤ i by omega)]
    exact ev_pos (by omega) (Ev.now _)
 have := main l.length 0 (by omega) (by omega)
 simpa [z155.f] using this
def scmp (a b : List Int) : Int := if icmp (a.length : Int) (b.length : Int) = 0 then lexcmp a b else icmp (a.length : Int) (b.length : Int)
theorem scmp_neg (a b : List Int) : scmp a b < 0 ↔ slt a b = true := by
 rw [slt_iff]
 unfold scmp icmp
 rcases Nat.lt_trichotomy a.length b.length with h | h | h
 ·rw [if_pos (show (a.length : Int) < b.length by omega)]; simp [h]
 ·rw [if_neg (show ¬ (a.length : Int) < b.length by omega), if_neg (show ¬ (a.length : Int) > b.length by omega), if_pos rfl, lexcmp_neg]
  constructor
  ·exact fun h' => .inr ⟨h, h'⟩
  ·rintro (h' | h')
   ·omega
   ·exact h'.2
 ·rw [if_neg (show ¬ (a.length : Int) < b.length by omega), if_pos (show (a.length : Int) > b.length by omega)]
  simp
  omega
theorem scmp_zero (a b : List Int) : scmp a b = 0 ↔ a = b := by
 unfold scmp icmp
 rcases Nat.lt_trichotomy a.length b.length with h | h | h
 ·rw [if_pos (show (a.length : Int) < b.length by omega)]
  simp
  intro e; subst e; omega
 ·rw [if_neg (show ¬ (a.length : Int) < b.length by omega), if_neg (show ¬ (a.length : Int) > b.length by omega), if_pos rfl, lexcmp_zero]
 ·rw [if_neg (show ¬ (a.length : Int) < b.length by omega), if_pos (show (a.length : Int) > b.length by omega)]
  simp
  intro e; subst e; omega
theorem cmpOr_ev (a b : Int) : Ev (fun k => z153.f k [a, b]) (if a = 0 then b else a) := by
 unfold z153.f
 refine Ev.step (fun k => z153.l0.eq_2 ..) ?_
 refine ev_pos (by simp) (ev_pos (by omega) (ev_pos (by simp) ?_))
 simp only [rd, Int.toNat_zero, List.getD_cons_zero]
 by_cases h : a = 0
 ·rw [if_pos h]
  refine ev_pos h ?_
  refine Ev.step (fun k => z153.l0.eq_2 ..) ?_
  simp only [show wrap64 (0 + 1) = 1 by unfold wrap64; omega]
  refine ev_pos (by simp) (ev_pos (by omega) (ev_pos (by simp) ?_))
  simp only [rd, show Int.toNat 1 = 1 from rfl, List.getD_cons_succ, List.getD_cons_zero]
  by_cases h2 : b = 0
  ·refine ev_pos h2 ?_
   refine Ev.step (fun k => z153.l0.eq_2 ..) ?_
   simp only [show wrap64 (1 + 1) = 2 by unfold wrap64; omega]
   refine ev_neg (by simp) (ev_eq (Ev.now _) h2.symm)
  ·exact ev_neg h2 (Ev.now _)
 ·rw [if_neg h]
  exact ev_neg h (Ev.now _)
theorem compareS_ev (a b : List Int) (ha : a.length < 9223372036854775807) (hb : b.length < 9223372036854775807) : Ev (fun k => z109.f k a b) (scmp a b) := by
 unfold z109.f
 refine Ev.bind (ev_const (cmpInt_val _ _)) (Ev.bind (slicesCompare_ev a b ha hb) (Ev.bind (cmpOr_ev _ _) ?_))
 exact Ev.now _
theorem before_ev (a b : List Int) (ha : a.length < 9223372036854775807) : Ev (fun k => z107.f k a b) (slt a b) := by
 unfold z107.f
 by_cases hab : a.length = b.length
 ·refine ev_pos (by omega) ?_
  have e : slt a b = lexlt a b := by simp [slt, hab]
  rw [e]
  have main : ∀ (d i : Nat), i + d = a.length → Ev (fun k => z107.l0 k a b (i : Int)) (lexlt (a.drop i) (b.drop i)) := by
   intro d
   induction d with
   | zero =>
    intro i hi
    rw [List.drop_of_length_le (show a.length ≤ i by omega), List.drop_of_length_le (show b.length ≤ i by omega)]
    refine Ev.step (fun k => z107.l0.eq_2 ..) ?_
    exact ev_neg (by omega) (Ev.now _)
   | succ d ih =>
    intro i hi
    rw [drop_cons (show i < a.length by omega), drop_cons (show i < b.length by omega)]
    refine Ev.step (fun k => z107.l0.eq_2 ..) ?_
    refine ev_pos (by omega) (ev_pos (by omega) (ev_pos (by omega) ?_))
    rw [rd_nat, rd_nat, wrap_succ (by omega)]
    simp only [lexlt]
    by_cases h : a.getD i 0 = b.getD i 0
    ·refine ev_pos h ?_
     rw [if_neg (by omega), if_neg (by omega)]
     exact ih (i + 1) (by omega)
    ·refine ev_neg h ?_
     by_cases h1 : a.getD i 0 < b.getD i 0
     ·rw [if_pos h1]; exact ev_eq (Ev.now _) (decide_eq_true h1)
     ·rw [if_neg h1, if_pos (by omega)]; exact ev_eq (Ev.now _) (decide_eq_false h1)
  have := main a.length 0 (by omega)
  simpa using this
 ·refine ev_neg (by omega) (ev_eq (Ev.now _) ?_)
  rw [Bool.eq_iff_iff, slt_iff, decide_eq_true_iff]
  constructor
  ·exact fun h => .inl (by omega)
  ·rintro (h | h)
   ·omega
   ·exact absurd h.1 hab

def idx (l : List (List Int)) (s : List Int) : Int := if s ∈ l then ((l.idxOf s : Nat) : Int) else -1
theorem idx_neg (l : List (List Int)) (s : List Int) : idx l s < 0 ↔ s ∉ l := by
 unfold idx
 by_cases h : s ∈ l
 ·rw [if_pos h]
  exact ⟨fun h' => by omega, fun h' => absurd h h'⟩
 ·rw [if_neg h]
  exact ⟨fun _ => h, fun _ => by omega⟩
theorem idx_get {l : List (List Int)} {s : List Int} (h : s ∈ l) : ∃ i, i < l.length ∧ idx l s = (i : Int) ∧ l.getD i [] = s ∧ ∀ j, j < i → l.getD j [] ≠ s := by
 refine ⟨l.idxOf s, List.idxOf_lt_length_of_mem h, by unfold idx; rw [if_pos h], ?_, fun j hj e => ?_⟩
 ·have hl := List.idxOf_lt_length_of_mem h
  rw [List.getD_eq_getElem?_getD, List.getElem?_eq_getElem hl]
  exact List.getElem_idxOf hl
 ·have hl := List.idxOf_lt_length_of_mem h
  have := List.not_of_lt_findIdx (p := fun x => x == s) (xs := l) (i := j) hj
  have hjl : j < l.length := by omega
  rw [List.getD_eq_getElem?_getD, List.getElem?_eq_getElem hjl] at e
  simp at e this
  exact this e
theorem idx_of {l : List (List Int)} {s : List Int} {i : Nat} (hi : i < l.length) (he : l.getD i [] = s) (hb : ∀ j, j < i → l.getD j [] ≠ s) : idx l s = (i : Int) := by
 have hm : s ∈ l := he ▸ getD_mem [] hi
 obtain ⟨j, hj, e1, e2, e3⟩ := idx_get hm
 rw [e1]
 rcases Nat.lt_trichotomy i j with h | h | h
 ·exact absurd he (e3 i h)
 ·rw [h]
 ·exact absurd e2 (hb j h)
theorem find_ev (l : List (List Int)) (s : List Int) (hl : l.length < 9223372036854775807) (hr : ∀ x ∈ l, x.length < 9223372036854775807) : Ev (fun k => z80.f k l s) (idx l s) := by
 unfold z80.f
 refine ev_find (fun (i : Nat) k => z80.l0 k s (i : Int) l) (fun i => l.getD i [] == s) l.length 0 (fun j _ hj hp r hr' => ?_) (fun j _ hj hp hb => ?_) (fun hall => ?_)
 ·refine Ev.step (fun k => z80.l0.eq_2 ..) ?_
  refine ev_pos (by omega) (ev_pos (by omega) ?_)
  rw [rdl_nat, wrap_succ (by omega)]
  exact Ev.bind (same_ev _ _ (hr _ (getD_mem [] (by omega)))) (ev_neg (by rw [hp]; decide) hr')
 ·have e : idx l s = (j : Int) := idx_of (by omega) (eq_of_beq hp) (fun m hm he => by have := hb m (Nat.zero_le _) hm; rw [he] at this; simp at this)
  rw [e]
  refine Ev.step (fun k => z80.l0.eq_2 ..) ?_
  refine ev_pos (by omega) (ev_pos (by omega) ?_)
  rw [rdl_nat]
  exact Ev.bind (same_ev _ _ (hr _ (getD_mem [] (by omega)))) (ev_pos hp (Ev.now _))
 ·have e : idx l s = -1 := by
   unfold idx
   rw [if_neg]
   intro hm
   obtain ⟨i, hi, _, e2, _⟩ := idx_get hm
   have := hall i (Nat.zero_le _) (by omega)
   rw [e2] at this; simp at this
  rw [e]
  refine Ev.step (fun k => z80.l0.eq_2 ..) ?_
  exact ev_neg (by omega) (Ev.now _)
theorem srt_take {l : List (List Int)} (h : Srt l) (k : Nat) : Srt (l.take k) := List.Pairwise.sublist (List.take_sublist k l) h
theorem search_ev (l : List (List Int)) (s : List Int) (hl : l.length < 4611686018427387904) (hr : ∀ x ∈ l, x.length < 9223372036854775807) (hs : s.length < 9223372036854775807) (hsrt : Srt l) :
  ∃ t, Ev (fun k => z227.f k l s) t ∧ (if t.2 = true then t.1 else -1) = idx l s := by
 have lo_of : ∀ i, i < l.length → slt (l.getD i []) s = true → ∀ j, j ≤ i → slt (l.getD j []) s = true := fun i hi h j hj => by
  rcases Nat.eq_or_lt_of_le hj with rfl | hlt
  ·exact h
  ·exact slt_trans (srt_get hsrt hlt hi) h
 have hi_of : ∀ i, i < l.length → slt (l.getD i []) s = false → ∀ j, i ≤ j → j < l.length → slt (l.getD j []) s = false := fun i hi h j hj hjl => by
  cases hh : slt (l.getD j []) s with
  | false => rfl
  | true => rw [lo_of j hjl hh i hj] at h; cases h
 have main : ∀ (d lo hi : Nat), lo ≤ hi → hi - lo ≤ d → hi ≤ l.length → (∀ j, j < lo → slt (l.getD j []) s = true) → (∀ j, hi ≤ j → j < l.length → slt (l.getD j []) s = false) →
   ∃ t, Ev (fun k => z227.l0 k l s (l.length : Int) (lo : Int) (hi : Int)) t ∧ (if t.2 = true then t.1 else -1) = idx l s := by
  intro d
  induction d with
  | zero =>
   intro lo hi h1 h2 h3 hlo hhi
   have : lo = hi := by omega
   subst this
   by_cases hn : lo < l.length
   ·refine ⟨((lo : Int), (scmp (l.getD lo []) s == 0)), ?_, ?_⟩
    ·refine Ev.step (fun k => z227.l0.eq_2 ..) ?_
     refine ev_neg (by omega) (ev_pos (by omega) (ev_pos (by omega) (ev_pos (by omega) ?_)))
     rw [rdl_nat]
     exact Ev.bind (compareS_ev _ _ (hr _ (getD_mem [] hn)) hs) (Ev.now _)
    ·by_cases he : l.getD lo [] = s
     ·have : (scmp (l.getD lo []) s == 0) = true := by rw [beq_iff_eq, scmp_zero]; exact he
      simp only [this, if_true]
      exact (idx_of hn he (fun j hj e => by have := hlo j hj; rw [e, slt_irrefl] at this; cases this)).symm
     ·have : (scmp (l.getD lo []) s == 0) = false := by rw [beq_eq_false_iff_ne]; exact fun h => he ((scmp_zero _ _).1 h)
      simp only [this, Bool.false_eq_true, if_false]
      have hnm : s ∉ l := fun hm => by
       obtain ⟨i, hi, _, e2, _⟩ := idx_get hm
       rcases Nat.lt_trichotomy i lo with h | h | h
       ·have := hlo i h; rw [e2, slt_irrefl] at this; cases this
       ·subst h; exact he e2
       ·have h5 := srt_get hsrt h hi
        rw [e2] at h5
        have := hhi lo (Nat.le_refl _) hn
        rw [h5] at this; cases this
      unfold idx; rw [if_neg hnm]
   ·refine ⟨((lo : Int), false), ?_, ?_⟩
    ·refine Ev.step (fun k => z227.l0.eq_2 ..) ?_
     exact ev_neg (by omega) (ev_neg (by omega) (Ev.now _))
    ·simp only [Bool.false_eq_true, if_false]
     have hnm : s ∉ l := fun hm => by
      obtain ⟨i, hi, _, e2, _⟩ := idx_get hm
      have := hlo i (by omega); rw [e2, slt_irrefl] at this; cases this
     unfold idx; rw [if_neg hnm]
  | succ d ih =>
   intro lo hi h1 h2 h3 hlo hhi
   by_cases hlt : lo < hi
   ·have em : wrap64 (IntKind.u64.wrap (wrap64 ((lo : Int) + (hi : Int))) / 2) = (((lo + hi) / 2 : Nat) : Int) := by
     have e1 : wrap64 ((lo : Int) + (hi : Int)) = (lo : Int) + (hi : Int) := wrap_small (by omega) (by omega)
     have e2 : IntKind.u64.wrap ((lo : Int) + (hi : Int)) = (lo : Int) + (hi : Int) := by
      simp [IntKind.wrap, IntKind.bits, IntKind.signed]; omega
     rw [e1, e2, wrap_small (by omega) (by omega)]; omega
    have hm : (lo + hi) / 2 < l.length := by omega
    have hmr := hr _ (getD_mem ([] : List Int) hm)
    cases hc : slt (l.getD ((lo + hi) / 2) []) s with
    | true =>
     obtain ⟨t, ht, hv⟩ := ih ((lo + hi) / 2 + 1) hi (by omega) (by omega) h3 (fun j hj => lo_of _ hm hc j (by omega)) hhi
     refine ⟨t, ?_, hv⟩
     refine Ev.step (fun k => z227.l0.eq_2 ..) ?_
     rw [em, rdl_nat, wrap_succ (by omega)]
     refine ev_pos (by omega) (ev_pos (by omega) (ev_pos (by omega) (Ev.bind (compareS_ev _ _ hmr hs) (ev_pos ((scmp_neg _ _).2 hc) ht))))
    | false =>
     obtain ⟨t, ht, hv⟩ := ih lo ((lo + hi) / 2) (by omega) (by omega) (by omega) hlo (fun j hj hjl => hi_of _ hm hc j hj hjl)
     refine ⟨t, ?_, hv⟩
     refine Ev.step (fun k => z227.l0.eq_2 ..) ?_
     rw [em, rdl_nat, wrap_succ (by omega)]
     refine ev_pos (by omega) (ev_pos (by omega) (ev_pos (by omega) (Ev.bind (compareS_ev _ _ hmr hs) (ev_neg (fun h => ?_) ht))))
     have := (scmp_neg _ _).1 h
     rw [hc] at this; cases this
   ·exact ih lo hi h1 (by omega) h3 hlo hhi
 exact main l.length 0 l.length (by omega) (by omega) (Nat.le_refl _) (fun j hj => by omega) (fun j h1 h2 => by omega)
theorem indexOf_ev (l : List (List Int)) (s : List Int) (hl : l.length < 4611686018427387904) (hr : ∀ x ∈ l, x.length < 9223372036854775807) (hs : s.length < 9223372036854775807) (hsrt : Srt l) : Ev (fun k => z84.f k l s) (idx l s) := by
 obtain ⟨t, ht, hv⟩ := search_ev l s hl hr hs hsrt
 unfold z84.f
 refine Ev.bind ht ?_
 rw [← hv]
 cases h : t.2 with
 | true => exact ev_pos rfl (ev_eq (Ev.now _) (by simp))
 | false => exact ev_neg (by simp) (ev_eq (Ev.now _) (by simp))
end Go.Proofs.Ytipkciildhghiaa.B

set_option linter.unusedVariables false
set_option linter.unusedSimpArgs false
namespace Go.Proofs.Ytipkciildhghiaa.B
open Go.RowKit Go.Proofs.YtipkciildhghiaaW.PrintWords

def rises (l : List Int) (i : Nat) : Bool := i == 0 || decide (l.getD (i - 1) 0 < l.getD i 0)
def rising (l : List Int) : Bool := (List.range l.length).all (rises l)
def isSimplex (l : List Int) : Bool := (decide (1 ≤ l.length) && decide (l.length ≤ 4)) && (rising l && l.all fun v => decide (0 ≤ v) && decide (v ≤ 9))
theorem isRising_ev (l : List Int) (hl : l.length < 9223372036854775807) : Ev (fun k => z125.f k l) (rising l) := by
 unfold z125.f
 rcases Nat.eq_zero_or_pos l.length with h0 | h0
 ·have : rising l = true := by unfold rising; rw [h0]; rfl
  rw [this]
  refine Ev.step (fun k => z125.l0.eq_2 ..) ?_
  exact ev_neg (by omega) (Ev.now _)
 ·refine ev_find (fun (i : Nat) k => z125.l0 k l (i : Int)) (fun i => !rises l i) (l.length - 1) 1 (fun i hi hi2 hp r hr => ?_) (fun i hi hi2 hp _ => ?_) (fun hall => ?_)
  ·have hp : rises l i = true := by simpa using hp
   unfold rises at hp
   have e : (i == 0) = false := by simpa using (show i ≠ 0 by omega)
   rw [e, Bool.false_or] at hp
   have hp := of_decide_eq_true hp
   refine Ev.step (fun k => z125.l0.eq_2 ..) ?_
   rw [show wrap64 ((i : Int) - 1) = ((i - 1 : Nat) : Int) by rw [wrap_small (by omega) (by omega)]; omega, rd_nat, rd_nat, wrap_succ (by omega)]
   exact ev_pos (by omega) (ev_pos (by omega) (ev_pos (by omega) (ev_pos (by omega) (ev_neg (by omega) hr))))
  ·have hp : rises l i = false := by simpa using hp
   have hf : rising l = false := by
    unfold rising
    rw [Bool.eq_false_iff]
    intro h
    have := List.all_eq_true.1 h i (List.mem_range.2 (by omega))
    rw [hp] at this; cases this
   rw [hf]
   unfold rises at hp
   have e : (i == 0) = false := by simpa using (show i ≠ 0 by omega)
   rw [e, Bool.false_or] at hp
   have hp := of_decide_eq_false hp
   refine Ev.step (fun k => z125.l0.eq_2 ..) ?_
   rw [show wrap64 ((i : Int) - 1) = ((i - 1 : Nat) : Int) by rw [wrap_small (by omega) (by omega)]; omega, rd_nat, rd_nat]
   exact ev_pos (by omega) (ev_pos (by omega) (ev_pos (by omega) (ev_pos (by omega) (ev_pos (by omega) (Ev.now _)))))
  ·have hf : rising l = true := List.all_eq_true.2 (fun i hi => by
    have hi := List.mem_range.1 hi
    rcases Nat.eq_zero_or_pos i with h | h
    ·subst h; rfl
    ·simpa using hall i h (by omega))
   rw [hf, show 1 + (l.length - 1) = l.length by omega]
   refine Ev.step (fun k => z125.l0.eq_2 ..) ?_
   exact ev_neg (by omega) (Ev.now _)
theorem vertex_val (v : Int) : z127.f v = some (!(decide (0 ≤ v) && decide (v ≤ 9))) := by
 unfold z127.f z83.f
 rw [within_val]; rfl
theorem vertices_ev (l : List Int) (hl : l.length < 9223372036854775807) : Ev (fun k => z225.f k l) (l.any fun v => !(decide (0 ≤ v) && decide (v ≤ 9))) := by
 obtain ⟨t, ht, hd⟩ := ev_index_list (l) 0 (fun i k => z226.l0 k (l) ((l).length : Int) (i : Int) ) (fun v => !(decide (0 ≤ v) && decide (v ≤ 9))) (fun j hj hp r hr => by
   refine Ev.step (fun k => z226.l0.eq_2 ..) ?_
   refine ev_pos (by omega) (ev_pos (by omega) (ev_pos (by omega) ?_))
   rw [rd_nat, wrap_succ (by omega)]
   exact Ev.bind (ev_const (vertex_val _)) (ev_neg (by rw [hp]; decide) hr)) (fun j hj hp => by
   refine Ev.step (fun k => z226.l0.eq_2 ..) ?_
   refine ev_pos (by omega) (ev_pos (by omega) (ev_pos (by omega) ?_))
   rw [rd_nat]
   exact Ev.bind (ev_const (vertex_val _)) (ev_pos hp (Ev.now _))) (by
   refine Ev.step (fun k => z226.l0.eq_2 ..) ?_
   exact ev_neg (by omega) (Ev.now _))
 unfold z225.f z226.f
 refine Ev.bind ht (ev_eq (Ev.now _) hd)
theorem implSimplex_ev (l : List Int) (hl : l.length < 9223372036854775807) : Ev (fun k => z77.f k l) (isSimplex l) := by
 unfold z77.f isSimplex
 by_cases h1 : 1 ≤ l.length
 ·rw [decide_eq_true h1, Bool.true_and]
  refine ev_pos (by omega) ?_
  by_cases h4 : l.length ≤ 4
  ·rw [decide_eq_true h4, Bool.true_and]
   refine ev_pos (by omega) (Ev.bind (isRising_ev l hl) ?_)
   cases hr : rising l with
   | false => exact ev_neg (by decide) (Ev.now _)
   | true =>
    refine ev_pos rfl (Ev.bind (vertices_ev l hl) (ev_eq (Ev.now _) ?_))
    rw [List.any_eq_not_all_not]; simp
  ·rw [decide_eq_false h4, Bool.false_and]
   exact ev_neg (by omega) (Ev.now _)
 ·rw [decide_eq_false h1, Bool.false_and, Bool.false_and]
  exact ev_neg (by omega) (Ev.now _)
theorem specRises_ev (l : List Int) (a b : Int) (hl : l.length < 9223372036854775807) : Ev (fun k => z123.f k l a b) (rising l && l.all fun v => decide (a ≤ v) && decide (v ≤ b)) := by
 have e : (rising l && l.all fun v => decide (a ≤ v) && decide (v ≤ b)) = (List.range l.length).all fun i => (decide (a ≤ l.getD i 0) && decide (l.getD i 0 ≤ b)) && rises l i := by
  rw [← all_range l 0, rising, Bool.eq_iff_iff, Bool.and_eq_true, List.all_eq_true, List.all_eq_true, List.all_eq_true]
  constructor
  ·rintro ⟨h1, h2⟩ i hi
   rw [h1 i hi, h2 i hi]; rfl
  ·intro h
   exact ⟨fun i hi => ((Bool.and_eq_true _ _).mp (h i hi)).2, fun i hi => ((Bool.and_eq_true _ _).mp (h i hi)).1⟩
 rw [e]
 unfold z123.f
 refine ev_all (fun (i : Nat) k => z123.l0 k l a b (i : Int)) _ l.length (fun i hi hp r hr => ?_) (fun i hi hp => ?_) ?_
 ·obtain ⟨h1, h2⟩ := (Bool.and_eq_true _ _).mp hp
  refine Ev.step (fun k => z123.l0.eq_2 ..) ?_
  rw [rd_nat, wrap_succ (by omega)]
  refine ev_pos (by omega) (ev_pos (by omega) (Ev.bind (ev_const (in_val _ _ _)) (ev_pos h1 ?_)))
  rcases Nat.eq_zero_or_pos i with h | h
  ·exact ev_neg (by omega) hr
  ·have e : (i == 0) = false := by simpa using (show i ≠ 0 by omega)
   unfold rises at h2
   rw [e, Bool.false_or] at h2
   have h2 := of_decide_eq_true h2
   rw [show wrap64 ((i : Int) - 1) = ((i - 1 : Nat) : Int) by rw [wrap_small (by omega) (by omega)]; omega, rd_nat]
   exact ev_pos (by omega) (ev_pos (by omega) (ev_pos (by omega) (ev_neg (by omega) hr)))
 ·refine Ev.step (fun k => z123.l0.eq_2 ..) ?_
  rw [rd_nat]
  refine ev_pos (by omega) (ev_pos (by omega) (Ev.bind (ev_const (in_val _ _ _)) ?_))
  cases h1 : decide (a ≤ l.getD i 0) && decide (l.getD i 0 ≤ b) with
  | false => exact ev_neg (by decide) (Ev.now _)
  | true =>
   rw [h1, Bool.true_and] at hp
   refine ev_pos rfl ?_
   rcases Nat.eq_zero_or_pos i with h | h
   ·subst h; cases hp
   ·have e : (i == 0) = false := by simpa using (show i ≠ 0 by omega)
    unfold rises at hp
    rw [e, Bool.false_or] at hp
    have hp := of_decide_eq_false hp
    rw [show wrap64 ((i : Int) - 1) = ((i - 1 : Nat) : Int) by rw [wrap_small (by omega) (by omega)]; omega, rd_nat]
    exact ev_pos (by omega) (ev_pos (by omega) (ev_pos (by omega) (ev_pos (by omega) (Ev.now _))))
 ·refine Ev.step (fun k => z123.l0.eq_2 ..) ?_
  exact ev_neg (by omega) (Ev.now _)
theorem specSimplex_ev (l : List Int) (hl : l.length < 9223372036854775807) : Ev (fun k => z73.f k l) (isSimplex l) := by
 unfold z73.f isSimplex
 refine Ev.bind (ev_const (in_val _ _ _)) ?_
 have e : (decide ((1 : Int) ≤ (l.length : Int)) && decide ((l.length : Int) ≤ 4)) = (decide (1 ≤ l.length) && decide (l.length ≤ 4)) := by
  rw [Bool.eq_iff_iff]; simp; omega
 rw [e]
 cases h : decide (1 ≤ l.length) && decide (l.length ≤ 4) with
 | false => exact ev_neg (by decide) (Ev.now _)
 | true => exact ev_pos rfl (Ev.bind (specRises_ev l 0 9 hl) (Ev.now _))
end Go.Proofs.Ytipkciildhghiaa.B

set_option linter.unusedVariables false
set_option linter.unusedSimpArgs false
namespace Go.Proofs.Ytipkciildhghiaa.B
open Go.RowKit Go.Proofs.YtipkciildhghiaaW.PrintWords
open SimT

def faces (s : List Int) : List (List Int) := if 1 < s.length then (List.range s.length).map (drp s) else []
theorem faces_len (s : List Int) : (faces s).length ≤ s.length := by
 unfold faces
 split <;> simp
theorem faces_row {s x : List Int} (h : x ∈ faces s) : x.length ≤ s.length := by
 unfold faces at h
 split at h
 ·obtain ⟨i, hi, rfl⟩ := List.mem_map.1 h
  exact (drp_sub s i).length_le
 ·cases h
theorem mem_faces {s x : List Int} : x ∈ faces s ↔ 1 < s.length ∧ ∃ k, k < s.length ∧ drp s k = x := by
 unfold faces
 split
 ·rename_i h
  rw [List.mem_map]
  exact ⟨fun ⟨k, hk, e⟩ => ⟨h, k, List.mem_range.1 hk, e⟩, fun ⟨_, k, hk, e⟩ => ⟨k, List.mem_range.2 hk, e⟩⟩
 ·rename_i h
  exact ⟨fun hx => (by cases hx), fun hx => absurd hx.1 h⟩
theorem faces_get {s : List Int} (h : 1 < s.length) {i : Nat} (hi : i < s.length) : (faces s).getD i [] = drp s i := by
 unfold faces
 rw [if_pos h]
 simp [List.getD_eq_getElem?_getD, hi]
theorem faces_slt {s x : List Int} (h : x ∈ faces s) : slt x s = true := by
 obtain ⟨_, k, hk, rfl⟩ := mem_faces.1 h
 exact drp_slt hk
theorem facesOf_ev (s : List Int) (hs : s.length ≤ 1000000000000) : Ev (fun k => z110.f k s) (faces s) := by
 unfold z110.f
 by_cases h1 : 1 < s.length
 ·have := ev_map (fun (a : List (List Int)) (i : Nat) k => z110.l0 k s a (s.length : Int) (i : Int)) (drp s) s.length (fun j a hj ha r hr => by
   refine Ev.step (fun k => z110.l0.eq_2 ..) ?_
   have hal : a.length = j := by rw [ha]; simp
   rw [wrap_succ (by omega), Int.toNat_natCast, Int.toNat_natCast]
   refine ev_pos (by omega) (ev_pos (by omega) (ev_pos (by omega) (ev_pos (by omega) (ev_pos (by omega) (ev_pos (by omega) (Ev.bind (concat_ev _ (by simp) ?_) (ev_pos (by omega) ?_)))))))
   ·have h2 : (s.take j).length ≤ s.length := (List.take_sublist j s).length_le
    have h3 : (s.drop (j + 1)).length ≤ s.length := (List.drop_sublist (j + 1) s).length_le
    simp only [total]; omega
   ·have e : [s.take j, s.drop (j + 1)].flatten = drp s j := by simp [drp]
    rw [e]; exact hr)
  have e : faces s = (List.range s.length).map (drp s) := by unfold faces; rw [if_pos h1]
  rw [e]
  refine this _ ?_
  refine Ev.step (fun k => z110.l0.eq_2 ..) ?_
  exact ev_neg (by omega) (Ev.now _)
 ·have e : faces s = [] := by unfold faces; rw [if_neg h1]
  rw [e]
  refine ev_find (fun (i : Nat) k => z110.l0 k s ([] : List (List Int)) (s.length : Int) (i : Int)) (fun _ => false) s.length 0 (fun j _ hj _ r hr => ?_) (fun _ _ _ h => by cases h) (fun _ => ?_)
  ·refine Ev.step (fun k => z110.l0.eq_2 ..) ?_
   rw [wrap_succ (by omega)]
   exact ev_pos (by omega) (ev_neg (by omega) hr)
  ·refine Ev.step (fun k => z110.l0.eq_2 ..) ?_
   rw [Nat.zero_add]
   exact ev_neg (by omega) (Ev.now _)
theorem drop_val (s : List Int) (i : Nat) (hi : i < s.length) (hs : s.length ≤ 1000000000000) : z108.f s (i : Int) = some (drp s i) := by
 unfold z108.f z82.f
 have h2 : (s.take i).length ≤ s.length := (List.take_sublist i s).length_le
 have h3 : (s.drop (i + 1)).length ≤ s.length := (List.drop_sublist (i + 1) s).length_le
 rw [wrap_succ (by omega), Int.toNat_natCast, Int.toNat_natCast, if_pos (by omega), if_pos (by omega)]
 simp only [Option.bind_some, List.nil_append, List.length_nil, Nat.zero_add]
 rw [if_pos (by omega)]
 simp only [Option.bind_some]
 rw [if_pos (by omega), if_pos (by omega), if_pos (by omega)]
 rfl

def okAt (C : List (List Int)) (D : List (List Int)) (i : Nat) : Bool := (isSimplex (C.getD i []) && (i == 0 || slt (C.getD (i - 1) []) (C.getD i []))) && (faces (C.getD i [])).all fun f => decide (f ∈ D)
def okC (C : List (List Int)) : Bool := decide (C.length ≤ 48) && (List.range C.length).all (okAt C C)
theorem okAt_iff {C D : List (List Int)} {i : Nat} : okAt C D i = true ↔ isSimplex (C.getD i []) = true ∧ (i = 0 ∨ slt (C.getD (i - 1) []) (C.getD i []) = true) ∧ ∀ f, f ∈ faces (C.getD i []) → f ∈ D := by
 unfold okAt
 rw [Bool.and_eq_true, Bool.and_eq_true, Bool.or_eq_true, List.all_eq_true, beq_iff_eq]
 simp only [decide_eq_true_eq]
 exact ⟨fun ⟨⟨a, b⟩, c⟩ => ⟨a, b, c⟩, fun ⟨a, b, c⟩ => ⟨⟨a, b⟩, c⟩⟩
theorem srt_upto {C D : Nat → List (List Int)} {L : List (List Int)} (n : Nat) (hn : n ≤ L.length) (h : ∀ m, m < n → okAt L (D m) m = true) : Srt (L.take n) := by
 refine srt_of_get (fun i hi => ?_)
 rw [List.length_take] at hi
 have hi' : i + 1 < n := by omega
 obtain ⟨_, h2, _⟩ := okAt_iff.1 (h (i + 1) hi')
 have e1 : (L.take n).getD i [] = L.getD i [] := by
  rw [List.getD_eq_getElem?_getD, List.getD_eq_getElem?_getD, List.getElem?_take, if_pos (by omega)]
 have e2 : (L.take n).getD (i + 1) [] = L.getD (i + 1) [] := by
  rw [List.getD_eq_getElem?_getD, List.getD_eq_getElem?_getD, List.getElem?_take, if_pos hi']
 rw [e1, e2]
 rcases h2 with h2 | h2
 ·omega
 ·exact h2
theorem okC_iff {C : List (List Int)} : okC C = true ↔ C.length ≤ 48 ∧ Srt C ∧ (∀ s, s ∈ C → isSimplex s = true) ∧ Closed C := by
 unfold okC
 rw [Bool.and_eq_true, decide_eq_true_iff, List.all_eq_true]
 constructor
 ·rintro ⟨h1, h2⟩
  have h2' : ∀ m, m < C.length → okAt C C m = true := fun m hm => h2 m (List.mem_range.2 hm)
  have hs := srt_upto (C := fun _ => C) (D := fun _ => C) C.length (Nat.le_refl _) h2'
  rw [List.take_length] at hs
  refine ⟨h1, hs, fun s hs => ?_, fun s hs hl k hk => ?_⟩
  ·obtain ⟨i, hi, e⟩ := List.mem_iff_getElem.1 hs
   have := (okAt_iff.1 (h2' i hi)).1
   rw [List.getD_eq_getElem?_getD, List.getElem?_eq_getElem hi] at this
   simpa [e] using this
  ·obtain ⟨i, hi, e⟩ := List.mem_iff_getElem.1 hs
   have := (okAt_iff.1 (h2' i hi)).2.2
   rw [List.getD_eq_getElem?_getD, List.getElem?_eq_getElem hi] at this
   simp only [Option.getD_some, e] at this
   exact this _ (mem_faces.2 ⟨hl, k, hk, rfl⟩)
 ·rintro ⟨h1, h2, h3, h4⟩
  refine ⟨h1, fun i hi => okAt_iff.2 ⟨h3 _ (getD_mem [] (List.mem_range.1 hi)), ?_, fun f hf => ?_⟩⟩
  ·rcases Nat.eq_zero_or_pos i with h | h
   ·exact .inl h
   ·exact .inr (srt_get h2 (by omega) (List.mem_range.1 hi))
  ·obtain ⟨hl, k, hk, rfl⟩ := mem_faces.1 hf
   exact h4 _ (getD_mem [] (List.mem_range.1 hi)) hl k hk
theorem simplex_len {s : List Int} (h : isSimplex s = true) : 1 ≤ s.length ∧ s.length ≤ 4 := by
 unfold isSimplex at h
 rw [Bool.and_eq_true, Bool.and_eq_true, decide_eq_true_iff, decide_eq_true_iff] at h
 exact h.1
theorem okAt_take {C : List (List Int)} (hs : Srt C) {i : Nat} (hi : i < C.length) : okAt C (C.take i) i = okAt C C i := by
 rw [Bool.eq_iff_iff, okAt_iff, okAt_iff]
 refine and_congr Iff.rfl (and_congr Iff.rfl ⟨fun h f hf => List.mem_of_mem_take (h f hf), fun h f hf => ?_⟩)
 obtain ⟨j, hj, e⟩ := List.mem_iff_getElem.1 (h f hf)
 have hlt := faces_slt hf
 have ej : C.getD j [] = f := by rw [List.getD_eq_getElem?_getD, List.getElem?_eq_getElem hj]; exact e
 rcases Nat.lt_or_ge j i with hl | hg
 ·rw [List.mem_iff_getElem]
  exact ⟨j, by rw [List.length_take]; omega, by rw [List.getElem_take]; exact e⟩
 ·rcases Nat.eq_or_lt_of_le hg with rfl | hl
  ·rw [ej, slt_irrefl] at hlt; cases hlt
  ·have := srt_get hs hl hj
   rw [ej] at this
   rw [slt_asymm this] at hlt; cases hlt
theorem ok_same (C : List (List Int)) : ((List.range C.length).all (fun i => okAt C (C.take i) i) && decide (C.length ≤ 48)) = okC C := by
 unfold okC
 rw [Bool.and_comm]
 congr 1
 rw [Bool.eq_iff_iff, List.all_eq_true, List.all_eq_true]
 constructor
 ·intro h
  have hs := srt_upto (C := fun _ => C) (D := fun m => C.take m) (L := C) C.length (Nat.le_refl _) (fun m hm => h m (List.mem_range.2 hm))
  rw [List.take_length] at hs
  intro i hi
  rw [← okAt_take hs (List.mem_range.1 hi)]; exact h i hi
 ·intro h
  have hs := srt_upto (C := fun _ => C) (D := fun _ => C) (L := C) C.length (Nat.le_refl _) (fun m hm => h m (List.mem_range.2 hm))
  rw [List.take_length] at hs
  intro i hi
  rw [okAt_take hs (List.mem_range.1 hi)]; exact h i hi

theorem missing_ev (C : List (List Int)) (i : Nat) (hi : i ≤ C.length) (hl : C.length < 4611686018427387904) (hr : ∀ x ∈ C, x.length < 9223372036854775807) (hs : Srt (C.take i)) (f : List Int) (hf : f.length < 9223372036854775807) :
  Ev (fun k => z111.f k f C (i : Int)) (!decide (f ∈ C.take i)) := by
 unfold z111.f
 rw [Int.toNat_natCast]
 have hlt : (C.take i).length ≤ C.length := (List.take_sublist i C).length_le
 refine ev_pos (by omega) (ev_pos (by omega) (Ev.bind (indexOf_ev (C.take i) f (by omega) (fun x hx => hr x (List.mem_of_mem_take hx)) hf hs) (ev_eq (Ev.now _) ?_)))
 rw [Bool.eq_iff_iff, decide_eq_true_iff, idx_neg]; simp
theorem anyMissing_ev (C : List (List Int)) (n0 : Nat) (hi : n0 ≤ C.length) (hl : C.length < 4611686018427387904) (hrr : ∀ x ∈ C, x.length < 9223372036854775807) (hs : Srt (C.take n0)) (l : List (List Int)) (hll : l.length < 9223372036854775807) (hf : ∀ x ∈ l, x.length < 9223372036854775807) :
  Ev (fun k => z224.f k l C (n0 : Int)) (l.any fun f => !decide (f ∈ C.take n0)) := by
 obtain ⟨t, ht, hd⟩ := ev_index_list (l) [] (fun i k => z228.l0 k (l) ((l).length : Int) (i : Int) C (n0 : Int)) (fun f => !decide (f ∈ C.take n0)) (fun j hj hp r hr => by
   refine Ev.step (fun k => z228.l0.eq_2 ..) ?_
   refine ev_pos (by omega) (ev_pos (by omega) (ev_pos (by omega) ?_))
   rw [rdl_nat, wrap_succ (by omega)]
   exact Ev.bind (missing_ev C n0 hi hl hrr hs _ (hf _ (getD_mem [] hj))) (ev_neg (by rw [hp]; decide) hr)) (fun j hj hp => by
   refine Ev.step (fun k => z228.l0.eq_2 ..) ?_
   refine ev_pos (by omega) (ev_pos (by omega) (ev_pos (by omega) ?_))
   rw [rdl_nat]
   exact Ev.bind (missing_ev C n0 hi hl hrr hs _ (hf _ (getD_mem [] hj))) (ev_pos hp (Ev.now _))) (by
   refine Ev.step (fun k => z228.l0.eq_2 ..) ?_
   exact ev_neg (by omega) (Ev.now _))
 unfold z224.f z228.f
 refine Ev.bind ht (ev_eq (Ev.now _) hd)
theorem implValid_ev (C : List (List Int)) (hl : C.length ≤ 1048576) (hr : ∀ x ∈ C, x.length ≤ 1048576) : Ev (fun k => z58.f k C) (okC C) := by
 rw [← ok_same]
 unfold z58.f
 have hr' : ∀ x ∈ C, x.length < 9223372036854775807 := fun x hx => by have := hr x hx; omega
 -- the rest of a round
 have hrest : ∀ (j : Nat) (b : Bool), j < C.length → Srt (C.take j) → ∀ v, (b = false → ((faces (C.getD j [])).all fun f => decide (f ∈ C.take j)) = true → Ev (fun k => z58.l0 k C (C.length : Int) ((j + 1 : Nat) : Int) C) v) → (b = true ∨ ((faces (C.getD j [])).all fun f => decide (f ∈ C.take j)) = false → v = false) →
   Ev (fun k => z58.j1 k (C.getD j []) C (C.length : Int) (j : Int) b C (j : Int)) v := by
  intro j b hj hs v h1 h2
  have hrow := hr _ (getD_mem ([] : List Int) hj)
  refine Ev.step (fun k => z58.j1.eq_2 ..) ?_
  cases b with
  | true => rw [h2 (.inl rfl)]; exact ev_pos rfl (Ev.now _)
  | false =>
   refine ev_neg (by decide) (Ev.bind (facesOf_ev _ (by omega)) (Ev.bind (anyMissing_ev C j (by omega) (by omega) hr' hs _ (by have := faces_len (C.getD j []); omega) (fun x hx => by have := faces_row hx; omega)) ?_))
   cases ha : (faces (C.getD j [])).all fun f => decide (f ∈ C.take j) with
   | true =>
    refine ev_neg ?_ ?_
    ·rw [List.any_eq_not_all_not]; simp only [Bool.not_not, ha]; decide
    ·rw [wrap_succ (by omega)]; exact h1 rfl ha
   | false =>
    rw [h2 (.inr ha)]
    refine ev_pos ?_ (Ev.now _)
    rw [List.any_eq_not_all_not]; simp only [Bool.not_not, ha]; rfl
 have hround : ∀ (j : Nat), j < C.length → (∀ m, m < j → okAt C (C.take m) m = true) → ∀ v, (okAt C (C.take j) j = true → Ev (fun k => z58.l0 k C (C.length : Int) ((j + 1 : Nat) : Int) C) v) → (okAt C (C.take j) j = false → v = false) →
   Ev (fun k => z58.l0 k C (C.length : Int) (j : Int) C) v := by
  intro j hj hall v h1 h2
  have hs : Srt (C.take j) := srt_upto (C := fun _ => C) (D := fun m => C.take m) j (by omega) hall
  have hrow := hr _ (getD_mem ([] : List Int) hj)
  have key := hrest j
  refine Ev.step (fun k => z58.l0.eq_2 ..) ?_
  rw [rdl_nat]
  refine ev_pos (by omega) (ev_pos (by omega) (ev_pos (by omega) (Ev.bind (implSimplex_ev _ (by omega)) ?_)))
  unfold okAt at h1 h2
  cases hi : isSimplex (C.getD j []) with
  | false =>
   rw [hi] at h1 h2
   refine ev_neg (by decide) (key true hj hs v (fun h => by cases h) (fun _ => h2 rfl))
  | true =>
   rw [hi] at h1 h2
   refine ev_pos rfl ?_
   rcases Nat.eq_zero_or_pos j with h0 | h0
   ·have e : (j == 0) = true := by simpa using h0
    rw [e] at h1 h2
    simp only [Bool.true_or, Bool.true_and] at h1 h2
    exact ev_neg (by omega) (key false hj hs v (fun _ ha => h1 ha) (fun h => h2 (h.elim (fun h => by cases h) id)))
   ·have e : (j == 0) = false := by simpa using (show j ≠ 0 by omega)
    rw [e] at h1 h2
    simp only [Bool.false_or, Bool.true_and] at h1 h2
    rw [show wrap64 ((j : Int) - 1) = ((j - 1 : Nat) : Int) by rw [wrap_small (by omega) (by omega)]; omega, rdl_nat]
    have hrow2 := hr _ (getD_mem ([] : List Int) (show j - 1 < C.length by omega))
    refine ev_pos (by omega) (ev_pos (by omega) (ev_pos (by omega) (Ev.bind (compareS_ev _ _ (by omega) (by omega)) ?_)))
    cases hc : slt (C.getD (j - 1) []) (C.getD j []) with
    | true =>
     have e2 : decide (scmp (C.getD (j - 1) []) (C.getD j []) ≥ 0) = false := decide_eq_false (by have := (scmp_neg _ _).2 hc; omega)
     rw [e2]
     rw [hc] at h1 h2
     simp only [Bool.true_and] at h1 h2
     exact key false hj hs v (fun _ ha => h1 ha) (fun h => h2 (h.elim (fun h => by cases h) id))
    | false =>
     have e2 : decide (scmp (C.getD (j - 1) []) (C.getD j []) ≥ 0) = true := decide_eq_true (by
      have : ¬ scmp (C.getD (j - 1) []) (C.getD j []) < 0 := fun h => by rw [(scmp_neg _ _).1 h] at hc; cases hc
      omega)
     rw [e2]
     rw [hc] at h2
     exact key true hj hs v (fun h => by cases h) (fun _ => h2 rfl)
 refine ev_all_then (fun (i : Nat) k => z58.l0 k C (C.length : Int) (i : Int) C) (fun i => okAt C (C.take i) i) (decide (C.length ≤ 48)) C.length (fun j hj hall hp r hr' => ?_) (fun j hj hall hp => ?_) (fun _ => ?_)
 ·exact hround j hj hall r (fun _ => hr') (fun h => by rw [hp] at h; cases h)
 ·exact hround j hj hall false (fun h => by rw [hp] at h; cases h) (fun _ => rfl)
 ·refine Ev.step (fun k => z58.l0.eq_2 ..) ?_
  exact ev_neg (by omega) (ev_eq (Ev.now _) (by rw [Bool.eq_iff_iff, decide_eq_true_iff, decide_eq_true_iff]; omega))

theorem specOk_ev (C : List (List Int)) (hl : C.length ≤ 1048576) (hr : ∀ x ∈ C, x.length ≤ 1048576) : Ev (fun k => z56.f k C) (okC C) := by
 unfold z56.f okC
 have hr' : ∀ x ∈ C, x.length < 9223372036854775807 := fun x hx => by have := hr x hx; omega
 by_cases h48 : C.length ≤ 48
 ·rw [decide_eq_true h48, Bool.true_and]
  refine ev_neg (by omega) ?_
  -- the faces
  have hfaces : ∀ (j : Nat), j < C.length → ∀ v, (((faces (C.getD j [])).all fun f => decide (f ∈ C)) = true → Ev (fun k => z56.l0 k ((j + 1 : Nat) : Int) C) v) → (((faces (C.getD j [])).all fun f => decide (f ∈ C)) = false → v = false) →
    Ev (fun k => z56.l1 k (j : Int) (C.getD j []) 0 C) v := by
   intro j hj v h1 h2
   have hrow := hr _ (getD_mem ([] : List Int) hj)
   by_cases hlen : 1 < (C.getD j []).length
   ·have hstep : ∀ (m : Nat), m < (C.getD j []).length → ∀ u, (drp (C.getD j []) m ∈ C → Ev (fun k => z56.l1 k (j : Int) (C.getD j []) ((m + 1 : Nat) : Int) C) u) → (drp (C.getD j []) m ∉ C → u = false) → Ev (fun k => z56.l1 k (j : Int) (C.getD j []) (m : Int) C) u := by
     intro m hm u g1 g2
     refine Ev.step (fun k => z56.l1.eq_2 ..) ?_
     refine ev_pos (by omega) ?_
     refine Ev.step (fun k => z56.j3.eq_2 ..) ?_
     refine ev_pos (decide_eq_true (by omega)) (Ev.bind (ev_const (drop_val _ m hm (by omega))) (Ev.bind (find_ev C _ (by omega) hr') ?_))
     by_cases hin : drp (C.getD j []) m ∈ C
     ·rw [wrap_succ (by omega)]
      exact ev_neg (fun h => (idx_neg C _).1 h hin) (g1 hin)
     ·rw [g2 hin]
      exact ev_pos ((idx_neg C _).2 hin) (Ev.now _)
    have hall := ev_all_then (fun (m : Nat) k => (z56.l1 k (j : Int) (C.getD j []) (m : Int) C).map fun b => b) (fun m => decide (drp (C.getD j []) m ∈ C)) v (C.getD j []).length ?_ ?_ ?_
    ·have e : ((List.range (C.getD j []).length).all (fun m => decide (drp (C.getD j []) m ∈ C)) && v) = v := by
      cases v with
      | false => simp
      | true =>
       have : ((faces (C.getD j [])).all fun f => decide (f ∈ C)) = true := by
        cases hc : (faces (C.getD j [])).all fun f => decide (f ∈ C) with
        | true => rfl
        | false => have := h2 hc; cases this
       unfold faces at this
       rw [if_pos hlen, List.all_map] at this
       rw [Bool.and_true]; exact this
     rw [e] at hall
     simpa using hall
    ·intro m hm _ hp u hu
     simp only [Option.map_id'] at hu ⊢
     exact hstep m hm u (fun _ => hu) (fun h => absurd (of_decide_eq_true hp) h)
    ·intro m hm _ hp
     simp only [Option.map_id']
     exact hstep m hm false (fun h => absurd h (of_decide_eq_false hp)) (fun _ => rfl)
    ·intro hall
     simp only [Option.map_id']
     have hfa : ((faces (C.getD j [])).all fun f => decide (f ∈ C)) = true := by
      unfold faces
      rw [if_pos hlen, List.all_map, List.all_eq_true]
      exact fun m hm => hall m (List.mem_range.1 hm)
     refine Ev.step (fun k => z56.l1.eq_2 ..) ?_
     refine ev_neg (by omega) ?_
     refine Ev.step (fun k => z56.j3.eq_2 ..) ?_
     rw [wrap_succ (i := j) (by omega)]
     exact ev_neg (by decide) (h1 hfa)
   ·have hfa : ((faces (C.getD j [])).all fun f => decide (f ∈ C)) = true := by
     unfold faces; rw [if_neg hlen]; rfl
    refine Ev.step (fun k => z56.l1.eq_2 ..) ?_
    by_cases h0 : 0 < (C.getD j []).length
    ·refine ev_pos (by omega) ?_
     refine Ev.step (fun k => z56.j3.eq_2 ..) ?_
     rw [wrap_succ (i := j) (by omega)]
     exact ev_neg (by rw [decide_eq_false (by omega)]; decide) (h1 hfa)
    ·refine ev_neg (by omega) ?_
     refine Ev.step (fun k => z56.j3.eq_2 ..) ?_
     rw [wrap_succ (i := j) (by omega)]
     exact ev_neg (by decide) (h1 hfa)
  have hround : ∀ (j : Nat), j < C.length → ∀ v, (okAt C C j = true → Ev (fun k => z56.l0 k ((j + 1 : Nat) : Int) C) v) → (okAt C C j = false → v = false) → Ev (fun k => z56.l0 k (j : Int) C) v := by
   intro j hj v h1 h2
   have hrow := hr _ (getD_mem ([] : List Int) hj)
   have key := hfaces j hj v
   have stop : v = false → Ev (fun k => z56.j1 k (j : Int) (C.getD j []) true C) v := fun e => by
    refine Ev.step (fun k => z56.j1.eq_2 ..) ?_
    rw [e]; exact ev_pos rfl (Ev.now _)
   have go : Ev (fun k => z56.l1 k (j : Int) (C.getD j []) 0 C) v → Ev (fun k => z56.j1 k (j : Int) (C.getD j []) false C) v := fun e => by
    refine Ev.step (fun k => z56.j1.eq_2 ..) ?_
    exact ev_neg (by decide) e
   refine Ev.step (fun k => z56.l0.eq_2 ..) ?_
   rw [rdl_nat]
   refine ev_pos (by omega) (ev_pos (by omega) (Ev.bind (specSimplex_ev _ (by omega)) ?_))
   unfold okAt at h1 h2
   cases hi : isSimplex (C.getD j []) with
   | false => rw [hi] at h2; exact ev_neg (by decide) (stop (h2 rfl))
   | true =>
    rw [hi] at h1 h2
    refine ev_pos rfl ?_
    rcases Nat.eq_zero_or_pos j with h0 | h0
    ·have e : (j == 0) = true := by simpa using h0
     rw [e] at h1 h2
     simp only [Bool.true_or, Bool.true_and] at h1 h2
     exact ev_neg (by omega) (go (key h1 h2))
    ·have e : (j == 0) = false := by simpa using (show j ≠ 0 by omega)
     rw [e] at h1 h2
     simp only [Bool.false_or, Bool.true_and] at h1 h2
     have hrow2 := hr _ (getD_mem ([] : List Int) (show j - 1 < C.length by omega))
     rw [show wrap64 ((j : Int) - 1) = ((j - 1 : Nat) : Int) by rw [wrap_small (by omega) (by omega)]; omega, rdl_nat]
     refine ev_pos (by omega) (ev_pos (by omega) (ev_pos (by omega) (Ev.bind (before_ev _ _ (by omega)) ?_)))
     cases hc : slt (C.getD (j - 1) []) (C.getD j []) with
     | true =>
      rw [hc] at h1 h2
      simp only [Bool.true_and] at h1 h2
      exact go (key h1 h2)
     | false => rw [hc] at h2; exact stop (h2 rfl)
  refine ev_all (fun (i : Nat) k => z56.l0 k (i : Int) C) (okAt C C) C.length (fun j hj hp r hr' => ?_) (fun j hj hp => ?_) ?_
  ·exact hround j hj r (fun _ => hr') (fun h => by rw [hp] at h; cases h)
  ·exact hround j hj false (fun h => by rw [hp] at h; cases h) (fun _ => rfl)
  ·refine Ev.step (fun k => z56.l0.eq_2 ..) ?_
   exact ev_neg (by omega) (Ev.now _)
 ·rw [decide_eq_false h48, Bool.false_and]
  exact ev_pos (by omega) (Ev.now _)
end Go.Proofs.Ytipkciildhghiaa.B

set_option linter.unusedVariables false
set_option linter.unusedSimpArgs false
namespace Go.Proofs.Ytipkciildhghiaa.B
open Go.RowKit Go.Proofs.YtipkciildhghiaaW.PrintWords
open SimT

section
variable {C : List (List Int)} (hl : C.length ≤ 1048576) (hr : ∀ x ∈ C, x.length ≤ 1048576)
include hl hr
omit hl hr in
theorem size_val (l : List Int) : z63.f l = some (l.length : Int) := rfl
omit hl hr in
def ofDim (C : List (List Int)) (d : Int) : List Int := filt (fun i => decide (((C.getD i []).length : Int) = d + 1)) C.length
omit hr in
theorem simplicesOf_ev {d : Int} (h0 : -1000 ≤ d) (h1 : d ≤ 1000) : Ev (fun k => z93.f k C d) (ofDim C d) := by
 unfold z93.f
 refine ev_filt (fun (s : List Int) (j : Nat) k => z93.l0 k d s C (C.length : Int) (j : Int)) (fun i => decide (((C.getD i []).length : Int) = d + 1)) C.length (fun j s hj hs hp r hr' => ?_) (fun j s hj hs hp r hr' => ?_) _ ?_
 ·refine Ev.step (fun k => z93.l0.eq_2 ..) ?_
  rw [rdl_nat, wrap_succ (by omega), wrap_small (x := d + 1) (by omega) (by omega)]
  exact ev_pos (by omega) (ev_pos (by omega) (ev_pos (by omega) (Ev.bind (ev_const (size_val _)) (ev_pos (of_decide_eq_true hp) (ev_pos (by omega) hr')))))
 ·refine Ev.step (fun k => z93.l0.eq_2 ..) ?_
  rw [rdl_nat, wrap_succ (by omega), wrap_small (x := d + 1) (by omega) (by omega)]
  exact ev_pos (by omega) (ev_pos (by omega) (ev_pos (by omega) (Ev.bind (ev_const (size_val _)) (ev_neg (of_decide_eq_false hp) hr'))))
 ·refine Ev.step (fun k => z93.l0.eq_2 ..) ?_
  exact ev_neg (by omega) (Ev.now _)
omit hr in
theorem specOf_ev {d : Int} (h0 : -1000 ≤ d) (h1 : d ≤ 1000) : Ev (fun k => z89.f k C d) (ofDim C d) := by
 unfold z89.f
 refine ev_filt (fun (s : List Int) (j : Nat) k => z89.l0 k d s (j : Int) C) (fun i => decide (((C.getD i []).length : Int) = d + 1)) C.length (fun j s hj hs hp r hr' => ?_) (fun j s hj hs hp r hr' => ?_) _ ?_
 ·refine Ev.step (fun k => z89.l0.eq_2 ..) ?_
  rw [rdl_nat, wrap_succ (by omega), wrap_small (x := d + 1) (by omega) (by omega)]
  exact ev_pos (by omega) (ev_pos (by omega) (ev_pos (of_decide_eq_true hp) (ev_pos (by omega) hr')))
 ·refine Ev.step (fun k => z89.l0.eq_2 ..) ?_
  rw [rdl_nat, wrap_succ (by omega), wrap_small (x := d + 1) (by omega) (by omega)]
  exact ev_pos (by omega) (ev_pos (by omega) (ev_neg (of_decide_eq_false hp) hr'))
 ·refine Ev.step (fun k => z89.l0.eq_2 ..) ?_
  exact ev_neg (by omega) (Ev.now _)
omit hl hr in
def faceIdx (C : List (List Int)) (s : List Int) : List Int := (faces s).map (idx C)
theorem faceIndices_ev (hs : Srt C) {i : Nat} (hi : i < C.length) : Ev (fun k => z138.f k C (i : Int)) (faceIdx C (C.getD i [])) := by
 unfold z138.f
 have hrow := hr _ (getD_mem ([] : List Int) hi)
 rw [rdl_nat]
 refine ev_pos (by omega) (ev_pos (by omega) (Ev.bind (facesOf_ev _ (by omega)) ?_))
 have hfl := faces_len (C.getD i [])
 have e : faceIdx C (C.getD i []) = (List.range (faces (C.getD i [])).length).map fun j => idx C ((faces (C.getD i [])).getD j []) := map_range [] (idx C) _
 rw [e]
 refine ev_map (fun (s : List Int) (j : Nat) k => z138.l0 k s (faces (C.getD i [])) ((faces (C.getD i [])).length : Int) (j : Int) C) (fun j => idx C ((faces (C.getD i [])).getD j [])) (faces (C.getD i [])).length (fun j s hj hs' r hr' => ?_) _ ?_
 ·refine Ev.step (fun k => z138.l0.eq_2 ..) ?_
  have hsl : s.length = j := by rw [hs']; simp
  have hf := faces_row (getD_mem ([] : List Int) hj)
  rw [rdl_nat, wrap_succ (by omega)]
  exact ev_pos (by omega) (ev_pos (by omega) (ev_pos (by omega) (Ev.bind (indexOf_ev C _ (by omega) (fun x hx => by have := hr x hx; omega) (by omega) hs) (ev_pos (by omega) hr'))))
 ·refine Ev.step (fun k => z138.l0.eq_2 ..) ?_
  exact ev_neg (by omega) (Ev.now _)
theorem specFaces_ev {i : Nat} (hi : i < C.length) : Ev (fun k => z135.f k C (i : Int)) (faceIdx C (C.getD i [])) := by
 unfold z135.f
 have hrow := hr _ (getD_mem ([] : List Int) hi)
 rw [rdl_nat]
 refine ev_pos (by omega) (ev_pos (by omega) ?_)
 by_cases h1 : 1 < (C.getD i []).length
 ·have e : faceIdx C (C.getD i []) = (List.range (C.getD i []).length).map fun j => idx C (drp (C.getD i []) j) := by
   unfold faceIdx faces
   rw [if_pos h1, List.map_map]; rfl
  rw [e]
  refine ev_map (fun (s : List Int) (j : Nat) k => z135.l0 k (C.getD i []) s (j : Int) C) (fun j => idx C (drp (C.getD i []) j)) (C.getD i []).length (fun j s hj hs' r hr' => ?_) _ ?_
  ·refine Ev.step (fun k => z135.l0.eq_2 ..) ?_
   have hsl : s.length = j := by rw [hs']; simp
   refine ev_pos (by omega) ?_
   refine Ev.step (fun k => z135.j1.eq_2 ..) ?_
   rw [wrap_succ (by omega)]
   exact ev_pos (decide_eq_true (by omega)) (Ev.bind (ev_const (drop_val _ j hj (by omega))) (Ev.bind (find_ev C _ (by omega) (fun x hx => by have := hr x hx; omega)) (ev_pos (by omega) hr')))
  ·refine Ev.step (fun k => z135.l0.eq_2 ..) ?_
   refine ev_neg (by omega) ?_
   refine Ev.step (fun k => z135.j1.eq_2 ..) ?_
   exact ev_neg (by decide) (Ev.now _)
 ·have e : faceIdx C (C.getD i []) = [] := by
   unfold faceIdx faces; rw [if_neg h1]; rfl
  rw [e]
  refine Ev.step (fun k => z135.l0.eq_2 ..) ?_
  by_cases h2 : 0 < (C.getD i []).length
  ·refine ev_pos (by omega) ?_
   refine Ev.step (fun k => z135.j1.eq_2 ..) ?_
   exact ev_neg (by rw [decide_eq_false (by omega)]; decide) (Ev.now _)
  ·refine ev_neg (by omega) ?_
   refine Ev.step (fun k => z135.j1.eq_2 ..) ?_
   exact ev_neg (by decide) (Ev.now _)
end
end Go.Proofs.Ytipkciildhghiaa.B

set_option linter.unusedVariables false
set_option linter.unusedSimpArgs false
namespace Go.Proofs.Ytipkciildhghiaa.B.LinT

abbrev Vec := Nat → Int
theorem dvd_add' {p a b : Int} (h : p ∣ a) (h' : p ∣ b) : p ∣ a + b := Int.dvd_add h h'
theorem dvd_mul_l {p a : Int} (c : Int) (h : p ∣ a) : p ∣ c * a := Int.dvd_trans h (Int.dvd_mul_left c a)
def Zr (p : Int) (n : Nat) (v : Vec) : Prop := ∀ i, i < n → p ∣ v i
structure Sub (p : Int) (n : Nat) (S : Vec → Prop) : Prop where
 zero : ∀ v, Zr p n v → S v
 add : ∀ v w, S v → S w → S (fun i => v i + w i)
 smul : ∀ (c : Int) v, S v → S (fun i => c * v i)
theorem Sub.congr {p : Int} {n : Nat} {S : Vec → Prop} (h : Sub p n S) {v w : Vec} (hv : S v) (e : ∀ i, i < n → p ∣ w i - v i) : S w := by
 have := h.add v (fun i => w i - v i) hv (h.zero _ e)
 have e2 : (fun i => v i + (w i - v i)) = w := by funext i; omega
 rwa [e2] at this
theorem Sub.sub {p : Int} {n : Nat} {S : Vec → Prop} (h : Sub p n S) {v w : Vec} (hv : S v) (hw : S w) : S (fun i => v i - w i) := by
 have := h.add v _ hv (h.smul (-1) w hw)
 have e2 : (fun i => v i + -1 * w i) = fun i => v i - w i := by funext i; omega
 rwa [e2] at this
def Ld (p : Int) (n : Nat) (v : Vec) (i : Nat) : Prop := i < n ∧ ¬ p ∣ v i ∧ ∀ j, j < i → p ∣ v j
theorem least' {q : Nat → Prop} (h : ∃ j, q j) : ∃ j, q j ∧ ∀ m, m < j → ¬ q m := by
 obtain ⟨j, hj⟩ := h
 induction j using Nat.strongRecOn with
 | _ j ih =>
  by_cases hm : ∃ m, m < j ∧ q m
  ·obtain ⟨m, h1, h2⟩ := hm
   exact ih m h1 h2
  ·exact ⟨j, hj, fun m h1 h2 => hm ⟨m, h1, h2⟩⟩
theorem ld_of {p : Int} {n : Nat} {v : Vec} (h : ¬ Zr p n v) : ∃ i, Ld p n v i := by
 have : ∃ i, i < n ∧ ¬ p ∣ v i := by
  refine Classical.byContradiction fun hc => h fun i hi => Classical.byContradiction fun hd => hc ⟨i, hi, hd⟩
 obtain ⟨i, ⟨h1, h2⟩, h3⟩ := least' this
 exact ⟨i, h1, h2, fun j hj => Classical.byContradiction fun hd => h3 j hj ⟨by omega, hd⟩⟩
theorem ld_unique {p : Int} {n : Nat} {v : Vec} {i j : Nat} (h : Ld p n v i) (h' : Ld p n v j) : i = j := by
 rcases Nat.lt_trichotomy i j with hl | he | hl
 ·exact absurd (h'.2.2 i hl) h.2.1
 ·exact he
 ·exact absurd (h.2.2 j hl) h'.2.1
theorem ld_nz {p : Int} {n : Nat} {v : Vec} {i : Nat} (h : Ld p n v i) : ¬ Zr p n v := fun hz => h.2.1 (hz i h.1)
def Pl (p : Int) (n : Nat) (S : Vec → Prop) (i : Nat) : Prop := ∃ v, S v ∧ Ld p n v i
open Classical in
noncomputable def cnt (Q : Nat → Prop) : Nat → Nat
 | 0 => 0
 | n + 1 => cnt Q n + (if Q n then 1 else 0)
theorem cnt_le (Q : Nat → Prop) : ∀ n, cnt Q n ≤ n
 | 0 => Nat.le_refl _
 | n + 1 => by have := cnt_le Q n; simp only [cnt]; split <;> omega
theorem cnt_mono {Q R : Nat → Prop} : ∀ n, (∀ i, i < n → Q i → R i) → cnt Q n ≤ cnt R n
 | 0, _ => Nat.le_refl _
 | n + 1, h => by
  have ih := cnt_mono n (fun i hi => h i (by omega))
  have hn := h n (by omega)
  simp only [cnt]
  by_cases hq : Q n
  ·rw [if_pos hq, if_pos (hn hq)]; omega
  ·rw [if_neg hq]; split <;> omega
theorem cnt_congr {Q R : Nat → Prop} (n : Nat) (h : ∀ i, i < n → (Q i ↔ R i)) : cnt Q n = cnt R n :=
 Nat.le_antisymm (cnt_mono n fun i hi => (h i hi).1) (cnt_mono n fun i hi => (h i hi).2)
theorem cnt_eq_sub {Q R : Nat → Prop} : ∀ n, (∀ i, i < n → Q i → R i) → cnt Q n = cnt R n → ∀ i, i < n → R i → Q i
 | 0, _, _, i, hi, _ => by omega
 | n + 1, h, e, i, hi, hr => by
  have hm := cnt_mono n (fun i hi => h i (by omega))
  have hn := h n (by omega)
  simp only [cnt] at e
  by_cases hq : Q n
  ·rw [if_pos hq, if_pos (hn hq)] at e
   rcases Nat.lt_or_ge i n with hl | hg
   ·exact cnt_eq_sub n (fun i hi => h i (by omega)) (by omega) i hl hr
   ·have : i = n := by omega
    subst this; exact hq
  ·rw [if_neg hq] at e
   have hnr : ¬ R n := fun hR => by rw [if_pos hR] at e; omega
   rw [if_neg hnr] at e
   rcases Nat.lt_or_ge i n with hl | hg
   ·exact cnt_eq_sub n (fun i hi => h i (by omega)) (by omega) i hl hr
   ·have : i = n := by omega
    subst this; exact absurd hr hnr
theorem cnt_insert {Q R : Nat → Prop} (i0 : Nat) : ∀ n, i0 < n → ¬ Q i0 → (∀ i, i < n → (R i ↔ Q i ∨ i = i0)) → cnt R n = cnt Q n + 1
 | 0, h, _, _ => by omega
 | n + 1, h, hq, he => by
  simp only [cnt]
  rcases Nat.lt_or_ge i0 n with hl | hg
  ·rw [cnt_insert i0 n hl hq (fun i hi => he i (by omega))]
   have e := he n (by omega)
   have e2 : R n ↔ Q n := by
    rw [e]
    constructor
    ·rintro (h | h)
     ·exact h
     ·omega
    ·exact Or.inl
   by_cases hqn : Q n
   ·rw [if_pos hqn, if_pos (e2.2 hqn)]
   ·rw [if_neg hqn, if_neg (fun h => hqn (e2.1 h))]
  ·have : i0 = n := by omega
   subst this
   rw [if_neg hq, if_pos ((he i0 (by omega)).2 (.inr rfl)), cnt_congr (Q := R) (R := Q) i0 (fun i hi => by
    rw [he i (by omega)]; constructor
    ·rintro (h | h)
     ·exact h
     ·omega
    ·exact Or.inl)]
theorem cnt_split (Q : Nat → Prop) (a : Nat) : ∀ b, cnt Q (a + b) = cnt Q a + cnt (fun j => Q (a + j)) b
 | 0 => by simp [cnt]
 | b + 1 => by
  rw [show a + (b + 1) = (a + b) + 1 by omega]
  simp only [cnt]
  rw [cnt_split Q a b]; omega
theorem cnt_all (Q : Nat → Prop) : ∀ n, (∀ i, i < n → Q i) → cnt Q n = n
 | 0, _ => rfl
 | n + 1, h => by simp only [cnt]; rw [cnt_all Q n (fun i hi => h i (by omega)), if_pos (h n (by omega))]
theorem cnt_none (Q : Nat → Prop) : ∀ n, (∀ i, i < n → ¬ Q i) → cnt Q n = 0
 | 0, _ => rfl
 | n + 1, h => by simp only [cnt]; rw [cnt_none Q n (fun i hi => h i (by omega)), if_neg (h n (by omega))]
noncomputable def dim (p : Int) (n : Nat) (S : Vec → Prop) : Nat := cnt (Pl p n S) n
theorem dim_le (p : Int) (n : Nat) (S : Vec → Prop) : dim p n S ≤ n := cnt_le _ _
theorem dim_mono {p : Int} {n : Nat} {S T : Vec → Prop} (h : ∀ v, S v → T v) : dim p n S ≤ dim p n T :=
 cnt_mono n fun i _ ⟨v, h1, h2⟩ => ⟨v, h v h1, h2⟩
theorem dim_congr {p : Int} {n : Nat} {S T : Vec → Prop} (h : ∀ v, S v ↔ T v) : dim p n S = dim p n T :=
 Nat.le_antisymm (dim_mono fun v => (h v).1) (dim_mono fun v => (h v).2)

def Pr (p : Int) : Prop := (¬ p ∣ 1) ∧ ∀ a, ¬ p ∣ a → ∃ b, p ∣ a * b - 1
theorem not_dvd_mul {p a b : Int} (hp : Pr p) (h : ¬ p ∣ a) (h' : ¬ p ∣ b) : ¬ p ∣ a * b := fun hd => by
 obtain ⟨c, hc⟩ := hp.2 a h
 apply h'
 obtain ⟨k, hk⟩ := hd
 obtain ⟨m, hm⟩ := hc
 exact ⟨c * k - m * b, by grind⟩
theorem reduce_to {p : Int} {n : Nat} {S : Vec → Prop} (hp : Pr p) (hS : Sub p n S) (v : Vec) : ∃ s, S s ∧ (Zr p n (fun i => v i - s i) ∨ ∃ i, Ld p n (fun i => v i - s i) i ∧ ¬ Pl p n S i) := by
 have main : ∀ (d : Nat) (v : Vec), (∀ j, j + d < n → p ∣ v j) → ∃ s, S s ∧ (Zr p n (fun i => v i - s i) ∨ ∃ i, Ld p n (fun i => v i - s i) i ∧ ¬ Pl p n S i) := by
  intro d
  induction d with
  | zero =>
   intro v hv
   refine ⟨fun _ => 0, hS.zero _ (fun i _ => Int.dvd_zero p), .inl fun i hi => ?_⟩
   simpa using hv i (by omega)
  | succ d ih =>
   intro v hv
   by_cases hz : Zr p n v
   ·refine ⟨fun _ => 0, hS.zero _ (fun i _ => Int.dvd_zero p), .inl fun i hi => ?_⟩
    simpa using hz i hi
   ·obtain ⟨i, hi⟩ := ld_of hz
    by_cases hP : Pl p n S i
    ·obtain ⟨s, hs, hl⟩ := hP
     obtain ⟨b, hb⟩ := hp.2 _ hl.2.1
     obtain ⟨t, ht, h⟩ := ih (fun j => v j - (v i * b) * s j) (fun j hj => by
      rcases Nat.lt_trichotomy j i with h1 | h1 | h1
      ·exact Int.dvd_sub (hi.2.2 j h1) (dvd_mul_l _ (hl.2.2 j h1))
      ·subst h1
       obtain ⟨k, hk⟩ := hb
       exact ⟨-(v j * k), by grind⟩
      ·have : i < n := hi.1
       exact absurd (hv i (by omega)) hi.2.1)
     refine ⟨fun j => (v i * b) * s j + t j, hS.add _ _ (hS.smul _ _ hs) ht, ?_⟩
     have e : (fun j => v j - ((v i * b) * s j + t j)) = fun j => v j - (v i * b) * s j - t j := by funext j; omega
     rw [e]; exact h
    ·refine ⟨fun _ => 0, hS.zero _ (fun i _ => Int.dvd_zero p), .inr ⟨i, ?_, hP⟩⟩
     simpa using hi
 exact main n v (fun j hj => by omega)
theorem sub_of_dim {p : Int} {n : Nat} {S T : Vec → Prop} (hp : Pr p) (hS : Sub p n S) (hT : Sub p n T) (h : ∀ v, S v → T v) (e : dim p n S = dim p n T) : ∀ v, T v → S v := by
 intro v hv
 obtain ⟨s, hs, hz | ⟨i, hi, hP⟩⟩ := reduce_to hp hS v
 ·exact hS.congr hs hz
 ·exact absurd (cnt_eq_sub n (fun i _ ⟨v, h1, h2⟩ => ⟨v, h v h1, h2⟩) e i hi.1 ⟨_, hT.sub hv (h s hs), hi⟩) hP
def Ins (p : Int) (n : Nat) (S : Vec → Prop) (x v : Vec) : Prop := ∃ (c : Int) (s : Vec), S s ∧ ∀ i, i < n → p ∣ v i - (c * x i + s i)
theorem Ins.isSub {p : Int} {n : Nat} {S : Vec → Prop} (hS : Sub p n S) (x : Vec) : Sub p n (Ins p n S x) where
 zero v hv := ⟨0, fun _ => 0, hS.zero _ (fun i _ => Int.dvd_zero p), fun i hi => by simpa using hv i hi⟩
 add := by
  rintro v w ⟨c, s, hs, h⟩ ⟨c', s', hs', h'⟩
  refine ⟨c + c', _, hS.add _ _ hs hs', fun i hi => ?_⟩
  have := Int.dvd_add (h i hi) (h' i hi)
  have e : v i + w i - ((c + c') * x i + (s i + s' i)) = (v i - (c * x i + s i)) + (w i - (c' * x i + s' i)) := by grind
  rw [e]; exact this
 smul := by
  rintro d v ⟨c, s, hs, h⟩
  refine ⟨d * c, _, hS.smul d _ hs, fun i hi => ?_⟩
  have := dvd_mul_l d (h i hi)
  have e : d * v i - (d * c * x i + d * s i) = d * (v i - (c * x i + s i)) := by grind
  rw [e]; exact this
theorem Ins.old {p : Int} {n : Nat} {S : Vec → Prop} {x v : Vec} (h : S v) : Ins p n S x v := ⟨0, v, h, fun i _ => by simp⟩
theorem Ins.new {p : Int} {n : Nat} {S : Vec → Prop} (hS : Sub p n S) {x : Vec} : Ins p n S x x := ⟨1, fun _ => 0, hS.zero _ (fun i _ => Int.dvd_zero p), fun i _ => by simp⟩
theorem Ins.least {p : Int} {n : Nat} {S T : Vec → Prop} (hT : Sub p n T) {x v : Vec} (h : ∀ v, S v → T v) (hx : T x) (hv : Ins p n S x v) : T v := by
 obtain ⟨c, s, hs, he⟩ := hv
 exact hT.congr (hT.add _ _ (hT.smul c _ hx) (h s hs)) he
theorem dim_ins {p : Int} {n : Nat} {S : Vec → Prop} (hp : Pr p) (hS : Sub p n S) {x : Vec} (hx : ¬ S x) : dim p n (Ins p n S x) = dim p n S + 1 := by
 obtain ⟨s, hs, hz | ⟨i0, hi, hP⟩⟩ := reduce_to hp hS x
 ·exact absurd (hS.congr hs hz) hx
 refine cnt_insert i0 n hi.1 hP (fun i hin => ⟨?_, ?_⟩)
 ·rintro ⟨v, ⟨c, t, ht, he⟩, hl⟩
  by_cases hc : p ∣ c
  ·left
   refine ⟨v, hS.congr ht (fun j hj => ?_), hl⟩
   have := Int.dvd_add (he j hj) (Int.dvd_mul_of_dvd_left (c := x j) hc)
   have e : v j - t j = v j - (c * x j + t j) + c * x j := by omega
   rw [e]; exact this
  ·-- v = c (x - s) + (c s + t)
   have hu : S (fun j => c * s j + t j) := hS.add _ _ (hS.smul c _ hs) ht
   have hv : ∀ j, j < n → p ∣ v j - (c * (x j - s j) + (c * s j + t j)) := fun j hj => by
    have e : v j - (c * (x j - s j) + (c * s j + t j)) = v j - (c * x j + t j) := by grind
    rw [e]; exact he j hj
   generalize hdef : (fun j => c * s j + t j) = u at hu
   have hv : ∀ j, j < n → p ∣ v j - (c * (x j - s j) + u j) := fun j hj => by rw [← hdef]; exact hv j hj
   rcases Nat.lt_trichotomy i i0 with h1 | h1 | h1
   ·left
    refine ⟨u, hu, hin, fun hd => hl.2.1 ?_, fun j hj => ?_⟩
    ·have h2 := hi.2.2 i h1
     have := Int.dvd_add (hv i hin) (Int.dvd_add (dvd_mul_l c h2) hd)
     have e : v i = v i - (c * (x i - s i) + u i) + (c * (x i - s i) + u i) := by omega
     rw [e]; exact this
    ·have h2 := hi.2.2 j (by omega)
     have h3 := hl.2.2 j hj
     have := Int.dvd_sub h3 (Int.dvd_add (hv j (by omega)) (dvd_mul_l c h2))
     have e : u j = v j - (v j - (c * (x j - s j) + u j) + c * (x j - s j)) := by omega
     rw [e]; exact this
   ·exact .inr h1
   ·exfalso
    -- u has the lead i0
    refine hP ⟨u, hu, hi.1, fun hd => ?_, fun j hj => ?_⟩
    ·have h3 := hl.2.2 i0 h1
     have h4 : p ∣ c * (x i0 - s i0) := by
      have := Int.dvd_sub h3 (Int.dvd_add (hv i0 hi.1) hd)
      have e : c * (x i0 - s i0) = v i0 - (v i0 - (c * (x i0 - s i0) + u i0) + u i0) := by omega
      rw [e]; exact this
     exact not_dvd_mul hp hc hi.2.1 h4
    ·have h2 := hi.2.2 j hj
     have h3 := hl.2.2 j (by omega)
     have := Int.dvd_sub h3 (Int.dvd_add (hv j (by have := hi.1; omega)) (dvd_mul_l c h2))
     have e : u j = v j - (v j - (c * (x j - s j) + u j) + c * (x j - s j)) := by omega
     rw [e]; exact this
 ·rintro (⟨v, hv, hl⟩ | rfl)
  ·exact ⟨v, Ins.old hv, hl⟩
  ·exact ⟨_, (Ins.isSub hS x).sub (Ins.new hS) (Ins.old hs), hi⟩
def Span (p : Int) (n : Nat) : List Vec → Vec → Prop
 | [] => Zr p n
 | x :: L => Ins p n (Span p n L) x
theorem zr_sub (p : Int) (n : Nat) : Sub p n (Zr p n) where
 zero _ h := h
 add _ _ h h' i hi := Int.dvd_add (h i hi) (h' i hi)
 smul c _ h i hi := dvd_mul_l c (h i hi)
theorem span_sub (p : Int) (n : Nat) : ∀ L, Sub p n (Span p n L)
 | [] => zr_sub p n
 | x :: L => Ins.isSub (span_sub p n L) x
theorem span_mem {p : Int} {n : Nat} : ∀ {L : List Vec} {x : Vec}, x ∈ L → Span p n L x
 | y :: L, x, h => by
  rcases List.mem_cons.1 h with rfl | h
  ·exact Ins.new (span_sub p n L)
  ·exact Ins.old (span_mem h)
theorem span_least {p : Int} {n : Nat} {T : Vec → Prop} (hT : Sub p n T) : ∀ {L : List Vec} {v : Vec}, (∀ x, x ∈ L → T x) → Span p n L v → T v
 | [], v, _, hv => hT.zero v hv
 | y :: L, v, h, hv => Ins.least hT (fun v hv => span_least hT (fun x hx => h x (List.mem_cons_of_mem _ hx)) hv) (h y List.mem_cons_self) hv
theorem span_mono {p : Int} {n : Nat} {L M : List Vec} (h : ∀ x, x ∈ L → Span p n M x) {v : Vec} (hv : Span p n L v) : Span p n M v := span_least (span_sub p n M) h hv
def Indep (p : Int) (n : Nat) : List Vec → Prop
 | [] => True
 | x :: L => ¬ Span p n L x ∧ Indep p n L
theorem dim_zero (p : Int) (n : Nat) : dim p n (Zr p n) = 0 := cnt_none _ n (fun i _ ⟨_, h1, h2⟩ => ld_nz h2 h1)
theorem dim_indep {p : Int} {n : Nat} (hp : Pr p) : ∀ {L : List Vec}, Indep p n L → dim p n (Span p n L) = L.length
 | [], _ => dim_zero p n
 | x :: L, h => by
  have := dim_ins hp (span_sub p n L) h.1
  simp only [Span, List.length_cons]
  rw [this, dim_indep hp h.2]
theorem ins_eq {p : Int} {n : Nat} {S : Vec → Prop} (hS : Sub p n S) {x : Vec} (hx : S x) (v : Vec) : Ins p n S x v ↔ S v :=
 ⟨fun h => Ins.least hS (fun _ h => h) hx h, Ins.old⟩
theorem dim_span_le {p : Int} {n : Nat} (hp : Pr p) : ∀ (L : List Vec), dim p n (Span p n L) ≤ L.length
 | [] => by rw [show Span p n [] = Zr p n from rfl, dim_zero]; exact Nat.le_refl _
 | x :: L => by
  have ih := dim_span_le (n := n) hp L
  simp only [Span, List.length_cons]
  by_cases hx : Span p n L x
  ·rw [dim_congr (ins_eq (span_sub p n L) hx)]; omega
  ·rw [dim_ins hp (span_sub p n L) hx]; omega
theorem indep_of_dim {p : Int} {n : Nat} (hp : Pr p) : ∀ {L : List Vec}, dim p n (Span p n L) = L.length → Indep p n L
 | [], _ => trivial
 | x :: L, h => by
  have ih := dim_span_le (n := n) hp L
  simp only [Span, List.length_cons] at h
  by_cases hx : Span p n L x
  ·rw [dim_congr (ins_eq (span_sub p n L) hx)] at h; omega
  ·rw [dim_ins hp (span_sub p n L) hx] at h
   exact ⟨hx, indep_of_dim hp (by omega)⟩

def Fst (p : Int) (a : Nat) (U : Vec → Prop) (v : Vec) : Prop := ∃ u, U u ∧ ∀ i, i < a → p ∣ v i - u i
def behind (a : Nat) (w : Vec) : Vec := fun i => if i < a then 0 else w (i - a)
def Snd (a : Nat) (U : Vec → Prop) (w : Vec) : Prop := U (behind a w)
theorem fst_sub {p : Int} {a b : Nat} {U : Vec → Prop} (hU : Sub p (a + b) U) : Sub p a (Fst p a U) where
 zero v hv := ⟨fun _ => 0, hU.zero _ (fun _ _ => Int.dvd_zero p), fun i hi => by simpa using hv i hi⟩
 add := by
  rintro v w ⟨u, hu, h⟩ ⟨t, ht, h'⟩
  refine ⟨_, hU.add _ _ hu ht, fun i hi => ?_⟩
  have e : v i + w i - (u i + t i) = (v i - u i) + (w i - t i) := by omega
  rw [e]; exact Int.dvd_add (h i hi) (h' i hi)
 smul := by
  rintro c v ⟨u, hu, h⟩
  refine ⟨_, hU.smul c _ hu, fun i hi => ?_⟩
  have e : c * v i - c * u i = c * (v i - u i) := by grind
  rw [e]; exact dvd_mul_l c (h i hi)
theorem snd_sub {p : Int} {a b : Nat} {U : Vec → Prop} (hU : Sub p (a + b) U) : Sub p b (Snd a U) where
 zero v hv := hU.zero _ (fun i hi => by
  unfold behind; split
  ·exact Int.dvd_zero p
  ·exact hv _ (by omega))
 add v w hv hw := by
  have := hU.add _ _ hv hw
  have e : (fun i => behind a v i + behind a w i) = behind a (fun i => v i + w i) := by funext i; unfold behind; split <;> simp
  unfold Snd; rw [← e]; exact this
 smul c v hv := by
  have := hU.smul c _ hv
  have e : (fun i => c * behind a v i) = behind a (fun i => c * v i) := by funext i; unfold behind; split <;> simp
  unfold Snd; rw [← e]; exact this
theorem dim_split {p : Int} {a b : Nat} {U : Vec → Prop} (hU : Sub p (a + b) U) : dim p (a + b) U = dim p a (Fst p a U) + dim p b (Snd a U) := by
 unfold dim
 rw [cnt_split]
 congr 1
 ·refine cnt_congr a (fun i hi => ⟨?_, ?_⟩)
  ·rintro ⟨v, hv, h1, h2, h3⟩
   exact ⟨v, ⟨v, hv, fun i _ => by simp⟩, hi, h2, h3⟩
  ·rintro ⟨v, ⟨u, hu, he⟩, h1, h2, h3⟩
   refine ⟨u, hu, by omega, fun hd => h2 ?_, fun j hj => ?_⟩
   ·have := Int.dvd_add (he i hi) hd
    rwa [show v i - u i + u i = v i by omega] at this
   ·have := Int.dvd_sub (h3 j hj) (he j (by omega))
    rwa [show v j - (v j - u j) = u j by omega] at this
 ·refine cnt_congr b (fun i hi => ⟨?_, ?_⟩)
  ·rintro ⟨v, hv, h1, h2, h3⟩
   refine ⟨fun j => v (a + j), hU.congr hv (fun j hj => ?_), hi, h2, fun j hj => h3 _ (by omega)⟩
   unfold behind
   split
   ·have := h3 j (by omega)
    rw [show (0 : Int) - v j = -(v j) by omega]; exact Int.dvd_neg.2 this
   ·have e : a + (j - a) = j := by omega
    show p ∣ v (a + (j - a)) - v j
    rw [e]; simp
  ·rintro ⟨w, hw, h1, h2, h3⟩
   refine ⟨_, hw, by omega, ?_, fun j hj => ?_⟩
   ·unfold behind; rw [if_neg (by omega), show a + i - a = i by omega]; exact h2
   ·unfold behind; split
    ·exact Int.dvd_zero p
    ·exact h3 _ (by omega)

theorem basis_exists {p : Int} {n : Nat} {S : Vec → Prop} (hp : Pr p) (hS : Sub p n S) : ∃ L, Indep p n L ∧ ∀ v, Span p n L v ↔ S v := by
 have main : ∀ (d : Nat) (L : List Vec), Indep p n L → (∀ x, x ∈ L → S x) → n ≤ L.length + d → ∃ L, Indep p n L ∧ ∀ v, Span p n L v ↔ S v := by
  intro d
  induction d with
  | zero =>
   intro L hL hx hd
   refine ⟨L, hL, fun v => ⟨span_least hS hx, ?_⟩⟩
   have h1 := dim_indep hp hL
   have h2 : dim p n (Span p n L) ≤ dim p n S := dim_mono fun v => span_least hS hx
   have h3 := dim_le p n S
   exact sub_of_dim hp (span_sub p n L) hS (fun v => span_least hS hx) (by omega) v
  | succ d ih =>
   intro L hL hx hd
   by_cases h : ∀ v, S v → Span p n L v
   ·exact ⟨L, hL, fun v => ⟨span_least hS hx, h v⟩⟩
   ·obtain ⟨v, hv⟩ := Classical.not_forall.1 h
    have hv1 : S v := Classical.byContradiction fun hc => hv fun h => absurd h hc
    have hv2 : ¬ Span p n L v := fun hc => hv fun _ => hc
    refine ih (v :: L) ⟨hv2, hL⟩ (fun x hxm => ?_) (by simp only [List.length_cons]; omega)
    rcases List.mem_cons.1 hxm with rfl | hm
    ·exact hv1
    ·exact hx x hm
 exact main n [] trivial (fun x hx => by cases hx) (by simp)
structure Lmap (p : Int) (a b : Nat) (f : Vec → Vec) : Prop where
 zr : ∀ v, Zr p a v → Zr p b (f v)
 add : ∀ v w j, j < b → p ∣ f (fun i => v i + w i) j - (f v j + f w j)
 smul : ∀ (c : Int) v j, j < b → p ∣ f (fun i => c * v i) j - c * f v j
theorem Lmap.sub {p : Int} {a b : Nat} {f : Vec → Vec} (hf : Lmap p a b f) (v w : Vec) (j : Nat) (hj : j < b) : p ∣ f (fun i => v i - w i) j - (f v j - f w j) := by
 have h1 := hf.add v (fun i => -1 * w i) j hj
 have h2 := hf.smul (-1) w j hj
 have e : (fun i => v i + -1 * w i) = fun i => v i - w i := by funext i; omega
 simp only [e] at h1
 have := Int.dvd_add h1 h2
 have e2 : f (fun i => v i - w i) j - (f v j - f w j) = f (fun i => v i - w i) j - (f v j + f (fun i => -1 * w i) j) + (f (fun i => -1 * w i) j - -1 * f w j) := by omega
 rw [e2]; exact this
def Img (p : Int) (b : Nat) (f : Vec → Vec) (S : Vec → Prop) (y : Vec) : Prop := ∃ v, S v ∧ ∀ j, j < b → p ∣ y j - f v j
theorem img_sub {p : Int} {a b : Nat} {f : Vec → Vec} {S : Vec → Prop} (hf : Lmap p a b f) (hS : Sub p a S) : Sub p b (Img p b f S) where
 zero y hy := ⟨fun _ => 0, hS.zero _ (fun _ _ => Int.dvd_zero p), fun j hj => Int.dvd_sub (hy j hj) (hf.zr _ (fun _ _ => Int.dvd_zero p) j hj)⟩
 add := by
  rintro y z ⟨v, hv, h⟩ ⟨w, hw, h'⟩
  refine ⟨_, hS.add _ _ hv hw, fun j hj => ?_⟩
  have := Int.dvd_sub (Int.dvd_add (h j hj) (h' j hj)) (hf.add v w j hj)
  have e : y j + z j - f (fun i => v i + w i) j = (y j - f v j + (z j - f w j)) - (f (fun i => v i + w i) j - (f v j + f w j)) := by omega
  rw [e]; exact this
 smul := by
  rintro c y ⟨v, hv, h⟩
  refine ⟨_, hS.smul c _ hv, fun j hj => ?_⟩
  have := Int.dvd_sub (dvd_mul_l c (h j hj)) (hf.smul c v j hj)
  have e : c * y j - f (fun i => c * v i) j = c * (y j - f v j) - (f (fun i => c * v i) j - c * f v j) := by grind
  rw [e]; exact this
theorem img_of {p : Int} {b : Nat} {f : Vec → Vec} {S : Vec → Prop} {v : Vec} (h : S v) : Img p b f S (f v) := ⟨v, h, fun j _ => by simp⟩
theorem span_map {p : Int} {a b : Nat} {f : Vec → Vec} (hf : Lmap p a b f) : ∀ (L : List Vec) (y : Vec), Span p b (L.map f) y ↔ Img p b f (Span p a L) y := by
 intro L y
 constructor
 ·refine span_least (img_sub hf (span_sub p a L)) (fun x hx => ?_)
  obtain ⟨v, hv, rfl⟩ := List.mem_map.1 hx
  exact img_of (span_mem hv)
 ·rintro ⟨v, hv, he⟩
  refine (span_sub p b (L.map f)).congr (v := f v) ?_ he
  have hT : Sub p a (fun v => Span p b (L.map f) (f v)) := {
   zero := fun v hv => (span_sub p b _).zero _ (hf.zr v hv)
   add := fun v w hv hw => (span_sub p b _).congr ((span_sub p b _).add _ _ hv hw) (hf.add v w)
   smul := fun c v hv => (span_sub p b _).congr ((span_sub p b _).smul c _ hv) (hf.smul c v) }
  exact span_least hT (fun x hx => span_mem (List.mem_map_of_mem hx)) hv
theorem dim_iso {p : Int} {a b : Nat} {f : Vec → Vec} {S : Vec → Prop} (hp : Pr p) (hf : Lmap p a b f) (hS : Sub p a S) (hinj : ∀ v, S v → Zr p b (f v) → Zr p a v) : dim p b (Img p b f S) = dim p a S := by
 obtain ⟨L, hL, hLS⟩ := basis_exists hp hS
 have hind : ∀ M : List Vec, (∀ x, x ∈ M → S x) → Indep p a M → Indep p b (M.map f) := by
  intro M
  induction M with
  | nil => intro _ _; trivial
  | cons x M ih =>
   intro hx hM
   refine ⟨fun hs => hM.1 ?_, ih (fun y hy => hx y (List.mem_cons_of_mem _ hy)) hM.2⟩
   obtain ⟨v, hv, he⟩ := (span_map hf M _).1 hs
   have hvS : S v := span_least hS (fun y hy => hx y (List.mem_cons_of_mem _ hy)) hv
   have hxS := hx x List.mem_cons_self
   refine (span_sub p a M).congr hv (hinj _ (hS.sub hxS hvS) (fun j hj => ?_))
   have := Int.dvd_add (hf.sub x v j hj) (he j hj)
   rwa [Int.sub_add_cancel] at this
 have h1 := dim_indep hp (hind L (fun x hx => (hLS x).1 (span_mem hx)) hL)
 have h2 := dim_indep hp hL
 rw [List.length_map] at h1
 rw [← dim_congr (S := Span p a L) hLS, h2, ← h1]
 refine dim_congr fun y => ?_
 rw [span_map hf L y]
 constructor
 ·rintro ⟨v, hv, he⟩; exact ⟨v, (hLS v).2 hv, he⟩
 ·rintro ⟨v, hv, he⟩; exact ⟨v, (hLS v).1 hv, he⟩
def graph (b : Nat) (f : Vec → Vec) (v : Vec) : Vec := fun i => if i < b then f v i else v (i - b)
theorem graph_lmap {p : Int} {a b : Nat} {f : Vec → Vec} (hf : Lmap p a b f) : Lmap p a (b + a) (graph b f) where
 zr v hv i hi := by
  unfold graph; split
  ·exact hf.zr v hv i (by assumption)
  ·exact hv _ (by omega)
 add v w j hj := by
  unfold graph; split
  ·exact hf.add v w j (by assumption)
  ·simp
 smul c v j hj := by
  unfold graph; split
  ·exact hf.smul c v j (by assumption)
  ·simp
def Inter (S T : Vec → Prop) (v : Vec) : Prop := S v ∧ T v
def Ker (p : Int) (b : Nat) (f : Vec → Vec) (v : Vec) : Prop := Zr p b (f v)
theorem inter_sub {p : Int} {n : Nat} {S T : Vec → Prop} (hS : Sub p n S) (hT : Sub p n T) : Sub p n (Inter S T) where
 zero v h := ⟨hS.zero v h, hT.zero v h⟩
 add v w h h' := ⟨hS.add v w h.1 h'.1, hT.add v w h.2 h'.2⟩
 smul c v h := ⟨hS.smul c v h.1, hT.smul c v h.2⟩
theorem ker_sub {p : Int} {a b : Nat} {f : Vec → Vec} (hf : Lmap p a b f) : Sub p a (Ker p b f) where
 zero v h := hf.zr v h
 add v w h h' j hj := by
  have := Int.dvd_add (hf.add v w j hj) (Int.dvd_add (h j hj) (h' j hj))
  rwa [Int.sub_add_cancel] at this
 smul c v h j hj := by
  have := Int.dvd_add (hf.smul c v j hj) (dvd_mul_l c (h j hj))
  rwa [Int.sub_add_cancel] at this
theorem rank_nullity {p : Int} {a b : Nat} {f : Vec → Vec} {S : Vec → Prop} (hp : Pr p) (hf : Lmap p a b f) (hS : Sub p a S) : dim p b (Img p b f S) + dim p a (Inter S (Ker p b f)) = dim p a S := by
 have hg := graph_lmap hf
 have hU := img_sub hg hS
 have h1 := dim_iso hp hg hS (fun v _ hz i hi => by
  have := hz (b + i) (by omega)
  unfold graph at this
  rwa [if_neg (by omega), show b + i - b = i by omega] at this)
 rw [← h1, dim_split hU]
 congr 1
 ·refine dim_congr fun y => ⟨?_, ?_⟩
  ·rintro ⟨v, hv, he⟩
   refine ⟨graph b f v, img_of hv, fun j hj => ?_⟩
   unfold graph; rw [if_pos hj]; exact he j hj
  ·rintro ⟨u, ⟨v, hv, he⟩, h⟩
   refine ⟨v, hv, fun j hj => ?_⟩
   have h2 := he j (by omega)
   unfold graph at h2; rw [if_pos hj] at h2
   have := Int.dvd_add (h j hj) h2
   rwa [show y j - u j + (u j - f v j) = y j - f v j by omega] at this
 ·refine dim_congr fun w => ⟨?_, ?_⟩
  ·rintro ⟨hw, hk⟩
   refine ⟨w, hw, fun j hj => ?_⟩
   unfold behind graph
   by_cases h : j < b
   ·rw [if_pos h, if_pos h]
    have := Int.dvd_neg.2 (hk j h)
    rwa [show (0 : Int) - f w j = -(f w j) by omega]
   ·rw [if_neg h, if_neg h]; simp
  ·rintro ⟨v, hv, he⟩
   have e1 : ∀ i, i < a → p ∣ w i - v i := fun i hi => by
    have := he (b + i) (by omega)
    unfold behind graph at this
    rwa [if_neg (by omega), if_neg (by omega), show b + i - b = i by omega] at this
   refine ⟨hS.congr hv e1, (ker_sub hf).congr (v := v) (fun j hj => ?_) e1⟩
   have := he j (by omega)
   unfold behind graph at this
   rw [if_pos hj, if_pos hj] at this
   have := Int.dvd_neg.2 this
   rwa [show -((0 : Int) - f v j) = f v j by omega] at this
def All (v : Vec) : Prop := True
theorem all_sub (p : Int) (n : Nat) : Sub p n All := ⟨fun _ _ => trivial, fun _ _ _ _ => trivial, fun _ _ _ => trivial⟩
theorem dim_all {p : Int} (hp : Pr p) (n : Nat) : dim p n All = n := cnt_all _ n fun i hi => by
 refine ⟨fun j => if j = i then 1 else 0, trivial, hi, ?_, fun j hj => ?_⟩
 ·simp only [if_pos]; exact hp.1
 ·simp only []; rw [if_neg (by omega)]; exact Int.dvd_zero p
def Sum (p : Int) (n : Nat) (S T : Vec → Prop) (v : Vec) : Prop := ∃ s t, S s ∧ T t ∧ ∀ i, i < n → p ∣ v i - (s i + t i)
theorem sum_sub {p : Int} {n : Nat} {S T : Vec → Prop} (hS : Sub p n S) (hT : Sub p n T) : Sub p n (Sum p n S T) where
 zero v hv := ⟨v, fun _ => 0, hS.zero v hv, hT.zero _ (fun _ _ => Int.dvd_zero p), fun i _ => by simp⟩
 add := by
  rintro v w ⟨s, t, hs, ht, h⟩ ⟨s', t', hs', ht', h'⟩
  refine ⟨_, _, hS.add _ _ hs hs', hT.add _ _ ht ht', fun i hi => ?_⟩
  have e : v i + w i - (s i + s' i + (t i + t' i)) = v i - (s i + t i) + (w i - (s' i + t' i)) := by omega
  rw [e]; exact Int.dvd_add (h i hi) (h' i hi)
 smul := by
  rintro c v ⟨s, t, hs, ht, h⟩
  refine ⟨_, _, hS.smul c _ hs, hT.smul c _ ht, fun i hi => ?_⟩
  have e : c * v i - (c * s i + c * t i) = c * (v i - (s i + t i)) := by grind
  rw [e]; exact dvd_mul_l c (h i hi)
theorem span_append {p : Int} {n : Nat} (L M : List Vec) (v : Vec) : Span p n (L ++ M) v ↔ Sum p n (Span p n L) (Span p n M) v := by
 constructor
 ·refine span_least (sum_sub (span_sub p n L) (span_sub p n M)) (fun x hx => ?_)
  rcases List.mem_append.1 hx with h | h
  ·exact ⟨x, fun _ => 0, span_mem h, (span_sub p n M).zero _ (fun _ _ => Int.dvd_zero p), fun i _ => by simp⟩
  ·exact ⟨fun _ => 0, x, (span_sub p n L).zero _ (fun _ _ => Int.dvd_zero p), span_mem h, fun i _ => by simp⟩
 ·rintro ⟨s, t, hs, ht, h⟩
  refine (span_sub p n _).congr ((span_sub p n _).add _ _ ?_ ?_) h
  ·exact span_mono (fun x hx => span_mem (List.mem_append_left _ hx)) hs
  ·exact span_mono (fun x hx => span_mem (List.mem_append_right _ hx)) ht
theorem dim_sum_inter {p : Int} {n : Nat} {S T : Vec → Prop} (hp : Pr p) (hS : Sub p n S) (hT : Sub p n T) : dim p n (Sum p n S T) + dim p n (Inter S T) = dim p n S + dim p n T := by
 -- pairs
 let W : Vec → Prop := fun u => S u ∧ T (fun i => u (n + i))
 have hW : Sub p (n + n) W := {
  zero := fun v hv => ⟨hS.zero v (fun i hi => hv i (by omega)), hT.zero _ (fun i hi => hv _ (by omega))⟩
  add := fun v w h h' => ⟨hS.add _ _ h.1 h'.1, hT.add _ _ h.2 h'.2⟩
  smul := fun c v h => ⟨hS.smul c _ h.1, hT.smul c _ h.2⟩ }
 have hd : dim p (n + n) W = dim p n S + dim p n T := by
  rw [dim_split hW]
  congr 1
  ·refine dim_congr fun v => ⟨?_, fun h => ?_⟩
   ·rintro ⟨u, hu, he⟩; exact hS.congr hu.1 he
   ·refine ⟨fun i => if i < n then v i else 0, ⟨hS.congr h (fun i hi => ?_), hT.zero _ (fun i hi => ?_)⟩, fun i hi => ?_⟩
    ·simp only [if_pos hi]; simp
    ·simp only []; rw [if_neg (by omega)]; exact Int.dvd_zero p
    ·simp only [if_pos hi]; simp
  ·refine dim_congr fun v => ⟨fun h => ?_, fun h => ⟨hS.zero _ (fun i hi => ?_), hT.congr h (fun i hi => ?_)⟩⟩
   ·refine hT.congr h.2 (fun i hi => ?_)
    simp only [behind]; rw [if_neg (by omega), show n + i - n = i by omega]; simp
   ·unfold behind; rw [if_pos hi]; exact Int.dvd_zero p
   ·simp only [behind]; rw [if_neg (by omega), show n + i - n = i by omega]; simp
 have hf : Lmap p (n + n) n (fun u i => u i + u (n + i)) := {
  zr := fun v hv i hi => Int.dvd_add (hv i (by omega)) (hv (n + i) (by omega))
  add := fun v w j hj => by
   have e : v j + w j + (v (n + j) + w (n + j)) - (v j + v (n + j) + (w j + w (n + j))) = 0 := by omega
   simp only [e]; exact Int.dvd_zero p
  smul := fun c v j hj => by
   have e : c * v j + c * v (n + j) - c * (v j + v (n + j)) = 0 := by grind
   simp only [e]; exact Int.dvd_zero p }
 have h := rank_nullity hp hf hW
 rw [hd] at h
 have e1 : dim p n (Img p n (fun u i => u i + u (n + i)) W) = dim p n (Sum p n S T) := by
  refine dim_congr fun v => ⟨?_, ?_⟩
  ·rintro ⟨u, hu, he⟩; exact ⟨u, _, hu.1, hu.2, he⟩
  ·rintro ⟨s, t, hs, ht, he⟩
   refine ⟨fun i => if i < n then s i else t (i - n), ⟨hS.congr hs (fun i hi => ?_), hT.congr ht (fun i hi => ?_)⟩, fun i hi => ?_⟩
   ·simp only [if_pos hi]; simp
   ·simp only []; rw [if_neg (by omega), show n + i - n = i by omega]; simp
   ·simp only [if_pos hi]; rw [if_neg (by omega), show n + i - n = i by omega]; exact he i hi
 have e2 : dim p (n + n) (Inter W (Ker p n (fun u i => u i + u (n + i)))) = dim p n (Inter S T) := by
  have hg : Lmap p n (n + n) (fun v i => if i < n then v i else -v (i - n)) := {
   zr := fun v hv i hi => by
    simp only []; split
    ·exact hv i (by assumption)
    ·exact Int.dvd_neg.2 (hv _ (by omega))
   add := fun v w j hj => by
    simp only []; split
    ·simp
    ·rw [show -(v (j - n) + w (j - n)) - (-v (j - n) + -w (j - n)) = 0 by omega]; exact Int.dvd_zero p
   smul := fun c v j hj => by
    simp only []; split
    ·simp
    ·have e : -(c * v (j - n)) - c * -v (j - n) = 0 := by grind
     rw [e]; exact Int.dvd_zero p }
  rw [← dim_iso hp hg (inter_sub hS hT) (fun v _ hz i hi => by
   have := hz i (by omega)
   simp only [if_pos hi] at this; exact this)]
  refine dim_congr fun u => ⟨?_, ?_⟩
  ·rintro ⟨⟨h1, h2⟩, h3⟩
   have e : ∀ i, i < n → p ∣ u i + u (n + i) := h3
   refine ⟨u, ⟨h1, hT.congr (hT.smul (-1) _ h2) (fun i hi => ?_)⟩, fun i hi => ?_⟩
   ·have := e i hi
    rw [show u i - -1 * u (n + i) = u i + u (n + i) by omega]; exact this
   ·simp only []; split
    ·simp
    ·have := e (i - n) (by omega)
     rw [show n + (i - n) = i by omega] at this
     rw [show u i - -u (i - n) = u (i - n) + u i by omega]; exact this
  ·rintro ⟨v, ⟨h1, h2⟩, he⟩
   have ea : ∀ i, i < n → p ∣ u i - v i := fun i hi => by
    have := he i (by omega)
    simp only [if_pos hi] at this; exact this
   have eb : ∀ i, i < n → p ∣ u (n + i) - -1 * v i := fun i hi => by
    have := he (n + i) (by omega)
    simp only [] at this
    rw [if_neg (by omega), show n + i - n = i by omega] at this
    rw [show -1 * v i = -v i by omega]; exact this
   refine ⟨⟨hS.congr h1 ea, hT.congr (hT.smul (-1) _ h2) eb⟩, fun i hi => ?_⟩
   have := Int.dvd_add (ea i hi) (eb i hi)
   rwa [show u i - v i + (u (n + i) - -1 * v i) = u i + u (n + i) by omega] at this
 rw [e1, e2] at h
 omega

def sm (f : Nat → Int) : Nat → Int
 | 0 => 0
 | n + 1 => sm f n + f n
theorem sm_congr {f g : Nat → Int} : ∀ n, (∀ i, i < n → f i = g i) → sm f n = sm g n
 | 0, _ => rfl
 | n + 1, h => by simp only [sm]; rw [sm_congr n (fun i hi => h i (by omega)), h n (by omega)]
theorem sm_add (f g : Nat → Int) : ∀ n, sm (fun i => f i + g i) n = sm f n + sm g n
 | 0 => rfl
 | n + 1 => by simp only [sm]; rw [sm_add f g n]; omega
theorem sm_mul (c : Int) (f : Nat → Int) : ∀ n, sm (fun i => c * f i) n = c * sm f n
 | 0 => by simp [sm]
 | n + 1 => by simp only [sm]; rw [sm_mul c f n, Int.mul_add]
theorem sm_dvd {p : Int} {f : Nat → Int} : ∀ n, (∀ i, i < n → p ∣ f i) → p ∣ sm f n
 | 0, _ => Int.dvd_zero p
 | n + 1, h => Int.dvd_add (sm_dvd n fun i hi => h i (by omega)) (h n (by omega))
theorem sm_sub (f g : Nat → Int) (n : Nat) : sm (fun i => f i - g i) n = sm f n - sm g n := by
 have h := sm_add f (fun i => -1 * g i) n
 rw [sm_mul] at h
 rw [show (fun i => f i - g i) = fun i => f i + -1 * g i by funext i; omega, h]; omega
theorem sm_zero : ∀ n, sm (fun _ => 0) n = 0
 | 0 => rfl
 | n + 1 => by simp only [sm]; rw [sm_zero n]; rfl
theorem sm_single {f : Nat → Int} {p : Int} (i0 : Nat) : ∀ n, i0 < n → (∀ i, i < n → i ≠ i0 → p ∣ f i) → p ∣ sm f n - f i0
 | 0, h, _ => by omega
 | n + 1, h, hz => by
  simp only [sm]
  rcases Nat.lt_or_ge i0 n with hl | hg
  ·have := Int.dvd_add (sm_single i0 n hl (fun i hi => hz i (by omega))) (hz n (by omega) (by omega))
   rwa [show sm f n - f i0 + f n = sm f n + f n - f i0 by omega] at this
  ·have : i0 = n := by omega
   subst this
   have := sm_dvd (p := p) (f := f) i0 (fun i hi => hz i (by omega) (by omega))
   rwa [show sm f i0 + f i0 - f i0 = sm f i0 by omega]
theorem sm_swap (f : Nat → Nat → Int) (m : Nat) : ∀ n, sm (fun i => sm (fun j => f i j) m) n = sm (fun j => sm (fun i => f i j) n) m
 | 0 => by simp only [sm]; rw [sm_zero]
 | n + 1 => by
  simp only [sm]
  rw [sm_swap f m n, ← sm_add]
def dt (n : Nat) (v w : Vec) : Int := sm (fun i => v i * w i) n
theorem dt_comm (n : Nat) (v w : Vec) : dt n v w = dt n w v := sm_congr n fun i _ => Int.mul_comm _ _
theorem dt_add (n : Nat) (v w x : Vec) : dt n (fun i => v i + w i) x = dt n v x + dt n w x := by
 unfold dt; rw [← sm_add]; exact sm_congr n fun i _ => Int.add_mul _ _ _
theorem dt_mul (n : Nat) (c : Int) (v x : Vec) : dt n (fun i => c * v i) x = c * dt n v x := by
 unfold dt; rw [← sm_mul]; exact sm_congr n fun i _ => Int.mul_assoc _ _ _
theorem dt_zr {p : Int} {n : Nat} {v : Vec} (x : Vec) (h : Zr p n v) : p ∣ dt n v x := sm_dvd n fun i hi => Int.dvd_mul_of_dvd_left (h i hi)
def Perp (p : Int) (n : Nat) (S : Vec → Prop) (v : Vec) : Prop := ∀ s, S s → p ∣ dt n v s
theorem perp_sub (p : Int) (n : Nat) (S : Vec → Prop) : Sub p n (Perp p n S) where
 zero v hv s _ := dt_zr s hv
 add v w h h' s hs := by rw [dt_add]; exact Int.dvd_add (h s hs) (h' s hs)
 smul c v h s hs := by rw [dt_mul]; exact dvd_mul_l c (h s hs)
theorem perp_one_sub (p : Int) (n : Nat) (v : Vec) : Sub p n (fun s => p ∣ dt n v s) where
 zero w hw := by rw [dt_comm]; exact dt_zr v hw
 add s t h h' := by rw [dt_comm, dt_add, dt_comm n s, dt_comm n t]; exact Int.dvd_add h h'
 smul c s h := by rw [dt_comm, dt_mul, dt_comm n s]; exact dvd_mul_l c h
theorem perp_span {p : Int} {n : Nat} (L : List Vec) (v : Vec) : Perp p n (Span p n L) v ↔ ∀ x, x ∈ L → p ∣ dt n v x :=
 ⟨fun h x hx => h x (span_mem hx), fun h s hs => span_least (perp_one_sub p n v) h hs⟩

structure Rref (p : Int) (n r : Nat) (R : Nat → Vec) (q : Nat → Nat) : Prop where
 lt : ∀ i, i < r → q i < n
 mono : ∀ i j, i < j → j < r → q i < q j
 one : ∀ i, i < r → p ∣ R i (q i) - 1
 off : ∀ i j, i < r → j < r → i ≠ j → p ∣ R i (q j)
 pre : ∀ i c, i < r → c < q i → p ∣ R i c
def rows (R : Nat → Vec) (r : Nat) : List Vec := (List.range r).map R
theorem rows_mem {R : Nat → Vec} {r i : Nat} (h : i < r) : R i ∈ rows R r := List.mem_map_of_mem (List.mem_range.2 h)
theorem mem_rows {R : Nat → Vec} {r : Nat} {x : Vec} (h : x ∈ rows R r) : ∃ i, i < r ∧ R i = x := by
 obtain ⟨i, hi, he⟩ := List.mem_map.1 h
 exact ⟨i, List.mem_range.1 hi, he⟩
def comb (R : Nat → Vec) (r : Nat) (c : Nat → Int) : Vec := fun j => sm (fun i => c i * R i j) r
theorem comb_span {p : Int} {n : Nat} {S : Vec → Prop} (hS : Sub p n S) (R : Nat → Vec) (c : Nat → Int) : ∀ r, (∀ i, i < r → S (R i)) → S (comb R r c)
 | 0, _ => hS.zero _ (fun _ _ => Int.dvd_zero p)
 | r + 1, h => hS.add _ _ (comb_span hS R c r (fun i hi => h i (by omega))) (hS.smul (c r) _ (h r (by omega)))
theorem span_comb {p : Int} {n : Nat} (R : Nat → Vec) (r : Nat) (v : Vec) : Span p n (rows R r) v ↔ ∃ c, ∀ j, j < n → p ∣ v j - comb R r c j := by
 constructor
 ·refine span_least (T := fun v => ∃ c, ∀ j, j < n → p ∣ v j - comb R r c j) ⟨?_, ?_, ?_⟩ (fun x hx => ?_)
  ·intro v hv
   refine ⟨fun _ => 0, fun j hj => ?_⟩
   have e : comb R r (fun _ => 0) j = 0 := by
    unfold comb; rw [sm_congr (g := fun _ => 0) r (fun i _ => Int.zero_mul _), sm_zero]
   rw [e, Int.sub_zero]; exact hv j hj
  ·rintro v w ⟨c, hc⟩ ⟨d, hd⟩
   refine ⟨fun i => c i + d i, fun j hj => ?_⟩
   have e : comb R r (fun i => c i + d i) j = comb R r c j + comb R r d j := by
    unfold comb; rw [← sm_add]; exact sm_congr r fun i _ => Int.add_mul _ _ _
   have := Int.dvd_add (hc j hj) (hd j hj)
   rwa [show v j - comb R r c j + (w j - comb R r d j) = v j + w j - (comb R r c j + comb R r d j) by omega, ← e] at this
  ·rintro a v ⟨c, hc⟩
   refine ⟨fun i => a * c i, fun j hj => ?_⟩
   have e : comb R r (fun i => a * c i) j = a * comb R r c j := by
    unfold comb; rw [← sm_mul]; exact sm_congr r fun i _ => Int.mul_assoc _ _ _
   have := dvd_mul_l a (hc j hj)
   rwa [Int.mul_sub, ← e] at this
  ·obtain ⟨i0, hi0, rfl⟩ := mem_rows hx
   refine ⟨fun i => if i = i0 then 1 else 0, fun j hj => ?_⟩
   have := sm_single (p := p) (f := fun i => (if i = i0 then 1 else 0) * R i j) i0 r hi0 (fun i _ hne => by simp [hne])
   simp only [if_pos, Int.one_mul] at this
   have := Int.dvd_neg.2 this
   rwa [Int.neg_sub] at this
 ·rintro ⟨c, hc⟩
  exact (span_sub p n _).congr (comb_span (span_sub p n _) R c r (fun i hi => span_mem (rows_mem hi))) hc
theorem Rref.coef {p : Int} {n r : Nat} {R : Nat → Vec} {q : Nat → Nat} (h : Rref p n r R q) {v : Vec} (hv : Span p n (rows R r) v) (j : Nat) (hj : j < n) : p ∣ v j - comb R r (fun i => v (q i)) j := by
 obtain ⟨c, hc⟩ := (span_comb R r v).1 hv
 have e : ∀ i, i < r → p ∣ v (q i) - c i := fun i hi => by
  have h1 := hc (q i) (h.lt i hi)
  have h2 := sm_single (p := p) (f := fun k => c k * R k (q i)) i r hi (fun k hk hne => dvd_mul_l _ (h.off k i hk hi hne))
  have h3 := dvd_mul_l (c i) (h.one i hi)
  have := Int.dvd_add h1 (Int.dvd_add h2 h3)
  have e : v (q i) - comb R r c (q i) + (sm (fun k => c k * R k (q i)) r - c i * R i (q i) + c i * (R i (q i) - 1)) = v (q i) - c i := by
   unfold comb; grind
  rwa [e] at this
 have h4 : p ∣ comb R r c j - comb R r (fun i => v (q i)) j := by
  unfold comb
  rw [← sm_sub]
  refine sm_dvd r fun i hi => ?_
  have := dvd_mul_l (R i j) (e i hi)
  have := Int.dvd_neg.2 this
  have e2 : -(R i j * (v (q i) - c i)) = c i * R i j - v (q i) * R i j := by grind
  rwa [e2] at this
 have := Int.dvd_add (hc j hj) h4
 rwa [show v j - comb R r c j + (comb R r c j - comb R r (fun i => v (q i)) j) = v j - comb R r (fun i => v (q i)) j by omega] at this
theorem Rref.zero {p : Int} {n r : Nat} {R : Nat → Vec} {q : Nat → Nat} (h : Rref p n r R q) {v : Vec} (hv : Span p n (rows R r) v) (hz : ∀ i, i < r → p ∣ v (q i)) : Zr p n v := fun j hj => by
 have h1 := h.coef hv j hj
 have h2 : p ∣ comb R r (fun i => v (q i)) j := sm_dvd r fun i hi => Int.dvd_mul_of_dvd_left (hz i hi)
 have := Int.dvd_add h1 h2
 rwa [Int.sub_add_cancel] at this
theorem Rref.pl {p : Int} {n r : Nat} {R : Nat → Vec} {q : Nat → Nat} (hp : Pr p) (h : Rref p n r R q) (c : Nat) : Pl p n (Span p n (rows R r)) c ↔ ∃ i, i < r ∧ q i = c := by
 constructor
 ·rintro ⟨v, hv, hl⟩
  -- the first i with v (q i) not zero
  have hex : ∃ i, i < r ∧ ¬ p ∣ v (q i) := Classical.byContradiction fun hc => by
   refine ld_nz hl (h.zero hv fun i hi => Classical.byContradiction fun hd => hc ⟨i, hi, hd⟩)
  obtain ⟨i, ⟨hi, hni⟩, hmin⟩ := least' hex
  refine ⟨i, hi, ?_⟩
  have hsm : ∀ c, c < q i → p ∣ v c := fun c hc => by
   have h1 := h.coef hv c (by have := h.lt i hi; omega)
   have h2 : p ∣ comb R r (fun i => v (q i)) c := sm_dvd r fun k hk => by
    rcases Nat.lt_or_ge k i with hki | hki
    ·exact Int.dvd_mul_of_dvd_left (Classical.byContradiction fun hd => hmin k hki ⟨hk, hd⟩)
    ·refine dvd_mul_l _ (h.pre k c hk ?_)
     rcases Nat.eq_or_lt_of_le hki with rfl | hlt
     ·exact hc
     ·have := h.mono i k hlt hk; omega
   have := Int.dvd_add h1 h2
   rwa [Int.sub_add_cancel] at this
  rcases Nat.lt_trichotomy (q i) c with h1 | h1 | h1
  ·exact absurd (hl.2.2 _ h1) hni
  ·exact h1
  ·exact absurd (hsm c h1) hl.2.1
 ·rintro ⟨i, hi, rfl⟩
  refine ⟨R i, span_mem (rows_mem hi), h.lt i hi, fun hd => hp.1 ?_, fun j hj => h.pre i j hi hj⟩
  have := Int.dvd_sub hd (h.one i hi)
  rwa [show R i (q i) - (R i (q i) - 1) = 1 by omega] at this
theorem Rref.indep {p : Int} {n r : Nat} {R : Nat → Vec} {q : Nat → Nat} (hp : Pr p) (h : Rref p n r R q) : dim p n (Span p n (rows R r)) = r := by
 have main : ∀ k, k ≤ r → cnt (fun c => ∃ i, i < k ∧ q i = c) n = k := by
  intro k
  induction k with
  | zero => intro _; exact cnt_none _ n (fun c _ ⟨i, hi, _⟩ => by omega)
  | succ k ih =>
   intro hk
   rw [cnt_insert (Q := fun c => ∃ i, i < k ∧ q i = c) (q k) n (h.lt k (by omega)) (fun ⟨i, hi, he⟩ => by have := h.mono i k hi (by omega); omega) (fun c _ => ⟨?_, ?_⟩), ih (by omega)]
   ·rintro ⟨i, hi, he⟩
    rcases Nat.lt_or_ge i k with hl | hg
    ·exact .inl ⟨i, hl, he⟩
    ·have : i = k := by omega
     subst this; exact .inr he.symm
   ·rintro (⟨i, hi, he⟩ | he)
    ·exact ⟨i, by omega, he⟩
    ·exact ⟨k, by omega, he.symm⟩
 unfold dim
 rw [cnt_congr n (fun c _ => h.pl hp c)]
 exact main r (Nat.le_refl _)
theorem Rref.unique {p : Int} {n r r' : Nat} {R R' : Nat → Vec} {q q' : Nat → Nat} (hp : Pr p) (h : Rref p n r R q) (h' : Rref p n r' R' q') (hs : ∀ v, Span p n (rows R r) v ↔ Span p n (rows R' r') v) :
  r = r' ∧ ∀ i, i < r → q i = q' i ∧ ∀ j, j < n → p ∣ R i j - R' i j := by
 have hr : r = r' := by rw [← h.indep hp, ← h'.indep hp]; exact dim_congr hs
 subst hr
 have hpl : ∀ c, (∃ i, i < r ∧ q i = c) ↔ ∃ i, i < r ∧ q' i = c := fun c => by
  rw [← h.pl hp c, ← h'.pl hp c]
  exact ⟨fun ⟨v, h1, h2⟩ => ⟨v, (hs v).1 h1, h2⟩, fun ⟨v, h1, h2⟩ => ⟨v, (hs v).2 h1, h2⟩⟩
 have hq : ∀ i, i < r → q i = q' i := by
  intro i
  induction i using Nat.strongRecOn with
  | _ i ih =>
   intro hi
   obtain ⟨j, hj, e1⟩ := (hpl (q i)).1 ⟨i, hi, rfl⟩
   obtain ⟨k, hk, e2⟩ := (hpl (q' i)).2 ⟨i, hi, rfl⟩
   rcases Nat.lt_trichotomy i j with hl | he | hl
   ·-- q' i < q' j = q i; k must be < i
    have h1 := h'.mono i j hl hj
    rcases Nat.lt_trichotomy k i with hk' | hk' | hk'
    ·have := ih k hk' hk; have := h'.mono k i hk' hi; omega
    ·subst hk'; omega
    ·have := h.mono i k hk' hk; omega
   ·subst he; omega
   ·have := ih j hl hj; have := h.mono j i hl hi; omega
 refine ⟨rfl, fun i hi => ⟨hq i hi, fun j hj => ?_⟩⟩
 have hd : Span p n (rows R r) (fun j => R i j - R' i j) := (span_sub p n _).sub (span_mem (rows_mem hi)) ((hs _).2 (span_mem (rows_mem hi)))
 refine h.zero hd (fun k hk => ?_) j hj
 by_cases e : i = k
 ·subst e
  have h1 := h.one i hi
  have h2 := h'.one i hi
  rw [← hq i hi] at h2
  have := Int.dvd_sub h1 h2
  rwa [show R i (q i) - 1 - (R' i (q i) - 1) = R i (q i) - R' i (q i) by omega] at this
 ·have h1 := h.off i k hi hk e
  have h2 := h'.off i k hi hk e
  rw [← hq k hk] at h2
  exact Int.dvd_sub h1 h2
def rowMap (n : Nat) (R : Nat → Vec) (v : Vec) : Vec := fun i => dt n v (R i)
theorem rowMap_lmap (p : Int) (n r : Nat) (R : Nat → Vec) : Lmap p n r (rowMap n R) where
 zr v hv i _ := dt_zr (R i) hv
 add v w j _ := by unfold rowMap; rw [dt_add]; simp
 smul c v j _ := by unfold rowMap; rw [dt_mul]; simp
theorem ker_rowMap {p : Int} {n r : Nat} {R : Nat → Vec} (v : Vec) : Ker p r (rowMap n R) v ↔ Perp p n (Span p n (rows R r)) v := by
 rw [perp_span]
 constructor
 ·intro h x hx
  obtain ⟨i, hi, rfl⟩ := mem_rows hx
  exact h i hi
 ·intro h i hi
  exact h _ (rows_mem hi)
def unitV (c : Nat) : Vec := fun j => if j = c then 1 else 0
theorem dt_unit {p : Int} {n : Nat} (c : Nat) (hc : c < n) (v : Vec) : dt n (unitV c) v = v c := by
 have main : ∀ m, dt m (unitV c) v = if c < m then v c else 0 := by
  intro m
  induction m with
  | zero => simp [dt, sm]
  | succ m ih =>
   unfold dt at ih ⊢
   simp only [sm, ih]
   have e : unitV c m = if m = c then 1 else 0 := rfl
   rw [e]
   by_cases h1 : c < m
   ·rw [if_pos h1, if_neg (show ¬ m = c by omega), if_pos (show c < m + 1 by omega)]; simp
   ·by_cases h2 : m = c
    ·subst h2; simp
    ·rw [if_neg h1, if_neg h2, if_neg (show ¬ c < m + 1 by omega)]; simp
 rw [main, if_pos hc]
theorem Rref.dim_perp {p : Int} {n r : Nat} {R : Nat → Vec} {q : Nat → Nat} (hp : Pr p) (h : Rref p n r R q) : dim p n (Perp p n (Span p n (rows R r))) + r = n := by
 have h1 := rank_nullity hp (rowMap_lmap p n r R) (all_sub p n)
 have h2 : dim p r (Img p r (rowMap n R) All) = r := by
  have : ∀ y, Img p r (rowMap n R) All y ↔ All y := fun y => ⟨fun _ => trivial, fun _ => by
   refine ⟨fun c => sm (fun i => y i * unitV (q i) c) r, trivial, fun j hj => ?_⟩
   have e : rowMap n R (fun c => sm (fun i => y i * unitV (q i) c) r) j = sm (fun i => y i * R j (q i)) r := by
    unfold rowMap dt
    have e1 : ∀ c, c < n → sm (fun i => y i * unitV (q i) c) r * R j c = sm (fun i => y i * (unitV (q i) c * R j c)) r := fun c _ => by
     rw [Int.mul_comm, ← sm_mul]
     exact sm_congr r fun i _ => by grind
    rw [sm_congr n e1, sm_swap]
    refine sm_congr r fun i hi => ?_
    rw [sm_mul]
    have := dt_unit (p := p) (n := n) (q i) (h.lt i hi) (R j)
    unfold dt at this
    rw [this]
   rw [e]
   have h3 := sm_single (p := p) (f := fun i => y i * R j (q i)) j r hj (fun k hk hne => dvd_mul_l _ (h.off j k hj hk (Ne.symm hne)))
   have h4 := dvd_mul_l (y j) (h.one j hj)
   have := Int.dvd_neg.2 (Int.dvd_add h3 h4)
   have e2 : -(sm (fun i => y i * R j (q i)) r - y j * R j (q j) + y j * (R j (q j) - 1)) = y j - sm (fun i => y i * R j (q i)) r := by grind
   rwa [e2] at this⟩
  rw [dim_congr this, dim_all hp r]
 rw [dim_all hp n, h2] at h1
 have h3 : dim p n (Inter All (Ker p r (rowMap n R))) = dim p n (Perp p n (Span p n (rows R r))) := dim_congr fun v => ⟨fun h => (ker_rowMap v).1 h.2, fun h => ⟨trivial, (ker_rowMap v).2 h⟩⟩
 omega

structure GInv (p : Int) (n m c r : Nat) (R : Nat → Vec) (q : Nat → Nat) : Prop where
 rm : r ≤ m
 lt : ∀ i, i < r → q i < c
 mono : ∀ i j, i < j → j < r → q i < q j
 one : ∀ i, i < r → p ∣ R i (q i) - 1
 off : ∀ i j, i < r → j < m → j ≠ i → p ∣ R j (q i)
 pre : ∀ i k, i < r → k < q i → p ∣ R i k
 low : ∀ i k, r ≤ i → i < m → k < c → p ∣ R i k
theorem GInv.start (p : Int) (n m : Nat) (R : Nat → Vec) (q : Nat → Nat) : GInv p n m 0 0 R q :=
 ⟨Nat.zero_le _, fun i h => by omega, fun i j _ h => by omega, fun i h => by omega, fun i j h => by omega, fun i k h => by omega, fun i k _ _ h => by omega⟩
theorem GInv.none {p : Int} {n m c r : Nat} {R : Nat → Vec} {q : Nat → Nat} (h : GInv p n m c r R q) (hz : ∀ i, r ≤ i → i < m → p ∣ R i c) : GInv p n m (c + 1) r R q :=
 ⟨h.rm, fun i hi => by have := h.lt i hi; omega, h.mono, h.one, h.off, h.pre, fun i k h1 h2 h3 => by
  rcases Nat.lt_or_ge k c with hl | hg
  ·exact h.low i k h1 h2 hl
  ·have : k = c := by omega
   subst this; exact hz i h1 h2⟩
theorem GInv.swap {p : Int} {n m c r : Nat} {R R1 : Nat → Vec} {q : Nat → Nat} (h : GInv p n m c r R q) {a : Nat} (ha : r ≤ a) (ham : a < m) (e1 : ∀ j, R1 r j = R a j) (e2 : ∀ j, R1 a j = R r j) (e3 : ∀ i j, i < m → i ≠ r → i ≠ a → R1 i j = R i j) : GInv p n m c r R1 q := by
 have e : ∀ i, i < m → ∃ k, k < m ∧ (r ≤ i → r ≤ k) ∧ (i < r → k = i) ∧ ∀ j, R1 i j = R k j := fun i hi => by
  by_cases h1 : i = r
  ·subst h1; exact ⟨a, ham, fun _ => ha, fun hh => by omega, e1⟩
  ·by_cases h2 : i = a
   ·subst h2; exact ⟨r, by omega, fun _ => Nat.le_refl _, fun hh => by omega, e2⟩
   ·exact ⟨i, hi, fun hh => hh, fun _ => rfl, fun j => e3 i j hi h1 h2⟩
 refine ⟨h.rm, h.lt, h.mono, fun i hi => ?_, fun i j hi hj hne => ?_, fun i k hi hk => ?_, fun i k h1 h2 h3 => ?_⟩
 ·obtain ⟨k, _, _, hk, he⟩ := e i (by omega)
  rw [he, hk hi]; exact h.one i hi
 ·obtain ⟨k, hkm, hkr, hk, he⟩ := e j hj
  rw [he]
  refine h.off i k hi hkm ?_
  rcases Nat.lt_or_ge j r with hl | hg
  ·rw [hk hl]; exact hne
  ·have := hkr hg; omega
 ·obtain ⟨k', _, _, hk', he⟩ := e i (by omega)
  rw [he, hk' hi]; exact h.pre i k hi hk
 ·obtain ⟨k', hkm, hkr, _, he⟩ := e i h2
  rw [he]; exact h.low k' k (hkr h1) hkm h3
theorem GInv.step {p : Int} {n m c r : Nat} {R R' : Nat → Vec} {q q' : Nat → Nat} (h : GInv p n m c r R q) (hrm : r < m) {b : Int} (hb : p ∣ R r c * b - 1)
  (e1 : ∀ j, j ≤ c → p ∣ R' r j - b * R r j) (e2 : ∀ i j, i < m → i ≠ r → j ≤ c → p ∣ R' i j - (R i j - R i c * R' r j)) (hq : ∀ i, i < r → q' i = q i) (hqr : q' r = c) : GInv p n m (c + 1) (r + 1) R' q' := by
 have top0 : ∀ k, k < c → p ∣ R' r k := fun k hk => by
  have := Int.dvd_add (e1 k (by omega)) (dvd_mul_l b (h.low r k (Nat.le_refl _) hrm hk))
  rwa [Int.sub_add_cancel] at this
 have top1 : p ∣ R' r c - 1 := by
  have := Int.dvd_add (e1 c (Nat.le_refl _)) hb
  rwa [show R' r c - b * R r c + (R r c * b - 1) = R' r c - 1 by grind] at this
 have same : ∀ i k, i < m → i ≠ r → k < c → p ∣ R' i k - R i k := fun i k hi hne hk => by
  have := Int.dvd_sub (e2 i k hi hne (by omega)) (dvd_mul_l (R i c) (top0 k hk))
  rwa [show R' i k - (R i k - R i c * R' r k) - R i c * R' r k = R' i k - R i k by omega] at this
 have clr : ∀ i, i < m → i ≠ r → p ∣ R' i c := fun i hi hne => by
  have := Int.dvd_sub (e2 i c hi hne (Nat.le_refl _)) (dvd_mul_l (R i c) top1)
  rwa [show R' i c - (R i c - R i c * R' r c) - R i c * (R' r c - 1) = R' i c by grind] at this
 refine ⟨by omega, fun i hi => ?_, fun i j hij hj => ?_, fun i hi => ?_, fun i j hi hj hne => ?_, fun i k hi hk => ?_, fun i k h1 h2 h3 => ?_⟩
 ·rcases Nat.lt_or_ge i r with hl | hg
  ·rw [hq i hl]; have := h.lt i hl; omega
  ·have : i = r := by omega
   subst this; omega
 ·rcases Nat.lt_or_ge j r with hl | hg
  ·rw [hq i (by omega), hq j hl]; exact h.mono i j hij hl
  ·have : j = r := by omega
   subst this; rw [hq i hij, hqr]; exact h.lt i hij
 ·rcases Nat.lt_or_ge i r with hl | hg
  ·rw [hq i hl]
   have := Int.dvd_add (same i (q i) (by omega) (by omega) (h.lt i hl)) (h.one i hl)
   rwa [show R' i (q i) - R i (q i) + (R i (q i) - 1) = R' i (q i) - 1 by omega] at this
  ·have : i = r := by omega
   subst this; rw [hqr]; exact top1
 ·rcases Nat.lt_or_ge i r with hl | hg
  ·rw [hq i hl]
   by_cases hj' : j = r
   ·subst hj'; exact top0 _ (h.lt i hl)
   ·have := Int.dvd_add (same j (q i) hj hj' (h.lt i hl)) (h.off i j hl hj hne)
    rwa [Int.sub_add_cancel] at this
  ·have : i = r := by omega
   subst this; rw [hqr]; exact clr j hj hne
 ·rcases Nat.lt_or_ge i r with hl | hg
  ·rw [hq i hl] at hk
   have := h.lt i hl
   have := Int.dvd_add (same i k (by omega) (by omega) (by omega)) (h.pre i k hl hk)
   rwa [Int.sub_add_cancel] at this
  ·have : i = r := by omega
   subst this; rw [hqr] at hk; exact top0 k hk
 ·rcases Nat.lt_or_ge k c with hl | hg
  ·have := Int.dvd_add (same i k h2 (by omega) hl) (h.low i k (by omega) h2 hl)
   rwa [Int.sub_add_cancel] at this
  ·have : k = c := by omega
   subst this; exact clr i h2 (by omega)
theorem GInv.rref {p : Int} {n m r : Nat} {R : Nat → Vec} {q : Nat → Nat} (h : GInv p n m n r R q) : Rref p n r R q :=
 ⟨h.lt, h.mono, h.one, fun i j hi hj hne => h.off j i hj (by have := h.rm; omega) hne, h.pre⟩
theorem GInv.span {p : Int} {n m r : Nat} {R : Nat → Vec} {q : Nat → Nat} (h : GInv p n m n r R q) (v : Vec) : Span p n (rows R m) v ↔ Span p n (rows R r) v := by
 constructor
 ·refine span_mono (fun x hx => ?_)
  obtain ⟨i, hi, rfl⟩ := mem_rows hx
  rcases Nat.lt_or_ge i r with hl | hg
  ·exact span_mem (rows_mem hl)
  ·exact (span_sub p n _).zero _ (fun k hk => h.low i k hg hi hk)
 ·refine span_mono (fun x hx => ?_)
  obtain ⟨i, hi, rfl⟩ := mem_rows hx
  exact span_mem (rows_mem (by have := h.rm; omega))
theorem step_span {p : Int} {n m r : Nat} {R R' : Nat → Vec} (hrm : r < m) {a b : Int} (c : Nat → Int) (hb : p ∣ a * b - 1)
  (e1 : ∀ j, j < n → p ∣ R' r j - b * R r j) (e2 : ∀ i j, i < m → i ≠ r → j < n → p ∣ R' i j - (R i j - c i * R' r j)) (v : Vec) : Span p n (rows R' m) v ↔ Span p n (rows R m) v := by
 have sub := span_sub p n (rows R m)
 have sub' := span_sub p n (rows R' m)
 have htop : Span p n (rows R m) (R' r) := sub.congr (sub.smul b _ (span_mem (rows_mem hrm))) e1
 constructor
 ·refine span_mono (fun x hx => ?_)
  obtain ⟨i, hi, rfl⟩ := mem_rows hx
  by_cases h : i = r
  ·subst h; exact htop
  ·exact sub.congr (sub.sub (span_mem (rows_mem hi)) (sub.smul (c i) _ htop)) (fun j hj => e2 i j hi h hj)
 ·refine span_mono (fun x hx => ?_)
  obtain ⟨i, hi, rfl⟩ := mem_rows hx
  by_cases h : i = r
  ·subst h
   refine sub'.congr (sub'.smul a _ (span_mem (rows_mem hi))) (fun j hj => ?_)
   have h1 := dvd_mul_l a (e1 j hj)
   have h2 := dvd_mul_l (R i j) hb
   have := Int.dvd_neg.2 (Int.dvd_add h1 h2)
   rwa [show -(a * (R' i j - b * R i j) + R i j * (a * b - 1)) = R i j - a * R' i j by grind] at this
  ·refine sub'.congr (sub'.add _ _ (span_mem (rows_mem hi)) (sub'.smul (c i) _ (span_mem (rows_mem hrm)))) (fun j hj => ?_)
   have := Int.dvd_neg.2 (e2 i j hi h hj)
   rwa [show -(R' i j - (R i j - c i * R' r j)) = R i j - (R' i j + c i * R' r j) by omega] at this
theorem span_perm {p : Int} {n m : Nat} {R R' : Nat → Vec} (h : ∀ i, i < m → ∃ k, k < m ∧ ∀ j, j < n → p ∣ R' i j - R k j) (h' : ∀ i, i < m → ∃ k, k < m ∧ ∀ j, j < n → p ∣ R i j - R' k j) (v : Vec) : Span p n (rows R' m) v ↔ Span p n (rows R m) v := by
 constructor
 ·refine span_mono (fun x hx => ?_)
  obtain ⟨i, hi, rfl⟩ := mem_rows hx
  obtain ⟨k, hk, he⟩ := h i hi
  exact (span_sub p n _).congr (span_mem (rows_mem hk)) he
 ·refine span_mono (fun x hx => ?_)
  obtain ⟨i, hi, rfl⟩ := mem_rows hx
  obtain ⟨k, hk, he⟩ := h' i hi
  exact (span_sub p n _).congr (span_mem (rows_mem hk)) he

structure KerVec (p : Int) (n r : Nat) (R : Nat → Vec) (q : Nat → Nat) (c : Nat) (x : Vec) : Prop where
 one : p ∣ x c - 1
 piv : ∀ i, i < r → p ∣ x (q i) + R i c
 oth : ∀ j, j < n → j ≠ c → (∀ i, i < r → q i ≠ j) → p ∣ x j
theorem Rref.perp_iff {p : Int} {n r : Nat} {R : Nat → Vec} {q : Nat → Nat} (h : Rref p n r R q) (v : Vec) : Perp p n (Span p n (rows R r)) v ↔ ∀ i, i < r → p ∣ dt n v (R i) := by
 rw [perp_span]
 constructor
 ·exact fun h' i hi => h' _ (rows_mem hi)
 ·intro h' x hx
  obtain ⟨i, hi, rfl⟩ := mem_rows hx
  exact h' i hi
theorem sm_two {f : Nat → Int} {p : Int} (a b : Nat) (hab : a ≠ b) : ∀ n, a < n → b < n → (∀ i, i < n → i ≠ a → i ≠ b → p ∣ f i) → p ∣ sm f n - (f a + f b) := by
 intro n ha hb hz
 have h1 := sm_single (p := p) (f := fun i => if i = a then 0 else f i) b n hb (fun i hi hne => by
  by_cases h : i = a
  ·simp only [if_pos h]; exact Int.dvd_zero p
  ·simp only [if_neg h]; exact hz i hi h hne)
 have h2 := sm_single (p := p) (f := fun i => if i = a then f i else 0) a n ha (fun i hi hne => by
  simp only [if_neg hne]; exact Int.dvd_zero p)
 have e : sm f n = sm (fun i => if i = a then 0 else f i) n + sm (fun i => if i = a then f i else 0) n := by
  rw [← sm_add]; exact sm_congr n fun i _ => by split <;> omega
 have := Int.dvd_add h1 h2
 simp only [if_neg (Ne.symm hab), if_pos] at this
 rw [e]
 rwa [show sm (fun i => if i = a then 0 else f i) n - f b + (sm (fun i => if i = a then f i else 0) n - f a) = sm (fun i => if i = a then 0 else f i) n + sm (fun i => if i = a then f i else 0) n - (f a + f b) by omega] at this
theorem KerVec.perp {p : Int} {n r : Nat} {R : Nat → Vec} {q : Nat → Nat} (h : Rref p n r R q) {c : Nat} (hc : c < n) (hf : ∀ i, i < r → q i ≠ c) {x : Vec} (hx : KerVec p n r R q c x) : Perp p n (Span p n (rows R r)) x := by
 rw [h.perp_iff]
 intro i hi
 have h1 := sm_two (p := p) (f := fun j => x j * R i j) c (q i) (Ne.symm (hf i hi)) n hc (h.lt i hi) (fun j hj h1 h2 => by
  by_cases h3 : ∃ k, k < r ∧ q k = j
  ·obtain ⟨k, hk, rfl⟩ := h3
   exact dvd_mul_l _ (h.off i k hi hk (fun e => by subst e; exact h2 rfl))
  ·exact Int.dvd_mul_of_dvd_left (hx.oth j hj h1 (fun k hk e => h3 ⟨k, hk, e⟩)))
 have h2 := dvd_mul_l (R i c) hx.one
 have h3 := dvd_mul_l (R i (q i)) (hx.piv i hi)
 have h4 := dvd_mul_l (R i c) (h.one i hi)
 have := Int.dvd_sub (Int.dvd_add h1 (Int.dvd_add h2 h3)) h4
 unfold dt
 rwa [show sm (fun j => x j * R i j) n - (x c * R i c + x (q i) * R i (q i)) + (R i c * (x c - 1) + R i (q i) * (x (q i) + R i c)) - R i c * (R i (q i) - 1) = sm (fun j => x j * R i j) n by grind] at this
theorem ker_indep {p : Int} {n r : Nat} {R : Nat → Vec} {q : Nat → Nat} (hp : Pr p) : ∀ (F : List Nat) (X : Nat → Vec), (∀ c, c ∈ F → c < n ∧ (∀ i, i < r → q i ≠ c) ∧ KerVec p n r R q c (X c)) → F.Nodup → Indep p n (F.map X)
 | [], _, _, _ => trivial
 | c :: F, X, h, hn => by
  have hc := h c List.mem_cons_self
  have hcF : c ∉ F := (List.nodup_cons.1 hn).1
  refine ⟨fun hs => hp.1 ?_, ker_indep hp F X (fun d hd => h d (List.mem_cons_of_mem _ hd)) (List.nodup_cons.1 hn).2⟩
  have hT : Sub p n (fun v => p ∣ v c) := ⟨fun v hv => hv c hc.1, fun v w h1 h2 => Int.dvd_add h1 h2, fun a v h1 => dvd_mul_l a h1⟩
  have h0 : p ∣ X c c := span_least hT (fun x hx => by
   obtain ⟨d, hd, rfl⟩ := List.mem_map.1 hx
   have hd' := h d (List.mem_cons_of_mem _ hd)
   exact hd'.2.2.oth c hc.1 (fun e => hcF (by rw [e]; exact hd)) hc.2.1) hs
  have := Int.dvd_sub h0 hc.2.2.one
  rwa [show X c c - (X c c - 1) = 1 by omega] at this
theorem ker_span {p : Int} {n r : Nat} {R : Nat → Vec} {q : Nat → Nat} (hp : Pr p) (h : Rref p n r R q) (F : List Nat) (X : Nat → Vec) (hF : ∀ c, c ∈ F → c < n ∧ (∀ i, i < r → q i ≠ c) ∧ KerVec p n r R q c (X c)) (hn : F.Nodup) (hl : F.length + r = n) (v : Vec) :
  Span p n (F.map X) v ↔ Perp p n (Span p n (rows R r)) v := by
 have hle : ∀ v, Span p n (F.map X) v → Perp p n (Span p n (rows R r)) v := fun v => span_least (perp_sub p n _) (fun x hx => by
  obtain ⟨c, hc, rfl⟩ := List.mem_map.1 hx
  obtain ⟨h1, h2, h3⟩ := hF c hc
  exact h3.perp h h1 h2)
 refine ⟨hle v, sub_of_dim hp (span_sub p n _) (perp_sub p n _) hle ?_ v⟩
 have h1 := dim_indep hp (ker_indep hp F X hF hn)
 have h2 := h.dim_perp hp
 rw [List.length_map] at h1
 omega
theorem free_count {n r : Nat} {q : Nat → Nat} (lt : ∀ i, i < r → q i < n) (mono : ∀ i j, i < j → j < r → q i < q j) (f : Nat → Bool) (hf : ∀ c, c < n → (f c = true ↔ ∀ i, i < r → q i ≠ c)) : ((List.range n).filter f).length + r = n := by
 induction n generalizing r with
 | zero =>
  rcases Nat.eq_zero_or_pos r with h | h
  ·subst h; rfl
  ·have := lt 0 h; omega
 | succ n ih =>
  rw [List.range_succ, List.filter_append, List.length_append]
  by_cases hc : ∃ i, i < r ∧ q i = n
  ·obtain ⟨i, hi, he⟩ := hc
   have hir : i = r - 1 := by
    rcases Nat.lt_or_ge i (r - 1) with hl | hg
    ·have := mono i (r - 1) hl (by omega); have := lt (r - 1) (by omega); omega
    ·omega
   have hfn : f n = false := by
    cases hfn : f n with
    | false => rfl
    | true => exact absurd he ((hf n (by omega)).1 hfn i hi)
   have := ih (r := r - 1) (fun j hj => by have := mono j (r - 1) (by omega) (by omega); rw [← hir, he] at this; exact this) (fun a b hab hb => mono a b hab (by omega)) (fun c hcn => by
    rw [hf c (by omega)]
    constructor
    ·exact fun h j hj => h j (by omega)
    ·intro h j hj
     rcases Nat.lt_or_ge j (r - 1) with hl | hg
     ·exact h j hl
     ·have : j = i := by omega
      subst this; omega)
   simp only [List.filter_cons, hfn, List.filter_nil]
   simp only [Bool.false_eq_true, if_false, List.length_nil]
   omega
  ·have hfn : f n = true := (hf n (by omega)).2 (fun i hi he => hc ⟨i, hi, he⟩)
   have := ih (r := r) (fun j hj => by
    have h1 := lt j hj
    rcases Nat.lt_or_ge (q j) n with hl | hg
    ·exact hl
    ·exact absurd ⟨j, hj, by omega⟩ hc) mono (fun c hcn => hf c (by omega))
   simp only [List.filter_cons, hfn, List.filter_nil]
   simp only [if_true, List.length_cons, List.length_nil]
   omega
end Go.Proofs.Ytipkciildhghiaa.B.LinT

set_option linter.unusedVariables false
set_option linter.unusedSimpArgs false
namespace Go.Proofs.Ytipkciildhghiaa.B.LinT

def isP (p : Nat) : Bool := decide (2 ≤ p) && decide (p ≤ 251) && (List.range 16).all fun d => decide (d < 2) || decide (p < d * d) || decide (p % d ≠ 0)
theorem fermat_all : ((List.range 252).all fun p => !isP p || (List.range p).all fun a => a == 0 || a * a ^ (p - 2) % p == 1) = true := by decide +kernel
theorem isP_two {p : Nat} (h : isP p = true) : 2 ≤ p ∧ p ≤ 251 := by
 unfold isP at h
 rw [Bool.and_eq_true, Bool.and_eq_true, decide_eq_true_iff, decide_eq_true_iff] at h
 exact h.1
theorem fermat {p a : Nat} (h : isP p = true) (ha : a < p) (h0 : a ≠ 0) : a * a ^ (p - 2) % p = 1 := by
 have h1 := List.all_eq_true.1 fermat_all p (List.mem_range.2 (by have := isP_two h; omega))
 rw [h] at h1
 have h2 : ∀ x, x < p → x = 0 ∨ x * x ^ (p - 2) % p = 1 := by simpa using h1
 exact (h2 a ha).resolve_left h0
theorem inv_dvd {p a : Nat} (h : isP p = true) (ha : a < p) (h0 : a ≠ 0) : (p : Int) ∣ (a : Int) * ((a ^ (p - 2) % p : Nat) : Int) - 1 := by
 have h1 := fermat h ha h0
 have h2 : a * (a ^ (p - 2) % p) % p = 1 := by rw [Nat.mul_mod, Nat.mod_mod, ← Nat.mul_mod]; exact h1
 have h3 := Nat.div_add_mod (a * (a ^ (p - 2) % p)) p
 rw [h2] at h3
 refine ⟨((a * (a ^ (p - 2) % p) / p : Nat) : Int), ?_⟩
 have h4 : ((a * (a ^ (p - 2) % p) : Nat) : Int) = ((p * (a * (a ^ (p - 2) % p) / p) + 1 : Nat) : Int) := by rw [h3]
 rw [Int.natCast_mul, Int.natCast_add, Int.natCast_mul] at h4
 omega
theorem pr_of {p : Nat} (h : isP p = true) : Pr (p : Int) := by
 have h2 := isP_two h
 refine ⟨fun hd => ?_, fun a ha => ?_⟩
 ·have := Int.le_of_dvd (by decide) hd; omega
 ·have hm : a % (p : Int) ≠ 0 := fun he => ha (Int.dvd_of_emod_eq_zero he)
  have h3 := Int.emod_nonneg a (b := (p : Int)) (by omega)
  have h4 := Int.emod_lt_of_pos a (b := (p : Int)) (by omega)
  obtain ⟨n, hn⟩ := Int.eq_ofNat_of_zero_le h3
  have h5 := inv_dvd (a := n) h (by omega) (by omega)
  refine ⟨((n ^ (p - 2) % p : Nat) : Int), ?_⟩
  have h6 : (p : Int) ∣ a - (n : Int) := by rw [← hn]; exact Int.dvd_self_sub_emod
  have h7 := Int.dvd_add (show (p : Int) ∣ (a - (n : Int)) * ((n ^ (p - 2) % p : Nat) : Int) from Int.dvd_mul_of_dvd_left h6) h5
  rwa [show (a - (n : Int)) * ((n ^ (p - 2) % p : Nat) : Int) + ((n : Int) * ((n ^ (p - 2) % p : Nat) : Int) - 1) = a * ((n ^ (p - 2) % p : Nat) : Int) - 1 by grind] at h7

structure El (p : Int) (n m : Nat) (R0 : Nat → Vec) (c r : Nat) (R : Nat → Vec) (q : Nat → Nat) : Prop where
 g : GInv p n m c r R q
 sp : ∀ v, Span p n (rows R m) v ↔ Span p n (rows R0 m) v
 ge : ∀ i j, i < m → j < n → 0 ≤ R i j
 lt : ∀ i j, i < m → j < n → R i j < p
theorem El.start {p : Int} {n m : Nat} {R : Nat → Vec} (h0 : ∀ i j, i < m → j < n → 0 ≤ R i j) (h1 : ∀ i j, i < m → j < n → R i j < p) (q : Nat → Nat) : El p n m R 0 0 R q :=
 ⟨GInv.start p n m R q, fun _ => Iff.rfl, h0, h1⟩
theorem El.none {p : Int} {n m c r : Nat} {R0 R : Nat → Vec} {q : Nat → Nat} (h : El p n m R0 c r R q) (hz : ∀ i, r ≤ i → i < m → R i c = 0) : El p n m R0 (c + 1) r R q :=
 ⟨h.g.none fun i h1 h2 => by rw [hz i h1 h2]; exact Int.dvd_zero p, h.sp, h.ge, h.lt⟩
theorem El.congr {p : Int} {n m c r : Nat} {R0 R R1 : Nat → Vec} {q : Nat → Nat} (h : El p n m R0 c r R q) (hc : c ≤ n) (e : ∀ i j, i < m → j < n → R1 i j = R i j) : El p n m R0 c r R1 q := by
 have hr := h.g.rm
 refine ⟨⟨h.g.rm, h.g.lt, h.g.mono, fun i hi => ?_, fun i j hi hj hne => ?_, fun i k hi hk => ?_, fun i k h1 h2 h3 => ?_⟩, fun v => ?_, fun i j hi hj => by rw [e i j hi hj]; exact h.ge i j hi hj, fun i j hi hj => by rw [e i j hi hj]; exact h.lt i j hi hj⟩
 ·have := h.g.lt i hi
  rw [e i _ (by omega) (by omega)]; exact h.g.one i hi
 ·have := h.g.lt i hi
  rw [e j _ hj (by omega)]; exact h.g.off i j hi hj hne
 ·have := h.g.lt i hi
  rw [e i _ (by omega) (by omega)]; exact h.g.pre i k hi hk
 ·rw [e i _ h2 (by omega)]; exact h.g.low i k h1 h2 h3
 ·rw [← h.sp v]
  exact span_perm (fun i hi => ⟨i, hi, fun j hj => by rw [e i j hi hj, Int.sub_self]; exact Int.dvd_zero p⟩) (fun i hi => ⟨i, hi, fun j hj => by rw [e i j hi hj, Int.sub_self]; exact Int.dvd_zero p⟩) v
theorem El.swap {p : Int} {n m c r : Nat} {R0 R R1 : Nat → Vec} {q : Nat → Nat} (h : El p n m R0 c r R q) {a : Nat} (ha : r ≤ a) (ham : a < m) (e1 : ∀ j, R1 r j = R a j) (e2 : ∀ j, R1 a j = R r j) (e3 : ∀ i j, i < m → i ≠ r → i ≠ a → R1 i j = R i j) : El p n m R0 c r R1 q := by
 have e : ∀ i, i < m → ∃ k, k < m ∧ ∀ j, R1 i j = R k j := fun i hi => by
  by_cases h1 : i = r
  ·subst h1; exact ⟨a, ham, e1⟩
  ·by_cases h2 : i = a
   ·subst h2; exact ⟨r, by omega, e2⟩
   ·exact ⟨i, hi, fun j => e3 i j hi h1 h2⟩
 have e' : ∀ i, i < m → ∃ k, k < m ∧ ∀ j, R i j = R1 k j := fun i hi => by
  by_cases h1 : i = r
  ·subst h1; exact ⟨a, ham, fun j => (e2 j).symm⟩
  ·by_cases h2 : i = a
   ·subst h2; exact ⟨r, by omega, fun j => (e1 j).symm⟩
   ·exact ⟨i, hi, fun j => (e3 i j hi h1 h2).symm⟩
 refine ⟨h.g.swap ha ham e1 e2 e3, fun v => ?_, fun i j hi hj => ?_, fun i j hi hj => ?_⟩
 ·rw [← h.sp v]
  refine span_perm (fun i hi => ?_) (fun i hi => ?_) v
  ·obtain ⟨k, hk, he⟩ := e i hi
   exact ⟨k, hk, fun j _ => by rw [he j, Int.sub_self]; exact Int.dvd_zero p⟩
  ·obtain ⟨k, hk, he⟩ := e' i hi
   exact ⟨k, hk, fun j _ => by rw [he j, Int.sub_self]; exact Int.dvd_zero p⟩
 ·obtain ⟨k, hk, he⟩ := e i hi
  rw [he]; exact h.ge k j hk hj
 ·obtain ⟨k, hk, he⟩ := e i hi
  rw [he]; exact h.lt k j hk hj
theorem El.congr0 {p : Int} {n m c r : Nat} {R0 R1 R : Nat → Vec} {q : Nat → Nat} (h : El p n m R0 c r R q) (e : ∀ i j, i < m → j < n → R1 i j = R0 i j) : El p n m R1 c r R q :=
 ⟨h.g, fun v => (h.sp v).trans (span_perm (fun i hi => ⟨i, hi, fun j hj => by rw [e i j hi hj, Int.sub_self]; exact Int.dvd_zero p⟩) (fun i hi => ⟨i, hi, fun j hj => by rw [e i j hi hj, Int.sub_self]; exact Int.dvd_zero p⟩) v), h.ge, h.lt⟩
theorem El.swap' {p : Int} {n m c r : Nat} {R0 R R1 : Nat → Vec} {q : Nat → Nat} (h : El p n m R0 c r R q) (hc : c ≤ n) {a : Nat} (ha : r ≤ a) (ham : a < m) (e1 : ∀ j, j < n → R1 r j = R a j) (e2 : ∀ j, j < n → R1 a j = R r j) (e3 : ∀ i j, i < m → i ≠ r → i ≠ a → j < n → R1 i j = R i j) : El p n m R0 c r R1 q := by
 refine (h.swap (R1 := fun i j => if i = r then R a j else if i = a then R r j else R i j) ha ham (fun j => by simp) (fun j => ?_) (fun i j _ h1 h2 => by simp [h1, h2])).congr hc (fun i j hi hj => ?_)
 ·by_cases h1 : a = r
  ·subst h1; simp
  ·simp [h1]
 ·by_cases h1 : i = r
  ·subst h1; simp [e1 j hj]
  ·by_cases h2 : i = a
   ·subst h2; simp [h1, e2 j hj]
   ·simp [h1, h2, e3 i j hi h1 h2 hj]
theorem El.step {p : Int} {n m c r : Nat} {R0 R R' : Nat → Vec} {q q' : Nat → Nat} (h : El p n m R0 c r R q) (hc : c < n) (hrm : r < m) {b : Int} (hb : p ∣ R r c * b - 1)
  (e1 : ∀ j, j < n → p ∣ R' r j - b * R r j) (e2 : ∀ i j, i < m → i ≠ r → j < n → p ∣ R' i j - (R i j - R i c * R' r j)) (hq : ∀ i, i < r → q' i = q i) (hqr : q' r = c)
  (h0 : ∀ i j, i < m → j < n → 0 ≤ R' i j) (h1 : ∀ i j, i < m → j < n → R' i j < p) : El p n m R0 (c + 1) (r + 1) R' q' :=
 ⟨h.g.step hrm hb (fun j hj => e1 j (by omega)) (fun i j hi hne hj => e2 i j hi hne (by omega)) hq hqr, fun v => by rw [← h.sp v]; exact step_span hrm (fun i => R i c) hb e1 e2 v, h0, h1⟩
theorem El.full {p : Int} {n m r : Nat} {R0 R : Nat → Vec} {q : Nat → Nat} : ∀ {c : Nat}, c ≤ n → r = m → El p n m R0 c r R q → El p n m R0 n r R q := by
 intro c hc hr h
 obtain ⟨d, hd⟩ : ∃ d, n = c + d := ⟨n - c, by omega⟩
 have : ∀ e, El p n m R0 (c + e) r R q := fun e => by
  induction e with
  | zero => exact h
  | succ e ih => exact ih.none (fun i h1 h2 => by omega)
 rw [hd] at this ⊢; exact this d
theorem El.same {p : Int} {n m m' r r' : Nat} {R0 R R0' R' : Nat → Vec} {q q' : Nat → Nat} (hp : Pr p) (h : El p n m R0 n r R q) (h' : El p n m' R0' n r' R' q')
  (hs : ∀ v, Span p n (rows R0 m) v ↔ Span p n (rows R0' m') v) : r = r' ∧ ∀ i, i < r → q i = q' i ∧ ∀ j, j < n → R i j = R' i j := by
 have hs2 : ∀ v, Span p n (rows R r) v ↔ Span p n (rows R' r') v := fun v => by rw [← h.g.span v, ← h'.g.span v, h.sp v, h'.sp v, hs v]
 obtain ⟨e1, e2⟩ := h.g.rref.unique hp h'.g.rref hs2
 refine ⟨e1, fun i hi => ⟨(e2 i hi).1, fun j hj => ?_⟩⟩
 have hd := (e2 i hi).2 j hj
 have hr := h.g.rm
 have hr' := h'.g.rm
 have a1 := h.ge i j (by omega) hj
 have a2 := h.lt i j (by omega) hj
 have b1 := h'.ge i j (by omega) hj
 have b2 := h'.lt i j (by omega) hj
 obtain ⟨k, hk⟩ := hd
 have hp0 : 0 < p := by omega
 have : k = 0 := by
  rcases Int.lt_trichotomy k 0 with hl | h0 | hg
  ·have := Int.mul_le_mul_of_nonneg_left (show k ≤ -1 by omega) (Int.le_of_lt hp0); omega
  ·exact h0
  ·have := Int.mul_le_mul_of_nonneg_left (show 1 ≤ k by omega) (Int.le_of_lt hp0); omega
 rw [this] at hk; omega
theorem El.span {p : Int} {n m r : Nat} {R0 R : Nat → Vec} {q : Nat → Nat} (h : El p n m R0 n r R q) (v : Vec) : Span p n (rows R r) v ↔ Span p n (rows R0 m) v := by rw [← h.g.span v, h.sp v]
theorem El.dim {p : Int} {n m r : Nat} {R0 R : Nat → Vec} {q : Nat → Nat} (hp : Pr p) (h : El p n m R0 n r R q) : dim p n (Span p n (rows R0 m)) = r := by
 rw [← h.g.rref.indep hp]; exact dim_congr fun v => (h.span v).symm

def vec (l : List Int) : Vec := fun j => l.getD j 0
def rw' (L : List (List Int)) : Nat → Vec := fun i => vec (L.getD i [])
theorem rows_list (L : List (List Int)) : rows (rw' L) L.length = L.map vec := by
 unfold rows rw'
 refine List.ext_getElem (by simp) fun i h1 h2 => ?_
 have hi : i < L.length := by simpa using h1
 simp [List.getD_eq_getElem?_getD, List.getElem?_eq_getElem hi]
def Vs (p : Int) (n : Nat) (L : List (List Int)) : Prop := ∀ x, x ∈ L → x.length = n ∧ ∀ y, y ∈ x → 0 ≤ y ∧ y < p
theorem vs_get {p : Int} {n : Nat} {L : List (List Int)} (h : Vs p n L) {i j : Nat} (hi : i < L.length) (hj : j < n) : 0 ≤ rw' L i j ∧ rw' L i j < p := by
 have hm : L.getD i [] ∈ L := by rw [List.getD_eq_getElem?_getD, List.getElem?_eq_getElem hi, Option.getD_some]; exact List.getElem_mem hi
 obtain ⟨h1, h2⟩ := h _ hm
 unfold rw' vec
 have hjl : j < (L.getD i []).length := by omega
 rw [List.getD_eq_getElem?_getD (l := L.getD i []), List.getElem?_eq_getElem hjl, Option.getD_some]
 exact h2 _ (List.getElem_mem hjl)
theorem list_eq {L M : List (List Int)} {p : Int} {n : Nat} (hL : Vs p n L) (hM : Vs p n M) (hl : L.length = M.length) (h : ∀ i, i < L.length → ∀ j, j < n → rw' L i j = rw' M i j) : L = M := by
 refine List.ext_getElem hl fun i h1 h2 => ?_
 have e1 := (hL _ (List.getElem_mem h1)).1
 have e2 := (hM _ (List.getElem_mem h2)).1
 refine List.ext_getElem (by omega) fun j h3 h4 => ?_
 have := h i h1 j (by omega)
 unfold rw' vec at this
 simpa [List.getD_eq_getElem?_getD, List.getElem?_eq_getElem h1, List.getElem?_eq_getElem h2, List.getElem?_eq_getElem h3, List.getElem?_eq_getElem h4] using this
structure Red (p : Int) (n : Nat) (L B : List (List Int)) (q : List Int) : Prop where
 vs : Vs p n B
 len : q.length = B.length
 rref : Rref p n B.length (rw' B) (fun i => (q.getD i 0).toNat)
 span : ∀ v, Span p n (B.map vec) v ↔ Span p n (L.map vec) v
 pos : ∀ x, x ∈ q → 0 ≤ x
theorem Red.unique {p : Int} {n : Nat} {L L' B B' : List (List Int)} {q q' : List Int} (hp : Pr p) (h : Red p n L B q) (h' : Red p n L' B' q') (hs : ∀ v, Span p n (L.map vec) v ↔ Span p n (L'.map vec) v) : B = B' ∧ q = q' := by
 have hp0 : 0 < p ∨ p ≤ 0 := by omega
 obtain ⟨e1, e2⟩ := h.rref.unique hp h'.rref (fun v => by rw [rows_list, rows_list, h.span v, h'.span v, hs v])
 have hB : B = B' := list_eq h.vs h'.vs e1 fun i hi j hj => by
  have hd := (e2 i hi).2 j hj
  have a := vs_get h.vs hi hj
  have b := vs_get h'.vs (i := i) (by omega) hj
  obtain ⟨k, hk⟩ := hd
  have hp0 : 0 < p := by omega
  have : k = 0 := by
   rcases Int.lt_trichotomy k 0 with hl | h0 | hg
   ·have := Int.mul_le_mul_of_nonneg_left (show k ≤ -1 by omega) (Int.le_of_lt hp0); omega
   ·exact h0
   ·have := Int.mul_le_mul_of_nonneg_left (show 1 ≤ k by omega) (Int.le_of_lt hp0); omega
  rw [this] at hk; omega
 refine ⟨hB, List.ext_getElem (by rw [h.len, h'.len, e1]) fun i h1 h2 => ?_⟩
 have h3 := (e2 i (by rw [← h.len]; exact h1)).1
 have p1 := h.pos _ (List.getElem_mem h1)
 have p2 := h'.pos _ (List.getElem_mem h2)
 simp only [List.getD_eq_getElem?_getD, List.getElem?_eq_getElem h1, List.getElem?_eq_getElem h2, Option.getD_some] at h3
 omega
theorem Red.of {p : Int} {n : Nat} {L M : List (List Int)} {r : Nat} {q : List Int} (hl : M.length = L.length) (hv : Vs p n M) (hq : q.length = r) (hpos : ∀ x, x ∈ q → 0 ≤ x)
  (h : El p n L.length (rw' L) n r (rw' M) (fun i => (q.getD i 0).toNat)) : Red p n L (M.take r) q := by
 have hr := h.g.rm
 have hlen : (M.take r).length = r := by rw [List.length_take]; omega
 have e : ∀ i, i < r → rw' (M.take r) i = rw' M i := fun i hi => by
  unfold rw'
  rw [List.getD_eq_getElem?_getD, List.getD_eq_getElem?_getD, List.getElem?_take_of_lt hi]
 have hrr := h.g.rref
 refine ⟨fun x hx => hv x (List.mem_of_mem_take hx), by omega, ?_, fun v => ?_, hpos⟩
 ·rw [hlen]
  exact ⟨hrr.lt, hrr.mono, fun i hi => by rw [e i hi]; exact hrr.one i hi, fun i j hi hj hne => by rw [e i hi]; exact hrr.off i j hi hj hne, fun i c hi hc => by rw [e i hi]; exact hrr.pre i c hi hc⟩
 ·rw [← rows_list L, ← h.span v, ← rows_list, hlen]
  have : rows (rw' (M.take r)) r = rows (rw' M) r := List.map_congr_left fun i hi => e i (List.mem_range.1 hi)
  rw [this]
end Go.Proofs.Ytipkciildhghiaa.B.LinT

set_option linter.unusedVariables false
set_option linter.unusedSimpArgs false
namespace Go.Proofs.Ytipkciildhghiaa.B.LinT

def fl (w : Nat) (X : List Int) : Nat → Vec := fun i j => X.getD (i * w + j) 0
theorem idx_lt {w i j m : Nat} (hi : i < m) (hj : j < w) : i * w + j < m * w := by
 have := Nat.mul_le_mul_right w (show i + 1 ≤ m by omega)
 rw [Nat.add_mul, Nat.one_mul] at this; omega
theorem idx_inj {w i j i' j' : Nat} (hj : j < w) (hj' : j' < w) (h : i * w + j = i' * w + j') : i = i' ∧ j = j' := by
 rcases Nat.lt_trichotomy i i' with hl | he | hg
 ·have := idx_lt hl hj; omega
 ·subst he; omega
 ·have := idx_lt hg hj'; omega
theorem getD_set (X : List Int) (a b : Nat) (x : Int) (ha : a < X.length) : (X.set a x).getD b 0 = if b = a then x else X.getD b 0 := by
 rw [List.getD_eq_getElem?_getD, List.getElem?_set, List.getD_eq_getElem?_getD]
 by_cases h : b = a
 ·subst h; simp [ha]
 ·rw [if_neg (Ne.symm h), if_neg h]
theorem fl_set {w : Nat} (X : List Int) {i j i' j' : Nat} (x : Int) (hj : j < w) (hj' : j' < w) (ha : i * w + j < X.length) : fl w (X.set (i * w + j) x) i' j' = if i' = i ∧ j' = j then x else fl w X i' j' := by
 unfold fl
 rw [getD_set _ _ _ _ ha]
 by_cases h : i' = i ∧ j' = j
 ·rw [if_pos h, if_pos (by rw [h.1, h.2])]
 ·rw [if_neg h, if_neg (fun he => h (idx_inj hj' hj he))]
structure Upd (w : Nat) (X : List Int) (i0 : Nat) (g : Nat → Int) (t : Nat) (Y : List Int) : Prop where
 len : Y.length = X.length
 at_ : ∀ i j, j < w → fl w Y i j = if i = i0 ∧ j < t then g j else fl w X i j
theorem Upd.start (w : Nat) (X : List Int) (i0 : Nat) (g : Nat → Int) : Upd w X i0 g 0 X := ⟨rfl, fun i j _ => by rw [if_neg (by omega)]⟩
theorem Upd.next {w : Nat} {X : List Int} {i0 : Nat} {g : Nat → Int} {t : Nat} {Y : List Int} (h : Upd w X i0 g t Y) (ht : t < w) (hi : i0 * w + t < X.length) {x : Int} (hx : x = g t) : Upd w X i0 g (t + 1) (Y.set (i0 * w + t) x) := by
 refine ⟨by rw [List.length_set, h.len], fun i j hj => ?_⟩
 rw [fl_set Y x ht hj (by rw [h.len]; exact hi), h.at_ i j hj]
 by_cases h1 : i = i0 ∧ j = t
 ·rw [if_pos h1, if_pos (by omega), hx, h1.2]
 ·rw [if_neg h1]
  by_cases h2 : i = i0 ∧ j < t
  ·rw [if_pos h2, if_pos (by omega)]
  ·rw [if_neg h2, if_neg (by omega)]
structure Swp (w : Nat) (X : List Int) (a b : Nat) (t : Nat) (Y : List Int) : Prop where
 len : Y.length = X.length
 at_ : ∀ i j, j < w → fl w Y i j = if j < t then (if i = a then fl w X b j else if i = b then fl w X a j else fl w X i j) else fl w X i j
theorem Swp.start (w : Nat) (X : List Int) (a b : Nat) : Swp w X a b 0 X := ⟨rfl, fun i j _ => by rw [if_neg (by omega)]⟩
theorem Swp.next {w : Nat} {X : List Int} {a b : Nat} {t : Nat} {Y : List Int} (h : Swp w X a b t Y) (hab : a ≠ b) (ht : t < w) (ha : a * w + t < X.length) (hb : b * w + t < X.length) :
  Swp w X a b (t + 1) ((Y.set (b * w + t) (fl w Y a t)).set (a * w + t) (fl w Y b t)) := by
 refine ⟨by rw [List.length_set, List.length_set, h.len], fun i j hj => ?_⟩
 rw [fl_set _ _ ht hj (by rw [List.length_set, h.len]; exact ha), fl_set _ _ ht hj (by rw [h.len]; exact hb), h.at_ i j hj, h.at_ a t ht, h.at_ b t ht]
 rw [if_neg (Nat.lt_irrefl t), if_neg (Nat.lt_irrefl t)]
 rcases Nat.lt_trichotomy j t with hl | he | hg
 ·rw [if_neg (fun hh => by omega), if_neg (fun hh => by omega), if_pos hl, if_pos (show j < t + 1 by omega)]
 ·subst he
  rw [if_neg (Nat.lt_irrefl j), if_pos (Nat.lt_succ_self j)]
  by_cases h1 : i = a
  ·rw [if_pos ⟨h1, rfl⟩, if_pos h1]
  ·rw [if_neg (fun hh => h1 hh.1), if_neg h1]
   by_cases h2 : i = b
   ·rw [if_pos ⟨h2, rfl⟩, if_pos h2]
   ·rw [if_neg (fun hh => h2 hh.1), if_neg h2]
 ·rw [if_neg (fun hh => by omega), if_neg (fun hh => by omega), if_neg (show ¬ j < t by omega), if_neg (show ¬ j < t + 1 by omega)]
def unfl (w m : Nat) (X : List Int) : List (List Int) := (List.range m).map fun i => (X.drop (i * w)).take w
theorem unfl_len (w m : Nat) (X : List Int) : (unfl w m X).length = m := by simp [unfl]
theorem unfl_get {w m : Nat} (X : List Int) {i j : Nat} (hi : i < m) (hj : j < w) : rw' (unfl w m X) i j = fl w X i j := by
 unfold rw' vec unfl fl
 have h1 : ((List.range m).map fun i => (X.drop (i * w)).take w).getD i [] = (X.drop (i * w)).take w := by
  rw [List.getD_eq_getElem?_getD, List.getElem?_map, List.getElem?_range hi]; rfl
 rw [h1, List.getD_eq_getElem?_getD, List.getElem?_take_of_lt hj, List.getElem?_drop, ← List.getD_eq_getElem?_getD]
theorem unfl_vs {p : Int} {w m : Nat} {X : List Int} (hl : X.length = m * w) (h : ∀ i j, i < m → j < w → 0 ≤ fl w X i j ∧ fl w X i j < p) : Vs p w (unfl w m X) := by
 intro x hx
 obtain ⟨i, hi, rfl⟩ := List.mem_map.1 hx
 have him := List.mem_range.1 hi
 have h2 := Nat.mul_le_mul_right w (show i + 1 ≤ m by omega)
 rw [Nat.add_mul, Nat.one_mul] at h2
 refine ⟨by rw [List.length_take, List.length_drop]; omega, fun y hy => ?_⟩
 obtain ⟨j, hj, rfl⟩ := List.getElem_of_mem hy
 have hjw : j < w := by rw [List.length_take] at hj; omega
 have h3 := h i j him hjw
 unfold fl at h3
 rw [List.getElem_take, List.getElem_drop]
 rwa [List.getD_eq_getElem?_getD, List.getElem?_eq_getElem (by omega), Option.getD_some] at h3
theorem unfl_take {w m r : Nat} (X : List Int) (h : r ≤ m) : (unfl w m X).take r = unfl w r X := by
 unfold unfl
 rw [← List.map_take, List.take_range, Nat.min_eq_left h]
theorem flatten_fl {w : Nat} : ∀ (L : List (List Int)), (∀ x, x ∈ L → x.length = w) → ∀ i j, i < L.length → j < w → fl w L.flatten i j = rw' L i j
 | [], _, i, j, hi, _ => by simp at hi
 | a :: L, h, i, j, hi, hj => by
  have ha := h a (by simp)
  unfold fl rw' vec
  rw [List.flatten_cons]
  cases i with
  | zero =>
   rw [List.getD_eq_getElem?_getD, Nat.zero_mul, Nat.zero_add, List.getElem?_append_left (by omega)]
   simp [List.getD_eq_getElem?_getD]
  | succ i =>
   have ih := flatten_fl L (fun x hx => h x (by simp [hx])) i j (by simpa using hi) hj
   unfold fl rw' vec at ih
   rw [List.getD_eq_getElem?_getD, List.getElem?_append_right (by rw [Nat.add_mul]; omega), ← List.getD_eq_getElem?_getD]
   have : (i + 1) * w + j - a.length = i * w + j := by rw [Nat.add_mul]; omega
   rw [this, ih]
   simp [List.getD_eq_getElem?_getD]
theorem flatten_len {w : Nat} : ∀ (L : List (List Int)), (∀ x, x ∈ L → x.length = w) → L.flatten.length = L.length * w
 | [], _ => by simp
 | a :: L, h => by
  rw [List.flatten_cons, List.length_append, flatten_len L (fun x hx => h x (by simp [hx])), h a (by simp), List.length_cons, Nat.add_mul]; omega
structure FlInv (p : Int) (w m : Nat) (L : List (List Int)) (c : Nat) (X : List Int) (q : List Int) : Prop where
 len : X.length = m * w
 pos : ∀ x, x ∈ q → 0 ≤ x
 el : El p w m (rw' L) c q.length (fl w X) (fun i => (q.getD i 0).toNat)
theorem FlInv.red {p : Int} {w : Nat} {L : List (List Int)} {X : List Int} {q : List Int} (h : FlInv p w L.length L w X q) : Red p w L (unfl w q.length X) q := by
 have hr := h.el.g.rm
 rw [← unfl_take X hr]
 refine Red.of (unfl_len _ _ _) (unfl_vs h.len fun i j hi hj => ⟨h.el.ge i j hi hj, h.el.lt i j hi hj⟩) rfl h.pos (h.el.congr (Nat.le_refl _) fun i j hi hj => unfl_get X hi hj)
end Go.Proofs.Ytipkciildhghiaa.B.LinT

set_option linter.unusedVariables false
set_option linter.unusedSimpArgs false
namespace Go.Proofs.Ytipkciildhghiaa.B.LinT

theorem in_rng {p a : Int} (h0 : 0 ≤ a) (h1 : a < p) (hd : p ∣ a) : a = 0 := by
 have := Int.emod_eq_of_lt h0 h1
 rw [Int.emod_eq_zero_of_dvd hd] at this; omega
theorem rng_eq {p a b : Int} (h0 : 0 ≤ a) (h1 : a < p) (g0 : 0 ≤ b) (g1 : b < p) (hd : p ∣ a - b) : a = b := by
 have e1 := Int.emod_eq_of_lt h0 h1
 have e2 := Int.emod_eq_of_lt g0 g1
 have := Int.emod_emod_of_dvd a (Int.dvd_refl p)
 have := (Int.emod_eq_emod_iff_emod_sub_eq_zero).2 (Int.emod_eq_zero_of_dvd hd)
 omega
theorem Red.place {p : Int} {n : Nat} {L B : List (List Int)} {q : List Int} (h : Red p n L B q) (hp : 1 < p) {i : Nat} (hi : i < B.length) :
  (q.getD i 0).toNat < n ∧ (B.getD i []).getD (q.getD i 0).toNat 0 = 1 ∧ ∀ j, j < (q.getD i 0).toNat → (B.getD i []).getD j 0 = 0 := by
 have h1 := h.rref.lt i hi
 refine ⟨h1, ?_, fun j hj => ?_⟩
 ·have a := vs_get h.vs hi h1
  exact rng_eq a.1 a.2 (by omega) hp (h.rref.one i hi)
 ·have a := vs_get h.vs hi (j := j) (by omega)
  exact in_rng a.1 a.2 (h.rref.pre i j hi hj)
theorem Red.in_iff {p : Int} {n : Nat} {L B : List (List Int)} {q : List Int} (h : Red p n L B q) (v : Vec) :
  Span p n (B.map vec) v ↔ ∀ j, j < n → p ∣ v j - comb (rw' B) B.length (fun i => v (q.getD i 0).toNat) j := by
 constructor
 ·intro hv j hj
  rw [← rows_list] at hv
  exact h.rref.coef hv j hj
 ·intro hv
  rw [← rows_list]
  exact (span_comb _ _ _).2 ⟨_, hv⟩
theorem span_snoc {p : Int} {n : Nat} (L : List Vec) (x v : Vec) : Span p n (L ++ [x]) v ↔ Ins p n (Span p n L) x v := by
 constructor
 ·refine span_least (Ins.isSub (span_sub p n L) x) (fun y hy => ?_)
  rcases List.mem_append.1 hy with h | h
  ·exact Ins.old (span_mem h)
  ·rw [List.mem_singleton.1 h]; exact Ins.new (span_sub p n L)
 ·exact Ins.least (span_sub p n _) (fun v hv => span_mono (fun y hy => span_mem (List.mem_append_left _ hy)) hv) (span_mem (by simp))
theorem Red.dim {p : Int} {n : Nat} {L B : List (List Int)} {q : List Int} (hp : Pr p) (h : Red p n L B q) : LinT.dim p n (Span p n (L.map vec)) = B.length := by
 rw [← h.rref.indep hp, rows_list]
 exact dim_congr fun v => (h.span v).symm
theorem Red.more {p : Int} {n : Nat} {L B B' : List (List Int)} {q q' : List Int} {x : List Int} (hp : Pr p) (h : Red p n L B q) (h' : Red p n (L ++ [x]) B' q') :
  (Span p n (L.map vec) (vec x) → B'.length = B.length) ∧ (¬ Span p n (L.map vec) (vec x) → B'.length = B.length + 1) := by
 have e : ∀ v, Span p n ((L ++ [x]).map vec) v ↔ Ins p n (Span p n (L.map vec)) (vec x) v := fun v => by
  rw [List.map_append]; exact span_snoc _ _ _
 rw [← h.dim hp, ← h'.dim hp, dim_congr e]
 exact ⟨fun hx => dim_congr (ins_eq (span_sub p n _) hx), fun hx => dim_ins hp (span_sub p n _) hx⟩
theorem vs_append {p : Int} {n : Nat} {L M : List (List Int)} (h : Vs p n L) (h' : Vs p n M) : Vs p n (L ++ M) := fun x hx => (List.mem_append.1 hx).elim (h x) (h' x)
theorem vs_one {p : Int} {n : Nat} {x : List Int} (h : x.length = n) (h' : ∀ y, y ∈ x → 0 ≤ y ∧ y < p) : Vs p n [x] := fun y hy => by rw [List.mem_singleton.1 hy]; exact ⟨h, h'⟩
theorem Red.len_le {p : Int} {n : Nat} {L B : List (List Int)} {q : List Int} (h : Red p n L B q) (hp : Pr p) : B.length ≤ n ∧ B.length ≤ L.length := by
 rw [← h.dim hp]
 exact ⟨dim_le p n _, Nat.le_trans (dim_span_le hp _) (by simp)⟩
theorem Red.of_same {p : Int} {n : Nat} {L L' B : List (List Int)} {q : List Int} (h : Red p n L B q) (hs : ∀ v, Span p n (L.map vec) v ↔ Span p n (L'.map vec) v) : Red p n L' B q :=
 ⟨h.vs, h.len, h.rref, fun v => (h.span v).trans (hs v), h.pos⟩
theorem Red.self {p : Int} {n : Nat} {L B : List (List Int)} {q : List Int} (h : Red p n L B q) : Red p n B B q := h.of_same fun v => (h.span v).symm
theorem red_units {p : Int} {n : Nat} (hp : 1 < p) (q : List Int) (hq : ∀ x, x ∈ q → 0 ≤ x ∧ x < (n : Int)) (hm : ∀ i j, i < j → j < q.length → q.getD i 0 < q.getD j 0) (B : List (List Int)) (hl : B.length = q.length) (hv : Vs p n B)
  (hB : ∀ i j, i < B.length → j < n → rw' B i j = if (j : Int) = q.getD i 0 then 1 else 0) : Red p n B B q := by
 have hg : ∀ i, i < q.length → 0 ≤ q.getD i 0 ∧ q.getD i 0 < (n : Int) := fun i hi => by
  rw [List.getD_eq_getElem?_getD, List.getElem?_eq_getElem hi, Option.getD_some]; exact hq _ (List.getElem_mem hi)
 refine ⟨hv, hl.symm, ⟨fun i hi => ?_, fun i j hij hj => ?_, fun i hi => ?_, fun i j hi hj hne => ?_, fun i c hi hc => ?_⟩, fun v => Iff.rfl, fun x hx => (hq x hx).1⟩
 ·have := hg i (by omega); omega
 ·have := hm i j hij (by omega); have := hg i (by omega); have := hg j (by omega); show (q.getD i 0).toNat < (q.getD j 0).toNat; omega
 ·have := hg i (by omega)
  rw [hB i _ hi (by omega), if_pos (by omega)]; exact Int.dvd_zero p
 ·have h1 := hg i (by omega)
  have h2 := hg j (by omega)
  rw [hB i _ hi (by omega), if_neg]
  ·exact Int.dvd_zero p
  ·rcases Nat.lt_or_gt_of_ne hne with hl' | hl'
   ·have := hm i j hl' (by omega); omega
   ·have := hm j i hl' (by omega); omega
 ·have h1 := hg i (by omega)
  have hc' : (c : Int) < q.getD i 0 := by have hc2 : c < (q.getD i 0).toNat := hc; omega
  rw [hB i c hi (by omega), if_neg (by omega)]; exact Int.dvd_zero p
end Go.Proofs.Ytipkciildhghiaa.B.LinT

set_option linter.unusedVariables false
set_option linter.unusedSimpArgs false
namespace Go.Proofs.Ytipkciildhghiaa.B
open Go.RowKit Go.Proofs.YtipkciildhghiaaW.PrintWords
open LinT

theorem tmod_nat {a : Int} {p : Nat} (h : 0 ≤ a) : Int.tmod a (p : Int) = a % (p : Int) := Int.tmod_eq_emod_of_nonneg h
theorem powerOf_ev (p : Nat) (hp : 2 ≤ p) (hp2 : p ≤ 251) : ∀ (e x0 x7 : Nat), e ≤ 1000 → x0 < p → x7 < p → Ev (fun k => z199.l0 k (x0 : Int) (e : Int) (p : Int) (x7 : Int)) ((x7 * x0 ^ e % p : Nat) : Int) := by
 intro e
 induction e using Nat.strongRecOn with
 | _ e ih =>
  intro x0 x7 he h0 h7
  refine Ev.step (fun k => z199.l0.eq_2 ..) ?_
  rcases Nat.eq_zero_or_pos e with h | h
  ·subst h
   refine ev_neg (by omega) (ev_eq (Ev.now _) ?_)
   rw [Nat.pow_zero, Nat.mul_one, Nat.mod_eq_of_lt h7]
  ·have hb : x0 * x0 ≤ 250 * 250 := Nat.mul_le_mul (by omega) (by omega)
   have hb2 : x7 * x0 ≤ 250 * 250 := Nat.mul_le_mul (by omega) (by omega)
   have e1 : Int.tmod (wrap64 ((x0 : Int) * (x0 : Int))) (p : Int) = ((x0 * x0 % p : Nat) : Int) := by
    rw [← Int.natCast_mul, wrap_small (by omega) (by omega), tmod_nat (by omega)]; simp
   have e2 : wrap64 (Int.tdiv (e : Int) 2) = ((e / 2 : Nat) : Int) := by
    have : Int.tdiv (e : Int) 2 = ((e / 2 : Nat) : Int) := by rw [Int.tdiv_eq_ediv_of_nonneg (by omega)]; simp
    rw [this, wrap_small (by omega) (by omega)]
   have e3 : Int.tmod (e : Int) 2 = ((e % 2 : Nat) : Int) := by rw [Int.tmod_eq_emod_of_nonneg (by omega)]; simp
   have e4 : Int.tmod (wrap64 ((x7 : Int) * (x0 : Int))) (p : Int) = ((x7 * x0 % p : Nat) : Int) := by
    rw [← Int.natCast_mul, wrap_small (by omega) (by omega), tmod_nat (by omega)]; simp
   have hpow : x0 ^ e = (x0 * x0) ^ (e / 2) * x0 ^ (e % 2) := by
    rw [← Nat.pow_two, ← Nat.pow_mul, ← Nat.pow_add, Nat.div_add_mod]
   have hm : ∀ y, y % p * (x0 * x0 % p) ^ (e / 2) % p = y * (x0 * x0) ^ (e / 2) % p := fun y => by
    rw [Nat.mul_mod, Nat.pow_mod, Nat.mod_mod, Nat.mod_mod, ← Nat.pow_mod, ← Nat.mul_mod]
   refine ev_pos (by omega) ?_
   rw [e1, e2, e3, e4]
   have hp0 : 0 < p := by omega
   rcases Nat.mod_two_eq_zero_or_one e with h2 | h2
   ·refine ev_neg (by rw [h2]; decide) (ev_neg (by omega) ?_)
    refine ev_eq (ih (e / 2) (by omega) (x0 * x0 % p) x7 (by omega) (Nat.mod_lt _ hp0) h7) ?_
    have := hm x7
    rw [Nat.mod_eq_of_lt h7] at this
    rw [this, hpow, h2, Nat.pow_zero, Nat.mul_one]
   ·refine ev_pos (by rw [h2]; decide) (ev_neg (by omega) ?_)
    refine ev_eq (ih (e / 2) (by omega) (x0 * x0 % p) (x7 * x0 % p) (by omega) (Nat.mod_lt _ hp0) (Nat.mod_lt _ hp0)) ?_
    rw [hm, hpow, h2, Nat.pow_one, Nat.mul_assoc, Nat.mul_comm x0]
theorem inverse_ev {p a : Nat} (hp : isP p = true) (ha : a < p) : Ev (fun k => z179.f k (a : Int) (p : Int)) ((a ^ (p - 2) % p : Nat) : Int) := by
 have h2 := isP_two hp
 unfold z179.f z199.f
 have e : wrap64 ((p : Int) - 2) = ((p - 2 : Nat) : Int) := by rw [wrap_small (by omega) (by omega)]; omega
 rw [e]
 have h := powerOf_ev p h2.1 h2.2 (p - 2) a 1 (by omega) ha (by omega)
 rw [Nat.one_mul] at h
 exact Ev.bind h (Ev.now _)
def addT (p : Nat) (x y : List Int) (c : Int) : List Int := (List.range x.length).map fun j => (x.getD j 0 + c * y.getD j 0) % (p : Int)
def Rng (p : Nat) (x : List Int) : Prop := ∀ y, y ∈ x → 0 ≤ y ∧ y < (p : Int)
theorem rng_get {p : Nat} {x : List Int} (h : Rng p x) {j : Nat} (hj : j < x.length) : 0 ≤ x.getD j 0 ∧ x.getD j 0 < (p : Int) := h _ (getD_mem 0 hj)
theorem addT_len (p : Nat) (x y : List Int) (c : Int) : (addT p x y c).length = x.length := by simp [addT]
theorem addT_get {p : Nat} {x y : List Int} {c : Int} {j : Nat} (hj : j < x.length) : (addT p x y c).getD j 0 = (x.getD j 0 + c * y.getD j 0) % (p : Int) := by
 unfold addT
 rw [List.getD_eq_getElem?_getD, List.getElem?_map, List.getElem?_range hj]; rfl
theorem addT_rng {p : Nat} (hp : 0 < p) (x y : List Int) (c : Int) : Rng p (addT p x y c) := by
 intro z hz
 obtain ⟨j, _, rfl⟩ := List.mem_map.1 hz
 exact ⟨Int.emod_nonneg _ (by omega), Int.emod_lt_of_pos _ (by omega)⟩
theorem addTimes_ev {p : Nat} (hp0 : 0 < p) (hp : p ≤ 251) (x y : List Int) (c : Int) (hx : Rng p x) (hy : Rng p y) (hl : x.length ≤ y.length) (hm : x.length ≤ 1048576) (hc0 : 0 ≤ c) (hc : c ≤ 251) :
  Ev (fun k => z178.f k x y c (p : Int)) (addT p x y c) := by
 unfold z178.f
 refine ev_map (fun s i k => z178.l0 k x y c (p : Int) s (x.length : Int) (i : Int)) (fun j => (x.getD j 0 + c * y.getD j 0) % (p : Int)) x.length (fun j s hj hs r hr => ?_) _ ?_
 ·have hsl : s.length = j := by rw [hs]; simp
  have a := rng_get hx hj
  have b := rng_get hy (j := j) (by omega)
  have hcb : 0 ≤ c * y.getD j 0 := Int.mul_nonneg hc0 b.1
  have hcb2 : c * y.getD j 0 ≤ 251 * 251 := Int.mul_le_mul hc (by omega) b.1 (by decide)
  refine Ev.step (fun k => z178.l0.eq_2 ..) ?_
  (repeat (first | refine ev_pos (by omega) ?_ | refine ev_neg (by omega) ?_))
  rw [wrap_succ (by omega), rd_nat, rd_nat, wrap_small (x := c * y.getD j 0) (by omega) (by omega), wrap_small (by omega) (by omega), tmod_nat (by omega)]
  exact hr
 ·refine Ev.step (fun k => z178.l0.eq_2 ..) ?_
  exact ev_neg (by omega) (Ev.now _)
theorem reduce_val {p : Nat} (hp : 2 ≤ p) (hp2 : p ≤ 251) {a : Int} (h0 : -1000000000 ≤ a) (h1 : a ≤ 1000000000) : z150.f a (p : Int) = some (a % (p : Int)) := by
 unfold z150.f
 rw [if_neg (by omega)]
 have h2 : Int.tmod a (p : Int) = a % (p : Int) ∨ Int.tmod a (p : Int) = a % (p : Int) - (p : Int) := by
  rw [Int.tmod_eq_emod]
  split
  ·left; omega
  ·right; simp
 have h3 := Int.emod_nonneg a (b := (p : Int)) (by omega)
 have h4 := Int.emod_lt_of_pos a (b := (p : Int)) (by omega)
 congr 1
 rcases h2 with h | h
 ·rw [h, wrap_small (by omega) (by omega), tmod_nat (by omega)]; simp
 ·rw [h, wrap_small (by omega) (by omega), tmod_nat (by omega)]; simp
end Go.Proofs.Ytipkciildhghiaa.B

set_option linter.unusedVariables false
set_option linter.unusedSimpArgs false
namespace Go.Proofs.Ytipkciildhghiaa.B
open Go.RowKit Go.Proofs.YtipkciildhghiaaW.PrintWords
open LinT

def okP (p : Int) : Bool := (decide (2 ≤ p) && decide (p ≤ 251)) && isP p.toNat
theorem isP_iff {n : Nat} (h0 : 2 ≤ n) (h1 : n ≤ 251) : isP n = true ↔ ∀ d, 2 ≤ d → d < 16 → n < d * d ∨ n % d ≠ 0 := by
 unfold isP
 rw [Bool.and_eq_true, Bool.and_eq_true, decide_eq_true_iff, decide_eq_true_iff, List.all_eq_true]
 constructor
 ·rintro ⟨_, h⟩ d hd hd2
  have := h d (List.mem_range.2 hd2)
  rw [Bool.or_eq_true, Bool.or_eq_true, decide_eq_true_iff, decide_eq_true_iff, decide_eq_true_iff] at this
  rcases this with (h3 | h3) | h3
  ·omega
  ·exact .inl h3
  ·exact .inr h3
 ·intro h
  refine ⟨⟨h0, h1⟩, fun d hd => ?_⟩
  rw [Bool.or_eq_true, Bool.or_eq_true, decide_eq_true_iff, decide_eq_true_iff, decide_eq_true_iff]
  by_cases h2 : d < 2
  ·exact .inl (.inl h2)
  ·rcases h d (by omega) (List.mem_range.1 hd) with h3 | h3
   ·exact .inl (.inr h3)
   ·exact .inr h3
theorem impl_ValidPrime_loop {n : Nat} (h0 : 2 ≤ n) (h1 : n ≤ 251) : ∀ (e d : Nat), d + e = 16 → 2 ≤ d → ∃ b, Ev (fun k => z133.l0 k (n : Int) (d : Int)) b ∧ (b = true ↔ ∀ d', d ≤ d' → d' < 16 → n < d' * d' ∨ n % d' ≠ 0) := by
 intro e
 induction e with
 | zero =>
  intro d hd h2
  have : d = 16 := by omega
  subst this
  refine ⟨true, ?_, by simp; omega⟩
  refine Ev.step (fun k => z133.l0.eq_2 ..) ?_
  rw [← Int.natCast_mul, wrap_small (by omega) (by omega)]
  exact ev_neg (by omega) (Ev.now _)
 | succ e ih =>
  intro d hd h2
  have hdd : d * d ≤ 16 * 16 := Nat.mul_le_mul (by omega) (by omega)
  have hw : wrap64 ((d : Int) * (d : Int)) = ((d * d : Nat) : Int) := by rw [← Int.natCast_mul, wrap_small (by omega) (by omega)]
  have hm : Int.tmod (n : Int) (d : Int) = ((n % d : Nat) : Int) := by rw [Int.tmod_eq_emod_of_nonneg (by omega)]; simp
  by_cases hl : n < d * d
  ·refine ⟨true, ?_, ?_⟩
   ·refine Ev.step (fun k => z133.l0.eq_2 ..) ?_
    rw [hw]
    exact ev_neg (by omega) (Ev.now _)
   ·simp only [true_iff]
    intro d' h3 _
    have := Nat.mul_le_mul h3 h3
    left; omega
  ·by_cases hz : n % d = 0
   ·refine ⟨false, ?_, ?_⟩
    ·refine Ev.step (fun k => z133.l0.eq_2 ..) ?_
     rw [hw, hm]
     exact ev_pos (by omega) (ev_neg (by omega) (ev_pos (by omega) (Ev.now _)))
    ·simp only [Bool.false_eq_true, false_iff]
     intro h
     rcases h d (Nat.le_refl _) (by omega) with h3 | h3
     ·exact hl h3
     ·exact h3 hz
   ·obtain ⟨b, hb, hi⟩ := ih (d + 1) (by omega) (by omega)
    refine ⟨b, ?_, hi.trans ⟨fun h d' h3 h4 => ?_, fun h d' h3 h4 => h d' (by omega) h4⟩⟩
    ·refine Ev.step (fun k => z133.l0.eq_2 ..) ?_
     rw [hw, hm]
     refine ev_pos (by omega) (ev_neg (by omega) (ev_neg (by omega) ?_))
     rw [wrap_succ (by omega)]; exact hb
    ·rcases Nat.lt_or_ge d d' with h5 | h5
     ·exact h d' (by omega) h4
     ·have : d' = d := by omega
      subst this; exact .inr hz
theorem spec_l02Prime_loop {n : Nat} (h0 : 2 ≤ n) (h1 : n ≤ 251) : ∀ (e d : Nat), d + e = 16 → 2 ≤ d → ∃ b, Ev (fun k => z171.l0 k (n : Int) (d : Int)) b ∧ (b = true ↔ ∀ d', d ≤ d' → d' < 16 → n < d' * d' ∨ n % d' ≠ 0) := by
 intro e
 induction e with
 | zero =>
  intro d hd h2
  have : d = 16 := by omega
  subst this
  refine ⟨true, ?_, by simp; omega⟩
  refine Ev.step (fun k => z171.l0.eq_2 ..) ?_
  rw [← Int.natCast_mul, wrap_small (by omega) (by omega)]
  exact ev_neg (by omega) (Ev.now _)
 | succ e ih =>
  intro d hd h2
  have hdd : d * d ≤ 16 * 16 := Nat.mul_le_mul (by omega) (by omega)
  have hw : wrap64 ((d : Int) * (d : Int)) = ((d * d : Nat) : Int) := by rw [← Int.natCast_mul, wrap_small (by omega) (by omega)]
  have hm : Int.tmod (n : Int) (d : Int) = ((n % d : Nat) : Int) := by rw [Int.tmod_eq_emod_of_nonneg (by omega)]; simp
  by_cases hl : n < d * d
  ·refine ⟨true, ?_, ?_⟩
   ·refine Ev.step (fun k => z171.l0.eq_2 ..) ?_
    rw [hw]
    exact ev_neg (by omega) (Ev.now _)
   ·simp only [true_iff]
    intro d' h3 _
    have := Nat.mul_le_mul h3 h3
    left; omega
  ·by_cases hz : n % d = 0
   ·refine ⟨false, ?_, ?_⟩
    ·refine Ev.step (fun k => z171.l0.eq_2 ..) ?_
     rw [hw, hm]
     exact ev_pos (by omega) (ev_neg (by omega) (ev_pos (by omega) (Ev.now _)))
    ·simp only [Bool.false_eq_true, false_iff]
     intro h
     rcases h d (Nat.le_refl _) (by omega) with h3 | h3
     ·exact hl h3
     ·exact h3 hz
   ·obtain ⟨b, hb, hi⟩ := ih (d + 1) (by omega) (by omega)
    refine ⟨b, ?_, hi.trans ⟨fun h d' h3 h4 => ?_, fun h d' h3 h4 => h d' (by omega) h4⟩⟩
    ·refine Ev.step (fun k => z171.l0.eq_2 ..) ?_
     rw [hw, hm]
     refine ev_pos (by omega) (ev_neg (by omega) (ev_neg (by omega) ?_))
     rw [wrap_succ (by omega)]; exact hb
    ·rcases Nat.lt_or_ge d d' with h5 | h5
     ·exact h d' (by omega) h4
     ·have : d' = d := by omega
      subst this; exact .inr hz
theorem implPrime_ev (p : Int) : Ev (fun k => z133.f k p) (okP p) := by
 unfold z133.f okP
 refine Ev.bind (ev_const (within_val _ _ _)) ?_
 cases h : decide (2 ≤ p) && decide (p ≤ 251) with
 | false => exact ev_neg (by decide) (Ev.now _)
 | true =>
  rw [Bool.and_eq_true, decide_eq_true_iff, decide_eq_true_iff] at h
  obtain ⟨n, rfl⟩ := Int.eq_ofNat_of_zero_le (show 0 ≤ p by omega)
  obtain ⟨b, hb, hi⟩ := impl_ValidPrime_loop (n := n) (by omega) (by omega) 14 2 (by omega) (by omega)
  refine ev_pos rfl (ev_eq hb ?_)
  rw [Bool.true_and, Int.toNat_natCast, Bool.eq_iff_iff, isP_iff (by omega) (by omega), hi]
theorem specPrime2_ev (p : Int) : Ev (fun k => z171.f k p) (okP p) := by
 unfold z171.f okP
 refine Ev.bind (ev_const (in_val _ _ _)) ?_
 cases h : decide (2 ≤ p) && decide (p ≤ 251) with
 | false => exact ev_neg (by decide) (Ev.now _)
 | true =>
  rw [Bool.and_eq_true, decide_eq_true_iff, decide_eq_true_iff] at h
  obtain ⟨n, rfl⟩ := Int.eq_ofNat_of_zero_le (show 0 ≤ p by omega)
  obtain ⟨b, hb, hi⟩ := spec_l02Prime_loop (n := n) (by omega) (by omega) 14 2 (by omega) (by omega)
  refine ev_pos rfl (ev_eq hb ?_)
  rw [Bool.true_and, Int.toNat_natCast, Bool.eq_iff_iff, isP_iff (by omega) (by omega), hi]
theorem specPrime_ev (p : Int) : Ev (fun k => z132.f k p) (okP p) := by
 unfold z132.f
 exact Ev.bind (specPrime2_ev p) (Ev.now _)
theorem okP_iff {p : Int} : okP p = true ↔ ∃ n : Nat, p = (n : Int) ∧ isP n = true := by
 unfold okP
 rw [Bool.and_eq_true, Bool.and_eq_true, decide_eq_true_iff, decide_eq_true_iff]
 constructor
 ·rintro ⟨⟨h0, h1⟩, h⟩
  exact ⟨p.toNat, by omega, h⟩
 ·rintro ⟨n, rfl, h⟩
  have := isP_two h
  exact ⟨⟨by omega, by omega⟩, by rw [Int.toNat_natCast]; exact h⟩
end Go.Proofs.Ytipkciildhghiaa.B

set_option linter.unusedVariables false
set_option linter.unusedSimpArgs false
namespace Go.Proofs.Ytipkciildhghiaa.B
open Go.RowKit Go.Proofs.YtipkciildhghiaaW.PrintWords
open SimT LinT

def run (a m : Nat) : List Int := (List.range m).map fun j => ((a + j : Nat) : Int)
theorem run_len (a m : Nat) : (run a m).length = m := by simp [run]
theorem run_get {a m j : Nat} (h : j < m) : (run a m).getD j 0 = ((a + j : Nat) : Int) := by
 unfold run
 rw [List.getD_eq_getElem?_getD, List.getElem?_map, List.getElem?_range h]; rfl
theorem run_succ (a m : Nat) : run a (m + 1) = run a m ++ [((a + m : Nat) : Int)] := by
 unfold run
 rw [List.range_succ, List.map_append]; rfl
theorem filt_run {p : Nat → Bool} (h : ∀ i j k, i ≤ j → j ≤ k → p i = true → p k = true → p j = true) : ∀ n, ∃ a m, filt p n = run a m ∧ (m = 0 ∨ a + m ≤ n) ∧ ∀ j, j < m → p (a + j) = true
 | 0 => ⟨0, 0, rfl, .inl rfl, fun j hj => by omega⟩
 | n + 1 => by
  obtain ⟨a, m, h1, h2, h3⟩ := filt_run h n
  rw [filt_succ]
  cases hp : p n with
  | false => exact ⟨a, m, by simpa using h1, by omega, h3⟩
  | true =>
   rcases Nat.eq_zero_or_pos m with h0 | h0
   ·refine ⟨n, 1, ?_, by omega, fun j hj => by rw [show n + j = n by omega]; exact hp⟩
    rw [h1, h0]; rfl
   ·have hlt : a + m = n := by
     rcases Nat.lt_or_ge (a + m) n with hl | hg
     ·have hpm : p (a + m) = true := h a (a + m) n (by omega) (by omega) (by have := h3 0 h0; simpa using this) hp
      have hmem : ((a + m : Nat) : Int) ∈ filt p n := mem_filt.2 ⟨a + m, hl, hpm, rfl⟩
      rw [h1] at hmem
      unfold run at hmem
      obtain ⟨j, hj, he⟩ := List.mem_map.1 hmem
      have := List.mem_range.1 hj
      omega
     ·omega
    refine ⟨a, m + 1, ?_, by omega, fun j hj => ?_⟩
    ·rw [h1, run_succ, hlt]; rfl
    ·rcases Nat.lt_or_ge j m with hl | hg
     ·exact h3 j hl
     ·rw [show a + j = n by omega]; exact hp
theorem srt_len {C : List (List Int)} (hs : Srt C) {i j : Nat} (hij : i ≤ j) (hj : j < C.length) : (C.getD i []).length ≤ (C.getD j []).length := by
 rcases Nat.lt_or_ge i j with hl | hg
 ·have := (slt_iff _ _).1 (srt_get hs hl hj); omega
 ·have : i = j := by omega
  rw [this]; exact Nat.le_refl _
theorem ofDim_run {C : List (List Int)} (hs : Srt C) (d : Int) : ∃ a m, ofDim C d = run a m ∧ (m = 0 ∨ a + m ≤ C.length) ∧ ∀ j, j < m → ((C.getD (a + j) []).length : Int) = d + 1 := by
 have e : ofDim C d = filt (fun i => decide (i < C.length) && decide (((C.getD i []).length : Int) = d + 1)) C.length := filt_congr _ fun i hi => by simp [hi]
 obtain ⟨a, m, h1, h2, h3⟩ := filt_run (p := fun i => decide (i < C.length) && decide (((C.getD i []).length : Int) = d + 1)) (fun i j k hij hjk hi hk => by
  rw [Bool.and_eq_true, decide_eq_true_iff, decide_eq_true_iff] at hi hk ⊢
  have a1 := srt_len hs hij (by omega)
  have a2 := srt_len hs hjk hk.1
  exact ⟨by omega, by omega⟩) C.length
 refine ⟨a, m, e.trans h1, h2, fun j hj => ?_⟩
 have := h3 j hj
 rw [Bool.and_eq_true, decide_eq_true_iff, decide_eq_true_iff] at this
 exact this.2
theorem index_ev (l : List Int) (x : Int) (hl : l.length < 9223372036854775807) : (x ∉ l → Ev (fun k => z94.f k l x) (-1)) ∧ ∀ i, i < l.length → l.getD i 0 = x → (∀ j, j < i → l.getD j 0 ≠ x) → Ev (fun k => z94.f k l x) (i : Int) := by
 unfold z94.f
 have skip : ∀ j, j < l.length → l.getD j 0 ≠ x → Le (fun k => z94.l0 k l x (l.length : Int) ((j + 1 : Nat) : Int)) (fun k => z94.l0 k l x (l.length : Int) (j : Int)) := fun j hj hne r hr => by
  refine Ev.step (fun k => z94.l0.eq_2 ..) ?_
  refine ev_pos (by omega) (ev_pos (by omega) (ev_pos (by omega) (ev_neg (by rw [rd_nat]; exact fun e => hne e.symm) ?_)))
  rw [wrap_succ (by omega)]; exact hr
 constructor
 ·intro hx
  have main : ∀ (d i : Nat), i + d = l.length → Ev (fun k => z94.l0 k l x (l.length : Int) (i : Int)) (-1) := by
   intro d
   induction d with
   | zero =>
    intro i hi
    refine Ev.step (fun k => z94.l0.eq_2 ..) ?_
    exact ev_neg (by omega) (Ev.now _)
   | succ d ih => exact fun i hi => skip i (by omega) (fun e => hx (e ▸ getD_mem 0 (by omega))) _ (ih (i + 1) (by omega))
  exact main l.length 0 (by omega)
 ·intro i hi he hb
  have main : ∀ (d j : Nat), j + d = i → Ev (fun k => z94.l0 k l x (l.length : Int) (j : Int)) (i : Int) := by
   intro d
   induction d with
   | zero =>
    intro j hj
    have : j = i := by omega
    subst this
    refine Ev.step (fun k => z94.l0.eq_2 ..) ?_
    exact ev_pos (by omega) (ev_pos (by omega) (ev_pos (by omega) (ev_pos (by rw [rd_nat]; exact he.symm) (Ev.now _))))
   | succ d ih => exact fun j hj => skip j (by omega) (hb j (by omega)) _ (ih (j + 1) (by omega))
  exact main i 0 (by omega)
theorem index_run {a m : Nat} (hm : m < 9223372036854775807) {j : Nat} (hj : j < m) : Ev (fun k => z94.f k (run a m) ((a + j : Nat) : Int)) (j : Int) := by
 refine (index_ev (run a m) _ (by rw [run_len]; exact hm)).2 j (by rw [run_len]; exact hj) (run_get hj) (fun i hi => ?_)
 rw [run_get (by omega)]; omega
def askD (C : List (List Int)) (d p : Int) : Int :=
 if (okC C && okP p) = true then (if (decide (0 ≤ d) && decide (d ≤ 3)) = true then (if (ofDim C (d - 1)).length ≤ 32 ∧ (ofDim C d).length ≤ 32 ∧ (ofDim C (d + 1)).length ≤ 32 then 0 else 5) else 2) else 1
section
variable {C : List (List Int)} (hl : C.length ≤ 1048576) (hr : ∀ x ∈ C, x.length ≤ 1048576)
include hl hr
theorem chained_ev (d p : Int) : Ev (fun k => z92.f k C d p) (askD C d p) := by
 unfold z92.f askD
 have hj : ∀ b, Ev (fun k => z92.j0 k d (!b) C) (if b = true then (if (decide (0 ≤ d) && decide (d ≤ 3)) = true then (if (ofDim C (d - 1)).length ≤ 32 ∧ (ofDim C d).length ≤ 32 ∧ (ofDim C (d + 1)).length ≤ 32 then 0 else 5) else 2) else 1) := fun b => by
  refine Ev.step (fun k => z92.j0.eq_2 ..) ?_
  cases b with
  | false => exact ev_pos rfl (Ev.now _)
  | true =>
   refine ev_neg (by decide) ?_
   unfold z62.f
   refine Ev.bind (a := decide (0 ≤ d) && decide (d ≤ 3)) (Ev.bind (ev_const (within_val _ _ _)) (Ev.now _)) ?_
   cases hd : decide (0 ≤ d) && decide (d ≤ 3) with
   | false => exact ev_neg (by decide) (Ev.now _)
   | true =>
    rw [Bool.and_eq_true, decide_eq_true_iff, decide_eq_true_iff] at hd
    refine ev_pos rfl ?_
    have w0 : wrap64 (d - 1) = d - 1 := wrap_small (by omega) (by omega)
    have w1 : wrap64 (d + 1) = d + 1 := wrap_small (by omega) (by omega)
    rw [w0, if_pos rfl, if_pos rfl]
    refine Ev.step (fun k => z92.l0.eq_2 ..) ?_
    rw [w1, show wrap64 (d - 1 + 1) = d by rw [wrap_small (by omega) (by omega)]; omega]
    refine ev_pos (by omega) (Ev.bind (simplicesOf_ev hl (by omega) (by omega)) ?_)
    by_cases h0 : (ofDim C (d - 1)).length ≤ 32
    ·refine ev_neg (by omega) ?_
     refine Ev.step (fun k => z92.l0.eq_2 ..) ?_
     rw [w1]
     refine ev_pos (by omega) (Ev.bind (simplicesOf_ev hl (by omega) (by omega)) ?_)
     by_cases h1 : (ofDim C d).length ≤ 32
     ·refine ev_neg (by omega) ?_
      refine Ev.step (fun k => z92.l0.eq_2 ..) ?_
      rw [w1]
      refine ev_pos (by omega) (Ev.bind (simplicesOf_ev hl (by omega) (by omega)) ?_)
      by_cases h2 : (ofDim C (d + 1)).length ≤ 32
      ·refine ev_neg (by omega) ?_
       refine Ev.step (fun k => z92.l0.eq_2 ..) ?_
       rw [w1, if_pos ⟨h0, h1, h2⟩, show wrap64 (d + 1 + 1) = d + 1 + 1 from wrap_small (by omega) (by omega)]
       exact ev_neg (by omega) (Ev.now _)
      ·rw [if_neg (fun h => h2 h.2.2)]
       exact ev_pos (by omega) (Ev.now _)
     ·rw [if_neg (fun h => h1 h.2.1)]
      exact ev_pos (by omega) (Ev.now _)
    ·rw [if_neg (fun h => h0 h.1)]
     exact ev_pos (by omega) (Ev.now _)
 refine Ev.bind (implValid_ev C hl hr) ?_
 cases ho : okC C with
 | false => exact ev_neg (by decide) (by simpa using hj false)
 | true => exact ev_pos rfl (Ev.bind (implPrime_ev p) (by simpa using hj (okP p)))
theorem specAsk7_ev (d p : Int) : Ev (fun k => z88.f k C d p) (askD C d p) := by
 unfold z88.f askD
 have hj : ∀ b, Ev (fun k => z88.j0 k d (!b) C) (if b = true then (if (decide (0 ≤ d) && decide (d ≤ 3)) = true then (if (ofDim C (d - 1)).length ≤ 32 ∧ (ofDim C d).length ≤ 32 ∧ (ofDim C (d + 1)).length ≤ 32 then 0 else 5) else 2) else 1) := fun b => by
  refine Ev.step (fun k => z88.j0.eq_2 ..) ?_
  cases b with
  | false => exact ev_pos rfl (Ev.now _)
  | true =>
   refine ev_neg (by decide) ?_
   unfold z60.f
   refine Ev.bind (a := decide (0 ≤ d) && decide (d ≤ 3)) (Ev.bind (ev_const (in_val _ _ _)) (Ev.now _)) ?_
   cases hd : decide (0 ≤ d) && decide (d ≤ 3) with
   | false => exact ev_neg (by decide) (Ev.now _)
   | true =>
    rw [Bool.and_eq_true, decide_eq_true_iff, decide_eq_true_iff] at hd
    refine ev_pos rfl ?_
    have w0 : wrap64 (d - 1) = d - 1 := wrap_small (by omega) (by omega)
    have w1 : wrap64 (d + 1) = d + 1 := wrap_small (by omega) (by omega)
    rw [w0, w1, if_pos rfl, if_pos rfl]
    refine Ev.bind (specOf_ev hl (by omega) (by omega)) ?_
    by_cases h1 : (ofDim C d).length ≤ 32
    ·refine ev_neg (by omega) (Ev.bind (specOf_ev hl (by omega) (by omega)) ?_)
     by_cases h0 : (ofDim C (d - 1)).length ≤ 32
     ·refine ev_neg (by omega) (Ev.bind (specOf_ev hl (by omega) (by omega)) ?_)
      by_cases h2 : (ofDim C (d + 1)).length ≤ 32
      ·exact ev_eq (ev_neg (by omega) (Ev.now _)) (if_pos ⟨h0, h1, h2⟩).symm
      ·exact ev_eq (ev_pos (by omega) (Ev.now _)) (if_neg (fun h => h2 h.2.2)).symm
     ·exact ev_eq (ev_pos (by omega) (Ev.now _)) (if_neg (fun h => h0 h.1)).symm
    ·exact ev_eq (ev_pos (by omega) (Ev.now _)) (if_neg (fun h => h1 h.2.1)).symm
 refine Ev.bind (specOk_ev C hl hr) ?_
 cases ho : okC C with
 | false => exact ev_neg (by decide) (by simpa using hj false)
 | true => exact ev_pos rfl (Ev.bind (specPrime_ev p) (by simpa using hj (okP p)))
end
theorem askD_zero {C : List (List Int)} {d p : Int} (h : askD C d p = 0) : okC C = true ∧ okP p = true ∧ 0 ≤ d ∧ d ≤ 3 ∧ (ofDim C (d - 1)).length ≤ 32 ∧ (ofDim C d).length ≤ 32 ∧ (ofDim C (d + 1)).length ≤ 32 := by
 unfold askD at h
 split at h
 ·rename_i h1
  rw [Bool.and_eq_true] at h1
  split at h
  ·rename_i h2
   rw [Bool.and_eq_true, decide_eq_true_iff, decide_eq_true_iff] at h2
   split at h
   ·rename_i h3
    exact ⟨h1.1, h1.2, h2.1, h2.2, h3⟩
   ·omega
  ·omega
 ·omega
end Go.Proofs.Ytipkciildhghiaa.B

set_option linter.unusedVariables false
set_option linter.unusedSimpArgs false
namespace Go.Proofs.Ytipkciildhghiaa.B
open Go.RowKit Go.Proofs.YtipkciildhghiaaW.PrintWords
open LinT

theorem zero_ev (p : Int) (m n : Nat) (hm : m ≤ 1048576) (hn : n ≤ 1048576) : Ev (fun k => z137.f k p (m : Int) (n : Int)) (p, (m : Int), (n : Int), List.replicate (m * n) 0) := by
 unfold z137.f z250.f
 have hin : ∀ (i t : Nat), t ≤ 1048576 * 1048576 → Le (fun k => z250.l0 k (n : Int) (m : Int) (wrap64 ((i : Int) + 1)) p (m : Int) (n : Int) (List.replicate (t + n) 0)) (fun k => z250.l1 k (n : Int) (i : Int) (m : Int) (i : Int) (n : Int) 0 p (m : Int) (n : Int) (List.replicate t 0)) := by
  intro i t ht
  have main : ∀ (d j : Nat), j + d = n → Le (fun k => z250.l0 k (n : Int) (m : Int) (wrap64 ((i : Int) + 1)) p (m : Int) (n : Int) (List.replicate (t + n) 0)) (fun k => z250.l1 k (n : Int) (i : Int) (m : Int) (i : Int) (n : Int) (j : Int) p (m : Int) (n : Int) (List.replicate (t + j) 0)) := by
   intro d
   induction d with
   | zero =>
    intro j hj r hr
    have : j = n := by omega
    subst this
    refine Ev.step (fun k => z250.l1.eq_2 ..) ?_
    exact ev_neg (by omega) hr
   | succ d ih =>
    intro j hj r hr
    have := ih (j + 1) (by omega) r hr
    refine Ev.step (fun k => z250.l1.eq_2 ..) ?_
    refine ev_pos (by omega) (Ev.bind (ev_const (r := (0 : Int)) rfl) (ev_pos (by rw [List.length_replicate]; omega) ?_))
    rw [wrap_succ (by omega)]
    have e : List.replicate (t + j) (0 : Int) ++ [0] = List.replicate (t + (j + 1)) 0 := by rw [show t + (j + 1) = t + j + 1 by omega, List.replicate_succ']
    rw [e]; exact this
  exact main n 0 (by omega)
 have out : ∀ (d i : Nat), i + d = m → Ev (fun k => z250.l0 k (n : Int) (m : Int) (i : Int) p (m : Int) (n : Int) (List.replicate (i * n) 0)) (p, (m : Int), (n : Int), List.replicate (m * n) 0) := by
  intro d
  induction d with
  | zero =>
   intro i hi
   have : i = m := by omega
   subst this
   refine Ev.step (fun k => z250.l0.eq_2 ..) ?_
   exact ev_neg (by omega) (Ev.now _)
  | succ d ih =>
   intro i hi
   have hb : i * n ≤ 1048576 * 1048576 := Nat.mul_le_mul (by omega) hn
   have h := ih (i + 1) (by omega)
   rw [Nat.add_mul, Nat.one_mul] at h
   refine Ev.step (fun k => z250.l0.eq_2 ..) ?_
   refine ev_pos (by omega) (hin i (i * n) hb _ ?_)
   rw [wrap_succ (by omega)]; exact h
 have h := out m 0 (by omega)
 rw [Nat.zero_mul] at h
 exact Ev.bind h (Ev.now _)
theorem zeroS_val (p : Int) (m n : Nat) (hm : m ≤ 1024) (hn : n ≤ 1024) : z134.f p (m : Int) (n : Int) = some (p, (m : Int), (n : Int), List.replicate (m * n) 0) := by
 have hb : m * n ≤ 1024 * 1024 := Nat.mul_le_mul hm hn
 unfold z134.f
 rw [← Int.natCast_mul, wrap_small (by omega) (by omega), if_pos (by omega), if_pos (by rw [Int.toNat_natCast]; omega), Int.toNat_natCast]
theorem row_val (p : Int) {m n : Nat} {X : List Int} (hl : X.length = m * n) (hm : m ≤ 1024) (hn : n ≤ 1024) {i : Nat} (hi : i < m) : impl_Matrix_row.f p (m : Int) (n : Int) X (i : Int) = some ((X.drop (i * n)).take n) := by
 have hb : m * n ≤ 1024 * 1024 := Nat.mul_le_mul hm hn
 have h2 := Nat.mul_le_mul_right n (show i + 1 ≤ m by omega)
 have h1 : (i + 1) * n = i * n + n := by rw [Nat.add_mul, Nat.one_mul]
 unfold impl_Matrix_row.f
 have e1 : wrap64 ((i : Int) * (n : Int)) = ((i * n : Nat) : Int) := by rw [← Int.natCast_mul, wrap_small (by omega) (by omega)]
 have e2 : wrap64 (wrap64 ((i : Int) + 1) * (n : Int)) = ((i * n + n : Nat) : Int) := by
  rw [wrap_succ (by omega), ← Int.natCast_mul, h1, wrap_small (by omega) (by omega)]
 rw [e1, e2, if_pos (by omega), Int.toNat_natCast, Int.toNat_natCast, List.drop_take]
 rw [show i * n + n - i * n = n by omega]
theorem rowL_get {n : Nat} (X : List Int) (i : Nat) {j : Nat} (hj : j < n) : ((X.drop (i * n)).take n).getD j 0 = fl n X i j := by
 unfold fl
 rw [List.getD_eq_getElem?_getD, List.getElem?_take_of_lt hj, List.getElem?_drop, ← List.getD_eq_getElem?_getD]
theorem rowL_len {m n : Nat} {X : List Int} (hl : X.length = m * n) {i : Nat} (hi : i < m) : ((X.drop (i * n)).take n).length = n := by
 have h2 := Nat.mul_le_mul_right n (show i + 1 ≤ m by omega)
 rw [Nat.add_mul, Nat.one_mul] at h2
 rw [List.length_take, List.length_drop]; omega
def mulV (p : Nat) (m n : Nat) (X v : List Int) : List Int := (List.range m).map fun i => sm (fun j => fl n X i j * v.getD j 0) n % (p : Int)
theorem sm_bound {f : Nat → Int} {b : Int} : ∀ n, (∀ j, j < n → 0 ≤ f j ∧ f j ≤ b) → 0 ≤ sm f n ∧ sm f n ≤ (n : Int) * b
 | 0, _ => by simp [sm]
 | n + 1, h => by
  have h1 := sm_bound n (fun j hj => h j (by omega))
  have h2 := h n (by omega)
  show 0 ≤ sm f n + f n ∧ sm f n + f n ≤ _
  have e : ((n + 1 : Nat) : Int) * b = (n : Int) * b + b := by rw [Int.natCast_add, Int.add_mul]; simp
  rw [e]; omega
theorem prod_bound {p : Nat} (hp : p ≤ 251) {a b : Int} (ha : 0 ≤ a ∧ a < (p : Int)) (hb : 0 ≤ b ∧ b < (p : Int)) : 0 ≤ a * b ∧ a * b ≤ 62500 :=
 ⟨Int.mul_nonneg ha.1 hb.1, Int.le_trans (Int.mul_le_mul (show a ≤ 250 by omega) (show b ≤ 250 by omega) hb.1 (by decide)) (by decide)⟩
theorem dot_ev {p : Nat} (hp0 : 2 ≤ p) (hp : p ≤ 251) (x y : List Int) (hx : Rng p x) (hy : Rng p y) (hl : x.length ≤ y.length) (hm : x.length ≤ 1048576) :
  Ev (fun k => z144.f k x y (p : Int)) (sm (fun j => x.getD j 0 * y.getD j 0) x.length % (p : Int)) := by
 unfold z144.f
 have main : ∀ (d j : Nat), j + d = x.length → Ev (fun k => z144.l0 k x y (p : Int) (sm (fun j => x.getD j 0 * y.getD j 0) j % (p : Int)) (x.length : Int) (j : Int)) (sm (fun j => x.getD j 0 * y.getD j 0) x.length % (p : Int)) := by
  intro d
  induction d with
  | zero =>
   intro j hj
   have : j = x.length := by omega
   subst this
   refine Ev.step (fun k => z144.l0.eq_2 ..) ?_
   exact ev_neg (by omega) (Ev.now _)
  | succ d ih =>
   intro j hj
   have h := ih (j + 1) (by omega)
   have hb := prod_bound hp (rng_get hx (j := j) (by omega)) (rng_get hy (j := j) (by omega))
   have h1 := Int.emod_nonneg (sm (fun j => x.getD j 0 * y.getD j 0) j) (b := (p : Int)) (by omega)
   have h2 := Int.emod_lt_of_pos (sm (fun j => x.getD j 0 * y.getD j 0) j) (b := (p : Int)) (by omega)
   refine Ev.step (fun k => z144.l0.eq_2 ..) ?_
   rw [rd_nat, rd_nat]
   (repeat (first | refine ev_pos (by omega) ?_ | refine ev_neg (by omega) ?_))
   rw [wrap_succ (by omega), wrap_small (x := x.getD j 0 * y.getD j 0) (by omega) (by omega), wrap_small (by omega) (by omega), tmod_nat (by omega), Int.emod_add_emod]
   exact h
 have h := main x.length 0 (by omega)
 simpa [sm] using h
theorem apply_ev {p m n : Nat} (hp0 : 2 ≤ p) (hp : p ≤ 251) {X v : List Int} (hX : X.length = m * n) (hr : Rng p X) (hv : v.length = n) (hvr : Rng p v) (hm : m ≤ 1024) (hn : n ≤ 1024) :
  Ev (fun k => z102.f k (p : Int) (m : Int) (n : Int) X v) (mulV p m n X v) := by
 unfold z102.f
 refine ev_map (fun s i k => z102.l0 k v s (m : Int) (i : Int) (p : Int) (m : Int) (n : Int) X) (fun i => sm (fun j => fl n X i j * v.getD j 0) n % (p : Int)) m (fun i s hi hs r hr' => ?_) _ ?_
 ·have hsl : s.length = i := by rw [hs]; simp
  have hrl := rowL_len hX hi
  have hd := dot_ev (p := p) hp0 hp ((X.drop (i * n)).take n) v (fun y hy => hr y (List.mem_of_mem_drop (List.mem_of_mem_take hy))) hvr (by omega) (by omega)
  rw [hrl, sm_congr n (fun j hj => by rw [rowL_get X i hj])] at hd
  refine Ev.step (fun k => z102.l0.eq_2 ..) ?_
  refine ev_pos (by omega) (Ev.bind (ev_const (row_val _ hX hm hn hi)) (Ev.bind hd (ev_pos (by omega) ?_)))
  rw [wrap_succ (by omega)]; exact hr'
 ·refine Ev.step (fun k => z102.l0.eq_2 ..) ?_
  exact ev_neg (by omega) (Ev.now _)
theorem applyS_ev {p m n : Nat} (hp0 : 2 ≤ p) (hp : p ≤ 251) {X v : List Int} (hX : X.length = m * n) (hr : Rng p X) (hv : v.length = n) (hvr : Rng p v) (hm : m ≤ 1024) (hn : n ≤ 1024) :
  Ev (fun k => z101.f k (p : Int) (m : Int) (n : Int) X v) (mulV p m n X v) := by
 unfold z101.f
 have hb : m * n ≤ 1024 * 1024 := Nat.mul_le_mul hm hn
 refine ev_map (fun s i k => z101.l0 k v s (i : Int) (p : Int) (m : Int) (n : Int) X) (fun i => sm (fun j => fl n X i j * v.getD j 0) n % (p : Int)) m (fun i s hi hs r hr' => ?_) _ ?_
 ·have hsl : s.length = i := by rw [hs]; simp
  have h2 := Nat.mul_le_mul_right n (show i + 1 ≤ m by omega)
  rw [Nat.add_mul, Nat.one_mul] at h2
  have hpr : ∀ j, j < n → 0 ≤ fl n X i j * v.getD j 0 ∧ fl n X i j * v.getD j 0 ≤ 62500 := fun j hj => prod_bound hp (by unfold fl; exact rng_get hr (by omega)) (rng_get hvr (by omega))
  have main : ∀ (d j : Nat), j + d = n → Ev (fun k => z101.l1 k v s (i : Int) (sm (fun j => fl n X i j * v.getD j 0) j) (j : Int) (p : Int) (m : Int) (n : Int) X) r := by
   intro d
   induction d with
   | zero =>
    intro j hj
    have : j = n := by omega
    subst this
    have hsb := sm_bound (b := 62500) j hpr
    refine Ev.step (fun k => z101.l1.eq_2 ..) ?_
    refine ev_neg (by omega) (ev_neg (by omega) (ev_pos (by omega) ?_))
    rw [tmod_nat hsb.1, wrap_succ (by omega)]; exact hr'
   | succ d ih =>
    intro j hj
    have h := ih (j + 1) (by omega)
    have hsb := sm_bound (b := 62500) j (fun t ht => hpr t (by omega))
    have hj2 := hpr j (by omega)
    have e : wrap64 (wrap64 ((i : Int) * (n : Int)) + (j : Int)) = ((i * n + j : Nat) : Int) := by
     rw [← Int.natCast_mul, wrap_small (x := ((i * n : Nat) : Int)) (by omega) (by omega), wrap_small (by omega) (by omega)]; omega
    refine Ev.step (fun k => z101.l1.eq_2 ..) ?_
    rw [e, rd_nat, rd_nat]
    clear e
    refine ev_pos (by omega) (ev_pos (by omega) (ev_pos (by omega) (ev_pos (by omega) (ev_pos (by omega) ?_))))
    rw [wrap_succ (by omega)]
    have e2 : X.getD (i * n + j) 0 * v.getD j 0 = fl n X i j * v.getD j 0 := rfl
    rw [e2, wrap_small (x := fl n X i j * v.getD j 0) (by omega) (by omega), wrap_small (by omega) (by omega)]
    exact h
  refine Ev.step (fun k => z101.l0.eq_2 ..) ?_
  exact ev_pos (by omega) (main n 0 (by omega))
 ·refine Ev.step (fun k => z101.l0.eq_2 ..) ?_
  exact ev_neg (by omega) (Ev.now _)
end Go.Proofs.Ytipkciildhghiaa.B

set_option linter.unusedVariables false
set_option linter.unusedSimpArgs false
namespace Go.Proofs.Ytipkciildhghiaa.B
open Go.RowKit Go.Proofs.YtipkciildhghiaaW.PrintWords
open SimT LinT

def sgn (p : Int) (i : Nat) : Int := if i % 2 = 0 then 1 else p - 1
theorem sgnI_val {p : Nat} (hp : p ≤ 251) (i : Nat) : z139.f (i : Int) (p : Int) = some (sgn (p : Int) i) := by
 unfold z139.f sgn
 rw [Int.tmod_eq_emod_of_nonneg (by omega), wrap_small (by omega) (by omega)]
 by_cases h : i % 2 = 0
 ·rw [if_pos h, if_pos (by omega)]
 ·rw [if_neg h, if_neg (by omega)]
theorem sgnS_val {p : Nat} (hp0 : 2 ≤ p) (hp : p ≤ 251) (i : Nat) : z136.f (i : Int) (p : Int) = some (sgn (p : Int) i) := by
 unfold z136.f sgn
 rw [Int.tmod_eq_emod_of_nonneg (by omega), wrap_small (by omega) (by omega)]
 by_cases h : i % 2 = 0
 ·rw [if_pos h, if_pos (by omega), if_neg (by omega), Int.emod_eq_of_lt (by omega) (by omega)]
 ·rw [if_neg h, if_neg (by omega)]
theorem sgn_rng {p : Nat} (hp0 : 2 ≤ p) (i : Nat) : 0 ≤ sgn (p : Int) i ∧ sgn (p : Int) i < (p : Int) := by
 unfold sgn; split <;> omega
def colF (C : List (List Int)) (d : Int) (j : Nat) : List Int := faceIdx C (C.getD ((ofDim C d).getD j 0).toNat [])
def colG (C : List (List Int)) (d p : Int) (n j : Nat) (s : List Int) : List Int :=
 iter (fun i s => s.set (((colF C d j).getD i 0 - (ofDim C (d - 1)).getD 0 0).toNat * n + j) (sgn p i)) 0 (colF C d j).length s
def bCells (C : List (List Int)) (d p : Int) : List Int :=
 iter (colG C d p (ofDim C d).length) 0 (ofDim C d).length (List.replicate ((ofDim C (d - 1)).length * (ofDim C d).length) 0)
def bMat (C : List (List Int)) (d p : Int) : Int × Int × Int × List Int := (p, ((ofDim C (d - 1)).length : Int), ((ofDim C d).length : Int), bCells C d p)
theorem colF_pos {C : List (List Int)} (ho : okC C = true) {d : Int} {a m b n : Nat} (ha : ofDim C (d - 1) = run a m) (hb : ofDim C d = run b n) {j i : Nat} (hj : j < n) (hi : i < (colF C d j).length) : ∃ r, r < m ∧ (colF C d j).getD i 0 = ((a + r : Nat) : Int) := by
 unfold colF at hi ⊢
 rw [hb, run_get hj, Int.toNat_natCast] at hi ⊢
 have hmem : ((b + j : Nat) : Int) ∈ ofDim C d := by rw [hb]; unfold run; exact List.mem_map.2 ⟨j, List.mem_range.2 hj, rfl⟩
 obtain ⟨i0, hi0, hp0, he0⟩ := mem_filt.1 hmem
 have : i0 = b + j := by omega
 subst this
 have hlen := of_decide_eq_true hp0
 have hsC : C.getD (b + j) [] ∈ C := getD_mem [] hi0
 generalize C.getD (b + j) [] = s at hi hlen hsC ⊢
 unfold faceIdx at hi ⊢
 have hi' : i < (faces s).length := by simpa using hi
 have e : ((faces s).map (idx C)).getD i 0 = idx C ((faces s).getD i []) := by
  rw [List.getD_eq_getElem?_getD, List.getElem?_map, List.getD_eq_getElem?_getD, List.getElem?_eq_getElem hi']; rfl
 rw [e]
 have hf : (faces s).getD i [] ∈ faces s := getD_mem [] hi'
 obtain ⟨h1, k, hk, hd⟩ := mem_faces.1 hf
 have hin := (okC_iff.1 ho).2.2.2 s hsC h1 k hk
 obtain ⟨q, hq, hq1, hq2, _⟩ := idx_get hin
 rw [← hd, hq1]
 have hdl : (drp s k).length = s.length - 1 := drp_length hk
 have hqm : ((q : Nat) : Int) ∈ ofDim C (d - 1) := mem_filt.2 ⟨q, hq, decide_eq_true (by rw [hq2, hdl]; omega), rfl⟩
 rw [ha] at hqm
 unfold run at hqm
 obtain ⟨r, hr, h3⟩ := List.mem_map.1 hqm
 exact ⟨r, List.mem_range.1 hr, by omega⟩
theorem colF_len {C : List (List Int)} (ho : okC C = true) (d : Int) (j : Nat) : (colF C d j).length ≤ 4 := by
 unfold colF faceIdx
 rw [List.length_map]
 by_cases h : ((ofDim C d).getD j 0).toNat < C.length
 ·have := (simplex_len ((okC_iff.1 ho).2.2.1 _ (getD_mem [] h))).2
  exact Nat.le_trans (faces_len _) this
 ·rw [List.getD_eq_getElem?_getD, List.getElem?_eq_none (by omega)]
  simp [faces]
theorem colG_inv {C : List (List Int)} {d p : Int} {n j : Nat} {s : List Int} {q : Nat} (hq : 2 ≤ q) (hp : p = (q : Int)) (h : s.length = q ∨ True) (hr : Rng q s) : (colG C d p n j s).length = s.length ∧ Rng q (colG C d p n j s) := by
 have := iter_inv (fun i s => s.set (((colF C d j).getD i 0 - (ofDim C (d - 1)).getD 0 0).toNat * n + j) (sgn p i)) (fun _ t => t.length = s.length ∧ Rng q t) (colF C d j).length 0 s ⟨rfl, hr⟩ (fun i t _ _ ht => ⟨by rw [List.length_set]; exact ht.1, fun z hz => by
  rcases List.mem_or_eq_of_mem_set hz with h1 | h1
  ·exact ht.2 z h1
  ·rw [h1, hp]; exact sgn_rng hq i⟩)
 exact this
theorem bCells_ok (C : List (List Int)) (d : Int) {p : Nat} (hp : 2 ≤ p) : (bCells C d (p : Int)).length = (ofDim C (d - 1)).length * (ofDim C d).length ∧ Rng p (bCells C d (p : Int)) := by
 have := iter_inv (colG C d (p : Int) (ofDim C d).length) (fun _ t => t.length = (ofDim C (d - 1)).length * (ofDim C d).length ∧ Rng p t) (ofDim C d).length 0 (List.replicate ((ofDim C (d - 1)).length * (ofDim C d).length) 0) ⟨by rw [List.length_replicate], fun z hz => by rw [(List.mem_replicate.1 hz).2]; omega⟩ (fun j t _ _ ht => by
  have := colG_inv (C := C) (d := d) (n := (ofDim C d).length) (j := j) hp (p := (p : Int)) rfl (.inr trivial) ht.2
  exact ⟨this.1.trans ht.1, this.2⟩)
 exact this
section
variable {C : List (List Int)} (hl : C.length ≤ 1048576) (hr : ∀ x ∈ C, x.length ≤ 1048576)
include hl hr
theorem implB_ev {p : Nat} (hp : isP p = true) (ho : okC C = true) {d : Int} (h0 : 0 ≤ d) (h3 : d ≤ 4) (hm : (ofDim C (d - 1)).length ≤ 48) (hn : (ofDim C d).length ≤ 48) : Ev (fun k => z96.f k C d (p : Int)) (bMat C d (p : Int)) := by
 have h2 := isP_two hp
 have hs := (okC_iff.1 ho).2.1
 obtain ⟨a, m, ha, ham, _⟩ := ofDim_run hs (d - 1)
 obtain ⟨b, n, hb, hbn, _⟩ := ofDim_run hs d
 have hml : (ofDim C (d - 1)).length = m := by rw [ha, run_len]
 have hnl : (ofDim C d).length = n := by rw [hb, run_len]
 unfold z96.f bMat
 have ew : wrap64 (d - 1) = d - 1 := wrap_small (by omega) (by omega)
 rw [ew]
 clear ew
 refine Ev.bind (simplicesOf_ev hl (by omega) (by omega)) (Ev.bind (simplicesOf_ev hl (by omega) (by omega)) (Ev.bind (ev_const (size_val _)) (Ev.bind (ev_const (size_val _)) (Ev.bind (zero_ev (p : Int) _ _ (by omega) (by omega)) ?_))))
 dsimp only
 have hcol : ∀ (j : Nat) (s : List Int), j < n → s.length = m * n → Le (fun k => z96.l0 k (p : Int) (ofDim C (d - 1)) (ofDim C d) ((ofDim C d).length : Int) (wrap64 ((j : Int) + 1)) C (p : Int) ((ofDim C (d - 1)).length : Int) ((ofDim C d).length : Int) (colG C d (p : Int) n j s))
   (fun k => z96.l1 k (p : Int) (ofDim C (d - 1)) (ofDim C d) (j : Int) ((ofDim C d).length : Int) (j : Int) (colF C d j) ((colF C d j).length : Int) 0 C (p : Int) ((ofDim C (d - 1)).length : Int) ((ofDim C d).length : Int) s) := by
  intro j s hj hsl
  have hcl := colF_len ho d j
  have h := (le_iter_inv (fun (t : List Int) (i : Nat) k => z96.l1 k (p : Int) (ofDim C (d - 1)) (ofDim C d) (j : Int) ((ofDim C d).length : Int) (j : Int) (colF C d j) ((colF C d j).length : Int) (i : Int) C (p : Int) ((ofDim C (d - 1)).length : Int) ((ofDim C d).length : Int) t)
   (fun i s => s.set (((colF C d j).getD i 0 - (ofDim C (d - 1)).getD 0 0).toNat * n + j) (sgn (p : Int) i)) (fun _ t => t.length = m * n) (colF C d j).length 0 s hsl (fun i t _ hi ht => ⟨fun r hr' => ?_, by rw [List.length_set]; exact ht⟩)).1
  ·refine Le.trans (fun r hr' => ?_) h
   refine Ev.step (fun k => z96.l1.eq_2 ..) ?_
   exact ev_neg (by omega) hr'
  ·have hi' : i < (colF C d j).length := by omega
   obtain ⟨r0, hr0, hf⟩ := colF_pos ho ha hb hj hi'
   have hlt : r0 * n + j < m * n := idx_lt hr0 hj
   have hmn : m * n ≤ 48 * 48 := Nat.mul_le_mul (by omega) (by omega)
   have hix := index_run (a := a) (m := m) (by omega) hr0
   rw [← ha, ← hf] at hix
   refine Ev.step (fun k => z96.l1.eq_2 ..) ?_
   refine ev_pos (by omega) (ev_pos (by omega) (ev_pos (by omega) ?_))
   rw [rd_nat]
   refine Ev.bind hix (Ev.bind (ev_const (sgnI_val h2.2 i)) ?_)
   have e1 : wrap64 (wrap64 ((r0 : Int) * ((ofDim C d).length : Int)) + (j : Int)) = ((r0 * n + j : Nat) : Int) := by
    rw [hnl, ← Int.natCast_mul, wrap_small (x := ((r0 * n : Nat) : Int)) (by omega) (by omega), wrap_small (by omega) (by omega)]; omega
   have e2 : (((colF C d j).getD i 0) - (ofDim C (d - 1)).getD 0 0).toNat = r0 := by
    rw [hf, ha, run_get (by omega)]; omega
   rw [e2] at hr'
   rw [e1]
   clear e1 e2 hf hix
   refine ev_pos (by omega) (ev_pos (by omega) ?_)
   rw [wrap_succ (by omega), Int.toNat_natCast]
   exact hr'
 have hall := (le_iter_inv (fun (t : List Int) (j : Nat) k => z96.l0 k (p : Int) (ofDim C (d - 1)) (ofDim C d) ((ofDim C d).length : Int) (j : Int) C (p : Int) ((ofDim C (d - 1)).length : Int) ((ofDim C d).length : Int) t)
  (colG C d (p : Int) n) (fun _ t => t.length = m * n ∧ Rng p t) n 0 (List.replicate (m * n) 0) ⟨by rw [List.length_replicate], fun z hz => by rw [(List.mem_replicate.1 hz).2]; omega⟩ (fun j t _ hj ht => ⟨fun r hr' => ?_, ?_⟩)).1
 ·have h : Ev (fun k => z96.l0 k (p : Int) (ofDim C (d - 1)) (ofDim C d) ((ofDim C d).length : Int) ((0 + n : Nat) : Int) C (p : Int) ((ofDim C (d - 1)).length : Int) ((ofDim C d).length : Int) (iter (colG C d (p : Int) n) 0 n (List.replicate (m * n) 0))) (p, ((ofDim C (d - 1)).length : Int), ((ofDim C d).length : Int), bCells C d (p : Int)) := by
   unfold bCells
   rw [hml, hnl]
   refine Ev.step (fun k => z96.l0.eq_2 ..) ?_
   exact ev_neg (by omega) (Ev.now _)
  have := hall _ h
  rw [hml, hnl] at this ⊢
  exact this
 ·have hj' : j < n := by omega
  have hup : rd (ofDim C d) (j : Int) = ((b + j : Nat) : Int) := by rw [rd_nat, hb, run_get hj']
  have hbC : b + j < C.length := by omega
  have hcF : faceIdx C (C.getD (b + j) []) = colF C d j := by
   unfold colF; rw [hb, run_get hj', Int.toNat_natCast]
  refine Ev.step (fun k => z96.l0.eq_2 ..) ?_
  refine ev_pos (by omega) (ev_pos (by omega) (ev_pos (by omega) ?_))
  rw [hup]
  have hfi := faceIndices_ev hl hr hs hbC
  rw [hcF] at hfi
  refine Ev.bind hfi (hcol j t hj' ht.1 r ?_)
  rw [wrap_succ (by omega)]; exact hr'
 ·have := colG_inv (C := C) (d := d) (n := n) (j := j) h2.1 (p := (p : Int)) rfl (.inr trivial) ht.2
  exact ⟨this.1.trans ht.1, this.2⟩
theorem specB_ev {p : Nat} (hp : isP p = true) (ho : okC C = true) {d : Int} (h0 : 0 ≤ d) (h3 : d ≤ 4) (hm : (ofDim C (d - 1)).length ≤ 48) (hn : (ofDim C d).length ≤ 48) : Ev (fun k => z95.f k C d (p : Int)) (bMat C d (p : Int)) := by
 have h2 := isP_two hp
 have hs := (okC_iff.1 ho).2.1
 obtain ⟨a, m, ha, ham, ham2⟩ := ofDim_run hs (d - 1)
 obtain ⟨b, n, hb, hbn, hbn2⟩ := ofDim_run hs d
 have hml : (ofDim C (d - 1)).length = m := by rw [ha, run_len]
 have hnl : (ofDim C d).length = n := by rw [hb, run_len]
 unfold z95.f bMat
 have ew : wrap64 (d - 1) = d - 1 := wrap_small (by omega) (by omega)
 rw [ew]
 clear ew
 refine Ev.bind (specOf_ev hl (by omega) (by omega)) (Ev.bind (specOf_ev hl (by omega) (by omega)) (Ev.bind (ev_const (zeroS_val (p : Int) _ _ (by omega) (by omega))) ?_))
 dsimp only
 rcases Int.lt_or_le 0 d with hd0 | hd0
 ·have hdec : decide (d > 0) = true := decide_eq_true hd0
  have hcol : ∀ (j : Nat) (s : List Int), j < n → s.length = m * n → Le (fun k => z95.l0 k d (p : Int) (ofDim C d) (ofDim C (d - 1)) (wrap64 ((j : Int) + 1)) C (p : Int) ((ofDim C (d - 1)).length : Int) ((ofDim C d).length : Int) (colG C d (p : Int) n j s))
    (fun k => z95.l1 k d (p : Int) (ofDim C d) (ofDim C (d - 1)) (j : Int) (colF C d j) 0 C (p : Int) ((ofDim C (d - 1)).length : Int) ((ofDim C d).length : Int) s) := by
   intro j s hj hsl
   have hcl := colF_len ho d j
   have h := (le_iter_inv (fun (t : List Int) (i : Nat) k => z95.l1 k d (p : Int) (ofDim C d) (ofDim C (d - 1)) (j : Int) (colF C d j) (i : Int) C (p : Int) ((ofDim C (d - 1)).length : Int) ((ofDim C d).length : Int) t)
    (fun i s => s.set (((colF C d j).getD i 0 - (ofDim C (d - 1)).getD 0 0).toNat * n + j) (sgn (p : Int) i)) (fun _ t => t.length = m * n) (colF C d j).length 0 s hsl (fun i t _ hi ht => ⟨fun r hr' => ?_, by rw [List.length_set]; exact ht⟩)).1
   ·refine Le.trans (fun r hr' => ?_) h
    refine Ev.step (fun k => z95.l1.eq_2 ..) ?_
    exact ev_neg (by omega) hr'
   ·have hi' : i < (colF C d j).length := by omega
    obtain ⟨r0, hr0, hf⟩ := colF_pos ho ha hb hj hi'
    have hlt : r0 * n + j < m * n := idx_lt hr0 hj
    have hmn : m * n ≤ 48 * 48 := Nat.mul_le_mul (by omega) (by omega)
    have e2 : (((colF C d j).getD i 0) - (ofDim C (d - 1)).getD 0 0).toNat = r0 := by
     rw [hf, ha, run_get (by omega)]; omega
    have e1 : wrap64 (wrap64 (wrap64 (rd (colF C d j) (i : Int) - rd (ofDim C (d - 1)) 0) * ((ofDim C d).length : Int)) + (j : Int)) = ((r0 * n + j : Nat) : Int) := by
     have e3 : rd (ofDim C (d - 1)) 0 = (a : Int) := by
      have := rd_nat (ofDim C (d - 1)) 0
      rw [ha, run_get (by omega)] at this
      rw [ha]; simpa using this
     have e4 : wrap64 (((a + r0 : Nat) : Int) - (a : Int)) = (r0 : Int) := by rw [wrap_small (by omega) (by omega)]; omega
     rw [rd_nat, hf, e3, e4, hnl, ← Int.natCast_mul, wrap_small (x := ((r0 * n : Nat) : Int)) (by omega) (by omega), wrap_small (by omega) (by omega)]; omega
    refine Ev.step (fun k => z95.l1.eq_2 ..) ?_
    rw [e2] at hr'
    rw [e1]
    clear e1 e2 hf
    refine ev_pos (by omega) (ev_pos (by omega) (ev_pos (by omega) (Ev.bind (ev_const (sgnS_val h2.1 h2.2 i)) (ev_pos (by omega) (ev_pos (by omega) ?_)))))
    rw [wrap_succ (by omega), Int.toNat_natCast]
    exact hr'
  have hall := (le_iter_inv (fun (t : List Int) (j : Nat) k => z95.l0 k d (p : Int) (ofDim C d) (ofDim C (d - 1)) (j : Int) C (p : Int) ((ofDim C (d - 1)).length : Int) ((ofDim C d).length : Int) t)
   (colG C d (p : Int) n) (fun _ t => t.length = m * n ∧ Rng p t) n 0 (List.replicate (m * n) 0) ⟨by rw [List.length_replicate], fun z hz => by rw [(List.mem_replicate.1 hz).2]; omega⟩ (fun j t _ hj ht => ⟨fun r hr' => ?_, ?_⟩)).1
  ·have h : Ev (fun k => z95.l0 k d (p : Int) (ofDim C d) (ofDim C (d - 1)) ((0 + n : Nat) : Int) C (p : Int) ((ofDim C (d - 1)).length : Int) ((ofDim C d).length : Int) (iter (colG C d (p : Int) n) 0 n (List.replicate (m * n) 0))) (p, ((ofDim C (d - 1)).length : Int), ((ofDim C d).length : Int), bCells C d (p : Int)) := by
    unfold bCells
    rw [hml, hnl]
    refine Ev.step (fun k => z95.l0.eq_2 ..) ?_
    refine ev_neg (by omega) ?_
    refine Ev.step (fun k => z95.j1.eq_2 ..) ?_
    exact ev_neg (by decide) (Ev.now _)
   have := hall _ h
   rw [hml, hnl] at this ⊢
   exact this
  ·have hj' : j < n := by omega
   have hup : rd (ofDim C d) (j : Int) = ((b + j : Nat) : Int) := by rw [rd_nat, hb, run_get hj']
   have hbC : b + j < C.length := by omega
   have hcF : faceIdx C (C.getD (b + j) []) = colF C d j := by
    unfold colF; rw [hb, run_get hj', Int.toNat_natCast]
   have hfi := specFaces_ev hl hr hbC
   rw [hcF] at hfi
   refine Ev.step (fun k => z95.l0.eq_2 ..) ?_
   refine ev_pos (by omega) ?_
   rw [hdec]
   refine Ev.step (fun k => z95.j1.eq_2 ..) ?_
   refine ev_pos rfl (ev_pos (by omega) (ev_pos (by omega) ?_))
   rw [hup]
   refine Ev.bind hfi (hcol j t hj' ht.1 r ?_)
   rw [wrap_succ (by omega)]; exact hr'
  ·have := colG_inv (C := C) (d := d) (n := n) (j := j) h2.1 (p := (p : Int)) rfl (.inr trivial) ht.2
   exact ⟨this.1.trans ht.1, this.2⟩
 ·have hd : d = 0 := by omega
  subst hd
  have hm0 : m = 0 := by
   rcases Nat.eq_zero_or_pos m with h | h
   ·exact h
   ·have h5 := ham2 0 h
    have h6 := (simplex_len ((okC_iff.1 ho).2.2.1 _ (getD_mem [] (show a + 0 < C.length by omega)))).1
    omega
  have hcells : bCells C 0 (p : Int) = List.replicate ((ofDim C (0 - 1)).length * (ofDim C 0).length) 0 := by
   have := (bCells_ok C 0 h2.1).1
   rw [hml, hm0, Nat.zero_mul] at this ⊢
   exact List.eq_nil_of_length_eq_zero this
  rw [hcells]
  refine Ev.step (fun k => z95.l0.eq_2 ..) ?_
  have hdec : decide ((0 : Int) > 0) = false := by decide
  rw [hdec]
  have hj : Ev (fun k => z95.j1 k 0 (p : Int) (ofDim C 0) (ofDim C (0 - 1)) 0 false C (p : Int) ((ofDim C (0 - 1)).length : Int) ((ofDim C 0).length : Int) (List.replicate ((ofDim C (0 - 1)).length * (ofDim C 0).length) 0)) (p, ((ofDim C (0 - 1)).length : Int), ((ofDim C 0).length : Int), List.replicate ((ofDim C (0 - 1)).length * (ofDim C 0).length) 0) := by
   refine Ev.step (fun k => z95.j1.eq_2 ..) ?_
   exact ev_neg (by decide) (Ev.now _)
  by_cases h : (0 : Int) < ((ofDim C 0).length : Int)
  ·exact ev_pos h hj
  ·exact ev_neg h hj
end
end Go.Proofs.Ytipkciildhghiaa.B

set_option linter.unusedVariables false
set_option linter.unusedSimpArgs false
namespace Go.Proofs.Ytipkciildhghiaa.B
open Go.RowKit Go.Proofs.YtipkciildhghiaaW.PrintWords
open LinT

def vecC (l : List Int) (n p : Int) : Bool := decide ((l.length : Int) = n) && l.all fun y => decide (0 ≤ y) && decide (y ≤ p - 1)
theorem vecC_iff {l : List Int} {n p : Nat} : vecC l (n : Int) (p : Int) = true ↔ l.length = n ∧ Rng p l := by
 unfold vecC Rng
 rw [Bool.and_eq_true, decide_eq_true_iff, List.all_eq_true]
 constructor
 ·rintro ⟨h1, h2⟩
  refine ⟨by omega, fun y hy => ?_⟩
  have := h2 y hy
  rw [Bool.and_eq_true, decide_eq_true_iff, decide_eq_true_iff] at this
  omega
 ·rintro ⟨h1, h2⟩
  refine ⟨by omega, fun y hy => ?_⟩
  have := h2 y hy
  rw [Bool.and_eq_true, decide_eq_true_iff, decide_eq_true_iff]
  omega
theorem notElement_ev {p : Nat} (hp : p ≤ 251) (a : Int) : Ev (fun k => z204.f a (p : Int)) (!(decide (0 ≤ a) && decide (a ≤ (p : Int) - 1))) := by
 unfold z204.f z205.f
 rw [wrap_small (by omega) (by omega)]
 exact Ev.bind (a := decide (0 ≤ a) && decide (a ≤ (p : Int) - 1)) (Ev.bind (ev_const (within_val _ _ _)) (Ev.now _)) (Ev.now _)
theorem anyElement_ev {p : Nat} (hq : p ≤ 251) (l : List Int) (hl : l.length ≤ 1048576) : Ev (fun k => z251.f k l (p : Int)) (l.any fun a => !(decide (0 ≤ a) && decide (a ≤ (p : Int) - 1))) := by
 obtain ⟨t, ht, hd⟩ := ev_index_list (l) 0 (fun i k => z252.l0 k (l) ((l).length : Int) (i : Int) (p : Int)) (fun a => !(decide (0 ≤ a) && decide (a ≤ (p : Int) - 1))) (fun j hj hp r hr => by
   refine Ev.step (fun k => z252.l0.eq_2 ..) ?_
   refine ev_pos (by omega) (ev_pos (by omega) (ev_pos (by omega) ?_))
   rw [rd_nat, wrap_succ (by omega)]
   exact Ev.bind (notElement_ev hq _) (ev_neg (by rw [hp]; decide) hr)) (fun j hj hp => by
   refine Ev.step (fun k => z252.l0.eq_2 ..) ?_
   refine ev_pos (by omega) (ev_pos (by omega) (ev_pos (by omega) ?_))
   rw [rd_nat]
   exact Ev.bind (notElement_ev hq _) (ev_pos hp (Ev.now _))) (by
   refine Ev.step (fun k => z252.l0.eq_2 ..) ?_
   exact ev_neg (by omega) (Ev.now _))
 unfold z251.f z252.f
 refine Ev.bind ht (ev_eq (Ev.now _) hd)
theorem areElements_ev {p : Nat} (hp : p ≤ 251) (l : List Int) (hl : l.length ≤ 1048576) : Ev (fun k => z198.f k l (p : Int)) (l.all fun y => decide (0 ≤ y) && decide (y ≤ (p : Int) - 1)) := by
 unfold z198.f
 refine Ev.bind (anyElement_ev hp l hl) (ev_eq (Ev.now _) ?_)
 rw [List.any_eq_not_all_not]; simp
theorem isVector_ev {p : Nat} (hp : p ≤ 251) (l : List Int) (n : Int) (hl : l.length ≤ 1048576) : Ev (fun k => z174.f k l n (p : Int)) (vecC l n (p : Int)) := by
 unfold z174.f vecC
 refine Ev.bind (ev_const (r := (l.length : Int)) rfl) ?_
 by_cases h : (l.length : Int) = n
 ·refine ev_pos h (Ev.bind (areElements_ev hp l hl) (ev_eq (Ev.now _) ?_))
  rw [decide_eq_true h, Bool.true_and]
 ·refine ev_eq (ev_neg h (Ev.now _)) ?_
  rw [decide_eq_false h, Bool.false_and]
theorem column_ev {p : Nat} (hp : p ≤ 251) (l : List Int) (n : Int) (hl : l.length ≤ 1048576) : Ev (fun k => z140.f k l n (p : Int)) (vecC l n (p : Int)) := by
 unfold z140.f vecC
 rw [Bool.and_comm, ← all_range l 0]
 have hw : wrap64 ((p : Int) - 1) = (p : Int) - 1 := wrap_small (by omega) (by omega)
 refine ev_all_then (fun (i : Nat) k => z140.l0 k l n (p : Int) (i : Int)) (fun i => decide (0 ≤ l.getD i 0) && decide (l.getD i 0 ≤ (p : Int) - 1)) (decide ((l.length : Int) = n)) l.length (fun j hj _ hp' r hr => ?_) (fun j hj _ hp' => ?_) (fun _ => ?_)
 ·refine Ev.step (fun k => z140.l0.eq_2 ..) ?_
  rw [hw, rd_nat]
  clear hw
  refine ev_pos (by omega) (ev_pos (by omega) (Ev.bind (ev_const (in_val _ _ _)) (ev_pos hp' ?_)))
  rw [wrap_succ (by omega)]; exact hr
 ·refine Ev.step (fun k => z140.l0.eq_2 ..) ?_
  rw [hw, rd_nat]
  clear hw
  exact ev_pos (by omega) (ev_pos (by omega) (Ev.bind (ev_const (in_val _ _ _)) (ev_neg (by rw [hp']; decide) (Ev.now _))))
 ·refine Ev.step (fun k => z140.l0.eq_2 ..) ?_
  exact ev_eq (ev_neg (by omega) (Ev.now _)) (by rw [Bool.beq_eq_decide_eq])
end Go.Proofs.Ytipkciildhghiaa.B

set_option linter.unusedVariables false
set_option linter.unusedSimpArgs false
namespace Go.Proofs.Ytipkciildhghiaa.B
open Go.RowKit Go.Proofs.YtipkciildhghiaaW.PrintWords
open SimT LinT

def askV (C : List (List Int)) (d p : Int) (ch : List Int) : Int := if askD C d p = 0 then (if vecC ch ((ofDim C d).length : Int) p = true then 0 else 7) else askD C d p
section
variable {C : List (List Int)} (hl : C.length ≤ 1048576) (hr : ∀ x ∈ C, x.length ≤ 1048576)
include hl hr
theorem withChain_ev (d p : Int) (ch : List Int) (hc : ch.length ≤ 1048576) : Ev (fun k => z99.f k C d p ch) (askV C d p ch) := by
 unfold z99.f askV
 refine Ev.bind (chained_ev hl hr d p) ?_
 by_cases hz : askD C d p = 0
 ·obtain ⟨ho, hpp, h0, h3, _⟩ := askD_zero hz
  obtain ⟨n, rfl, hp1⟩ := okP_iff.1 hpp
  refine ev_eq (ev_pos hz ?_) (if_pos hz).symm
  unfold z142.f
  refine Ev.bind (a := vecC ch ((ofDim C d).length : Int) (n : Int)) (Ev.bind (simplicesOf_ev hl (by omega) (by omega)) (Ev.bind (ev_const (size_val _)) (Ev.bind (isVector_ev (isP_two hp1).2 ch _ hc) (Ev.now _)))) ?_
  cases hv : vecC ch ((ofDim C d).length : Int) (n : Int) with
  | true => exact ev_pos rfl (Ev.now _)
  | false => exact ev_neg (by decide) (Ev.now _)
 ·exact ev_eq (ev_neg hz (Ev.now _)) (if_neg hz).symm
theorem specChain_ev (d p : Int) (ch : List Int) (hc : ch.length ≤ 1048576) : Ev (fun k => z97.f k C d p ch) (askV C d p ch) := by
 unfold z97.f askV
 refine Ev.bind (specAsk7_ev hl hr d p) ?_
 by_cases hz : askD C d p = 0
 ·obtain ⟨ho, hpp, h0, h3, _⟩ := askD_zero hz
  obtain ⟨n, rfl, hp1⟩ := okP_iff.1 hpp
  refine ev_eq (ev_pos hz ?_) (if_pos hz).symm
  refine Ev.bind (specOf_ev hl (by omega) (by omega)) (Ev.bind (column_ev (isP_two hp1).2 ch _ hc) ?_)
  cases hv : vecC ch ((ofDim C d).length : Int) (n : Int) with
  | true => exact ev_pos rfl (Ev.now _)
  | false => exact ev_neg (by decide) (Ev.now _)
 ·exact ev_eq (ev_neg hz (Ev.now _)) (if_neg hz).symm
end
theorem askV_zero {C : List (List Int)} {d p : Int} {ch : List Int} (h : askV C d p ch = 0) : okC C = true ∧ 0 ≤ d ∧ d ≤ 3 ∧ (ofDim C (d - 1)).length ≤ 32 ∧ (ofDim C d).length ≤ 32 ∧ (ofDim C (d + 1)).length ≤ 32 ∧ ∃ q : Nat, p = (q : Int) ∧ isP q = true ∧ ch.length = (ofDim C d).length ∧ Rng q ch := by
 unfold askV at h
 by_cases hz : askD C d p = 0
 ·rw [if_pos hz] at h
  obtain ⟨ho, hpp, h0, h3, h4, h5, h6⟩ := askD_zero hz
  obtain ⟨n, rfl, hp1⟩ := okP_iff.1 hpp
  by_cases hv : vecC ch ((ofDim C d).length : Int) (n : Int) = true
  ·obtain ⟨e1, e2⟩ := vecC_iff.1 hv
   exact ⟨ho, h0, h3, h4, h5, h6, n, rfl, hp1, e1, e2⟩
  ·rw [if_neg hv] at h; omega
 ·rw [if_neg hz] at h; exact absurd h hz
end Go.Proofs.Ytipkciildhghiaa.B

set_option linter.unusedVariables false
set_option linter.unusedSimpArgs false
namespace Go.Proofs.Ytipkciildhghiaa.B
open Go.RowKit Go.Proofs.YtipkciildhghiaaW.PrintWords
open SimT LinT

def bndOf (C : List (List Int)) (d p : Int) (ch : List Int) : List Int × Int := if askV C d p ch = 0 then (mulV p.toNat (ofDim C (d - 1)).length (ofDim C d).length (bCells C d p) ch, 0) else ([], askV C d p ch)
section
variable {C : List (List Int)} (hl : C.length ≤ 1048576) (hr : ∀ x ∈ C, x.length ≤ 1048576)
include hl hr
theorem impl_BoundaryOf_ev (d p : Int) (ch : List Int) (hc : ch.length ≤ 1048576) : Ev (fun k => z48.f k C d p ch) (bndOf C d p ch) := by
 unfold z48.f bndOf
 refine Ev.bind (withChain_ev hl hr d p ch hc) ?_
 by_cases hz : askV C d p ch = 0
 ·obtain ⟨ho, h0, h3, h4, h5, h6, q, rfl, hq, hlen, hrng⟩ := askV_zero hz
  have h2 := isP_two hq
  have hb := bCells_ok C d h2.1
  exact ev_eq (ev_pos hz (Ev.bind (implB_ev hl hr hq ho h0 (by omega) (by omega) (by omega)) (Ev.bind (apply_ev h2.1 h2.2 hb.1 hb.2 hlen hrng (by omega) (by omega)) (Ev.now _)))) (if_pos hz).symm
 ·exact ev_eq (ev_neg hz (Ev.now _)) (if_neg hz).symm
theorem spec_BoundaryOf_ev (d p : Int) (ch : List Int) (hc : ch.length ≤ 1048576) : Ev (fun k => z47.f k C d p ch) (bndOf C d p ch) := by
 unfold z47.f bndOf
 refine Ev.bind (specChain_ev hl hr d p ch hc) ?_
 by_cases hz : askV C d p ch = 0
 ·obtain ⟨ho, h0, h3, h4, h5, h6, q, rfl, hq, hlen, hrng⟩ := askV_zero hz
  have h2 := isP_two hq
  have hb := bCells_ok C d h2.1
  exact ev_eq (ev_pos hz (Ev.bind (specB_ev hl hr hq ho h0 (by omega) (by omega) (by omega)) (Ev.bind (applyS_ev h2.1 h2.2 hb.1 hb.2 hlen hrng (by omega) (by omega)) (Ev.now _)))) (if_pos hz).symm
 ·exact ev_eq (ev_neg hz (Ev.now _)) (if_neg hz).symm
end
theorem bndOf_small {C : List (List Int)} (d p : Int) (ch : List Int) : (bndOf C d p ch).1.length ≤ 1048576 := by
 unfold bndOf
 split
 ·rename_i hz
  obtain ⟨ho, h0, h3, h4, h5, h6, q, rfl, hq, hlen, hrng⟩ := askV_zero hz
  show (mulV _ _ _ _ _).length ≤ 1048576
  simp [mulV]; omega
 ·simp
theorem pure_BoundaryOf {l0 : List (List Int)} {a1 a2 : Int} {l3 : List Int} (h0 : WfLL l0) (h1 : Wf a1) (h2 : Wf a2) (h3 : WfL l3) : ∃ k, z11.f k l0 a1 a2 l3 = some true := by
 refine Ev.rounds (g := fun k => z11.f k l0 a1 a2 l3) ?_
 unfold z11.f
 by_cases hbig : (l3.length : Int) > 1048576
 ·exact ev_pos hbig (Ev.now _)
 refine ev_neg hbig ?_
 rcases szComplex_ev l0 1048576 h0 (by omega) (by omega) with ⟨t, ht, hn⟩ | ⟨ht, hb⟩
 ·exact Ev.bind ht (ev_pos hn (Ev.now _))
 have htn := total_nonneg l0
 have hrow : ∀ x ∈ l0, x.length ≤ 1048576 := fun x hx => by have := row_le_total l0 x hx; omega
 have hlen : l0.length ≤ 1048576 := by omega
 have hto := toComplex_ev l0 hlen hrow
 have heq := eqComplex_self l0 (by omega) (fun x hx => by have := hrow x hx; omega)
 refine Ev.bind ht (ev_neg (by omega) ?_)
 have hto1 := toInt64S_ev l3 (by omega)
 have heq1 := eqInt64S_self l3 (by omega)
 have hsp := spec_BoundaryOf_ev hlen hrow a1 a2 l3 (by omega)
 have him := impl_BoundaryOf_ev hlen hrow a1 a2 l3 (by omega)
 have hs := bndOf_small (C := l0) a1 a2 l3
 generalize bndOf l0 a1 a2 l3 = g at hsp him hs
 obtain ⟨g0, g1⟩ := g
 dsimp only at hs
 have heg := eqInt64S_self g0 (by omega)
 have hm1 : laws_markComplex.f l0 1 = some (1 + total l0, markRows l0 1) := mark_val l0 1 (by omega) (by omega)
 have hm3 := markInt64S_mark l3 (1 + total l0) (by omega) (by omega)
 have hm2 := markInt64S_mark g0 1 (by omega) (by omega)
 have hh := heldInt64S_ev g0 1 (by omega) (by omega)
 (repeat (first | exact Ev.now _ | refine ev_pos rfl ?_ | refine ev_neg (by simp only []; omega) ?_ | refine ev_neg (by omega) ?_ | refine ev_neg (by simp) ?_ | refine Ev.bind (by assumption) ?_ | refine Ev.bind (ev_const (by assumption)) ?_))
end Go.Proofs.Ytipkciildhghiaa.B

