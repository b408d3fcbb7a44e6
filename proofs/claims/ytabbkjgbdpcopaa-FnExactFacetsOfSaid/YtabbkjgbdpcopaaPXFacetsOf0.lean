/- What the functions come to, for the law FnExactFacetsOf. -/
import Derived.Test.YtabbkjgbdpcopaaKBGLIOL0
import Derived.Test.YtabbkjgbdpcopaaKBNPELE0
import Derived.Test.YtabbkjgbdpcopaaKCJDHKE0
import Derived.Test.YtabbkjgbdpcopaaKDLMKCM0
import Derived.Test.YtabbkjgbdpcopaaKDONDCM0
import Derived.Test.YtabbkjgbdpcopaaKFCPBCF0
import Derived.Test.YtabbkjgbdpcopaaKFKCKPI0
import Derived.Test.YtabbkjgbdpcopaaKGAPEBP0
import Derived.Test.YtabbkjgbdpcopaaKGBKHKF0
import Derived.Test.YtabbkjgbdpcopaaKGJDIPK0
import Derived.Test.YtabbkjgbdpcopaaKHCBANI0
import Derived.Test.YtabbkjgbdpcopaaKHHIGGO0
import Derived.Test.YtabbkjgbdpcopaaKJICEKK0
import Derived.Test.YtabbkjgbdpcopaaKLKCCKJ0
import Derived.Test.YtabbkjgbdpcopaaKNFLHKB0
import Derived.Test.YtabbkjgbdpcopaaKW0
import Derived.Below
import Derived.ChangeOld
import Derived.Deep.Matrix
import Derived.Lib.SmallJoins
import Derived.OpenShut
import Derived.ProofKit
import Derived.ShutString
import Derived.SizedLaws
import Derived.WalkKit
set_option linter.unusedVariables false
set_option linter.unusedSimpArgs false
namespace Go.Proofs.Ytabbkjgbdpcopaa.B
open Go.RowKit Go.ChangeShapes Go.WideShapes Go.Deep Go.Proofs.YtabbkjgbdpcopaaW.PrintWords

def Wf (n : Int) : Prop := -9223372036854775808 ≤ n ∧ n ≤ 9223372036854775807
def WfL (l : List Int) : Prop := l.length ≤ 9223372036854775807 ∧ ∀ n ∈ l, Wf n
def WfLL (l : List (List Int)) : Prop := l.length ≤ 9223372036854775807 ∧ ∀ r ∈ l, WfL r
theorem wf_of {n : Int} (h : (Lit.int .i64 n).wf = true) : Wf n := by
 unfold Wf
 simp [Lit.wf, IntKind.min, IntKind.max, IntKind.bits, IntKind.signed] at h
 omega

section
variable {H : Type} {enc : TypeId × Value → H} {P : Program} {w : World} {base : Nat} {held : Bool} {fuel : Nat}
theorem opened_int {t : TypeId} {v : Value} {x : DataW H × List MemPlace} (ht : P.underlying t = some (.int .i64)) (h : DataW.trod enc P w base (fun _ => true) held fuel t [v] = some x) : ∃ n, v = .int .i64 n ∧ Wf n := by
 obtain ⟨n, he, _, hw⟩ := DataW.trod_int ht h
 exact ⟨n, by simpa using he, wf_of hw⟩
theorem opened_ints {t e : TypeId} {v : Value} {x : DataW H × List MemPlace} (ht : P.underlying t = some (.slice e)) (he : P.underlying e = some (.int .i64)) (hc : P.cellsOf e = 1) (h : DataW.trod enc P w base (fun _ => true) held fuel t [v] = some x) :
  ∃ A l c, v = .slice A l.length c ∧ (Kd.int .i64).C w A l.length l ∧ l.length ≤ c ∧ WfL l := by
 rcases open_ints ht he hc h with ⟨hcs, _⟩ | ⟨a, l, c, zs, hcs, _, hl, hm, hz, _, hcell, hwz⟩
 ·refine ⟨none, [], 0, by simpa using hcs, ⟨rfl, by simp, fun h => by simp at h⟩, by simp, by simp [WfL]⟩
 ·simp only [if_true] at hz
  have hlen : (zs.take l).length = l := by rw [List.length_take]; omega
  refine ⟨some a, zs.take l, c, by rw [hlen]; simpa using hcs, ⟨rfl, by rw [hlen]; simp only [maxLen] at hm; omega, fun _ => ⟨a, rfl, fun j p hj => ?_⟩⟩, by omega, ?_, fun n hn => wf_of (hwz n (List.mem_of_mem_take hn))⟩
  ·have hjl : j < l := by have := (List.getElem?_eq_some_iff.1 hj).1; omega
   refine ⟨[.int .i64 p], rfl, rfl, fun i u hu => ?_⟩
   cases i with
   | zero =>
    simp only [List.getElem?_cons_zero, Option.some.injEq] at hu
    subst hu
    rw [Nat.add_zero, show j * (Kd.int .i64).sz = j from Nat.mul_one j, hcell j (by omega)]
    rw [List.getElem?_take, if_pos hjl] at hj
    rw [List.getD_eq_getElem?_getD, hj]; rfl
   | succ i => simp at hu
  ·rw [hlen]; simp only [maxLen] at hm; omega
theorem opened_rows {t e q : TypeId} {v : Value} {x : DataW H × List MemPlace} (ht : P.underlying t = some (.slice e)) (he : P.underlying e = some (.slice q)) (hq : P.underlying q = some (.int .i64)) (ce : P.cellsOf e = 1) (cq : P.cellsOf q = 1) (h : DataW.trod enc P w base (fun _ => true) held fuel t [v] = some x) :
  ∃ A l c, v = .slice A l.length c ∧ (Kd.slice 2 (Kd.int .i64)).C w A l.length l ∧ l.length ≤ c ∧ WfLL l := by
 rcases open_slice1 ht ce h with ⟨hcs, _⟩ | ⟨a, l, c, m, n, V, D, Pl, hcs, _, hl, hm, hmm, _, hx⟩
 ·refine ⟨none, [], 0, by simpa using hcs, ⟨rfl, by simp, fun h => by simp at h⟩, by simp, by simp [WfLL]⟩
 ·simp only [if_true] at hmm
  subst hmm
  have each : ∀ r, r < m → ∃ y : Option Addr × List Int × Nat, V r = .slice y.1 y.2.1.length y.2.2 ∧ (Kd.int .i64).C w y.1 y.2.1.length y.2.1 ∧ y.2.1.length ≤ y.2.2 ∧ WfL y.2.1 := by
   intro r hr
   obtain ⟨A, l, c, h1, h2, h3, h4⟩ := opened_ints he hq cq (hx r hr).2
   exact ⟨(A, l, c), h1, h2, h3, h4⟩
  obtain ⟨y, hy⟩ := choose_lt each
  have hlen : ((List.range l).map fun r => (y r).2.1).length = l := by simp
  refine ⟨some a, (List.range l).map fun r => (y r).2.1, m, by rw [hlen]; simpa using hcs, ⟨rfl, by rw [hlen]; simp only [maxLen] at hm; omega, fun _ => ⟨a, rfl, fun j p hj => ?_⟩⟩, by omega, ?_, ?_⟩
  ·have hjl : j < l := by have := (List.getElem?_eq_some_iff.1 hj).1; omega
   rw [List.getElem?_map, List.getElem?_range hjl] at hj
   simp only [Option.map_some, Option.some.injEq] at hj
   subst hj
   obtain ⟨h1, h2, h3, h4⟩ := hy j (by omega)
   refine ⟨[.slice (y j).1 (y j).2.1.length (y j).2.2], rfl, ⟨_, _, rfl, h3, h2⟩, fun i u hu => ?_⟩
   cases i with
   | zero =>
    simp only [List.getElem?_cons_zero, Option.some.injEq] at hu
    subst hu
    rw [Nat.add_zero, show j * (Kd.slice 2 (Kd.int .i64)).sz = j from Nat.mul_one j, (hx j (by omega)).1, h1]
   | succ i => simp at hu
  ·rw [hlen]; simp only [maxLen] at hm; omega
  ·intro r hr
   simp only [List.mem_map, List.mem_range] at hr
   obtain ⟨j, hj, rfl⟩ := hr
   exact (hy j (by omega)).2.2.2

theorem open_agg1 {r : Reach} {b0 : Nat} {t : TypeId} {f0 : Field} {v : Value} {d : DataW H} {p : List MemPlace} (hs : P.underlying t = some (.struct #[f0])) (hone : oneCellFields P #[f0] = true) (hC : P.cellsOf t = 1)
  (hv : Value.okWide P w r b0 t v) (h : DataW.Trod enc P w base (fun _ => true) held t v d p) :
  ∃ (v0 : Value) (y0 : DataW H × List MemPlace) (n : Nat), v = .agg #[v0] ∧ DataW.trod enc P w base (fun _ => true) held n f0.type [v0] = some y0 := by
 obtain ⟨cs, rfl, hsz⟩ := okWide_struct hs hv
 obtain ⟨c0, rfl⟩ : ∃ c0, cs = #[c0] := by
  have h1 : cs.size = 1 := hsz.trans hC
  match cs, h1 with | ⟨[c0]⟩, _ => exact ⟨c0, rfl⟩
 obtain ⟨fuel, hf⟩ := h
 obtain ⟨y0, n, hx, _, h0⟩ := trod_struct1 hs hf
 obtain ⟨o0, k0⟩ := hone_of hone 0 f0 rfl
 exact ⟨c0, y0, n, rfl, by simpa [Value.cells, o0, k0] using h0⟩
end
theorem own : ownKnob Try.prog.godebug = none := by kernel_rfl
theorem laidOut : laidOutB Try.prog = true := by kernel_rfl
end Go.Proofs.Ytabbkjgbdpcopaa.B

set_option linter.unusedVariables false
set_option linter.unusedSimpArgs false
namespace Go.Proofs.Ytabbkjgbdpcopaa.B
open Go.RowKit Go.Proofs.YtabbkjgbdpcopaaW.PrintWords

theorem szInt64S_val (l : List Int) (a : Int) (h0 : 0 ≤ a) (h1 : a ≤ 9223372036854775807) (hl : l.length ≤ 9223372036854775807) : z92.f l a = some (if a - l.length < 0 then -1 else a - l.length) := by
 unfold z92.f
 have e : wrap64 (a - (l.length : Int)) = a - l.length := wrap_small (by omega) (by omega)
 rw [e]
 split <;> rfl
theorem szInt64SS_ev (l : List (List Int)) (a : Int) (hw : WfLL l) (h0 : 0 ≤ a) (h1 : a ≤ 9223372036854775807) :
  (∃ t, Ev (fun k => z53.f k l a) t ∧ t < 0) ∨ (Ev (fun k => z53.f k l a) (a - l.length - total l) ∧ l.length + total l ≤ a) := by
 have loop : ∀ (d i : Nat) (b : Int), d + i = l.length → 0 ≤ b → b ≤ 9223372036854775807 → (∃ t, Ev (fun k => z53.l0 k l b (i : Int)) t ∧ t < 0) ∨ (Ev (fun k => z53.l0 k l b (i : Int)) (b - total (l.drop i)) ∧ total (l.drop i) ≤ b) := by
  intro d
  induction d with
  | zero =>
   intro i b hd hb0 hb1
   right
   have hi : l.length = i := by omega
   rw [List.drop_of_length_le (by omega)]
   refine ⟨Ev.step (fun k => z53.l0.eq_2 ..) (ev_neg (by omega) (ev_eq (Ev.now b) (by simp [total]))), by simpa [total] using hb0⟩
  | succ d ih =>
   intro i b hd hb0 hb1
   have hi : i < l.length := by omega
   have hdr : l.drop i = l.getD i [] :: l.drop (i + 1) := by
    rw [List.drop_eq_getElem_cons hi, List.getD_eq_getElem?_getD, List.getElem?_eq_getElem hi]; rfl
   have hm : l.getD i [] ∈ l := by
    rw [List.getD_eq_getElem?_getD, List.getElem?_eq_getElem hi]; exact List.getElem_mem hi
   have hrl := (hw.2 _ hm).1
   have hv := szInt64S_val (l.getD i []) b hb0 hb1 hrl
   have hrd : rd_ListInt l (i : Int) = l.getD i [] := by simp [rd_ListInt]
   have hlen : l.length ≤ 9223372036854775807 := hw.1
   by_cases hneg : b - ((l.getD i []).length : Int) < 0
   ·left
    rw [if_pos hneg] at hv
    refine ⟨-1, Ev.step (fun k => z53.l0.eq_2 ..) (ev_pos (by omega) (ev_pos (by omega) ?_)), by omega⟩
    rw [hrd]
    exact Ev.bind (ev_const hv) (ev_pos (by omega) (Ev.now _))
   ·rw [if_neg hneg] at hv
    rcases ih (i + 1) (b - ((l.getD i []).length : Int)) (by omega) (by omega) (by omega) with ⟨t, ht, htn⟩ | ⟨ht, htb⟩
    ·left
     refine ⟨t, Ev.step (fun k => z53.l0.eq_2 ..) (ev_pos (by omega) (ev_pos (by omega) ?_)), htn⟩
     rw [hrd, wrap_succ (by omega)]
     exact Ev.bind (ev_const hv) (ev_neg (by omega) ht)
    ·right
     rw [hdr]
     simp only [total]
     refine ⟨Ev.step (fun k => z53.l0.eq_2 ..) (ev_pos (by omega) (ev_pos (by omega) ?_)), by omega⟩
     rw [hrd, wrap_succ (by omega)]
     exact Ev.bind (ev_const hv) (ev_neg (by omega) (ev_eq ht (by omega)))
 have hlen : l.length ≤ 9223372036854775807 := hw.1
 have e : wrap64 (a - (l.length : Int)) = a - l.length := wrap_small (by omega) (by omega)
 by_cases hneg : a - (l.length : Int) < 0
 ·left
  refine ⟨-1, ?_, by omega⟩
  unfold z53.f
  rw [e]
  exact ev_pos hneg (Ev.now _)
 ·rcases loop l.length 0 (a - l.length) (by omega) (by omega) (by omega) with ⟨t, ht, htn⟩ | ⟨ht, htb⟩
  ·left
   refine ⟨t, ?_, htn⟩
   unfold z53.f
   rw [e]
   exact ev_neg hneg ht
  ·right
   refine ⟨?_, by simp only [List.drop_zero] at htb; omega⟩
   unfold z53.f
   rw [e]
   exact ev_neg hneg ht

theorem toInt64S_ev (l : List Int) (hl : l.length ≤ 1048576) : Ev (fun k => z16.f k l) l := by
 have h := le_iter_inv (fun (s : List Int) (i : Nat) k => z16.l0 k l s (i : Int)) (fun i s => s.set i (l.getD i 0)) (fun i s => s = l.take i ++ List.replicate (l.length - i) 0) l.length 0 (List.replicate l.length 0) (by simp) (by
  intro j s _ hj hs
  refine ⟨fun r hr => Ev.step (fun k => z16.l0.eq_2 ..) (ev_pos (by omega) (ev_pos (by omega) (ev_pos ?_ ?_))), ?_⟩
  ·subst hs; simp only [List.length_append, List.length_take, List.length_replicate]; omega
  ·rw [wrap_succ (by omega), rd_nat, Int.toNat_natCast]; exact hr
  ·subst hs; exact set_prefix l j 0 (by omega) _ rfl)
 unfold z16.f
 refine ev_pos (by omega) (ev_pos (by omega) ?_)
 rw [Int.toNat_natCast]
 refine h.1 l (Ev.step (fun k => z16.l0.eq_2 ..) (ev_neg (by omega) (ev_eq (Ev.now _) ?_)))
 rw [h.2]
 simp
theorem toInt64SS_ev (l : List (List Int)) (hl : l.length ≤ 1048576) (hr : ∀ x ∈ l, x.length ≤ 1048576) : Ev (fun k => z55.f k l) l := by
 have h := le_iter_inv (fun (s : List (List Int)) (i : Nat) k => z55.l0 k l s (i : Int)) (fun i s => s.set i (l.getD i [])) (fun i s => s = l.take i ++ List.replicate (l.length - i) []) l.length 0 (List.replicate l.length []) (by simp) (by
  intro j s _ hj hs
  have hm : l.getD j [] ∈ l := by
   rw [List.getD_eq_getElem?_getD, List.getElem?_eq_getElem (by omega)]; exact List.getElem_mem _
  have hrd : rd_ListInt l (j : Int) = l.getD j [] := by simp [rd_ListInt]
  refine ⟨fun r hr' => Ev.step (fun k => z55.l0.eq_2 ..) (ev_pos (by omega) (ev_pos (by omega) ?_)), ?_⟩
  ·rw [hrd]
   refine Ev.bind (toInt64S_ev _ (hr _ hm)) (ev_pos ?_ ?_)
   ·subst hs; simp only [List.length_append, List.length_take, List.length_replicate]; omega
   ·rw [wrap_succ (by omega), Int.toNat_natCast]; exact hr'
  ·subst hs; exact set_prefix l j [] (by omega) _ rfl)
 unfold z55.f
 refine ev_pos (by omega) (ev_pos (by omega) ?_)
 rw [Int.toNat_natCast]
 refine h.1 l (Ev.step (fun k => z55.l0.eq_2 ..) (ev_neg (by omega) (ev_eq (Ev.now _) ?_)))
 rw [h.2]
 simp

theorem list_eq_range {α : Type} [BEq α] [LawfulBEq α] (l m : List α) (z : α) (h : l.length = m.length) : (List.range l.length).all (fun i => l.getD i z == m.getD i z) = (l == m) := by
 rw [Bool.eq_iff_iff, List.all_eq_true, beq_iff_eq]
 constructor
 ·intro e
  apply List.ext_getElem h
  intro i h1 h2
  have := e i (List.mem_range.2 h1)
  simpa [List.getD_eq_getElem?_getD, List.getElem?_eq_getElem h1, List.getElem?_eq_getElem h2] using this
 ·rintro rfl i _
  exact beq_self_eq_true _
theorem len_ne_beq {α : Type} [BEq α] [LawfulBEq α] {l m : List α} (h : l.length ≠ m.length) : (l == m) = false := by
 rw [Bool.eq_false_iff]; intro e; exact h (by rw [eq_of_beq e])
theorem eqInt64S_ev (l m : List Int) (hl : l.length < 9223372036854775807) : Ev (fun k => z18.f k l m) (l == m) := by
 unfold z18.f
 by_cases h : l.length = m.length
 ·refine ev_pos (by omega) ?_
  rw [← list_eq_range l m 0 h]
  refine ev_all (fun (i : Nat) k => z18.l0 k l m (i : Int)) _ l.length (fun j hj hp r hr => ?_) (fun j hj hp => ?_) ?_
  ·refine Ev.step (fun k => z18.l0.eq_2 ..) (ev_pos (by omega) (ev_pos (by omega) (ev_pos (by omega) (ev_pos ?_ ?_))))
   ·rw [rd_nat, rd_nat]; exact eq_of_beq hp
   ·rw [wrap_succ (by omega)]; exact hr
  ·refine Ev.step (fun k => z18.l0.eq_2 ..) (ev_pos (by omega) (ev_pos (by omega) (ev_pos (by omega) (ev_neg ?_ (Ev.now _)))))
   rw [rd_nat, rd_nat]; exact ne_of_beq_false hp
  ·exact Ev.step (fun k => z18.l0.eq_2 ..) (ev_neg (by omega) (Ev.now _))
 ·rw [len_ne_beq h]
  exact ev_neg (by omega) (Ev.now _)
theorem eqInt64SS_ev (l m : List (List Int)) (hl : l.length < 9223372036854775807) (hr : ∀ x ∈ l, x.length < 9223372036854775807) : Ev (fun k => z57.f k l m) (l == m) := by
 unfold z57.f
 by_cases h : l.length = m.length
 ·refine ev_pos (by omega) ?_
  rw [← list_eq_range l m [] h]
  have hm : ∀ j, j < l.length → Ev (fun k => z18.f k (rd_ListInt l (j : Int)) (rd_ListInt m (j : Int))) (l.getD j [] == m.getD j []) := fun j hj => by
   have h1 : rd_ListInt l (j : Int) = l.getD j [] := by simp [rd_ListInt]
   have h2 : rd_ListInt m (j : Int) = m.getD j [] := by simp [rd_ListInt]
   rw [h1, h2]
   refine eqInt64S_ev _ _ (hr _ ?_)
   rw [List.getD_eq_getElem?_getD, List.getElem?_eq_getElem hj]; exact List.getElem_mem hj
  refine ev_all (fun (i : Nat) k => z57.l0 k l m (i : Int)) _ l.length (fun j hj hp r hr => ?_) (fun j hj hp => ?_) ?_
  ·refine Ev.step (fun k => z57.l0.eq_2 ..) (ev_pos (by omega) (ev_pos (by omega) (ev_pos (by omega) (Ev.bind (hm j hj) (ev_pos hp ?_)))))
   rw [wrap_succ (by omega)]; exact hr
  ·exact Ev.step (fun k => z57.l0.eq_2 ..) (ev_pos (by omega) (ev_pos (by omega) (ev_pos (by omega) (Ev.bind (hm j hj) (ev_neg (by rw [hp]; decide) (Ev.now _))))))
  ·exact Ev.step (fun k => z57.l0.eq_2 ..) (ev_neg (by omega) (Ev.now _))
 ·rw [len_ne_beq h]
  exact ev_neg (by omega) (Ev.now _)
end Go.Proofs.Ytabbkjgbdpcopaa.B

set_option linter.unusedVariables false
set_option linter.unusedSimpArgs false
namespace Go.Proofs.Ytabbkjgbdpcopaa.B
open Go.RowKit Go.Proofs.YtabbkjgbdpcopaaW.PrintWords

theorem row_le_total : ∀ (l : List (List Int)) (x : List Int), x ∈ l → x.length ≤ total l
 | [], x, h => by cases h
 | y :: l, x, h => by
  simp only [total]
  rcases List.mem_cons.1 h with rfl | h
  ·have := total_nonneg l; omega
  ·have := row_le_total l x h; omega
theorem total_le_of {l : List (List Int)} {m : Nat} (h : ∀ x ∈ l, x.length ≤ m) : total l ≤ l.length * m := by
 induction l with
 | nil => simp [total]
 | cons x l ih =>
  have h1 := h x List.mem_cons_self
  have h2 := ih (fun y hy => h y (List.mem_cons_of_mem _ hy))
  simp only [total, List.length_cons]
  rw [Int.natCast_add, Int.add_mul]
  omega
theorem eqComplex_self (l : List (List Int)) (hl : l.length < 9223372036854775807) (hr : ∀ x ∈ l, x.length < 9223372036854775807) : Ev (fun k => z23.f k l l) true := by
 unfold z23.f
 exact Ev.bind (ev_eq (eqInt64SS_ev l l hl hr) (beq_self_eq_true l)) (ev_pos rfl (Ev.now _))
theorem toComplex_ev (l : List (List Int)) (hl : l.length ≤ 1048576) (hr : ∀ x ∈ l, x.length ≤ 1048576) : Ev (fun k => z21.f k l) l := by
 unfold z21.f
 exact Ev.bind (toInt64SS_ev l hl hr) (Ev.now _)
theorem szComplex_ev (l : List (List Int)) (b : Int) (hw : WfLL l) (h0 : 0 ≤ b) (h1 : b ≤ 9223372036854775807) :
  (∃ t, Ev (fun k => z19.f k l b) t ∧ t < 0) ∨ (Ev (fun k => z19.f k l b) (b - l.length - total l) ∧ l.length + total l ≤ b) := by
 unfold z19.f
 rcases szInt64SS_ev l b hw h0 h1 with ⟨t, ht, hn⟩ | ⟨ht, hb⟩
 ·exact .inl ⟨-1, Ev.bind ht (ev_pos hn (Ev.now _)), by omega⟩
 ·exact .inr ⟨Ev.bind ht (ev_neg (by omega) (Ev.now _)), hb⟩
end Go.Proofs.Ytabbkjgbdpcopaa.B

-- written for this claim by a program (mp.py over the kit's printer)
namespace Go.Proofs.Ytabbkjgbdpcopaa.B
open Go.RowKit Go.Proofs.YtabbkjgbdpcopaaW.PrintWords Go.Proofs.YtabbkjgbdpcopaaW.PrintLast Go.Proofs.YtabbkjgbdpcopaaW.PrintMore
attribute [local go_sem] max2_int min2_int max_two min_two max_three min_three max_four min_four
set_option linter.unusedVariables false
set_option linter.unusedSimpArgs false

def z84.l0 : Nat → List (List Int) → Int → Int → Option (Int)
 | 0, _, _, _ => none
 | k + 1, x0, x1, x5 => if x5 < (x0.length : Int) then (if 0 ≤ x5 then ((z34.f k (rd_ListInt x0 x5) x1).bind fun t102 => (if t102 < 0 then (some (-1)) else (z84.l0 k x0 t102 (wrap64 (x5 + 1))))) else (none)) else (some x1)
def z84.f (k : Nat) (l0 : List (List Int)) (a1 : Int) : Option (Int) := z84.l0 k l0 a1 0
set_option maxHeartbeats 8000000 in
set_option maxRecDepth 100000 in
theorem z84.calls (k : Nat) (A0 : Option Addr) (c0 : Nat) (l0 : List (List Int)) (a1 : Int) (r : Int) (w : World) (hr0 : Kd.C (Kd.slice 2 (Kd.int .i64)) w A0 l0.length l0) (hc0 : l0.length ≤ c0) (h : z84.f k l0 a1 = some r) :
  Calls Try.prog 84 #[.slice A0 l0.length c0, .int .i64 a1] w fun e w' => e = .returned (.int .i64 r) ∧ Drawn0 w w' := by
 have HR0 := Aside0.mk hr0
 have HC0 := Aside0.mk hc0
 clear hr0 hc0
 have H : (z84.l0 k l0 a1 0) = some r := h
 clear h
 have H' := Aside0.mk H
 clear H
 go_enter Try.func84, Try.ntmps84
 go_wp2
 go_loopg [1, 5] k (fun kq v1 v5 w' => ∃ (x1_1 : Int) (x5_1 : Int), v1 = .int .i64 x1_1 ∧ v5 = .int .i64 x5_1 ∧ Aside0 (z84.l0 kq l0 x1_1 x5_1 = some r) ∧ Aside0 (kq ≤ k) ∧ Drawn0 w w')
 case atStart => exact ⟨(a1), (0), E_, E_, H', ⟨Nat.le_refl _⟩, by repeat (first | exact Drawn0.refl _ | apply Drawn0.step)⟩
 case round =>
  clear H'
  (try clear p2)
  obtain ⟨x1_1, x5_1, rfl, rfl, HA, HK1, ⟨m1, rfl⟩⟩ := hrel
  cases gk with
  | zero => exact absurd HA.out (by simp [z84.l0])
  | succ k1 =>
   have H := HA.out
   clear HA
   simp only [z84.l0] at H
   by_cases c3 : x5_1 < (l0.length : Int)
   ·rw [if_pos c3] at H
    have c3b0 : decide (x5_1 < (l0.length : Int)) = true := decide_eq_true c3
    clear c3
    have c4 := O1_ H
    replace H := O2_ H
    have c4b0 := decide_eq_true c4
    clear c4
    replace H := Option.bind_eq_some_iff.mp H
    obtain ⟨t102, A50, H⟩ := H
    have A5 := Aside0.mk A50
    clear A50
    by_cases c6 : t102 < 0
    ·rw [if_pos c6] at H
     have c6b0 : decide (t102 < 0) = true := decide_eq_true c6
     clear c6
     obtain rfl := Option.some.inj H
     have p101 : 0 ≤ (x5_1 : Int) := D_
     have q101 : x5_1 < (l0.length : Int) := D_
     obtain ⟨ad101, A101_0, c101_0, e101, hx101_0, hl101_0, hi101_0⟩ := at_ListInt HR0.out x5_1 p101 q101
     cases e101
     have HR101_0 := Aside0.mk hi101_0
     have HC101_0 := Aside0.mk hl101_0
     clear hi101_0 hl101_0
     replace p101 := eq_true p101
     replace q101 := eq_true q101
     go_wp2_with (first | ((with_reducible refine gate_callee (f := 34) rfl ?_); refine goesL_ (some 17) rfl rfl Try.func34 (by kernel_rfl) rfl #[.slice A101_0 (rd_ListInt l0 x5_1).length c101_0, .int .i64 x1_1] rfl (by (try simp only [List.map_toArray, List.map_cons, List.map_nil]); first | done | rfl | (simp only [List.length_drop, List.length_take]; rfl)) ?_; (with_reducible refine (z34.calls k1 _ _ (rd_ListInt l0 x5_1) x1_1 t102 _ ?side1 ?side2 A5.out).mono ?_); (case side1 => exact KC_ HR101_0.out); (case side2 => exact HC101_0.out); rintro e w' ⟨rfl, ⟨nd, rfl⟩⟩; refine ⟨_, rfl, ?_⟩))
     go_ret
     exact ⟨by first | rfl | (simp; done) | (simp [*]; done), by repeat (first | exact Drawn0.refl _ | apply Drawn0.step)⟩
    ·rw [if_neg c6] at H
     have c6b0 : decide (t102 < 0) = false := decide_eq_false c6
     clear c6
     have H' := Aside0.mk H
     clear H
     have p101 : 0 ≤ (x5_1 : Int) := D_
     have q101 : x5_1 < (l0.length : Int) := D_
     obtain ⟨ad101, A101_0, c101_0, e101, hx101_0, hl101_0, hi101_0⟩ := at_ListInt HR0.out x5_1 p101 q101
     cases e101
     have HR101_0 := Aside0.mk hi101_0
     have HC101_0 := Aside0.mk hl101_0
     clear hi101_0 hl101_0
     replace p101 := eq_true p101
     replace q101 := eq_true q101
     go_wp2_with (first | ((with_reducible refine gate_callee (f := 34) rfl ?_); refine goesL_ (some 17) rfl rfl Try.func34 (by kernel_rfl) rfl #[.slice A101_0 (rd_ListInt l0 x5_1).length c101_0, .int .i64 x1_1] rfl (by (try simp only [List.map_toArray, List.map_cons, List.map_nil]); first | done | rfl | (simp only [List.length_drop, List.length_take]; rfl)) ?_; (with_reducible refine (z34.calls k1 _ _ (rd_ListInt l0 x5_1) x1_1 t102 _ ?side1 ?side2 A5.out).mono ?_); (case side1 => exact KC_ HR101_0.out); (case side2 => exact HC101_0.out); rintro e w' ⟨rfl, ⟨nd, rfl⟩⟩; refine ⟨_, rfl, ?_⟩))
     go_roundg k1
     case measure => exact Q1_ HK1
     case rel => exact ⟨(t102), (wrap64 (x5_1 + 1)), E_, E_, H', ⟨Q1_ HK1⟩, by repeat (first | exact Drawn0.refl _ | apply Drawn0.step)⟩
   ·rw [if_neg c3] at H
    have c3b0 : decide (x5_1 < (l0.length : Int)) = false := decide_eq_false c3
    clear c3
    obtain rfl := Option.some.inj H
    go_wp2
    go_ret
    exact ⟨by first | rfl | (simp; done) | (simp [*]; done), by repeat (first | exact Drawn0.refl _ | apply Drawn0.step)⟩

end Go.Proofs.Ytabbkjgbdpcopaa.B

set_option linter.unusedVariables false
set_option linter.unusedSimpArgs false
namespace Go.Proofs.Ytabbkjgbdpcopaa.B
open Go.RowKit Go.Proofs.YtabbkjgbdpcopaaW.PrintWords

theorem mark_val (l : List (List Int)) (a : Int) (h0 : 0 ≤ a) (h1 : a + total l ≤ 9223372036854775807) : laws_markInt64SS.f l a = some (a + total l, markRows l a) := by
 unfold laws_markInt64SS.f
 rw [if_pos ⟨h0, h1⟩]
theorem markInts_get : ∀ (l : List Int) (a : Int) (i : Nat), i < l.length → (markInts l a).getD i 0 = a + i
 | [], a, i, h => by simp at h
 | x :: l, a, 0, h => by simp [markInts]
 | x :: l, a, i + 1, h => by
  have := markInts_get l (a + 1) i (by simpa using h)
  simp only [markInts, List.getD_cons_succ, this]
  omega
theorem heldInt64S_ev (l : List Int) (a : Int) (h0 : 0 ≤ a) (h1 : a + l.length ≤ 9223372036854775807) : Ev (fun k => z34.f k (markInts l a) a) (a + l.length) := by
 unfold z34.f
 have h := ev_find (r := a + l.length) (fun (i : Nat) k => z34.l0 k (markInts l a) (a + i) (i : Int)) (fun _ => false) l.length 0 (fun j _ hj _ r hr => by
  refine Ev.step (fun k => z34.l0.eq_2 ..) ?_
  rw [rd_nat, markInts_get l a j (by omega), markInts_length, wrap_succ (by omega), wrap_small (by omega) (by omega), show a + (j : Int) + 1 = a + ((j + 1 : Nat) : Int) by omega]
  (repeat (first | refine ev_pos (by omega) ?_ | refine ev_neg (by omega) ?_))
  exact hr) (fun _ _ _ h => by cases h) (fun _ => by
  refine Ev.step (fun k => z34.l0.eq_2 ..) ?_
  rw [markInts_length]
  exact ev_neg (by omega) (ev_eq (Ev.now _) (by omega)))
 simpa using h
theorem markRows_get : ∀ (l : List (List Int)) (a : Int) (i : Nat), i < l.length → (markRows l a).getD i [] = markInts (l.getD i []) (a + total (l.take i))
 | [], a, i, h => by simp at h
 | x :: l, a, 0, h => by simp [markRows, total]
 | x :: l, a, i + 1, h => by
  have := markRows_get l (a + x.length) i (by simpa using h)
  simp only [markRows, List.getD_cons_succ, this, List.take_succ_cons, total]
  congr 1
  omega
theorem total_take_succ' (l0 : List (List Int)) (k : Nat) (hk : k < l0.length) : total (l0.take (k + 1)) = total (l0.take k) + (l0.getD k []).length := by
 have ht : l0.take (k + 1) = l0.take k ++ [l0.getD k []] := by
  rw [List.take_succ_eq_append_getElem hk, List.getD_eq_getElem?_getD, List.getElem?_eq_getElem hk]; rfl
 rw [ht, total_append]; simp [total]
theorem total_take_le' (l0 : List (List Int)) (k : Nat) : total (l0.take k) ≤ total l0 := by
 have h := total_append (l0.take k) (l0.drop k)
 rw [List.take_append_drop] at h
 have := total_nonneg (l0.drop k)
 omega
theorem heldInt64SS_ev (l : List (List Int)) (a : Int) (h0 : 0 ≤ a) (h1 : a + total l ≤ 9223372036854775807) (hl : l.length < 9223372036854775807) : Ev (fun k => z84.f k (markRows l a) a) (a + total l) := by
 unfold z84.f
 have h := ev_find (r := a + total l) (fun (i : Nat) k => z84.l0 k (markRows l a) (a + total (l.take i)) (i : Int)) (fun _ => false) l.length 0 (fun j _ hj _ r hr => by
  have hrd : rd_ListInt (markRows l a) (j : Int) = markInts (l.getD j []) (a + total (l.take j)) := by
   rw [← markRows_get l a j (by omega)]; simp [rd_ListInt]
  have e1 := total_take_succ' l j (by omega)
  have e2 := total_take_le' l (j + 1)
  have e3 := total_nonneg (l.take j)
  refine Ev.step (fun k => z84.l0.eq_2 ..) ?_
  rw [hrd, markRows_length, wrap_succ (by omega)]
  (repeat (first | refine ev_pos (by omega) ?_ | refine ev_neg (by omega) ?_))
  refine Ev.bind (heldInt64S_ev _ _ (by omega) (by omega)) (ev_neg (by omega) ?_)
  rw [show a + total (l.take j) + ((l.getD j []).length : Int) = a + total (l.take (j + 1)) by omega]
  exact hr) (fun _ _ _ h => by cases h) (fun _ => by
  refine Ev.step (fun k => z84.l0.eq_2 ..) ?_
  rw [markRows_length]
  refine ev_neg (by omega) (ev_eq (Ev.now _) ?_)
  rw [Nat.zero_add, List.take_length])
 simpa [total] using h
end Go.Proofs.Ytabbkjgbdpcopaa.B

set_option linter.unusedVariables false
set_option linter.unusedSimpArgs false
namespace Go.Proofs.Ytabbkjgbdpcopaa.B
open Go.RowKit Go.Proofs.YtabbkjgbdpcopaaW.PrintWords

theorem eqInt64S_self (l : List Int) (hl : l.length < 9223372036854775807) : Ev (fun k => z18.f k l l) true := ev_eq (eqInt64S_ev l l hl) (beq_self_eq_true l)
theorem eqInt64SS_self (l : List (List Int)) (hl : l.length < 9223372036854775807) (hr : ∀ x ∈ l, x.length < 9223372036854775807) : Ev (fun k => z57.f k l l) true := ev_eq (eqInt64SS_ev l l hl hr) (beq_self_eq_true l)
theorem markInt64S_mark (l : List Int) (a : Int) (h0 : 0 ≤ a) (h1 : a + l.length ≤ 9223372036854775807) : Ev (fun k => z33.f k l a) (a + l.length, markInts l a) := by
 have := markInt64S_ev l.length l [] l a rfl rfl h0 h1 (by omega)
 simpa [z33.f] using this
end Go.Proofs.Ytabbkjgbdpcopaa.B

set_option linter.unusedVariables false
set_option linter.unusedSimpArgs false
namespace Go.Proofs.Ytabbkjgbdpcopaa.B
open Go.RowKit Go.Proofs.YtabbkjgbdpcopaaW.PrintWords
end Go.Proofs.Ytabbkjgbdpcopaa.B

set_option linter.unusedVariables false
set_option linter.unusedSimpArgs false
namespace Go.Proofs.Ytabbkjgbdpcopaa.B
open Go.RowKit Go.Proofs.YtabbkjgbdpcopaaW.PrintWords

def filt (p : Nat → Bool) (n : Nat) : List Int := ((List.range n).filter p).map fun i : Nat => (i : Int)
theorem filt_succ (p : Nat → Bool) (n : Nat) : filt p (n + 1) = filt p n ++ if p n then [(n : Int)] else [] := by
 unfold filt
 rw [List.range_succ, List.filter_append, List.map_append]
 congr 1
 cases h : p n <;> simp [List.filter_cons, h]
theorem filt_le (p : Nat → Bool) : ∀ n, (filt p n).length ≤ n
 | 0 => Nat.le_refl _
 | n + 1 => by
  have := filt_le p n
  rw [filt_succ, List.length_append]
  split <;> simp <;> omega
theorem filt_congr {p q : Nat → Bool} : ∀ n, (∀ i, i < n → p i = q i) → filt p n = filt q n
 | 0, _ => rfl
 | n + 1, h => by rw [filt_succ, filt_succ, filt_congr n (fun i hi => h i (by omega)), h n (by omega)]
theorem mem_filt {p : Nat → Bool} {n : Nat} {x : Int} : x ∈ filt p n ↔ ∃ i, i < n ∧ p i = true ∧ x = (i : Int) := by
 unfold filt
 rw [List.mem_map]
 constructor
 ·rintro ⟨i, hi, rfl⟩
  obtain ⟨h1, h2⟩ := List.mem_filter.1 hi
  exact ⟨i, List.mem_range.1 h1, h2, rfl⟩
 ·rintro ⟨i, hi, hp, rfl⟩
  exact ⟨i, List.mem_filter.2 ⟨List.mem_range.2 hi, hp⟩, rfl⟩
theorem ev_filt {β : Type} (L : List Int → Nat → Nat → Option β) (p : Nat → Bool) : ∀ (n : Nat), (∀ j s, j < n → s.length ≤ j → p j = true → Le (L (s ++ [(j : Int)]) (j + 1)) (L s j)) → (∀ j s, j < n → s.length ≤ j → p j = false → Le (L s (j + 1)) (L s j)) → Le (L (filt p n) n) (L [] 0)
 | 0, _, _ => Le.refl _
 | n + 1, h1, h0 => by
  have ih := ev_filt L p n (fun j s hj => h1 j s (by omega)) (fun j s hj => h0 j s (by omega))
  refine Le.trans ?_ ih
  rw [filt_succ]
  cases hp : p n with
  | true => exact h1 n _ (by omega) (filt_le p n) hp
  | false => simpa using h0 n _ (by omega) (filt_le p n) hp
theorem ev_map {α β : Type} (L : List α → Nat → Nat → Option β) (g : Nat → α) : ∀ (n : Nat), (∀ j s, j < n → s = (List.range j).map g → Le (L (s ++ [g j]) (j + 1)) (L s j)) → Le (L ((List.range n).map g) n) (L [] 0)
 | 0, _ => Le.refl _
 | n + 1, h => by
  have ih := ev_map L g n (fun j s hj => h j s (by omega))
  refine Le.trans ?_ ih
  rw [List.range_succ, List.map_append]
  exact h n _ (by omega) rfl
theorem ev_all_then (L : Nat → Nat → Option Bool) (p : Nat → Bool) (b : Bool) : ∀ (n : Nat), (∀ j, j < n → (∀ m, m < j → p m = true) → p j = true → Le (L (j + 1)) (L j)) → (∀ j, j < n → (∀ m, m < j → p m = true) → p j = false → Ev (L j) false) → ((∀ m, m < n → p m = true) → Ev (L n) b) → Ev (L 0) ((List.range n).all p && b) := by
 intro n h1 h0 he
 have main : ∀ (d i : Nat), i + d = n → (∀ m, m < i → p m = true) → Ev (L i) ((List.range n).all p && b) := by
  intro d
  induction d with
  | zero =>
   intro i hi hall
   have : i = n := by omega
   subst this
   have e : (List.range i).all p = true := List.all_eq_true.2 (fun j hj => hall j (List.mem_range.1 hj))
   rw [e, Bool.true_and]; exact he hall
  | succ d ih =>
   intro i hi hall
   cases hp : p i with
   | true =>
    refine h1 i (by omega) hall hp _ (ih (i + 1) (by omega) (fun m hm => ?_))
    rcases Nat.lt_or_ge m i with hl | hg
    ·exact hall m hl
    ·have : m = i := by omega
     subst this; exact hp
   | false =>
    have e : (List.range n).all p = false := by
     rw [Bool.eq_false_iff]
     intro h
     have := List.all_eq_true.1 h i (List.mem_range.2 (by omega))
     rw [hp] at this; cases this
    rw [e, Bool.false_and]
    exact h0 i (by omega) hall hp
 exact main n 0 (by omega) (fun m hm => by omega)
theorem map_range {α β : Type} (z : α) (g : α → β) (l : List α) : l.map g = (List.range l.length).map fun j => g (l.getD j z) := by
 apply List.ext_getElem
 ·simp
 ·intro n h1 h2
  simp only [List.getElem_map, List.getElem_range, List.getD_eq_getElem?_getD]
  have : n < l.length := by simpa using h1
  simp [List.getElem?_eq_getElem this]
end Go.Proofs.Ytabbkjgbdpcopaa.B

set_option linter.unusedVariables false
set_option linter.unusedSimpArgs false
namespace Go.Proofs.Ytabbkjgbdpcopaa.B
open Go.RowKit Go.Proofs.YtabbkjgbdpcopaaW.PrintWords

theorem within_val (a b c : Int) : z91.f a b c = some (decide (b ≤ a) && decide (a ≤ c)) := by
 unfold z91.f
 by_cases h : a ≥ b
 ·rw [if_pos h]; simp [h]
 ·rw [if_neg h]; simp; omega
theorem in_val (a b c : Int) : z88.f a b c = some (decide (b ≤ a) && decide (a ≤ c)) := by
 unfold z88.f
 by_cases h : a ≥ b
 ·rw [if_pos h]; simp [h]
 ·rw [if_neg h]; simp; omega

theorem getD_mem {α : Type} {l : List α} {i : Nat} (z : α) (h : i < l.length) : l.getD i z ∈ l := by
 rw [List.getD_eq_getElem?_getD, List.getElem?_eq_getElem h]; exact List.getElem_mem h

theorem rdl_nat (l : List (List Int)) (i : Nat) : rd_ListInt l (i : Int) = l.getD i [] := by simp [rd_ListInt]

end Go.Proofs.Ytabbkjgbdpcopaa.B

set_option linter.unusedVariables false
set_option linter.unusedSimpArgs false
namespace Go.Proofs.Ytabbkjgbdpcopaa.B
open Go.RowKit Go.Proofs.YtabbkjgbdpcopaaW.PrintWords

theorem total_take1 (l : List (List Int)) (k : Nat) (hk : k < l.length) : total (l.take (k + 1)) = total (l.take k) + (l.getD k []).length := by
 have ht : l.take (k + 1) = l.take k ++ [l.getD k []] := by
  rw [List.take_succ_eq_append_getElem hk, List.getD_eq_getElem?_getD, List.getElem?_eq_getElem hk]; rfl
 rw [ht, total_append]; simp [total]
theorem total_take_all (l : List (List Int)) (k : Nat) : total (l.take k) ≤ total l := by
 have h := total_append (l.take k) (l.drop k)
 rw [List.take_append_drop] at h
 have := total_nonneg (l.drop k)
 omega
theorem flatten_length : ∀ l : List (List Int), (l.flatten.length : Int) = total l
 | [] => rfl
 | x :: l => by rw [List.flatten_cons, List.length_append]; have := flatten_length l; simp only [total]; omega
theorem flatten_take1 (l : List (List Int)) (k : Nat) (hk : k < l.length) : (l.take (k + 1)).flatten = (l.take k).flatten ++ l.getD k [] := by
 have ht : l.take (k + 1) = l.take k ++ [l.getD k []] := by
  rw [List.take_succ_eq_append_getElem hk, List.getD_eq_getElem?_getD, List.getElem?_eq_getElem hk]; rfl
 rw [ht, List.flatten_append]; simp
theorem concat_ev (l : List (List Int)) (hl : l.length < 9223372036854775807) (ht : total l ≤ 17592186044415) : Ev (fun k => z102.f k l) l.flatten := by
 unfold z102.f
 -- the second loop
 have h1 : Ev (fun k => z102.l1 k ([] : List Int) l (l.length : Int) 0) l.flatten := by
  have := (le_iter_inv (fun (s : List Int) (i : Nat) k => z102.l1 k s l (l.length : Int) (i : Int)) (fun i s => s ++ l.getD i []) (fun i s => s = (l.take i).flatten) l.length 0 [] (by simp) (by
   intro j s _ hj hs
   have hj' : j < l.length := by omega
   refine ⟨fun r hr => ?_, by rw [flatten_take1 l j hj', hs]⟩
   refine Ev.step (fun k => z102.l1.eq_2 ..) ?_
   rw [rdl_nat, wrap_succ (by omega)]
   have e1 := total_take1 l j hj'
   have e2 := total_take_all l (j + 1)
   have e3 := flatten_length (l.take j)
   rw [← hs] at e3
   exact ev_pos (by omega) (ev_pos (by omega) (ev_pos (by omega) (ev_pos (by omega) hr)))))
  refine this.1 _ ?_
  refine Ev.step (fun k => z102.l1.eq_2 ..) ?_
  refine ev_neg (by omega) (ev_eq (Ev.now _) ?_)
  rw [this.2, Nat.zero_add, List.take_length]
 have := (le_iter_inv (fun (s : Int) (i : Nat) k => z102.l0 k l s l (l.length : Int) (i : Int)) (fun i s => s + (l.getD i []).length) (fun i s => s = total (l.take i)) l.length 0 0 (by simp [total]) (by
  intro j s _ hj hs
  have hj' : j < l.length := by omega
  have e1 := total_take1 l j hj'
  have e2 := total_take_all l (j + 1)
  have e3 := total_nonneg (l.take j)
  refine ⟨fun r hr => ?_, by rw [e1, hs]⟩
  refine Ev.step (fun k => z102.l0.eq_2 ..) ?_
  rw [rdl_nat, wrap_succ (by omega), wrap_small (x := s + ((l.getD j []).length : Int)) (by omega) (by omega)]
  exact ev_pos (by omega) (ev_pos (by omega) (ev_pos (by omega) (ev_neg (by omega) hr)))))
 refine this.1 _ ?_
 refine Ev.step (fun k => z102.l0.eq_2 ..) ?_
 have e4 : iter (fun i s => s + ((l.getD i []).length : Int)) 0 l.length 0 = total l := by
  rw [this.2, Nat.zero_add, List.take_length]
 rw [e4]
 have e5 := total_nonneg l
 refine ev_neg (by omega) (Ev.bind (a := []) (ev_const ?_) h1)
 unfold slices_Grow_int64_int64.f
 rw [if_pos ⟨⟨rfl, e5⟩, ht⟩]
end Go.Proofs.Ytabbkjgbdpcopaa.B

set_option linter.unusedVariables false
set_option linter.unusedSimpArgs false
namespace Go.Proofs.Ytabbkjgbdpcopaa.B.SimT

def lexlt : List Int → List Int → Bool
 | [], [] => false
 | [], _ :: _ => true
 | _ :: _, [] => false
 | a :: l, b :: m => if a < b then true else if b < a then false else lexlt l m
theorem lexlt_irrefl : ∀ l, lexlt l l = false
 | [] => rfl
 | a :: l => by simp [lexlt, lexlt_irrefl l]
theorem lexlt_trans : ∀ {a b c : List Int}, lexlt a b = true → lexlt b c = true → lexlt a c = true
 | [], [], _, h, _ => by cases h
 | [], _ :: _, [], _, h => by cases h
 | [], _ :: _, _ :: _, _, _ => rfl
 | _ :: _, [], _, h, _ => by cases h
 | _ :: _, _ :: _, [], _, h => by cases h
 | a :: l, b :: m, c :: o, h, h' => by
  simp only [lexlt] at h h' ⊢
  by_cases h1 : a < b
  ·by_cases h2 : b < c
   ·rw [if_pos (by omega)]
   ·rw [if_neg h2] at h'
    by_cases h3 : c < b
    ·rw [if_pos h3] at h'; cases h'
    ·rw [if_pos (by omega)]
  ·rw [if_neg h1] at h
   by_cases h2 : b < a
   ·rw [if_pos h2] at h; cases h
   ·rw [if_neg h2] at h
    have e : a = b := by omega
    subst e
    by_cases h3 : a < c
    ·rw [if_pos h3]
    ·rw [if_neg h3] at h' ⊢
     by_cases h4 : c < a
     ·rw [if_pos h4] at h'; cases h'
     ·rw [if_neg h4] at h' ⊢
      exact lexlt_trans h h'
theorem lexlt_tri : ∀ a b : List Int, lexlt a b = true ∨ a = b ∨ lexlt b a = true
 | [], [] => .inr (.inl rfl)
 | [], _ :: _ => .inl rfl
 | _ :: _, [] => .inr (.inr rfl)
 | a :: l, b :: m => by
  simp only [lexlt]
  rcases Int.lt_trichotomy a b with h | h | h
  ·rw [if_pos h]; exact .inl rfl
  ·subst h
   rw [if_neg (by omega), if_neg (by omega)]
   rcases lexlt_tri l m with h | h | h
   ·exact .inl h
   ·subst h; exact .inr (.inl rfl)
   ·rw [if_neg (by omega), if_neg (by omega)]; exact .inr (.inr h)
  ·rw [if_neg (by omega : ¬ a < b), if_pos h]
   rw [if_pos h]; exact .inr (.inr rfl)
def slt (a b : List Int) : Bool := decide (a.length < b.length) || (decide (a.length = b.length) && lexlt a b)
theorem slt_iff (a b : List Int) : slt a b = true ↔ a.length < b.length ∨ (a.length = b.length ∧ lexlt a b = true) := by simp [slt]
theorem slt_irrefl (a : List Int) : slt a a = false := by simp [slt, lexlt_irrefl]
theorem slt_trans {a b c : List Int} (h : slt a b = true) (h' : slt b c = true) : slt a c = true := by
 rw [slt_iff] at *
 rcases h with h | ⟨h1, h2⟩ <;> rcases h' with h' | ⟨h1', h2'⟩
 ·exact .inl (by omega)
 ·exact .inl (by omega)
 ·exact .inl (by omega)
 ·exact .inr ⟨by omega, lexlt_trans h2 h2'⟩
theorem slt_tri (a b : List Int) : slt a b = true ∨ a = b ∨ slt b a = true := by
 rw [slt_iff, slt_iff]
 rcases Nat.lt_trichotomy a.length b.length with h | h | h
 ·exact .inl (.inl h)
 ·rcases lexlt_tri a b with h1 | h1 | h1
  ·exact .inl (.inr ⟨h, h1⟩)
  ·exact .inr (.inl h1)
  ·exact .inr (.inr (.inr ⟨h.symm, h1⟩))
 ·exact .inr (.inr (.inl h))
theorem slt_asymm {a b : List Int} (h : slt a b = true) : slt b a = false := by
 cases h' : slt b a with
 | false => rfl
 | true => have := slt_trans h h'; rw [slt_irrefl] at this; cases this
theorem slt_ne {a b : List Int} (h : slt a b = true) : a ≠ b := fun e => by subst e; rw [slt_irrefl] at h; cases h

def Srt (l : List (List Int)) : Prop := l.Pairwise fun a b => slt a b = true
theorem srt_ext : ∀ {l m : List (List Int)}, Srt l → Srt m → (∀ x, x ∈ l ↔ x ∈ m) → l = m
 | [], [], _, _, _ => rfl
 | [], b :: m, _, _, h => by have := (h b).2 List.mem_cons_self; cases this
 | a :: l, [], _, _, h => by have := (h a).1 List.mem_cons_self; cases this
 | a :: l, b :: m, hl, hm, h => by
  have hl' := List.pairwise_cons.1 hl
  have hm' := List.pairwise_cons.1 hm
  have e : a = b := by
   rcases List.mem_cons.1 ((h a).1 List.mem_cons_self) with h1 | h1
   ·exact h1
   ·rcases List.mem_cons.1 ((h b).2 List.mem_cons_self) with h2 | h2
    ·exact h2.symm
    ·have h3 := hm'.1 a h1
     have h4 := hl'.1 b h2
     rw [slt_asymm h3] at h4; cases h4
  subst e
  congr 1
  refine srt_ext hl'.2 hm'.2 (fun x => ⟨fun hx => ?_, fun hx => ?_⟩)
  ·rcases List.mem_cons.1 ((h x).1 (List.mem_cons_of_mem _ hx)) with h1 | h1
   ·subst h1; have := hl'.1 _ hx; rw [slt_irrefl] at this; cases this
   ·exact h1
  ·rcases List.mem_cons.1 ((h x).2 (List.mem_cons_of_mem _ hx)) with h1 | h1
   ·subst h1; have := hm'.1 _ hx; rw [slt_irrefl] at this; cases this
   ·exact h1
theorem srt_get {l : List (List Int)} (h : Srt l) {i j : Nat} (hij : i < j) (hj : j < l.length) : slt (l.getD i []) (l.getD j []) = true := by
 have := List.pairwise_iff_getElem.1 h i j (by omega) hj hij
 simpa [List.getD_eq_getElem?_getD, List.getElem?_eq_getElem hj, List.getElem?_eq_getElem (show i < l.length by omega)] using this
theorem srt_of_get {l : List (List Int)} (h : ∀ i, i + 1 < l.length → slt (l.getD i []) (l.getD (i + 1) []) = true) : Srt l := by
 have main : ∀ d i, i + d + 1 < l.length → slt (l.getD i []) (l.getD (i + d + 1) []) = true := by
  intro d
  induction d with
  | zero => exact h
  | succ d ih =>
   intro i hi
   have h1 := ih i (by omega)
   have h2 := h (i + d + 1) (by omega)
   exact slt_trans h1 h2
 refine List.pairwise_iff_getElem.2 (fun i j hi hj hij => ?_)
 have := main (j - i - 1) i (by omega)
 rw [show i + (j - i - 1) + 1 = j by omega] at this
 simpa [List.getD_eq_getElem?_getD, List.getElem?_eq_getElem hj, List.getElem?_eq_getElem hi] using this
theorem srt_nodup {l : List (List Int)} (h : Srt l) : l.Nodup := h.imp fun h => slt_ne h

def drp (s : List Int) (k : Nat) : List Int := s.take k ++ s.drop (k + 1)
theorem drp_eq : ∀ (s : List Int) (k : Nat), drp s k = s.eraseIdx k
 | [], k => by cases k <;> rfl
 | a :: s, 0 => by simp [drp]
 | a :: s, k + 1 => by
  have := drp_eq s k
  simp only [drp] at this
  simp [drp, this]
theorem drp_length {s : List Int} {k : Nat} (h : k < s.length) : (drp s k).length = s.length - 1 := by
 rw [drp_eq, List.length_eraseIdx, if_pos h]
theorem drp_sub (s : List Int) (k : Nat) : (drp s k).Sublist s := by rw [drp_eq]; exact List.eraseIdx_sublist ..
theorem drp_slt {s : List Int} {k : Nat} (h : k < s.length) : slt (drp s k) s = true := by
 rw [slt_iff, drp_length h]; exact .inl (by omega)
def Inc (s : List Int) : Prop := s.Pairwise fun a b => a < b
theorem sub_drp : ∀ {t s : List Int}, t.Sublist s → t.length < s.length → ∃ k, k < s.length ∧ t.Sublist (drp s k)
 | _, _, .slnil, h => by simp at h
 | _, _, @List.Sublist.cons _ t s a h, hl => ⟨0, by simp, by simpa [drp] using h⟩
 | _, _, @List.Sublist.cons_cons _ t s a h, hl => by
  obtain ⟨k, hk, hs⟩ := sub_drp h (by simpa using hl)
  exact ⟨k + 1, by simpa using hk, by simpa [drp] using hs.cons_cons a⟩
def Closed (C : List (List Int)) : Prop := ∀ s, s ∈ C → 1 < s.length → ∀ k, k < s.length → drp s k ∈ C
theorem closed_sub {C : List (List Int)} (h : Closed C) : ∀ (d : Nat) {t s : List Int}, s ∈ C → t.Sublist s → t ≠ [] → s.length = t.length + d → t ∈ C
 | 0, t, s, hs, hts, _, hl => by have := hts.eq_of_length (by omega); subst this; exact hs
 | d + 1, t, s, hs, hts, hne, hl => by
  obtain ⟨k, hk, hk2⟩ := sub_drp hts (by omega)
  have htp : 0 < t.length := by cases t with | nil => exact absurd rfl hne | cons a t => simp
  exact closed_sub h d (h s hs (by omega) k hk) hk2 hne (by rw [drp_length hk]; omega)
theorem closed_mem {C : List (List Int)} (h : Closed C) {t s : List Int} (hs : s ∈ C) (hts : t.Sublist s) (hne : t ≠ []) : t ∈ C :=
 closed_sub h (s.length - t.length) hs hts hne (by have := hts.length_le; omega)
theorem inc_sub {t s : List Int} (h : t.Sublist s) (hs : Inc s) : Inc t := List.Pairwise.sublist h hs
theorem sub_of_mem : ∀ {t s : List Int}, Inc t → Inc s → (∀ x, x ∈ t → x ∈ s) → t.Sublist s
 | [], s, _, _, _ => List.nil_sublist s
 | a :: t, [], _, _, h => by have := h a List.mem_cons_self; cases this
 | a :: t, b :: s, ht, hs, h => by
  have ht' := List.pairwise_cons.1 ht
  have hs' := List.pairwise_cons.1 hs
  by_cases e : a = b
  ·subst e
   refine List.Sublist.cons_cons a (sub_of_mem ht'.2 hs'.2 (fun x hx => ?_))
   rcases List.mem_cons.1 (h x (List.mem_cons_of_mem _ hx)) with h1 | h1
   ·subst h1; have := ht'.1 _ hx; omega
   ·exact h1
  ·refine List.Sublist.cons b (sub_of_mem ht hs'.2 (fun x hx => ?_))
   rcases List.mem_cons.1 (h x hx) with h1 | h1
   ·subst h1
    rcases List.mem_cons.1 hx with h2 | h2
    ·exact absurd h2.symm e
    ·rcases List.mem_cons.1 (h a List.mem_cons_self) with h3 | h3
     ·exact absurd h3 e
     ·have := ht'.1 _ h2; have := hs'.1 _ h3; omega
   ·exact h1
theorem inc_ext {t s : List Int} (ht : Inc t) (hs : Inc s) (h : ∀ x, x ∈ t ↔ x ∈ s) : t = s :=
by
 have h1 := sub_of_mem ht hs (fun x => (h x).1)
 have h2 := sub_of_mem hs ht (fun x => (h x).2)
 exact h1.eq_of_length (Nat.le_antisymm h1.length_le h2.length_le)

def ins (C : List (List Int)) (s : List Int) : List (List Int) := (C.takeWhile fun x => slt x s) ++ s :: (C.dropWhile fun x => slt x s)
theorem mem_ins {C : List (List Int)} {s x : List Int} : x ∈ ins C s ↔ x = s ∨ x ∈ C := by
 unfold ins
 have h : x ∈ C ↔ x ∈ (C.takeWhile fun x => slt x s) ∨ x ∈ (C.dropWhile fun x => slt x s) := by
  rw [← List.mem_append, List.takeWhile_append_dropWhile]
 rw [h, List.mem_append, List.mem_cons]
 constructor
 ·rintro (h | h | h)
  ·exact .inr (.inl h)
  ·exact .inl h
  ·exact .inr (.inr h)
 ·rintro (h | h | h)
  ·exact .inr (.inl h)
  ·exact .inl h
  ·exact .inr (.inr h)
theorem ins_srt : ∀ {C : List (List Int)} {s : List Int}, Srt C → s ∉ C → Srt (ins C s)
 | [], s, _, _ => List.pairwise_singleton _ _
 | a :: C, s, h, hn => by
  have h' := List.pairwise_cons.1 h
  have hne : s ≠ a := fun e => hn (by rw [e]; exact List.mem_cons_self)
  have hnC : s ∉ C := fun hm => hn (List.mem_cons_of_mem _ hm)
  unfold ins
  by_cases hlt : slt a s = true
  ·have e1 : (a :: C).takeWhile (fun x => slt x s) = a :: C.takeWhile (fun x => slt x s) := by simp [List.takeWhile_cons, hlt]
   have e2 : (a :: C).dropWhile (fun x => slt x s) = C.dropWhile (fun x => slt x s) := by simp [List.dropWhile_cons, hlt]
   rw [e1, e2, List.cons_append]
   refine List.pairwise_cons.2 ⟨fun x hx => ?_, ins_srt h'.2 hnC⟩
   rcases (mem_ins (C := C)).1 hx with rfl | hx
   ·exact hlt
   ·exact h'.1 x hx
  ·have hf : slt a s = false := by simpa using hlt
   have e1 : (a :: C).takeWhile (fun x => slt x s) = [] := by simp [List.takeWhile_cons, hf]
   have e2 : (a :: C).dropWhile (fun x => slt x s) = a :: C := by simp [List.dropWhile_cons, hf]
   rw [e1, e2, List.nil_append]
   have hsa : slt s a = true := by
    rcases slt_tri a s with h1 | h1 | h1
    ·exact absurd h1 hlt
    ·exact absurd h1.symm hne
    ·exact h1
   refine List.pairwise_cons.2 ⟨fun x hx => ?_, h⟩
   rcases List.mem_cons.1 hx with rfl | hx
   ·exact hsa
   ·exact slt_trans hsa (h'.1 x hx)
def putN : Nat → List (List Int) → List Int → List (List Int)
 | 0, C, _ => C
 | n + 1, C, s => if s ∈ C then C else ins ((List.range s.length).foldl (fun C k => if 1 < s.length then putN n C (drp s k) else C) C) s
theorem sub_cases {x s : List Int} : x.Sublist s ↔ x = s ∨ ∃ k, k < s.length ∧ x.Sublist (drp s k) := by
 constructor
 ·intro h
  rcases Nat.lt_or_ge x.length s.length with hl | hg
  ·exact .inr (sub_drp h hl)
  ·exact .inl (h.eq_of_length (Nat.le_antisymm h.length_le hg))
 ·rintro (rfl | ⟨k, _, h⟩)
  ·exact List.Sublist.refl _
  ·exact h.trans (drp_sub s k)
theorem putN_spec : ∀ (n : Nat) {C : List (List Int)} {s : List Int}, s.length ≤ n → s ≠ [] → Srt C → Closed C →
  Srt (putN n C s) ∧ Closed (putN n C s) ∧ ∀ x, x ∈ putN n C s ↔ x ∈ C ∨ (x.Sublist s ∧ x ≠ [])
 | 0, C, s, hl, hne, _, _ => by
  cases s with
  | nil => exact absurd rfl hne
  | cons a s => simp at hl
 | n + 1, C, s, hl, hne, hs, hc => by
  simp only [putN]
  by_cases hm : s ∈ C
  ·rw [if_pos hm]
   refine ⟨hs, hc, fun x => ⟨.inl, ?_⟩⟩
   rintro (h | ⟨h1, h2⟩)
   ·exact h
   ·exact closed_mem hc hm h1 h2
  ·rw [if_neg hm]
   by_cases h1 : 1 < s.length
   ·simp only [if_pos h1]
    have hfold : ∀ (m : Nat), m ≤ s.length → Srt ((List.range m).foldl (fun C k => putN n C (drp s k)) C) ∧ Closed ((List.range m).foldl (fun C k => putN n C (drp s k)) C) ∧
      ∀ x, x ∈ (List.range m).foldl (fun C k => putN n C (drp s k)) C ↔ x ∈ C ∨ ((∃ k, k < m ∧ x.Sublist (drp s k)) ∧ x ≠ []) := by
     intro m
     induction m with
     | zero => intro _; exact ⟨hs, hc, fun x => ⟨.inl, fun h => h.elim id (fun ⟨⟨k, hk, _⟩, _⟩ => by omega)⟩⟩
     | succ m ih =>
      intro hm
      obtain ⟨i1, i2, i3⟩ := ih (by omega)
      rw [List.range_succ, List.foldl_append, List.foldl_cons, List.foldl_nil]
      have hdl : (drp s m).length = s.length - 1 := drp_length (by omega)
      obtain ⟨j1, j2, j3⟩ := putN_spec n (s := drp s m) (by omega) (fun e => by rw [e] at hdl; simp at hdl; omega) i1 i2
      refine ⟨j1, j2, fun x => ?_⟩
      rw [j3, i3]
      constructor
      ·rintro ((h | ⟨⟨k, hk, hx⟩, hne⟩) | ⟨hx, hne⟩)
       ·exact .inl h
       ·exact .inr ⟨⟨k, by omega, hx⟩, hne⟩
       ·exact .inr ⟨⟨m, by omega, hx⟩, hne⟩
      ·rintro (h | ⟨⟨k, hk, hx⟩, hne⟩)
       ·exact .inl (.inl h)
       ·rcases Nat.lt_or_ge k m with hkm | hkm
        ·exact .inl (.inr ⟨⟨k, hkm, hx⟩, hne⟩)
        ·have : k = m := by omega
         subst this; exact .inr ⟨hx, hne⟩
    obtain ⟨i1, i2, i3⟩ := hfold s.length (Nat.le_refl _)
    generalize (List.range s.length).foldl (fun C k => putN n C (drp s k)) C = C' at i1 i2 i3
    have hsC : s ∉ C' := fun hm' => by
     rcases (i3 s).1 hm' with h | ⟨⟨k, hk, hx⟩, _⟩
     ·exact hm h
     ·have := hx.length_le
      rw [drp_length hk] at this; omega
    refine ⟨ins_srt i1 hsC, fun t ht htl k hk => ?_, fun x => ?_⟩
    ·rw [mem_ins] at ht ⊢
     right
     rcases ht with rfl | ht
     ·refine (i3 _).2 (.inr ⟨⟨k, hk, List.Sublist.refl _⟩, fun e => ?_⟩)
      have := drp_length hk
      rw [e] at this; simp at this; omega
     ·exact i2 t ht htl k hk
    ·rw [mem_ins, i3, sub_cases (x := x) (s := s)]
     constructor
     ·rintro (rfl | h | ⟨h, hne⟩)
      ·exact .inr ⟨.inl rfl, hne⟩
      ·exact .inl h
      ·exact .inr ⟨.inr h, hne⟩
     ·rintro (h | ⟨h | h, hne⟩)
      ·exact .inr (.inl h)
      ·exact .inl h
      ·exact .inr (.inr ⟨h, hne⟩)
   ·simp only [if_neg h1]
    have hfold : ∀ (l : List Nat), l.foldl (fun (C : List (List Int)) (_ : Nat) => C) C = C := by
     intro l; induction l with
     | nil => rfl
     | cons a l ih => simpa using ih
    rw [hfold]
    refine ⟨ins_srt hs hm, fun t ht htl k hk => ?_, fun x => ?_⟩
    ·rw [mem_ins] at ht ⊢
     rcases ht with rfl | ht
     ·omega
     ·exact .inr (hc t ht htl k hk)
    ·rw [mem_ins, sub_cases (x := x) (s := s)]
     constructor
     ·rintro (rfl | h)
      ·exact .inr ⟨.inl rfl, hne⟩
      ·exact .inl h
     ·rintro (h | ⟨h | ⟨k, hk, hx⟩, hx2⟩)
      ·exact .inr h
      ·exact .inl h
      ·have h3 := hx.length_le
       rw [drp_length hk] at h3
       cases x with
       | nil => exact absurd rfl hx2
       | cons a x => simp at h3; omega
theorem put_all : ∀ (L : List (List Int)) {C : List (List Int)}, (∀ s, s ∈ L → s ≠ []) → Srt C → Closed C →
  Srt (L.foldl (fun C s => putN s.length C s) C) ∧ Closed (L.foldl (fun C s => putN s.length C s) C) ∧ ∀ x, x ∈ L.foldl (fun C s => putN s.length C s) C ↔ x ∈ C ∨ ((∃ s, s ∈ L ∧ x.Sublist s) ∧ x ≠ [])
 | [], C, _, hs, hc => ⟨hs, hc, fun x => ⟨.inl, fun h => h.elim id (fun ⟨⟨s, h, _⟩, _⟩ => by cases h)⟩⟩
 | s :: L, C, hne, hs, hc => by
  obtain ⟨i1, i2, i3⟩ := putN_spec s.length (Nat.le_refl _) (hne s List.mem_cons_self) hs hc
  obtain ⟨j1, j2, j3⟩ := put_all L (fun t ht => hne t (List.mem_cons_of_mem _ ht)) i1 i2
  refine ⟨j1, j2, fun x => ?_⟩
  rw [List.foldl_cons, j3, i3]
  constructor
  ·rintro ((h | ⟨h, hx⟩) | ⟨⟨t, ht, h⟩, hx⟩)
   ·exact .inl h
   ·exact .inr ⟨⟨s, List.mem_cons_self, h⟩, hx⟩
   ·exact .inr ⟨⟨t, List.mem_cons_of_mem _ ht, h⟩, hx⟩
  ·rintro (h | ⟨⟨t, ht, h⟩, hx⟩)
   ·exact .inl (.inl h)
   ·rcases List.mem_cons.1 ht with rfl | ht
    ·exact .inl (.inr ⟨h, hx⟩)
    ·exact .inr ⟨⟨t, ht, h⟩, hx⟩
end Go.Proofs.Ytabbkjgbdpcopaa.B.SimT

set_option linter.unusedVariables false
set_option linter.unusedSimpArgs false
namespace Go.Proofs.Ytabbkjgbdpcopaa.B
open Go.RowKit Go.Proofs.YtabbkjgbdpcopaaW.PrintWords

theorem slicesEqual_ev (l m : List Int) (hl : l.length < 9223372036854775807) : Ev (fun k => z95.f k l m) (l == m) := by
 unfold z95.f
 by_cases h : l.length = m.length
 ·refine ev_pos (by omega) ?_
  rw [← list_eq_range l m 0 h]
  refine ev_all (fun (i : Nat) k => z95.l0 k l m (l.length : Int) (i : Int)) _ l.length (fun j hj hp r hr => ?_) (fun j hj hp => ?_) ?_
  ·refine Ev.step (fun k => z95.l0.eq_2 ..) ?_
   refine ev_pos (by omega) (ev_pos (by omega) (ev_pos (by omega) (ev_pos (by omega) (ev_pos ?_ ?_))))
   ·rw [rd_nat, rd_nat]; exact eq_of_beq hp
   ·rw [wrap_succ (by omega)]; exact hr
  ·refine Ev.step (fun k => z95.l0.eq_2 ..) ?_
   refine ev_pos (by omega) (ev_pos (by omega) (ev_pos (by omega) (ev_pos (by omega) (ev_neg ?_ (Ev.now _)))))
   rw [rd_nat, rd_nat]; exact ne_of_beq_false hp
  ·refine Ev.step (fun k => z95.l0.eq_2 ..) ?_
   exact ev_neg (by omega) (Ev.now _)
 ·rw [len_ne_beq h]
  exact ev_neg (by omega) (Ev.now _)
theorem areSame_ev (l m : List (List Int)) (hl : l.length < 9223372036854775807) (hr : ∀ x ∈ l, x.length < 9223372036854775807) : Ev (fun k => z56.f k l m) (l == m) := by
 unfold z56.f z159.f
 refine Ev.bind (a := (l == m)) ?_ (Ev.now _)
 by_cases h : l.length = m.length
 ·refine ev_pos (by omega) ?_
  rw [← list_eq_range l m [] h]
  have hm : ∀ j, j < l.length → Ev (fun k => z95.f k (rd_ListInt l (j : Int)) (rd_ListInt m (j : Int))) (l.getD j [] == m.getD j []) := fun j hj => by
   rw [rdl_nat, rdl_nat]
   exact slicesEqual_ev _ _ (hr _ (getD_mem [] hj))
  refine ev_all (fun (i : Nat) k => z159.l0 k m l (l.length : Int) (i : Int)) _ l.length (fun j hj hp r hr => ?_) (fun j hj hp => ?_) ?_
  ·refine Ev.step (fun k => z159.l0.eq_2 ..) ?_
   refine ev_pos (by omega) (ev_pos (by omega) (ev_pos (by omega) (ev_pos (by omega) (Ev.bind (hm j hj) (ev_pos hp ?_)))))
   rw [wrap_succ (by omega)]; exact hr
  ·refine Ev.step (fun k => z159.l0.eq_2 ..) ?_
   exact ev_pos (by omega) (ev_pos (by omega) (ev_pos (by omega) (ev_pos (by omega) (Ev.bind (hm j hj) (ev_neg (by rw [hp]; decide) (Ev.now _))))))
  ·refine Ev.step (fun k => z159.l0.eq_2 ..) ?_
   exact ev_neg (by omega) (Ev.now _)
 ·rw [len_ne_beq h]
  exact ev_neg (by omega) (Ev.now _)
theorem same_ev (l m : List Int) (hl : l.length < 9223372036854775807) : Ev (fun k => z93.f k l m) (l == m) := by
 unfold z93.f
 by_cases h : l.length = m.length
 ·refine ev_pos (by omega) ?_
  rw [← list_eq_range l m 0 h]
  refine ev_all (fun (i : Nat) k => z93.l0 k l m (i : Int)) _ l.length (fun j hj hp r hr => ?_) (fun j hj hp => ?_) ?_
  ·refine Ev.step (fun k => z93.l0.eq_2 ..) ?_
   refine ev_pos (by omega) (ev_pos (by omega) (ev_pos (by omega) (ev_pos ?_ ?_)))
   ·rw [rd_nat, rd_nat]; exact eq_of_beq hp
   ·rw [wrap_succ (by omega)]; exact hr
  ·refine Ev.step (fun k => z93.l0.eq_2 ..) ?_
   refine ev_pos (by omega) (ev_pos (by omega) (ev_pos (by omega) (ev_neg ?_ (Ev.now _))))
   rw [rd_nat, rd_nat]; exact ne_of_beq_false hp
  ·refine Ev.step (fun k => z93.l0.eq_2 ..) ?_
   exact ev_neg (by omega) (Ev.now _)
 ·rw [len_ne_beq h]
  exact ev_neg (by omega) (Ev.now _)
end Go.Proofs.Ytabbkjgbdpcopaa.B

set_option linter.unusedVariables false
set_option linter.unusedSimpArgs false
namespace Go.Proofs.Ytabbkjgbdpcopaa.B
open Go.RowKit Go.Proofs.YtabbkjgbdpcopaaW.PrintWords
open SimT

def lexcmp : List Int → List Int → Int
 | [], [] => 0
 | [], _ :: _ => -1
 | _ :: _, [] => 1
 | a :: l, b :: m => if a < b then -1 else if a > b then 1 else lexcmp l m
theorem lexcmp_neg : ∀ l m, lexcmp l m < 0 ↔ lexlt l m = true
 | [], [] => by simp [lexcmp, lexlt]
 | [], _ :: _ => by simp [lexcmp, lexlt]
 | _ :: _, [] => by simp [lexcmp, lexlt]
 | a :: l, b :: m => by
  simp only [lexcmp, lexlt]
  by_cases h1 : a < b
  ·rw [if_pos h1, if_pos h1]; simp
  ·rw [if_neg h1, if_neg h1]
   by_cases h2 : b < a
   ·rw [if_pos h2, if_pos h2]; simp
   ·rw [if_neg h2, if_neg h2]; exact lexcmp_neg l m
theorem lexcmp_zero : ∀ l m, lexcmp l m = 0 ↔ l = m
 | [], [] => by simp [lexcmp]
 | [], _ :: _ => by simp [lexcmp]
 | _ :: _, [] => by simp [lexcmp]
 | a :: l, b :: m => by
  simp only [lexcmp]
  by_cases h1 : a < b
  ·rw [if_pos h1]
   refine ⟨fun h => by omega, fun h => ?_⟩
   injection h with h _; omega
  ·rw [if_neg h1]
   by_cases h2 : a > b
   ·rw [if_pos h2]
    refine ⟨fun h => by omega, fun h => ?_⟩
    injection h with h _; omega
   ·rw [if_neg h2, lexcmp_zero l m]
    have : a = b := by omega
    subst this
    exact ⟨fun h => by rw [h], fun h => by injection h⟩
def icmp (a b : Int) : Int := if a < b then -1 else if a > b then 1 else 0
theorem cmpInt_val (a b : Int) : z99.f a b = some (icmp a b) := by
 unfold z99.f z117.f icmp
 simp only [bne_self_eq_false, Option.bind_some, Bool.false_eq_true, if_false]
 split
 ·rfl
 ·split <;> rfl
theorem cmpInt64_val (a b : Int) : z118.f a b = some (icmp a b) := by
 unfold z118.f z124.f icmp
 simp only [bne_self_eq_false, Option.bind_some, Bool.false_eq_true, if_false]
 split
 ·rfl
 ·split <;> rfl
theorem drop_cons {l : List Int} {i : Nat} (h : i < l.length) : l.drop i = l.getD i 0 :: l.drop (i + 1) := by
 rw [List.drop_eq_getElem_cons h, List.getD_eq_getElem?_getD, List.getElem?_eq_getElem h]; rfl
theorem slicesCompare_ev (l m : List Int) (hl : l.length < 9223372036854775807) (hm : m.length < 9223372036854775807) : Ev (fun k => z100.f k l m) (lexcmp l m) := by
 have main : ∀ (d i : Nat), i + d = l.length → i ≤ m.length → Ev (fun k => z100.l0 k l m l (l.length : Int) (i : Int)) (lexcmp (l.drop i) (m.drop i)) := by
  intro d
  induction d with
  | zero =>
   intro i hi him
   rw [List.drop_of_length_le (show l.length ≤ i by omega)]
   refine Ev.step (fun k => z100.l0.eq_2 ..) ?_
   refine ev_neg (by omega) ?_
   by_cases h : i < m.length
   ·rw [drop_cons h]
    exact ev_pos (by omega) (Ev.now _)
   ·rw [List.drop_of_length_le (show m.length ≤ i by omega)]
    exact ev_neg (by omega) (Ev.now _)
  | succ d ih =>
   intro i hi him
   rw [drop_cons (show i < l.length by omega)]
   refine Ev.step (fun k => z100.l0.eq_2 ..) ?_
   refine ev_pos (by omega) (ev_pos (by omega) (ev_pos (by omega) ?_))
   by_cases h : i < m.length
   ·rw [drop_cons h, rd_nat, rd_nat, wrap_succ (by omega)]
    refine ev_neg (by omega) (ev_pos (by omega) (Ev.bind (ev_const (cmpInt64_val _ _)) ?_))
    simp only [lexcmp]
    unfold icmp
    by_cases h1 : l.getD i 0 < m.getD i 0
    ·rw [if_pos h1, if_pos h1]; exact ev_neg (by omega) (Ev.now _)
    ·rw [if_neg h1, if_neg h1]
     by_cases h2 : l.getD i 0 > m.getD i 0
     ·rw [if_pos h2, if_pos h2]; exact ev_neg (by omega) (Ev.now _)
     ·rw [if_neg h2, if_neg h2]; exact ev_pos rfl (ih (i + 1) (by omega) (by omega))
   ·rw [List.drop_of_length_le (show m.length ≤ i by omega)]
    exact ev_pos (by omega) (Ev.now _)
 have := main l.length 0 (by omega) (by omega)
 simpa [z100.f] using this
def scmp (a b : List Int) : Int := if icmp (a.length : Int) (b.length : Int) = 0 then lexcmp a b else icmp (a.length : Int) (b.length : Int)
theorem scmp_neg (a b : List Int) : scmp a b < 0 ↔ slt a b = true := by
 rw [slt_iff]
 unfold scmp icmp
 rcases Nat.lt_trichotomy a.length b.length with h | h | h
 ·rw [if_pos (show (a.length : Int) < b.length by omega)]; simp [h]
 ·rw [if_neg (show ¬ (a.length : Int) < b.length by omega), if_neg (show ¬ (a.length : Int) > b.length by omega), if_pos rfl, lexcmp_neg]
  constructor
  ·exact fun h' => .inr ⟨h, h'⟩
  ·rintro (h' | h')
   ·omega
   ·exact h'.2
 ·rw [if_neg (show ¬ (a.length : Int) < b.length by omega), if_pos (show (a.length : Int) > b.length by omega)]
  simp
  omega
theorem scmp_zero (a b : List Int) : scmp a b = 0 ↔ a = b := by
 unfold scmp icmp
 rcases Nat.lt_trichotomy a.length b.length with h | h | h
 ·rw [if_pos (show (a.length : Int) < b.length by omega)]
  simp
  intro e; subst e; omega
 ·rw [if_neg (show ¬ (a.length : Int) < b.length by omega), if_neg (show ¬ (a.length : Int) > b.length by omega), if_pos rfl, lexcmp_zero]
 ·rw [if_neg (show ¬ (a.length : Int) < b.length by omega), if_pos (show (a.length : Int) > b.length by omega)]
  simp
  intro e; subst e; omega
theorem cmpOr_ev (a b : Int) : Ev (fun k => z98.f k [a, b]) (if a = 0 then b else a) := by
 unfold z98.f
 refine Ev.step (fun k => z98.l0.eq_2 ..) ?_
 refine ev_pos (by simp) (ev_pos (by omega) (ev_pos (by simp) ?_))
 simp only [rd, Int.toNat_zero, List.getD_cons_zero]
 by_cases h : a = 0
 ·rw [if_pos h]
  refine ev_pos h ?_
  refine Ev.step (fun k => z98.l0.eq_2 ..) ?_
  simp only [show wrap64 (0 + 1) = 1 by unfold wrap64; omega]
  refine ev_pos (by simp) (ev_pos (by omega) (ev_pos (by simp) ?_))
  simp only [rd, show Int.toNat 1 = 1 from rfl, List.getD_cons_succ, List.getD_cons_zero]
  by_cases h2 : b = 0
  ·refine ev_pos h2 ?_
   refine Ev.step (fun k => z98.l0.eq_2 ..) ?_
   simp only [show wrap64 (1 + 1) = 2 by unfold wrap64; omega]
   refine ev_neg (by simp) (ev_eq (Ev.now _) h2.symm)
  ·exact ev_neg h2 (Ev.now _)
 ·rw [if_neg h]
  exact ev_neg h (Ev.now _)
theorem compareS_ev (a b : List Int) (ha : a.length < 9223372036854775807) (hb : b.length < 9223372036854775807) : Ev (fun k => z59.f k a b) (scmp a b) := by
 unfold z59.f
 refine Ev.bind (ev_const (cmpInt_val _ _)) (Ev.bind (slicesCompare_ev a b ha hb) (Ev.bind (cmpOr_ev _ _) ?_))
 exact Ev.now _
theorem before_ev (a b : List Int) (ha : a.length < 9223372036854775807) : Ev (fun k => z96.f k a b) (slt a b) := by
 unfold z96.f
 by_cases hab : a.length = b.length
 ·refine ev_pos (by omega) ?_
  have e : slt a b = lexlt a b := by simp [slt, hab]
  rw [e]
  have main : ∀ (d i : Nat), i + d = a.length → Ev (fun k => z96.l0 k a b (i : Int)) (lexlt (a.drop i) (b.drop i)) := by
   intro d
   induction d with
   | zero =>
    intro i hi
    rw [List.drop_of_length_le (show a.length ≤ i by omega), List.drop_of_length_le (show b.length ≤ i by omega)]
    refine Ev.step (fun k => z96.l0.eq_2 ..) ?_
    exact ev_neg (by omega) (Ev.now _)
   | succ d ih =>
    intro i hi
    rw [drop_cons (show i < a.length by omega), drop_cons (show i < b.length by omega)]
    refine Ev.step (fun k => z96.l0.eq_2 ..) ?_
    refine ev_pos (by omega) (ev_pos (by omega) (ev_pos (by omega) ?_))
    rw [rd_nat, rd_nat, wrap_succ (by omega)]
    simp only [lexlt]
    by_cases h : a.getD i 0 = b.getD i 0
    ·refine ev_pos h ?_
     rw [if_neg (by omega), if_neg (by omega)]
     exact ih (i + 1) (by omega)
    ·refine ev_neg h ?_
     by_cases h1 : a.getD i 0 < b.getD i 0
     ·rw [if_pos h1]; exact ev_eq (Ev.now _) (decide_eq_true h1)
     ·rw [if_neg h1, if_pos (by omega)]; exact ev_eq (Ev.now _) (decide_eq_false h1)
  have := main a.length 0 (by omega)
  simpa using this
 ·refine ev_neg (by omega) (ev_eq (Ev.now _) ?_)
  rw [Bool.eq_iff_iff, slt_iff, decide_eq_true_iff]
  constructor
  ·exact fun h => .inl (by omega)
  ·rintro (h | h)
   ·omega
   ·exact absurd h.1 hab

def idx (l : List (List Int)) (s : List Int) : Int := if s ∈ l then ((l.idxOf s : Nat) : Int) else -1
theorem idx_neg (l : List (List Int)) (s : List Int) : idx l s < 0 ↔ s ∉ l := by
 unfold idx
 by_cases h : s ∈ l
 ·rw [if_pos h]
  exact ⟨fun h' => by omega, fun h' => absurd h h'⟩
 ·rw [if_neg h]
  exact ⟨fun _ => h, fun _ => by omega⟩
theorem idx_get {l : List (List Int)} {s : List Int} (h : s ∈ l) : ∃ i, i < l.length ∧ idx l s = (i : Int) ∧ l.getD i [] = s ∧ ∀ j, j < i → l.getD j [] ≠ s := by
 refine ⟨l.idxOf s, List.idxOf_lt_length_of_mem h, by unfold idx; rw [if_pos h], ?_, fun j hj e => ?_⟩
 ·have hl := List.idxOf_lt_length_of_mem h
  rw [List.getD_eq_getElem?_getD, List.getElem?_eq_getElem hl]
  exact List.getElem_idxOf hl
 ·have hl := List.idxOf_lt_length_of_mem h
  have := List.not_of_lt_findIdx (p := fun x => x == s) (xs := l) (i := j) hj
  have hjl : j < l.length := by omega
  rw [List.getD_eq_getElem?_getD, List.getElem?_eq_getElem hjl] at e
  simp at e this
  exact this e
theorem idx_of {l : List (List Int)} {s : List Int} {i : Nat} (hi : i < l.length) (he : l.getD i [] = s) (hb : ∀ j, j < i → l.getD j [] ≠ s) : idx l s = (i : Int) := by
 have hm : s ∈ l := he ▸ getD_mem [] hi
 obtain ⟨j, hj, e1, e2, e3⟩ := idx_get hm
 rw [e1]
 rcases Nat.lt_trichotomy i j with h | h | h
 ·exact absurd he (e3 i h)
 ·rw [h]
 ·exact absurd e2 (hb j h)
theorem find_ev (l : List (List Int)) (s : List Int) (hl : l.length < 9223372036854775807) (hr : ∀ x ∈ l, x.length < 9223372036854775807) : Ev (fun k => z64.f k l s) (idx l s) := by
 unfold z64.f
 refine ev_find (fun (i : Nat) k => z64.l0 k s (i : Int) l) (fun i => l.getD i [] == s) l.length 0 (fun j _ hj hp r hr' => ?_) (fun j _ hj hp hb => ?_) (fun hall => ?_)
 ·refine Ev.step (fun k => z64.l0.eq_2 ..) ?_
  refine ev_pos (by omega) (ev_pos (by omega) ?_)
  rw [rdl_nat, wrap_succ (by omega)]
  exact Ev.bind (same_ev _ _ (hr _ (getD_mem [] (by omega)))) (ev_neg (by rw [hp]; decide) hr')
 ·have e : idx l s = (j : Int) := idx_of (by omega) (eq_of_beq hp) (fun m hm he => by have := hb m (Nat.zero_le _) hm; rw [he] at this; simp at this)
  rw [e]
  refine Ev.step (fun k => z64.l0.eq_2 ..) ?_
  refine ev_pos (by omega) (ev_pos (by omega) ?_)
  rw [rdl_nat]
  exact Ev.bind (same_ev _ _ (hr _ (getD_mem [] (by omega)))) (ev_pos hp (Ev.now _))
 ·have e : idx l s = -1 := by
   unfold idx
   rw [if_neg]
   intro hm
   obtain ⟨i, hi, _, e2, _⟩ := idx_get hm
   have := hall i (Nat.zero_le _) (by omega)
   rw [e2] at this; simp at this
  rw [e]
  refine Ev.step (fun k => z64.l0.eq_2 ..) ?_
  exact ev_neg (by omega) (Ev.now _)
theorem srt_take {l : List (List Int)} (h : Srt l) (k : Nat) : Srt (l.take k) := List.Pairwise.sublist (List.take_sublist k l) h
theorem search_ev (l : List (List Int)) (s : List Int) (hl : l.length < 4611686018427387904) (hr : ∀ x ∈ l, x.length < 9223372036854775807) (hs : s.length < 9223372036854775807) (hsrt : Srt l) :
  ∃ t, Ev (fun k => z161.f k l s) t ∧ (if t.2 = true then t.1 else -1) = idx l s := by
 have lo_of : ∀ i, i < l.length → slt (l.getD i []) s = true → ∀ j, j ≤ i → slt (l.getD j []) s = true := fun i hi h j hj => by
  rcases Nat.eq_or_lt_of_le hj with rfl | hlt
  ·exact h
  ·exact slt_trans (srt_get hsrt hlt hi) h
 have hi_of : ∀ i, i < l.length → slt (l.getD i []) s = false → ∀ j, i ≤ j → j < l.length → slt (l.getD j []) s = false := fun i hi h j hj hjl => by
  cases hh : slt (l.getD j []) s with
  | false => rfl
  | true => rw [lo_of j hjl hh i hj] at h; cases h
 have main : ∀ (d lo hi : Nat), lo ≤ hi → hi - lo ≤ d → hi ≤ l.length → (∀ j, j < lo → slt (l.getD j []) s = true) → (∀ j, hi ≤ j → j < l.length → slt (l.getD j []) s = false) →
   ∃ t, Ev (fun k => z161.l0 k l s (l.length : Int) (lo : Int) (hi : Int)) t ∧ (if t.2 = true then t.1 else -1) = idx l s := by
  intro d
  induction d with
  | zero =>
   intro lo hi h1 h2 h3 hlo hhi
   have : lo = hi := by omega
   subst this
   by_cases hn : lo < l.length
   ·refine ⟨((lo : Int), (scmp (l.getD lo []) s == 0)), ?_, ?_⟩
    ·refine Ev.step (fun k => z161.l0.eq_2 ..) ?_
     refine ev_neg (by omega) (ev_pos (by omega) (ev_pos (by omega) (ev_pos (by omega) ?_)))
     rw [rdl_nat]
     exact Ev.bind (compareS_ev _ _ (hr _ (getD_mem [] hn)) hs) (Ev.now _)
    ·by_cases he : l.getD lo [] = s
     ·have : (scmp (l.getD lo []) s == 0) = true := by rw [beq_iff_eq, scmp_zero]; exact he
      simp only [this, if_true]
      exact (idx_of hn he (fun j hj e => by have := hlo j hj; rw [e, slt_irrefl] at this; cases this)).symm
     ·have : (scmp (l.getD lo []) s == 0) = false := by rw [beq_eq_false_iff_ne]; exact fun h => he ((scmp_zero _ _).1 h)
      simp only [this, Bool.false_eq_true, if_false]
      have hnm : s ∉ l := fun hm => by
       obtain ⟨i, hi, _, e2, _⟩ := idx_get hm
       rcases Nat.lt_trichotomy i lo with h | h | h
       ·have := hlo i h; rw [e2, slt_irrefl] at this; cases this
       ·subst h; exact he e2
       ·have h5 := srt_get hsrt h hi
        rw [e2] at h5
        have := hhi lo (Nat.le_refl _) hn
        rw [h5] at this; cases this
      unfold idx; rw [if_neg hnm]
   ·refine ⟨((lo : Int), false), ?_, ?_⟩
    ·refine Ev.step (fun k => z161.l0.eq_2 ..) ?_
     exact ev_neg (by omega) (ev_neg (by omega) (Ev.now _))
    ·simp only [Bool.false_eq_true, if_false]
     have hnm : s ∉ l := fun hm => by
      obtain ⟨i, hi, _, e2, _⟩ := idx_get hm
      have := hlo i (by omega); rw [e2, slt_irrefl] at this; cases this
     unfold idx; rw [if_neg hnm]
  | succ d ih =>
   intro lo hi h1 h2 h3 hlo hhi
   by_cases hlt : lo < hi
   ·have em : wrap64 (IntKind.u64.wrap (wrap64 ((lo : Int) + (hi : Int))) / 2) = (((lo + hi) / 2 : Nat) : Int) := by
     have e1 : wrap64 ((lo : Int) + (hi : Int)) = (lo : Int) + (hi : Int) := wrap_small (by omega) (by omega)
     have e2 : IntKind.u64.wrap ((lo : Int) + (hi : Int)) = (lo : Int) + (hi : Int) := by
      simp [IntKind.wrap, IntKind.bits, IntKind.signed]; omega
     rw [e1, e2, wrap_small (by omega) (by omega)]; omega
    have hm : (lo + hi) / 2 < l.length := by omega
    have hmr := hr _ (getD_mem ([] : List Int) hm)
    cases hc : slt (l.getD ((lo + hi) / 2) []) s with
    | true =>
     obtain ⟨t, ht, hv⟩ := ih ((lo + hi) / 2 + 1) hi (by omega) (by omega) h3 (fun j hj => lo_of _ hm hc j (by omega)) hhi
     refine ⟨t, ?_, hv⟩
     refine Ev.step (fun k => z161.l0.eq_2 ..) ?_
     rw [em, rdl_nat, wrap_succ (by omega)]
     refine ev_pos (by omega) (ev_pos (by omega) (ev_pos (by omega) (Ev.bind (compareS_ev _ _ hmr hs) (ev_pos ((scmp_neg _ _).2 hc) ht))))
    | false =>
     obtain ⟨t, ht, hv⟩ := ih lo ((lo + hi) / 2) (by omega) (by omega) (by omega) hlo (fun j hj hjl => hi_of _ hm hc j hj hjl)
     refine ⟨t, ?_, hv⟩
     refine Ev.step (fun k => z161.l0.eq_2 ..) ?_
     rw [em, rdl_nat, wrap_succ (by omega)]
     refine ev_pos (by omega) (ev_pos (by omega) (ev_pos (by omega) (Ev.bind (compareS_ev _ _ hmr hs) (ev_neg (fun h => ?_) ht))))
     have := (scmp_neg _ _).1 h
     rw [hc] at this; cases this
   ·exact ih lo hi h1 (by omega) h3 hlo hhi
 exact main l.length 0 l.length (by omega) (by omega) (Nat.le_refl _) (fun j hj => by omega) (fun j h1 h2 => by omega)
theorem indexOf_ev (l : List (List Int)) (s : List Int) (hl : l.length < 4611686018427387904) (hr : ∀ x ∈ l, x.length < 9223372036854775807) (hs : s.length < 9223372036854775807) (hsrt : Srt l) : Ev (fun k => z63.f k l s) (idx l s) := by
 obtain ⟨t, ht, hv⟩ := search_ev l s hl hr hs hsrt
 unfold z63.f
 refine Ev.bind ht ?_
 rw [← hv]
 cases h : t.2 with
 | true => exact ev_pos rfl (ev_eq (Ev.now _) (by simp))
 | false => exact ev_neg (by simp) (ev_eq (Ev.now _) (by simp))
end Go.Proofs.Ytabbkjgbdpcopaa.B

set_option linter.unusedVariables false
set_option linter.unusedSimpArgs false
namespace Go.Proofs.Ytabbkjgbdpcopaa.B
open Go.RowKit Go.Proofs.YtabbkjgbdpcopaaW.PrintWords

def rises (l : List Int) (i : Nat) : Bool := i == 0 || decide (l.getD (i - 1) 0 < l.getD i 0)
def rising (l : List Int) : Bool := (List.range l.length).all (rises l)
def isSimplex (l : List Int) : Bool := (decide (1 ≤ l.length) && decide (l.length ≤ 4)) && (rising l && l.all fun v => decide (0 ≤ v) && decide (v ≤ 9))
theorem isRising_ev (l : List Int) (hl : l.length < 9223372036854775807) : Ev (fun k => z49.f k l) (rising l) := by
 unfold z49.f
 rcases Nat.eq_zero_or_pos l.length with h0 | h0
 ·have : rising l = true := by unfold rising; rw [h0]; rfl
  rw [this]
  refine Ev.step (fun k => z49.l0.eq_2 ..) ?_
  exact ev_neg (by omega) (Ev.now _)
 ·refine ev_find (fun (i : Nat) k => z49.l0 k l (i : Int)) (fun i => !rises l i) (l.length - 1) 1 (fun i hi hi2 hp r hr => ?_) (fun i hi hi2 hp _ => ?_) (fun hall => ?_)
  ·have hp : rises l i = true := by simpa using hp
   unfold rises at hp
   have e : (i == 0) = false := by simpa using (show i ≠ 0 by omega)
   rw [e, Bool.false_or] at hp
   have hp := of_decide_eq_true hp
   refine Ev.step (fun k => z49.l0.eq_2 ..) ?_
   rw [show wrap64 ((i : Int) - 1) = ((i - 1 : Nat) : Int) by rw [wrap_small (by omega) (by omega)]; omega, rd_nat, rd_nat, wrap_succ (by omega)]
   exact ev_pos (by omega) (ev_pos (by omega) (ev_pos (by omega) (ev_pos (by omega) (ev_neg (by omega) hr))))
  ·have hp : rises l i = false := by simpa using hp
   have hf : rising l = false := by
    unfold rising
    rw [Bool.eq_false_iff]
    intro h
    have := List.all_eq_true.1 h i (List.mem_range.2 (by omega))
    rw [hp] at this; cases this
   rw [hf]
   unfold rises at hp
   have e : (i == 0) = false := by simpa using (show i ≠ 0 by omega)
   rw [e, Bool.false_or] at hp
   have hp := of_decide_eq_false hp
   refine Ev.step (fun k => z49.l0.eq_2 ..) ?_
   rw [show wrap64 ((i : Int) - 1) = ((i - 1 : Nat) : Int) by rw [wrap_small (by omega) (by omega)]; omega, rd_nat, rd_nat]
   exact ev_pos (by omega) (ev_pos (by omega) (ev_pos (by omega) (ev_pos (by omega) (ev_pos (by omega) (Ev.now _)))))
  ·have hf : rising l = true := List.all_eq_true.2 (fun i hi => by
    have hi := List.mem_range.1 hi
    rcases Nat.eq_zero_or_pos i with h | h
    ·subst h; rfl
    ·simpa using hall i h (by omega))
   rw [hf, show 1 + (l.length - 1) = l.length by omega]
   refine Ev.step (fun k => z49.l0.eq_2 ..) ?_
   exact ev_neg (by omega) (Ev.now _)
theorem vertex_val (v : Int) : z51.f v = some (!(decide (0 ≤ v) && decide (v ≤ 9))) := by
 unfold z51.f z52.f
 rw [within_val]; rfl
theorem vertices_ev (l : List Int) (hl : l.length < 9223372036854775807) : Ev (fun k => z157.f k l) (l.any fun v => !(decide (0 ≤ v) && decide (v ≤ 9))) := by
 obtain ⟨t, ht, hd⟩ := ev_index_list (l) 0 (fun i k => z158.l0 k (l) ((l).length : Int) (i : Int) ) (fun v => !(decide (0 ≤ v) && decide (v ≤ 9))) (fun j hj hp r hr => by
   refine Ev.step (fun k => z158.l0.eq_2 ..) ?_
   refine ev_pos (by omega) (ev_pos (by omega) (ev_pos (by omega) ?_))
   rw [rd_nat, wrap_succ (by omega)]
   exact Ev.bind (ev_const (vertex_val _)) (ev_neg (by rw [hp]; decide) hr)) (fun j hj hp => by
   refine Ev.step (fun k => z158.l0.eq_2 ..) ?_
   refine ev_pos (by omega) (ev_pos (by omega) (ev_pos (by omega) ?_))
   rw [rd_nat]
   exact Ev.bind (ev_const (vertex_val _)) (ev_pos hp (Ev.now _))) (by
   refine Ev.step (fun k => z158.l0.eq_2 ..) ?_
   exact ev_neg (by omega) (Ev.now _))
 unfold z157.f z158.f
 refine Ev.bind ht (ev_eq (Ev.now _) hd)
theorem implSimplex_ev (l : List Int) (hl : l.length < 9223372036854775807) : Ev (fun k => z17.f k l) (isSimplex l) := by
 unfold z17.f isSimplex
 by_cases h1 : 1 ≤ l.length
 ·rw [decide_eq_true h1, Bool.true_and]
  refine ev_pos (by omega) ?_
  by_cases h4 : l.length ≤ 4
  ·rw [decide_eq_true h4, Bool.true_and]
   refine ev_pos (by omega) (Ev.bind (isRising_ev l hl) ?_)
   cases hr : rising l with
   | false => exact ev_neg (by decide) (Ev.now _)
   | true =>
    refine ev_pos rfl (Ev.bind (vertices_ev l hl) (ev_eq (Ev.now _) ?_))
    rw [List.any_eq_not_all_not]; simp
  ·rw [decide_eq_false h4, Bool.false_and]
   exact ev_neg (by omega) (Ev.now _)
 ·rw [decide_eq_false h1, Bool.false_and, Bool.false_and]
  exact ev_neg (by omega) (Ev.now _)
theorem specRises_ev (l : List Int) (a b : Int) (hl : l.length < 9223372036854775807) : Ev (fun k => z89.f k l a b) (rising l && l.all fun v => decide (a ≤ v) && decide (v ≤ b)) := by
 have e : (rising l && l.all fun v => decide (a ≤ v) && decide (v ≤ b)) = (List.range l.length).all fun i => (decide (a ≤ l.getD i 0) && decide (l.getD i 0 ≤ b)) && rises l i := by
  rw [← all_range l 0, rising, Bool.eq_iff_iff, Bool.and_eq_true, List.all_eq_true, List.all_eq_true, List.all_eq_true]
  constructor
  ·rintro ⟨h1, h2⟩ i hi
   rw [h1 i hi, h2 i hi]; rfl
  ·intro h
   exact ⟨fun i hi => ((Bool.and_eq_true _ _).mp (h i hi)).2, fun i hi => ((Bool.and_eq_true _ _).mp (h i hi)).1⟩
 rw [e]
 unfold z89.f
 refine ev_all (fun (i : Nat) k => z89.l0 k l a b (i : Int)) _ l.length (fun i hi hp r hr => ?_) (fun i hi hp => ?_) ?_
 ·obtain ⟨h1, h2⟩ := (Bool.and_eq_true _ _).mp hp
  refine Ev.step (fun k => z89.l0.eq_2 ..) ?_
  rw [rd_nat, wrap_succ (by omega)]
  refine ev_pos (by omega) (ev_pos (by omega) (Ev.bind (ev_const (in_val _ _ _)) (ev_pos h1 ?_)))
  rcases Nat.eq_zero_or_pos i with h | h
  ·exact ev_neg (by omega) hr
  ·have e : (i == 0) = false := by simpa using (show i ≠ 0 by omega)
   unfold rises at h2
   rw [e, Bool.false_or] at h2
   have h2 := of_decide_eq_true h2
   rw [show wrap64 ((i : Int) - 1) = ((i - 1 : Nat) : Int) by rw [wrap_small (by omega) (by omega)]; omega, rd_nat]
   exact ev_pos (by omega) (ev_pos (by omega) (ev_pos (by omega) (ev_neg (by omega) hr)))
 ·refine Ev.step (fun k => z89.l0.eq_2 ..) ?_
  rw [rd_nat]
  refine ev_pos (by omega) (ev_pos (by omega) (Ev.bind (ev_const (in_val _ _ _)) ?_))
  cases h1 : decide (a ≤ l.getD i 0) && decide (l.getD i 0 ≤ b) with
  | false => exact ev_neg (by decide) (Ev.now _)
  | true =>
   rw [h1, Bool.true_and] at hp
   refine ev_pos rfl ?_
   rcases Nat.eq_zero_or_pos i with h | h
   ·subst h; cases hp
   ·have e : (i == 0) = false := by simpa using (show i ≠ 0 by omega)
    unfold rises at hp
    rw [e, Bool.false_or] at hp
    have hp := of_decide_eq_false hp
    rw [show wrap64 ((i : Int) - 1) = ((i - 1 : Nat) : Int) by rw [wrap_small (by omega) (by omega)]; omega, rd_nat]
    exact ev_pos (by omega) (ev_pos (by omega) (ev_pos (by omega) (ev_pos (by omega) (Ev.now _))))
 ·refine Ev.step (fun k => z89.l0.eq_2 ..) ?_
  exact ev_neg (by omega) (Ev.now _)
theorem specSimplex_ev (l : List Int) (hl : l.length < 9223372036854775807) : Ev (fun k => z48.f k l) (isSimplex l) := by
 unfold z48.f isSimplex
 refine Ev.bind (ev_const (in_val _ _ _)) ?_
 have e : (decide ((1 : Int) ≤ (l.length : Int)) && decide ((l.length : Int) ≤ 4)) = (decide (1 ≤ l.length) && decide (l.length ≤ 4)) := by
  rw [Bool.eq_iff_iff]; simp; omega
 rw [e]
 cases h : decide (1 ≤ l.length) && decide (l.length ≤ 4) with
 | false => exact ev_neg (by decide) (Ev.now _)
 | true => exact ev_pos rfl (Ev.bind (specRises_ev l 0 9 hl) (Ev.now _))
end Go.Proofs.Ytabbkjgbdpcopaa.B

set_option linter.unusedVariables false
set_option linter.unusedSimpArgs false
namespace Go.Proofs.Ytabbkjgbdpcopaa.B
open Go.RowKit Go.Proofs.YtabbkjgbdpcopaaW.PrintWords
open SimT

def faces (s : List Int) : List (List Int) := if 1 < s.length then (List.range s.length).map (drp s) else []
theorem faces_len (s : List Int) : (faces s).length ≤ s.length := by
 unfold faces
 split <;> simp
theorem faces_row {s x : List Int} (h : x ∈ faces s) : x.length ≤ s.length := by
 unfold faces at h
 split at h
 ·obtain ⟨i, hi, rfl⟩ := List.mem_map.1 h
  exact (drp_sub s i).length_le
 ·cases h
theorem mem_faces {s x : List Int} : x ∈ faces s ↔ 1 < s.length ∧ ∃ k, k < s.length ∧ drp s k = x := by
 unfold faces
 split
 ·rename_i h
  rw [List.mem_map]
  exact ⟨fun ⟨k, hk, e⟩ => ⟨h, k, List.mem_range.1 hk, e⟩, fun ⟨_, k, hk, e⟩ => ⟨k, List.mem_range.2 hk, e⟩⟩
 ·rename_i h
  exact ⟨fun hx => (by cases hx), fun hx => absurd hx.1 h⟩
theorem faces_get {s : List Int} (h : 1 < s.length) {i : Nat} (hi : i < s.length) : (faces s).getD i [] = drp s i := by
 unfold faces
 rw [if_pos h]
 simp [List.getD_eq_getElem?_getD, hi]
theorem faces_slt {s x : List Int} (h : x ∈ faces s) : slt x s = true := by
 obtain ⟨_, k, hk, rfl⟩ := mem_faces.1 h
 exact drp_slt hk
theorem facesOf_ev (s : List Int) (hs : s.length ≤ 1000000000000) : Ev (fun k => z61.f k s) (faces s) := by
 unfold z61.f
 by_cases h1 : 1 < s.length
 ·have := ev_map (fun (a : List (List Int)) (i : Nat) k => z61.l0 k s a (s.length : Int) (i : Int)) (drp s) s.length (fun j a hj ha r hr => by
   refine Ev.step (fun k => z61.l0.eq_2 ..) ?_
   have hal : a.length = j := by rw [ha]; simp
   rw [wrap_succ (by omega), Int.toNat_natCast, Int.toNat_natCast]
   refine ev_pos (by omega) (ev_pos (by omega) (ev_pos (by omega) (ev_pos (by omega) (ev_pos (by omega) (ev_pos (by omega) (Ev.bind (concat_ev _ (by simp) ?_) (ev_pos (by omega) ?_)))))))
   ·have h2 : (s.take j).length ≤ s.length := (List.take_sublist j s).length_le
    have h3 : (s.drop (j + 1)).length ≤ s.length := (List.drop_sublist (j + 1) s).length_le
    simp only [total]; omega
   ·have e : [s.take j, s.drop (j + 1)].flatten = drp s j := by simp [drp]
    rw [e]; exact hr)
  have e : faces s = (List.range s.length).map (drp s) := by unfold faces; rw [if_pos h1]
  rw [e]
  refine this _ ?_
  refine Ev.step (fun k => z61.l0.eq_2 ..) ?_
  exact ev_neg (by omega) (Ev.now _)
 ·have e : faces s = [] := by unfold faces; rw [if_neg h1]
  rw [e]
  refine ev_find (fun (i : Nat) k => z61.l0 k s ([] : List (List Int)) (s.length : Int) (i : Int)) (fun _ => false) s.length 0 (fun j _ hj _ r hr => ?_) (fun _ _ _ h => by cases h) (fun _ => ?_)
  ·refine Ev.step (fun k => z61.l0.eq_2 ..) ?_
   rw [wrap_succ (by omega)]
   exact ev_pos (by omega) (ev_neg (by omega) hr)
  ·refine Ev.step (fun k => z61.l0.eq_2 ..) ?_
   rw [Nat.zero_add]
   exact ev_neg (by omega) (Ev.now _)
theorem drop_val (s : List Int) (i : Nat) (hi : i < s.length) (hs : s.length ≤ 1000000000000) : z97.f s (i : Int) = some (drp s i) := by
 unfold z97.f z109.f
 have h2 : (s.take i).length ≤ s.length := (List.take_sublist i s).length_le
 have h3 : (s.drop (i + 1)).length ≤ s.length := (List.drop_sublist (i + 1) s).length_le
 rw [wrap_succ (by omega), Int.toNat_natCast, Int.toNat_natCast, if_pos (by omega), if_pos (by omega)]
 simp only [Option.bind_some, List.nil_append, List.length_nil, Nat.zero_add]
 rw [if_pos (by omega)]
 simp only [Option.bind_some]
 rw [if_pos (by omega), if_pos (by omega), if_pos (by omega)]
 rfl

def okAt (C : List (List Int)) (D : List (List Int)) (i : Nat) : Bool := (isSimplex (C.getD i []) && (i == 0 || slt (C.getD (i - 1) []) (C.getD i []))) && (faces (C.getD i [])).all fun f => decide (f ∈ D)
def okC (C : List (List Int)) : Bool := decide (C.length ≤ 48) && (List.range C.length).all (okAt C C)
theorem okAt_iff {C D : List (List Int)} {i : Nat} : okAt C D i = true ↔ isSimplex (C.getD i []) = true ∧ (i = 0 ∨ slt (C.getD (i - 1) []) (C.getD i []) = true) ∧ ∀ f, f ∈ faces (C.getD i []) → f ∈ D := by
 unfold okAt
 rw [Bool.and_eq_true, Bool.and_eq_true, Bool.or_eq_true, List.all_eq_true, beq_iff_eq]
 simp only [decide_eq_true_eq]
 exact ⟨fun ⟨⟨a, b⟩, c⟩ => ⟨a, b, c⟩, fun ⟨a, b, c⟩ => ⟨⟨a, b⟩, c⟩⟩
theorem srt_upto {C D : Nat → List (List Int)} {L : List (List Int)} (n : Nat) (hn : n ≤ L.length) (h : ∀ m, m < n → okAt L (D m) m = true) : Srt (L.take n) := by
 refine srt_of_get (fun i hi => ?_)
 rw [List.length_take] at hi
 have hi' : i + 1 < n := by omega
 obtain ⟨_, h2, _⟩ := okAt_iff.1 (h (i + 1) hi')
 have e1 : (L.take n).getD i [] = L.getD i [] := by
  rw [List.getD_eq_getElem?_getD, List.getD_eq_getElem?_getD, List.getElem?_take, if_pos (by omega)]
 have e2 : (L.take n).getD (i + 1) [] = L.getD (i + 1) [] := by
  rw [List.getD_eq_getElem?_getD, List.getD_eq_getElem?_getD, List.getElem?_take, if_pos hi']
 rw [e1, e2]
 rcases h2 with h2 | h2
 ·omega
 ·exact h2
theorem okC_iff {C : List (List Int)} : okC C = true ↔ C.length ≤ 48 ∧ Srt C ∧ (∀ s, s ∈ C → isSimplex s = true) ∧ Closed C := by
 unfold okC
 rw [Bool.and_eq_true, decide_eq_true_iff, List.all_eq_true]
 constructor
 ·rintro ⟨h1, h2⟩
  have h2' : ∀ m, m < C.length → okAt C C m = true := fun m hm => h2 m (List.mem_range.2 hm)
  have hs := srt_upto (C := fun _ => C) (D := fun _ => C) C.length (Nat.le_refl _) h2'
  rw [List.take_length] at hs
  refine ⟨h1, hs, fun s hs => ?_, fun s hs hl k hk => ?_⟩
  ·obtain ⟨i, hi, e⟩ := List.mem_iff_getElem.1 hs
   have := (okAt_iff.1 (h2' i hi)).1
   rw [List.getD_eq_getElem?_getD, List.getElem?_eq_getElem hi] at this
   simpa [e] using this
  ·obtain ⟨i, hi, e⟩ := List.mem_iff_getElem.1 hs
   have := (okAt_iff.1 (h2' i hi)).2.2
   rw [List.getD_eq_getElem?_getD, List.getElem?_eq_getElem hi] at this
   simp only [Option.getD_some, e] at this
   exact this _ (mem_faces.2 ⟨hl, k, hk, rfl⟩)
 ·rintro ⟨h1, h2, h3, h4⟩
  refine ⟨h1, fun i hi => okAt_iff.2 ⟨h3 _ (getD_mem [] (List.mem_range.1 hi)), ?_, fun f hf => ?_⟩⟩
  ·rcases Nat.eq_zero_or_pos i with h | h
   ·exact .inl h
   ·exact .inr (srt_get h2 (by omega) (List.mem_range.1 hi))
  ·obtain ⟨hl, k, hk, rfl⟩ := mem_faces.1 hf
   exact h4 _ (getD_mem [] (List.mem_range.1 hi)) hl k hk
theorem simplex_len {s : List Int} (h : isSimplex s = true) : 1 ≤ s.length ∧ s.length ≤ 4 := by
 unfold isSimplex at h
 rw [Bool.and_eq_true, Bool.and_eq_true, decide_eq_true_iff, decide_eq_true_iff] at h
 exact h.1
theorem okAt_take {C : List (List Int)} (hs : Srt C) {i : Nat} (hi : i < C.length) : okAt C (C.take i) i = okAt C C i := by
 rw [Bool.eq_iff_iff, okAt_iff, okAt_iff]
 refine and_congr Iff.rfl (and_congr Iff.rfl ⟨fun h f hf => List.mem_of_mem_take (h f hf), fun h f hf => ?_⟩)
 obtain ⟨j, hj, e⟩ := List.mem_iff_getElem.1 (h f hf)
 have hlt := faces_slt hf
 have ej : C.getD j [] = f := by rw [List.getD_eq_getElem?_getD, List.getElem?_eq_getElem hj]; exact e
 rcases Nat.lt_or_ge j i with hl | hg
 ·rw [List.mem_iff_getElem]
  exact ⟨j, by rw [List.length_take]; omega, by rw [List.getElem_take]; exact e⟩
 ·rcases Nat.eq_or_lt_of_le hg with rfl | hl
  ·rw [ej, slt_irrefl] at hlt; cases hlt
  ·have := srt_get hs hl hj
   rw [ej] at this
   rw [slt_asymm this] at hlt; cases hlt
theorem ok_same (C : List (List Int)) : ((List.range C.length).all (fun i => okAt C (C.take i) i) && decide (C.length ≤ 48)) = okC C := by
 unfold okC
 rw [Bool.and_comm]
 congr 1
 rw [Bool.eq_iff_iff, List.all_eq_true, List.all_eq_true]
 constructor
 ·intro h
  have hs := srt_upto (C := fun _ => C) (D := fun m => C.take m) (L := C) C.length (Nat.le_refl _) (fun m hm => h m (List.mem_range.2 hm))
  rw [List.take_length] at hs
  intro i hi
  rw [← okAt_take hs (List.mem_range.1 hi)]; exact h i hi
 ·intro h
  have hs := srt_upto (C := fun _ => C) (D := fun _ => C) (L := C) C.length (Nat.le_refl _) (fun m hm => h m (List.mem_range.2 hm))
  rw [List.take_length] at hs
  intro i hi
  rw [okAt_take hs (List.mem_range.1 hi)]; exact h i hi

theorem missing_ev (C : List (List Int)) (i : Nat) (hi : i ≤ C.length) (hl : C.length < 4611686018427387904) (hr : ∀ x ∈ C, x.length < 9223372036854775807) (hs : Srt (C.take i)) (f : List Int) (hf : f.length < 9223372036854775807) :
  Ev (fun k => z62.f k f C (i : Int)) (!decide (f ∈ C.take i)) := by
 unfold z62.f
 rw [Int.toNat_natCast]
 have hlt : (C.take i).length ≤ C.length := (List.take_sublist i C).length_le
 refine ev_pos (by omega) (ev_pos (by omega) (Ev.bind (indexOf_ev (C.take i) f (by omega) (fun x hx => hr x (List.mem_of_mem_take hx)) hf hs) (ev_eq (Ev.now _) ?_)))
 rw [Bool.eq_iff_iff, decide_eq_true_iff, idx_neg]; simp
theorem anyMissing_ev (C : List (List Int)) (n0 : Nat) (hi : n0 ≤ C.length) (hl : C.length < 4611686018427387904) (hrr : ∀ x ∈ C, x.length < 9223372036854775807) (hs : Srt (C.take n0)) (l : List (List Int)) (hll : l.length < 9223372036854775807) (hf : ∀ x ∈ l, x.length < 9223372036854775807) :
  Ev (fun k => z160.f k l C (n0 : Int)) (l.any fun f => !decide (f ∈ C.take n0)) := by
 obtain ⟨t, ht, hd⟩ := ev_index_list (l) [] (fun i k => z162.l0 k (l) ((l).length : Int) (i : Int) C (n0 : Int)) (fun f => !decide (f ∈ C.take n0)) (fun j hj hp r hr => by
   refine Ev.step (fun k => z162.l0.eq_2 ..) ?_
   refine ev_pos (by omega) (ev_pos (by omega) (ev_pos (by omega) ?_))
   rw [rdl_nat, wrap_succ (by omega)]
   exact Ev.bind (missing_ev C n0 hi hl hrr hs _ (hf _ (getD_mem [] hj))) (ev_neg (by rw [hp]; decide) hr)) (fun j hj hp => by
   refine Ev.step (fun k => z162.l0.eq_2 ..) ?_
   refine ev_pos (by omega) (ev_pos (by omega) (ev_pos (by omega) ?_))
   rw [rdl_nat]
   exact Ev.bind (missing_ev C n0 hi hl hrr hs _ (hf _ (getD_mem [] hj))) (ev_pos hp (Ev.now _))) (by
   refine Ev.step (fun k => z162.l0.eq_2 ..) ?_
   exact ev_neg (by omega) (Ev.now _))
 unfold z160.f z162.f
 refine Ev.bind ht (ev_eq (Ev.now _) hd)
theorem implValid_ev (C : List (List Int)) (hl : C.length ≤ 1048576) (hr : ∀ x ∈ C, x.length ≤ 1048576) : Ev (fun k => z25.f k C) (okC C) := by
 rw [← ok_same]
 unfold z25.f
 have hr' : ∀ x ∈ C, x.length < 9223372036854775807 := fun x hx => by have := hr x hx; omega
 -- the rest of a round
 have hrest : ∀ (j : Nat) (b : Bool), j < C.length → Srt (C.take j) → ∀ v, (b = false → ((faces (C.getD j [])).all fun f => decide (f ∈ C.take j)) = true → Ev (fun k => z25.l0 k C (C.length : Int) ((j + 1 : Nat) : Int) C) v) → (b = true ∨ ((faces (C.getD j [])).all fun f => decide (f ∈ C.take j)) = false → v = false) →
   Ev (fun k => z25.j1 k (C.getD j []) C (C.length : Int) (j : Int) b C (j : Int)) v := by
  intro j b hj hs v h1 h2
  have hrow := hr _ (getD_mem ([] : List Int) hj)
  refine Ev.step (fun k => z25.j1.eq_2 ..) ?_
  cases b with
  | true => rw [h2 (.inl rfl)]; exact ev_pos rfl (Ev.now _)
  | false =>
   refine ev_neg (by decide) (Ev.bind (facesOf_ev _ (by omega)) (Ev.bind (anyMissing_ev C j (by omega) (by omega) hr' hs _ (by have := faces_len (C.getD j []); omega) (fun x hx => by have := faces_row hx; omega)) ?_))
   cases ha : (faces (C.getD j [])).all fun f => decide (f ∈ C.take j) with
   | true =>
    refine ev_neg ?_ ?_
    ·rw [List.any_eq_not_all_not]; simp only [Bool.not_not, ha]; decide
    ·rw [wrap_succ (by omega)]; exact h1 rfl ha
   | false =>
    rw [h2 (.inr ha)]
    refine ev_pos ?_ (Ev.now _)
    rw [List.any_eq_not_all_not]; simp only [Bool.not_not, ha]; rfl
 have hround : ∀ (j : Nat), j < C.length → (∀ m, m < j → okAt C (C.take m) m = true) → ∀ v, (okAt C (C.take j) j = true → Ev (fun k => z25.l0 k C (C.length : Int) ((j + 1 : Nat) : Int) C) v) → (okAt C (C.take j) j = false → v = false) →
   Ev (fun k => z25.l0 k C (C.length : Int) (j : Int) C) v := by
  intro j hj hall v h1 h2
  have hs : Srt (C.take j) := srt_upto (C := fun _ => C) (D := fun m => C.take m) j (by omega) hall
  have hrow := hr _ (getD_mem ([] : List Int) hj)
  have key := hrest j
  refine Ev.step (fun k => z25.l0.eq_2 ..) ?_
  rw [rdl_nat]
  refine ev_pos (by omega) (ev_pos (by omega) (ev_pos (by omega) (Ev.bind (implSimplex_ev _ (by omega)) ?_)))
  unfold okAt at h1 h2
  cases hi : isSimplex (C.getD j []) with
  | false =>
   rw [hi] at h1 h2
   refine ev_neg (by decide) (key true hj hs v (fun h => by cases h) (fun _ => h2 rfl))
  | true =>
   rw [hi] at h1 h2
   refine ev_pos rfl ?_
   rcases Nat.eq_zero_or_pos j with h0 | h0
   ·have e : (j == 0) = true := by simpa using h0
    rw [e] at h1 h2
    simp only [Bool.true_or, Bool.true_and] at h1 h2
    exact ev_neg (by omega) (key false hj hs v (fun _ ha => h1 ha) (fun h => h2 (h.elim (fun h => by cases h) id)))
   ·have e : (j == 0) = false := by simpa using (show j ≠ 0 by omega)
    rw [e] at h1 h2
    simp only [Bool.false_or, Bool.true_and] at h1 h2
    rw [show wrap64 ((j : Int) - 1) = ((j - 1 : Nat) : Int) by rw [wrap_small (by omega) (by omega)]; omega, rdl_nat]
    have hrow2 := hr _ (getD_mem ([] : List Int) (show j - 1 < C.length by omega))
    refine ev_pos (by omega) (ev_pos (by omega) (ev_pos (by omega) (Ev.bind (compareS_ev _ _ (by omega) (by omega)) ?_)))
    cases hc : slt (C.getD (j - 1) []) (C.getD j []) with
    | true =>
     have e2 : decide (scmp (C.getD (j - 1) []) (C.getD j []) ≥ 0) = false := decide_eq_false (by have := (scmp_neg _ _).2 hc; omega)
     rw [e2]
     rw [hc] at h1 h2
     simp only [Bool.true_and] at h1 h2
     exact key false hj hs v (fun _ ha => h1 ha) (fun h => h2 (h.elim (fun h => by cases h) id))
    | false =>
     have e2 : decide (scmp (C.getD (j - 1) []) (C.getD j []) ≥ 0) = true := decide_eq_true (by
      have : ¬ scmp (C.getD (j - 1) []) (C.getD j []) < 0 := fun h => by rw [(scmp_neg _ _).1 h] at hc; cases hc
      omega)
     rw [e2]
     rw [hc] at h2
     exact key true hj hs v (fun h => by cases h) (fun _ => h2 rfl)
 refine ev_all_then (fun (i : Nat) k => z25.l0 k C (C.length : Int) (i : Int) C) (fun i => okAt C (C.take i) i) (decide (C.length ≤ 48)) C.length (fun j hj hall hp r hr' => ?_) (fun j hj hall hp => ?_) (fun _ => ?_)
 ·exact hround j hj hall r (fun _ => hr') (fun h => by rw [hp] at h; cases h)
 ·exact hround j hj hall false (fun h => by rw [hp] at h; cases h) (fun _ => rfl)
 ·refine Ev.step (fun k => z25.l0.eq_2 ..) ?_
  exact ev_neg (by omega) (ev_eq (Ev.now _) (by rw [Bool.eq_iff_iff, decide_eq_true_iff, decide_eq_true_iff]; omega))

theorem specOk_ev (C : List (List Int)) (hl : C.length ≤ 1048576) (hr : ∀ x ∈ C, x.length ≤ 1048576) : Ev (fun k => z58.f k C) (okC C) := by
 unfold z58.f okC
 have hr' : ∀ x ∈ C, x.length < 9223372036854775807 := fun x hx => by have := hr x hx; omega
 by_cases h48 : C.length ≤ 48
 ·rw [decide_eq_true h48, Bool.true_and]
  refine ev_neg (by omega) ?_
  -- the faces
  have hfaces : ∀ (j : Nat), j < C.length → ∀ v, (((faces (C.getD j [])).all fun f => decide (f ∈ C)) = true → Ev (fun k => z58.l0 k ((j + 1 : Nat) : Int) C) v) → (((faces (C.getD j [])).all fun f => decide (f ∈ C)) = false → v = false) →
    Ev (fun k => z58.l1 k (j : Int) (C.getD j []) 0 C) v := by
   intro j hj v h1 h2
   have hrow := hr _ (getD_mem ([] : List Int) hj)
   by_cases hlen : 1 < (C.getD j []).length
   ·have hstep : ∀ (m : Nat), m < (C.getD j []).length → ∀ u, (drp (C.getD j []) m ∈ C → Ev (fun k => z58.l1 k (j : Int) (C.getD j []) ((m + 1 : Nat) : Int) C) u) → (drp (C.getD j []) m ∉ C → u = false) → Ev (fun k => z58.l1 k (j : Int) (C.getD j []) (m : Int) C) u := by
     intro m hm u g1 g2
     refine Ev.step (fun k => z58.l1.eq_2 ..) ?_
     refine ev_pos (by omega) ?_
     refine Ev.step (fun k => z58.j3.eq_2 ..) ?_
     refine ev_pos (decide_eq_true (by omega)) (Ev.bind (ev_const (drop_val _ m hm (by omega))) (Ev.bind (find_ev C _ (by omega) hr') ?_))
     by_cases hin : drp (C.getD j []) m ∈ C
     ·rw [wrap_succ (by omega)]
      exact ev_neg (fun h => (idx_neg C _).1 h hin) (g1 hin)
     ·rw [g2 hin]
      exact ev_pos ((idx_neg C _).2 hin) (Ev.now _)
    have hall := ev_all_then (fun (m : Nat) k => (z58.l1 k (j : Int) (C.getD j []) (m : Int) C).map fun b => b) (fun m => decide (drp (C.getD j []) m ∈ C)) v (C.getD j []).length ?_ ?_ ?_
    ·have e : ((List.range (C.getD j []).length).all (fun m => decide (drp (C.getD j []) m ∈ C)) && v) = v := by
      cases v with
      | false => simp
      | true =>
       have : ((faces (C.getD j [])).all fun f => decide (f ∈ C)) = true := by
        cases hc : (faces (C.getD j [])).all fun f => decide (f ∈ C) with
        | true => rfl
        | false => have := h2 hc; cases this
       unfold faces at this
       rw [if_pos hlen, List.all_map] at this
       rw [Bool.and_true]; exact this
     rw [e] at hall
     simpa using hall
    ·intro m hm _ hp u hu
     simp only [Option.map_id'] at hu ⊢
     exact hstep m hm u (fun _ => hu) (fun h => absurd (of_decide_eq_true hp) h)
    ·intro m hm _ hp
     simp only [Option.map_id']
     exact hstep m hm false (fun h => absurd h (of_decide_eq_false hp)) (fun _ => rfl)
    ·intro hall
     simp only [Option.map_id']
     have hfa : ((faces (C.getD j [])).all fun f => decide (f ∈ C)) = true := by
      unfold faces
      rw [if_pos hlen, List.all_map, List.all_eq_true]
      exact fun m hm => hall m (List.mem_range.1 hm)
     refine Ev.step (fun k => z58.l1.eq_2 ..) ?_
     refine ev_neg (by omega) ?_
     refine Ev.step (fun k => z58.j3.eq_2 ..) ?_
     rw [wrap_succ (i := j) (by omega)]
     exact ev_neg (by decide) (h1 hfa)
   ·have hfa : ((faces (C.getD j [])).all fun f => decide (f ∈ C)) = true := by
     unfold faces; rw [if_neg hlen]; rfl
    refine Ev.step (fun k => z58.l1.eq_2 ..) ?_
    by_cases h0 : 0 < (C.getD j []).length
    ·refine ev_pos (by omega) ?_
     refine Ev.step (fun k => z58.j3.eq_2 ..) ?_
     rw [wrap_succ (i := j) (by omega)]
     exact ev_neg (by rw [decide_eq_false (by omega)]; decide) (h1 hfa)
    ·refine ev_neg (by omega) ?_
     refine Ev.step (fun k => z58.j3.eq_2 ..) ?_
     rw [wrap_succ (i := j) (by omega)]
     exact ev_neg (by decide) (h1 hfa)
  have hround : ∀ (j : Nat), j < C.length → ∀ v, (okAt C C j = true → Ev (fun k => z58.l0 k ((j + 1 : Nat) : Int) C) v) → (okAt C C j = false → v = false) → Ev (fun k => z58.l0 k (j : Int) C) v := by
   intro j hj v h1 h2
   have hrow := hr _ (getD_mem ([] : List Int) hj)
   have key := hfaces j hj v
   have stop : v = false → Ev (fun k => z58.j1 k (j : Int) (C.getD j []) true C) v := fun e => by
    refine Ev.step (fun k => z58.j1.eq_2 ..) ?_
    rw [e]; exact ev_pos rfl (Ev.now _)
   have go : Ev (fun k => z58.l1 k (j : Int) (C.getD j []) 0 C) v → Ev (fun k => z58.j1 k (j : Int) (C.getD j []) false C) v := fun e => by
    refine Ev.step (fun k => z58.j1.eq_2 ..) ?_
    exact ev_neg (by decide) e
   refine Ev.step (fun k => z58.l0.eq_2 ..) ?_
   rw [rdl_nat]
   refine ev_pos (by omega) (ev_pos (by omega) (Ev.bind (specSimplex_ev _ (by omega)) ?_))
   unfold okAt at h1 h2
   cases hi : isSimplex (C.getD j []) with
   | false => rw [hi] at h2; exact ev_neg (by decide) (stop (h2 rfl))
   | true =>
    rw [hi] at h1 h2
    refine ev_pos rfl ?_
    rcases Nat.eq_zero_or_pos j with h0 | h0
    ·have e : (j == 0) = true := by simpa using h0
     rw [e] at h1 h2
     simp only [Bool.true_or, Bool.true_and] at h1 h2
     exact ev_neg (by omega) (go (key h1 h2))
    ·have e : (j == 0) = false := by simpa using (show j ≠ 0 by omega)
     rw [e] at h1 h2
     simp only [Bool.false_or, Bool.true_and] at h1 h2
     have hrow2 := hr _ (getD_mem ([] : List Int) (show j - 1 < C.length by omega))
     rw [show wrap64 ((j : Int) - 1) = ((j - 1 : Nat) : Int) by rw [wrap_small (by omega) (by omega)]; omega, rdl_nat]
     refine ev_pos (by omega) (ev_pos (by omega) (ev_pos (by omega) (Ev.bind (before_ev _ _ (by omega)) ?_)))
     cases hc : slt (C.getD (j - 1) []) (C.getD j []) with
     | true =>
      rw [hc] at h1 h2
      simp only [Bool.true_and] at h1 h2
      exact go (key h1 h2)
     | false => rw [hc] at h2; exact stop (h2 rfl)
  refine ev_all (fun (i : Nat) k => z58.l0 k (i : Int) C) (okAt C C) C.length (fun j hj hp r hr' => ?_) (fun j hj hp => ?_) ?_
  ·exact hround j hj r (fun _ => hr') (fun h => by rw [hp] at h; cases h)
  ·exact hround j hj false (fun h => by rw [hp] at h; cases h) (fun _ => rfl)
  ·refine Ev.step (fun k => z58.l0.eq_2 ..) ?_
   exact ev_neg (by omega) (Ev.now _)
 ·rw [decide_eq_false h48, Bool.false_and]
  exact ev_pos (by omega) (Ev.now _)
end Go.Proofs.Ytabbkjgbdpcopaa.B

set_option linter.unusedVariables false
set_option linter.unusedSimpArgs false
namespace Go.Proofs.Ytabbkjgbdpcopaa.B
open Go.RowKit Go.Proofs.YtabbkjgbdpcopaaW.PrintWords

def has (s : List Int) (x : Int) : Bool := s.any (fun z => z == x)
theorem contains_ev (s : List Int) (x : Int) (hl : s.length < 9223372036854775807) : Ev (fun k => z116.f k s x) (has s x) := by
 obtain ⟨t, ht, hd⟩ := ev_index_list s 0 (fun i k => z123.l0 k s x (s.length : Int) (i : Int)) (fun z => z == x) (fun j hj hp r hr => by
  refine Ev.step (fun k => z123.l0.eq_2 ..) ?_
  rw [rd_nat, wrap_succ (by omega)]
  exact ev_pos (by omega) (ev_pos (by omega) (ev_pos (by omega) (ev_neg (by intro e; rw [← e] at hp; simp at hp) hr)))) (fun j hj hp => by
  refine Ev.step (fun k => z123.l0.eq_2 ..) ?_
  rw [rd_nat]
  exact ev_pos (by omega) (ev_pos (by omega) (ev_pos (by omega) (ev_pos (eq_of_beq hp).symm (Ev.now _))))) (by
  refine Ev.step (fun k => z123.l0.eq_2 ..) ?_
  exact ev_neg (by omega) (Ev.now _))
 unfold z116.f z123.f
 exact Ev.bind ht (ev_eq (Ev.now _) hd)
theorem has_ev (s : List Int) (x : Int) (hl : s.length < 9223372036854775807) : Ev (fun k => z85.f k s x) (has s x) := by
 unfold z85.f
 refine ev_find (fun (i : Nat) k => z85.l0 k s x (i : Int)) (fun i => s.getD i 0 == x) s.length 0 (fun j _ hj hp r hr => ?_) (fun j _ hj hp _ => ?_) (fun hall => ?_)
 ·refine Ev.step (fun k => z85.l0.eq_2 ..) ?_
  rw [rd_nat, wrap_succ (by omega)]
  exact ev_pos (by omega) (ev_pos (by omega) (ev_neg (by intro e; rw [← e] at hp; simp at hp) hr))
 ·have : has s x = true := List.any_eq_true.2 ⟨_, getD_mem 0 (show j < s.length by omega), hp⟩
  rw [this]
  refine Ev.step (fun k => z85.l0.eq_2 ..) ?_
  rw [rd_nat]
  exact ev_pos (by omega) (ev_pos (by omega) (ev_pos (eq_of_beq hp) (Ev.now _)))
 ·have : has s x = false := by
   rw [has, ← any_range s 0, Bool.eq_false_iff]
   intro h
   obtain ⟨i, hi, hp⟩ := List.any_eq_true.1 h
   rw [hall i (Nat.zero_le _) (by have := List.mem_range.1 hi; omega)] at hp; cases hp
  rw [this, Nat.zero_add]
  refine Ev.step (fun k => z85.l0.eq_2 ..) ?_
  exact ev_neg (by omega) (Ev.now _)

theorem has_iff {s : List Int} {x : Int} : has s x = true ↔ x ∈ s := by
 unfold has
 rw [List.any_eq_true]
 exact ⟨fun ⟨y, hy, e⟩ => (eq_of_beq e) ▸ hy, fun h => ⟨x, h, beq_self_eq_true x⟩⟩
end Go.Proofs.Ytabbkjgbdpcopaa.B

set_option linter.unusedVariables false
set_option linter.unusedSimpArgs false
namespace Go.Proofs.Ytabbkjgbdpcopaa.B
open Go.RowKit Go.Proofs.YtabbkjgbdpcopaaW.PrintWords
open SimT

section
variable {C : List (List Int)} (hl : C.length ≤ 1048576) (hr : ∀ x ∈ C, x.length ≤ 1048576)
def part (a b : List Int) : Bool := a.all fun v => has b v
theorem notIn_ev (b : List Int) (v : Int) (hb : b.length < 9223372036854775807) : Ev (fun k => z120.f k v b) (!has b v) := by
 unfold z120.f
 exact Ev.bind (contains_ev b v hb) (Ev.now _)
theorem anyNotIn_ev (a b : List Int) (ha : a.length < 9223372036854775807) (hb : b.length < 9223372036854775807) : Ev (fun k => z163.f k a b) (a.any fun v => !has b v) := by
 obtain ⟨t, ht, hd⟩ := ev_index_list (a) 0 (fun i k => z164.l0 k (a) ((a).length : Int) (i : Int) b) (fun v => !has b v) (fun j hj hp r hr => by
   refine Ev.step (fun k => z164.l0.eq_2 ..) ?_
   refine ev_pos (by omega) (ev_pos (by omega) (ev_pos (by omega) ?_))
   rw [rd_nat, wrap_succ (by omega)]
   exact Ev.bind (notIn_ev b _ hb) (ev_neg (by rw [hp]; decide) hr)) (fun j hj hp => by
   refine Ev.step (fun k => z164.l0.eq_2 ..) ?_
   refine ev_pos (by omega) (ev_pos (by omega) (ev_pos (by omega) ?_))
   rw [rd_nat]
   exact Ev.bind (notIn_ev b _ hb) (ev_pos hp (Ev.now _))) (by
   refine Ev.step (fun k => z164.l0.eq_2 ..) ?_
   exact ev_neg (by omega) (Ev.now _))
 unfold z163.f z164.f
 refine Ev.bind ht (ev_eq (Ev.now _) hd)
theorem isFace_ev (a b : List Int) (ha : a.length < 9223372036854775807) (hb : b.length < 9223372036854775807) : Ev (fun k => z106.f k a b) (part a b) := by
 unfold z106.f
 refine Ev.bind (anyNotIn_ev a b ha hb) (ev_eq (Ev.now _) ?_)
 unfold part
 rw [List.any_eq_not_all_not]; simp
theorem specPart_ev (a b : List Int) (ha : a.length < 9223372036854775807) (hb : b.length < 9223372036854775807) : Ev (fun k => z105.f k a b) (part a b) := by
 unfold z105.f part
 refine ev_all_list a 0 (fun (i : Nat) k => z105.l0 k a b (i : Int)) (fun v => has b v) (fun j hj hp r hr => ?_) (fun j hj hp => ?_) ?_
 ·refine Ev.step (fun k => z105.l0.eq_2 ..) ?_
  rw [rd_nat, wrap_succ (by omega)]
  exact ev_pos (by omega) (ev_pos (by omega) (Ev.bind (has_ev b _ hb) (ev_pos hp hr)))
 ·refine Ev.step (fun k => z105.l0.eq_2 ..) ?_
  rw [rd_nat]
  exact ev_pos (by omega) (ev_pos (by omega) (Ev.bind (has_ev b _ hb) (ev_neg (by rw [hp]; decide) (Ev.now _))))
 ·refine Ev.step (fun k => z105.l0.eq_2 ..) ?_
  exact ev_neg (by omega) (Ev.now _)
def star (C : List (List Int)) (s : List Int) : List Int := filt (fun i => part s (C.getD i [])) C.length
include hl hr
theorem starOf_ev {i : Nat} (hi : i < C.length) : Ev (fun k => z79.f k C (i : Int)) (star C (C.getD i [])) := by
 unfold z79.f
 have hrow := hr _ (getD_mem ([] : List Int) hi)
 refine ev_filt (fun (s : List Int) (j : Nat) k => z79.l0 k (i : Int) s C (C.length : Int) (j : Int) C) (fun j => part (C.getD i []) (C.getD j [])) C.length (fun j s hj hs hp r hr' => ?_) (fun j s hj hs hp r hr' => ?_) _ ?_
 ·refine Ev.step (fun k => z79.l0.eq_2 ..) ?_
  have hrow2 := hr _ (getD_mem ([] : List Int) hj)
  rw [rdl_nat, rdl_nat, wrap_succ (by omega)]
  exact ev_pos (by omega) (ev_pos (by omega) (ev_pos (by omega) (ev_pos (by omega) (ev_pos (by omega) (Ev.bind (isFace_ev _ _ (by omega) (by omega)) (ev_pos hp (ev_pos (by omega) hr')))))))
 ·refine Ev.step (fun k => z79.l0.eq_2 ..) ?_
  have hrow2 := hr _ (getD_mem ([] : List Int) hj)
  rw [rdl_nat, rdl_nat, wrap_succ (by omega)]
  exact ev_pos (by omega) (ev_pos (by omega) (ev_pos (by omega) (ev_pos (by omega) (ev_pos (by omega) (Ev.bind (isFace_ev _ _ (by omega) (by omega)) (ev_neg (by rw [hp]; decide) hr'))))))
 ·refine Ev.step (fun k => z79.l0.eq_2 ..) ?_
  exact ev_neg (by omega) (Ev.now _)
theorem specStar_ev (t : List Int) (ht : t.length < 9223372036854775807) : Ev (fun k => z78.f k C t) (star C t) := by
 unfold z78.f
 refine ev_filt (fun (s : List Int) (j : Nat) k => z78.l0 k t s (j : Int) C) (fun j => part t (C.getD j [])) C.length (fun j s hj hs hp r hr' => ?_) (fun j s hj hs hp r hr' => ?_) _ ?_
 ·refine Ev.step (fun k => z78.l0.eq_2 ..) ?_
  have hrow2 := hr _ (getD_mem ([] : List Int) hj)
  rw [rdl_nat, wrap_succ (by omega)]
  exact ev_pos (by omega) (ev_pos (by omega) (Ev.bind (specPart_ev _ _ ht (by omega)) (ev_pos hp (ev_pos (by omega) hr'))))
 ·refine Ev.step (fun k => z78.l0.eq_2 ..) ?_
  have hrow2 := hr _ (getD_mem ([] : List Int) hj)
  rw [rdl_nat, wrap_succ (by omega)]
  exact ev_pos (by omega) (ev_pos (by omega) (Ev.bind (specPart_ev _ _ ht (by omega)) (ev_neg (by rw [hp]; decide) hr')))
 ·refine Ev.step (fun k => z78.l0.eq_2 ..) ?_
  exact ev_neg (by omega) (Ev.now _)
omit hl hr in
theorem size_val (l : List Int) : z66.f l = some (l.length : Int) := rfl
omit hl hr in
theorem sizeL_val (l : List (List Int)) : z104.f l = some (l.length : Int) := rfl
omit hl hr in
def facetsC (C : List (List Int)) : List Int := filt (fun i => (star C (C.getD i [])).length == 1) C.length
theorem facets_ev : Ev (fun k => z77.f k C) (facetsC C) := by
 unfold z77.f
 refine Ev.bind (ev_const (sizeL_val C)) ?_
 refine ev_filt (fun (s : List Int) (j : Nat) k => z77.l0 k s (C.length : Int) (j : Int) C) (fun i => (star C (C.getD i [])).length == 1) C.length (fun j s hj hs hp r hr' => ?_) (fun j s hj hs hp r hr' => ?_) _ ?_
 ·refine Ev.step (fun k => z77.l0.eq_2 ..) ?_
  have hp := eq_of_beq hp
  rw [wrap_succ (by omega)]
  exact ev_pos (by omega) (Ev.bind (starOf_ev hl hr hj) (ev_pos (by omega) (ev_pos (by omega) hr')))
 ·refine Ev.step (fun k => z77.l0.eq_2 ..) ?_
  have hp := ne_of_beq_false hp
  rw [wrap_succ (by omega)]
  exact ev_pos (by omega) (Ev.bind (starOf_ev hl hr hj) (ev_neg (by omega) hr'))
 ·refine Ev.step (fun k => z77.l0.eq_2 ..) ?_
  exact ev_neg (by omega) (Ev.now _)
theorem specFacets_ev : Ev (fun k => z76.f k C) (facetsC C) := by
 unfold z76.f
 refine ev_filt (fun (s : List Int) (j : Nat) k => z76.l0 k s (j : Int) C) (fun i => (star C (C.getD i [])).length == 1) C.length (fun j s hj hs hp r hr' => ?_) (fun j s hj hs hp r hr' => ?_) _ ?_
 ·refine Ev.step (fun k => z76.l0.eq_2 ..) ?_
  have hp := eq_of_beq hp
  have hrow2 := hr _ (getD_mem ([] : List Int) hj)
  rw [rdl_nat, wrap_succ (by omega)]
  exact ev_pos (by omega) (ev_pos (by omega) (Ev.bind (specStar_ev hl hr _ (by omega)) (ev_pos (by omega) (ev_pos (by omega) hr'))))
 ·refine Ev.step (fun k => z76.l0.eq_2 ..) ?_
  have hp := ne_of_beq_false hp
  have hrow2 := hr _ (getD_mem ([] : List Int) hj)
  rw [rdl_nat, wrap_succ (by omega)]
  exact ev_pos (by omega) (ev_pos (by omega) (Ev.bind (specStar_ev hl hr _ (by omega)) (ev_neg (by omega) hr')))
 ·refine Ev.step (fun k => z76.l0.eq_2 ..) ?_
  exact ev_neg (by omega) (Ev.now _)
omit hl hr in
def ofDim (C : List (List Int)) (d : Int) : List Int := filt (fun i => decide (((C.getD i []).length : Int) = d + 1)) C.length
omit hr in
theorem simplicesOf_ev {d : Int} (h0 : -1000 ≤ d) (h1 : d ≤ 1000) : Ev (fun k => z70.f k C d) (ofDim C d) := by
 unfold z70.f
 refine ev_filt (fun (s : List Int) (j : Nat) k => z70.l0 k d s C (C.length : Int) (j : Int)) (fun i => decide (((C.getD i []).length : Int) = d + 1)) C.length (fun j s hj hs hp r hr' => ?_) (fun j s hj hs hp r hr' => ?_) _ ?_
 ·refine Ev.step (fun k => z70.l0.eq_2 ..) ?_
  rw [rdl_nat, wrap_succ (by omega), wrap_small (x := d + 1) (by omega) (by omega)]
  exact ev_pos (by omega) (ev_pos (by omega) (ev_pos (by omega) (Ev.bind (ev_const (size_val _)) (ev_pos (of_decide_eq_true hp) (ev_pos (by omega) hr')))))
 ·refine Ev.step (fun k => z70.l0.eq_2 ..) ?_
  rw [rdl_nat, wrap_succ (by omega), wrap_small (x := d + 1) (by omega) (by omega)]
  exact ev_pos (by omega) (ev_pos (by omega) (ev_pos (by omega) (Ev.bind (ev_const (size_val _)) (ev_neg (of_decide_eq_false hp) hr'))))
 ·refine Ev.step (fun k => z70.l0.eq_2 ..) ?_
  exact ev_neg (by omega) (Ev.now _)
omit hr in
theorem specOf_ev {d : Int} (h0 : -1000 ≤ d) (h1 : d ≤ 1000) : Ev (fun k => z68.f k C d) (ofDim C d) := by
 unfold z68.f
 refine ev_filt (fun (s : List Int) (j : Nat) k => z68.l0 k d s (j : Int) C) (fun i => decide (((C.getD i []).length : Int) = d + 1)) C.length (fun j s hj hs hp r hr' => ?_) (fun j s hj hs hp r hr' => ?_) _ ?_
 ·refine Ev.step (fun k => z68.l0.eq_2 ..) ?_
  rw [rdl_nat, wrap_succ (by omega), wrap_small (x := d + 1) (by omega) (by omega)]
  exact ev_pos (by omega) (ev_pos (by omega) (ev_pos (of_decide_eq_true hp) (ev_pos (by omega) hr')))
 ·refine Ev.step (fun k => z68.l0.eq_2 ..) ?_
  rw [rdl_nat, wrap_succ (by omega), wrap_small (x := d + 1) (by omega) (by omega)]
  exact ev_pos (by omega) (ev_pos (by omega) (ev_neg (of_decide_eq_false hp) hr'))
 ·refine Ev.step (fun k => z68.l0.eq_2 ..) ?_
  exact ev_neg (by omega) (Ev.now _)
omit hl hr in
def faceIdx (C : List (List Int)) (s : List Int) : List Int := (faces s).map (idx C)
theorem faceIndices_ev (hs : Srt C) {i : Nat} (hi : i < C.length) : Ev (fun k => z75.f k C (i : Int)) (faceIdx C (C.getD i [])) := by
 unfold z75.f
 have hrow := hr _ (getD_mem ([] : List Int) hi)
 rw [rdl_nat]
 refine ev_pos (by omega) (ev_pos (by omega) (Ev.bind (facesOf_ev _ (by omega)) ?_))
 have hfl := faces_len (C.getD i [])
 have e : faceIdx C (C.getD i []) = (List.range (faces (C.getD i [])).length).map fun j => idx C ((faces (C.getD i [])).getD j []) := map_range [] (idx C) _
 rw [e]
 refine ev_map (fun (s : List Int) (j : Nat) k => z75.l0 k s (faces (C.getD i [])) ((faces (C.getD i [])).length : Int) (j : Int) C) (fun j => idx C ((faces (C.getD i [])).getD j [])) (faces (C.getD i [])).length (fun j s hj hs' r hr' => ?_) _ ?_
 ·refine Ev.step (fun k => z75.l0.eq_2 ..) ?_
  have hsl : s.length = j := by rw [hs']; simp
  have hf := faces_row (getD_mem ([] : List Int) hj)
  rw [rdl_nat, wrap_succ (by omega)]
  exact ev_pos (by omega) (ev_pos (by omega) (ev_pos (by omega) (Ev.bind (indexOf_ev C _ (by omega) (fun x hx => by have := hr x hx; omega) (by omega) hs) (ev_pos (by omega) hr'))))
 ·refine Ev.step (fun k => z75.l0.eq_2 ..) ?_
  exact ev_neg (by omega) (Ev.now _)
theorem specFaces_ev {i : Nat} (hi : i < C.length) : Ev (fun k => z73.f k C (i : Int)) (faceIdx C (C.getD i [])) := by
 unfold z73.f
 have hrow := hr _ (getD_mem ([] : List Int) hi)
 rw [rdl_nat]
 refine ev_pos (by omega) (ev_pos (by omega) ?_)
 by_cases h1 : 1 < (C.getD i []).length
 ·have e : faceIdx C (C.getD i []) = (List.range (C.getD i []).length).map fun j => idx C (drp (C.getD i []) j) := by
   unfold faceIdx faces
   rw [if_pos h1, List.map_map]; rfl
  rw [e]
  refine ev_map (fun (s : List Int) (j : Nat) k => z73.l0 k (C.getD i []) s (j : Int) C) (fun j => idx C (drp (C.getD i []) j)) (C.getD i []).length (fun j s hj hs' r hr' => ?_) _ ?_
  ·refine Ev.step (fun k => z73.l0.eq_2 ..) ?_
   have hsl : s.length = j := by rw [hs']; simp
   refine ev_pos (by omega) ?_
   refine Ev.step (fun k => z73.j1.eq_2 ..) ?_
   rw [wrap_succ (by omega)]
   exact ev_pos (decide_eq_true (by omega)) (Ev.bind (ev_const (drop_val _ j hj (by omega))) (Ev.bind (find_ev C _ (by omega) (fun x hx => by have := hr x hx; omega)) (ev_pos (by omega) hr')))
  ·refine Ev.step (fun k => z73.l0.eq_2 ..) ?_
   refine ev_neg (by omega) ?_
   refine Ev.step (fun k => z73.j1.eq_2 ..) ?_
   exact ev_neg (by decide) (Ev.now _)
 ·have e : faceIdx C (C.getD i []) = [] := by
   unfold faceIdx faces; rw [if_neg h1]; rfl
  rw [e]
  refine Ev.step (fun k => z73.l0.eq_2 ..) ?_
  by_cases h2 : 0 < (C.getD i []).length
  ·refine ev_pos (by omega) ?_
   refine Ev.step (fun k => z73.j1.eq_2 ..) ?_
   exact ev_neg (by rw [decide_eq_false (by omega)]; decide) (Ev.now _)
  ·refine ev_neg (by omega) ?_
   refine Ev.step (fun k => z73.j1.eq_2 ..) ?_
   exact ev_neg (by decide) (Ev.now _)
omit hl hr in
def askC (C : List (List Int)) (i : Int) : Int := if okC C = true then (if (decide (0 ≤ i) && decide (i ≤ (C.length : Int) - 1)) = true then 0 else 2) else 1
theorem hasSimplex_ev (i : Int) : Ev (fun k => z74.f k C i) (askC C i) := by
 unfold z74.f askC
 refine Ev.bind (implValid_ev C hl hr) ?_
 cases ho : okC C with
 | false => exact ev_neg (by decide) (ev_eq (Ev.now _) (by simp))
 | true =>
  refine ev_pos rfl (Ev.bind (ev_const (sizeL_val C)) ?_)
  rw [wrap_small (by omega) (by omega), if_pos (show true = true from rfl)]
  refine Ev.bind (ev_const (within_val _ _ _)) ?_
  cases (decide (0 ≤ i) && decide (i ≤ (C.length : Int) - 1)) with
  | true => exact ev_pos rfl (Ev.now _)
  | false => exact ev_neg (by decide) (Ev.now _)
theorem specAsk_ev (i : Int) : Ev (fun k => z72.f k C i) (askC C i) := by
 unfold z72.f askC
 refine Ev.bind (specOk_ev C hl hr) ?_
 cases ho : okC C with
 | false => exact ev_neg (by decide) (ev_eq (Ev.now _) (by simp))
 | true =>
  refine ev_pos rfl ?_
  rw [wrap_small (by omega) (by omega), if_pos (show true = true from rfl)]
  refine Ev.bind (ev_const (in_val _ _ _)) ?_
  cases (decide (0 ≤ i) && decide (i ≤ (C.length : Int) - 1)) with
  | true => exact ev_pos rfl (Ev.now _)
  | false => exact ev_neg (by decide) (Ev.now _)
omit hl hr in
theorem askC_zero {i : Int} (h : askC C i = 0) : okC C = true ∧ ∃ n : Nat, i = (n : Int) ∧ n < C.length := by
 unfold askC at h
 split at h
 ·rename_i ho
  split at h
  ·rename_i hi
   rw [Bool.and_eq_true, decide_eq_true_iff, decide_eq_true_iff] at hi
   exact ⟨ho, i.toNat, by omega, by omega⟩
  ·omega
 ·omega
end
end Go.Proofs.Ytabbkjgbdpcopaa.B

set_option linter.unusedVariables false
set_option linter.unusedSimpArgs false
namespace Go.Proofs.Ytabbkjgbdpcopaa.B
open Go.RowKit Go.Proofs.YtabbkjgbdpcopaaW.PrintWords

def facetsOfC (C : List (List Int)) : List Int × Int := if okC C = true then (facetsC C, 0) else ([], 1)
theorem implFacetsOf_ev {C : List (List Int)} (hl : C.length ≤ 1048576) (hr : ∀ x ∈ C, x.length ≤ 1048576) : Ev (fun k => z38.f k C) (facetsOfC C) := by
 unfold z38.f facetsOfC
 refine Ev.bind (implValid_ev C hl hr) ?_
 cases ho : okC C with
 | false => exact ev_neg (by decide) (ev_eq (Ev.now _) (by simp))
 | true => exact ev_pos rfl (Ev.bind (facets_ev hl hr) (ev_eq (Ev.now _) (by simp)))
theorem specFacetsOf_ev {C : List (List Int)} (hl : C.length ≤ 1048576) (hr : ∀ x ∈ C, x.length ≤ 1048576) : Ev (fun k => z37.f k C) (facetsOfC C) := by
 unfold z37.f facetsOfC
 refine Ev.bind (specOk_ev C hl hr) ?_
 cases ho : okC C with
 | false => exact ev_neg (by decide) (ev_eq (Ev.now _) (by simp))
 | true => exact ev_pos rfl (Ev.bind (specFacets_ev hl hr) (ev_eq (Ev.now _) (by simp)))
theorem facetsOfC_small {C : List (List Int)} (hl : C.length ≤ 1048576) : (facetsOfC C).1.length ≤ 1048576 := by
 unfold facetsOfC
 split
 ·exact Nat.le_trans (filt_le _ _) hl
 ·simp

theorem pure_FacetsOf {l0 : List (List Int)} (h0 : WfLL l0) : ∃ k, z10.f k l0 = some true := by
 refine Ev.rounds (g := fun k => z10.f k l0) ?_
 unfold z10.f
 rcases szComplex_ev l0 1048576 h0 (by omega) (by omega) with ⟨t, ht, hn⟩ | ⟨ht, hb⟩
 ·exact Ev.bind ht (ev_pos hn (Ev.now _))
 have htn := total_nonneg l0
 have hrow : ∀ x ∈ l0, x.length ≤ 1048576 := fun x hx => by have := row_le_total l0 x hx; omega
 have hlen : l0.length ≤ 1048576 := by omega
 have hto := toComplex_ev l0 hlen hrow
 have heq := eqComplex_self l0 (by omega) (fun x hx => by have := hrow x hx; omega)
 refine Ev.bind ht (ev_neg (by omega) ?_)
 have hsp := specFacetsOf_ev hlen hrow
 have him := implFacetsOf_ev hlen hrow
 have hs : (facetsOfC l0).1.length ≤ 1048576 := facetsOfC_small hlen
 generalize facetsOfC l0 = g at hsp him hs
 obtain ⟨g0, g1⟩ := g
 dsimp only at hs
 have heg := eqInt64S_self g0 (by omega)
 have hm1 : laws_markComplex.f l0 1 = some (1 + total l0, markRows l0 1) := mark_val l0 1 (by omega) (by omega)
 have hm2 := markInt64S_mark g0 1 (by omega) (by omega)
 have hh := heldInt64S_ev g0 1 (by omega) (by omega)
 (repeat (first | exact Ev.now _ | refine ev_pos rfl ?_ | refine ev_neg (by simp only []; omega) ?_ | refine ev_neg (by omega) ?_ | refine ev_neg (by simp) ?_ | refine Ev.bind (by assumption) ?_ | refine Ev.bind (ev_const (by assumption)) ?_))
end Go.Proofs.Ytabbkjgbdpcopaa.B

