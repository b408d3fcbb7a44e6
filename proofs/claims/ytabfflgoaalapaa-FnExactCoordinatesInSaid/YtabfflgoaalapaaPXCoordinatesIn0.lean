/- What the functions come to, for the law FnExactCoordinatesIn. -/
import Derived.Test.YtabfflgoaalapaaKCAMCIB0
import Derived.Test.YtabfflgoaalapaaKCLANOD0
import Derived.Test.YtabfflgoaalapaaKEGJFJO0
import Derived.Test.YtabfflgoaalapaaKENHNJJ0
import Derived.Test.YtabfflgoaalapaaKFFGLPF0
import Derived.Test.YtabfflgoaalapaaKFMJCKG0
import Derived.Test.YtabfflgoaalapaaKFPGKKO0
import Derived.Test.YtabfflgoaalapaaKGHHMHL0
import Derived.Test.YtabfflgoaalapaaKGMFEED0
import Derived.Test.YtabfflgoaalapaaKIJINCA0
import Derived.Test.YtabfflgoaalapaaKINMBMJ0
import Derived.Test.YtabfflgoaalapaaKLHLOML0
import Derived.Test.YtabfflgoaalapaaKMCOAIA0
import Derived.Test.YtabfflgoaalapaaKMKCFHJ0
import Derived.Test.YtabfflgoaalapaaKNEDPOB0
import Derived.Test.YtabfflgoaalapaaKW0
import Derived.Below
import Derived.ChangeOld
import Derived.Deep.Matrix
import Derived.Lib.SmallJoins
import Derived.OpenShut
import Derived.ProofKit
import Derived.ShutString
import Derived.SizedLaws
import Derived.WalkKit
set_option linter.unusedVariables false
set_option linter.unusedSimpArgs false
namespace Go.Proofs.Ytabfflgoaalapaa.B
open Go.RowKit Go.ChangeShapes Go.WideShapes Go.Deep Go.Proofs.YtabfflgoaalapaaW.PrintWords

def Wf (n : Int) : Prop := -9223372036854775808 ≤ n ∧ n ≤ 9223372036854775807
def WfL (l : List Int) : Prop := l.length ≤ 9223372036854775807 ∧ ∀ n ∈ l, Wf n
def WfLL (l : List (List Int)) : Prop := l.length ≤ 9223372036854775807 ∧ ∀ r ∈ l, WfL r
theorem wf_of {n : Int} (h : (Lit.int .i64 n).wf = true) : Wf n := by
 unfold Wf
 simp [Lit.wf, IntKind.min, IntKind.max, IntKind.bits, IntKind.signed] at h
 omega

section
variable {H : Type} {enc : TypeId × Value → H} {P : Program} {w : World} {base : Nat} {held : Bool} {fuel : Nat}
theorem opened_int {t : TypeId} {v : Value} {x : DataW H × List MemPlace} (ht : P.underlying t = some (.int .i64)) (h : DataW.trod enc P w base (fun _ => true) held fuel t [v] = some x) : ∃ n, v = .int .i64 n ∧ Wf n := by
 obtain ⟨n, he, _, hw⟩ := DataW.trod_int ht h
 exact ⟨n, by simpa using he, wf_of hw⟩
theorem opened_ints {t e : TypeId} {v : Value} {x : DataW H × List MemPlace} (ht : P.underlying t = some (.slice e)) (he : P.underlying e = some (.int .i64)) (hc : P.cellsOf e = 1) (h : DataW.trod enc P w base (fun _ => true) held fuel t [v] = some x) :
  ∃ A l c, v = .slice A l.length c ∧ (Kd.int .i64).C w A l.length l ∧ l.length ≤ c ∧ WfL l := by
 rcases open_ints ht he hc h with ⟨hcs, _⟩ | ⟨a, l, c, zs, hcs, _, hl, hm, hz, _, hcell, hwz⟩
 ·refine ⟨none, [], 0, by simpa using hcs, ⟨rfl, by simp, fun h => by simp at h⟩, by simp, by simp [WfL]⟩
 ·simp only [if_true] at hz
  have hlen : (zs.take l).length = l := by rw [List.length_take]; omega
  refine ⟨some a, zs.take l, c, by rw [hlen]; simpa using hcs, ⟨rfl, by rw [hlen]; simp only [maxLen] at hm; omega, fun _ => ⟨a, rfl, fun j p hj => ?_⟩⟩, by omega, ?_, fun n hn => wf_of (hwz n (List.mem_of_mem_take hn))⟩
  ·have hjl : j < l := by have := (List.getElem?_eq_some_iff.1 hj).1; omega
   refine ⟨[.int .i64 p], rfl, rfl, fun i u hu => ?_⟩
   cases i with
   | zero =>
    simp only [List.getElem?_cons_zero, Option.some.injEq] at hu
    subst hu
    rw [Nat.add_zero, show j * (Kd.int .i64).sz = j from Nat.mul_one j, hcell j (by omega)]
    rw [List.getElem?_take, if_pos hjl] at hj
    rw [List.getD_eq_getElem?_getD, hj]; rfl
   | succ i => simp at hu
  ·rw [hlen]; simp only [maxLen] at hm; omega
theorem opened_rows {t e q : TypeId} {v : Value} {x : DataW H × List MemPlace} (ht : P.underlying t = some (.slice e)) (he : P.underlying e = some (.slice q)) (hq : P.underlying q = some (.int .i64)) (ce : P.cellsOf e = 1) (cq : P.cellsOf q = 1) (h : DataW.trod enc P w base (fun _ => true) held fuel t [v] = some x) :
  ∃ A l c, v = .slice A l.length c ∧ (Kd.slice 2 (Kd.int .i64)).C w A l.length l ∧ l.length ≤ c ∧ WfLL l := by
 rcases open_slice1 ht ce h with ⟨hcs, _⟩ | ⟨a, l, c, m, n, V, D, Pl, hcs, _, hl, hm, hmm, _, hx⟩
 ·refine ⟨none, [], 0, by simpa using hcs, ⟨rfl, by simp, fun h => by simp at h⟩, by simp, by simp [WfLL]⟩
 ·simp only [if_true] at hmm
  subst hmm
  have each : ∀ r, r < m → ∃ y : Option Addr × List Int × Nat, V r = .slice y.1 y.2.1.length y.2.2 ∧ (Kd.int .i64).C w y.1 y.2.1.length y.2.1 ∧ y.2.1.length ≤ y.2.2 ∧ WfL y.2.1 := by
   intro r hr
   obtain ⟨A, l, c, h1, h2, h3, h4⟩ := opened_ints he hq cq (hx r hr).2
   exact ⟨(A, l, c), h1, h2, h3, h4⟩
  obtain ⟨y, hy⟩ := choose_lt each
  have hlen : ((List.range l).map fun r => (y r).2.1).length = l := by simp
  refine ⟨some a, (List.range l).map fun r => (y r).2.1, m, by rw [hlen]; simpa using hcs, ⟨rfl, by rw [hlen]; simp only [maxLen] at hm; omega, fun _ => ⟨a, rfl, fun j p hj => ?_⟩⟩, by omega, ?_, ?_⟩
  ·have hjl : j < l := by have := (List.getElem?_eq_some_iff.1 hj).1; omega
   rw [List.getElem?_map, List.getElem?_range hjl] at hj
   simp only [Option.map_some, Option.some.injEq] at hj
   subst hj
   obtain ⟨h1, h2, h3, h4⟩ := hy j (by omega)
   refine ⟨[.slice (y j).1 (y j).2.1.length (y j).2.2], rfl, ⟨_, _, rfl, h3, h2⟩, fun i u hu => ?_⟩
   cases i with
   | zero =>
    simp only [List.getElem?_cons_zero, Option.some.injEq] at hu
    subst hu
    rw [Nat.add_zero, show j * (Kd.slice 2 (Kd.int .i64)).sz = j from Nat.mul_one j, (hx j (by omega)).1, h1]
   | succ i => simp at hu
  ·rw [hlen]; simp only [maxLen] at hm; omega
  ·intro r hr
   simp only [List.mem_map, List.mem_range] at hr
   obtain ⟨j, hj, rfl⟩ := hr
   exact (hy j (by omega)).2.2.2

theorem open_agg1 {r : Reach} {b0 : Nat} {t : TypeId} {f0 : Field} {v : Value} {d : DataW H} {p : List MemPlace} (hs : P.underlying t = some (.struct #[f0])) (hone : oneCellFields P #[f0] = true) (hC : P.cellsOf t = 1)
  (hv : Value.okWide P w r b0 t v) (h : DataW.Trod enc P w base (fun _ => true) held t v d p) :
  ∃ (v0 : Value) (y0 : DataW H × List MemPlace) (n : Nat), v = .agg #[v0] ∧ DataW.trod enc P w base (fun _ => true) held n f0.type [v0] = some y0 := by
 obtain ⟨cs, rfl, hsz⟩ := okWide_struct hs hv
 obtain ⟨c0, rfl⟩ : ∃ c0, cs = #[c0] := by
  have h1 : cs.size = 1 := hsz.trans hC
  match cs, h1 with | ⟨[c0]⟩, _ => exact ⟨c0, rfl⟩
 obtain ⟨fuel, hf⟩ := h
 obtain ⟨y0, n, hx, _, h0⟩ := trod_struct1 hs hf
 obtain ⟨o0, k0⟩ := hone_of hone 0 f0 rfl
 exact ⟨c0, y0, n, rfl, by simpa [Value.cells, o0, k0] using h0⟩
end
theorem own : ownKnob Try.prog.godebug = none := by kernel_rfl
theorem laidOut : laidOutB Try.prog = true := by kernel_rfl
end Go.Proofs.Ytabfflgoaalapaa.B

set_option linter.unusedVariables false
set_option linter.unusedSimpArgs false
namespace Go.Proofs.Ytabfflgoaalapaa.B
open Go.RowKit Go.Proofs.YtabfflgoaalapaaW.PrintWords
theorem szInt64S_val (l : List Int) (a : Int) (h0 : 0 ≤ a) (h1 : a ≤ 9223372036854775807) (hl : l.length ≤ 9223372036854775807) : z101.f l a = some (if a - l.length < 0 then -1 else a - l.length) := by
 unfold z101.f
 have e : wrap64 (a - (l.length : Int)) = a - l.length := wrap_small (by omega) (by omega)
 rw [e]
 split <;> rfl
theorem szInt64SS_ev (l : List (List Int)) (a : Int) (hw : WfLL l) (h0 : 0 ≤ a) (h1 : a ≤ 9223372036854775807) :
  (∃ t, Ev (fun k => z52.f k l a) t ∧ t < 0) ∨ (Ev (fun k => z52.f k l a) (a - l.length - total l) ∧ l.length + total l ≤ a) := by
 have loop : ∀ (d i : Nat) (b : Int), d + i = l.length → 0 ≤ b → b ≤ 9223372036854775807 → (∃ t, Ev (fun k => z52.l0 k l b (i : Int)) t ∧ t < 0) ∨ (Ev (fun k => z52.l0 k l b (i : Int)) (b - total (l.drop i)) ∧ total (l.drop i) ≤ b) := by
  intro d
  induction d with
  | zero =>
   intro i b hd hb0 hb1
   right
   have hi : l.length = i := by omega
   rw [List.drop_of_length_le (by omega)]
   refine ⟨Ev.step (fun k => z52.l0.eq_2 ..) (ev_neg (by omega) (ev_eq (Ev.now b) (by simp [total]))), by simpa [total] using hb0⟩
  | succ d ih =>
   intro i b hd hb0 hb1
   have hi : i < l.length := by omega
   have hdr : l.drop i = l.getD i [] :: l.drop (i + 1) := by
    rw [List.drop_eq_getElem_cons hi, List.getD_eq_getElem?_getD, List.getElem?_eq_getElem hi]; rfl
   have hm : l.getD i [] ∈ l := by
    rw [List.getD_eq_getElem?_getD, List.getElem?_eq_getElem hi]; exact List.getElem_mem hi
   have hrl := (hw.2 _ hm).1
   have hv := szInt64S_val (l.getD i []) b hb0 hb1 hrl
   have hrd : rI_ l (i : Int) = l.getD i [] := by simp [rI_]
   have hlen : l.length ≤ 9223372036854775807 := hw.1
   by_cases hneg : b - ((l.getD i []).length : Int) < 0
   ·left
    rw [if_pos hneg] at hv
    refine ⟨-1, Ev.step (fun k => z52.l0.eq_2 ..) (ev_pos (by omega) (ev_pos (by omega) ?_)), by omega⟩
    rw [hrd]
    exact Ev.bind (ev_const hv) (ev_pos (by omega) (Ev.now _))
   ·rw [if_neg hneg] at hv
    rcases ih (i + 1) (b - ((l.getD i []).length : Int)) (by omega) (by omega) (by omega) with ⟨t, ht, htn⟩ | ⟨ht, htb⟩
    ·left
     refine ⟨t, Ev.step (fun k => z52.l0.eq_2 ..) (ev_pos (by omega) (ev_pos (by omega) ?_)), htn⟩
     rw [hrd, wrap_succ (by omega)]
     exact Ev.bind (ev_const hv) (ev_neg (by omega) ht)
    ·right
     rw [hdr]
     simp only [total]
     refine ⟨Ev.step (fun k => z52.l0.eq_2 ..) (ev_pos (by omega) (ev_pos (by omega) ?_)), by omega⟩
     rw [hrd, wrap_succ (by omega)]
     exact Ev.bind (ev_const hv) (ev_neg (by omega) (ev_eq ht (by omega)))
 have hlen : l.length ≤ 9223372036854775807 := hw.1
 have e : wrap64 (a - (l.length : Int)) = a - l.length := wrap_small (by omega) (by omega)
 by_cases hneg : a - (l.length : Int) < 0
 ·left
  refine ⟨-1, ?_, by omega⟩
  unfold z52.f
  rw [e]
  exact ev_pos hneg (Ev.now _)
 ·rcases loop l.length 0 (a - l.length) (by omega) (by omega) (by omega) with ⟨t, ht, htn⟩ | ⟨ht, htb⟩
  ·left
   refine ⟨t, ?_, htn⟩
   unfold z52.f
   rw [e]
   exact ev_neg hneg ht
  ·right
   refine ⟨?_, by simp only [List.drop_zero] at htb; omega⟩
   unfold z52.f
   rw [e]
   exact ev_neg hneg ht
theorem toInt64S_ev (l : List Int) (hl : l.length ≤ 1048576) : Ev (fun k => z14.f k l) l := by
 have h := le_iter_inv (fun (s : List Int) (i : Nat) k => z14.l0 k l s (i : Int)) (fun i s => s.set i (l.getD i 0)) (fun i s => s = l.take i ++ List.replicate (l.length - i) 0) l.length 0 (List.replicate l.length 0) (by simp) (by
  intro j s _ hj hs
  refine ⟨fun r hr => Ev.step (fun k => z14.l0.eq_2 ..) (ev_pos (by omega) (ev_pos (by omega) (ev_pos ?_ ?_))), ?_⟩
  ·subst hs; simp only [List.length_append, List.length_take, List.length_replicate]; omega
  ·rw [wrap_succ (by omega), rd_nat, Int.toNat_natCast]; exact hr
  ·subst hs; exact set_prefix l j 0 (by omega) _ rfl)
 unfold z14.f
 refine ev_pos (by omega) (ev_pos (by omega) ?_)
 rw [Int.toNat_natCast]
 refine h.1 l (Ev.step (fun k => z14.l0.eq_2 ..) (ev_neg (by omega) (ev_eq (Ev.now _) ?_)))
 rw [h.2]
 simp
theorem toInt64SS_ev (l : List (List Int)) (hl : l.length ≤ 1048576) (hr : ∀ x ∈ l, x.length ≤ 1048576) : Ev (fun k => z57.f k l) l := by
 have h := le_iter_inv (fun (s : List (List Int)) (i : Nat) k => z57.l0 k l s (i : Int)) (fun i s => s.set i (l.getD i [])) (fun i s => s = l.take i ++ List.replicate (l.length - i) []) l.length 0 (List.replicate l.length []) (by simp) (by
  intro j s _ hj hs
  have hm : l.getD j [] ∈ l := by
   rw [List.getD_eq_getElem?_getD, List.getElem?_eq_getElem (by omega)]; exact List.getElem_mem _
  have hrd : rI_ l (j : Int) = l.getD j [] := by simp [rI_]
  refine ⟨fun r hr' => Ev.step (fun k => z57.l0.eq_2 ..) (ev_pos (by omega) (ev_pos (by omega) ?_)), ?_⟩
  ·rw [hrd]
   refine Ev.bind (toInt64S_ev _ (hr _ hm)) (ev_pos ?_ ?_)
   ·subst hs; simp only [List.length_append, List.length_take, List.length_replicate]; omega
   ·rw [wrap_succ (by omega), Int.toNat_natCast]; exact hr'
  ·subst hs; exact set_prefix l j [] (by omega) _ rfl)
 unfold z57.f
 refine ev_pos (by omega) (ev_pos (by omega) ?_)
 rw [Int.toNat_natCast]
 refine h.1 l (Ev.step (fun k => z57.l0.eq_2 ..) (ev_neg (by omega) (ev_eq (Ev.now _) ?_)))
 rw [h.2]
 simp
theorem list_eq_range {α : Type} [BEq α] [LawfulBEq α] (l m : List α) (z : α) (h : l.length = m.length) : (List.range l.length).all (fun i => l.getD i z == m.getD i z) = (l == m) := by
 rw [Bool.eq_iff_iff, List.all_eq_true, beq_iff_eq]
 constructor
 ·intro e
  apply List.ext_getElem h
  intro i h1 h2
  have := e i (List.mem_range.2 h1)
  simpa [List.getD_eq_getElem?_getD, List.getElem?_eq_getElem h1, List.getElem?_eq_getElem h2] using this
 ·rintro rfl i _
  exact beq_self_eq_true _
theorem len_ne_beq {α : Type} [BEq α] [LawfulBEq α] {l m : List α} (h : l.length ≠ m.length) : (l == m) = false := by
 rw [Bool.eq_false_iff]; intro e; exact h (by rw [eq_of_beq e])
theorem eqInt64S_ev (l m : List Int) (hl : l.length < 9223372036854775807) : Ev (fun k => z16.f k l m) (l == m) := by
 unfold z16.f
 by_cases h : l.length = m.length
 ·refine ev_pos (by omega) ?_
  rw [← list_eq_range l m 0 h]
  refine ev_all (fun (i : Nat) k => z16.l0 k l m (i : Int)) _ l.length (fun j hj hp r hr => ?_) (fun j hj hp => ?_) ?_
  ·refine Ev.step (fun k => z16.l0.eq_2 ..) (ev_pos (by omega) (ev_pos (by omega) (ev_pos (by omega) (ev_pos ?_ ?_))))
   ·rw [rd_nat, rd_nat]; exact eq_of_beq hp
   ·rw [wrap_succ (by omega)]; exact hr
  ·refine Ev.step (fun k => z16.l0.eq_2 ..) (ev_pos (by omega) (ev_pos (by omega) (ev_pos (by omega) (ev_neg ?_ (Ev.now _)))))
   rw [rd_nat, rd_nat]; exact ne_of_beq_false hp
  ·exact Ev.step (fun k => z16.l0.eq_2 ..) (ev_neg (by omega) (Ev.now _))
 ·rw [len_ne_beq h]
  exact ev_neg (by omega) (Ev.now _)
theorem eqInt64SS_ev (l m : List (List Int)) (hl : l.length < 9223372036854775807) (hr : ∀ x ∈ l, x.length < 9223372036854775807) : Ev (fun k => z26.f k l m) (l == m) := by
 unfold z26.f
 by_cases h : l.length = m.length
 ·refine ev_pos (by omega) ?_
  rw [← list_eq_range l m [] h]
  have hm : ∀ j, j < l.length → Ev (fun k => z16.f k (rI_ l (j : Int)) (rI_ m (j : Int))) (l.getD j [] == m.getD j []) := fun j hj => by
   have h1 : rI_ l (j : Int) = l.getD j [] := by simp [rI_]
   have h2 : rI_ m (j : Int) = m.getD j [] := by simp [rI_]
   rw [h1, h2]
   refine eqInt64S_ev _ _ (hr _ ?_)
   rw [List.getD_eq_getElem?_getD, List.getElem?_eq_getElem hj]; exact List.getElem_mem hj
  refine ev_all (fun (i : Nat) k => z26.l0 k l m (i : Int)) _ l.length (fun j hj hp r hr => ?_) (fun j hj hp => ?_) ?_
  ·refine Ev.step (fun k => z26.l0.eq_2 ..) (ev_pos (by omega) (ev_pos (by omega) (ev_pos (by omega) (Ev.bind (hm j hj) (ev_pos hp ?_)))))
   rw [wrap_succ (by omega)]; exact hr
  ·exact Ev.step (fun k => z26.l0.eq_2 ..) (ev_pos (by omega) (ev_pos (by omega) (ev_pos (by omega) (Ev.bind (hm j hj) (ev_neg (by rw [hp]; decide) (Ev.now _))))))
  ·exact Ev.step (fun k => z26.l0.eq_2 ..) (ev_neg (by omega) (Ev.now _))
 ·rw [len_ne_beq h]
  exact ev_neg (by omega) (Ev.now _)
end Go.Proofs.Ytabfflgoaalapaa.B
set_option linter.unusedVariables false
set_option linter.unusedSimpArgs false
namespace Go.Proofs.Ytabfflgoaalapaa.B
open Go.RowKit Go.Proofs.YtabfflgoaalapaaW.PrintWords
theorem mark_val (l : List (List Int)) (a : Int) (h0 : 0 ≤ a) (h1 : a + total l ≤ 9223372036854775807) : laws_markInt64SS.f l a = some (a + total l, markRows l a) := by
 unfold laws_markInt64SS.f
 rw [if_pos ⟨h0, h1⟩]
theorem markInts_get : ∀ (l : List Int) (a : Int) (i : Nat), i < l.length → (markInts l a).getD i 0 = a + i
 | [], a, i, h => by simp at h
 | x :: l, a, 0, h => by simp [markInts]
 | x :: l, a, i + 1, h => by
  have := markInts_get l (a + 1) i (by simpa using h)
  simp only [markInts, List.getD_cons_succ, this]
  omega
theorem heldInt64S_ev (l : List Int) (a : Int) (h0 : 0 ≤ a) (h1 : a + l.length ≤ 9223372036854775807) : Ev (fun k => z20.f k (markInts l a) a) (a + l.length) := by
 unfold z20.f
 have h := ev_find (r := a + l.length) (fun (i : Nat) k => z20.l0 k (markInts l a) (a + i) (i : Int)) (fun _ => false) l.length 0 (fun j _ hj _ r hr => by
  refine Ev.step (fun k => z20.l0.eq_2 ..) ?_
  rw [rd_nat, markInts_get l a j (by omega), markInts_length, wrap_succ (by omega), wrap_small (by omega) (by omega), show a + (j : Int) + 1 = a + ((j + 1 : Nat) : Int) by omega]
  (repeat (first | refine ev_pos (by omega) ?_ | refine ev_neg (by omega) ?_))
  exact hr) (fun _ _ _ h => by cases h) (fun _ => by
  refine Ev.step (fun k => z20.l0.eq_2 ..) ?_
  rw [markInts_length]
  exact ev_neg (by omega) (ev_eq (Ev.now _) (by omega)))
 simpa using h
end Go.Proofs.Ytabfflgoaalapaa.B
set_option linter.unusedVariables false
set_option linter.unusedSimpArgs false
namespace Go.Proofs.Ytabfflgoaalapaa.B
open Go.RowKit Go.Proofs.YtabfflgoaalapaaW.PrintWords
theorem eqInt64S_self (l : List Int) (hl : l.length < 9223372036854775807) : Ev (fun k => z16.f k l l) true := ev_eq (eqInt64S_ev l l hl) (beq_self_eq_true l)
theorem markInt64S_mark (l : List Int) (a : Int) (h0 : 0 ≤ a) (h1 : a + l.length ≤ 9223372036854775807) : Ev (fun k => z19.f k l a) (a + l.length, markInts l a) := by
 have := markInt64S_ev l.length l [] l a rfl rfl h0 h1 (by omega)
 simpa [z19.f] using this
end Go.Proofs.Ytabfflgoaalapaa.B
set_option linter.unusedVariables false
set_option linter.unusedSimpArgs false
namespace Go.Proofs.Ytabfflgoaalapaa.B
open Go.RowKit Go.Proofs.YtabfflgoaalapaaW.PrintWords
theorem row_le_total : ∀ (l : List (List Int)) (x : List Int), x ∈ l → x.length ≤ total l
 | y :: l, x, h => by
  have := total_nonneg l
  simp only [total]
  rcases List.mem_cons.1 h with rfl | h
  ·omega
  ·have := row_le_total l x h; omega
theorem eqSpace_self (a b : Int) (l : List (List Int)) (hl : l.length < 9223372036854775807) (hr : ∀ x ∈ l, x.length < 9223372036854775807) : Ev (fun k => z17.f k a b l a b l) true := by
 unfold z17.f
 exact ev_pos rfl (ev_pos rfl (Ev.bind (ev_eq (eqInt64SS_ev l l hl hr) (beq_self_eq_true l)) (ev_pos rfl (Ev.now _))))
theorem toSpace_ev (a b : Int) (l : List (List Int)) (hl : l.length ≤ 1048576) (hr : ∀ x ∈ l, x.length ≤ 1048576) : Ev (fun k => z13.f k a b l) (a, b, l) := by
 unfold z13.f
 exact Ev.bind (toInt64SS_ev l hl hr) (Ev.now _)
theorem szSpace_ev (p n : Int) (l : List (List Int)) (b : Int) (hw : WfLL l) (h0 : 0 ≤ b) (h1 : b ≤ 9223372036854775807) :
  (∃ t, Ev (fun k => z11.f k p n l b) t ∧ t < 0) ∨ (Ev (fun k => z11.f k p n l b) (b - l.length - total l) ∧ l.length + total l ≤ b) := by
 unfold z11.f
 rcases szInt64SS_ev l b hw h0 h1 with ⟨t, ht, hn⟩ | ⟨ht, hb⟩
 ·exact .inl ⟨-1, Ev.bind ht (ev_pos hn (Ev.now _)), by omega⟩
 ·exact .inr ⟨Ev.bind ht (ev_neg (by omega) (Ev.now _)), hb⟩
theorem markSpace_val (p n : Int) (l : List (List Int)) (a : Int) (h0 : 0 ≤ a) (h1 : a + total l ≤ 9223372036854775807) : laws_markSpace.f p n l a = some (a + total l, markRows l a) := mark_val l a h0 h1
end Go.Proofs.Ytabfflgoaalapaa.B
set_option linter.unusedVariables false
set_option linter.unusedSimpArgs false
namespace Go.Proofs.Ytabfflgoaalapaa.B
open Go.RowKit Go.Proofs.YtabfflgoaalapaaW.PrintWords
theorem ev_map {α β : Type} (L : List α → Nat → Nat → Option β) (g : Nat → α) : ∀ (n : Nat), (∀ j s, j < n → s = (List.range j).map g → Le (L (s ++ [g j]) (j + 1)) (L s j)) → Le (L ((List.range n).map g) n) (L [] 0)
 | 0, _ => Le.refl _
 | n + 1, h => by
  have ih := ev_map L g n (fun j s hj => h j s (by omega))
  refine Le.trans ?_ ih
  rw [List.range_succ, List.map_append]
  exact h n _ (by omega) rfl
theorem ev_all_then (L : Nat → Nat → Option Bool) (p : Nat → Bool) (b : Bool) : ∀ (n : Nat), (∀ j, j < n → (∀ m, m < j → p m = true) → p j = true → Le (L (j + 1)) (L j)) → (∀ j, j < n → (∀ m, m < j → p m = true) → p j = false → Ev (L j) false) → ((∀ m, m < n → p m = true) → Ev (L n) b) → Ev (L 0) ((List.range n).all p && b) := by
 intro n h1 h0 he
 have main : ∀ (d i : Nat), i + d = n → (∀ m, m < i → p m = true) → Ev (L i) ((List.range n).all p && b) := by
  intro d
  induction d with
  | zero =>
   intro i hi hall
   have : i = n := by omega
   subst this
   have e : (List.range i).all p = true := List.all_eq_true.2 (fun j hj => hall j (List.mem_range.1 hj))
   rw [e, Bool.true_and]; exact he hall
  | succ d ih =>
   intro i hi hall
   cases hp : p i with
   | true =>
    refine h1 i (by omega) hall hp _ (ih (i + 1) (by omega) (fun m hm => ?_))
    rcases Nat.lt_or_ge m i with hl | hg
    ·exact hall m hl
    ·have : m = i := by omega
     subst this; exact hp
   | false =>
    have e : (List.range n).all p = false := by
     rw [Bool.eq_false_iff]
     intro h
     have := List.all_eq_true.1 h i (List.mem_range.2 (by omega))
     rw [hp] at this; cases this
    rw [e, Bool.false_and]
    exact h0 i (by omega) hall hp
 exact main n 0 (by omega) (fun m hm => by omega)
theorem map_range {α β : Type} (z : α) (g : α → β) (l : List α) : l.map g = (List.range l.length).map fun j => g (l.getD j z) := by
 apply List.ext_getElem
 ·simp
 ·intro n h1 h2
  simp only [List.getElem_map, List.getElem_range, List.getD_eq_getElem?_getD]
  have : n < l.length := by simpa using h1
  simp [List.getElem?_eq_getElem this]
end Go.Proofs.Ytabfflgoaalapaa.B
set_option linter.unusedVariables false
set_option linter.unusedSimpArgs false
namespace Go.Proofs.Ytabfflgoaalapaa.B
open Go.RowKit Go.Proofs.YtabfflgoaalapaaW.PrintWords
theorem within_val (a b c : Int) : z126.f a b c = some (decide (b ≤ a) && decide (a ≤ c)) := by
 unfold z126.f
 by_cases h : a ≥ b
 ·rw [if_pos h]; simp [h]
 ·rw [if_neg h]; simp; omega
theorem in_val (a b c : Int) : z79.f a b c = some (decide (b ≤ a) && decide (a ≤ c)) := by
 unfold z79.f
 by_cases h : a ≥ b
 ·rw [if_pos h]; simp [h]
 ·rw [if_neg h]; simp; omega
theorem getD_mem {α : Type} {l : List α} {i : Nat} (z : α) (h : i < l.length) : l.getD i z ∈ l := by
 rw [List.getD_eq_getElem?_getD, List.getElem?_eq_getElem h]; exact List.getElem_mem h
theorem rdl_nat (l : List (List Int)) (i : Nat) : rI_ l (i : Int) = l.getD i [] := by simp [rI_]
end Go.Proofs.Ytabfflgoaalapaa.B
set_option linter.unusedVariables false
set_option linter.unusedSimpArgs false
namespace Go.Proofs.Ytabfflgoaalapaa.B.LinT
abbrev Vec := Nat → Int
theorem dvd_mul_l {p a : Int} (c : Int) (h : p ∣ a) : p ∣ c * a := Int.dvd_trans h (Int.dvd_mul_left c a)
def Zr (p : Int) (n : Nat) (v : Vec) : Prop := ∀ i, i < n → p ∣ v i
structure Sub (p : Int) (n : Nat) (S : Vec → Prop) : Prop where
 zero : ∀ v, Zr p n v → S v
 add : ∀ v w, S v → S w → S (fun i => v i + w i)
 smul : ∀ (c : Int) v, S v → S (fun i => c * v i)
theorem Sub.congr {p : Int} {n : Nat} {S : Vec → Prop} (h : Sub p n S) {v w : Vec} (hv : S v) (e : ∀ i, i < n → p ∣ w i - v i) : S w := by
 have := h.add v (fun i => w i - v i) hv (h.zero _ e)
 have e2 : (fun i => v i + (w i - v i)) = w := by funext i; omega
 rwa [e2] at this
theorem Sub.sub {p : Int} {n : Nat} {S : Vec → Prop} (h : Sub p n S) {v w : Vec} (hv : S v) (hw : S w) : S (fun i => v i - w i) := by
 have := h.add v _ hv (h.smul (-1) w hw)
 have e2 : (fun i => v i + -1 * w i) = fun i => v i - w i := by funext i; omega
 rwa [e2] at this
def Ld (p : Int) (n : Nat) (v : Vec) (i : Nat) : Prop := i < n ∧ ¬ p ∣ v i ∧ ∀ j, j < i → p ∣ v j
theorem least' {q : Nat → Prop} (h : ∃ j, q j) : ∃ j, q j ∧ ∀ m, m < j → ¬ q m := by
 obtain ⟨j, hj⟩ := h
 induction j using Nat.strongRecOn with
 | _ j ih =>
  by_cases hm : ∃ m, m < j ∧ q m
  ·obtain ⟨m, h1, h2⟩ := hm
   exact ih m h1 h2
  ·exact ⟨j, hj, fun m h1 h2 => hm ⟨m, h1, h2⟩⟩
theorem ld_of {p : Int} {n : Nat} {v : Vec} (h : ¬ Zr p n v) : ∃ i, Ld p n v i := by
 have : ∃ i, i < n ∧ ¬ p ∣ v i := by
  refine Classical.byContradiction fun hc => h fun i hi => Classical.byContradiction fun hd => hc ⟨i, hi, hd⟩
 obtain ⟨i, ⟨h1, h2⟩, h3⟩ := least' this
 exact ⟨i, h1, h2, fun j hj => Classical.byContradiction fun hd => h3 j hj ⟨by omega, hd⟩⟩
theorem ld_nz {p : Int} {n : Nat} {v : Vec} {i : Nat} (h : Ld p n v i) : ¬ Zr p n v := fun hz => h.2.1 (hz i h.1)
def Pl (p : Int) (n : Nat) (S : Vec → Prop) (i : Nat) : Prop := ∃ v, S v ∧ Ld p n v i
open Classical in
noncomputable def cnt (Q : Nat → Prop) : Nat → Nat
 | 0 => 0
 | n + 1 => cnt Q n + (if Q n then 1 else 0)
theorem cnt_le (Q : Nat → Prop) : ∀ n, cnt Q n ≤ n
 | 0 => Nat.le_refl _
 | n + 1 => by have := cnt_le Q n; simp only [cnt]; split <;> omega
theorem cnt_mono {Q R : Nat → Prop} : ∀ n, (∀ i, i < n → Q i → R i) → cnt Q n ≤ cnt R n
 | 0, _ => Nat.le_refl _
 | n + 1, h => by
  have ih := cnt_mono n (fun i hi => h i (by omega))
  have hn := h n (by omega)
  simp only [cnt]
  by_cases hq : Q n
  ·rw [if_pos hq, if_pos (hn hq)]; omega
  ·rw [if_neg hq]; split <;> omega
theorem cnt_congr {Q R : Nat → Prop} (n : Nat) (h : ∀ i, i < n → (Q i ↔ R i)) : cnt Q n = cnt R n :=
 Nat.le_antisymm (cnt_mono n fun i hi => (h i hi).1) (cnt_mono n fun i hi => (h i hi).2)
theorem cnt_insert {Q R : Nat → Prop} (i0 : Nat) : ∀ n, i0 < n → ¬ Q i0 → (∀ i, i < n → (R i ↔ Q i ∨ i = i0)) → cnt R n = cnt Q n + 1
 | 0, h, _, _ => by omega
 | n + 1, h, hq, he => by
  simp only [cnt]
  rcases Nat.lt_or_ge i0 n with hl | hg
  ·rw [cnt_insert i0 n hl hq (fun i hi => he i (by omega))]
   have e := he n (by omega)
   have e2 : R n ↔ Q n := by
    rw [e]
    constructor
    ·rintro (h | h)
     ·exact h
     ·omega
    ·exact Or.inl
   by_cases hqn : Q n
   ·rw [if_pos hqn, if_pos (e2.2 hqn)]
   ·rw [if_neg hqn, if_neg (fun h => hqn (e2.1 h))]
  ·have : i0 = n := by omega
   subst this
   rw [if_neg hq, if_pos ((he i0 (by omega)).2 (.inr rfl)), cnt_congr (Q := R) (R := Q) i0 (fun i hi => by
    rw [he i (by omega)]; constructor
    ·rintro (h | h)
     ·exact h
     ·omega
    ·exact Or.inl)]
theorem cnt_none (Q : Nat → Prop) : ∀ n, (∀ i, i < n → ¬ Q i) → cnt Q n = 0
 | 0, _ => rfl
 | n + 1, h => by simp only [cnt]; rw [cnt_none Q n (fun i hi => h i (by omega)), if_neg (h n (by omega))]
noncomputable def dim (p : Int) (n : Nat) (S : Vec → Prop) : Nat := cnt (Pl p n S) n
theorem dim_le (p : Int) (n : Nat) (S : Vec → Prop) : dim p n S ≤ n := cnt_le _ _
theorem dim_mono {p : Int} {n : Nat} {S T : Vec → Prop} (h : ∀ v, S v → T v) : dim p n S ≤ dim p n T :=
 cnt_mono n fun i _ ⟨v, h1, h2⟩ => ⟨v, h v h1, h2⟩
theorem dim_congr {p : Int} {n : Nat} {S T : Vec → Prop} (h : ∀ v, S v ↔ T v) : dim p n S = dim p n T :=
 Nat.le_antisymm (dim_mono fun v => (h v).1) (dim_mono fun v => (h v).2)
def Pr (p : Int) : Prop := (¬ p ∣ 1) ∧ ∀ a, ¬ p ∣ a → ∃ b, p ∣ a * b - 1
theorem not_dvd_mul {p a b : Int} (hp : Pr p) (h : ¬ p ∣ a) (h' : ¬ p ∣ b) : ¬ p ∣ a * b := fun hd => by
 obtain ⟨c, hc⟩ := hp.2 a h
 apply h'
 obtain ⟨k, hk⟩ := hd
 obtain ⟨m, hm⟩ := hc
 exact ⟨c * k - m * b, by grind⟩
theorem reduce_to {p : Int} {n : Nat} {S : Vec → Prop} (hp : Pr p) (hS : Sub p n S) (v : Vec) : ∃ s, S s ∧ (Zr p n (fun i => v i - s i) ∨ ∃ i, Ld p n (fun i => v i - s i) i ∧ ¬ Pl p n S i) := by
 have main : ∀ (d : Nat) (v : Vec), (∀ j, j + d < n → p ∣ v j) → ∃ s, S s ∧ (Zr p n (fun i => v i - s i) ∨ ∃ i, Ld p n (fun i => v i - s i) i ∧ ¬ Pl p n S i) := by
  intro d
  induction d with
  | zero =>
   intro v hv
   refine ⟨fun _ => 0, hS.zero _ (fun i _ => Int.dvd_zero p), .inl fun i hi => ?_⟩
   simpa using hv i (by omega)
  | succ d ih =>
   intro v hv
   by_cases hz : Zr p n v
   ·refine ⟨fun _ => 0, hS.zero _ (fun i _ => Int.dvd_zero p), .inl fun i hi => ?_⟩
    simpa using hz i hi
   ·obtain ⟨i, hi⟩ := ld_of hz
    by_cases hP : Pl p n S i
    ·obtain ⟨s, hs, hl⟩ := hP
     obtain ⟨b, hb⟩ := hp.2 _ hl.2.1
     obtain ⟨t, ht, h⟩ := ih (fun j => v j - (v i * b) * s j) (fun j hj => by
      rcases Nat.lt_trichotomy j i with h1 | h1 | h1
      ·exact Int.dvd_sub (hi.2.2 j h1) (dvd_mul_l _ (hl.2.2 j h1))
      ·subst h1
       obtain ⟨k, hk⟩ := hb
       exact ⟨-(v j * k), by grind⟩
      ·have : i < n := hi.1
       exact absurd (hv i (by omega)) hi.2.1)
     refine ⟨fun j => (v i * b) * s j + t j, hS.add _ _ (hS.smul _ _ hs) ht, ?_⟩
     have e : (fun j => v j - ((v i * b) * s j + t j)) = fun j => v j - (v i * b) * s j - t j := by funext j; omega
     rw [e]; exact h
    ·refine ⟨fun _ => 0, hS.zero _ (fun i _ => Int.dvd_zero p), .inr ⟨i, ?_, hP⟩⟩
     simpa using hi
 exact main n v (fun j hj => by omega)
def Ins (p : Int) (n : Nat) (S : Vec → Prop) (x v : Vec) : Prop := ∃ (c : Int) (s : Vec), S s ∧ ∀ i, i < n → p ∣ v i - (c * x i + s i)
theorem Ins.isSub {p : Int} {n : Nat} {S : Vec → Prop} (hS : Sub p n S) (x : Vec) : Sub p n (Ins p n S x) where
 zero v hv := ⟨0, fun _ => 0, hS.zero _ (fun i _ => Int.dvd_zero p), fun i hi => by simpa using hv i hi⟩
 add := by
  rintro v w ⟨c, s, hs, h⟩ ⟨c', s', hs', h'⟩
  refine ⟨c + c', _, hS.add _ _ hs hs', fun i hi => ?_⟩
  have := Int.dvd_add (h i hi) (h' i hi)
  have e : v i + w i - ((c + c') * x i + (s i + s' i)) = (v i - (c * x i + s i)) + (w i - (c' * x i + s' i)) := by grind
  rw [e]; exact this
 smul := by
  rintro d v ⟨c, s, hs, h⟩
  refine ⟨d * c, _, hS.smul d _ hs, fun i hi => ?_⟩
  have := dvd_mul_l d (h i hi)
  have e : d * v i - (d * c * x i + d * s i) = d * (v i - (c * x i + s i)) := by grind
  rw [e]; exact this
theorem Ins.old {p : Int} {n : Nat} {S : Vec → Prop} {x v : Vec} (h : S v) : Ins p n S x v := ⟨0, v, h, fun i _ => by simp⟩
theorem Ins.new {p : Int} {n : Nat} {S : Vec → Prop} (hS : Sub p n S) {x : Vec} : Ins p n S x x := ⟨1, fun _ => 0, hS.zero _ (fun i _ => Int.dvd_zero p), fun i _ => by simp⟩
theorem Ins.least {p : Int} {n : Nat} {S T : Vec → Prop} (hT : Sub p n T) {x v : Vec} (h : ∀ v, S v → T v) (hx : T x) (hv : Ins p n S x v) : T v := by
 obtain ⟨c, s, hs, he⟩ := hv
 exact hT.congr (hT.add _ _ (hT.smul c _ hx) (h s hs)) he
theorem dim_ins {p : Int} {n : Nat} {S : Vec → Prop} (hp : Pr p) (hS : Sub p n S) {x : Vec} (hx : ¬ S x) : dim p n (Ins p n S x) = dim p n S + 1 := by
 obtain ⟨s, hs, hz | ⟨i0, hi, hP⟩⟩ := reduce_to hp hS x
 ·exact absurd (hS.congr hs hz) hx
 refine cnt_insert i0 n hi.1 hP (fun i hin => ⟨?_, ?_⟩)
 ·rintro ⟨v, ⟨c, t, ht, he⟩, hl⟩
  by_cases hc : p ∣ c
  ·left
   refine ⟨v, hS.congr ht (fun j hj => ?_), hl⟩
   have := Int.dvd_add (he j hj) (Int.dvd_mul_of_dvd_left (c := x j) hc)
   have e : v j - t j = v j - (c * x j + t j) + c * x j := by omega
   rw [e]; exact this
  ·-- v = c (x - s) + (c s + t)
   have hu : S (fun j => c * s j + t j) := hS.add _ _ (hS.smul c _ hs) ht
   have hv : ∀ j, j < n → p ∣ v j - (c * (x j - s j) + (c * s j + t j)) := fun j hj => by
    have e : v j - (c * (x j - s j) + (c * s j + t j)) = v j - (c * x j + t j) := by grind
    rw [e]; exact he j hj
   generalize hdef : (fun j => c * s j + t j) = u at hu
   have hv : ∀ j, j < n → p ∣ v j - (c * (x j - s j) + u j) := fun j hj => by rw [← hdef]; exact hv j hj
   rcases Nat.lt_trichotomy i i0 with h1 | h1 | h1
   ·left
    refine ⟨u, hu, hin, fun hd => hl.2.1 ?_, fun j hj => ?_⟩
    ·have h2 := hi.2.2 i h1
     have := Int.dvd_add (hv i hin) (Int.dvd_add (dvd_mul_l c h2) hd)
     have e : v i = v i - (c * (x i - s i) + u i) + (c * (x i - s i) + u i) := by omega
     rw [e]; exact this
    ·have h2 := hi.2.2 j (by omega)
     have h3 := hl.2.2 j hj
     have := Int.dvd_sub h3 (Int.dvd_add (hv j (by omega)) (dvd_mul_l c h2))
     have e : u j = v j - (v j - (c * (x j - s j) + u j) + c * (x j - s j)) := by omega
     rw [e]; exact this
   ·exact .inr h1
   ·exfalso
    -- u has the lead i0
    refine hP ⟨u, hu, hi.1, fun hd => ?_, fun j hj => ?_⟩
    ·have h3 := hl.2.2 i0 h1
     have h4 : p ∣ c * (x i0 - s i0) := by
      have := Int.dvd_sub h3 (Int.dvd_add (hv i0 hi.1) hd)
      have e : c * (x i0 - s i0) = v i0 - (v i0 - (c * (x i0 - s i0) + u i0) + u i0) := by omega
      rw [e]; exact this
     exact not_dvd_mul hp hc hi.2.1 h4
    ·have h2 := hi.2.2 j hj
     have h3 := hl.2.2 j (by omega)
     have := Int.dvd_sub h3 (Int.dvd_add (hv j (by have := hi.1; omega)) (dvd_mul_l c h2))
     have e : u j = v j - (v j - (c * (x j - s j) + u j) + c * (x j - s j)) := by omega
     rw [e]; exact this
 ·rintro (⟨v, hv, hl⟩ | rfl)
  ·exact ⟨v, Ins.old hv, hl⟩
  ·exact ⟨_, (Ins.isSub hS x).sub (Ins.new hS) (Ins.old hs), hi⟩
def Span (p : Int) (n : Nat) : List Vec → Vec → Prop
 | [] => Zr p n
 | x :: L => Ins p n (Span p n L) x
theorem zr_sub (p : Int) (n : Nat) : Sub p n (Zr p n) where
 zero _ h := h
 add _ _ h h' i hi := Int.dvd_add (h i hi) (h' i hi)
 smul c _ h i hi := dvd_mul_l c (h i hi)
theorem span_sub (p : Int) (n : Nat) : ∀ L, Sub p n (Span p n L)
 | [] => zr_sub p n
 | x :: L => Ins.isSub (span_sub p n L) x
theorem span_mem {p : Int} {n : Nat} : ∀ {L : List Vec} {x : Vec}, x ∈ L → Span p n L x
 | y :: L, x, h => by
  rcases List.mem_cons.1 h with rfl | h
  ·exact Ins.new (span_sub p n L)
  ·exact Ins.old (span_mem h)
theorem span_least {p : Int} {n : Nat} {T : Vec → Prop} (hT : Sub p n T) : ∀ {L : List Vec} {v : Vec}, (∀ x, x ∈ L → T x) → Span p n L v → T v
 | [], v, _, hv => hT.zero v hv
 | y :: L, v, h, hv => Ins.least hT (fun v hv => span_least hT (fun x hx => h x (List.mem_cons_of_mem _ hx)) hv) (h y List.mem_cons_self) hv
theorem span_mono {p : Int} {n : Nat} {L M : List Vec} (h : ∀ x, x ∈ L → Span p n M x) {v : Vec} (hv : Span p n L v) : Span p n M v := span_least (span_sub p n M) h hv
theorem dim_zero (p : Int) (n : Nat) : dim p n (Zr p n) = 0 := cnt_none _ n (fun i _ ⟨_, h1, h2⟩ => ld_nz h2 h1)
theorem ins_eq {p : Int} {n : Nat} {S : Vec → Prop} (hS : Sub p n S) {x : Vec} (hx : S x) (v : Vec) : Ins p n S x v ↔ S v :=
 ⟨fun h => Ins.least hS (fun _ h => h) hx h, Ins.old⟩
theorem dim_span_le {p : Int} {n : Nat} (hp : Pr p) : ∀ (L : List Vec), dim p n (Span p n L) ≤ L.length
 | [] => by rw [show Span p n [] = Zr p n from rfl, dim_zero]; exact Nat.le_refl _
 | x :: L => by
  have ih := dim_span_le (n := n) hp L
  simp only [Span, List.length_cons]
  by_cases hx : Span p n L x
  ·rw [dim_congr (ins_eq (span_sub p n L) hx)]; omega
  ·rw [dim_ins hp (span_sub p n L) hx]; omega
structure Lmap (p : Int) (a b : Nat) (f : Vec → Vec) : Prop where
 zr : ∀ v, Zr p a v → Zr p b (f v)
 add : ∀ v w j, j < b → p ∣ f (fun i => v i + w i) j - (f v j + f w j)
 smul : ∀ (c : Int) v j, j < b → p ∣ f (fun i => c * v i) j - c * f v j
theorem Lmap.sub {p : Int} {a b : Nat} {f : Vec → Vec} (hf : Lmap p a b f) (v w : Vec) (j : Nat) (hj : j < b) : p ∣ f (fun i => v i - w i) j - (f v j - f w j) := by
 have h1 := hf.add v (fun i => -1 * w i) j hj
 have h2 := hf.smul (-1) w j hj
 have e : (fun i => v i + -1 * w i) = fun i => v i - w i := by funext i; omega
 simp only [e] at h1
 have := Int.dvd_add h1 h2
 have e2 : f (fun i => v i - w i) j - (f v j - f w j) = f (fun i => v i - w i) j - (f v j + f (fun i => -1 * w i) j) + (f (fun i => -1 * w i) j - -1 * f w j) := by omega
 rw [e2]; exact this
def sm (f : Nat → Int) : Nat → Int
 | 0 => 0
 | n + 1 => sm f n + f n
theorem sm_congr {f g : Nat → Int} : ∀ n, (∀ i, i < n → f i = g i) → sm f n = sm g n
 | 0, _ => rfl
 | n + 1, h => by simp only [sm]; rw [sm_congr n (fun i hi => h i (by omega)), h n (by omega)]
theorem sm_add (f g : Nat → Int) : ∀ n, sm (fun i => f i + g i) n = sm f n + sm g n
 | 0 => rfl
 | n + 1 => by simp only [sm]; rw [sm_add f g n]; omega
theorem sm_mul (c : Int) (f : Nat → Int) : ∀ n, sm (fun i => c * f i) n = c * sm f n
 | 0 => by simp [sm]
 | n + 1 => by simp only [sm]; rw [sm_mul c f n, Int.mul_add]
theorem sm_dvd {p : Int} {f : Nat → Int} : ∀ n, (∀ i, i < n → p ∣ f i) → p ∣ sm f n
 | 0, _ => Int.dvd_zero p
 | n + 1, h => Int.dvd_add (sm_dvd n fun i hi => h i (by omega)) (h n (by omega))
theorem sm_sub (f g : Nat → Int) (n : Nat) : sm (fun i => f i - g i) n = sm f n - sm g n := by
 have h := sm_add f (fun i => -1 * g i) n
 rw [sm_mul] at h
 rw [show (fun i => f i - g i) = fun i => f i + -1 * g i by funext i; omega, h]; omega
theorem sm_zero : ∀ n, sm (fun _ => 0) n = 0
 | 0 => rfl
 | n + 1 => by simp only [sm]; rw [sm_zero n]; rfl
theorem sm_single {f : Nat → Int} {p : Int} (i0 : Nat) : ∀ n, i0 < n → (∀ i, i < n → i ≠ i0 → p ∣ f i) → p ∣ sm f n - f i0
 | 0, h, _ => by omega
 | n + 1, h, hz => by
  simp only [sm]
  rcases Nat.lt_or_ge i0 n with hl | hg
  ·have := Int.dvd_add (sm_single i0 n hl (fun i hi => hz i (by omega))) (hz n (by omega) (by omega))
   rwa [show sm f n - f i0 + f n = sm f n + f n - f i0 by omega] at this
  ·have : i0 = n := by omega
   subst this
   have := sm_dvd (p := p) (f := f) i0 (fun i hi => hz i (by omega) (by omega))
   rwa [show sm f i0 + f i0 - f i0 = sm f i0 by omega]
structure Rref (p : Int) (n r : Nat) (R : Nat → Vec) (q : Nat → Nat) : Prop where
 lt : ∀ i, i < r → q i < n
 mono : ∀ i j, i < j → j < r → q i < q j
 one : ∀ i, i < r → p ∣ R i (q i) - 1
 off : ∀ i j, i < r → j < r → i ≠ j → p ∣ R i (q j)
 pre : ∀ i c, i < r → c < q i → p ∣ R i c
def rows (R : Nat → Vec) (r : Nat) : List Vec := (List.range r).map R
theorem rows_mem {R : Nat → Vec} {r i : Nat} (h : i < r) : R i ∈ rows R r := List.mem_map_of_mem (List.mem_range.2 h)
theorem mem_rows {R : Nat → Vec} {r : Nat} {x : Vec} (h : x ∈ rows R r) : ∃ i, i < r ∧ R i = x := by
 obtain ⟨i, hi, he⟩ := List.mem_map.1 h
 exact ⟨i, List.mem_range.1 hi, he⟩
def comb (R : Nat → Vec) (r : Nat) (c : Nat → Int) : Vec := fun j => sm (fun i => c i * R i j) r
theorem comb_span {p : Int} {n : Nat} {S : Vec → Prop} (hS : Sub p n S) (R : Nat → Vec) (c : Nat → Int) : ∀ r, (∀ i, i < r → S (R i)) → S (comb R r c)
 | 0, _ => hS.zero _ (fun _ _ => Int.dvd_zero p)
 | r + 1, h => hS.add _ _ (comb_span hS R c r (fun i hi => h i (by omega))) (hS.smul (c r) _ (h r (by omega)))
theorem span_comb {p : Int} {n : Nat} (R : Nat → Vec) (r : Nat) (v : Vec) : Span p n (rows R r) v ↔ ∃ c, ∀ j, j < n → p ∣ v j - comb R r c j := by
 constructor
 ·refine span_least (T := fun v => ∃ c, ∀ j, j < n → p ∣ v j - comb R r c j) ⟨?_, ?_, ?_⟩ (fun x hx => ?_)
  ·intro v hv
   refine ⟨fun _ => 0, fun j hj => ?_⟩
   have e : comb R r (fun _ => 0) j = 0 := by
    unfold comb; rw [sm_congr (g := fun _ => 0) r (fun i _ => Int.zero_mul _), sm_zero]
   rw [e, Int.sub_zero]; exact hv j hj
  ·rintro v w ⟨c, hc⟩ ⟨d, hd⟩
   refine ⟨fun i => c i + d i, fun j hj => ?_⟩
   have e : comb R r (fun i => c i + d i) j = comb R r c j + comb R r d j := by
    unfold comb; rw [← sm_add]; exact sm_congr r fun i _ => Int.add_mul _ _ _
   have := Int.dvd_add (hc j hj) (hd j hj)
   rwa [show v j - comb R r c j + (w j - comb R r d j) = v j + w j - (comb R r c j + comb R r d j) by omega, ← e] at this
  ·rintro a v ⟨c, hc⟩
   refine ⟨fun i => a * c i, fun j hj => ?_⟩
   have e : comb R r (fun i => a * c i) j = a * comb R r c j := by
    unfold comb; rw [← sm_mul]; exact sm_congr r fun i _ => Int.mul_assoc _ _ _
   have := dvd_mul_l a (hc j hj)
   rwa [Int.mul_sub, ← e] at this
  ·obtain ⟨i0, hi0, rfl⟩ := mem_rows hx
   refine ⟨fun i => if i = i0 then 1 else 0, fun j hj => ?_⟩
   have := sm_single (p := p) (f := fun i => (if i = i0 then 1 else 0) * R i j) i0 r hi0 (fun i _ hne => by simp [hne])
   simp only [if_pos, Int.one_mul] at this
   have := Int.dvd_neg.2 this
   rwa [Int.neg_sub] at this
 ·rintro ⟨c, hc⟩
  exact (span_sub p n _).congr (comb_span (span_sub p n _) R c r (fun i hi => span_mem (rows_mem hi))) hc
theorem Rref.coef {p : Int} {n r : Nat} {R : Nat → Vec} {q : Nat → Nat} (h : Rref p n r R q) {v : Vec} (hv : Span p n (rows R r) v) (j : Nat) (hj : j < n) : p ∣ v j - comb R r (fun i => v (q i)) j := by
 obtain ⟨c, hc⟩ := (span_comb R r v).1 hv
 have e : ∀ i, i < r → p ∣ v (q i) - c i := fun i hi => by
  have h1 := hc (q i) (h.lt i hi)
  have h2 := sm_single (p := p) (f := fun k => c k * R k (q i)) i r hi (fun k hk hne => dvd_mul_l _ (h.off k i hk hi hne))
  have h3 := dvd_mul_l (c i) (h.one i hi)
  have := Int.dvd_add h1 (Int.dvd_add h2 h3)
  have e : v (q i) - comb R r c (q i) + (sm (fun k => c k * R k (q i)) r - c i * R i (q i) + c i * (R i (q i) - 1)) = v (q i) - c i := by
   unfold comb; grind
  rwa [e] at this
 have h4 : p ∣ comb R r c j - comb R r (fun i => v (q i)) j := by
  unfold comb
  rw [← sm_sub]
  refine sm_dvd r fun i hi => ?_
  have := dvd_mul_l (R i j) (e i hi)
  have := Int.dvd_neg.2 this
  have e2 : -(R i j * (v (q i) - c i)) = c i * R i j - v (q i) * R i j := by grind
  rwa [e2] at this
 have := Int.dvd_add (hc j hj) h4
 rwa [show v j - comb R r c j + (comb R r c j - comb R r (fun i => v (q i)) j) = v j - comb R r (fun i => v (q i)) j by omega] at this
theorem Rref.zero {p : Int} {n r : Nat} {R : Nat → Vec} {q : Nat → Nat} (h : Rref p n r R q) {v : Vec} (hv : Span p n (rows R r) v) (hz : ∀ i, i < r → p ∣ v (q i)) : Zr p n v := fun j hj => by
 have h1 := h.coef hv j hj
 have h2 : p ∣ comb R r (fun i => v (q i)) j := sm_dvd r fun i hi => Int.dvd_mul_of_dvd_left (hz i hi)
 have := Int.dvd_add h1 h2
 rwa [Int.sub_add_cancel] at this
theorem Rref.pl {p : Int} {n r : Nat} {R : Nat → Vec} {q : Nat → Nat} (hp : Pr p) (h : Rref p n r R q) (c : Nat) : Pl p n (Span p n (rows R r)) c ↔ ∃ i, i < r ∧ q i = c := by
 constructor
 ·rintro ⟨v, hv, hl⟩
  -- the first i with v (q i) not zero
  have hex : ∃ i, i < r ∧ ¬ p ∣ v (q i) := Classical.byContradiction fun hc => by
   refine ld_nz hl (h.zero hv fun i hi => Classical.byContradiction fun hd => hc ⟨i, hi, hd⟩)
  obtain ⟨i, ⟨hi, hni⟩, hmin⟩ := least' hex
  refine ⟨i, hi, ?_⟩
  have hsm : ∀ c, c < q i → p ∣ v c := fun c hc => by
   have h1 := h.coef hv c (by have := h.lt i hi; omega)
   have h2 : p ∣ comb R r (fun i => v (q i)) c := sm_dvd r fun k hk => by
    rcases Nat.lt_or_ge k i with hki | hki
    ·exact Int.dvd_mul_of_dvd_left (Classical.byContradiction fun hd => hmin k hki ⟨hk, hd⟩)
    ·refine dvd_mul_l _ (h.pre k c hk ?_)
     rcases Nat.eq_or_lt_of_le hki with rfl | hlt
     ·exact hc
     ·have := h.mono i k hlt hk; omega
   have := Int.dvd_add h1 h2
   rwa [Int.sub_add_cancel] at this
  rcases Nat.lt_trichotomy (q i) c with h1 | h1 | h1
  ·exact absurd (hl.2.2 _ h1) hni
  ·exact h1
  ·exact absurd (hsm c h1) hl.2.1
 ·rintro ⟨i, hi, rfl⟩
  refine ⟨R i, span_mem (rows_mem hi), h.lt i hi, fun hd => hp.1 ?_, fun j hj => h.pre i j hi hj⟩
  have := Int.dvd_sub hd (h.one i hi)
  rwa [show R i (q i) - (R i (q i) - 1) = 1 by omega] at this
theorem Rref.indep {p : Int} {n r : Nat} {R : Nat → Vec} {q : Nat → Nat} (hp : Pr p) (h : Rref p n r R q) : dim p n (Span p n (rows R r)) = r := by
 have main : ∀ k, k ≤ r → cnt (fun c => ∃ i, i < k ∧ q i = c) n = k := by
  intro k
  induction k with
  | zero => intro _; exact cnt_none _ n (fun c _ ⟨i, hi, _⟩ => by omega)
  | succ k ih =>
   intro hk
   rw [cnt_insert (Q := fun c => ∃ i, i < k ∧ q i = c) (q k) n (h.lt k (by omega)) (fun ⟨i, hi, he⟩ => by have := h.mono i k hi (by omega); omega) (fun c _ => ⟨?_, ?_⟩), ih (by omega)]
   ·rintro ⟨i, hi, he⟩
    rcases Nat.lt_or_ge i k with hl | hg
    ·exact .inl ⟨i, hl, he⟩
    ·have : i = k := by omega
     subst this; exact .inr he.symm
   ·rintro (⟨i, hi, he⟩ | he)
    ·exact ⟨i, by omega, he⟩
    ·exact ⟨k, by omega, he.symm⟩
 unfold dim
 rw [cnt_congr n (fun c _ => h.pl hp c)]
 exact main r (Nat.le_refl _)
theorem Rref.unique {p : Int} {n r r' : Nat} {R R' : Nat → Vec} {q q' : Nat → Nat} (hp : Pr p) (h : Rref p n r R q) (h' : Rref p n r' R' q') (hs : ∀ v, Span p n (rows R r) v ↔ Span p n (rows R' r') v) :
  r = r' ∧ ∀ i, i < r → q i = q' i ∧ ∀ j, j < n → p ∣ R i j - R' i j := by
 have hr : r = r' := by rw [← h.indep hp, ← h'.indep hp]; exact dim_congr hs
 subst hr
 have hpl : ∀ c, (∃ i, i < r ∧ q i = c) ↔ ∃ i, i < r ∧ q' i = c := fun c => by
  rw [← h.pl hp c, ← h'.pl hp c]
  exact ⟨fun ⟨v, h1, h2⟩ => ⟨v, (hs v).1 h1, h2⟩, fun ⟨v, h1, h2⟩ => ⟨v, (hs v).2 h1, h2⟩⟩
 have hq : ∀ i, i < r → q i = q' i := by
  intro i
  induction i using Nat.strongRecOn with
  | _ i ih =>
   intro hi
   obtain ⟨j, hj, e1⟩ := (hpl (q i)).1 ⟨i, hi, rfl⟩
   obtain ⟨k, hk, e2⟩ := (hpl (q' i)).2 ⟨i, hi, rfl⟩
   rcases Nat.lt_trichotomy i j with hl | he | hl
   ·-- q' i < q' j = q i; k must be < i
    have h1 := h'.mono i j hl hj
    rcases Nat.lt_trichotomy k i with hk' | hk' | hk'
    ·have := ih k hk' hk; have := h'.mono k i hk' hi; omega
    ·subst hk'; omega
    ·have := h.mono i k hk' hk; omega
   ·subst he; omega
   ·have := ih j hl hj; have := h.mono j i hl hi; omega
 refine ⟨rfl, fun i hi => ⟨hq i hi, fun j hj => ?_⟩⟩
 have hd : Span p n (rows R r) (fun j => R i j - R' i j) := (span_sub p n _).sub (span_mem (rows_mem hi)) ((hs _).2 (span_mem (rows_mem hi)))
 refine h.zero hd (fun k hk => ?_) j hj
 by_cases e : i = k
 ·subst e
  have h1 := h.one i hi
  have h2 := h'.one i hi
  rw [← hq i hi] at h2
  have := Int.dvd_sub h1 h2
  rwa [show R i (q i) - 1 - (R' i (q i) - 1) = R i (q i) - R' i (q i) by omega] at this
 ·have h1 := h.off i k hi hk e
  have h2 := h'.off i k hi hk e
  rw [← hq k hk] at h2
  exact Int.dvd_sub h1 h2
structure GInv (p : Int) (n m c r : Nat) (R : Nat → Vec) (q : Nat → Nat) : Prop where
 rm : r ≤ m
 lt : ∀ i, i < r → q i < c
 mono : ∀ i j, i < j → j < r → q i < q j
 one : ∀ i, i < r → p ∣ R i (q i) - 1
 off : ∀ i j, i < r → j < m → j ≠ i → p ∣ R j (q i)
 pre : ∀ i k, i < r → k < q i → p ∣ R i k
 low : ∀ i k, r ≤ i → i < m → k < c → p ∣ R i k
theorem GInv.start (p : Int) (n m : Nat) (R : Nat → Vec) (q : Nat → Nat) : GInv p n m 0 0 R q :=
 ⟨Nat.zero_le _, fun i h => by omega, fun i j _ h => by omega, fun i h => by omega, fun i j h => by omega, fun i k h => by omega, fun i k _ _ h => by omega⟩
theorem GInv.none {p : Int} {n m c r : Nat} {R : Nat → Vec} {q : Nat → Nat} (h : GInv p n m c r R q) (hz : ∀ i, r ≤ i → i < m → p ∣ R i c) : GInv p n m (c + 1) r R q :=
 ⟨h.rm, fun i hi => by have := h.lt i hi; omega, h.mono, h.one, h.off, h.pre, fun i k h1 h2 h3 => by
  rcases Nat.lt_or_ge k c with hl | hg
  ·exact h.low i k h1 h2 hl
  ·have : k = c := by omega
   subst this; exact hz i h1 h2⟩
theorem GInv.swap {p : Int} {n m c r : Nat} {R R1 : Nat → Vec} {q : Nat → Nat} (h : GInv p n m c r R q) {a : Nat} (ha : r ≤ a) (ham : a < m) (e1 : ∀ j, R1 r j = R a j) (e2 : ∀ j, R1 a j = R r j) (e3 : ∀ i j, i < m → i ≠ r → i ≠ a → R1 i j = R i j) : GInv p n m c r R1 q := by
 have e : ∀ i, i < m → ∃ k, k < m ∧ (r ≤ i → r ≤ k) ∧ (i < r → k = i) ∧ ∀ j, R1 i j = R k j := fun i hi => by
  by_cases h1 : i = r
  ·subst h1; exact ⟨a, ham, fun _ => ha, fun hh => by omega, e1⟩
  ·by_cases h2 : i = a
   ·subst h2; exact ⟨r, by omega, fun _ => Nat.le_refl _, fun hh => by omega, e2⟩
   ·exact ⟨i, hi, fun hh => hh, fun _ => rfl, fun j => e3 i j hi h1 h2⟩
 refine ⟨h.rm, h.lt, h.mono, fun i hi => ?_, fun i j hi hj hne => ?_, fun i k hi hk => ?_, fun i k h1 h2 h3 => ?_⟩
 ·obtain ⟨k, _, _, hk, he⟩ := e i (by omega)
  rw [he, hk hi]; exact h.one i hi
 ·obtain ⟨k, hkm, hkr, hk, he⟩ := e j hj
  rw [he]
  refine h.off i k hi hkm ?_
  rcases Nat.lt_or_ge j r with hl | hg
  ·rw [hk hl]; exact hne
  ·have := hkr hg; omega
 ·obtain ⟨k', _, _, hk', he⟩ := e i (by omega)
  rw [he, hk' hi]; exact h.pre i k hi hk
 ·obtain ⟨k', hkm, hkr, _, he⟩ := e i h2
  rw [he]; exact h.low k' k (hkr h1) hkm h3
theorem GInv.step {p : Int} {n m c r : Nat} {R R' : Nat → Vec} {q q' : Nat → Nat} (h : GInv p n m c r R q) (hrm : r < m) {b : Int} (hb : p ∣ R r c * b - 1)
  (e1 : ∀ j, j ≤ c → p ∣ R' r j - b * R r j) (e2 : ∀ i j, i < m → i ≠ r → j ≤ c → p ∣ R' i j - (R i j - R i c * R' r j)) (hq : ∀ i, i < r → q' i = q i) (hqr : q' r = c) : GInv p n m (c + 1) (r + 1) R' q' := by
 have top0 : ∀ k, k < c → p ∣ R' r k := fun k hk => by
  have := Int.dvd_add (e1 k (by omega)) (dvd_mul_l b (h.low r k (Nat.le_refl _) hrm hk))
  rwa [Int.sub_add_cancel] at this
 have top1 : p ∣ R' r c - 1 := by
  have := Int.dvd_add (e1 c (Nat.le_refl _)) hb
  rwa [show R' r c - b * R r c + (R r c * b - 1) = R' r c - 1 by grind] at this
 have same : ∀ i k, i < m → i ≠ r → k < c → p ∣ R' i k - R i k := fun i k hi hne hk => by
  have := Int.dvd_sub (e2 i k hi hne (by omega)) (dvd_mul_l (R i c) (top0 k hk))
  rwa [show R' i k - (R i k - R i c * R' r k) - R i c * R' r k = R' i k - R i k by omega] at this
 have clr : ∀ i, i < m → i ≠ r → p ∣ R' i c := fun i hi hne => by
  have := Int.dvd_sub (e2 i c hi hne (Nat.le_refl _)) (dvd_mul_l (R i c) top1)
  rwa [show R' i c - (R i c - R i c * R' r c) - R i c * (R' r c - 1) = R' i c by grind] at this
 refine ⟨by omega, fun i hi => ?_, fun i j hij hj => ?_, fun i hi => ?_, fun i j hi hj hne => ?_, fun i k hi hk => ?_, fun i k h1 h2 h3 => ?_⟩
 ·rcases Nat.lt_or_ge i r with hl | hg
  ·rw [hq i hl]; have := h.lt i hl; omega
  ·have : i = r := by omega
   subst this; omega
 ·rcases Nat.lt_or_ge j r with hl | hg
  ·rw [hq i (by omega), hq j hl]; exact h.mono i j hij hl
  ·have : j = r := by omega
   subst this; rw [hq i hij, hqr]; exact h.lt i hij
 ·rcases Nat.lt_or_ge i r with hl | hg
  ·rw [hq i hl]
   have := Int.dvd_add (same i (q i) (by omega) (by omega) (h.lt i hl)) (h.one i hl)
   rwa [show R' i (q i) - R i (q i) + (R i (q i) - 1) = R' i (q i) - 1 by omega] at this
  ·have : i = r := by omega
   subst this; rw [hqr]; exact top1
 ·rcases Nat.lt_or_ge i r with hl | hg
  ·rw [hq i hl]
   by_cases hj' : j = r
   ·subst hj'; exact top0 _ (h.lt i hl)
   ·have := Int.dvd_add (same j (q i) hj hj' (h.lt i hl)) (h.off i j hl hj hne)
    rwa [Int.sub_add_cancel] at this
  ·have : i = r := by omega
   subst this; rw [hqr]; exact clr j hj hne
 ·rcases Nat.lt_or_ge i r with hl | hg
  ·rw [hq i hl] at hk
   have := h.lt i hl
   have := Int.dvd_add (same i k (by omega) (by omega) (by omega)) (h.pre i k hl hk)
   rwa [Int.sub_add_cancel] at this
  ·have : i = r := by omega
   subst this; rw [hqr] at hk; exact top0 k hk
 ·rcases Nat.lt_or_ge k c with hl | hg
  ·have := Int.dvd_add (same i k h2 (by omega) hl) (h.low i k (by omega) h2 hl)
   rwa [Int.sub_add_cancel] at this
  ·have : k = c := by omega
   subst this; exact clr i h2 (by omega)
theorem GInv.rref {p : Int} {n m r : Nat} {R : Nat → Vec} {q : Nat → Nat} (h : GInv p n m n r R q) : Rref p n r R q :=
 ⟨h.lt, h.mono, h.one, fun i j hi hj hne => h.off j i hj (by have := h.rm; omega) hne, h.pre⟩
theorem GInv.span {p : Int} {n m r : Nat} {R : Nat → Vec} {q : Nat → Nat} (h : GInv p n m n r R q) (v : Vec) : Span p n (rows R m) v ↔ Span p n (rows R r) v := by
 constructor
 ·refine span_mono (fun x hx => ?_)
  obtain ⟨i, hi, rfl⟩ := mem_rows hx
  rcases Nat.lt_or_ge i r with hl | hg
  ·exact span_mem (rows_mem hl)
  ·exact (span_sub p n _).zero _ (fun k hk => h.low i k hg hi hk)
 ·refine span_mono (fun x hx => ?_)
  obtain ⟨i, hi, rfl⟩ := mem_rows hx
  exact span_mem (rows_mem (by have := h.rm; omega))
theorem step_span {p : Int} {n m r : Nat} {R R' : Nat → Vec} (hrm : r < m) {a b : Int} (c : Nat → Int) (hb : p ∣ a * b - 1)
  (e1 : ∀ j, j < n → p ∣ R' r j - b * R r j) (e2 : ∀ i j, i < m → i ≠ r → j < n → p ∣ R' i j - (R i j - c i * R' r j)) (v : Vec) : Span p n (rows R' m) v ↔ Span p n (rows R m) v := by
 have sub := span_sub p n (rows R m)
 have sub' := span_sub p n (rows R' m)
 have htop : Span p n (rows R m) (R' r) := sub.congr (sub.smul b _ (span_mem (rows_mem hrm))) e1
 constructor
 ·refine span_mono (fun x hx => ?_)
  obtain ⟨i, hi, rfl⟩ := mem_rows hx
  by_cases h : i = r
  ·subst h; exact htop
  ·exact sub.congr (sub.sub (span_mem (rows_mem hi)) (sub.smul (c i) _ htop)) (fun j hj => e2 i j hi h hj)
 ·refine span_mono (fun x hx => ?_)
  obtain ⟨i, hi, rfl⟩ := mem_rows hx
  by_cases h : i = r
  ·subst h
   refine sub'.congr (sub'.smul a _ (span_mem (rows_mem hi))) (fun j hj => ?_)
   have h1 := dvd_mul_l a (e1 j hj)
   have h2 := dvd_mul_l (R i j) hb
   have := Int.dvd_neg.2 (Int.dvd_add h1 h2)
   rwa [show -(a * (R' i j - b * R i j) + R i j * (a * b - 1)) = R i j - a * R' i j by grind] at this
  ·refine sub'.congr (sub'.add _ _ (span_mem (rows_mem hi)) (sub'.smul (c i) _ (span_mem (rows_mem hrm)))) (fun j hj => ?_)
   have := Int.dvd_neg.2 (e2 i j hi h hj)
   rwa [show -(R' i j - (R i j - c i * R' r j)) = R i j - (R' i j + c i * R' r j) by omega] at this
theorem span_perm {p : Int} {n m : Nat} {R R' : Nat → Vec} (h : ∀ i, i < m → ∃ k, k < m ∧ ∀ j, j < n → p ∣ R' i j - R k j) (h' : ∀ i, i < m → ∃ k, k < m ∧ ∀ j, j < n → p ∣ R i j - R' k j) (v : Vec) : Span p n (rows R' m) v ↔ Span p n (rows R m) v := by
 constructor
 ·refine span_mono (fun x hx => ?_)
  obtain ⟨i, hi, rfl⟩ := mem_rows hx
  obtain ⟨k, hk, he⟩ := h i hi
  exact (span_sub p n _).congr (span_mem (rows_mem hk)) he
 ·refine span_mono (fun x hx => ?_)
  obtain ⟨i, hi, rfl⟩ := mem_rows hx
  obtain ⟨k, hk, he⟩ := h' i hi
  exact (span_sub p n _).congr (span_mem (rows_mem hk)) he
end Go.Proofs.Ytabfflgoaalapaa.B.LinT
set_option linter.unusedVariables false
set_option linter.unusedSimpArgs false
namespace Go.Proofs.Ytabfflgoaalapaa.B.LinT
def isP (p : Nat) : Bool := decide (2 ≤ p) && decide (p ≤ 251) && (List.range 16).all fun d => decide (d < 2) || decide (p < d * d) || decide (p % d ≠ 0)
theorem fermat_all : ((List.range 252).all fun p => !isP p || (List.range p).all fun a => a == 0 || a * a ^ (p - 2) % p == 1) = true := by decide +kernel
theorem isP_two {p : Nat} (h : isP p = true) : 2 ≤ p ∧ p ≤ 251 := by
 unfold isP at h
 rw [Bool.and_eq_true, Bool.and_eq_true, decide_eq_true_iff, decide_eq_true_iff] at h
 exact h.1
theorem fermat {p a : Nat} (h : isP p = true) (ha : a < p) (h0 : a ≠ 0) : a * a ^ (p - 2) % p = 1 := by
 have h1 := List.all_eq_true.1 fermat_all p (List.mem_range.2 (by have := isP_two h; omega))
 rw [h] at h1
 have h2 : ∀ x, x < p → x = 0 ∨ x * x ^ (p - 2) % p = 1 := by simpa using h1
 exact (h2 a ha).resolve_left h0
theorem inv_dvd {p a : Nat} (h : isP p = true) (ha : a < p) (h0 : a ≠ 0) : (p : Int) ∣ (a : Int) * ((a ^ (p - 2) % p : Nat) : Int) - 1 := by
 have h1 := fermat h ha h0
 have h2 : a * (a ^ (p - 2) % p) % p = 1 := by rw [Nat.mul_mod, Nat.mod_mod, ← Nat.mul_mod]; exact h1
 have h3 := Nat.div_add_mod (a * (a ^ (p - 2) % p)) p
 rw [h2] at h3
 refine ⟨((a * (a ^ (p - 2) % p) / p : Nat) : Int), ?_⟩
 have h4 : ((a * (a ^ (p - 2) % p) : Nat) : Int) = ((p * (a * (a ^ (p - 2) % p) / p) + 1 : Nat) : Int) := by rw [h3]
 rw [Int.natCast_mul, Int.natCast_add, Int.natCast_mul] at h4
 omega
theorem pr_of {p : Nat} (h : isP p = true) : Pr (p : Int) := by
 have h2 := isP_two h
 refine ⟨fun hd => ?_, fun a ha => ?_⟩
 ·have := Int.le_of_dvd (by decide) hd; omega
 ·have hm : a % (p : Int) ≠ 0 := fun he => ha (Int.dvd_of_emod_eq_zero he)
  have h3 := Int.emod_nonneg a (b := (p : Int)) (by omega)
  have h4 := Int.emod_lt_of_pos a (b := (p : Int)) (by omega)
  obtain ⟨n, hn⟩ := Int.eq_ofNat_of_zero_le h3
  have h5 := inv_dvd (a := n) h (by omega) (by omega)
  refine ⟨((n ^ (p - 2) % p : Nat) : Int), ?_⟩
  have h6 : (p : Int) ∣ a - (n : Int) := by rw [← hn]; exact Int.dvd_self_sub_emod
  have h7 := Int.dvd_add (show (p : Int) ∣ (a - (n : Int)) * ((n ^ (p - 2) % p : Nat) : Int) from Int.dvd_mul_of_dvd_left h6) h5
  rwa [show (a - (n : Int)) * ((n ^ (p - 2) % p : Nat) : Int) + ((n : Int) * ((n ^ (p - 2) % p : Nat) : Int) - 1) = a * ((n ^ (p - 2) % p : Nat) : Int) - 1 by grind] at h7
structure El (p : Int) (n m : Nat) (R0 : Nat → Vec) (c r : Nat) (R : Nat → Vec) (q : Nat → Nat) : Prop where
 g : GInv p n m c r R q
 sp : ∀ v, Span p n (rows R m) v ↔ Span p n (rows R0 m) v
 ge : ∀ i j, i < m → j < n → 0 ≤ R i j
 lt : ∀ i j, i < m → j < n → R i j < p
theorem El.start {p : Int} {n m : Nat} {R : Nat → Vec} (h0 : ∀ i j, i < m → j < n → 0 ≤ R i j) (h1 : ∀ i j, i < m → j < n → R i j < p) (q : Nat → Nat) : El p n m R 0 0 R q :=
 ⟨GInv.start p n m R q, fun _ => Iff.rfl, h0, h1⟩
theorem El.none {p : Int} {n m c r : Nat} {R0 R : Nat → Vec} {q : Nat → Nat} (h : El p n m R0 c r R q) (hz : ∀ i, r ≤ i → i < m → R i c = 0) : El p n m R0 (c + 1) r R q :=
 ⟨h.g.none fun i h1 h2 => by rw [hz i h1 h2]; exact Int.dvd_zero p, h.sp, h.ge, h.lt⟩
theorem El.congr {p : Int} {n m c r : Nat} {R0 R R1 : Nat → Vec} {q : Nat → Nat} (h : El p n m R0 c r R q) (hc : c ≤ n) (e : ∀ i j, i < m → j < n → R1 i j = R i j) : El p n m R0 c r R1 q := by
 have hr := h.g.rm
 refine ⟨⟨h.g.rm, h.g.lt, h.g.mono, fun i hi => ?_, fun i j hi hj hne => ?_, fun i k hi hk => ?_, fun i k h1 h2 h3 => ?_⟩, fun v => ?_, fun i j hi hj => by rw [e i j hi hj]; exact h.ge i j hi hj, fun i j hi hj => by rw [e i j hi hj]; exact h.lt i j hi hj⟩
 ·have := h.g.lt i hi
  rw [e i _ (by omega) (by omega)]; exact h.g.one i hi
 ·have := h.g.lt i hi
  rw [e j _ hj (by omega)]; exact h.g.off i j hi hj hne
 ·have := h.g.lt i hi
  rw [e i _ (by omega) (by omega)]; exact h.g.pre i k hi hk
 ·rw [e i _ h2 (by omega)]; exact h.g.low i k h1 h2 h3
 ·rw [← h.sp v]
  exact span_perm (fun i hi => ⟨i, hi, fun j hj => by rw [e i j hi hj, Int.sub_self]; exact Int.dvd_zero p⟩) (fun i hi => ⟨i, hi, fun j hj => by rw [e i j hi hj, Int.sub_self]; exact Int.dvd_zero p⟩) v
theorem El.swap {p : Int} {n m c r : Nat} {R0 R R1 : Nat → Vec} {q : Nat → Nat} (h : El p n m R0 c r R q) {a : Nat} (ha : r ≤ a) (ham : a < m) (e1 : ∀ j, R1 r j = R a j) (e2 : ∀ j, R1 a j = R r j) (e3 : ∀ i j, i < m → i ≠ r → i ≠ a → R1 i j = R i j) : El p n m R0 c r R1 q := by
 have e : ∀ i, i < m → ∃ k, k < m ∧ ∀ j, R1 i j = R k j := fun i hi => by
  by_cases h1 : i = r
  ·subst h1; exact ⟨a, ham, e1⟩
  ·by_cases h2 : i = a
   ·subst h2; exact ⟨r, by omega, e2⟩
   ·exact ⟨i, hi, fun j => e3 i j hi h1 h2⟩
 have e' : ∀ i, i < m → ∃ k, k < m ∧ ∀ j, R i j = R1 k j := fun i hi => by
  by_cases h1 : i = r
  ·subst h1; exact ⟨a, ham, fun j => (e2 j).symm⟩
  ·by_cases h2 : i = a
   ·subst h2; exact ⟨r, by omega, fun j => (e1 j).symm⟩
   ·exact ⟨i, hi, fun j => (e3 i j hi h1 h2).symm⟩
 refine ⟨h.g.swap ha ham e1 e2 e3, fun v => ?_, fun i j hi hj => ?_, fun i j hi hj => ?_⟩
 ·rw [← h.sp v]
  refine span_perm (fun i hi => ?_) (fun i hi => ?_) v
  ·obtain ⟨k, hk, he⟩ := e i hi
   exact ⟨k, hk, fun j _ => by rw [he j, Int.sub_self]; exact Int.dvd_zero p⟩
  ·obtain ⟨k, hk, he⟩ := e' i hi
   exact ⟨k, hk, fun j _ => by rw [he j, Int.sub_self]; exact Int.dvd_zero p⟩
 ·obtain ⟨k, hk, he⟩ := e i hi
  rw [he]; exact h.ge k j hk hj
 ·obtain ⟨k, hk, he⟩ := e i hi
  rw [he]; exact h.lt k j hk hj
theorem El.congr0 {p : Int} {n m c r : Nat} {R0 R1 R : Nat → Vec} {q : Nat → Nat} (h : El p n m R0 c r R q) (e : ∀ i j, i < m → j < n → R1 i j = R0 i j) : El p n m R1 c r R q :=
 ⟨h.g, fun v => (h.sp v).trans (span_perm (fun i hi => ⟨i, hi, fun j hj => by rw [e i j hi hj, Int.sub_self]; exact Int.dvd_zero p⟩) (fun i hi => ⟨i, hi, fun j hj => by rw [e i j hi hj, Int.sub_self]; exact Int.dvd_zero p⟩) v), h.ge, h.lt⟩
theorem El.swap' {p : Int} {n m c r : Nat} {R0 R R1 : Nat → Vec} {q : Nat → Nat} (h : El p n m R0 c r R q) (hc : c ≤ n) {a : Nat} (ha : r ≤ a) (ham : a < m) (e1 : ∀ j, j < n → R1 r j = R a j) (e2 : ∀ j, j < n → R1 a j = R r j) (e3 : ∀ i j, i < m → i ≠ r → i ≠ a → j < n → R1 i j = R i j) : El p n m R0 c r R1 q := by
 refine (h.swap (R1 := fun i j => if i = r then R a j else if i = a then R r j else R i j) ha ham (fun j => by simp) (fun j => ?_) (fun i j _ h1 h2 => by simp [h1, h2])).congr hc (fun i j hi hj => ?_)
 ·by_cases h1 : a = r
  ·subst h1; simp
  ·simp [h1]
 ·by_cases h1 : i = r
  ·subst h1; simp [e1 j hj]
  ·by_cases h2 : i = a
   ·subst h2; simp [h1, e2 j hj]
   ·simp [h1, h2, e3 i j hi h1 h2 hj]
theorem El.step {p : Int} {n m c r : Nat} {R0 R R' : Nat → Vec} {q q' : Nat → Nat} (h : El p n m R0 c r R q) (hc : c < n) (hrm : r < m) {b : Int} (hb : p ∣ R r c * b - 1)
  (e1 : ∀ j, j < n → p ∣ R' r j - b * R r j) (e2 : ∀ i j, i < m → i ≠ r → j < n → p ∣ R' i j - (R i j - R i c * R' r j)) (hq : ∀ i, i < r → q' i = q i) (hqr : q' r = c)
  (h0 : ∀ i j, i < m → j < n → 0 ≤ R' i j) (h1 : ∀ i j, i < m → j < n → R' i j < p) : El p n m R0 (c + 1) (r + 1) R' q' :=
 ⟨h.g.step hrm hb (fun j hj => e1 j (by omega)) (fun i j hi hne hj => e2 i j hi hne (by omega)) hq hqr, fun v => by rw [← h.sp v]; exact step_span hrm (fun i => R i c) hb e1 e2 v, h0, h1⟩
theorem El.full {p : Int} {n m r : Nat} {R0 R : Nat → Vec} {q : Nat → Nat} : ∀ {c : Nat}, c ≤ n → r = m → El p n m R0 c r R q → El p n m R0 n r R q := by
 intro c hc hr h
 obtain ⟨d, hd⟩ : ∃ d, n = c + d := ⟨n - c, by omega⟩
 have : ∀ e, El p n m R0 (c + e) r R q := fun e => by
  induction e with
  | zero => exact h
  | succ e ih => exact ih.none (fun i h1 h2 => by omega)
 rw [hd] at this ⊢; exact this d
theorem El.same {p : Int} {n m m' r r' : Nat} {R0 R R0' R' : Nat → Vec} {q q' : Nat → Nat} (hp : Pr p) (h : El p n m R0 n r R q) (h' : El p n m' R0' n r' R' q')
  (hs : ∀ v, Span p n (rows R0 m) v ↔ Span p n (rows R0' m') v) : r = r' ∧ ∀ i, i < r → q i = q' i ∧ ∀ j, j < n → R i j = R' i j := by
 have hs2 : ∀ v, Span p n (rows R r) v ↔ Span p n (rows R' r') v := fun v => by rw [← h.g.span v, ← h'.g.span v, h.sp v, h'.sp v, hs v]
 obtain ⟨e1, e2⟩ := h.g.rref.unique hp h'.g.rref hs2
 refine ⟨e1, fun i hi => ⟨(e2 i hi).1, fun j hj => ?_⟩⟩
 have hd := (e2 i hi).2 j hj
 have hr := h.g.rm
 have hr' := h'.g.rm
 have a1 := h.ge i j (by omega) hj
 have a2 := h.lt i j (by omega) hj
 have b1 := h'.ge i j (by omega) hj
 have b2 := h'.lt i j (by omega) hj
 obtain ⟨k, hk⟩ := hd
 have hp0 : 0 < p := by omega
 have : k = 0 := by
  rcases Int.lt_trichotomy k 0 with hl | h0 | hg
  ·have := Int.mul_le_mul_of_nonneg_left (show k ≤ -1 by omega) (Int.le_of_lt hp0); omega
  ·exact h0
  ·have := Int.mul_le_mul_of_nonneg_left (show 1 ≤ k by omega) (Int.le_of_lt hp0); omega
 rw [this] at hk; omega
theorem El.span {p : Int} {n m r : Nat} {R0 R : Nat → Vec} {q : Nat → Nat} (h : El p n m R0 n r R q) (v : Vec) : Span p n (rows R r) v ↔ Span p n (rows R0 m) v := by rw [← h.g.span v, h.sp v]
theorem El.dim {p : Int} {n m r : Nat} {R0 R : Nat → Vec} {q : Nat → Nat} (hp : Pr p) (h : El p n m R0 n r R q) : dim p n (Span p n (rows R0 m)) = r := by
 rw [← h.g.rref.indep hp]; exact dim_congr fun v => (h.span v).symm
def vec (l : List Int) : Vec := fun j => l.getD j 0
def rw' (L : List (List Int)) : Nat → Vec := fun i => vec (L.getD i [])
theorem rows_list (L : List (List Int)) : rows (rw' L) L.length = L.map vec := by
 unfold rows rw'
 refine List.ext_getElem (by simp) fun i h1 h2 => ?_
 have hi : i < L.length := by simpa using h1
 simp [List.getD_eq_getElem?_getD, List.getElem?_eq_getElem hi]
def Vs (p : Int) (n : Nat) (L : List (List Int)) : Prop := ∀ x, x ∈ L → x.length = n ∧ ∀ y, y ∈ x → 0 ≤ y ∧ y < p
theorem vs_get {p : Int} {n : Nat} {L : List (List Int)} (h : Vs p n L) {i j : Nat} (hi : i < L.length) (hj : j < n) : 0 ≤ rw' L i j ∧ rw' L i j < p := by
 have hm : L.getD i [] ∈ L := by rw [List.getD_eq_getElem?_getD, List.getElem?_eq_getElem hi, Option.getD_some]; exact List.getElem_mem hi
 obtain ⟨h1, h2⟩ := h _ hm
 unfold rw' vec
 have hjl : j < (L.getD i []).length := by omega
 rw [List.getD_eq_getElem?_getD (l := L.getD i []), List.getElem?_eq_getElem hjl, Option.getD_some]
 exact h2 _ (List.getElem_mem hjl)
theorem list_eq {L M : List (List Int)} {p : Int} {n : Nat} (hL : Vs p n L) (hM : Vs p n M) (hl : L.length = M.length) (h : ∀ i, i < L.length → ∀ j, j < n → rw' L i j = rw' M i j) : L = M := by
 refine List.ext_getElem hl fun i h1 h2 => ?_
 have e1 := (hL _ (List.getElem_mem h1)).1
 have e2 := (hM _ (List.getElem_mem h2)).1
 refine List.ext_getElem (by omega) fun j h3 h4 => ?_
 have := h i h1 j (by omega)
 unfold rw' vec at this
 simpa [List.getD_eq_getElem?_getD, List.getElem?_eq_getElem h1, List.getElem?_eq_getElem h2, List.getElem?_eq_getElem h3, List.getElem?_eq_getElem h4] using this
structure Red (p : Int) (n : Nat) (L B : List (List Int)) (q : List Int) : Prop where
 vs : Vs p n B
 len : q.length = B.length
 rref : Rref p n B.length (rw' B) (fun i => (q.getD i 0).toNat)
 span : ∀ v, Span p n (B.map vec) v ↔ Span p n (L.map vec) v
 pos : ∀ x, x ∈ q → 0 ≤ x
theorem Red.unique {p : Int} {n : Nat} {L L' B B' : List (List Int)} {q q' : List Int} (hp : Pr p) (h : Red p n L B q) (h' : Red p n L' B' q') (hs : ∀ v, Span p n (L.map vec) v ↔ Span p n (L'.map vec) v) : B = B' ∧ q = q' := by
 have hp0 : 0 < p ∨ p ≤ 0 := by omega
 obtain ⟨e1, e2⟩ := h.rref.unique hp h'.rref (fun v => by rw [rows_list, rows_list, h.span v, h'.span v, hs v])
 have hB : B = B' := list_eq h.vs h'.vs e1 fun i hi j hj => by
  have hd := (e2 i hi).2 j hj
  have a := vs_get h.vs hi hj
  have b := vs_get h'.vs (i := i) (by omega) hj
  obtain ⟨k, hk⟩ := hd
  have hp0 : 0 < p := by omega
  have : k = 0 := by
   rcases Int.lt_trichotomy k 0 with hl | h0 | hg
   ·have := Int.mul_le_mul_of_nonneg_left (show k ≤ -1 by omega) (Int.le_of_lt hp0); omega
   ·exact h0
   ·have := Int.mul_le_mul_of_nonneg_left (show 1 ≤ k by omega) (Int.le_of_lt hp0); omega
  rw [this] at hk; omega
 refine ⟨hB, List.ext_getElem (by rw [h.len, h'.len, e1]) fun i h1 h2 => ?_⟩
 have h3 := (e2 i (by rw [← h.len]; exact h1)).1
 have p1 := h.pos _ (List.getElem_mem h1)
 have p2 := h'.pos _ (List.getElem_mem h2)
 simp only [List.getD_eq_getElem?_getD, List.getElem?_eq_getElem h1, List.getElem?_eq_getElem h2, Option.getD_some] at h3
 omega
theorem Red.of {p : Int} {n : Nat} {L M : List (List Int)} {r : Nat} {q : List Int} (hl : M.length = L.length) (hv : Vs p n M) (hq : q.length = r) (hpos : ∀ x, x ∈ q → 0 ≤ x)
  (h : El p n L.length (rw' L) n r (rw' M) (fun i => (q.getD i 0).toNat)) : Red p n L (M.take r) q := by
 have hr := h.g.rm
 have hlen : (M.take r).length = r := by rw [List.length_take]; omega
 have e : ∀ i, i < r → rw' (M.take r) i = rw' M i := fun i hi => by
  unfold rw'
  rw [List.getD_eq_getElem?_getD, List.getD_eq_getElem?_getD, List.getElem?_take_of_lt hi]
 have hrr := h.g.rref
 refine ⟨fun x hx => hv x (List.mem_of_mem_take hx), by omega, ?_, fun v => ?_, hpos⟩
 ·rw [hlen]
  exact ⟨hrr.lt, hrr.mono, fun i hi => by rw [e i hi]; exact hrr.one i hi, fun i j hi hj hne => by rw [e i hi]; exact hrr.off i j hi hj hne, fun i c hi hc => by rw [e i hi]; exact hrr.pre i c hi hc⟩
 ·rw [← rows_list L, ← h.span v, ← rows_list, hlen]
  have : rows (rw' (M.take r)) r = rows (rw' M) r := List.map_congr_left fun i hi => e i (List.mem_range.1 hi)
  rw [this]
end Go.Proofs.Ytabfflgoaalapaa.B.LinT
set_option linter.unusedVariables false
set_option linter.unusedSimpArgs false
namespace Go.Proofs.Ytabfflgoaalapaa.B.LinT
def fl (w : Nat) (X : List Int) : Nat → Vec := fun i j => X.getD (i * w + j) 0
theorem idx_lt {w i j m : Nat} (hi : i < m) (hj : j < w) : i * w + j < m * w := by
 have := Nat.mul_le_mul_right w (show i + 1 ≤ m by omega)
 rw [Nat.add_mul, Nat.one_mul] at this; omega
theorem idx_inj {w i j i' j' : Nat} (hj : j < w) (hj' : j' < w) (h : i * w + j = i' * w + j') : i = i' ∧ j = j' := by
 rcases Nat.lt_trichotomy i i' with hl | he | hg
 ·have := idx_lt hl hj; omega
 ·subst he; omega
 ·have := idx_lt hg hj'; omega
theorem getD_set (X : List Int) (a b : Nat) (x : Int) (ha : a < X.length) : (X.set a x).getD b 0 = if b = a then x else X.getD b 0 := by
 rw [List.getD_eq_getElem?_getD, List.getElem?_set, List.getD_eq_getElem?_getD]
 by_cases h : b = a
 ·subst h; simp [ha]
 ·rw [if_neg (Ne.symm h), if_neg h]
theorem fl_set {w : Nat} (X : List Int) {i j i' j' : Nat} (x : Int) (hj : j < w) (hj' : j' < w) (ha : i * w + j < X.length) : fl w (X.set (i * w + j) x) i' j' = if i' = i ∧ j' = j then x else fl w X i' j' := by
 unfold fl
 rw [getD_set _ _ _ _ ha]
 by_cases h : i' = i ∧ j' = j
 ·rw [if_pos h, if_pos (by rw [h.1, h.2])]
 ·rw [if_neg h, if_neg (fun he => h (idx_inj hj' hj he))]
structure Upd (w : Nat) (X : List Int) (i0 : Nat) (g : Nat → Int) (t : Nat) (Y : List Int) : Prop where
 len : Y.length = X.length
 at_ : ∀ i j, j < w → fl w Y i j = if i = i0 ∧ j < t then g j else fl w X i j
theorem Upd.start (w : Nat) (X : List Int) (i0 : Nat) (g : Nat → Int) : Upd w X i0 g 0 X := ⟨rfl, fun i j _ => by rw [if_neg (by omega)]⟩
theorem Upd.next {w : Nat} {X : List Int} {i0 : Nat} {g : Nat → Int} {t : Nat} {Y : List Int} (h : Upd w X i0 g t Y) (ht : t < w) (hi : i0 * w + t < X.length) {x : Int} (hx : x = g t) : Upd w X i0 g (t + 1) (Y.set (i0 * w + t) x) := by
 refine ⟨by rw [List.length_set, h.len], fun i j hj => ?_⟩
 rw [fl_set Y x ht hj (by rw [h.len]; exact hi), h.at_ i j hj]
 by_cases h1 : i = i0 ∧ j = t
 ·rw [if_pos h1, if_pos (by omega), hx, h1.2]
 ·rw [if_neg h1]
  by_cases h2 : i = i0 ∧ j < t
  ·rw [if_pos h2, if_pos (by omega)]
  ·rw [if_neg h2, if_neg (by omega)]
structure Swp (w : Nat) (X : List Int) (a b : Nat) (t : Nat) (Y : List Int) : Prop where
 len : Y.length = X.length
 at_ : ∀ i j, j < w → fl w Y i j = if j < t then (if i = a then fl w X b j else if i = b then fl w X a j else fl w X i j) else fl w X i j
theorem Swp.start (w : Nat) (X : List Int) (a b : Nat) : Swp w X a b 0 X := ⟨rfl, fun i j _ => by rw [if_neg (by omega)]⟩
theorem Swp.next {w : Nat} {X : List Int} {a b : Nat} {t : Nat} {Y : List Int} (h : Swp w X a b t Y) (hab : a ≠ b) (ht : t < w) (ha : a * w + t < X.length) (hb : b * w + t < X.length) :
  Swp w X a b (t + 1) ((Y.set (b * w + t) (fl w Y a t)).set (a * w + t) (fl w Y b t)) := by
 refine ⟨by rw [List.length_set, List.length_set, h.len], fun i j hj => ?_⟩
 rw [fl_set _ _ ht hj (by rw [List.length_set, h.len]; exact ha), fl_set _ _ ht hj (by rw [h.len]; exact hb), h.at_ i j hj, h.at_ a t ht, h.at_ b t ht]
 rw [if_neg (Nat.lt_irrefl t), if_neg (Nat.lt_irrefl t)]
 rcases Nat.lt_trichotomy j t with hl | he | hg
 ·rw [if_neg (fun hh => by omega), if_neg (fun hh => by omega), if_pos hl, if_pos (show j < t + 1 by omega)]
 ·subst he
  rw [if_neg (Nat.lt_irrefl j), if_pos (Nat.lt_succ_self j)]
  by_cases h1 : i = a
  ·rw [if_pos ⟨h1, rfl⟩, if_pos h1]
  ·rw [if_neg (fun hh => h1 hh.1), if_neg h1]
   by_cases h2 : i = b
   ·rw [if_pos ⟨h2, rfl⟩, if_pos h2]
   ·rw [if_neg (fun hh => h2 hh.1), if_neg h2]
 ·rw [if_neg (fun hh => by omega), if_neg (fun hh => by omega), if_neg (show ¬ j < t by omega), if_neg (show ¬ j < t + 1 by omega)]
def unfl (w m : Nat) (X : List Int) : List (List Int) := (List.range m).map fun i => (X.drop (i * w)).take w
theorem unfl_len (w m : Nat) (X : List Int) : (unfl w m X).length = m := by simp [unfl]
theorem unfl_get {w m : Nat} (X : List Int) {i j : Nat} (hi : i < m) (hj : j < w) : rw' (unfl w m X) i j = fl w X i j := by
 unfold rw' vec unfl fl
 have h1 : ((List.range m).map fun i => (X.drop (i * w)).take w).getD i [] = (X.drop (i * w)).take w := by
  rw [List.getD_eq_getElem?_getD, List.getElem?_map, List.getElem?_range hi]; rfl
 rw [h1, List.getD_eq_getElem?_getD, List.getElem?_take_of_lt hj, List.getElem?_drop, ← List.getD_eq_getElem?_getD]
theorem unfl_vs {p : Int} {w m : Nat} {X : List Int} (hl : X.length = m * w) (h : ∀ i j, i < m → j < w → 0 ≤ fl w X i j ∧ fl w X i j < p) : Vs p w (unfl w m X) := by
 intro x hx
 obtain ⟨i, hi, rfl⟩ := List.mem_map.1 hx
 have him := List.mem_range.1 hi
 have h2 := Nat.mul_le_mul_right w (show i + 1 ≤ m by omega)
 rw [Nat.add_mul, Nat.one_mul] at h2
 refine ⟨by rw [List.length_take, List.length_drop]; omega, fun y hy => ?_⟩
 obtain ⟨j, hj, rfl⟩ := List.getElem_of_mem hy
 have hjw : j < w := by rw [List.length_take] at hj; omega
 have h3 := h i j him hjw
 unfold fl at h3
 rw [List.getElem_take, List.getElem_drop]
 rwa [List.getD_eq_getElem?_getD, List.getElem?_eq_getElem (by omega), Option.getD_some] at h3
theorem unfl_take {w m r : Nat} (X : List Int) (h : r ≤ m) : (unfl w m X).take r = unfl w r X := by
 unfold unfl
 rw [← List.map_take, List.take_range, Nat.min_eq_left h]
theorem flatten_fl {w : Nat} : ∀ (L : List (List Int)), (∀ x, x ∈ L → x.length = w) → ∀ i j, i < L.length → j < w → fl w L.flatten i j = rw' L i j
 | [], _, i, j, hi, _ => by simp at hi
 | a :: L, h, i, j, hi, hj => by
  have ha := h a (by simp)
  unfold fl rw' vec
  rw [List.flatten_cons]
  cases i with
  | zero =>
   rw [List.getD_eq_getElem?_getD, Nat.zero_mul, Nat.zero_add, List.getElem?_append_left (by omega)]
   simp [List.getD_eq_getElem?_getD]
  | succ i =>
   have ih := flatten_fl L (fun x hx => h x (by simp [hx])) i j (by simpa using hi) hj
   unfold fl rw' vec at ih
   rw [List.getD_eq_getElem?_getD, List.getElem?_append_right (by rw [Nat.add_mul]; omega), ← List.getD_eq_getElem?_getD]
   have : (i + 1) * w + j - a.length = i * w + j := by rw [Nat.add_mul]; omega
   rw [this, ih]
   simp [List.getD_eq_getElem?_getD]
theorem flatten_len {w : Nat} : ∀ (L : List (List Int)), (∀ x, x ∈ L → x.length = w) → L.flatten.length = L.length * w
 | [], _ => by simp
 | a :: L, h => by
  rw [List.flatten_cons, List.length_append, flatten_len L (fun x hx => h x (by simp [hx])), h a (by simp), List.length_cons, Nat.add_mul]; omega
structure FlInv (p : Int) (w m : Nat) (L : List (List Int)) (c : Nat) (X : List Int) (q : List Int) : Prop where
 len : X.length = m * w
 pos : ∀ x, x ∈ q → 0 ≤ x
 el : El p w m (rw' L) c q.length (fl w X) (fun i => (q.getD i 0).toNat)
theorem FlInv.red {p : Int} {w : Nat} {L : List (List Int)} {X : List Int} {q : List Int} (h : FlInv p w L.length L w X q) : Red p w L (unfl w q.length X) q := by
 have hr := h.el.g.rm
 rw [← unfl_take X hr]
 refine Red.of (unfl_len _ _ _) (unfl_vs h.len fun i j hi hj => ⟨h.el.ge i j hi hj, h.el.lt i j hi hj⟩) rfl h.pos (h.el.congr (Nat.le_refl _) fun i j hi hj => unfl_get X hi hj)
end Go.Proofs.Ytabfflgoaalapaa.B.LinT
set_option linter.unusedVariables false
set_option linter.unusedSimpArgs false
namespace Go.Proofs.Ytabfflgoaalapaa.B.LinT
theorem in_rng {p a : Int} (h0 : 0 ≤ a) (h1 : a < p) (hd : p ∣ a) : a = 0 := by
 have := Int.emod_eq_of_lt h0 h1
 rw [Int.emod_eq_zero_of_dvd hd] at this; omega
theorem rng_eq {p a b : Int} (h0 : 0 ≤ a) (h1 : a < p) (g0 : 0 ≤ b) (g1 : b < p) (hd : p ∣ a - b) : a = b := by
 have e1 := Int.emod_eq_of_lt h0 h1
 have e2 := Int.emod_eq_of_lt g0 g1
 have := Int.emod_emod_of_dvd a (Int.dvd_refl p)
 have := (Int.emod_eq_emod_iff_emod_sub_eq_zero).2 (Int.emod_eq_zero_of_dvd hd)
 omega
theorem Red.place {p : Int} {n : Nat} {L B : List (List Int)} {q : List Int} (h : Red p n L B q) (hp : 1 < p) {i : Nat} (hi : i < B.length) :
  (q.getD i 0).toNat < n ∧ (B.getD i []).getD (q.getD i 0).toNat 0 = 1 ∧ ∀ j, j < (q.getD i 0).toNat → (B.getD i []).getD j 0 = 0 := by
 have h1 := h.rref.lt i hi
 refine ⟨h1, ?_, fun j hj => ?_⟩
 ·have a := vs_get h.vs hi h1
  exact rng_eq a.1 a.2 (by omega) hp (h.rref.one i hi)
 ·have a := vs_get h.vs hi (j := j) (by omega)
  exact in_rng a.1 a.2 (h.rref.pre i j hi hj)
theorem Red.in_iff {p : Int} {n : Nat} {L B : List (List Int)} {q : List Int} (h : Red p n L B q) (v : Vec) :
  Span p n (B.map vec) v ↔ ∀ j, j < n → p ∣ v j - comb (rw' B) B.length (fun i => v (q.getD i 0).toNat) j := by
 constructor
 ·intro hv j hj
  rw [← rows_list] at hv
  exact h.rref.coef hv j hj
 ·intro hv
  rw [← rows_list]
  exact (span_comb _ _ _).2 ⟨_, hv⟩
theorem span_snoc {p : Int} {n : Nat} (L : List Vec) (x v : Vec) : Span p n (L ++ [x]) v ↔ Ins p n (Span p n L) x v := by
 constructor
 ·refine span_least (Ins.isSub (span_sub p n L) x) (fun y hy => ?_)
  rcases List.mem_append.1 hy with h | h
  ·exact Ins.old (span_mem h)
  ·rw [List.mem_singleton.1 h]; exact Ins.new (span_sub p n L)
 ·exact Ins.least (span_sub p n _) (fun v hv => span_mono (fun y hy => span_mem (List.mem_append_left _ hy)) hv) (span_mem (by simp))
theorem Red.dim {p : Int} {n : Nat} {L B : List (List Int)} {q : List Int} (hp : Pr p) (h : Red p n L B q) : LinT.dim p n (Span p n (L.map vec)) = B.length := by
 rw [← h.rref.indep hp, rows_list]
 exact dim_congr fun v => (h.span v).symm
theorem Red.more {p : Int} {n : Nat} {L B B' : List (List Int)} {q q' : List Int} {x : List Int} (hp : Pr p) (h : Red p n L B q) (h' : Red p n (L ++ [x]) B' q') :
  (Span p n (L.map vec) (vec x) → B'.length = B.length) ∧ (¬ Span p n (L.map vec) (vec x) → B'.length = B.length + 1) := by
 have e : ∀ v, Span p n ((L ++ [x]).map vec) v ↔ Ins p n (Span p n (L.map vec)) (vec x) v := fun v => by
  rw [List.map_append]; exact span_snoc _ _ _
 rw [← h.dim hp, ← h'.dim hp, dim_congr e]
 exact ⟨fun hx => dim_congr (ins_eq (span_sub p n _) hx), fun hx => dim_ins hp (span_sub p n _) hx⟩
theorem vs_append {p : Int} {n : Nat} {L M : List (List Int)} (h : Vs p n L) (h' : Vs p n M) : Vs p n (L ++ M) := fun x hx => (List.mem_append.1 hx).elim (h x) (h' x)
theorem vs_one {p : Int} {n : Nat} {x : List Int} (h : x.length = n) (h' : ∀ y, y ∈ x → 0 ≤ y ∧ y < p) : Vs p n [x] := fun y hy => by rw [List.mem_singleton.1 hy]; exact ⟨h, h'⟩
theorem Red.len_le {p : Int} {n : Nat} {L B : List (List Int)} {q : List Int} (h : Red p n L B q) (hp : Pr p) : B.length ≤ n ∧ B.length ≤ L.length := by
 rw [← h.dim hp]
 exact ⟨dim_le p n _, Nat.le_trans (dim_span_le hp _) (by simp)⟩
end Go.Proofs.Ytabfflgoaalapaa.B.LinT
set_option linter.unusedVariables false
set_option linter.unusedSimpArgs false
namespace Go.Proofs.Ytabfflgoaalapaa.B
open Go.RowKit Go.Proofs.YtabfflgoaalapaaW.PrintWords
open LinT
theorem tmod_nat {a : Int} {p : Nat} (h : 0 ≤ a) : Int.tmod a (p : Int) = a % (p : Int) := Int.tmod_eq_emod_of_nonneg h
theorem powerOf_ev (p : Nat) (hp : 2 ≤ p) (hp2 : p ≤ 251) : ∀ (e x0 x7 : Nat), e ≤ 1000 → x0 < p → x7 < p → Ev (fun k => z159.l0 k (x0 : Int) (e : Int) (p : Int) (x7 : Int)) ((x7 * x0 ^ e % p : Nat) : Int) := by
 intro e
 induction e using Nat.strongRecOn with
 | _ e ih =>
  intro x0 x7 he h0 h7
  refine Ev.step (fun k => z159.l0.eq_2 ..) ?_
  rcases Nat.eq_zero_or_pos e with h | h
  ·subst h
   refine ev_neg (by omega) (ev_eq (Ev.now _) ?_)
   rw [Nat.pow_zero, Nat.mul_one, Nat.mod_eq_of_lt h7]
  ·have hb : x0 * x0 ≤ 250 * 250 := Nat.mul_le_mul (by omega) (by omega)
   have hb2 : x7 * x0 ≤ 250 * 250 := Nat.mul_le_mul (by omega) (by omega)
   have e1 : Int.tmod (wrap64 ((x0 : Int) * (x0 : Int))) (p : Int) = ((x0 * x0 % p : Nat) : Int) := by
    rw [← Int.natCast_mul, wrap_small (by omega) (by omega), tmod_nat (by omega)]; simp
   have e2 : wrap64 (Int.tdiv (e : Int) 2) = ((e / 2 : Nat) : Int) := by
    have : Int.tdiv (e : Int) 2 = ((e / 2 : Nat) : Int) := by rw [Int.tdiv_eq_ediv_of_nonneg (by omega)]; simp
    rw [this, wrap_small (by omega) (by omega)]
   have e3 : Int.tmod (e : Int) 2 = ((e % 2 : Nat) : Int) := by rw [Int.tmod_eq_emod_of_nonneg (by omega)]; simp
   have e4 : Int.tmod (wrap64 ((x7 : Int) * (x0 : Int))) (p : Int) = ((x7 * x0 % p : Nat) : Int) := by
    rw [← Int.natCast_mul, wrap_small (by omega) (by omega), tmod_nat (by omega)]; simp
   have hpow : x0 ^ e = (x0 * x0) ^ (e / 2) * x0 ^ (e % 2) := by
    rw [← Nat.pow_two, ← Nat.pow_mul, ← Nat.pow_add, Nat.div_add_mod]
   have hm : ∀ y, y % p * (x0 * x0 % p) ^ (e / 2) % p = y * (x0 * x0) ^ (e / 2) % p := fun y => by
    rw [Nat.mul_mod, Nat.pow_mod, Nat.mod_mod, Nat.mod_mod, ← Nat.pow_mod, ← Nat.mul_mod]
   refine ev_pos (by omega) ?_
   rw [e1, e2, e3, e4]
   have hp0 : 0 < p := by omega
   rcases Nat.mod_two_eq_zero_or_one e with h2 | h2
   ·refine ev_neg (by rw [h2]; decide) (ev_neg (by omega) ?_)
    refine ev_eq (ih (e / 2) (by omega) (x0 * x0 % p) x7 (by omega) (Nat.mod_lt _ hp0) h7) ?_
    have := hm x7
    rw [Nat.mod_eq_of_lt h7] at this
    rw [this, hpow, h2, Nat.pow_zero, Nat.mul_one]
   ·refine ev_pos (by rw [h2]; decide) (ev_neg (by omega) ?_)
    refine ev_eq (ih (e / 2) (by omega) (x0 * x0 % p) (x7 * x0 % p) (by omega) (Nat.mod_lt _ hp0) (Nat.mod_lt _ hp0)) ?_
    rw [hm, hpow, h2, Nat.pow_one, Nat.mul_assoc, Nat.mul_comm x0]
theorem inverse_ev {p a : Nat} (hp : isP p = true) (ha : a < p) : Ev (fun k => z149.f k (a : Int) (p : Int)) ((a ^ (p - 2) % p : Nat) : Int) := by
 have h2 := isP_two hp
 unfold z149.f z159.f
 have e : wrap64 ((p : Int) - 2) = ((p - 2 : Nat) : Int) := by rw [wrap_small (by omega) (by omega)]; omega
 rw [e]
 have h := powerOf_ev p h2.1 h2.2 (p - 2) a 1 (by omega) ha (by omega)
 rw [Nat.one_mul] at h
 exact Ev.bind h (Ev.now _)
def addT (p : Nat) (x y : List Int) (c : Int) : List Int := (List.range x.length).map fun j => (x.getD j 0 + c * y.getD j 0) % (p : Int)
def Rng (p : Nat) (x : List Int) : Prop := ∀ y, y ∈ x → 0 ≤ y ∧ y < (p : Int)
theorem rng_get {p : Nat} {x : List Int} (h : Rng p x) {j : Nat} (hj : j < x.length) : 0 ≤ x.getD j 0 ∧ x.getD j 0 < (p : Int) := h _ (getD_mem 0 hj)
theorem addT_len (p : Nat) (x y : List Int) (c : Int) : (addT p x y c).length = x.length := by simp [addT]
theorem addT_get {p : Nat} {x y : List Int} {c : Int} {j : Nat} (hj : j < x.length) : (addT p x y c).getD j 0 = (x.getD j 0 + c * y.getD j 0) % (p : Int) := by
 unfold addT
 rw [List.getD_eq_getElem?_getD, List.getElem?_map, List.getElem?_range hj]; rfl
theorem addT_rng {p : Nat} (hp : 0 < p) (x y : List Int) (c : Int) : Rng p (addT p x y c) := by
 intro z hz
 obtain ⟨j, _, rfl⟩ := List.mem_map.1 hz
 exact ⟨Int.emod_nonneg _ (by omega), Int.emod_lt_of_pos _ (by omega)⟩
theorem addTimes_ev {p : Nat} (hp0 : 0 < p) (hp : p ≤ 251) (x y : List Int) (c : Int) (hx : Rng p x) (hy : Rng p y) (hl : x.length ≤ y.length) (hm : x.length ≤ 1048576) (hc0 : 0 ≤ c) (hc : c ≤ 251) :
  Ev (fun k => z108.f k x y c (p : Int)) (addT p x y c) := by
 unfold z108.f
 refine ev_map (fun s i k => z108.l0 k x y c (p : Int) s (x.length : Int) (i : Int)) (fun j => (x.getD j 0 + c * y.getD j 0) % (p : Int)) x.length (fun j s hj hs r hr => ?_) _ ?_
 ·have hsl : s.length = j := by rw [hs]; simp
  have a := rng_get hx hj
  have b := rng_get hy (j := j) (by omega)
  have hcb : 0 ≤ c * y.getD j 0 := Int.mul_nonneg hc0 b.1
  have hcb2 : c * y.getD j 0 ≤ 251 * 251 := Int.mul_le_mul hc (by omega) b.1 (by decide)
  refine Ev.step (fun k => z108.l0.eq_2 ..) ?_
  (repeat (first | refine ev_pos (by omega) ?_ | refine ev_neg (by omega) ?_))
  rw [wrap_succ (by omega), rd_nat, rd_nat, wrap_small (x := c * y.getD j 0) (by omega) (by omega), wrap_small (by omega) (by omega), tmod_nat (by omega)]
  exact hr
 ·refine Ev.step (fun k => z108.l0.eq_2 ..) ?_
  exact ev_neg (by omega) (Ev.now _)
theorem reduce_val {p : Nat} (hp : 2 ≤ p) (hp2 : p ≤ 251) {a : Int} (h0 : -1000000000 ≤ a) (h1 : a ≤ 1000000000) : z131.f a (p : Int) = some (a % (p : Int)) := by
 unfold z131.f
 rw [if_neg (by omega)]
 have h2 : Int.tmod a (p : Int) = a % (p : Int) ∨ Int.tmod a (p : Int) = a % (p : Int) - (p : Int) := by
  rw [Int.tmod_eq_emod]
  split
  ·left; omega
  ·right; simp
 have h3 := Int.emod_nonneg a (b := (p : Int)) (by omega)
 have h4 := Int.emod_lt_of_pos a (b := (p : Int)) (by omega)
 congr 1
 rcases h2 with h | h
 ·rw [h, wrap_small (by omega) (by omega), tmod_nat (by omega)]; simp
 ·rw [h, wrap_small (by omega) (by omega), tmod_nat (by omega)]; simp
end Go.Proofs.Ytabfflgoaalapaa.B
set_option linter.unusedVariables false
set_option linter.unusedSimpArgs false
namespace Go.Proofs.Ytabfflgoaalapaa.B
open Go.RowKit Go.Proofs.YtabfflgoaalapaaW.PrintWords
open LinT
theorem idxf_ev (l : List (List Int)) (c : Nat) (hc : ∀ x, x ∈ l → c < x.length) (hl : l.length ≤ 1048576) :
  ∃ t : Int, Ev (fun k => z182.f k l (c : Int)) t ∧ ((t = -1 ∧ ∀ i, i < l.length → rw' l i c = 0) ∨ ∃ i : Nat, t = (i : Int) ∧ i < l.length ∧ rw' l i c ≠ 0) := by
 unfold z182.f
 have main : ∀ (d i : Nat), i + d = l.length → (∀ j, j < i → rw' l j c = 0) → ∃ t : Int, Ev (fun k => z182.l0 k l (l.length : Int) (i : Int) (c : Int)) t ∧ ((t = -1 ∧ ∀ i, i < l.length → rw' l i c = 0) ∨ ∃ i : Nat, t = (i : Int) ∧ i < l.length ∧ rw' l i c ≠ 0) := by
  intro d
  induction d with
  | zero =>
   intro i hi hz
   refine ⟨-1, ?_, .inl ⟨rfl, fun j hj => hz j (by omega)⟩⟩
   refine Ev.step (fun k => z182.l0.eq_2 ..) ?_
   exact ev_neg (by omega) (Ev.now _)
  | succ d ih =>
   intro i hi hz
   have hlen := hc (l.getD i []) (getD_mem [] (by omega))
   have hv : z148.f (rI_ l (i : Int)) (c : Int) = some (rw' l i c != 0) := by
    unfold z148.f
    rw [rdl_nat, if_pos (by omega), if_pos (by omega), rd_nat]; rfl
   by_cases h : rw' l i c = 0
   ·obtain ⟨t, ht, hh⟩ := ih (i + 1) (by omega) (fun j hj => by
     rcases Nat.lt_or_ge j i with h1 | h1
     ·exact hz j h1
     ·have : j = i := by omega
      rw [this]; exact h)
    refine ⟨t, ?_, hh⟩
    refine Ev.step (fun k => z182.l0.eq_2 ..) ?_
    (repeat (first | refine ev_pos (by omega) ?_ | refine ev_neg (by omega) ?_))
    refine Ev.bind (ev_const hv) (ev_neg (by rw [h]; decide) ?_)
    rw [wrap_succ (by omega)]; exact ht
   ·refine ⟨(i : Int), ?_, .inr ⟨i, rfl, by omega, h⟩⟩
    refine Ev.step (fun k => z182.l0.eq_2 ..) ?_
    (repeat (first | refine ev_pos (by omega) ?_ | refine ev_neg (by omega) ?_))
    exact Ev.bind (ev_const hv) (ev_pos (by simpa using h) (Ev.now _))
 exact main l.length 0 (by omega) (fun j hj => by omega)
theorem vs_len {p : Int} {n : Nat} {R : List (List Int)} (h : Vs p n R) {i : Nat} (hi : i < R.length) : (R.getD i []).length = n := (h _ (getD_mem [] hi)).1
theorem vs_rng {p : Nat} {n : Nat} {R : List (List Int)} (h : Vs (p : Int) n R) {i : Nat} (hi : i < R.length) : Rng p (R.getD i []) := (h _ (getD_mem [] hi)).2
theorem vs_set {p : Int} {n : Nat} {R : List (List Int)} (h : Vs p n R) (i : Nat) {x : List Int} (hx : x.length = n) (hr : ∀ y, y ∈ x → 0 ≤ y ∧ y < p) : Vs p n (R.set i x) := by
 intro y hy
 rcases List.mem_or_eq_of_mem_set hy with h1 | h1
 ·exact h y h1
 ·rw [h1]; exact ⟨hx, hr⟩
theorem getD_setL {R : List (List Int)} {a : Nat} (b : Nat) (x : List Int) (ha : a < R.length) : (R.set a x).getD b [] = if b = a then x else R.getD b [] := by
 rw [List.getD_eq_getElem?_getD, List.getElem?_set, List.getD_eq_getElem?_getD]
 by_cases h : b = a
 ·subst h; simp [ha]
 ·rw [if_neg (Ne.symm h), if_neg h]
def clr (p top c : Nat) (R : List (List Int)) (i : Nat) : List Int :=
 if i = top then R.getD i [] else if rw' R i c = 0 then R.getD i [] else addT p (R.getD i []) (R.getD top []) ((p : Int) - rw' R i c)
structure Clr (p n top c : Nat) (R0 : List (List Int)) (i : Nat) (R : List (List Int)) : Prop where
 len : R.length = R0.length
 at_ : ∀ j, j < R0.length → R.getD j [] = if j < i then clr p top c R0 j else R0.getD j []
theorem clr_ok {p n : Nat} (hp : 0 < p) {top c : Nat} {R : List (List Int)} (h : Vs (p : Int) n R) {i : Nat} (hi : i < R.length) : (clr p top c R i).length = n ∧ Rng p (clr p top c R i) := by
 unfold clr
 split
 ·exact ⟨vs_len h hi, vs_rng h hi⟩
 ·split
  ·exact ⟨vs_len h hi, vs_rng h hi⟩
  ·exact ⟨by rw [addT_len, vs_len h hi], addT_rng hp _ _ _⟩
theorem Clr.vs {p n : Nat} (hp : 0 < p) {top c : Nat} {R0 R : List (List Int)} {i : Nat} (h0 : Vs (p : Int) n R0) (h : Clr p n top c R0 i R) : Vs (p : Int) n R := by
 intro x hx
 obtain ⟨j, hj, rfl⟩ := List.getElem_of_mem hx
 have e : R[j] = R.getD j [] := by rw [List.getD_eq_getElem?_getD, List.getElem?_eq_getElem hj]; rfl
 have hj0 : j < R0.length := by rw [← h.len]; exact hj
 rw [e, h.at_ j hj0]
 split
 ·exact clr_ok hp h0 hj0
 ·exact ⟨vs_len h0 hj0, vs_rng h0 hj0⟩
theorem clear_ev {p n : Nat} (hp : isP p = true) (hn : n ≤ 1048576) {top c : Nat} (hc : c < n) {R0 : List (List Int)} (hv : Vs (p : Int) n R0) (ht : top < R0.length) (hm : R0.length ≤ 1048576) (q : List Int) (hq : q.length ≤ 1048576) (det : Int) {β : Int × Int} :
  ∃ R, Clr p n top c R0 R0.length R ∧ ∀ r, Ev (fun k => z128.l0 k R (n : Int) (p : Int) (q ++ [(c : Int)]) det (n : Int) ((c + 1 : Nat) : Int)) r →
   Ev (fun k => z128.l1 k R0 (n : Int) (p : Int) q det (top : Int) (n : Int) (c : Int) (R0.length : Int) 0 (c : Int)) r := by
 have h2 := isP_two hp
 have main : ∀ (d i : Nat) (R : List (List Int)), i + d = R0.length → Clr p n top c R0 i R → ∃ R', Clr p n top c R0 R0.length R' ∧ ∀ r, Ev (fun k => z128.l0 k R' (n : Int) (p : Int) (q ++ [(c : Int)]) det (n : Int) ((c + 1 : Nat) : Int)) r →
   Ev (fun k => z128.l1 k R (n : Int) (p : Int) q det (top : Int) (n : Int) (c : Int) (R0.length : Int) (i : Int) (c : Int)) r := by
  intro d
  induction d with
  | zero =>
   intro i R hi hR
   have : i = R0.length := by omega
   subst this
   refine ⟨R, hR, fun r hr => ?_⟩
   refine Ev.step (fun k => z128.l1.eq_2 ..) ?_
   refine ev_neg (by omega) (ev_pos (by omega) ?_)
   rw [wrap_succ (by omega)]; exact hr
  | succ d ih =>
   intro i R hi hR
   have hRv := hR.vs (by omega) hv
   have hRl := hR.len
   have hrow : R.getD i [] = R0.getD i [] := by rw [hR.at_ i (by omega), if_neg (by omega)]
   have htop : R.getD top [] = R0.getD top [] := by
    rw [hR.at_ top ht]
    split
    ·unfold clr; rw [if_pos rfl]
    ·rfl
   have hlen := vs_len hv (i := i) (by omega)
   have hval : rd (rI_ R (i : Int)) (c : Int) = rw' R0 i c := by rw [rdl_nat, rd_nat, hrow]; rfl
   by_cases h1 : i = top
   ·obtain ⟨R', h3, h4⟩ := ih (i + 1) R (by omega) ⟨hRl, fun j hj => by
     rw [hR.at_ j hj]
     by_cases hji : j = i
     ·rw [hji, if_neg (Nat.lt_irrefl i), if_pos (Nat.lt_succ_self i)]; unfold clr; rw [if_pos h1]
     ·by_cases hjl : j < i
      ·rw [if_pos hjl, if_pos (by omega)]
      ·rw [if_neg hjl, if_neg (by omega)]⟩
    refine ⟨R', h3, fun r hr => ?_⟩
    refine Ev.step (fun k => z128.l1.eq_2 ..) ?_
    refine ev_pos (by omega) (ev_pos (by omega) (ev_pos (by omega) (ev_pos (by omega) ?_)))
    rw [wrap_succ (by omega)]; exact h4 r hr
   ·by_cases h0 : rw' R0 i c = 0
    ·obtain ⟨R', h3, h4⟩ := ih (i + 1) R (by omega) ⟨hRl, fun j hj => by
      rw [hR.at_ j hj]
      by_cases hji : j = i
      ·rw [hji, if_neg (Nat.lt_irrefl i), if_pos (Nat.lt_succ_self i)]; unfold clr; rw [if_neg h1, if_pos h0]
      ·by_cases hjl : j < i
       ·rw [if_pos hjl, if_pos (by omega)]
       ·rw [if_neg hjl, if_neg (by omega)]⟩
     refine ⟨R', h3, fun r hr => ?_⟩
     refine Ev.step (fun k => z128.l1.eq_2 ..) ?_
     rw [hval]
     refine ev_pos (by omega) (ev_pos (by omega) (ev_pos (by omega) (ev_neg (by omega) (ev_pos (by omega) (ev_pos (by rw [rdl_nat, hrow, hlen]; omega) (ev_pos h0 ?_))))))
     rw [wrap_succ (by omega)]; exact h4 r hr
    ·have hb := rng_get (vs_rng hv (i := i) (by omega)) (j := c) (by omega)
     have hb' : 0 ≤ rw' R0 i c ∧ rw' R0 i c < (p : Int) := hb
     have hadd := addTimes_ev (p := p) (by omega) h2.2 (R0.getD i []) (R0.getD top []) ((p : Int) - rw' R0 i c) (vs_rng hv (by omega)) (vs_rng hv ht) (by rw [vs_len hv ht, hlen]; exact Nat.le_refl _) (by omega) (by omega) (by omega)
     obtain ⟨R', h3, h4⟩ := ih (i + 1) (R.set i (addT p (R0.getD i []) (R0.getD top []) ((p : Int) - rw' R0 i c))) (by omega) ⟨by rw [List.length_set, hRl], fun j hj => by
      rw [getD_setL j _ (by omega)]
      by_cases hji : j = i
      ·rw [if_pos hji, hji, if_pos (Nat.lt_succ_self i)]; unfold clr; rw [if_neg h1, if_neg h0]
      ·rw [if_neg hji, hR.at_ j hj]
       by_cases hjl : j < i
       ·rw [if_pos hjl, if_pos (by omega)]
       ·rw [if_neg hjl, if_neg (by omega)]⟩
     refine ⟨R', h3, fun r hr => ?_⟩
     refine Ev.step (fun k => z128.l1.eq_2 ..) ?_
     rw [hval]
     refine ev_pos (by omega) (ev_pos (by omega) (ev_pos (by omega) (ev_neg (by omega) (ev_pos (by omega) (ev_pos (by rw [rdl_nat, hrow, hlen]; omega) (ev_neg h0 (ev_pos (by omega) (ev_pos (by omega) ?_))))))))
     rw [rdl_nat, rdl_nat, hrow, htop, wrap_small (by omega) (by omega), wrap_succ (by omega)]
     exact Ev.bind hadd (h4 r hr)
 obtain ⟨R', h1, h3⟩ := main R0.length 0 R0 (by omega) ⟨rfl, fun j hj => by rw [if_neg (by omega)]⟩
 exact ⟨R', h1, h3⟩
structure StI (p n : Nat) (L : List (List Int)) (c : Nat) (R : List (List Int)) (q : List Int) : Prop where
 len : R.length = L.length
 vs : Vs (p : Int) n R
 pos : ∀ x, x ∈ q → 0 ≤ x
 el : El (p : Int) n L.length (rw' L) c q.length (rw' R) (fun i => (q.getD i 0).toNat)
theorem emod_dvd (a : Int) (p : Int) : p ∣ a % p - a := by
 have := Int.dvd_neg.2 (Int.dvd_self_sub_emod (x := a) (m := p))
 rwa [show -(a - a % p) = a % p - a by omega] at this
theorem lead_ev {p n : Nat} (hp : isP p = true) (hn : n ≤ 1048576) {L : List (List Int)} (hm : L.length ≤ 1048576) {c : Nat} (hc : c < n) {R : List (List Int)} {q : List Int} (h : StI p n L c R q) (hq : q.length ≤ c) (hqm : q.length < L.length) (hne : rw' R q.length c ≠ 0) (det : Int) :
  ∃ R' det', StI p n L (c + 1) R' (q ++ [(c : Int)]) ∧ ∀ r, Ev (fun k => z128.l0 k R' (n : Int) (p : Int) (q ++ [(c : Int)]) det' (n : Int) ((c + 1 : Nat) : Int)) r →
   Ev (fun k => z128.j1 k R (n : Int) (p : Int) q det (q.length : Int) (n : Int) (c : Int) (c : Int)) r := by
 have h2 := isP_two hp
 have hRl := h.len
 have htop := vs_len h.vs (i := q.length) (by omega)
 have hb : 0 ≤ rw' R q.length c ∧ rw' R q.length c < (p : Int) := rng_get (vs_rng h.vs (i := q.length) (by omega)) (j := c) (by omega)
 obtain ⟨a, ha⟩ := Int.eq_ofNat_of_zero_le hb.1
 have hap : a < p := by omega
 have hinv := inverse_ev hp hap
 have hcong := inv_dvd hp hap (by omega)
 have hbp : a ^ (p - 2) % p < p := Nat.mod_lt _ (by omega)
 generalize hbe : a ^ (p - 2) % p = b at hinv hcong hbp
 have hz : Rng p (List.replicate n 0) := fun y hy => by rw [(List.mem_replicate.1 hy).2]; omega
 have hadd := addTimes_ev (p := p) (by omega) h2.2 (List.replicate n 0) (R.getD q.length []) (b : Int) hz (vs_rng h.vs (by omega)) (by rw [htop]; simp) (by simpa using hn) (by omega) (by omega)
 generalize hR1 : addT p (List.replicate n 0) (R.getD q.length []) (b : Int) = x1 at hadd
 have hx1l : x1.length = n := by rw [← hR1, addT_len]; simp
 have hx1r : Rng p x1 := by rw [← hR1]; exact addT_rng (by omega) _ _ _
 have hx1 : ∀ j, j < n → (p : Int) ∣ x1.getD j 0 - (b : Int) * rw' R q.length j := fun j hj => by
  have e : x1.getD j 0 = ((b : Int) * rw' R q.length j) % (p : Int) := by
   rw [← hR1, addT_get (by simpa using hj)]
   have : (List.replicate n (0 : Int)).getD j 0 = 0 := by simp [List.getD_eq_getElem?_getD, hj]
   rw [this, Int.zero_add]; rfl
  rw [e]; exact emod_dvd _ _
 have hv1 : Vs (p : Int) n (R.set q.length x1) := vs_set h.vs _ hx1l hx1r
 obtain ⟨R2, hclr, hgo⟩ := clear_ev (β := (0, 0)) hp hn hc hv1 (top := q.length) (by rw [List.length_set]; omega) (by rw [List.length_set]; omega) q (by omega) (Int.tmod (wrap64 (det * (a : Int))) (p : Int))
 have hR2v := hclr.vs (by omega) hv1
 have hR2l : R2.length = L.length := by rw [hclr.len, List.length_set, hRl]
 have htop2 : R2.getD q.length [] = x1 := by
  rw [hclr.at_ _ (by rw [List.length_set]; omega), if_pos (by rw [List.length_set]; omega)]
  unfold clr
  rw [if_pos rfl, getD_setL _ _ (by omega), if_pos rfl]
 have hoth : ∀ i, i < L.length → i ≠ q.length → ∀ j, j < n → (p : Int) ∣ rw' R2 i j - (rw' R i j - rw' R i c * rw' R2 q.length j) := fun i hi hne j hj => by
  have e0 : ∀ t, rw' (R.set q.length x1) i t = rw' R i t := fun t => by unfold rw'; rw [getD_setL _ _ (by omega), if_neg hne]
  have e1 : R2.getD i [] = clr p q.length c (R.set q.length x1) i := by rw [hclr.at_ _ (by rw [List.length_set]; omega), if_pos (by rw [List.length_set]; omega)]
  have e2 : (R.set q.length x1).getD i [] = R.getD i [] := by rw [getD_setL _ _ (by omega), if_neg hne]
  have e3 : (R.set q.length x1).getD q.length [] = x1 := by rw [getD_setL _ _ (by omega), if_pos rfl]
  have e4 : rw' R2 q.length j = x1.getD j 0 := by unfold rw' vec; rw [htop2]
  unfold clr at e1
  rw [if_neg hne, e0 c, e2, e3] at e1
  by_cases hz : rw' R i c = 0
  ·rw [if_pos hz] at e1
   have : rw' R2 i j = rw' R i j := by unfold rw'; rw [e1]
   rw [this, hz, Int.zero_mul]; simp
  ·rw [if_neg hz] at e1
   have : rw' R2 i j = (rw' R i j + ((p : Int) - rw' R i c) * x1.getD j 0) % (p : Int) := by
    unfold rw' vec
    rw [e1, addT_get (by rw [vs_len h.vs (by omega)]; exact hj)]
    rfl
   rw [this, e4]
   have h5 := emod_dvd (rw' R i j + ((p : Int) - rw' R i c) * x1.getD j 0) (p : Int)
   have h6 := Int.dvd_add h5 (Int.dvd_mul_right (p : Int) (x1.getD j 0))
   rwa [show (rw' R i j + ((p : Int) - rw' R i c) * x1.getD j 0) % (p : Int) - (rw' R i j + ((p : Int) - rw' R i c) * x1.getD j 0) + (p : Int) * x1.getD j 0 = (rw' R i j + ((p : Int) - rw' R i c) * x1.getD j 0) % (p : Int) - (rw' R i j - rw' R i c * x1.getD j 0) by grind] at h6
 have hqs : ∀ i, i < q.length → ((q ++ [(c : Int)]).getD i 0) = q.getD i 0 := fun i hi => by
  rw [List.getD_eq_getElem?_getD, List.getElem?_append_left hi, List.getD_eq_getElem?_getD]
 refine ⟨R2, Int.tmod (wrap64 (det * (a : Int))) (p : Int), ⟨hR2l, hR2v, fun x hx => ?_, ?_⟩, fun r hr => ?_⟩
 ·rcases List.mem_append.1 hx with h1 | h1
  ·exact h.pos x h1
  ·rw [List.mem_singleton.1 h1]; omega
 ·rw [List.length_append]
  refine h.el.step hc hqm (b := (b : Int)) (by rw [ha]; exact hcong) (fun j hj => ?_) (fun i j hi hne hj => hoth i hi hne j hj) (fun i hi => by rw [hqs i hi]) (by simp) (fun i j hi hj => ?_) (fun i j hi hj => ?_)
  ·have : rw' R2 q.length j = x1.getD j 0 := by unfold rw' vec; rw [htop2]
   rw [this]; exact hx1 j hj
  ·exact (vs_get hR2v (by omega) hj).1
  ·exact (vs_get hR2v (by omega) hj).2
 ·refine Ev.step (fun k => z128.j1.eq_2 ..) ?_
  have hrd : rd (rI_ R (q.length : Int)) (c : Int) = (a : Int) := by rw [rdl_nat, rd_nat, ← ha]; rfl
  rw [hrd]
  refine ev_pos (by omega) (ev_pos (by omega) (ev_pos (by omega) (ev_pos (by rw [rdl_nat, htop]; omega) (ev_neg (by omega) (ev_pos (by omega) (ev_pos (by omega) (Ev.bind hinv ?_)))))))
  rw [rdl_nat]
  refine Ev.bind (by simpa using hadd) ?_
  have := hgo r hr
  rw [List.length_set] at this
  simpa using this
theorem elim_ev {p n : Nat} (hp : isP p = true) (hn : n ≤ 1048576) {L : List (List Int)} (hm : L.length ≤ 1048576) (hL : Vs (p : Int) n L) :
  ∃ R q det, Ev (fun k => z128.f k L (n : Int) (p : Int)) (q, det, R) ∧ StI p n L n R q := by
 have h2 := isP_two hp
 unfold z128.f
 have main : ∀ (d c : Nat) (R : List (List Int)) (q : List Int) (det : Int), c + d = n → q.length ≤ c → StI p n L c R q →
   ∃ R' q' det', Ev (fun k => z128.l0 k R (n : Int) (p : Int) q det (n : Int) (c : Int)) (q', det', R') ∧ StI p n L n R' q' := by
  intro d
  induction d with
  | zero =>
   intro c R q det hc hq h
   have : c = n := by omega
   subst this
   refine ⟨R, q, det, ?_, h⟩
   refine Ev.step (fun k => z128.l0.eq_2 ..) ?_
   exact ev_neg (by omega) (Ev.now _)
  | succ d ih =>
   intro c R q det hc hq h
   have hrm := h.el.g.rm
   have hRl := h.len
   obtain ⟨t, ht, hd⟩ := idxf_ev (R.drop q.length) c (fun x hx => by have := (h.vs x (List.mem_of_mem_drop hx)).1; omega) (by rw [List.length_drop]; omega)
   have hdrop : ∀ i, i < (R.drop q.length).length → rw' (R.drop q.length) i c = rw' R (q.length + i) c := fun i hi => by
    unfold rw' vec
    rw [List.getD_eq_getElem?_getD (l := R.drop q.length), List.getElem?_drop, ← List.getD_eq_getElem?_getD]
   have hdl : (R.drop q.length).length = L.length - q.length := by rw [List.length_drop, hRl]
   rcases hd with ⟨e, hz⟩ | ⟨i, e, hi, hne⟩
   ·subst e
    obtain ⟨R', q', det', h3, h4⟩ := ih (c + 1) R q 0 (by omega) (by omega) ⟨h.len, h.vs, h.pos, h.el.none (fun i h1 h3 => by
     have := hz (i - q.length) (by omega)
     rw [hdrop _ (by omega), show q.length + (i - q.length) = i by omega] at this; exact this)⟩
    refine ⟨R', q', det', ?_, h4⟩
    refine Ev.step (fun k => z128.l0.eq_2 ..) ?_
    refine ev_pos (by omega) (ev_pos (by omega) (ev_pos (by omega) (Ev.bind (by simpa using ht) (ev_pos (by decide) ?_))))
    rw [wrap_succ (by omega)]; exact h3
   ·subst e
    rw [hdrop i hi] at hne
    have hqm : q.length < L.length := by omega
    rcases Nat.eq_zero_or_pos i with h0 | h0
    ·subst h0
     rw [Nat.add_zero] at hne
     obtain ⟨R1, det1, hst, hgo⟩ := lead_ev hp hn hm (by omega) h hq hqm hne det
     obtain ⟨R', q', det', h3, h4⟩ := ih (c + 1) R1 (q ++ [(c : Int)]) det1 (by omega) (by simp; omega) hst
     refine ⟨R', q', det', ?_, h4⟩
     refine Ev.step (fun k => z128.l0.eq_2 ..) ?_
     refine ev_pos (by omega) (ev_pos (by omega) (ev_pos (by omega) (Ev.bind (by simpa using ht) (ev_neg (by decide) (ev_neg (by decide) ?_)))))
     exact hgo _ h3
    ·have g1 : (c : Int) < (n : Int) := by omega
     have g2 : (0 : Int) ≤ (q.length : Int) := by omega
     have g3 : (q.length : Int) ≤ (R.length : Int) := by omega
     have g4 : ¬ ((i : Int) < 0) := by omega
     have g5 : (i : Int) > 0 := by omega
     have g6 : (0 : Int) ≤ ((q.length + i : Nat) : Int) := by omega
     have g7 : ((q.length + i : Nat) : Int) < (R.length : Int) := by omega
     have g8 : (q.length : Int) < (R.length : Int) := by omega
     have hs : StI p n L c ((R.set q.length (R.getD (q.length + i) [])).set (q.length + i) (R.getD q.length [])) q := by
      refine ⟨by simp [hRl], vs_set (vs_set h.vs _ (vs_len h.vs (by omega)) (vs_rng h.vs (by omega))) _ (vs_len h.vs (by omega)) (vs_rng h.vs (by omega)), h.pos, ?_⟩
      have hat : ∀ j, ((R.set q.length (R.getD (q.length + i) [])).set (q.length + i) (R.getD q.length [])).getD j [] = if j = q.length + i then R.getD q.length [] else if j = q.length then R.getD (q.length + i) [] else R.getD j [] := fun j => by
       rw [getD_setL _ _ (by rw [List.length_set]; omega), getD_setL _ _ (by omega)]
      refine h.el.swap (a := q.length + i) (by omega) (by omega) (fun j => ?_) (fun j => ?_) (fun k j hk h1 h3 => ?_)
      ·unfold rw'; rw [hat, if_neg (by omega), if_pos rfl]
      ·unfold rw'; rw [hat, if_pos rfl]
      ·unfold rw'; rw [hat, if_neg h3, if_neg h1]
     have hne' : rw' ((R.set q.length (R.getD (q.length + i) [])).set (q.length + i) (R.getD q.length [])) q.length c ≠ 0 := by
      have : ((R.set q.length (R.getD (q.length + i) [])).set (q.length + i) (R.getD q.length [])).getD q.length [] = R.getD (q.length + i) [] := by
       rw [getD_setL _ _ (by rw [List.length_set]; omega), if_neg (by omega), getD_setL _ _ (by omega), if_pos rfl]
      unfold rw'; rw [this]; exact hne
     have hred : ∃ d2, z131.f (wrap64 (-det)) (p : Int) = some d2 := ⟨_, by unfold z131.f; rw [if_neg (by omega)]⟩
     obtain ⟨d2, hd2⟩ := hred
     obtain ⟨R1, det1, hst, hgo⟩ := lead_ev hp hn hm (by omega) hs hq hqm hne' d2
     obtain ⟨R', q', det', h3, h4⟩ := ih (c + 1) R1 (q ++ [(c : Int)]) det1 (by omega) (by simp; omega) hst
     refine ⟨R', q', det', ?_, h4⟩
     refine Ev.step (fun k => z128.l0.eq_2 ..) ?_
     have hw : wrap64 ((q.length : Int) + (i : Int)) = ((q.length + i : Nat) : Int) := by rw [wrap_small (by omega) (by omega)]; omega
     refine ev_pos g1 (ev_pos g2 (ev_pos g3 (Ev.bind (by simpa using ht) (ev_neg g4 (ev_pos g5 ?_)))))
     rw [hw]
     refine ev_pos g6 (ev_pos g7 (ev_pos g8 (Ev.bind (ev_const hd2) ?_)))
     rw [rdl_nat, rdl_nat, Int.toNat_natCast, Int.toNat_natCast]
     exact hgo _ h3
 obtain ⟨R', q', det', h3, h4⟩ := main n 0 L [] 1 (by omega) (by simp) ⟨rfl, hL, fun x hx => by simp at hx, El.start (fun i j hi hj => (vs_get hL hi hj).1) (fun i j hi hj => (vs_get hL hi hj).2) _⟩
 exact ⟨R', q', det', h3, h4⟩
theorem StI.red {p n : Nat} {L R : List (List Int)} {q : List Int} (h : StI p n L n R q) : Red (p : Int) n L (R.take q.length) q := Red.of h.len h.vs rfl h.pos h.el
end Go.Proofs.Ytabfflgoaalapaa.B
set_option linter.unusedVariables false
set_option linter.unusedSimpArgs false
namespace Go.Proofs.Ytabfflgoaalapaa.B
open Go.RowKit Go.Proofs.YtabfflgoaalapaaW.PrintWords
open LinT
theorem inverseS_ev {p : Nat} (hp0 : 2 ≤ p) (hp : p ≤ 251) {a : Nat} (ha : a < p) : ∀ (n x : Nat), n ≤ 1000 → x < p → Ev (fun k => z155.l0 k (a : Int) (p : Int) (x : Int) (n : Int)) ((x * a ^ n % p : Nat) : Int) := by
 intro n
 induction n with
 | zero =>
  intro x _ hx
  refine Ev.step (fun k => z155.l0.eq_2 ..) ?_
  refine ev_neg (by omega) (ev_eq (Ev.now _) ?_)
  rw [Nat.pow_zero, Nat.mul_one, Nat.mod_eq_of_lt hx]
 | succ n ih =>
  intro x hn hx
  have hb : x * a ≤ 250 * 250 := Nat.mul_le_mul (by omega) (by omega)
  have e1 : Int.tmod (wrap64 ((x : Int) * (a : Int))) (p : Int) = ((x * a % p : Nat) : Int) := by
   rw [← Int.natCast_mul, wrap_small (by omega) (by omega), tmod_nat (by omega)]; simp
  have e2 : wrap64 (((n + 1 : Nat) : Int) - 1) = (n : Int) := by rw [wrap_small (by omega) (by omega)]; omega
  refine Ev.step (fun k => z155.l0.eq_2 ..) ?_
  rw [e1, e2]
  clear e1 e2
  refine ev_pos (by omega) (ev_neg (by omega) (ev_eq (ih (x * a % p) (by omega) (Nat.mod_lt _ (by omega))) ?_))
  rw [Nat.mod_mul_mod, Nat.pow_succ, Nat.mul_assoc, Nat.mul_comm a]
theorem inverseSpec_ev {p a : Nat} (hp : isP p = true) (ha : a < p) : Ev (fun k => z155.f k (a : Int) (p : Int)) ((a ^ (p - 2) % p : Nat) : Int) := by
 have h2 := isP_two hp
 unfold z155.f
 have e : wrap64 ((p : Int) - 2) = ((p - 2 : Nat) : Int) := by rw [wrap_small (by omega) (by omega)]; omega
 rw [e]
 have h := inverseS_ev h2.1 h2.2 ha (p - 2) 1 (by omega) (by omega)
 rwa [Nat.one_mul] at h
theorem mod_val {p : Nat} (hp : 2 ≤ p) (hp2 : p ≤ 251) {a : Int} (h0 : -1000000000 ≤ a) (h1 : a ≤ 1000000000) : z156.f a (p : Int) = some (a % (p : Int)) := by
 have := reduce_val hp hp2 h0 h1
 unfold z131.f at this
 unfold z156.f
 exact this
theorem ix {i w j : Nat} (hi : i ≤ 1024) (hw : w ≤ 1024) (hj : j ≤ 1024) : wrap64 (wrap64 ((i : Int) * (w : Int)) + (j : Int)) = ((i * w + j : Nat) : Int) := by
 have hb : i * w ≤ 1024 * 1024 := Nat.mul_le_mul hi hw
 rw [← Int.natCast_mul, wrap_small (x := ((i * w : Nat) : Int)) (by omega) (by omega), wrap_small (by omega) (by omega)]; omega
theorem rdfl (w : Nat) (X : List Int) (i j : Nat) : rd X ((i * w + j : Nat) : Int) = fl w X i j := rd_nat X _
section
variable {p w m : Nat} (hp : isP p = true) (hw : w ≤ 1024) (hm : m ≤ 1024) (X0 : List Int) (q : List Int) (det : Int)
include hp hw hm
omit hp in
theorem findS_ev {row c : Nat} (hr : row ≤ m) (hc : c < w) {X : List Int} (hX : X.length = m * w) : ∃ t, row ≤ t ∧ t ≤ m ∧ ((t = m ∧ ∀ i, row ≤ i → i < m → fl w X i c = 0) ∨ (t < m ∧ fl w X t c ≠ 0)) ∧
  Le (fun k => z134.j3 k (p : Int) (w : Int) q det (row : Int) (c : Int) (t : Int) (p : Int) (m : Int) (w : Int) X0 (p : Int) (m : Int) (w : Int) X) (fun k => z134.l1 k (p : Int) (w : Int) q det (row : Int) (c : Int) (row : Int) (p : Int) (m : Int) (w : Int) X0 (p : Int) (m : Int) (w : Int) X) := by
 have main : ∀ (d t : Nat), t + d = m → row ≤ t → (∀ i, row ≤ i → i < t → fl w X i c = 0) → ∃ t', row ≤ t' ∧ t' ≤ m ∧ ((t' = m ∧ ∀ i, row ≤ i → i < m → fl w X i c = 0) ∨ (t' < m ∧ fl w X t' c ≠ 0)) ∧
  Le (fun k => z134.j3 k (p : Int) (w : Int) q det (row : Int) (c : Int) (t' : Int) (p : Int) (m : Int) (w : Int) X0 (p : Int) (m : Int) (w : Int) X) (fun k => z134.l1 k (p : Int) (w : Int) q det (row : Int) (c : Int) (t : Int) (p : Int) (m : Int) (w : Int) X0 (p : Int) (m : Int) (w : Int) X) := by
  intro d
  induction d with
  | zero =>
   intro t ht h1 hz
   have : t = m := by omega
   subst this
   refine ⟨t, h1, Nat.le_refl _, .inl ⟨rfl, hz⟩, fun r hr => ?_⟩
   refine Ev.step (fun k => z134.l1.eq_2 ..) ?_
   exact ev_neg (by omega) hr
  | succ d ih =>
   intro t ht h1 hz
   have hlt := idx_lt (show t < m by omega) hc
   have e := ix (i := t) (w := w) (j := c) (by omega) hw (by omega)
   by_cases h : fl w X t c = 0
   ·obtain ⟨t', a1, a2, a3, a4⟩ := ih (t + 1) (by omega) (by omega) (fun i hi hi2 => by
     rcases Nat.lt_or_ge i t with hl | hg
     ·exact hz i hi hl
     ·rw [show i = t by omega]; exact h)
    refine ⟨t', a1, a2, a3, fun r hr => ?_⟩
    have := a4 r hr
    refine Ev.step (fun k => z134.l1.eq_2 ..) ?_
    rw [e, rdfl]
    clear e
    refine ev_pos (by omega) (ev_pos (by omega) (ev_pos (by omega) (ev_pos h ?_)))
    rw [wrap_succ (by omega)]; exact this
   ·refine ⟨t, h1, by omega, .inr ⟨by omega, h⟩, fun r hr => ?_⟩
    refine Ev.step (fun k => z134.l1.eq_2 ..) ?_
    rw [e, rdfl]
    clear e
    exact ev_pos (by omega) (ev_pos (by omega) (ev_pos (by omega) (ev_neg h hr)))
 exact main (m - row) row (by omega) (Nat.le_refl _) (fun i h1 h2 => by omega)
omit hp in
theorem swapS_ev {row c t : Nat} (hr : row < m) (ht : t < m) (hne : row ≠ t) {X : List Int} (hX : X.length = m * w) : ∃ Y, Swp w X row t w Y ∧
  Le (fun k => z134.j5 k (p : Int) (w : Int) q det (row : Int) (c : Int) (p : Int) (m : Int) (w : Int) X0 (p : Int) (m : Int) (w : Int) Y) (fun k => z134.l2 k (p : Int) (w : Int) q det (row : Int) (c : Int) (t : Int) 0 (p : Int) (m : Int) (w : Int) X0 (p : Int) (m : Int) (w : Int) X) := by
 have main : ∀ (d j : Nat) (Y : List Int), j + d = w → Swp w X row t j Y → ∃ Y', Swp w X row t w Y' ∧
  Le (fun k => z134.j5 k (p : Int) (w : Int) q det (row : Int) (c : Int) (p : Int) (m : Int) (w : Int) X0 (p : Int) (m : Int) (w : Int) Y') (fun k => z134.l2 k (p : Int) (w : Int) q det (row : Int) (c : Int) (t : Int) (j : Int) (p : Int) (m : Int) (w : Int) X0 (p : Int) (m : Int) (w : Int) Y) := by
  intro d
  induction d with
  | zero =>
   intro j Y hj hY
   have : j = w := by omega
   subst this
   refine ⟨Y, hY, fun r hr => ?_⟩
   refine Ev.step (fun k => z134.l2.eq_2 ..) ?_
   exact ev_neg (by omega) hr
  | succ d ih =>
   intro j Y hj hY
   have hl := hY.len
   have h1 := idx_lt hr (show j < w by omega)
   have h2 := idx_lt ht (show j < w by omega)
   obtain ⟨Y', h3, h4⟩ := ih (j + 1) _ (by omega) (hY.next hne (by omega) (by omega) (by omega))
   refine ⟨Y', h3, fun r hr => ?_⟩
   have := h4 r hr
   obtain ⟨e1, e2⟩ := And.intro (ix (i := t) (w := w) (j := j) (by omega) hw (by omega)) (ix (i := row) (w := w) (j := j) (by omega) hw (by omega))
   refine Ev.step (fun k => z134.l2.eq_2 ..) ?_
   rw [e1, e2, rdfl, rdfl]
   clear e1 e2
   refine ev_pos (by omega) (ev_pos (by omega) (ev_pos (by omega) (ev_pos (by omega) (ev_pos (by omega) ?_))))
   rw [wrap_succ (by omega), Int.toNat_natCast, Int.toNat_natCast]; exact this
 exact main w 0 X (by omega) (Swp.start w X row t)
theorem scaleS_ev {row c : Nat} (hr : row < m) {inv : Nat} (hi : inv < p) {X : List Int} (hX : X.length = m * w) (hR : Rng p X) : ∃ Y, Upd w X row (fun j => fl w X row j * (inv : Int) % (p : Int)) w Y ∧
  Le (fun k => z134.l4 k (p : Int) (w : Int) q det (row : Int) (c : Int) 0 (p : Int) (m : Int) (w : Int) X0 (p : Int) (m : Int) (w : Int) Y) (fun k => z134.l3 k (p : Int) (w : Int) q det (row : Int) (c : Int) (inv : Int) 0 (p : Int) (m : Int) (w : Int) X0 (p : Int) (m : Int) (w : Int) X) := by
 have hp2 := isP_two hp
 have main : ∀ (d j : Nat) (Y : List Int), j + d = w → Upd w X row (fun j => fl w X row j * (inv : Int) % (p : Int)) j Y → ∃ Y', Upd w X row (fun j => fl w X row j * (inv : Int) % (p : Int)) w Y' ∧
  Le (fun k => z134.l4 k (p : Int) (w : Int) q det (row : Int) (c : Int) 0 (p : Int) (m : Int) (w : Int) X0 (p : Int) (m : Int) (w : Int) Y') (fun k => z134.l3 k (p : Int) (w : Int) q det (row : Int) (c : Int) (inv : Int) (j : Int) (p : Int) (m : Int) (w : Int) X0 (p : Int) (m : Int) (w : Int) Y) := by
  intro d
  induction d with
  | zero =>
   intro j Y hj hY
   have : j = w := by omega
   subst this
   refine ⟨Y, hY, fun r hr => ?_⟩
   refine Ev.step (fun k => z134.l3.eq_2 ..) ?_
   exact ev_neg (by omega) hr
  | succ d ih =>
   intro j Y hj hY
   have hl := hY.len
   have h1 := idx_lt hr (show j < w by omega)
   have hv : fl w Y row j = fl w X row j := by rw [hY.at_ row j (by omega), if_neg (by omega)]
   have hx : 0 ≤ fl w X row j ∧ fl w X row j < (p : Int) := rng_get hR (by omega)
   have hb : 0 ≤ fl w X row j * (inv : Int) ∧ fl w X row j * (inv : Int) ≤ 250 * 250 := ⟨Int.mul_nonneg hx.1 (by omega), Int.mul_le_mul (by omega) (by omega) (by omega) (by decide)⟩
   obtain ⟨Y', h3, h4⟩ := ih (j + 1) _ (by omega) (hY.next (by omega) (by omega) (x := fl w X row j * (inv : Int) % (p : Int)) rfl)
   refine ⟨Y', h3, fun r hr => ?_⟩
   have := h4 r hr
   have e2 := ix (i := row) (w := w) (j := j) (by omega) hw (by omega)
   refine Ev.step (fun k => z134.l3.eq_2 ..) ?_
   rw [e2, rdfl, hv]
   clear e2
   refine ev_pos (by omega) (ev_pos (by omega) (ev_pos (by omega) (ev_neg (by omega) ?_)))
   rw [wrap_succ (by omega), Int.toNat_natCast, wrap_small (by omega) (by omega), tmod_nat (by omega)]; exact this
 exact main w 0 X (by omega) (Upd.start w X row _)
theorem clearS_ev {row c i : Nat} (hr : row < m) (hi : i < m) (hne : i ≠ row) {f : Int} (hf : 0 ≤ f ∧ f < (p : Int)) {X : List Int} (hX : X.length = m * w) (hR : ∀ i j, i < m → j < w → 0 ≤ fl w X i j ∧ fl w X i j < (p : Int)) : ∃ Y, Upd w X i (fun j => (fl w X i j - f * fl w X row j) % (p : Int)) w Y ∧
  Le (fun k => z134.l4 k (p : Int) (w : Int) q det (row : Int) (c : Int) ((i + 1 : Nat) : Int) (p : Int) (m : Int) (w : Int) X0 (p : Int) (m : Int) (w : Int) Y) (fun k => z134.l5 k (p : Int) (w : Int) q det (row : Int) (c : Int) (i : Int) f 0 (p : Int) (m : Int) (w : Int) X0 (p : Int) (m : Int) (w : Int) X) := by
 have hp2 := isP_two hp
 have main : ∀ (d j : Nat) (Y : List Int), j + d = w → Upd w X i (fun j => (fl w X i j - f * fl w X row j) % (p : Int)) j Y → ∃ Y', Upd w X i (fun j => (fl w X i j - f * fl w X row j) % (p : Int)) w Y' ∧
  Le (fun k => z134.l4 k (p : Int) (w : Int) q det (row : Int) (c : Int) ((i + 1 : Nat) : Int) (p : Int) (m : Int) (w : Int) X0 (p : Int) (m : Int) (w : Int) Y') (fun k => z134.l5 k (p : Int) (w : Int) q det (row : Int) (c : Int) (i : Int) f (j : Int) (p : Int) (m : Int) (w : Int) X0 (p : Int) (m : Int) (w : Int) Y) := by
  intro d
  induction d with
  | zero =>
   intro j Y hj hY
   have : j = w := by omega
   subst this
   refine ⟨Y, hY, fun r hr => ?_⟩
   refine Ev.step (fun k => z134.l5.eq_2 ..) ?_
   refine ev_neg (by omega) ?_
   rw [wrap_succ (by omega)]; exact hr
  | succ d ih =>
   intro j Y hj hY
   have hl := hY.len
   have h1 := idx_lt hr (show j < w by omega)
   have h2 := idx_lt hi (show j < w by omega)
   have hv : fl w Y i j = fl w X i j := by rw [hY.at_ i j (by omega), if_neg (by omega)]
   have hv2 : fl w Y row j = fl w X row j := by rw [hY.at_ row j (by omega), if_neg (by omega)]
   have hx := hR i j hi (by omega)
   have hx2 := hR row j hr (by omega)
   have hb : 0 ≤ f * fl w X row j ∧ f * fl w X row j ≤ 250 * 250 := ⟨Int.mul_nonneg hf.1 hx2.1, Int.mul_le_mul (by omega) (by omega) hx2.1 (by decide)⟩
   obtain ⟨Y', h3, h4⟩ := ih (j + 1) _ (by omega) (hY.next (by omega) (by omega) (x := (fl w X i j - f * fl w X row j) % (p : Int)) rfl)
   refine ⟨Y', h3, fun r hr => ?_⟩
   have := h4 r hr
   have hmv := mod_val (p := p) hp2.1 hp2.2 (a := fl w X i j - f * fl w X row j) (by omega) (by omega)
   have b1 : -9223372036854775808 ≤ f * fl w X row j := by omega
   have b2 : f * fl w X row j ≤ 9223372036854775807 := by omega
   have b3 : -9223372036854775808 ≤ fl w X i j - f * fl w X row j := by omega
   have b4 : fl w X i j - f * fl w X row j ≤ 9223372036854775807 := by omega
   obtain ⟨e1, e2⟩ := And.intro (ix (i := i) (w := w) (j := j) (by omega) hw (by omega)) (ix (i := row) (w := w) (j := j) (by omega) hw (by omega))
   have e3 : wrap64 (fl w X i j - wrap64 (f * fl w X row j)) = fl w X i j - f * fl w X row j := by rw [wrap_small b1 b2, wrap_small b3 b4]
   refine Ev.step (fun k => z134.l5.eq_2 ..) ?_
   rw [e1, e2, rdfl, rdfl, hv, hv2, e3]
   clear e1 e2 e3
   refine ev_pos (by omega) (ev_pos (by omega) (ev_pos (by omega) (ev_pos (by omega) (ev_pos (by omega) (Ev.bind (ev_const hmv) ?_)))))
   rw [wrap_succ (by omega), Int.toNat_natCast]; exact this
 exact main w 0 X (by omega) (Upd.start w X i _)
omit hp hw hm in
def cl (p w row c : Nat) (X : List Int) (i j : Nat) : Int := if i = row ∨ fl w X i c = 0 then fl w X i j else (fl w X i j - fl w X i c * fl w X row j) % (p : Int)
omit hp hw hm in
theorem cl_rng {row c : Nat} (hp0 : 0 < p) {X : List Int} (hR : ∀ i j, i < m → j < w → 0 ≤ fl w X i j ∧ fl w X i j < (p : Int)) {i j : Nat} (hi : i < m) (hj : j < w) : 0 ≤ cl p w row c X i j ∧ cl p w row c X i j < (p : Int) := by
 unfold cl
 split
 ·exact hR i j hi hj
 ·exact ⟨Int.emod_nonneg _ (by omega), Int.emod_lt_of_pos _ (by omega)⟩
theorem clearAllS_ev {row c : Nat} (hr : row < m) (hc : c < w) (hq : q.length ≤ 1048576) {X : List Int} (hX : X.length = m * w) (hR : ∀ i j, i < m → j < w → 0 ≤ fl w X i j ∧ fl w X i j < (p : Int)) : ∃ Y : List Int, Y.length = X.length ∧ (∀ i j, i < m → j < w → fl w Y i j = cl p w row c X i j) ∧
  Le (fun k => z134.l0 k (p : Int) (w : Int) (q ++ [(c : Int)]) det ((row + 1 : Nat) : Int) ((c + 1 : Nat) : Int) (p : Int) (m : Int) (w : Int) X0 (p : Int) (m : Int) (w : Int) Y) (fun k => z134.l4 k (p : Int) (w : Int) q det (row : Int) (c : Int) 0 (p : Int) (m : Int) (w : Int) X0 (p : Int) (m : Int) (w : Int) X) := by
 have hp2 := isP_two hp
 have main : ∀ (d i : Nat) (Y : List Int), i + d = m → Y.length = X.length → (∀ i' j, i' < m → j < w → fl w Y i' j = if i' < i then cl p w row c X i' j else fl w X i' j) → ∃ Y' : List Int, Y'.length = X.length ∧ (∀ i j, i < m → j < w → fl w Y' i j = cl p w row c X i j) ∧
  Le (fun k => z134.l0 k (p : Int) (w : Int) (q ++ [(c : Int)]) det ((row + 1 : Nat) : Int) ((c + 1 : Nat) : Int) (p : Int) (m : Int) (w : Int) X0 (p : Int) (m : Int) (w : Int) Y') (fun k => z134.l4 k (p : Int) (w : Int) q det (row : Int) (c : Int) (i : Int) (p : Int) (m : Int) (w : Int) X0 (p : Int) (m : Int) (w : Int) Y) := by
  intro d
  induction d with
  | zero =>
   intro i Y hi hl hY
   have : i = m := by omega
   subst this
   refine ⟨Y, hl, fun i' j hi' hj => by rw [hY i' j hi' hj, if_pos hi'], fun r hr' => ?_⟩
   refine Ev.step (fun k => z134.l4.eq_2 ..) ?_
   refine ev_neg (by omega) (ev_pos (by omega) ?_)
   rw [wrap_succ (by omega), wrap_succ (by omega)]; exact hr'
  | succ d ih =>
   intro i Y hi hl hY
   have him : i < m := by omega
   have h1 := idx_lt him hc
   have e := ix (i := i) (w := w) (j := c) (by omega) hw (by omega)
   have hic : fl w Y i c = fl w X i c := by rw [hY i c him hc, if_neg (by omega)]
   by_cases h : i = row ∨ fl w X i c = 0
   ·obtain ⟨Y', a1, a2, a3⟩ := ih (i + 1) Y (by omega) hl (fun i' j hi' hj => by
     rw [hY i' j hi' hj]
     by_cases hlt : i' < i
     ·rw [if_pos hlt, if_pos (by omega)]
     ·rw [if_neg hlt]
      by_cases he : i' = i
      ·rw [if_pos (by omega), he]; unfold cl; rw [if_pos h]
      ·rw [if_neg (by omega)])
    refine ⟨Y', a1, a2, fun r hr' => ?_⟩
    have hn := a3 r hr'
    have hj8 : Ev (fun k => z134.j8 k (p : Int) (w : Int) q det (row : Int) (c : Int) (i : Int) (fl w Y i c) true (p : Int) (m : Int) (w : Int) X0 (p : Int) (m : Int) (w : Int) Y) r := by
     refine Ev.step (fun k => z134.j8.eq_2 ..) ?_
     refine ev_pos rfl ?_
     rw [wrap_succ (by omega)]; exact hn
    refine Ev.step (fun k => z134.l4.eq_2 ..) ?_
    rw [e, rdfl]
    clear e
    refine ev_pos (by omega) (ev_pos (by omega) (ev_pos (by omega) ?_))
    by_cases hir : i = row
    ·exact ev_pos (by omega) hj8
    ·have hz : (fl w Y i c == 0) = true := by rw [hic, h.resolve_left hir]; rfl
     rw [hz]
     exact ev_neg (by omega) hj8
   ·have hne : i ≠ row := fun he => h (.inl he)
    have hnz : fl w X i c ≠ 0 := fun he => h (.inr he)
    have hYR : ∀ i j, i < m → j < w → 0 ≤ fl w Y i j ∧ fl w Y i j < (p : Int) := fun i' j hi' hj => by
     rw [hY i' j hi' hj]
     split
     ·exact cl_rng (by omega) hR hi' hj
     ·exact hR i' j hi' hj
    obtain ⟨Z, hZ, hgo⟩ := clearS_ev hp hw hm X0 q det (c := c) hr him hne (f := fl w Y i c) (hYR i c him hc) (by omega) hYR
    have hrow : ∀ j, j < w → fl w Y row j = fl w X row j := fun j hj => by
     rw [hY row j hr hj]
     split
     ·unfold cl; rw [if_pos (.inl rfl)]
     ·rfl
    obtain ⟨Y', a1, a2, a3⟩ := ih (i + 1) Z (by omega) (by rw [hZ.len, hl]) (fun i' j hi' hj => by
     rw [hZ.at_ i' j hj]
     by_cases he : i' = i
     ·rw [if_pos ⟨he, hj⟩, if_pos (by omega), he]
      unfold cl
      rw [if_neg h, hic, hrow j hj, hY i j him hj, if_neg (by omega)]
     ·rw [if_neg (fun hh => he hh.1), hY i' j hi' hj]
      by_cases hlt : i' < i
      ·rw [if_pos hlt, if_pos (by omega)]
      ·rw [if_neg hlt, if_neg (by omega)])
    refine ⟨Y', a1, a2, fun r hr' => ?_⟩
    have hn := hgo r (a3 r hr')
    have hj8 : Ev (fun k => z134.j8 k (p : Int) (w : Int) q det (row : Int) (c : Int) (i : Int) (fl w Y i c) false (p : Int) (m : Int) (w : Int) X0 (p : Int) (m : Int) (w : Int) Y) r := by
     refine Ev.step (fun k => z134.j8.eq_2 ..) ?_
     exact ev_neg (by decide) hn
    refine Ev.step (fun k => z134.l4.eq_2 ..) ?_
    rw [e, rdfl]
    clear e
    have hz : (fl w Y i c == 0) = false := by rw [hic]; simpa using hnz
    rw [hz]
    exact ev_pos (by omega) (ev_pos (by omega) (ev_pos (by omega) (ev_neg (by omega) hj8)))
 exact main m 0 X (by omega) rfl (fun i' j hi' hj => by rw [if_neg (by omega)])
end
theorem fl_rng {p w m : Nat} {X : List Int} (hX : X.length = m * w) : Rng p X ↔ ∀ i j, i < m → j < w → 0 ≤ fl w X i j ∧ fl w X i j < (p : Int) := by
 constructor
 ·intro h i j hi hj
  have := idx_lt hi hj
  exact rng_get h (by omega)
 ·intro h y hy
  obtain ⟨k, hk, rfl⟩ := List.getElem_of_mem hy
  have hw : 0 < w := by
   rcases Nat.eq_zero_or_pos w with h0 | h0
   ·rw [h0, Nat.mul_zero] at hX; omega
   ·exact h0
  have h1 : k / w < m := (Nat.div_lt_iff_lt_mul hw).2 (by omega)
  have h2 := h (k / w) (k % w) h1 (Nat.mod_lt _ hw)
  unfold fl at h2
  rw [Nat.mul_comm, Nat.div_add_mod] at h2
  rwa [List.getD_eq_getElem?_getD, List.getElem?_eq_getElem hk, Option.getD_some] at h2
theorem leadS_ev {p w m : Nat} (hp : isP p = true) (hw : w ≤ 1024) (hm : m ≤ 1024) (X0 : List Int) {L : List (List Int)} (hL : L.length = m) {c : Nat} (hc : c < w) {X : List Int} {q : List Int} (h : FlInv (p : Int) w m L c X q) (hq : q.length ≤ c) (hqm : q.length < m) (hne : fl w X q.length c ≠ 0) (det : Int) :
  ∃ Y det', FlInv (p : Int) w m L (c + 1) Y (q ++ [(c : Int)]) ∧
  Le (fun k => z134.l0 k (p : Int) (w : Int) (q ++ [(c : Int)]) det' ((q.length + 1 : Nat) : Int) ((c + 1 : Nat) : Int) (p : Int) (m : Int) (w : Int) X0 (p : Int) (m : Int) (w : Int) Y) (fun k => z134.j5 k (p : Int) (w : Int) q det (q.length : Int) (c : Int) (p : Int) (m : Int) (w : Int) X0 (p : Int) (m : Int) (w : Int) X) := by
 have h2 := isP_two hp
 have hR : ∀ i j, i < m → j < w → 0 ≤ fl w X i j ∧ fl w X i j < (p : Int) := fun i j hi hj => ⟨h.el.ge i j hi hj, h.el.lt i j hi hj⟩
 have hRx := (fl_rng (p := p) h.len).2 hR
 obtain ⟨a, ha⟩ := Int.eq_ofNat_of_zero_le (hR q.length c hqm hc).1
 have hap : a < p := by have := (hR q.length c hqm hc).2; omega
 have hinv := inverseSpec_ev hp hap
 have hcong := inv_dvd hp hap (by omega)
 have hbp : a ^ (p - 2) % p < p := Nat.mod_lt _ (by omega)
 generalize hbe : a ^ (p - 2) % p = b at hinv hcong hbp
 obtain ⟨Y, hY, hgo1⟩ := scaleS_ev hp hw hm X0 q (Int.tmod (wrap64 (det * (a : Int))) (p : Int)) (c := c) hqm hbp h.len hRx
 have hYR : ∀ i j, i < m → j < w → 0 ≤ fl w Y i j ∧ fl w Y i j < (p : Int) := fun i j hi hj => by
  rw [hY.at_ i j hj]
  split
  ·exact ⟨Int.emod_nonneg _ (by omega), Int.emod_lt_of_pos _ (by omega)⟩
  ·exact hR i j hi hj
 obtain ⟨Z, hZl, hZ, hgo2⟩ := clearAllS_ev hp hw hm X0 q (Int.tmod (wrap64 (det * (a : Int))) (p : Int)) hqm hc (by omega) (by rw [hY.len]; exact h.len) hYR
 have hqs : ∀ i, i < q.length → ((q ++ [(c : Int)]).getD i 0) = q.getD i 0 := fun i hi => by
  rw [List.getD_eq_getElem?_getD, List.getElem?_append_left hi, List.getD_eq_getElem?_getD]
 have hYrow : ∀ j, j < w → fl w Y q.length j = fl w X q.length j * (b : Int) % (p : Int) := fun j hj => by rw [hY.at_ _ j hj, if_pos ⟨rfl, hj⟩]
 have hYoth : ∀ i j, j < w → i ≠ q.length → fl w Y i j = fl w X i j := fun i j hj hi => by rw [hY.at_ _ j hj, if_neg (fun hh => hi hh.1)]
 have hZrow : ∀ j, j < w → fl w Z q.length j = fl w Y q.length j := fun j hj => by rw [hZ _ j hqm hj]; unfold cl; rw [if_pos (.inl rfl)]
 refine ⟨Z, Int.tmod (wrap64 (det * (a : Int))) (p : Int), ⟨by rw [hZl, hY.len, h.len], fun x hx => ?_, ?_⟩, fun r hr => ?_⟩
 ·rcases List.mem_append.1 hx with h1 | h1
  ·exact h.pos x h1
  ·rw [List.mem_singleton.1 h1]; omega
 ·rw [List.length_append]
  refine h.el.step hc hqm (b := (b : Int)) (by rw [ha]; exact hcong) (fun j hj => ?_) (fun i j hi hni hj => ?_) (fun i hi => by rw [hqs i hi]) (by simp) (fun i j hi hj => ?_) (fun i j hi hj => ?_)
  ·rw [hZrow j hj, hYrow j hj, Int.mul_comm]
   have := Int.dvd_neg.2 (Int.dvd_self_sub_emod (x := (b : Int) * fl w X q.length j) (m := (p : Int)))
   rwa [Int.neg_sub] at this
  ·rw [hZ i j hi hj, hZrow j hj]
   unfold cl
   by_cases hz : fl w X i c = 0
   ·rw [if_pos (.inr (by rw [hYoth i c hc hni]; exact hz)), hYoth i j hj hni, hz, Int.zero_mul]; simp
   ·rw [if_neg (fun hh => by rcases hh with hh | hh; exact hni hh; rw [hYoth i c hc hni] at hh; exact hz hh), hYoth i j hj hni, hYoth i c hc hni]
    have := Int.dvd_neg.2 (Int.dvd_self_sub_emod (x := fl w X i j - fl w X i c * fl w Y q.length j) (m := (p : Int)))
    rwa [Int.neg_sub] at this
  ·rw [hZ i j hi hj]; exact (cl_rng (by omega) hYR hi hj).1
  ·rw [hZ i j hi hj]; exact (cl_rng (by omega) hYR hi hj).2
 ·have hn := hgo1 r (hgo2 r hr)
  have hlt := idx_lt hqm hc
  have hl := h.len
  have e := ix (i := q.length) (w := w) (j := c) (by omega) hw (by omega)
  refine Ev.step (fun k => z134.j5.eq_2 ..) ?_
  rw [e, rdfl, ha]
  clear e
  exact ev_pos (by omega) (ev_pos (by omega) (ev_neg (by omega) (Ev.bind hinv hn)))
theorem redS_ev {p w m : Nat} (hp : isP p = true) (hw : w ≤ 1024) (hm : m ≤ 1024) {X : List Int} (hX : X.length = m * w) (hR : Rng p X) {L : List (List Int)} (hL : L.length = m) (hLX : ∀ i j, i < m → j < w → rw' L i j = fl w X i j) :
  ∃ Y q det, Ev (fun k => z134.f k (p : Int) (m : Int) (w : Int) X) ((p : Int), (m : Int), (w : Int), Y, q, det) ∧ FlInv (p : Int) w m L w Y q := by
 have h2 := isP_two hp
 have hmw : m * w ≤ 1024 * 1024 := Nat.mul_le_mul hm hw
 have stop : ∀ (c : Nat) (Y q : List Int) (det : Int), Ev (fun k => z134.j1 k (p : Int) (w : Int) q det (q.length : Int) (c : Int) false (p : Int) (m : Int) (w : Int) X (p : Int) (m : Int) (w : Int) Y) ((p : Int), (m : Int), (w : Int), Y, q, det) := fun c Y q det => by
  refine Ev.step (fun k => z134.j1.eq_2 ..) ?_
  exact ev_neg (by decide) (Ev.now _)
 have main : ∀ (d c : Nat) (Y : List Int) (q : List Int) (det : Int), c + d = w → q.length ≤ c → FlInv (p : Int) w m L c Y q →
   ∃ Y' q' det', Ev (fun k => z134.l0 k (p : Int) (w : Int) q det (q.length : Int) (c : Int) (p : Int) (m : Int) (w : Int) X (p : Int) (m : Int) (w : Int) Y) ((p : Int), (m : Int), (w : Int), Y', q', det') ∧ FlInv (p : Int) w m L w Y' q' := by
  intro d
  induction d with
  | zero =>
   intro c Y q det hc hq h
   have : c = w := by omega
   subst this
   refine ⟨Y, q, det, ?_, h⟩
   refine Ev.step (fun k => z134.l0.eq_2 ..) ?_
   exact ev_neg (by omega) (stop _ _ _ _)
  | succ d ih =>
   intro c Y q det hc hq h
   have hrm := h.el.g.rm
   rcases Nat.lt_or_ge q.length m with hlt | hge
   ·obtain ⟨t, ht1, ht2, htd, hgo⟩ := findS_ev hw hm X q det (row := q.length) (c := c) (by omega) (by omega) h.len
    have hstart : ∀ r, Ev (fun k => z134.j3 k (p : Int) (w : Int) q det (q.length : Int) (c : Int) (t : Int) (p : Int) (m : Int) (w : Int) X (p : Int) (m : Int) (w : Int) Y) r →
      Ev (fun k => z134.l0 k (p : Int) (w : Int) q det (q.length : Int) (c : Int) (p : Int) (m : Int) (w : Int) X (p : Int) (m : Int) (w : Int) Y) r := fun r hr => by
     have hdec : decide ((q.length : Int) < (m : Int)) = true := decide_eq_true (by omega)
     refine Ev.step (fun k => z134.l0.eq_2 ..) ?_
     refine ev_pos (by omega) ?_
     rw [hdec]
     refine Ev.step (fun k => z134.j1.eq_2 ..) ?_
     exact ev_pos rfl (hgo r hr)
    rcases htd with ⟨e, hz⟩ | ⟨htm, hne⟩
    ·obtain ⟨Y', q', det', h3, h4⟩ := ih (c + 1) Y q det (by omega) (by omega) ⟨h.len, h.pos, h.el.none hz⟩
     refine ⟨Y', q', det', hstart _ ?_, h4⟩
     refine Ev.step (fun k => z134.j3.eq_2 ..) ?_
     refine ev_pos (by omega) ?_
     rw [wrap_succ (by omega)]; exact h3
    ·rcases Nat.eq_or_lt_of_le ht1 with e | hlt2
     ·rw [← e] at hne
      obtain ⟨Y1, det1, hst, hgo1⟩ := leadS_ev hp hw hm X hL (by omega) h hq hlt hne det
      obtain ⟨Y', q', det', h3, h4⟩ := ih (c + 1) Y1 (q ++ [(c : Int)]) det1 (by omega) (by simp; omega) hst
      refine ⟨Y', q', det', hstart _ ?_, h4⟩
      refine Ev.step (fun k => z134.j3.eq_2 ..) ?_
      refine ev_neg (by omega) (ev_pos (by omega) (hgo1 _ ?_))
      rw [List.length_append] at h3
      exact h3
     ·obtain ⟨Y1, hsw, hgo1⟩ := swapS_ev hw hm X q (wrap64 ((p : Int) - det)) (c := c) hlt htm (by omega) h.len
      have hs : FlInv (p : Int) w m L c Y1 q := by
       refine ⟨by rw [hsw.len, h.len], h.pos, ?_⟩
       refine h.el.swap' (a := t) (by omega) (by omega) htm (fun j hj => ?_) (fun j hj => ?_) (fun i j hi h1 h3 hj => ?_)
       ·rw [hsw.at_ _ j hj, if_pos hj, if_pos rfl]
       ·rw [hsw.at_ _ j hj, if_pos hj, if_neg (by omega), if_pos rfl]
       ·rw [hsw.at_ _ j hj, if_pos hj, if_neg h1, if_neg h3]
      have hne' : fl w Y1 q.length c ≠ 0 := by rw [hsw.at_ _ c (by omega), if_pos (by omega), if_pos rfl]; exact hne
      obtain ⟨Y2, det1, hst, hgo2⟩ := leadS_ev hp hw hm X hL (by omega) hs hq hlt hne' (wrap64 ((p : Int) - det))
      obtain ⟨Y', q', det', h3, h4⟩ := ih (c + 1) Y2 (q ++ [(c : Int)]) det1 (by omega) (by simp; omega) hst
      refine ⟨Y', q', det', hstart _ ?_, h4⟩
      rw [List.length_append] at h3
      have h5 := hgo1 _ (hgo2 _ h3)
      have g1 : ¬ ((t : Int) = (m : Int)) := by omega
      have g2 : ¬ ((t : Int) = (q.length : Int)) := by omega
      refine Ev.step (fun k => z134.j3.eq_2 ..) ?_
      exact ev_neg g1 (ev_neg g2 h5)
   ·refine ⟨Y, q, det, ?_, h.len, h.pos, h.el.full (by omega) (by omega)⟩
    have hdec : decide ((q.length : Int) < (m : Int)) = false := decide_eq_false (by omega)
    refine Ev.step (fun k => z134.l0.eq_2 ..) ?_
    refine ev_pos (by omega) ?_
    rw [hdec]
    exact stop _ _ _ _
 have hfl := (fl_rng (p := p) hX).1 hR
 obtain ⟨Y', q', det', h3, h4⟩ := main w 0 X [] 1 (by omega) (by simp) ⟨hX, fun x hx => by simp at hx, (El.start (R := fl w X) (fun i j hi hj => (hfl i j hi hj).1) (fun i j hi hj => (hfl i j hi hj).2) _).congr0 fun i j hi hj => hLX i j hi hj⟩
 refine ⟨Y', q', det', ?_, h4⟩
 unfold z134.f
 have hown : z111.f X = some X := by
  unfold z111.f
  show (if (([] : List Int)).length + X.length < 17592186044416 then some ([] ++ X) else none) = some X
  rw [if_pos (by simp; omega)]; rfl
 exact Ev.bind (ev_const hown) h3
end Go.Proofs.Ytabfflgoaalapaa.B
set_option linter.unusedVariables false
set_option linter.unusedSimpArgs false
namespace Go.Proofs.Ytabfflgoaalapaa.B
open Go.RowKit Go.Proofs.YtabfflgoaalapaaW.PrintWords
open LinT
def okP (p : Int) : Bool := (decide (2 ≤ p) && decide (p ≤ 251)) && isP p.toNat
theorem isP_iff {n : Nat} (h0 : 2 ≤ n) (h1 : n ≤ 251) : isP n = true ↔ ∀ d, 2 ≤ d → d < 16 → n < d * d ∨ n % d ≠ 0 := by
 unfold isP
 rw [Bool.and_eq_true, Bool.and_eq_true, decide_eq_true_iff, decide_eq_true_iff, List.all_eq_true]
 constructor
 ·rintro ⟨_, h⟩ d hd hd2
  have := h d (List.mem_range.2 hd2)
  rw [Bool.or_eq_true, Bool.or_eq_true, decide_eq_true_iff, decide_eq_true_iff, decide_eq_true_iff] at this
  rcases this with (h3 | h3) | h3
  ·omega
  ·exact .inl h3
  ·exact .inr h3
 ·intro h
  refine ⟨⟨h0, h1⟩, fun d hd => ?_⟩
  rw [Bool.or_eq_true, Bool.or_eq_true, decide_eq_true_iff, decide_eq_true_iff, decide_eq_true_iff]
  by_cases h2 : d < 2
  ·exact .inl (.inl h2)
  ·rcases h d (by omega) (List.mem_range.1 hd) with h3 | h3
   ·exact .inl (.inr h3)
   ·exact .inr h3
theorem impl_ValidPrime_loop {n : Nat} (h0 : 2 ≤ n) (h1 : n ≤ 251) : ∀ (e d : Nat), d + e = 16 → 2 ≤ d → ∃ b, Ev (fun k => z87.l0 k (n : Int) (d : Int)) b ∧ (b = true ↔ ∀ d', d ≤ d' → d' < 16 → n < d' * d' ∨ n % d' ≠ 0) := by
 intro e
 induction e with
 | zero =>
  intro d hd h2
  have : d = 16 := by omega
  subst this
  refine ⟨true, ?_, by simp; omega⟩
  refine Ev.step (fun k => z87.l0.eq_2 ..) ?_
  rw [← Int.natCast_mul, wrap_small (by omega) (by omega)]
  exact ev_neg (by omega) (Ev.now _)
 | succ e ih =>
  intro d hd h2
  have hdd : d * d ≤ 16 * 16 := Nat.mul_le_mul (by omega) (by omega)
  have hw : wrap64 ((d : Int) * (d : Int)) = ((d * d : Nat) : Int) := by rw [← Int.natCast_mul, wrap_small (by omega) (by omega)]
  have hm : Int.tmod (n : Int) (d : Int) = ((n % d : Nat) : Int) := by rw [Int.tmod_eq_emod_of_nonneg (by omega)]; simp
  by_cases hl : n < d * d
  ·refine ⟨true, ?_, ?_⟩
   ·refine Ev.step (fun k => z87.l0.eq_2 ..) ?_
    rw [hw]
    exact ev_neg (by omega) (Ev.now _)
   ·simp only [true_iff]
    intro d' h3 _
    have := Nat.mul_le_mul h3 h3
    left; omega
  ·by_cases hz : n % d = 0
   ·refine ⟨false, ?_, ?_⟩
    ·refine Ev.step (fun k => z87.l0.eq_2 ..) ?_
     rw [hw, hm]
     exact ev_pos (by omega) (ev_neg (by omega) (ev_pos (by omega) (Ev.now _)))
    ·simp only [Bool.false_eq_true, false_iff]
     intro h
     rcases h d (Nat.le_refl _) (by omega) with h3 | h3
     ·exact hl h3
     ·exact h3 hz
   ·obtain ⟨b, hb, hi⟩ := ih (d + 1) (by omega) (by omega)
    refine ⟨b, ?_, hi.trans ⟨fun h d' h3 h4 => ?_, fun h d' h3 h4 => h d' (by omega) h4⟩⟩
    ·refine Ev.step (fun k => z87.l0.eq_2 ..) ?_
     rw [hw, hm]
     refine ev_pos (by omega) (ev_neg (by omega) (ev_neg (by omega) ?_))
     rw [wrap_succ (by omega)]; exact hb
    ·rcases Nat.lt_or_ge d d' with h5 | h5
     ·exact h d' (by omega) h4
     ·have : d' = d := by omega
      subst this; exact .inr hz
theorem spec_l02Prime_loop {n : Nat} (h0 : 2 ≤ n) (h1 : n ≤ 251) : ∀ (e d : Nat), d + e = 16 → 2 ≤ d → ∃ b, Ev (fun k => z77.l0 k (n : Int) (d : Int)) b ∧ (b = true ↔ ∀ d', d ≤ d' → d' < 16 → n < d' * d' ∨ n % d' ≠ 0) := by
 intro e
 induction e with
 | zero =>
  intro d hd h2
  have : d = 16 := by omega
  subst this
  refine ⟨true, ?_, by simp; omega⟩
  refine Ev.step (fun k => z77.l0.eq_2 ..) ?_
  rw [← Int.natCast_mul, wrap_small (by omega) (by omega)]
  exact ev_neg (by omega) (Ev.now _)
 | succ e ih =>
  intro d hd h2
  have hdd : d * d ≤ 16 * 16 := Nat.mul_le_mul (by omega) (by omega)
  have hw : wrap64 ((d : Int) * (d : Int)) = ((d * d : Nat) : Int) := by rw [← Int.natCast_mul, wrap_small (by omega) (by omega)]
  have hm : Int.tmod (n : Int) (d : Int) = ((n % d : Nat) : Int) := by rw [Int.tmod_eq_emod_of_nonneg (by omega)]; simp
  by_cases hl : n < d * d
  ·refine ⟨true, ?_, ?_⟩
   ·refine Ev.step (fun k => z77.l0.eq_2 ..) ?_
    rw [hw]
    exact ev_neg (by omega) (Ev.now _)
   ·simp only [true_iff]
    intro d' h3 _
    have := Nat.mul_le_mul h3 h3
    left; omega
  ·by_cases hz : n % d = 0
   ·refine ⟨false, ?_, ?_⟩
    ·refine Ev.step (fun k => z77.l0.eq_2 ..) ?_
     rw [hw, hm]
     exact ev_pos (by omega) (ev_neg (by omega) (ev_pos (by omega) (Ev.now _)))
    ·simp only [Bool.false_eq_true, false_iff]
     intro h
     rcases h d (Nat.le_refl _) (by omega) with h3 | h3
     ·exact hl h3
     ·exact h3 hz
   ·obtain ⟨b, hb, hi⟩ := ih (d + 1) (by omega) (by omega)
    refine ⟨b, ?_, hi.trans ⟨fun h d' h3 h4 => ?_, fun h d' h3 h4 => h d' (by omega) h4⟩⟩
    ·refine Ev.step (fun k => z77.l0.eq_2 ..) ?_
     rw [hw, hm]
     refine ev_pos (by omega) (ev_neg (by omega) (ev_neg (by omega) ?_))
     rw [wrap_succ (by omega)]; exact hb
    ·rcases Nat.lt_or_ge d d' with h5 | h5
     ·exact h d' (by omega) h4
     ·have : d' = d := by omega
      subst this; exact .inr hz
theorem implPrime_ev (p : Int) : Ev (fun k => z87.f k p) (okP p) := by
 unfold z87.f okP
 refine Ev.bind (ev_const (within_val _ _ _)) ?_
 cases h : decide (2 ≤ p) && decide (p ≤ 251) with
 | false => exact ev_neg (by decide) (Ev.now _)
 | true =>
  rw [Bool.and_eq_true, decide_eq_true_iff, decide_eq_true_iff] at h
  obtain ⟨n, rfl⟩ := Int.eq_ofNat_of_zero_le (show 0 ≤ p by omega)
  obtain ⟨b, hb, hi⟩ := impl_ValidPrime_loop (n := n) (by omega) (by omega) 14 2 (by omega) (by omega)
  refine ev_pos rfl (ev_eq hb ?_)
  rw [Bool.true_and, Int.toNat_natCast, Bool.eq_iff_iff, isP_iff (by omega) (by omega), hi]
theorem specPrime2_ev (p : Int) : Ev (fun k => z77.f k p) (okP p) := by
 unfold z77.f okP
 refine Ev.bind (ev_const (in_val _ _ _)) ?_
 cases h : decide (2 ≤ p) && decide (p ≤ 251) with
 | false => exact ev_neg (by decide) (Ev.now _)
 | true =>
  rw [Bool.and_eq_true, decide_eq_true_iff, decide_eq_true_iff] at h
  obtain ⟨n, rfl⟩ := Int.eq_ofNat_of_zero_le (show 0 ≤ p by omega)
  obtain ⟨b, hb, hi⟩ := spec_l02Prime_loop (n := n) (by omega) (by omega) 14 2 (by omega) (by omega)
  refine ev_pos rfl (ev_eq hb ?_)
  rw [Bool.true_and, Int.toNat_natCast, Bool.eq_iff_iff, isP_iff (by omega) (by omega), hi]
theorem okP_iff {p : Int} : okP p = true ↔ ∃ n : Nat, p = (n : Int) ∧ isP n = true := by
 unfold okP
 rw [Bool.and_eq_true, Bool.and_eq_true, decide_eq_true_iff, decide_eq_true_iff]
 constructor
 ·rintro ⟨⟨h0, h1⟩, h⟩
  exact ⟨p.toNat, by omega, h⟩
 ·rintro ⟨n, rfl, h⟩
  have := isP_two h
  exact ⟨⟨by omega, by omega⟩, by rw [Int.toNat_natCast]; exact h⟩
end Go.Proofs.Ytabfflgoaalapaa.B
set_option linter.unusedVariables false
set_option linter.unusedSimpArgs false
namespace Go.Proofs.Ytabfflgoaalapaa.B
open Go.RowKit Go.Proofs.YtabfflgoaalapaaW.PrintWords
open LinT
def vecC (l : List Int) (n p : Int) : Bool := decide ((l.length : Int) = n) && l.all fun y => decide (0 ≤ y) && decide (y ≤ p - 1)
theorem vecC_iff {l : List Int} {n p : Nat} : vecC l (n : Int) (p : Int) = true ↔ l.length = n ∧ Rng p l := by
 unfold vecC Rng
 rw [Bool.and_eq_true, decide_eq_true_iff, List.all_eq_true]
 constructor
 ·rintro ⟨h1, h2⟩
  refine ⟨by omega, fun y hy => ?_⟩
  have := h2 y hy
  rw [Bool.and_eq_true, decide_eq_true_iff, decide_eq_true_iff] at this
  omega
 ·rintro ⟨h1, h2⟩
  refine ⟨by omega, fun y hy => ?_⟩
  have := h2 y hy
  rw [Bool.and_eq_true, decide_eq_true_iff, decide_eq_true_iff]
  omega
theorem notElement_ev {p : Nat} (hp : p ≤ 251) (a : Int) : Ev (fun k => z142.f a (p : Int)) (!(decide (0 ≤ a) && decide (a ≤ (p : Int) - 1))) := by
 unfold z142.f z143.f
 rw [wrap_small (by omega) (by omega)]
 exact Ev.bind (a := decide (0 ≤ a) && decide (a ≤ (p : Int) - 1)) (Ev.bind (ev_const (within_val _ _ _)) (Ev.now _)) (Ev.now _)
theorem anyElement_ev {p : Nat} (hq : p ≤ 251) (l : List Int) (hl : l.length ≤ 1048576) : Ev (fun k => z179.f k l (p : Int)) (l.any fun a => !(decide (0 ≤ a) && decide (a ≤ (p : Int) - 1))) := by
 obtain ⟨t, ht, hd⟩ := ev_index_list (l) 0 (fun i k => z180.l0 k (l) ((l).length : Int) (i : Int) (p : Int)) (fun a => !(decide (0 ≤ a) && decide (a ≤ (p : Int) - 1))) (fun j hj hp r hr => by
   refine Ev.step (fun k => z180.l0.eq_2 ..) ?_
   refine ev_pos (by omega) (ev_pos (by omega) (ev_pos (by omega) ?_))
   rw [rd_nat, wrap_succ (by omega)]
   exact Ev.bind (notElement_ev hq _) (ev_neg (by rw [hp]; decide) hr)) (fun j hj hp => by
   refine Ev.step (fun k => z180.l0.eq_2 ..) ?_
   refine ev_pos (by omega) (ev_pos (by omega) (ev_pos (by omega) ?_))
   rw [rd_nat]
   exact Ev.bind (notElement_ev hq _) (ev_pos hp (Ev.now _))) (by
   refine Ev.step (fun k => z180.l0.eq_2 ..) ?_
   exact ev_neg (by omega) (Ev.now _))
 unfold z179.f z180.f
 refine Ev.bind ht (ev_eq (Ev.now _) hd)
theorem areElements_ev {p : Nat} (hp : p ≤ 251) (l : List Int) (hl : l.length ≤ 1048576) : Ev (fun k => z107.f k l (p : Int)) (l.all fun y => decide (0 ≤ y) && decide (y ≤ (p : Int) - 1)) := by
 unfold z107.f
 refine Ev.bind (anyElement_ev hp l hl) (ev_eq (Ev.now _) ?_)
 rw [List.any_eq_not_all_not]; simp
theorem isVector_ev {p : Nat} (hp : p ≤ 251) (l : List Int) (n : Int) (hl : l.length ≤ 1048576) : Ev (fun k => z59.f k l n (p : Int)) (vecC l n (p : Int)) := by
 unfold z59.f vecC
 refine Ev.bind (ev_const (r := (l.length : Int)) rfl) ?_
 by_cases h : (l.length : Int) = n
 ·refine ev_pos h (Ev.bind (areElements_ev hp l hl) (ev_eq (Ev.now _) ?_))
  rw [decide_eq_true h, Bool.true_and]
 ·refine ev_eq (ev_neg h (Ev.now _)) ?_
  rw [decide_eq_false h, Bool.false_and]
end Go.Proofs.Ytabfflgoaalapaa.B
set_option linter.unusedVariables false
set_option linter.unusedSimpArgs false
namespace Go.Proofs.Ytabfflgoaalapaa.B
open Go.RowKit Go.Proofs.YtabfflgoaalapaaW.PrintWords
theorem slicesEqual_ev (l m : List Int) (hl : l.length < 9223372036854775807) : Ev (fun k => z140.f k l m) (l == m) := by
 unfold z140.f
 by_cases h : l.length = m.length
 ·refine ev_pos (by omega) ?_
  rw [← list_eq_range l m 0 h]
  refine ev_all (fun (i : Nat) k => z140.l0 k l m (l.length : Int) (i : Int)) _ l.length (fun j hj hp r hr => ?_) (fun j hj hp => ?_) ?_
  ·refine Ev.step (fun k => z140.l0.eq_2 ..) ?_
   refine ev_pos (by omega) (ev_pos (by omega) (ev_pos (by omega) (ev_pos (by omega) (ev_pos ?_ ?_))))
   ·rw [rd_nat, rd_nat]; exact eq_of_beq hp
   ·rw [wrap_succ (by omega)]; exact hr
  ·refine Ev.step (fun k => z140.l0.eq_2 ..) ?_
   refine ev_pos (by omega) (ev_pos (by omega) (ev_pos (by omega) (ev_pos (by omega) (ev_neg ?_ (Ev.now _)))))
   rw [rd_nat, rd_nat]; exact ne_of_beq_false hp
  ·refine Ev.step (fun k => z140.l0.eq_2 ..) ?_
   exact ev_neg (by omega) (Ev.now _)
 ·rw [len_ne_beq h]
  exact ev_neg (by omega) (Ev.now _)
theorem same_ev (l m : List Int) (hl : l.length < 9223372036854775807) : Ev (fun k => z138.f k l m) (l == m) := by
 unfold z138.f
 by_cases h : l.length = m.length
 ·refine ev_pos (by omega) ?_
  rw [← list_eq_range l m 0 h]
  refine ev_all (fun (i : Nat) k => z138.l0 k l m (i : Int)) _ l.length (fun j hj hp r hr => ?_) (fun j hj hp => ?_) ?_
  ·refine Ev.step (fun k => z138.l0.eq_2 ..) ?_
   refine ev_pos (by omega) (ev_pos (by omega) (ev_pos (by omega) (ev_pos ?_ ?_)))
   ·rw [rd_nat, rd_nat]; exact eq_of_beq hp
   ·rw [wrap_succ (by omega)]; exact hr
  ·refine Ev.step (fun k => z138.l0.eq_2 ..) ?_
   refine ev_pos (by omega) (ev_pos (by omega) (ev_pos (by omega) (ev_neg ?_ (Ev.now _))))
   rw [rd_nat, rd_nat]; exact ne_of_beq_false hp
  ·refine Ev.step (fun k => z138.l0.eq_2 ..) ?_
   exact ev_neg (by omega) (Ev.now _)
 ·rw [len_ne_beq h]
  exact ev_neg (by omega) (Ev.now _)
end Go.Proofs.Ytabfflgoaalapaa.B
set_option linter.unusedVariables false
set_option linter.unusedSimpArgs false
namespace Go.Proofs.Ytabfflgoaalapaa.B
open Go.RowKit Go.Proofs.YtabfflgoaalapaaW.PrintWords
theorem areSame_ev (l m : List (List Int)) (hl : l.length < 9223372036854775807) (hr : ∀ x ∈ l, x.length < 9223372036854775807) : Ev (fun k => z105.f k l m) (l == m) := by
 unfold z105.f z183.f
 refine Ev.bind (a := (l == m)) ?_ (Ev.now _)
 by_cases h : l.length = m.length
 ·refine ev_pos (by omega) ?_
  rw [← list_eq_range l m [] h]
  have hm : ∀ j, j < l.length → Ev (fun k => z140.f k (rI_ l (j : Int)) (rI_ m (j : Int))) (l.getD j [] == m.getD j []) := fun j hj => by
   rw [rdl_nat, rdl_nat]
   exact slicesEqual_ev _ _ (hr _ (getD_mem [] hj))
  refine ev_all (fun (i : Nat) k => z183.l0 k m l (l.length : Int) (i : Int)) _ l.length (fun j hj hp r hr => ?_) (fun j hj hp => ?_) ?_
  ·refine Ev.step (fun k => z183.l0.eq_2 ..) ?_
   refine ev_pos (by omega) (ev_pos (by omega) (ev_pos (by omega) (ev_pos (by omega) (Ev.bind (hm j hj) (ev_pos hp ?_)))))
   rw [wrap_succ (by omega)]; exact hr
  ·refine Ev.step (fun k => z183.l0.eq_2 ..) ?_
   exact ev_pos (by omega) (ev_pos (by omega) (ev_pos (by omega) (ev_pos (by omega) (Ev.bind (hm j hj) (ev_neg (by rw [hp]; decide) (Ev.now _))))))
  ·refine Ev.step (fun k => z183.l0.eq_2 ..) ?_
   exact ev_neg (by omega) (Ev.now _)
 ·rw [len_ne_beq h]
  exact ev_neg (by omega) (Ev.now _)
end Go.Proofs.Ytabfflgoaalapaa.B
set_option linter.unusedVariables false
set_option linter.unusedSimpArgs false
namespace Go.Proofs.Ytabfflgoaalapaa.B
open Go.RowKit Go.Proofs.YtabfflgoaalapaaW.PrintWords
theorem flatten_take1 (l : List (List Int)) (k : Nat) (hk : k < l.length) : (l.take (k + 1)).flatten = (l.take k).flatten ++ l.getD k [] := by
 have ht : l.take (k + 1) = l.take k ++ [l.getD k []] := by
  rw [List.take_succ_eq_append_getElem hk, List.getD_eq_getElem?_getD, List.getElem?_eq_getElem hk]; rfl
 rw [ht, List.flatten_append]; simp
end Go.Proofs.Ytabfflgoaalapaa.B
set_option linter.unusedVariables false
set_option linter.unusedSimpArgs false
namespace Go.Proofs.Ytabfflgoaalapaa.B
open Go.RowKit Go.Proofs.YtabfflgoaalapaaW.PrintWords
open LinT
theorem rowL_len {m n : Nat} {X : List Int} (hl : X.length = m * n) {i : Nat} (hi : i < m) : ((X.drop (i * n)).take n).length = n := by
 have h2 := Nat.mul_le_mul_right n (show i + 1 ≤ m by omega)
 rw [Nat.add_mul, Nat.one_mul] at h2
 rw [List.length_take, List.length_drop]; omega
end Go.Proofs.Ytabfflgoaalapaa.B
set_option linter.unusedVariables false
set_option linter.unusedSimpArgs false
namespace Go.Proofs.Ytabfflgoaalapaa.B
open Go.RowKit Go.Proofs.YtabfflgoaalapaaW.PrintWords
open LinT
theorem clone_val (l : List Int) (hl : l.length ≤ 1048576) : slices_Clone_int64_int64.f l = some l := by
 unfold slices_Clone_int64_int64.f
 simp
 omega
theorem red_q {p : Int} {n : Nat} {L B : List (List Int)} {q : List Int} (h : Red p n L B q) {i : Nat} (hi : i < q.length) : 0 ≤ q.getD i 0 ∧ q.getD i 0 < (n : Int) := by
 have h1 := h.pos _ (getD_mem 0 hi)
 have h2 := h.rref.lt i (by rw [← h.len]; exact hi)
 exact ⟨h1, by omega⟩
end Go.Proofs.Ytabfflgoaalapaa.B
set_option linter.unusedVariables false
set_option linter.unusedSimpArgs false
namespace Go.Proofs.Ytabfflgoaalapaa.B
open Go.RowKit Go.Proofs.YtabfflgoaalapaaW.PrintWords
open LinT
noncomputable def redB (p : Int) (n : Nat) (L : List (List Int)) : List (List Int) := open Classical in if h : ∃ B q, Red p n L B q then Classical.choose h else []
theorem redB_eq {p : Int} {n : Nat} {L B : List (List Int)} {q : List Int} (hp : Pr p) (h : Red p n L B q) : redB p n L = B := by
 have hex : ∃ B q, Red p n L B q := ⟨B, q, h⟩
 unfold redB
 rw [dif_pos hex]
 obtain ⟨q', hq'⟩ := Classical.choose_spec hex
 exact (hq'.unique hp h (fun v => Iff.rfl)).1
theorem copyLists_ev (l : List (List Int)) (hl : l.length ≤ 1048576) (hr : ∀ x ∈ l, x.length ≤ 1048576) : Ev (fun k => z114.f k l) l := by
 unfold z114.f
 have e : l = (List.range l.length).map fun j => id (l.getD j []) := by
  have := map_range ([] : List Int) id l
  rwa [List.map_id] at this
 refine ev_eq ?_ e.symm
 refine ev_map (fun s i k => z114.l0 k s l (l.length : Int) (i : Int)) (fun j => id (l.getD j [])) l.length (fun j s hj hs r hr' => ?_) _ ?_
 ·have hsl : s.length = j := by rw [hs]; simp
  have := hr _ (getD_mem ([] : List Int) hj)
  refine Ev.step (fun k => z114.l0.eq_2 ..) ?_
  rw [rdl_nat]
  refine ev_pos (by omega) (ev_pos (by omega) (ev_pos (by omega) (Ev.bind (ev_const (clone_val _ this)) (ev_pos (by omega) ?_))))
  rw [wrap_succ (by omega)]; exact hr'
 ·refine Ev.step (fun k => z114.l0.eq_2 ..) ?_
  exact ev_neg (by omega) (Ev.now _)
theorem spaceOf_ev {p n : Nat} (hp : isP p = true) (hn : n ≤ 1024) {L : List (List Int)} (hm : L.length ≤ 1048576) (hL : Vs (p : Int) n L) :
  Ev (fun k => z90.f k (p : Int) (n : Int) L) ((p : Int), (n : Int), redB (p : Int) n L) ∧ ∃ q, Red (p : Int) n L (redB (p : Int) n L) q := by
 obtain ⟨R, q, det, hE, hst⟩ := elim_ev hp (n := n) (by omega) hm hL
 have hred := hst.red
 have he := redB_eq (pr_of hp) hred
 rw [he]
 refine ⟨?_, q, hred⟩
 have hRl := hst.len
 have hqm := hst.el.g.rm
 have hrow : ∀ x ∈ L, x.length ≤ 1048576 := fun x hx => by rw [(hL x hx).1]; omega
 unfold z90.f
 refine Ev.bind (copyLists_ev L hm hrow) (Ev.bind hE ?_)
 dsimp only
 refine ev_pos (by omega) (ev_pos (by omega) ?_)
 rw [Int.toNat_natCast]
 refine Ev.bind (copyLists_ev _ (by rw [List.length_take]; omega) (fun x hx => ?_)) (Ev.now _)
 rw [(hst.vs x (List.mem_of_mem_take hx)).1]; omega
theorem rowsS_ev {p n : Nat} {L : List (List Int)} (hm : L.length ≤ 1024) (hn : n ≤ 1024) (hL : ∀ x, x ∈ L → x.length = n) : Ev (fun k => z135.f k (p : Int) (n : Int) L) ((p : Int), (L.length : Int), (n : Int), L.flatten) := by
 unfold z135.f
 have main : ∀ (d i : Nat), i + d = L.length → Ev (fun k => z135.l0 k L (i : Int) (p : Int) (L.length : Int) (n : Int) (L.take i).flatten) ((p : Int), (L.length : Int), (n : Int), L.flatten) := by
  intro d
  induction d with
  | zero =>
   intro i hi
   have : i = L.length := by omega
   subst this
   rw [List.take_length]
   refine Ev.step (fun k => z135.l0.eq_2 ..) ?_
   exact ev_neg (by omega) (Ev.now _)
  | succ d ih =>
   intro i hi
   have h := ih (i + 1) (by omega)
   have hlen := hL _ (getD_mem ([] : List Int) (show i < L.length by omega))
   have hfl : (L.take i).flatten.length = i * n := by
    rw [flatten_len (w := n) _ (fun x hx => hL x (List.mem_of_mem_take hx)), List.length_take, Nat.min_eq_left (by omega)]
   have hb : i * n ≤ 1024 * 1024 := Nat.mul_le_mul (by omega) hn
   rw [flatten_take1 L i (by omega)] at h
   refine Ev.step (fun k => z135.l0.eq_2 ..) ?_
   rw [rdl_nat]
   refine ev_pos (by omega) (ev_pos (by omega) (ev_pos (by omega) ?_))
   rw [wrap_succ (by omega)]; exact h
 have := main L.length 0 (by omega)
 simpa using this
theorem basis_ev {p n : Nat} (hp : isP p = true) (hn : n ≤ 1000) {L : List (List Int)} (hm : L.length ≤ 1000) (hL : Vs (p : Int) n L) :
  Ev (fun k => z104.f k (p : Int) (n : Int) L) (redB (p : Int) n L) ∧ ∃ q, Red (p : Int) n L (redB (p : Int) n L) q := by
 have hlen : ∀ x, x ∈ L → x.length = n := fun x hx => (hL x hx).1
 have hfl := flatten_len (w := n) L hlen
 obtain ⟨Y, q, det, hE, hst⟩ := redS_ev hp (w := n) (m := L.length) (X := L.flatten) (by omega) (by omega) hfl (fun y hy => by
  obtain ⟨x, hx, hy2⟩ := List.mem_flatten.1 hy
  exact (hL x hx).2 y hy2) (L := L) rfl (fun i j hi hj => (flatten_fl _ hlen i j hi hj).symm)
 have hred := hst.red
 have he := redB_eq (pr_of hp) hred
 rw [he]
 refine ⟨?_, q, hred⟩
 have hqm := hst.el.g.rm
 have hYl := hst.len
 have hmn : L.length * n ≤ 1000 * 1000 := Nat.mul_le_mul hm hn
 unfold z104.f
 refine Ev.bind (rowsS_ev (by omega) (by omega) hlen) (Ev.bind hE ?_)
 refine ev_map (fun s i k => z104.l0 k (n : Int) q s (i : Int) (p : Int) (L.length : Int) (n : Int) Y) (fun i => (Y.drop (i * n)).take n) q.length (fun i s hi hs r hr => ?_) _ ?_
 ·have hsl : s.length = i := by rw [hs]; simp
  have hrl := rowL_len hYl (show i < L.length by omega)
  have h2 := Nat.mul_le_mul_right n (show i + 1 ≤ L.length by omega)
  have h1 : (i + 1) * n = i * n + n := by rw [Nat.add_mul, Nat.one_mul]
  have hown : z111.f ((Y.drop (i * n)).take n) = some ((Y.drop (i * n)).take n) := by
   unfold z111.f
   show (if (([] : List Int)).length + ((Y.drop (i * n)).take n).length < 17592186044416 then some ([] ++ (Y.drop (i * n)).take n) else none) = _
   rw [if_pos (by rw [hrl]; simp; omega)]; rfl
  obtain ⟨e1, e2⟩ : wrap64 ((i : Int) * (n : Int)) = ((i * n : Nat) : Int) ∧ wrap64 (wrap64 ((i : Int) + 1) * (n : Int)) = ((i * n + n : Nat) : Int) :=
   ⟨by rw [← Int.natCast_mul, wrap_small (by omega) (by omega)], by rw [wrap_succ (by omega), ← Int.natCast_mul, h1, wrap_small (by omega) (by omega)]⟩
  refine Ev.step (fun k => z104.l0.eq_2 ..) ?_
  rw [e1, e2, Int.toNat_natCast, Int.toNat_natCast]
  clear e1 e2
  have d1 : (Y.take (i * n + n)).drop (i * n) = (Y.drop (i * n)).take n := by rw [List.drop_take]; congr 1; omega
  rw [d1]
  refine ev_pos (by omega) (ev_pos (by omega) (ev_pos (by omega) (ev_pos (by omega) (Ev.bind (ev_const hown) (ev_pos (by omega) ?_)))))
  rw [wrap_succ (by omega)]; exact hr
 ·refine Ev.step (fun k => z104.l0.eq_2 ..) ?_
  exact ev_neg (by omega) (Ev.now _)
theorem notVector_ev {p : Nat} (hq : p ≤ 251) (x : List Int) (n : Int) (hx : x.length ≤ 1048576) : Ev (fun k => z127.f k x n (p : Int)) (!vecC x n (p : Int)) := by
 unfold z127.f
 exact Ev.bind (isVector_ev hq x n hx) (Ev.now _)
theorem anyVector_ev {p : Nat} (hq : p ≤ 251) (L : List (List Int)) (n : Int) (hl : L.length ≤ 1048576) (hx : ∀ x ∈ L, x.length ≤ 1048576) : Ev (fun k => z178.f k L n (p : Int)) (L.any fun x => !vecC x n (p : Int)) := by
 obtain ⟨t, ht, hd⟩ := ev_index_list (L) [] (fun i k => z181.l0 k (L) ((L).length : Int) (i : Int) n (p : Int)) (fun x => !vecC x n (p : Int)) (fun j hj hp r hr => by
   refine Ev.step (fun k => z181.l0.eq_2 ..) ?_
   refine ev_pos (by omega) (ev_pos (by omega) (ev_pos (by omega) ?_))
   rw [rdl_nat, wrap_succ (by omega)]
   exact Ev.bind (notVector_ev hq _ n (hx _ (getD_mem ([] : List Int) hj))) (ev_neg (by rw [hp]; decide) hr)) (fun j hj hp => by
   refine Ev.step (fun k => z181.l0.eq_2 ..) ?_
   refine ev_pos (by omega) (ev_pos (by omega) (ev_pos (by omega) ?_))
   rw [rdl_nat]
   exact Ev.bind (notVector_ev hq _ n (hx _ (getD_mem ([] : List Int) hj))) (ev_pos hp (Ev.now _))) (by
   refine Ev.step (fun k => z181.l0.eq_2 ..) ?_
   exact ev_neg (by omega) (Ev.now _))
 unfold z178.f z181.f
 refine Ev.bind ht (ev_eq (Ev.now _) hd)
theorem areVectors_ev {p : Nat} (hq : p ≤ 251) (L : List (List Int)) (n : Int) (hl : L.length ≤ 1048576) (hx : ∀ x ∈ L, x.length ≤ 1048576) : Ev (fun k => z89.f k L n (p : Int)) (L.all fun x => vecC x n (p : Int)) := by
 unfold z89.f
 refine Ev.bind (anyVector_ev hq L n hl hx) (ev_eq (Ev.now _) ?_)
 rw [List.any_eq_not_all_not]; simp
theorem vectorS_ev {p : Nat} (hq : p ≤ 251) (x : List Int) {n : Nat} (hn : n ≤ 64) (hx : x.length ≤ 1048576) : Ev (fun k => z54.f k (p : Int) (n : Int) x) (vecC x (n : Int) (p : Int)) := by
 unfold z54.f z78.f vecC
 have hw : wrap64 ((p : Int) - 1) = (p : Int) - 1 := wrap_small (by omega) (by omega)
 have h := ev_all_then (fun (i : Nat) k => z78.l0 k x (p : Int) (i : Int)) (fun i => decide (0 ≤ x.getD i 0) && decide (x.getD i 0 ≤ (p : Int) - 1)) (decide ((x.length : Int) ≤ 64)) x.length (fun j hj _ hp' r hr => by
  refine Ev.step (fun k => z78.l0.eq_2 ..) ?_
  rw [hw, rd_nat]
  clear hw
  refine ev_pos (by omega) (ev_pos (by omega) (Ev.bind (ev_const (in_val _ _ _)) (ev_pos hp' ?_)))
  rw [wrap_succ (by omega)]; exact hr) (fun j hj _ hp' => by
  refine Ev.step (fun k => z78.l0.eq_2 ..) ?_
  rw [hw, rd_nat]
  clear hw
  exact ev_pos (by omega) (ev_pos (by omega) (Ev.bind (ev_const (in_val _ _ _)) (ev_neg (by rw [hp']; decide) (Ev.now _))))) (fun _ => by
  refine Ev.step (fun k => z78.l0.eq_2 ..) ?_
  clear hw
  exact ev_neg (by omega) (Ev.now _))
 clear hw
 rw [all_range x 0 (fun y => decide (0 ≤ y) && decide (y ≤ (p : Int) - 1))] at h
 refine Ev.bind h ?_
 cases ha : (x.all fun y => decide (0 ≤ y) && decide (y ≤ (p : Int) - 1)) with
 | false =>
  rw [Bool.false_and, Bool.and_false]
  exact ev_neg (by decide) (Ev.now _)
 | true =>
  rw [Bool.true_and, Bool.and_true]
  by_cases h64 : (x.length : Int) ≤ 64
  ·rw [decide_eq_true h64]
   exact ev_pos rfl (ev_eq (Ev.now _) (by rw [Bool.beq_eq_decide_eq]))
  ·rw [decide_eq_false h64, decide_eq_false (by omega)]
   exact ev_neg (by decide) (Ev.now _)
theorem vectorsS_ev {p : Nat} (hq : p ≤ 251) (L : List (List Int)) {n : Nat} (hn : n ≤ 64) (hl : L.length ≤ 1048576) (hx : ∀ x ∈ L, x.length ≤ 1048576) : Ev (fun k => z102.f k (p : Int) (n : Int) L) (L.all fun x => vecC x (n : Int) (p : Int)) := by
 unfold z102.f
 refine ev_all_list L [] (fun (i : Nat) k => z102.l0 k (p : Int) (n : Int) L (i : Int)) (fun x => vecC x (n : Int) (p : Int)) (fun j hj hp r hr => ?_) (fun j hj hp => ?_) ?_
 ·have := hx _ (getD_mem ([] : List Int) hj)
  refine Ev.step (fun k => z102.l0.eq_2 ..) ?_
  rw [rdl_nat]
  refine ev_pos (by omega) (ev_pos (by omega) (Ev.bind (vectorS_ev hq _ hn this) (ev_pos hp ?_)))
  rw [wrap_succ (by omega)]; exact hr
 ·have := hx _ (getD_mem ([] : List Int) hj)
  refine Ev.step (fun k => z102.l0.eq_2 ..) ?_
  rw [rdl_nat]
  exact ev_pos (by omega) (ev_pos (by omega) (Ev.bind (vectorS_ev hq _ hn this) (ev_neg (by rw [hp]; decide) (Ev.now _))))
 ·refine Ev.step (fun k => z102.l0.eq_2 ..) ?_
  exact ev_neg (by omega) (Ev.now _)
theorem all_vs {p n : Nat} {L : List (List Int)} : (L.all fun x => vecC x (n : Int) (p : Int)) = true ↔ Vs (p : Int) n L := by
 rw [List.all_eq_true]
 constructor
 ·intro h x hx
  obtain ⟨h1, h2⟩ := vecC_iff.1 (h x hx)
  exact ⟨h1, h2⟩
 ·exact fun h x hx => vecC_iff.2 ⟨(h x hx).1, (h x hx).2⟩
theorem sameRows_ev (l m : List (List Int)) (hl : l.length < 9223372036854775807) (hr : ∀ x ∈ l, x.length < 9223372036854775807) : Ev (fun k => z103.f k l m) (l == m) := by
 unfold z103.f
 by_cases h : l.length = m.length
 ·refine ev_pos (by omega) ?_
  rw [← list_eq_range l m [] h]
  refine ev_all (fun (i : Nat) k => z103.l0 k l m (i : Int)) _ l.length (fun j hj hp r hr' => ?_) (fun j hj hp => ?_) ?_
  ·have hrow := hr _ (getD_mem ([] : List Int) hj)
   refine Ev.step (fun k => z103.l0.eq_2 ..) ?_
   rw [rdl_nat, rdl_nat]
   refine ev_pos (by omega) (ev_pos (by omega) (ev_pos (by omega) (Ev.bind (same_ev _ _ hrow) (ev_pos hp ?_))))
   rw [wrap_succ (by omega)]; exact hr'
  ·have hrow := hr _ (getD_mem ([] : List Int) hj)
   refine Ev.step (fun k => z103.l0.eq_2 ..) ?_
   rw [rdl_nat, rdl_nat]
   exact ev_pos (by omega) (ev_pos (by omega) (ev_pos (by omega) (Ev.bind (same_ev _ _ hrow) (ev_neg (by rw [hp]; decide) (Ev.now _)))))
  ·refine Ev.step (fun k => z103.l0.eq_2 ..) ?_
   exact ev_neg (by omega) (Ev.now _)
 ·rw [len_ne_beq h]
  exact ev_neg (by omega) (Ev.now _)
noncomputable def okS (p n : Int) (L : List (List Int)) : Bool := open Classical in (okP p && (decide (0 ≤ n) && decide (n ≤ 32))) && ((L.all fun x => vecC x n p) && (redB p n.toNat L == L))
theorem okS_iff {p n : Int} {L : List (List Int)} (h : okS p n L = true) : ∃ q m : Nat, p = (q : Int) ∧ n = (m : Int) ∧ isP q = true ∧ m ≤ 32 ∧ Vs (q : Int) m L ∧ redB (q : Int) m L = L := by
 unfold okS at h
 rw [Bool.and_eq_true, Bool.and_eq_true, Bool.and_eq_true, Bool.and_eq_true, decide_eq_true_iff, decide_eq_true_iff] at h
 obtain ⟨⟨h1, h2, h3⟩, h4, h5⟩ := h
 obtain ⟨q, rfl, hq⟩ := okP_iff.1 h1
 obtain ⟨m, rfl⟩ := Int.eq_ofNat_of_zero_le h2
 exact ⟨q, m, rfl, rfl, hq, by omega, all_vs.1 h4, by simpa using h5⟩
section
variable {L : List (List Int)} (hl : L.length ≤ 1048576) (hr : ∀ x ∈ L, x.length ≤ 1048576)
include hl hr
theorem validSpace_ev (p n : Int) : Ev (fun k => z58.f k p n L) (okS p n L) := by
 unfold z58.f okS z88.f
 refine Ev.bind (implPrime_ev p) ?_
 cases hp : okP p with
 | false => exact ev_neg (by decide) (ev_eq (Ev.now _) (by simp))
 | true =>
  obtain ⟨q, rfl, hq⟩ := okP_iff.1 hp
  refine ev_pos rfl (Ev.bind (a := decide (0 ≤ n) && decide (n ≤ 32)) (Ev.bind (ev_const (within_val _ _ _)) (Ev.now _)) ?_)
  cases hn : decide (0 ≤ n) && decide (n ≤ 32) with
  | false => exact ev_neg (by decide) (ev_eq (Ev.now _) (by simp))
  | true =>
   rw [Bool.and_eq_true, decide_eq_true_iff, decide_eq_true_iff] at hn
   obtain ⟨m, rfl⟩ := Int.eq_ofNat_of_zero_le hn.1
   refine ev_pos rfl (Ev.bind (areVectors_ev (isP_two hq).2 L _ hl hr) ?_)
   cases hv : (L.all fun x => vecC x (m : Int) (q : Int)) with
   | false => exact ev_neg (by decide) (ev_eq (Ev.now _) (by simp))
   | true =>
    obtain ⟨h1, qq, h2⟩ := spaceOf_ev hq (by omega) hl (all_vs.1 hv)
    have h3 := h2.len_le (pr_of hq)
    refine ev_pos rfl (Ev.bind h1 ?_)
    dsimp only
    refine Ev.bind (areSame_ev _ L (by omega) (fun x hx => by rw [(h2.vs x hx).1]; omega)) (ev_eq (Ev.now _) ?_)
    rw [Int.toNat_natCast]
    simp
theorem okS_ev (p n : Int) : Ev (fun k => z53.f k p n L) (okS p n L) := by
 unfold z53.f okS
 have stop : ∀ p n, Ev (fun k => z53.j0 k true p n L) false := fun p n => by
  refine Ev.step (fun k => z53.j0.eq_2 ..) ?_
  exact ev_pos rfl (Ev.now _)
 refine Ev.bind (specPrime2_ev p) ?_
 cases hp : okP p with
 | false => exact ev_neg (by decide) (ev_eq (stop _ _) (by simp))
 | true =>
  obtain ⟨q, rfl, hq⟩ := okP_iff.1 hp
  refine ev_pos rfl (Ev.bind (ev_const (in_val _ _ _)) ?_)
  cases hn : decide (0 ≤ n) && decide (n ≤ 32) with
  | false => exact ev_neg (by decide) (ev_eq (stop _ _) (by simp))
  | true =>
   rw [Bool.and_eq_true, decide_eq_true_iff, decide_eq_true_iff] at hn
   obtain ⟨m, rfl⟩ := Int.eq_ofNat_of_zero_le hn.1
   refine ev_pos rfl ?_
   by_cases hlen : (L.length : Int) > (m : Int)
   ·refine ev_eq (ev_pos hlen (stop _ _)) ?_
    cases hv : (L.all fun x => vecC x (m : Int) (q : Int)) with
    | false => simp
    | true =>
     obtain ⟨h1, qq, h2⟩ := spaceOf_ev (L := L) hq (show m ≤ 1024 by omega) hl (all_vs.1 hv)
     have h3 := h2.len_le (pr_of hq)
     have hne : ¬ (redB (q : Int) m L = L) := fun he => by rw [he] at h3; omega
     rw [Int.toNat_natCast]
     simp [hne]
   ·refine ev_neg hlen (Ev.bind (vectorsS_ev (isP_two hq).2 L (by omega) hl hr) ?_)
    cases hv : (L.all fun x => vecC x (m : Int) (q : Int)) with
    | false => exact ev_eq (stop _ _) (by simp)
    | true =>
     obtain ⟨h1, qq, h2⟩ := basis_ev (L := L) hq (show m ≤ 1000 by omega) (by omega) (all_vs.1 hv)
     have h3 := h2.len_le (pr_of hq)
     have hj : Ev (fun k => z53.j0 k false (q : Int) (m : Int) L) (redB (q : Int) m L == L) := by
      refine Ev.step (fun k => z53.j0.eq_2 ..) ?_
      exact ev_neg (by decide) (Ev.bind h1 (Ev.bind (sameRows_ev _ L (by omega) (fun x hx => by rw [(h2.vs x hx).1]; omega)) (Ev.now _)))
     refine ev_eq hj ?_
     rw [Int.toNat_natCast]
     simp
end
end Go.Proofs.Ytabfflgoaalapaa.B
set_option linter.unusedVariables false
set_option linter.unusedSimpArgs false
namespace Go.Proofs.Ytabfflgoaalapaa.B
open Go.RowKit Go.Proofs.YtabfflgoaalapaaW.PrintWords
theorem notZero_ev (a : Int) : Ev (fun k => z144.f a) (a != 0) := ev_const rfl
theorem anyNotZero_ev (l : List Int) (hl : l.length ≤ 1048576) : Ev (fun k => z185.f k l) (l.any fun a => a != 0) := by
 obtain ⟨t, ht, hd⟩ := ev_index_list (l) 0 (fun i k => z186.l0 k (l) ((l).length : Int) (i : Int) ) (fun a => a != 0) (fun j hj hp r hr => by
   refine Ev.step (fun k => z186.l0.eq_2 ..) ?_
   refine ev_pos (by omega) (ev_pos (by omega) (ev_pos (by omega) ?_))
   rw [rd_nat, wrap_succ (by omega)]
   exact Ev.bind (notZero_ev _) (ev_neg (by rw [hp]; decide) hr)) (fun j hj hp => by
   refine Ev.step (fun k => z186.l0.eq_2 ..) ?_
   refine ev_pos (by omega) (ev_pos (by omega) (ev_pos (by omega) ?_))
   rw [rd_nat]
   exact Ev.bind (notZero_ev _) (ev_pos hp (Ev.now _))) (by
   refine Ev.step (fun k => z186.l0.eq_2 ..) ?_
   exact ev_neg (by omega) (Ev.now _))
 unfold z185.f z186.f
 refine Ev.bind ht (ev_eq (Ev.now _) hd)
theorem isZero_ev (l : List Int) (hl : l.length ≤ 1048576) : Ev (fun k => z109.f k l) (l.all fun a => a == 0) := by
 unfold z109.f
 refine Ev.bind (anyNotZero_ev l hl) (ev_eq (Ev.now _) ?_)
 rw [List.any_eq_not_all_not]; simp [bne]
end Go.Proofs.Ytabfflgoaalapaa.B
set_option linter.unusedVariables false
set_option linter.unusedSimpArgs false
namespace Go.Proofs.Ytabfflgoaalapaa.B
open Go.RowKit Go.Proofs.YtabfflgoaalapaaW.PrintWords
open LinT
theorem place_ev (l : List Int) (hl : l.length ≤ 1048576) {c : Nat} (hc : c < l.length) (h1 : l.getD c 0 ≠ 0) (h0 : ∀ j, j < c → l.getD j 0 = 0) : Ev (fun k => z184.f k l) (c : Int) := by
 unfold z184.f
 have main : ∀ (d i : Nat), i + d = c → Ev (fun k => z184.l0 k l (l.length : Int) (i : Int)) (c : Int) := by
  intro d
  induction d with
  | zero =>
   intro i hi
   have : i = c := by omega
   subst this
   refine Ev.step (fun k => z184.l0.eq_2 ..) ?_
   rw [rd_nat]
   exact ev_pos (by omega) (ev_pos (by omega) (ev_pos (by omega) (Ev.bind (ev_const (r := true) (by unfold z116.f; rw [show (l.getD i 0 != 0) = true from bne_iff_ne.2 h1])) (ev_pos rfl (Ev.now _)))))
  | succ d ih =>
   intro i hi
   have hz := h0 i (by omega)
   refine Ev.step (fun k => z184.l0.eq_2 ..) ?_
   rw [rd_nat]
   refine ev_pos (by omega) (ev_pos (by omega) (ev_pos (by omega) (Ev.bind (ev_const (r := false) (by unfold z116.f; rw [hz]; rfl)) (ev_neg (by decide) ?_))))
   rw [wrap_succ (by omega)]
   exact ih (i + 1) (by omega)
 exact main c 0 (by omega)
theorem q_eq {p : Int} {n : Nat} {L B : List (List Int)} {q : List Int} (h : Red p n L B q) {i : Nat} (hi : i < B.length) : q.getD i 0 = (((q.getD i 0).toNat : Nat) : Int) := by
 have := (red_q h (i := i) (by rw [h.len]; exact hi)).1
 omega
theorem placesOf_ev {p n : Nat} (hp : 1 < p) (hn : n ≤ 1024) {L B : List (List Int)} {q : List Int} (h : Red (p : Int) n L B q) (hB : B.length ≤ 1048576) (a b : Int) : Ev (fun k => z71.f k a b B) q := by
 unfold z71.f
 have e : q = (List.range B.length).map fun i => q.getD i 0 := by
  have := map_range (0 : Int) id q
  rw [List.map_id, h.len] at this
  exact this
 refine ev_eq ?_ e.symm
 refine ev_map (fun s i k => z71.l0 k s B (B.length : Int) (i : Int)) (fun i => q.getD i 0) B.length (fun i s hi hs r hr => ?_) _ ?_
 ·have hsl : s.length = i := by rw [hs]; simp
  obtain ⟨h1, h2, h3⟩ := h.place (by omega) hi
  have hlen := vs_len h.vs hi
  have hpl := place_ev (B.getD i []) (by omega) (c := (q.getD i 0).toNat) (by omega) (by rw [h2]; decide) h3
  rw [← q_eq h hi] at hpl
  refine Ev.step (fun k => z71.l0.eq_2 ..) ?_
  rw [rdl_nat]
  refine ev_pos (by omega) (ev_pos (by omega) (ev_pos (by omega) (Ev.bind hpl (ev_pos (by omega) ?_))))
  rw [wrap_succ (by omega)]; exact hr
 ·refine Ev.step (fun k => z71.l0.eq_2 ..) ?_
  exact ev_neg (by omega) (Ev.now _)
def coordC (q x : List Int) : List Int := (List.range q.length).map fun i => x.getD (q.getD i 0).toNat 0
noncomputable def inSp (p : Int) (n : Nat) (B : List (List Int)) (x : List Int) : Bool := @decide (Span p n (B.map vec) (vec x)) (Classical.propDecidable _)
theorem inSp_iff {p : Int} {n : Nat} {B : List (List Int)} {x : List Int} : inSp p n B x = true ↔ Span p n (B.map vec) (vec x) := by unfold inSp; exact @decide_eq_true_iff _ (Classical.propDecidable _)
theorem coordinates_ev {p n : Nat} (hp : isP p = true) (hn : n ≤ 1024) {L B : List (List Int)} {q : List Int} (h : Red (p : Int) n L B q) (hB : B.length ≤ 1048576) {x : List Int} (hx : x.length = n) (hxr : Rng p x) :
  Ev (fun k => z60.f k (p : Int) (n : Int) B x) (coordC q x, inSp (p : Int) n B x) := by
 have h2 := isP_two hp
 have hBl := (h.len_le (pr_of hp)).1
 unfold z60.f
 refine Ev.bind (placesOf_ev (by omega) hn h hB _ _) ?_
 -- rest after i rounds: x less the rows' multiples
 have main : ∀ (d i : Nat) (rest : List Int), i + d = q.length → rest.length = n → Rng p rest → (∀ j, j < n → (p : Int) ∣ rest.getD j 0 - (x.getD j 0 - comb (rw' B) i (fun t => x.getD (q.getD t 0).toNat 0) j)) →
   Ev (fun k => z60.l0 k x ((List.range i).map fun t => x.getD (q.getD t 0).toNat 0) rest q (q.length : Int) (i : Int) (p : Int) (n : Int) B) (coordC q x, inSp (p : Int) n B x) := by
  intro d
  induction d with
  | zero =>
   intro i rest hi hl hr hc
   have : i = q.length := by omega
   subst this
   have hz : (rest.all fun a => a == 0) = inSp (p : Int) n B x := by
    rw [Bool.eq_iff_iff, inSp_iff, h.in_iff]
    rw [h.len] at hc
    constructor
    ·intro hall j hj
     have h0 : rest.getD j 0 = 0 := by
      have := List.all_eq_true.1 hall _ (getD_mem 0 (show j < rest.length by omega))
      simpa using this
     have := hc j hj
     rw [h0] at this
     have := Int.dvd_neg.2 this
     rwa [show -(0 - (x.getD j 0 - comb (rw' B) B.length (fun t => x.getD (q.getD t 0).toNat 0) j)) = vec x j - comb (rw' B) B.length (fun i => vec x (q.getD i 0).toNat) j by unfold vec; omega] at this
    ·intro hall
     rw [List.all_eq_true]
     intro y hy
     obtain ⟨j, hj, rfl⟩ := List.getElem_of_mem hy
     have e : rest[j] = rest.getD j 0 := by rw [List.getD_eq_getElem?_getD, List.getElem?_eq_getElem hj]; rfl
     have h3 := hall j (by omega)
     have h4 := Int.dvd_add (hc j (by omega)) h3
     rw [show rest.getD j 0 - (x.getD j 0 - comb (rw' B) B.length (fun t => x.getD (q.getD t 0).toNat 0) j) + (vec x j - comb (rw' B) B.length (fun i => vec x (q.getD i 0).toNat) j) = rest.getD j 0 by unfold vec; omega] at h4
     have h5 := rng_get hr hj
     rw [e, in_rng h5.1 h5.2 h4]; rfl
   refine Ev.step (fun k => z60.l0.eq_2 ..) ?_
   refine ev_neg (by omega) (Ev.bind (isZero_ev rest (by omega)) (ev_eq (Ev.now _) ?_))
   rw [hz]; rfl
  | succ d ih =>
   intro i rest hi hl hr hc
   have hiB : i < B.length := by rw [← h.len]; omega
   have hqi := red_q h (i := i) (by omega)
   have hxq := rng_get hxr (j := (q.getD i 0).toNat) (by omega)
   have hrow := vs_len h.vs hiB
   have hcc : Int.tmod (wrap64 ((p : Int) - x.getD (q.getD i 0).toNat 0)) (p : Int) = ((p : Int) - x.getD (q.getD i 0).toNat 0) % (p : Int) := by
    rw [wrap_small (by omega) (by omega), tmod_nat (by omega)]
   have hm0 := Int.emod_nonneg ((p : Int) - x.getD (q.getD i 0).toNat 0) (b := (p : Int)) (by omega)
   have hm1 := Int.emod_lt_of_pos ((p : Int) - x.getD (q.getD i 0).toNat 0) (b := (p : Int)) (by omega)
   have hrd : rd x (rd q (i : Int)) = x.getD (q.getD i 0).toNat 0 := by
    rw [rd_nat, q_eq h hiB, rd_nat, Int.toNat_natCast]
   have hadd : Ev (fun k => z108.f k rest (B.getD i []) (((p : Int) - x.getD (q.getD i 0).toNat 0) % (p : Int)) (p : Int)) (addT p rest (B.getD i []) (((p : Int) - x.getD (q.getD i 0).toNat 0) % (p : Int))) := by
    clear hcc
    exact addTimes_ev (by omega) h2.2 rest (B.getD i []) _ hr (vs_rng h.vs hiB) (by omega) (by omega) hm0 (by omega)
   have hnext := ih (i + 1) (addT p rest (B.getD i []) (((p : Int) - x.getD (q.getD i 0).toNat 0) % (p : Int))) (by omega) (by rw [addT_len, hl]) (addT_rng (by omega) _ _ _) (fun j hj => by
    rw [addT_get (by omega)]
    have h3 := emod_dvd (rest.getD j 0 + ((p : Int) - x.getD (q.getD i 0).toNat 0) % (p : Int) * (B.getD i []).getD j 0) (p : Int)
    have h4 := hc j hj
    have h5 := dvd_mul_l ((B.getD i []).getD j 0) (emod_dvd ((p : Int) - x.getD (q.getD i 0).toNat 0) (p : Int))
    have h6 : (p : Int) ∣ (p : Int) * (B.getD i []).getD j 0 := Int.dvd_mul_right _ _
    have h7 := Int.dvd_add (Int.dvd_add (Int.dvd_add h3 h4) h5) h6
    have e : comb (rw' B) (i + 1) (fun t => x.getD (q.getD t 0).toNat 0) j = comb (rw' B) i (fun t => x.getD (q.getD t 0).toNat 0) j + x.getD (q.getD i 0).toNat 0 * (B.getD i []).getD j 0 := rfl
    rw [e]
    generalize comb (rw' B) i (fun t => x.getD (q.getD t 0).toNat 0) j = cm at h7 ⊢
    generalize (rest.getD j 0 + ((p : Int) - x.getD (q.getD i 0).toNat 0) % (p : Int) * (B.getD i []).getD j 0) % (p : Int) = em at h7 ⊢
    generalize ((p : Int) - x.getD (q.getD i 0).toNat 0) % (p : Int) = cc at h7 ⊢
    generalize (B.getD i []).getD j 0 = bb at h7 ⊢
    generalize x.getD (q.getD i 0).toNat 0 = xx at h7 ⊢
    rwa [show em - (rest.getD j 0 + cc * bb) + (rest.getD j 0 - (x.getD j 0 - cm)) + bb * (cc - ((p : Int) - xx)) + (p : Int) * bb = em - (x.getD j 0 - (cm + xx * bb)) by grind] at h7)
   rw [List.range_succ, List.map_append] at hnext
   have hlen2 : ((List.range i).map fun t => x.getD (q.getD t 0).toNat 0).length < 17592186044416 := by simp; omega
   have g1 : (i : Int) < (q.length : Int) := by omega
   have g2 : (0 : Int) ≤ (i : Int) := by omega
   have g3 : (0 : Int) ≤ rd q (i : Int) := by rw [rd_nat]; exact hqi.1
   have g4 : rd q (i : Int) < (x.length : Int) := by rw [rd_nat, hx]; exact hqi.2
   have g5 : (i : Int) < (B.length : Int) := by omega
   have g6 : ¬ ((p : Int) = 0) := by omega
   have g7 : wrap64 ((i : Int) + 1) = ((i + 1 : Nat) : Int) := by clear hcc; exact wrap_succ (by omega)
   refine Ev.step (fun k => z60.l0.eq_2 ..) ?_
   rw [hrd, hcc, rdl_nat, g7]
   exact ev_pos g1 (ev_pos g2 (ev_pos g1 (ev_pos g3 (ev_pos g4 (ev_pos hlen2 (ev_pos g5 (ev_neg g6 (Ev.bind hadd hnext))))))))
 have h0 := main q.length 0 x (by omega) hx hxr (fun j hj => by
  have : comb (rw' B) 0 (fun t => x.getD (q.getD t 0).toNat 0) j = 0 := rfl
  rw [this, Int.sub_zero, Int.sub_self]; exact Int.dvd_zero _)
 exact h0
end Go.Proofs.Ytabfflgoaalapaa.B
set_option linter.unusedVariables false
set_option linter.unusedSimpArgs false
namespace Go.Proofs.Ytabfflgoaalapaa.B
open Go.RowKit Go.Proofs.YtabfflgoaalapaaW.PrintWords
open LinT
theorem first_ev (l : List Int) (hl : l.length ≤ 1048576) {c : Nat} (hc : c < l.length) (h1 : l.getD c 0 ≠ 0) (h0 : ∀ j, j < c → l.getD j 0 = 0) : Ev (fun k => z56.f k l) (c : Int) := by
 unfold z56.f
 have main : ∀ (d i : Nat), i + d = c → Ev (fun k => z56.l0 k l (i : Int)) (c : Int) := by
  intro d
  induction d with
  | zero =>
   intro i hi
   have : i = c := by omega
   subst this
   refine Ev.step (fun k => z56.l0.eq_2 ..) ?_
   rw [rd_nat]
   exact ev_pos (by omega) (ev_pos (by omega) (ev_neg h1 (Ev.now _)))
  | succ d ih =>
   intro i hi
   have hz := h0 i (by omega)
   refine Ev.step (fun k => z56.l0.eq_2 ..) ?_
   rw [rd_nat]
   refine ev_pos (by omega) (ev_pos (by omega) (ev_pos hz ?_))
   rw [wrap_succ (by omega)]
   exact ih (i + 1) (by omega)
 exact main c 0 (by omega)
theorem hasS_ev {p n : Nat} (hp : isP p = true) (hn : n ≤ 1000) {B : List (List Int)} {q : List Int} (h : Red (p : Int) n B B q) (hB : B.length ≤ 900) {x : List Int} (hx : x.length = n) (hxr : Rng p x) :
  Ev (fun k => z55.f k (p : Int) (n : Int) B x) (inSp (p : Int) n B x) := by
 have hv : Vs (p : Int) n (B ++ [x]) := vs_append h.vs (vs_one hx hxr)
 obtain ⟨h1, q', h2⟩ := basis_ev (L := B ++ [x]) hp hn (by simp; omega) hv
 have hm := h.more (pr_of hp) h2
 unfold z55.f
 refine Ev.bind (ev_const rfl) (ev_pos (by simp; omega) (Ev.bind (ev_const rfl) (ev_pos (by simp; omega) (Ev.bind h1 (ev_eq (Ev.now _) ?_)))))
 rw [Bool.eq_iff_iff, inSp_iff, beq_iff_eq]
 by_cases hs : Span (p : Int) n (B.map vec) (vec x)
 ·have := hm.1 hs
  exact ⟨fun _ => hs, fun _ => by omega⟩
 ·have := hm.2 hs
  exact ⟨fun h => by omega, fun h => absurd h hs⟩
theorem coordIn_both {L : List (List Int)} (hl : L.length ≤ 1048576) (hr : ∀ x ∈ L, x.length ≤ 1048576) (p n : Int) (x : List Int) (hx : x.length ≤ 1048576) :
  ∃ g : List Int × Int, g.1.length ≤ 1048576 ∧ Ev (fun k => z15.f k p n L x) g ∧ Ev (fun k => z12.f k p n L x) g := by
 have hv1 := validSpace_ev hl hr p n
 have hv2 := okS_ev hl hr p n
 unfold z15.f z12.f
 cases ho : okS p n L with
 | false =>
  rw [ho] at hv1 hv2
  exact ⟨([], 1), by simp, Ev.bind hv1 (ev_neg (by decide) (Ev.now _)), Ev.bind hv2 (ev_neg (by decide) (Ev.now _))⟩
 | true =>
  rw [ho] at hv1 hv2
  obtain ⟨q, m, rfl, rfl, hq, hm, hv, he⟩ := okS_iff ho
  obtain ⟨_, qq, hred⟩ := spaceOf_ev (L := L) hq (show m ≤ 1024 by omega) hl hv
  rw [he] at hred
  have h2 := isP_two hq
  have hll := (hred.len_le (pr_of hq)).1
  cases hxv : vecC x (m : Int) (q : Int) with
  | false =>
   have e1 := isVector_ev h2.2 x (m : Int) hx
   have e2 := vectorS_ev h2.2 x (n := m) (by omega) hx
   rw [hxv] at e1 e2
   exact ⟨([], 2), by simp, Ev.bind hv1 (ev_pos rfl (Ev.bind e1 (ev_neg (by decide) (Ev.now _)))), Ev.bind hv2 (ev_pos rfl (Ev.bind e2 (ev_neg (by decide) (Ev.now _))))⟩
  | true =>
   have e1 := isVector_ev h2.2 x (m : Int) hx
   have e2 := vectorS_ev h2.2 x (n := m) (by omega) hx
   rw [hxv] at e1 e2
   obtain ⟨hxl, hxr⟩ := vecC_iff.1 hxv
   have c1 := coordinates_ev hq (show m ≤ 1024 by omega) hred hl hxl hxr
   have c2 := hasS_ev hq (show m ≤ 1000 by omega) hred (by omega) hxl hxr
   cases hin : inSp (q : Int) m L x with
   | false =>
    rw [hin] at c1 c2
    exact ⟨([], 3), by simp, Ev.bind hv1 (ev_pos rfl (Ev.bind e1 (ev_pos rfl (Ev.bind c1 (ev_neg (by simp) (Ev.now _)))))), Ev.bind hv2 (ev_pos rfl (Ev.bind e2 (ev_pos rfl (Ev.bind c2 (ev_neg (by decide) (Ev.now _))))))⟩
   | true =>
    rw [hin] at c1 c2
    refine ⟨(coordC qq x, 0), by show (coordC qq x).length ≤ 1048576; unfold coordC; rw [List.length_map, List.length_range, hred.len]; exact hl, Ev.bind hv1 (ev_pos rfl (Ev.bind e1 (ev_pos rfl (Ev.bind c1 (ev_pos rfl (Ev.now _)))))), Ev.bind hv2 (ev_pos rfl (Ev.bind e2 (ev_pos rfl (Ev.bind c2 (ev_pos rfl ?_)))))⟩
    unfold coordC
    rw [hred.len]
    refine ev_map (fun s i k => z12.l0 k x s (i : Int) (q : Int) (m : Int) L) (fun i => x.getD (qq.getD i 0).toNat 0) L.length (fun i s hi hs r hr' => ?_) _ ?_
    ·have hsl : s.length = i := by rw [hs]; simp
     obtain ⟨p1, p2, p3⟩ := hred.place (by omega) hi
     have hlen := vs_len hred.vs hi
     have hf := first_ev (L.getD i []) (by omega) (c := (qq.getD i 0).toNat) (by omega) (by rw [p2]; decide) p3
     refine Ev.step (fun k => z12.l0.eq_2 ..) ?_
     rw [rdl_nat]
     refine ev_pos (by omega) (ev_pos (by omega) (Ev.bind hf (ev_pos (by omega) (ev_pos (by omega) (ev_pos (by omega) ?_)))))
     rw [wrap_succ (by omega), rd_nat]; exact hr'
    ·refine Ev.step (fun k => z12.l0.eq_2 ..) ?_
     exact ev_neg (by omega) (Ev.now _)
theorem pure_CoordinatesIn {a0_0 a0_1 : Int} {l0_2 : List (List Int)} {l1 : List Int} (h0 : Wf a0_0) (h1 : Wf a0_1) (h2 : WfLL l0_2) (h3 : WfL l1) : ∃ k, z3.f k a0_0 a0_1 l0_2 l1 = some true := by
 refine Ev.rounds (g := fun k => z3.f k a0_0 a0_1 l0_2 l1) ?_
 unfold z3.f
 by_cases hbig : (l1.length : Int) > 1048576
 ·exact ev_pos hbig (Ev.now _)
 refine ev_neg hbig ?_
 rcases szSpace_ev a0_0 a0_1 l0_2 1048576 h2 (by omega) (by omega) with ⟨t, ht, hn⟩ | ⟨ht, hb⟩
 ·exact Ev.bind ht (ev_pos hn (Ev.now _))
 have htn := total_nonneg l0_2
 have hrow : ∀ x ∈ l0_2, x.length ≤ 1048576 := fun x hx => by have := row_le_total l0_2 x hx; omega
 have hlen : l0_2.length ≤ 1048576 := by omega
 have hto := toSpace_ev a0_0 a0_1 l0_2 hlen hrow
 have heq := eqSpace_self a0_0 a0_1 l0_2 (by omega) (fun x hx => by have := hrow x hx; omega)
 refine Ev.bind ht (ev_neg (by omega) ?_)
 have hto1 := toInt64S_ev l1 (by omega)
 have heq1 := eqInt64S_self l1 (by omega)
 obtain ⟨g, hs, him, hsp⟩ := coordIn_both hlen hrow a0_0 a0_1 l1 (by omega)
 obtain ⟨g0, g1⟩ := g
 dsimp only at hs
 have heg := eqInt64S_self g0 (by omega)
 have hm1 := markSpace_val a0_0 a0_1 l0_2 1 (by omega) (by omega)
 have hm3 := markInt64S_mark l1 (1 + total l0_2) (by omega) (by omega)
 have hm2 := markInt64S_mark g0 1 (by omega) (by omega)
 have hh := heldInt64S_ev g0 1 (by omega) (by omega)
 (repeat (first | exact Ev.now _ | refine ev_pos rfl ?_ | refine ev_neg (by simp only []; omega) ?_ | refine ev_neg (by omega) ?_ | refine ev_neg (by simp) ?_ | refine Ev.bind (by assumption) ?_ | refine Ev.bind (ev_const (by assumption)) ?_))
end Go.Proofs.Ytabfflgoaalapaa.B
