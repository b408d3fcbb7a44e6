/- What the functions come to, for the law FnExactFillingOf. -/
import Derived.Test.YtipkciildhghiaaKBMHJIN0
import Derived.Test.YtipkciildhghiaaKCHHHHI0
import Derived.Test.YtipkciildhghiaaKFKEBDN0
import Derived.Test.YtipkciildhghiaaKFPNPPP0
import Derived.Test.YtipkciildhghiaaKHGNPLP0
import Derived.Test.YtipkciildhghiaaKJAGPEI0
import Derived.Test.YtipkciildhghiaaKJEJLAH0
import Derived.Test.YtipkciildhghiaaKJGAKKK0
import Derived.Test.YtipkciildhghiaaKKEBAJI0
import Derived.Test.YtipkciildhghiaaKKLOKDM0
import Derived.Test.YtipkciildhghiaaKLDFBAJ0
import Derived.Test.YtipkciildhghiaaKLKNNEM0
import Derived.Test.YtipkciildhghiaaKLKPPDI0
import Derived.Test.YtipkciildhghiaaKMBBBEH0
import Derived.Test.YtipkciildhghiaaKMHEBLC0
import Derived.Test.YtipkciildhghiaaKMICICC0
import Derived.Test.YtipkciildhghiaaKNMBNGE0
import Derived.Test.YtipkciildhghiaaKNNGFGH0
import Derived.Test.YtipkciildhghiaaKODPPFB0
import Derived.Test.YtipkciildhghiaaKOILLIC0
import Derived.Test.YtipkciildhghiaaKOKFLJI0
import Derived.Test.YtipkciildhghiaaKOKHAKL0
import Derived.Test.YtipkciildhghiaaKOKKPPG0
import Derived.Test.YtipkciildhghiaaKW0
import Derived.Below
import Derived.ChangeOld
import Derived.Deep.Matrix
import Derived.Lib.SmallJoins
import Derived.OpenShut
import Derived.ProofKit
import Derived.ShutString
import Derived.SizedLaws
import Derived.WalkKit
set_option linter.unusedVariables false
set_option linter.unusedSimpArgs false
namespace Go.Proofs.Ytipkciildhghiaa.B
open Go.RowKit Go.ChangeShapes Go.WideShapes Go.Deep Go.Proofs.YtipkciildhghiaaW.PrintWords

def Wf (n : Int) : Prop := -9223372036854775808 ≤ n ∧ n ≤ 9223372036854775807
def WfL (l : List Int) : Prop := l.length ≤ 9223372036854775807 ∧ ∀ n ∈ l, Wf n
def WfLL (l : List (List Int)) : Prop := l.length ≤ 9223372036854775807 ∧ ∀ r ∈ l, WfL r
theorem qLe {n : Int} (h : (Lit.int .i64 n).wf = true) : Wf n := by
 unfold Wf
 simp [Lit.wf, IntKind.min, IntKind.max, IntKind.bits, IntKind.signed] at h
 omega

section
variable {H : Type} {enc : TypeId × Value → H} {P : Program} {w : World} {base : Nat} {held : Bool} {fuel : Nat}
theorem opened_int {t : TypeId} {v : Value} {x : DataW H × List MemPlace} (ht : P.underlying t = some (.int .i64)) (h : DataW.trod enc P w base (fun _ => true) held fuel t [v] = some x) : ∃ n, v = .int .i64 n ∧ Wf n := by
 obtain ⟨n, he, _, hw⟩ := DataW.trod_int ht h
 exact ⟨n, by simpa using he, qLe hw⟩
theorem qFb {t e : TypeId} {v : Value} {x : DataW H × List MemPlace} (ht : P.underlying t = some (.slice e)) (he : P.underlying e = some (.int .i64)) (hc : P.cellsOf e = 1) (h : DataW.trod enc P w base (fun _ => true) held fuel t [v] = some x) :
  ∃ A l c, v = .slice A l.length c ∧ (Kd.int .i64).C w A l.length l ∧ l.length ≤ c ∧ WfL l := by
 rcases open_ints ht he hc h with ⟨hcs, _⟩ | ⟨a, l, c, zs, hcs, _, hl, hm, hz, _, hcell, hwz⟩
 ·refine ⟨none, [], 0, by simpa using hcs, ⟨rfl, by simp, fun h => by simp at h⟩, by simp, by simp [WfL]⟩
 ·simp only [if_true] at hz
  have hlen : (zs.take l).length = l := by rw [List.length_take]; omega
  refine ⟨some a, zs.take l, c, by rw [hlen]; simpa using hcs, ⟨rfl, by rw [hlen]; simp only [maxLen] at hm; omega, fun _ => ⟨a, rfl, fun j p hj => ?_⟩⟩, by omega, ?_, fun n hn => qLe (hwz n (List.mem_of_mem_take hn))⟩
  ·have hjl : j < l := by have := (List.getElem?_eq_some_iff.1 hj).1; omega
   refine ⟨[.int .i64 p], rfl, rfl, fun i u hu => ?_⟩
   cases i with
   | zero =>
    simp only [List.getElem?_cons_zero, Option.some.injEq] at hu
    subst hu
    rw [Nat.add_zero, show j * (Kd.int .i64).sz = j from Nat.mul_one j, hcell j (by omega)]
    rw [List.getElem?_take, if_pos hjl] at hj
    rw [List.getD_eq_getElem?_getD, hj]; rfl
   | succ i => simp at hu
  ·rw [hlen]; simp only [maxLen] at hm; omega
theorem qH8 {t e q : TypeId} {v : Value} {x : DataW H × List MemPlace} (ht : P.underlying t = some (.slice e)) (he : P.underlying e = some (.slice q)) (hq : P.underlying q = some (.int .i64)) (ce : P.cellsOf e = 1) (cq : P.cellsOf q = 1) (h : DataW.trod enc P w base (fun _ => true) held fuel t [v] = some x) :
  ∃ A l c, v = .slice A l.length c ∧ (Kd.slice 2 (Kd.int .i64)).C w A l.length l ∧ l.length ≤ c ∧ WfLL l := by
 rcases open_slice1 ht ce h with ⟨hcs, _⟩ | ⟨a, l, c, m, n, V, D, Pl, hcs, _, hl, hm, hmm, _, hx⟩
 ·refine ⟨none, [], 0, by simpa using hcs, ⟨rfl, by simp, fun h => by simp at h⟩, by simp, by simp [WfLL]⟩
 ·simp only [if_true] at hmm
  subst hmm
  have each : ∀ r, r < m → ∃ y : Option Addr × List Int × Nat, V r = .slice y.1 y.2.1.length y.2.2 ∧ (Kd.int .i64).C w y.1 y.2.1.length y.2.1 ∧ y.2.1.length ≤ y.2.2 ∧ WfL y.2.1 := by
   intro r hr
   obtain ⟨A, l, c, h1, h2, h3, h4⟩ := qFb he hq cq (hx r hr).2
   exact ⟨(A, l, c), h1, h2, h3, h4⟩
  obtain ⟨y, hy⟩ := choose_lt each
  have hlen : ((List.range l).map fun r => (y r).2.1).length = l := by simp
  refine ⟨some a, (List.range l).map fun r => (y r).2.1, m, by rw [hlen]; simpa using hcs, ⟨rfl, by rw [hlen]; simp only [maxLen] at hm; omega, fun _ => ⟨a, rfl, fun j p hj => ?_⟩⟩, by omega, ?_, ?_⟩
  ·have hjl : j < l := by have := (List.getElem?_eq_some_iff.1 hj).1; omega
   rw [List.getElem?_map, List.getElem?_range hjl] at hj
   simp only [Option.map_some, Option.some.injEq] at hj
   subst hj
   obtain ⟨h1, h2, h3, h4⟩ := hy j (by omega)
   refine ⟨[.slice (y j).1 (y j).2.1.length (y j).2.2], rfl, ⟨_, _, rfl, h3, h2⟩, fun i u hu => ?_⟩
   cases i with
   | zero =>
    simp only [List.getElem?_cons_zero, Option.some.injEq] at hu
    subst hu
    rw [Nat.add_zero, show j * (Kd.slice 2 (Kd.int .i64)).sz = j from Nat.mul_one j, (hx j (by omega)).1, h1]
   | succ i => simp at hu
  ·rw [hlen]; simp only [maxLen] at hm; omega
  ·intro r hr
   simp only [List.mem_map, List.mem_range] at hr
   obtain ⟨j, hj, rfl⟩ := hr
   exact (hy j (by omega)).2.2.2

theorem qKd {r : Reach} {b0 : Nat} {t : TypeId} {f0 : Field} {v : Value} {d : DataW H} {p : List MemPlace} (hs : P.underlying t = some (.struct #[f0])) (hone : oneCellFields P #[f0] = true) (hC : P.cellsOf t = 1)
  (hv : Value.okWide P w r b0 t v) (h : DataW.Trod enc P w base (fun _ => true) held t v d p) :
  ∃ (v0 : Value) (y0 : DataW H × List MemPlace) (n : Nat), v = .agg #[v0] ∧ DataW.trod enc P w base (fun _ => true) held n f0.type [v0] = some y0 := by
 obtain ⟨cs, rfl, hsz⟩ := okWide_struct hs hv
 obtain ⟨c0, rfl⟩ : ∃ c0, cs = #[c0] := by
  have h1 : cs.size = 1 := hsz.trans hC
  match cs, h1 with | ⟨[c0]⟩, _ => exact ⟨c0, rfl⟩
 obtain ⟨fuel, hf⟩ := h
 obtain ⟨y0, n, hx, _, h0⟩ := trod_struct1 hs hf
 obtain ⟨o0, k0⟩ := hone_of hone 0 f0 rfl
 exact ⟨c0, y0, n, rfl, by simpa [Value.cells, o0, k0] using h0⟩
end
theorem own : ownKnob Try.prog.godebug = none := by kernel_rfl
theorem qKh : laidOutB Try.prog = true := by kernel_rfl
end Go.Proofs.Ytipkciildhghiaa.B

set_option linter.unusedVariables false
set_option linter.unusedSimpArgs false
namespace Go.Proofs.Ytipkciildhghiaa.B
open Go.RowKit Go.Proofs.YtipkciildhghiaaW.PrintWords
theorem qHd (l : List Int) (a : Int) (h0 : 0 ≤ a) (h1 : a ≤ 9223372036854775807) (hl : l.length ≤ 9223372036854775807) : z72.f l a = some (if a - l.length < 0 then -1 else a - l.length) := by
 unfold z72.f
 have e : wrap64 (a - (l.length : Int)) = a - l.length := qAo (by omega) (by omega)
 rw [e]
 split <;> rfl
theorem qHe (l : List (List Int)) (a : Int) (hw : WfLL l) (h0 : 0 ≤ a) (h1 : a ≤ 9223372036854775807) :
  (∃ t, Ev (fun k => z29.f k l a) t ∧ t < 0) ∨ (Ev (fun k => z29.f k l a) (a - l.length - total l) ∧ l.length + total l ≤ a) := by
 have loop : ∀ (d i : Nat) (b : Int), d + i = l.length → 0 ≤ b → b ≤ 9223372036854775807 → (∃ t, Ev (fun k => z29.l0 k l b (i : Int)) t ∧ t < 0) ∨ (Ev (fun k => z29.l0 k l b (i : Int)) (b - total (l.drop i)) ∧ total (l.drop i) ≤ b) := by
  intro d
  induction d with
  | zero =>
   intro i b hd hb0 hb1
   right
   have hi : l.length = i := by omega
   rw [List.drop_of_length_le (by omega)]
   refine ⟨Ev.step (fun k => z29.l0.eq_2 ..) (qAm (by omega) (qBu (Ev.now b) (by simp [total]))), by simpa [total] using hb0⟩
  | succ d ih =>
   intro i b hd hb0 hb1
   have hi : i < l.length := by omega
   have hdr : l.drop i = l.getD i [] :: l.drop (i + 1) := by
    rw [List.drop_eq_getElem_cons hi, List.getD_eq_getElem?_getD, List.getElem?_eq_getElem hi]; rfl
   have hm : l.getD i [] ∈ l := by
    rw [List.getD_eq_getElem?_getD, List.getElem?_eq_getElem hi]; exact List.getElem_mem hi
   have hrl := (hw.2 _ hm).1
   have hv := qHd (l.getD i []) b hb0 hb1 hrl
   have hrd : rI_ l (i : Int) = l.getD i [] := by simp [rI_]
   have hlen : l.length ≤ 9223372036854775807 := hw.1
   by_cases hneg : b - ((l.getD i []).length : Int) < 0
   ·left
    rw [if_pos hneg] at hv
    refine ⟨-1, Ev.step (fun k => z29.l0.eq_2 ..) (qAa (by omega) (qAa (by omega) ?_)), by omega⟩
    rw [hrd]
    exact Ev.bind (qA3 hv) (qAa (by omega) (Ev.now _))
   ·rw [if_neg hneg] at hv
    rcases ih (i + 1) (b - ((l.getD i []).length : Int)) (by omega) (by omega) (by omega) with ⟨t, ht, htn⟩ | ⟨ht, htb⟩
    ·left
     refine ⟨t, Ev.step (fun k => z29.l0.eq_2 ..) (qAa (by omega) (qAa (by omega) ?_)), htn⟩
     rw [hrd, qAp (by omega)]
     exact Ev.bind (qA3 hv) (qAm (by omega) ht)
    ·right
     rw [hdr]
     simp only [total]
     refine ⟨Ev.step (fun k => z29.l0.eq_2 ..) (qAa (by omega) (qAa (by omega) ?_)), by omega⟩
     rw [hrd, qAp (by omega)]
     exact Ev.bind (qA3 hv) (qAm (by omega) (qBu ht (by omega)))
 have hlen : l.length ≤ 9223372036854775807 := hw.1
 have e : wrap64 (a - (l.length : Int)) = a - l.length := qAo (by omega) (by omega)
 by_cases hneg : a - (l.length : Int) < 0
 ·left
  refine ⟨-1, ?_, by omega⟩
  unfold z29.f
  rw [e]
  exact qAa hneg (Ev.now _)
 ·rcases loop l.length 0 (a - l.length) (by omega) (by omega) (by omega) with ⟨t, ht, htn⟩ | ⟨ht, htb⟩
  ·left
   refine ⟨t, ?_, htn⟩
   unfold z29.f
   rw [e]
   exact qAm hneg ht
  ·right
   refine ⟨?_, by simp only [List.drop_zero] at htb; omega⟩
   unfold z29.f
   rw [e]
   exact qAm hneg ht
theorem qE0 (l : List Int) (hl : l.length ≤ 1048576) : Ev (fun k => z38.f k l) l := by
 have h := qBt (fun (s : List Int) (i : Nat) k => z38.l0 k l s (i : Int)) (fun i s => s.set i (l.getD i 0)) (fun i s => s = l.take i ++ List.replicate (l.length - i) 0) l.length 0 (List.replicate l.length 0) (by simp) (by
  intro j s _ hj hs
  refine ⟨fun r hr => Ev.step (fun k => z38.l0.eq_2 ..) (qAa (by omega) (qAa (by omega) (qAa ?_ ?_))), ?_⟩
  ·subst hs; simp only [List.length_append, List.length_take, List.length_replicate]; omega
  ·rw [qAp (by omega), qBa, Int.toNat_natCast]; exact hr
  ·subst hs; exact qGa l j 0 (by omega) _ rfl)
 unfold z38.f
 refine qAa (by omega) (qAa (by omega) ?_)
 rw [Int.toNat_natCast]
 refine h.1 l (Ev.step (fun k => z38.l0.eq_2 ..) (qAm (by omega) (qBu (Ev.now _) ?_)))
 rw [h.2]
 simp
theorem qHb (l : List (List Int)) (hl : l.length ≤ 1048576) (hr : ∀ x ∈ l, x.length ≤ 1048576) : Ev (fun k => z31.f k l) l := by
 have h := qBt (fun (s : List (List Int)) (i : Nat) k => z31.l0 k l s (i : Int)) (fun i s => s.set i (l.getD i [])) (fun i s => s = l.take i ++ List.replicate (l.length - i) []) l.length 0 (List.replicate l.length []) (by simp) (by
  intro j s _ hj hs
  have hm : l.getD j [] ∈ l := by
   rw [List.getD_eq_getElem?_getD, List.getElem?_eq_getElem (by omega)]; exact List.getElem_mem _
  have hrd : rI_ l (j : Int) = l.getD j [] := by simp [rI_]
  refine ⟨fun r hr' => Ev.step (fun k => z31.l0.eq_2 ..) (qAa (by omega) (qAa (by omega) ?_)), ?_⟩
  ·rw [hrd]
   refine Ev.bind (qE0 _ (hr _ hm)) (qAa ?_ ?_)
   ·subst hs; simp only [List.length_append, List.length_take, List.length_replicate]; omega
   ·rw [qAp (by omega), Int.toNat_natCast]; exact hr'
  ·subst hs; exact qGa l j [] (by omega) _ rfl)
 unfold z31.f
 refine qAa (by omega) (qAa (by omega) ?_)
 rw [Int.toNat_natCast]
 refine h.1 l (Ev.step (fun k => z31.l0.eq_2 ..) (qAm (by omega) (qBu (Ev.now _) ?_)))
 rw [h.2]
 simp
theorem qCz {α : Type} [BEq α] [LawfulBEq α] (l m : List α) (z : α) (h : l.length = m.length) : (List.range l.length).all (fun i => l.getD i z == m.getD i z) = (l == m) := by
 rw [Bool.eq_iff_iff, List.all_eq_true, beq_iff_eq]
 constructor
 ·intro e
  apply List.ext_getElem h
  intro i h1 h2
  have := e i (List.mem_range.2 h1)
  simpa [List.getD_eq_getElem?_getD, List.getElem?_eq_getElem h1, List.getElem?_eq_getElem h2] using this
 ·rintro rfl i _
  exact beq_self_eq_true _
theorem qEe {α : Type} [BEq α] [LawfulBEq α] {l m : List α} (h : l.length ≠ m.length) : (l == m) = false := by
 rw [Bool.eq_false_iff]; intro e; exact h (by rw [eq_of_beq e])
theorem qFk (l m : List Int) (hl : l.length < 9223372036854775807) : Ev (fun k => z19.f k l m) (l == m) := by
 unfold z19.f
 by_cases h : l.length = m.length
 ·refine qAa (by omega) ?_
  rw [← qCz l m 0 h]
  refine qGm (fun (i : Nat) k => z19.l0 k l m (i : Int)) _ l.length (fun j hj hp r hr => ?_) (fun j hj hp => ?_) ?_
  ·refine Ev.step (fun k => z19.l0.eq_2 ..) (qAa (by omega) (qAa (by omega) (qAa (by omega) (qAa ?_ ?_))))
   ·rw [qBa, qBa]; exact eq_of_beq hp
   ·rw [qAp (by omega)]; exact hr
  ·refine Ev.step (fun k => z19.l0.eq_2 ..) (qAa (by omega) (qAa (by omega) (qAa (by omega) (qAm ?_ (Ev.now _)))))
   rw [qBa, qBa]; exact ne_of_beq_false hp
  ·exact Ev.step (fun k => z19.l0.eq_2 ..) (qAm (by omega) (Ev.now _))
 ·rw [qEe h]
  exact qAm (by omega) (Ev.now _)
theorem qHx (l m : List (List Int)) (hl : l.length < 9223372036854775807) (hr : ∀ x ∈ l, x.length < 9223372036854775807) : Ev (fun k => z33.f k l m) (l == m) := by
 unfold z33.f
 by_cases h : l.length = m.length
 ·refine qAa (by omega) ?_
  rw [← qCz l m [] h]
  have hm : ∀ j, j < l.length → Ev (fun k => z19.f k (rI_ l (j : Int)) (rI_ m (j : Int))) (l.getD j [] == m.getD j []) := fun j hj => by
   have h1 : rI_ l (j : Int) = l.getD j [] := by simp [rI_]
   have h2 : rI_ m (j : Int) = m.getD j [] := by simp [rI_]
   rw [h1, h2]
   refine qFk _ _ (hr _ ?_)
   rw [List.getD_eq_getElem?_getD, List.getElem?_eq_getElem hj]; exact List.getElem_mem hj
  refine qGm (fun (i : Nat) k => z33.l0 k l m (i : Int)) _ l.length (fun j hj hp r hr => ?_) (fun j hj hp => ?_) ?_
  ·refine Ev.step (fun k => z33.l0.eq_2 ..) (qAa (by omega) (qAa (by omega) (qAa (by omega) (Ev.bind (hm j hj) (qAa hp ?_)))))
   rw [qAp (by omega)]; exact hr
  ·exact Ev.step (fun k => z33.l0.eq_2 ..) (qAa (by omega) (qAa (by omega) (qAa (by omega) (Ev.bind (hm j hj) (qAm (by rw [hp]; decide) (Ev.now _))))))
  ·exact Ev.step (fun k => z33.l0.eq_2 ..) (qAm (by omega) (Ev.now _))
 ·rw [qEe h]
  exact qAm (by omega) (Ev.now _)
end Go.Proofs.Ytipkciildhghiaa.B
set_option linter.unusedVariables false
set_option linter.unusedSimpArgs false
namespace Go.Proofs.Ytipkciildhghiaa.B
open Go.RowKit Go.Proofs.YtipkciildhghiaaW.PrintWords
theorem qEh : ∀ (l : List (List Int)) (x : List Int), x ∈ l → x.length ≤ total l
 | [], x, h => by cases h
 | y :: l, x, h => by
  simp only [total]
  rcases List.mem_cons.1 h with rfl | h
  ·have := qBs l; omega
  ·have := qEh l x h; omega
theorem qF5 (l : List (List Int)) (hl : l.length < 9223372036854775807) (hr : ∀ x ∈ l, x.length < 9223372036854775807) : Ev (fun k => z20.f k l l) true := by
 unfold z20.f
 exact Ev.bind (qBu (qHx l l hl hr) (beq_self_eq_true l)) (qAa rfl (Ev.now _))
theorem qHc (l : List (List Int)) (hl : l.length ≤ 1048576) (hr : ∀ x ∈ l, x.length ≤ 1048576) : Ev (fun k => z17.f k l) l := by
 unfold z17.f
 exact Ev.bind (qHb l hl hr) (Ev.now _)
theorem qHf (l : List (List Int)) (b : Int) (hw : WfLL l) (h0 : 0 ≤ b) (h1 : b ≤ 9223372036854775807) :
  (∃ t, Ev (fun k => z15.f k l b) t ∧ t < 0) ∨ (Ev (fun k => z15.f k l b) (b - l.length - total l) ∧ l.length + total l ≤ b) := by
 unfold z15.f
 rcases qHe l b hw h0 h1 with ⟨t, ht, hn⟩ | ⟨ht, hb⟩
 ·exact .inl ⟨-1, Ev.bind ht (qAa hn (Ev.now _)), by omega⟩
 ·exact .inr ⟨Ev.bind ht (qAm (by omega) (Ev.now _)), hb⟩
end Go.Proofs.Ytipkciildhghiaa.B
set_option linter.unusedVariables false
set_option linter.unusedSimpArgs false
namespace Go.Proofs.Ytipkciildhghiaa.B
open Go.RowKit Go.Proofs.YtipkciildhghiaaW.PrintWords
theorem qLq (l : List (List Int)) (a : Int) (h0 : 0 ≤ a) (h1 : a + total l ≤ 9223372036854775807) : laws_markInt64SS.f l a = some (a + total l, qBl l a) := by
 unfold laws_markInt64SS.f
 rw [if_pos ⟨h0, h1⟩]
theorem qEi : ∀ (l : List Int) (a : Int) (i : Nat), i < l.length → (qBh l a).getD i 0 = a + i
 | [], a, i, h => by simp at h
 | x :: l, a, 0, h => by simp [qBh]
 | x :: l, a, i + 1, h => by
  have := qEi l (a + 1) i (by simpa using h)
  simp only [qBh, List.getD_cons_succ, this]
  omega
theorem qG2 (l : List Int) (a : Int) (h0 : 0 ≤ a) (h1 : a + l.length ≤ 9223372036854775807) : Ev (fun k => z23.f k (qBh l a) a) (a + l.length) := by
 unfold z23.f
 have h := qDf (r := a + l.length) (fun (i : Nat) k => z23.l0 k (qBh l a) (a + i) (i : Int)) (fun _ => false) l.length 0 (fun j _ hj _ r hr => by
  refine Ev.step (fun k => z23.l0.eq_2 ..) ?_
  rw [qBa, qEi l a j (by omega), qCj, qAp (by omega), qAo (by omega) (by omega), show a + (j : Int) + 1 = a + ((j + 1 : Nat) : Int) by omega]
  (repeat (first | refine qAa (by omega) ?_ | refine qAm (by omega) ?_))
  exact hr) (fun _ _ _ h => by cases h) (fun _ => by
  refine Ev.step (fun k => z23.l0.eq_2 ..) ?_
  rw [qCj]
  exact qAm (by omega) (qBu (Ev.now _) (by omega)))
 simpa using h
end Go.Proofs.Ytipkciildhghiaa.B
set_option linter.unusedVariables false
set_option linter.unusedSimpArgs false
namespace Go.Proofs.Ytipkciildhghiaa.B
open Go.RowKit Go.Proofs.YtipkciildhghiaaW.PrintWords
theorem qD7 (l : List Int) (hl : l.length < 9223372036854775807) : Ev (fun k => z19.f k l l) true := qBu (qFk l l hl) (beq_self_eq_true l)
theorem qDc (l : List Int) (a : Int) (h0 : 0 ≤ a) (h1 : a + l.length ≤ 9223372036854775807) : Ev (fun k => z22.f k l a) (a + l.length, qBh l a) := by
 have := qCy l.length l [] l a rfl rfl h0 h1 (by omega)
 simpa [z22.f] using this
end Go.Proofs.Ytipkciildhghiaa.B
set_option linter.unusedVariables false
set_option linter.unusedSimpArgs false
namespace Go.Proofs.Ytipkciildhghiaa.B
open Go.RowKit Go.Proofs.YtipkciildhghiaaW.PrintWords
end Go.Proofs.Ytipkciildhghiaa.B
set_option linter.unusedVariables false
set_option linter.unusedSimpArgs false
namespace Go.Proofs.Ytipkciildhghiaa.B
open Go.RowKit Go.Proofs.YtipkciildhghiaaW.PrintWords
def filt (p : Nat → Bool) (n : Nat) : List Int := ((List.range n).filter p).map fun i : Nat => (i : Int)
theorem qDe (p : Nat → Bool) (n : Nat) : filt p (n + 1) = filt p n ++ if p n then [(n : Int)] else [] := by
 unfold filt
 rw [List.range_succ, List.filter_append, List.map_append]
 congr 1
 cases h : p n <;> simp [List.filter_cons, h]
theorem qIf (p : Nat → Bool) : ∀ n, (filt p n).length ≤ n
 | 0 => Nat.le_refl _
 | n + 1 => by
  have := qIf p n
  rw [qDe, List.length_append]
  split <;> simp <;> omega
theorem qGi {p q : Nat → Bool} : ∀ n, (∀ i, i < n → p i = q i) → filt p n = filt q n
 | 0, _ => rfl
 | n + 1, h => by rw [qDe, qDe, qGi n (fun i hi => h i (by omega)), h n (by omega)]
theorem qG0 {p : Nat → Bool} {n : Nat} {x : Int} : x ∈ filt p n ↔ ∃ i, i < n ∧ p i = true ∧ x = (i : Int) := by
 unfold filt
 rw [List.mem_map]
 constructor
 ·rintro ⟨i, hi, rfl⟩
  obtain ⟨h1, h2⟩ := List.mem_filter.1 hi
  exact ⟨i, List.mem_range.1 h1, h2, rfl⟩
 ·rintro ⟨i, hi, hp, rfl⟩
  exact ⟨i, List.mem_filter.2 ⟨List.mem_range.2 hi, hp⟩, rfl⟩
theorem qIh {β : Type} (L : List Int → Nat → Nat → Option β) (p : Nat → Bool) : ∀ (n : Nat), (∀ j s, j < n → s.length ≤ j → p j = true → Le (L (s ++ [(j : Int)]) (j + 1)) (L s j)) → (∀ j s, j < n → s.length ≤ j → p j = false → Le (L s (j + 1)) (L s j)) → Le (L (filt p n) n) (L [] 0)
 | 0, _, _ => Le.refl _
 | n + 1, h1, h0 => by
  have ih := qIh L p n (fun j s hj => h1 j s (by omega)) (fun j s hj => h0 j s (by omega))
  refine Le.trans ?_ ih
  rw [qDe]
  cases hp : p n with
  | true => exact h1 n _ (by omega) (qIf p n) hp
  | false => simpa using h0 n _ (by omega) (qIf p n) hp
theorem qGl {α β : Type} (L : List α → Nat → Nat → Option β) (g : Nat → α) : ∀ (n : Nat), (∀ j s, j < n → s = (List.range j).map g → Le (L (s ++ [g j]) (j + 1)) (L s j)) → Le (L ((List.range n).map g) n) (L [] 0)
 | 0, _ => Le.refl _
 | n + 1, h => by
  have ih := qGl L g n (fun j s hj => h j s (by omega))
  refine Le.trans ?_ ih
  rw [List.range_succ, List.map_append]
  exact h n _ (by omega) rfl
theorem qDt (L : Nat → Nat → Option Bool) (p : Nat → Bool) (b : Bool) : ∀ (n : Nat), (∀ j, j < n → (∀ m, m < j → p m = true) → p j = true → Le (L (j + 1)) (L j)) → (∀ j, j < n → (∀ m, m < j → p m = true) → p j = false → Ev (L j) false) → ((∀ m, m < n → p m = true) → Ev (L n) b) → Ev (L 0) ((List.range n).all p && b) := by
 intro n h1 h0 he
 have main : ∀ (d i : Nat), i + d = n → (∀ m, m < i → p m = true) → Ev (L i) ((List.range n).all p && b) := by
  intro d
  induction d with
  | zero =>
   intro i hi hall
   have : i = n := by omega
   subst this
   have e : (List.range i).all p = true := List.all_eq_true.2 (fun j hj => hall j (List.mem_range.1 hj))
   rw [e, Bool.true_and]; exact he hall
  | succ d ih =>
   intro i hi hall
   cases hp : p i with
   | true =>
    refine h1 i (by omega) hall hp _ (ih (i + 1) (by omega) (fun m hm => ?_))
    rcases Nat.lt_or_ge m i with hl | hg
    ·exact hall m hl
    ·have : m = i := by omega
     subst this; exact hp
   | false =>
    have e : (List.range n).all p = false := by
     rw [Bool.eq_false_iff]
     intro h
     have := List.all_eq_true.1 h i (List.mem_range.2 (by omega))
     rw [hp] at this; cases this
    rw [e, Bool.false_and]
    exact h0 i (by omega) hall hp
 exact main n 0 (by omega) (fun m hm => by omega)
theorem qKf {α β : Type} (z : α) (g : α → β) (l : List α) : l.map g = (List.range l.length).map fun j => g (l.getD j z) := by
 apply List.ext_getElem
 ·simp
 ·intro n h1 h2
  simp only [List.getElem_map, List.getElem_range, List.getD_eq_getElem?_getD]
  have : n < l.length := by simpa using h1
  simp [List.getElem?_eq_getElem this]
end Go.Proofs.Ytipkciildhghiaa.B
set_option linter.unusedVariables false
set_option linter.unusedSimpArgs false
namespace Go.Proofs.Ytipkciildhghiaa.B
open Go.RowKit Go.Proofs.YtipkciildhghiaaW.PrintWords
theorem qDh (a b c : Int) : z113.f a b c = some (decide (b ≤ a) && decide (a ≤ c)) := by
 unfold z113.f
 by_cases h : a ≥ b
 ·rw [if_pos h]; simp [h]
 ·rw [if_neg h]; simp; omega
theorem qFh (a b c : Int) : z79.f a b c = some (decide (b ≤ a) && decide (a ≤ c)) := by
 unfold z79.f
 by_cases h : a ≥ b
 ·rw [if_pos h]; simp [h]
 ·rw [if_neg h]; simp; omega
theorem qA9 {α : Type} {l : List α} {i : Nat} (z : α) (h : i < l.length) : l.getD i z ∈ l := by
 rw [List.getD_eq_getElem?_getD, List.getElem?_eq_getElem h]; exact List.getElem_mem h
theorem qBc (l : List (List Int)) (i : Nat) : rI_ l (i : Int) = l.getD i [] := by simp [rI_]
end Go.Proofs.Ytipkciildhghiaa.B
set_option linter.unusedVariables false
set_option linter.unusedSimpArgs false
namespace Go.Proofs.Ytipkciildhghiaa.B
open Go.RowKit Go.Proofs.YtipkciildhghiaaW.PrintWords
theorem qEz (l : List (List Int)) (k : Nat) (hk : k < l.length) : total (l.take (k + 1)) = total (l.take k) + (l.getD k []).length := by
 have ht : l.take (k + 1) = l.take k ++ [l.getD k []] := by
  rw [List.take_succ_eq_append_getElem hk, List.getD_eq_getElem?_getD, List.getElem?_eq_getElem hk]; rfl
 rw [ht, qCe]; simp [total]
theorem qDo (l : List (List Int)) (k : Nat) : total (l.take k) ≤ total l := by
 have h := qCe (l.take k) (l.drop k)
 rw [List.take_append_drop] at h
 have := qBs (l.drop k)
 omega
theorem qDp : ∀ l : List (List Int), (l.flatten.length : Int) = total l
 | [] => rfl
 | x :: l => by rw [List.flatten_cons, List.length_append]; have := qDp l; simp only [total]; omega
theorem qG3 (l : List (List Int)) (k : Nat) (hk : k < l.length) : (l.take (k + 1)).flatten = (l.take k).flatten ++ l.getD k [] := by
 have ht : l.take (k + 1) = l.take k ++ [l.getD k []] := by
  rw [List.take_succ_eq_append_getElem hk, List.getD_eq_getElem?_getD, List.getElem?_eq_getElem hk]; rfl
 rw [ht, List.flatten_append]; simp
theorem qKs (l : List (List Int)) (hl : l.length < 9223372036854775807) (ht : total l ≤ 17592186044415) : Ev (fun k => z156.f k l) l.flatten := by
 unfold z156.f
 -- the second loop
 have h1 : Ev (fun k => z156.l1 k ([] : List Int) l (l.length : Int) 0) l.flatten := by
  have := (qBt (fun (s : List Int) (i : Nat) k => z156.l1 k s l (l.length : Int) (i : Int)) (fun i s => s ++ l.getD i []) (fun i s => s = (l.take i).flatten) l.length 0 [] (by simp) (by
   intro j s _ hj hs
   have hj' : j < l.length := by omega
   refine ⟨fun r hr => ?_, by rw [qG3 l j hj', hs]⟩
   refine Ev.step (fun k => z156.l1.eq_2 ..) ?_
   rw [qBc, qAp (by omega)]
   have e1 := qEz l j hj'
   have e2 := qDo l (j + 1)
   have e3 := qDp (l.take j)
   rw [← hs] at e3
   exact qAa (by omega) (qAa (by omega) (qAa (by omega) (qAa (by omega) hr)))))
  refine this.1 _ ?_
  refine Ev.step (fun k => z156.l1.eq_2 ..) ?_
  refine qAm (by omega) (qBu (Ev.now _) ?_)
  rw [this.2, Nat.zero_add, List.take_length]
 have := (qBt (fun (s : Int) (i : Nat) k => z156.l0 k l s l (l.length : Int) (i : Int)) (fun i s => s + (l.getD i []).length) (fun i s => s = total (l.take i)) l.length 0 0 (by simp [total]) (by
  intro j s _ hj hs
  have hj' : j < l.length := by omega
  have e1 := qEz l j hj'
  have e2 := qDo l (j + 1)
  have e3 := qBs (l.take j)
  refine ⟨fun r hr => ?_, by rw [e1, hs]⟩
  refine Ev.step (fun k => z156.l0.eq_2 ..) ?_
  rw [qBc, qAp (by omega), qAo (x := s + ((l.getD j []).length : Int)) (by omega) (by omega)]
  exact qAa (by omega) (qAa (by omega) (qAa (by omega) (qAm (by omega) hr)))))
 refine this.1 _ ?_
 refine Ev.step (fun k => z156.l0.eq_2 ..) ?_
 have e4 : iter (fun i s => s + ((l.getD i []).length : Int)) 0 l.length 0 = total l := by
  rw [this.2, Nat.zero_add, List.take_length]
 rw [e4]
 have e5 := qBs l
 refine qAm (by omega) (Ev.bind (a := []) (qA3 ?_) h1)
 unfold slices_Grow_int64_int64.f
 rw [if_pos ⟨⟨rfl, e5⟩, ht⟩]
end Go.Proofs.Ytipkciildhghiaa.B
set_option linter.unusedVariables false
set_option linter.unusedSimpArgs false
namespace Go.Proofs.Ytipkciildhghiaa.B.SimT
def qDd : List Int → List Int → Bool
 | [], [] => false
 | [], _ :: _ => true
 | _ :: _, [] => false
 | a :: l, b :: m => if a < b then true else if b < a then false else qDd l m
theorem qEj : ∀ l, qDd l l = false
 | [] => rfl
 | a :: l => by simp [qDd, qEj l]
theorem qFf : ∀ {a b c : List Int}, qDd a b = true → qDd b c = true → qDd a c = true
 | [], [], _, h, _ => by cases h
 | [], _ :: _, [], _, h => by cases h
 | [], _ :: _, _ :: _, _, _ => rfl
 | _ :: _, [], _, h, _ => by cases h
 | _ :: _, _ :: _, [], _, h => by cases h
 | a :: l, b :: m, c :: o, h, h' => by
  simp only [qDd] at h h' ⊢
  by_cases h1 : a < b
  ·by_cases h2 : b < c
   ·rw [if_pos (by omega)]
   ·rw [if_neg h2] at h'
    by_cases h3 : c < b
    ·rw [if_pos h3] at h'; cases h'
    ·rw [if_pos (by omega)]
  ·rw [if_neg h1] at h
   by_cases h2 : b < a
   ·rw [if_pos h2] at h; cases h
   ·rw [if_neg h2] at h
    have e : a = b := by omega
    subst e
    by_cases h3 : a < c
    ·rw [if_pos h3]
    ·rw [if_neg h3] at h' ⊢
     by_cases h4 : c < a
     ·rw [if_pos h4] at h'; cases h'
     ·rw [if_neg h4] at h' ⊢
      exact qFf h h'
def slt (a b : List Int) : Bool := decide (a.length < b.length) || (decide (a.length = b.length) && qDd a b)
theorem qE5 (a b : List Int) : slt a b = true ↔ a.length < b.length ∨ (a.length = b.length ∧ qDd a b = true) := by simp [slt]
theorem qCq (a : List Int) : slt a a = false := by simp [slt, qEj]
theorem qE4 {a b c : List Int} (h : slt a b = true) (h' : slt b c = true) : slt a c = true := by
 rw [qE5] at *
 rcases h with h | ⟨h1, h2⟩ <;> rcases h' with h' | ⟨h1', h2'⟩
 ·exact .inl (by omega)
 ·exact .inl (by omega)
 ·exact .inl (by omega)
 ·exact .inr ⟨by omega, qFf h2 h2'⟩
theorem qJ2 {a b : List Int} (h : slt a b = true) : slt b a = false := by
 cases h' : slt b a with
 | false => rfl
 | true => have := qE4 h h'; rw [qCq] at this; cases this
def Srt (l : List (List Int)) : Prop := l.Pairwise fun a b => slt a b = true
theorem qE1 {l : List (List Int)} (h : Srt l) {i j : Nat} (hij : i < j) (hj : j < l.length) : slt (l.getD i []) (l.getD j []) = true := by
 have := List.pairwise_iff_getElem.1 h i j (by omega) hj hij
 simpa [List.getD_eq_getElem?_getD, List.getElem?_eq_getElem hj, List.getElem?_eq_getElem (show i < l.length by omega)] using this
theorem qI9 {l : List (List Int)} (h : ∀ i, i + 1 < l.length → slt (l.getD i []) (l.getD (i + 1) []) = true) : Srt l := by
 have main : ∀ d i, i + d + 1 < l.length → slt (l.getD i []) (l.getD (i + d + 1) []) = true := by
  intro d
  induction d with
  | zero => exact h
  | succ d ih =>
   intro i hi
   have h1 := ih i (by omega)
   have h2 := h (i + d + 1) (by omega)
   exact qE4 h1 h2
 refine List.pairwise_iff_getElem.2 (fun i j hi hj hij => ?_)
 have := main (j - i - 1) i (by omega)
 rw [show i + (j - i - 1) + 1 = j by omega] at this
 simpa [List.getD_eq_getElem?_getD, List.getElem?_eq_getElem hj, List.getElem?_eq_getElem hi] using this
def drp (s : List Int) (k : Nat) : List Int := s.take k ++ s.drop (k + 1)
theorem qKr : ∀ (s : List Int) (k : Nat), drp s k = s.eraseIdx k
 | [], k => by cases k <;> rfl
 | a :: s, 0 => by simp [drp]
 | a :: s, k + 1 => by
  have := qKr s k
  simp only [drp] at this
  simp [drp, this]
theorem qGn {s : List Int} {k : Nat} (h : k < s.length) : (drp s k).length = s.length - 1 := by
 rw [qKr, List.length_eraseIdx, if_pos h]
theorem qMw (s : List Int) (k : Nat) : (drp s k).Sublist s := by rw [qKr]; exact List.eraseIdx_sublist ..
theorem qMx {s : List Int} {k : Nat} (h : k < s.length) : slt (drp s k) s = true := by
 rw [qE5, qGn h]; exact .inl (by omega)
def qL9 (C : List (List Int)) : Prop := ∀ s, s ∈ C → 1 < s.length → ∀ k, k < s.length → drp s k ∈ C
end Go.Proofs.Ytipkciildhghiaa.B.SimT
-- written for this claim by a program (mp.py over the kit's printer)
namespace Go.Proofs.Ytipkciildhghiaa.B
open Go.RowKit Go.Proofs.YtipkciildhghiaaW.PrintWords Go.Proofs.YtipkciildhghiaaW.PrintLast Go.Proofs.YtipkciildhghiaaW.PrintMore
attribute [local go_sem] qAi qAg qAl qAk qAe qAd qAh qAf
set_option linter.unusedVariables false
set_option linter.unusedSimpArgs false

def z116.l0 : Nat → List Int → List Int → Int → Int → Option (Bool)
 | 0, _, _, _, _ => none
 | k + 1, x0, x1, x12, x13 => if x13 < x12 then (if 0 ≤ x13 then (if x13 < (x0.length : Int) then (if x13 < (x1.length : Int) then (if (rd x0 x13) = (rd x1 x13) then (z116.l0 k x0 x1 x12 (wrap64 (x13 + 1))) else (some false)) else (none)) else (none)) else (none)) else (some true)
def z116.f (k : Nat) (l0 : List Int) (l1 : List Int) : Option (Bool) := if (l0.length : Int) = (l1.length : Int) then (z116.l0 k l0 l1 (l0.length : Int) 0) else (some false)
set_option maxHeartbeats 8000000 in
set_option maxRecDepth 100000 in
theorem z116.calls (k : Nat) (A0 : Option Addr) (c0 : Nat) (l0 : List Int) (A1 : Option Addr) (c1 : Nat) (l1 : List Int) (r : Bool) (w : World) (hr0 : Kd.C (Kd.int .i64) w A0 l0.length l0) (hc0 : l0.length ≤ c0) (hr1 : Kd.C (Kd.int .i64) w A1 l1.length l1) (hc1 : l1.length ≤ c1) (h : z116.f k l0 l1 = some r) :
  Calls Try.prog 116 #[.slice A0 l0.length c0, .slice A1 l1.length c1] w fun e w' => e = .returned (.bool r) ∧ Dz w w' := by
 have HR0 := Zz.mk hr0
 have HC0 := Zz.mk hc0
 clear hr0 hc0
 have HR1 := Zz.mk hr1
 have HC1 := Zz.mk hc1
 clear hr1 hc1
 have H : (if (l0.length : Int) = (l1.length : Int) then (z116.l0 k l0 l1 (l0.length : Int) 0) else (some false)) = some r := h
 clear h
 by_cases c3 : (l0.length : Int) = (l1.length : Int)
 ·rw [if_pos c3] at H
  have c3b0 : ((l0.length : Int) == (l1.length : Int)) = true := beq_iff_eq.mpr c3
  have c3b1 : ((l0.length : Int) != (l1.length : Int)) = false := bne_eq_false_iff_eq.mpr c3
  have c3b2 : (l0.length == l1.length) = true := by first | simpa using c3 | (simp at c3 ⊢; omega)
  clear c3
  have H' := Zz.mk H
  clear H
  go_enter Try.func116, Try.ntmps116
  go_wp2
  repeat (go_quiet (fail); try go_wp2)
  go_loopg [13] k (fun kq v13 w' => ∃ (x13_1 : Int), v13 = .int .i64 x13_1 ∧ Zz (z116.l0 kq l0 l1 (l0.length : Int) x13_1 = some r) ∧ Zz (kq ≤ k) ∧ Dz w w')
  case atStart => exact ⟨(0), E_, H', ⟨Nat.le_refl _⟩, by repeat (first | exact Dz.refl _ | apply Dz.step)⟩
  case round =>
   clear H'
   (try clear c1);(try clear p2);(try clear c3);(try clear c3b0);(try clear c3b1);(try clear c3b2)
   obtain ⟨x13_1, rfl, HA, HK1, ⟨m1, rfl⟩⟩ := hrel
   cases gk with
   | zero => exact absurd HA.out (by simp [z116.l0])
   | succ k1 =>
    have H := HA.out
    clear HA
    simp only [z116.l0] at H
    by_cases c4 : x13_1 < (l0.length : Int)
    ·rw [if_pos c4] at H
     have c4b0 : decide (x13_1 < (l0.length : Int)) = true := decide_eq_true c4
     clear c4
     have c5 := O1_ H
     replace H := O2_ H
     have c5b0 := decide_eq_true c5
     clear c5
     have c6 := O1_ H
     replace H := O2_ H
     have c6b0 := decide_eq_true c6
     clear c6
     have c7 := O1_ H
     replace H := O2_ H
     have c7b0 := decide_eq_true c7
     clear c7
     by_cases c8 : (rd l0 x13_1) = (rd l1 x13_1)
     ·rw [if_pos c8] at H
      have c8b0 : ((rd l0 x13_1) == (rd l1 x13_1)) = true := beq_iff_eq.mpr c8
      have c8b1 : ((rd l0 x13_1) != (rd l1 x13_1)) = false := bne_eq_false_iff_eq.mpr c8
      clear c8
      have H' := Zz.mk H
      clear H
      have p101 : 0 ≤ (x13_1 : Int) := D_
      have q101 : x13_1 < (l0.length : Int) := D_
      obtain ⟨ad101, e101, hx101_0⟩ := Kd.at_int HR0.out x13_1 p101 q101
      cases e101
      replace p101 := eq_true p101
      replace q101 := eq_true q101
      have p102 : 0 ≤ (x13_1 : Int) := D_
      have q102 : x13_1 < (l1.length : Int) := D_
      obtain ⟨ad102, e102, hx102_0⟩ := Kd.at_int HR1.out x13_1 p102 q102
      cases e102
      replace p102 := eq_true p102
      replace q102 := eq_true q102
      go_wp2
      repeat (go_quiet (fail); try go_wp2)
      go_roundg k1
      case measure => exact Q1_ HK1
      case rel => exact ⟨(wrap64 (x13_1 + 1)), E_, H', ⟨Q1_ HK1⟩, by repeat (first | exact Dz.refl _ | apply Dz.step)⟩
     ·rw [if_neg c8] at H
      have c8b0 : ((rd l0 x13_1) == (rd l1 x13_1)) = false := beq_eq_false_iff_ne.mpr c8
      have c8b1 : ((rd l0 x13_1) != (rd l1 x13_1)) = true := bne_iff_ne.mpr c8
      obtain rfl := OI_ H
      have p101 : 0 ≤ (x13_1 : Int) := D_
      have q101 : x13_1 < (l0.length : Int) := D_
      obtain ⟨ad101, e101, hx101_0⟩ := Kd.at_int HR0.out x13_1 p101 q101
      cases e101
      replace p101 := eq_true p101
      replace q101 := eq_true q101
      have p102 : 0 ≤ (x13_1 : Int) := D_
      have q102 : x13_1 < (l1.length : Int) := D_
      obtain ⟨ad102, e102, hx102_0⟩ := Kd.at_int HR1.out x13_1 p102 q102
      cases e102
      replace p102 := eq_true p102
      replace q102 := eq_true q102
      go_wp2
      repeat (go_quiet (fail); try go_wp2)
      go_ret
      exact ⟨by first | rfl | (simp; done) | (simp [*]; done), by repeat (first | exact Dz.refl _ | apply Dz.step)⟩
    ·rw [if_neg c4] at H
     have c4b0 : decide (x13_1 < (l0.length : Int)) = false := decide_eq_false c4
     clear c4
     obtain rfl := OI_ H
     go_wp2
     repeat (go_quiet (fail); try go_wp2)
     go_ret
     exact ⟨by first | rfl | (simp; done) | (simp [*]; done), by repeat (first | exact Dz.refl _ | apply Dz.step)⟩
 ·rw [if_neg c3] at H
  have c3b0 : ((l0.length : Int) == (l1.length : Int)) = false := beq_eq_false_iff_ne.mpr c3
  have c3b1 : ((l0.length : Int) != (l1.length : Int)) = true := bne_iff_ne.mpr c3
  have c3b2 : (l0.length == l1.length) = false := by first | simpa using c3 | (simp at c3 ⊢; omega)
  obtain rfl := OI_ H
  go_enter Try.func116, Try.ntmps116
  go_wp2
  repeat (go_quiet (fail); try go_wp2)
  go_ret
  exact ⟨by first | rfl | (simp; done) | (simp [*]; done), by repeat (first | exact Dz.refl _ | apply Dz.step)⟩

end Go.Proofs.Ytipkciildhghiaa.B

set_option linter.unusedVariables false
set_option linter.unusedSimpArgs false
namespace Go.Proofs.Ytipkciildhghiaa.B
open Go.RowKit Go.Proofs.YtipkciildhghiaaW.PrintWords
theorem qJ5 (l m : List Int) (hl : l.length < 9223372036854775807) : Ev (fun k => z128.f k l m) (l == m) := by
 unfold z128.f
 by_cases h : l.length = m.length
 ·refine qAa (by omega) ?_
  rw [← qCz l m 0 h]
  refine qGm (fun (i : Nat) k => z128.l0 k l m (i : Int)) _ l.length (fun j hj hp r hr => ?_) (fun j hj hp => ?_) ?_
  ·refine Ev.step (fun k => z128.l0.eq_2 ..) ?_
   refine qAa (by omega) (qAa (by omega) (qAa (by omega) (qAa ?_ ?_)))
   ·rw [qBa, qBa]; exact eq_of_beq hp
   ·rw [qAp (by omega)]; exact hr
  ·refine Ev.step (fun k => z128.l0.eq_2 ..) ?_
   refine qAa (by omega) (qAa (by omega) (qAa (by omega) (qAm ?_ (Ev.now _))))
   rw [qBa, qBa]; exact ne_of_beq_false hp
  ·refine Ev.step (fun k => z128.l0.eq_2 ..) ?_
   exact qAm (by omega) (Ev.now _)
 ·rw [qEe h]
  exact qAm (by omega) (Ev.now _)
end Go.Proofs.Ytipkciildhghiaa.B
set_option linter.unusedVariables false
set_option linter.unusedSimpArgs false
namespace Go.Proofs.Ytipkciildhghiaa.B
open Go.RowKit Go.Proofs.YtipkciildhghiaaW.PrintWords
open SimT
def qCk : List Int → List Int → Int
 | [], [] => 0
 | [], _ :: _ => -1
 | _ :: _, [] => 1
 | a :: l, b :: m => if a < b then -1 else if a > b then 1 else qCk l m
theorem qGf : ∀ l m, qCk l m < 0 ↔ qDd l m = true
 | [], [] => by simp [qCk, qDd]
 | [], _ :: _ => by simp [qCk, qDd]
 | _ :: _, [] => by simp [qCk, qDd]
 | a :: l, b :: m => by
  simp only [qCk, qDd]
  by_cases h1 : a < b
  ·rw [if_pos h1, if_pos h1]; simp
  ·rw [if_neg h1, if_neg h1]
   by_cases h2 : b < a
   ·rw [if_pos h2, if_pos h2]; simp
   ·rw [if_neg h2, if_neg h2]; exact qGf l m
theorem qFg : ∀ l m, qCk l m = 0 ↔ l = m
 | [], [] => by simp [qCk]
 | [], _ :: _ => by simp [qCk]
 | _ :: _, [] => by simp [qCk]
 | a :: l, b :: m => by
  simp only [qCk]
  by_cases h1 : a < b
  ·rw [if_pos h1]
   refine ⟨fun h => by omega, fun h => ?_⟩
   injection h with h _; omega
  ·rw [if_neg h1]
   by_cases h2 : a > b
   ·rw [if_pos h2]
    refine ⟨fun h => by omega, fun h => ?_⟩
    injection h with h _; omega
   ·rw [if_neg h2, qFg l m]
    have : a = b := by omega
    subst this
    exact ⟨fun h => by rw [h], fun h => by injection h⟩
def icmp (a b : Int) : Int := if a < b then -1 else if a > b then 1 else 0
theorem qJj (a b : Int) : z154.f a b = some (icmp a b) := by
 unfold z154.f z181.f icmp
 simp only [bne_self_eq_false, Option.bind_some, Bool.false_eq_true, if_false]
 split
 ·rfl
 ·split <;> rfl
theorem qH0 (a b : Int) : z182.f a b = some (icmp a b) := by
 unfold z182.f z197.f icmp
 simp only [bne_self_eq_false, Option.bind_some, Bool.false_eq_true, if_false]
 split
 ·rfl
 ·split <;> rfl
theorem qDg {l : List Int} {i : Nat} (h : i < l.length) : l.drop i = l.getD i 0 :: l.drop (i + 1) := by
 rw [List.drop_eq_getElem_cons h, List.getD_eq_getElem?_getD, List.getElem?_eq_getElem h]; rfl
theorem qEo (l m : List Int) (hl : l.length < 9223372036854775807) (hm : m.length < 9223372036854775807) : Ev (fun k => z155.f k l m) (qCk l m) := by
 have main : ∀ (d i : Nat), i + d = l.length → i ≤ m.length → Ev (fun k => z155.l0 k l m l (l.length : Int) (i : Int)) (qCk (l.drop i) (m.drop i)) := by
  intro d
  induction d with
  | zero =>
   intro i hi him
   rw [List.drop_of_length_le (show l.length ≤ i by omega)]
   refine Ev.step (fun k => z155.l0.eq_2 ..) ?_
   refine qAm (by omega) ?_
   by_cases h : i < m.length
   ·rw [qDg h]
    exact qAa (by omega) (Ev.now _)
   ·rw [List.drop_of_length_le (show m.length ≤ i by omega)]
    exact qAm (by omega) (Ev.now _)
  | succ d ih =>
   intro i hi him
   rw [qDg (show i < l.length by omega)]
   refine Ev.step (fun k => z155.l0.eq_2 ..) ?_
   refine qAa (by omega) (qAa (by omega) (qAa (by omega) ?_))
   by_cases h : i < m.length
   ·rw [qDg h, qBa, qBa, qAp (by omega)]
    refine qAm (by omega) (qAa (by omega) (Ev.bind (qA3 (qH0 _ _)) ?_))
    simp only [qCk]
    unfold icmp
    by_cases h1 : l.getD i 0 < m.getD i 0
    ·rw [if_pos h1, if_pos h1]; exact qAm (by omega) (Ev.now _)
    ·rw [if_neg h1, if_neg h1]
     by_cases h2 : l.getD i 0 > m.getD i 0
     ·rw [if_pos h2, if_pos h2]; exact qAm (by omega) (Ev.now _)
     ·rw [if_neg h2, if_neg h2]; exact qAa rfl (ih (i + 1) (by omega) (by omega))
   ·rw [List.drop_of_length_le (show m.length ≤ i by omega)]
    exact qAa (by omega) (Ev.now _)
 have := main l.length 0 (by omega) (by omega)
 simpa [z155.f] using this
def scmp (a b : List Int) : Int := if icmp (a.length : Int) (b.length : Int) = 0 then qCk a b else icmp (a.length : Int) (b.length : Int)
theorem qEu (a b : List Int) : scmp a b < 0 ↔ slt a b = true := by
 rw [qE5]
 unfold scmp icmp
 rcases Nat.lt_trichotomy a.length b.length with h | h | h
 ·rw [if_pos (show (a.length : Int) < b.length by omega)]; simp [h]
 ·rw [if_neg (show ¬ (a.length : Int) < b.length by omega), if_neg (show ¬ (a.length : Int) > b.length by omega), if_pos rfl, qGf]
  constructor
  ·exact fun h' => .inr ⟨h, h'⟩
  ·rintro (h' | h')
   ·omega
   ·exact h'.2
 ·rw [if_neg (show ¬ (a.length : Int) < b.length by omega), if_pos (show (a.length : Int) > b.length by omega)]
  simp
  omega
theorem qHm (a b : List Int) : scmp a b = 0 ↔ a = b := by
 unfold scmp icmp
 rcases Nat.lt_trichotomy a.length b.length with h | h | h
 ·rw [if_pos (show (a.length : Int) < b.length by omega)]
  simp
  intro e; subst e; omega
 ·rw [if_neg (show ¬ (a.length : Int) < b.length by omega), if_neg (show ¬ (a.length : Int) > b.length by omega), if_pos rfl, qFg]
 ·rw [if_neg (show ¬ (a.length : Int) < b.length by omega), if_pos (show (a.length : Int) > b.length by omega)]
  simp
  intro e; subst e; omega
theorem qLy (a b : Int) : Ev (fun k => z153.f k [a, b]) (if a = 0 then b else a) := by
 unfold z153.f
 refine Ev.step (fun k => z153.l0.eq_2 ..) ?_
 refine qAa (by simp) (qAa (by omega) (qAa (by simp) ?_))
 simp only [rd, Int.toNat_zero, List.getD_cons_zero]
 by_cases h : a = 0
 ·rw [if_pos h]
  refine qAa h ?_
  refine Ev.step (fun k => z153.l0.eq_2 ..) ?_
  simp only [show wrap64 (0 + 1) = 1 by unfold wrap64; omega]
  refine qAa (by simp) (qAa (by omega) (qAa (by simp) ?_))
  simp only [rd, show Int.toNat 1 = 1 from rfl, List.getD_cons_succ, List.getD_cons_zero]
  by_cases h2 : b = 0
  ·refine qAa h2 ?_
   refine Ev.step (fun k => z153.l0.eq_2 ..) ?_
   simp only [show wrap64 (1 + 1) = 2 by unfold wrap64; omega]
   refine qAm (by simp) (qBu (Ev.now _) h2.symm)
  ·exact qAm h2 (Ev.now _)
 ·rw [if_neg h]
  exact qAm h (Ev.now _)
theorem qC2 (a b : List Int) (ha : a.length < 9223372036854775807) (hb : b.length < 9223372036854775807) : Ev (fun k => z109.f k a b) (scmp a b) := by
 unfold z109.f
 refine Ev.bind (qA3 (qJj _ _)) (Ev.bind (qEo a b ha hb) (Ev.bind (qLy _ _) ?_))
 exact Ev.now _
theorem qK2 (a b : List Int) (ha : a.length < 9223372036854775807) : Ev (fun k => z107.f k a b) (slt a b) := by
 unfold z107.f
 by_cases hab : a.length = b.length
 ·refine qAa (by omega) ?_
  have e : slt a b = qDd a b := by simp [slt, hab]
  rw [e]
  have main : ∀ (d i : Nat), i + d = a.length → Ev (fun k => z107.l0 k a b (i : Int)) (qDd (a.drop i) (b.drop i)) := by
   intro d
   induction d with
   | zero =>
    intro i hi
    rw [List.drop_of_length_le (show a.length ≤ i by omega), List.drop_of_length_le (show b.length ≤ i by omega)]
    refine Ev.step (fun k => z107.l0.eq_2 ..) ?_
    exact qAm (by omega) (Ev.now _)
   | succ d ih =>
    intro i hi
    rw [qDg (show i < a.length by omega), qDg (show i < b.length by omega)]
    refine Ev.step (fun k => z107.l0.eq_2 ..) ?_
    refine qAa (by omega) (qAa (by omega) (qAa (by omega) ?_))
    rw [qBa, qBa, qAp (by omega)]
    simp only [qDd]
    by_cases h : a.getD i 0 = b.getD i 0
    ·refine qAa h ?_
     rw [if_neg (by omega), if_neg (by omega)]
     exact ih (i + 1) (by omega)
    ·refine qAm h ?_
     by_cases h1 : a.getD i 0 < b.getD i 0
     ·rw [if_pos h1]; exact qBu (Ev.now _) (decide_eq_true h1)
     ·rw [if_neg h1, if_pos (by omega)]; exact qBu (Ev.now _) (decide_eq_false h1)
  have := main a.length 0 (by omega)
  simpa using this
 ·refine qAm (by omega) (qBu (Ev.now _) ?_)
  rw [Bool.eq_iff_iff, qE5, decide_eq_true_iff]
  constructor
  ·exact fun h => .inl (by omega)
  ·rintro (h | h)
   ·omega
   ·exact absurd h.1 hab
def idx (l : List (List Int)) (s : List Int) : Int := if s ∈ l then ((l.idxOf s : Nat) : Int) else -1
theorem qIe (l : List (List Int)) (s : List Int) : idx l s < 0 ↔ s ∉ l := by
 unfold idx
 by_cases h : s ∈ l
 ·rw [if_pos h]
  exact ⟨fun h' => by omega, fun h' => absurd h h'⟩
 ·rw [if_neg h]
  exact ⟨fun _ => h, fun _ => by omega⟩
theorem qFi {l : List (List Int)} {s : List Int} (h : s ∈ l) : ∃ i, i < l.length ∧ idx l s = (i : Int) ∧ l.getD i [] = s ∧ ∀ j, j < i → l.getD j [] ≠ s := by
 refine ⟨l.idxOf s, List.idxOf_lt_length_of_mem h, by unfold idx; rw [if_pos h], ?_, fun j hj e => ?_⟩
 ·have hl := List.idxOf_lt_length_of_mem h
  rw [List.getD_eq_getElem?_getD, List.getElem?_eq_getElem hl]
  exact List.getElem_idxOf hl
 ·have hl := List.idxOf_lt_length_of_mem h
  have := List.not_of_lt_findIdx (p := fun x => x == s) (xs := l) (i := j) hj
  have hjl : j < l.length := by omega
  rw [List.getD_eq_getElem?_getD, List.getElem?_eq_getElem hjl] at e
  simp at e this
  exact this e
theorem qL4 {l : List (List Int)} {s : List Int} {i : Nat} (hi : i < l.length) (he : l.getD i [] = s) (hb : ∀ j, j < i → l.getD j [] ≠ s) : idx l s = (i : Int) := by
 have hm : s ∈ l := he ▸ qA9 [] hi
 obtain ⟨j, hj, e1, e2, e3⟩ := qFi hm
 rw [e1]
 rcases Nat.lt_trichotomy i j with h | h | h
 ·exact absurd he (e3 i h)
 ·rw [h]
 ·exact absurd e2 (hb j h)
theorem qKo (l : List (List Int)) (s : List Int) (hl : l.length < 9223372036854775807) (hr : ∀ x ∈ l, x.length < 9223372036854775807) : Ev (fun k => z80.f k l s) (idx l s) := by
 unfold z80.f
 refine qDf (fun (i : Nat) k => z80.l0 k s (i : Int) l) (fun i => l.getD i [] == s) l.length 0 (fun j _ hj hp r hr' => ?_) (fun j _ hj hp hb => ?_) (fun hall => ?_)
 ·refine Ev.step (fun k => z80.l0.eq_2 ..) ?_
  refine qAa (by omega) (qAa (by omega) ?_)
  rw [qBc, qAp (by omega)]
  exact Ev.bind (qJ5 _ _ (hr _ (qA9 [] (by omega)))) (qAm (by rw [hp]; decide) hr')
 ·have e : idx l s = (j : Int) := qL4 (by omega) (eq_of_beq hp) (fun m hm he => by have := hb m (Nat.zero_le _) hm; rw [he] at this; simp at this)
  rw [e]
  refine Ev.step (fun k => z80.l0.eq_2 ..) ?_
  refine qAa (by omega) (qAa (by omega) ?_)
  rw [qBc]
  exact Ev.bind (qJ5 _ _ (hr _ (qA9 [] (by omega)))) (qAa hp (Ev.now _))
 ·have e : idx l s = -1 := by
   unfold idx
   rw [if_neg]
   intro hm
   obtain ⟨i, hi, _, e2, _⟩ := qFi hm
   have := hall i (Nat.zero_le _) (by omega)
   rw [e2] at this; simp at this
  rw [e]
  refine Ev.step (fun k => z80.l0.eq_2 ..) ?_
  exact qAm (by omega) (Ev.now _)
theorem qJ3 (l : List (List Int)) (s : List Int) (hl : l.length < 4611686018427387904) (hr : ∀ x ∈ l, x.length < 9223372036854775807) (hs : s.length < 9223372036854775807) (hsrt : Srt l) :
  ∃ t, Ev (fun k => z227.f k l s) t ∧ (if t.2 = true then t.1 else -1) = idx l s := by
 have lo_of : ∀ i, i < l.length → slt (l.getD i []) s = true → ∀ j, j ≤ i → slt (l.getD j []) s = true := fun i hi h j hj => by
  rcases Nat.eq_or_lt_of_le hj with rfl | hlt
  ·exact h
  ·exact qE4 (qE1 hsrt hlt hi) h
 have hi_of : ∀ i, i < l.length → slt (l.getD i []) s = false → ∀ j, i ≤ j → j < l.length → slt (l.getD j []) s = false := fun i hi h j hj hjl => by
  cases hh : slt (l.getD j []) s with
  | false => rfl
  | true => rw [lo_of j hjl hh i hj] at h; cases h
 have main : ∀ (d lo hi : Nat), lo ≤ hi → hi - lo ≤ d → hi ≤ l.length → (∀ j, j < lo → slt (l.getD j []) s = true) → (∀ j, hi ≤ j → j < l.length → slt (l.getD j []) s = false) →
   ∃ t, Ev (fun k => z227.l0 k l s (l.length : Int) (lo : Int) (hi : Int)) t ∧ (if t.2 = true then t.1 else -1) = idx l s := by
  intro d
  induction d with
  | zero =>
   intro lo hi h1 h2 h3 hlo hhi
   have : lo = hi := by omega
   subst this
   by_cases hn : lo < l.length
   ·refine ⟨((lo : Int), (scmp (l.getD lo []) s == 0)), ?_, ?_⟩
    ·refine Ev.step (fun k => z227.l0.eq_2 ..) ?_
     refine qAm (by omega) (qAa (by omega) (qAa (by omega) (qAa (by omega) ?_)))
     rw [qBc]
     exact Ev.bind (qC2 _ _ (hr _ (qA9 [] hn)) hs) (Ev.now _)
    ·by_cases he : l.getD lo [] = s
     ·have : (scmp (l.getD lo []) s == 0) = true := by rw [beq_iff_eq, qHm]; exact he
      simp only [this, if_true]
      exact (qL4 hn he (fun j hj e => by have := hlo j hj; rw [e, qCq] at this; cases this)).symm
     ·have : (scmp (l.getD lo []) s == 0) = false := by rw [beq_eq_false_iff_ne]; exact fun h => he ((qHm _ _).1 h)
      simp only [this, Bool.false_eq_true, if_false]
      have hnm : s ∉ l := fun hm => by
       obtain ⟨i, hi, _, e2, _⟩ := qFi hm
       rcases Nat.lt_trichotomy i lo with h | h | h
       ·have := hlo i h; rw [e2, qCq] at this; cases this
       ·subst h; exact he e2
       ·have h5 := qE1 hsrt h hi
        rw [e2] at h5
        have := hhi lo (Nat.le_refl _) hn
        rw [h5] at this; cases this
      unfold idx; rw [if_neg hnm]
   ·refine ⟨((lo : Int), false), ?_, ?_⟩
    ·refine Ev.step (fun k => z227.l0.eq_2 ..) ?_
     exact qAm (by omega) (qAm (by omega) (Ev.now _))
    ·simp only [Bool.false_eq_true, if_false]
     have hnm : s ∉ l := fun hm => by
      obtain ⟨i, hi, _, e2, _⟩ := qFi hm
      have := hlo i (by omega); rw [e2, qCq] at this; cases this
     unfold idx; rw [if_neg hnm]
  | succ d ih =>
   intro lo hi h1 h2 h3 hlo hhi
   by_cases hlt : lo < hi
   ·have em : wrap64 (IntKind.u64.wrap (wrap64 ((lo : Int) + (hi : Int))) / 2) = (((lo + hi) / 2 : Nat) : Int) := by
     have e1 : wrap64 ((lo : Int) + (hi : Int)) = (lo : Int) + (hi : Int) := qAo (by omega) (by omega)
     have e2 : IntKind.u64.wrap ((lo : Int) + (hi : Int)) = (lo : Int) + (hi : Int) := by
      simp [IntKind.wrap, IntKind.bits, IntKind.signed]; omega
     rw [e1, e2, qAo (by omega) (by omega)]; omega
    have hm : (lo + hi) / 2 < l.length := by omega
    have hmr := hr _ (qA9 ([] : List Int) hm)
    cases hc : slt (l.getD ((lo + hi) / 2) []) s with
    | true =>
     obtain ⟨t, ht, hv⟩ := ih ((lo + hi) / 2 + 1) hi (by omega) (by omega) h3 (fun j hj => lo_of _ hm hc j (by omega)) hhi
     refine ⟨t, ?_, hv⟩
     refine Ev.step (fun k => z227.l0.eq_2 ..) ?_
     rw [em, qBc, qAp (by omega)]
     refine qAa (by omega) (qAa (by omega) (qAa (by omega) (Ev.bind (qC2 _ _ hmr hs) (qAa ((qEu _ _).2 hc) ht))))
    | false =>
     obtain ⟨t, ht, hv⟩ := ih lo ((lo + hi) / 2) (by omega) (by omega) (by omega) hlo (fun j hj hjl => hi_of _ hm hc j hj hjl)
     refine ⟨t, ?_, hv⟩
     refine Ev.step (fun k => z227.l0.eq_2 ..) ?_
     rw [em, qBc, qAp (by omega)]
     refine qAa (by omega) (qAa (by omega) (qAa (by omega) (Ev.bind (qC2 _ _ hmr hs) (qAm (fun h => ?_) ht))))
     have := (qEu _ _).1 h
     rw [hc] at this; cases this
   ·exact ih lo hi h1 (by omega) h3 hlo hhi
 exact main l.length 0 l.length (by omega) (by omega) (Nat.le_refl _) (fun j hj => by omega) (fun j h1 h2 => by omega)
theorem qGg (l : List (List Int)) (s : List Int) (hl : l.length < 4611686018427387904) (hr : ∀ x ∈ l, x.length < 9223372036854775807) (hs : s.length < 9223372036854775807) (hsrt : Srt l) : Ev (fun k => z84.f k l s) (idx l s) := by
 obtain ⟨t, ht, hv⟩ := qJ3 l s hl hr hs hsrt
 unfold z84.f
 refine Ev.bind ht ?_
 rw [← hv]
 cases h : t.2 with
 | true => exact qAa rfl (qBu (Ev.now _) (by simp))
 | false => exact qAm (by simp) (qBu (Ev.now _) (by simp))
end Go.Proofs.Ytipkciildhghiaa.B
set_option linter.unusedVariables false
set_option linter.unusedSimpArgs false
namespace Go.Proofs.Ytipkciildhghiaa.B
open Go.RowKit Go.Proofs.YtipkciildhghiaaW.PrintWords
def qGy (l : List Int) (i : Nat) : Bool := i == 0 || decide (l.getD (i - 1) 0 < l.getD i 0)
def qC8 (l : List Int) : Bool := (List.range l.length).all (qGy l)
def qB1 (l : List Int) : Bool := (decide (1 ≤ l.length) && decide (l.length ≤ 4)) && (qC8 l && l.all fun v => decide (0 ≤ v) && decide (v ≤ 9))
theorem qIb (l : List Int) (hl : l.length < 9223372036854775807) : Ev (fun k => z125.f k l) (qC8 l) := by
 unfold z125.f
 rcases Nat.eq_zero_or_pos l.length with h0 | h0
 ·have : qC8 l = true := by unfold qC8; rw [h0]; rfl
  rw [this]
  refine Ev.step (fun k => z125.l0.eq_2 ..) ?_
  exact qAm (by omega) (Ev.now _)
 ·refine qDf (fun (i : Nat) k => z125.l0 k l (i : Int)) (fun i => !qGy l i) (l.length - 1) 1 (fun i hi hi2 hp r hr => ?_) (fun i hi hi2 hp _ => ?_) (fun hall => ?_)
  ·have hp : qGy l i = true := by simpa using hp
   unfold qGy at hp
   have e : (i == 0) = false := by simpa using (show i ≠ 0 by omega)
   rw [e, Bool.false_or] at hp
   have hp := of_decide_eq_true hp
   refine Ev.step (fun k => z125.l0.eq_2 ..) ?_
   rw [show wrap64 ((i : Int) - 1) = ((i - 1 : Nat) : Int) by rw [qAo (by omega) (by omega)]; omega, qBa, qBa, qAp (by omega)]
   exact qAa (by omega) (qAa (by omega) (qAa (by omega) (qAa (by omega) (qAm (by omega) hr))))
  ·have hp : qGy l i = false := by simpa using hp
   have hf : qC8 l = false := by
    unfold qC8
    rw [Bool.eq_false_iff]
    intro h
    have := List.all_eq_true.1 h i (List.mem_range.2 (by omega))
    rw [hp] at this; cases this
   rw [hf]
   unfold qGy at hp
   have e : (i == 0) = false := by simpa using (show i ≠ 0 by omega)
   rw [e, Bool.false_or] at hp
   have hp := of_decide_eq_false hp
   refine Ev.step (fun k => z125.l0.eq_2 ..) ?_
   rw [show wrap64 ((i : Int) - 1) = ((i - 1 : Nat) : Int) by rw [qAo (by omega) (by omega)]; omega, qBa, qBa]
   exact qAa (by omega) (qAa (by omega) (qAa (by omega) (qAa (by omega) (qAa (by omega) (Ev.now _)))))
  ·have hf : qC8 l = true := List.all_eq_true.2 (fun i hi => by
    have hi := List.mem_range.1 hi
    rcases Nat.eq_zero_or_pos i with h | h
    ·subst h; rfl
    ·simpa using hall i h (by omega))
   rw [hf, show 1 + (l.length - 1) = l.length by omega]
   refine Ev.step (fun k => z125.l0.eq_2 ..) ?_
   exact qAm (by omega) (Ev.now _)
theorem qF8 (v : Int) : z127.f v = some (!(decide (0 ≤ v) && decide (v ≤ 9))) := by
 unfold z127.f z83.f
 rw [qDh]; rfl
theorem qH4 (l : List Int) (hl : l.length < 9223372036854775807) : Ev (fun k => z225.f k l) (l.any fun v => !(decide (0 ≤ v) && decide (v ≤ 9))) := by
 obtain ⟨t, ht, hd⟩ := qC1 (l) 0 (fun i k => z226.l0 k (l) ((l).length : Int) (i : Int) ) (fun v => !(decide (0 ≤ v) && decide (v ≤ 9))) (fun j hj hp r hr => by
   refine Ev.step (fun k => z226.l0.eq_2 ..) ?_
   refine qAa (by omega) (qAa (by omega) (qAa (by omega) ?_))
   rw [qBa, qAp (by omega)]
   exact Ev.bind (qA3 (qF8 _)) (qAm (by rw [hp]; decide) hr)) (fun j hj hp => by
   refine Ev.step (fun k => z226.l0.eq_2 ..) ?_
   refine qAa (by omega) (qAa (by omega) (qAa (by omega) ?_))
   rw [qBa]
   exact Ev.bind (qA3 (qF8 _)) (qAa hp (Ev.now _))) (by
   refine Ev.step (fun k => z226.l0.eq_2 ..) ?_
   exact qAm (by omega) (Ev.now _))
 unfold z225.f z226.f
 refine Ev.bind ht (qBu (Ev.now _) hd)
theorem qF2 (l : List Int) (hl : l.length < 9223372036854775807) : Ev (fun k => z77.f k l) (qB1 l) := by
 unfold z77.f qB1
 by_cases h1 : 1 ≤ l.length
 ·rw [decide_eq_true h1, Bool.true_and]
  refine qAa (by omega) ?_
  by_cases h4 : l.length ≤ 4
  ·rw [decide_eq_true h4, Bool.true_and]
   refine qAa (by omega) (Ev.bind (qIb l hl) ?_)
   cases hr : qC8 l with
   | false => exact qAm (by decide) (Ev.now _)
   | true =>
    refine qAa rfl (Ev.bind (qH4 l hl) (qBu (Ev.now _) ?_))
    rw [List.any_eq_not_all_not]; simp
  ·rw [decide_eq_false h4, Bool.false_and]
   exact qAm (by omega) (Ev.now _)
 ·rw [decide_eq_false h1, Bool.false_and, Bool.false_and]
  exact qAm (by omega) (Ev.now _)
theorem qHg (l : List Int) (a b : Int) (hl : l.length < 9223372036854775807) : Ev (fun k => z123.f k l a b) (qC8 l && l.all fun v => decide (a ≤ v) && decide (v ≤ b)) := by
 have e : (qC8 l && l.all fun v => decide (a ≤ v) && decide (v ≤ b)) = (List.range l.length).all fun i => (decide (a ≤ l.getD i 0) && decide (l.getD i 0 ≤ b)) && qGy l i := by
  rw [← qD9 l 0, qC8, Bool.eq_iff_iff, Bool.and_eq_true, List.all_eq_true, List.all_eq_true, List.all_eq_true]
  constructor
  ·rintro ⟨h1, h2⟩ i hi
   rw [h1 i hi, h2 i hi]; rfl
  ·intro h
   exact ⟨fun i hi => ((Bool.and_eq_true _ _).mp (h i hi)).2, fun i hi => ((Bool.and_eq_true _ _).mp (h i hi)).1⟩
 rw [e]
 unfold z123.f
 refine qGm (fun (i : Nat) k => z123.l0 k l a b (i : Int)) _ l.length (fun i hi hp r hr => ?_) (fun i hi hp => ?_) ?_
 ·obtain ⟨h1, h2⟩ := (Bool.and_eq_true _ _).mp hp
  refine Ev.step (fun k => z123.l0.eq_2 ..) ?_
  rw [qBa, qAp (by omega)]
  refine qAa (by omega) (qAa (by omega) (Ev.bind (qA3 (qFh _ _ _)) (qAa h1 ?_)))
  rcases Nat.eq_zero_or_pos i with h | h
  ·exact qAm (by omega) hr
  ·have e : (i == 0) = false := by simpa using (show i ≠ 0 by omega)
   unfold qGy at h2
   rw [e, Bool.false_or] at h2
   have h2 := of_decide_eq_true h2
   rw [show wrap64 ((i : Int) - 1) = ((i - 1 : Nat) : Int) by rw [qAo (by omega) (by omega)]; omega, qBa]
   exact qAa (by omega) (qAa (by omega) (qAa (by omega) (qAm (by omega) hr)))
 ·refine Ev.step (fun k => z123.l0.eq_2 ..) ?_
  rw [qBa]
  refine qAa (by omega) (qAa (by omega) (Ev.bind (qA3 (qFh _ _ _)) ?_))
  cases h1 : decide (a ≤ l.getD i 0) && decide (l.getD i 0 ≤ b) with
  | false => exact qAm (by decide) (Ev.now _)
  | true =>
   rw [h1, Bool.true_and] at hp
   refine qAa rfl ?_
   rcases Nat.eq_zero_or_pos i with h | h
   ·subst h; cases hp
   ·have e : (i == 0) = false := by simpa using (show i ≠ 0 by omega)
    unfold qGy at hp
    rw [e, Bool.false_or] at hp
    have hp := of_decide_eq_false hp
    rw [show wrap64 ((i : Int) - 1) = ((i - 1 : Nat) : Int) by rw [qAo (by omega) (by omega)]; omega, qBa]
    exact qAa (by omega) (qAa (by omega) (qAa (by omega) (qAa (by omega) (Ev.now _))))
 ·refine Ev.step (fun k => z123.l0.eq_2 ..) ?_
  exact qAm (by omega) (Ev.now _)
theorem qFv (l : List Int) (hl : l.length < 9223372036854775807) : Ev (fun k => z73.f k l) (qB1 l) := by
 unfold z73.f qB1
 refine Ev.bind (qA3 (qFh _ _ _)) ?_
 have e : (decide ((1 : Int) ≤ (l.length : Int)) && decide ((l.length : Int) ≤ 4)) = (decide (1 ≤ l.length) && decide (l.length ≤ 4)) := by
  rw [Bool.eq_iff_iff]; simp; omega
 rw [e]
 cases h : decide (1 ≤ l.length) && decide (l.length ≤ 4) with
 | false => exact qAm (by decide) (Ev.now _)
 | true => exact qAa rfl (Ev.bind (qHg l 0 9 hl) (Ev.now _))
end Go.Proofs.Ytipkciildhghiaa.B
set_option linter.unusedVariables false
set_option linter.unusedSimpArgs false
namespace Go.Proofs.Ytipkciildhghiaa.B
open Go.RowKit Go.Proofs.YtipkciildhghiaaW.PrintWords
open SimT
def qBp (s : List Int) : List (List Int) := if 1 < s.length then (List.range s.length).map (drp s) else []
theorem qFj (s : List Int) : (qBp s).length ≤ s.length := by
 unfold qBp
 split <;> simp
theorem qHw {s x : List Int} (h : x ∈ qBp s) : x.length ≤ s.length := by
 unfold qBp at h
 split at h
 ·obtain ⟨i, hi, rfl⟩ := List.mem_map.1 h
  exact (qMw s i).length_le
 ·cases h
theorem qD6 {s x : List Int} : x ∈ qBp s ↔ 1 < s.length ∧ ∃ k, k < s.length ∧ drp s k = x := by
 unfold qBp
 split
 ·rename_i h
  rw [List.mem_map]
  exact ⟨fun ⟨k, hk, e⟩ => ⟨h, k, List.mem_range.1 hk, e⟩, fun ⟨_, k, hk, e⟩ => ⟨k, List.mem_range.2 hk, e⟩⟩
 ·rename_i h
  exact ⟨fun hx => (by cases hx), fun hx => absurd hx.1 h⟩
theorem qKq {s x : List Int} (h : x ∈ qBp s) : slt x s = true := by
 obtain ⟨_, k, hk, rfl⟩ := qD6.1 h
 exact qMx hk
theorem qGj (s : List Int) (hs : s.length ≤ 1000000000000) : Ev (fun k => z110.f k s) (qBp s) := by
 unfold z110.f
 by_cases h1 : 1 < s.length
 ·have := qGl (fun (a : List (List Int)) (i : Nat) k => z110.l0 k s a (s.length : Int) (i : Int)) (drp s) s.length (fun j a hj ha r hr => by
   refine Ev.step (fun k => z110.l0.eq_2 ..) ?_
   have hal : a.length = j := by rw [ha]; simp
   rw [qAp (by omega), Int.toNat_natCast, Int.toNat_natCast]
   refine qAa (by omega) (qAa (by omega) (qAa (by omega) (qAa (by omega) (qAa (by omega) (qAa (by omega) (Ev.bind (qKs _ (by simp) ?_) (qAa (by omega) ?_)))))))
   ·have h2 : (s.take j).length ≤ s.length := (List.take_sublist j s).length_le
    have h3 : (s.drop (j + 1)).length ≤ s.length := (List.drop_sublist (j + 1) s).length_le
    simp only [total]; omega
   ·have e : [s.take j, s.drop (j + 1)].flatten = drp s j := by simp [drp]
    rw [e]; exact hr)
  have e : qBp s = (List.range s.length).map (drp s) := by unfold qBp; rw [if_pos h1]
  rw [e]
  refine this _ ?_
  refine Ev.step (fun k => z110.l0.eq_2 ..) ?_
  exact qAm (by omega) (Ev.now _)
 ·have e : qBp s = [] := by unfold qBp; rw [if_neg h1]
  rw [e]
  refine qDf (fun (i : Nat) k => z110.l0 k s ([] : List (List Int)) (s.length : Int) (i : Int)) (fun _ => false) s.length 0 (fun j _ hj _ r hr => ?_) (fun _ _ _ h => by cases h) (fun _ => ?_)
  ·refine Ev.step (fun k => z110.l0.eq_2 ..) ?_
   rw [qAp (by omega)]
   exact qAa (by omega) (qAm (by omega) hr)
  ·refine Ev.step (fun k => z110.l0.eq_2 ..) ?_
   rw [Nat.zero_add]
   exact qAm (by omega) (Ev.now _)
theorem qIy (s : List Int) (i : Nat) (hi : i < s.length) (hs : s.length ≤ 1000000000000) : z108.f s (i : Int) = some (drp s i) := by
 unfold z108.f z82.f
 have h2 : (s.take i).length ≤ s.length := (List.take_sublist i s).length_le
 have h3 : (s.drop (i + 1)).length ≤ s.length := (List.drop_sublist (i + 1) s).length_le
 rw [qAp (by omega), Int.toNat_natCast, Int.toNat_natCast, if_pos (by omega), if_pos (by omega)]
 simp only [Option.bind_some, List.nil_append, List.length_nil, Nat.zero_add]
 rw [if_pos (by omega)]
 simp only [Option.bind_some]
 rw [if_pos (by omega), if_pos (by omega), if_pos (by omega)]
 rfl
def okAt (C : List (List Int)) (D : List (List Int)) (i : Nat) : Bool := (qB1 (C.getD i []) && (i == 0 || slt (C.getD (i - 1) []) (C.getD i []))) && (qBp (C.getD i [])).all fun f => decide (f ∈ D)
def okC (C : List (List Int)) : Bool := decide (C.length ≤ 48) && (List.range C.length).all (okAt C C)
theorem qDl {C D : List (List Int)} {i : Nat} : okAt C D i = true ↔ qB1 (C.getD i []) = true ∧ (i = 0 ∨ slt (C.getD (i - 1) []) (C.getD i []) = true) ∧ ∀ f, f ∈ qBp (C.getD i []) → f ∈ D := by
 unfold okAt
 rw [Bool.and_eq_true, Bool.and_eq_true, Bool.or_eq_true, List.all_eq_true, beq_iff_eq]
 simp only [decide_eq_true_eq]
 exact ⟨fun ⟨⟨a, b⟩, c⟩ => ⟨a, b, c⟩, fun ⟨a, b, c⟩ => ⟨⟨a, b⟩, c⟩⟩
theorem qEs {C D : Nat → List (List Int)} {L : List (List Int)} (n : Nat) (hn : n ≤ L.length) (h : ∀ m, m < n → okAt L (D m) m = true) : Srt (L.take n) := by
 refine qI9 (fun i hi => ?_)
 rw [List.length_take] at hi
 have hi' : i + 1 < n := by omega
 obtain ⟨_, h2, _⟩ := qDl.1 (h (i + 1) hi')
 have e1 : (L.take n).getD i [] = L.getD i [] := by
  rw [List.getD_eq_getElem?_getD, List.getD_eq_getElem?_getD, List.getElem?_take, if_pos (by omega)]
 have e2 : (L.take n).getD (i + 1) [] = L.getD (i + 1) [] := by
  rw [List.getD_eq_getElem?_getD, List.getD_eq_getElem?_getD, List.getElem?_take, if_pos hi']
 rw [e1, e2]
 rcases h2 with h2 | h2
 ·omega
 ·exact h2
theorem qFc {C : List (List Int)} : okC C = true ↔ C.length ≤ 48 ∧ Srt C ∧ (∀ s, s ∈ C → qB1 s = true) ∧ qL9 C := by
 unfold okC
 rw [Bool.and_eq_true, decide_eq_true_iff, List.all_eq_true]
 constructor
 ·rintro ⟨h1, h2⟩
  have h2' : ∀ m, m < C.length → okAt C C m = true := fun m hm => h2 m (List.mem_range.2 hm)
  have hs := qEs (C := fun _ => C) (D := fun _ => C) C.length (Nat.le_refl _) h2'
  rw [List.take_length] at hs
  refine ⟨h1, hs, fun s hs => ?_, fun s hs hl k hk => ?_⟩
  ·obtain ⟨i, hi, e⟩ := List.mem_iff_getElem.1 hs
   have := (qDl.1 (h2' i hi)).1
   rw [List.getD_eq_getElem?_getD, List.getElem?_eq_getElem hi] at this
   simpa [e] using this
  ·obtain ⟨i, hi, e⟩ := List.mem_iff_getElem.1 hs
   have := (qDl.1 (h2' i hi)).2.2
   rw [List.getD_eq_getElem?_getD, List.getElem?_eq_getElem hi] at this
   simp only [Option.getD_some, e] at this
   exact this _ (qD6.2 ⟨hl, k, hk, rfl⟩)
 ·rintro ⟨h1, h2, h3, h4⟩
  refine ⟨h1, fun i hi => qDl.2 ⟨h3 _ (qA9 [] (List.mem_range.1 hi)), ?_, fun f hf => ?_⟩⟩
  ·rcases Nat.eq_zero_or_pos i with h | h
   ·exact .inl h
   ·exact .inr (qE1 h2 (by omega) (List.mem_range.1 hi))
  ·obtain ⟨hl, k, hk, rfl⟩ := qD6.1 hf
   exact h4 _ (qA9 [] (List.mem_range.1 hi)) hl k hk
theorem qE6 {s : List Int} (h : qB1 s = true) : 1 ≤ s.length ∧ s.length ≤ 4 := by
 unfold qB1 at h
 rw [Bool.and_eq_true, Bool.and_eq_true, decide_eq_true_iff, decide_eq_true_iff] at h
 exact h.1
theorem qHs {C : List (List Int)} (hs : Srt C) {i : Nat} (hi : i < C.length) : okAt C (C.take i) i = okAt C C i := by
 rw [Bool.eq_iff_iff, qDl, qDl]
 refine and_congr Iff.rfl (and_congr Iff.rfl ⟨fun h f hf => List.mem_of_mem_take (h f hf), fun h f hf => ?_⟩)
 obtain ⟨j, hj, e⟩ := List.mem_iff_getElem.1 (h f hf)
 have hlt := qKq hf
 have ej : C.getD j [] = f := by rw [List.getD_eq_getElem?_getD, List.getElem?_eq_getElem hj]; exact e
 rcases Nat.lt_or_ge j i with hl | hg
 ·rw [List.mem_iff_getElem]
  exact ⟨j, by rw [List.length_take]; omega, by rw [List.getElem_take]; exact e⟩
 ·rcases Nat.eq_or_lt_of_le hg with rfl | hl
  ·rw [ej, qCq] at hlt; cases hlt
  ·have := qE1 hs hl hj
   rw [ej] at this
   rw [qJ2 this] at hlt; cases hlt
theorem qMj (C : List (List Int)) : ((List.range C.length).all (fun i => okAt C (C.take i) i) && decide (C.length ≤ 48)) = okC C := by
 unfold okC
 rw [Bool.and_comm]
 congr 1
 rw [Bool.eq_iff_iff, List.all_eq_true, List.all_eq_true]
 constructor
 ·intro h
  have hs := qEs (C := fun _ => C) (D := fun m => C.take m) (L := C) C.length (Nat.le_refl _) (fun m hm => h m (List.mem_range.2 hm))
  rw [List.take_length] at hs
  intro i hi
  rw [← qHs hs (List.mem_range.1 hi)]; exact h i hi
 ·intro h
  have hs := qEs (C := fun _ => C) (D := fun _ => C) (L := C) C.length (Nat.le_refl _) (fun m hm => h m (List.mem_range.2 hm))
  rw [List.take_length] at hs
  intro i hi
  rw [qHs hs (List.mem_range.1 hi)]; exact h i hi
theorem qGe (C : List (List Int)) (i : Nat) (hi : i ≤ C.length) (hl : C.length < 4611686018427387904) (hr : ∀ x ∈ C, x.length < 9223372036854775807) (hs : Srt (C.take i)) (f : List Int) (hf : f.length < 9223372036854775807) :
  Ev (fun k => z111.f k f C (i : Int)) (!decide (f ∈ C.take i)) := by
 unfold z111.f
 rw [Int.toNat_natCast]
 have hlt : (C.take i).length ≤ C.length := (List.take_sublist i C).length_le
 refine qAa (by omega) (qAa (by omega) (Ev.bind (qGg (C.take i) f (by omega) (fun x hx => hr x (List.mem_of_mem_take hx)) hf hs) (qBu (Ev.now _) ?_)))
 rw [Bool.eq_iff_iff, decide_eq_true_iff, qIe]; simp
theorem qG7 (C : List (List Int)) (n0 : Nat) (hi : n0 ≤ C.length) (hl : C.length < 4611686018427387904) (hrr : ∀ x ∈ C, x.length < 9223372036854775807) (hs : Srt (C.take n0)) (l : List (List Int)) (hll : l.length < 9223372036854775807) (hf : ∀ x ∈ l, x.length < 9223372036854775807) :
  Ev (fun k => z224.f k l C (n0 : Int)) (l.any fun f => !decide (f ∈ C.take n0)) := by
 obtain ⟨t, ht, hd⟩ := qC1 (l) [] (fun i k => z228.l0 k (l) ((l).length : Int) (i : Int) C (n0 : Int)) (fun f => !decide (f ∈ C.take n0)) (fun j hj hp r hr => by
   refine Ev.step (fun k => z228.l0.eq_2 ..) ?_
   refine qAa (by omega) (qAa (by omega) (qAa (by omega) ?_))
   rw [qBc, qAp (by omega)]
   exact Ev.bind (qGe C n0 hi hl hrr hs _ (hf _ (qA9 [] hj))) (qAm (by rw [hp]; decide) hr)) (fun j hj hp => by
   refine Ev.step (fun k => z228.l0.eq_2 ..) ?_
   refine qAa (by omega) (qAa (by omega) (qAa (by omega) ?_))
   rw [qBc]
   exact Ev.bind (qGe C n0 hi hl hrr hs _ (hf _ (qA9 [] hj))) (qAa hp (Ev.now _))) (by
   refine Ev.step (fun k => z228.l0.eq_2 ..) ?_
   exact qAm (by omega) (Ev.now _))
 unfold z224.f z228.f
 refine Ev.bind ht (qBu (Ev.now _) hd)
theorem qHu (C : List (List Int)) (hl : C.length ≤ 1048576) (hr : ∀ x ∈ C, x.length ≤ 1048576) : Ev (fun k => z58.f k C) (okC C) := by
 rw [← qMj]
 unfold z58.f
 have hr' : ∀ x ∈ C, x.length < 9223372036854775807 := fun x hx => by have := hr x hx; omega
 -- the rest of a round
 have hrest : ∀ (j : Nat) (b : Bool), j < C.length → Srt (C.take j) → ∀ v, (b = false → ((qBp (C.getD j [])).all fun f => decide (f ∈ C.take j)) = true → Ev (fun k => z58.l0 k C (C.length : Int) ((j + 1 : Nat) : Int) C) v) → (b = true ∨ ((qBp (C.getD j [])).all fun f => decide (f ∈ C.take j)) = false → v = false) →
   Ev (fun k => z58.j1 k (C.getD j []) C (C.length : Int) (j : Int) b C (j : Int)) v := by
  intro j b hj hs v h1 h2
  have hrow := hr _ (qA9 ([] : List Int) hj)
  refine Ev.step (fun k => z58.j1.eq_2 ..) ?_
  cases b with
  | true => rw [h2 (.inl rfl)]; exact qAa rfl (Ev.now _)
  | false =>
   refine qAm (by decide) (Ev.bind (qGj _ (by omega)) (Ev.bind (qG7 C j (by omega) (by omega) hr' hs _ (by have := qFj (C.getD j []); omega) (fun x hx => by have := qHw hx; omega)) ?_))
   cases ha : (qBp (C.getD j [])).all fun f => decide (f ∈ C.take j) with
   | true =>
    refine qAm ?_ ?_
    ·rw [List.any_eq_not_all_not]; simp only [Bool.not_not, ha]; decide
    ·rw [qAp (by omega)]; exact h1 rfl ha
   | false =>
    rw [h2 (.inr ha)]
    refine qAa ?_ (Ev.now _)
    rw [List.any_eq_not_all_not]; simp only [Bool.not_not, ha]; rfl
 have hround : ∀ (j : Nat), j < C.length → (∀ m, m < j → okAt C (C.take m) m = true) → ∀ v, (okAt C (C.take j) j = true → Ev (fun k => z58.l0 k C (C.length : Int) ((j + 1 : Nat) : Int) C) v) → (okAt C (C.take j) j = false → v = false) →
   Ev (fun k => z58.l0 k C (C.length : Int) (j : Int) C) v := by
  intro j hj hall v h1 h2
  have hs : Srt (C.take j) := qEs (C := fun _ => C) (D := fun m => C.take m) j (by omega) hall
  have hrow := hr _ (qA9 ([] : List Int) hj)
  have key := hrest j
  refine Ev.step (fun k => z58.l0.eq_2 ..) ?_
  rw [qBc]
  refine qAa (by omega) (qAa (by omega) (qAa (by omega) (Ev.bind (qF2 _ (by omega)) ?_)))
  unfold okAt at h1 h2
  cases hi : qB1 (C.getD j []) with
  | false =>
   rw [hi] at h1 h2
   refine qAm (by decide) (key true hj hs v (fun h => by cases h) (fun _ => h2 rfl))
  | true =>
   rw [hi] at h1 h2
   refine qAa rfl ?_
   rcases Nat.eq_zero_or_pos j with h0 | h0
   ·have e : (j == 0) = true := by simpa using h0
    rw [e] at h1 h2
    simp only [Bool.true_or, Bool.true_and] at h1 h2
    exact qAm (by omega) (key false hj hs v (fun _ ha => h1 ha) (fun h => h2 (h.elim (fun h => by cases h) id)))
   ·have e : (j == 0) = false := by simpa using (show j ≠ 0 by omega)
    rw [e] at h1 h2
    simp only [Bool.false_or, Bool.true_and] at h1 h2
    rw [show wrap64 ((j : Int) - 1) = ((j - 1 : Nat) : Int) by rw [qAo (by omega) (by omega)]; omega, qBc]
    have hrow2 := hr _ (qA9 ([] : List Int) (show j - 1 < C.length by omega))
    refine qAa (by omega) (qAa (by omega) (qAa (by omega) (Ev.bind (qC2 _ _ (by omega) (by omega)) ?_)))
    cases hc : slt (C.getD (j - 1) []) (C.getD j []) with
    | true =>
     have e2 : decide (scmp (C.getD (j - 1) []) (C.getD j []) ≥ 0) = false := decide_eq_false (by have := (qEu _ _).2 hc; omega)
     rw [e2]
     rw [hc] at h1 h2
     simp only [Bool.true_and] at h1 h2
     exact key false hj hs v (fun _ ha => h1 ha) (fun h => h2 (h.elim (fun h => by cases h) id))
    | false =>
     have e2 : decide (scmp (C.getD (j - 1) []) (C.getD j []) ≥ 0) = true := decide_eq_true (by
      have : ¬ scmp (C.getD (j - 1) []) (C.getD j []) < 0 := fun h => by rw [(qEu _ _).1 h] at hc; cases hc
      omega)
     rw [e2]
     rw [hc] at h2
     exact key true hj hs v (fun h => by cases h) (fun _ => h2 rfl)
 refine qDt (fun (i : Nat) k => z58.l0 k C (C.length : Int) (i : Int) C) (fun i => okAt C (C.take i) i) (decide (C.length ≤ 48)) C.length (fun j hj hall hp r hr' => ?_) (fun j hj hall hp => ?_) (fun _ => ?_)
 ·exact hround j hj hall r (fun _ => hr') (fun h => by rw [hp] at h; cases h)
 ·exact hround j hj hall false (fun h => by rw [hp] at h; cases h) (fun _ => rfl)
 ·refine Ev.step (fun k => z58.l0.eq_2 ..) ?_
  exact qAm (by omega) (qBu (Ev.now _) (by rw [Bool.eq_iff_iff, decide_eq_true_iff, decide_eq_true_iff]; omega))
theorem qJv (C : List (List Int)) (hl : C.length ≤ 1048576) (hr : ∀ x ∈ C, x.length ≤ 1048576) : Ev (fun k => z56.f k C) (okC C) := by
 unfold z56.f okC
 have hr' : ∀ x ∈ C, x.length < 9223372036854775807 := fun x hx => by have := hr x hx; omega
 by_cases h48 : C.length ≤ 48
 ·rw [decide_eq_true h48, Bool.true_and]
  refine qAm (by omega) ?_
  -- the qBp
  have hfaces : ∀ (j : Nat), j < C.length → ∀ v, (((qBp (C.getD j [])).all fun f => decide (f ∈ C)) = true → Ev (fun k => z56.l0 k ((j + 1 : Nat) : Int) C) v) → (((qBp (C.getD j [])).all fun f => decide (f ∈ C)) = false → v = false) →
    Ev (fun k => z56.l1 k (j : Int) (C.getD j []) 0 C) v := by
   intro j hj v h1 h2
   have hrow := hr _ (qA9 ([] : List Int) hj)
   by_cases hlen : 1 < (C.getD j []).length
   ·have hstep : ∀ (m : Nat), m < (C.getD j []).length → ∀ u, (drp (C.getD j []) m ∈ C → Ev (fun k => z56.l1 k (j : Int) (C.getD j []) ((m + 1 : Nat) : Int) C) u) → (drp (C.getD j []) m ∉ C → u = false) → Ev (fun k => z56.l1 k (j : Int) (C.getD j []) (m : Int) C) u := by
     intro m hm u g1 g2
     refine Ev.step (fun k => z56.l1.eq_2 ..) ?_
     refine qAa (by omega) ?_
     refine Ev.step (fun k => z56.j3.eq_2 ..) ?_
     refine qAa (decide_eq_true (by omega)) (Ev.bind (qA3 (qIy _ m hm (by omega))) (Ev.bind (qKo C _ (by omega) hr') ?_))
     by_cases hin : drp (C.getD j []) m ∈ C
     ·rw [qAp (by omega)]
      exact qAm (fun h => (qIe C _).1 h hin) (g1 hin)
     ·rw [g2 hin]
      exact qAa ((qIe C _).2 hin) (Ev.now _)
    have hall := qDt (fun (m : Nat) k => (z56.l1 k (j : Int) (C.getD j []) (m : Int) C).map fun b => b) (fun m => decide (drp (C.getD j []) m ∈ C)) v (C.getD j []).length ?_ ?_ ?_
    ·have e : ((List.range (C.getD j []).length).all (fun m => decide (drp (C.getD j []) m ∈ C)) && v) = v := by
      cases v with
      | false => simp
      | true =>
       have : ((qBp (C.getD j [])).all fun f => decide (f ∈ C)) = true := by
        cases hc : (qBp (C.getD j [])).all fun f => decide (f ∈ C) with
        | true => rfl
        | false => have := h2 hc; cases this
       unfold qBp at this
       rw [if_pos hlen, List.all_map] at this
       rw [Bool.and_true]; exact this
     rw [e] at hall
     simpa using hall
    ·intro m hm _ hp u hu
     simp only [Option.map_id'] at hu ⊢
     exact hstep m hm u (fun _ => hu) (fun h => absurd (of_decide_eq_true hp) h)
    ·intro m hm _ hp
     simp only [Option.map_id']
     exact hstep m hm false (fun h => absurd h (of_decide_eq_false hp)) (fun _ => rfl)
    ·intro hall
     simp only [Option.map_id']
     have hfa : ((qBp (C.getD j [])).all fun f => decide (f ∈ C)) = true := by
      unfold qBp
      rw [if_pos hlen, List.all_map, List.all_eq_true]
      exact fun m hm => hall m (List.mem_range.1 hm)
     refine Ev.step (fun k => z56.l1.eq_2 ..) ?_
     refine qAm (by omega) ?_
     refine Ev.step (fun k => z56.j3.eq_2 ..) ?_
     rw [qAp (i := j) (by omega)]
     exact qAm (by decide) (h1 hfa)
   ·have hfa : ((qBp (C.getD j [])).all fun f => decide (f ∈ C)) = true := by
     unfold qBp; rw [if_neg hlen]; rfl
    refine Ev.step (fun k => z56.l1.eq_2 ..) ?_
    by_cases h0 : 0 < (C.getD j []).length
    ·refine qAa (by omega) ?_
     refine Ev.step (fun k => z56.j3.eq_2 ..) ?_
     rw [qAp (i := j) (by omega)]
     exact qAm (by rw [decide_eq_false (by omega)]; decide) (h1 hfa)
    ·refine qAm (by omega) ?_
     refine Ev.step (fun k => z56.j3.eq_2 ..) ?_
     rw [qAp (i := j) (by omega)]
     exact qAm (by decide) (h1 hfa)
  have hround : ∀ (j : Nat), j < C.length → ∀ v, (okAt C C j = true → Ev (fun k => z56.l0 k ((j + 1 : Nat) : Int) C) v) → (okAt C C j = false → v = false) → Ev (fun k => z56.l0 k (j : Int) C) v := by
   intro j hj v h1 h2
   have hrow := hr _ (qA9 ([] : List Int) hj)
   have key := hfaces j hj v
   have stop : v = false → Ev (fun k => z56.j1 k (j : Int) (C.getD j []) true C) v := fun e => by
    refine Ev.step (fun k => z56.j1.eq_2 ..) ?_
    rw [e]; exact qAa rfl (Ev.now _)
   have go : Ev (fun k => z56.l1 k (j : Int) (C.getD j []) 0 C) v → Ev (fun k => z56.j1 k (j : Int) (C.getD j []) false C) v := fun e => by
    refine Ev.step (fun k => z56.j1.eq_2 ..) ?_
    exact qAm (by decide) e
   refine Ev.step (fun k => z56.l0.eq_2 ..) ?_
   rw [qBc]
   refine qAa (by omega) (qAa (by omega) (Ev.bind (qFv _ (by omega)) ?_))
   unfold okAt at h1 h2
   cases hi : qB1 (C.getD j []) with
   | false => rw [hi] at h2; exact qAm (by decide) (stop (h2 rfl))
   | true =>
    rw [hi] at h1 h2
    refine qAa rfl ?_
    rcases Nat.eq_zero_or_pos j with h0 | h0
    ·have e : (j == 0) = true := by simpa using h0
     rw [e] at h1 h2
     simp only [Bool.true_or, Bool.true_and] at h1 h2
     exact qAm (by omega) (go (key h1 h2))
    ·have e : (j == 0) = false := by simpa using (show j ≠ 0 by omega)
     rw [e] at h1 h2
     simp only [Bool.false_or, Bool.true_and] at h1 h2
     have hrow2 := hr _ (qA9 ([] : List Int) (show j - 1 < C.length by omega))
     rw [show wrap64 ((j : Int) - 1) = ((j - 1 : Nat) : Int) by rw [qAo (by omega) (by omega)]; omega, qBc]
     refine qAa (by omega) (qAa (by omega) (qAa (by omega) (Ev.bind (qK2 _ _ (by omega)) ?_)))
     cases hc : slt (C.getD (j - 1) []) (C.getD j []) with
     | true =>
      rw [hc] at h1 h2
      simp only [Bool.true_and] at h1 h2
      exact go (key h1 h2)
     | false => rw [hc] at h2; exact stop (h2 rfl)
  refine qGm (fun (i : Nat) k => z56.l0 k (i : Int) C) (okAt C C) C.length (fun j hj hp r hr' => ?_) (fun j hj hp => ?_) ?_
  ·exact hround j hj r (fun _ => hr') (fun h => by rw [hp] at h; cases h)
  ·exact hround j hj false (fun h => by rw [hp] at h; cases h) (fun _ => rfl)
  ·refine Ev.step (fun k => z56.l0.eq_2 ..) ?_
   exact qAm (by omega) (Ev.now _)
 ·rw [decide_eq_false h48, Bool.false_and]
  exact qAa (by omega) (Ev.now _)
end Go.Proofs.Ytipkciildhghiaa.B
set_option linter.unusedVariables false
set_option linter.unusedSimpArgs false
namespace Go.Proofs.Ytipkciildhghiaa.B
open Go.RowKit Go.Proofs.YtipkciildhghiaaW.PrintWords
open SimT
section
variable {C : List (List Int)} (hl : C.length ≤ 1048576) (hr : ∀ x ∈ C, x.length ≤ 1048576)
include hl hr
omit hl hr in
theorem qDx (l : List Int) : z63.f l = some (l.length : Int) := rfl
omit hl hr in
def qAw (C : List (List Int)) (d : Int) : List Int := filt (fun i => decide (((C.getD i []).length : Int) = d + 1)) C.length
omit hr in
theorem qBw {d : Int} (h0 : -1000 ≤ d) (h1 : d ≤ 1000) : Ev (fun k => z93.f k C d) (qAw C d) := by
 unfold z93.f
 refine qIh (fun (s : List Int) (j : Nat) k => z93.l0 k d s C (C.length : Int) (j : Int)) (fun i => decide (((C.getD i []).length : Int) = d + 1)) C.length (fun j s hj hs hp r hr' => ?_) (fun j s hj hs hp r hr' => ?_) _ ?_
 ·refine Ev.step (fun k => z93.l0.eq_2 ..) ?_
  rw [qBc, qAp (by omega), qAo (x := d + 1) (by omega) (by omega)]
  exact qAa (by omega) (qAa (by omega) (qAa (by omega) (Ev.bind (qA3 (qDx _)) (qAa (of_decide_eq_true hp) (qAa (by omega) hr')))))
 ·refine Ev.step (fun k => z93.l0.eq_2 ..) ?_
  rw [qBc, qAp (by omega), qAo (x := d + 1) (by omega) (by omega)]
  exact qAa (by omega) (qAa (by omega) (qAa (by omega) (Ev.bind (qA3 (qDx _)) (qAm (of_decide_eq_false hp) hr'))))
 ·refine Ev.step (fun k => z93.l0.eq_2 ..) ?_
  exact qAm (by omega) (Ev.now _)
omit hr in
theorem qCo {d : Int} (h0 : -1000 ≤ d) (h1 : d ≤ 1000) : Ev (fun k => z89.f k C d) (qAw C d) := by
 unfold z89.f
 refine qIh (fun (s : List Int) (j : Nat) k => z89.l0 k d s (j : Int) C) (fun i => decide (((C.getD i []).length : Int) = d + 1)) C.length (fun j s hj hs hp r hr' => ?_) (fun j s hj hs hp r hr' => ?_) _ ?_
 ·refine Ev.step (fun k => z89.l0.eq_2 ..) ?_
  rw [qBc, qAp (by omega), qAo (x := d + 1) (by omega) (by omega)]
  exact qAa (by omega) (qAa (by omega) (qAa (of_decide_eq_true hp) (qAa (by omega) hr')))
 ·refine Ev.step (fun k => z89.l0.eq_2 ..) ?_
  rw [qBc, qAp (by omega), qAo (x := d + 1) (by omega) (by omega)]
  exact qAa (by omega) (qAa (by omega) (qAm (of_decide_eq_false hp) hr'))
 ·refine Ev.step (fun k => z89.l0.eq_2 ..) ?_
  exact qAm (by omega) (Ev.now _)
omit hl hr in
def qCg (C : List (List Int)) (s : List Int) : List Int := (qBp s).map (idx C)
theorem qF4 (hs : Srt C) {i : Nat} (hi : i < C.length) : Ev (fun k => z138.f k C (i : Int)) (qCg C (C.getD i [])) := by
 unfold z138.f
 have hrow := hr _ (qA9 ([] : List Int) hi)
 rw [qBc]
 refine qAa (by omega) (qAa (by omega) (Ev.bind (qGj _ (by omega)) ?_))
 have hfl := qFj (C.getD i [])
 have e : qCg C (C.getD i []) = (List.range (qBp (C.getD i [])).length).map fun j => idx C ((qBp (C.getD i [])).getD j []) := qKf [] (idx C) _
 rw [e]
 refine qGl (fun (s : List Int) (j : Nat) k => z138.l0 k s (qBp (C.getD i [])) ((qBp (C.getD i [])).length : Int) (j : Int) C) (fun j => idx C ((qBp (C.getD i [])).getD j [])) (qBp (C.getD i [])).length (fun j s hj hs' r hr' => ?_) _ ?_
 ·refine Ev.step (fun k => z138.l0.eq_2 ..) ?_
  have hsl : s.length = j := by rw [hs']; simp
  have hf := qHw (qA9 ([] : List Int) hj)
  rw [qBc, qAp (by omega)]
  exact qAa (by omega) (qAa (by omega) (qAa (by omega) (Ev.bind (qGg C _ (by omega) (fun x hx => by have := hr x hx; omega) (by omega) hs) (qAa (by omega) hr'))))
 ·refine Ev.step (fun k => z138.l0.eq_2 ..) ?_
  exact qAm (by omega) (Ev.now _)
theorem qHi {i : Nat} (hi : i < C.length) : Ev (fun k => z135.f k C (i : Int)) (qCg C (C.getD i [])) := by
 unfold z135.f
 have hrow := hr _ (qA9 ([] : List Int) hi)
 rw [qBc]
 refine qAa (by omega) (qAa (by omega) ?_)
 by_cases h1 : 1 < (C.getD i []).length
 ·have e : qCg C (C.getD i []) = (List.range (C.getD i []).length).map fun j => idx C (drp (C.getD i []) j) := by
   unfold qCg qBp
   rw [if_pos h1, List.map_map]; rfl
  rw [e]
  refine qGl (fun (s : List Int) (j : Nat) k => z135.l0 k (C.getD i []) s (j : Int) C) (fun j => idx C (drp (C.getD i []) j)) (C.getD i []).length (fun j s hj hs' r hr' => ?_) _ ?_
  ·refine Ev.step (fun k => z135.l0.eq_2 ..) ?_
   have hsl : s.length = j := by rw [hs']; simp
   refine qAa (by omega) ?_
   refine Ev.step (fun k => z135.j1.eq_2 ..) ?_
   rw [qAp (by omega)]
   exact qAa (decide_eq_true (by omega)) (Ev.bind (qA3 (qIy _ j hj (by omega))) (Ev.bind (qKo C _ (by omega) (fun x hx => by have := hr x hx; omega)) (qAa (by omega) hr')))
  ·refine Ev.step (fun k => z135.l0.eq_2 ..) ?_
   refine qAm (by omega) ?_
   refine Ev.step (fun k => z135.j1.eq_2 ..) ?_
   exact qAm (by decide) (Ev.now _)
 ·have e : qCg C (C.getD i []) = [] := by
   unfold qCg qBp; rw [if_neg h1]; rfl
  rw [e]
  refine Ev.step (fun k => z135.l0.eq_2 ..) ?_
  by_cases h2 : 0 < (C.getD i []).length
  ·refine qAa (by omega) ?_
   refine Ev.step (fun k => z135.j1.eq_2 ..) ?_
   exact qAm (by rw [decide_eq_false (by omega)]; decide) (Ev.now _)
  ·refine qAm (by omega) ?_
   refine Ev.step (fun k => z135.j1.eq_2 ..) ?_
   exact qAm (by decide) (Ev.now _)
end
end Go.Proofs.Ytipkciildhghiaa.B
set_option linter.unusedVariables false
set_option linter.unusedSimpArgs false
namespace Go.Proofs.Ytipkciildhghiaa.B.LinT
abbrev Vec := Nat → Int
theorem qBv {p a : Int} (c : Int) (h : p ∣ a) : p ∣ c * a := Int.dvd_trans h (Int.dvd_mul_left c a)
def Zr (p : Int) (n : Nat) (v : Vec) : Prop := ∀ i, i < n → p ∣ v i
structure Sub (p : Int) (n : Nat) (S : Vec → Prop) : Prop where
 zero : ∀ v, Zr p n v → S v
 add : ∀ v w, S v → S w → S (fun i => v i + w i)
 smul : ∀ (c : Int) v, S v → S (fun i => c * v i)
theorem Sub.congr {p : Int} {n : Nat} {S : Vec → Prop} (h : Sub p n S) {v w : Vec} (hv : S v) (e : ∀ i, i < n → p ∣ w i - v i) : S w := by
 have := h.add v (fun i => w i - v i) hv (h.zero _ e)
 have e2 : (fun i => v i + (w i - v i)) = w := by funext i; omega
 rwa [e2] at this
theorem Sub.sub {p : Int} {n : Nat} {S : Vec → Prop} (h : Sub p n S) {v w : Vec} (hv : S v) (hw : S w) : S (fun i => v i - w i) := by
 have := h.add v _ hv (h.smul (-1) w hw)
 have e2 : (fun i => v i + -1 * w i) = fun i => v i - w i := by funext i; omega
 rwa [e2] at this
def Ld (p : Int) (n : Nat) (v : Vec) (i : Nat) : Prop := i < n ∧ ¬ p ∣ v i ∧ ∀ j, j < i → p ∣ v j
theorem least' {q : Nat → Prop} (h : ∃ j, q j) : ∃ j, q j ∧ ∀ m, m < j → ¬ q m := by
 obtain ⟨j, hj⟩ := h
 induction j using Nat.strongRecOn with
 | _ j ih =>
  by_cases hm : ∃ m, m < j ∧ q m
  ·obtain ⟨m, h1, h2⟩ := hm
   exact ih m h1 h2
  ·exact ⟨j, hj, fun m h1 h2 => hm ⟨m, h1, h2⟩⟩
theorem ld_nz {p : Int} {n : Nat} {v : Vec} {i : Nat} (h : Ld p n v i) : ¬ Zr p n v := fun hz => h.2.1 (hz i h.1)
def Pl (p : Int) (n : Nat) (S : Vec → Prop) (i : Nat) : Prop := ∃ v, S v ∧ Ld p n v i
open Classical in
noncomputable def cnt (Q : Nat → Prop) : Nat → Nat
 | 0 => 0
 | n + 1 => cnt Q n + (if Q n then 1 else 0)
theorem qEw {Q R : Nat → Prop} : ∀ n, (∀ i, i < n → Q i → R i) → cnt Q n ≤ cnt R n
 | 0, _ => Nat.le_refl _
 | n + 1, h => by
  have ih := qEw n (fun i hi => h i (by omega))
  have hn := h n (by omega)
  simp only [cnt]
  by_cases hq : Q n
  ·rw [if_pos hq, if_pos (hn hq)]; omega
  ·rw [if_neg hq]; split <;> omega
theorem qHz {Q R : Nat → Prop} (n : Nat) (h : ∀ i, i < n → (Q i ↔ R i)) : cnt Q n = cnt R n :=
 Nat.le_antisymm (qEw n fun i hi => (h i hi).1) (qEw n fun i hi => (h i hi).2)
theorem qGo {Q R : Nat → Prop} (i0 : Nat) : ∀ n, i0 < n → ¬ Q i0 → (∀ i, i < n → (R i ↔ Q i ∨ i = i0)) → cnt R n = cnt Q n + 1
 | 0, h, _, _ => by omega
 | n + 1, h, hq, he => by
  simp only [cnt]
  rcases Nat.lt_or_ge i0 n with hl | hg
  ·rw [qGo i0 n hl hq (fun i hi => he i (by omega))]
   have e := he n (by omega)
   have e2 : R n ↔ Q n := by
    rw [e]
    constructor
    ·rintro (h | h)
     ·exact h
     ·omega
    ·exact Or.inl
   by_cases hqn : Q n
   ·rw [if_pos hqn, if_pos (e2.2 hqn)]
   ·rw [if_neg hqn, if_neg (fun h => hqn (e2.1 h))]
  ·have : i0 = n := by omega
   subst this
   rw [if_neg hq, if_pos ((he i0 (by omega)).2 (.inr rfl)), qHz (Q := R) (R := Q) i0 (fun i hi => by
    rw [he i (by omega)]; constructor
    ·rintro (h | h)
     ·exact h
     ·omega
    ·exact Or.inl)]
theorem qI2 (Q : Nat → Prop) : ∀ n, (∀ i, i < n → ¬ Q i) → cnt Q n = 0
 | 0, _ => rfl
 | n + 1, h => by simp only [cnt]; rw [qI2 Q n (fun i hi => h i (by omega)), if_neg (h n (by omega))]
noncomputable def dim (p : Int) (n : Nat) (S : Vec → Prop) : Nat := cnt (Pl p n S) n
theorem qIz {p : Int} {n : Nat} {S T : Vec → Prop} (h : ∀ v, S v → T v) : dim p n S ≤ dim p n T :=
 qEw n fun i _ ⟨v, h1, h2⟩ => ⟨v, h v h1, h2⟩
theorem qFm {p : Int} {n : Nat} {S T : Vec → Prop} (h : ∀ v, S v ↔ T v) : dim p n S = dim p n T :=
 Nat.le_antisymm (qIz fun v => (h v).1) (qIz fun v => (h v).2)
def Pr (p : Int) : Prop := (¬ p ∣ 1) ∧ ∀ a, ¬ p ∣ a → ∃ b, p ∣ a * b - 1
def Ins (p : Int) (n : Nat) (S : Vec → Prop) (x v : Vec) : Prop := ∃ (c : Int) (s : Vec), S s ∧ ∀ i, i < n → p ∣ v i - (c * x i + s i)
theorem Ins.isSub {p : Int} {n : Nat} {S : Vec → Prop} (hS : Sub p n S) (x : Vec) : Sub p n (Ins p n S x) where
 zero v hv := ⟨0, fun _ => 0, hS.zero _ (fun i _ => Int.dvd_zero p), fun i hi => by simpa using hv i hi⟩
 add := by
  rintro v w ⟨c, s, hs, h⟩ ⟨c', s', hs', h'⟩
  refine ⟨c + c', _, hS.add _ _ hs hs', fun i hi => ?_⟩
  have := Int.dvd_add (h i hi) (h' i hi)
  have e : v i + w i - ((c + c') * x i + (s i + s' i)) = (v i - (c * x i + s i)) + (w i - (c' * x i + s' i)) := by grind
  rw [e]; exact this
 smul := by
  rintro d v ⟨c, s, hs, h⟩
  refine ⟨d * c, _, hS.smul d _ hs, fun i hi => ?_⟩
  have := qBv d (h i hi)
  have e : d * v i - (d * c * x i + d * s i) = d * (v i - (c * x i + s i)) := by grind
  rw [e]; exact this
theorem Ins.old {p : Int} {n : Nat} {S : Vec → Prop} {x v : Vec} (h : S v) : Ins p n S x v := ⟨0, v, h, fun i _ => by simp⟩
theorem Ins.new {p : Int} {n : Nat} {S : Vec → Prop} (hS : Sub p n S) {x : Vec} : Ins p n S x x := ⟨1, fun _ => 0, hS.zero _ (fun i _ => Int.dvd_zero p), fun i _ => by simp⟩
theorem Ins.least {p : Int} {n : Nat} {S T : Vec → Prop} (hT : Sub p n T) {x v : Vec} (h : ∀ v, S v → T v) (hx : T x) (hv : Ins p n S x v) : T v := by
 obtain ⟨c, s, hs, he⟩ := hv
 exact hT.congr (hT.add _ _ (hT.smul c _ hx) (h s hs)) he
def Span (p : Int) (n : Nat) : List Vec → Vec → Prop
 | [] => Zr p n
 | x :: L => Ins p n (Span p n L) x
theorem zr_sub (p : Int) (n : Nat) : Sub p n (Zr p n) where
 zero _ h := h
 add _ _ h h' i hi := Int.dvd_add (h i hi) (h' i hi)
 smul c _ h i hi := qBv c (h i hi)
theorem qB6 (p : Int) (n : Nat) : ∀ L, Sub p n (Span p n L)
 | [] => zr_sub p n
 | x :: L => Ins.isSub (qB6 p n L) x
theorem qB0 {p : Int} {n : Nat} : ∀ {L : List Vec} {x : Vec}, x ∈ L → Span p n L x
 | y :: L, x, h => by
  rcases List.mem_cons.1 h with rfl | h
  ·exact Ins.new (qB6 p n L)
  ·exact Ins.old (qB0 h)
theorem qEb {p : Int} {n : Nat} {T : Vec → Prop} (hT : Sub p n T) : ∀ {L : List Vec} {v : Vec}, (∀ x, x ∈ L → T x) → Span p n L v → T v
 | [], v, _, hv => hT.zero v hv
 | y :: L, v, h, hv => Ins.least hT (fun v hv => qEb hT (fun x hx => h x (List.mem_cons_of_mem _ hx)) hv) (h y List.mem_cons_self) hv
theorem qCp {p : Int} {n : Nat} {L M : List Vec} (h : ∀ x, x ∈ L → Span p n M x) {v : Vec} (hv : Span p n L v) : Span p n M v := qEb (qB6 p n M) h hv
structure Lmap (p : Int) (a b : Nat) (f : Vec → Vec) : Prop where
 zr : ∀ v, Zr p a v → Zr p b (f v)
 add : ∀ v w j, j < b → p ∣ f (fun i => v i + w i) j - (f v j + f w j)
 smul : ∀ (c : Int) v j, j < b → p ∣ f (fun i => c * v i) j - c * f v j
theorem Lmap.sub {p : Int} {a b : Nat} {f : Vec → Vec} (hf : Lmap p a b f) (v w : Vec) (j : Nat) (hj : j < b) : p ∣ f (fun i => v i - w i) j - (f v j - f w j) := by
 have h1 := hf.add v (fun i => -1 * w i) j hj
 have h2 := hf.smul (-1) w j hj
 have e : (fun i => v i + -1 * w i) = fun i => v i - w i := by funext i; omega
 simp only [e] at h1
 have := Int.dvd_add h1 h2
 have e2 : f (fun i => v i - w i) j - (f v j - f w j) = f (fun i => v i - w i) j - (f v j + f (fun i => -1 * w i) j) + (f (fun i => -1 * w i) j - -1 * f w j) := by omega
 rw [e2]; exact this
def sm (f : Nat → Int) : Nat → Int
 | 0 => 0
 | n + 1 => sm f n + f n
theorem qEt {f g : Nat → Int} : ∀ n, (∀ i, i < n → f i = g i) → sm f n = sm g n
 | 0, _ => rfl
 | n + 1, h => by simp only [sm]; rw [qEt n (fun i hi => h i (by omega)), h n (by omega)]
theorem qJ1 (f g : Nat → Int) : ∀ n, sm (fun i => f i + g i) n = sm f n + sm g n
 | 0 => rfl
 | n + 1 => by simp only [sm]; rw [qJ1 f g n]; omega
theorem qJ0 (c : Int) (f : Nat → Int) : ∀ n, sm (fun i => c * f i) n = c * sm f n
 | 0 => by simp [sm]
 | n + 1 => by simp only [sm]; rw [qJ0 c f n, Int.mul_add]
theorem qHk {p : Int} {f : Nat → Int} : ∀ n, (∀ i, i < n → p ∣ f i) → p ∣ sm f n
 | 0, _ => Int.dvd_zero p
 | n + 1, h => Int.dvd_add (qHk n fun i hi => h i (by omega)) (h n (by omega))
theorem sm_sub (f g : Nat → Int) (n : Nat) : sm (fun i => f i - g i) n = sm f n - sm g n := by
 have h := qJ1 f (fun i => -1 * g i) n
 rw [qJ0] at h
 rw [show (fun i => f i - g i) = fun i => f i + -1 * g i by funext i; omega, h]; omega
theorem qJz : ∀ n, sm (fun _ => 0) n = 0
 | 0 => rfl
 | n + 1 => by simp only [sm]; rw [qJz n]; rfl
theorem qE3 {f : Nat → Int} {p : Int} (i0 : Nat) : ∀ n, i0 < n → (∀ i, i < n → i ≠ i0 → p ∣ f i) → p ∣ sm f n - f i0
 | 0, h, _ => by omega
 | n + 1, h, hz => by
  simp only [sm]
  rcases Nat.lt_or_ge i0 n with hl | hg
  ·have := Int.dvd_add (qE3 i0 n hl (fun i hi => hz i (by omega))) (hz n (by omega) (by omega))
   rwa [show sm f n - f i0 + f n = sm f n + f n - f i0 by omega] at this
  ·have : i0 = n := by omega
   subst this
   have := qHk (p := p) (f := f) i0 (fun i hi => hz i (by omega) (by omega))
   rwa [show sm f i0 + f i0 - f i0 = sm f i0 by omega]
structure Rref (p : Int) (n r : Nat) (R : Nat → Vec) (q : Nat → Nat) : Prop where
 lt : ∀ i, i < r → q i < n
 mono : ∀ i j, i < j → j < r → q i < q j
 one : ∀ i, i < r → p ∣ R i (q i) - 1
 off : ∀ i j, i < r → j < r → i ≠ j → p ∣ R i (q j)
 pre : ∀ i c, i < r → c < q i → p ∣ R i c
def rows (R : Nat → Vec) (r : Nat) : List Vec := (List.range r).map R
theorem qB3 {R : Nat → Vec} {r i : Nat} (h : i < r) : R i ∈ rows R r := List.mem_map_of_mem (List.mem_range.2 h)
theorem qCx {R : Nat → Vec} {r : Nat} {x : Vec} (h : x ∈ rows R r) : ∃ i, i < r ∧ R i = x := by
 obtain ⟨i, hi, he⟩ := List.mem_map.1 h
 exact ⟨i, List.mem_range.1 hi, he⟩
def comb (R : Nat → Vec) (r : Nat) (c : Nat → Int) : Vec := fun j => sm (fun i => c i * R i j) r
theorem qHy {p : Int} {n : Nat} {S : Vec → Prop} (hS : Sub p n S) (R : Nat → Vec) (c : Nat → Int) : ∀ r, (∀ i, i < r → S (R i)) → S (comb R r c)
 | 0, _ => hS.zero _ (fun _ _ => Int.dvd_zero p)
 | r + 1, h => hS.add _ _ (qHy hS R c r (fun i hi => h i (by omega))) (hS.smul (c r) _ (h r (by omega)))
theorem qJw {p : Int} {n : Nat} (R : Nat → Vec) (r : Nat) (v : Vec) : Span p n (rows R r) v ↔ ∃ c, ∀ j, j < n → p ∣ v j - comb R r c j := by
 constructor
 ·refine qEb (T := fun v => ∃ c, ∀ j, j < n → p ∣ v j - comb R r c j) ⟨?_, ?_, ?_⟩ (fun x hx => ?_)
  ·intro v hv
   refine ⟨fun _ => 0, fun j hj => ?_⟩
   have e : comb R r (fun _ => 0) j = 0 := by
    unfold comb; rw [qEt (g := fun _ => 0) r (fun i _ => Int.zero_mul _), qJz]
   rw [e, Int.sub_zero]; exact hv j hj
  ·rintro v w ⟨c, hc⟩ ⟨d, hd⟩
   refine ⟨fun i => c i + d i, fun j hj => ?_⟩
   have e : comb R r (fun i => c i + d i) j = comb R r c j + comb R r d j := by
    unfold comb; rw [← qJ1]; exact qEt r fun i _ => Int.add_mul _ _ _
   have := Int.dvd_add (hc j hj) (hd j hj)
   rwa [show v j - comb R r c j + (w j - comb R r d j) = v j + w j - (comb R r c j + comb R r d j) by omega, ← e] at this
  ·rintro a v ⟨c, hc⟩
   refine ⟨fun i => a * c i, fun j hj => ?_⟩
   have e : comb R r (fun i => a * c i) j = a * comb R r c j := by
    unfold comb; rw [← qJ0]; exact qEt r fun i _ => Int.mul_assoc _ _ _
   have := qBv a (hc j hj)
   rwa [Int.mul_sub, ← e] at this
  ·obtain ⟨i0, hi0, rfl⟩ := qCx hx
   refine ⟨fun i => if i = i0 then 1 else 0, fun j hj => ?_⟩
   have := qE3 (p := p) (f := fun i => (if i = i0 then 1 else 0) * R i j) i0 r hi0 (fun i _ hne => by simp [hne])
   simp only [if_pos, Int.one_mul] at this
   have := Int.dvd_neg.2 this
   rwa [Int.neg_sub] at this
 ·rintro ⟨c, hc⟩
  exact (qB6 p n _).congr (qHy (qB6 p n _) R c r (fun i hi => qB0 (qB3 hi))) hc
theorem Rref.coef {p : Int} {n r : Nat} {R : Nat → Vec} {q : Nat → Nat} (h : Rref p n r R q) {v : Vec} (hv : Span p n (rows R r) v) (j : Nat) (hj : j < n) : p ∣ v j - comb R r (fun i => v (q i)) j := by
 obtain ⟨c, hc⟩ := (qJw R r v).1 hv
 have e : ∀ i, i < r → p ∣ v (q i) - c i := fun i hi => by
  have h1 := hc (q i) (h.lt i hi)
  have h2 := qE3 (p := p) (f := fun k => c k * R k (q i)) i r hi (fun k hk hne => qBv _ (h.off k i hk hi hne))
  have h3 := qBv (c i) (h.one i hi)
  have := Int.dvd_add h1 (Int.dvd_add h2 h3)
  have e : v (q i) - comb R r c (q i) + (sm (fun k => c k * R k (q i)) r - c i * R i (q i) + c i * (R i (q i) - 1)) = v (q i) - c i := by
   unfold comb; grind
  rwa [e] at this
 have h4 : p ∣ comb R r c j - comb R r (fun i => v (q i)) j := by
  unfold comb
  rw [← sm_sub]
  refine qHk r fun i hi => ?_
  have := qBv (R i j) (e i hi)
  have := Int.dvd_neg.2 this
  have e2 : -(R i j * (v (q i) - c i)) = c i * R i j - v (q i) * R i j := by grind
  rwa [e2] at this
 have := Int.dvd_add (hc j hj) h4
 rwa [show v j - comb R r c j + (comb R r c j - comb R r (fun i => v (q i)) j) = v j - comb R r (fun i => v (q i)) j by omega] at this
theorem Rref.zero {p : Int} {n r : Nat} {R : Nat → Vec} {q : Nat → Nat} (h : Rref p n r R q) {v : Vec} (hv : Span p n (rows R r) v) (hz : ∀ i, i < r → p ∣ v (q i)) : Zr p n v := fun j hj => by
 have h1 := h.coef hv j hj
 have h2 : p ∣ comb R r (fun i => v (q i)) j := qHk r fun i hi => Int.dvd_mul_of_dvd_left (hz i hi)
 have := Int.dvd_add h1 h2
 rwa [Int.sub_add_cancel] at this
theorem Rref.pl {p : Int} {n r : Nat} {R : Nat → Vec} {q : Nat → Nat} (hp : Pr p) (h : Rref p n r R q) (c : Nat) : Pl p n (Span p n (rows R r)) c ↔ ∃ i, i < r ∧ q i = c := by
 constructor
 ·rintro ⟨v, hv, hl⟩
  -- the first i with v (q i) not zero
  have hex : ∃ i, i < r ∧ ¬ p ∣ v (q i) := Classical.byContradiction fun hc => by
   refine ld_nz hl (h.zero hv fun i hi => Classical.byContradiction fun hd => hc ⟨i, hi, hd⟩)
  obtain ⟨i, ⟨hi, hni⟩, hmin⟩ := least' hex
  refine ⟨i, hi, ?_⟩
  have hsm : ∀ c, c < q i → p ∣ v c := fun c hc => by
   have h1 := h.coef hv c (by have := h.lt i hi; omega)
   have h2 : p ∣ comb R r (fun i => v (q i)) c := qHk r fun k hk => by
    rcases Nat.lt_or_ge k i with hki | hki
    ·exact Int.dvd_mul_of_dvd_left (Classical.byContradiction fun hd => hmin k hki ⟨hk, hd⟩)
    ·refine qBv _ (h.pre k c hk ?_)
     rcases Nat.eq_or_lt_of_le hki with rfl | hlt
     ·exact hc
     ·have := h.mono i k hlt hk; omega
   have := Int.dvd_add h1 h2
   rwa [Int.sub_add_cancel] at this
  rcases Nat.lt_trichotomy (q i) c with h1 | h1 | h1
  ·exact absurd (hl.2.2 _ h1) hni
  ·exact h1
  ·exact absurd (hsm c h1) hl.2.1
 ·rintro ⟨i, hi, rfl⟩
  refine ⟨R i, qB0 (qB3 hi), h.lt i hi, fun hd => hp.1 ?_, fun j hj => h.pre i j hi hj⟩
  have := Int.dvd_sub hd (h.one i hi)
  rwa [show R i (q i) - (R i (q i) - 1) = 1 by omega] at this
theorem Rref.indep {p : Int} {n r : Nat} {R : Nat → Vec} {q : Nat → Nat} (hp : Pr p) (h : Rref p n r R q) : dim p n (Span p n (rows R r)) = r := by
 have main : ∀ k, k ≤ r → cnt (fun c => ∃ i, i < k ∧ q i = c) n = k := by
  intro k
  induction k with
  | zero => intro _; exact qI2 _ n (fun c _ ⟨i, hi, _⟩ => by omega)
  | succ k ih =>
   intro hk
   rw [qGo (Q := fun c => ∃ i, i < k ∧ q i = c) (q k) n (h.lt k (by omega)) (fun ⟨i, hi, he⟩ => by have := h.mono i k hi (by omega); omega) (fun c _ => ⟨?_, ?_⟩), ih (by omega)]
   ·rintro ⟨i, hi, he⟩
    rcases Nat.lt_or_ge i k with hl | hg
    ·exact .inl ⟨i, hl, he⟩
    ·have : i = k := by omega
     subst this; exact .inr he.symm
   ·rintro (⟨i, hi, he⟩ | he)
    ·exact ⟨i, by omega, he⟩
    ·exact ⟨k, by omega, he.symm⟩
 unfold dim
 rw [qHz n (fun c _ => h.pl hp c)]
 exact main r (Nat.le_refl _)
theorem Rref.unique {p : Int} {n r r' : Nat} {R R' : Nat → Vec} {q q' : Nat → Nat} (hp : Pr p) (h : Rref p n r R q) (h' : Rref p n r' R' q') (hs : ∀ v, Span p n (rows R r) v ↔ Span p n (rows R' r') v) :
  r = r' ∧ ∀ i, i < r → q i = q' i ∧ ∀ j, j < n → p ∣ R i j - R' i j := by
 have hr : r = r' := by rw [← h.indep hp, ← h'.indep hp]; exact qFm hs
 subst hr
 have hpl : ∀ c, (∃ i, i < r ∧ q i = c) ↔ ∃ i, i < r ∧ q' i = c := fun c => by
  rw [← h.pl hp c, ← h'.pl hp c]
  exact ⟨fun ⟨v, h1, h2⟩ => ⟨v, (hs v).1 h1, h2⟩, fun ⟨v, h1, h2⟩ => ⟨v, (hs v).2 h1, h2⟩⟩
 have hq : ∀ i, i < r → q i = q' i := by
  intro i
  induction i using Nat.strongRecOn with
  | _ i ih =>
   intro hi
   obtain ⟨j, hj, e1⟩ := (hpl (q i)).1 ⟨i, hi, rfl⟩
   obtain ⟨k, hk, e2⟩ := (hpl (q' i)).2 ⟨i, hi, rfl⟩
   rcases Nat.lt_trichotomy i j with hl | he | hl
   ·-- q' i < q' j = q i; k must be < i
    have h1 := h'.mono i j hl hj
    rcases Nat.lt_trichotomy k i with hk' | hk' | hk'
    ·have := ih k hk' hk; have := h'.mono k i hk' hi; omega
    ·subst hk'; omega
    ·have := h.mono i k hk' hk; omega
   ·subst he; omega
   ·have := ih j hl hj; have := h.mono j i hl hi; omega
 refine ⟨rfl, fun i hi => ⟨hq i hi, fun j hj => ?_⟩⟩
 have hd : Span p n (rows R r) (fun j => R i j - R' i j) := (qB6 p n _).sub (qB0 (qB3 hi)) ((hs _).2 (qB0 (qB3 hi)))
 refine h.zero hd (fun k hk => ?_) j hj
 by_cases e : i = k
 ·subst e
  have h1 := h.one i hi
  have h2 := h'.one i hi
  rw [← hq i hi] at h2
  have := Int.dvd_sub h1 h2
  rwa [show R i (q i) - 1 - (R' i (q i) - 1) = R i (q i) - R' i (q i) by omega] at this
 ·have h1 := h.off i k hi hk e
  have h2 := h'.off i k hi hk e
  rw [← hq k hk] at h2
  exact Int.dvd_sub h1 h2
structure GInv (p : Int) (n m c r : Nat) (R : Nat → Vec) (q : Nat → Nat) : Prop where
 rm : r ≤ m
 lt : ∀ i, i < r → q i < c
 mono : ∀ i j, i < j → j < r → q i < q j
 one : ∀ i, i < r → p ∣ R i (q i) - 1
 off : ∀ i j, i < r → j < m → j ≠ i → p ∣ R j (q i)
 pre : ∀ i k, i < r → k < q i → p ∣ R i k
 low : ∀ i k, r ≤ i → i < m → k < c → p ∣ R i k
theorem GInv.start (p : Int) (n m : Nat) (R : Nat → Vec) (q : Nat → Nat) : GInv p n m 0 0 R q :=
 ⟨Nat.zero_le _, fun i h => by omega, fun i j _ h => by omega, fun i h => by omega, fun i j h => by omega, fun i k h => by omega, fun i k _ _ h => by omega⟩
theorem GInv.none {p : Int} {n m c r : Nat} {R : Nat → Vec} {q : Nat → Nat} (h : GInv p n m c r R q) (hz : ∀ i, r ≤ i → i < m → p ∣ R i c) : GInv p n m (c + 1) r R q :=
 ⟨h.rm, fun i hi => by have := h.lt i hi; omega, h.mono, h.one, h.off, h.pre, fun i k h1 h2 h3 => by
  rcases Nat.lt_or_ge k c with hl | hg
  ·exact h.low i k h1 h2 hl
  ·have : k = c := by omega
   subst this; exact hz i h1 h2⟩
theorem GInv.swap {p : Int} {n m c r : Nat} {R R1 : Nat → Vec} {q : Nat → Nat} (h : GInv p n m c r R q) {a : Nat} (ha : r ≤ a) (ham : a < m) (e1 : ∀ j, R1 r j = R a j) (e2 : ∀ j, R1 a j = R r j) (e3 : ∀ i j, i < m → i ≠ r → i ≠ a → R1 i j = R i j) : GInv p n m c r R1 q := by
 have e : ∀ i, i < m → ∃ k, k < m ∧ (r ≤ i → r ≤ k) ∧ (i < r → k = i) ∧ ∀ j, R1 i j = R k j := fun i hi => by
  by_cases h1 : i = r
  ·subst h1; exact ⟨a, ham, fun _ => ha, fun hh => by omega, e1⟩
  ·by_cases h2 : i = a
   ·subst h2; exact ⟨r, by omega, fun _ => Nat.le_refl _, fun hh => by omega, e2⟩
   ·exact ⟨i, hi, fun hh => hh, fun _ => rfl, fun j => e3 i j hi h1 h2⟩
 refine ⟨h.rm, h.lt, h.mono, fun i hi => ?_, fun i j hi hj hne => ?_, fun i k hi hk => ?_, fun i k h1 h2 h3 => ?_⟩
 ·obtain ⟨k, _, _, hk, he⟩ := e i (by omega)
  rw [he, hk hi]; exact h.one i hi
 ·obtain ⟨k, hkm, hkr, hk, he⟩ := e j hj
  rw [he]
  refine h.off i k hi hkm ?_
  rcases Nat.lt_or_ge j r with hl | hg
  ·rw [hk hl]; exact hne
  ·have := hkr hg; omega
 ·obtain ⟨k', _, _, hk', he⟩ := e i (by omega)
  rw [he, hk' hi]; exact h.pre i k hi hk
 ·obtain ⟨k', hkm, hkr, _, he⟩ := e i h2
  rw [he]; exact h.low k' k (hkr h1) hkm h3
theorem GInv.step {p : Int} {n m c r : Nat} {R R' : Nat → Vec} {q q' : Nat → Nat} (h : GInv p n m c r R q) (hrm : r < m) {b : Int} (hb : p ∣ R r c * b - 1)
  (e1 : ∀ j, j ≤ c → p ∣ R' r j - b * R r j) (e2 : ∀ i j, i < m → i ≠ r → j ≤ c → p ∣ R' i j - (R i j - R i c * R' r j)) (hq : ∀ i, i < r → q' i = q i) (hqr : q' r = c) : GInv p n m (c + 1) (r + 1) R' q' := by
 have top0 : ∀ k, k < c → p ∣ R' r k := fun k hk => by
  have := Int.dvd_add (e1 k (by omega)) (qBv b (h.low r k (Nat.le_refl _) hrm hk))
  rwa [Int.sub_add_cancel] at this
 have top1 : p ∣ R' r c - 1 := by
  have := Int.dvd_add (e1 c (Nat.le_refl _)) hb
  rwa [show R' r c - b * R r c + (R r c * b - 1) = R' r c - 1 by grind] at this
 have same : ∀ i k, i < m → i ≠ r → k < c → p ∣ R' i k - R i k := fun i k hi hne hk => by
  have := Int.dvd_sub (e2 i k hi hne (by omega)) (qBv (R i c) (top0 k hk))
  rwa [show R' i k - (R i k - R i c * R' r k) - R i c * R' r k = R' i k - R i k by omega] at this
 have clr : ∀ i, i < m → i ≠ r → p ∣ R' i c := fun i hi hne => by
  have := Int.dvd_sub (e2 i c hi hne (Nat.le_refl _)) (qBv (R i c) top1)
  rwa [show R' i c - (R i c - R i c * R' r c) - R i c * (R' r c - 1) = R' i c by grind] at this
 refine ⟨by omega, fun i hi => ?_, fun i j hij hj => ?_, fun i hi => ?_, fun i j hi hj hne => ?_, fun i k hi hk => ?_, fun i k h1 h2 h3 => ?_⟩
 ·rcases Nat.lt_or_ge i r with hl | hg
  ·rw [hq i hl]; have := h.lt i hl; omega
  ·have : i = r := by omega
   subst this; omega
 ·rcases Nat.lt_or_ge j r with hl | hg
  ·rw [hq i (by omega), hq j hl]; exact h.mono i j hij hl
  ·have : j = r := by omega
   subst this; rw [hq i hij, hqr]; exact h.lt i hij
 ·rcases Nat.lt_or_ge i r with hl | hg
  ·rw [hq i hl]
   have := Int.dvd_add (same i (q i) (by omega) (by omega) (h.lt i hl)) (h.one i hl)
   rwa [show R' i (q i) - R i (q i) + (R i (q i) - 1) = R' i (q i) - 1 by omega] at this
  ·have : i = r := by omega
   subst this; rw [hqr]; exact top1
 ·rcases Nat.lt_or_ge i r with hl | hg
  ·rw [hq i hl]
   by_cases hj' : j = r
   ·subst hj'; exact top0 _ (h.lt i hl)
   ·have := Int.dvd_add (same j (q i) hj hj' (h.lt i hl)) (h.off i j hl hj hne)
    rwa [Int.sub_add_cancel] at this
  ·have : i = r := by omega
   subst this; rw [hqr]; exact clr j hj hne
 ·rcases Nat.lt_or_ge i r with hl | hg
  ·rw [hq i hl] at hk
   have := h.lt i hl
   have := Int.dvd_add (same i k (by omega) (by omega) (by omega)) (h.pre i k hl hk)
   rwa [Int.sub_add_cancel] at this
  ·have : i = r := by omega
   subst this; rw [hqr] at hk; exact top0 k hk
 ·rcases Nat.lt_or_ge k c with hl | hg
  ·have := Int.dvd_add (same i k h2 (by omega) hl) (h.low i k (by omega) h2 hl)
   rwa [Int.sub_add_cancel] at this
  ·have : k = c := by omega
   subst this; exact clr i h2 (by omega)
theorem GInv.rref {p : Int} {n m r : Nat} {R : Nat → Vec} {q : Nat → Nat} (h : GInv p n m n r R q) : Rref p n r R q :=
 ⟨h.lt, h.mono, h.one, fun i j hi hj hne => h.off j i hj (by have := h.rm; omega) hne, h.pre⟩
theorem GInv.span {p : Int} {n m r : Nat} {R : Nat → Vec} {q : Nat → Nat} (h : GInv p n m n r R q) (v : Vec) : Span p n (rows R m) v ↔ Span p n (rows R r) v := by
 constructor
 ·refine qCp (fun x hx => ?_)
  obtain ⟨i, hi, rfl⟩ := qCx hx
  rcases Nat.lt_or_ge i r with hl | hg
  ·exact qB0 (qB3 hl)
  ·exact (qB6 p n _).zero _ (fun k hk => h.low i k hg hi hk)
 ·refine qCp (fun x hx => ?_)
  obtain ⟨i, hi, rfl⟩ := qCx hx
  exact qB0 (qB3 (by have := h.rm; omega))
theorem qJt {p : Int} {n m r : Nat} {R R' : Nat → Vec} (hrm : r < m) {a b : Int} (c : Nat → Int) (hb : p ∣ a * b - 1)
  (e1 : ∀ j, j < n → p ∣ R' r j - b * R r j) (e2 : ∀ i j, i < m → i ≠ r → j < n → p ∣ R' i j - (R i j - c i * R' r j)) (v : Vec) : Span p n (rows R' m) v ↔ Span p n (rows R m) v := by
 have sub := qB6 p n (rows R m)
 have sub' := qB6 p n (rows R' m)
 have htop : Span p n (rows R m) (R' r) := sub.congr (sub.smul b _ (qB0 (qB3 hrm))) e1
 constructor
 ·refine qCp (fun x hx => ?_)
  obtain ⟨i, hi, rfl⟩ := qCx hx
  by_cases h : i = r
  ·subst h; exact htop
  ·exact sub.congr (sub.sub (qB0 (qB3 hi)) (sub.smul (c i) _ htop)) (fun j hj => e2 i j hi h hj)
 ·refine qCp (fun x hx => ?_)
  obtain ⟨i, hi, rfl⟩ := qCx hx
  by_cases h : i = r
  ·subst h
   refine sub'.congr (sub'.smul a _ (qB0 (qB3 hi))) (fun j hj => ?_)
   have h1 := qBv a (e1 j hj)
   have h2 := qBv (R i j) hb
   have := Int.dvd_neg.2 (Int.dvd_add h1 h2)
   rwa [show -(a * (R' i j - b * R i j) + R i j * (a * b - 1)) = R i j - a * R' i j by grind] at this
  ·refine sub'.congr (sub'.add _ _ (qB0 (qB3 hi)) (sub'.smul (c i) _ (qB0 (qB3 hrm)))) (fun j hj => ?_)
   have := Int.dvd_neg.2 (e2 i j hi h hj)
   rwa [show -(R' i j - (R i j - c i * R' r j)) = R i j - (R' i j + c i * R' r j) by omega] at this
theorem qE2 {p : Int} {n m : Nat} {R R' : Nat → Vec} (h : ∀ i, i < m → ∃ k, k < m ∧ ∀ j, j < n → p ∣ R' i j - R k j) (h' : ∀ i, i < m → ∃ k, k < m ∧ ∀ j, j < n → p ∣ R i j - R' k j) (v : Vec) : Span p n (rows R' m) v ↔ Span p n (rows R m) v := by
 constructor
 ·refine qCp (fun x hx => ?_)
  obtain ⟨i, hi, rfl⟩ := qCx hx
  obtain ⟨k, hk, he⟩ := h i hi
  exact (qB6 p n _).congr (qB0 (qB3 hk)) he
 ·refine qCp (fun x hx => ?_)
  obtain ⟨i, hi, rfl⟩ := qCx hx
  obtain ⟨k, hk, he⟩ := h' i hi
  exact (qB6 p n _).congr (qB0 (qB3 hk)) he
end Go.Proofs.Ytipkciildhghiaa.B.LinT
set_option linter.unusedVariables false
set_option linter.unusedSimpArgs false
namespace Go.Proofs.Ytipkciildhghiaa.B.LinT
def isP (p : Nat) : Bool := decide (2 ≤ p) && decide (p ≤ 251) && (List.range 16).all fun d => decide (d < 2) || decide (p < d * d) || decide (p % d ≠ 0)
theorem qJi : ((List.range 252).all fun p => !isP p || (List.range p).all fun a => a == 0 || a * a ^ (p - 2) % p == 1) = true := by decide +kernel
theorem qBx {p : Nat} (h : isP p = true) : 2 ≤ p ∧ p ≤ 251 := by
 unfold isP at h
 rw [Bool.and_eq_true, Bool.and_eq_true, decide_eq_true_iff, decide_eq_true_iff] at h
 exact h.1
theorem fermat {p a : Nat} (h : isP p = true) (ha : a < p) (h0 : a ≠ 0) : a * a ^ (p - 2) % p = 1 := by
 have h1 := List.all_eq_true.1 qJi p (List.mem_range.2 (by have := qBx h; omega))
 rw [h] at h1
 have h2 : ∀ x, x < p → x = 0 ∨ x * x ^ (p - 2) % p = 1 := by simpa using h1
 exact (h2 a ha).resolve_left h0
theorem qId {p a : Nat} (h : isP p = true) (ha : a < p) (h0 : a ≠ 0) : (p : Int) ∣ (a : Int) * ((a ^ (p - 2) % p : Nat) : Int) - 1 := by
 have h1 := fermat h ha h0
 have h2 : a * (a ^ (p - 2) % p) % p = 1 := by rw [Nat.mul_mod, Nat.mod_mod, ← Nat.mul_mod]; exact h1
 have h3 := Nat.div_add_mod (a * (a ^ (p - 2) % p)) p
 rw [h2] at h3
 refine ⟨((a * (a ^ (p - 2) % p) / p : Nat) : Int), ?_⟩
 have h4 : ((a * (a ^ (p - 2) % p) : Nat) : Int) = ((p * (a * (a ^ (p - 2) % p) / p) + 1 : Nat) : Int) := by rw [h3]
 rw [Int.natCast_mul, Int.natCast_add, Int.natCast_mul] at h4
 omega
theorem pr_of {p : Nat} (h : isP p = true) : Pr (p : Int) := by
 have h2 := qBx h
 refine ⟨fun hd => ?_, fun a ha => ?_⟩
 ·have := Int.le_of_dvd (by decide) hd; omega
 ·have hm : a % (p : Int) ≠ 0 := fun he => ha (Int.dvd_of_emod_eq_zero he)
  have h3 := Int.emod_nonneg a (b := (p : Int)) (by omega)
  have h4 := Int.emod_lt_of_pos a (b := (p : Int)) (by omega)
  obtain ⟨n, hn⟩ := Int.eq_ofNat_of_zero_le h3
  have h5 := qId (a := n) h (by omega) (by omega)
  refine ⟨((n ^ (p - 2) % p : Nat) : Int), ?_⟩
  have h6 : (p : Int) ∣ a - (n : Int) := by rw [← hn]; exact Int.dvd_self_sub_emod
  have h7 := Int.dvd_add (show (p : Int) ∣ (a - (n : Int)) * ((n ^ (p - 2) % p : Nat) : Int) from Int.dvd_mul_of_dvd_left h6) h5
  rwa [show (a - (n : Int)) * ((n ^ (p - 2) % p : Nat) : Int) + ((n : Int) * ((n ^ (p - 2) % p : Nat) : Int) - 1) = a * ((n ^ (p - 2) % p : Nat) : Int) - 1 by grind] at h7
structure El (p : Int) (n m : Nat) (R0 : Nat → Vec) (c r : Nat) (R : Nat → Vec) (q : Nat → Nat) : Prop where
 g : GInv p n m c r R q
 sp : ∀ v, Span p n (rows R m) v ↔ Span p n (rows R0 m) v
 ge : ∀ i j, i < m → j < n → 0 ≤ R i j
 lt : ∀ i j, i < m → j < n → R i j < p
theorem El.start {p : Int} {n m : Nat} {R : Nat → Vec} (h0 : ∀ i j, i < m → j < n → 0 ≤ R i j) (h1 : ∀ i j, i < m → j < n → R i j < p) (q : Nat → Nat) : El p n m R 0 0 R q :=
 ⟨GInv.start p n m R q, fun _ => Iff.rfl, h0, h1⟩
theorem El.none {p : Int} {n m c r : Nat} {R0 R : Nat → Vec} {q : Nat → Nat} (h : El p n m R0 c r R q) (hz : ∀ i, r ≤ i → i < m → R i c = 0) : El p n m R0 (c + 1) r R q :=
 ⟨h.g.none fun i h1 h2 => by rw [hz i h1 h2]; exact Int.dvd_zero p, h.sp, h.ge, h.lt⟩
theorem El.congr {p : Int} {n m c r : Nat} {R0 R R1 : Nat → Vec} {q : Nat → Nat} (h : El p n m R0 c r R q) (hc : c ≤ n) (e : ∀ i j, i < m → j < n → R1 i j = R i j) : El p n m R0 c r R1 q := by
 have hr := h.g.rm
 refine ⟨⟨h.g.rm, h.g.lt, h.g.mono, fun i hi => ?_, fun i j hi hj hne => ?_, fun i k hi hk => ?_, fun i k h1 h2 h3 => ?_⟩, fun v => ?_, fun i j hi hj => by rw [e i j hi hj]; exact h.ge i j hi hj, fun i j hi hj => by rw [e i j hi hj]; exact h.lt i j hi hj⟩
 ·have := h.g.lt i hi
  rw [e i _ (by omega) (by omega)]; exact h.g.one i hi
 ·have := h.g.lt i hi
  rw [e j _ hj (by omega)]; exact h.g.off i j hi hj hne
 ·have := h.g.lt i hi
  rw [e i _ (by omega) (by omega)]; exact h.g.pre i k hi hk
 ·rw [e i _ h2 (by omega)]; exact h.g.low i k h1 h2 h3
 ·rw [← h.sp v]
  exact qE2 (fun i hi => ⟨i, hi, fun j hj => by rw [e i j hi hj, Int.sub_self]; exact Int.dvd_zero p⟩) (fun i hi => ⟨i, hi, fun j hj => by rw [e i j hi hj, Int.sub_self]; exact Int.dvd_zero p⟩) v
theorem El.swap {p : Int} {n m c r : Nat} {R0 R R1 : Nat → Vec} {q : Nat → Nat} (h : El p n m R0 c r R q) {a : Nat} (ha : r ≤ a) (ham : a < m) (e1 : ∀ j, R1 r j = R a j) (e2 : ∀ j, R1 a j = R r j) (e3 : ∀ i j, i < m → i ≠ r → i ≠ a → R1 i j = R i j) : El p n m R0 c r R1 q := by
 have e : ∀ i, i < m → ∃ k, k < m ∧ ∀ j, R1 i j = R k j := fun i hi => by
  by_cases h1 : i = r
  ·subst h1; exact ⟨a, ham, e1⟩
  ·by_cases h2 : i = a
   ·subst h2; exact ⟨r, by omega, e2⟩
   ·exact ⟨i, hi, fun j => e3 i j hi h1 h2⟩
 have e' : ∀ i, i < m → ∃ k, k < m ∧ ∀ j, R i j = R1 k j := fun i hi => by
  by_cases h1 : i = r
  ·subst h1; exact ⟨a, ham, fun j => (e2 j).symm⟩
  ·by_cases h2 : i = a
   ·subst h2; exact ⟨r, by omega, fun j => (e1 j).symm⟩
   ·exact ⟨i, hi, fun j => (e3 i j hi h1 h2).symm⟩
 refine ⟨h.g.swap ha ham e1 e2 e3, fun v => ?_, fun i j hi hj => ?_, fun i j hi hj => ?_⟩
 ·rw [← h.sp v]
  refine qE2 (fun i hi => ?_) (fun i hi => ?_) v
  ·obtain ⟨k, hk, he⟩ := e i hi
   exact ⟨k, hk, fun j _ => by rw [he j, Int.sub_self]; exact Int.dvd_zero p⟩
  ·obtain ⟨k, hk, he⟩ := e' i hi
   exact ⟨k, hk, fun j _ => by rw [he j, Int.sub_self]; exact Int.dvd_zero p⟩
 ·obtain ⟨k, hk, he⟩ := e i hi
  rw [he]; exact h.ge k j hk hj
 ·obtain ⟨k, hk, he⟩ := e i hi
  rw [he]; exact h.lt k j hk hj
theorem El.congr0 {p : Int} {n m c r : Nat} {R0 R1 R : Nat → Vec} {q : Nat → Nat} (h : El p n m R0 c r R q) (e : ∀ i j, i < m → j < n → R1 i j = R0 i j) : El p n m R1 c r R q :=
 ⟨h.g, fun v => (h.sp v).trans (qE2 (fun i hi => ⟨i, hi, fun j hj => by rw [e i j hi hj, Int.sub_self]; exact Int.dvd_zero p⟩) (fun i hi => ⟨i, hi, fun j hj => by rw [e i j hi hj, Int.sub_self]; exact Int.dvd_zero p⟩) v), h.ge, h.lt⟩
theorem El.swap' {p : Int} {n m c r : Nat} {R0 R R1 : Nat → Vec} {q : Nat → Nat} (h : El p n m R0 c r R q) (hc : c ≤ n) {a : Nat} (ha : r ≤ a) (ham : a < m) (e1 : ∀ j, j < n → R1 r j = R a j) (e2 : ∀ j, j < n → R1 a j = R r j) (e3 : ∀ i j, i < m → i ≠ r → i ≠ a → j < n → R1 i j = R i j) : El p n m R0 c r R1 q := by
 refine (h.swap (R1 := fun i j => if i = r then R a j else if i = a then R r j else R i j) ha ham (fun j => by simp) (fun j => ?_) (fun i j _ h1 h2 => by simp [h1, h2])).congr hc (fun i j hi hj => ?_)
 ·by_cases h1 : a = r
  ·subst h1; simp
  ·simp [h1]
 ·by_cases h1 : i = r
  ·subst h1; simp [e1 j hj]
  ·by_cases h2 : i = a
   ·subst h2; simp [h1, e2 j hj]
   ·simp [h1, h2, e3 i j hi h1 h2 hj]
theorem El.step {p : Int} {n m c r : Nat} {R0 R R' : Nat → Vec} {q q' : Nat → Nat} (h : El p n m R0 c r R q) (hc : c < n) (hrm : r < m) {b : Int} (hb : p ∣ R r c * b - 1)
  (e1 : ∀ j, j < n → p ∣ R' r j - b * R r j) (e2 : ∀ i j, i < m → i ≠ r → j < n → p ∣ R' i j - (R i j - R i c * R' r j)) (hq : ∀ i, i < r → q' i = q i) (hqr : q' r = c)
  (h0 : ∀ i j, i < m → j < n → 0 ≤ R' i j) (h1 : ∀ i j, i < m → j < n → R' i j < p) : El p n m R0 (c + 1) (r + 1) R' q' :=
 ⟨h.g.step hrm hb (fun j hj => e1 j (by omega)) (fun i j hi hne hj => e2 i j hi hne (by omega)) hq hqr, fun v => by rw [← h.sp v]; exact qJt hrm (fun i => R i c) hb e1 e2 v, h0, h1⟩
theorem El.full {p : Int} {n m r : Nat} {R0 R : Nat → Vec} {q : Nat → Nat} : ∀ {c : Nat}, c ≤ n → r = m → El p n m R0 c r R q → El p n m R0 n r R q := by
 intro c hc hr h
 obtain ⟨d, hd⟩ : ∃ d, n = c + d := ⟨n - c, by omega⟩
 have : ∀ e, El p n m R0 (c + e) r R q := fun e => by
  induction e with
  | zero => exact h
  | succ e ih => exact ih.none (fun i h1 h2 => by omega)
 rw [hd] at this ⊢; exact this d
theorem El.same {p : Int} {n m m' r r' : Nat} {R0 R R0' R' : Nat → Vec} {q q' : Nat → Nat} (hp : Pr p) (h : El p n m R0 n r R q) (h' : El p n m' R0' n r' R' q')
  (hs : ∀ v, Span p n (rows R0 m) v ↔ Span p n (rows R0' m') v) : r = r' ∧ ∀ i, i < r → q i = q' i ∧ ∀ j, j < n → R i j = R' i j := by
 have hs2 : ∀ v, Span p n (rows R r) v ↔ Span p n (rows R' r') v := fun v => by rw [← h.g.span v, ← h'.g.span v, h.sp v, h'.sp v, hs v]
 obtain ⟨e1, e2⟩ := h.g.rref.unique hp h'.g.rref hs2
 refine ⟨e1, fun i hi => ⟨(e2 i hi).1, fun j hj => ?_⟩⟩
 have hd := (e2 i hi).2 j hj
 have hr := h.g.rm
 have hr' := h'.g.rm
 have a1 := h.ge i j (by omega) hj
 have a2 := h.lt i j (by omega) hj
 have b1 := h'.ge i j (by omega) hj
 have b2 := h'.lt i j (by omega) hj
 obtain ⟨k, hk⟩ := hd
 have hp0 : 0 < p := by omega
 have : k = 0 := by
  rcases Int.lt_trichotomy k 0 with hl | h0 | hg
  ·have := Int.mul_le_mul_of_nonneg_left (show k ≤ -1 by omega) (Int.le_of_lt hp0); omega
  ·exact h0
  ·have := Int.mul_le_mul_of_nonneg_left (show 1 ≤ k by omega) (Int.le_of_lt hp0); omega
 rw [this] at hk; omega
theorem El.span {p : Int} {n m r : Nat} {R0 R : Nat → Vec} {q : Nat → Nat} (h : El p n m R0 n r R q) (v : Vec) : Span p n (rows R r) v ↔ Span p n (rows R0 m) v := by rw [← h.g.span v, h.sp v]
theorem El.dim {p : Int} {n m r : Nat} {R0 R : Nat → Vec} {q : Nat → Nat} (hp : Pr p) (h : El p n m R0 n r R q) : dim p n (Span p n (rows R0 m)) = r := by
 rw [← h.g.rref.indep hp]; exact qFm fun v => (h.span v).symm
def vec (l : List Int) : Vec := fun j => l.getD j 0
def rw' (L : List (List Int)) : Nat → Vec := fun i => vec (L.getD i [])
theorem qC7 (L : List (List Int)) : rows (rw' L) L.length = L.map vec := by
 unfold rows rw'
 refine List.ext_getElem (by simp) fun i h1 h2 => ?_
 have hi : i < L.length := by simpa using h1
 simp [List.getD_eq_getElem?_getD, List.getElem?_eq_getElem hi]
def Vs (p : Int) (n : Nat) (L : List (List Int)) : Prop := ∀ x, x ∈ L → x.length = n ∧ ∀ y, y ∈ x → 0 ≤ y ∧ y < p
theorem qF7 {p : Int} {n : Nat} {L : List (List Int)} (h : Vs p n L) {i j : Nat} (hi : i < L.length) (hj : j < n) : 0 ≤ rw' L i j ∧ rw' L i j < p := by
 have hm : L.getD i [] ∈ L := by rw [List.getD_eq_getElem?_getD, List.getElem?_eq_getElem hi, Option.getD_some]; exact List.getElem_mem hi
 obtain ⟨h1, h2⟩ := h _ hm
 unfold rw' vec
 have hjl : j < (L.getD i []).length := by omega
 rw [List.getD_eq_getElem?_getD (l := L.getD i []), List.getElem?_eq_getElem hjl, Option.getD_some]
 exact h2 _ (List.getElem_mem hjl)
theorem qMl {L M : List (List Int)} {p : Int} {n : Nat} (hL : Vs p n L) (hM : Vs p n M) (hl : L.length = M.length) (h : ∀ i, i < L.length → ∀ j, j < n → rw' L i j = rw' M i j) : L = M := by
 refine List.ext_getElem hl fun i h1 h2 => ?_
 have e1 := (hL _ (List.getElem_mem h1)).1
 have e2 := (hM _ (List.getElem_mem h2)).1
 refine List.ext_getElem (by omega) fun j h3 h4 => ?_
 have := h i h1 j (by omega)
 unfold rw' vec at this
 simpa [List.getD_eq_getElem?_getD, List.getElem?_eq_getElem h1, List.getElem?_eq_getElem h2, List.getElem?_eq_getElem h3, List.getElem?_eq_getElem h4] using this
structure Red (p : Int) (n : Nat) (L B : List (List Int)) (q : List Int) : Prop where
 vs : Vs p n B
 len : q.length = B.length
 rref : Rref p n B.length (rw' B) (fun i => (q.getD i 0).toNat)
 span : ∀ v, Span p n (B.map vec) v ↔ Span p n (L.map vec) v
 pos : ∀ x, x ∈ q → 0 ≤ x
theorem Red.unique {p : Int} {n : Nat} {L L' B B' : List (List Int)} {q q' : List Int} (hp : Pr p) (h : Red p n L B q) (h' : Red p n L' B' q') (hs : ∀ v, Span p n (L.map vec) v ↔ Span p n (L'.map vec) v) : B = B' ∧ q = q' := by
 have hp0 : 0 < p ∨ p ≤ 0 := by omega
 obtain ⟨e1, e2⟩ := h.rref.unique hp h'.rref (fun v => by rw [qC7, qC7, h.span v, h'.span v, hs v])
 have hB : B = B' := qMl h.vs h'.vs e1 fun i hi j hj => by
  have hd := (e2 i hi).2 j hj
  have a := qF7 h.vs hi hj
  have b := qF7 h'.vs (i := i) (by omega) hj
  obtain ⟨k, hk⟩ := hd
  have hp0 : 0 < p := by omega
  have : k = 0 := by
   rcases Int.lt_trichotomy k 0 with hl | h0 | hg
   ·have := Int.mul_le_mul_of_nonneg_left (show k ≤ -1 by omega) (Int.le_of_lt hp0); omega
   ·exact h0
   ·have := Int.mul_le_mul_of_nonneg_left (show 1 ≤ k by omega) (Int.le_of_lt hp0); omega
  rw [this] at hk; omega
 refine ⟨hB, List.ext_getElem (by rw [h.len, h'.len, e1]) fun i h1 h2 => ?_⟩
 have h3 := (e2 i (by rw [← h.len]; exact h1)).1
 have p1 := h.pos _ (List.getElem_mem h1)
 have p2 := h'.pos _ (List.getElem_mem h2)
 simp only [List.getD_eq_getElem?_getD, List.getElem?_eq_getElem h1, List.getElem?_eq_getElem h2, Option.getD_some] at h3
 omega
theorem Red.of {p : Int} {n : Nat} {L M : List (List Int)} {r : Nat} {q : List Int} (hl : M.length = L.length) (hv : Vs p n M) (hq : q.length = r) (hpos : ∀ x, x ∈ q → 0 ≤ x)
  (h : El p n L.length (rw' L) n r (rw' M) (fun i => (q.getD i 0).toNat)) : Red p n L (M.take r) q := by
 have hr := h.g.rm
 have hlen : (M.take r).length = r := by rw [List.length_take]; omega
 have e : ∀ i, i < r → rw' (M.take r) i = rw' M i := fun i hi => by
  unfold rw'
  rw [List.getD_eq_getElem?_getD, List.getD_eq_getElem?_getD, List.getElem?_take_of_lt hi]
 have hrr := h.g.rref
 refine ⟨fun x hx => hv x (List.mem_of_mem_take hx), by omega, ?_, fun v => ?_, hpos⟩
 ·rw [hlen]
  exact ⟨hrr.lt, hrr.mono, fun i hi => by rw [e i hi]; exact hrr.one i hi, fun i j hi hj hne => by rw [e i hi]; exact hrr.off i j hi hj hne, fun i c hi hc => by rw [e i hi]; exact hrr.pre i c hi hc⟩
 ·rw [← qC7 L, ← h.span v, ← qC7, hlen]
  have : rows (rw' (M.take r)) r = rows (rw' M) r := List.map_congr_left fun i hi => e i (List.mem_range.1 hi)
  rw [this]
end Go.Proofs.Ytipkciildhghiaa.B.LinT
set_option linter.unusedVariables false
set_option linter.unusedSimpArgs false
namespace Go.Proofs.Ytipkciildhghiaa.B.LinT
def fl (w : Nat) (X : List Int) : Nat → Vec := fun i j => X.getD (i * w + j) 0
theorem qCm {w i j m : Nat} (hi : i < m) (hj : j < w) : i * w + j < m * w := by
 have := Nat.mul_le_mul_right w (show i + 1 ≤ m by omega)
 rw [Nat.add_mul, Nat.one_mul] at this; omega
theorem qMr {w i j i' j' : Nat} (hj : j < w) (hj' : j' < w) (h : i * w + j = i' * w + j') : i = i' ∧ j = j' := by
 rcases Nat.lt_trichotomy i i' with hl | he | hg
 ·have := qCm hl hj; omega
 ·subst he; omega
 ·have := qCm hg hj'; omega
theorem qLu (X : List Int) (a b : Nat) (x : Int) (ha : a < X.length) : (X.set a x).getD b 0 = if b = a then x else X.getD b 0 := by
 rw [List.getD_eq_getElem?_getD, List.getElem?_set, List.getD_eq_getElem?_getD]
 by_cases h : b = a
 ·subst h; simp [ha]
 ·rw [if_neg (Ne.symm h), if_neg h]
theorem qKn {w : Nat} (X : List Int) {i j i' j' : Nat} (x : Int) (hj : j < w) (hj' : j' < w) (ha : i * w + j < X.length) : fl w (X.set (i * w + j) x) i' j' = if i' = i ∧ j' = j then x else fl w X i' j' := by
 unfold fl
 rw [qLu _ _ _ _ ha]
 by_cases h : i' = i ∧ j' = j
 ·rw [if_pos h, if_pos (by rw [h.1, h.2])]
 ·rw [if_neg h, if_neg (fun he => h (qMr hj' hj he))]
structure Upd (w : Nat) (X : List Int) (i0 : Nat) (g : Nat → Int) (t : Nat) (Y : List Int) : Prop where
 len : Y.length = X.length
 at_ : ∀ i j, j < w → fl w Y i j = if i = i0 ∧ j < t then g j else fl w X i j
theorem Upd.start (w : Nat) (X : List Int) (i0 : Nat) (g : Nat → Int) : Upd w X i0 g 0 X := ⟨rfl, fun i j _ => by rw [if_neg (by omega)]⟩
theorem Upd.next {w : Nat} {X : List Int} {i0 : Nat} {g : Nat → Int} {t : Nat} {Y : List Int} (h : Upd w X i0 g t Y) (ht : t < w) (hi : i0 * w + t < X.length) {x : Int} (hx : x = g t) : Upd w X i0 g (t + 1) (Y.set (i0 * w + t) x) := by
 refine ⟨by rw [List.length_set, h.len], fun i j hj => ?_⟩
 rw [qKn Y x ht hj (by rw [h.len]; exact hi), h.at_ i j hj]
 by_cases h1 : i = i0 ∧ j = t
 ·rw [if_pos h1, if_pos (by omega), hx, h1.2]
 ·rw [if_neg h1]
  by_cases h2 : i = i0 ∧ j < t
  ·rw [if_pos h2, if_pos (by omega)]
  ·rw [if_neg h2, if_neg (by omega)]
structure Swp (w : Nat) (X : List Int) (a b : Nat) (t : Nat) (Y : List Int) : Prop where
 len : Y.length = X.length
 at_ : ∀ i j, j < w → fl w Y i j = if j < t then (if i = a then fl w X b j else if i = b then fl w X a j else fl w X i j) else fl w X i j
theorem Swp.start (w : Nat) (X : List Int) (a b : Nat) : Swp w X a b 0 X := ⟨rfl, fun i j _ => by rw [if_neg (by omega)]⟩
theorem Swp.next {w : Nat} {X : List Int} {a b : Nat} {t : Nat} {Y : List Int} (h : Swp w X a b t Y) (hab : a ≠ b) (ht : t < w) (ha : a * w + t < X.length) (hb : b * w + t < X.length) :
  Swp w X a b (t + 1) ((Y.set (b * w + t) (fl w Y a t)).set (a * w + t) (fl w Y b t)) := by
 refine ⟨by rw [List.length_set, List.length_set, h.len], fun i j hj => ?_⟩
 rw [qKn _ _ ht hj (by rw [List.length_set, h.len]; exact ha), qKn _ _ ht hj (by rw [h.len]; exact hb), h.at_ i j hj, h.at_ a t ht, h.at_ b t ht]
 rw [if_neg (Nat.lt_irrefl t), if_neg (Nat.lt_irrefl t)]
 rcases Nat.lt_trichotomy j t with hl | he | hg
 ·rw [if_neg (fun hh => by omega), if_neg (fun hh => by omega), if_pos hl, if_pos (show j < t + 1 by omega)]
 ·subst he
  rw [if_neg (Nat.lt_irrefl j), if_pos (Nat.lt_succ_self j)]
  by_cases h1 : i = a
  ·rw [if_pos ⟨h1, rfl⟩, if_pos h1]
  ·rw [if_neg (fun hh => h1 hh.1), if_neg h1]
   by_cases h2 : i = b
   ·rw [if_pos ⟨h2, rfl⟩, if_pos h2]
   ·rw [if_neg (fun hh => h2 hh.1), if_neg h2]
 ·rw [if_neg (fun hh => by omega), if_neg (fun hh => by omega), if_neg (show ¬ j < t by omega), if_neg (show ¬ j < t + 1 by omega)]
def unfl (w m : Nat) (X : List Int) : List (List Int) := (List.range m).map fun i => (X.drop (i * w)).take w
theorem qDi (w m : Nat) (X : List Int) : (unfl w m X).length = m := by simp [unfl]
theorem qIp {w m : Nat} (X : List Int) {i j : Nat} (hi : i < m) (hj : j < w) : rw' (unfl w m X) i j = fl w X i j := by
 unfold rw' vec unfl fl
 have h1 : ((List.range m).map fun i => (X.drop (i * w)).take w).getD i [] = (X.drop (i * w)).take w := by
  rw [List.getD_eq_getElem?_getD, List.getElem?_map, List.getElem?_range hi]; rfl
 rw [h1, List.getD_eq_getElem?_getD, List.getElem?_take_of_lt hj, List.getElem?_drop, ← List.getD_eq_getElem?_getD]
theorem qMb {p : Int} {w m : Nat} {X : List Int} (hl : X.length = m * w) (h : ∀ i j, i < m → j < w → 0 ≤ fl w X i j ∧ fl w X i j < p) : Vs p w (unfl w m X) := by
 intro x hx
 obtain ⟨i, hi, rfl⟩ := List.mem_map.1 hx
 have him := List.mem_range.1 hi
 have h2 := Nat.mul_le_mul_right w (show i + 1 ≤ m by omega)
 rw [Nat.add_mul, Nat.one_mul] at h2
 refine ⟨by rw [List.length_take, List.length_drop]; omega, fun y hy => ?_⟩
 obtain ⟨j, hj, rfl⟩ := List.getElem_of_mem hy
 have hjw : j < w := by rw [List.length_take] at hj; omega
 have h3 := h i j him hjw
 unfold fl at h3
 rw [List.getElem_take, List.getElem_drop]
 rwa [List.getD_eq_getElem?_getD, List.getElem?_eq_getElem (by omega), Option.getD_some] at h3
theorem qJq {w m r : Nat} (X : List Int) (h : r ≤ m) : (unfl w m X).take r = unfl w r X := by
 unfold unfl
 rw [← List.map_take, List.take_range, Nat.min_eq_left h]
theorem qGh {w : Nat} : ∀ (L : List (List Int)), (∀ x, x ∈ L → x.length = w) → ∀ i j, i < L.length → j < w → fl w L.flatten i j = rw' L i j
 | [], _, i, j, hi, _ => by simp at hi
 | a :: L, h, i, j, hi, hj => by
  have ha := h a (by simp)
  unfold fl rw' vec
  rw [List.flatten_cons]
  cases i with
  | zero =>
   rw [List.getD_eq_getElem?_getD, Nat.zero_mul, Nat.zero_add, List.getElem?_append_left (by omega)]
   simp [List.getD_eq_getElem?_getD]
  | succ i =>
   have ih := qGh L (fun x hx => h x (by simp [hx])) i j (by simpa using hi) hj
   unfold fl rw' vec at ih
   rw [List.getD_eq_getElem?_getD, List.getElem?_append_right (by rw [Nat.add_mul]; omega), ← List.getD_eq_getElem?_getD]
   have : (i + 1) * w + j - a.length = i * w + j := by rw [Nat.add_mul]; omega
   rw [this, ih]
   simp [List.getD_eq_getElem?_getD]
theorem qDs {w : Nat} : ∀ (L : List (List Int)), (∀ x, x ∈ L → x.length = w) → L.flatten.length = L.length * w
 | [], _ => by simp
 | a :: L, h => by
  rw [List.flatten_cons, List.length_append, qDs L (fun x hx => h x (by simp [hx])), h a (by simp), List.length_cons, Nat.add_mul]; omega
structure FlInv (p : Int) (w m : Nat) (L : List (List Int)) (c : Nat) (X : List Int) (q : List Int) : Prop where
 len : X.length = m * w
 pos : ∀ x, x ∈ q → 0 ≤ x
 el : El p w m (rw' L) c q.length (fl w X) (fun i => (q.getD i 0).toNat)
theorem FlInv.red {p : Int} {w : Nat} {L : List (List Int)} {X : List Int} {q : List Int} (h : FlInv p w L.length L w X q) : Red p w L (unfl w q.length X) q := by
 have hr := h.el.g.rm
 rw [← qJq X hr]
 refine Red.of (qDi _ _ _) (qMb h.len fun i j hi hj => ⟨h.el.ge i j hi hj, h.el.lt i j hi hj⟩) rfl h.pos (h.el.congr (Nat.le_refl _) fun i j hi hj => qIp X hi hj)
end Go.Proofs.Ytipkciildhghiaa.B.LinT
set_option linter.unusedVariables false
set_option linter.unusedSimpArgs false
namespace Go.Proofs.Ytipkciildhghiaa.B.LinT
theorem Red.dim {p : Int} {n : Nat} {L B : List (List Int)} {q : List Int} (hp : Pr p) (h : Red p n L B q) : LinT.dim p n (Span p n (L.map vec)) = B.length := by
 rw [← h.rref.indep hp, qC7]
 exact qFm fun v => (h.span v).symm
end Go.Proofs.Ytipkciildhghiaa.B.LinT
set_option linter.unusedVariables false
set_option linter.unusedSimpArgs false
namespace Go.Proofs.Ytipkciildhghiaa.B
open Go.RowKit Go.Proofs.YtipkciildhghiaaW.PrintWords
open LinT
theorem qCt {a : Int} {p : Nat} (h : 0 ≤ a) : Int.tmod a (p : Int) = a % (p : Int) := Int.tmod_eq_emod_of_nonneg h
theorem qJe (p : Nat) (hp : 2 ≤ p) (hp2 : p ≤ 251) : ∀ (e x0 x7 : Nat), e ≤ 1000 → x0 < p → x7 < p → Ev (fun k => z199.l0 k (x0 : Int) (e : Int) (p : Int) (x7 : Int)) ((x7 * x0 ^ e % p : Nat) : Int) := by
 intro e
 induction e using Nat.strongRecOn with
 | _ e ih =>
  intro x0 x7 he h0 h7
  refine Ev.step (fun k => z199.l0.eq_2 ..) ?_
  rcases Nat.eq_zero_or_pos e with h | h
  ·subst h
   refine qAm (by omega) (qBu (Ev.now _) ?_)
   rw [Nat.pow_zero, Nat.mul_one, Nat.mod_eq_of_lt h7]
  ·have hb : x0 * x0 ≤ 250 * 250 := Nat.mul_le_mul (by omega) (by omega)
   have hb2 : x7 * x0 ≤ 250 * 250 := Nat.mul_le_mul (by omega) (by omega)
   have e1 : Int.tmod (wrap64 ((x0 : Int) * (x0 : Int))) (p : Int) = ((x0 * x0 % p : Nat) : Int) := by
    rw [← Int.natCast_mul, qAo (by omega) (by omega), qCt (by omega)]; simp
   have e2 : wrap64 (Int.tdiv (e : Int) 2) = ((e / 2 : Nat) : Int) := by
    have : Int.tdiv (e : Int) 2 = ((e / 2 : Nat) : Int) := by rw [Int.tdiv_eq_ediv_of_nonneg (by omega)]; simp
    rw [this, qAo (by omega) (by omega)]
   have e3 : Int.tmod (e : Int) 2 = ((e % 2 : Nat) : Int) := by rw [Int.tmod_eq_emod_of_nonneg (by omega)]; simp
   have e4 : Int.tmod (wrap64 ((x7 : Int) * (x0 : Int))) (p : Int) = ((x7 * x0 % p : Nat) : Int) := by
    rw [← Int.natCast_mul, qAo (by omega) (by omega), qCt (by omega)]; simp
   have hpow : x0 ^ e = (x0 * x0) ^ (e / 2) * x0 ^ (e % 2) := by
    rw [← Nat.pow_two, ← Nat.pow_mul, ← Nat.pow_add, Nat.div_add_mod]
   have hm : ∀ y, y % p * (x0 * x0 % p) ^ (e / 2) % p = y * (x0 * x0) ^ (e / 2) % p := fun y => by
    rw [Nat.mul_mod, Nat.pow_mod, Nat.mod_mod, Nat.mod_mod, ← Nat.pow_mod, ← Nat.mul_mod]
   refine qAa (by omega) ?_
   rw [e1, e2, e3, e4]
   have hp0 : 0 < p := by omega
   rcases Nat.mod_two_eq_zero_or_one e with h2 | h2
   ·refine qAm (by rw [h2]; decide) (qAm (by omega) ?_)
    refine qBu (ih (e / 2) (by omega) (x0 * x0 % p) x7 (by omega) (Nat.mod_lt _ hp0) h7) ?_
    have := hm x7
    rw [Nat.mod_eq_of_lt h7] at this
    rw [this, hpow, h2, Nat.pow_zero, Nat.mul_one]
   ·refine qAa (by rw [h2]; decide) (qAm (by omega) ?_)
    refine qBu (ih (e / 2) (by omega) (x0 * x0 % p) (x7 * x0 % p) (by omega) (Nat.mod_lt _ hp0) (Nat.mod_lt _ hp0)) ?_
    rw [hm, hpow, h2, Nat.pow_one, Nat.mul_assoc, Nat.mul_comm x0]
theorem qJh {p a : Nat} (hp : isP p = true) (ha : a < p) : Ev (fun k => z179.f k (a : Int) (p : Int)) ((a ^ (p - 2) % p : Nat) : Int) := by
 have h2 := qBx hp
 unfold z179.f z199.f
 have e : wrap64 ((p : Int) - 2) = ((p - 2 : Nat) : Int) := by rw [qAo (by omega) (by omega)]; omega
 rw [e]
 have h := qJe p h2.1 h2.2 (p - 2) a 1 (by omega) ha (by omega)
 rw [Nat.one_mul] at h
 exact Ev.bind h (Ev.now _)
def addT (p : Nat) (x y : List Int) (c : Int) : List Int := (List.range x.length).map fun j => (x.getD j 0 + c * y.getD j 0) % (p : Int)
def Rng (p : Nat) (x : List Int) : Prop := ∀ y, y ∈ x → 0 ≤ y ∧ y < (p : Int)
theorem qDq {p : Nat} {x : List Int} (h : Rng p x) {j : Nat} (hj : j < x.length) : 0 ≤ x.getD j 0 ∧ x.getD j 0 < (p : Int) := h _ (qA9 0 hj)
theorem qI5 (p : Nat) (x y : List Int) (c : Int) : (addT p x y c).length = x.length := by simp [addT]
theorem qI6 {p : Nat} {x y : List Int} {c : Int} {j : Nat} (hj : j < x.length) : (addT p x y c).getD j 0 = (x.getD j 0 + c * y.getD j 0) % (p : Int) := by
 unfold addT
 rw [List.getD_eq_getElem?_getD, List.getElem?_map, List.getElem?_range hj]; rfl
theorem qI4 {p : Nat} (hp : 0 < p) (x y : List Int) (c : Int) : Rng p (addT p x y c) := by
 intro z hz
 obtain ⟨j, _, rfl⟩ := List.mem_map.1 hz
 exact ⟨Int.emod_nonneg _ (by omega), Int.emod_lt_of_pos _ (by omega)⟩
theorem qFp {p : Nat} (hp0 : 0 < p) (hp : p ≤ 251) (x y : List Int) (c : Int) (hx : Rng p x) (hy : Rng p y) (hl : x.length ≤ y.length) (hm : x.length ≤ 1048576) (hc0 : 0 ≤ c) (hc : c ≤ 251) :
  Ev (fun k => z178.f k x y c (p : Int)) (addT p x y c) := by
 unfold z178.f
 refine qGl (fun s i k => z178.l0 k x y c (p : Int) s (x.length : Int) (i : Int)) (fun j => (x.getD j 0 + c * y.getD j 0) % (p : Int)) x.length (fun j s hj hs r hr => ?_) _ ?_
 ·have hsl : s.length = j := by rw [hs]; simp
  have a := qDq hx hj
  have b := qDq hy (j := j) (by omega)
  have hcb : 0 ≤ c * y.getD j 0 := Int.mul_nonneg hc0 b.1
  have hcb2 : c * y.getD j 0 ≤ 251 * 251 := Int.mul_le_mul hc (by omega) b.1 (by decide)
  refine Ev.step (fun k => z178.l0.eq_2 ..) ?_
  (repeat (first | refine qAa (by omega) ?_ | refine qAm (by omega) ?_))
  rw [qAp (by omega), qBa, qBa, qAo (x := c * y.getD j 0) (by omega) (by omega), qAo (by omega) (by omega), qCt (by omega)]
  exact hr
 ·refine Ev.step (fun k => z178.l0.eq_2 ..) ?_
  exact qAm (by omega) (Ev.now _)
theorem qJc {p : Nat} (hp : 2 ≤ p) (hp2 : p ≤ 251) {a : Int} (h0 : -1000000000 ≤ a) (h1 : a ≤ 1000000000) : z150.f a (p : Int) = some (a % (p : Int)) := by
 unfold z150.f
 rw [if_neg (by omega)]
 have h2 : Int.tmod a (p : Int) = a % (p : Int) ∨ Int.tmod a (p : Int) = a % (p : Int) - (p : Int) := by
  rw [Int.tmod_eq_emod]
  split
  ·left; omega
  ·right; simp
 have h3 := Int.emod_nonneg a (b := (p : Int)) (by omega)
 have h4 := Int.emod_lt_of_pos a (b := (p : Int)) (by omega)
 congr 1
 rcases h2 with h | h
 ·rw [h, qAo (by omega) (by omega), qCt (by omega)]; simp
 ·rw [h, qAo (by omega) (by omega), qCt (by omega)]; simp
end Go.Proofs.Ytipkciildhghiaa.B
set_option linter.unusedVariables false
set_option linter.unusedSimpArgs false
namespace Go.Proofs.Ytipkciildhghiaa.B
open Go.RowKit Go.Proofs.YtipkciildhghiaaW.PrintWords
open LinT
def okP (p : Int) : Bool := (decide (2 ≤ p) && decide (p ≤ 251)) && isP p.toNat
theorem qKi {n : Nat} (h0 : 2 ≤ n) (h1 : n ≤ 251) : isP n = true ↔ ∀ d, 2 ≤ d → d < 16 → n < d * d ∨ n % d ≠ 0 := by
 unfold isP
 rw [Bool.and_eq_true, Bool.and_eq_true, decide_eq_true_iff, decide_eq_true_iff, List.all_eq_true]
 constructor
 ·rintro ⟨_, h⟩ d hd hd2
  have := h d (List.mem_range.2 hd2)
  rw [Bool.or_eq_true, Bool.or_eq_true, decide_eq_true_iff, decide_eq_true_iff, decide_eq_true_iff] at this
  rcases this with (h3 | h3) | h3
  ·omega
  ·exact .inl h3
  ·exact .inr h3
 ·intro h
  refine ⟨⟨h0, h1⟩, fun d hd => ?_⟩
  rw [Bool.or_eq_true, Bool.or_eq_true, decide_eq_true_iff, decide_eq_true_iff, decide_eq_true_iff]
  by_cases h2 : d < 2
  ·exact .inl (.inl h2)
  ·rcases h d (by omega) (List.mem_range.1 hd) with h3 | h3
   ·exact .inl (.inr h3)
   ·exact .inr h3
theorem qDm {n : Nat} (h0 : 2 ≤ n) (h1 : n ≤ 251) : ∀ (e d : Nat), d + e = 16 → 2 ≤ d → ∃ b, Ev (fun k => z133.l0 k (n : Int) (d : Int)) b ∧ (b = true ↔ ∀ d', d ≤ d' → d' < 16 → n < d' * d' ∨ n % d' ≠ 0) := by
 intro e
 induction e with
 | zero =>
  intro d hd h2
  have : d = 16 := by omega
  subst this
  refine ⟨true, ?_, by simp; omega⟩
  refine Ev.step (fun k => z133.l0.eq_2 ..) ?_
  rw [← Int.natCast_mul, qAo (by omega) (by omega)]
  exact qAm (by omega) (Ev.now _)
 | succ e ih =>
  intro d hd h2
  have hdd : d * d ≤ 16 * 16 := Nat.mul_le_mul (by omega) (by omega)
  have hw : wrap64 ((d : Int) * (d : Int)) = ((d * d : Nat) : Int) := by rw [← Int.natCast_mul, qAo (by omega) (by omega)]
  have hm : Int.tmod (n : Int) (d : Int) = ((n % d : Nat) : Int) := by rw [Int.tmod_eq_emod_of_nonneg (by omega)]; simp
  by_cases hl : n < d * d
  ·refine ⟨true, ?_, ?_⟩
   ·refine Ev.step (fun k => z133.l0.eq_2 ..) ?_
    rw [hw]
    exact qAm (by omega) (Ev.now _)
   ·simp only [true_iff]
    intro d' h3 _
    have := Nat.mul_le_mul h3 h3
    left; omega
  ·by_cases hz : n % d = 0
   ·refine ⟨false, ?_, ?_⟩
    ·refine Ev.step (fun k => z133.l0.eq_2 ..) ?_
     rw [hw, hm]
     exact qAa (by omega) (qAm (by omega) (qAa (by omega) (Ev.now _)))
    ·simp only [Bool.false_eq_true, false_iff]
     intro h
     rcases h d (Nat.le_refl _) (by omega) with h3 | h3
     ·exact hl h3
     ·exact h3 hz
   ·obtain ⟨b, hb, hi⟩ := ih (d + 1) (by omega) (by omega)
    refine ⟨b, ?_, hi.trans ⟨fun h d' h3 h4 => ?_, fun h d' h3 h4 => h d' (by omega) h4⟩⟩
    ·refine Ev.step (fun k => z133.l0.eq_2 ..) ?_
     rw [hw, hm]
     refine qAa (by omega) (qAm (by omega) (qAm (by omega) ?_))
     rw [qAp (by omega)]; exact hb
    ·rcases Nat.lt_or_ge d d' with h5 | h5
     ·exact h d' (by omega) h4
     ·have : d' = d := by omega
      subst this; exact .inr hz
theorem qDw {n : Nat} (h0 : 2 ≤ n) (h1 : n ≤ 251) : ∀ (e d : Nat), d + e = 16 → 2 ≤ d → ∃ b, Ev (fun k => z171.l0 k (n : Int) (d : Int)) b ∧ (b = true ↔ ∀ d', d ≤ d' → d' < 16 → n < d' * d' ∨ n % d' ≠ 0) := by
 intro e
 induction e with
 | zero =>
  intro d hd h2
  have : d = 16 := by omega
  subst this
  refine ⟨true, ?_, by simp; omega⟩
  refine Ev.step (fun k => z171.l0.eq_2 ..) ?_
  rw [← Int.natCast_mul, qAo (by omega) (by omega)]
  exact qAm (by omega) (Ev.now _)
 | succ e ih =>
  intro d hd h2
  have hdd : d * d ≤ 16 * 16 := Nat.mul_le_mul (by omega) (by omega)
  have hw : wrap64 ((d : Int) * (d : Int)) = ((d * d : Nat) : Int) := by rw [← Int.natCast_mul, qAo (by omega) (by omega)]
  have hm : Int.tmod (n : Int) (d : Int) = ((n % d : Nat) : Int) := by rw [Int.tmod_eq_emod_of_nonneg (by omega)]; simp
  by_cases hl : n < d * d
  ·refine ⟨true, ?_, ?_⟩
   ·refine Ev.step (fun k => z171.l0.eq_2 ..) ?_
    rw [hw]
    exact qAm (by omega) (Ev.now _)
   ·simp only [true_iff]
    intro d' h3 _
    have := Nat.mul_le_mul h3 h3
    left; omega
  ·by_cases hz : n % d = 0
   ·refine ⟨false, ?_, ?_⟩
    ·refine Ev.step (fun k => z171.l0.eq_2 ..) ?_
     rw [hw, hm]
     exact qAa (by omega) (qAm (by omega) (qAa (by omega) (Ev.now _)))
    ·simp only [Bool.false_eq_true, false_iff]
     intro h
     rcases h d (Nat.le_refl _) (by omega) with h3 | h3
     ·exact hl h3
     ·exact h3 hz
   ·obtain ⟨b, hb, hi⟩ := ih (d + 1) (by omega) (by omega)
    refine ⟨b, ?_, hi.trans ⟨fun h d' h3 h4 => ?_, fun h d' h3 h4 => h d' (by omega) h4⟩⟩
    ·refine Ev.step (fun k => z171.l0.eq_2 ..) ?_
     rw [hw, hm]
     refine qAa (by omega) (qAm (by omega) (qAm (by omega) ?_))
     rw [qAp (by omega)]; exact hb
    ·rcases Nat.lt_or_ge d d' with h5 | h5
     ·exact h d' (by omega) h4
     ·have : d' = d := by omega
      subst this; exact .inr hz
theorem qHv (p : Int) : Ev (fun k => z133.f k p) (okP p) := by
 unfold z133.f okP
 refine Ev.bind (qA3 (qDh _ _ _)) ?_
 cases h : decide (2 ≤ p) && decide (p ≤ 251) with
 | false => exact qAm (by decide) (Ev.now _)
 | true =>
  rw [Bool.and_eq_true, decide_eq_true_iff, decide_eq_true_iff] at h
  obtain ⟨n, rfl⟩ := Int.eq_ofNat_of_zero_le (show 0 ≤ p by omega)
  obtain ⟨b, hb, hi⟩ := qDm (n := n) (by omega) (by omega) 14 2 (by omega) (by omega)
  refine qAa rfl (qBu hb ?_)
  rw [Bool.true_and, Int.toNat_natCast, Bool.eq_iff_iff, qKi (by omega) (by omega), hi]
theorem qGx (p : Int) : Ev (fun k => z171.f k p) (okP p) := by
 unfold z171.f okP
 refine Ev.bind (qA3 (qFh _ _ _)) ?_
 cases h : decide (2 ≤ p) && decide (p ≤ 251) with
 | false => exact qAm (by decide) (Ev.now _)
 | true =>
  rw [Bool.and_eq_true, decide_eq_true_iff, decide_eq_true_iff] at h
  obtain ⟨n, rfl⟩ := Int.eq_ofNat_of_zero_le (show 0 ≤ p by omega)
  obtain ⟨b, hb, hi⟩ := qDw (n := n) (by omega) (by omega) 14 2 (by omega) (by omega)
  refine qAa rfl (qBu hb ?_)
  rw [Bool.true_and, Int.toNat_natCast, Bool.eq_iff_iff, qKi (by omega) (by omega), hi]
theorem qH9 {p : Int} : okP p = true ↔ ∃ n : Nat, p = (n : Int) ∧ isP n = true := by
 unfold okP
 rw [Bool.and_eq_true, Bool.and_eq_true, decide_eq_true_iff, decide_eq_true_iff]
 constructor
 ·rintro ⟨⟨h0, h1⟩, h⟩
  exact ⟨p.toNat, by omega, h⟩
 ·rintro ⟨n, rfl, h⟩
  have := qBx h
  exact ⟨⟨by omega, by omega⟩, by rw [Int.toNat_natCast]; exact h⟩
end Go.Proofs.Ytipkciildhghiaa.B
set_option linter.unusedVariables false
set_option linter.unusedSimpArgs false
namespace Go.Proofs.Ytipkciildhghiaa.B
open Go.RowKit Go.Proofs.YtipkciildhghiaaW.PrintWords
open LinT
theorem qHh (p : Int) : Ev (fun k => z132.f k p) (okP p) := by
 unfold z132.f
 exact Ev.bind (qGx p) (Ev.now _)
end Go.Proofs.Ytipkciildhghiaa.B
set_option linter.unusedVariables false
set_option linter.unusedSimpArgs false
namespace Go.Proofs.Ytipkciildhghiaa.B
open Go.RowKit Go.Proofs.YtipkciildhghiaaW.PrintWords
open SimT LinT
def run (a m : Nat) : List Int := (List.range m).map fun j => ((a + j : Nat) : Int)
theorem qEc (a m : Nat) : (run a m).length = m := by simp [run]
theorem qCn {a m j : Nat} (h : j < m) : (run a m).getD j 0 = ((a + j : Nat) : Int) := by
 unfold run
 rw [List.getD_eq_getElem?_getD, List.getElem?_map, List.getElem?_range h]; rfl
theorem qLl (a m : Nat) : run a (m + 1) = run a m ++ [((a + m : Nat) : Int)] := by
 unfold run
 rw [List.range_succ, List.map_append]; rfl
theorem qIw {p : Nat → Bool} (h : ∀ i j k, i ≤ j → j ≤ k → p i = true → p k = true → p j = true) : ∀ n, ∃ a m, filt p n = run a m ∧ (m = 0 ∨ a + m ≤ n) ∧ ∀ j, j < m → p (a + j) = true
 | 0 => ⟨0, 0, rfl, .inl rfl, fun j hj => by omega⟩
 | n + 1 => by
  obtain ⟨a, m, h1, h2, h3⟩ := qIw h n
  rw [qDe]
  cases hp : p n with
  | false => exact ⟨a, m, by simpa using h1, by omega, h3⟩
  | true =>
   rcases Nat.eq_zero_or_pos m with h0 | h0
   ·refine ⟨n, 1, ?_, by omega, fun j hj => by rw [show n + j = n by omega]; exact hp⟩
    rw [h1, h0]; rfl
   ·have hlt : a + m = n := by
     rcases Nat.lt_or_ge (a + m) n with hl | hg
     ·have hpm : p (a + m) = true := h a (a + m) n (by omega) (by omega) (by have := h3 0 h0; simpa using this) hp
      have hmem : ((a + m : Nat) : Int) ∈ filt p n := qG0.2 ⟨a + m, hl, hpm, rfl⟩
      rw [h1] at hmem
      unfold run at hmem
      obtain ⟨j, hj, he⟩ := List.mem_map.1 hmem
      have := List.mem_range.1 hj
      omega
     ·omega
    refine ⟨a, m + 1, ?_, by omega, fun j hj => ?_⟩
    ·rw [h1, qLl, hlt]; rfl
    ·rcases Nat.lt_or_ge j m with hl | hg
     ·exact h3 j hl
     ·rw [show a + j = n by omega]; exact hp
theorem qJu {C : List (List Int)} (hs : Srt C) {i j : Nat} (hij : i ≤ j) (hj : j < C.length) : (C.getD i []).length ≤ (C.getD j []).length := by
 rcases Nat.lt_or_ge i j with hl | hg
 ·have := (qE5 _ _).1 (qE1 hs hl hj); omega
 ·have : i = j := by omega
  rw [this]; exact Nat.le_refl _
theorem qD4 {C : List (List Int)} (hs : Srt C) (d : Int) : ∃ a m, qAw C d = run a m ∧ (m = 0 ∨ a + m ≤ C.length) ∧ ∀ j, j < m → ((C.getD (a + j) []).length : Int) = d + 1 := by
 have e : qAw C d = filt (fun i => decide (i < C.length) && decide (((C.getD i []).length : Int) = d + 1)) C.length := qGi _ fun i hi => by simp [hi]
 obtain ⟨a, m, h1, h2, h3⟩ := qIw (p := fun i => decide (i < C.length) && decide (((C.getD i []).length : Int) = d + 1)) (fun i j k hij hjk hi hk => by
  rw [Bool.and_eq_true, decide_eq_true_iff, decide_eq_true_iff] at hi hk ⊢
  have a1 := qJu hs hij (by omega)
  have a2 := qJu hs hjk hk.1
  exact ⟨by omega, by omega⟩) C.length
 refine ⟨a, m, e.trans h1, h2, fun j hj => ?_⟩
 have := h3 j hj
 rw [Bool.and_eq_true, decide_eq_true_iff, decide_eq_true_iff] at this
 exact this.2
theorem qLs (l : List Int) (x : Int) (hl : l.length < 9223372036854775807) : (x ∉ l → Ev (fun k => z94.f k l x) (-1)) ∧ ∀ i, i < l.length → l.getD i 0 = x → (∀ j, j < i → l.getD j 0 ≠ x) → Ev (fun k => z94.f k l x) (i : Int) := by
 unfold z94.f
 have skip : ∀ j, j < l.length → l.getD j 0 ≠ x → Le (fun k => z94.l0 k l x (l.length : Int) ((j + 1 : Nat) : Int)) (fun k => z94.l0 k l x (l.length : Int) (j : Int)) := fun j hj hne r hr => by
  refine Ev.step (fun k => z94.l0.eq_2 ..) ?_
  refine qAa (by omega) (qAa (by omega) (qAa (by omega) (qAm (by rw [qBa]; exact fun e => hne e.symm) ?_)))
  rw [qAp (by omega)]; exact hr
 constructor
 ·intro hx
  have main : ∀ (d i : Nat), i + d = l.length → Ev (fun k => z94.l0 k l x (l.length : Int) (i : Int)) (-1) := by
   intro d
   induction d with
   | zero =>
    intro i hi
    refine Ev.step (fun k => z94.l0.eq_2 ..) ?_
    exact qAm (by omega) (Ev.now _)
   | succ d ih => exact fun i hi => skip i (by omega) (fun e => hx (e ▸ qA9 0 (by omega))) _ (ih (i + 1) (by omega))
  exact main l.length 0 (by omega)
 ·intro i hi he hb
  have main : ∀ (d j : Nat), j + d = i → Ev (fun k => z94.l0 k l x (l.length : Int) (j : Int)) (i : Int) := by
   intro d
   induction d with
   | zero =>
    intro j hj
    have : j = i := by omega
    subst this
    refine Ev.step (fun k => z94.l0.eq_2 ..) ?_
    exact qAa (by omega) (qAa (by omega) (qAa (by omega) (qAa (by rw [qBa]; exact he.symm) (Ev.now _))))
   | succ d ih => exact fun j hj => skip j (by omega) (hb j (by omega)) _ (ih (j + 1) (by omega))
  exact main i 0 (by omega)
theorem qKj {a m : Nat} (hm : m < 9223372036854775807) {j : Nat} (hj : j < m) : Ev (fun k => z94.f k (run a m) ((a + j : Nat) : Int)) (j : Int) := by
 refine (qLs (run a m) _ (by rw [qEc]; exact hm)).2 j (by rw [qEc]; exact hj) (qCn hj) (fun i hi => ?_)
 rw [qCn (by omega)]; omega
def askD (C : List (List Int)) (d p : Int) : Int :=
 if (okC C && okP p) = true then (if (decide (0 ≤ d) && decide (d ≤ 3)) = true then (if (qAw C (d - 1)).length ≤ 32 ∧ (qAw C d).length ≤ 32 ∧ (qAw C (d + 1)).length ≤ 32 then 0 else 5) else 2) else 1
section
variable {C : List (List Int)} (hl : C.length ≤ 1048576) (hr : ∀ x ∈ C, x.length ≤ 1048576)
include hl hr
theorem qJk (d p : Int) : Ev (fun k => z92.f k C d p) (askD C d p) := by
 unfold z92.f askD
 have hj : ∀ b, Ev (fun k => z92.j0 k d (!b) C) (if b = true then (if (decide (0 ≤ d) && decide (d ≤ 3)) = true then (if (qAw C (d - 1)).length ≤ 32 ∧ (qAw C d).length ≤ 32 ∧ (qAw C (d + 1)).length ≤ 32 then 0 else 5) else 2) else 1) := fun b => by
  refine Ev.step (fun k => z92.j0.eq_2 ..) ?_
  cases b with
  | false => exact qAa rfl (Ev.now _)
  | true =>
   refine qAm (by decide) ?_
   unfold z62.f
   refine Ev.bind (a := decide (0 ≤ d) && decide (d ≤ 3)) (Ev.bind (qA3 (qDh _ _ _)) (Ev.now _)) ?_
   cases hd : decide (0 ≤ d) && decide (d ≤ 3) with
   | false => exact qAm (by decide) (Ev.now _)
   | true =>
    rw [Bool.and_eq_true, decide_eq_true_iff, decide_eq_true_iff] at hd
    refine qAa rfl ?_
    have w0 : wrap64 (d - 1) = d - 1 := qAo (by omega) (by omega)
    have w1 : wrap64 (d + 1) = d + 1 := qAo (by omega) (by omega)
    rw [w0, if_pos rfl, if_pos rfl]
    refine Ev.step (fun k => z92.l0.eq_2 ..) ?_
    rw [w1, show wrap64 (d - 1 + 1) = d by rw [qAo (by omega) (by omega)]; omega]
    refine qAa (by omega) (Ev.bind (qBw hl (by omega) (by omega)) ?_)
    by_cases h0 : (qAw C (d - 1)).length ≤ 32
    ·refine qAm (by omega) ?_
     refine Ev.step (fun k => z92.l0.eq_2 ..) ?_
     rw [w1]
     refine qAa (by omega) (Ev.bind (qBw hl (by omega) (by omega)) ?_)
     by_cases h1 : (qAw C d).length ≤ 32
     ·refine qAm (by omega) ?_
      refine Ev.step (fun k => z92.l0.eq_2 ..) ?_
      rw [w1]
      refine qAa (by omega) (Ev.bind (qBw hl (by omega) (by omega)) ?_)
      by_cases h2 : (qAw C (d + 1)).length ≤ 32
      ·refine qAm (by omega) ?_
       refine Ev.step (fun k => z92.l0.eq_2 ..) ?_
       rw [w1, if_pos ⟨h0, h1, h2⟩, show wrap64 (d + 1 + 1) = d + 1 + 1 from qAo (by omega) (by omega)]
       exact qAm (by omega) (Ev.now _)
      ·rw [if_neg (fun h => h2 h.2.2)]
       exact qAa (by omega) (Ev.now _)
     ·rw [if_neg (fun h => h1 h.2.1)]
      exact qAa (by omega) (Ev.now _)
    ·rw [if_neg (fun h => h0 h.1)]
     exact qAa (by omega) (Ev.now _)
 refine Ev.bind (qHu C hl hr) ?_
 cases ho : okC C with
 | false => exact qAm (by decide) (by simpa using hj false)
 | true => exact qAa rfl (Ev.bind (qHv p) (by simpa using hj (okP p)))
theorem qH5 (d p : Int) : Ev (fun k => z88.f k C d p) (askD C d p) := by
 unfold z88.f askD
 have hj : ∀ b, Ev (fun k => z88.j0 k d (!b) C) (if b = true then (if (decide (0 ≤ d) && decide (d ≤ 3)) = true then (if (qAw C (d - 1)).length ≤ 32 ∧ (qAw C d).length ≤ 32 ∧ (qAw C (d + 1)).length ≤ 32 then 0 else 5) else 2) else 1) := fun b => by
  refine Ev.step (fun k => z88.j0.eq_2 ..) ?_
  cases b with
  | false => exact qAa rfl (Ev.now _)
  | true =>
   refine qAm (by decide) ?_
   unfold z60.f
   refine Ev.bind (a := decide (0 ≤ d) && decide (d ≤ 3)) (Ev.bind (qA3 (qFh _ _ _)) (Ev.now _)) ?_
   cases hd : decide (0 ≤ d) && decide (d ≤ 3) with
   | false => exact qAm (by decide) (Ev.now _)
   | true =>
    rw [Bool.and_eq_true, decide_eq_true_iff, decide_eq_true_iff] at hd
    refine qAa rfl ?_
    have w0 : wrap64 (d - 1) = d - 1 := qAo (by omega) (by omega)
    have w1 : wrap64 (d + 1) = d + 1 := qAo (by omega) (by omega)
    rw [w0, w1, if_pos rfl, if_pos rfl]
    refine Ev.bind (qCo hl (by omega) (by omega)) ?_
    by_cases h1 : (qAw C d).length ≤ 32
    ·refine qAm (by omega) (Ev.bind (qCo hl (by omega) (by omega)) ?_)
     by_cases h0 : (qAw C (d - 1)).length ≤ 32
     ·refine qAm (by omega) (Ev.bind (qCo hl (by omega) (by omega)) ?_)
      by_cases h2 : (qAw C (d + 1)).length ≤ 32
      ·exact qBu (qAm (by omega) (Ev.now _)) (if_pos ⟨h0, h1, h2⟩).symm
      ·exact qBu (qAa (by omega) (Ev.now _)) (if_neg (fun h => h2 h.2.2)).symm
     ·exact qBu (qAa (by omega) (Ev.now _)) (if_neg (fun h => h0 h.1)).symm
    ·exact qBu (qAa (by omega) (Ev.now _)) (if_neg (fun h => h1 h.2.1)).symm
 refine Ev.bind (qJv C hl hr) ?_
 cases ho : okC C with
 | false => exact qAm (by decide) (by simpa using hj false)
 | true => exact qAa rfl (Ev.bind (qHh p) (by simpa using hj (okP p)))
end
theorem qFo {C : List (List Int)} {d p : Int} (h : askD C d p = 0) : okC C = true ∧ okP p = true ∧ 0 ≤ d ∧ d ≤ 3 ∧ (qAw C (d - 1)).length ≤ 32 ∧ (qAw C d).length ≤ 32 ∧ (qAw C (d + 1)).length ≤ 32 := by
 unfold askD at h
 split at h
 ·rename_i h1
  rw [Bool.and_eq_true] at h1
  split at h
  ·rename_i h2
   rw [Bool.and_eq_true, decide_eq_true_iff, decide_eq_true_iff] at h2
   split at h
   ·rename_i h3
    exact ⟨h1.1, h1.2, h2.1, h2.2, h3⟩
   ·omega
  ·omega
 ·omega
end Go.Proofs.Ytipkciildhghiaa.B
set_option linter.unusedVariables false
set_option linter.unusedSimpArgs false
namespace Go.Proofs.Ytipkciildhghiaa.B
open Go.RowKit Go.Proofs.YtipkciildhghiaaW.PrintWords
open LinT
theorem qMg (p : Int) {m n : Nat} {X : List Int} (hl : X.length = m * n) (hm : m ≤ 1024) (hn : n ≤ 1024) {i : Nat} (hi : i < m) : impl_Matrix_row.f p (m : Int) (n : Int) X (i : Int) = some ((X.drop (i * n)).take n) := by
 have hb : m * n ≤ 1024 * 1024 := Nat.mul_le_mul hm hn
 have h2 := Nat.mul_le_mul_right n (show i + 1 ≤ m by omega)
 have h1 : (i + 1) * n = i * n + n := by rw [Nat.add_mul, Nat.one_mul]
 unfold impl_Matrix_row.f
 have e1 : wrap64 ((i : Int) * (n : Int)) = ((i * n : Nat) : Int) := by rw [← Int.natCast_mul, qAo (by omega) (by omega)]
 have e2 : wrap64 (wrap64 ((i : Int) + 1) * (n : Int)) = ((i * n + n : Nat) : Int) := by
  rw [qAp (by omega), ← Int.natCast_mul, h1, qAo (by omega) (by omega)]
 rw [e1, e2, if_pos (by omega), Int.toNat_natCast, Int.toNat_natCast, List.drop_take]
 rw [show i * n + n - i * n = n by omega]
theorem qD0 {m n : Nat} {X : List Int} (hl : X.length = m * n) {i : Nat} (hi : i < m) : ((X.drop (i * n)).take n).length = n := by
 have h2 := Nat.mul_le_mul_right n (show i + 1 ≤ m by omega)
 rw [Nat.add_mul, Nat.one_mul] at h2
 rw [List.length_take, List.length_drop]; omega
end Go.Proofs.Ytipkciildhghiaa.B
set_option linter.unusedVariables false
set_option linter.unusedSimpArgs false
namespace Go.Proofs.Ytipkciildhghiaa.B
open Go.RowKit Go.Proofs.YtipkciildhghiaaW.PrintWords
open LinT
theorem qMa (p : Int) (m n : Nat) (hm : m ≤ 1048576) (hn : n ≤ 1048576) : Ev (fun k => z137.f k p (m : Int) (n : Int)) (p, (m : Int), (n : Int), List.replicate (m * n) 0) := by
 unfold z137.f z250.f
 have hin : ∀ (i t : Nat), t ≤ 1048576 * 1048576 → Le (fun k => z250.l0 k (n : Int) (m : Int) (wrap64 ((i : Int) + 1)) p (m : Int) (n : Int) (List.replicate (t + n) 0)) (fun k => z250.l1 k (n : Int) (i : Int) (m : Int) (i : Int) (n : Int) 0 p (m : Int) (n : Int) (List.replicate t 0)) := by
  intro i t ht
  have main : ∀ (d j : Nat), j + d = n → Le (fun k => z250.l0 k (n : Int) (m : Int) (wrap64 ((i : Int) + 1)) p (m : Int) (n : Int) (List.replicate (t + n) 0)) (fun k => z250.l1 k (n : Int) (i : Int) (m : Int) (i : Int) (n : Int) (j : Int) p (m : Int) (n : Int) (List.replicate (t + j) 0)) := by
   intro d
   induction d with
   | zero =>
    intro j hj r hr
    have : j = n := by omega
    subst this
    refine Ev.step (fun k => z250.l1.eq_2 ..) ?_
    exact qAm (by omega) hr
   | succ d ih =>
    intro j hj r hr
    have := ih (j + 1) (by omega) r hr
    refine Ev.step (fun k => z250.l1.eq_2 ..) ?_
    refine qAa (by omega) (Ev.bind (qA3 (r := (0 : Int)) rfl) (qAa (by rw [List.length_replicate]; omega) ?_))
    rw [qAp (by omega)]
    have e : List.replicate (t + j) (0 : Int) ++ [0] = List.replicate (t + (j + 1)) 0 := by rw [show t + (j + 1) = t + j + 1 by omega, List.replicate_succ']
    rw [e]; exact this
  exact main n 0 (by omega)
 have out : ∀ (d i : Nat), i + d = m → Ev (fun k => z250.l0 k (n : Int) (m : Int) (i : Int) p (m : Int) (n : Int) (List.replicate (i * n) 0)) (p, (m : Int), (n : Int), List.replicate (m * n) 0) := by
  intro d
  induction d with
  | zero =>
   intro i hi
   have : i = m := by omega
   subst this
   refine Ev.step (fun k => z250.l0.eq_2 ..) ?_
   exact qAm (by omega) (Ev.now _)
  | succ d ih =>
   intro i hi
   have hb : i * n ≤ 1048576 * 1048576 := Nat.mul_le_mul (by omega) hn
   have h := ih (i + 1) (by omega)
   rw [Nat.add_mul, Nat.one_mul] at h
   refine Ev.step (fun k => z250.l0.eq_2 ..) ?_
   refine qAa (by omega) (hin i (i * n) hb _ ?_)
   rw [qAp (by omega)]; exact h
 have h := out m 0 (by omega)
 rw [Nat.zero_mul] at h
 exact Ev.bind h (Ev.now _)
theorem qJn (p : Int) (m n : Nat) (hm : m ≤ 1024) (hn : n ≤ 1024) : z134.f p (m : Int) (n : Int) = some (p, (m : Int), (n : Int), List.replicate (m * n) 0) := by
 have hb : m * n ≤ 1024 * 1024 := Nat.mul_le_mul hm hn
 unfold z134.f
 rw [← Int.natCast_mul, qAo (by omega) (by omega), if_pos (by omega), if_pos (by rw [Int.toNat_natCast]; omega), Int.toNat_natCast]
end Go.Proofs.Ytipkciildhghiaa.B
set_option linter.unusedVariables false
set_option linter.unusedSimpArgs false
namespace Go.Proofs.Ytipkciildhghiaa.B
open Go.RowKit Go.Proofs.YtipkciildhghiaaW.PrintWords
open SimT LinT
def sgn (p : Int) (i : Nat) : Int := if i % 2 = 0 then 1 else p - 1
theorem qLk {p : Nat} (hp : p ≤ 251) (i : Nat) : z139.f (i : Int) (p : Int) = some (sgn (p : Int) i) := by
 unfold z139.f sgn
 rw [Int.tmod_eq_emod_of_nonneg (by omega), qAo (by omega) (by omega)]
 by_cases h : i % 2 = 0
 ·rw [if_pos h, if_pos (by omega)]
 ·rw [if_neg h, if_neg (by omega)]
theorem qLj {p : Nat} (hp0 : 2 ≤ p) (hp : p ≤ 251) (i : Nat) : z136.f (i : Int) (p : Int) = some (sgn (p : Int) i) := by
 unfold z136.f sgn
 rw [Int.tmod_eq_emod_of_nonneg (by omega), qAo (by omega) (by omega)]
 by_cases h : i % 2 = 0
 ·rw [if_pos h, if_pos (by omega), if_neg (by omega), Int.emod_eq_of_lt (by omega) (by omega)]
 ·rw [if_neg h, if_neg (by omega)]
theorem qMf {p : Nat} (hp0 : 2 ≤ p) (i : Nat) : 0 ≤ sgn (p : Int) i ∧ sgn (p : Int) i < (p : Int) := by
 unfold sgn; split <;> omega
def colF (C : List (List Int)) (d : Int) (j : Nat) : List Int := qCg C (C.getD ((qAw C d).getD j 0).toNat [])
def colG (C : List (List Int)) (d p : Int) (n j : Nat) (s : List Int) : List Int :=
 iter (fun i s => s.set (((colF C d j).getD i 0 - (qAw C (d - 1)).getD 0 0).toNat * n + j) (sgn p i)) 0 (colF C d j).length s
def qEm (C : List (List Int)) (d p : Int) : List Int :=
 iter (colG C d p (qAw C d).length) 0 (qAw C d).length (List.replicate ((qAw C (d - 1)).length * (qAw C d).length) 0)
def bMat (C : List (List Int)) (d p : Int) : Int × Int × Int × List Int := (p, ((qAw C (d - 1)).length : Int), ((qAw C d).length : Int), qEm C d p)
theorem qI0 {C : List (List Int)} (ho : okC C = true) {d : Int} {a m b n : Nat} (ha : qAw C (d - 1) = run a m) (hb : qAw C d = run b n) {j i : Nat} (hj : j < n) (hi : i < (colF C d j).length) : ∃ r, r < m ∧ (colF C d j).getD i 0 = ((a + r : Nat) : Int) := by
 unfold colF at hi ⊢
 rw [hb, qCn hj, Int.toNat_natCast] at hi ⊢
 have hmem : ((b + j : Nat) : Int) ∈ qAw C d := by rw [hb]; unfold run; exact List.mem_map.2 ⟨j, List.mem_range.2 hj, rfl⟩
 obtain ⟨i0, hi0, hp0, he0⟩ := qG0.1 hmem
 have : i0 = b + j := by omega
 subst this
 have hlen := of_decide_eq_true hp0
 have hsC : C.getD (b + j) [] ∈ C := qA9 [] hi0
 generalize C.getD (b + j) [] = s at hi hlen hsC ⊢
 unfold qCg at hi ⊢
 have hi' : i < (qBp s).length := by simpa using hi
 have e : ((qBp s).map (idx C)).getD i 0 = idx C ((qBp s).getD i []) := by
  rw [List.getD_eq_getElem?_getD, List.getElem?_map, List.getD_eq_getElem?_getD, List.getElem?_eq_getElem hi']; rfl
 rw [e]
 have hf : (qBp s).getD i [] ∈ qBp s := qA9 [] hi'
 obtain ⟨h1, k, hk, hd⟩ := qD6.1 hf
 have hin := (qFc.1 ho).2.2.2 s hsC h1 k hk
 obtain ⟨q, hq, hq1, hq2, _⟩ := qFi hin
 rw [← hd, hq1]
 have hdl : (drp s k).length = s.length - 1 := qGn hk
 have hqm : ((q : Nat) : Int) ∈ qAw C (d - 1) := qG0.2 ⟨q, hq, decide_eq_true (by rw [hq2, hdl]; omega), rfl⟩
 rw [ha] at hqm
 unfold run at hqm
 obtain ⟨r, hr, h3⟩ := List.mem_map.1 hqm
 exact ⟨r, List.mem_range.1 hr, by omega⟩
theorem qI1 {C : List (List Int)} (ho : okC C = true) (d : Int) (j : Nat) : (colF C d j).length ≤ 4 := by
 unfold colF qCg
 rw [List.length_map]
 by_cases h : ((qAw C d).getD j 0).toNat < C.length
 ·have := (qE6 ((qFc.1 ho).2.2.1 _ (qA9 [] h))).2
  exact Nat.le_trans (qFj _) this
 ·rw [List.getD_eq_getElem?_getD, List.getElem?_eq_none (by omega)]
  simp [qBp]
theorem qG5 {C : List (List Int)} {d p : Int} {n j : Nat} {s : List Int} {q : Nat} (hq : 2 ≤ q) (hp : p = (q : Int)) (h : s.length = q ∨ True) (hr : Rng q s) : (colG C d p n j s).length = s.length ∧ Rng q (colG C d p n j s) := by
 have := qG1 (fun i s => s.set (((colF C d j).getD i 0 - (qAw C (d - 1)).getD 0 0).toNat * n + j) (sgn p i)) (fun _ t => t.length = s.length ∧ Rng q t) (colF C d j).length 0 s ⟨rfl, hr⟩ (fun i t _ _ ht => ⟨by rw [List.length_set]; exact ht.1, fun z hz => by
  rcases List.mem_or_eq_of_mem_set hz with h1 | h1
  ·exact ht.2 z h1
  ·rw [h1, hp]; exact qMf hq i⟩)
 exact this
theorem qH3 (C : List (List Int)) (d : Int) {p : Nat} (hp : 2 ≤ p) : (qEm C d (p : Int)).length = (qAw C (d - 1)).length * (qAw C d).length ∧ Rng p (qEm C d (p : Int)) := by
 have := qG1 (colG C d (p : Int) (qAw C d).length) (fun _ t => t.length = (qAw C (d - 1)).length * (qAw C d).length ∧ Rng p t) (qAw C d).length 0 (List.replicate ((qAw C (d - 1)).length * (qAw C d).length) 0) ⟨by rw [List.length_replicate], fun z hz => by rw [(List.mem_replicate.1 hz).2]; omega⟩ (fun j t _ _ ht => by
  have := qG5 (C := C) (d := d) (n := (qAw C d).length) (j := j) hp (p := (p : Int)) rfl (.inr trivial) ht.2
  exact ⟨this.1.trans ht.1, this.2⟩)
 exact this
section
variable {C : List (List Int)} (hl : C.length ≤ 1048576) (hr : ∀ x ∈ C, x.length ≤ 1048576)
include hl hr
theorem qLt {p : Nat} (hp : isP p = true) (ho : okC C = true) {d : Int} (h0 : 0 ≤ d) (h3 : d ≤ 4) (hm : (qAw C (d - 1)).length ≤ 48) (hn : (qAw C d).length ≤ 48) : Ev (fun k => z96.f k C d (p : Int)) (bMat C d (p : Int)) := by
 have h2 := qBx hp
 have hs := (qFc.1 ho).2.1
 obtain ⟨a, m, ha, ham, _⟩ := qD4 hs (d - 1)
 obtain ⟨b, n, hb, hbn, _⟩ := qD4 hs d
 have hml : (qAw C (d - 1)).length = m := by rw [ha, qEc]
 have hnl : (qAw C d).length = n := by rw [hb, qEc]
 unfold z96.f bMat
 have ew : wrap64 (d - 1) = d - 1 := qAo (by omega) (by omega)
 rw [ew]
 clear ew
 refine Ev.bind (qBw hl (by omega) (by omega)) (Ev.bind (qBw hl (by omega) (by omega)) (Ev.bind (qA3 (qDx _)) (Ev.bind (qA3 (qDx _)) (Ev.bind (qMa (p : Int) _ _ (by omega) (by omega)) ?_))))
 dsimp only
 have hcol : ∀ (j : Nat) (s : List Int), j < n → s.length = m * n → Le (fun k => z96.l0 k (p : Int) (qAw C (d - 1)) (qAw C d) ((qAw C d).length : Int) (wrap64 ((j : Int) + 1)) C (p : Int) ((qAw C (d - 1)).length : Int) ((qAw C d).length : Int) (colG C d (p : Int) n j s))
   (fun k => z96.l1 k (p : Int) (qAw C (d - 1)) (qAw C d) (j : Int) ((qAw C d).length : Int) (j : Int) (colF C d j) ((colF C d j).length : Int) 0 C (p : Int) ((qAw C (d - 1)).length : Int) ((qAw C d).length : Int) s) := by
  intro j s hj hsl
  have hcl := qI1 ho d j
  have h := (qBt (fun (t : List Int) (i : Nat) k => z96.l1 k (p : Int) (qAw C (d - 1)) (qAw C d) (j : Int) ((qAw C d).length : Int) (j : Int) (colF C d j) ((colF C d j).length : Int) (i : Int) C (p : Int) ((qAw C (d - 1)).length : Int) ((qAw C d).length : Int) t)
   (fun i s => s.set (((colF C d j).getD i 0 - (qAw C (d - 1)).getD 0 0).toNat * n + j) (sgn (p : Int) i)) (fun _ t => t.length = m * n) (colF C d j).length 0 s hsl (fun i t _ hi ht => ⟨fun r hr' => ?_, by rw [List.length_set]; exact ht⟩)).1
  ·refine Le.trans (fun r hr' => ?_) h
   refine Ev.step (fun k => z96.l1.eq_2 ..) ?_
   exact qAm (by omega) hr'
  ·have hi' : i < (colF C d j).length := by omega
   obtain ⟨r0, hr0, hf⟩ := qI0 ho ha hb hj hi'
   have hlt : r0 * n + j < m * n := qCm hr0 hj
   have hmn : m * n ≤ 48 * 48 := Nat.mul_le_mul (by omega) (by omega)
   have hix := qKj (a := a) (m := m) (by omega) hr0
   rw [← ha, ← hf] at hix
   refine Ev.step (fun k => z96.l1.eq_2 ..) ?_
   refine qAa (by omega) (qAa (by omega) (qAa (by omega) ?_))
   rw [qBa]
   refine Ev.bind hix (Ev.bind (qA3 (qLk h2.2 i)) ?_)
   have e1 : wrap64 (wrap64 ((r0 : Int) * ((qAw C d).length : Int)) + (j : Int)) = ((r0 * n + j : Nat) : Int) := by
    rw [hnl, ← Int.natCast_mul, qAo (x := ((r0 * n : Nat) : Int)) (by omega) (by omega), qAo (by omega) (by omega)]; omega
   have e2 : (((colF C d j).getD i 0) - (qAw C (d - 1)).getD 0 0).toNat = r0 := by
    rw [hf, ha, qCn (by omega)]; omega
   rw [e2] at hr'
   rw [e1]
   clear e1 e2 hf hix
   refine qAa (by omega) (qAa (by omega) ?_)
   rw [qAp (by omega), Int.toNat_natCast]
   exact hr'
 have hall := (qBt (fun (t : List Int) (j : Nat) k => z96.l0 k (p : Int) (qAw C (d - 1)) (qAw C d) ((qAw C d).length : Int) (j : Int) C (p : Int) ((qAw C (d - 1)).length : Int) ((qAw C d).length : Int) t)
  (colG C d (p : Int) n) (fun _ t => t.length = m * n ∧ Rng p t) n 0 (List.replicate (m * n) 0) ⟨by rw [List.length_replicate], fun z hz => by rw [(List.mem_replicate.1 hz).2]; omega⟩ (fun j t _ hj ht => ⟨fun r hr' => ?_, ?_⟩)).1
 ·have h : Ev (fun k => z96.l0 k (p : Int) (qAw C (d - 1)) (qAw C d) ((qAw C d).length : Int) ((0 + n : Nat) : Int) C (p : Int) ((qAw C (d - 1)).length : Int) ((qAw C d).length : Int) (iter (colG C d (p : Int) n) 0 n (List.replicate (m * n) 0))) (p, ((qAw C (d - 1)).length : Int), ((qAw C d).length : Int), qEm C d (p : Int)) := by
   unfold qEm
   rw [hml, hnl]
   refine Ev.step (fun k => z96.l0.eq_2 ..) ?_
   exact qAm (by omega) (Ev.now _)
  have := hall _ h
  rw [hml, hnl] at this ⊢
  exact this
 ·have hj' : j < n := by omega
  have hup : rd (qAw C d) (j : Int) = ((b + j : Nat) : Int) := by rw [qBa, hb, qCn hj']
  have hbC : b + j < C.length := by omega
  have hcF : qCg C (C.getD (b + j) []) = colF C d j := by
   unfold colF; rw [hb, qCn hj', Int.toNat_natCast]
  refine Ev.step (fun k => z96.l0.eq_2 ..) ?_
  refine qAa (by omega) (qAa (by omega) (qAa (by omega) ?_))
  rw [hup]
  have hfi := qF4 hl hr hs hbC
  rw [hcF] at hfi
  refine Ev.bind hfi (hcol j t hj' ht.1 r ?_)
  rw [qAp (by omega)]; exact hr'
 ·have := qG5 (C := C) (d := d) (n := n) (j := j) h2.1 (p := (p : Int)) rfl (.inr trivial) ht.2
  exact ⟨this.1.trans ht.1, this.2⟩
theorem qLh {p : Nat} (hp : isP p = true) (ho : okC C = true) {d : Int} (h0 : 0 ≤ d) (h3 : d ≤ 4) (hm : (qAw C (d - 1)).length ≤ 48) (hn : (qAw C d).length ≤ 48) : Ev (fun k => z95.f k C d (p : Int)) (bMat C d (p : Int)) := by
 have h2 := qBx hp
 have hs := (qFc.1 ho).2.1
 obtain ⟨a, m, ha, ham, ham2⟩ := qD4 hs (d - 1)
 obtain ⟨b, n, hb, hbn, hbn2⟩ := qD4 hs d
 have hml : (qAw C (d - 1)).length = m := by rw [ha, qEc]
 have hnl : (qAw C d).length = n := by rw [hb, qEc]
 unfold z95.f bMat
 have ew : wrap64 (d - 1) = d - 1 := qAo (by omega) (by omega)
 rw [ew]
 clear ew
 refine Ev.bind (qCo hl (by omega) (by omega)) (Ev.bind (qCo hl (by omega) (by omega)) (Ev.bind (qA3 (qJn (p : Int) _ _ (by omega) (by omega))) ?_))
 dsimp only
 rcases Int.lt_or_le 0 d with hd0 | hd0
 ·have hdec : decide (d > 0) = true := decide_eq_true hd0
  have hcol : ∀ (j : Nat) (s : List Int), j < n → s.length = m * n → Le (fun k => z95.l0 k d (p : Int) (qAw C d) (qAw C (d - 1)) (wrap64 ((j : Int) + 1)) C (p : Int) ((qAw C (d - 1)).length : Int) ((qAw C d).length : Int) (colG C d (p : Int) n j s))
    (fun k => z95.l1 k d (p : Int) (qAw C d) (qAw C (d - 1)) (j : Int) (colF C d j) 0 C (p : Int) ((qAw C (d - 1)).length : Int) ((qAw C d).length : Int) s) := by
   intro j s hj hsl
   have hcl := qI1 ho d j
   have h := (qBt (fun (t : List Int) (i : Nat) k => z95.l1 k d (p : Int) (qAw C d) (qAw C (d - 1)) (j : Int) (colF C d j) (i : Int) C (p : Int) ((qAw C (d - 1)).length : Int) ((qAw C d).length : Int) t)
    (fun i s => s.set (((colF C d j).getD i 0 - (qAw C (d - 1)).getD 0 0).toNat * n + j) (sgn (p : Int) i)) (fun _ t => t.length = m * n) (colF C d j).length 0 s hsl (fun i t _ hi ht => ⟨fun r hr' => ?_, by rw [List.length_set]; exact ht⟩)).1
   ·refine Le.trans (fun r hr' => ?_) h
    refine Ev.step (fun k => z95.l1.eq_2 ..) ?_
    exact qAm (by omega) hr'
   ·have hi' : i < (colF C d j).length := by omega
    obtain ⟨r0, hr0, hf⟩ := qI0 ho ha hb hj hi'
    have hlt : r0 * n + j < m * n := qCm hr0 hj
    have hmn : m * n ≤ 48 * 48 := Nat.mul_le_mul (by omega) (by omega)
    have e2 : (((colF C d j).getD i 0) - (qAw C (d - 1)).getD 0 0).toNat = r0 := by
     rw [hf, ha, qCn (by omega)]; omega
    have e1 : wrap64 (wrap64 (wrap64 (rd (colF C d j) (i : Int) - rd (qAw C (d - 1)) 0) * ((qAw C d).length : Int)) + (j : Int)) = ((r0 * n + j : Nat) : Int) := by
     have e3 : rd (qAw C (d - 1)) 0 = (a : Int) := by
      have := qBa (qAw C (d - 1)) 0
      rw [ha, qCn (by omega)] at this
      rw [ha]; simpa using this
     have e4 : wrap64 (((a + r0 : Nat) : Int) - (a : Int)) = (r0 : Int) := by rw [qAo (by omega) (by omega)]; omega
     rw [qBa, hf, e3, e4, hnl, ← Int.natCast_mul, qAo (x := ((r0 * n : Nat) : Int)) (by omega) (by omega), qAo (by omega) (by omega)]; omega
    refine Ev.step (fun k => z95.l1.eq_2 ..) ?_
    rw [e2] at hr'
    rw [e1]
    clear e1 e2 hf
    refine qAa (by omega) (qAa (by omega) (qAa (by omega) (Ev.bind (qA3 (qLj h2.1 h2.2 i)) (qAa (by omega) (qAa (by omega) ?_)))))
    rw [qAp (by omega), Int.toNat_natCast]
    exact hr'
  have hall := (qBt (fun (t : List Int) (j : Nat) k => z95.l0 k d (p : Int) (qAw C d) (qAw C (d - 1)) (j : Int) C (p : Int) ((qAw C (d - 1)).length : Int) ((qAw C d).length : Int) t)
   (colG C d (p : Int) n) (fun _ t => t.length = m * n ∧ Rng p t) n 0 (List.replicate (m * n) 0) ⟨by rw [List.length_replicate], fun z hz => by rw [(List.mem_replicate.1 hz).2]; omega⟩ (fun j t _ hj ht => ⟨fun r hr' => ?_, ?_⟩)).1
  ·have h : Ev (fun k => z95.l0 k d (p : Int) (qAw C d) (qAw C (d - 1)) ((0 + n : Nat) : Int) C (p : Int) ((qAw C (d - 1)).length : Int) ((qAw C d).length : Int) (iter (colG C d (p : Int) n) 0 n (List.replicate (m * n) 0))) (p, ((qAw C (d - 1)).length : Int), ((qAw C d).length : Int), qEm C d (p : Int)) := by
    unfold qEm
    rw [hml, hnl]
    refine Ev.step (fun k => z95.l0.eq_2 ..) ?_
    refine qAm (by omega) ?_
    refine Ev.step (fun k => z95.j1.eq_2 ..) ?_
    exact qAm (by decide) (Ev.now _)
   have := hall _ h
   rw [hml, hnl] at this ⊢
   exact this
  ·have hj' : j < n := by omega
   have hup : rd (qAw C d) (j : Int) = ((b + j : Nat) : Int) := by rw [qBa, hb, qCn hj']
   have hbC : b + j < C.length := by omega
   have hcF : qCg C (C.getD (b + j) []) = colF C d j := by
    unfold colF; rw [hb, qCn hj', Int.toNat_natCast]
   have hfi := qHi hl hr hbC
   rw [hcF] at hfi
   refine Ev.step (fun k => z95.l0.eq_2 ..) ?_
   refine qAa (by omega) ?_
   rw [hdec]
   refine Ev.step (fun k => z95.j1.eq_2 ..) ?_
   refine qAa rfl (qAa (by omega) (qAa (by omega) ?_))
   rw [hup]
   refine Ev.bind hfi (hcol j t hj' ht.1 r ?_)
   rw [qAp (by omega)]; exact hr'
  ·have := qG5 (C := C) (d := d) (n := n) (j := j) h2.1 (p := (p : Int)) rfl (.inr trivial) ht.2
   exact ⟨this.1.trans ht.1, this.2⟩
 ·have hd : d = 0 := by omega
  subst hd
  have hm0 : m = 0 := by
   rcases Nat.eq_zero_or_pos m with h | h
   ·exact h
   ·have h5 := ham2 0 h
    have h6 := (qE6 ((qFc.1 ho).2.2.1 _ (qA9 [] (show a + 0 < C.length by omega)))).1
    omega
  have hcells : qEm C 0 (p : Int) = List.replicate ((qAw C (0 - 1)).length * (qAw C 0).length) 0 := by
   have := (qH3 C 0 h2.1).1
   rw [hml, hm0, Nat.zero_mul] at this ⊢
   exact List.eq_nil_of_length_eq_zero this
  rw [hcells]
  refine Ev.step (fun k => z95.l0.eq_2 ..) ?_
  have hdec : decide ((0 : Int) > 0) = false := by decide
  rw [hdec]
  have hj : Ev (fun k => z95.j1 k 0 (p : Int) (qAw C 0) (qAw C (0 - 1)) 0 false C (p : Int) ((qAw C (0 - 1)).length : Int) ((qAw C 0).length : Int) (List.replicate ((qAw C (0 - 1)).length * (qAw C 0).length) 0)) (p, ((qAw C (0 - 1)).length : Int), ((qAw C 0).length : Int), List.replicate ((qAw C (0 - 1)).length * (qAw C 0).length) 0) := by
   refine Ev.step (fun k => z95.j1.eq_2 ..) ?_
   exact qAm (by decide) (Ev.now _)
  by_cases h : (0 : Int) < ((qAw C 0).length : Int)
  ·exact qAa h hj
  ·exact qAm h hj
end
end Go.Proofs.Ytipkciildhghiaa.B
set_option linter.unusedVariables false
set_option linter.unusedSimpArgs false
namespace Go.Proofs.Ytipkciildhghiaa.B
open Go.RowKit Go.Proofs.YtipkciildhghiaaW.PrintWords
open LinT
def vecC (l : List Int) (n p : Int) : Bool := decide ((l.length : Int) = n) && l.all fun y => decide (0 ≤ y) && decide (y ≤ p - 1)
theorem qLf {l : List Int} {n p : Nat} : vecC l (n : Int) (p : Int) = true ↔ l.length = n ∧ Rng p l := by
 unfold vecC Rng
 rw [Bool.and_eq_true, decide_eq_true_iff, List.all_eq_true]
 constructor
 ·rintro ⟨h1, h2⟩
  refine ⟨by omega, fun y hy => ?_⟩
  have := h2 y hy
  rw [Bool.and_eq_true, decide_eq_true_iff, decide_eq_true_iff] at this
  omega
 ·rintro ⟨h1, h2⟩
  refine ⟨by omega, fun y hy => ?_⟩
  have := h2 y hy
  rw [Bool.and_eq_true, decide_eq_true_iff, decide_eq_true_iff]
  omega
theorem qD5 {p : Nat} (hp : p ≤ 251) (a : Int) : Ev (fun k => z204.f a (p : Int)) (!(decide (0 ≤ a) && decide (a ≤ (p : Int) - 1))) := by
 unfold z204.f z205.f
 rw [qAo (by omega) (by omega)]
 exact Ev.bind (a := decide (0 ≤ a) && decide (a ≤ (p : Int) - 1)) (Ev.bind (qA3 (qDh _ _ _)) (Ev.now _)) (Ev.now _)
theorem qG8 {p : Nat} (hq : p ≤ 251) (l : List Int) (hl : l.length ≤ 1048576) : Ev (fun k => z251.f k l (p : Int)) (l.any fun a => !(decide (0 ≤ a) && decide (a ≤ (p : Int) - 1))) := by
 obtain ⟨t, ht, hd⟩ := qC1 (l) 0 (fun i k => z252.l0 k (l) ((l).length : Int) (i : Int) (p : Int)) (fun a => !(decide (0 ≤ a) && decide (a ≤ (p : Int) - 1))) (fun j hj hp r hr => by
   refine Ev.step (fun k => z252.l0.eq_2 ..) ?_
   refine qAa (by omega) (qAa (by omega) (qAa (by omega) ?_))
   rw [qBa, qAp (by omega)]
   exact Ev.bind (qD5 hq _) (qAm (by rw [hp]; decide) hr)) (fun j hj hp => by
   refine Ev.step (fun k => z252.l0.eq_2 ..) ?_
   refine qAa (by omega) (qAa (by omega) (qAa (by omega) ?_))
   rw [qBa]
   exact Ev.bind (qD5 hq _) (qAa hp (Ev.now _))) (by
   refine Ev.step (fun k => z252.l0.eq_2 ..) ?_
   exact qAm (by omega) (Ev.now _))
 unfold z251.f z252.f
 refine Ev.bind ht (qBu (Ev.now _) hd)
theorem qF6 {p : Nat} (hp : p ≤ 251) (l : List Int) (hl : l.length ≤ 1048576) : Ev (fun k => z198.f k l (p : Int)) (l.all fun y => decide (0 ≤ y) && decide (y ≤ (p : Int) - 1)) := by
 unfold z198.f
 refine Ev.bind (qG8 hp l hl) (qBu (Ev.now _) ?_)
 rw [List.any_eq_not_all_not]; simp
theorem qIa {p : Nat} (hp : p ≤ 251) (l : List Int) (n : Int) (hl : l.length ≤ 1048576) : Ev (fun k => z174.f k l n (p : Int)) (vecC l n (p : Int)) := by
 unfold z174.f vecC
 refine Ev.bind (qA3 (r := (l.length : Int)) rfl) ?_
 by_cases h : (l.length : Int) = n
 ·refine qAa h (Ev.bind (qF6 hp l hl) (qBu (Ev.now _) ?_))
  rw [decide_eq_true h, Bool.true_and]
 ·refine qBu (qAm h (Ev.now _)) ?_
  rw [decide_eq_false h, Bool.false_and]
end Go.Proofs.Ytipkciildhghiaa.B
set_option linter.unusedVariables false
set_option linter.unusedSimpArgs false
namespace Go.Proofs.Ytipkciildhghiaa.B
open Go.RowKit Go.Proofs.YtipkciildhghiaaW.PrintWords
open LinT
theorem qKt {p : Nat} (hp : p ≤ 251) (l : List Int) (n : Int) (hl : l.length ≤ 1048576) : Ev (fun k => z140.f k l n (p : Int)) (vecC l n (p : Int)) := by
 unfold z140.f vecC
 rw [Bool.and_comm, ← qD9 l 0]
 have hw : wrap64 ((p : Int) - 1) = (p : Int) - 1 := qAo (by omega) (by omega)
 refine qDt (fun (i : Nat) k => z140.l0 k l n (p : Int) (i : Int)) (fun i => decide (0 ≤ l.getD i 0) && decide (l.getD i 0 ≤ (p : Int) - 1)) (decide ((l.length : Int) = n)) l.length (fun j hj _ hp' r hr => ?_) (fun j hj _ hp' => ?_) (fun _ => ?_)
 ·refine Ev.step (fun k => z140.l0.eq_2 ..) ?_
  rw [hw, qBa]
  clear hw
  refine qAa (by omega) (qAa (by omega) (Ev.bind (qA3 (qFh _ _ _)) (qAa hp' ?_)))
  rw [qAp (by omega)]; exact hr
 ·refine Ev.step (fun k => z140.l0.eq_2 ..) ?_
  rw [hw, qBa]
  clear hw
  exact qAa (by omega) (qAa (by omega) (Ev.bind (qA3 (qFh _ _ _)) (qAm (by rw [hp']; decide) (Ev.now _))))
 ·refine Ev.step (fun k => z140.l0.eq_2 ..) ?_
  exact qBu (qAm (by omega) (Ev.now _)) (by rw [Bool.beq_eq_decide_eq])
end Go.Proofs.Ytipkciildhghiaa.B
set_option linter.unusedVariables false
set_option linter.unusedSimpArgs false
namespace Go.Proofs.Ytipkciildhghiaa.B
open Go.RowKit Go.Proofs.YtipkciildhghiaaW.PrintWords
open SimT LinT
def askV (C : List (List Int)) (d p : Int) (ch : List Int) : Int := if askD C d p = 0 then (if vecC ch ((qAw C d).length : Int) p = true then 0 else 7) else askD C d p
section
variable {C : List (List Int)} (hl : C.length ≤ 1048576) (hr : ∀ x ∈ C, x.length ≤ 1048576)
include hl hr
theorem qHa (d p : Int) (ch : List Int) (hc : ch.length ≤ 1048576) : Ev (fun k => z99.f k C d p ch) (askV C d p ch) := by
 unfold z99.f askV
 refine Ev.bind (qJk hl hr d p) ?_
 by_cases hz : askD C d p = 0
 ·obtain ⟨ho, hpp, h0, h3, _⟩ := qFo hz
  obtain ⟨n, rfl, hp1⟩ := qH9.1 hpp
  refine qBu (qAa hz ?_) (if_pos hz).symm
  unfold z142.f
  refine Ev.bind (a := vecC ch ((qAw C d).length : Int) (n : Int)) (Ev.bind (qBw hl (by omega) (by omega)) (Ev.bind (qA3 (qDx _)) (Ev.bind (qIa (qBx hp1).2 ch _ hc) (Ev.now _)))) ?_
  cases hv : vecC ch ((qAw C d).length : Int) (n : Int) with
  | true => exact qAa rfl (Ev.now _)
  | false => exact qAm (by decide) (Ev.now _)
 ·exact qBu (qAm hz (Ev.now _)) (if_neg hz).symm
theorem qHj (d p : Int) (ch : List Int) (hc : ch.length ≤ 1048576) : Ev (fun k => z97.f k C d p ch) (askV C d p ch) := by
 unfold z97.f askV
 refine Ev.bind (qH5 hl hr d p) ?_
 by_cases hz : askD C d p = 0
 ·obtain ⟨ho, hpp, h0, h3, _⟩ := qFo hz
  obtain ⟨n, rfl, hp1⟩ := qH9.1 hpp
  refine qBu (qAa hz ?_) (if_pos hz).symm
  refine Ev.bind (qCo hl (by omega) (by omega)) (Ev.bind (qKt (qBx hp1).2 ch _ hc) ?_)
  cases hv : vecC ch ((qAw C d).length : Int) (n : Int) with
  | true => exact qAa rfl (Ev.now _)
  | false => exact qAm (by decide) (Ev.now _)
 ·exact qBu (qAm hz (Ev.now _)) (if_neg hz).symm
end
theorem qK5 {C : List (List Int)} {d p : Int} {ch : List Int} (h : askV C d p ch = 0) : okC C = true ∧ 0 ≤ d ∧ d ≤ 3 ∧ (qAw C (d - 1)).length ≤ 32 ∧ (qAw C d).length ≤ 32 ∧ (qAw C (d + 1)).length ≤ 32 ∧ ∃ q : Nat, p = (q : Int) ∧ isP q = true ∧ ch.length = (qAw C d).length ∧ Rng q ch := by
 unfold askV at h
 by_cases hz : askD C d p = 0
 ·rw [if_pos hz] at h
  obtain ⟨ho, hpp, h0, h3, h4, h5, h6⟩ := qFo hz
  obtain ⟨n, rfl, hp1⟩ := qH9.1 hpp
  by_cases hv : vecC ch ((qAw C d).length : Int) (n : Int) = true
  ·obtain ⟨e1, e2⟩ := qLf.1 hv
   exact ⟨ho, h0, h3, h4, h5, h6, n, rfl, hp1, e1, e2⟩
  ·rw [if_neg hv] at h; omega
 ·rw [if_neg hz] at h; exact absurd h hz
end Go.Proofs.Ytipkciildhghiaa.B
set_option linter.unusedVariables false
set_option linter.unusedSimpArgs false
namespace Go.Proofs.Ytipkciildhghiaa.B
open Go.RowKit Go.Proofs.YtipkciildhghiaaW.PrintWords
open LinT
theorem qMq (l : List (List Int)) (c : Nat) (hc : ∀ x, x ∈ l → c < x.length) (hl : l.length ≤ 1048576) :
  ∃ t : Int, Ev (fun k => z255.f k l (c : Int)) t ∧ ((t = -1 ∧ ∀ i, i < l.length → rw' l i c = 0) ∨ ∃ i : Nat, t = (i : Int) ∧ i < l.length ∧ rw' l i c ≠ 0) := by
 unfold z255.f
 have main : ∀ (d i : Nat), i + d = l.length → (∀ j, j < i → rw' l j c = 0) → ∃ t : Int, Ev (fun k => z255.l0 k l (l.length : Int) (i : Int) (c : Int)) t ∧ ((t = -1 ∧ ∀ i, i < l.length → rw' l i c = 0) ∨ ∃ i : Nat, t = (i : Int) ∧ i < l.length ∧ rw' l i c ≠ 0) := by
  intro d
  induction d with
  | zero =>
   intro i hi hz
   refine ⟨-1, ?_, .inl ⟨rfl, fun j hj => hz j (by omega)⟩⟩
   refine Ev.step (fun k => z255.l0.eq_2 ..) ?_
   exact qAm (by omega) (Ev.now _)
  | succ d ih =>
   intro i hi hz
   have hlen := hc (l.getD i []) (qA9 [] (by omega))
   have hv : z177.f (rI_ l (i : Int)) (c : Int) = some (rw' l i c != 0) := by
    unfold z177.f
    rw [qBc, if_pos (by omega), if_pos (by omega), qBa]; rfl
   by_cases h : rw' l i c = 0
   ·obtain ⟨t, ht, hh⟩ := ih (i + 1) (by omega) (fun j hj => by
     rcases Nat.lt_or_ge j i with h1 | h1
     ·exact hz j h1
     ·have : j = i := by omega
      rw [this]; exact h)
    refine ⟨t, ?_, hh⟩
    refine Ev.step (fun k => z255.l0.eq_2 ..) ?_
    (repeat (first | refine qAa (by omega) ?_ | refine qAm (by omega) ?_))
    refine Ev.bind (qA3 hv) (qAm (by rw [h]; decide) ?_)
    rw [qAp (by omega)]; exact ht
   ·refine ⟨(i : Int), ?_, .inr ⟨i, rfl, by omega, h⟩⟩
    refine Ev.step (fun k => z255.l0.eq_2 ..) ?_
    (repeat (first | refine qAa (by omega) ?_ | refine qAm (by omega) ?_))
    exact Ev.bind (qA3 hv) (qAa (by simpa using h) (Ev.now _))
 exact main l.length 0 (by omega) (fun j hj => by omega)
theorem qC4 {p : Int} {n : Nat} {R : List (List Int)} (h : Vs p n R) {i : Nat} (hi : i < R.length) : (R.getD i []).length = n := (h _ (qA9 [] hi)).1
theorem qDn {p : Nat} {n : Nat} {R : List (List Int)} (h : Vs (p : Int) n R) {i : Nat} (hi : i < R.length) : Rng p (R.getD i []) := (h _ (qA9 [] hi)).2
theorem qJo {p : Int} {n : Nat} {R : List (List Int)} (h : Vs p n R) (i : Nat) {x : List Int} (hx : x.length = n) (hr : ∀ y, y ∈ x → 0 ≤ y ∧ y < p) : Vs p n (R.set i x) := by
 intro y hy
 rcases List.mem_or_eq_of_mem_set hy with h1 | h1
 ·exact h y h1
 ·rw [h1]; exact ⟨hx, hr⟩
theorem qB9 {R : List (List Int)} {a : Nat} (b : Nat) (x : List Int) (ha : a < R.length) : (R.set a x).getD b [] = if b = a then x else R.getD b [] := by
 rw [List.getD_eq_getElem?_getD, List.getElem?_set, List.getD_eq_getElem?_getD]
 by_cases h : b = a
 ·subst h; simp [ha]
 ·rw [if_neg (Ne.symm h), if_neg h]
def clr (p top c : Nat) (R : List (List Int)) (i : Nat) : List Int :=
 if i = top then R.getD i [] else if rw' R i c = 0 then R.getD i [] else addT p (R.getD i []) (R.getD top []) ((p : Int) - rw' R i c)
structure Clr (p n top c : Nat) (R0 : List (List Int)) (i : Nat) (R : List (List Int)) : Prop where
 len : R.length = R0.length
 at_ : ∀ j, j < R0.length → R.getD j [] = if j < i then clr p top c R0 j else R0.getD j []
theorem clr_ok {p n : Nat} (hp : 0 < p) {top c : Nat} {R : List (List Int)} (h : Vs (p : Int) n R) {i : Nat} (hi : i < R.length) : (clr p top c R i).length = n ∧ Rng p (clr p top c R i) := by
 unfold clr
 split
 ·exact ⟨qC4 h hi, qDn h hi⟩
 ·split
  ·exact ⟨qC4 h hi, qDn h hi⟩
  ·exact ⟨by rw [qI5, qC4 h hi], qI4 hp _ _ _⟩
theorem Clr.vs {p n : Nat} (hp : 0 < p) {top c : Nat} {R0 R : List (List Int)} {i : Nat} (h0 : Vs (p : Int) n R0) (h : Clr p n top c R0 i R) : Vs (p : Int) n R := by
 intro x hx
 obtain ⟨j, hj, rfl⟩ := List.getElem_of_mem hx
 have e : R[j] = R.getD j [] := by rw [List.getD_eq_getElem?_getD, List.getElem?_eq_getElem hj]; rfl
 have hj0 : j < R0.length := by rw [← h.len]; exact hj
 rw [e, h.at_ j hj0]
 split
 ·exact clr_ok hp h0 hj0
 ·exact ⟨qC4 h0 hj0, qDn h0 hj0⟩
theorem qLz {p n : Nat} (hp : isP p = true) (hn : n ≤ 1048576) {top c : Nat} (hc : c < n) {R0 : List (List Int)} (hv : Vs (p : Int) n R0) (ht : top < R0.length) (hm : R0.length ≤ 1048576) (q : List Int) (hq : q.length ≤ 1048576) (det : Int) {β : Int × Int} :
  ∃ R, Clr p n top c R0 R0.length R ∧ ∀ r, Ev (fun k => z149.l0 k R (n : Int) (p : Int) (q ++ [(c : Int)]) det (n : Int) ((c + 1 : Nat) : Int)) r →
   Ev (fun k => z149.l1 k R0 (n : Int) (p : Int) q det (top : Int) (n : Int) (c : Int) (R0.length : Int) 0 (c : Int)) r := by
 have h2 := qBx hp
 have main : ∀ (d i : Nat) (R : List (List Int)), i + d = R0.length → Clr p n top c R0 i R → ∃ R', Clr p n top c R0 R0.length R' ∧ ∀ r, Ev (fun k => z149.l0 k R' (n : Int) (p : Int) (q ++ [(c : Int)]) det (n : Int) ((c + 1 : Nat) : Int)) r →
   Ev (fun k => z149.l1 k R (n : Int) (p : Int) q det (top : Int) (n : Int) (c : Int) (R0.length : Int) (i : Int) (c : Int)) r := by
  intro d
  induction d with
  | zero =>
   intro i R hi hR
   have : i = R0.length := by omega
   subst this
   refine ⟨R, hR, fun r hr => ?_⟩
   refine Ev.step (fun k => z149.l1.eq_2 ..) ?_
   refine qAm (by omega) (qAa (by omega) ?_)
   rw [qAp (by omega)]; exact hr
  | succ d ih =>
   intro i R hi hR
   have hRv := hR.vs (by omega) hv
   have hRl := hR.len
   have hrow : R.getD i [] = R0.getD i [] := by rw [hR.at_ i (by omega), if_neg (by omega)]
   have htop : R.getD top [] = R0.getD top [] := by
    rw [hR.at_ top ht]
    split
    ·unfold clr; rw [if_pos rfl]
    ·rfl
   have hlen := qC4 hv (i := i) (by omega)
   have hval : rd (rI_ R (i : Int)) (c : Int) = rw' R0 i c := by rw [qBc, qBa, hrow]; rfl
   by_cases h1 : i = top
   ·obtain ⟨R', h3, h4⟩ := ih (i + 1) R (by omega) ⟨hRl, fun j hj => by
     rw [hR.at_ j hj]
     by_cases hji : j = i
     ·rw [hji, if_neg (Nat.lt_irrefl i), if_pos (Nat.lt_succ_self i)]; unfold clr; rw [if_pos h1]
     ·by_cases hjl : j < i
      ·rw [if_pos hjl, if_pos (by omega)]
      ·rw [if_neg hjl, if_neg (by omega)]⟩
    refine ⟨R', h3, fun r hr => ?_⟩
    refine Ev.step (fun k => z149.l1.eq_2 ..) ?_
    refine qAa (by omega) (qAa (by omega) (qAa (by omega) (qAa (by omega) ?_)))
    rw [qAp (by omega)]; exact h4 r hr
   ·by_cases h0 : rw' R0 i c = 0
    ·obtain ⟨R', h3, h4⟩ := ih (i + 1) R (by omega) ⟨hRl, fun j hj => by
      rw [hR.at_ j hj]
      by_cases hji : j = i
      ·rw [hji, if_neg (Nat.lt_irrefl i), if_pos (Nat.lt_succ_self i)]; unfold clr; rw [if_neg h1, if_pos h0]
      ·by_cases hjl : j < i
       ·rw [if_pos hjl, if_pos (by omega)]
       ·rw [if_neg hjl, if_neg (by omega)]⟩
     refine ⟨R', h3, fun r hr => ?_⟩
     refine Ev.step (fun k => z149.l1.eq_2 ..) ?_
     rw [hval]
     refine qAa (by omega) (qAa (by omega) (qAa (by omega) (qAm (by omega) (qAa (by omega) (qAa (by rw [qBc, hrow, hlen]; omega) (qAa h0 ?_))))))
     rw [qAp (by omega)]; exact h4 r hr
    ·have hb := qDq (qDn hv (i := i) (by omega)) (j := c) (by omega)
     have hb' : 0 ≤ rw' R0 i c ∧ rw' R0 i c < (p : Int) := hb
     have hadd := qFp (p := p) (by omega) h2.2 (R0.getD i []) (R0.getD top []) ((p : Int) - rw' R0 i c) (qDn hv (by omega)) (qDn hv ht) (by rw [qC4 hv ht, hlen]; exact Nat.le_refl _) (by omega) (by omega) (by omega)
     obtain ⟨R', h3, h4⟩ := ih (i + 1) (R.set i (addT p (R0.getD i []) (R0.getD top []) ((p : Int) - rw' R0 i c))) (by omega) ⟨by rw [List.length_set, hRl], fun j hj => by
      rw [qB9 j _ (by omega)]
      by_cases hji : j = i
      ·rw [if_pos hji, hji, if_pos (Nat.lt_succ_self i)]; unfold clr; rw [if_neg h1, if_neg h0]
      ·rw [if_neg hji, hR.at_ j hj]
       by_cases hjl : j < i
       ·rw [if_pos hjl, if_pos (by omega)]
       ·rw [if_neg hjl, if_neg (by omega)]⟩
     refine ⟨R', h3, fun r hr => ?_⟩
     refine Ev.step (fun k => z149.l1.eq_2 ..) ?_
     rw [hval]
     refine qAa (by omega) (qAa (by omega) (qAa (by omega) (qAm (by omega) (qAa (by omega) (qAa (by rw [qBc, hrow, hlen]; omega) (qAm h0 (qAa (by omega) (qAa (by omega) ?_))))))))
     rw [qBc, qBc, hrow, htop, qAo (by omega) (by omega), qAp (by omega)]
     exact Ev.bind hadd (h4 r hr)
 obtain ⟨R', h1, h3⟩ := main R0.length 0 R0 (by omega) ⟨rfl, fun j hj => by rw [if_neg (by omega)]⟩
 exact ⟨R', h1, h3⟩
structure StI (p n : Nat) (L : List (List Int)) (c : Nat) (R : List (List Int)) (q : List Int) : Prop where
 len : R.length = L.length
 vs : Vs (p : Int) n R
 pos : ∀ x, x ∈ q → 0 ≤ x
 el : El (p : Int) n L.length (rw' L) c q.length (rw' R) (fun i => (q.getD i 0).toNat)
theorem qIx (a : Int) (p : Int) : p ∣ a % p - a := by
 have := Int.dvd_neg.2 (Int.dvd_self_sub_emod (x := a) (m := p))
 rwa [show -(a - a % p) = a % p - a by omega] at this
theorem qKg {p n : Nat} (hp : isP p = true) (hn : n ≤ 1048576) {L : List (List Int)} (hm : L.length ≤ 1048576) {c : Nat} (hc : c < n) {R : List (List Int)} {q : List Int} (h : StI p n L c R q) (hq : q.length ≤ c) (hqm : q.length < L.length) (hne : rw' R q.length c ≠ 0) (det : Int) :
  ∃ R' det', StI p n L (c + 1) R' (q ++ [(c : Int)]) ∧ ∀ r, Ev (fun k => z149.l0 k R' (n : Int) (p : Int) (q ++ [(c : Int)]) det' (n : Int) ((c + 1 : Nat) : Int)) r →
   Ev (fun k => z149.j1 k R (n : Int) (p : Int) q det (q.length : Int) (n : Int) (c : Int) (c : Int)) r := by
 have h2 := qBx hp
 have hRl := h.len
 have htop := qC4 h.vs (i := q.length) (by omega)
 have hb : 0 ≤ rw' R q.length c ∧ rw' R q.length c < (p : Int) := qDq (qDn h.vs (i := q.length) (by omega)) (j := c) (by omega)
 obtain ⟨a, ha⟩ := Int.eq_ofNat_of_zero_le hb.1
 have hap : a < p := by omega
 have hinv := qJh hp hap
 have hcong := qId hp hap (by omega)
 have hbp : a ^ (p - 2) % p < p := Nat.mod_lt _ (by omega)
 generalize hbe : a ^ (p - 2) % p = b at hinv hcong hbp
 have hz : Rng p (List.replicate n 0) := fun y hy => by rw [(List.mem_replicate.1 hy).2]; omega
 have hadd := qFp (p := p) (by omega) h2.2 (List.replicate n 0) (R.getD q.length []) (b : Int) hz (qDn h.vs (by omega)) (by rw [htop]; simp) (by simpa using hn) (by omega) (by omega)
 generalize hR1 : addT p (List.replicate n 0) (R.getD q.length []) (b : Int) = x1 at hadd
 have hx1l : x1.length = n := by rw [← hR1, qI5]; simp
 have hx1r : Rng p x1 := by rw [← hR1]; exact qI4 (by omega) _ _ _
 have hx1 : ∀ j, j < n → (p : Int) ∣ x1.getD j 0 - (b : Int) * rw' R q.length j := fun j hj => by
  have e : x1.getD j 0 = ((b : Int) * rw' R q.length j) % (p : Int) := by
   rw [← hR1, qI6 (by simpa using hj)]
   have : (List.replicate n (0 : Int)).getD j 0 = 0 := by simp [List.getD_eq_getElem?_getD, hj]
   rw [this, Int.zero_add]; rfl
  rw [e]; exact qIx _ _
 have hv1 : Vs (p : Int) n (R.set q.length x1) := qJo h.vs _ hx1l hx1r
 obtain ⟨R2, hclr, hgo⟩ := qLz (β := (0, 0)) hp hn hc hv1 (top := q.length) (by rw [List.length_set]; omega) (by rw [List.length_set]; omega) q (by omega) (Int.tmod (wrap64 (det * (a : Int))) (p : Int))
 have hR2v := hclr.vs (by omega) hv1
 have hR2l : R2.length = L.length := by rw [hclr.len, List.length_set, hRl]
 have htop2 : R2.getD q.length [] = x1 := by
  rw [hclr.at_ _ (by rw [List.length_set]; omega), if_pos (by rw [List.length_set]; omega)]
  unfold clr
  rw [if_pos rfl, qB9 _ _ (by omega), if_pos rfl]
 have hoth : ∀ i, i < L.length → i ≠ q.length → ∀ j, j < n → (p : Int) ∣ rw' R2 i j - (rw' R i j - rw' R i c * rw' R2 q.length j) := fun i hi hne j hj => by
  have e0 : ∀ t, rw' (R.set q.length x1) i t = rw' R i t := fun t => by unfold rw'; rw [qB9 _ _ (by omega), if_neg hne]
  have e1 : R2.getD i [] = clr p q.length c (R.set q.length x1) i := by rw [hclr.at_ _ (by rw [List.length_set]; omega), if_pos (by rw [List.length_set]; omega)]
  have e2 : (R.set q.length x1).getD i [] = R.getD i [] := by rw [qB9 _ _ (by omega), if_neg hne]
  have e3 : (R.set q.length x1).getD q.length [] = x1 := by rw [qB9 _ _ (by omega), if_pos rfl]
  have e4 : rw' R2 q.length j = x1.getD j 0 := by unfold rw' vec; rw [htop2]
  unfold clr at e1
  rw [if_neg hne, e0 c, e2, e3] at e1
  by_cases hz : rw' R i c = 0
  ·rw [if_pos hz] at e1
   have : rw' R2 i j = rw' R i j := by unfold rw'; rw [e1]
   rw [this, hz, Int.zero_mul]; simp
  ·rw [if_neg hz] at e1
   have : rw' R2 i j = (rw' R i j + ((p : Int) - rw' R i c) * x1.getD j 0) % (p : Int) := by
    unfold rw' vec
    rw [e1, qI6 (by rw [qC4 h.vs (by omega)]; exact hj)]
    rfl
   rw [this, e4]
   have h5 := qIx (rw' R i j + ((p : Int) - rw' R i c) * x1.getD j 0) (p : Int)
   have h6 := Int.dvd_add h5 (Int.dvd_mul_right (p : Int) (x1.getD j 0))
   rwa [show (rw' R i j + ((p : Int) - rw' R i c) * x1.getD j 0) % (p : Int) - (rw' R i j + ((p : Int) - rw' R i c) * x1.getD j 0) + (p : Int) * x1.getD j 0 = (rw' R i j + ((p : Int) - rw' R i c) * x1.getD j 0) % (p : Int) - (rw' R i j - rw' R i c * x1.getD j 0) by grind] at h6
 have hqs : ∀ i, i < q.length → ((q ++ [(c : Int)]).getD i 0) = q.getD i 0 := fun i hi => by
  rw [List.getD_eq_getElem?_getD, List.getElem?_append_left hi, List.getD_eq_getElem?_getD]
 refine ⟨R2, Int.tmod (wrap64 (det * (a : Int))) (p : Int), ⟨hR2l, hR2v, fun x hx => ?_, ?_⟩, fun r hr => ?_⟩
 ·rcases List.mem_append.1 hx with h1 | h1
  ·exact h.pos x h1
  ·rw [List.mem_singleton.1 h1]; omega
 ·rw [List.length_append]
  refine h.el.step hc hqm (b := (b : Int)) (by rw [ha]; exact hcong) (fun j hj => ?_) (fun i j hi hne hj => hoth i hi hne j hj) (fun i hi => by rw [hqs i hi]) (by simp) (fun i j hi hj => ?_) (fun i j hi hj => ?_)
  ·have : rw' R2 q.length j = x1.getD j 0 := by unfold rw' vec; rw [htop2]
   rw [this]; exact hx1 j hj
  ·exact (qF7 hR2v (by omega) hj).1
  ·exact (qF7 hR2v (by omega) hj).2
 ·refine Ev.step (fun k => z149.j1.eq_2 ..) ?_
  have hrd : rd (rI_ R (q.length : Int)) (c : Int) = (a : Int) := by rw [qBc, qBa, ← ha]; rfl
  rw [hrd]
  refine qAa (by omega) (qAa (by omega) (qAa (by omega) (qAa (by rw [qBc, htop]; omega) (qAm (by omega) (qAa (by omega) (qAa (by omega) (Ev.bind hinv ?_)))))))
  rw [qBc]
  refine Ev.bind (by simpa using hadd) ?_
  have := hgo r hr
  rw [List.length_set] at this
  simpa using this
theorem qMv {p n : Nat} (hp : isP p = true) (hn : n ≤ 1048576) {L : List (List Int)} (hm : L.length ≤ 1048576) (hL : Vs (p : Int) n L) :
  ∃ R q det, Ev (fun k => z149.f k L (n : Int) (p : Int)) (q, det, R) ∧ StI p n L n R q := by
 have h2 := qBx hp
 unfold z149.f
 have main : ∀ (d c : Nat) (R : List (List Int)) (q : List Int) (det : Int), c + d = n → q.length ≤ c → StI p n L c R q →
   ∃ R' q' det', Ev (fun k => z149.l0 k R (n : Int) (p : Int) q det (n : Int) (c : Int)) (q', det', R') ∧ StI p n L n R' q' := by
  intro d
  induction d with
  | zero =>
   intro c R q det hc hq h
   have : c = n := by omega
   subst this
   refine ⟨R, q, det, ?_, h⟩
   refine Ev.step (fun k => z149.l0.eq_2 ..) ?_
   exact qAm (by omega) (Ev.now _)
  | succ d ih =>
   intro c R q det hc hq h
   have hrm := h.el.g.rm
   have hRl := h.len
   obtain ⟨t, ht, hd⟩ := qMq (R.drop q.length) c (fun x hx => by have := (h.vs x (List.mem_of_mem_drop hx)).1; omega) (by rw [List.length_drop]; omega)
   have hdrop : ∀ i, i < (R.drop q.length).length → rw' (R.drop q.length) i c = rw' R (q.length + i) c := fun i hi => by
    unfold rw' vec
    rw [List.getD_eq_getElem?_getD (l := R.drop q.length), List.getElem?_drop, ← List.getD_eq_getElem?_getD]
   have hdl : (R.drop q.length).length = L.length - q.length := by rw [List.length_drop, hRl]
   rcases hd with ⟨e, hz⟩ | ⟨i, e, hi, hne⟩
   ·subst e
    obtain ⟨R', q', det', h3, h4⟩ := ih (c + 1) R q 0 (by omega) (by omega) ⟨h.len, h.vs, h.pos, h.el.none (fun i h1 h3 => by
     have := hz (i - q.length) (by omega)
     rw [hdrop _ (by omega), show q.length + (i - q.length) = i by omega] at this; exact this)⟩
    refine ⟨R', q', det', ?_, h4⟩
    refine Ev.step (fun k => z149.l0.eq_2 ..) ?_
    refine qAa (by omega) (qAa (by omega) (qAa (by omega) (Ev.bind (by simpa using ht) (qAa (by decide) ?_))))
    rw [qAp (by omega)]; exact h3
   ·subst e
    rw [hdrop i hi] at hne
    have hqm : q.length < L.length := by omega
    rcases Nat.eq_zero_or_pos i with h0 | h0
    ·subst h0
     rw [Nat.add_zero] at hne
     obtain ⟨R1, det1, hst, hgo⟩ := qKg hp hn hm (by omega) h hq hqm hne det
     obtain ⟨R', q', det', h3, h4⟩ := ih (c + 1) R1 (q ++ [(c : Int)]) det1 (by omega) (by simp; omega) hst
     refine ⟨R', q', det', ?_, h4⟩
     refine Ev.step (fun k => z149.l0.eq_2 ..) ?_
     refine qAa (by omega) (qAa (by omega) (qAa (by omega) (Ev.bind (by simpa using ht) (qAm (by decide) (qAm (by decide) ?_)))))
     exact hgo _ h3
    ·have g1 : (c : Int) < (n : Int) := by omega
     have g2 : (0 : Int) ≤ (q.length : Int) := by omega
     have g3 : (q.length : Int) ≤ (R.length : Int) := by omega
     have g4 : ¬ ((i : Int) < 0) := by omega
     have g5 : (i : Int) > 0 := by omega
     have g6 : (0 : Int) ≤ ((q.length + i : Nat) : Int) := by omega
     have g7 : ((q.length + i : Nat) : Int) < (R.length : Int) := by omega
     have g8 : (q.length : Int) < (R.length : Int) := by omega
     have hs : StI p n L c ((R.set q.length (R.getD (q.length + i) [])).set (q.length + i) (R.getD q.length [])) q := by
      refine ⟨by simp [hRl], qJo (qJo h.vs _ (qC4 h.vs (by omega)) (qDn h.vs (by omega))) _ (qC4 h.vs (by omega)) (qDn h.vs (by omega)), h.pos, ?_⟩
      have hat : ∀ j, ((R.set q.length (R.getD (q.length + i) [])).set (q.length + i) (R.getD q.length [])).getD j [] = if j = q.length + i then R.getD q.length [] else if j = q.length then R.getD (q.length + i) [] else R.getD j [] := fun j => by
       rw [qB9 _ _ (by rw [List.length_set]; omega), qB9 _ _ (by omega)]
      refine h.el.swap (a := q.length + i) (by omega) (by omega) (fun j => ?_) (fun j => ?_) (fun k j hk h1 h3 => ?_)
      ·unfold rw'; rw [hat, if_neg (by omega), if_pos rfl]
      ·unfold rw'; rw [hat, if_pos rfl]
      ·unfold rw'; rw [hat, if_neg h3, if_neg h1]
     have hne' : rw' ((R.set q.length (R.getD (q.length + i) [])).set (q.length + i) (R.getD q.length [])) q.length c ≠ 0 := by
      have : ((R.set q.length (R.getD (q.length + i) [])).set (q.length + i) (R.getD q.length [])).getD q.length [] = R.getD (q.length + i) [] := by
       rw [qB9 _ _ (by rw [List.length_set]; omega), if_neg (by omega), qB9 _ _ (by omega), if_pos rfl]
      unfold rw'; rw [this]; exact hne
     have hred : ∃ d2, z150.f (wrap64 (-det)) (p : Int) = some d2 := ⟨_, by unfold z150.f; rw [if_neg (by omega)]⟩
     obtain ⟨d2, hd2⟩ := hred
     obtain ⟨R1, det1, hst, hgo⟩ := qKg hp hn hm (by omega) hs hq hqm hne' d2
     obtain ⟨R', q', det', h3, h4⟩ := ih (c + 1) R1 (q ++ [(c : Int)]) det1 (by omega) (by simp; omega) hst
     refine ⟨R', q', det', ?_, h4⟩
     refine Ev.step (fun k => z149.l0.eq_2 ..) ?_
     have hw : wrap64 ((q.length : Int) + (i : Int)) = ((q.length + i : Nat) : Int) := by rw [qAo (by omega) (by omega)]; omega
     refine qAa g1 (qAa g2 (qAa g3 (Ev.bind (by simpa using ht) (qAm g4 (qAa g5 ?_)))))
     rw [hw]
     refine qAa g6 (qAa g7 (qAa g8 (Ev.bind (qA3 hd2) ?_)))
     rw [qBc, qBc, Int.toNat_natCast, Int.toNat_natCast]
     exact hgo _ h3
 obtain ⟨R', q', det', h3, h4⟩ := main n 0 L [] 1 (by omega) (by simp) ⟨rfl, hL, fun x hx => by simp at hx, El.start (fun i j hi hj => (qF7 hL hi hj).1) (fun i j hi hj => (qF7 hL hi hj).2) _⟩
 exact ⟨R', q', det', h3, h4⟩
theorem StI.red {p n : Nat} {L R : List (List Int)} {q : List Int} (h : StI p n L n R q) : Red (p : Int) n L (R.take q.length) q := Red.of h.len h.vs rfl h.pos h.el
end Go.Proofs.Ytipkciildhghiaa.B
set_option linter.unusedVariables false
set_option linter.unusedSimpArgs false
namespace Go.Proofs.Ytipkciildhghiaa.B
open Go.RowKit Go.Proofs.YtipkciildhghiaaW.PrintWords
open LinT
theorem qIc {p : Nat} (hp0 : 2 ≤ p) (hp : p ≤ 251) {a : Nat} (ha : a < p) : ∀ (n x : Nat), n ≤ 1000 → x < p → Ev (fun k => z176.l0 k (a : Int) (p : Int) (x : Int) (n : Int)) ((x * a ^ n % p : Nat) : Int) := by
 intro n
 induction n with
 | zero =>
  intro x _ hx
  refine Ev.step (fun k => z176.l0.eq_2 ..) ?_
  refine qAm (by omega) (qBu (Ev.now _) ?_)
  rw [Nat.pow_zero, Nat.mul_one, Nat.mod_eq_of_lt hx]
 | succ n ih =>
  intro x hn hx
  have hb : x * a ≤ 250 * 250 := Nat.mul_le_mul (by omega) (by omega)
  have e1 : Int.tmod (wrap64 ((x : Int) * (a : Int))) (p : Int) = ((x * a % p : Nat) : Int) := by
   rw [← Int.natCast_mul, qAo (by omega) (by omega), qCt (by omega)]; simp
  have e2 : wrap64 (((n + 1 : Nat) : Int) - 1) = (n : Int) := by rw [qAo (by omega) (by omega)]; omega
  refine Ev.step (fun k => z176.l0.eq_2 ..) ?_
  rw [e1, e2]
  clear e1 e2
  refine qAa (by omega) (qAm (by omega) (qBu (ih (x * a % p) (by omega) (Nat.mod_lt _ (by omega))) ?_))
  rw [Nat.mod_mul_mod, Nat.pow_succ, Nat.mul_assoc, Nat.mul_comm a]
theorem qF1 {p a : Nat} (hp : isP p = true) (ha : a < p) : Ev (fun k => z176.f k (a : Int) (p : Int)) ((a ^ (p - 2) % p : Nat) : Int) := by
 have h2 := qBx hp
 unfold z176.f
 have e : wrap64 ((p : Int) - 2) = ((p - 2 : Nat) : Int) := by rw [qAo (by omega) (by omega)]; omega
 rw [e]
 have h := qIc h2.1 h2.2 ha (p - 2) 1 (by omega) (by omega)
 rwa [Nat.one_mul] at h
theorem qMk {p : Nat} (hp : 2 ≤ p) (hp2 : p ≤ 251) {a : Int} (h0 : -1000000000 ≤ a) (h1 : a ≤ 1000000000) : z147.f a (p : Int) = some (a % (p : Int)) := by
 have := qJc hp hp2 h0 h1
 unfold z150.f at this
 unfold z147.f
 exact this
theorem ix {i w j : Nat} (hi : i ≤ 1024) (hw : w ≤ 1024) (hj : j ≤ 1024) : wrap64 (wrap64 ((i : Int) * (w : Int)) + (j : Int)) = ((i * w + j : Nat) : Int) := by
 have hb : i * w ≤ 1024 * 1024 := Nat.mul_le_mul hi hw
 rw [← Int.natCast_mul, qAo (x := ((i * w : Nat) : Int)) (by omega) (by omega), qAo (by omega) (by omega)]; omega
theorem rdfl (w : Nat) (X : List Int) (i j : Nat) : rd X ((i * w + j : Nat) : Int) = fl w X i j := qBa X _
section
variable {p w m : Nat} (hp : isP p = true) (hw : w ≤ 1024) (hm : m ≤ 1024) (X0 : List Int) (q : List Int) (det : Int)
include hp hw hm
omit hp in
theorem qLv {row c : Nat} (hr : row ≤ m) (hc : c < w) {X : List Int} (hX : X.length = m * w) : ∃ t, row ≤ t ∧ t ≤ m ∧ ((t = m ∧ ∀ i, row ≤ i → i < m → fl w X i c = 0) ∨ (t < m ∧ fl w X t c ≠ 0)) ∧
  Le (fun k => z146.j3 k (p : Int) (w : Int) q det (row : Int) (c : Int) (t : Int) (p : Int) (m : Int) (w : Int) X0 (p : Int) (m : Int) (w : Int) X) (fun k => z146.l1 k (p : Int) (w : Int) q det (row : Int) (c : Int) (row : Int) (p : Int) (m : Int) (w : Int) X0 (p : Int) (m : Int) (w : Int) X) := by
 have main : ∀ (d t : Nat), t + d = m → row ≤ t → (∀ i, row ≤ i → i < t → fl w X i c = 0) → ∃ t', row ≤ t' ∧ t' ≤ m ∧ ((t' = m ∧ ∀ i, row ≤ i → i < m → fl w X i c = 0) ∨ (t' < m ∧ fl w X t' c ≠ 0)) ∧
  Le (fun k => z146.j3 k (p : Int) (w : Int) q det (row : Int) (c : Int) (t' : Int) (p : Int) (m : Int) (w : Int) X0 (p : Int) (m : Int) (w : Int) X) (fun k => z146.l1 k (p : Int) (w : Int) q det (row : Int) (c : Int) (t : Int) (p : Int) (m : Int) (w : Int) X0 (p : Int) (m : Int) (w : Int) X) := by
  intro d
  induction d with
  | zero =>
   intro t ht h1 hz
   have : t = m := by omega
   subst this
   refine ⟨t, h1, Nat.le_refl _, .inl ⟨rfl, hz⟩, fun r hr => ?_⟩
   refine Ev.step (fun k => z146.l1.eq_2 ..) ?_
   exact qAm (by omega) hr
  | succ d ih =>
   intro t ht h1 hz
   have hlt := qCm (show t < m by omega) hc
   have e := ix (i := t) (w := w) (j := c) (by omega) hw (by omega)
   by_cases h : fl w X t c = 0
   ·obtain ⟨t', a1, a2, a3, a4⟩ := ih (t + 1) (by omega) (by omega) (fun i hi hi2 => by
     rcases Nat.lt_or_ge i t with hl | hg
     ·exact hz i hi hl
     ·rw [show i = t by omega]; exact h)
    refine ⟨t', a1, a2, a3, fun r hr => ?_⟩
    have := a4 r hr
    refine Ev.step (fun k => z146.l1.eq_2 ..) ?_
    rw [e, rdfl]
    clear e
    refine qAa (by omega) (qAa (by omega) (qAa (by omega) (qAa h ?_)))
    rw [qAp (by omega)]; exact this
   ·refine ⟨t, h1, by omega, .inr ⟨by omega, h⟩, fun r hr => ?_⟩
    refine Ev.step (fun k => z146.l1.eq_2 ..) ?_
    rw [e, rdfl]
    clear e
    exact qAa (by omega) (qAa (by omega) (qAa (by omega) (qAm h hr)))
 exact main (m - row) row (by omega) (Nat.le_refl _) (fun i h1 h2 => by omega)
omit hp in
theorem qLg {row c t : Nat} (hr : row < m) (ht : t < m) (hne : row ≠ t) {X : List Int} (hX : X.length = m * w) : ∃ Y, Swp w X row t w Y ∧
  Le (fun k => z146.j5 k (p : Int) (w : Int) q det (row : Int) (c : Int) (p : Int) (m : Int) (w : Int) X0 (p : Int) (m : Int) (w : Int) Y) (fun k => z146.l2 k (p : Int) (w : Int) q det (row : Int) (c : Int) (t : Int) 0 (p : Int) (m : Int) (w : Int) X0 (p : Int) (m : Int) (w : Int) X) := by
 have main : ∀ (d j : Nat) (Y : List Int), j + d = w → Swp w X row t j Y → ∃ Y', Swp w X row t w Y' ∧
  Le (fun k => z146.j5 k (p : Int) (w : Int) q det (row : Int) (c : Int) (p : Int) (m : Int) (w : Int) X0 (p : Int) (m : Int) (w : Int) Y') (fun k => z146.l2 k (p : Int) (w : Int) q det (row : Int) (c : Int) (t : Int) (j : Int) (p : Int) (m : Int) (w : Int) X0 (p : Int) (m : Int) (w : Int) Y) := by
  intro d
  induction d with
  | zero =>
   intro j Y hj hY
   have : j = w := by omega
   subst this
   refine ⟨Y, hY, fun r hr => ?_⟩
   refine Ev.step (fun k => z146.l2.eq_2 ..) ?_
   exact qAm (by omega) hr
  | succ d ih =>
   intro j Y hj hY
   have hl := hY.len
   have h1 := qCm hr (show j < w by omega)
   have h2 := qCm ht (show j < w by omega)
   obtain ⟨Y', h3, h4⟩ := ih (j + 1) _ (by omega) (hY.next hne (by omega) (by omega) (by omega))
   refine ⟨Y', h3, fun r hr => ?_⟩
   have := h4 r hr
   obtain ⟨e1, e2⟩ := And.intro (ix (i := t) (w := w) (j := j) (by omega) hw (by omega)) (ix (i := row) (w := w) (j := j) (by omega) hw (by omega))
   refine Ev.step (fun k => z146.l2.eq_2 ..) ?_
   rw [e1, e2, rdfl, rdfl]
   clear e1 e2
   refine qAa (by omega) (qAa (by omega) (qAa (by omega) (qAa (by omega) (qAa (by omega) ?_))))
   rw [qAp (by omega), Int.toNat_natCast, Int.toNat_natCast]; exact this
 exact main w 0 X (by omega) (Swp.start w X row t)
theorem qJ4 {row c : Nat} (hr : row < m) {inv : Nat} (hi : inv < p) {X : List Int} (hX : X.length = m * w) (hR : Rng p X) : ∃ Y, Upd w X row (fun j => fl w X row j * (inv : Int) % (p : Int)) w Y ∧
  Le (fun k => z146.l4 k (p : Int) (w : Int) q det (row : Int) (c : Int) 0 (p : Int) (m : Int) (w : Int) X0 (p : Int) (m : Int) (w : Int) Y) (fun k => z146.l3 k (p : Int) (w : Int) q det (row : Int) (c : Int) (inv : Int) 0 (p : Int) (m : Int) (w : Int) X0 (p : Int) (m : Int) (w : Int) X) := by
 have hp2 := qBx hp
 have main : ∀ (d j : Nat) (Y : List Int), j + d = w → Upd w X row (fun j => fl w X row j * (inv : Int) % (p : Int)) j Y → ∃ Y', Upd w X row (fun j => fl w X row j * (inv : Int) % (p : Int)) w Y' ∧
  Le (fun k => z146.l4 k (p : Int) (w : Int) q det (row : Int) (c : Int) 0 (p : Int) (m : Int) (w : Int) X0 (p : Int) (m : Int) (w : Int) Y') (fun k => z146.l3 k (p : Int) (w : Int) q det (row : Int) (c : Int) (inv : Int) (j : Int) (p : Int) (m : Int) (w : Int) X0 (p : Int) (m : Int) (w : Int) Y) := by
  intro d
  induction d with
  | zero =>
   intro j Y hj hY
   have : j = w := by omega
   subst this
   refine ⟨Y, hY, fun r hr => ?_⟩
   refine Ev.step (fun k => z146.l3.eq_2 ..) ?_
   exact qAm (by omega) hr
  | succ d ih =>
   intro j Y hj hY
   have hl := hY.len
   have h1 := qCm hr (show j < w by omega)
   have hv : fl w Y row j = fl w X row j := by rw [hY.at_ row j (by omega), if_neg (by omega)]
   have hx : 0 ≤ fl w X row j ∧ fl w X row j < (p : Int) := qDq hR (by omega)
   have hb : 0 ≤ fl w X row j * (inv : Int) ∧ fl w X row j * (inv : Int) ≤ 250 * 250 := ⟨Int.mul_nonneg hx.1 (by omega), Int.mul_le_mul (by omega) (by omega) (by omega) (by decide)⟩
   obtain ⟨Y', h3, h4⟩ := ih (j + 1) _ (by omega) (hY.next (by omega) (by omega) (x := fl w X row j * (inv : Int) % (p : Int)) rfl)
   refine ⟨Y', h3, fun r hr => ?_⟩
   have := h4 r hr
   have e2 := ix (i := row) (w := w) (j := j) (by omega) hw (by omega)
   refine Ev.step (fun k => z146.l3.eq_2 ..) ?_
   rw [e2, rdfl, hv]
   clear e2
   refine qAa (by omega) (qAa (by omega) (qAa (by omega) (qAm (by omega) ?_)))
   rw [qAp (by omega), Int.toNat_natCast, qAo (by omega) (by omega), qCt (by omega)]; exact this
 exact main w 0 X (by omega) (Upd.start w X row _)
theorem qKw {row c i : Nat} (hr : row < m) (hi : i < m) (hne : i ≠ row) {f : Int} (hf : 0 ≤ f ∧ f < (p : Int)) {X : List Int} (hX : X.length = m * w) (hR : ∀ i j, i < m → j < w → 0 ≤ fl w X i j ∧ fl w X i j < (p : Int)) : ∃ Y, Upd w X i (fun j => (fl w X i j - f * fl w X row j) % (p : Int)) w Y ∧
  Le (fun k => z146.l4 k (p : Int) (w : Int) q det (row : Int) (c : Int) ((i + 1 : Nat) : Int) (p : Int) (m : Int) (w : Int) X0 (p : Int) (m : Int) (w : Int) Y) (fun k => z146.l5 k (p : Int) (w : Int) q det (row : Int) (c : Int) (i : Int) f 0 (p : Int) (m : Int) (w : Int) X0 (p : Int) (m : Int) (w : Int) X) := by
 have hp2 := qBx hp
 have main : ∀ (d j : Nat) (Y : List Int), j + d = w → Upd w X i (fun j => (fl w X i j - f * fl w X row j) % (p : Int)) j Y → ∃ Y', Upd w X i (fun j => (fl w X i j - f * fl w X row j) % (p : Int)) w Y' ∧
  Le (fun k => z146.l4 k (p : Int) (w : Int) q det (row : Int) (c : Int) ((i + 1 : Nat) : Int) (p : Int) (m : Int) (w : Int) X0 (p : Int) (m : Int) (w : Int) Y') (fun k => z146.l5 k (p : Int) (w : Int) q det (row : Int) (c : Int) (i : Int) f (j : Int) (p : Int) (m : Int) (w : Int) X0 (p : Int) (m : Int) (w : Int) Y) := by
  intro d
  induction d with
  | zero =>
   intro j Y hj hY
   have : j = w := by omega
   subst this
   refine ⟨Y, hY, fun r hr => ?_⟩
   refine Ev.step (fun k => z146.l5.eq_2 ..) ?_
   refine qAm (by omega) ?_
   rw [qAp (by omega)]; exact hr
  | succ d ih =>
   intro j Y hj hY
   have hl := hY.len
   have h1 := qCm hr (show j < w by omega)
   have h2 := qCm hi (show j < w by omega)
   have hv : fl w Y i j = fl w X i j := by rw [hY.at_ i j (by omega), if_neg (by omega)]
   have hv2 : fl w Y row j = fl w X row j := by rw [hY.at_ row j (by omega), if_neg (by omega)]
   have hx := hR i j hi (by omega)
   have hx2 := hR row j hr (by omega)
   have hb : 0 ≤ f * fl w X row j ∧ f * fl w X row j ≤ 250 * 250 := ⟨Int.mul_nonneg hf.1 hx2.1, Int.mul_le_mul (by omega) (by omega) hx2.1 (by decide)⟩
   obtain ⟨Y', h3, h4⟩ := ih (j + 1) _ (by omega) (hY.next (by omega) (by omega) (x := (fl w X i j - f * fl w X row j) % (p : Int)) rfl)
   refine ⟨Y', h3, fun r hr => ?_⟩
   have := h4 r hr
   have hmv := qMk (p := p) hp2.1 hp2.2 (a := fl w X i j - f * fl w X row j) (by omega) (by omega)
   have b1 : -9223372036854775808 ≤ f * fl w X row j := by omega
   have b2 : f * fl w X row j ≤ 9223372036854775807 := by omega
   have b3 : -9223372036854775808 ≤ fl w X i j - f * fl w X row j := by omega
   have b4 : fl w X i j - f * fl w X row j ≤ 9223372036854775807 := by omega
   obtain ⟨e1, e2⟩ := And.intro (ix (i := i) (w := w) (j := j) (by omega) hw (by omega)) (ix (i := row) (w := w) (j := j) (by omega) hw (by omega))
   have e3 : wrap64 (fl w X i j - wrap64 (f * fl w X row j)) = fl w X i j - f * fl w X row j := by rw [qAo b1 b2, qAo b3 b4]
   refine Ev.step (fun k => z146.l5.eq_2 ..) ?_
   rw [e1, e2, rdfl, rdfl, hv, hv2, e3]
   clear e1 e2 e3
   refine qAa (by omega) (qAa (by omega) (qAa (by omega) (qAa (by omega) (qAa (by omega) (Ev.bind (qA3 hmv) ?_)))))
   rw [qAp (by omega), Int.toNat_natCast]; exact this
 exact main w 0 X (by omega) (Upd.start w X i _)
omit hp hw hm in
def cl (p w row c : Nat) (X : List Int) (i j : Nat) : Int := if i = row ∨ fl w X i c = 0 then fl w X i j else (fl w X i j - fl w X i c * fl w X row j) % (p : Int)
omit hp hw hm in
theorem qKx {row c : Nat} (hp0 : 0 < p) {X : List Int} (hR : ∀ i j, i < m → j < w → 0 ≤ fl w X i j ∧ fl w X i j < (p : Int)) {i j : Nat} (hi : i < m) (hj : j < w) : 0 ≤ cl p w row c X i j ∧ cl p w row c X i j < (p : Int) := by
 unfold cl
 split
 ·exact hR i j hi hj
 ·exact ⟨Int.emod_nonneg _ (by omega), Int.emod_lt_of_pos _ (by omega)⟩
theorem qH1 {row c : Nat} (hr : row < m) (hc : c < w) (hq : q.length ≤ 1048576) {X : List Int} (hX : X.length = m * w) (hR : ∀ i j, i < m → j < w → 0 ≤ fl w X i j ∧ fl w X i j < (p : Int)) : ∃ Y : List Int, Y.length = X.length ∧ (∀ i j, i < m → j < w → fl w Y i j = cl p w row c X i j) ∧
  Le (fun k => z146.l0 k (p : Int) (w : Int) (q ++ [(c : Int)]) det ((row + 1 : Nat) : Int) ((c + 1 : Nat) : Int) (p : Int) (m : Int) (w : Int) X0 (p : Int) (m : Int) (w : Int) Y) (fun k => z146.l4 k (p : Int) (w : Int) q det (row : Int) (c : Int) 0 (p : Int) (m : Int) (w : Int) X0 (p : Int) (m : Int) (w : Int) X) := by
 have hp2 := qBx hp
 have main : ∀ (d i : Nat) (Y : List Int), i + d = m → Y.length = X.length → (∀ i' j, i' < m → j < w → fl w Y i' j = if i' < i then cl p w row c X i' j else fl w X i' j) → ∃ Y' : List Int, Y'.length = X.length ∧ (∀ i j, i < m → j < w → fl w Y' i j = cl p w row c X i j) ∧
  Le (fun k => z146.l0 k (p : Int) (w : Int) (q ++ [(c : Int)]) det ((row + 1 : Nat) : Int) ((c + 1 : Nat) : Int) (p : Int) (m : Int) (w : Int) X0 (p : Int) (m : Int) (w : Int) Y') (fun k => z146.l4 k (p : Int) (w : Int) q det (row : Int) (c : Int) (i : Int) (p : Int) (m : Int) (w : Int) X0 (p : Int) (m : Int) (w : Int) Y) := by
  intro d
  induction d with
  | zero =>
   intro i Y hi hl hY
   have : i = m := by omega
   subst this
   refine ⟨Y, hl, fun i' j hi' hj => by rw [hY i' j hi' hj, if_pos hi'], fun r hr' => ?_⟩
   refine Ev.step (fun k => z146.l4.eq_2 ..) ?_
   refine qAm (by omega) (qAa (by omega) ?_)
   rw [qAp (by omega), qAp (by omega)]; exact hr'
  | succ d ih =>
   intro i Y hi hl hY
   have him : i < m := by omega
   have h1 := qCm him hc
   have e := ix (i := i) (w := w) (j := c) (by omega) hw (by omega)
   have hic : fl w Y i c = fl w X i c := by rw [hY i c him hc, if_neg (by omega)]
   by_cases h : i = row ∨ fl w X i c = 0
   ·obtain ⟨Y', a1, a2, a3⟩ := ih (i + 1) Y (by omega) hl (fun i' j hi' hj => by
     rw [hY i' j hi' hj]
     by_cases hlt : i' < i
     ·rw [if_pos hlt, if_pos (by omega)]
     ·rw [if_neg hlt]
      by_cases he : i' = i
      ·rw [if_pos (by omega), he]; unfold cl; rw [if_pos h]
      ·rw [if_neg (by omega)])
    refine ⟨Y', a1, a2, fun r hr' => ?_⟩
    have hn := a3 r hr'
    have hj8 : Ev (fun k => z146.j8 k (p : Int) (w : Int) q det (row : Int) (c : Int) (i : Int) (fl w Y i c) true (p : Int) (m : Int) (w : Int) X0 (p : Int) (m : Int) (w : Int) Y) r := by
     refine Ev.step (fun k => z146.j8.eq_2 ..) ?_
     refine qAa rfl ?_
     rw [qAp (by omega)]; exact hn
    refine Ev.step (fun k => z146.l4.eq_2 ..) ?_
    rw [e, rdfl]
    clear e
    refine qAa (by omega) (qAa (by omega) (qAa (by omega) ?_))
    by_cases hir : i = row
    ·exact qAa (by omega) hj8
    ·have hz : (fl w Y i c == 0) = true := by rw [hic, h.resolve_left hir]; rfl
     rw [hz]
     exact qAm (by omega) hj8
   ·have hne : i ≠ row := fun he => h (.inl he)
    have hnz : fl w X i c ≠ 0 := fun he => h (.inr he)
    have hYR : ∀ i j, i < m → j < w → 0 ≤ fl w Y i j ∧ fl w Y i j < (p : Int) := fun i' j hi' hj => by
     rw [hY i' j hi' hj]
     split
     ·exact qKx (by omega) hR hi' hj
     ·exact hR i' j hi' hj
    obtain ⟨Z, hZ, hgo⟩ := qKw hp hw hm X0 q det (c := c) hr him hne (f := fl w Y i c) (hYR i c him hc) (by omega) hYR
    have hrow : ∀ j, j < w → fl w Y row j = fl w X row j := fun j hj => by
     rw [hY row j hr hj]
     split
     ·unfold cl; rw [if_pos (.inl rfl)]
     ·rfl
    obtain ⟨Y', a1, a2, a3⟩ := ih (i + 1) Z (by omega) (by rw [hZ.len, hl]) (fun i' j hi' hj => by
     rw [hZ.at_ i' j hj]
     by_cases he : i' = i
     ·rw [if_pos ⟨he, hj⟩, if_pos (by omega), he]
      unfold cl
      rw [if_neg h, hic, hrow j hj, hY i j him hj, if_neg (by omega)]
     ·rw [if_neg (fun hh => he hh.1), hY i' j hi' hj]
      by_cases hlt : i' < i
      ·rw [if_pos hlt, if_pos (by omega)]
      ·rw [if_neg hlt, if_neg (by omega)])
    refine ⟨Y', a1, a2, fun r hr' => ?_⟩
    have hn := hgo r (a3 r hr')
    have hj8 : Ev (fun k => z146.j8 k (p : Int) (w : Int) q det (row : Int) (c : Int) (i : Int) (fl w Y i c) false (p : Int) (m : Int) (w : Int) X0 (p : Int) (m : Int) (w : Int) Y) r := by
     refine Ev.step (fun k => z146.j8.eq_2 ..) ?_
     exact qAm (by decide) hn
    refine Ev.step (fun k => z146.l4.eq_2 ..) ?_
    rw [e, rdfl]
    clear e
    have hz : (fl w Y i c == 0) = false := by rw [hic]; simpa using hnz
    rw [hz]
    exact qAa (by omega) (qAa (by omega) (qAa (by omega) (qAm (by omega) hj8)))
 exact main m 0 X (by omega) rfl (fun i' j hi' hj => by rw [if_neg (by omega)])
end
theorem qL5 {p w m : Nat} {X : List Int} (hX : X.length = m * w) : Rng p X ↔ ∀ i j, i < m → j < w → 0 ≤ fl w X i j ∧ fl w X i j < (p : Int) := by
 constructor
 ·intro h i j hi hj
  have := qCm hi hj
  exact qDq h (by omega)
 ·intro h y hy
  obtain ⟨k, hk, rfl⟩ := List.getElem_of_mem hy
  have hw : 0 < w := by
   rcases Nat.eq_zero_or_pos w with h0 | h0
   ·rw [h0, Nat.mul_zero] at hX; omega
   ·exact h0
  have h1 : k / w < m := (Nat.div_lt_iff_lt_mul hw).2 (by omega)
  have h2 := h (k / w) (k % w) h1 (Nat.mod_lt _ hw)
  unfold fl at h2
  rw [Nat.mul_comm, Nat.div_add_mod] at h2
  rwa [List.getD_eq_getElem?_getD, List.getElem?_eq_getElem hk, Option.getD_some] at h2
theorem qIu {p w m : Nat} (hp : isP p = true) (hw : w ≤ 1024) (hm : m ≤ 1024) (X0 : List Int) {L : List (List Int)} (hL : L.length = m) {c : Nat} (hc : c < w) {X : List Int} {q : List Int} (h : FlInv (p : Int) w m L c X q) (hq : q.length ≤ c) (hqm : q.length < m) (hne : fl w X q.length c ≠ 0) (det : Int) :
  ∃ Y det', FlInv (p : Int) w m L (c + 1) Y (q ++ [(c : Int)]) ∧
  Le (fun k => z146.l0 k (p : Int) (w : Int) (q ++ [(c : Int)]) det' ((q.length + 1 : Nat) : Int) ((c + 1 : Nat) : Int) (p : Int) (m : Int) (w : Int) X0 (p : Int) (m : Int) (w : Int) Y) (fun k => z146.j5 k (p : Int) (w : Int) q det (q.length : Int) (c : Int) (p : Int) (m : Int) (w : Int) X0 (p : Int) (m : Int) (w : Int) X) := by
 have h2 := qBx hp
 have hR : ∀ i j, i < m → j < w → 0 ≤ fl w X i j ∧ fl w X i j < (p : Int) := fun i j hi hj => ⟨h.el.ge i j hi hj, h.el.lt i j hi hj⟩
 have hRx := (qL5 (p := p) h.len).2 hR
 obtain ⟨a, ha⟩ := Int.eq_ofNat_of_zero_le (hR q.length c hqm hc).1
 have hap : a < p := by have := (hR q.length c hqm hc).2; omega
 have hinv := qF1 hp hap
 have hcong := qId hp hap (by omega)
 have hbp : a ^ (p - 2) % p < p := Nat.mod_lt _ (by omega)
 generalize hbe : a ^ (p - 2) % p = b at hinv hcong hbp
 obtain ⟨Y, hY, hgo1⟩ := qJ4 hp hw hm X0 q (Int.tmod (wrap64 (det * (a : Int))) (p : Int)) (c := c) hqm hbp h.len hRx
 have hYR : ∀ i j, i < m → j < w → 0 ≤ fl w Y i j ∧ fl w Y i j < (p : Int) := fun i j hi hj => by
  rw [hY.at_ i j hj]
  split
  ·exact ⟨Int.emod_nonneg _ (by omega), Int.emod_lt_of_pos _ (by omega)⟩
  ·exact hR i j hi hj
 obtain ⟨Z, hZl, hZ, hgo2⟩ := qH1 hp hw hm X0 q (Int.tmod (wrap64 (det * (a : Int))) (p : Int)) hqm hc (by omega) (by rw [hY.len]; exact h.len) hYR
 have hqs : ∀ i, i < q.length → ((q ++ [(c : Int)]).getD i 0) = q.getD i 0 := fun i hi => by
  rw [List.getD_eq_getElem?_getD, List.getElem?_append_left hi, List.getD_eq_getElem?_getD]
 have hYrow : ∀ j, j < w → fl w Y q.length j = fl w X q.length j * (b : Int) % (p : Int) := fun j hj => by rw [hY.at_ _ j hj, if_pos ⟨rfl, hj⟩]
 have hYoth : ∀ i j, j < w → i ≠ q.length → fl w Y i j = fl w X i j := fun i j hj hi => by rw [hY.at_ _ j hj, if_neg (fun hh => hi hh.1)]
 have hZrow : ∀ j, j < w → fl w Z q.length j = fl w Y q.length j := fun j hj => by rw [hZ _ j hqm hj]; unfold cl; rw [if_pos (.inl rfl)]
 refine ⟨Z, Int.tmod (wrap64 (det * (a : Int))) (p : Int), ⟨by rw [hZl, hY.len, h.len], fun x hx => ?_, ?_⟩, fun r hr => ?_⟩
 ·rcases List.mem_append.1 hx with h1 | h1
  ·exact h.pos x h1
  ·rw [List.mem_singleton.1 h1]; omega
 ·rw [List.length_append]
  refine h.el.step hc hqm (b := (b : Int)) (by rw [ha]; exact hcong) (fun j hj => ?_) (fun i j hi hni hj => ?_) (fun i hi => by rw [hqs i hi]) (by simp) (fun i j hi hj => ?_) (fun i j hi hj => ?_)
  ·rw [hZrow j hj, hYrow j hj, Int.mul_comm]
   have := Int.dvd_neg.2 (Int.dvd_self_sub_emod (x := (b : Int) * fl w X q.length j) (m := (p : Int)))
   rwa [Int.neg_sub] at this
  ·rw [hZ i j hi hj, hZrow j hj]
   unfold cl
   by_cases hz : fl w X i c = 0
   ·rw [if_pos (.inr (by rw [hYoth i c hc hni]; exact hz)), hYoth i j hj hni, hz, Int.zero_mul]; simp
   ·rw [if_neg (fun hh => by rcases hh with hh | hh; exact hni hh; rw [hYoth i c hc hni] at hh; exact hz hh), hYoth i j hj hni, hYoth i c hc hni]
    have := Int.dvd_neg.2 (Int.dvd_self_sub_emod (x := fl w X i j - fl w X i c * fl w Y q.length j) (m := (p : Int)))
    rwa [Int.neg_sub] at this
  ·rw [hZ i j hi hj]; exact (qKx (by omega) hYR hi hj).1
  ·rw [hZ i j hi hj]; exact (qKx (by omega) hYR hi hj).2
 ·have hn := hgo1 r (hgo2 r hr)
  have hlt := qCm hqm hc
  have hl := h.len
  have e := ix (i := q.length) (w := w) (j := c) (by omega) hw (by omega)
  refine Ev.step (fun k => z146.j5.eq_2 ..) ?_
  rw [e, rdfl, ha]
  clear e
  exact qAa (by omega) (qAa (by omega) (qAm (by omega) (Ev.bind hinv hn)))
theorem qMh {p w m : Nat} (hp : isP p = true) (hw : w ≤ 1024) (hm : m ≤ 1024) {X : List Int} (hX : X.length = m * w) (hR : Rng p X) {L : List (List Int)} (hL : L.length = m) (hLX : ∀ i j, i < m → j < w → rw' L i j = fl w X i j) :
  ∃ Y q det, Ev (fun k => z146.f k (p : Int) (m : Int) (w : Int) X) ((p : Int), (m : Int), (w : Int), Y, q, det) ∧ FlInv (p : Int) w m L w Y q := by
 have h2 := qBx hp
 have hmw : m * w ≤ 1024 * 1024 := Nat.mul_le_mul hm hw
 have stop : ∀ (c : Nat) (Y q : List Int) (det : Int), Ev (fun k => z146.j1 k (p : Int) (w : Int) q det (q.length : Int) (c : Int) false (p : Int) (m : Int) (w : Int) X (p : Int) (m : Int) (w : Int) Y) ((p : Int), (m : Int), (w : Int), Y, q, det) := fun c Y q det => by
  refine Ev.step (fun k => z146.j1.eq_2 ..) ?_
  exact qAm (by decide) (Ev.now _)
 have main : ∀ (d c : Nat) (Y : List Int) (q : List Int) (det : Int), c + d = w → q.length ≤ c → FlInv (p : Int) w m L c Y q →
   ∃ Y' q' det', Ev (fun k => z146.l0 k (p : Int) (w : Int) q det (q.length : Int) (c : Int) (p : Int) (m : Int) (w : Int) X (p : Int) (m : Int) (w : Int) Y) ((p : Int), (m : Int), (w : Int), Y', q', det') ∧ FlInv (p : Int) w m L w Y' q' := by
  intro d
  induction d with
  | zero =>
   intro c Y q det hc hq h
   have : c = w := by omega
   subst this
   refine ⟨Y, q, det, ?_, h⟩
   refine Ev.step (fun k => z146.l0.eq_2 ..) ?_
   exact qAm (by omega) (stop _ _ _ _)
  | succ d ih =>
   intro c Y q det hc hq h
   have hrm := h.el.g.rm
   rcases Nat.lt_or_ge q.length m with hlt | hge
   ·obtain ⟨t, ht1, ht2, htd, hgo⟩ := qLv hw hm X q det (row := q.length) (c := c) (by omega) (by omega) h.len
    have hstart : ∀ r, Ev (fun k => z146.j3 k (p : Int) (w : Int) q det (q.length : Int) (c : Int) (t : Int) (p : Int) (m : Int) (w : Int) X (p : Int) (m : Int) (w : Int) Y) r →
      Ev (fun k => z146.l0 k (p : Int) (w : Int) q det (q.length : Int) (c : Int) (p : Int) (m : Int) (w : Int) X (p : Int) (m : Int) (w : Int) Y) r := fun r hr => by
     have hdec : decide ((q.length : Int) < (m : Int)) = true := decide_eq_true (by omega)
     refine Ev.step (fun k => z146.l0.eq_2 ..) ?_
     refine qAa (by omega) ?_
     rw [hdec]
     refine Ev.step (fun k => z146.j1.eq_2 ..) ?_
     exact qAa rfl (hgo r hr)
    rcases htd with ⟨e, hz⟩ | ⟨htm, hne⟩
    ·obtain ⟨Y', q', det', h3, h4⟩ := ih (c + 1) Y q det (by omega) (by omega) ⟨h.len, h.pos, h.el.none hz⟩
     refine ⟨Y', q', det', hstart _ ?_, h4⟩
     refine Ev.step (fun k => z146.j3.eq_2 ..) ?_
     refine qAa (by omega) ?_
     rw [qAp (by omega)]; exact h3
    ·rcases Nat.eq_or_lt_of_le ht1 with e | hlt2
     ·rw [← e] at hne
      obtain ⟨Y1, det1, hst, hgo1⟩ := qIu hp hw hm X hL (by omega) h hq hlt hne det
      obtain ⟨Y', q', det', h3, h4⟩ := ih (c + 1) Y1 (q ++ [(c : Int)]) det1 (by omega) (by simp; omega) hst
      refine ⟨Y', q', det', hstart _ ?_, h4⟩
      refine Ev.step (fun k => z146.j3.eq_2 ..) ?_
      refine qAm (by omega) (qAa (by omega) (hgo1 _ ?_))
      rw [List.length_append] at h3
      exact h3
     ·obtain ⟨Y1, hsw, hgo1⟩ := qLg hw hm X q (wrap64 ((p : Int) - det)) (c := c) hlt htm (by omega) h.len
      have hs : FlInv (p : Int) w m L c Y1 q := by
       refine ⟨by rw [hsw.len, h.len], h.pos, ?_⟩
       refine h.el.swap' (a := t) (by omega) (by omega) htm (fun j hj => ?_) (fun j hj => ?_) (fun i j hi h1 h3 hj => ?_)
       ·rw [hsw.at_ _ j hj, if_pos hj, if_pos rfl]
       ·rw [hsw.at_ _ j hj, if_pos hj, if_neg (by omega), if_pos rfl]
       ·rw [hsw.at_ _ j hj, if_pos hj, if_neg h1, if_neg h3]
      have hne' : fl w Y1 q.length c ≠ 0 := by rw [hsw.at_ _ c (by omega), if_pos (by omega), if_pos rfl]; exact hne
      obtain ⟨Y2, det1, hst, hgo2⟩ := qIu hp hw hm X hL (by omega) hs hq hlt hne' (wrap64 ((p : Int) - det))
      obtain ⟨Y', q', det', h3, h4⟩ := ih (c + 1) Y2 (q ++ [(c : Int)]) det1 (by omega) (by simp; omega) hst
      refine ⟨Y', q', det', hstart _ ?_, h4⟩
      rw [List.length_append] at h3
      have h5 := hgo1 _ (hgo2 _ h3)
      have g1 : ¬ ((t : Int) = (m : Int)) := by omega
      have g2 : ¬ ((t : Int) = (q.length : Int)) := by omega
      refine Ev.step (fun k => z146.j3.eq_2 ..) ?_
      exact qAm g1 (qAm g2 h5)
   ·refine ⟨Y, q, det, ?_, h.len, h.pos, h.el.full (by omega) (by omega)⟩
    have hdec : decide ((q.length : Int) < (m : Int)) = false := decide_eq_false (by omega)
    refine Ev.step (fun k => z146.l0.eq_2 ..) ?_
    refine qAa (by omega) ?_
    rw [hdec]
    exact stop _ _ _ _
 have hfl := (qL5 (p := p) hX).1 hR
 obtain ⟨Y', q', det', h3, h4⟩ := main w 0 X [] 1 (by omega) (by simp) ⟨hX, fun x hx => by simp at hx, (El.start (R := fl w X) (fun i j hi hj => (hfl i j hi hj).1) (fun i j hi hj => (hfl i j hi hj).2) _).congr0 fun i j hi hj => hLX i j hi hj⟩
 refine ⟨Y', q', det', ?_, h4⟩
 unfold z146.f
 have hown : z82.f X = some X := by
  unfold z82.f
  show (if (([] : List Int)).length + X.length < 17592186044416 then some ([] ++ X) else none) = some X
  rw [if_pos (by simp; omega)]; rfl
 exact Ev.bind (qA3 hown) h3
end Go.Proofs.Ytipkciildhghiaa.B
set_option linter.unusedVariables false
set_option linter.unusedSimpArgs false
namespace Go.Proofs.Ytipkciildhghiaa.B
open Go.RowKit Go.Proofs.YtipkciildhghiaaW.PrintWords
open LinT
theorem qKv (l : List Int) (hl : l.length ≤ 1048576) : slices_Clone_int64_int64.f l = some l := by
 unfold slices_Clone_int64_int64.f
 simp
 omega
theorem qJ6 {p m n : Nat} {X : List Int} (hX : X.length = m * n) (hm : m ≤ 1024) (hn : n ≤ 1024) : Ev (fun k => z148.f k (p : Int) (m : Int) (n : Int) X) (unfl n m X) := by
 unfold z148.f
 refine qGl (fun s i k => z148.l0 k s (m : Int) (i : Int) (p : Int) (m : Int) (n : Int) X) (fun i => (X.drop (i * n)).take n) m (fun i s hi hs r hr => ?_) _ ?_
 ·have hsl : s.length = i := by rw [hs]; simp
  have hrl := qD0 hX hi
  refine Ev.step (fun k => z148.l0.eq_2 ..) ?_
  refine qAa (by omega) (Ev.bind (qA3 (qMg _ hX hm hn hi)) (Ev.bind (qA3 (qKv _ (by omega))) (qAa (by omega) ?_)))
  rw [qAp (by omega)]; exact hr
 ·refine Ev.step (fun k => z148.l0.eq_2 ..) ?_
  exact qAm (by omega) (Ev.now _)
theorem qKk {α : Type} (z : α) (L : List α) {r i : Nat} (h : i < r) : (L.take r).getD i z = L.getD i z := by
 rw [List.getD_eq_getElem?_getD, List.getD_eq_getElem?_getD, List.getElem?_take_of_lt h]
theorem red_q {p : Int} {n : Nat} {L B : List (List Int)} {q : List Int} (h : Red p n L B q) {i : Nat} (hi : i < q.length) : 0 ≤ q.getD i 0 ∧ q.getD i 0 < (n : Int) := by
 have h1 := h.pos _ (qA9 0 hi)
 have h2 := h.rref.lt i (by rw [← h.len]; exact hi)
 exact ⟨h1, by omega⟩
end Go.Proofs.Ytipkciildhghiaa.B
set_option linter.unusedVariables false
set_option linter.unusedSimpArgs false
namespace Go.Proofs.Ytipkciildhghiaa.B
open Go.RowKit Go.Proofs.YtipkciildhghiaaW.PrintWords
open LinT
def augL (m n : Nat) (X b : List Int) : List (List Int) := (List.range m).map fun i => (X.drop (i * n)).take n ++ [b.getD i 0]
theorem qB4 (m n : Nat) (X b : List Int) : (augL m n X b).length = m := by simp [augL]
theorem qK3 {p m n : Nat} {X b : List Int} (hX : X.length = m * n) (hR : Rng p X) (hb : b.length = m) (hbr : Rng p b) : Vs (p : Int) (n + 1) (augL m n X b) := by
 intro x hx
 obtain ⟨i, hi, rfl⟩ := List.mem_map.1 hx
 have him := List.mem_range.1 hi
 refine ⟨by rw [List.length_append, qD0 hX him]; rfl, fun y hy => ?_⟩
 rcases List.mem_append.1 hy with h | h
 ·exact hR y (List.mem_of_mem_drop (List.mem_of_mem_take h))
 ·rw [List.mem_singleton.1 h]; exact qDq hbr (by omega)
def solG (B : List (List Int)) (q : List Int) (n : Nat) : Nat → Nat → List Int → List Int × Bool
 | 0, _, s => (s, true)
 | d + 1, i, s => if q.getD i 0 = (n : Int) then ([], false) else solG B q n d (i + 1) (s.set (q.getD i 0).toNat ((B.getD i []).getD n 0))
def solC (B : List (List Int)) (q : List Int) (n : Nat) : List Int × Bool := solG B q n q.length 0 (List.replicate n 0)
theorem qIq (B : List (List Int)) (q : List Int) (n : Nat) : ∀ d i s, (solG B q n d i s).1.length ≤ s.length
 | 0, i, s => Nat.le_refl _
 | d + 1, i, s => by
  unfold solG
  split
  ·simp
  ·have := qIq B q n d (i + 1) (s.set (q.getD i 0).toNat ((B.getD i []).getD n 0))
   rwa [List.length_set] at this
theorem qLi (B : List (List Int)) (q : List Int) (n : Nat) : (solC B q n).1.length ≤ n := by
 have := qIq B q n q.length 0 (List.replicate n 0)
 rwa [List.length_replicate] at this
theorem qJy {p m n : Nat} (hp : isP p = true) {X b : List Int} (hX : X.length = m * n) (hR : Rng p X) (hb : b.length = m) (hbr : Rng p b) (hm : m ≤ 1000) (hn : n ≤ 1000) :
  ∃ B q, Red (p : Int) (n + 1) (augL m n X b) B q ∧ Ev (fun k => z152.f k (p : Int) (m : Int) (n : Int) X b) (solC B q n) := by
 have hvs := qK3 hX hR hb hbr
 obtain ⟨R, q, det, hE, hst⟩ := qMv hp (n := n + 1) (L := augL m n X b) (by omega) (by rw [qB4]; omega) hvs
 have hred := hst.red
 refine ⟨R.take q.length, q, hred, ?_⟩
 have hRl := hst.len
 rw [qB4] at hRl
 have hqm := hst.el.g.rm
 rw [qB4] at hqm
 unfold z152.f
 refine Ev.bind (qJ6 hX (by omega) (by omega)) ?_
 -- the last part
 have hl1 : ∀ (d i : Nat) (s : List Int), i + d = q.length → s.length = n → Ev (fun k => z152.l1 k R s q (q.length : Int) (i : Int) (p : Int) (m : Int) (n : Int) X) (solG (R.take q.length) q n d i s) := by
  intro d
  induction d with
  | zero =>
   intro i s hi hs
   refine Ev.step (fun k => z152.l1.eq_2 ..) ?_
   exact qAm (by omega) (Ev.now _)
  | succ d ih =>
   intro i s hi hs
   have hqi := red_q hred (i := i) (by omega)
   have hrl := qC4 hst.vs (i := i) (by omega)
   unfold solG
   refine Ev.step (fun k => z152.l1.eq_2 ..) ?_
   rw [qBa, qBc, qBa]
   by_cases h : q.getD i 0 = (n : Int)
   ·rw [if_pos h]
    exact qAa (by omega) (qAa (by omega) (qAa (by omega) (qAa h (Ev.now _))))
   ·rw [if_neg h]
    refine qAa (by omega) (qAa (by omega) (qAa (by omega) (qAm h (qAa (by omega) (qAa (by omega) (qAa (by omega) (qAa (by omega) (qAa (by omega) ?_))))))))
    rw [qAp (by omega), qKk [] R (show i < q.length by omega)]
    exact ih (i + 1) _ (by omega) (by rw [List.length_set]; exact hs)
 -- the rows get a further number
 have hl0 : ∀ (d i : Nat) (W : List (List Int)), i + d = m → W = (augL i n X b) ++ (unfl n m X).drop i → Ev (fun k => z152.l0 k b W (m : Int) (i : Int) (p : Int) (m : Int) (n : Int) X) (solC (R.take q.length) q n) := by
  intro d
  induction d with
  | zero =>
   intro i W hi hW
   have : i = m := by omega
   subst this
   have hWe : W = augL i n X b := by
    rw [hW, List.drop_of_length_le (by rw [qDi]; exact Nat.le_refl _), List.append_nil]
   rw [hWe]
   have e : wrap64 ((n : Int) + 1) = ((n + 1 : Nat) : Int) := qAp (by omega)
   refine Ev.step (fun k => z152.l0.eq_2 ..) ?_
   rw [e]
   clear e
   refine qAm (by omega) (Ev.bind hE (qAa (by omega) (qAa (by omega) ?_)))
   rw [Int.toNat_natCast]
   exact hl1 q.length 0 _ (by omega) (by simp)
  | succ d ih =>
   intro i W hi hW
   have hWi : W.getD i [] = (X.drop (i * n)).take n := by
    rw [hW, List.getD_eq_getElem?_getD, List.getElem?_append_right (by rw [qB4]; exact Nat.le_refl _), qB4, Nat.sub_self, List.getElem?_drop, Nat.add_zero]
    unfold unfl
    rw [List.getElem?_map, List.getElem?_range (by omega)]; rfl
   have hrl := qD0 hX (show i < m by omega)
   have hWl : W.length = m := by rw [hW, List.length_append, qB4, List.length_drop, qDi]; omega
   have hnext := ih (i + 1) (W.set i ((X.drop (i * n)).take n ++ [b.getD i 0])) (by omega) (by
    rw [hW, List.set_append_right _ _ (by rw [qB4]; exact Nat.le_refl _), qB4, Nat.sub_self]
    have hd : (unfl n m X).drop i = ((unfl n m X).getD i []) :: (unfl n m X).drop (i + 1) := by
     rw [List.drop_eq_getElem_cons (by rw [qDi]; omega), List.getD_eq_getElem?_getD, List.getElem?_eq_getElem (by rw [qDi]; omega)]; rfl
    rw [hd, List.set_cons_zero]
    have ha : augL (i + 1) n X b = augL i n X b ++ [(X.drop (i * n)).take n ++ [b.getD i 0]] := by
     unfold augL
     rw [List.range_succ, List.map_append]; rfl
    rw [ha, List.append_assoc]; rfl)
   refine Ev.step (fun k => z152.l0.eq_2 ..) ?_
   rw [qBc, qBa, hWi]
   refine qAa (by omega) (qAa (by omega) (qAa (by omega) (qAa (by omega) (qAa (by omega) ?_))))
   rw [qAp (by omega), Int.toNat_natCast]
   exact hnext
 have h := hl0 m 0 (unfl n m X) (by omega) (by simp [augL])
 rw [qDi]
 exact h
theorem qK4 (m n : Nat) (X b : List Int) : augL (m + 1) n X b = augL m n X b ++ [(X.drop (m * n)).take n ++ [b.getD m 0]] := by
 unfold augL
 rw [List.range_succ, List.map_append]; rfl
theorem qMo {p m n : Nat} {X b : List Int} (hX : X.length = m * n) (hb : b.length = m) (hm : m ≤ 1000) (hn : n ≤ 1000) :
  Ev (fun k => z180.f k (p : Int) (m : Int) (n : Int) X (p : Int) (m : Int) 1 b) ((p : Int), (m : Int), ((n + 1 : Nat) : Int), (augL m n X b).flatten) := by
 unfold z180.f
 have e0 : wrap64 ((n : Int) + 1) = ((n + 1 : Nat) : Int) := qAp (by omega)
 rw [e0]
 clear e0
 have hmn : m * n ≤ 1000 * 1000 := Nat.mul_le_mul hm hn
 have main : ∀ (d i : Nat), i + d = m → Ev (fun k => z180.l0 k (i : Int) (p : Int) (m : Int) (n : Int) X (p : Int) (m : Int) 1 b (p : Int) (m : Int) ((n + 1 : Nat) : Int) (augL i n X b).flatten) ((p : Int), (m : Int), ((n + 1 : Nat) : Int), (augL m n X b).flatten) := by
  intro d
  induction d with
  | zero =>
   intro i hi
   have : i = m := by omega
   subst this
   refine Ev.step (fun k => z180.l0.eq_2 ..) ?_
   exact qAm (by omega) (Ev.now _)
  | succ d ih =>
   intro i hi
   have h := ih (i + 1) (by omega)
   have hrl := qD0 hX (show i < m by omega)
   have h2 := Nat.mul_le_mul_right n (show i + 1 ≤ m by omega)
   have h1 : (i + 1) * n = i * n + n := by rw [Nat.add_mul, Nat.one_mul]
   have hfl : (augL i n X b).flatten.length = i * (n + 1) := by
    rw [qDs (w := n + 1) _ (fun x hx => by
     obtain ⟨j, hj, rfl⟩ := List.mem_map.1 hx
     have := List.mem_range.1 hj
     rw [List.length_append, qD0 hX (by omega)]; rfl), qB4]
   have hfl2 : i * (n + 1) ≤ 1000 * 1001 := Nat.mul_le_mul (by omega) (by omega)
   obtain ⟨e1, e2, e3, e4, e5⟩ : wrap64 ((i : Int) * (n : Int)) = ((i * n : Nat) : Int) ∧ wrap64 (wrap64 ((i : Int) + 1) * (n : Int)) = ((i * n + n : Nat) : Int) ∧ wrap64 ((i : Int) * 1) = (i : Int) ∧ wrap64 (wrap64 ((i : Int) + 1) * 1) = ((i + 1 : Nat) : Int) ∧ wrap64 ((i : Int) + 1) = ((i + 1 : Nat) : Int) :=
    ⟨by rw [← Int.natCast_mul, qAo (by omega) (by omega)], by rw [qAp (by omega), ← Int.natCast_mul, h1, qAo (by omega) (by omega)], by rw [Int.mul_one, qAo (by omega) (by omega)], by rw [qAp (by omega), Int.mul_one, qAo (by omega) (by omega)], qAp (by omega)⟩
   refine Ev.step (fun k => z180.l0.eq_2 ..) ?_
   rw [e1, e2, e3, e4, e5]
   clear e1 e2 e3 e4 e5
   simp only [Int.toNat_natCast]
   have d1 : (X.take (i * n + n)).drop (i * n) = (X.drop (i * n)).take n := by rw [List.drop_take]; congr 1; omega
   have d2 : (b.take (i + 1)).drop i = [b.getD i 0] := by
    rw [List.drop_take, show i + 1 - i = 1 by omega, List.drop_eq_getElem_cons (by omega), List.take_succ_cons, List.take_zero, List.getD_eq_getElem?_getD, List.getElem?_eq_getElem (by omega)]; rfl
   rw [d1, d2]
   refine qAa (by omega) (qAa (by omega) (qAa (by omega) (qAa (by omega) (qAa (by omega) (Ev.bind (qA3 rfl) (qAa (by omega) (qAa (by omega) (qAa (by omega) (qAa (by rw [List.length_append]; simp only [List.length_cons, List.length_nil]; omega) ?_)))))))))
   rw [qK4, List.flatten_append, List.flatten_cons, List.flatten_nil, List.append_nil, ← List.append_assoc] at h
   exact h
 exact main m 0 (by omega)
theorem qJx {p m n : Nat} (hp : isP p = true) {X b : List Int} (hX : X.length = m * n) (hR : Rng p X) (hb : b.length = m) (hbr : Rng p b) (hm : m ≤ 1000) (hn : n ≤ 1000) :
  ∃ B q, Red (p : Int) (n + 1) (augL m n X b) B q ∧ Ev (fun k => z151.f k (p : Int) (m : Int) (n : Int) X b) (solC B q n) := by
 have hvs := qK3 hX hR hb hbr
 have hfl : (augL m n X b).flatten.length = m * (n + 1) := by rw [qDs (w := n + 1) _ (fun x hx => (hvs x hx).1), qB4]
 obtain ⟨Y, q, det, hE, hst⟩ := qMh hp (w := n + 1) (m := m) (X := (augL m n X b).flatten) (by omega) (by omega) hfl (fun y hy => by
  obtain ⟨x, hx, hy2⟩ := List.mem_flatten.1 hy
  exact (hvs x hx).2 y hy2) (L := augL m n X b) (qB4 _ _ _ _) (fun i j hi hj => (qGh _ (fun x hx => (hvs x hx).1) i j (by rw [qB4]; exact hi) hj).symm)
 have hst' : FlInv (p : Int) (n + 1) (augL m n X b).length (augL m n X b) (n + 1) Y q := by rw [qB4]; exact hst
 have hred := hst'.red
 have hqm := hst.el.g.rm
 refine ⟨unfl (n + 1) q.length Y, q, hred, ?_⟩
 unfold z151.f
 refine Ev.bind (qMo hX hb hm hn) (Ev.bind hE (qAa (by omega) (qAa (by rw [Int.toNat_natCast]; omega) ?_)))
 rw [Int.toNat_natCast]
 have hYl := hst.len
 have hl1 : ∀ (d i : Nat) (s : List Int), i + d = q.length → s.length = n → Ev (fun k => z151.l0 k q s (i : Int) (p : Int) (m : Int) (n : Int) X (p : Int) (m : Int) ((n + 1 : Nat) : Int) (augL m n X b).flatten (p : Int) (m : Int) ((n + 1 : Nat) : Int) Y) (solG (unfl (n + 1) q.length Y) q n d i s) := by
  intro d
  induction d with
  | zero =>
   intro i s hi hs
   refine Ev.step (fun k => z151.l0.eq_2 ..) ?_
   exact qAm (by omega) (Ev.now _)
  | succ d ih =>
   intro i s hi hs
   have hqi := red_q hred (i := i) (by omega)
   have hlt := qCm (show i < m by omega) (show n < n + 1 by omega)
   have hB : ((unfl (n + 1) q.length Y).getD i []).getD n 0 = fl (n + 1) Y i n := qIp Y (by omega) (by omega)
   have e := ix (i := i) (w := n + 1) (j := n) (by omega) (by omega) (by omega)
   unfold solG
   refine Ev.step (fun k => z151.l0.eq_2 ..) ?_
   rw [qBa, e, rdfl, hB]
   clear e
   by_cases h : q.getD i 0 = (n : Int)
   ·rw [if_pos h]
    exact qAa (by omega) (qAa (by omega) (qAa h (Ev.now _)))
   ·rw [if_neg h]
    refine qAa (by omega) (qAa (by omega) (qAm h (qAa (by omega) (qAa (by omega) (qAa (by omega) (qAa (by omega) ?_))))))
    rw [qAp (by omega)]
    exact ih (i + 1) _ (by omega) (by rw [List.length_set]; exact hs)
 exact hl1 q.length 0 _ (by omega) (by simp)
theorem qJa {p m n : Nat} (hp : isP p = true) {X b : List Int} (hX : X.length = m * n) (hR : Rng p X) (hb : b.length = m) (hbr : Rng p b) (hm : m ≤ 1000) (hn : n ≤ 1000) :
  ∃ r : List Int × Bool, r.1.length ≤ n ∧ Ev (fun k => z152.f k (p : Int) (m : Int) (n : Int) X b) r ∧ Ev (fun k => z151.f k (p : Int) (m : Int) (n : Int) X b) r := by
 obtain ⟨B, q, h1, h2⟩ := qJy hp hX hR hb hbr hm hn
 obtain ⟨B', q', h3, h4⟩ := qJx hp hX hR hb hbr hm hn
 obtain ⟨e1, e2⟩ := h1.unique (pr_of hp) h3 (fun v => Iff.rfl)
 subst e1 e2
 exact ⟨_, qLi _ _ _, h2, h4⟩
end Go.Proofs.Ytipkciildhghiaa.B
set_option linter.unusedVariables false
set_option linter.unusedSimpArgs false
namespace Go.Proofs.Ytipkciildhghiaa.B
open Go.RowKit Go.Proofs.YtipkciildhghiaaW.PrintWords
open SimT LinT
section
variable {C : List (List Int)} (hl : C.length ≤ 1048576) (hr : ∀ x ∈ C, x.length ≤ 1048576)
include hl hr
theorem qKp {p : Nat} (hp : isP p = true) (ho : okC C = true) {d : Int} (h0 : 0 ≤ d) (h3 : d ≤ 3) (hm : (qAw C d).length ≤ 32) (hn : (qAw C (d + 1)).length ≤ 32) {ch : List Int} (hc : ch.length = (qAw C d).length) (hcr : Rng p ch) :
  ∃ g : List Int × Bool, g.1.length ≤ 32 ∧ Ev (fun k => z106.f k C d (p : Int) ch) g ∧ Ev (fun k => z105.f k C d (p : Int) ch) g := by
 have h2 := qBx hp
 have e1 : d + 1 - 1 = d := by omega
 have hb := qH3 C (d + 1) h2.1
 have hI := qLt hl hr hp ho (d := d + 1) (by omega) (by omega) (by rw [e1]; omega) (by omega)
 have hS := qLh hl hr hp ho (d := d + 1) (by omega) (by omega) (by rw [e1]; omega) (by omega)
 unfold bMat at hI hS
 rw [e1] at hb hI hS
 obtain ⟨g, hg, s1, s2⟩ := qJa hp hb.1 hb.2 hc hcr (by omega) (by omega)
 have ew : wrap64 (d + 1) = d + 1 := qAo (by omega) (by omega)
 refine ⟨g, by omega, ?_, ?_⟩
 ·unfold z106.f
  rw [ew]
  exact Ev.bind hI (Ev.bind s1 (Ev.now _))
 ·unfold z105.f
  rw [ew]
  exact Ev.bind hS (Ev.bind s2 (Ev.now _))
end
end Go.Proofs.Ytipkciildhghiaa.B
set_option linter.unusedVariables false
set_option linter.unusedSimpArgs false
namespace Go.Proofs.Ytipkciildhghiaa.B
open Go.RowKit Go.Proofs.YtipkciildhghiaaW.PrintWords
open SimT LinT
theorem qIg {C : List (List Int)} (hl : C.length ≤ 1048576) (hr : ∀ x ∈ C, x.length ≤ 1048576) (d p : Int) (ch : List Int) (hc : ch.length ≤ 1048576) :
  ∃ g : List Int × Int, g.1.length ≤ 1048576 ∧ Ev (fun k => z55.f k C d p ch) g ∧ Ev (fun k => z54.f k C d p ch) g := by
 have c1 := qHa hl hr d p ch hc
 have c2 := qHj hl hr d p ch hc
 unfold z55.f z54.f
 by_cases hz : askV C d p ch = 0
 ·obtain ⟨ho, h0, h3, h4, h5, h6, q, rfl, hq, hlen, hrng⟩ := qK5 hz
  obtain ⟨g, hg, f1, f2⟩ := qKp hl hr hq ho h0 h3 h5 h6 hlen hrng
  obtain ⟨g0, g1⟩ := g
  dsimp only at hg
  cases g1 with
  | true => exact ⟨(g0, 0), by show g0.length ≤ 1048576; omega, Ev.bind c1 (qAa hz (Ev.bind f1 (qAa rfl (Ev.now _)))), Ev.bind c2 (qAa hz (Ev.bind f2 (qAa rfl (Ev.now _))))⟩
  | false => exact ⟨([], 3), by simp, Ev.bind c1 (qAa hz (Ev.bind f1 (qAm (by simp) (Ev.now _)))), Ev.bind c2 (qAa hz (Ev.bind f2 (qAm (by simp) (Ev.now _))))⟩
 ·exact ⟨([], askV C d p ch), by simp, Ev.bind c1 (qAm hz (Ev.now _)), Ev.bind c2 (qAm hz (Ev.now _))⟩
theorem qFw {l0 : List (List Int)} {a1 a2 : Int} {l3 : List Int} (h0 : WfLL l0) (h1 : Wf a1) (h2 : Wf a2) (h3 : WfL l3) : ∃ k, z14.f k l0 a1 a2 l3 = some true := by
 refine Ev.rounds (g := fun k => z14.f k l0 a1 a2 l3) ?_
 unfold z14.f
 by_cases hbig : (l3.length : Int) > 1048576
 ·exact qAa hbig (Ev.now _)
 refine qAm hbig ?_
 rcases qHf l0 1048576 h0 (by omega) (by omega) with ⟨t, ht, hn⟩ | ⟨ht, hb⟩
 ·exact Ev.bind ht (qAa hn (Ev.now _))
 have htn := qBs l0
 have hrow : ∀ x ∈ l0, x.length ≤ 1048576 := fun x hx => by have := qEh l0 x hx; omega
 have hlen : l0.length ≤ 1048576 := by omega
 have hto := qHc l0 hlen hrow
 have heq := qF5 l0 (by omega) (fun x hx => by have := hrow x hx; omega)
 refine Ev.bind ht (qAm (by omega) ?_)
 have hto1 := qE0 l3 (by omega)
 have heq1 := qD7 l3 (by omega)
 obtain ⟨g, hs, him, hsp⟩ := qIg hlen hrow a1 a2 l3 (by omega)
 obtain ⟨g0, g1⟩ := g
 dsimp only at hs
 have heg := qD7 g0 (by omega)
 have hm1 : laws_markComplex.f l0 1 = some (1 + total l0, qBl l0 1) := qLq l0 1 (by omega) (by omega)
 have hm3 := qDc l3 (1 + total l0) (by omega) (by omega)
 have hm2 := qDc g0 1 (by omega) (by omega)
 have hh := qG2 g0 1 (by omega) (by omega)
 (repeat (first | exact Ev.now _ | refine qAa rfl ?_ | refine qAm (by simp only []; omega) ?_ | refine qAm (by omega) ?_ | refine qAm (by simp) ?_ | refine Ev.bind (by assumption) ?_ | refine Ev.bind (qA3 (by assumption)) ?_))
end Go.Proofs.Ytipkciildhghiaa.B
