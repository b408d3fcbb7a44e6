/- What the functions come to, for the law FnExactQuotientOf. -/
import Derived.Test.YtkgajpngeglkmaaKEFECCD0
import Derived.Test.YtkgajpngeglkmaaKHHICCB0
import Derived.Test.YtkgajpngeglkmaaKICBICJ0
import Derived.Test.YtkgajpngeglkmaaKKEPDLE0
import Derived.Test.YtkgajpngeglkmaaKKGJHIO0
import Derived.Test.YtkgajpngeglkmaaKKJBPOK0
import Derived.Test.YtkgajpngeglkmaaKLBBOAD0
import Derived.Test.YtkgajpngeglkmaaKLNIADK0
import Derived.Test.YtkgajpngeglkmaaKMCIMDJ0
import Derived.Test.YtkgajpngeglkmaaKMFGOHC0
import Derived.Test.YtkgajpngeglkmaaKNBLNIL0
import Derived.Test.YtkgajpngeglkmaaKOKGLGL0
import Derived.Test.YtkgajpngeglkmaaKONDPAI0
import Derived.Test.YtkgajpngeglkmaaKPIHLJJ0
import Derived.Test.YtkgajpngeglkmaaKW0
import Derived.Below
import Derived.ChangeOld
import Derived.Deep.Matrix
import Derived.Lib.SmallJoins
import Derived.OpenShut
import Derived.ProofKit
import Derived.ShutString
import Derived.SizedLaws
import Derived.WalkKit
set_option maxHeartbeats 8000000
set_option maxRecDepth 100000
set_option linter.unusedVariables false
set_option linter.unusedSimpArgs false
namespace Go.Proofs.Ytkgajpngeglkmaa.B
open Go.RowKit Go.ChangeShapes Go.WideShapes Go.Deep Go.Proofs.YtkgajpngeglkmaaW.PrintWords

def Wf (n : Int) : Prop := -9223372036854775808 ≤ n ∧ n ≤ 9223372036854775807
def WfL (l : List Int) : Prop := l.length ≤ 9223372036854775807 ∧ ∀ n ∈ l, Wf n
def WfLL (l : List (List Int)) : Prop := l.length ≤ 9223372036854775807 ∧ ∀ r ∈ l, WfL r
theorem wf_of {n : Int} (h : (Lit.int .i64 n).wf = true) : Wf n := by
 unfold Wf
 simp [Lit.wf, IntKind.min, IntKind.max, IntKind.bits, IntKind.signed] at h
 omega

section
variable {H : Type} {enc : TypeId × Value → H} {P : Program} {w : World} {base : Nat} {held : Bool} {fuel : Nat}
theorem qCx {t : TypeId} {v : Value} {x : DataW H × List MemPlace} (ht : P.underlying t = some (.int .i64)) (h : DataW.trod enc P w base (fun _ => true) held fuel t [v] = some x) : ∃ n, v = .int .i64 n ∧ Wf n := by
 obtain ⟨n, he, _, hw⟩ := DataW.trod_int ht h
 exact ⟨n, by simpa using he, wf_of hw⟩
theorem qG7 {t e : TypeId} {v : Value} {x : DataW H × List MemPlace} (ht : P.underlying t = some (.slice e)) (he : P.underlying e = some (.int .i64)) (hc : P.cellsOf e = 1) (h : DataW.trod enc P w base (fun _ => true) held fuel t [v] = some x) :
  ∃ A l c, v = .slice A l.length c ∧ (Kd.int .i64).C w A l.length l ∧ l.length ≤ c ∧ WfL l := by
 rcases open_ints ht he hc h with ⟨hcs, _⟩ | ⟨a, l, c, zs, hcs, _, hl, hm, hz, _, hcell, hwz⟩
 ·refine ⟨none, [], 0, by simpa using hcs, ⟨rfl, by simp, fun h => by simp at h⟩, by simp, by simp [WfL]⟩
 ·simp only [if_true] at hz
  have hlen : (zs.take l).length = l := by rw [List.length_take]; omega
  refine ⟨some a, zs.take l, c, by rw [hlen]; simpa using hcs, ⟨rfl, by rw [hlen]; simp only [maxLen] at hm; omega, fun _ => ⟨a, rfl, fun j p hj => ?_⟩⟩, by omega, ?_, fun n hn => wf_of (hwz n (List.mem_of_mem_take hn))⟩
  ·have hjl : j < l := by have := (List.getElem?_eq_some_iff.1 hj).1; omega
   refine ⟨[.int .i64 p], rfl, rfl, fun i u hu => ?_⟩
   cases i with
   | zero =>
    simp only [List.getElem?_cons_zero, Option.some.injEq] at hu
    subst hu
    rw [Nat.add_zero, show j * (Kd.int .i64).sz = j from Nat.mul_one j, hcell j oM_]
    rw [List.getElem?_take, if_pos hjl] at hj
    rw [ya_, hj]; rfl
   | succ i => simp at hu
  ·rw [hlen]; simp only [maxLen] at hm; omega
theorem qEi {t e q : TypeId} {v : Value} {x : DataW H × List MemPlace} (ht : P.underlying t = some (.slice e)) (he : P.underlying e = some (.slice q)) (hq : P.underlying q = some (.int .i64)) (ce : P.cellsOf e = 1) (cq : P.cellsOf q = 1) (h : DataW.trod enc P w base (fun _ => true) held fuel t [v] = some x) :
  ∃ A l c, v = .slice A l.length c ∧ (Kd.slice 2 (Kd.int .i64)).C w A l.length l ∧ l.length ≤ c ∧ WfLL l := by
 rcases open_slice1 ht ce h with ⟨hcs, _⟩ | ⟨a, l, c, m, n, V, D, Pl, hcs, _, hl, hm, hmm, _, hx⟩
 ·refine ⟨none, [], 0, by simpa using hcs, ⟨rfl, by simp, fun h => by simp at h⟩, by simp, by simp [WfLL]⟩
 ·simp only [if_true] at hmm
  subst hmm
  have each : ∀ r, r < m → ∃ y : Option Addr × List Int × Nat, V r = .slice y.1 y.2.1.length y.2.2 ∧ (Kd.int .i64).C w y.1 y.2.1.length y.2.1 ∧ y.2.1.length ≤ y.2.2 ∧ WfL y.2.1 := by
   intro r hr
   obtain ⟨A, l, c, h1, h2, h3, h4⟩ := qG7 he hq cq (hx r hr).2
   exact ⟨(A, l, c), h1, h2, h3, h4⟩
  obtain ⟨y, hy⟩ := choose_lt each
  have hlen : ((List.range l).map fun r => (y r).2.1).length = l := by simp
  refine ⟨some a, (List.range l).map fun r => (y r).2.1, m, by rw [hlen]; simpa using hcs, ⟨rfl, by rw [hlen]; simp only [maxLen] at hm; omega, fun _ => ⟨a, rfl, fun j p hj => ?_⟩⟩, by omega, ?_, ?_⟩
  ·have hjl : j < l := by have := (List.getElem?_eq_some_iff.1 hj).1; omega
   rw [List.getElem?_map, List.getElem?_range hjl] at hj
   simp only [Option.map_some, Option.some.injEq] at hj
   subst hj
   obtain ⟨h1, h2, h3, h4⟩ := hy j oM_
   refine ⟨[.slice (y j).1 (y j).2.1.length (y j).2.2], rfl, ⟨_, _, rfl, h3, h2⟩, fun i u hu => ?_⟩
   cases i with
   | zero =>
    simp only [List.getElem?_cons_zero, Option.some.injEq] at hu
    subst hu
    rw [Nat.add_zero, show j * (Kd.slice 2 (Kd.int .i64)).sz = j from Nat.mul_one j, (hx j oM_).1, h1]
   | succ i => simp at hu
  ·rw [hlen]; simp only [maxLen] at hm; omega
  ·intro r hr
   simp only [List.mem_map, yc_] at hr
   obtain ⟨j, hj, rfl⟩ := hr
   exact (hy j oM_).2.2.2

theorem open_agg1 {r : Reach} {b0 : Nat} {t : TypeId} {f0 : Field} {v : Value} {d : DataW H} {p : List MemPlace} (hs : P.underlying t = some (.struct #[f0])) (hone : oneCellFields P #[f0] = true) (hC : P.cellsOf t = 1)
  (hv : Value.okWide P w r b0 t v) (h : DataW.Trod enc P w base (fun _ => true) held t v d p) :
  ∃ (v0 : Value) (y0 : DataW H × List MemPlace) (n : Nat), v = .agg #[v0] ∧ DataW.trod enc P w base (fun _ => true) held n f0.type [v0] = some y0 := by
 obtain ⟨cs, rfl, hsz⟩ := okWide_struct hs hv
 obtain ⟨c0, rfl⟩ : ∃ c0, cs = #[c0] := by
  have h1 : cs.size = 1 := hsz.trans hC
  match cs, h1 with | ⟨[c0]⟩, _ => exact ⟨c0, rfl⟩
 obtain ⟨fuel, hf⟩ := h
 obtain ⟨y0, n, hx, _, h0⟩ := trod_struct1 hs hf
 obtain ⟨o0, k0⟩ := hone_of hone 0 f0 rfl
 exact ⟨c0, y0, n, rfl, by simpa [Value.cells, o0, k0] using h0⟩
end
theorem own : ownKnob Try.prog.godebug = none := by kernel_rfl
theorem qIz : laidOutB Try.prog = true := by kernel_rfl
end Go.Proofs.Ytkgajpngeglkmaa.B

set_option linter.unusedVariables false
set_option linter.unusedSimpArgs false
namespace Go.Proofs.Ytkgajpngeglkmaa.B
open Go.RowKit Go.Proofs.YtkgajpngeglkmaaW.PrintWords
theorem qF9 (l : List Int) (a : Int) (h0 : 0 ≤ a) (h1 : a ≤ 9223372036854775807) (hl : l.length ≤ 9223372036854775807) : z86.f l a = some (if a - l.length < 0 then -1 else a - l.length) := by
 unfold z86.f
 have e : wrap64 (a - (l.length : Int)) = a - l.length := qAq oM_ oM_
 rw [e]
 split <;> rfl
theorem qGa (l : List (List Int)) (a : Int) (hw : WfLL l) (h0 : 0 ≤ a) (h1 : a ≤ 9223372036854775807) :
  (∃ t, Ev (fun k => z37.f k l a) t ∧ t < 0) ∨ (Ev (fun k => z37.f k l a) (a - l.length - total l) ∧ l.length + total l ≤ a) := by
 have loop : ∀ (d i : Nat) (b : Int), d + i = l.length → 0 ≤ b → b ≤ 9223372036854775807 → (∃ t, Ev (fun k => z37.l0 k l b (i : Int)) t ∧ t < 0) ∨ (Ev (fun k => z37.l0 k l b (i : Int)) (b - total (l.drop i)) ∧ total (l.drop i) ≤ b) := by
  intro d
  induction d with
  | zero =>
   intro i b hd hb0 hb1
   right
   have hi : l.length = i := by omega
   rw [List.drop_of_length_le oM_]
   refine ⟨Ev.step (fun k => z37.l0.eq_2 ..) (qAd oM_ (qBa (Ev.now b) (by simp [total]))), by simpa [total] using hb0⟩
  | succ d ih =>
   intro i b hd hb0 hb1
   have hi : i < l.length := by omega
   have hdr : l.drop i = l.getD i [] :: l.drop (i + 1) := by
    rw [List.drop_eq_getElem_cons hi, ya_, yb_ hi]; rfl
   have hm : l.getD i [] ∈ l := by
    rw [ya_, yb_ hi]; exact yp_ hi
   have hrl := (hw.2 _ hm).1
   have hv := qF9 (l.getD i []) b hb0 hb1 hrl
   have hrd : rI_ l (i : Int) = l.getD i [] := by simp [rI_]
   have hlen : l.length ≤ 9223372036854775807 := hw.1
   by_cases hneg : b - ((l.getD i []).length : Int) < 0
   ·left
    rw [if_pos hneg] at hv
    refine ⟨-1, Ev.step (fun k => z37.l0.eq_2 ..) (qAa oM_ (qAa oM_ ?_)), by omega⟩
    rw [hrd]
    exact Ev.bind (qAt hv) (qAa oM_ (Ev.now _))
   ·rw [if_neg hneg] at hv
    rcases ih (i + 1) (b - ((l.getD i []).length : Int)) oM_ oM_ oM_ with ⟨t, ht, htn⟩ | ⟨ht, htb⟩
    ·left
     refine ⟨t, Ev.step (fun k => z37.l0.eq_2 ..) (qAa oM_ (qAa oM_ ?_)), htn⟩
     rw [hrd, qAo oM_]
     exact Ev.bind (qAt hv) (qAd oM_ ht)
    ·right
     rw [hdr]
     simp only [total]
     refine ⟨Ev.step (fun k => z37.l0.eq_2 ..) (qAa oM_ (qAa oM_ ?_)), by omega⟩
     rw [hrd, qAo oM_]
     exact Ev.bind (qAt hv) (qAd oM_ (qBa ht oM_))
 have hlen : l.length ≤ 9223372036854775807 := hw.1
 have e : wrap64 (a - (l.length : Int)) = a - l.length := qAq oM_ oM_
 by_cases hneg : a - (l.length : Int) < 0
 ·left
  refine ⟨-1, ?_, by omega⟩
  unfold z37.f
  rw [e]
  exact qAa hneg (Ev.now _)
 ·rcases loop l.length 0 (a - l.length) oM_ oM_ oM_ with ⟨t, ht, htn⟩ | ⟨ht, htb⟩
  ·left
   refine ⟨t, ?_, htn⟩
   unfold z37.f
   rw [e]
   exact qAd hneg ht
  ·right
   refine ⟨?_, by simp only [List.drop_zero] at htb; omega⟩
   unfold z37.f
   rw [e]
   exact qAd hneg ht
theorem qG2 (l : List Int) (hl : l.length ≤ 1048576) : Ev (fun k => z89.f k l) l := by
 have h := qC1 (fun (s : List Int) (i : Nat) k => z89.l0 k l s (i : Int)) (fun i s => s.set i (l.getD i 0)) (fun i s => s = l.take i ++ List.replicate (l.length - i) 0) l.length 0 (List.replicate l.length 0) (by simp) (by
  intro j s _ hj hs
  refine ⟨fun r hr => Ev.step (fun k => z89.l0.eq_2 ..) (qAa oM_ (qAa oM_ (qAa ?_ ?_))), ?_⟩
  ·subst hs; simp only [yg_, List.length_take, List.length_replicate]; omega
  ·rw [qAo oM_, qBc, yd_]; exact hr
  ·subst hs; exact qFb l j 0 oM_ _ rfl)
 unfold z89.f
 refine qAa oM_ (qAa oM_ ?_)
 rw [yd_]
 refine h.1 l (Ev.step (fun k => z89.l0.eq_2 ..) (qAd oM_ (qBa (Ev.now _) ?_)))
 rw [h.2]
 simp
theorem qF8 (l : List (List Int)) (hl : l.length ≤ 1048576) (hr : ∀ x ∈ l, x.length ≤ 1048576) : Ev (fun k => z41.f k l) l := by
 have h := qC1 (fun (s : List (List Int)) (i : Nat) k => z41.l0 k l s (i : Int)) (fun i s => s.set i (l.getD i [])) (fun i s => s = l.take i ++ List.replicate (l.length - i) []) l.length 0 (List.replicate l.length []) (by simp) (by
  intro j s _ hj hs
  have hm : l.getD j [] ∈ l := by
   rw [ya_, yb_ oM_]; exact yp_ _
  have hrd : rI_ l (j : Int) = l.getD j [] := by simp [rI_]
  refine ⟨fun r hr' => Ev.step (fun k => z41.l0.eq_2 ..) (qAa oM_ (qAa oM_ ?_)), ?_⟩
  ·rw [hrd]
   refine Ev.bind (qG2 _ (hr _ hm)) (qAa ?_ ?_)
   ·subst hs; simp only [yg_, List.length_take, List.length_replicate]; omega
   ·rw [qAo oM_, yd_]; exact hr'
  ·subst hs; exact qFb l j [] oM_ _ rfl)
 unfold z41.f
 refine qAa oM_ (qAa oM_ ?_)
 rw [yd_]
 refine h.1 l (Ev.step (fun k => z41.l0.eq_2 ..) (qAd oM_ (qBa (Ev.now _) ?_)))
 rw [h.2]
 simp
theorem qBn {α : Type} [BEq α] [LawfulBEq α] (l m : List α) (z : α) (h : l.length = m.length) : (List.range l.length).all (fun i => l.getD i z == m.getD i z) = (l == m) := by
 rw [Bool.eq_iff_iff, List.all_eq_true, beq_iff_eq]
 constructor
 ·intro e
  apply List.ext_getElem h
  intro i h1 h2
  have := e i (yc_.2 h1)
  simpa [ya_, yb_ h1, yb_ h2] using this
 ·rintro rfl i _
  exact beq_self_eq_true _
theorem qB6 {α : Type} [BEq α] [LawfulBEq α] {l m : List α} (h : l.length ≠ m.length) : (l == m) = false := by
 rw [Bool.eq_false_iff]; intro e; exact h (by rw [eq_of_beq e])
theorem qHg (l m : List Int) (hl : l.length < 9223372036854775807) : Ev (fun k => z47.f k l m) (l == m) := by
 unfold z47.f
 by_cases h : l.length = m.length
 ·refine qAa oM_ ?_
  rw [← qBn l m 0 h]
  refine qEm (fun (i : Nat) k => z47.l0 k l m (i : Int)) _ l.length (fun j hj hp r hr => ?_) (fun j hj hp => ?_) ?_
  ·refine Ev.step (fun k => z47.l0.eq_2 ..) (qAa oM_ (qAa oM_ (qAa oM_ (qAa ?_ ?_))))
   ·rw [qBc, qBc]; exact eq_of_beq hp
   ·rw [qAo oM_]; exact hr
  ·refine Ev.step (fun k => z47.l0.eq_2 ..) (qAa oM_ (qAa oM_ (qAa oM_ (qAd ?_ (Ev.now _)))))
   rw [qBc, qBc]; exact ne_of_beq_false hp
  ·exact Ev.step (fun k => z47.l0.eq_2 ..) (qAd oM_ (Ev.now _))
 ·rw [qB6 h]
  exact qAd oM_ (Ev.now _)
theorem qDv (l m : List (List Int)) (hl : l.length < 9223372036854775807) (hr : ∀ x ∈ l, x.length < 9223372036854775807) : Ev (fun k => z11.f k l m) (l == m) := by
 unfold z11.f
 by_cases h : l.length = m.length
 ·refine qAa oM_ ?_
  rw [← qBn l m [] h]
  have hm : ∀ j, j < l.length → Ev (fun k => z47.f k (rI_ l (j : Int)) (rI_ m (j : Int))) (l.getD j [] == m.getD j []) := fun j hj => by
   have h1 : rI_ l (j : Int) = l.getD j [] := by simp [rI_]
   have h2 : rI_ m (j : Int) = m.getD j [] := by simp [rI_]
   rw [h1, h2]
   refine qHg _ _ (hr _ ?_)
   rw [ya_, yb_ hj]; exact yp_ hj
  refine qEm (fun (i : Nat) k => z11.l0 k l m (i : Int)) _ l.length (fun j hj hp r hr => ?_) (fun j hj hp => ?_) ?_
  ·refine Ev.step (fun k => z11.l0.eq_2 ..) (qAa oM_ (qAa oM_ (qAa oM_ (Ev.bind (hm j hj) (qAa hp ?_)))))
   rw [qAo oM_]; exact hr
  ·exact Ev.step (fun k => z11.l0.eq_2 ..) (qAa oM_ (qAa oM_ (qAa oM_ (Ev.bind (hm j hj) (qAd (by rw [hp]; decide) (Ev.now _))))))
  ·exact Ev.step (fun k => z11.l0.eq_2 ..) (qAd oM_ (Ev.now _))
 ·rw [qB6 h]
  exact qAd oM_ (Ev.now _)
end Go.Proofs.Ytkgajpngeglkmaa.B
set_option linter.unusedVariables false
set_option linter.unusedSimpArgs false
namespace Go.Proofs.Ytkgajpngeglkmaa.B
open Go.RowKit Go.Proofs.YtkgajpngeglkmaaW.PrintWords
theorem qHr (l : List (List Int)) (a : Int) (h0 : 0 ≤ a) (h1 : a + total l ≤ 9223372036854775807) : laws_markInt64SS.f l a = some (a + total l, qA1 l a) := by
 unfold laws_markInt64SS.f
 rw [if_pos ⟨h0, h1⟩]
theorem qDt : ∀ (l : List Int) (a : Int) (i : Nat), i < l.length → (qA2 l a).getD i 0 = a + i
 | [], a, i, h => by simp at h
 | x :: l, a, 0, h => by simp [qA2]
 | x :: l, a, i + 1, h => by
  have := qDt l (a + 1) i (by simpa using h)
  simp only [qA2, List.getD_cons_succ, this]
  omega
theorem qFu (l : List Int) (a : Int) (h0 : 0 ≤ a) (h1 : a + l.length ≤ 9223372036854775807) : Ev (fun k => z49.f k (qA2 l a) a) (a + l.length) := by
 unfold z49.f
 have h := qC3 (r := a + l.length) (fun (i : Nat) k => z49.l0 k (qA2 l a) (a + i) (i : Int)) (fun _ => false) l.length 0 (fun j _ hj _ r hr => by
  refine Ev.step (fun k => z49.l0.eq_2 ..) ?_
  rw [qBc, qDt l a j oM_, qCb, qAo oM_, qAq oM_ oM_, show a + (j : Int) + 1 = a + ((j + 1 : Nat) : Int) by omega]
  (repeat (first | refine qAa oM_ ?_ | refine qAd oM_ ?_))
  exact hr) (fun _ _ _ h => by cases h) (fun _ => by
  refine Ev.step (fun k => z49.l0.eq_2 ..) ?_
  rw [qCb]
  exact qAd oM_ (qBa (Ev.now _) oM_))
 simpa using h
theorem qDs : ∀ (l : List (List Int)) (a : Int) (i : Nat), i < l.length → (qA1 l a).getD i [] = qA2 (l.getD i []) (a + total (l.take i))
 | [], a, i, h => by simp at h
 | x :: l, a, 0, h => by simp [qA1, total]
 | x :: l, a, i + 1, h => by
  have := qDs l (a + x.length) i (by simpa using h)
  simp only [qA1, List.getD_cons_succ, this, List.take_succ_cons, total]
  congr 1
  omega
theorem qDy (l0 : List (List Int)) (k : Nat) (hk : k < l0.length) : total (l0.take (k + 1)) = total (l0.take k) + (l0.getD k []).length := by
 have ht : l0.take (k + 1) = l0.take k ++ [l0.getD k []] := by
  rw [List.take_succ_eq_append_getElem hk, ya_, yb_ hk]; rfl
 rw [ht, qB3]; simp [total]
theorem qEv (l0 : List (List Int)) (k : Nat) : total (l0.take k) ≤ total l0 := by
 have h := qB3 (l0.take k) (l0.drop k)
 rw [List.take_append_drop] at h
 have := qBd (l0.drop k)
 omega
theorem qE3 (l : List (List Int)) (a : Int) (h0 : 0 ≤ a) (h1 : a + total l ≤ 9223372036854775807) (hl : l.length < 9223372036854775807) : Ev (fun k => z15.f k (qA1 l a) a) (a + total l) := by
 unfold z15.f
 have h := qC3 (r := a + total l) (fun (i : Nat) k => z15.l0 k (qA1 l a) (a + total (l.take i)) (i : Int)) (fun _ => false) l.length 0 (fun j _ hj _ r hr => by
  have hrd : rI_ (qA1 l a) (j : Int) = qA2 (l.getD j []) (a + total (l.take j)) := by
   rw [← qDs l a j oM_]; simp [rI_]
  have e1 := qDy l j oM_
  have e2 := qEv l (j + 1)
  have e3 := qBd (l.take j)
  refine Ev.step (fun k => z15.l0.eq_2 ..) ?_
  rw [hrd, qBi, qAo oM_]
  (repeat (first | refine qAa oM_ ?_ | refine qAd oM_ ?_))
  refine Ev.bind (qFu _ _ oM_ oM_) (qAd oM_ ?_)
  rw [show a + total (l.take j) + ((l.getD j []).length : Int) = a + total (l.take (j + 1)) by omega]
  exact hr) (fun _ _ _ h => by cases h) (fun _ => by
  refine Ev.step (fun k => z15.l0.eq_2 ..) ?_
  rw [qBi]
  refine qAd oM_ (qBa (Ev.now _) ?_)
  rw [Nat.zero_add, List.take_length])
 simpa [total] using h
end Go.Proofs.Ytkgajpngeglkmaa.B
set_option linter.unusedVariables false
set_option linter.unusedSimpArgs false
namespace Go.Proofs.Ytkgajpngeglkmaa.B
open Go.RowKit Go.Proofs.YtkgajpngeglkmaaW.PrintWords
theorem qE5 (l : List (List Int)) (hl : l.length < 9223372036854775807) (hr : ∀ x ∈ l, x.length < 9223372036854775807) : Ev (fun k => z11.f k l l) true := qBa (qDv l l hl hr) (beq_self_eq_true l)
end Go.Proofs.Ytkgajpngeglkmaa.B
-- written for this claim by a program (mp.py over the kit's printer)
namespace Go.Proofs.Ytkgajpngeglkmaa.B
open Go.RowKit Go.Proofs.YtkgajpngeglkmaaW.PrintWords Go.Proofs.YtkgajpngeglkmaaW.PrintLast Go.Proofs.YtkgajpngeglkmaaW.PrintMore
attribute [local go_sem] qAh qAf qAn qAm qAc qAb qAg qAe
set_option linter.unusedVariables false
set_option linter.unusedSimpArgs false

def z18.f (k : Nat) (a0_0 : Int) (a0_1 : Int) (l0_2 : List (List Int)) (a1 : Int) : Option (Int) := (z15.f k l0_2 a1).bind fun t102 => (if t102 < 0 then (some (-1)) else (some t102))
theorem z18.calls (k : Nat) (a0_0 : Int) (a0_1 : Int) (A0_2 : Option Addr) (c0_2 : Nat) (l0_2 : List (List Int)) (a1 : Int) (r : Int) (w : World) (hr0_2 : Kd.C (Kd.slice 2 (Kd.int .i64)) w A0_2 l0_2.length l0_2) (hc0_2 : l0_2.length ≤ c0_2) (h : z18.f k a0_0 a0_1 l0_2 a1 = some r) :
  Calls Try.prog 18 #[.agg #[.int .i64 a0_0, .int .i64 a0_1, .slice A0_2 l0_2.length c0_2], .int .i64 a1] w fun e w' => e = .returned (.int .i64 r) ∧ Below w.heap.size w w' := by
 have hu28 := Try.underlying28
 have HR0_2 := Zz.mk hr0_2
 have HC0_2 := Zz.mk hc0_2
 clear hr0_2 hc0_2
 have HB := Zz.mk (Below.refl w.heap.size w)
 have H : ((z15.f k l0_2 a1).bind fun t102 => (if t102 < 0 then (some (-1)) else (some t102))) = some r := h
 clear h
 replace H := OB_ H
 obtain ⟨t102, A30, H⟩ := H
 have A3 := Zz.mk A30
 clear A30
 by_cases c4 : t102 < 0
 ·rw [if_pos c4] at H
  have c4b0 : decide (t102 < 0) = true := decide_eq_true c4
  clear c4
  obtain rfl := OI_ H
  go_enter Try.func18, Try.ntmps18
  go_wp2_with (first | ((with_reducible refine qAi (N := 2) rfl ?_); refine qCc ?hg (N := 2) ?hd (cs := #[.int .i64 a0_0, .int .i64 a0_1, .slice A0_2 l0_2.length c0_2]) (t := 28) ?hr ?_; (case hd => rfl); (case hg => rfl); (case hr => first | (go_simp; done) | (go_simp; rfl)); intro gb101 hg w5 hbox hb; have n0_ := Zz.mk (bT_ (B_ HB.out) hb); have n1_ := Zz.mk (hbox); have n2_ := Zz.mk ((by rw [hg]; exact (bS_ (B_ HB.out)) : w.heap.size ≤ gb101)); have n3_ := Zz.mk ((by rw [hg]; exact (bS_ (B_ HB.out)) : w.heap.size ≤ gb101)); clear HB; have HB := n0_; have BK101 := n1_; have GW101 := n2_; have GE101 := n3_; clear n0_ n1_ n2_ n3_; clear hb hbox hg; have hcz6_0 : w5.cell? ⟨gb101, 0, none⟩ = some (.int .i64 a0_0) := (bC_ BK101.out 0).trans rfl; have hcz6_1 : w5.cell? ⟨gb101, 1, none⟩ = some (.int .i64 a0_1) := (bC_ BK101.out 1).trans rfl; have hcz6_2 : w5.cell? ⟨gb101, 2, none⟩ = some (.slice A0_2 l0_2.length c0_2) := (bC_ BK101.out 2).trans rfl; have hfz6_0 := bF_ BK101.out 0; have hfz6_1 := bF_ BK101.out 1; have hfz6_2 := bF_ BK101.out 2) | ((with_reducible refine gC_ (f := 15) rfl ?_); refine GL_ (some 8) rfl rfl Try.func15 #[.slice A0_2 l0_2.length c0_2, .int .i64 a1] rfl (h := ?_); (with_reducible refine (z15.calls k _ _ l0_2 a1 t102 _ ?side1 ?side2 A3.out).mono ?_); (case side1 => exact KC_ (Kd.C_below HR0_2.out HB.out)); (case side2 => exact HC0_2.out); rintro e w' ⟨rfl, ⟨nd, rfl⟩⟩; refine ⟨_, rfl, ?_⟩))
  go_ret
  exact ⟨F_, B1_ HB.out GE101.out⟩
 ·rw [if_neg c4] at H
  have c4b0 : decide (t102 < 0) = false := decide_eq_false c4
  clear c4
  obtain rfl := OI_ H
  go_enter Try.func18, Try.ntmps18
  go_wp2_with (first | ((with_reducible refine qAi (N := 2) rfl ?_); refine qCc ?hg (N := 2) ?hd (cs := #[.int .i64 a0_0, .int .i64 a0_1, .slice A0_2 l0_2.length c0_2]) (t := 28) ?hr ?_; (case hd => rfl); (case hg => rfl); (case hr => first | (go_simp; done) | (go_simp; rfl)); intro gb101 hg w7 hbox hb; have n0_ := Zz.mk (bT_ (B_ HB.out) hb); have n1_ := Zz.mk (hbox); have n2_ := Zz.mk ((by rw [hg]; exact (bS_ (B_ HB.out)) : w.heap.size ≤ gb101)); have n3_ := Zz.mk ((by rw [hg]; exact (bS_ (B_ HB.out)) : w.heap.size ≤ gb101)); clear HB; have HB := n0_; have BK101 := n1_; have GW101 := n2_; have GE101 := n3_; clear n0_ n1_ n2_ n3_; clear hb hbox hg; have hcz8_0 : w7.cell? ⟨gb101, 0, none⟩ = some (.int .i64 a0_0) := (bC_ BK101.out 0).trans rfl; have hcz8_1 : w7.cell? ⟨gb101, 1, none⟩ = some (.int .i64 a0_1) := (bC_ BK101.out 1).trans rfl; have hcz8_2 : w7.cell? ⟨gb101, 2, none⟩ = some (.slice A0_2 l0_2.length c0_2) := (bC_ BK101.out 2).trans rfl; have hfz8_0 := bF_ BK101.out 0; have hfz8_1 := bF_ BK101.out 1; have hfz8_2 := bF_ BK101.out 2) | ((with_reducible refine gC_ (f := 15) rfl ?_); refine GL_ (some 8) rfl rfl Try.func15 #[.slice A0_2 l0_2.length c0_2, .int .i64 a1] rfl (h := ?_); (with_reducible refine (z15.calls k _ _ l0_2 a1 t102 _ ?side1 ?side2 A3.out).mono ?_); (case side1 => exact KC_ (Kd.C_below HR0_2.out HB.out)); (case side2 => exact HC0_2.out); rintro e w' ⟨rfl, ⟨nd, rfl⟩⟩; refine ⟨_, rfl, ?_⟩))
  go_ret
  exact ⟨F_, B1_ HB.out GE101.out⟩

end Go.Proofs.Ytkgajpngeglkmaa.B

set_option linter.unusedVariables false
set_option linter.unusedSimpArgs false
namespace Go.Proofs.Ytkgajpngeglkmaa.B
open Go.RowKit Go.Proofs.YtkgajpngeglkmaaW.PrintWords
theorem qCp : ∀ (l : List (List Int)) (x : List Int), x ∈ l → x.length ≤ total l
 | y :: l, x, h => by
  have := qBd l
  simp only [total]
  rcases List.mem_cons.1 h with rfl | h
  ·omega
  ·have := qCp l x h; omega
theorem qG1 {l : List (List Int)} {m : Nat} (h : ∀ x ∈ l, x.length ≤ m) : total l ≤ l.length * m := by
 induction l with
 | nil => simp [total]
 | cons x l ih =>
  have h1 := h x List.mem_cons_self
  have h2 := ih (fun y hy => h y (List.mem_cons_of_mem _ hy))
  simp only [total, List.length_cons]
  rw [Int.natCast_add, Int.add_mul]
  omega
theorem qDu (a b : Int) (l : List (List Int)) (hl : l.length < 9223372036854775807) (hr : ∀ x ∈ l, x.length < 9223372036854775807) : Ev (fun k => z12.f k a b l a b l) true := by
 unfold z12.f
 exact qAa rfl (qAa rfl (Ev.bind (qBa (qDv l l hl hr) (beq_self_eq_true l)) (qAa rfl (Ev.now _))))
theorem qE9 (a b : Int) (l : List (List Int)) (hl : l.length ≤ 1048576) (hr : ∀ x ∈ l, x.length ≤ 1048576) : Ev (fun k => z9.f k a b l) (a, b, l) := by
 unfold z9.f
 exact Ev.bind (qF8 l hl hr) (Ev.now _)
theorem qFa (p n : Int) (l : List (List Int)) (b : Int) (hw : WfLL l) (h0 : 0 ≤ b) (h1 : b ≤ 9223372036854775807) :
  (∃ t, Ev (fun k => z7.f k p n l b) t ∧ t < 0) ∨ (Ev (fun k => z7.f k p n l b) (b - l.length - total l) ∧ l.length + total l ≤ b) := by
 unfold z7.f
 rcases qGa l b hw h0 h1 with ⟨t, ht, hn⟩ | ⟨ht, hb⟩
 ·exact .inl ⟨-1, Ev.bind ht (qAa hn (Ev.now _)), by omega⟩
 ·exact .inr ⟨Ev.bind ht (qAd oM_ (Ev.now _)), hb⟩
theorem qDf (p n : Int) (l : List (List Int)) (a : Int) (h0 : 0 ≤ a) (h1 : a + total l ≤ 9223372036854775807) : laws_markSpace.f p n l a = some (a + total l, qA1 l a) := qHr l a h0 h1
end Go.Proofs.Ytkgajpngeglkmaa.B
set_option linter.unusedVariables false
set_option linter.unusedSimpArgs false
namespace Go.Proofs.Ytkgajpngeglkmaa.B
open Go.RowKit Go.Proofs.YtkgajpngeglkmaaW.PrintWords
end Go.Proofs.Ytkgajpngeglkmaa.B
set_option linter.unusedVariables false
set_option linter.unusedSimpArgs false
namespace Go.Proofs.Ytkgajpngeglkmaa.B
open Go.RowKit Go.Proofs.YtkgajpngeglkmaaW.PrintWords
theorem qGp {α β : Type} (L : List α → Nat → Nat → Option β) (g : Nat → α) : ∀ (n : Nat), (∀ j s, j < n → s = (List.range j).map g → Le (L (s ++ [g j]) (j + 1)) (L s j)) → Le (L ((List.range n).map g) n) (L [] 0)
 | 0, _ => Le.refl _
 | n + 1, h => by
  have ih := qGp L g n (fun j s hj => h j s oM_)
  refine Le.trans ?_ ih
  rw [List.range_succ, List.map_append]
  exact h n _ oM_ rfl
theorem qHe (L : Nat → Nat → Option Bool) (p : Nat → Bool) (b : Bool) : ∀ (n : Nat), (∀ j, j < n → (∀ m, m < j → p m = true) → p j = true → Le (L (j + 1)) (L j)) → (∀ j, j < n → (∀ m, m < j → p m = true) → p j = false → Ev (L j) false) → ((∀ m, m < n → p m = true) → Ev (L n) b) → Ev (L 0) ((List.range n).all p && b) := by
 intro n h1 h0 he
 have main : ∀ (d i : Nat), i + d = n → (∀ m, m < i → p m = true) → Ev (L i) ((List.range n).all p && b) := by
  intro d
  induction d with
  | zero =>
   intro i hi hall
   have : i = n := by omega
   subst this
   have e : (List.range i).all p = true := List.all_eq_true.2 (fun j hj => hall j (yc_.1 hj))
   rw [e, Bool.true_and]; exact he hall
  | succ d ih =>
   intro i hi hall
   cases hp : p i with
   | true =>
    refine h1 i oM_ hall hp _ (ih (i + 1) oM_ (fun m hm => ?_))
    rcases Nat.lt_or_ge m i with hl | hg
    ·exact hall m hl
    ·have : m = i := by omega
     subst this; exact hp
   | false =>
    have e : (List.range n).all p = false := by
     rw [Bool.eq_false_iff]
     intro h
     have := List.all_eq_true.1 h i (yc_.2 oM_)
     rw [hp] at this; cases this
    rw [e, Bool.false_and]
    exact h0 i oM_ hall hp
 exact main n 0 oM_ (fun m hm => by omega)
theorem qGn {α β : Type} (z : α) (g : α → β) (l : List α) : l.map g = (List.range l.length).map fun j => g (l.getD j z) := by
 apply List.ext_getElem
 ·simp
 ·intro n h1 h2
  simp only [List.getElem_map, List.getElem_range, ya_]
  have : n < l.length := by simpa using h1
  simp [yb_ this]
end Go.Proofs.Ytkgajpngeglkmaa.B
set_option linter.unusedVariables false
set_option linter.unusedSimpArgs false
namespace Go.Proofs.Ytkgajpngeglkmaa.B
open Go.RowKit Go.Proofs.YtkgajpngeglkmaaW.PrintWords
theorem qDh (a b c : Int) : z111.f a b c = some (decide (b ≤ a) && decide (a ≤ c)) := by
 unfold z111.f
 by_cases h : a ≥ b
 ·rw [if_pos h]; simp [h]
 ·rw [if_neg h]; simp; omega
theorem qHu (a b c : Int) : z65.f a b c = some (decide (b ≤ a) && decide (a ≤ c)) := by
 unfold z65.f
 by_cases h : a ≥ b
 ·rw [if_pos h]; simp [h]
 ·rw [if_neg h]; simp; omega
theorem qAz {α : Type} {l : List α} {i : Nat} (z : α) (h : i < l.length) : l.getD i z ∈ l := by
 rw [ya_, yb_ h]; exact yp_ h
theorem qAx (l : List (List Int)) (i : Nat) : rI_ l (i : Int) = l.getD i [] := by simp [rI_]
end Go.Proofs.Ytkgajpngeglkmaa.B
set_option linter.unusedVariables false
set_option linter.unusedSimpArgs false
namespace Go.Proofs.Ytkgajpngeglkmaa.B.LinT
abbrev Vec := Nat → Int
theorem qA3 {p a : Int} (c : Int) (h : p ∣ a) : p ∣ c * a := Int.dvd_trans h (Int.dvd_mul_left c a)
def Zr (p : Int) (n : Nat) (v : Vec) : Prop := ∀ i, i < n → p ∣ v i
structure Sub (p : Int) (n : Nat) (S : Vec → Prop) : Prop where
 zero : ∀ v, Zr p n v → S v
 add : ∀ v w, S v → S w → S (fun i => v i + w i)
 smul : ∀ (c : Int) v, S v → S (fun i => c * v i)
theorem Sub.congr {p : Int} {n : Nat} {S : Vec → Prop} (h : Sub p n S) {v w : Vec} (hv : S v) (e : ∀ i, i < n → p ∣ w i - v i) : S w := by
 have := h.add v (fun i => w i - v i) hv (h.zero _ e)
 have e2 : (fun i => v i + (w i - v i)) = w := by funext i; omega
 rwa [e2] at this
theorem Sub.sub {p : Int} {n : Nat} {S : Vec → Prop} (h : Sub p n S) {v w : Vec} (hv : S v) (hw : S w) : S (fun i => v i - w i) := by
 have := h.add v _ hv (h.smul (-1) w hw)
 have e2 : (fun i => v i + -1 * w i) = fun i => v i - w i := by funext i; omega
 rwa [e2] at this
def Ld (p : Int) (n : Nat) (v : Vec) (i : Nat) : Prop := i < n ∧ ¬ p ∣ v i ∧ ∀ j, j < i → p ∣ v j
theorem qKd {q : Nat → Prop} (h : ∃ j, q j) : ∃ j, q j ∧ ∀ m, m < j → ¬ q m := by
 obtain ⟨j, hj⟩ := h
 induction j using Nat.strongRecOn with
 | _ j ih =>
  by_cases hm : ∃ m, m < j ∧ q m
  ·obtain ⟨m, h1, h2⟩ := hm
   exact ih m h1 h2
  ·exact ⟨j, hj, fun m h1 h2 => hm ⟨m, h1, h2⟩⟩
theorem ld_of {p : Int} {n : Nat} {v : Vec} (h : ¬ Zr p n v) : ∃ i, Ld p n v i := by
 have : ∃ i, i < n ∧ ¬ p ∣ v i := by
  refine Classical.byContradiction fun hc => h fun i hi => Classical.byContradiction fun hd => hc ⟨i, hi, hd⟩
 obtain ⟨i, ⟨h1, h2⟩, h3⟩ := qKd this
 exact ⟨i, h1, h2, fun j hj => Classical.byContradiction fun hd => h3 j hj ⟨by omega, hd⟩⟩
theorem ld_nz {p : Int} {n : Nat} {v : Vec} {i : Nat} (h : Ld p n v i) : ¬ Zr p n v := fun hz => h.2.1 (hz i h.1)
def Pl (p : Int) (n : Nat) (S : Vec → Prop) (i : Nat) : Prop := ∃ v, S v ∧ Ld p n v i
open Classical in
noncomputable def cnt (Q : Nat → Prop) : Nat → Nat
 | 0 => 0
 | n + 1 => cnt Q n + (if Q n then 1 else 0)
theorem qKi (Q : Nat → Prop) : ∀ n, cnt Q n ≤ n
 | 0 => Nat.le_refl _
 | n + 1 => by have := qKi Q n; simp only [cnt]; split <;> omega
theorem qD2 {Q R : Nat → Prop} : ∀ n, (∀ i, i < n → Q i → R i) → cnt Q n ≤ cnt R n
 | 0, _ => Nat.le_refl _
 | n + 1, h => by
  have ih := qD2 n (fun i hi => h i oM_)
  have hn := h n oM_
  simp only [cnt]
  by_cases hq : Q n
  ·rw [if_pos hq, if_pos (hn hq)]; omega
  ·rw [if_neg hq]; split <;> omega
theorem qGt {Q R : Nat → Prop} (n : Nat) (h : ∀ i, i < n → (Q i ↔ R i)) : cnt Q n = cnt R n :=
 Nat.le_antisymm (qD2 n fun i hi => (h i hi).1) (qD2 n fun i hi => (h i hi).2)
theorem qDl {Q R : Nat → Prop} (i0 : Nat) : ∀ n, i0 < n → ¬ Q i0 → (∀ i, i < n → (R i ↔ Q i ∨ i = i0)) → cnt R n = cnt Q n + 1
 | 0, h, _, _ => by omega
 | n + 1, h, hq, he => by
  simp only [cnt]
  rcases Nat.lt_or_ge i0 n with hl | hg
  ·rw [qDl i0 n hl hq (fun i hi => he i oM_)]
   have e := he n oM_
   have e2 : R n ↔ Q n := by
    rw [e]
    constructor
    ·rintro (h | h)
     ·exact h
     ·omega
    ·exact Or.inl
   by_cases hqn : Q n
   ·rw [if_pos hqn, if_pos (e2.2 hqn)]
   ·rw [if_neg hqn, if_neg (fun h => hqn (e2.1 h))]
  ·have : i0 = n := by omega
   subst this
   rw [if_neg hq, if_pos ((he i0 oM_).2 (.inr rfl)), qGt (Q := R) (R := Q) i0 (fun i hi => by
    rw [he i oM_]; constructor
    ·rintro (h | h)
     ·exact h
     ·omega
    ·exact Or.inl)]
theorem qFy (Q : Nat → Prop) : ∀ n, (∀ i, i < n → ¬ Q i) → cnt Q n = 0
 | 0, _ => rfl
 | n + 1, h => by simp only [cnt]; rw [qFy Q n (fun i hi => h i oM_), if_neg (h n oM_)]
noncomputable def dim (p : Int) (n : Nat) (S : Vec → Prop) : Nat := cnt (Pl p n S) n
theorem qKg (p : Int) (n : Nat) (S : Vec → Prop) : dim p n S ≤ n := qKi _ _
theorem qHw {p : Int} {n : Nat} {S T : Vec → Prop} (h : ∀ v, S v → T v) : dim p n S ≤ dim p n T :=
 qD2 n fun i _ ⟨v, h1, h2⟩ => ⟨v, h v h1, h2⟩
theorem qB4 {p : Int} {n : Nat} {S T : Vec → Prop} (h : ∀ v, S v ↔ T v) : dim p n S = dim p n T :=
 Nat.le_antisymm (qHw fun v => (h v).1) (qHw fun v => (h v).2)
def Pr (p : Int) : Prop := (¬ p ∣ 1) ∧ ∀ a, ¬ p ∣ a → ∃ b, p ∣ a * b - 1
theorem qG9 {p a b : Int} (hp : Pr p) (h : ¬ p ∣ a) (h' : ¬ p ∣ b) : ¬ p ∣ a * b := fun hd => by
 obtain ⟨c, hc⟩ := hp.2 a h
 apply h'
 obtain ⟨k, hk⟩ := hd
 obtain ⟨m, hm⟩ := hc
 exact ⟨c * k - m * b, by grind⟩
theorem qIq {p : Int} {n : Nat} {S : Vec → Prop} (hp : Pr p) (hS : Sub p n S) (v : Vec) : ∃ s, S s ∧ (Zr p n (fun i => v i - s i) ∨ ∃ i, Ld p n (fun i => v i - s i) i ∧ ¬ Pl p n S i) := by
 have main : ∀ (d : Nat) (v : Vec), (∀ j, j + d < n → p ∣ v j) → ∃ s, S s ∧ (Zr p n (fun i => v i - s i) ∨ ∃ i, Ld p n (fun i => v i - s i) i ∧ ¬ Pl p n S i) := by
  intro d
  induction d with
  | zero =>
   intro v hv
   refine ⟨fun _ => 0, hS.zero _ (fun i _ => yn_ p), .inl fun i hi => ?_⟩
   simpa using hv i oM_
  | succ d ih =>
   intro v hv
   by_cases hz : Zr p n v
   ·refine ⟨fun _ => 0, hS.zero _ (fun i _ => yn_ p), .inl fun i hi => ?_⟩
    simpa using hz i hi
   ·obtain ⟨i, hi⟩ := ld_of hz
    by_cases hP : Pl p n S i
    ·obtain ⟨s, hs, hl⟩ := hP
     obtain ⟨b, hb⟩ := hp.2 _ hl.2.1
     obtain ⟨t, ht, h⟩ := ih (fun j => v j - (v i * b) * s j) (fun j hj => by
      rcases Nat.lt_trichotomy j i with h1 | h1 | h1
      ·exact Int.dvd_sub (hi.2.2 j h1) (qA3 _ (hl.2.2 j h1))
      ·subst h1
       obtain ⟨k, hk⟩ := hb
       exact ⟨-(v j * k), by grind⟩
      ·have : i < n := hi.1
       exact absurd (hv i oM_) hi.2.1)
     refine ⟨fun j => (v i * b) * s j + t j, hS.add _ _ (hS.smul _ _ hs) ht, ?_⟩
     have e : (fun j => v j - ((v i * b) * s j + t j)) = fun j => v j - (v i * b) * s j - t j := by funext j; omega
     rw [e]; exact h
    ·refine ⟨fun _ => 0, hS.zero _ (fun i _ => yn_ p), .inr ⟨i, ?_, hP⟩⟩
     simpa using hi
 exact main n v (fun j hj => by omega)
def Ins (p : Int) (n : Nat) (S : Vec → Prop) (x v : Vec) : Prop := ∃ (c : Int) (s : Vec), S s ∧ ∀ i, i < n → p ∣ v i - (c * x i + s i)
theorem Ins.isSub {p : Int} {n : Nat} {S : Vec → Prop} (hS : Sub p n S) (x : Vec) : Sub p n (Ins p n S x) where
 zero v hv := ⟨0, fun _ => 0, hS.zero _ (fun i _ => yn_ p), fun i hi => by simpa using hv i hi⟩
 add := by
  rintro v w ⟨c, s, hs, h⟩ ⟨c', s', hs', h'⟩
  refine ⟨c + c', _, hS.add _ _ hs hs', fun i hi => ?_⟩
  have := yq_ (h i hi) (h' i hi)
  have e : v i + w i - ((c + c') * x i + (s i + s' i)) = (v i - (c * x i + s i)) + (w i - (c' * x i + s' i)) := by grind
  rw [e]; exact this
 smul := by
  rintro d v ⟨c, s, hs, h⟩
  refine ⟨d * c, _, hS.smul d _ hs, fun i hi => ?_⟩
  have := qA3 d (h i hi)
  have e : d * v i - (d * c * x i + d * s i) = d * (v i - (c * x i + s i)) := by grind
  rw [e]; exact this
theorem Ins.old {p : Int} {n : Nat} {S : Vec → Prop} {x v : Vec} (h : S v) : Ins p n S x v := ⟨0, v, h, fun i _ => by simp⟩
theorem Ins.new {p : Int} {n : Nat} {S : Vec → Prop} (hS : Sub p n S) {x : Vec} : Ins p n S x x := ⟨1, fun _ => 0, hS.zero _ (fun i _ => yn_ p), fun i _ => by simp⟩
theorem Ins.least {p : Int} {n : Nat} {S T : Vec → Prop} (hT : Sub p n T) {x v : Vec} (h : ∀ v, S v → T v) (hx : T x) (hv : Ins p n S x v) : T v := by
 obtain ⟨c, s, hs, he⟩ := hv
 exact hT.congr (hT.add _ _ (hT.smul c _ hx) (h s hs)) he
theorem qHh {p : Int} {n : Nat} {S : Vec → Prop} (hp : Pr p) (hS : Sub p n S) {x : Vec} (hx : ¬ S x) : dim p n (Ins p n S x) = dim p n S + 1 := by
 obtain ⟨s, hs, hz | ⟨i0, hi, hP⟩⟩ := qIq hp hS x
 ·exact absurd (hS.congr hs hz) hx
 refine qDl i0 n hi.1 hP (fun i hin => ⟨?_, ?_⟩)
 ·rintro ⟨v, ⟨c, t, ht, he⟩, hl⟩
  by_cases hc : p ∣ c
  ·left
   refine ⟨v, hS.congr ht (fun j hj => ?_), hl⟩
   have := yq_ (he j hj) (Int.dvd_mul_of_dvd_left (c := x j) hc)
   have e : v j - t j = v j - (c * x j + t j) + c * x j := by omega
   rw [e]; exact this
  ·-- v = c (x - s) + (c s + t)
   have hu : S (fun j => c * s j + t j) := hS.add _ _ (hS.smul c _ hs) ht
   have hv : ∀ j, j < n → p ∣ v j - (c * (x j - s j) + (c * s j + t j)) := fun j hj => by
    have e : v j - (c * (x j - s j) + (c * s j + t j)) = v j - (c * x j + t j) := by grind
    rw [e]; exact he j hj
   generalize hdef : (fun j => c * s j + t j) = u at hu
   have hv : ∀ j, j < n → p ∣ v j - (c * (x j - s j) + u j) := fun j hj => by rw [← hdef]; exact hv j hj
   rcases Nat.lt_trichotomy i i0 with h1 | h1 | h1
   ·left
    refine ⟨u, hu, hin, fun hd => hl.2.1 ?_, fun j hj => ?_⟩
    ·have h2 := hi.2.2 i h1
     have := yq_ (hv i hin) (yq_ (qA3 c h2) hd)
     have e : v i = v i - (c * (x i - s i) + u i) + (c * (x i - s i) + u i) := by omega
     rw [e]; exact this
    ·have h2 := hi.2.2 j oM_
     have h3 := hl.2.2 j hj
     have := Int.dvd_sub h3 (yq_ (hv j oM_) (qA3 c h2))
     have e : u j = v j - (v j - (c * (x j - s j) + u j) + c * (x j - s j)) := by omega
     rw [e]; exact this
   ·exact .inr h1
   ·exfalso
    -- u has the lead i0
    refine hP ⟨u, hu, hi.1, fun hd => ?_, fun j hj => ?_⟩
    ·have h3 := hl.2.2 i0 h1
     have h4 : p ∣ c * (x i0 - s i0) := by
      have := Int.dvd_sub h3 (yq_ (hv i0 hi.1) hd)
      have e : c * (x i0 - s i0) = v i0 - (v i0 - (c * (x i0 - s i0) + u i0) + u i0) := by omega
      rw [e]; exact this
     exact qG9 hp hc hi.2.1 h4
    ·have h2 := hi.2.2 j hj
     have h3 := hl.2.2 j oM_
     have := Int.dvd_sub h3 (yq_ (hv j (by have := hi.1; omega)) (qA3 c h2))
     have e : u j = v j - (v j - (c * (x j - s j) + u j) + c * (x j - s j)) := by omega
     rw [e]; exact this
 ·rintro (⟨v, hv, hl⟩ | rfl)
  ·exact ⟨v, Ins.old hv, hl⟩
  ·exact ⟨_, (Ins.isSub hS x).sub (Ins.new hS) (Ins.old hs), hi⟩
def Span (p : Int) (n : Nat) : List Vec → Vec → Prop
 | [] => Zr p n
 | x :: L => Ins p n (Span p n L) x
theorem zr_sub (p : Int) (n : Nat) : Sub p n (Zr p n) where
 zero _ h := h
 add _ _ h h' i hi := yq_ (h i hi) (h' i hi)
 smul c _ h i hi := qA3 c (h i hi)
theorem qA6 (p : Int) (n : Nat) : ∀ L, Sub p n (Span p n L)
 | [] => zr_sub p n
 | x :: L => Ins.isSub (qA6 p n L) x
theorem qA7 {p : Int} {n : Nat} : ∀ {L : List Vec} {x : Vec}, x ∈ L → Span p n L x
 | y :: L, x, h => by
  rcases List.mem_cons.1 h with rfl | h
  ·exact Ins.new (qA6 p n L)
  ·exact Ins.old (qA7 h)
theorem qCv {p : Int} {n : Nat} {T : Vec → Prop} (hT : Sub p n T) : ∀ {L : List Vec} {v : Vec}, (∀ x, x ∈ L → T x) → Span p n L v → T v
 | [], v, _, hv => hT.zero v hv
 | y :: L, v, h, hv => Ins.least hT (fun v hv => qCv hT (fun x hx => h x (List.mem_cons_of_mem _ hx)) hv) (h y List.mem_cons_self) hv
theorem qBu {p : Int} {n : Nat} {L M : List Vec} (h : ∀ x, x ∈ L → Span p n M x) {v : Vec} (hv : Span p n L v) : Span p n M v := qCv (qA6 p n M) h hv
theorem qJ2 (p : Int) (n : Nat) : dim p n (Zr p n) = 0 := qFy _ n (fun i _ ⟨_, h1, h2⟩ => ld_nz h2 h1)
theorem qI3 {p : Int} {n : Nat} {S : Vec → Prop} (hS : Sub p n S) {x : Vec} (hx : S x) (v : Vec) : Ins p n S x v ↔ S v :=
 ⟨fun h => Ins.least hS (fun _ h => h) hx h, Ins.old⟩
theorem qEo {p : Int} {n : Nat} (hp : Pr p) : ∀ (L : List Vec), dim p n (Span p n L) ≤ L.length
 | [] => by rw [show Span p n [] = Zr p n from rfl, qJ2]; exact Nat.le_refl _
 | x :: L => by
  have ih := qEo (n := n) hp L
  simp only [Span, List.length_cons]
  by_cases hx : Span p n L x
  ·rw [qB4 (qI3 (qA6 p n L) hx)]; omega
  ·rw [qHh hp (qA6 p n L) hx]; omega
structure Lmap (p : Int) (a b : Nat) (f : Vec → Vec) : Prop where
 zr : ∀ v, Zr p a v → Zr p b (f v)
 add : ∀ v w j, j < b → p ∣ f (fun i => v i + w i) j - (f v j + f w j)
 smul : ∀ (c : Int) v j, j < b → p ∣ f (fun i => c * v i) j - c * f v j
theorem Lmap.sub {p : Int} {a b : Nat} {f : Vec → Vec} (hf : Lmap p a b f) (v w : Vec) (j : Nat) (hj : j < b) : p ∣ f (fun i => v i - w i) j - (f v j - f w j) := by
 have h1 := hf.add v (fun i => -1 * w i) j hj
 have h2 := hf.smul (-1) w j hj
 have e : (fun i => v i + -1 * w i) = fun i => v i - w i := by funext i; omega
 simp only [e] at h1
 have := yq_ h1 h2
 have e2 : f (fun i => v i - w i) j - (f v j - f w j) = f (fun i => v i - w i) j - (f v j + f (fun i => -1 * w i) j) + (f (fun i => -1 * w i) j - -1 * f w j) := by omega
 rw [e2]; exact this
def sm (f : Nat → Int) : Nat → Int
 | 0 => 0
 | n + 1 => sm f n + f n
theorem qDz {f g : Nat → Int} : ∀ n, (∀ i, i < n → f i = g i) → sm f n = sm g n
 | 0, _ => rfl
 | n + 1, h => by simp only [sm]; rw [qDz n (fun i hi => h i oM_), h n oM_]
theorem qIn (f g : Nat → Int) : ∀ n, sm (fun i => f i + g i) n = sm f n + sm g n
 | 0 => rfl
 | n + 1 => by simp only [sm]; rw [qIn f g n]; omega
theorem qIm (c : Int) (f : Nat → Int) : ∀ n, sm (fun i => c * f i) n = c * sm f n
 | 0 => by simp [sm]
 | n + 1 => by simp only [sm]; rw [qIm c f n, Int.mul_add]
theorem qGd {p : Int} {f : Nat → Int} : ∀ n, (∀ i, i < n → p ∣ f i) → p ∣ sm f n
 | 0, _ => yn_ p
 | n + 1, h => yq_ (qGd n fun i hi => h i oM_) (h n oM_)
theorem sm_sub (f g : Nat → Int) (n : Nat) : sm (fun i => f i - g i) n = sm f n - sm g n := by
 have h := qIn f (fun i => -1 * g i) n
 rw [qIm] at h
 rw [show (fun i => f i - g i) = fun i => f i + -1 * g i by funext i; omega, h]; omega
theorem qIl : ∀ n, sm (fun _ => 0) n = 0
 | 0 => rfl
 | n + 1 => by simp only [sm]; rw [qIl n]; rfl
theorem qEa {f : Nat → Int} {p : Int} (i0 : Nat) : ∀ n, i0 < n → (∀ i, i < n → i ≠ i0 → p ∣ f i) → p ∣ sm f n - f i0
 | 0, h, _ => by omega
 | n + 1, h, hz => by
  simp only [sm]
  rcases Nat.lt_or_ge i0 n with hl | hg
  ·have := yq_ (qEa i0 n hl (fun i hi => hz i oM_)) (hz n oM_ oM_)
   rwa [show sm f n - f i0 + f n = sm f n + f n - f i0 by omega] at this
  ·have : i0 = n := by omega
   subst this
   have := qGd (p := p) (f := f) i0 (fun i hi => hz i oM_ oM_)
   rwa [show sm f i0 + f i0 - f i0 = sm f i0 by omega]
structure Rref (p : Int) (n r : Nat) (R : Nat → Vec) (q : Nat → Nat) : Prop where
 lt : ∀ i, i < r → q i < n
 mono : ∀ i j, i < j → j < r → q i < q j
 one : ∀ i, i < r → p ∣ R i (q i) - 1
 off : ∀ i j, i < r → j < r → i ≠ j → p ∣ R i (q j)
 pre : ∀ i c, i < r → c < q i → p ∣ R i c
def rows (R : Nat → Vec) (r : Nat) : List Vec := (List.range r).map R
theorem qBm {R : Nat → Vec} {r i : Nat} (h : i < r) : R i ∈ rows R r := List.mem_map_of_mem (yc_.2 h)
theorem qCl {R : Nat → Vec} {r : Nat} {x : Vec} (h : x ∈ rows R r) : ∃ i, i < r ∧ R i = x := by
 obtain ⟨i, hi, he⟩ := List.mem_map.1 h
 exact ⟨i, yc_.1 hi, he⟩
def comb (R : Nat → Vec) (r : Nat) (c : Nat → Int) : Vec := fun j => sm (fun i => c i * R i j) r
theorem qGs {p : Int} {n : Nat} {S : Vec → Prop} (hS : Sub p n S) (R : Nat → Vec) (c : Nat → Int) : ∀ r, (∀ i, i < r → S (R i)) → S (comb R r c)
 | 0, _ => hS.zero _ (fun _ _ => yn_ p)
 | r + 1, h => hS.add _ _ (qGs hS R c r (fun i hi => h i oM_)) (hS.smul (c r) _ (h r oM_))
theorem qGc {p : Int} {n : Nat} (R : Nat → Vec) (r : Nat) (v : Vec) : Span p n (rows R r) v ↔ ∃ c, ∀ j, j < n → p ∣ v j - comb R r c j := by
 constructor
 ·refine qCv (T := fun v => ∃ c, ∀ j, j < n → p ∣ v j - comb R r c j) ⟨?_, ?_, ?_⟩ (fun x hx => ?_)
  ·intro v hv
   refine ⟨fun _ => 0, fun j hj => ?_⟩
   have e : comb R r (fun _ => 0) j = 0 := by
    unfold comb; rw [qDz (g := fun _ => 0) r (fun i _ => Int.zero_mul _), qIl]
   rw [e, Int.sub_zero]; exact hv j hj
  ·rintro v w ⟨c, hc⟩ ⟨d, hd⟩
   refine ⟨fun i => c i + d i, fun j hj => ?_⟩
   have e : comb R r (fun i => c i + d i) j = comb R r c j + comb R r d j := by
    unfold comb; rw [← qIn]; exact qDz r fun i _ => Int.add_mul _ _ _
   have := yq_ (hc j hj) (hd j hj)
   rwa [show v j - comb R r c j + (w j - comb R r d j) = v j + w j - (comb R r c j + comb R r d j) by omega, ← e] at this
  ·rintro a v ⟨c, hc⟩
   refine ⟨fun i => a * c i, fun j hj => ?_⟩
   have e : comb R r (fun i => a * c i) j = a * comb R r c j := by
    unfold comb; rw [← qIm]; exact qDz r fun i _ => Int.mul_assoc _ _ _
   have := qA3 a (hc j hj)
   rwa [Int.mul_sub, ← e] at this
  ·obtain ⟨i0, hi0, rfl⟩ := qCl hx
   refine ⟨fun i => if i = i0 then 1 else 0, fun j hj => ?_⟩
   have := qEa (p := p) (f := fun i => (if i = i0 then 1 else 0) * R i j) i0 r hi0 (fun i _ hne => by simp [hne])
   simp only [if_pos, Int.one_mul] at this
   have := Int.dvd_neg.2 this
   rwa [Int.neg_sub] at this
 ·rintro ⟨c, hc⟩
  exact (qA6 p n _).congr (qGs (qA6 p n _) R c r (fun i hi => qA7 (qBm hi))) hc
theorem Rref.coef {p : Int} {n r : Nat} {R : Nat → Vec} {q : Nat → Nat} (h : Rref p n r R q) {v : Vec} (hv : Span p n (rows R r) v) (j : Nat) (hj : j < n) : p ∣ v j - comb R r (fun i => v (q i)) j := by
 obtain ⟨c, hc⟩ := (qGc R r v).1 hv
 have e : ∀ i, i < r → p ∣ v (q i) - c i := fun i hi => by
  have h1 := hc (q i) (h.lt i hi)
  have h2 := qEa (p := p) (f := fun k => c k * R k (q i)) i r hi (fun k hk hne => qA3 _ (h.off k i hk hi hne))
  have h3 := qA3 (c i) (h.one i hi)
  have := yq_ h1 (yq_ h2 h3)
  have e : v (q i) - comb R r c (q i) + (sm (fun k => c k * R k (q i)) r - c i * R i (q i) + c i * (R i (q i) - 1)) = v (q i) - c i := by
   unfold comb; grind
  rwa [e] at this
 have h4 : p ∣ comb R r c j - comb R r (fun i => v (q i)) j := by
  unfold comb
  rw [← sm_sub]
  refine qGd r fun i hi => ?_
  have := qA3 (R i j) (e i hi)
  have := Int.dvd_neg.2 this
  have e2 : -(R i j * (v (q i) - c i)) = c i * R i j - v (q i) * R i j := by grind
  rwa [e2] at this
 have := yq_ (hc j hj) h4
 rwa [show v j - comb R r c j + (comb R r c j - comb R r (fun i => v (q i)) j) = v j - comb R r (fun i => v (q i)) j by omega] at this
theorem Rref.zero {p : Int} {n r : Nat} {R : Nat → Vec} {q : Nat → Nat} (h : Rref p n r R q) {v : Vec} (hv : Span p n (rows R r) v) (hz : ∀ i, i < r → p ∣ v (q i)) : Zr p n v := fun j hj => by
 have h1 := h.coef hv j hj
 have h2 : p ∣ comb R r (fun i => v (q i)) j := qGd r fun i hi => Int.dvd_mul_of_dvd_left (hz i hi)
 have := yq_ h1 h2
 rwa [Int.sub_add_cancel] at this
theorem Rref.pl {p : Int} {n r : Nat} {R : Nat → Vec} {q : Nat → Nat} (hp : Pr p) (h : Rref p n r R q) (c : Nat) : Pl p n (Span p n (rows R r)) c ↔ ∃ i, i < r ∧ q i = c := by
 constructor
 ·rintro ⟨v, hv, hl⟩
  -- the first i with v (q i) not zero
  have hex : ∃ i, i < r ∧ ¬ p ∣ v (q i) := Classical.byContradiction fun hc => by
   refine ld_nz hl (h.zero hv fun i hi => Classical.byContradiction fun hd => hc ⟨i, hi, hd⟩)
  obtain ⟨i, ⟨hi, hni⟩, hmin⟩ := qKd hex
  refine ⟨i, hi, ?_⟩
  have hsm : ∀ c, c < q i → p ∣ v c := fun c hc => by
   have h1 := h.coef hv c (by have := h.lt i hi; omega)
   have h2 : p ∣ comb R r (fun i => v (q i)) c := qGd r fun k hk => by
    rcases Nat.lt_or_ge k i with hki | hki
    ·exact Int.dvd_mul_of_dvd_left (Classical.byContradiction fun hd => hmin k hki ⟨hk, hd⟩)
    ·refine qA3 _ (h.pre k c hk ?_)
     rcases Nat.eq_or_lt_of_le hki with rfl | hlt
     ·exact hc
     ·have := h.mono i k hlt hk; omega
   have := yq_ h1 h2
   rwa [Int.sub_add_cancel] at this
  rcases Nat.lt_trichotomy (q i) c with h1 | h1 | h1
  ·exact absurd (hl.2.2 _ h1) hni
  ·exact h1
  ·exact absurd (hsm c h1) hl.2.1
 ·rintro ⟨i, hi, rfl⟩
  refine ⟨R i, qA7 (qBm hi), h.lt i hi, fun hd => hp.1 ?_, fun j hj => h.pre i j hi hj⟩
  have := Int.dvd_sub hd (h.one i hi)
  rwa [show R i (q i) - (R i (q i) - 1) = 1 by omega] at this
theorem Rref.indep {p : Int} {n r : Nat} {R : Nat → Vec} {q : Nat → Nat} (hp : Pr p) (h : Rref p n r R q) : dim p n (Span p n (rows R r)) = r := by
 have main : ∀ k, k ≤ r → cnt (fun c => ∃ i, i < k ∧ q i = c) n = k := by
  intro k
  induction k with
  | zero => intro _; exact qFy _ n (fun c _ ⟨i, hi, _⟩ => by omega)
  | succ k ih =>
   intro hk
   rw [qDl (Q := fun c => ∃ i, i < k ∧ q i = c) (q k) n (h.lt k oM_) (fun ⟨i, hi, he⟩ => by have := h.mono i k hi oM_; omega) (fun c _ => ⟨?_, ?_⟩), ih oM_]
   ·rintro ⟨i, hi, he⟩
    rcases Nat.lt_or_ge i k with hl | hg
    ·exact .inl ⟨i, hl, he⟩
    ·have : i = k := by omega
     subst this; exact .inr he.symm
   ·rintro (⟨i, hi, he⟩ | he)
    ·exact ⟨i, by omega, he⟩
    ·exact ⟨k, by omega, he.symm⟩
 unfold dim
 rw [qGt n (fun c _ => h.pl hp c)]
 exact main r (Nat.le_refl _)
theorem Rref.unique {p : Int} {n r r' : Nat} {R R' : Nat → Vec} {q q' : Nat → Nat} (hp : Pr p) (h : Rref p n r R q) (h' : Rref p n r' R' q') (hs : ∀ v, Span p n (rows R r) v ↔ Span p n (rows R' r') v) :
  r = r' ∧ ∀ i, i < r → q i = q' i ∧ ∀ j, j < n → p ∣ R i j - R' i j := by
 have hr : r = r' := by rw [← h.indep hp, ← h'.indep hp]; exact qB4 hs
 subst hr
 have hpl : ∀ c, (∃ i, i < r ∧ q i = c) ↔ ∃ i, i < r ∧ q' i = c := fun c => by
  rw [← h.pl hp c, ← h'.pl hp c]
  exact ⟨fun ⟨v, h1, h2⟩ => ⟨v, (hs v).1 h1, h2⟩, fun ⟨v, h1, h2⟩ => ⟨v, (hs v).2 h1, h2⟩⟩
 have hq : ∀ i, i < r → q i = q' i := by
  intro i
  induction i using Nat.strongRecOn with
  | _ i ih =>
   intro hi
   obtain ⟨j, hj, e1⟩ := (hpl (q i)).1 ⟨i, hi, rfl⟩
   obtain ⟨k, hk, e2⟩ := (hpl (q' i)).2 ⟨i, hi, rfl⟩
   rcases Nat.lt_trichotomy i j with hl | he | hl
   ·-- q' i < q' j = q i; k must be < i
    have h1 := h'.mono i j hl hj
    rcases Nat.lt_trichotomy k i with hk' | hk' | hk'
    ·have := ih k hk' hk; have := h'.mono k i hk' hi; omega
    ·subst hk'; omega
    ·have := h.mono i k hk' hk; omega
   ·subst he; omega
   ·have := ih j hl hj; have := h.mono j i hl hi; omega
 refine ⟨rfl, fun i hi => ⟨hq i hi, fun j hj => ?_⟩⟩
 have hd : Span p n (rows R r) (fun j => R i j - R' i j) := (qA6 p n _).sub (qA7 (qBm hi)) ((hs _).2 (qA7 (qBm hi)))
 refine h.zero hd (fun k hk => ?_) j hj
 by_cases e : i = k
 ·subst e
  have h1 := h.one i hi
  have h2 := h'.one i hi
  rw [← hq i hi] at h2
  have := Int.dvd_sub h1 h2
  rwa [show R i (q i) - 1 - (R' i (q i) - 1) = R i (q i) - R' i (q i) by omega] at this
 ·have h1 := h.off i k hi hk e
  have h2 := h'.off i k hi hk e
  rw [← hq k hk] at h2
  exact Int.dvd_sub h1 h2
structure GInv (p : Int) (n m c r : Nat) (R : Nat → Vec) (q : Nat → Nat) : Prop where
 rm : r ≤ m
 lt : ∀ i, i < r → q i < c
 mono : ∀ i j, i < j → j < r → q i < q j
 one : ∀ i, i < r → p ∣ R i (q i) - 1
 off : ∀ i j, i < r → j < m → j ≠ i → p ∣ R j (q i)
 pre : ∀ i k, i < r → k < q i → p ∣ R i k
 low : ∀ i k, r ≤ i → i < m → k < c → p ∣ R i k
theorem GInv.start (p : Int) (n m : Nat) (R : Nat → Vec) (q : Nat → Nat) : GInv p n m 0 0 R q :=
 ⟨Nat.zero_le _, fun i h => by omega, fun i j _ h => by omega, fun i h => by omega, fun i j h => by omega, fun i k h => by omega, fun i k _ _ h => by omega⟩
theorem GInv.none {p : Int} {n m c r : Nat} {R : Nat → Vec} {q : Nat → Nat} (h : GInv p n m c r R q) (hz : ∀ i, r ≤ i → i < m → p ∣ R i c) : GInv p n m (c + 1) r R q :=
 ⟨h.rm, fun i hi => by have := h.lt i hi; omega, h.mono, h.one, h.off, h.pre, fun i k h1 h2 h3 => by
  rcases Nat.lt_or_ge k c with hl | hg
  ·exact h.low i k h1 h2 hl
  ·have : k = c := by omega
   subst this; exact hz i h1 h2⟩
theorem GInv.swap {p : Int} {n m c r : Nat} {R R1 : Nat → Vec} {q : Nat → Nat} (h : GInv p n m c r R q) {a : Nat} (ha : r ≤ a) (ham : a < m) (e1 : ∀ j, R1 r j = R a j) (e2 : ∀ j, R1 a j = R r j) (e3 : ∀ i j, i < m → i ≠ r → i ≠ a → R1 i j = R i j) : GInv p n m c r R1 q := by
 have e : ∀ i, i < m → ∃ k, k < m ∧ (r ≤ i → r ≤ k) ∧ (i < r → k = i) ∧ ∀ j, R1 i j = R k j := fun i hi => by
  by_cases h1 : i = r
  ·subst h1; exact ⟨a, ham, fun _ => ha, fun hh => by omega, e1⟩
  ·by_cases h2 : i = a
   ·subst h2; exact ⟨r, by omega, fun _ => Nat.le_refl _, fun hh => by omega, e2⟩
   ·exact ⟨i, hi, fun hh => hh, fun _ => rfl, fun j => e3 i j hi h1 h2⟩
 refine ⟨h.rm, h.lt, h.mono, fun i hi => ?_, fun i j hi hj hne => ?_, fun i k hi hk => ?_, fun i k h1 h2 h3 => ?_⟩
 ·obtain ⟨k, _, _, hk, he⟩ := e i oM_
  rw [he, hk hi]; exact h.one i hi
 ·obtain ⟨k, hkm, hkr, hk, he⟩ := e j hj
  rw [he]
  refine h.off i k hi hkm ?_
  rcases Nat.lt_or_ge j r with hl | hg
  ·rw [hk hl]; exact hne
  ·have := hkr hg; omega
 ·obtain ⟨k', _, _, hk', he⟩ := e i oM_
  rw [he, hk' hi]; exact h.pre i k hi hk
 ·obtain ⟨k', hkm, hkr, _, he⟩ := e i h2
  rw [he]; exact h.low k' k (hkr h1) hkm h3
theorem GInv.step {p : Int} {n m c r : Nat} {R R' : Nat → Vec} {q q' : Nat → Nat} (h : GInv p n m c r R q) (hrm : r < m) {b : Int} (hb : p ∣ R r c * b - 1)
  (e1 : ∀ j, j ≤ c → p ∣ R' r j - b * R r j) (e2 : ∀ i j, i < m → i ≠ r → j ≤ c → p ∣ R' i j - (R i j - R i c * R' r j)) (hq : ∀ i, i < r → q' i = q i) (hqr : q' r = c) : GInv p n m (c + 1) (r + 1) R' q' := by
 have top0 : ∀ k, k < c → p ∣ R' r k := fun k hk => by
  have := yq_ (e1 k oM_) (qA3 b (h.low r k (Nat.le_refl _) hrm hk))
  rwa [Int.sub_add_cancel] at this
 have top1 : p ∣ R' r c - 1 := by
  have := yq_ (e1 c (Nat.le_refl _)) hb
  rwa [show R' r c - b * R r c + (R r c * b - 1) = R' r c - 1 by grind] at this
 have same : ∀ i k, i < m → i ≠ r → k < c → p ∣ R' i k - R i k := fun i k hi hne hk => by
  have := Int.dvd_sub (e2 i k hi hne oM_) (qA3 (R i c) (top0 k hk))
  rwa [show R' i k - (R i k - R i c * R' r k) - R i c * R' r k = R' i k - R i k by omega] at this
 have clr : ∀ i, i < m → i ≠ r → p ∣ R' i c := fun i hi hne => by
  have := Int.dvd_sub (e2 i c hi hne (Nat.le_refl _)) (qA3 (R i c) top1)
  rwa [show R' i c - (R i c - R i c * R' r c) - R i c * (R' r c - 1) = R' i c by grind] at this
 refine ⟨by omega, fun i hi => ?_, fun i j hij hj => ?_, fun i hi => ?_, fun i j hi hj hne => ?_, fun i k hi hk => ?_, fun i k h1 h2 h3 => ?_⟩
 ·rcases Nat.lt_or_ge i r with hl | hg
  ·rw [hq i hl]; have := h.lt i hl; omega
  ·have : i = r := by omega
   subst this; omega
 ·rcases Nat.lt_or_ge j r with hl | hg
  ·rw [hq i oM_, hq j hl]; exact h.mono i j hij hl
  ·have : j = r := by omega
   subst this; rw [hq i hij, hqr]; exact h.lt i hij
 ·rcases Nat.lt_or_ge i r with hl | hg
  ·rw [hq i hl]
   have := yq_ (same i (q i) oM_ oM_ (h.lt i hl)) (h.one i hl)
   rwa [show R' i (q i) - R i (q i) + (R i (q i) - 1) = R' i (q i) - 1 by omega] at this
  ·have : i = r := by omega
   subst this; rw [hqr]; exact top1
 ·rcases Nat.lt_or_ge i r with hl | hg
  ·rw [hq i hl]
   by_cases hj' : j = r
   ·subst hj'; exact top0 _ (h.lt i hl)
   ·have := yq_ (same j (q i) hj hj' (h.lt i hl)) (h.off i j hl hj hne)
    rwa [Int.sub_add_cancel] at this
  ·have : i = r := by omega
   subst this; rw [hqr]; exact clr j hj hne
 ·rcases Nat.lt_or_ge i r with hl | hg
  ·rw [hq i hl] at hk
   have := h.lt i hl
   have := yq_ (same i k oM_ oM_ oM_) (h.pre i k hl hk)
   rwa [Int.sub_add_cancel] at this
  ·have : i = r := by omega
   subst this; rw [hqr] at hk; exact top0 k hk
 ·rcases Nat.lt_or_ge k c with hl | hg
  ·have := yq_ (same i k h2 oM_ hl) (h.low i k oM_ h2 hl)
   rwa [Int.sub_add_cancel] at this
  ·have : k = c := by omega
   subst this; exact clr i h2 oM_
theorem GInv.rref {p : Int} {n m r : Nat} {R : Nat → Vec} {q : Nat → Nat} (h : GInv p n m n r R q) : Rref p n r R q :=
 ⟨h.lt, h.mono, h.one, fun i j hi hj hne => h.off j i hj (by have := h.rm; omega) hne, h.pre⟩
theorem GInv.span {p : Int} {n m r : Nat} {R : Nat → Vec} {q : Nat → Nat} (h : GInv p n m n r R q) (v : Vec) : Span p n (rows R m) v ↔ Span p n (rows R r) v := by
 constructor
 ·refine qBu (fun x hx => ?_)
  obtain ⟨i, hi, rfl⟩ := qCl hx
  rcases Nat.lt_or_ge i r with hl | hg
  ·exact qA7 (qBm hl)
  ·exact (qA6 p n _).zero _ (fun k hk => h.low i k hg hi hk)
 ·refine qBu (fun x hx => ?_)
  obtain ⟨i, hi, rfl⟩ := qCl hx
  exact qA7 (qBm (by have := h.rm; omega))
theorem qIk {p : Int} {n m r : Nat} {R R' : Nat → Vec} (hrm : r < m) {a b : Int} (c : Nat → Int) (hb : p ∣ a * b - 1)
  (e1 : ∀ j, j < n → p ∣ R' r j - b * R r j) (e2 : ∀ i j, i < m → i ≠ r → j < n → p ∣ R' i j - (R i j - c i * R' r j)) (v : Vec) : Span p n (rows R' m) v ↔ Span p n (rows R m) v := by
 have sub := qA6 p n (rows R m)
 have sub' := qA6 p n (rows R' m)
 have htop : Span p n (rows R m) (R' r) := sub.congr (sub.smul b _ (qA7 (qBm hrm))) e1
 constructor
 ·refine qBu (fun x hx => ?_)
  obtain ⟨i, hi, rfl⟩ := qCl hx
  by_cases h : i = r
  ·subst h; exact htop
  ·exact sub.congr (sub.sub (qA7 (qBm hi)) (sub.smul (c i) _ htop)) (fun j hj => e2 i j hi h hj)
 ·refine qBu (fun x hx => ?_)
  obtain ⟨i, hi, rfl⟩ := qCl hx
  by_cases h : i = r
  ·subst h
   refine sub'.congr (sub'.smul a _ (qA7 (qBm hi))) (fun j hj => ?_)
   have h1 := qA3 a (e1 j hj)
   have h2 := qA3 (R i j) hb
   have := Int.dvd_neg.2 (yq_ h1 h2)
   rwa [show -(a * (R' i j - b * R i j) + R i j * (a * b - 1)) = R i j - a * R' i j by grind] at this
  ·refine sub'.congr (sub'.add _ _ (qA7 (qBm hi)) (sub'.smul (c i) _ (qA7 (qBm hrm)))) (fun j hj => ?_)
   have := Int.dvd_neg.2 (e2 i j hi h hj)
   rwa [show -(R' i j - (R i j - c i * R' r j)) = R i j - (R' i j + c i * R' r j) by omega] at this
theorem qD9 {p : Int} {n m : Nat} {R R' : Nat → Vec} (h : ∀ i, i < m → ∃ k, k < m ∧ ∀ j, j < n → p ∣ R' i j - R k j) (h' : ∀ i, i < m → ∃ k, k < m ∧ ∀ j, j < n → p ∣ R i j - R' k j) (v : Vec) : Span p n (rows R' m) v ↔ Span p n (rows R m) v := by
 constructor
 ·refine qBu (fun x hx => ?_)
  obtain ⟨i, hi, rfl⟩ := qCl hx
  obtain ⟨k, hk, he⟩ := h i hi
  exact (qA6 p n _).congr (qA7 (qBm hk)) he
 ·refine qBu (fun x hx => ?_)
  obtain ⟨i, hi, rfl⟩ := qCl hx
  obtain ⟨k, hk, he⟩ := h' i hi
  exact (qA6 p n _).congr (qA7 (qBm hk)) he
end Go.Proofs.Ytkgajpngeglkmaa.B.LinT
set_option linter.unusedVariables false
set_option linter.unusedSimpArgs false
namespace Go.Proofs.Ytkgajpngeglkmaa.B.LinT
def isP (p : Nat) : Bool := decide (2 ≤ p) && decide (p ≤ 251) && (List.range 16).all fun d => decide (d < 2) || decide (p < d * d) || decide (p % d ≠ 0)
theorem qIb : ((List.range 252).all fun p => !isP p || (List.range p).all fun a => a == 0 || a * a ^ (p - 2) % p == 1) = true := by decide +kernel
theorem qBp {p : Nat} (h : isP p = true) : 2 ≤ p ∧ p ≤ 251 := by
 unfold isP at h
 rw [ye_, ye_, yf_, yf_] at h
 exact h.1
theorem fermat {p a : Nat} (h : isP p = true) (ha : a < p) (h0 : a ≠ 0) : a * a ^ (p - 2) % p = 1 := by
 have h1 := List.all_eq_true.1 qIb p (yc_.2 (by have := qBp h; omega))
 rw [h] at h1
 have h2 : ∀ x, x < p → x = 0 ∨ x * x ^ (p - 2) % p = 1 := by simpa using h1
 exact (h2 a ha).resolve_left h0
theorem qHc {p a : Nat} (h : isP p = true) (ha : a < p) (h0 : a ≠ 0) : (p : Int) ∣ (a : Int) * ((a ^ (p - 2) % p : Nat) : Int) - 1 := by
 have h1 := fermat h ha h0
 have h2 : a * (a ^ (p - 2) % p) % p = 1 := by rw [Nat.mul_mod, Nat.mod_mod, ← Nat.mul_mod]; exact h1
 have h3 := Nat.div_add_mod (a * (a ^ (p - 2) % p)) p
 rw [h2] at h3
 refine ⟨((a * (a ^ (p - 2) % p) / p : Nat) : Int), ?_⟩
 have h4 : ((a * (a ^ (p - 2) % p) : Nat) : Int) = ((p * (a * (a ^ (p - 2) % p) / p) + 1 : Nat) : Int) := by rw [h3]
 rw [yi_, Int.natCast_add, yi_] at h4
 omega
theorem qEh {p : Nat} (h : isP p = true) : Pr (p : Int) := by
 have h2 := qBp h
 refine ⟨fun hd => ?_, fun a ha => ?_⟩
 ·have := Int.le_of_dvd (by decide) hd; omega
 ·have hm : a % (p : Int) ≠ 0 := fun he => ha (Int.dvd_of_emod_eq_zero he)
  have h3 := Int.emod_nonneg a (b := (p : Int)) oM_
  have h4 := Int.emod_lt_of_pos a (b := (p : Int)) oM_
  obtain ⟨n, hn⟩ := Int.eq_ofNat_of_zero_le h3
  have h5 := qHc (a := n) h oM_ oM_
  refine ⟨((n ^ (p - 2) % p : Nat) : Int), ?_⟩
  have h6 : (p : Int) ∣ a - (n : Int) := by rw [← hn]; exact Int.dvd_self_sub_emod
  have h7 := yq_ (show (p : Int) ∣ (a - (n : Int)) * ((n ^ (p - 2) % p : Nat) : Int) from Int.dvd_mul_of_dvd_left h6) h5
  rwa [show (a - (n : Int)) * ((n ^ (p - 2) % p : Nat) : Int) + ((n : Int) * ((n ^ (p - 2) % p : Nat) : Int) - 1) = a * ((n ^ (p - 2) % p : Nat) : Int) - 1 by grind] at h7
structure El (p : Int) (n m : Nat) (R0 : Nat → Vec) (c r : Nat) (R : Nat → Vec) (q : Nat → Nat) : Prop where
 g : GInv p n m c r R q
 sp : ∀ v, Span p n (rows R m) v ↔ Span p n (rows R0 m) v
 ge : ∀ i j, i < m → j < n → 0 ≤ R i j
 lt : ∀ i j, i < m → j < n → R i j < p
theorem El.start {p : Int} {n m : Nat} {R : Nat → Vec} (h0 : ∀ i j, i < m → j < n → 0 ≤ R i j) (h1 : ∀ i j, i < m → j < n → R i j < p) (q : Nat → Nat) : El p n m R 0 0 R q :=
 ⟨GInv.start p n m R q, fun _ => Iff.rfl, h0, h1⟩
theorem El.none {p : Int} {n m c r : Nat} {R0 R : Nat → Vec} {q : Nat → Nat} (h : El p n m R0 c r R q) (hz : ∀ i, r ≤ i → i < m → R i c = 0) : El p n m R0 (c + 1) r R q :=
 ⟨h.g.none fun i h1 h2 => by rw [hz i h1 h2]; exact yn_ p, h.sp, h.ge, h.lt⟩
theorem El.congr {p : Int} {n m c r : Nat} {R0 R R1 : Nat → Vec} {q : Nat → Nat} (h : El p n m R0 c r R q) (hc : c ≤ n) (e : ∀ i j, i < m → j < n → R1 i j = R i j) : El p n m R0 c r R1 q := by
 have hr := h.g.rm
 refine ⟨⟨h.g.rm, h.g.lt, h.g.mono, fun i hi => ?_, fun i j hi hj hne => ?_, fun i k hi hk => ?_, fun i k h1 h2 h3 => ?_⟩, fun v => ?_, fun i j hi hj => by rw [e i j hi hj]; exact h.ge i j hi hj, fun i j hi hj => by rw [e i j hi hj]; exact h.lt i j hi hj⟩
 ·have := h.g.lt i hi
  rw [e i _ oM_ oM_]; exact h.g.one i hi
 ·have := h.g.lt i hi
  rw [e j _ hj oM_]; exact h.g.off i j hi hj hne
 ·have := h.g.lt i hi
  rw [e i _ oM_ oM_]; exact h.g.pre i k hi hk
 ·rw [e i _ h2 oM_]; exact h.g.low i k h1 h2 h3
 ·rw [← h.sp v]
  exact qD9 (fun i hi => ⟨i, hi, fun j hj => by rw [e i j hi hj, Int.sub_self]; exact yn_ p⟩) (fun i hi => ⟨i, hi, fun j hj => by rw [e i j hi hj, Int.sub_self]; exact yn_ p⟩) v
theorem El.swap {p : Int} {n m c r : Nat} {R0 R R1 : Nat → Vec} {q : Nat → Nat} (h : El p n m R0 c r R q) {a : Nat} (ha : r ≤ a) (ham : a < m) (e1 : ∀ j, R1 r j = R a j) (e2 : ∀ j, R1 a j = R r j) (e3 : ∀ i j, i < m → i ≠ r → i ≠ a → R1 i j = R i j) : El p n m R0 c r R1 q := by
 have e : ∀ i, i < m → ∃ k, k < m ∧ ∀ j, R1 i j = R k j := fun i hi => by
  by_cases h1 : i = r
  ·subst h1; exact ⟨a, ham, e1⟩
  ·by_cases h2 : i = a
   ·subst h2; exact ⟨r, by omega, e2⟩
   ·exact ⟨i, hi, fun j => e3 i j hi h1 h2⟩
 have e' : ∀ i, i < m → ∃ k, k < m ∧ ∀ j, R i j = R1 k j := fun i hi => by
  by_cases h1 : i = r
  ·subst h1; exact ⟨a, ham, fun j => (e2 j).symm⟩
  ·by_cases h2 : i = a
   ·subst h2; exact ⟨r, by omega, fun j => (e1 j).symm⟩
   ·exact ⟨i, hi, fun j => (e3 i j hi h1 h2).symm⟩
 refine ⟨h.g.swap ha ham e1 e2 e3, fun v => ?_, fun i j hi hj => ?_, fun i j hi hj => ?_⟩
 ·rw [← h.sp v]
  refine qD9 (fun i hi => ?_) (fun i hi => ?_) v
  ·obtain ⟨k, hk, he⟩ := e i hi
   exact ⟨k, hk, fun j _ => by rw [he j, Int.sub_self]; exact yn_ p⟩
  ·obtain ⟨k, hk, he⟩ := e' i hi
   exact ⟨k, hk, fun j _ => by rw [he j, Int.sub_self]; exact yn_ p⟩
 ·obtain ⟨k, hk, he⟩ := e i hi
  rw [he]; exact h.ge k j hk hj
 ·obtain ⟨k, hk, he⟩ := e i hi
  rw [he]; exact h.lt k j hk hj
theorem El.congr0 {p : Int} {n m c r : Nat} {R0 R1 R : Nat → Vec} {q : Nat → Nat} (h : El p n m R0 c r R q) (e : ∀ i j, i < m → j < n → R1 i j = R0 i j) : El p n m R1 c r R q :=
 ⟨h.g, fun v => (h.sp v).trans (qD9 (fun i hi => ⟨i, hi, fun j hj => by rw [e i j hi hj, Int.sub_self]; exact yn_ p⟩) (fun i hi => ⟨i, hi, fun j hj => by rw [e i j hi hj, Int.sub_self]; exact yn_ p⟩) v), h.ge, h.lt⟩
theorem El.swap' {p : Int} {n m c r : Nat} {R0 R R1 : Nat → Vec} {q : Nat → Nat} (h : El p n m R0 c r R q) (hc : c ≤ n) {a : Nat} (ha : r ≤ a) (ham : a < m) (e1 : ∀ j, j < n → R1 r j = R a j) (e2 : ∀ j, j < n → R1 a j = R r j) (e3 : ∀ i j, i < m → i ≠ r → i ≠ a → j < n → R1 i j = R i j) : El p n m R0 c r R1 q := by
 refine (h.swap (R1 := fun i j => if i = r then R a j else if i = a then R r j else R i j) ha ham (fun j => by simp) (fun j => ?_) (fun i j _ h1 h2 => by simp [h1, h2])).congr hc (fun i j hi hj => ?_)
 ·by_cases h1 : a = r
  ·subst h1; simp
  ·simp [h1]
 ·by_cases h1 : i = r
  ·subst h1; simp [e1 j hj]
  ·by_cases h2 : i = a
   ·subst h2; simp [h1, e2 j hj]
   ·simp [h1, h2, e3 i j hi h1 h2 hj]
theorem El.step {p : Int} {n m c r : Nat} {R0 R R' : Nat → Vec} {q q' : Nat → Nat} (h : El p n m R0 c r R q) (hc : c < n) (hrm : r < m) {b : Int} (hb : p ∣ R r c * b - 1)
  (e1 : ∀ j, j < n → p ∣ R' r j - b * R r j) (e2 : ∀ i j, i < m → i ≠ r → j < n → p ∣ R' i j - (R i j - R i c * R' r j)) (hq : ∀ i, i < r → q' i = q i) (hqr : q' r = c)
  (h0 : ∀ i j, i < m → j < n → 0 ≤ R' i j) (h1 : ∀ i j, i < m → j < n → R' i j < p) : El p n m R0 (c + 1) (r + 1) R' q' :=
 ⟨h.g.step hrm hb (fun j hj => e1 j oM_) (fun i j hi hne hj => e2 i j hi hne oM_) hq hqr, fun v => by rw [← h.sp v]; exact qIk hrm (fun i => R i c) hb e1 e2 v, h0, h1⟩
theorem El.full {p : Int} {n m r : Nat} {R0 R : Nat → Vec} {q : Nat → Nat} : ∀ {c : Nat}, c ≤ n → r = m → El p n m R0 c r R q → El p n m R0 n r R q := by
 intro c hc hr h
 obtain ⟨d, hd⟩ : ∃ d, n = c + d := ⟨n - c, by omega⟩
 have : ∀ e, El p n m R0 (c + e) r R q := fun e => by
  induction e with
  | zero => exact h
  | succ e ih => exact ih.none (fun i h1 h2 => by omega)
 rw [hd] at this ⊢; exact this d
theorem El.same {p : Int} {n m m' r r' : Nat} {R0 R R0' R' : Nat → Vec} {q q' : Nat → Nat} (hp : Pr p) (h : El p n m R0 n r R q) (h' : El p n m' R0' n r' R' q')
  (hs : ∀ v, Span p n (rows R0 m) v ↔ Span p n (rows R0' m') v) : r = r' ∧ ∀ i, i < r → q i = q' i ∧ ∀ j, j < n → R i j = R' i j := by
 have hs2 : ∀ v, Span p n (rows R r) v ↔ Span p n (rows R' r') v := fun v => by rw [← h.g.span v, ← h'.g.span v, h.sp v, h'.sp v, hs v]
 obtain ⟨e1, e2⟩ := h.g.rref.unique hp h'.g.rref hs2
 refine ⟨e1, fun i hi => ⟨(e2 i hi).1, fun j hj => ?_⟩⟩
 have hd := (e2 i hi).2 j hj
 have hr := h.g.rm
 have hr' := h'.g.rm
 have a1 := h.ge i j oM_ hj
 have a2 := h.lt i j oM_ hj
 have b1 := h'.ge i j oM_ hj
 have b2 := h'.lt i j oM_ hj
 obtain ⟨k, hk⟩ := hd
 have hp0 : 0 < p := by omega
 have : k = 0 := by
  rcases Int.lt_trichotomy k 0 with hl | h0 | hg
  ·have := Int.mul_le_mul_of_nonneg_left (show k ≤ -1 by omega) (Int.le_of_lt hp0); omega
  ·exact h0
  ·have := Int.mul_le_mul_of_nonneg_left (show 1 ≤ k by omega) (Int.le_of_lt hp0); omega
 rw [this] at hk; omega
theorem El.span {p : Int} {n m r : Nat} {R0 R : Nat → Vec} {q : Nat → Nat} (h : El p n m R0 n r R q) (v : Vec) : Span p n (rows R r) v ↔ Span p n (rows R0 m) v := by rw [← h.g.span v, h.sp v]
theorem El.dim {p : Int} {n m r : Nat} {R0 R : Nat → Vec} {q : Nat → Nat} (hp : Pr p) (h : El p n m R0 n r R q) : dim p n (Span p n (rows R0 m)) = r := by
 rw [← h.g.rref.indep hp]; exact qB4 fun v => (h.span v).symm
def vec (l : List Int) : Vec := fun j => l.getD j 0
def rw' (L : List (List Int)) : Nat → Vec := fun i => vec (L.getD i [])
theorem qCa (L : List (List Int)) : rows (rw' L) L.length = L.map vec := by
 unfold rows rw'
 refine List.ext_getElem (by simp) fun i h1 h2 => ?_
 have hi : i < L.length := by simpa using h1
 simp [ya_, yb_ hi]
def Vs (p : Int) (n : Nat) (L : List (List Int)) : Prop := ∀ x, x ∈ L → x.length = n ∧ ∀ y, y ∈ x → 0 ≤ y ∧ y < p
theorem qDo {p : Int} {n : Nat} {L : List (List Int)} (h : Vs p n L) {i j : Nat} (hi : i < L.length) (hj : j < n) : 0 ≤ rw' L i j ∧ rw' L i j < p := by
 have hm : L.getD i [] ∈ L := by rw [ya_, yb_ hi, Option.getD_some]; exact yp_ hi
 obtain ⟨h1, h2⟩ := h _ hm
 unfold rw' vec
 have hjl : j < (L.getD i []).length := by omega
 rw [ya_ (l := L.getD i []), yb_ hjl, Option.getD_some]
 exact h2 _ (yp_ hjl)
theorem qKv {L M : List (List Int)} {p : Int} {n : Nat} (hL : Vs p n L) (hM : Vs p n M) (hl : L.length = M.length) (h : ∀ i, i < L.length → ∀ j, j < n → rw' L i j = rw' M i j) : L = M := by
 refine List.ext_getElem hl fun i h1 h2 => ?_
 have e1 := (hL _ (yp_ h1)).1
 have e2 := (hM _ (yp_ h2)).1
 refine List.ext_getElem oM_ fun j h3 h4 => ?_
 have := h i h1 j oM_
 unfold rw' vec at this
 simpa [ya_, yb_ h1, yb_ h2, yb_ h3, yb_ h4] using this
structure Red (p : Int) (n : Nat) (L B : List (List Int)) (q : List Int) : Prop where
 vs : Vs p n B
 len : q.length = B.length
 rref : Rref p n B.length (rw' B) (fun i => (q.getD i 0).toNat)
 span : ∀ v, Span p n (B.map vec) v ↔ Span p n (L.map vec) v
 pos : ∀ x, x ∈ q → 0 ≤ x
theorem Red.unique {p : Int} {n : Nat} {L L' B B' : List (List Int)} {q q' : List Int} (hp : Pr p) (h : Red p n L B q) (h' : Red p n L' B' q') (hs : ∀ v, Span p n (L.map vec) v ↔ Span p n (L'.map vec) v) : B = B' ∧ q = q' := by
 have hp0 : 0 < p ∨ p ≤ 0 := by omega
 obtain ⟨e1, e2⟩ := h.rref.unique hp h'.rref (fun v => by rw [qCa, qCa, h.span v, h'.span v, hs v])
 have hB : B = B' := qKv h.vs h'.vs e1 fun i hi j hj => by
  have hd := (e2 i hi).2 j hj
  have a := qDo h.vs hi hj
  have b := qDo h'.vs (i := i) oM_ hj
  obtain ⟨k, hk⟩ := hd
  have hp0 : 0 < p := by omega
  have : k = 0 := by
   rcases Int.lt_trichotomy k 0 with hl | h0 | hg
   ·have := Int.mul_le_mul_of_nonneg_left (show k ≤ -1 by omega) (Int.le_of_lt hp0); omega
   ·exact h0
   ·have := Int.mul_le_mul_of_nonneg_left (show 1 ≤ k by omega) (Int.le_of_lt hp0); omega
  rw [this] at hk; omega
 refine ⟨hB, List.ext_getElem (by rw [h.len, h'.len, e1]) fun i h1 h2 => ?_⟩
 have h3 := (e2 i (by rw [← h.len]; exact h1)).1
 have p1 := h.pos _ (yp_ h1)
 have p2 := h'.pos _ (yp_ h2)
 simp only [ya_, yb_ h1, yb_ h2, Option.getD_some] at h3
 omega
theorem Red.of {p : Int} {n : Nat} {L M : List (List Int)} {r : Nat} {q : List Int} (hl : M.length = L.length) (hv : Vs p n M) (hq : q.length = r) (hpos : ∀ x, x ∈ q → 0 ≤ x)
  (h : El p n L.length (rw' L) n r (rw' M) (fun i => (q.getD i 0).toNat)) : Red p n L (M.take r) q := by
 have hr := h.g.rm
 have hlen : (M.take r).length = r := by rw [List.length_take]; omega
 have e : ∀ i, i < r → rw' (M.take r) i = rw' M i := fun i hi => by
  unfold rw'
  rw [ya_, ya_, List.getElem?_take_of_lt hi]
 have hrr := h.g.rref
 refine ⟨fun x hx => hv x (List.mem_of_mem_take hx), by omega, ?_, fun v => ?_, hpos⟩
 ·rw [hlen]
  exact ⟨hrr.lt, hrr.mono, fun i hi => by rw [e i hi]; exact hrr.one i hi, fun i j hi hj hne => by rw [e i hi]; exact hrr.off i j hi hj hne, fun i c hi hc => by rw [e i hi]; exact hrr.pre i c hi hc⟩
 ·rw [← qCa L, ← h.span v, ← qCa, hlen]
  have : rows (rw' (M.take r)) r = rows (rw' M) r := List.map_congr_left fun i hi => e i (yc_.1 hi)
  rw [this]
end Go.Proofs.Ytkgajpngeglkmaa.B.LinT
set_option linter.unusedVariables false
set_option linter.unusedSimpArgs false
namespace Go.Proofs.Ytkgajpngeglkmaa.B.LinT
def fl (w : Nat) (X : List Int) : Nat → Vec := fun i j => X.getD (i * w + j) 0
theorem qCt {w i j m : Nat} (hi : i < m) (hj : j < w) : i * w + j < m * w := by
 have := Nat.mul_le_mul_right w (show i + 1 ≤ m by omega)
 rw [Nat.add_mul, Nat.one_mul] at this; omega
theorem qKz {w i j i' j' : Nat} (hj : j < w) (hj' : j' < w) (h : i * w + j = i' * w + j') : i = i' ∧ j = j' := by
 rcases Nat.lt_trichotomy i i' with hl | he | hg
 ·have := qCt hl hj; omega
 ·subst he; omega
 ·have := qCt hg hj'; omega
theorem qJy (X : List Int) (a b : Nat) (x : Int) (ha : a < X.length) : (X.set a x).getD b 0 = if b = a then x else X.getD b 0 := by
 rw [ya_, List.getElem?_set, ya_]
 by_cases h : b = a
 ·subst h; simp [ha]
 ·rw [if_neg (Ne.symm h), if_neg h]
theorem qI6 {w : Nat} (X : List Int) {i j i' j' : Nat} (x : Int) (hj : j < w) (hj' : j' < w) (ha : i * w + j < X.length) : fl w (X.set (i * w + j) x) i' j' = if i' = i ∧ j' = j then x else fl w X i' j' := by
 unfold fl
 rw [qJy _ _ _ _ ha]
 by_cases h : i' = i ∧ j' = j
 ·rw [if_pos h, if_pos (by rw [h.1, h.2])]
 ·rw [if_neg h, if_neg (fun he => h (qKz hj' hj he))]
structure Upd (w : Nat) (X : List Int) (i0 : Nat) (g : Nat → Int) (t : Nat) (Y : List Int) : Prop where
 len : Y.length = X.length
 at_ : ∀ i j, j < w → fl w Y i j = if i = i0 ∧ j < t then g j else fl w X i j
theorem Upd.start (w : Nat) (X : List Int) (i0 : Nat) (g : Nat → Int) : Upd w X i0 g 0 X := ⟨rfl, fun i j _ => by rw [if_neg oM_]⟩
theorem Upd.next {w : Nat} {X : List Int} {i0 : Nat} {g : Nat → Int} {t : Nat} {Y : List Int} (h : Upd w X i0 g t Y) (ht : t < w) (hi : i0 * w + t < X.length) {x : Int} (hx : x = g t) : Upd w X i0 g (t + 1) (Y.set (i0 * w + t) x) := by
 refine ⟨by rw [ym_, h.len], fun i j hj => ?_⟩
 rw [qI6 Y x ht hj (by rw [h.len]; exact hi), h.at_ i j hj]
 by_cases h1 : i = i0 ∧ j = t
 ·rw [if_pos h1, if_pos oM_, hx, h1.2]
 ·rw [if_neg h1]
  by_cases h2 : i = i0 ∧ j < t
  ·rw [if_pos h2, if_pos oM_]
  ·rw [if_neg h2, if_neg oM_]
structure Swp (w : Nat) (X : List Int) (a b : Nat) (t : Nat) (Y : List Int) : Prop where
 len : Y.length = X.length
 at_ : ∀ i j, j < w → fl w Y i j = if j < t then (if i = a then fl w X b j else if i = b then fl w X a j else fl w X i j) else fl w X i j
theorem Swp.start (w : Nat) (X : List Int) (a b : Nat) : Swp w X a b 0 X := ⟨rfl, fun i j _ => by rw [if_neg oM_]⟩
theorem Swp.next {w : Nat} {X : List Int} {a b : Nat} {t : Nat} {Y : List Int} (h : Swp w X a b t Y) (hab : a ≠ b) (ht : t < w) (ha : a * w + t < X.length) (hb : b * w + t < X.length) :
  Swp w X a b (t + 1) ((Y.set (b * w + t) (fl w Y a t)).set (a * w + t) (fl w Y b t)) := by
 refine ⟨by rw [ym_, ym_, h.len], fun i j hj => ?_⟩
 rw [qI6 _ _ ht hj (by rw [ym_, h.len]; exact ha), qI6 _ _ ht hj (by rw [h.len]; exact hb), h.at_ i j hj, h.at_ a t ht, h.at_ b t ht]
 rw [if_neg (Nat.lt_irrefl t), if_neg (Nat.lt_irrefl t)]
 rcases Nat.lt_trichotomy j t with hl | he | hg
 ·rw [if_neg (fun hh => by omega), if_neg (fun hh => by omega), if_pos hl, if_pos (show j < t + 1 by omega)]
 ·subst he
  rw [if_neg (Nat.lt_irrefl j), if_pos (Nat.lt_succ_self j)]
  by_cases h1 : i = a
  ·rw [if_pos ⟨h1, rfl⟩, if_pos h1]
  ·rw [if_neg (fun hh => h1 hh.1), if_neg h1]
   by_cases h2 : i = b
   ·rw [if_pos ⟨h2, rfl⟩, if_pos h2]
   ·rw [if_neg (fun hh => h2 hh.1), if_neg h2]
 ·rw [if_neg (fun hh => by omega), if_neg (fun hh => by omega), if_neg (show ¬ j < t by omega), if_neg (show ¬ j < t + 1 by omega)]
def unfl (w m : Nat) (X : List Int) : List (List Int) := (List.range m).map fun i => (X.drop (i * w)).take w
theorem qJn (w m : Nat) (X : List Int) : (unfl w m X).length = m := by simp [unfl]
theorem qJo {w m : Nat} (X : List Int) {i j : Nat} (hi : i < m) (hj : j < w) : rw' (unfl w m X) i j = fl w X i j := by
 unfold rw' vec unfl fl
 have h1 : ((List.range m).map fun i => (X.drop (i * w)).take w).getD i [] = (X.drop (i * w)).take w := by
  rw [ya_, List.getElem?_map, List.getElem?_range hi]; rfl
 rw [h1, ya_, List.getElem?_take_of_lt hj, List.getElem?_drop, ← ya_]
theorem qKp {p : Int} {w m : Nat} {X : List Int} (hl : X.length = m * w) (h : ∀ i j, i < m → j < w → 0 ≤ fl w X i j ∧ fl w X i j < p) : Vs p w (unfl w m X) := by
 intro x hx
 obtain ⟨i, hi, rfl⟩ := List.mem_map.1 hx
 have him := yc_.1 hi
 have h2 := Nat.mul_le_mul_right w (show i + 1 ≤ m by omega)
 rw [Nat.add_mul, Nat.one_mul] at h2
 refine ⟨by rw [List.length_take, List.length_drop]; omega, fun y hy => ?_⟩
 obtain ⟨j, hj, rfl⟩ := List.getElem_of_mem hy
 have hjw : j < w := by rw [List.length_take] at hj; omega
 have h3 := h i j him hjw
 unfold fl at h3
 rw [List.getElem_take, List.getElem_drop]
 rwa [ya_, yb_ oM_, Option.getD_some] at h3
theorem qIi {w m r : Nat} (X : List Int) (h : r ≤ m) : (unfl w m X).take r = unfl w r X := by
 unfold unfl
 rw [← List.map_take, List.take_range, Nat.min_eq_left h]
theorem qFg {w : Nat} : ∀ (L : List (List Int)), (∀ x, x ∈ L → x.length = w) → ∀ i j, i < L.length → j < w → fl w L.flatten i j = rw' L i j
 | [], _, i, j, hi, _ => by simp at hi
 | a :: L, h, i, j, hi, hj => by
  have ha := h a (by simp)
  unfold fl rw' vec
  rw [List.flatten_cons]
  cases i with
  | zero =>
   rw [ya_, Nat.zero_mul, Nat.zero_add, List.getElem?_append_left oM_]
   simp [ya_]
  | succ i =>
   have ih := qFg L (fun x hx => h x (by simp [hx])) i j (by simpa using hi) hj
   unfold fl rw' vec at ih
   rw [ya_, List.getElem?_append_right (by rw [Nat.add_mul]; omega), ← ya_]
   have : (i + 1) * w + j - a.length = i * w + j := by rw [Nat.add_mul]; omega
   rw [this, ih]
   simp [ya_]
theorem qC2 {w : Nat} : ∀ (L : List (List Int)), (∀ x, x ∈ L → x.length = w) → L.flatten.length = L.length * w
 | [], _ => by simp
 | a :: L, h => by
  rw [List.flatten_cons, yg_, qC2 L (fun x hx => h x (by simp [hx])), h a (by simp), List.length_cons, Nat.add_mul]; omega
structure FlInv (p : Int) (w m : Nat) (L : List (List Int)) (c : Nat) (X : List Int) (q : List Int) : Prop where
 len : X.length = m * w
 pos : ∀ x, x ∈ q → 0 ≤ x
 el : El p w m (rw' L) c q.length (fl w X) (fun i => (q.getD i 0).toNat)
theorem FlInv.red {p : Int} {w : Nat} {L : List (List Int)} {X : List Int} {q : List Int} (h : FlInv p w L.length L w X q) : Red p w L (unfl w q.length X) q := by
 have hr := h.el.g.rm
 rw [← qIi X hr]
 refine Red.of (qJn _ _ _) (qKp h.len fun i j hi hj => ⟨h.el.ge i j hi hj, h.el.lt i j hi hj⟩) rfl h.pos (h.el.congr (Nat.le_refl _) fun i j hi hj => qJo X hi hj)
end Go.Proofs.Ytkgajpngeglkmaa.B.LinT
set_option linter.unusedVariables false
set_option linter.unusedSimpArgs false
namespace Go.Proofs.Ytkgajpngeglkmaa.B.LinT
theorem qKe {p a : Int} (h0 : 0 ≤ a) (h1 : a < p) (hd : p ∣ a) : a = 0 := by
 have := Int.emod_eq_of_lt h0 h1
 rw [Int.emod_eq_zero_of_dvd hd] at this; omega
theorem rng_eq {p a b : Int} (h0 : 0 ≤ a) (h1 : a < p) (g0 : 0 ≤ b) (g1 : b < p) (hd : p ∣ a - b) : a = b := by
 have e1 := Int.emod_eq_of_lt h0 h1
 have e2 := Int.emod_eq_of_lt g0 g1
 have := Int.emod_emod_of_dvd a (Int.dvd_refl p)
 have := (Int.emod_eq_emod_iff_emod_sub_eq_zero).2 (Int.emod_eq_zero_of_dvd hd)
 omega
theorem Red.place {p : Int} {n : Nat} {L B : List (List Int)} {q : List Int} (h : Red p n L B q) (hp : 1 < p) {i : Nat} (hi : i < B.length) :
  (q.getD i 0).toNat < n ∧ (B.getD i []).getD (q.getD i 0).toNat 0 = 1 ∧ ∀ j, j < (q.getD i 0).toNat → (B.getD i []).getD j 0 = 0 := by
 have h1 := h.rref.lt i hi
 refine ⟨h1, ?_, fun j hj => ?_⟩
 ·have a := qDo h.vs hi h1
  exact rng_eq a.1 a.2 oM_ hp (h.rref.one i hi)
 ·have a := qDo h.vs hi (j := j) oM_
  exact qKe a.1 a.2 (h.rref.pre i j hi hj)
theorem Red.in_iff {p : Int} {n : Nat} {L B : List (List Int)} {q : List Int} (h : Red p n L B q) (v : Vec) :
  Span p n (B.map vec) v ↔ ∀ j, j < n → p ∣ v j - comb (rw' B) B.length (fun i => v (q.getD i 0).toNat) j := by
 constructor
 ·intro hv j hj
  rw [← qCa] at hv
  exact h.rref.coef hv j hj
 ·intro hv
  rw [← qCa]
  exact (qGc _ _ _).2 ⟨_, hv⟩
theorem qGb {p : Int} {n : Nat} (L : List Vec) (x v : Vec) : Span p n (L ++ [x]) v ↔ Ins p n (Span p n L) x v := by
 constructor
 ·refine qCv (Ins.isSub (qA6 p n L) x) (fun y hy => ?_)
  rcases List.mem_append.1 hy with h | h
  ·exact Ins.old (qA7 h)
  ·rw [List.mem_singleton.1 h]; exact Ins.new (qA6 p n L)
 ·exact Ins.least (qA6 p n _) (fun v hv => qBu (fun y hy => qA7 (List.mem_append_left _ hy)) hv) (qA7 (by simp))
theorem Red.dim {p : Int} {n : Nat} {L B : List (List Int)} {q : List Int} (hp : Pr p) (h : Red p n L B q) : LinT.dim p n (Span p n (L.map vec)) = B.length := by
 rw [← h.rref.indep hp, qCa]
 exact qB4 fun v => (h.span v).symm
theorem Red.more {p : Int} {n : Nat} {L B B' : List (List Int)} {q q' : List Int} {x : List Int} (hp : Pr p) (h : Red p n L B q) (h' : Red p n (L ++ [x]) B' q') :
  (Span p n (L.map vec) (vec x) → B'.length = B.length) ∧ (¬ Span p n (L.map vec) (vec x) → B'.length = B.length + 1) := by
 have e : ∀ v, Span p n ((L ++ [x]).map vec) v ↔ Ins p n (Span p n (L.map vec)) (vec x) v := fun v => by
  rw [List.map_append]; exact qGb _ _ _
 rw [← h.dim hp, ← h'.dim hp, qB4 e]
 exact ⟨fun hx => qB4 (qI3 (qA6 p n _) hx), fun hx => qHh hp (qA6 p n _) hx⟩
theorem qD5 {p : Int} {n : Nat} {L M : List (List Int)} (h : Vs p n L) (h' : Vs p n M) : Vs p n (L ++ M) := fun x hx => (List.mem_append.1 hx).elim (h x) (h' x)
theorem qIg {p : Int} {n : Nat} {x : List Int} (h : x.length = n) (h' : ∀ y, y ∈ x → 0 ≤ y ∧ y < p) : Vs p n [x] := fun y hy => by rw [List.mem_singleton.1 hy]; exact ⟨h, h'⟩
theorem Red.len_le {p : Int} {n : Nat} {L B : List (List Int)} {q : List Int} (h : Red p n L B q) (hp : Pr p) : B.length ≤ n ∧ B.length ≤ L.length := by
 rw [← h.dim hp]
 exact ⟨qKg p n _, Nat.le_trans (qEo hp _) (by simp)⟩
theorem Red.of_same {p : Int} {n : Nat} {L L' B : List (List Int)} {q : List Int} (h : Red p n L B q) (hs : ∀ v, Span p n (L.map vec) v ↔ Span p n (L'.map vec) v) : Red p n L' B q :=
 ⟨h.vs, h.len, h.rref, fun v => (h.span v).trans (hs v), h.pos⟩
end Go.Proofs.Ytkgajpngeglkmaa.B.LinT
set_option linter.unusedVariables false
set_option linter.unusedSimpArgs false
namespace Go.Proofs.Ytkgajpngeglkmaa.B
open Go.RowKit Go.Proofs.YtkgajpngeglkmaaW.PrintWords
open LinT
theorem qCd {a : Int} {p : Nat} (h : 0 ≤ a) : Int.tmod a (p : Int) = a % (p : Int) := Int.tmod_eq_emod_of_nonneg h
theorem qH6 (p : Nat) (hp : 2 ≤ p) (hp2 : p ≤ 251) : ∀ (e x0 x7 : Nat), e ≤ 1000 → x0 < p → x7 < p → Ev (fun k => z139.l0 k (x0 : Int) (e : Int) (p : Int) (x7 : Int)) ((x7 * x0 ^ e % p : Nat) : Int) := by
 intro e
 induction e using Nat.strongRecOn with
 | _ e ih =>
  intro x0 x7 he h0 h7
  refine Ev.step (fun k => z139.l0.eq_2 ..) ?_
  rcases Nat.eq_zero_or_pos e with h | h
  ·subst h
   refine qAd oM_ (qBa (Ev.now _) ?_)
   rw [Nat.pow_zero, Nat.mul_one, Nat.mod_eq_of_lt h7]
  ·have hb : x0 * x0 ≤ 250 * 250 := yj_ oM_ oM_
   have hb2 : x7 * x0 ≤ 250 * 250 := yj_ oM_ oM_
   have e1 : Int.tmod (wrap64 ((x0 : Int) * (x0 : Int))) (p : Int) = ((x0 * x0 % p : Nat) : Int) := by
    rw [← yi_, qAq oM_ oM_, qCd oM_]; simp
   have e2 : wrap64 (Int.tdiv (e : Int) 2) = ((e / 2 : Nat) : Int) := by
    have : Int.tdiv (e : Int) 2 = ((e / 2 : Nat) : Int) := by rw [Int.tdiv_eq_ediv_of_nonneg oM_]; simp
    rw [this, qAq oM_ oM_]
   have e3 : Int.tmod (e : Int) 2 = ((e % 2 : Nat) : Int) := by rw [Int.tmod_eq_emod_of_nonneg oM_]; simp
   have e4 : Int.tmod (wrap64 ((x7 : Int) * (x0 : Int))) (p : Int) = ((x7 * x0 % p : Nat) : Int) := by
    rw [← yi_, qAq oM_ oM_, qCd oM_]; simp
   have hpow : x0 ^ e = (x0 * x0) ^ (e / 2) * x0 ^ (e % 2) := by
    rw [← Nat.pow_two, ← Nat.pow_mul, ← Nat.pow_add, Nat.div_add_mod]
   have hm : ∀ y, y % p * (x0 * x0 % p) ^ (e / 2) % p = y * (x0 * x0) ^ (e / 2) % p := fun y => by
    rw [Nat.mul_mod, Nat.pow_mod, Nat.mod_mod, Nat.mod_mod, ← Nat.pow_mod, ← Nat.mul_mod]
   refine qAa oM_ ?_
   rw [e1, e2, e3, e4]
   have hp0 : 0 < p := by omega
   rcases Nat.mod_two_eq_zero_or_one e with h2 | h2
   ·refine qAd (by rw [h2]; decide) (qAd oM_ ?_)
    refine qBa (ih (e / 2) oM_ (x0 * x0 % p) x7 oM_ (Nat.mod_lt _ hp0) h7) ?_
    have := hm x7
    rw [Nat.mod_eq_of_lt h7] at this
    rw [this, hpow, h2, Nat.pow_zero, Nat.mul_one]
   ·refine qAa (by rw [h2]; decide) (qAd oM_ ?_)
    refine qBa (ih (e / 2) oM_ (x0 * x0 % p) (x7 * x0 % p) oM_ (Nat.mod_lt _ hp0) (Nat.mod_lt _ hp0)) ?_
    rw [hm, hpow, h2, Nat.pow_one, Nat.mul_assoc, Nat.mul_comm x0]
theorem qH9 {p a : Nat} (hp : isP p = true) (ha : a < p) : Ev (fun k => z131.f k (a : Int) (p : Int)) ((a ^ (p - 2) % p : Nat) : Int) := by
 have h2 := qBp hp
 unfold z131.f z139.f
 have e : wrap64 ((p : Int) - 2) = ((p - 2 : Nat) : Int) := by rw [qAq oM_ oM_]; omega
 rw [e]
 have h := qH6 p h2.1 h2.2 (p - 2) a 1 oM_ ha oM_
 rw [Nat.one_mul] at h
 exact Ev.bind h (Ev.now _)
def addT (p : Nat) (x y : List Int) (c : Int) : List Int := (List.range x.length).map fun j => (x.getD j 0 + c * y.getD j 0) % (p : Int)
def Rng (p : Nat) (x : List Int) : Prop := ∀ y, y ∈ x → 0 ≤ y ∧ y < (p : Int)
theorem qCq {p : Nat} {x : List Int} (h : Rng p x) {j : Nat} (hj : j < x.length) : 0 ≤ x.getD j 0 ∧ x.getD j 0 < (p : Int) := h _ (qAz 0 hj)
theorem qF4 (p : Nat) (x y : List Int) (c : Int) : (addT p x y c).length = x.length := by simp [addT]
theorem qF5 {p : Nat} {x y : List Int} {c : Int} {j : Nat} (hj : j < x.length) : (addT p x y c).getD j 0 = (x.getD j 0 + c * y.getD j 0) % (p : Int) := by
 unfold addT
 rw [ya_, List.getElem?_map, List.getElem?_range hj]; rfl
theorem qF3 {p : Nat} (hp : 0 < p) (x y : List Int) (c : Int) : Rng p (addT p x y c) := by
 intro z hz
 obtain ⟨j, _, rfl⟩ := List.mem_map.1 hz
 exact ⟨Int.emod_nonneg _ oM_, Int.emod_lt_of_pos _ oM_⟩
theorem qC4 {p : Nat} (hp0 : 0 < p) (hp : p ≤ 251) (x y : List Int) (c : Int) (hx : Rng p x) (hy : Rng p y) (hl : x.length ≤ y.length) (hm : x.length ≤ 1048576) (hc0 : 0 ≤ c) (hc : c ≤ 251) :
  Ev (fun k => z108.f k x y c (p : Int)) (addT p x y c) := by
 unfold z108.f
 refine qGp (fun s i k => z108.l0 k x y c (p : Int) s (x.length : Int) (i : Int)) (fun j => (x.getD j 0 + c * y.getD j 0) % (p : Int)) x.length (fun j s hj hs r hr => ?_) _ ?_
 ·have hsl : s.length = j := by rw [hs]; simp
  have a := qCq hx hj
  have b := qCq hy (j := j) oM_
  have hcb : 0 ≤ c * y.getD j 0 := Int.mul_nonneg hc0 b.1
  have hcb2 : c * y.getD j 0 ≤ 251 * 251 := Int.mul_le_mul hc oM_ b.1 (by decide)
  refine Ev.step (fun k => z108.l0.eq_2 ..) ?_
  (repeat (first | refine qAa oM_ ?_ | refine qAd oM_ ?_))
  rw [qAo oM_, qBc, qBc, qAq (x := c * y.getD j 0) oM_ oM_, qAq oM_ oM_, qCd oM_]
  exact hr
 ·refine Ev.step (fun k => z108.l0.eq_2 ..) ?_
  exact qAd oM_ (Ev.now _)
theorem qH2 {p : Nat} (hp : 2 ≤ p) (hp2 : p ≤ 251) {a : Int} (h0 : -1000000000 ≤ a) (h1 : a ≤ 1000000000) : z116.f a (p : Int) = some (a % (p : Int)) := by
 unfold z116.f
 rw [if_neg oM_]
 have h2 : Int.tmod a (p : Int) = a % (p : Int) ∨ Int.tmod a (p : Int) = a % (p : Int) - (p : Int) := by
  rw [Int.tmod_eq_emod]
  split
  ·left; omega
  ·right; simp
 have h3 := Int.emod_nonneg a (b := (p : Int)) oM_
 have h4 := Int.emod_lt_of_pos a (b := (p : Int)) oM_
 congr 1
 rcases h2 with h | h
 ·rw [h, qAq oM_ oM_, qCd oM_]; simp
 ·rw [h, qAq oM_ oM_, qCd oM_]; simp
end Go.Proofs.Ytkgajpngeglkmaa.B
set_option linter.unusedVariables false
set_option linter.unusedSimpArgs false
namespace Go.Proofs.Ytkgajpngeglkmaa.B
open Go.RowKit Go.Proofs.YtkgajpngeglkmaaW.PrintWords
open LinT
theorem qKy (l : List (List Int)) (c : Nat) (hc : ∀ x, x ∈ l → c < x.length) (hl : l.length ≤ 1048576) :
  ∃ t : Int, Ev (fun k => z162.f k l (c : Int)) t ∧ ((t = -1 ∧ ∀ i, i < l.length → rw' l i c = 0) ∨ ∃ i : Nat, t = (i : Int) ∧ i < l.length ∧ rw' l i c ≠ 0) := by
 unfold z162.f
 have main : ∀ (d i : Nat), i + d = l.length → (∀ j, j < i → rw' l j c = 0) → ∃ t : Int, Ev (fun k => z162.l0 k l (l.length : Int) (i : Int) (c : Int)) t ∧ ((t = -1 ∧ ∀ i, i < l.length → rw' l i c = 0) ∨ ∃ i : Nat, t = (i : Int) ∧ i < l.length ∧ rw' l i c ≠ 0) := by
  intro d
  induction d with
  | zero =>
   intro i hi hz
   refine ⟨-1, ?_, .inl ⟨rfl, fun j hj => hz j oM_⟩⟩
   refine Ev.step (fun k => z162.l0.eq_2 ..) ?_
   exact qAd oM_ (Ev.now _)
  | succ d ih =>
   intro i hi hz
   have hlen := hc (l.getD i []) (qAz [] oM_)
   have hv : z130.f (rI_ l (i : Int)) (c : Int) = some (rw' l i c != 0) := by
    unfold z130.f
    rw [qAx, if_pos oM_, if_pos oM_, qBc]; rfl
   by_cases h : rw' l i c = 0
   ·obtain ⟨t, ht, hh⟩ := ih (i + 1) oM_ (fun j hj => by
     rcases Nat.lt_or_ge j i with h1 | h1
     ·exact hz j h1
     ·have : j = i := by omega
      rw [this]; exact h)
    refine ⟨t, ?_, hh⟩
    refine Ev.step (fun k => z162.l0.eq_2 ..) ?_
    (repeat (first | refine qAa oM_ ?_ | refine qAd oM_ ?_))
    refine Ev.bind (qAt hv) (qAd (by rw [h]; decide) ?_)
    rw [qAo oM_]; exact ht
   ·refine ⟨(i : Int), ?_, .inr ⟨i, rfl, by omega, h⟩⟩
    refine Ev.step (fun k => z162.l0.eq_2 ..) ?_
    (repeat (first | refine qAa oM_ ?_ | refine qAd oM_ ?_))
    exact Ev.bind (qAt hv) (qAa (by simpa using h) (Ev.now _))
 exact main l.length 0 oM_ (fun j hj => by omega)
theorem qCm {p : Int} {n : Nat} {R : List (List Int)} (h : Vs p n R) {i : Nat} (hi : i < R.length) : (R.getD i []).length = n := (h _ (qAz [] hi)).1
theorem qCo {p : Nat} {n : Nat} {R : List (List Int)} (h : Vs (p : Int) n R) {i : Nat} (hi : i < R.length) : Rng p (R.getD i []) := (h _ (qAz [] hi)).2
theorem qIf {p : Int} {n : Nat} {R : List (List Int)} (h : Vs p n R) (i : Nat) {x : List Int} (hx : x.length = n) (hr : ∀ y, y ∈ x → 0 ≤ y ∧ y < p) : Vs p n (R.set i x) := by
 intro y hy
 rcases List.mem_or_eq_of_mem_set hy with h1 | h1
 ·exact h y h1
 ·rw [h1]; exact ⟨hx, hr⟩
theorem qBw {R : List (List Int)} {a : Nat} (b : Nat) (x : List Int) (ha : a < R.length) : (R.set a x).getD b [] = if b = a then x else R.getD b [] := by
 rw [ya_, List.getElem?_set, ya_]
 by_cases h : b = a
 ·subst h; simp [ha]
 ·rw [if_neg (Ne.symm h), if_neg h]
def clr (p top c : Nat) (R : List (List Int)) (i : Nat) : List Int :=
 if i = top then R.getD i [] else if rw' R i c = 0 then R.getD i [] else addT p (R.getD i []) (R.getD top []) ((p : Int) - rw' R i c)
structure Clr (p n top c : Nat) (R0 : List (List Int)) (i : Nat) (R : List (List Int)) : Prop where
 len : R.length = R0.length
 at_ : ∀ j, j < R0.length → R.getD j [] = if j < i then clr p top c R0 j else R0.getD j []
theorem clr_ok {p n : Nat} (hp : 0 < p) {top c : Nat} {R : List (List Int)} (h : Vs (p : Int) n R) {i : Nat} (hi : i < R.length) : (clr p top c R i).length = n ∧ Rng p (clr p top c R i) := by
 unfold clr
 split
 ·exact ⟨qCm h hi, qCo h hi⟩
 ·split
  ·exact ⟨qCm h hi, qCo h hi⟩
  ·exact ⟨by rw [qF4, qCm h hi], qF3 hp _ _ _⟩
theorem Clr.vs {p n : Nat} (hp : 0 < p) {top c : Nat} {R0 R : List (List Int)} {i : Nat} (h0 : Vs (p : Int) n R0) (h : Clr p n top c R0 i R) : Vs (p : Int) n R := by
 intro x hx
 obtain ⟨j, hj, rfl⟩ := List.getElem_of_mem hx
 have e : R[j] = R.getD j [] := by rw [ya_, yb_ hj]; rfl
 have hj0 : j < R0.length := by rw [← h.len]; exact hj
 rw [e, h.at_ j hj0]
 split
 ·exact clr_ok hp h0 hj0
 ·exact ⟨qCm h0 hj0, qCo h0 hj0⟩
theorem qJ3 {p n : Nat} (hp : isP p = true) (hn : n ≤ 1048576) {top c : Nat} (hc : c < n) {R0 : List (List Int)} (hv : Vs (p : Int) n R0) (ht : top < R0.length) (hm : R0.length ≤ 1048576) (q : List Int) (hq : q.length ≤ 1048576) (det : Int) {β : Int × Int} :
  ∃ R, Clr p n top c R0 R0.length R ∧ ∀ r, Ev (fun k => z113.l0 k R (n : Int) (p : Int) (q ++ [(c : Int)]) det (n : Int) ((c + 1 : Nat) : Int)) r →
   Ev (fun k => z113.l1 k R0 (n : Int) (p : Int) q det (top : Int) (n : Int) (c : Int) (R0.length : Int) 0 (c : Int)) r := by
 have h2 := qBp hp
 have main : ∀ (d i : Nat) (R : List (List Int)), i + d = R0.length → Clr p n top c R0 i R → ∃ R', Clr p n top c R0 R0.length R' ∧ ∀ r, Ev (fun k => z113.l0 k R' (n : Int) (p : Int) (q ++ [(c : Int)]) det (n : Int) ((c + 1 : Nat) : Int)) r →
   Ev (fun k => z113.l1 k R (n : Int) (p : Int) q det (top : Int) (n : Int) (c : Int) (R0.length : Int) (i : Int) (c : Int)) r := by
  intro d
  induction d with
  | zero =>
   intro i R hi hR
   have : i = R0.length := by omega
   subst this
   refine ⟨R, hR, fun r hr => ?_⟩
   refine Ev.step (fun k => z113.l1.eq_2 ..) ?_
   refine qAd oM_ (qAa oM_ ?_)
   rw [qAo oM_]; exact hr
  | succ d ih =>
   intro i R hi hR
   have hRv := hR.vs oM_ hv
   have hRl := hR.len
   have hrow : R.getD i [] = R0.getD i [] := by rw [hR.at_ i oM_, if_neg oM_]
   have htop : R.getD top [] = R0.getD top [] := by
    rw [hR.at_ top ht]
    split
    ·unfold clr; rw [if_pos rfl]
    ·rfl
   have hlen := qCm hv (i := i) oM_
   have hval : rd (rI_ R (i : Int)) (c : Int) = rw' R0 i c := by rw [qAx, qBc, hrow]; rfl
   by_cases h1 : i = top
   ·obtain ⟨R', h3, h4⟩ := ih (i + 1) R oM_ ⟨hRl, fun j hj => by
     rw [hR.at_ j hj]
     by_cases hji : j = i
     ·rw [hji, if_neg (Nat.lt_irrefl i), if_pos (Nat.lt_succ_self i)]; unfold clr; rw [if_pos h1]
     ·by_cases hjl : j < i
      ·rw [if_pos hjl, if_pos oM_]
      ·rw [if_neg hjl, if_neg oM_]⟩
    refine ⟨R', h3, fun r hr => ?_⟩
    refine Ev.step (fun k => z113.l1.eq_2 ..) ?_
    refine qAa oM_ (qAa oM_ (qAa oM_ (qAa oM_ ?_)))
    rw [qAo oM_]; exact h4 r hr
   ·by_cases h0 : rw' R0 i c = 0
    ·obtain ⟨R', h3, h4⟩ := ih (i + 1) R oM_ ⟨hRl, fun j hj => by
      rw [hR.at_ j hj]
      by_cases hji : j = i
      ·rw [hji, if_neg (Nat.lt_irrefl i), if_pos (Nat.lt_succ_self i)]; unfold clr; rw [if_neg h1, if_pos h0]
      ·by_cases hjl : j < i
       ·rw [if_pos hjl, if_pos oM_]
       ·rw [if_neg hjl, if_neg oM_]⟩
     refine ⟨R', h3, fun r hr => ?_⟩
     refine Ev.step (fun k => z113.l1.eq_2 ..) ?_
     rw [hval]
     refine qAa oM_ (qAa oM_ (qAa oM_ (qAd oM_ (qAa oM_ (qAa (by rw [qAx, hrow, hlen]; omega) (qAa h0 ?_))))))
     rw [qAo oM_]; exact h4 r hr
    ·have hb := qCq (qCo hv (i := i) oM_) (j := c) oM_
     have hb' : 0 ≤ rw' R0 i c ∧ rw' R0 i c < (p : Int) := hb
     have hadd := qC4 (p := p) oM_ h2.2 (R0.getD i []) (R0.getD top []) ((p : Int) - rw' R0 i c) (qCo hv oM_) (qCo hv ht) (by rw [qCm hv ht, hlen]; exact Nat.le_refl _) oM_ oM_ oM_
     obtain ⟨R', h3, h4⟩ := ih (i + 1) (R.set i (addT p (R0.getD i []) (R0.getD top []) ((p : Int) - rw' R0 i c))) oM_ ⟨by rw [ym_, hRl], fun j hj => by
      rw [qBw j _ oM_]
      by_cases hji : j = i
      ·rw [if_pos hji, hji, if_pos (Nat.lt_succ_self i)]; unfold clr; rw [if_neg h1, if_neg h0]
      ·rw [if_neg hji, hR.at_ j hj]
       by_cases hjl : j < i
       ·rw [if_pos hjl, if_pos oM_]
       ·rw [if_neg hjl, if_neg oM_]⟩
     refine ⟨R', h3, fun r hr => ?_⟩
     refine Ev.step (fun k => z113.l1.eq_2 ..) ?_
     rw [hval]
     refine qAa oM_ (qAa oM_ (qAa oM_ (qAd oM_ (qAa oM_ (qAa (by rw [qAx, hrow, hlen]; omega) (qAd h0 (qAa oM_ (qAa oM_ ?_))))))))
     rw [qAx, qAx, hrow, htop, qAq oM_ oM_, qAo oM_]
     exact Ev.bind hadd (h4 r hr)
 obtain ⟨R', h1, h3⟩ := main R0.length 0 R0 oM_ ⟨rfl, fun j hj => by rw [if_neg oM_]⟩
 exact ⟨R', h1, h3⟩
structure StI (p n : Nat) (L : List (List Int)) (c : Nat) (R : List (List Int)) (q : List Int) : Prop where
 len : R.length = L.length
 vs : Vs (p : Int) n R
 pos : ∀ x, x ∈ q → 0 ≤ x
 el : El (p : Int) n L.length (rw' L) c q.length (rw' R) (fun i => (q.getD i 0).toNat)
theorem qD1 (a : Int) (p : Int) : p ∣ a % p - a := by
 have := Int.dvd_neg.2 (Int.dvd_self_sub_emod (x := a) (m := p))
 rwa [show -(a - a % p) = a % p - a by omega] at this
theorem qIy {p n : Nat} (hp : isP p = true) (hn : n ≤ 1048576) {L : List (List Int)} (hm : L.length ≤ 1048576) {c : Nat} (hc : c < n) {R : List (List Int)} {q : List Int} (h : StI p n L c R q) (hq : q.length ≤ c) (hqm : q.length < L.length) (hne : rw' R q.length c ≠ 0) (det : Int) :
  ∃ R' det', StI p n L (c + 1) R' (q ++ [(c : Int)]) ∧ ∀ r, Ev (fun k => z113.l0 k R' (n : Int) (p : Int) (q ++ [(c : Int)]) det' (n : Int) ((c + 1 : Nat) : Int)) r →
   Ev (fun k => z113.j1 k R (n : Int) (p : Int) q det (q.length : Int) (n : Int) (c : Int) (c : Int)) r := by
 have h2 := qBp hp
 have hRl := h.len
 have htop := qCm h.vs (i := q.length) oM_
 have hb : 0 ≤ rw' R q.length c ∧ rw' R q.length c < (p : Int) := qCq (qCo h.vs (i := q.length) oM_) (j := c) oM_
 obtain ⟨a, ha⟩ := Int.eq_ofNat_of_zero_le hb.1
 have hap : a < p := by omega
 have hinv := qH9 hp hap
 have hcong := qHc hp hap oM_
 have hbp : a ^ (p - 2) % p < p := Nat.mod_lt _ oM_
 generalize hbe : a ^ (p - 2) % p = b at hinv hcong hbp
 have hz : Rng p (List.replicate n 0) := fun y hy => by rw [(List.mem_replicate.1 hy).2]; omega
 have hadd := qC4 (p := p) oM_ h2.2 (List.replicate n 0) (R.getD q.length []) (b : Int) hz (qCo h.vs oM_) (by rw [htop]; simp) (by simpa using hn) oM_ oM_
 generalize hR1 : addT p (List.replicate n 0) (R.getD q.length []) (b : Int) = x1 at hadd
 have hx1l : x1.length = n := by rw [← hR1, qF4]; simp
 have hx1r : Rng p x1 := by rw [← hR1]; exact qF3 oM_ _ _ _
 have hx1 : ∀ j, j < n → (p : Int) ∣ x1.getD j 0 - (b : Int) * rw' R q.length j := fun j hj => by
  have e : x1.getD j 0 = ((b : Int) * rw' R q.length j) % (p : Int) := by
   rw [← hR1, qF5 (by simpa using hj)]
   have : (List.replicate n (0 : Int)).getD j 0 = 0 := by simp [ya_, hj]
   rw [this, Int.zero_add]; rfl
  rw [e]; exact qD1 _ _
 have hv1 : Vs (p : Int) n (R.set q.length x1) := qIf h.vs _ hx1l hx1r
 obtain ⟨R2, hclr, hgo⟩ := qJ3 (β := (0, 0)) hp hn hc hv1 (top := q.length) (by rw [ym_]; omega) (by rw [ym_]; omega) q oM_ (Int.tmod (wrap64 (det * (a : Int))) (p : Int))
 have hR2v := hclr.vs oM_ hv1
 have hR2l : R2.length = L.length := by rw [hclr.len, ym_, hRl]
 have htop2 : R2.getD q.length [] = x1 := by
  rw [hclr.at_ _ (by rw [ym_]; omega), if_pos (by rw [ym_]; omega)]
  unfold clr
  rw [if_pos rfl, qBw _ _ oM_, if_pos rfl]
 have hoth : ∀ i, i < L.length → i ≠ q.length → ∀ j, j < n → (p : Int) ∣ rw' R2 i j - (rw' R i j - rw' R i c * rw' R2 q.length j) := fun i hi hne j hj => by
  have e0 : ∀ t, rw' (R.set q.length x1) i t = rw' R i t := fun t => by unfold rw'; rw [qBw _ _ oM_, if_neg hne]
  have e1 : R2.getD i [] = clr p q.length c (R.set q.length x1) i := by rw [hclr.at_ _ (by rw [ym_]; omega), if_pos (by rw [ym_]; omega)]
  have e2 : (R.set q.length x1).getD i [] = R.getD i [] := by rw [qBw _ _ oM_, if_neg hne]
  have e3 : (R.set q.length x1).getD q.length [] = x1 := by rw [qBw _ _ oM_, if_pos rfl]
  have e4 : rw' R2 q.length j = x1.getD j 0 := by unfold rw' vec; rw [htop2]
  unfold clr at e1
  rw [if_neg hne, e0 c, e2, e3] at e1
  by_cases hz : rw' R i c = 0
  ·rw [if_pos hz] at e1
   have : rw' R2 i j = rw' R i j := by unfold rw'; rw [e1]
   rw [this, hz, Int.zero_mul]; simp
  ·rw [if_neg hz] at e1
   have : rw' R2 i j = (rw' R i j + ((p : Int) - rw' R i c) * x1.getD j 0) % (p : Int) := by
    unfold rw' vec
    rw [e1, qF5 (by rw [qCm h.vs oM_]; exact hj)]
    rfl
   rw [this, e4]
   have h5 := qD1 (rw' R i j + ((p : Int) - rw' R i c) * x1.getD j 0) (p : Int)
   have h6 := yq_ h5 (Int.dvd_mul_right (p : Int) (x1.getD j 0))
   rwa [show (rw' R i j + ((p : Int) - rw' R i c) * x1.getD j 0) % (p : Int) - (rw' R i j + ((p : Int) - rw' R i c) * x1.getD j 0) + (p : Int) * x1.getD j 0 = (rw' R i j + ((p : Int) - rw' R i c) * x1.getD j 0) % (p : Int) - (rw' R i j - rw' R i c * x1.getD j 0) by grind] at h6
 have hqs : ∀ i, i < q.length → ((q ++ [(c : Int)]).getD i 0) = q.getD i 0 := fun i hi => by
  rw [ya_, List.getElem?_append_left hi, ya_]
 refine ⟨R2, Int.tmod (wrap64 (det * (a : Int))) (p : Int), ⟨hR2l, hR2v, fun x hx => ?_, ?_⟩, fun r hr => ?_⟩
 ·rcases List.mem_append.1 hx with h1 | h1
  ·exact h.pos x h1
  ·rw [List.mem_singleton.1 h1]; omega
 ·rw [yg_]
  refine h.el.step hc hqm (b := (b : Int)) (by rw [ha]; exact hcong) (fun j hj => ?_) (fun i j hi hne hj => hoth i hi hne j hj) (fun i hi => by rw [hqs i hi]) (by simp) (fun i j hi hj => ?_) (fun i j hi hj => ?_)
  ·have : rw' R2 q.length j = x1.getD j 0 := by unfold rw' vec; rw [htop2]
   rw [this]; exact hx1 j hj
  ·exact (qDo hR2v oM_ hj).1
  ·exact (qDo hR2v oM_ hj).2
 ·refine Ev.step (fun k => z113.j1.eq_2 ..) ?_
  have hrd : rd (rI_ R (q.length : Int)) (c : Int) = (a : Int) := by rw [qAx, qBc, ← ha]; rfl
  rw [hrd]
  refine qAa oM_ (qAa oM_ (qAa oM_ (qAa (by rw [qAx, htop]; omega) (qAd oM_ (qAa oM_ (qAa oM_ (Ev.bind hinv ?_)))))))
  rw [qAx]
  refine Ev.bind (by simpa using hadd) ?_
  have := hgo r hr
  rw [ym_] at this
  simpa using this
theorem qK2 {p n : Nat} (hp : isP p = true) (hn : n ≤ 1048576) {L : List (List Int)} (hm : L.length ≤ 1048576) (hL : Vs (p : Int) n L) :
  ∃ R q det, Ev (fun k => z113.f k L (n : Int) (p : Int)) (q, det, R) ∧ StI p n L n R q := by
 have h2 := qBp hp
 unfold z113.f
 have main : ∀ (d c : Nat) (R : List (List Int)) (q : List Int) (det : Int), c + d = n → q.length ≤ c → StI p n L c R q →
   ∃ R' q' det', Ev (fun k => z113.l0 k R (n : Int) (p : Int) q det (n : Int) (c : Int)) (q', det', R') ∧ StI p n L n R' q' := by
  intro d
  induction d with
  | zero =>
   intro c R q det hc hq h
   have : c = n := by omega
   subst this
   refine ⟨R, q, det, ?_, h⟩
   refine Ev.step (fun k => z113.l0.eq_2 ..) ?_
   exact qAd oM_ (Ev.now _)
  | succ d ih =>
   intro c R q det hc hq h
   have hrm := h.el.g.rm
   have hRl := h.len
   obtain ⟨t, ht, hd⟩ := qKy (R.drop q.length) c (fun x hx => by have := (h.vs x (List.mem_of_mem_drop hx)).1; omega) (by rw [List.length_drop]; omega)
   have hdrop : ∀ i, i < (R.drop q.length).length → rw' (R.drop q.length) i c = rw' R (q.length + i) c := fun i hi => by
    unfold rw' vec
    rw [ya_ (l := R.drop q.length), List.getElem?_drop, ← ya_]
   have hdl : (R.drop q.length).length = L.length - q.length := by rw [List.length_drop, hRl]
   rcases hd with ⟨e, hz⟩ | ⟨i, e, hi, hne⟩
   ·subst e
    obtain ⟨R', q', det', h3, h4⟩ := ih (c + 1) R q 0 oM_ oM_ ⟨h.len, h.vs, h.pos, h.el.none (fun i h1 h3 => by
     have := hz (i - q.length) oM_
     rw [hdrop _ oM_, show q.length + (i - q.length) = i by omega] at this; exact this)⟩
    refine ⟨R', q', det', ?_, h4⟩
    refine Ev.step (fun k => z113.l0.eq_2 ..) ?_
    refine qAa oM_ (qAa oM_ (qAa oM_ (Ev.bind (by simpa using ht) (qAa (by decide) ?_))))
    rw [qAo oM_]; exact h3
   ·subst e
    rw [hdrop i hi] at hne
    have hqm : q.length < L.length := by omega
    rcases Nat.eq_zero_or_pos i with h0 | h0
    ·subst h0
     rw [Nat.add_zero] at hne
     obtain ⟨R1, det1, hst, hgo⟩ := qIy hp hn hm oM_ h hq hqm hne det
     obtain ⟨R', q', det', h3, h4⟩ := ih (c + 1) R1 (q ++ [(c : Int)]) det1 oM_ (by simp; omega) hst
     refine ⟨R', q', det', ?_, h4⟩
     refine Ev.step (fun k => z113.l0.eq_2 ..) ?_
     refine qAa oM_ (qAa oM_ (qAa oM_ (Ev.bind (by simpa using ht) (qAd (by decide) (qAd (by decide) ?_)))))
     exact hgo _ h3
    ·have g1 : (c : Int) < (n : Int) := by omega
     have g2 : (0 : Int) ≤ (q.length : Int) := by omega
     have g3 : (q.length : Int) ≤ (R.length : Int) := by omega
     have g4 : ¬ ((i : Int) < 0) := by omega
     have g5 : (i : Int) > 0 := by omega
     have g6 : (0 : Int) ≤ ((q.length + i : Nat) : Int) := by omega
     have g7 : ((q.length + i : Nat) : Int) < (R.length : Int) := by omega
     have g8 : (q.length : Int) < (R.length : Int) := by omega
     have hs : StI p n L c ((R.set q.length (R.getD (q.length + i) [])).set (q.length + i) (R.getD q.length [])) q := by
      refine ⟨by simp [hRl], qIf (qIf h.vs _ (qCm h.vs oM_) (qCo h.vs oM_)) _ (qCm h.vs oM_) (qCo h.vs oM_), h.pos, ?_⟩
      have hat : ∀ j, ((R.set q.length (R.getD (q.length + i) [])).set (q.length + i) (R.getD q.length [])).getD j [] = if j = q.length + i then R.getD q.length [] else if j = q.length then R.getD (q.length + i) [] else R.getD j [] := fun j => by
       rw [qBw _ _ (by rw [ym_]; omega), qBw _ _ oM_]
      refine h.el.swap (a := q.length + i) oM_ oM_ (fun j => ?_) (fun j => ?_) (fun k j hk h1 h3 => ?_)
      ·unfold rw'; rw [hat, if_neg oM_, if_pos rfl]
      ·unfold rw'; rw [hat, if_pos rfl]
      ·unfold rw'; rw [hat, if_neg h3, if_neg h1]
     have hne' : rw' ((R.set q.length (R.getD (q.length + i) [])).set (q.length + i) (R.getD q.length [])) q.length c ≠ 0 := by
      have : ((R.set q.length (R.getD (q.length + i) [])).set (q.length + i) (R.getD q.length [])).getD q.length [] = R.getD (q.length + i) [] := by
       rw [qBw _ _ (by rw [ym_]; omega), if_neg oM_, qBw _ _ oM_, if_pos rfl]
      unfold rw'; rw [this]; exact hne
     have hred : ∃ d2, z116.f (wrap64 (-det)) (p : Int) = some d2 := ⟨_, by unfold z116.f; rw [if_neg oM_]⟩
     obtain ⟨d2, hd2⟩ := hred
     obtain ⟨R1, det1, hst, hgo⟩ := qIy hp hn hm oM_ hs hq hqm hne' d2
     obtain ⟨R', q', det', h3, h4⟩ := ih (c + 1) R1 (q ++ [(c : Int)]) det1 oM_ (by simp; omega) hst
     refine ⟨R', q', det', ?_, h4⟩
     refine Ev.step (fun k => z113.l0.eq_2 ..) ?_
     have hw : wrap64 ((q.length : Int) + (i : Int)) = ((q.length + i : Nat) : Int) := by rw [qAq oM_ oM_]; omega
     refine qAa g1 (qAa g2 (qAa g3 (Ev.bind (by simpa using ht) (qAd g4 (qAa g5 ?_)))))
     rw [hw]
     refine qAa g6 (qAa g7 (qAa g8 (Ev.bind (qAt hd2) ?_)))
     rw [qAx, qAx, yd_, yd_]
     exact hgo _ h3
 obtain ⟨R', q', det', h3, h4⟩ := main n 0 L [] 1 oM_ (by simp) ⟨rfl, hL, fun x hx => by simp at hx, El.start (fun i j hi hj => (qDo hL hi hj).1) (fun i j hi hj => (qDo hL hi hj).2) _⟩
 exact ⟨R', q', det', h3, h4⟩
theorem StI.red {p n : Nat} {L R : List (List Int)} {q : List Int} (h : StI p n L n R q) : Red (p : Int) n L (R.take q.length) q := Red.of h.len h.vs rfl h.pos h.el
end Go.Proofs.Ytkgajpngeglkmaa.B
set_option linter.unusedVariables false
set_option linter.unusedSimpArgs false
namespace Go.Proofs.Ytkgajpngeglkmaa.B
open Go.RowKit Go.Proofs.YtkgajpngeglkmaaW.PrintWords
open LinT
theorem qHb {p : Nat} (hp0 : 2 ≤ p) (hp : p ≤ 251) {a : Nat} (ha : a < p) : ∀ (n x : Nat), n ≤ 1000 → x < p → Ev (fun k => z137.l0 k (a : Int) (p : Int) (x : Int) (n : Int)) ((x * a ^ n % p : Nat) : Int) := by
 intro n
 induction n with
 | zero =>
  intro x _ hx
  refine Ev.step (fun k => z137.l0.eq_2 ..) ?_
  refine qAd oM_ (qBa (Ev.now _) ?_)
  rw [Nat.pow_zero, Nat.mul_one, Nat.mod_eq_of_lt hx]
 | succ n ih =>
  intro x hn hx
  have hb : x * a ≤ 250 * 250 := yj_ oM_ oM_
  have e1 : Int.tmod (wrap64 ((x : Int) * (a : Int))) (p : Int) = ((x * a % p : Nat) : Int) := by
   rw [← yi_, qAq oM_ oM_, qCd oM_]; simp
  have e2 : wrap64 (((n + 1 : Nat) : Int) - 1) = (n : Int) := by rw [qAq oM_ oM_]; omega
  refine Ev.step (fun k => z137.l0.eq_2 ..) ?_
  rw [e1, e2]
  clear e1 e2
  refine qAa oM_ (qAd oM_ (qBa (ih (x * a % p) oM_ (Nat.mod_lt _ oM_)) ?_))
  rw [Nat.mod_mul_mod, Nat.pow_succ, Nat.mul_assoc, Nat.mul_comm a]
theorem qE2 {p a : Nat} (hp : isP p = true) (ha : a < p) : Ev (fun k => z137.f k (a : Int) (p : Int)) ((a ^ (p - 2) % p : Nat) : Int) := by
 have h2 := qBp hp
 unfold z137.f
 have e : wrap64 ((p : Int) - 2) = ((p - 2 : Nat) : Int) := by rw [qAq oM_ oM_]; omega
 rw [e]
 have h := qHb h2.1 h2.2 ha (p - 2) 1 oM_ oM_
 rwa [Nat.one_mul] at h
theorem qKu {p : Nat} (hp : 2 ≤ p) (hp2 : p ≤ 251) {a : Int} (h0 : -1000000000 ≤ a) (h1 : a ≤ 1000000000) : z138.f a (p : Int) = some (a % (p : Int)) := by
 have := qH2 hp hp2 h0 h1
 unfold z116.f at this
 unfold z138.f
 exact this
theorem ix {i w j : Nat} (hi : i ≤ 1024) (hw : w ≤ 1024) (hj : j ≤ 1024) : wrap64 (wrap64 ((i : Int) * (w : Int)) + (j : Int)) = ((i * w + j : Nat) : Int) := by
 have hb : i * w ≤ 1024 * 1024 := yj_ hi hw
 rw [← yi_, qAq (x := ((i * w : Nat) : Int)) oM_ oM_, qAq oM_ oM_]; omega
theorem rdfl (w : Nat) (X : List Int) (i j : Nat) : rd X ((i * w + j : Nat) : Int) = fl w X i j := qBc X _
section
variable {p w m : Nat} (hp : isP p = true) (hw : w ≤ 1024) (hm : m ≤ 1024) (X0 : List Int) (q : List Int) (det : Int)
include hp hw hm
omit hp in
theorem qJz {row c : Nat} (hr : row ≤ m) (hc : c < w) {X : List Int} (hX : X.length = m * w) : ∃ t, row ≤ t ∧ t ≤ m ∧ ((t = m ∧ ∀ i, row ≤ i → i < m → fl w X i c = 0) ∨ (t < m ∧ fl w X t c ≠ 0)) ∧
  Le (fun k => z119.j3 k (p : Int) (w : Int) q det (row : Int) (c : Int) (t : Int) (p : Int) (m : Int) (w : Int) X0 (p : Int) (m : Int) (w : Int) X) (fun k => z119.l1 k (p : Int) (w : Int) q det (row : Int) (c : Int) (row : Int) (p : Int) (m : Int) (w : Int) X0 (p : Int) (m : Int) (w : Int) X) := by
 have main : ∀ (d t : Nat), t + d = m → row ≤ t → (∀ i, row ≤ i → i < t → fl w X i c = 0) → ∃ t', row ≤ t' ∧ t' ≤ m ∧ ((t' = m ∧ ∀ i, row ≤ i → i < m → fl w X i c = 0) ∨ (t' < m ∧ fl w X t' c ≠ 0)) ∧
  Le (fun k => z119.j3 k (p : Int) (w : Int) q det (row : Int) (c : Int) (t' : Int) (p : Int) (m : Int) (w : Int) X0 (p : Int) (m : Int) (w : Int) X) (fun k => z119.l1 k (p : Int) (w : Int) q det (row : Int) (c : Int) (t : Int) (p : Int) (m : Int) (w : Int) X0 (p : Int) (m : Int) (w : Int) X) := by
  intro d
  induction d with
  | zero =>
   intro t ht h1 hz
   have : t = m := by omega
   subst this
   refine ⟨t, h1, Nat.le_refl _, .inl ⟨rfl, hz⟩, fun r hr => ?_⟩
   refine Ev.step (fun k => z119.l1.eq_2 ..) ?_
   exact qAd oM_ hr
  | succ d ih =>
   intro t ht h1 hz
   have hlt := qCt (show t < m by omega) hc
   have e := ix (i := t) (w := w) (j := c) oM_ hw oM_
   by_cases h : fl w X t c = 0
   ·obtain ⟨t', a1, a2, a3, a4⟩ := ih (t + 1) oM_ oM_ (fun i hi hi2 => by
     rcases Nat.lt_or_ge i t with hl | hg
     ·exact hz i hi hl
     ·rw [show i = t by omega]; exact h)
    refine ⟨t', a1, a2, a3, fun r hr => ?_⟩
    have := a4 r hr
    refine Ev.step (fun k => z119.l1.eq_2 ..) ?_
    rw [e, rdfl]
    clear e
    refine qAa oM_ (qAa oM_ (qAa oM_ (qAa h ?_)))
    rw [qAo oM_]; exact this
   ·refine ⟨t, h1, by omega, .inr ⟨by omega, h⟩, fun r hr => ?_⟩
    refine Ev.step (fun k => z119.l1.eq_2 ..) ?_
    rw [e, rdfl]
    clear e
    exact qAa oM_ (qAa oM_ (qAa oM_ (qAd h hr)))
 exact main (m - row) row oM_ (Nat.le_refl _) (fun i h1 h2 => by omega)
omit hp in
theorem qJq {row c t : Nat} (hr : row < m) (ht : t < m) (hne : row ≠ t) {X : List Int} (hX : X.length = m * w) : ∃ Y, Swp w X row t w Y ∧
  Le (fun k => z119.j5 k (p : Int) (w : Int) q det (row : Int) (c : Int) (p : Int) (m : Int) (w : Int) X0 (p : Int) (m : Int) (w : Int) Y) (fun k => z119.l2 k (p : Int) (w : Int) q det (row : Int) (c : Int) (t : Int) 0 (p : Int) (m : Int) (w : Int) X0 (p : Int) (m : Int) (w : Int) X) := by
 have main : ∀ (d j : Nat) (Y : List Int), j + d = w → Swp w X row t j Y → ∃ Y', Swp w X row t w Y' ∧
  Le (fun k => z119.j5 k (p : Int) (w : Int) q det (row : Int) (c : Int) (p : Int) (m : Int) (w : Int) X0 (p : Int) (m : Int) (w : Int) Y') (fun k => z119.l2 k (p : Int) (w : Int) q det (row : Int) (c : Int) (t : Int) (j : Int) (p : Int) (m : Int) (w : Int) X0 (p : Int) (m : Int) (w : Int) Y) := by
  intro d
  induction d with
  | zero =>
   intro j Y hj hY
   have : j = w := by omega
   subst this
   refine ⟨Y, hY, fun r hr => ?_⟩
   refine Ev.step (fun k => z119.l2.eq_2 ..) ?_
   exact qAd oM_ hr
  | succ d ih =>
   intro j Y hj hY
   have hl := hY.len
   have h1 := qCt hr (show j < w by omega)
   have h2 := qCt ht (show j < w by omega)
   obtain ⟨Y', h3, h4⟩ := ih (j + 1) _ oM_ (hY.next hne oM_ oM_ oM_)
   refine ⟨Y', h3, fun r hr => ?_⟩
   have := h4 r hr
   obtain ⟨e1, e2⟩ := And.intro (ix (i := t) (w := w) (j := j) oM_ hw oM_) (ix (i := row) (w := w) (j := j) oM_ hw oM_)
   refine Ev.step (fun k => z119.l2.eq_2 ..) ?_
   rw [e1, e2, rdfl, rdfl]
   clear e1 e2
   refine qAa oM_ (qAa oM_ (qAa oM_ (qAa oM_ (qAa oM_ ?_))))
   rw [qAo oM_, yd_, yd_]; exact this
 exact main w 0 X oM_ (Swp.start w X row t)
theorem qIo {row c : Nat} (hr : row < m) {inv : Nat} (hi : inv < p) {X : List Int} (hX : X.length = m * w) (hR : Rng p X) : ∃ Y, Upd w X row (fun j => fl w X row j * (inv : Int) % (p : Int)) w Y ∧
  Le (fun k => z119.l4 k (p : Int) (w : Int) q det (row : Int) (c : Int) 0 (p : Int) (m : Int) (w : Int) X0 (p : Int) (m : Int) (w : Int) Y) (fun k => z119.l3 k (p : Int) (w : Int) q det (row : Int) (c : Int) (inv : Int) 0 (p : Int) (m : Int) (w : Int) X0 (p : Int) (m : Int) (w : Int) X) := by
 have hp2 := qBp hp
 have main : ∀ (d j : Nat) (Y : List Int), j + d = w → Upd w X row (fun j => fl w X row j * (inv : Int) % (p : Int)) j Y → ∃ Y', Upd w X row (fun j => fl w X row j * (inv : Int) % (p : Int)) w Y' ∧
  Le (fun k => z119.l4 k (p : Int) (w : Int) q det (row : Int) (c : Int) 0 (p : Int) (m : Int) (w : Int) X0 (p : Int) (m : Int) (w : Int) Y') (fun k => z119.l3 k (p : Int) (w : Int) q det (row : Int) (c : Int) (inv : Int) (j : Int) (p : Int) (m : Int) (w : Int) X0 (p : Int) (m : Int) (w : Int) Y) := by
  intro d
  induction d with
  | zero =>
   intro j Y hj hY
   have : j = w := by omega
   subst this
   refine ⟨Y, hY, fun r hr => ?_⟩
   refine Ev.step (fun k => z119.l3.eq_2 ..) ?_
   exact qAd oM_ hr
  | succ d ih =>
   intro j Y hj hY
   have hl := hY.len
   have h1 := qCt hr (show j < w by omega)
   have hv : fl w Y row j = fl w X row j := by rw [hY.at_ row j oM_, if_neg oM_]
   have hx : 0 ≤ fl w X row j ∧ fl w X row j < (p : Int) := qCq hR oM_
   have hb : 0 ≤ fl w X row j * (inv : Int) ∧ fl w X row j * (inv : Int) ≤ 250 * 250 := ⟨Int.mul_nonneg hx.1 oM_, Int.mul_le_mul oM_ oM_ oM_ (by decide)⟩
   obtain ⟨Y', h3, h4⟩ := ih (j + 1) _ oM_ (hY.next oM_ oM_ (x := fl w X row j * (inv : Int) % (p : Int)) rfl)
   refine ⟨Y', h3, fun r hr => ?_⟩
   have := h4 r hr
   have e2 := ix (i := row) (w := w) (j := j) oM_ hw oM_
   refine Ev.step (fun k => z119.l3.eq_2 ..) ?_
   rw [e2, rdfl, hv]
   clear e2
   refine qAa oM_ (qAa oM_ (qAa oM_ (qAd oM_ ?_)))
   rw [qAo oM_, yd_, qAq oM_ oM_, qCd oM_]; exact this
 exact main w 0 X oM_ (Upd.start w X row _)
theorem qI9 {row c i : Nat} (hr : row < m) (hi : i < m) (hne : i ≠ row) {f : Int} (hf : 0 ≤ f ∧ f < (p : Int)) {X : List Int} (hX : X.length = m * w) (hR : ∀ i j, i < m → j < w → 0 ≤ fl w X i j ∧ fl w X i j < (p : Int)) : ∃ Y, Upd w X i (fun j => (fl w X i j - f * fl w X row j) % (p : Int)) w Y ∧
  Le (fun k => z119.l4 k (p : Int) (w : Int) q det (row : Int) (c : Int) ((i + 1 : Nat) : Int) (p : Int) (m : Int) (w : Int) X0 (p : Int) (m : Int) (w : Int) Y) (fun k => z119.l5 k (p : Int) (w : Int) q det (row : Int) (c : Int) (i : Int) f 0 (p : Int) (m : Int) (w : Int) X0 (p : Int) (m : Int) (w : Int) X) := by
 have hp2 := qBp hp
 have main : ∀ (d j : Nat) (Y : List Int), j + d = w → Upd w X i (fun j => (fl w X i j - f * fl w X row j) % (p : Int)) j Y → ∃ Y', Upd w X i (fun j => (fl w X i j - f * fl w X row j) % (p : Int)) w Y' ∧
  Le (fun k => z119.l4 k (p : Int) (w : Int) q det (row : Int) (c : Int) ((i + 1 : Nat) : Int) (p : Int) (m : Int) (w : Int) X0 (p : Int) (m : Int) (w : Int) Y') (fun k => z119.l5 k (p : Int) (w : Int) q det (row : Int) (c : Int) (i : Int) f (j : Int) (p : Int) (m : Int) (w : Int) X0 (p : Int) (m : Int) (w : Int) Y) := by
  intro d
  induction d with
  | zero =>
   intro j Y hj hY
   have : j = w := by omega
   subst this
   refine ⟨Y, hY, fun r hr => ?_⟩
   refine Ev.step (fun k => z119.l5.eq_2 ..) ?_
   refine qAd oM_ ?_
   rw [qAo oM_]; exact hr
  | succ d ih =>
   intro j Y hj hY
   have hl := hY.len
   have h1 := qCt hr (show j < w by omega)
   have h2 := qCt hi (show j < w by omega)
   have hv : fl w Y i j = fl w X i j := by rw [hY.at_ i j oM_, if_neg oM_]
   have hv2 : fl w Y row j = fl w X row j := by rw [hY.at_ row j oM_, if_neg oM_]
   have hx := hR i j hi oM_
   have hx2 := hR row j hr oM_
   have hb : 0 ≤ f * fl w X row j ∧ f * fl w X row j ≤ 250 * 250 := ⟨Int.mul_nonneg hf.1 hx2.1, Int.mul_le_mul oM_ oM_ hx2.1 (by decide)⟩
   obtain ⟨Y', h3, h4⟩ := ih (j + 1) _ oM_ (hY.next oM_ oM_ (x := (fl w X i j - f * fl w X row j) % (p : Int)) rfl)
   refine ⟨Y', h3, fun r hr => ?_⟩
   have := h4 r hr
   have hmv := qKu (p := p) hp2.1 hp2.2 (a := fl w X i j - f * fl w X row j) oM_ oM_
   have b1 : -9223372036854775808 ≤ f * fl w X row j := by omega
   have b2 : f * fl w X row j ≤ 9223372036854775807 := by omega
   have b3 : -9223372036854775808 ≤ fl w X i j - f * fl w X row j := by omega
   have b4 : fl w X i j - f * fl w X row j ≤ 9223372036854775807 := by omega
   obtain ⟨e1, e2⟩ := And.intro (ix (i := i) (w := w) (j := j) oM_ hw oM_) (ix (i := row) (w := w) (j := j) oM_ hw oM_)
   have e3 : wrap64 (fl w X i j - wrap64 (f * fl w X row j)) = fl w X i j - f * fl w X row j := by rw [qAq b1 b2, qAq b3 b4]
   refine Ev.step (fun k => z119.l5.eq_2 ..) ?_
   rw [e1, e2, rdfl, rdfl, hv, hv2, e3]
   clear e1 e2 e3
   refine qAa oM_ (qAa oM_ (qAa oM_ (qAa oM_ (qAa oM_ (Ev.bind (qAt hmv) ?_)))))
   rw [qAo oM_, yd_]; exact this
 exact main w 0 X oM_ (Upd.start w X i _)
omit hp hw hm in
def cl (p w row c : Nat) (X : List Int) (i j : Nat) : Int := if i = row ∨ fl w X i c = 0 then fl w X i j else (fl w X i j - fl w X i c * fl w X row j) % (p : Int)
omit hp hw hm in
theorem qJa {row c : Nat} (hp0 : 0 < p) {X : List Int} (hR : ∀ i j, i < m → j < w → 0 ≤ fl w X i j ∧ fl w X i j < (p : Int)) {i j : Nat} (hi : i < m) (hj : j < w) : 0 ≤ cl p w row c X i j ∧ cl p w row c X i j < (p : Int) := by
 unfold cl
 split
 ·exact hR i j hi hj
 ·exact ⟨Int.emod_nonneg _ oM_, Int.emod_lt_of_pos _ oM_⟩
theorem qGv {row c : Nat} (hr : row < m) (hc : c < w) (hq : q.length ≤ 1048576) {X : List Int} (hX : X.length = m * w) (hR : ∀ i j, i < m → j < w → 0 ≤ fl w X i j ∧ fl w X i j < (p : Int)) : ∃ Y : List Int, Y.length = X.length ∧ (∀ i j, i < m → j < w → fl w Y i j = cl p w row c X i j) ∧
  Le (fun k => z119.l0 k (p : Int) (w : Int) (q ++ [(c : Int)]) det ((row + 1 : Nat) : Int) ((c + 1 : Nat) : Int) (p : Int) (m : Int) (w : Int) X0 (p : Int) (m : Int) (w : Int) Y) (fun k => z119.l4 k (p : Int) (w : Int) q det (row : Int) (c : Int) 0 (p : Int) (m : Int) (w : Int) X0 (p : Int) (m : Int) (w : Int) X) := by
 have hp2 := qBp hp
 have main : ∀ (d i : Nat) (Y : List Int), i + d = m → Y.length = X.length → (∀ i' j, i' < m → j < w → fl w Y i' j = if i' < i then cl p w row c X i' j else fl w X i' j) → ∃ Y' : List Int, Y'.length = X.length ∧ (∀ i j, i < m → j < w → fl w Y' i j = cl p w row c X i j) ∧
  Le (fun k => z119.l0 k (p : Int) (w : Int) (q ++ [(c : Int)]) det ((row + 1 : Nat) : Int) ((c + 1 : Nat) : Int) (p : Int) (m : Int) (w : Int) X0 (p : Int) (m : Int) (w : Int) Y') (fun k => z119.l4 k (p : Int) (w : Int) q det (row : Int) (c : Int) (i : Int) (p : Int) (m : Int) (w : Int) X0 (p : Int) (m : Int) (w : Int) Y) := by
  intro d
  induction d with
  | zero =>
   intro i Y hi hl hY
   have : i = m := by omega
   subst this
   refine ⟨Y, hl, fun i' j hi' hj => by rw [hY i' j hi' hj, if_pos hi'], fun r hr' => ?_⟩
   refine Ev.step (fun k => z119.l4.eq_2 ..) ?_
   refine qAd oM_ (qAa oM_ ?_)
   rw [qAo oM_, qAo oM_]; exact hr'
  | succ d ih =>
   intro i Y hi hl hY
   have him : i < m := by omega
   have h1 := qCt him hc
   have e := ix (i := i) (w := w) (j := c) oM_ hw oM_
   have hic : fl w Y i c = fl w X i c := by rw [hY i c him hc, if_neg oM_]
   by_cases h : i = row ∨ fl w X i c = 0
   ·obtain ⟨Y', a1, a2, a3⟩ := ih (i + 1) Y oM_ hl (fun i' j hi' hj => by
     rw [hY i' j hi' hj]
     by_cases hlt : i' < i
     ·rw [if_pos hlt, if_pos oM_]
     ·rw [if_neg hlt]
      by_cases he : i' = i
      ·rw [if_pos oM_, he]; unfold cl; rw [if_pos h]
      ·rw [if_neg oM_])
    refine ⟨Y', a1, a2, fun r hr' => ?_⟩
    have hn := a3 r hr'
    have hj8 : Ev (fun k => z119.j8 k (p : Int) (w : Int) q det (row : Int) (c : Int) (i : Int) (fl w Y i c) true (p : Int) (m : Int) (w : Int) X0 (p : Int) (m : Int) (w : Int) Y) r := by
     refine Ev.step (fun k => z119.j8.eq_2 ..) ?_
     refine qAa rfl ?_
     rw [qAo oM_]; exact hn
    refine Ev.step (fun k => z119.l4.eq_2 ..) ?_
    rw [e, rdfl]
    clear e
    refine qAa oM_ (qAa oM_ (qAa oM_ ?_))
    by_cases hir : i = row
    ·exact qAa oM_ hj8
    ·have hz : (fl w Y i c == 0) = true := by rw [hic, h.resolve_left hir]; rfl
     rw [hz]
     exact qAd oM_ hj8
   ·have hne : i ≠ row := fun he => h (.inl he)
    have hnz : fl w X i c ≠ 0 := fun he => h (.inr he)
    have hYR : ∀ i j, i < m → j < w → 0 ≤ fl w Y i j ∧ fl w Y i j < (p : Int) := fun i' j hi' hj => by
     rw [hY i' j hi' hj]
     split
     ·exact qJa oM_ hR hi' hj
     ·exact hR i' j hi' hj
    obtain ⟨Z, hZ, hgo⟩ := qI9 hp hw hm X0 q det (c := c) hr him hne (f := fl w Y i c) (hYR i c him hc) oM_ hYR
    have hrow : ∀ j, j < w → fl w Y row j = fl w X row j := fun j hj => by
     rw [hY row j hr hj]
     split
     ·unfold cl; rw [if_pos (.inl rfl)]
     ·rfl
    obtain ⟨Y', a1, a2, a3⟩ := ih (i + 1) Z oM_ (by rw [hZ.len, hl]) (fun i' j hi' hj => by
     rw [hZ.at_ i' j hj]
     by_cases he : i' = i
     ·rw [if_pos ⟨he, hj⟩, if_pos oM_, he]
      unfold cl
      rw [if_neg h, hic, hrow j hj, hY i j him hj, if_neg oM_]
     ·rw [if_neg (fun hh => he hh.1), hY i' j hi' hj]
      by_cases hlt : i' < i
      ·rw [if_pos hlt, if_pos oM_]
      ·rw [if_neg hlt, if_neg oM_])
    refine ⟨Y', a1, a2, fun r hr' => ?_⟩
    have hn := hgo r (a3 r hr')
    have hj8 : Ev (fun k => z119.j8 k (p : Int) (w : Int) q det (row : Int) (c : Int) (i : Int) (fl w Y i c) false (p : Int) (m : Int) (w : Int) X0 (p : Int) (m : Int) (w : Int) Y) r := by
     refine Ev.step (fun k => z119.j8.eq_2 ..) ?_
     exact qAd (by decide) hn
    refine Ev.step (fun k => z119.l4.eq_2 ..) ?_
    rw [e, rdfl]
    clear e
    have hz : (fl w Y i c == 0) = false := by rw [hic]; simpa using hnz
    rw [hz]
    exact qAa oM_ (qAa oM_ (qAa oM_ (qAd oM_ hj8)))
 exact main m 0 X oM_ rfl (fun i' j hi' hj => by rw [if_neg oM_])
end
theorem qKf {p w m : Nat} {X : List Int} (hX : X.length = m * w) : Rng p X ↔ ∀ i j, i < m → j < w → 0 ≤ fl w X i j ∧ fl w X i j < (p : Int) := by
 constructor
 ·intro h i j hi hj
  have := qCt hi hj
  exact qCq h oM_
 ·intro h y hy
  obtain ⟨k, hk, rfl⟩ := List.getElem_of_mem hy
  have hw : 0 < w := by
   rcases Nat.eq_zero_or_pos w with h0 | h0
   ·rw [h0, Nat.mul_zero] at hX; omega
   ·exact h0
  have h1 : k / w < m := (Nat.div_lt_iff_lt_mul hw).2 oM_
  have h2 := h (k / w) (k % w) h1 (Nat.mod_lt _ hw)
  unfold fl at h2
  rw [Nat.mul_comm, Nat.div_add_mod] at h2
  rwa [ya_, yb_ hk, Option.getD_some] at h2
theorem qHs {p w m : Nat} (hp : isP p = true) (hw : w ≤ 1024) (hm : m ≤ 1024) (X0 : List Int) {L : List (List Int)} (hL : L.length = m) {c : Nat} (hc : c < w) {X : List Int} {q : List Int} (h : FlInv (p : Int) w m L c X q) (hq : q.length ≤ c) (hqm : q.length < m) (hne : fl w X q.length c ≠ 0) (det : Int) :
  ∃ Y det', FlInv (p : Int) w m L (c + 1) Y (q ++ [(c : Int)]) ∧
  Le (fun k => z119.l0 k (p : Int) (w : Int) (q ++ [(c : Int)]) det' ((q.length + 1 : Nat) : Int) ((c + 1 : Nat) : Int) (p : Int) (m : Int) (w : Int) X0 (p : Int) (m : Int) (w : Int) Y) (fun k => z119.j5 k (p : Int) (w : Int) q det (q.length : Int) (c : Int) (p : Int) (m : Int) (w : Int) X0 (p : Int) (m : Int) (w : Int) X) := by
 have h2 := qBp hp
 have hR : ∀ i j, i < m → j < w → 0 ≤ fl w X i j ∧ fl w X i j < (p : Int) := fun i j hi hj => ⟨h.el.ge i j hi hj, h.el.lt i j hi hj⟩
 have hRx := (qKf (p := p) h.len).2 hR
 obtain ⟨a, ha⟩ := Int.eq_ofNat_of_zero_le (hR q.length c hqm hc).1
 have hap : a < p := by have := (hR q.length c hqm hc).2; omega
 have hinv := qE2 hp hap
 have hcong := qHc hp hap oM_
 have hbp : a ^ (p - 2) % p < p := Nat.mod_lt _ oM_
 generalize hbe : a ^ (p - 2) % p = b at hinv hcong hbp
 obtain ⟨Y, hY, hgo1⟩ := qIo hp hw hm X0 q (Int.tmod (wrap64 (det * (a : Int))) (p : Int)) (c := c) hqm hbp h.len hRx
 have hYR : ∀ i j, i < m → j < w → 0 ≤ fl w Y i j ∧ fl w Y i j < (p : Int) := fun i j hi hj => by
  rw [hY.at_ i j hj]
  split
  ·exact ⟨Int.emod_nonneg _ oM_, Int.emod_lt_of_pos _ oM_⟩
  ·exact hR i j hi hj
 obtain ⟨Z, hZl, hZ, hgo2⟩ := qGv hp hw hm X0 q (Int.tmod (wrap64 (det * (a : Int))) (p : Int)) hqm hc oM_ (by rw [hY.len]; exact h.len) hYR
 have hqs : ∀ i, i < q.length → ((q ++ [(c : Int)]).getD i 0) = q.getD i 0 := fun i hi => by
  rw [ya_, List.getElem?_append_left hi, ya_]
 have hYrow : ∀ j, j < w → fl w Y q.length j = fl w X q.length j * (b : Int) % (p : Int) := fun j hj => by rw [hY.at_ _ j hj, if_pos ⟨rfl, hj⟩]
 have hYoth : ∀ i j, j < w → i ≠ q.length → fl w Y i j = fl w X i j := fun i j hj hi => by rw [hY.at_ _ j hj, if_neg (fun hh => hi hh.1)]
 have hZrow : ∀ j, j < w → fl w Z q.length j = fl w Y q.length j := fun j hj => by rw [hZ _ j hqm hj]; unfold cl; rw [if_pos (.inl rfl)]
 refine ⟨Z, Int.tmod (wrap64 (det * (a : Int))) (p : Int), ⟨by rw [hZl, hY.len, h.len], fun x hx => ?_, ?_⟩, fun r hr => ?_⟩
 ·rcases List.mem_append.1 hx with h1 | h1
  ·exact h.pos x h1
  ·rw [List.mem_singleton.1 h1]; omega
 ·rw [yg_]
  refine h.el.step hc hqm (b := (b : Int)) (by rw [ha]; exact hcong) (fun j hj => ?_) (fun i j hi hni hj => ?_) (fun i hi => by rw [hqs i hi]) (by simp) (fun i j hi hj => ?_) (fun i j hi hj => ?_)
  ·rw [hZrow j hj, hYrow j hj, Int.mul_comm]
   have := Int.dvd_neg.2 (Int.dvd_self_sub_emod (x := (b : Int) * fl w X q.length j) (m := (p : Int)))
   rwa [Int.neg_sub] at this
  ·rw [hZ i j hi hj, hZrow j hj]
   unfold cl
   by_cases hz : fl w X i c = 0
   ·rw [if_pos (.inr (by rw [hYoth i c hc hni]; exact hz)), hYoth i j hj hni, hz, Int.zero_mul]; simp
   ·rw [if_neg (fun hh => by rcases hh with hh | hh; exact hni hh; rw [hYoth i c hc hni] at hh; exact hz hh), hYoth i j hj hni, hYoth i c hc hni]
    have := Int.dvd_neg.2 (Int.dvd_self_sub_emod (x := fl w X i j - fl w X i c * fl w Y q.length j) (m := (p : Int)))
    rwa [Int.neg_sub] at this
  ·rw [hZ i j hi hj]; exact (qJa oM_ hYR hi hj).1
  ·rw [hZ i j hi hj]; exact (qJa oM_ hYR hi hj).2
 ·have hn := hgo1 r (hgo2 r hr)
  have hlt := qCt hqm hc
  have hl := h.len
  have e := ix (i := q.length) (w := w) (j := c) oM_ hw oM_
  refine Ev.step (fun k => z119.j5.eq_2 ..) ?_
  rw [e, rdfl, ha]
  clear e
  exact qAa oM_ (qAa oM_ (qAd oM_ (Ev.bind hinv hn)))
theorem qKs {p w m : Nat} (hp : isP p = true) (hw : w ≤ 1024) (hm : m ≤ 1024) {X : List Int} (hX : X.length = m * w) (hR : Rng p X) {L : List (List Int)} (hL : L.length = m) (hLX : ∀ i j, i < m → j < w → rw' L i j = fl w X i j) :
  ∃ Y q det, Ev (fun k => z119.f k (p : Int) (m : Int) (w : Int) X) ((p : Int), (m : Int), (w : Int), Y, q, det) ∧ FlInv (p : Int) w m L w Y q := by
 have h2 := qBp hp
 have hmw : m * w ≤ 1024 * 1024 := yj_ hm hw
 have stop : ∀ (c : Nat) (Y q : List Int) (det : Int), Ev (fun k => z119.j1 k (p : Int) (w : Int) q det (q.length : Int) (c : Int) false (p : Int) (m : Int) (w : Int) X (p : Int) (m : Int) (w : Int) Y) ((p : Int), (m : Int), (w : Int), Y, q, det) := fun c Y q det => by
  refine Ev.step (fun k => z119.j1.eq_2 ..) ?_
  exact qAd (by decide) (Ev.now _)
 have main : ∀ (d c : Nat) (Y : List Int) (q : List Int) (det : Int), c + d = w → q.length ≤ c → FlInv (p : Int) w m L c Y q →
   ∃ Y' q' det', Ev (fun k => z119.l0 k (p : Int) (w : Int) q det (q.length : Int) (c : Int) (p : Int) (m : Int) (w : Int) X (p : Int) (m : Int) (w : Int) Y) ((p : Int), (m : Int), (w : Int), Y', q', det') ∧ FlInv (p : Int) w m L w Y' q' := by
  intro d
  induction d with
  | zero =>
   intro c Y q det hc hq h
   have : c = w := by omega
   subst this
   refine ⟨Y, q, det, ?_, h⟩
   refine Ev.step (fun k => z119.l0.eq_2 ..) ?_
   exact qAd oM_ (stop _ _ _ _)
  | succ d ih =>
   intro c Y q det hc hq h
   have hrm := h.el.g.rm
   rcases Nat.lt_or_ge q.length m with hlt | hge
   ·obtain ⟨t, ht1, ht2, htd, hgo⟩ := qJz hw hm X q det (row := q.length) (c := c) oM_ oM_ h.len
    have hstart : ∀ r, Ev (fun k => z119.j3 k (p : Int) (w : Int) q det (q.length : Int) (c : Int) (t : Int) (p : Int) (m : Int) (w : Int) X (p : Int) (m : Int) (w : Int) Y) r →
      Ev (fun k => z119.l0 k (p : Int) (w : Int) q det (q.length : Int) (c : Int) (p : Int) (m : Int) (w : Int) X (p : Int) (m : Int) (w : Int) Y) r := fun r hr => by
     have hdec : decide ((q.length : Int) < (m : Int)) = true := decide_eq_true oM_
     refine Ev.step (fun k => z119.l0.eq_2 ..) ?_
     refine qAa oM_ ?_
     rw [hdec]
     refine Ev.step (fun k => z119.j1.eq_2 ..) ?_
     exact qAa rfl (hgo r hr)
    rcases htd with ⟨e, hz⟩ | ⟨htm, hne⟩
    ·obtain ⟨Y', q', det', h3, h4⟩ := ih (c + 1) Y q det oM_ oM_ ⟨h.len, h.pos, h.el.none hz⟩
     refine ⟨Y', q', det', hstart _ ?_, h4⟩
     refine Ev.step (fun k => z119.j3.eq_2 ..) ?_
     refine qAa oM_ ?_
     rw [qAo oM_]; exact h3
    ·rcases Nat.eq_or_lt_of_le ht1 with e | hlt2
     ·rw [← e] at hne
      obtain ⟨Y1, det1, hst, hgo1⟩ := qHs hp hw hm X hL oM_ h hq hlt hne det
      obtain ⟨Y', q', det', h3, h4⟩ := ih (c + 1) Y1 (q ++ [(c : Int)]) det1 oM_ (by simp; omega) hst
      refine ⟨Y', q', det', hstart _ ?_, h4⟩
      refine Ev.step (fun k => z119.j3.eq_2 ..) ?_
      refine qAd oM_ (qAa oM_ (hgo1 _ ?_))
      rw [yg_] at h3
      exact h3
     ·obtain ⟨Y1, hsw, hgo1⟩ := qJq hw hm X q (wrap64 ((p : Int) - det)) (c := c) hlt htm oM_ h.len
      have hs : FlInv (p : Int) w m L c Y1 q := by
       refine ⟨by rw [hsw.len, h.len], h.pos, ?_⟩
       refine h.el.swap' (a := t) oM_ oM_ htm (fun j hj => ?_) (fun j hj => ?_) (fun i j hi h1 h3 hj => ?_)
       ·rw [hsw.at_ _ j hj, if_pos hj, if_pos rfl]
       ·rw [hsw.at_ _ j hj, if_pos hj, if_neg oM_, if_pos rfl]
       ·rw [hsw.at_ _ j hj, if_pos hj, if_neg h1, if_neg h3]
      have hne' : fl w Y1 q.length c ≠ 0 := by rw [hsw.at_ _ c oM_, if_pos oM_, if_pos rfl]; exact hne
      obtain ⟨Y2, det1, hst, hgo2⟩ := qHs hp hw hm X hL oM_ hs hq hlt hne' (wrap64 ((p : Int) - det))
      obtain ⟨Y', q', det', h3, h4⟩ := ih (c + 1) Y2 (q ++ [(c : Int)]) det1 oM_ (by simp; omega) hst
      refine ⟨Y', q', det', hstart _ ?_, h4⟩
      rw [yg_] at h3
      have h5 := hgo1 _ (hgo2 _ h3)
      have g1 : ¬ ((t : Int) = (m : Int)) := by omega
      have g2 : ¬ ((t : Int) = (q.length : Int)) := by omega
      refine Ev.step (fun k => z119.j3.eq_2 ..) ?_
      exact qAd g1 (qAd g2 h5)
   ·refine ⟨Y, q, det, ?_, h.len, h.pos, h.el.full oM_ oM_⟩
    have hdec : decide ((q.length : Int) < (m : Int)) = false := decide_eq_false oM_
    refine Ev.step (fun k => z119.l0.eq_2 ..) ?_
    refine qAa oM_ ?_
    rw [hdec]
    exact stop _ _ _ _
 have hfl := (qKf (p := p) hX).1 hR
 obtain ⟨Y', q', det', h3, h4⟩ := main w 0 X [] 1 oM_ (by simp) ⟨hX, fun x hx => by simp at hx, (El.start (R := fl w X) (fun i j hi hj => (hfl i j hi hj).1) (fun i j hi hj => (hfl i j hi hj).2) _).congr0 fun i j hi hj => hLX i j hi hj⟩
 refine ⟨Y', q', det', ?_, h4⟩
 unfold z119.f
 have hown : z88.f X = some X := by
  unfold z88.f
  show (if (([] : List Int)).length + X.length < 17592186044416 then some ([] ++ X) else none) = some X
  rw [if_pos (by simp; omega)]; rfl
 exact Ev.bind (qAt hown) h3
end Go.Proofs.Ytkgajpngeglkmaa.B
set_option linter.unusedVariables false
set_option linter.unusedSimpArgs false
namespace Go.Proofs.Ytkgajpngeglkmaa.B
open Go.RowKit Go.Proofs.YtkgajpngeglkmaaW.PrintWords
open LinT
def okP (p : Int) : Bool := (decide (2 ≤ p) && decide (p ≤ 251)) && isP p.toNat
theorem qI2 {n : Nat} (h0 : 2 ≤ n) (h1 : n ≤ 251) : isP n = true ↔ ∀ d, 2 ≤ d → d < 16 → n < d * d ∨ n % d ≠ 0 := by
 unfold isP
 rw [ye_, ye_, yf_, yf_, List.all_eq_true]
 constructor
 ·rintro ⟨_, h⟩ d hd hd2
  have := h d (yc_.2 hd2)
  rw [Bool.or_eq_true, Bool.or_eq_true, yf_, yf_, yf_] at this
  rcases this with (h3 | h3) | h3
  ·omega
  ·exact .inl h3
  ·exact .inr h3
 ·intro h
  refine ⟨⟨h0, h1⟩, fun d hd => ?_⟩
  rw [Bool.or_eq_true, Bool.or_eq_true, yf_, yf_, yf_]
  by_cases h2 : d < 2
  ·exact .inl (.inl h2)
  ·rcases h d oM_ (yc_.1 hd) with h3 | h3
   ·exact .inl (.inr h3)
   ·exact .inr h3
theorem qCz {n : Nat} (h0 : 2 ≤ n) (h1 : n ≤ 251) : ∀ (e d : Nat), d + e = 16 → 2 ≤ d → ∃ b, Ev (fun k => z73.l0 k (n : Int) (d : Int)) b ∧ (b = true ↔ ∀ d', d ≤ d' → d' < 16 → n < d' * d' ∨ n % d' ≠ 0) := by
 intro e
 induction e with
 | zero =>
  intro d hd h2
  have : d = 16 := by omega
  subst this
  refine ⟨true, ?_, by simp; omega⟩
  refine Ev.step (fun k => z73.l0.eq_2 ..) ?_
  rw [← yi_, qAq oM_ oM_]
  exact qAd oM_ (Ev.now _)
 | succ e ih =>
  intro d hd h2
  have hdd : d * d ≤ 16 * 16 := yj_ oM_ oM_
  have hw : wrap64 ((d : Int) * (d : Int)) = ((d * d : Nat) : Int) := by rw [← yi_, qAq oM_ oM_]
  have hm : Int.tmod (n : Int) (d : Int) = ((n % d : Nat) : Int) := by rw [Int.tmod_eq_emod_of_nonneg oM_]; simp
  by_cases hl : n < d * d
  ·refine ⟨true, ?_, ?_⟩
   ·refine Ev.step (fun k => z73.l0.eq_2 ..) ?_
    rw [hw]
    exact qAd oM_ (Ev.now _)
   ·simp only [true_iff]
    intro d' h3 _
    have := yj_ h3 h3
    left; omega
  ·by_cases hz : n % d = 0
   ·refine ⟨false, ?_, ?_⟩
    ·refine Ev.step (fun k => z73.l0.eq_2 ..) ?_
     rw [hw, hm]
     exact qAa oM_ (qAd oM_ (qAa oM_ (Ev.now _)))
    ·simp only [Bool.false_eq_true, false_iff]
     intro h
     rcases h d (Nat.le_refl _) oM_ with h3 | h3
     ·exact hl h3
     ·exact h3 hz
   ·obtain ⟨b, hb, hi⟩ := ih (d + 1) oM_ oM_
    refine ⟨b, ?_, hi.trans ⟨fun h d' h3 h4 => ?_, fun h d' h3 h4 => h d' oM_ h4⟩⟩
    ·refine Ev.step (fun k => z73.l0.eq_2 ..) ?_
     rw [hw, hm]
     refine qAa oM_ (qAd oM_ (qAd oM_ ?_))
     rw [qAo oM_]; exact hb
    ·rcases Nat.lt_or_ge d d' with h5 | h5
     ·exact h d' oM_ h4
     ·have : d' = d := by omega
      subst this; exact .inr hz
theorem qC9 {n : Nat} (h0 : 2 ≤ n) (h1 : n ≤ 251) : ∀ (e d : Nat), d + e = 16 → 2 ≤ d → ∃ b, Ev (fun k => z63.l0 k (n : Int) (d : Int)) b ∧ (b = true ↔ ∀ d', d ≤ d' → d' < 16 → n < d' * d' ∨ n % d' ≠ 0) := by
 intro e
 induction e with
 | zero =>
  intro d hd h2
  have : d = 16 := by omega
  subst this
  refine ⟨true, ?_, by simp; omega⟩
  refine Ev.step (fun k => z63.l0.eq_2 ..) ?_
  rw [← yi_, qAq oM_ oM_]
  exact qAd oM_ (Ev.now _)
 | succ e ih =>
  intro d hd h2
  have hdd : d * d ≤ 16 * 16 := yj_ oM_ oM_
  have hw : wrap64 ((d : Int) * (d : Int)) = ((d * d : Nat) : Int) := by rw [← yi_, qAq oM_ oM_]
  have hm : Int.tmod (n : Int) (d : Int) = ((n % d : Nat) : Int) := by rw [Int.tmod_eq_emod_of_nonneg oM_]; simp
  by_cases hl : n < d * d
  ·refine ⟨true, ?_, ?_⟩
   ·refine Ev.step (fun k => z63.l0.eq_2 ..) ?_
    rw [hw]
    exact qAd oM_ (Ev.now _)
   ·simp only [true_iff]
    intro d' h3 _
    have := yj_ h3 h3
    left; omega
  ·by_cases hz : n % d = 0
   ·refine ⟨false, ?_, ?_⟩
    ·refine Ev.step (fun k => z63.l0.eq_2 ..) ?_
     rw [hw, hm]
     exact qAa oM_ (qAd oM_ (qAa oM_ (Ev.now _)))
    ·simp only [Bool.false_eq_true, false_iff]
     intro h
     rcases h d (Nat.le_refl _) oM_ with h3 | h3
     ·exact hl h3
     ·exact h3 hz
   ·obtain ⟨b, hb, hi⟩ := ih (d + 1) oM_ oM_
    refine ⟨b, ?_, hi.trans ⟨fun h d' h3 h4 => ?_, fun h d' h3 h4 => h d' oM_ h4⟩⟩
    ·refine Ev.step (fun k => z63.l0.eq_2 ..) ?_
     rw [hw, hm]
     refine qAa oM_ (qAd oM_ (qAd oM_ ?_))
     rw [qAo oM_]; exact hb
    ·rcases Nat.lt_or_ge d d' with h5 | h5
     ·exact h d' oM_ h4
     ·have : d' = d := by omega
      subst this; exact .inr hz
theorem qGo (p : Int) : Ev (fun k => z73.f k p) (okP p) := by
 unfold z73.f okP
 refine Ev.bind (qAt (qDh _ _ _)) ?_
 cases h : decide (2 ≤ p) && decide (p ≤ 251) with
 | false => exact qAd (by decide) (Ev.now _)
 | true =>
  rw [ye_, yf_, yf_] at h
  obtain ⟨n, rfl⟩ := Int.eq_ofNat_of_zero_le (show 0 ≤ p by omega)
  obtain ⟨b, hb, hi⟩ := qCz (n := n) oM_ oM_ 14 2 oM_ oM_
  refine qAa rfl (qBa hb ?_)
  rw [Bool.true_and, yd_, Bool.eq_iff_iff, qI2 oM_ oM_, hi]
theorem qFp (p : Int) : Ev (fun k => z63.f k p) (okP p) := by
 unfold z63.f okP
 refine Ev.bind (qAt (qHu _ _ _)) ?_
 cases h : decide (2 ≤ p) && decide (p ≤ 251) with
 | false => exact qAd (by decide) (Ev.now _)
 | true =>
  rw [ye_, yf_, yf_] at h
  obtain ⟨n, rfl⟩ := Int.eq_ofNat_of_zero_le (show 0 ≤ p by omega)
  obtain ⟨b, hb, hi⟩ := qC9 (n := n) oM_ oM_ 14 2 oM_ oM_
  refine qAa rfl (qBa hb ?_)
  rw [Bool.true_and, yd_, Bool.eq_iff_iff, qI2 oM_ oM_, hi]
theorem qG8 {p : Int} : okP p = true ↔ ∃ n : Nat, p = (n : Int) ∧ isP n = true := by
 unfold okP
 rw [ye_, ye_, yf_, yf_]
 constructor
 ·rintro ⟨⟨h0, h1⟩, h⟩
  exact ⟨p.toNat, by omega, h⟩
 ·rintro ⟨n, rfl, h⟩
  have := qBp h
  exact ⟨⟨by omega, by omega⟩, by rw [yd_]; exact h⟩
end Go.Proofs.Ytkgajpngeglkmaa.B
set_option linter.unusedVariables false
set_option linter.unusedSimpArgs false
namespace Go.Proofs.Ytkgajpngeglkmaa.B
open Go.RowKit Go.Proofs.YtkgajpngeglkmaaW.PrintWords
open LinT
def vecC (l : List Int) (n p : Int) : Bool := decide ((l.length : Int) = n) && l.all fun y => decide (0 ≤ y) && decide (y ≤ p - 1)
theorem qHm {l : List Int} {n p : Nat} : vecC l (n : Int) (p : Int) = true ↔ l.length = n ∧ Rng p l := by
 unfold vecC Rng
 rw [ye_, yf_, List.all_eq_true]
 constructor
 ·rintro ⟨h1, h2⟩
  refine ⟨by omega, fun y hy => ?_⟩
  have := h2 y hy
  rw [ye_, yf_, yf_] at this
  omega
 ·rintro ⟨h1, h2⟩
  refine ⟨by omega, fun y hy => ?_⟩
  have := h2 y hy
  rw [ye_, yf_, yf_]
  omega
theorem qDe {p : Nat} (hp : p ≤ 251) (a : Int) : Ev (fun k => z127.f a (p : Int)) (!(decide (0 ≤ a) && decide (a ≤ (p : Int) - 1))) := by
 unfold z127.f z128.f
 rw [qAq oM_ oM_]
 exact Ev.bind (a := decide (0 ≤ a) && decide (a ≤ (p : Int) - 1)) (Ev.bind (qAt (qDh _ _ _)) (Ev.now _)) (Ev.now _)
theorem qF2 {p : Nat} (hq : p ≤ 251) (l : List Int) (hl : l.length ≤ 1048576) : Ev (fun k => z159.f k l (p : Int)) (l.any fun a => !(decide (0 ≤ a) && decide (a ≤ (p : Int) - 1))) := by
 obtain ⟨t, ht, hd⟩ := qB5 (l) 0 (fun i k => z160.l0 k (l) ((l).length : Int) (i : Int) (p : Int)) (fun a => !(decide (0 ≤ a) && decide (a ≤ (p : Int) - 1))) (fun j hj hp r hr => by
   refine Ev.step (fun k => z160.l0.eq_2 ..) ?_
   refine qAa oM_ (qAa oM_ (qAa oM_ ?_))
   rw [qBc, qAo oM_]
   exact Ev.bind (qDe hq _) (qAd (by rw [hp]; decide) hr)) (fun j hj hp => by
   refine Ev.step (fun k => z160.l0.eq_2 ..) ?_
   refine qAa oM_ (qAa oM_ (qAa oM_ ?_))
   rw [qBc]
   exact Ev.bind (qDe hq _) (qAa hp (Ev.now _))) (by
   refine Ev.step (fun k => z160.l0.eq_2 ..) ?_
   exact qAd oM_ (Ev.now _))
 unfold z159.f z160.f
 refine Ev.bind ht (qBa (Ev.now _) hd)
theorem qE7 {p : Nat} (hp : p ≤ 251) (l : List Int) (hl : l.length ≤ 1048576) : Ev (fun k => z107.f k l (p : Int)) (l.all fun y => decide (0 ≤ y) && decide (y ≤ (p : Int) - 1)) := by
 unfold z107.f
 refine Ev.bind (qF2 hp l hl) (qBa (Ev.now _) ?_)
 rw [List.any_eq_not_all_not]; simp
theorem qHa {p : Nat} (hp : p ≤ 251) (l : List Int) (n : Int) (hl : l.length ≤ 1048576) : Ev (fun k => z61.f k l n (p : Int)) (vecC l n (p : Int)) := by
 unfold z61.f vecC
 refine Ev.bind (qAt (r := (l.length : Int)) rfl) ?_
 by_cases h : (l.length : Int) = n
 ·refine qAa h (Ev.bind (qE7 hp l hl) (qBa (Ev.now _) ?_))
  rw [decide_eq_true h, Bool.true_and]
 ·refine qBa (qAd h (Ev.now _)) ?_
  rw [decide_eq_false h, Bool.false_and]
end Go.Proofs.Ytkgajpngeglkmaa.B
set_option linter.unusedVariables false
set_option linter.unusedSimpArgs false
namespace Go.Proofs.Ytkgajpngeglkmaa.B
open Go.RowKit Go.Proofs.YtkgajpngeglkmaaW.PrintWords
theorem qEx (l m : List Int) (hl : l.length < 9223372036854775807) : Ev (fun k => z123.f k l m) (l == m) := by
 unfold z123.f
 by_cases h : l.length = m.length
 ·refine qAa oM_ ?_
  rw [← qBn l m 0 h]
  refine qEm (fun (i : Nat) k => z123.l0 k l m (l.length : Int) (i : Int)) _ l.length (fun j hj hp r hr => ?_) (fun j hj hp => ?_) ?_
  ·refine Ev.step (fun k => z123.l0.eq_2 ..) ?_
   refine qAa oM_ (qAa oM_ (qAa oM_ (qAa oM_ (qAa ?_ ?_))))
   ·rw [qBc, qBc]; exact eq_of_beq hp
   ·rw [qAo oM_]; exact hr
  ·refine Ev.step (fun k => z123.l0.eq_2 ..) ?_
   refine qAa oM_ (qAa oM_ (qAa oM_ (qAa oM_ (qAd ?_ (Ev.now _)))))
   rw [qBc, qBc]; exact ne_of_beq_false hp
  ·refine Ev.step (fun k => z123.l0.eq_2 ..) ?_
   exact qAd oM_ (Ev.now _)
 ·rw [qB6 h]
  exact qAd oM_ (Ev.now _)
theorem qIp (l m : List Int) (hl : l.length < 9223372036854775807) : Ev (fun k => z121.f k l m) (l == m) := by
 unfold z121.f
 by_cases h : l.length = m.length
 ·refine qAa oM_ ?_
  rw [← qBn l m 0 h]
  refine qEm (fun (i : Nat) k => z121.l0 k l m (i : Int)) _ l.length (fun j hj hp r hr => ?_) (fun j hj hp => ?_) ?_
  ·refine Ev.step (fun k => z121.l0.eq_2 ..) ?_
   refine qAa oM_ (qAa oM_ (qAa oM_ (qAa ?_ ?_)))
   ·rw [qBc, qBc]; exact eq_of_beq hp
   ·rw [qAo oM_]; exact hr
  ·refine Ev.step (fun k => z121.l0.eq_2 ..) ?_
   refine qAa oM_ (qAa oM_ (qAa oM_ (qAd ?_ (Ev.now _))))
   rw [qBc, qBc]; exact ne_of_beq_false hp
  ·refine Ev.step (fun k => z121.l0.eq_2 ..) ?_
   exact qAd oM_ (Ev.now _)
 ·rw [qB6 h]
  exact qAd oM_ (Ev.now _)
end Go.Proofs.Ytkgajpngeglkmaa.B
set_option linter.unusedVariables false
set_option linter.unusedSimpArgs false
namespace Go.Proofs.Ytkgajpngeglkmaa.B
open Go.RowKit Go.Proofs.YtkgajpngeglkmaaW.PrintWords
theorem qIe (l m : List (List Int)) (hl : l.length < 9223372036854775807) (hr : ∀ x ∈ l, x.length < 9223372036854775807) : Ev (fun k => z95.f k l m) (l == m) := by
 unfold z95.f z163.f
 refine Ev.bind (a := (l == m)) ?_ (Ev.now _)
 by_cases h : l.length = m.length
 ·refine qAa oM_ ?_
  rw [← qBn l m [] h]
  have hm : ∀ j, j < l.length → Ev (fun k => z123.f k (rI_ l (j : Int)) (rI_ m (j : Int))) (l.getD j [] == m.getD j []) := fun j hj => by
   rw [qAx, qAx]
   exact qEx _ _ (hr _ (qAz [] hj))
  refine qEm (fun (i : Nat) k => z163.l0 k m l (l.length : Int) (i : Int)) _ l.length (fun j hj hp r hr => ?_) (fun j hj hp => ?_) ?_
  ·refine Ev.step (fun k => z163.l0.eq_2 ..) ?_
   refine qAa oM_ (qAa oM_ (qAa oM_ (qAa oM_ (Ev.bind (hm j hj) (qAa hp ?_)))))
   rw [qAo oM_]; exact hr
  ·refine Ev.step (fun k => z163.l0.eq_2 ..) ?_
   exact qAa oM_ (qAa oM_ (qAa oM_ (qAa oM_ (Ev.bind (hm j hj) (qAd (by rw [hp]; decide) (Ev.now _))))))
  ·refine Ev.step (fun k => z163.l0.eq_2 ..) ?_
   exact qAd oM_ (Ev.now _)
 ·rw [qB6 h]
  exact qAd oM_ (Ev.now _)
end Go.Proofs.Ytkgajpngeglkmaa.B
set_option linter.unusedVariables false
set_option linter.unusedSimpArgs false
namespace Go.Proofs.Ytkgajpngeglkmaa.B
open Go.RowKit Go.Proofs.YtkgajpngeglkmaaW.PrintWords
theorem qFv (l : List (List Int)) (k : Nat) (hk : k < l.length) : (l.take (k + 1)).flatten = (l.take k).flatten ++ l.getD k [] := by
 have ht : l.take (k + 1) = l.take k ++ [l.getD k []] := by
  rw [List.take_succ_eq_append_getElem hk, ya_, yb_ hk]; rfl
 rw [ht, List.flatten_append]; simp
end Go.Proofs.Ytkgajpngeglkmaa.B
set_option linter.unusedVariables false
set_option linter.unusedSimpArgs false
namespace Go.Proofs.Ytkgajpngeglkmaa.B
open Go.RowKit Go.Proofs.YtkgajpngeglkmaaW.PrintWords
open LinT
theorem qJs {m n : Nat} {X : List Int} (hl : X.length = m * n) {i : Nat} (hi : i < m) : ((X.drop (i * n)).take n).length = n := by
 have h2 := Nat.mul_le_mul_right n (show i + 1 ≤ m by omega)
 rw [Nat.add_mul, Nat.one_mul] at h2
 rw [List.length_take, List.length_drop]; omega
end Go.Proofs.Ytkgajpngeglkmaa.B
set_option linter.unusedVariables false
set_option linter.unusedSimpArgs false
namespace Go.Proofs.Ytkgajpngeglkmaa.B
open Go.RowKit Go.Proofs.YtkgajpngeglkmaaW.PrintWords
open LinT
theorem qGu (l : List Int) (hl : l.length ≤ 1048576) : slices_Clone_int64_int64.f l = some l := by
 unfold slices_Clone_int64_int64.f
 simp
 omega
theorem red_q {p : Int} {n : Nat} {L B : List (List Int)} {q : List Int} (h : Red p n L B q) {i : Nat} (hi : i < q.length) : 0 ≤ q.getD i 0 ∧ q.getD i 0 < (n : Int) := by
 have h1 := h.pos _ (qAz 0 hi)
 have h2 := h.rref.lt i (by rw [← h.len]; exact hi)
 exact ⟨h1, by omega⟩
end Go.Proofs.Ytkgajpngeglkmaa.B
set_option linter.unusedVariables false
set_option linter.unusedSimpArgs false
namespace Go.Proofs.Ytkgajpngeglkmaa.B
open Go.RowKit Go.Proofs.YtkgajpngeglkmaaW.PrintWords
open LinT
noncomputable def redB (p : Int) (n : Nat) (L : List (List Int)) : List (List Int) := open Classical in if h : ∃ B q, Red p n L B q then Classical.choose h else []
theorem qIr {p : Int} {n : Nat} {L B : List (List Int)} {q : List Int} (hp : Pr p) (h : Red p n L B q) : redB p n L = B := by
 have hex : ∃ B q, Red p n L B q := ⟨B, q, h⟩
 unfold redB
 rw [dif_pos hex]
 obtain ⟨q', hq'⟩ := Classical.choose_spec hex
 exact (hq'.unique hp h (fun v => Iff.rfl)).1
theorem qCu (l : List (List Int)) (hl : l.length ≤ 1048576) (hr : ∀ x ∈ l, x.length ≤ 1048576) : Ev (fun k => z92.f k l) l := by
 unfold z92.f
 have e : l = (List.range l.length).map fun j => id (l.getD j []) := by
  have := qGn ([] : List Int) id l
  rwa [List.map_id] at this
 refine qBa ?_ e.symm
 refine qGp (fun s i k => z92.l0 k s l (l.length : Int) (i : Int)) (fun j => id (l.getD j [])) l.length (fun j s hj hs r hr' => ?_) _ ?_
 ·have hsl : s.length = j := by rw [hs]; simp
  have := hr _ (qAz ([] : List Int) hj)
  refine Ev.step (fun k => z92.l0.eq_2 ..) ?_
  rw [qAx]
  refine qAa oM_ (qAa oM_ (qAa oM_ (Ev.bind (qAt (qGu _ this)) (qAa oM_ ?_))))
  rw [qAo oM_]; exact hr'
 ·refine Ev.step (fun k => z92.l0.eq_2 ..) ?_
  exact qAd oM_ (Ev.now _)
theorem qCg {p n : Nat} (hp : isP p = true) (hn : n ≤ 1024) {L : List (List Int)} (hm : L.length ≤ 1048576) (hL : Vs (p : Int) n L) :
  Ev (fun k => z76.f k (p : Int) (n : Int) L) ((p : Int), (n : Int), redB (p : Int) n L) ∧ ∃ q, Red (p : Int) n L (redB (p : Int) n L) q := by
 obtain ⟨R, q, det, hE, hst⟩ := qK2 hp (n := n) oM_ hm hL
 have hred := hst.red
 have he := qIr (qEh hp) hred
 rw [he]
 refine ⟨?_, q, hred⟩
 have hRl := hst.len
 have hqm := hst.el.g.rm
 have hrow : ∀ x ∈ L, x.length ≤ 1048576 := fun x hx => by rw [(hL x hx).1]; omega
 unfold z76.f
 refine Ev.bind (qCu L hm hrow) (Ev.bind hE ?_)
 dsimp only
 refine qAa oM_ (qAa oM_ ?_)
 rw [yd_]
 refine Ev.bind (qCu _ (by rw [List.length_take]; omega) (fun x hx => ?_)) (Ev.now _)
 rw [(hst.vs x (List.mem_of_mem_take hx)).1]; omega
theorem qJr {p n : Nat} {L : List (List Int)} (hm : L.length ≤ 1024) (hn : n ≤ 1024) (hL : ∀ x, x ∈ L → x.length = n) : Ev (fun k => z120.f k (p : Int) (n : Int) L) ((p : Int), (L.length : Int), (n : Int), L.flatten) := by
 unfold z120.f
 have main : ∀ (d i : Nat), i + d = L.length → Ev (fun k => z120.l0 k L (i : Int) (p : Int) (L.length : Int) (n : Int) (L.take i).flatten) ((p : Int), (L.length : Int), (n : Int), L.flatten) := by
  intro d
  induction d with
  | zero =>
   intro i hi
   have : i = L.length := by omega
   subst this
   rw [List.take_length]
   refine Ev.step (fun k => z120.l0.eq_2 ..) ?_
   exact qAd oM_ (Ev.now _)
  | succ d ih =>
   intro i hi
   have h := ih (i + 1) oM_
   have hlen := hL _ (qAz ([] : List Int) (show i < L.length by omega))
   have hfl : (L.take i).flatten.length = i * n := by
    rw [qC2 (w := n) _ (fun x hx => hL x (List.mem_of_mem_take hx)), List.length_take, Nat.min_eq_left oM_]
   have hb : i * n ≤ 1024 * 1024 := yj_ oM_ hn
   rw [qFv L i oM_] at h
   refine Ev.step (fun k => z120.l0.eq_2 ..) ?_
   rw [qAx]
   refine qAa oM_ (qAa oM_ (qAa oM_ ?_))
   rw [qAo oM_]; exact h
 have := main L.length 0 oM_
 simpa using this
theorem qD3 {p n : Nat} (hp : isP p = true) (hn : n ≤ 1000) {L : List (List Int)} (hm : L.length ≤ 1000) (hL : Vs (p : Int) n L) :
  Ev (fun k => z87.f k (p : Int) (n : Int) L) (redB (p : Int) n L) ∧ ∃ q, Red (p : Int) n L (redB (p : Int) n L) q := by
 have hlen : ∀ x, x ∈ L → x.length = n := fun x hx => (hL x hx).1
 have hfl := qC2 (w := n) L hlen
 obtain ⟨Y, q, det, hE, hst⟩ := qKs hp (w := n) (m := L.length) (X := L.flatten) oM_ oM_ hfl (fun y hy => by
  obtain ⟨x, hx, hy2⟩ := List.mem_flatten.1 hy
  exact (hL x hx).2 y hy2) (L := L) rfl (fun i j hi hj => (qFg _ hlen i j hi hj).symm)
 have hred := hst.red
 have he := qIr (qEh hp) hred
 rw [he]
 refine ⟨?_, q, hred⟩
 have hqm := hst.el.g.rm
 have hYl := hst.len
 have hmn : L.length * n ≤ 1000 * 1000 := yj_ hm hn
 unfold z87.f
 refine Ev.bind (qJr oM_ oM_ hlen) (Ev.bind hE ?_)
 refine qGp (fun s i k => z87.l0 k (n : Int) q s (i : Int) (p : Int) (L.length : Int) (n : Int) Y) (fun i => (Y.drop (i * n)).take n) q.length (fun i s hi hs r hr => ?_) _ ?_
 ·have hsl : s.length = i := by rw [hs]; simp
  have hrl := qJs hYl (show i < L.length by omega)
  have h2 := Nat.mul_le_mul_right n (show i + 1 ≤ L.length by omega)
  have h1 : (i + 1) * n = i * n + n := by rw [Nat.add_mul, Nat.one_mul]
  have hown : z88.f ((Y.drop (i * n)).take n) = some ((Y.drop (i * n)).take n) := by
   unfold z88.f
   show (if (([] : List Int)).length + ((Y.drop (i * n)).take n).length < 17592186044416 then some ([] ++ (Y.drop (i * n)).take n) else none) = _
   rw [if_pos (by rw [hrl]; simp; omega)]; rfl
  obtain ⟨e1, e2⟩ : wrap64 ((i : Int) * (n : Int)) = ((i * n : Nat) : Int) ∧ wrap64 (wrap64 ((i : Int) + 1) * (n : Int)) = ((i * n + n : Nat) : Int) :=
   ⟨by rw [← yi_, qAq oM_ oM_], by rw [qAo oM_, ← yi_, h1, qAq oM_ oM_]⟩
  refine Ev.step (fun k => z87.l0.eq_2 ..) ?_
  rw [e1, e2, yd_, yd_]
  clear e1 e2
  have d1 : (Y.take (i * n + n)).drop (i * n) = (Y.drop (i * n)).take n := by rw [List.drop_take]; congr 1; omega
  rw [d1]
  refine qAa oM_ (qAa oM_ (qAa oM_ (qAa oM_ (Ev.bind (qAt hown) (qAa oM_ ?_)))))
  rw [qAo oM_]; exact hr
 ·refine Ev.step (fun k => z87.l0.eq_2 ..) ?_
  exact qAd oM_ (Ev.now _)
theorem qDr {p : Nat} (hq : p ≤ 251) (x : List Int) (n : Int) (hx : x.length ≤ 1048576) : Ev (fun k => z112.f k x n (p : Int)) (!vecC x n (p : Int)) := by
 unfold z112.f
 exact Ev.bind (qHa hq x n hx) (Ev.now _)
theorem qGx {p : Nat} (hq : p ≤ 251) (L : List (List Int)) (n : Int) (hl : L.length ≤ 1048576) (hx : ∀ x ∈ L, x.length ≤ 1048576) : Ev (fun k => z158.f k L n (p : Int)) (L.any fun x => !vecC x n (p : Int)) := by
 obtain ⟨t, ht, hd⟩ := qB5 (L) [] (fun i k => z161.l0 k (L) ((L).length : Int) (i : Int) n (p : Int)) (fun x => !vecC x n (p : Int)) (fun j hj hp r hr => by
   refine Ev.step (fun k => z161.l0.eq_2 ..) ?_
   refine qAa oM_ (qAa oM_ (qAa oM_ ?_))
   rw [qAx, qAo oM_]
   exact Ev.bind (qDr hq _ n (hx _ (qAz ([] : List Int) hj))) (qAd (by rw [hp]; decide) hr)) (fun j hj hp => by
   refine Ev.step (fun k => z161.l0.eq_2 ..) ?_
   refine qAa oM_ (qAa oM_ (qAa oM_ ?_))
   rw [qAx]
   exact Ev.bind (qDr hq _ n (hx _ (qAz ([] : List Int) hj))) (qAa hp (Ev.now _))) (by
   refine Ev.step (fun k => z161.l0.eq_2 ..) ?_
   exact qAd oM_ (Ev.now _))
 unfold z158.f z161.f
 refine Ev.bind ht (qBa (Ev.now _) hd)
theorem qF0 {p : Nat} (hq : p ≤ 251) (L : List (List Int)) (n : Int) (hl : L.length ≤ 1048576) (hx : ∀ x ∈ L, x.length ≤ 1048576) : Ev (fun k => z75.f k L n (p : Int)) (L.all fun x => vecC x n (p : Int)) := by
 unfold z75.f
 refine Ev.bind (qGx hq L n hl hx) (qBa (Ev.now _) ?_)
 rw [List.any_eq_not_all_not]; simp
theorem qE8 {p : Nat} (hq : p ≤ 251) (x : List Int) {n : Nat} (hn : n ≤ 64) (hx : x.length ≤ 1048576) : Ev (fun k => z77.f k (p : Int) (n : Int) x) (vecC x (n : Int) (p : Int)) := by
 unfold z77.f z64.f vecC
 have hw : wrap64 ((p : Int) - 1) = (p : Int) - 1 := qAq oM_ oM_
 have h := qHe (fun (i : Nat) k => z64.l0 k x (p : Int) (i : Int)) (fun i => decide (0 ≤ x.getD i 0) && decide (x.getD i 0 ≤ (p : Int) - 1)) (decide ((x.length : Int) ≤ 64)) x.length (fun j hj _ hp' r hr => by
  refine Ev.step (fun k => z64.l0.eq_2 ..) ?_
  rw [hw, qBc]
  clear hw
  refine qAa oM_ (qAa oM_ (Ev.bind (qAt (qHu _ _ _)) (qAa hp' ?_)))
  rw [qAo oM_]; exact hr) (fun j hj _ hp' => by
  refine Ev.step (fun k => z64.l0.eq_2 ..) ?_
  rw [hw, qBc]
  clear hw
  exact qAa oM_ (qAa oM_ (Ev.bind (qAt (qHu _ _ _)) (qAd (by rw [hp']; decide) (Ev.now _))))) (fun _ => by
  refine Ev.step (fun k => z64.l0.eq_2 ..) ?_
  clear hw
  exact qAd oM_ (Ev.now _))
 clear hw
 rw [qEq x 0 (fun y => decide (0 ≤ y) && decide (y ≤ (p : Int) - 1))] at h
 refine Ev.bind h ?_
 cases ha : (x.all fun y => decide (0 ≤ y) && decide (y ≤ (p : Int) - 1)) with
 | false =>
  rw [Bool.false_and, Bool.and_false]
  exact qAd (by decide) (Ev.now _)
 | true =>
  rw [Bool.true_and, Bool.and_true]
  by_cases h64 : (x.length : Int) ≤ 64
  ·rw [decide_eq_true h64]
   exact qAa rfl (qBa (Ev.now _) (by rw [Bool.beq_eq_decide_eq]))
  ·rw [decide_eq_false h64, decide_eq_false oM_]
   exact qAd (by decide) (Ev.now _)
theorem qG0 {p : Nat} (hq : p ≤ 251) (L : List (List Int)) {n : Nat} (hn : n ≤ 64) (hl : L.length ≤ 1048576) (hx : ∀ x ∈ L, x.length ≤ 1048576) : Ev (fun k => z93.f k (p : Int) (n : Int) L) (L.all fun x => vecC x (n : Int) (p : Int)) := by
 unfold z93.f
 refine qHf L [] (fun (i : Nat) k => z93.l0 k (p : Int) (n : Int) L (i : Int)) (fun x => vecC x (n : Int) (p : Int)) (fun j hj hp r hr => ?_) (fun j hj hp => ?_) ?_
 ·have := hx _ (qAz ([] : List Int) hj)
  refine Ev.step (fun k => z93.l0.eq_2 ..) ?_
  rw [qAx]
  refine qAa oM_ (qAa oM_ (Ev.bind (qE8 hq _ hn this) (qAa hp ?_)))
  rw [qAo oM_]; exact hr
 ·have := hx _ (qAz ([] : List Int) hj)
  refine Ev.step (fun k => z93.l0.eq_2 ..) ?_
  rw [qAx]
  exact qAa oM_ (qAa oM_ (Ev.bind (qE8 hq _ hn this) (qAd (by rw [hp]; decide) (Ev.now _))))
 ·refine Ev.step (fun k => z93.l0.eq_2 ..) ?_
  exact qAd oM_ (Ev.now _)
theorem qHz {p n : Nat} {L : List (List Int)} : (L.all fun x => vecC x (n : Int) (p : Int)) = true ↔ Vs (p : Int) n L := by
 rw [List.all_eq_true]
 constructor
 ·intro h x hx
  obtain ⟨h1, h2⟩ := qHm.1 (h x hx)
  exact ⟨h1, h2⟩
 ·exact fun h x hx => qHm.2 ⟨(h x hx).1, (h x hx).2⟩
theorem qG3 (l m : List (List Int)) (hl : l.length < 9223372036854775807) (hr : ∀ x ∈ l, x.length < 9223372036854775807) : Ev (fun k => z94.f k l m) (l == m) := by
 unfold z94.f
 by_cases h : l.length = m.length
 ·refine qAa oM_ ?_
  rw [← qBn l m [] h]
  refine qEm (fun (i : Nat) k => z94.l0 k l m (i : Int)) _ l.length (fun j hj hp r hr' => ?_) (fun j hj hp => ?_) ?_
  ·have hrow := hr _ (qAz ([] : List Int) hj)
   refine Ev.step (fun k => z94.l0.eq_2 ..) ?_
   rw [qAx, qAx]
   refine qAa oM_ (qAa oM_ (qAa oM_ (Ev.bind (qIp _ _ hrow) (qAa hp ?_))))
   rw [qAo oM_]; exact hr'
  ·have hrow := hr _ (qAz ([] : List Int) hj)
   refine Ev.step (fun k => z94.l0.eq_2 ..) ?_
   rw [qAx, qAx]
   exact qAa oM_ (qAa oM_ (qAa oM_ (Ev.bind (qIp _ _ hrow) (qAd (by rw [hp]; decide) (Ev.now _)))))
  ·refine Ev.step (fun k => z94.l0.eq_2 ..) ?_
   exact qAd oM_ (Ev.now _)
 ·rw [qB6 h]
  exact qAd oM_ (Ev.now _)
noncomputable def okS (p n : Int) (L : List (List Int)) : Bool := open Classical in (okP p && (decide (0 ≤ n) && decide (n ≤ 32))) && ((L.all fun x => vecC x n p) && (redB p n.toNat L == L))
theorem qIw {p n : Int} {L : List (List Int)} (h : okS p n L = true) : ∃ q m : Nat, p = (q : Int) ∧ n = (m : Int) ∧ isP q = true ∧ m ≤ 32 ∧ Vs (q : Int) m L ∧ redB (q : Int) m L = L := by
 unfold okS at h
 rw [ye_, ye_, ye_, ye_, yf_, yf_] at h
 obtain ⟨⟨h1, h2, h3⟩, h4, h5⟩ := h
 obtain ⟨q, rfl, hq⟩ := qG8.1 h1
 obtain ⟨m, rfl⟩ := Int.eq_ofNat_of_zero_le h2
 exact ⟨q, m, rfl, rfl, hq, by omega, qHz.1 h4, by simpa using h5⟩
section
variable {L : List (List Int)} (hl : L.length ≤ 1048576) (hr : ∀ x ∈ L, x.length ≤ 1048576)
include hl hr
theorem qC7 (p n : Int) : Ev (fun k => z54.f k p n L) (okS p n L) := by
 unfold z54.f okS z74.f
 refine Ev.bind (qGo p) ?_
 cases hp : okP p with
 | false => exact qAd (by decide) (qBa (Ev.now _) (by simp))
 | true =>
  obtain ⟨q, rfl, hq⟩ := qG8.1 hp
  refine qAa rfl (Ev.bind (a := decide (0 ≤ n) && decide (n ≤ 32)) (Ev.bind (qAt (qDh _ _ _)) (Ev.now _)) ?_)
  cases hn : decide (0 ≤ n) && decide (n ≤ 32) with
  | false => exact qAd (by decide) (qBa (Ev.now _) (by simp))
  | true =>
   rw [ye_, yf_, yf_] at hn
   obtain ⟨m, rfl⟩ := Int.eq_ofNat_of_zero_le hn.1
   refine qAa rfl (Ev.bind (qF0 (qBp hq).2 L _ hl hr) ?_)
   cases hv : (L.all fun x => vecC x (m : Int) (q : Int)) with
   | false => exact qAd (by decide) (qBa (Ev.now _) (by simp))
   | true =>
    obtain ⟨h1, qq, h2⟩ := qCg hq oM_ hl (qHz.1 hv)
    have h3 := h2.len_le (qEh hq)
    refine qAa rfl (Ev.bind h1 ?_)
    dsimp only
    refine Ev.bind (qIe _ L oM_ (fun x hx => by rw [(h2.vs x hx).1]; omega)) (qBa (Ev.now _) ?_)
    rw [yd_]
    simp
theorem qKc (p n : Int) : Ev (fun k => z50.f k p n L) (okS p n L) := by
 unfold z50.f okS
 have stop : ∀ p n, Ev (fun k => z50.j0 k true p n L) false := fun p n => by
  refine Ev.step (fun k => z50.j0.eq_2 ..) ?_
  exact qAa rfl (Ev.now _)
 refine Ev.bind (qFp p) ?_
 cases hp : okP p with
 | false => exact qAd (by decide) (qBa (stop _ _) (by simp))
 | true =>
  obtain ⟨q, rfl, hq⟩ := qG8.1 hp
  refine qAa rfl (Ev.bind (qAt (qHu _ _ _)) ?_)
  cases hn : decide (0 ≤ n) && decide (n ≤ 32) with
  | false => exact qAd (by decide) (qBa (stop _ _) (by simp))
  | true =>
   rw [ye_, yf_, yf_] at hn
   obtain ⟨m, rfl⟩ := Int.eq_ofNat_of_zero_le hn.1
   refine qAa rfl ?_
   by_cases hlen : (L.length : Int) > (m : Int)
   ·refine qBa (qAa hlen (stop _ _)) ?_
    cases hv : (L.all fun x => vecC x (m : Int) (q : Int)) with
    | false => simp
    | true =>
     obtain ⟨h1, qq, h2⟩ := qCg (L := L) hq (show m ≤ 1024 by omega) hl (qHz.1 hv)
     have h3 := h2.len_le (qEh hq)
     have hne : ¬ (redB (q : Int) m L = L) := fun he => by rw [he] at h3; omega
     rw [yd_]
     simp [hne]
   ·refine qAd hlen (Ev.bind (qG0 (qBp hq).2 L oM_ hl hr) ?_)
    cases hv : (L.all fun x => vecC x (m : Int) (q : Int)) with
    | false => exact qBa (stop _ _) (by simp)
    | true =>
     obtain ⟨h1, qq, h2⟩ := qD3 (L := L) hq (show m ≤ 1000 by omega) oM_ (qHz.1 hv)
     have h3 := h2.len_le (qEh hq)
     have hj : Ev (fun k => z50.j0 k false (q : Int) (m : Int) L) (redB (q : Int) m L == L) := by
      refine Ev.step (fun k => z50.j0.eq_2 ..) ?_
      exact qAd (by decide) (Ev.bind h1 (Ev.bind (qG3 _ L oM_ (fun x hx => by rw [(h2.vs x hx).1]; omega)) (Ev.now _)))
     refine qBa hj ?_
     rw [yd_]
     simp
end
end Go.Proofs.Ytkgajpngeglkmaa.B
set_option linter.unusedVariables false
set_option linter.unusedSimpArgs false
namespace Go.Proofs.Ytkgajpngeglkmaa.B
open Go.RowKit Go.Proofs.YtkgajpngeglkmaaW.PrintWords
theorem qFf (a : Int) : Ev (fun k => z129.f a) (a != 0) := qAt rfl
theorem qF1 (l : List Int) (hl : l.length ≤ 1048576) : Ev (fun k => z165.f k l) (l.any fun a => a != 0) := by
 obtain ⟨t, ht, hd⟩ := qB5 (l) 0 (fun i k => z166.l0 k (l) ((l).length : Int) (i : Int) ) (fun a => a != 0) (fun j hj hp r hr => by
   refine Ev.step (fun k => z166.l0.eq_2 ..) ?_
   refine qAa oM_ (qAa oM_ (qAa oM_ ?_))
   rw [qBc, qAo oM_]
   exact Ev.bind (qFf _) (qAd (by rw [hp]; decide) hr)) (fun j hj hp => by
   refine Ev.step (fun k => z166.l0.eq_2 ..) ?_
   refine qAa oM_ (qAa oM_ (qAa oM_ ?_))
   rw [qBc]
   exact Ev.bind (qFf _) (qAa hp (Ev.now _))) (by
   refine Ev.step (fun k => z166.l0.eq_2 ..) ?_
   exact qAd oM_ (Ev.now _))
 unfold z165.f z166.f
 refine Ev.bind ht (qBa (Ev.now _) hd)
theorem qI1 (l : List Int) (hl : l.length ≤ 1048576) : Ev (fun k => z109.f k l) (l.all fun a => a == 0) := by
 unfold z109.f
 refine Ev.bind (qF1 l hl) (qBa (Ev.now _) ?_)
 rw [List.any_eq_not_all_not]; simp [bne]
end Go.Proofs.Ytkgajpngeglkmaa.B
set_option linter.unusedVariables false
set_option linter.unusedSimpArgs false
namespace Go.Proofs.Ytkgajpngeglkmaa.B
open Go.RowKit Go.Proofs.YtkgajpngeglkmaaW.PrintWords
open LinT
theorem qJu (l : List Int) (hl : l.length ≤ 1048576) {c : Nat} (hc : c < l.length) (h1 : l.getD c 0 ≠ 0) (h0 : ∀ j, j < c → l.getD j 0 = 0) : Ev (fun k => z164.f k l) (c : Int) := by
 unfold z164.f
 have main : ∀ (d i : Nat), i + d = c → Ev (fun k => z164.l0 k l (l.length : Int) (i : Int)) (c : Int) := by
  intro d
  induction d with
  | zero =>
   intro i hi
   have : i = c := by omega
   subst this
   refine Ev.step (fun k => z164.l0.eq_2 ..) ?_
   rw [qBc]
   exact qAa oM_ (qAa oM_ (qAa oM_ (Ev.bind (qAt (r := true) (by unfold z97.f; rw [show (l.getD i 0 != 0) = true from bne_iff_ne.2 h1])) (qAa rfl (Ev.now _)))))
  | succ d ih =>
   intro i hi
   have hz := h0 i oM_
   refine Ev.step (fun k => z164.l0.eq_2 ..) ?_
   rw [qBc]
   refine qAa oM_ (qAa oM_ (qAa oM_ (Ev.bind (qAt (r := false) (by unfold z97.f; rw [hz]; rfl)) (qAd (by decide) ?_))))
   rw [qAo oM_]
   exact ih (i + 1) oM_
 exact main c 0 oM_
theorem q_eq {p : Int} {n : Nat} {L B : List (List Int)} {q : List Int} (h : Red p n L B q) {i : Nat} (hi : i < B.length) : q.getD i 0 = (((q.getD i 0).toNat : Nat) : Int) := by
 have := (red_q h (i := i) (by rw [h.len]; exact hi)).1
 omega
theorem qG6 {p n : Nat} (hp : 1 < p) (hn : n ≤ 1024) {L B : List (List Int)} {q : List Int} (h : Red (p : Int) n L B q) (hB : B.length ≤ 1048576) (a b : Int) : Ev (fun k => z55.f k a b B) q := by
 unfold z55.f
 have e : q = (List.range B.length).map fun i => q.getD i 0 := by
  have := qGn (0 : Int) id q
  rw [List.map_id, h.len] at this
  exact this
 refine qBa ?_ e.symm
 refine qGp (fun s i k => z55.l0 k s B (B.length : Int) (i : Int)) (fun i => q.getD i 0) B.length (fun i s hi hs r hr => ?_) _ ?_
 ·have hsl : s.length = i := by rw [hs]; simp
  obtain ⟨h1, h2, h3⟩ := h.place oM_ hi
  have hlen := qCm h.vs hi
  have hpl := qJu (B.getD i []) oM_ (c := (q.getD i 0).toNat) oM_ (by rw [h2]; decide) h3
  rw [← q_eq h hi] at hpl
  refine Ev.step (fun k => z55.l0.eq_2 ..) ?_
  rw [qAx]
  refine qAa oM_ (qAa oM_ (qAa oM_ (Ev.bind hpl (qAa oM_ ?_))))
  rw [qAo oM_]; exact hr
 ·refine Ev.step (fun k => z55.l0.eq_2 ..) ?_
  exact qAd oM_ (Ev.now _)
def qKh (q x : List Int) : List Int := (List.range q.length).map fun i => x.getD (q.getD i 0).toNat 0
noncomputable def inSp (p : Int) (n : Nat) (B : List (List Int)) (x : List Int) : Bool := @decide (Span p n (B.map vec) (vec x)) (Classical.propDecidable _)
theorem qCy {p : Int} {n : Nat} {B : List (List Int)} {x : List Int} : inSp p n B x = true ↔ Span p n (B.map vec) (vec x) := by unfold inSp; exact @decide_eq_true_iff _ (Classical.propDecidable _)
theorem qE6 {p n : Nat} (hp : isP p = true) (hn : n ≤ 1024) {L B : List (List Int)} {q : List Int} (h : Red (p : Int) n L B q) (hB : B.length ≤ 1048576) {x : List Int} (hx : x.length = n) (hxr : Rng p x) :
  Ev (fun k => z62.f k (p : Int) (n : Int) B x) (qKh q x, inSp (p : Int) n B x) := by
 have h2 := qBp hp
 have hBl := (h.len_le (qEh hp)).1
 unfold z62.f
 refine Ev.bind (qG6 oM_ hn h hB _ _) ?_
 -- rest after i rounds: x less the rows' multiples
 have main : ∀ (d i : Nat) (rest : List Int), i + d = q.length → rest.length = n → Rng p rest → (∀ j, j < n → (p : Int) ∣ rest.getD j 0 - (x.getD j 0 - comb (rw' B) i (fun t => x.getD (q.getD t 0).toNat 0) j)) →
   Ev (fun k => z62.l0 k x ((List.range i).map fun t => x.getD (q.getD t 0).toNat 0) rest q (q.length : Int) (i : Int) (p : Int) (n : Int) B) (qKh q x, inSp (p : Int) n B x) := by
  intro d
  induction d with
  | zero =>
   intro i rest hi hl hr hc
   have : i = q.length := by omega
   subst this
   have hz : (rest.all fun a => a == 0) = inSp (p : Int) n B x := by
    rw [Bool.eq_iff_iff, qCy, h.in_iff]
    rw [h.len] at hc
    constructor
    ·intro hall j hj
     have h0 : rest.getD j 0 = 0 := by
      have := List.all_eq_true.1 hall _ (qAz 0 (show j < rest.length by omega))
      simpa using this
     have := hc j hj
     rw [h0] at this
     have := Int.dvd_neg.2 this
     rwa [show -(0 - (x.getD j 0 - comb (rw' B) B.length (fun t => x.getD (q.getD t 0).toNat 0) j)) = vec x j - comb (rw' B) B.length (fun i => vec x (q.getD i 0).toNat) j by unfold vec; omega] at this
    ·intro hall
     rw [List.all_eq_true]
     intro y hy
     obtain ⟨j, hj, rfl⟩ := List.getElem_of_mem hy
     have e : rest[j] = rest.getD j 0 := by rw [ya_, yb_ hj]; rfl
     have h3 := hall j oM_
     have h4 := yq_ (hc j oM_) h3
     rw [show rest.getD j 0 - (x.getD j 0 - comb (rw' B) B.length (fun t => x.getD (q.getD t 0).toNat 0) j) + (vec x j - comb (rw' B) B.length (fun i => vec x (q.getD i 0).toNat) j) = rest.getD j 0 by unfold vec; omega] at h4
     have h5 := qCq hr hj
     rw [e, qKe h5.1 h5.2 h4]; rfl
   refine Ev.step (fun k => z62.l0.eq_2 ..) ?_
   refine qAd oM_ (Ev.bind (qI1 rest oM_) (qBa (Ev.now _) ?_))
   rw [hz]; rfl
  | succ d ih =>
   intro i rest hi hl hr hc
   have hiB : i < B.length := by rw [← h.len]; omega
   have hqi := red_q h (i := i) oM_
   have hxq := qCq hxr (j := (q.getD i 0).toNat) oM_
   have hrow := qCm h.vs hiB
   have hcc : Int.tmod (wrap64 ((p : Int) - x.getD (q.getD i 0).toNat 0)) (p : Int) = ((p : Int) - x.getD (q.getD i 0).toNat 0) % (p : Int) := by
    rw [qAq oM_ oM_, qCd oM_]
   have hm0 := Int.emod_nonneg ((p : Int) - x.getD (q.getD i 0).toNat 0) (b := (p : Int)) oM_
   have hm1 := Int.emod_lt_of_pos ((p : Int) - x.getD (q.getD i 0).toNat 0) (b := (p : Int)) oM_
   have hrd : rd x (rd q (i : Int)) = x.getD (q.getD i 0).toNat 0 := by
    rw [qBc, q_eq h hiB, qBc, yd_]
   have hadd : Ev (fun k => z108.f k rest (B.getD i []) (((p : Int) - x.getD (q.getD i 0).toNat 0) % (p : Int)) (p : Int)) (addT p rest (B.getD i []) (((p : Int) - x.getD (q.getD i 0).toNat 0) % (p : Int))) := by
    clear hcc
    exact qC4 oM_ h2.2 rest (B.getD i []) _ hr (qCo h.vs hiB) oM_ oM_ hm0 oM_
   have hnext := ih (i + 1) (addT p rest (B.getD i []) (((p : Int) - x.getD (q.getD i 0).toNat 0) % (p : Int))) oM_ (by rw [qF4, hl]) (qF3 oM_ _ _ _) (fun j hj => by
    rw [qF5 oM_]
    have h3 := qD1 (rest.getD j 0 + ((p : Int) - x.getD (q.getD i 0).toNat 0) % (p : Int) * (B.getD i []).getD j 0) (p : Int)
    have h4 := hc j hj
    have h5 := qA3 ((B.getD i []).getD j 0) (qD1 ((p : Int) - x.getD (q.getD i 0).toNat 0) (p : Int))
    have h6 : (p : Int) ∣ (p : Int) * (B.getD i []).getD j 0 := Int.dvd_mul_right _ _
    have h7 := yq_ (yq_ (yq_ h3 h4) h5) h6
    have e : comb (rw' B) (i + 1) (fun t => x.getD (q.getD t 0).toNat 0) j = comb (rw' B) i (fun t => x.getD (q.getD t 0).toNat 0) j + x.getD (q.getD i 0).toNat 0 * (B.getD i []).getD j 0 := rfl
    rw [e]
    generalize comb (rw' B) i (fun t => x.getD (q.getD t 0).toNat 0) j = cm at h7 ⊢
    generalize (rest.getD j 0 + ((p : Int) - x.getD (q.getD i 0).toNat 0) % (p : Int) * (B.getD i []).getD j 0) % (p : Int) = em at h7 ⊢
    generalize ((p : Int) - x.getD (q.getD i 0).toNat 0) % (p : Int) = cc at h7 ⊢
    generalize (B.getD i []).getD j 0 = bb at h7 ⊢
    generalize x.getD (q.getD i 0).toNat 0 = xx at h7 ⊢
    rwa [show em - (rest.getD j 0 + cc * bb) + (rest.getD j 0 - (x.getD j 0 - cm)) + bb * (cc - ((p : Int) - xx)) + (p : Int) * bb = em - (x.getD j 0 - (cm + xx * bb)) by grind] at h7)
   rw [List.range_succ, List.map_append] at hnext
   have hlen2 : ((List.range i).map fun t => x.getD (q.getD t 0).toNat 0).length < 17592186044416 := by simp; omega
   have g1 : (i : Int) < (q.length : Int) := by omega
   have g2 : (0 : Int) ≤ (i : Int) := by omega
   have g3 : (0 : Int) ≤ rd q (i : Int) := by rw [qBc]; exact hqi.1
   have g4 : rd q (i : Int) < (x.length : Int) := by rw [qBc, hx]; exact hqi.2
   have g5 : (i : Int) < (B.length : Int) := by omega
   have g6 : ¬ ((p : Int) = 0) := by omega
   have g7 : wrap64 ((i : Int) + 1) = ((i + 1 : Nat) : Int) := by clear hcc; exact qAo oM_
   refine Ev.step (fun k => z62.l0.eq_2 ..) ?_
   rw [hrd, hcc, qAx, g7]
   exact qAa g1 (qAa g2 (qAa g1 (qAa g3 (qAa g4 (qAa hlen2 (qAa g5 (qAd g6 (Ev.bind hadd hnext))))))))
 have h0 := main q.length 0 x oM_ hx hxr (fun j hj => by
  have : comb (rw' B) 0 (fun t => x.getD (q.getD t 0).toNat 0) j = 0 := rfl
  rw [this, Int.sub_zero, Int.sub_self]; exact yn_ _)
 exact h0
theorem qDw {p n : Nat} (hp : isP p = true) (hn : n ≤ 1024) {L B : List (List Int)} {q : List Int} (h : Red (p : Int) n L B q) (hB : B.length ≤ 1048576) {x : List Int} (hx : x.length = n) (hxr : Rng p x) :
  Ev (fun k => z45.f k (p : Int) (n : Int) B x) (inSp (p : Int) n B x) := by
 unfold z45.f
 exact Ev.bind (qE6 hp hn h hB hx hxr) (Ev.now _)
end Go.Proofs.Ytkgajpngeglkmaa.B
-- written for this claim by a program (mp.py over the kit's printer)
namespace Go.Proofs.Ytkgajpngeglkmaa.B
open Go.RowKit Go.Proofs.YtkgajpngeglkmaaW.PrintWords Go.Proofs.YtkgajpngeglkmaaW.PrintLast Go.Proofs.YtkgajpngeglkmaaW.PrintMore
attribute [local go_sem] qAh qAf qAn qAm qAc qAb qAg qAe
set_option linter.unusedVariables false
set_option linter.unusedSimpArgs false

def z21.f (k : Nat) (a0_0 : Int) (a0_1 : Int) (l0_2 : List (List Int)) (l1 : List Int) : Option (List Int × Int) := (z54.f k a0_0 a0_1 l0_2).bind fun t102 => (if t102 = true then ((z61.f k l1 a0_1 a0_0).bind fun t103 => (if t103 = true then ((z62.f k a0_0 a0_1 l0_2 l1).bind fun bt104 => (if bt104.2 = true then (some (bt104.1, 0)) else (some (([] : List Int), 3)))) else (some (([] : List Int), 2)))) else (some (([] : List Int), 1)))
theorem z21.calls (k : Nat) (a0_0 : Int) (a0_1 : Int) (A0_2 : Option Addr) (c0_2 : Nat) (l0_2 : List (List Int)) (A1 : Option Addr) (c1 : Nat) (l1 : List Int) (r1 : List Int) (r2 : Int) (w : World) (hr0_2 : Kd.C (Kd.slice 2 (Kd.int .i64)) w A0_2 l0_2.length l0_2) (hc0_2 : l0_2.length ≤ c0_2) (hr1 : Kd.C (Kd.int .i64) w A1 l1.length l1) (hc1 : l1.length ≤ c1) (h : z21.f k a0_0 a0_1 l0_2 l1 = some (r1, r2)) :
  Calls Try.prog 21 #[.agg #[.int .i64 a0_0, .int .i64 a0_1, .slice A0_2 l0_2.length c0_2], .slice A1 l1.length c1] w fun e w' => ∃ v0_ : Value, e = .returned (.tuple #[v0_, .int .i64 r2]) ∧ Kd.R (Kd.int .i64) 2 w' w.heap.size (fun _ => True) v0_ r1 ∧ Below w.heap.size w w' := by
 have hu28 := Try.underlying28
 have HR0_2 := Zz.mk hr0_2
 have HC0_2 := Zz.mk hc0_2
 clear hr0_2 hc0_2
 have HR1 := Zz.mk hr1
 have HC1 := Zz.mk hc1
 clear hr1 hc1
 have HB := Zz.mk (Below.refl w.heap.size w)
 have H : ((z54.f k a0_0 a0_1 l0_2).bind fun t102 => (if t102 = true then ((z61.f k l1 a0_1 a0_0).bind fun t103 => (if t103 = true then ((z62.f k a0_0 a0_1 l0_2 l1).bind fun bt104 => (if bt104.2 = true then (some (bt104.1, 0)) else (some (([] : List Int), 3)))) else (some (([] : List Int), 2)))) else (some (([] : List Int), 1)))) = some (r1, r2) := h
 clear h
 replace H := OB_ H
 obtain ⟨t102, A30, H⟩ := H
 replace H : (if t102 = true then ((z61.f k l1 a0_1 a0_0).bind fun t103 => (if t103 = true then ((z62.f k a0_0 a0_1 l0_2 l1).bind fun bt104 => (if bt104.2 = true then (some (bt104.1, 0)) else (some (([] : List Int), 3)))) else (some (([] : List Int), 2)))) else (some (([] : List Int), 1))) = some (r1, r2) := H
 have A3 := Zz.mk A30
 clear A30
 by_cases c4 : t102 = true
 ·subst c4
  have H1 : ((z61.f k l1 a0_1 a0_0).bind fun t103 => (if t103 = true then ((z62.f k a0_0 a0_1 l0_2 l1).bind fun bt104 => (if bt104.2 = true then (some (bt104.1, 0)) else (some (([] : List Int), 3)))) else (some (([] : List Int), 2)))) = some (r1, r2) := by rw [if_pos rfl] at H; exact H
  clear H
  have H := H1
  clear H1
  replace H := OB_ H
  obtain ⟨t103, A50, H⟩ := H
  replace H : (if t103 = true then ((z62.f k a0_0 a0_1 l0_2 l1).bind fun bt104 => (if bt104.2 = true then (some (bt104.1, 0)) else (some (([] : List Int), 3)))) else (some (([] : List Int), 2))) = some (r1, r2) := H
  have A5 := Zz.mk A50
  clear A50
  by_cases c6 : t103 = true
  ·subst c6
   have H1 : ((z62.f k a0_0 a0_1 l0_2 l1).bind fun bt104 => (if bt104.2 = true then (some (bt104.1, 0)) else (some (([] : List Int), 3)))) = some (r1, r2) := by rw [if_pos rfl] at H; exact H
   clear H
   have H := H1
   clear H1
   replace H := OB_ H
   obtain ⟨⟨t104, t107⟩, A70, H⟩ := H
   replace H : (if t107 = true then (some (t104, 0)) else (some (([] : List Int), 3))) = some (r1, r2) := H
   have A7 := Zz.mk A70
   clear A70
   by_cases c8 : t107 = true
   ·subst c8
    have H1 : (some (t104, 0)) = some (r1, r2) := by rw [if_pos rfl] at H; exact H
    clear H
    have H := H1
    clear H1
    simp only [Option.some.injEq, Prod.mk.injEq] at H
    obtain ⟨rfl, rfl⟩ := H
    go_enter Try.func21, Try.ntmps21
    go_wp2_with (first | ((with_reducible refine qAi (N := 2) rfl ?_); refine qCc ?hg (N := 2) ?hd (cs := #[.int .i64 a0_0, .int .i64 a0_1, .slice A0_2 l0_2.length c0_2]) (t := 28) ?hr ?_; (case hd => rfl); (case hg => rfl); (case hr => first | (go_simp; done) | (go_simp; rfl)); intro gb101 hg w9 hbox hb; have n0_ := Zz.mk (bT_ (B_ HB.out) hb); have n1_ := Zz.mk (hbox); have n2_ := Zz.mk ((by rw [hg]; exact (bS_ (B_ HB.out)) : w.heap.size ≤ gb101)); have n3_ := Zz.mk ((by rw [hg]; exact (bS_ (B_ HB.out)) : w.heap.size ≤ gb101)); clear HB; have HB := n0_; have BK101 := n1_; have GW101 := n2_; have GE101 := n3_; clear n0_ n1_ n2_ n3_; clear hb hbox hg; have hcz10_0 : w9.cell? ⟨gb101, 0, none⟩ = some (.int .i64 a0_0) := (bC_ BK101.out 0).trans rfl; have hcz10_1 : w9.cell? ⟨gb101, 1, none⟩ = some (.int .i64 a0_1) := (bC_ BK101.out 1).trans rfl; have hcz10_2 : w9.cell? ⟨gb101, 2, none⟩ = some (.slice A0_2 l0_2.length c0_2) := (bC_ BK101.out 2).trans rfl; have hfz10_0 := bF_ BK101.out 0; have hfz10_1 := bF_ BK101.out 1; have hfz10_2 := bF_ BK101.out 2) | ((with_reducible refine gC_ (f := 54) rfl ?_); refine GL_ (some 9) rfl rfl Try.func54 #[.agg #[.int .i64 a0_0, .int .i64 a0_1, .slice A0_2 l0_2.length c0_2]] rfl (h := ?_); (with_reducible refine (z54.calls k a0_0 a0_1 _ _ l0_2 true _ ?side1 ?side2 A3.out).mono ?_); (case side1 => exact KC_ (Kd.C_below HR0_2.out HB.out)); (case side2 => exact HC0_2.out); rintro e w11 ⟨rfl, hb⟩; refine ⟨_, rfl, ?_⟩; replace BK101 := Zz.mk (bB_ (g := gb101) (o := .cells #[.int .i64 a0_0, .int .i64 a0_1, .slice A0_2 l0_2.length c0_2] 28 (0, 0)) (KB_ BK101.out) hb); replace HB := Zz.mk (bT_ (B1_ HB.out GE101.out) hb); (try clear hb); (try clear hb2); (try clear hk); (try clear hi); have hcz12_0 : w11.cell? ⟨gb101, 0, none⟩ = some (.int .i64 a0_0) := (bC_ BK101.out 0).trans rfl; have hcz12_1 : w11.cell? ⟨gb101, 1, none⟩ = some (.int .i64 a0_1) := (bC_ BK101.out 1).trans rfl; have hcz12_2 : w11.cell? ⟨gb101, 2, none⟩ = some (.slice A0_2 l0_2.length c0_2) := (bC_ BK101.out 2).trans rfl; have hfz12_0 := bF_ BK101.out 0; have hfz12_1 := bF_ BK101.out 1; have hfz12_2 := bF_ BK101.out 2) | ((with_reducible refine gC_ (f := 61) rfl ?_); refine GL_ (some 16) rfl rfl Try.func61 #[.slice A1 l1.length c1, .int .i64 a0_1, .int .i64 a0_0] rfl (h := ?_); (with_reducible refine (z61.calls k _ _ l1 a0_1 a0_0 true _ ?side1 ?side2 A5.out).mono ?_); (case side1 => exact KC_ (Kd.C_below HR1.out HB.out)); (case side2 => exact HC1.out); rintro e w13 ⟨rfl, hb⟩; refine ⟨_, rfl, ?_⟩; replace BK101 := Zz.mk (bB_ (g := gb101) (o := .cells #[.int .i64 a0_0, .int .i64 a0_1, .slice A0_2 l0_2.length c0_2] 28 (0, 0)) (KB_ BK101.out) hb); replace HB := Zz.mk (bT_ (B1_ HB.out GE101.out) hb); (try clear hb); (try clear hb2); (try clear hk); (try clear hi); have hcz14_0 : w13.cell? ⟨gb101, 0, none⟩ = some (.int .i64 a0_0) := (bC_ BK101.out 0).trans rfl; have hcz14_1 : w13.cell? ⟨gb101, 1, none⟩ = some (.int .i64 a0_1) := (bC_ BK101.out 1).trans rfl; have hcz14_2 : w13.cell? ⟨gb101, 2, none⟩ = some (.slice A0_2 l0_2.length c0_2) := (bC_ BK101.out 2).trans rfl; have hfz14_0 := bF_ BK101.out 0; have hfz14_1 := bF_ BK101.out 1; have hfz14_2 := bF_ BK101.out 2) | ((with_reducible refine gC_ (f := 62) rfl ?_); refine GL_ (some 21) rfl rfl Try.func62 #[.agg #[.int .i64 a0_0, .int .i64 a0_1, .slice A0_2 l0_2.length c0_2], .slice A1 l1.length c1] rfl (h := ?_); (with_reducible refine (z62.calls k a0_0 a0_1 _ _ l0_2 (fun k_ => k_ < w.heap.size) _ _ l1 t104 true _ ?side1 ?side2 ?side3 A7.out).mono ?_); (case side1 => exact KC_ (Kd.C_below HR0_2.out HB.out)); (case side2 => exact HC0_2.out); (case side3 => exact Kd.V_mk HC1.out (Kd.F_below (Kd.C_F (Kd.heap_int .i64) HR1.out) (B1_ HB.out GE101.out))); rintro e w15 ⟨v105, rfl, ho0, hb⟩; refine ⟨_, rfl, ?_⟩; have HO106 := Zz.mk (Kd.R_lower (Kd.R_mono (ok' := fun k_ => True) ho0 (fun _ hk_ => trivial)) (bS_ (B1_ HB.out GE101.out))); replace BK101 := Zz.mk (bB_ (g := gb101) (o := .cells #[.int .i64 a0_0, .int .i64 a0_1, .slice A0_2 l0_2.length c0_2] 28 (0, 0)) (KB_ BK101.out) hb); replace HB := Zz.mk (bT_ (B1_ HB.out GE101.out) hb); (try clear hb); (try clear hb2); (try clear hk); (try clear hi); (try clear ho0)))
    go_ret2
    exact ⟨_, F_, KR_ HO106.out, B1_ HB.out GE101.out⟩
   ·replace c8 := Bool.eq_false_iff.mpr c8
    subst c8
    have H1 : (some (([] : List Int), 3)) = some (r1, r2) := by rw [if_neg (show ¬ (false = true) by decide)] at H; exact H
    clear H
    have H := H1
    clear H1
    simp only [Option.some.injEq, Prod.mk.injEq] at H
    obtain ⟨rfl, rfl⟩ := H
    go_enter Try.func21, Try.ntmps21
    go_wp2_with (first | ((with_reducible refine qAi (N := 2) rfl ?_); refine qCc ?hg (N := 2) ?hd (cs := #[.int .i64 a0_0, .int .i64 a0_1, .slice A0_2 l0_2.length c0_2]) (t := 28) ?hr ?_; (case hd => rfl); (case hg => rfl); (case hr => first | (go_simp; done) | (go_simp; rfl)); intro gb101 hg w16 hbox hb; have n0_ := Zz.mk (bT_ (B_ HB.out) hb); have n1_ := Zz.mk (hbox); have n2_ := Zz.mk ((by rw [hg]; exact (bS_ (B_ HB.out)) : w.heap.size ≤ gb101)); have n3_ := Zz.mk ((by rw [hg]; exact (bS_ (B_ HB.out)) : w.heap.size ≤ gb101)); clear HB; have HB := n0_; have BK101 := n1_; have GW101 := n2_; have GE101 := n3_; clear n0_ n1_ n2_ n3_; clear hb hbox hg; have hcz17_0 : w16.cell? ⟨gb101, 0, none⟩ = some (.int .i64 a0_0) := (bC_ BK101.out 0).trans rfl; have hcz17_1 : w16.cell? ⟨gb101, 1, none⟩ = some (.int .i64 a0_1) := (bC_ BK101.out 1).trans rfl; have hcz17_2 : w16.cell? ⟨gb101, 2, none⟩ = some (.slice A0_2 l0_2.length c0_2) := (bC_ BK101.out 2).trans rfl; have hfz17_0 := bF_ BK101.out 0; have hfz17_1 := bF_ BK101.out 1; have hfz17_2 := bF_ BK101.out 2) | ((with_reducible refine gC_ (f := 54) rfl ?_); refine GL_ (some 9) rfl rfl Try.func54 #[.agg #[.int .i64 a0_0, .int .i64 a0_1, .slice A0_2 l0_2.length c0_2]] rfl (h := ?_); (with_reducible refine (z54.calls k a0_0 a0_1 _ _ l0_2 true _ ?side1 ?side2 A3.out).mono ?_); (case side1 => exact KC_ (Kd.C_below HR0_2.out HB.out)); (case side2 => exact HC0_2.out); rintro e w18 ⟨rfl, hb⟩; refine ⟨_, rfl, ?_⟩; replace BK101 := Zz.mk (bB_ (g := gb101) (o := .cells #[.int .i64 a0_0, .int .i64 a0_1, .slice A0_2 l0_2.length c0_2] 28 (0, 0)) (KB_ BK101.out) hb); replace HB := Zz.mk (bT_ (B1_ HB.out GE101.out) hb); (try clear hb); (try clear hb2); (try clear hk); (try clear hi); have hcz19_0 : w18.cell? ⟨gb101, 0, none⟩ = some (.int .i64 a0_0) := (bC_ BK101.out 0).trans rfl; have hcz19_1 : w18.cell? ⟨gb101, 1, none⟩ = some (.int .i64 a0_1) := (bC_ BK101.out 1).trans rfl; have hcz19_2 : w18.cell? ⟨gb101, 2, none⟩ = some (.slice A0_2 l0_2.length c0_2) := (bC_ BK101.out 2).trans rfl; have hfz19_0 := bF_ BK101.out 0; have hfz19_1 := bF_ BK101.out 1; have hfz19_2 := bF_ BK101.out 2) | ((with_reducible refine gC_ (f := 61) rfl ?_); refine GL_ (some 16) rfl rfl Try.func61 #[.slice A1 l1.length c1, .int .i64 a0_1, .int .i64 a0_0] rfl (h := ?_); (with_reducible refine (z61.calls k _ _ l1 a0_1 a0_0 true _ ?side1 ?side2 A5.out).mono ?_); (case side1 => exact KC_ (Kd.C_below HR1.out HB.out)); (case side2 => exact HC1.out); rintro e w20 ⟨rfl, hb⟩; refine ⟨_, rfl, ?_⟩; replace BK101 := Zz.mk (bB_ (g := gb101) (o := .cells #[.int .i64 a0_0, .int .i64 a0_1, .slice A0_2 l0_2.length c0_2] 28 (0, 0)) (KB_ BK101.out) hb); replace HB := Zz.mk (bT_ (B1_ HB.out GE101.out) hb); (try clear hb); (try clear hb2); (try clear hk); (try clear hi); have hcz21_0 : w20.cell? ⟨gb101, 0, none⟩ = some (.int .i64 a0_0) := (bC_ BK101.out 0).trans rfl; have hcz21_1 : w20.cell? ⟨gb101, 1, none⟩ = some (.int .i64 a0_1) := (bC_ BK101.out 1).trans rfl; have hcz21_2 : w20.cell? ⟨gb101, 2, none⟩ = some (.slice A0_2 l0_2.length c0_2) := (bC_ BK101.out 2).trans rfl; have hfz21_0 := bF_ BK101.out 0; have hfz21_1 := bF_ BK101.out 1; have hfz21_2 := bF_ BK101.out 2) | ((with_reducible refine gC_ (f := 62) rfl ?_); refine GL_ (some 21) rfl rfl Try.func62 #[.agg #[.int .i64 a0_0, .int .i64 a0_1, .slice A0_2 l0_2.length c0_2], .slice A1 l1.length c1] rfl (h := ?_); (with_reducible refine (z62.calls k a0_0 a0_1 _ _ l0_2 (fun k_ => k_ < w.heap.size) _ _ l1 t104 false _ ?side1 ?side2 ?side3 A7.out).mono ?_); (case side1 => exact KC_ (Kd.C_below HR0_2.out HB.out)); (case side2 => exact HC0_2.out); (case side3 => exact Kd.V_mk HC1.out (Kd.F_below (Kd.C_F (Kd.heap_int .i64) HR1.out) (B1_ HB.out GE101.out))); rintro e w22 ⟨v105, rfl, ho0, hb⟩; refine ⟨_, rfl, ?_⟩; have HO106 := Zz.mk (Kd.R_lower (Kd.R_mono (ok' := fun k_ => True) ho0 (fun _ hk_ => trivial)) (bS_ (B1_ HB.out GE101.out))); replace BK101 := Zz.mk (bB_ (g := gb101) (o := .cells #[.int .i64 a0_0, .int .i64 a0_1, .slice A0_2 l0_2.length c0_2] 28 (0, 0)) (KB_ BK101.out) hb); replace HB := Zz.mk (bT_ (B1_ HB.out GE101.out) hb); (try clear hb); (try clear hb2); (try clear hk); (try clear hi); (try clear ho0)))
    go_ret2
    exact ⟨_, F_, by first | exact Kd.R_nil _ _ _ _ _ | exact Kd.N_nil _ _ _ _ _ | exact Kd.V_nil _ _ _ _ _ | exact Kd.Q_nil _ _ _ _ _ | exact Kd.S_nil _ _ _ _ _, B1_ HB.out GE101.out⟩
  ·replace c6 := Bool.eq_false_iff.mpr c6
   subst c6
   have H1 : (some (([] : List Int), 2)) = some (r1, r2) := by rw [if_neg (show ¬ (false = true) by decide)] at H; exact H
   clear H
   have H := H1
   clear H1
   simp only [Option.some.injEq, Prod.mk.injEq] at H
   obtain ⟨rfl, rfl⟩ := H
   go_enter Try.func21, Try.ntmps21
   go_wp2_with (first | ((with_reducible refine qAi (N := 2) rfl ?_); refine qCc ?hg (N := 2) ?hd (cs := #[.int .i64 a0_0, .int .i64 a0_1, .slice A0_2 l0_2.length c0_2]) (t := 28) ?hr ?_; (case hd => rfl); (case hg => rfl); (case hr => first | (go_simp; done) | (go_simp; rfl)); intro gb101 hg w23 hbox hb; have n0_ := Zz.mk (bT_ (B_ HB.out) hb); have n1_ := Zz.mk (hbox); have n2_ := Zz.mk ((by rw [hg]; exact (bS_ (B_ HB.out)) : w.heap.size ≤ gb101)); have n3_ := Zz.mk ((by rw [hg]; exact (bS_ (B_ HB.out)) : w.heap.size ≤ gb101)); clear HB; have HB := n0_; have BK101 := n1_; have GW101 := n2_; have GE101 := n3_; clear n0_ n1_ n2_ n3_; clear hb hbox hg; have hcz24_0 : w23.cell? ⟨gb101, 0, none⟩ = some (.int .i64 a0_0) := (bC_ BK101.out 0).trans rfl; have hcz24_1 : w23.cell? ⟨gb101, 1, none⟩ = some (.int .i64 a0_1) := (bC_ BK101.out 1).trans rfl; have hcz24_2 : w23.cell? ⟨gb101, 2, none⟩ = some (.slice A0_2 l0_2.length c0_2) := (bC_ BK101.out 2).trans rfl; have hfz24_0 := bF_ BK101.out 0; have hfz24_1 := bF_ BK101.out 1; have hfz24_2 := bF_ BK101.out 2) | ((with_reducible refine gC_ (f := 54) rfl ?_); refine GL_ (some 9) rfl rfl Try.func54 #[.agg #[.int .i64 a0_0, .int .i64 a0_1, .slice A0_2 l0_2.length c0_2]] rfl (h := ?_); (with_reducible refine (z54.calls k a0_0 a0_1 _ _ l0_2 true _ ?side1 ?side2 A3.out).mono ?_); (case side1 => exact KC_ (Kd.C_below HR0_2.out HB.out)); (case side2 => exact HC0_2.out); rintro e w25 ⟨rfl, hb⟩; refine ⟨_, rfl, ?_⟩; replace BK101 := Zz.mk (bB_ (g := gb101) (o := .cells #[.int .i64 a0_0, .int .i64 a0_1, .slice A0_2 l0_2.length c0_2] 28 (0, 0)) (KB_ BK101.out) hb); replace HB := Zz.mk (bT_ (B1_ HB.out GE101.out) hb); (try clear hb); (try clear hb2); (try clear hk); (try clear hi); have hcz26_0 : w25.cell? ⟨gb101, 0, none⟩ = some (.int .i64 a0_0) := (bC_ BK101.out 0).trans rfl; have hcz26_1 : w25.cell? ⟨gb101, 1, none⟩ = some (.int .i64 a0_1) := (bC_ BK101.out 1).trans rfl; have hcz26_2 : w25.cell? ⟨gb101, 2, none⟩ = some (.slice A0_2 l0_2.length c0_2) := (bC_ BK101.out 2).trans rfl; have hfz26_0 := bF_ BK101.out 0; have hfz26_1 := bF_ BK101.out 1; have hfz26_2 := bF_ BK101.out 2) | ((with_reducible refine gC_ (f := 61) rfl ?_); refine GL_ (some 16) rfl rfl Try.func61 #[.slice A1 l1.length c1, .int .i64 a0_1, .int .i64 a0_0] rfl (h := ?_); (with_reducible refine (z61.calls k _ _ l1 a0_1 a0_0 false _ ?side1 ?side2 A5.out).mono ?_); (case side1 => exact KC_ (Kd.C_below HR1.out HB.out)); (case side2 => exact HC1.out); rintro e w27 ⟨rfl, hb⟩; refine ⟨_, rfl, ?_⟩; replace BK101 := Zz.mk (bB_ (g := gb101) (o := .cells #[.int .i64 a0_0, .int .i64 a0_1, .slice A0_2 l0_2.length c0_2] 28 (0, 0)) (KB_ BK101.out) hb); replace HB := Zz.mk (bT_ (B1_ HB.out GE101.out) hb); (try clear hb); (try clear hb2); (try clear hk); (try clear hi)))
   go_ret2
   exact ⟨_, F_, by first | exact Kd.R_nil _ _ _ _ _ | exact Kd.N_nil _ _ _ _ _ | exact Kd.V_nil _ _ _ _ _ | exact Kd.Q_nil _ _ _ _ _ | exact Kd.S_nil _ _ _ _ _, B1_ HB.out GE101.out⟩
 ·replace c4 := Bool.eq_false_iff.mpr c4
  subst c4
  have H1 : (some (([] : List Int), 1)) = some (r1, r2) := by rw [if_neg (show ¬ (false = true) by decide)] at H; exact H
  clear H
  have H := H1
  clear H1
  simp only [Option.some.injEq, Prod.mk.injEq] at H
  obtain ⟨rfl, rfl⟩ := H
  go_enter Try.func21, Try.ntmps21
  go_wp2_with (first | ((with_reducible refine qAi (N := 2) rfl ?_); refine qCc ?hg (N := 2) ?hd (cs := #[.int .i64 a0_0, .int .i64 a0_1, .slice A0_2 l0_2.length c0_2]) (t := 28) ?hr ?_; (case hd => rfl); (case hg => rfl); (case hr => first | (go_simp; done) | (go_simp; rfl)); intro gb101 hg w28 hbox hb; have n0_ := Zz.mk (bT_ (B_ HB.out) hb); have n1_ := Zz.mk (hbox); have n2_ := Zz.mk ((by rw [hg]; exact (bS_ (B_ HB.out)) : w.heap.size ≤ gb101)); have n3_ := Zz.mk ((by rw [hg]; exact (bS_ (B_ HB.out)) : w.heap.size ≤ gb101)); clear HB; have HB := n0_; have BK101 := n1_; have GW101 := n2_; have GE101 := n3_; clear n0_ n1_ n2_ n3_; clear hb hbox hg; have hcz29_0 : w28.cell? ⟨gb101, 0, none⟩ = some (.int .i64 a0_0) := (bC_ BK101.out 0).trans rfl; have hcz29_1 : w28.cell? ⟨gb101, 1, none⟩ = some (.int .i64 a0_1) := (bC_ BK101.out 1).trans rfl; have hcz29_2 : w28.cell? ⟨gb101, 2, none⟩ = some (.slice A0_2 l0_2.length c0_2) := (bC_ BK101.out 2).trans rfl; have hfz29_0 := bF_ BK101.out 0; have hfz29_1 := bF_ BK101.out 1; have hfz29_2 := bF_ BK101.out 2) | ((with_reducible refine gC_ (f := 54) rfl ?_); refine GL_ (some 9) rfl rfl Try.func54 #[.agg #[.int .i64 a0_0, .int .i64 a0_1, .slice A0_2 l0_2.length c0_2]] rfl (h := ?_); (with_reducible refine (z54.calls k a0_0 a0_1 _ _ l0_2 false _ ?side1 ?side2 A3.out).mono ?_); (case side1 => exact KC_ (Kd.C_below HR0_2.out HB.out)); (case side2 => exact HC0_2.out); rintro e w30 ⟨rfl, hb⟩; refine ⟨_, rfl, ?_⟩; replace BK101 := Zz.mk (bB_ (g := gb101) (o := .cells #[.int .i64 a0_0, .int .i64 a0_1, .slice A0_2 l0_2.length c0_2] 28 (0, 0)) (KB_ BK101.out) hb); replace HB := Zz.mk (bT_ (B1_ HB.out GE101.out) hb); (try clear hb); (try clear hb2); (try clear hk); (try clear hi)))
  go_ret2
  exact ⟨_, F_, by first | exact Kd.R_nil _ _ _ _ _ | exact Kd.N_nil _ _ _ _ _ | exact Kd.V_nil _ _ _ _ _ | exact Kd.Q_nil _ _ _ _ _ | exact Kd.S_nil _ _ _ _ _, B1_ HB.out GE101.out⟩

end Go.Proofs.Ytkgajpngeglkmaa.B

-- written for this claim by a program (mp.py over the kit's printer)
namespace Go.Proofs.Ytkgajpngeglkmaa.B
open Go.RowKit Go.Proofs.YtkgajpngeglkmaaW.PrintWords Go.Proofs.YtkgajpngeglkmaaW.PrintLast Go.Proofs.YtkgajpngeglkmaaW.PrintMore
attribute [local go_sem] qAh qAf qAn qAm qAc qAb qAg qAe
set_option linter.unusedVariables false
set_option linter.unusedSimpArgs false

def z51.l0 : Nat → List Int → Int → Option (Int)
 | 0, _, _ => none
 | k + 1, x0, x3 => if x3 < (x0.length : Int) then (if 0 ≤ x3 then (if (rd x0 x3) = 0 then (z51.l0 k x0 (wrap64 (x3 + 1))) else (some x3)) else (none)) else (some x3)
def z51.f (k : Nat) (l0 : List Int) : Option (Int) := z51.l0 k l0 0
theorem z51.calls (k : Nat) (A0 : Option Addr) (c0 : Nat) (l0 : List Int) (r : Int) (w : World) (hr0 : Kd.C (Kd.int .i64) w A0 l0.length l0) (hc0 : l0.length ≤ c0) (h : z51.f k l0 = some r) :
  Calls Try.prog 51 #[.slice A0 l0.length c0] w fun e w' => e = .returned (.int .i64 r) ∧ Dz w w' := by
 have HR0 := Zz.mk hr0
 have HC0 := Zz.mk hc0
 clear hr0 hc0
 have H : (z51.l0 k l0 0) = some r := h
 clear h
 have H' := Zz.mk H
 clear H
 go_enter Try.func51, Try.ntmps51
 go_wp2
 go_loopg [3] k (fun kq v3 w' => ∃ (x3_1 : Int), v3 = .int .i64 x3_1 ∧ Zz (z51.l0 kq l0 x3_1 = some r) ∧ Zz (kq ≤ k) ∧ Dz w w')
 case atStart => exact ⟨(0), E_, H', ⟨Nat.le_refl _⟩, by repeat (first | exact Dz.refl _ | apply Dz.step)⟩
 case round =>
  clear H'
  obtain ⟨x3_1, rfl, HA, HK1, ⟨m1, rfl⟩⟩ := hrel
  cases gk with
  | zero => exact absurd HA.out (by simp [z51.l0])
  | succ k1 =>
   have H := HA.out
   clear HA
   simp only [z51.l0] at H
   by_cases c2 : x3_1 < (l0.length : Int)
   ·rw [if_pos c2] at H
    have c2b0 : decide (x3_1 < (l0.length : Int)) = true := decide_eq_true c2
    clear c2
    have c3 := O1_ H
    replace H := O2_ H
    have c3b0 := decide_eq_true c3
    clear c3
    by_cases c4 : (rd l0 x3_1) = 0
    ·rw [if_pos c4] at H
     have c4b0 : ((rd l0 x3_1) == 0) = true := beq_iff_eq.mpr c4
     have c4b1 : ((rd l0 x3_1) != 0) = false := bne_eq_false_iff_eq.mpr c4
     clear c4
     have H' := Zz.mk H
     clear H
     have p101 : 0 ≤ (x3_1 : Int) := D_
     have q101 : x3_1 < (l0.length : Int) := D_
     obtain ⟨ad101, e101, hx101_0⟩ := Kd.at_int HR0.out x3_1 p101 q101
     cases e101
     replace p101 := eq_true p101
     replace q101 := eq_true q101
     go_wp2
     go_roundg k1
     case measure => exact Q1_ HK1
     case rel => exact ⟨(wrap64 (x3_1 + 1)), E_, H', ⟨Q1_ HK1⟩, by repeat (first | exact Dz.refl _ | apply Dz.step)⟩
    ·rw [if_neg c4] at H
     have c4b0 : ((rd l0 x3_1) == 0) = false := beq_eq_false_iff_ne.mpr c4
     have c4b1 : ((rd l0 x3_1) != 0) = true := bne_iff_ne.mpr c4
     obtain rfl := OI_ H
     have p101 : 0 ≤ (x3_1 : Int) := D_
     have q101 : x3_1 < (l0.length : Int) := D_
     obtain ⟨ad101, e101, hx101_0⟩ := Kd.at_int HR0.out x3_1 p101 q101
     cases e101
     replace p101 := eq_true p101
     replace q101 := eq_true q101
     go_wp2
     go_ret
     exact ⟨by first | rfl | (simp; done) | (simp [*]; done), by repeat (first | exact Dz.refl _ | apply Dz.step)⟩
   ·rw [if_neg c2] at H
    have c2b0 : decide (x3_1 < (l0.length : Int)) = false := decide_eq_false c2
    clear c2
    obtain rfl := OI_ H
    go_wp2
    go_ret
    exact ⟨by first | rfl | (simp; done) | (simp [*]; done), by repeat (first | exact Dz.refl _ | apply Dz.step)⟩

end Go.Proofs.Ytkgajpngeglkmaa.B

set_option linter.unusedVariables false
set_option linter.unusedSimpArgs false
namespace Go.Proofs.Ytkgajpngeglkmaa.B
open Go.RowKit Go.Proofs.YtkgajpngeglkmaaW.PrintWords
open LinT
theorem qHd {p n : Nat} (hp : isP p = true) (hn : n ≤ 1000) {B : List (List Int)} {q : List Int} (h : Red (p : Int) n B B q) (hB : B.length ≤ 900) {x : List Int} (hx : x.length = n) (hxr : Rng p x) :
  Ev (fun k => z39.f k (p : Int) (n : Int) B x) (inSp (p : Int) n B x) := by
 have hv : Vs (p : Int) n (B ++ [x]) := qD5 h.vs (qIg hx hxr)
 obtain ⟨h1, q', h2⟩ := qD3 (L := B ++ [x]) hp hn (by simp; omega) hv
 have hm := h.more (qEh hp) h2
 unfold z39.f
 refine Ev.bind (qAt rfl) (qAa (by simp; omega) (Ev.bind (qAt rfl) (qAa (by simp; omega) (Ev.bind h1 (qBa (Ev.now _) ?_)))))
 rw [Bool.eq_iff_iff, qCy, beq_iff_eq]
 by_cases hs : Span (p : Int) n (B.map vec) (vec x)
 ·have := hm.1 hs
  exact ⟨fun _ => hs, fun _ => by omega⟩
 ·have := hm.2 hs
  exact ⟨fun h => by omega, fun h => absurd h hs⟩
end Go.Proofs.Ytkgajpngeglkmaa.B
set_option linter.unusedVariables false
set_option linter.unusedSimpArgs false
namespace Go.Proofs.Ytkgajpngeglkmaa.B
open Go.RowKit Go.Proofs.YtkgajpngeglkmaaW.PrintWords
open LinT
noncomputable def askT (p n : Int) (L : List (List Int)) (p' n' : Int) (M : List (List Int)) : Int := if (okS p n L && okS p' n' M) = true then (if p = p' ∧ n = n' then 0 else 6) else 1
section
variable {L M : List (List Int)} (hl : L.length ≤ 1048576) (hr : ∀ x ∈ L, x.length ≤ 1048576) (hl' : M.length ≤ 1048576) (hr' : ∀ x ∈ M, x.length ≤ 1048576)
include hl hr hl' hr'
theorem qDk (p n p' n' : Int) : Ev (fun k => z42.f k p n L p' n' M) (askT p n L p' n' M) := by
 unfold z42.f askT
 have hj : ∀ b, Ev (fun k => z42.j0 k (!b) p n L p' n' M) (if b = true then (if p = p' ∧ n = n' then 0 else 6) else 1) := fun b => by
  refine Ev.step (fun k => z42.j0.eq_2 ..) ?_
  cases b with
  | false => exact qAa rfl (Ev.now _)
  | true =>
   refine qAd (by decide) ?_
   rw [if_pos rfl]
   by_cases h1 : p = p'
   ·refine qAa h1 ?_
    by_cases h2 : n = n'
    ·exact qBa (qAa h2 (Ev.now _)) (if_pos ⟨h1, h2⟩).symm
    ·exact qBa (qAd h2 (Ev.now _)) (if_neg (fun h => h2 h.2)).symm
   ·exact qBa (qAd h1 (Ev.now _)) (if_neg (fun h => h1 h.1)).symm
 have h1 := qC7 hl hr p n
 have h2 := qC7 hl' hr' p' n'
 refine Ev.bind h1 ?_
 cases ho : okS p n L with
 | false => exact qAd (by decide) (by simpa using hj false)
 | true => exact qAa rfl (Ev.bind h2 (by simpa using hj (okS p' n' M)))
theorem qEw (p n p' n' : Int) : Ev (fun k => z38.f k p n L p' n' M) (askT p n L p' n' M) := by
 unfold z38.f askT
 have hj : ∀ b, Ev (fun k => z38.j0 k (!b) p n L p' n' M) (if b = true then (if p = p' ∧ n = n' then 0 else 6) else 1) := fun b => by
  refine Ev.step (fun k => z38.j0.eq_2 ..) ?_
  cases b with
  | false => exact qAa rfl (Ev.now _)
  | true =>
   refine qAd (by decide) ?_
   rw [if_pos rfl]
   by_cases h1 : p = p'
   ·refine qAa h1 ?_
    by_cases h2 : n = n'
    ·exact qBa (qAa h2 (Ev.now _)) (if_pos ⟨h1, h2⟩).symm
    ·exact qBa (qAd h2 (Ev.now _)) (if_neg (fun h => h2 h.2)).symm
   ·exact qBa (qAd h1 (Ev.now _)) (if_neg (fun h => h1 h.1)).symm
 have h1 := qKc hl hr p n
 have h2 := qKc hl' hr' p' n'
 refine Ev.bind h1 ?_
 cases ho : okS p n L with
 | false => exact qAd (by decide) (by simpa using hj false)
 | true => exact qAa rfl (Ev.bind h2 (by simpa using hj (okS p' n' M)))
end
theorem qJf {p n p' n' : Int} {L M : List (List Int)} (hl : L.length ≤ 1048576) (hl' : M.length ≤ 1048576) (h : askT p n L p' n' M = 0) : ∃ (q m : Nat) (s t : List Int), p = (q : Int) ∧ n = (m : Int) ∧ p' = (q : Int) ∧ n' = (m : Int) ∧ isP q = true ∧ m ≤ 32 ∧ Red (q : Int) m L L s ∧ Red (q : Int) m M M t ∧ L.length ≤ 32 ∧ M.length ≤ 32 := by
 unfold askT at h
 by_cases ho : (okS p n L && okS p' n' M) = true
 ·rw [if_pos ho] at h
  rw [ye_] at ho
  by_cases he : p = p' ∧ n = n'
  ·obtain ⟨rfl, rfl⟩ := he
   obtain ⟨q, m, rfl, rfl, hq, hm, hv, he⟩ := qIw ho.1
   obtain ⟨q', m', e1, e2, hq', hm', hv', he'⟩ := qIw ho.2
   have : q' = q := by omega
   subst this
   have : m' = m := by omega
   subst this
   obtain ⟨_, s, hs⟩ := qCg (L := L) hq (show m' ≤ 1024 by omega) hl hv
   obtain ⟨_, t, ht⟩ := qCg (L := M) hq (show m' ≤ 1024 by omega) hl' hv'
   rw [he] at hs
   rw [he'] at ht
   have l1 := (hs.len_le (qEh hq)).1
   have l2 := (ht.len_le (qEh hq)).1
   exact ⟨q', m', s, t, rfl, rfl, rfl, rfl, hq, hm, hs, ht, by omega, by omega⟩
  ·rw [if_neg he] at h; omega
 ·rw [if_neg ho] at h; omega
end Go.Proofs.Ytkgajpngeglkmaa.B
set_option linter.unusedVariables false
set_option linter.unusedSimpArgs false
namespace Go.Proofs.Ytkgajpngeglkmaa.B
open Go.RowKit Go.Proofs.YtkgajpngeglkmaaW.PrintWords
open LinT
noncomputable def extL (p : Int) (n : Nat) : List (List Int) → List (List Int) → List (List Int)
 | _, [] => []
 | L, x :: xs => if inSp p n L x = true then extL p n L xs else x :: extL p n (L ++ [x]) xs
theorem qFx {p : Int} {n : Nat} : ∀ (xs L : List (List Int)), (extL p n L xs).length ≤ xs.length
 | [], _ => Nat.le_refl _
 | x :: xs, L => by
  unfold extL
  split
  ·have := qFx (p := p) (n := n) xs L; rw [List.length_cons]; omega
  ·have := qFx (p := p) (n := n) xs (L ++ [x]); rw [List.length_cons, List.length_cons]; omega
theorem qFw {p : Int} {n : Nat} {y : List Int} : ∀ (xs L : List (List Int)), y ∈ extL p n L xs → y ∈ xs
 | [], _, h => h
 | x :: xs, L, h => by
  unfold extL at h
  split at h
  ·exact List.mem_cons_of_mem _ (qFw xs L h)
  ·rcases List.mem_cons.1 h with h | h
   ·rw [h]; exact List.mem_cons_self
   ·exact List.mem_cons_of_mem _ (qFw xs _ h)
theorem qIa {p : Int} {n : Nat} {L L' : List (List Int)} (h : ∀ v, Span p n (L.map vec) v ↔ Span p n (L'.map vec) v) (x : List Int) : inSp p n L x = inSp p n L' x := by
 rw [Bool.eq_iff_iff, qCy, qCy, h]
theorem qD8 {p : Int} {n : Nat} {L L' : List (List Int)} (h : ∀ v, Span p n (L.map vec) v ↔ Span p n (L'.map vec) v) (x : List Int) (v : Vec) : Span p n ((L ++ [x]).map vec) v ↔ Span p n ((L' ++ [x]).map vec) v := by
 have key : ∀ {L L' : List (List Int)}, (∀ v, Span p n (L.map vec) v ↔ Span p n (L'.map vec) v) → Span p n ((L ++ [x]).map vec) v → Span p n ((L' ++ [x]).map vec) v := fun {L L'} h => qBu fun y hy => by
  rw [List.map_append] at hy ⊢
  rcases List.mem_append.1 hy with h1 | h1
  ·exact qBu (fun z hz => qA7 (List.mem_append_left _ hz)) ((h y).1 (qA7 h1))
  ·exact qA7 (List.mem_append_right _ h1)
 exact ⟨key h, key fun v => (h v).symm⟩
end Go.Proofs.Ytkgajpngeglkmaa.B
set_option linter.unusedVariables false
set_option linter.unusedSimpArgs false
namespace Go.Proofs.Ytkgajpngeglkmaa.B
open Go.RowKit Go.Proofs.YtkgajpngeglkmaaW.PrintWords
open LinT
theorem qEd {p n : Nat} (hp : isP p = true) (hn : n ≤ 1024) {L B : List (List Int)} {q : List Int} (h : Red (p : Int) n L B q) {x : List Int} (hB : B.length ≤ 1000) (hvx : Vs (p : Int) n [x]) :
  ∃ B' q', Red (p : Int) n (L ++ [x]) B' q' ∧ Ev (fun k => z76.f k (p : Int) (n : Int) (B ++ [x])) ((p : Int), (n : Int), B') := by
 obtain ⟨h2, q', h1⟩ := qCg hp hn (L := B ++ [x]) (by rw [yg_]; simp; omega) (qD5 h.vs hvx)
 exact ⟨_, q', h1.of_same fun v => qD8 h.span x v, h2⟩
theorem qGi {p n : Nat} (hp : isP p = true) (hn : n ≤ 1000) (xs : List (List Int)) (hx : Vs (p : Int) n xs) (hxl : xs.length ≤ 1000) {L B : List (List Int)} {q : List Int} (h : Red (p : Int) n L B q) (a b : Int) :
  Ev (fun k => z46.f k a b xs (p : Int) (n : Int) B) (extL (p : Int) n L xs) := by
 unfold z46.f
 have hpr := qEh hp
 have main : ∀ (d i : Nat) (T L B : List (List Int)) (q : List Int), i + d = xs.length → T.length ≤ i → Red (p : Int) n L B q → Ev (fun k => z46.l0 k T xs (xs.length : Int) (i : Int) (p : Int) (n : Int) B) (T ++ extL (p : Int) n L (xs.drop i)) := by
  intro d
  induction d with
  | zero =>
   intro i T L B q hi hT h
   rw [List.drop_of_length_le oM_]
   refine Ev.step (fun k => z46.l0.eq_2 ..) ?_
   exact qAd oM_ (qBa (Ev.now _) (by simp [extL]))
  | succ d ih =>
   intro i T L B q hi hT h
   have hil : i < xs.length := by omega
   have hdr : xs.drop i = xs.getD i [] :: xs.drop (i + 1) := by
    rw [List.drop_eq_getElem_cons hil, ya_, yb_ hil]; rfl
   obtain ⟨hxn, hxr⟩ := hx _ (qAz ([] : List Int) hil)
   have hB := (h.len_le hpr).1
   have hc := qDw hp oM_ h oM_ hxn hxr
   rw [qIa h.span] at hc
   refine Ev.step (fun k => z46.l0.eq_2 ..) ?_
   rw [qAx, qAo oM_]
   refine qAa oM_ (qAa oM_ (qAa oM_ (Ev.bind hc ?_)))
   rw [hdr]
   by_cases hin : inSp (p : Int) n L (xs.getD i []) = true
   ·refine qAa (by rw [hin]) (qBa (ih (i + 1) T L B q oM_ oM_ h) ?_)
    rw [show extL (p : Int) n L (xs.getD i [] :: xs.drop (i + 1)) = extL (p : Int) n L (xs.drop (i + 1)) by conv => lhs; unfold extL; rw [if_pos hin]]
   ·obtain ⟨B', q', r1, r2⟩ := qEd hp oM_ h (x := xs.getD i []) oM_ (qIg hxn hxr)
    refine qAd (by rw [Bool.not_eq_true] at hin; rw [hin]; decide) (Ev.bind (qAt (qGu _ oM_)) (qAa oM_ (Ev.bind (qCu B oM_ (fun x hx => by rw [(h.vs x hx).1]; omega)) (Ev.bind (qAt rfl) (qAa (by simp; omega) (Ev.bind r2 ?_))))))
    refine qBa (ih (i + 1) (T ++ [xs.getD i []]) (L ++ [xs.getD i []]) B' q' oM_ (by simp; omega) r1) ?_
    rw [show extL (p : Int) n L (xs.getD i [] :: xs.drop (i + 1)) = xs.getD i [] :: extL (p : Int) n (L ++ [xs.getD i []]) (xs.drop (i + 1)) by conv => lhs; unfold extL; rw [if_neg hin]]
    simp
 have := main xs.length 0 [] L B q oM_ (by simp) h
 simpa using this
theorem qHn {p : Int} {n : Nat} {L : List (List Int)} {q : List Int} (hp : Pr p) (h : Red p n L (redB p n L) q) : (redB p n L).length = LinT.dim p n (Span p n (L.map vec)) := (h.dim hp).symm
theorem qIc {p n : Nat} (hp : isP p = true) (hn : n ≤ 100) (xs : List (List Int)) (hx : Vs (p : Int) n xs) (hxl : xs.length ≤ 100) {L : List (List Int)} (hL : Vs (p : Int) n L) (hLl : L.length ≤ 100) :
  Ev (fun k => z40.f k (p : Int) (n : Int) L xs) (extL (p : Int) n L xs) := by
 unfold z40.f
 have hpr := qEh hp
 obtain ⟨b0, q0, r0⟩ := qD3 hp (show n ≤ 1000 by omega) (L := L) oM_ hL
 have main : ∀ (d i : Nat) (T L : List (List Int)), i + d = xs.length → T.length ≤ i → L.length ≤ 100 + i → Vs (p : Int) n L → Ev (fun k => z40.l0 k (p : Int) (n : Int) xs L (LinT.dim (p : Int) n (Span (p : Int) n (L.map vec)) : Int) T (i : Int)) (T ++ extL (p : Int) n L (xs.drop i)) := by
  intro d
  induction d with
  | zero =>
   intro i T L hi hT hl hv
   rw [List.drop_of_length_le oM_]
   refine Ev.step (fun k => z40.l0.eq_2 ..) ?_
   exact qAd oM_ (qBa (Ev.now _) (by simp [extL]))
  | succ d ih =>
   intro i T L hi hT hl hv
   have hil : i < xs.length := by omega
   have hdr : xs.drop i = xs.getD i [] :: xs.drop (i + 1) := by
    rw [List.drop_eq_getElem_cons hil, ya_, yb_ hil]; rfl
   obtain ⟨hxn, hxr⟩ := hx _ (qAz ([] : List Int) hil)
   have hv' := qD5 hv (qIg (x := xs.getD i []) hxn hxr)
   obtain ⟨b1, q1, r1⟩ := qD3 hp (show n ≤ 1000 by omega) (L := L ++ [xs.getD i []]) (by simp; omega) hv'
   have hd1 := qHn hpr r1
   have hdl := qKg (p : Int) n (Span (p : Int) n (L.map vec))
   have he : LinT.dim (p : Int) n (Span (p : Int) n ((L ++ [xs.getD i []]).map vec)) = LinT.dim (p : Int) n (Ins (p : Int) n (Span (p : Int) n (L.map vec)) (vec (xs.getD i []))) := qB4 fun v => by
    rw [List.map_append]; exact qGb _ _ _
   refine Ev.step (fun k => z40.l0.eq_2 ..) ?_
   rw [qAx, qAo (i := i) oM_]
   rw [hdr]
   by_cases hin : inSp (p : Int) n L (xs.getD i []) = true
   ·rw [qB4 (qI3 (qA6 (p : Int) n _) (qCy.1 hin))] at he
    refine qAa oM_ (Ev.bind (qAt rfl) (qAa (by simp; omega) (Ev.bind (qAt rfl) (qAa oM_ (Ev.bind (qAt rfl) (qAa (by simp; omega) (Ev.bind (qAt rfl) (Ev.bind b1 (qAd oM_ (qBa (ih (i + 1) T L oM_ oM_ oM_ hv) ?_))))))))))
    rw [show extL (p : Int) n L (xs.getD i [] :: xs.drop (i + 1)) = extL (p : Int) n L (xs.drop (i + 1)) by conv => lhs; unfold extL; rw [if_pos hin]]
   ·rw [qHh hpr (qA6 (p : Int) n _) (fun h => hin (qCy.2 h))] at he
    have hnext := ih (i + 1) (T ++ [xs.getD i []]) (L ++ [xs.getD i []]) oM_ (by simp; omega) (by simp; omega) hv'
    rw [he] at hnext
    have how : z88.f (xs.getD i []) = some (xs.getD i []) := by
     have hlow : (xs.getD i []).length ≤ 100 := by omega
     generalize xs.getD i [] = y at hlow
     unfold z88.f
     simp
     omega
    have ew : wrap64 ((LinT.dim (p : Int) n (Span (p : Int) n (L.map vec)) : Int) + 1) = ((LinT.dim (p : Int) n (Span (p : Int) n (L.map vec)) + 1 : Nat) : Int) := qAo oM_
    rw [ew]
    clear ew
    refine qAa oM_ (Ev.bind (qAt rfl) (qAa (by simp; omega) (Ev.bind (qAt rfl) (qAa oM_ (Ev.bind (qAt rfl) (qAa (by simp; omega) (Ev.bind (qAt rfl) (Ev.bind b1 (qAa oM_ (Ev.bind (qAt how) (qAa oM_ (qBa hnext ?_))))))))))))
    rw [show extL (p : Int) n L (xs.getD i [] :: xs.drop (i + 1)) = xs.getD i [] :: extL (p : Int) n (L ++ [xs.getD i []]) (xs.drop (i + 1)) by conv => lhs; unfold extL; rw [if_neg hin]]
    simp
 have h := main xs.length 0 [] L oM_ (by simp) oM_ hL
 have hd := qHn hpr r0
 rw [← hd] at h
 refine Ev.bind (qAt rfl) (qAa (by simp; omega) (Ev.bind (qAt rfl) (Ev.bind b0 (qBa h ?_))))
 simp
theorem qHq {p n : Nat} (hp : isP p = true) (hn : n ≤ 1024) {L B : List (List Int)} {q : List Int} (h : Red (p : Int) n L B q) (hB : B.length ≤ 1048576) {x : List Int} (hx : x.length = n) (hxr : Rng p x) :
  Ev (fun k => z44.f k x (p : Int) (n : Int) B) (!inSp (p : Int) n B x) := by
 unfold z44.f
 exact Ev.bind (qDw hp hn h hB hx hxr) (Ev.now _)
theorem qHj {p n : Nat} (hpP : isP p = true) (hn : n ≤ 1024) {L B : List (List Int)} {q : List Int} (h : Red (p : Int) n L B q) (hB : B.length ≤ 1048576) (M : List (List Int)) (hM : Vs (p : Int) n M) (hl : M.length ≤ 1048576) :
  Ev (fun k => z157.f k M (p : Int) (n : Int) B) (M.any fun x => !inSp (p : Int) n B x) := by
 obtain ⟨t, ht, hd⟩ := qB5 (M) [] (fun i k => z167.l0 k (M) ((M).length : Int) (i : Int) (p : Int) (n : Int) B) (fun x => !inSp (p : Int) n B x) (fun j hj hp r hr => by
   refine Ev.step (fun k => z167.l0.eq_2 ..) ?_
   refine qAa oM_ (qAa oM_ (qAa oM_ ?_))
   rw [qAx, qAo oM_]
   exact Ev.bind (qHq hpP hn h hB (hM _ (qAz [] hj)).1 (hM _ (qAz [] hj)).2) (qAd (by rw [hp]; decide) hr)) (fun j hj hp => by
   refine Ev.step (fun k => z167.l0.eq_2 ..) ?_
   refine qAa oM_ (qAa oM_ (qAa oM_ ?_))
   rw [qAx]
   exact Ev.bind (qHq hpP hn h hB (hM _ (qAz [] hj)).1 (hM _ (qAz [] hj)).2) (qAa hp (Ev.now _))) (by
   refine Ev.step (fun k => z167.l0.eq_2 ..) ?_
   exact qAd oM_ (Ev.now _))
 unfold z157.f z167.f
 refine Ev.bind ht (qBa (Ev.now _) hd)
theorem qIs {L M : List (List Int)} (hl : L.length ≤ 1048576) (hr : ∀ x ∈ L, x.length ≤ 1048576) (hl' : M.length ≤ 1048576) (hr' : ∀ x ∈ M, x.length ≤ 1048576) (p n p' n' : Int) :
  ∃ g : List (List Int) × Int, g.1.length ≤ 1048576 ∧ (∀ x ∈ g.1, x.length ≤ 1024) ∧ Ev (fun k => z10.f k p n L p' n' M) g ∧ Ev (fun k => z8.f k p n L p' n' M) g := by
 have c1 := qDk hl hr hl' hr' p n p' n'
 have c2 := qEw hl hr hl' hr' p n p' n'
 unfold z10.f z8.f
 by_cases hz : askT p n L p' n' M = 0
 ·obtain ⟨q, m, s, t, rfl, rfl, rfl, rfl, hq, hm, hs, ht, l1, l2⟩ := qJf hl hl' hz
  have hany := qHj hq (show m ≤ 1024 by omega) hs hl M ht.vs hl'
  have hI := qGi hq (show m ≤ 1000 by omega) L hs.vs oM_ ht (q : Int) (m : Int)
  have hS := qIc hq (show m ≤ 100 by omega) L hs.vs oM_ ht.vs oM_
  cases hb : (M.any fun x => !inSp (q : Int) m L x) with
  | true =>
   rw [hb] at hany
   refine ⟨([], 6), by simp, by simp, Ev.bind c1 (qAa hz (Ev.bind hany (qAa rfl (Ev.now _)))), Ev.bind c2 (qAa hz ?_)⟩
   rw [← qGw M []] at hb
   obtain ⟨j0, hj0, hp0⟩ := List.any_eq_true.1 hb
   have hj0 := yc_.1 hj0
   refine qC3 (fun (i : Nat) k => z8.l0 k (i : Int) (q : Int) (m : Int) L (q : Int) (m : Int) M) (fun i => !inSp (q : Int) m L (M.getD i [])) M.length 0 (fun j _ hj hp r hr => ?_) (fun j _ hj hp _ => ?_) (fun hall => ?_)
   ·have hMj := ht.vs _ (qAz ([] : List Int) (show j < M.length by omega))
    refine Ev.step (fun k => z8.l0.eq_2 ..) ?_
    rw [qAx, qAo oM_]
    exact qAa oM_ (qAa oM_ (Ev.bind (qHd hq (show m ≤ 1000 by omega) hs oM_ hMj.1 hMj.2) (qAa (by simpa using hp) hr)))
   ·have hMj := ht.vs _ (qAz ([] : List Int) (show j < M.length by omega))
    refine Ev.step (fun k => z8.l0.eq_2 ..) ?_
    rw [qAx]
    exact qAa oM_ (qAa oM_ (Ev.bind (qHd hq (show m ≤ 1000 by omega) hs oM_ hMj.1 hMj.2) (qAd (by simpa using hp) (Ev.now _))))
   ·have := hall j0 (Nat.zero_le _) oM_
    rw [hp0] at this; cases this
  | false =>
   rw [hb] at hany
   have hlen := qFx (p := (q : Int)) (n := m) L M
   refine ⟨(extL (q : Int) m M L, 0), by show (extL (q : Int) m M L).length ≤ _; omega, fun x hx => by rw [(hs.vs x (qFw L M hx)).1]; omega, Ev.bind c1 (qAa hz (Ev.bind hany (qAd (by decide) (Ev.bind hI (Ev.now _))))), Ev.bind c2 (qAa hz ?_)⟩
   have hall : ∀ j, j < M.length → inSp (q : Int) m L (M.getD j []) = true := fun j hj => by
    cases h : inSp (q : Int) m L (M.getD j []) with
    | true => rfl
    | false =>
     have : (M.any fun x => !inSp (q : Int) m L x) = true := List.any_eq_true.2 ⟨_, qAz [] hj, by rw [h]; rfl⟩
     rw [hb] at this; cases this
   have main : ∀ (d i : Nat), i + d = M.length → Ev (fun k => z8.l0 k (i : Int) (q : Int) (m : Int) L (q : Int) (m : Int) M) (extL (q : Int) m M L, 0) := by
    intro d
    induction d with
    | zero =>
     intro i hi
     refine Ev.step (fun k => z8.l0.eq_2 ..) ?_
     exact qAd oM_ (Ev.bind hS (Ev.now _))
    | succ d ih =>
     intro i hi
     have hMj := ht.vs _ (qAz ([] : List Int) (show i < M.length by omega))
     refine Ev.step (fun k => z8.l0.eq_2 ..) ?_
     rw [qAx, qAo oM_]
     exact qAa oM_ (qAa oM_ (Ev.bind (qHd hq (show m ≤ 1000 by omega) hs oM_ hMj.1 hMj.2) (qAa (hall i oM_) (ih (i + 1) oM_))))
   exact main M.length 0 oM_
 ·exact ⟨([], askT p n L p' n' M), by simp, by simp, Ev.bind c1 (qAd hz (Ev.now _)), Ev.bind c2 (qAd hz (Ev.now _))⟩
theorem qEg {a0_0 a0_1 : Int} {l0_2 : List (List Int)} {a1_0 a1_1 : Int} {l1_2 : List (List Int)} (h0 : Wf a0_0) (h1 : Wf a0_1) (h2 : WfLL l0_2) (h3 : Wf a1_0) (h4 : Wf a1_1) (h5 : WfLL l1_2) : ∃ k, z3.f k a0_0 a0_1 l0_2 a1_0 a1_1 l1_2 = some true := by
 refine Ev.rounds (g := fun k => z3.f k a0_0 a0_1 l0_2 a1_0 a1_1 l1_2) ?_
 unfold z3.f
 rcases qFa a0_0 a0_1 l0_2 1048576 h2 oM_ oM_ with ⟨t, ht, hn⟩ | ⟨ht, hb⟩
 ·exact Ev.bind ht (qAa hn (Ev.now _))
 have htn := qBd l0_2
 refine Ev.bind ht (qAd oM_ ?_)
 rcases qFa a1_0 a1_1 l1_2 (1048576 - l0_2.length - total l0_2) h5 oM_ oM_ with ⟨t, ht', hn⟩ | ⟨ht', hb'⟩
 ·exact Ev.bind ht' (qAa hn (Ev.now _))
 have htn' := qBd l1_2
 refine Ev.bind ht' (qAd oM_ ?_)
 have hrow : ∀ x ∈ l0_2, x.length ≤ 1048576 := fun x hx => by have := qCp l0_2 x hx; omega
 have hlen : l0_2.length ≤ 1048576 := by omega
 have hrow' : ∀ x ∈ l1_2, x.length ≤ 1048576 := fun x hx => by have := qCp l1_2 x hx; omega
 have hlen' : l1_2.length ≤ 1048576 := by omega
 have hto := qE9 a0_0 a0_1 l0_2 hlen hrow
 have heq := qDu a0_0 a0_1 l0_2 oM_ (fun x hx => by have := hrow x hx; omega)
 have hto' := qE9 a1_0 a1_1 l1_2 hlen' hrow'
 have heq' := qDu a1_0 a1_1 l1_2 oM_ (fun x hx => by have := hrow' x hx; omega)
 obtain ⟨g, hs, hs2, him, hsp⟩ := qIs hlen hrow hlen' hrow' a0_0 a0_1 a1_0 a1_1
 obtain ⟨g0, g1⟩ := g
 dsimp only at hs hs2
 have htg := qG1 (l := g0) (m := 1024) hs2
 have htg0 := qBd g0
 have heg := qE5 g0 oM_ (fun x hx => by have := hs2 x hx; omega)
 have hm1 := qDf a0_0 a0_1 l0_2 1 oM_ oM_
 have hm3 := qDf a1_0 a1_1 l1_2 (1 + total l0_2) oM_ oM_
 have hm2 := qHr g0 1 oM_ oM_
 have hh := qE3 g0 1 oM_ oM_ oM_
 (repeat (first | exact Ev.now _ | refine qAa rfl ?_ | refine qAd (by simp only []; omega) ?_ | refine qAd oM_ ?_ | refine qAd (by simp) ?_ | refine Ev.bind (by assumption) ?_ | refine Ev.bind (qAt (by assumption)) ?_))
end Go.Proofs.Ytkgajpngeglkmaa.B
