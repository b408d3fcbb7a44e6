/- What the functions come to, for the law FnExactBettiNumbers. -/
import Derived.Test.YtpgjfppbbbnclaaKAJDMGE0
import Derived.Test.YtpgjfppbbbnclaaKBAKNEC0
import Derived.Test.YtpgjfppbbbnclaaKCPGEII0
import Derived.Test.YtpgjfppbbbnclaaKGPIBFN0
import Derived.Test.YtpgjfppbbbnclaaKGPJMLH0
import Derived.Test.YtpgjfppbbbnclaaKIBNCAK0
import Derived.Test.YtpgjfppbbbnclaaKIEDKKF0
import Derived.Test.YtpgjfppbbbnclaaKJCOKFJ0
import Derived.Test.YtpgjfppbbbnclaaKLCMJEL0
import Derived.Test.YtpgjfppbbbnclaaKLEKPEN0
import Derived.Test.YtpgjfppbbbnclaaKLEKPEN1
import Derived.Test.YtpgjfppbbbnclaaKPCACJH0
import Derived.Test.YtpgjfppbbbnclaaKPJHBFI0
import Derived.Test.YtpgjfppbbbnclaaKW0
import Derived.Below
import Derived.ChangeOld
import Derived.Deep.Matrix
import Derived.Lib.SmallJoins
import Derived.OpenShut
import Derived.ProofKit
import Derived.ShutString
import Derived.SizedLaws
import Derived.WalkKit
set_option linter.unusedVariables false
set_option linter.unusedSimpArgs false
namespace Go.Proofs.Ytpgjfppbbbnclaa.B
open Go.RowKit Go.ChangeShapes Go.WideShapes Go.Deep Go.Proofs.YtpgjfppbbbnclaaW.PrintWords

def Wf (n : Int) : Prop := -9223372036854775808 ≤ n ∧ n ≤ 9223372036854775807
def WfL (l : List Int) : Prop := l.length ≤ 9223372036854775807 ∧ ∀ n ∈ l, Wf n
def WfLL (l : List (List Int)) : Prop := l.length ≤ 9223372036854775807 ∧ ∀ r ∈ l, WfL r
theorem qOi {n : Int} (h : (Lit.int .i64 n).wf = true) : Wf n := by
 unfold Wf
 simp [Lit.wf, IntKind.min, IntKind.max, IntKind.bits, IntKind.signed] at h
 omega

section
variable {H : Type} {enc : TypeId × Value → H} {P : Program} {w : World} {base : Nat} {held : Bool} {fuel : Nat}
theorem opened_int {t : TypeId} {v : Value} {x : DataW H × List MemPlace} (ht : P.underlying t = some (.int .i64)) (h : DataW.trod enc P w base (fun _ => true) held fuel t [v] = some x) : ∃ n, v = .int .i64 n ∧ Wf n := by
 obtain ⟨n, he, _, hw⟩ := DataW.trod_int ht h
 exact ⟨n, by simpa using he, qOi hw⟩
theorem qJ1 {t e : TypeId} {v : Value} {x : DataW H × List MemPlace} (ht : P.underlying t = some (.slice e)) (he : P.underlying e = some (.int .i64)) (hc : P.cellsOf e = 1) (h : DataW.trod enc P w base (fun _ => true) held fuel t [v] = some x) :
  ∃ A l c, v = .slice A l.length c ∧ (Kd.int .i64).C w A l.length l ∧ l.length ≤ c ∧ WfL l := by
 rcases open_ints ht he hc h with ⟨hcs, _⟩ | ⟨a, l, c, zs, hcs, _, hl, hm, hz, _, hcell, hwz⟩
 ·refine ⟨none, [], 0, by simpa using hcs, ⟨rfl, by simp, fun h => by simp at h⟩, by simp, by simp [WfL]⟩
 ·simp only [if_true] at hz
  have hlen : (zs.take l).length = l := by rw [yl_]; omega
  refine ⟨some a, zs.take l, c, by rw [hlen]; simpa using hcs, ⟨rfl, by rw [hlen]; simp only [maxLen] at hm; omega, fun _ => ⟨a, rfl, fun j p hj => ?_⟩⟩, by omega, ?_, fun n hn => qOi (hwz n (List.mem_of_mem_take hn))⟩
  ·have hjl : j < l := by have := (List.getElem?_eq_some_iff.1 hj).1; omega
   refine ⟨[.int .i64 p], rfl, rfl, fun i u hu => ?_⟩
   cases i with
   | zero =>
    simp only [List.getElem?_cons_zero, Option.some.injEq] at hu
    subst hu
    rw [Nat.add_zero, show j * (Kd.int .i64).sz = j from Nat.mul_one j, hcell j oM_]
    rw [List.getElem?_take, if_pos hjl] at hj
    rw [ya_, hj]; rfl
   | succ i => simp at hu
  ·rw [hlen]; simp only [maxLen] at hm; omega
theorem qJ0 {t e q : TypeId} {v : Value} {x : DataW H × List MemPlace} (ht : P.underlying t = some (.slice e)) (he : P.underlying e = some (.slice q)) (hq : P.underlying q = some (.int .i64)) (ce : P.cellsOf e = 1) (cq : P.cellsOf q = 1) (h : DataW.trod enc P w base (fun _ => true) held fuel t [v] = some x) :
  ∃ A l c, v = .slice A l.length c ∧ (Kd.slice 2 (Kd.int .i64)).C w A l.length l ∧ l.length ≤ c ∧ WfLL l := by
 rcases open_slice1 ht ce h with ⟨hcs, _⟩ | ⟨a, l, c, m, n, V, D, Pl, hcs, _, hl, hm, hmm, _, hx⟩
 ·refine ⟨none, [], 0, by simpa using hcs, ⟨rfl, by simp, fun h => by simp at h⟩, by simp, by simp [WfLL]⟩
 ·simp only [if_true] at hmm
  subst hmm
  have each : ∀ r, r < m → ∃ y : Option Addr × List Int × Nat, V r = .slice y.1 y.2.1.length y.2.2 ∧ (Kd.int .i64).C w y.1 y.2.1.length y.2.1 ∧ y.2.1.length ≤ y.2.2 ∧ WfL y.2.1 := by
   intro r hr
   obtain ⟨A, l, c, h1, h2, h3, h4⟩ := qJ1 he hq cq (hx r hr).2
   exact ⟨(A, l, c), h1, h2, h3, h4⟩
  obtain ⟨y, hy⟩ := choose_lt each
  have hlen : ((List.range l).map fun r => (y r).2.1).length = l := by simp
  refine ⟨some a, (List.range l).map fun r => (y r).2.1, m, by rw [hlen]; simpa using hcs, ⟨rfl, by rw [hlen]; simp only [maxLen] at hm; omega, fun _ => ⟨a, rfl, fun j p hj => ?_⟩⟩, by omega, ?_, ?_⟩
  ·have hjl : j < l := by have := (List.getElem?_eq_some_iff.1 hj).1; omega
   rw [List.getElem?_map, List.getElem?_range hjl] at hj
   simp only [Option.map_some, Option.some.injEq] at hj
   subst hj
   obtain ⟨h1, h2, h3, h4⟩ := hy j oM_
   refine ⟨[.slice (y j).1 (y j).2.1.length (y j).2.2], rfl, ⟨_, _, rfl, h3, h2⟩, fun i u hu => ?_⟩
   cases i with
   | zero =>
    simp only [List.getElem?_cons_zero, Option.some.injEq] at hu
    subst hu
    rw [Nat.add_zero, show j * (Kd.slice 2 (Kd.int .i64)).sz = j from Nat.mul_one j, (hx j oM_).1, h1]
   | succ i => simp at hu
  ·rw [hlen]; simp only [maxLen] at hm; omega
  ·intro r hr
   simp only [ys_, yc_] at hr
   obtain ⟨j, hj, rfl⟩ := hr
   exact (hy j oM_).2.2.2

theorem qL0 {r : Reach} {b0 : Nat} {t : TypeId} {f0 : Field} {v : Value} {d : DataW H} {p : List MemPlace} (hs : P.underlying t = some (.struct #[f0])) (hone : oneCellFields P #[f0] = true) (hC : P.cellsOf t = 1)
  (hv : Value.okWide P w r b0 t v) (h : DataW.Trod enc P w base (fun _ => true) held t v d p) :
  ∃ (v0 : Value) (y0 : DataW H × List MemPlace) (n : Nat), v = .agg #[v0] ∧ DataW.trod enc P w base (fun _ => true) held n f0.type [v0] = some y0 := by
 obtain ⟨cs, rfl, hsz⟩ := okWide_struct hs hv
 obtain ⟨c0, rfl⟩ : ∃ c0, cs = #[c0] := by
  have h1 : cs.size = 1 := hsz.trans hC
  match cs, h1 with | ⟨[c0]⟩, _ => exact ⟨c0, rfl⟩
 obtain ⟨fuel, hf⟩ := h
 obtain ⟨y0, n, hx, _, h0⟩ := trod_struct1 hs hf
 obtain ⟨o0, k0⟩ := hone_of hone 0 f0 rfl
 exact ⟨c0, y0, n, rfl, by simpa [Value.cells, o0, k0] using h0⟩
end
theorem own : ownKnob Try.prog.godebug = none := by kernel_rfl
theorem qOy : laidOutB Try.prog = true := by kernel_rfl
end Go.Proofs.Ytpgjfppbbbnclaa.B

set_option linter.unusedVariables false
set_option linter.unusedSimpArgs false
namespace Go.Proofs.Ytpgjfppbbbnclaa.B
open Go.RowKit Go.Proofs.YtpgjfppbbbnclaaW.PrintWords
theorem qIo (l : List Int) (a : Int) (h0 : 0 ≤ a) (h1 : a ≤ 9223372036854775807) (hl : l.length ≤ 9223372036854775807) : z24.f l a = some (if a - l.length < 0 then -1 else a - l.length) := by
 unfold z24.f
 have e : wrap64 (a - (l.length : Int)) = a - l.length := qAi oM_ oM_
 rw [e]
 split <;> rfl
theorem qIp (l : List (List Int)) (a : Int) (hw : WfLL l) (h0 : 0 ≤ a) (h1 : a ≤ 9223372036854775807) :
  (∃ t, Ev (fun k => z13.f k l a) t ∧ t < 0) ∨ (Ev (fun k => z13.f k l a) (a - l.length - total l) ∧ l.length + total l ≤ a) := by
 have loop : ∀ (d i : Nat) (b : Int), d + i = l.length → 0 ≤ b → b ≤ 9223372036854775807 → (∃ t, Ev (fun k => z13.l0 k l b (i : Int)) t ∧ t < 0) ∨ (Ev (fun k => z13.l0 k l b (i : Int)) (b - total (l.drop i)) ∧ total (l.drop i) ≤ b) := by
  intro d
  induction d with
  | zero =>
   intro i b hd hb0 hb1
   right
   have hi : l.length = i := by omega
   rw [yu_ oM_]
   refine ⟨Ev.step (fun k => z13.l0.eq_2 ..) (qAd oM_ (qBk (Ev.now b) (by simp [total]))), by simpa [total] using hb0⟩
  | succ d ih =>
   intro i b hd hb0 hb1
   have hi : i < l.length := by omega
   have hdr : l.drop i = l.getD i [] :: l.drop (i + 1) := by
    rw [List.drop_eq_getElem_cons hi, ya_, yb_ hi]; rfl
   have hm : l.getD i [] ∈ l := by
    rw [ya_, yb_ hi]; exact yp_ hi
   have hrl := (hw.2 _ hm).1
   have hv := qIo (l.getD i []) b hb0 hb1 hrl
   have hrd : rI_ l (i : Int) = l.getD i [] := by simp [rI_]
   have hlen : l.length ≤ 9223372036854775807 := hw.1
   by_cases hneg : b - ((l.getD i []).length : Int) < 0
   ·left
    rw [if_pos hneg] at hv
    refine ⟨-1, Ev.step (fun k => z13.l0.eq_2 ..) (qAa oM_ (qAa oM_ ?_)), by omega⟩
    rw [hrd]
    exact Ev.bind (qAr hv) (qAa oM_ (Ev.now _))
   ·rw [if_neg hneg] at hv
    rcases ih (i + 1) (b - ((l.getD i []).length : Int)) oM_ oM_ oM_ with ⟨t, ht, htn⟩ | ⟨ht, htb⟩
    ·left
     refine ⟨t, Ev.step (fun k => z13.l0.eq_2 ..) (qAa oM_ (qAa oM_ ?_)), htn⟩
     rw [hrd, qAj oM_]
     exact Ev.bind (qAr hv) (qAd oM_ ht)
    ·right
     rw [hdr]
     simp only [total]
     refine ⟨Ev.step (fun k => z13.l0.eq_2 ..) (qAa oM_ (qAa oM_ ?_)), by omega⟩
     rw [hrd, qAj oM_]
     exact Ev.bind (qAr hv) (qAd oM_ (qBk ht oM_))
 have hlen : l.length ≤ 9223372036854775807 := hw.1
 have e : wrap64 (a - (l.length : Int)) = a - l.length := qAi oM_ oM_
 by_cases hneg : a - (l.length : Int) < 0
 ·left
  refine ⟨-1, ?_, by omega⟩
  unfold z13.f
  rw [e]
  exact qAa hneg (Ev.now _)
 ·rcases loop l.length 0 (a - l.length) oM_ oM_ oM_ with ⟨t, ht, htn⟩ | ⟨ht, htb⟩
  ·left
   refine ⟨t, ?_, htn⟩
   unfold z13.f
   rw [e]
   exact qAd hneg ht
  ·right
   refine ⟨?_, by simp only [List.drop_zero] at htb; omega⟩
   unfold z13.f
   rw [e]
   exact qAd hneg ht
theorem qJt (l : List Int) (hl : l.length ≤ 1048576) : Ev (fun k => z34.f k l) l := by
 have h := qBj (fun (s : List Int) (i : Nat) k => z34.l0 k l s (i : Int)) (fun i s => s.set i (l.getD i 0)) (fun i s => s = l.take i ++ List.replicate (l.length - i) 0) l.length 0 (List.replicate l.length 0) (by simp) (by
  intro j s _ hj hs
  refine ⟨fun r hr => Ev.step (fun k => z34.l0.eq_2 ..) (qAa oM_ (qAa oM_ (qAa ?_ ?_))), ?_⟩
  ·subst hs; simp only [yg_, yl_, yk_]; omega
  ·rw [qAj oM_, qA0, yd_]; exact hr
  ·subst hs; exact qG1 l j 0 oM_ _ rfl)
 unfold z34.f
 refine qAa oM_ (qAa oM_ ?_)
 rw [yd_]
 refine h.1 l (Ev.step (fun k => z34.l0.eq_2 ..) (qAd oM_ (qBk (Ev.now _) ?_)))
 rw [h.2]
 simp
theorem qIm (l : List (List Int)) (hl : l.length ≤ 1048576) (hr : ∀ x ∈ l, x.length ≤ 1048576) : Ev (fun k => z18.f k l) l := by
 have h := qBj (fun (s : List (List Int)) (i : Nat) k => z18.l0 k l s (i : Int)) (fun i s => s.set i (l.getD i [])) (fun i s => s = l.take i ++ List.replicate (l.length - i) []) l.length 0 (List.replicate l.length []) (by simp) (by
  intro j s _ hj hs
  have hm : l.getD j [] ∈ l := by
   rw [ya_, yb_ oM_]; exact yp_ _
  have hrd : rI_ l (j : Int) = l.getD j [] := by simp [rI_]
  refine ⟨fun r hr' => Ev.step (fun k => z18.l0.eq_2 ..) (qAa oM_ (qAa oM_ ?_)), ?_⟩
  ·rw [hrd]
   refine Ev.bind (qJt _ (hr _ hm)) (qAa ?_ ?_)
   ·subst hs; simp only [yg_, yl_, yk_]; omega
   ·rw [qAj oM_, yd_]; exact hr'
  ·subst hs; exact qG1 l j [] oM_ _ rfl)
 unfold z18.f
 refine qAa oM_ (qAa oM_ ?_)
 rw [yd_]
 refine h.1 l (Ev.step (fun k => z18.l0.eq_2 ..) (qAd oM_ (qBk (Ev.now _) ?_)))
 rw [h.2]
 simp
theorem qC6 {α : Type} [BEq α] [LawfulBEq α] (l m : List α) (z : α) (h : l.length = m.length) : (List.range l.length).all (fun i => l.getD i z == m.getD i z) = (l == m) := by
 rw [Bool.eq_iff_iff, yo_, beq_iff_eq]
 constructor
 ·intro e
  apply List.ext_getElem h
  intro i h1 h2
  have := e i (yc_.2 h1)
  simpa [ya_, yb_ h1, yb_ h2] using this
 ·rintro rfl i _
  exact beq_self_eq_true _
theorem qEr {α : Type} [BEq α] [LawfulBEq α] {l m : List α} (h : l.length ≠ m.length) : (l == m) = false := by
 rw [Bool.eq_false_iff]; intro e; exact h (by rw [eq_of_beq e])
theorem qF6 (l m : List Int) (hl : l.length < 9223372036854775807) : Ev (fun k => z8.f k l m) (l == m) := by
 unfold z8.f
 by_cases h : l.length = m.length
 ·refine qAa oM_ ?_
  rw [← qC6 l m 0 h]
  refine qHi (fun (i : Nat) k => z8.l0 k l m (i : Int)) _ l.length (fun j hj hp r hr => ?_) (fun j hj hp => ?_) ?_
  ·refine Ev.step (fun k => z8.l0.eq_2 ..) (qAa oM_ (qAa oM_ (qAa oM_ (qAa ?_ ?_))))
   ·rw [qA0, qA0]; exact eq_of_beq hp
   ·rw [qAj oM_]; exact hr
  ·refine Ev.step (fun k => z8.l0.eq_2 ..) (qAa oM_ (qAa oM_ (qAa oM_ (qAd ?_ (Ev.now _)))))
   rw [qA0, qA0]; exact ne_of_beq_false hp
  ·exact Ev.step (fun k => z8.l0.eq_2 ..) (qAd oM_ (Ev.now _))
 ·rw [qEr h]
  exact qAd oM_ (Ev.now _)
theorem qJf (l m : List (List Int)) (hl : l.length < 9223372036854775807) (hr : ∀ x ∈ l, x.length < 9223372036854775807) : Ev (fun k => z22.f k l m) (l == m) := by
 unfold z22.f
 by_cases h : l.length = m.length
 ·refine qAa oM_ ?_
  rw [← qC6 l m [] h]
  have hm : ∀ j, j < l.length → Ev (fun k => z8.f k (rI_ l (j : Int)) (rI_ m (j : Int))) (l.getD j [] == m.getD j []) := fun j hj => by
   have h1 : rI_ l (j : Int) = l.getD j [] := by simp [rI_]
   have h2 : rI_ m (j : Int) = m.getD j [] := by simp [rI_]
   rw [h1, h2]
   refine qF6 _ _ (hr _ ?_)
   rw [ya_, yb_ hj]; exact yp_ hj
  refine qHi (fun (i : Nat) k => z22.l0 k l m (i : Int)) _ l.length (fun j hj hp r hr => ?_) (fun j hj hp => ?_) ?_
  ·refine Ev.step (fun k => z22.l0.eq_2 ..) (qAa oM_ (qAa oM_ (qAa oM_ (Ev.bind (hm j hj) (qAa hp ?_)))))
   rw [qAj oM_]; exact hr
  ·exact Ev.step (fun k => z22.l0.eq_2 ..) (qAa oM_ (qAa oM_ (qAa oM_ (Ev.bind (hm j hj) (qAd (by rw [hp]; decide) (Ev.now _))))))
  ·exact Ev.step (fun k => z22.l0.eq_2 ..) (qAd oM_ (Ev.now _))
 ·rw [qEr h]
  exact qAd oM_ (Ev.now _)
end Go.Proofs.Ytpgjfppbbbnclaa.B
set_option linter.unusedVariables false
set_option linter.unusedSimpArgs false
namespace Go.Proofs.Ytpgjfppbbbnclaa.B
open Go.RowKit Go.Proofs.YtpgjfppbbbnclaaW.PrintWords
theorem qE0 : ∀ (l : List (List Int)) (x : List Int), x ∈ l → x.length ≤ total l
 | [], x, h => by cases h
 | y :: l, x, h => by
  simp only [total]
  rcases List.mem_cons.1 h with rfl | h
  ·have := qBo l; omega
  ·have := qE0 l x h; omega
theorem qGu (l : List (List Int)) (hl : l.length < 9223372036854775807) (hr : ∀ x ∈ l, x.length < 9223372036854775807) : Ev (fun k => z9.f k l l) true := by
 unfold z9.f
 exact Ev.bind (qBk (qJf l l hl hr) (beq_self_eq_true l)) (qAa rfl (Ev.now _))
theorem qIn (l : List (List Int)) (hl : l.length ≤ 1048576) (hr : ∀ x ∈ l, x.length ≤ 1048576) : Ev (fun k => z6.f k l) l := by
 unfold z6.f
 exact Ev.bind (qIm l hl hr) (Ev.now _)
theorem qIq (l : List (List Int)) (b : Int) (hw : WfLL l) (h0 : 0 ≤ b) (h1 : b ≤ 9223372036854775807) :
  (∃ t, Ev (fun k => z4.f k l b) t ∧ t < 0) ∨ (Ev (fun k => z4.f k l b) (b - l.length - total l) ∧ l.length + total l ≤ b) := by
 unfold z4.f
 rcases qIp l b hw h0 h1 with ⟨t, ht, hn⟩ | ⟨ht, hb⟩
 ·exact .inl ⟨-1, Ev.bind ht (qAa hn (Ev.now _)), by omega⟩
 ·exact .inr ⟨Ev.bind ht (qAd oM_ (Ev.now _)), hb⟩
end Go.Proofs.Ytpgjfppbbbnclaa.B
set_option linter.unusedVariables false
set_option linter.unusedSimpArgs false
namespace Go.Proofs.Ytpgjfppbbbnclaa.B
open Go.RowKit Go.Proofs.YtpgjfppbbbnclaaW.PrintWords
theorem qNm (l : List (List Int)) (a : Int) (h0 : 0 ≤ a) (h1 : a + total l ≤ 9223372036854775807) : laws_markInt64SS.f l a = some (a + total l, qBg l a) := by
 unfold laws_markInt64SS.f
 rw [if_pos ⟨h0, h1⟩]
theorem qE2 : ∀ (l : List Int) (a : Int) (i : Nat), i < l.length → (qBc l a).getD i 0 = a + i
 | [], a, i, h => by simp at h
 | x :: l, a, 0, h => by simp [qBc]
 | x :: l, a, i + 1, h => by
  have := qE2 l (a + 1) i (by simpa using h)
  simp only [qBc, List.getD_cons_succ, this]
  omega
theorem qH1 (l : List Int) (a : Int) (h0 : 0 ≤ a) (h1 : a + l.length ≤ 9223372036854775807) : Ev (fun k => z12.f k (qBc l a) a) (a + l.length) := by
 unfold z12.f
 have h := qDo (r := a + l.length) (fun (i : Nat) k => z12.l0 k (qBc l a) (a + i) (i : Int)) (fun _ => false) l.length 0 (fun j _ hj _ r hr => by
  refine Ev.step (fun k => z12.l0.eq_2 ..) ?_
  rw [qA0, qE2 l a j oM_, qCn, qAj oM_, qAi oM_ oM_, show a + (j : Int) + 1 = a + ((j + 1 : Nat) : Int) by omega]
  (repeat (first | refine qAa oM_ ?_ | refine qAd oM_ ?_))
  exact hr) (fun _ _ _ h => by cases h) (fun _ => by
  refine Ev.step (fun k => z12.l0.eq_2 ..) ?_
  rw [qCn]
  exact qAd oM_ (qBk (Ev.now _) oM_))
 simpa using h
end Go.Proofs.Ytpgjfppbbbnclaa.B
set_option linter.unusedVariables false
set_option linter.unusedSimpArgs false
namespace Go.Proofs.Ytpgjfppbbbnclaa.B
open Go.RowKit Go.Proofs.YtpgjfppbbbnclaaW.PrintWords
theorem qH4 (l : List Int) (hl : l.length < 9223372036854775807) : Ev (fun k => z8.f k l l) true := qBk (qF6 l l hl) (beq_self_eq_true l)
theorem qFx (l : List Int) (a : Int) (h0 : 0 ≤ a) (h1 : a + l.length ≤ 9223372036854775807) : Ev (fun k => z11.f k l a) (a + l.length, qBc l a) := by
 have := qC5 l.length l [] l a rfl rfl h0 h1 oM_
 simpa [z11.f] using this
end Go.Proofs.Ytpgjfppbbbnclaa.B
set_option linter.unusedVariables false
set_option linter.unusedSimpArgs false
namespace Go.Proofs.Ytpgjfppbbbnclaa.B
open Go.RowKit Go.Proofs.YtpgjfppbbbnclaaW.PrintWords
def filt (p : Nat → Bool) (n : Nat) : List Int := ((List.range n).filter p).map fun i : Nat => (i : Int)
theorem qDn (p : Nat → Bool) (n : Nat) : filt p (n + 1) = filt p n ++ if p n then [(n : Int)] else [] := by
 unfold filt
 rw [List.range_succ, List.filter_append, yt_]
 congr 1
 cases h : p n <;> simp [List.filter_cons, h]
theorem qJ7 (p : Nat → Bool) : ∀ n, (filt p n).length ≤ n
 | 0 => Nat.le_refl _
 | n + 1 => by
  have := qJ7 p n
  rw [qDn, yg_]
  split <;> simp <;> omega
theorem qHe {p q : Nat → Bool} : ∀ n, (∀ i, i < n → p i = q i) → filt p n = filt q n
 | 0, _ => rfl
 | n + 1, h => by rw [qDn, qDn, qHe n (fun i hi => h i oM_), h n oM_]
theorem qEe {p : Nat → Bool} {n : Nat} {x : Int} : x ∈ filt p n ↔ ∃ i, i < n ∧ p i = true ∧ x = (i : Int) := by
 unfold filt
 rw [ys_]
 constructor
 ·rintro ⟨i, hi, rfl⟩
  obtain ⟨h1, h2⟩ := List.mem_filter.1 hi
  exact ⟨i, yc_.1 h1, h2, rfl⟩
 ·rintro ⟨i, hi, hp, rfl⟩
  exact ⟨i, List.mem_filter.2 ⟨yc_.2 hi, hp⟩, rfl⟩
theorem qJ8 {β : Type} (L : List Int → Nat → Nat → Option β) (p : Nat → Bool) : ∀ (n : Nat), (∀ j s, j < n → s.length ≤ j → p j = true → Le (L (s ++ [(j : Int)]) (j + 1)) (L s j)) → (∀ j s, j < n → s.length ≤ j → p j = false → Le (L s (j + 1)) (L s j)) → Le (L (filt p n) n) (L [] 0)
 | 0, _, _ => Le.refl _
 | n + 1, h1, h0 => by
  have ih := qJ8 L p n (fun j s hj => h1 j s oM_) (fun j s hj => h0 j s oM_)
  refine Le.trans ?_ ih
  rw [qDn]
  cases hp : p n with
  | true => exact h1 n _ oM_ (qJ7 p n) hp
  | false => simpa using h0 n _ oM_ (qJ7 p n) hp
theorem qEi {α β : Type} (L : List α → Nat → Nat → Option β) (g : Nat → α) : ∀ (n : Nat), (∀ j s, j < n → s = (List.range j).map g → Le (L (s ++ [g j]) (j + 1)) (L s j)) → Le (L ((List.range n).map g) n) (L [] 0)
 | 0, _ => Le.refl _
 | n + 1, h => by
  have ih := qEi L g n (fun j s hj => h j s oM_)
  refine Le.trans ?_ ih
  rw [List.range_succ, yt_]
  exact h n _ oM_ rfl
theorem qF5 (L : Nat → Nat → Option Bool) (p : Nat → Bool) (b : Bool) : ∀ (n : Nat), (∀ j, j < n → (∀ m, m < j → p m = true) → p j = true → Le (L (j + 1)) (L j)) → (∀ j, j < n → (∀ m, m < j → p m = true) → p j = false → Ev (L j) false) → ((∀ m, m < n → p m = true) → Ev (L n) b) → Ev (L 0) ((List.range n).all p && b) := by
 intro n h1 h0 he
 have main : ∀ (d i : Nat), i + d = n → (∀ m, m < i → p m = true) → Ev (L i) ((List.range n).all p && b) := by
  intro d
  induction d with
  | zero =>
   intro i hi hall
   have : i = n := by omega
   subst this
   have e : (List.range i).all p = true := yo_.2 (fun j hj => hall j (yc_.1 hj))
   rw [e, Bool.true_and]; exact he hall
  | succ d ih =>
   intro i hi hall
   cases hp : p i with
   | true =>
    refine h1 i oM_ hall hp _ (ih (i + 1) oM_ (fun m hm => ?_))
    rcases Nat.lt_or_ge m i with hl | hg
    ·exact hall m hl
    ·have : m = i := by omega
     subst this; exact hp
   | false =>
    have e : (List.range n).all p = false := by
     rw [Bool.eq_false_iff]
     intro h
     have := yo_.1 h i (yc_.2 oM_)
     rw [hp] at this; cases this
    rw [e, Bool.false_and]
    exact h0 i oM_ hall hp
 exact main n 0 oM_ (fun m hm => by omega)
theorem qFy {α β : Type} (z : α) (g : α → β) (l : List α) : l.map g = (List.range l.length).map fun j => g (l.getD j z) := by
 apply List.ext_getElem
 ·simp
 ·intro n h1 h2
  simp only [List.getElem_map, List.getElem_range, ya_]
  have : n < l.length := by simpa using h1
  simp [yb_ this]
end Go.Proofs.Ytpgjfppbbbnclaa.B
set_option linter.unusedVariables false
set_option linter.unusedSimpArgs false
namespace Go.Proofs.Ytpgjfppbbbnclaa.B
open Go.RowKit Go.Proofs.YtpgjfppbbbnclaaW.PrintWords
theorem qEn (a b c : Int) : z57.f a b c = some (decide (b ≤ a) && decide (a ≤ c)) := by
 unfold z57.f
 by_cases h : a ≥ b
 ·rw [if_pos h]; simp [h]
 ·rw [if_neg h]; simp; omega
theorem qI9 (a b c : Int) : z43.f a b c = some (decide (b ≤ a) && decide (a ≤ c)) := by
 unfold z43.f
 by_cases h : a ≥ b
 ·rw [if_pos h]; simp [h]
 ·rw [if_neg h]; simp; omega
theorem qAu {α : Type} {l : List α} {i : Nat} (z : α) (h : i < l.length) : l.getD i z ∈ l := by
 rw [ya_, yb_ h]; exact yp_ h
theorem qA2 (l : List (List Int)) (i : Nat) : rI_ l (i : Int) = l.getD i [] := by simp [rI_]
end Go.Proofs.Ytpgjfppbbbnclaa.B
set_option linter.unusedVariables false
set_option linter.unusedSimpArgs false
namespace Go.Proofs.Ytpgjfppbbbnclaa.B
open Go.RowKit Go.Proofs.YtpgjfppbbbnclaaW.PrintWords
theorem qFg (l : List (List Int)) (k : Nat) (hk : k < l.length) : total (l.take (k + 1)) = total (l.take k) + (l.getD k []).length := by
 have ht : l.take (k + 1) = l.take k ++ [l.getD k []] := by
  rw [List.take_succ_eq_append_getElem hk, ya_, yb_ hk]; rfl
 rw [ht, qCd]; simp [total]
theorem qDy (l : List (List Int)) (k : Nat) : total (l.take k) ≤ total l := by
 have h := qCd (l.take k) (l.drop k)
 rw [List.take_append_drop] at h
 have := qBo (l.drop k)
 omega
theorem qDz : ∀ l : List (List Int), (l.flatten.length : Int) = total l
 | [] => rfl
 | x :: l => by rw [List.flatten_cons, yg_]; have := qDz l; simp only [total]; omega
theorem qH2 (l : List (List Int)) (k : Nat) (hk : k < l.length) : (l.take (k + 1)).flatten = (l.take k).flatten ++ l.getD k [] := by
 have ht : l.take (k + 1) = l.take k ++ [l.getD k []] := by
  rw [List.take_succ_eq_append_getElem hk, ya_, yb_ hk]; rfl
 rw [ht, List.flatten_append]; simp
theorem qMl (l : List (List Int)) (hl : l.length < 9223372036854775807) (ht : total l ≤ 17592186044415) : Ev (fun k => z81.f k l) l.flatten := by
 unfold z81.f
 -- the second loop
 have h1 : Ev (fun k => z81.l1 k ([] : List Int) l (l.length : Int) 0) l.flatten := by
  have := (qBj (fun (s : List Int) (i : Nat) k => z81.l1 k s l (l.length : Int) (i : Int)) (fun i s => s ++ l.getD i []) (fun i s => s = (l.take i).flatten) l.length 0 [] (by simp) (by
   intro j s _ hj hs
   have hj' : j < l.length := by omega
   refine ⟨fun r hr => ?_, by rw [qH2 l j hj', hs]⟩
   refine Ev.step (fun k => z81.l1.eq_2 ..) ?_
   rw [qA2, qAj oM_]
   have e1 := qFg l j hj'
   have e2 := qDy l (j + 1)
   have e3 := qDz (l.take j)
   rw [← hs] at e3
   exact qAa oM_ (qAa oM_ (qAa oM_ (qAa oM_ hr)))))
  refine this.1 _ ?_
  refine Ev.step (fun k => z81.l1.eq_2 ..) ?_
  refine qAd oM_ (qBk (Ev.now _) ?_)
  rw [this.2, Nat.zero_add, List.take_length]
 have := (qBj (fun (s : Int) (i : Nat) k => z81.l0 k l s l (l.length : Int) (i : Int)) (fun i s => s + (l.getD i []).length) (fun i s => s = total (l.take i)) l.length 0 0 (by simp [total]) (by
  intro j s _ hj hs
  have hj' : j < l.length := by omega
  have e1 := qFg l j hj'
  have e2 := qDy l (j + 1)
  have e3 := qBo (l.take j)
  refine ⟨fun r hr => ?_, by rw [e1, hs]⟩
  refine Ev.step (fun k => z81.l0.eq_2 ..) ?_
  rw [qA2, qAj oM_, qAi (x := s + ((l.getD j []).length : Int)) oM_ oM_]
  exact qAa oM_ (qAa oM_ (qAa oM_ (qAd oM_ hr)))))
 refine this.1 _ ?_
 refine Ev.step (fun k => z81.l0.eq_2 ..) ?_
 have e4 : iter (fun i s => s + ((l.getD i []).length : Int)) 0 l.length 0 = total l := by
  rw [this.2, Nat.zero_add, List.take_length]
 rw [e4]
 have e5 := qBo l
 refine qAd oM_ (Ev.bind (a := []) (qAr ?_) h1)
 unfold slices_Grow_int64_int64.f
 rw [if_pos ⟨⟨rfl, e5⟩, ht⟩]
end Go.Proofs.Ytpgjfppbbbnclaa.B
set_option linter.unusedVariables false
set_option linter.unusedSimpArgs false
namespace Go.Proofs.Ytpgjfppbbbnclaa.B.SimT
def qDl : List Int → List Int → Bool
 | [], [] => false
 | [], _ :: _ => true
 | _ :: _, [] => false
 | a :: l, b :: m => if a < b then true else if b < a then false else qDl l m
theorem qE3 : ∀ l, qDl l l = false
 | [] => rfl
 | a :: l => by simp [qDl, qE3 l]
theorem qFz : ∀ {a b c : List Int}, qDl a b = true → qDl b c = true → qDl a c = true
 | [], [], _, h, _ => by cases h
 | [], _ :: _, [], _, h => by cases h
 | [], _ :: _, _ :: _, _, _ => rfl
 | _ :: _, [], _, h, _ => by cases h
 | _ :: _, _ :: _, [], _, h => by cases h
 | a :: l, b :: m, c :: o, h, h' => by
  simp only [qDl] at h h' ⊢
  by_cases h1 : a < b
  ·by_cases h2 : b < c
   ·rw [if_pos oM_]
   ·rw [if_neg h2] at h'
    by_cases h3 : c < b
    ·rw [if_pos h3] at h'; cases h'
    ·rw [if_pos oM_]
  ·rw [if_neg h1] at h
   by_cases h2 : b < a
   ·rw [if_pos h2] at h; cases h
   ·rw [if_neg h2] at h
    have e : a = b := by omega
    subst e
    by_cases h3 : a < c
    ·rw [if_pos h3]
    ·rw [if_neg h3] at h' ⊢
     by_cases h4 : c < a
     ·rw [if_pos h4] at h'; cases h'
     ·rw [if_neg h4] at h' ⊢
      exact qFz h h'
def slt (a b : List Int) : Bool := decide (a.length < b.length) || (decide (a.length = b.length) && qDl a b)
theorem qFm (a b : List Int) : slt a b = true ↔ a.length < b.length ∨ (a.length = b.length ∧ qDl a b = true) := by simp [slt]
theorem qCh (a : List Int) : slt a a = false := by simp [slt, qE3]
theorem qFl {a b c : List Int} (h : slt a b = true) (h' : slt b c = true) : slt a c = true := by
 rw [qFm] at *
 rcases h with h | ⟨h1, h2⟩ <;> rcases h' with h' | ⟨h1', h2'⟩
 ·exact .inl oM_
 ·exact .inl oM_
 ·exact .inl oM_
 ·exact .inr ⟨by omega, qFz h2 h2'⟩
theorem qLq {a b : List Int} (h : slt a b = true) : slt b a = false := by
 cases h' : slt b a with
 | false => rfl
 | true => have := qFl h h'; rw [qCh] at this; cases this
theorem qN3 {a b : List Int} (h : slt a b = true) : a ≠ b := fun e => by subst e; rw [qCh] at h; cases h
def Srt (l : List (List Int)) : Prop := l.Pairwise fun a b => slt a b = true
theorem qD1 {l : List (List Int)} (h : Srt l) {i j : Nat} (hij : i < j) (hj : j < l.length) : slt (l.getD i []) (l.getD j []) = true := by
 have := List.pairwise_iff_getElem.1 h i j oM_ hj hij
 simpa [ya_, yb_ hj, yb_ (show i < l.length by omega)] using this
theorem qK1 {l : List (List Int)} (h : ∀ i, i + 1 < l.length → slt (l.getD i []) (l.getD (i + 1) []) = true) : Srt l := by
 have main : ∀ d i, i + d + 1 < l.length → slt (l.getD i []) (l.getD (i + d + 1) []) = true := by
  intro d
  induction d with
  | zero => exact h
  | succ d ih =>
   intro i hi
   have h1 := ih i oM_
   have h2 := h (i + d + 1) oM_
   exact qFl h1 h2
 refine List.pairwise_iff_getElem.2 (fun i j hi hj hij => ?_)
 have := main (j - i - 1) i oM_
 rw [show i + (j - i - 1) + 1 = j by omega] at this
 simpa [ya_, yb_ hj, yb_ hi] using this
def drp (s : List Int) (k : Nat) : List Int := s.take k ++ s.drop (k + 1)
theorem qF8 : ∀ (s : List Int) (k : Nat), drp s k = s.eraseIdx k
 | [], k => by cases k <;> rfl
 | a :: s, 0 => by simp [drp]
 | a :: s, k + 1 => by
  have := qF8 s k
  simp only [drp] at this
  simp [drp, this]
theorem qHj {s : List Int} {k : Nat} (h : k < s.length) : (drp s k).length = s.length - 1 := by
 rw [qF8, List.length_eraseIdx, if_pos h]
theorem qPa (s : List Int) (k : Nat) : (drp s k).Sublist s := by rw [qF8]; exact List.eraseIdx_sublist ..
theorem qPb {s : List Int} {k : Nat} (h : k < s.length) : slt (drp s k) s = true := by
 rw [qFm, qHj h]; exact .inl oM_
def Inc (s : List Int) : Prop := s.Pairwise fun a b => a < b
def qOg (C : List (List Int)) : Prop := ∀ s, s ∈ C → 1 < s.length → ∀ k, k < s.length → drp s k ∈ C
end Go.Proofs.Ytpgjfppbbbnclaa.B.SimT
set_option linter.unusedVariables false
set_option linter.unusedSimpArgs false
namespace Go.Proofs.Ytpgjfppbbbnclaa.B
open Go.RowKit Go.Proofs.YtpgjfppbbbnclaaW.PrintWords
theorem qLu (l m : List Int) (hl : l.length < 9223372036854775807) : Ev (fun k => z45.f k l m) (l == m) := by
 unfold z45.f
 by_cases h : l.length = m.length
 ·refine qAa oM_ ?_
  rw [← qC6 l m 0 h]
  refine qHi (fun (i : Nat) k => z45.l0 k l m (i : Int)) _ l.length (fun j hj hp r hr => ?_) (fun j hj hp => ?_) ?_
  ·refine Ev.step (fun k => z45.l0.eq_2 ..) ?_
   refine qAa oM_ (qAa oM_ (qAa oM_ (qAa ?_ ?_)))
   ·rw [qA0, qA0]; exact eq_of_beq hp
   ·rw [qAj oM_]; exact hr
  ·refine Ev.step (fun k => z45.l0.eq_2 ..) ?_
   refine qAa oM_ (qAa oM_ (qAa oM_ (qAd ?_ (Ev.now _))))
   rw [qA0, qA0]; exact ne_of_beq_false hp
  ·refine Ev.step (fun k => z45.l0.eq_2 ..) ?_
   exact qAd oM_ (Ev.now _)
 ·rw [qEr h]
  exact qAd oM_ (Ev.now _)
end Go.Proofs.Ytpgjfppbbbnclaa.B
set_option linter.unusedVariables false
set_option linter.unusedSimpArgs false
namespace Go.Proofs.Ytpgjfppbbbnclaa.B
open Go.RowKit Go.Proofs.YtpgjfppbbbnclaaW.PrintWords
open SimT
def qCo : List Int → List Int → Int
 | [], [] => 0
 | [], _ :: _ => -1
 | _ :: _, [] => 1
 | a :: l, b :: m => if a < b then -1 else if a > b then 1 else qCo l m
theorem qG9 : ∀ l m, qCo l m < 0 ↔ qDl l m = true
 | [], [] => by simp [qCo, qDl]
 | [], _ :: _ => by simp [qCo, qDl]
 | _ :: _, [] => by simp [qCo, qDl]
 | a :: l, b :: m => by
  simp only [qCo, qDl]
  by_cases h1 : a < b
  ·rw [if_pos h1, if_pos h1]; simp
  ·rw [if_neg h1, if_neg h1]
   by_cases h2 : b < a
   ·rw [if_pos h2, if_pos h2]; simp
   ·rw [if_neg h2, if_neg h2]; exact qG9 l m
theorem qF0 : ∀ l m, qCo l m = 0 ↔ l = m
 | [], [] => by simp [qCo]
 | [], _ :: _ => by simp [qCo]
 | _ :: _, [] => by simp [qCo]
 | a :: l, b :: m => by
  simp only [qCo]
  by_cases h1 : a < b
  ·rw [if_pos h1]
   refine ⟨fun h => by omega, fun h => ?_⟩
   injection h with h _; omega
  ·rw [if_neg h1]
   by_cases h2 : a > b
   ·rw [if_pos h2]
    refine ⟨fun h => by omega, fun h => ?_⟩
    injection h with h _; omega
   ·rw [if_neg h2, qF0 l m]
    have : a = b := by omega
    subst this
    exact ⟨fun h => by rw [h], fun h => by injection h⟩
def icmp (a b : Int) : Int := if a < b then -1 else if a > b then 1 else 0
theorem qLc (a b : Int) : z78.f a b = some (icmp a b) := by
 unfold z78.f z93.f icmp
 simp only [bne_self_eq_false, Option.bind_some, Bool.false_eq_true, if_false]
 split
 ·rfl
 ·split <;> rfl
theorem qJm (a b : Int) : z94.f a b = some (icmp a b) := by
 unfold z94.f z101.f icmp
 simp only [bne_self_eq_false, Option.bind_some, Bool.false_eq_true, if_false]
 split
 ·rfl
 ·split <;> rfl
theorem qDp {l : List Int} {i : Nat} (h : i < l.length) : l.drop i = l.getD i 0 :: l.drop (i + 1) := by
 rw [List.drop_eq_getElem_cons h, ya_, yb_ h]; rfl
theorem qE5 (l m : List Int) (hl : l.length < 9223372036854775807) (hm : m.length < 9223372036854775807) : Ev (fun k => z79.f k l m) (qCo l m) := by
 have main : ∀ (d i : Nat), i + d = l.length → i ≤ m.length → Ev (fun k => z79.l0 k l m l (l.length : Int) (i : Int)) (qCo (l.drop i) (m.drop i)) := by
  intro d
  induction d with
  | zero =>
   intro i hi him
   rw [yu_ (show l.length ≤ i by omega)]
   refine Ev.step (fun k => z79.l0.eq_2 ..) ?_
   refine qAd oM_ ?_
   by_cases h : i < m.length
   ·rw [qDp h]
    exact qAa oM_ (Ev.now _)
   ·rw [yu_ (show m.length ≤ i by omega)]
    exact qAd oM_ (Ev.now _)
  | succ d ih =>
   intro i hi him
   rw [qDp (show i < l.length by omega)]
   refine Ev.step (fun k => z79.l0.eq_2 ..) ?_
   refine qAa oM_ (qAa oM_ (qAa oM_ ?_))
   by_cases h : i < m.length
   ·rw [qDp h, qA0, qA0, qAj oM_]
    refine qAd oM_ (qAa oM_ (Ev.bind (qAr (qJm _ _)) ?_))
    simp only [qCo]
    unfold icmp
    by_cases h1 : l.getD i 0 < m.getD i 0
    ·rw [if_pos h1, if_pos h1]; exact qAd oM_ (Ev.now _)
    ·rw [if_neg h1, if_neg h1]
     by_cases h2 : l.getD i 0 > m.getD i 0
     ·rw [if_pos h2, if_pos h2]; exact qAd oM_ (Ev.now _)
     ·rw [if_neg h2, if_neg h2]; exact qAa rfl (ih (i + 1) oM_ oM_)
   ·rw [yu_ (show m.length ≤ i by omega)]
    exact qAa oM_ (Ev.now _)
 have := main l.length 0 oM_ oM_
 simpa [z79.f] using this
def scmp (a b : List Int) : Int := if icmp (a.length : Int) (b.length : Int) = 0 then qCo a b else icmp (a.length : Int) (b.length : Int)
theorem qFa (a b : List Int) : scmp a b < 0 ↔ slt a b = true := by
 rw [qFm]
 unfold scmp icmp
 rcases yh_ a.length b.length with h | h | h
 ·rw [if_pos (show (a.length : Int) < b.length by omega)]; simp [h]
 ·rw [if_neg (show ¬ (a.length : Int) < b.length by omega), if_neg (show ¬ (a.length : Int) > b.length by omega), if_pos rfl, qG9]
  constructor
  ·exact fun h' => .inr ⟨h, h'⟩
  ·rintro (h' | h')
   ·omega
   ·exact h'.2
 ·rw [if_neg (show ¬ (a.length : Int) < b.length by omega), if_pos (show (a.length : Int) > b.length by omega)]
  simp
  omega
theorem qIv (a b : List Int) : scmp a b = 0 ↔ a = b := by
 unfold scmp icmp
 rcases yh_ a.length b.length with h | h | h
 ·rw [if_pos (show (a.length : Int) < b.length by omega)]
  simp
  intro e; subst e; omega
 ·rw [if_neg (show ¬ (a.length : Int) < b.length by omega), if_neg (show ¬ (a.length : Int) > b.length by omega), if_pos rfl, qF0]
 ·rw [if_neg (show ¬ (a.length : Int) < b.length by omega), if_pos (show (a.length : Int) > b.length by omega)]
  simp
  intro e; subst e; omega
theorem qNw (a b : Int) : Ev (fun k => z77.f k [a, b]) (if a = 0 then b else a) := by
 unfold z77.f
 refine Ev.step (fun k => z77.l0.eq_2 ..) ?_
 refine qAa (by simp) (qAa oM_ (qAa (by simp) ?_))
 simp only [rd, Int.toNat_zero, List.getD_cons_zero]
 by_cases h : a = 0
 ·rw [if_pos h]
  refine qAa h ?_
  refine Ev.step (fun k => z77.l0.eq_2 ..) ?_
  simp only [show wrap64 (0 + 1) = 1 by unfold wrap64; omega]
  refine qAa (by simp) (qAa oM_ (qAa (by simp) ?_))
  simp only [rd, show Int.toNat 1 = 1 from rfl, List.getD_cons_succ, List.getD_cons_zero]
  by_cases h2 : b = 0
  ·refine qAa h2 ?_
   refine Ev.step (fun k => z77.l0.eq_2 ..) ?_
   simp only [show wrap64 (1 + 1) = 2 by unfold wrap64; omega]
   refine qAd (by simp) (qBk (Ev.now _) h2.symm)
  ·exact qAd h2 (Ev.now _)
 ·rw [if_neg h]
  exact qAd h (Ev.now _)
theorem qC7 (a b : List Int) (ha : a.length < 9223372036854775807) (hb : b.length < 9223372036854775807) : Ev (fun k => z52.f k a b) (scmp a b) := by
 unfold z52.f
 refine Ev.bind (qAr (qLc _ _)) (Ev.bind (qE5 a b ha hb) (Ev.bind (qNw _ _) ?_))
 exact Ev.now _
theorem qMx (a b : List Int) (ha : a.length < 9223372036854775807) : Ev (fun k => z26.f k a b) (slt a b) := by
 unfold z26.f
 by_cases hab : a.length = b.length
 ·refine qAa oM_ ?_
  have e : slt a b = qDl a b := by simp [slt, hab]
  rw [e]
  have main : ∀ (d i : Nat), i + d = a.length → Ev (fun k => z26.l0 k a b (i : Int)) (qDl (a.drop i) (b.drop i)) := by
   intro d
   induction d with
   | zero =>
    intro i hi
    rw [yu_ (show a.length ≤ i by omega), yu_ (show b.length ≤ i by omega)]
    refine Ev.step (fun k => z26.l0.eq_2 ..) ?_
    exact qAd oM_ (Ev.now _)
   | succ d ih =>
    intro i hi
    rw [qDp (show i < a.length by omega), qDp (show i < b.length by omega)]
    refine Ev.step (fun k => z26.l0.eq_2 ..) ?_
    refine qAa oM_ (qAa oM_ (qAa oM_ ?_))
    rw [qA0, qA0, qAj oM_]
    simp only [qDl]
    by_cases h : a.getD i 0 = b.getD i 0
    ·refine qAa h ?_
     rw [if_neg oM_, if_neg oM_]
     exact ih (i + 1) oM_
    ·refine qAd h ?_
     by_cases h1 : a.getD i 0 < b.getD i 0
     ·rw [if_pos h1]; exact qBk (Ev.now _) (decide_eq_true h1)
     ·rw [if_neg h1, if_pos oM_]; exact qBk (Ev.now _) (decide_eq_false h1)
  have := main a.length 0 oM_
  simpa using this
 ·refine qAd oM_ (qBk (Ev.now _) ?_)
  rw [Bool.eq_iff_iff, qFm, yf_]
  constructor
  ·exact fun h => .inl oM_
  ·rintro (h | h)
   ·omega
   ·exact absurd h.1 hab
def idx (l : List (List Int)) (s : List Int) : Int := if s ∈ l then ((l.idxOf s : Nat) : Int) else -1
theorem qJ6 (l : List (List Int)) (s : List Int) : idx l s < 0 ↔ s ∉ l := by
 unfold idx
 by_cases h : s ∈ l
 ·rw [if_pos h]
  exact ⟨fun h' => by omega, fun h' => absurd h h'⟩
 ·rw [if_neg h]
  exact ⟨fun _ => h, fun _ => by omega⟩
theorem qEt {l : List (List Int)} {s : List Int} (h : s ∈ l) : ∃ i, i < l.length ∧ idx l s = (i : Int) ∧ l.getD i [] = s ∧ ∀ j, j < i → l.getD j [] ≠ s := by
 refine ⟨l.idxOf s, List.idxOf_lt_length_of_mem h, by unfold idx; rw [if_pos h], ?_, fun j hj e => ?_⟩
 ·have hl := List.idxOf_lt_length_of_mem h
  rw [ya_, yb_ hl]
  exact List.getElem_idxOf hl
 ·have hl := List.idxOf_lt_length_of_mem h
  have := List.not_of_lt_findIdx (p := fun x => x == s) (xs := l) (i := j) hj
  have hjl : j < l.length := by omega
  rw [ya_, yb_ hjl] at e
  simp at e this
  exact this e
theorem qN8 {l : List (List Int)} {s : List Int} {i : Nat} (hi : i < l.length) (he : l.getD i [] = s) (hb : ∀ j, j < i → l.getD j [] ≠ s) : idx l s = (i : Int) := by
 have hm : s ∈ l := he ▸ qAu [] hi
 obtain ⟨j, hj, e1, e2, e3⟩ := qEt hm
 rw [e1]
 rcases yh_ i j with h | h | h
 ·exact absurd he (e3 i h)
 ·rw [h]
 ·exact absurd e2 (hb j h)
theorem qMd (l : List (List Int)) (s : List Int) (hl : l.length < 9223372036854775807) (hr : ∀ x ∈ l, x.length < 9223372036854775807) : Ev (fun k => z27.f k l s) (idx l s) := by
 unfold z27.f
 refine qDo (fun (i : Nat) k => z27.l0 k s (i : Int) l) (fun i => l.getD i [] == s) l.length 0 (fun j _ hj hp r hr' => ?_) (fun j _ hj hp hb => ?_) (fun hall => ?_)
 ·refine Ev.step (fun k => z27.l0.eq_2 ..) ?_
  refine qAa oM_ (qAa oM_ ?_)
  rw [qA2, qAj oM_]
  exact Ev.bind (qLu _ _ (hr _ (qAu [] oM_))) (qAd (by rw [hp]; decide) hr')
 ·have e : idx l s = (j : Int) := qN8 oM_ (eq_of_beq hp) (fun m hm he => by have := hb m (Nat.zero_le _) hm; rw [he] at this; simp at this)
  rw [e]
  refine Ev.step (fun k => z27.l0.eq_2 ..) ?_
  refine qAa oM_ (qAa oM_ ?_)
  rw [qA2]
  exact Ev.bind (qLu _ _ (hr _ (qAu [] oM_))) (qAa hp (Ev.now _))
 ·have e : idx l s = -1 := by
   unfold idx
   rw [if_neg]
   intro hm
   obtain ⟨i, hi, _, e2, _⟩ := qEt hm
   have := hall i (Nat.zero_le _) oM_
   rw [e2] at this; simp at this
  rw [e]
  refine Ev.step (fun k => z27.l0.eq_2 ..) ?_
  exact qAd oM_ (Ev.now _)
theorem qLs (l : List (List Int)) (s : List Int) (hl : l.length < 4611686018427387904) (hr : ∀ x ∈ l, x.length < 9223372036854775807) (hs : s.length < 9223372036854775807) (hsrt : Srt l) :
  ∃ t, Ev (fun k => z123.f k l s) t ∧ (if t.2 = true then t.1 else -1) = idx l s := by
 have lo_of : ∀ i, i < l.length → slt (l.getD i []) s = true → ∀ j, j ≤ i → slt (l.getD j []) s = true := fun i hi h j hj => by
  rcases Nat.eq_or_lt_of_le hj with rfl | hlt
  ·exact h
  ·exact qFl (qD1 hsrt hlt hi) h
 have hi_of : ∀ i, i < l.length → slt (l.getD i []) s = false → ∀ j, i ≤ j → j < l.length → slt (l.getD j []) s = false := fun i hi h j hj hjl => by
  cases hh : slt (l.getD j []) s with
  | false => rfl
  | true => rw [lo_of j hjl hh i hj] at h; cases h
 have main : ∀ (d lo hi : Nat), lo ≤ hi → hi - lo ≤ d → hi ≤ l.length → (∀ j, j < lo → slt (l.getD j []) s = true) → (∀ j, hi ≤ j → j < l.length → slt (l.getD j []) s = false) →
   ∃ t, Ev (fun k => z123.l0 k l s (l.length : Int) (lo : Int) (hi : Int)) t ∧ (if t.2 = true then t.1 else -1) = idx l s := by
  intro d
  induction d with
  | zero =>
   intro lo hi h1 h2 h3 hlo hhi
   have : lo = hi := by omega
   subst this
   by_cases hn : lo < l.length
   ·refine ⟨((lo : Int), (scmp (l.getD lo []) s == 0)), ?_, ?_⟩
    ·refine Ev.step (fun k => z123.l0.eq_2 ..) ?_
     refine qAd oM_ (qAa oM_ (qAa oM_ (qAa oM_ ?_)))
     rw [qA2]
     exact Ev.bind (qC7 _ _ (hr _ (qAu [] hn)) hs) (Ev.now _)
    ·by_cases he : l.getD lo [] = s
     ·have : (scmp (l.getD lo []) s == 0) = true := by rw [beq_iff_eq, qIv]; exact he
      simp only [this, if_true]
      exact (qN8 hn he (fun j hj e => by have := hlo j hj; rw [e, qCh] at this; cases this)).symm
     ·have : (scmp (l.getD lo []) s == 0) = false := by rw [beq_eq_false_iff_ne]; exact fun h => he ((qIv _ _).1 h)
      simp only [this, Bool.false_eq_true, if_false]
      have hnm : s ∉ l := fun hm => by
       obtain ⟨i, hi, _, e2, _⟩ := qEt hm
       rcases yh_ i lo with h | h | h
       ·have := hlo i h; rw [e2, qCh] at this; cases this
       ·subst h; exact he e2
       ·have h5 := qD1 hsrt h hi
        rw [e2] at h5
        have := hhi lo (Nat.le_refl _) hn
        rw [h5] at this; cases this
      unfold idx; rw [if_neg hnm]
   ·refine ⟨((lo : Int), false), ?_, ?_⟩
    ·refine Ev.step (fun k => z123.l0.eq_2 ..) ?_
     exact qAd oM_ (qAd oM_ (Ev.now _))
    ·simp only [Bool.false_eq_true, if_false]
     have hnm : s ∉ l := fun hm => by
      obtain ⟨i, hi, _, e2, _⟩ := qEt hm
      have := hlo i oM_; rw [e2, qCh] at this; cases this
     unfold idx; rw [if_neg hnm]
  | succ d ih =>
   intro lo hi h1 h2 h3 hlo hhi
   by_cases hlt : lo < hi
   ·have em : wrap64 (IntKind.u64.wrap (wrap64 ((lo : Int) + (hi : Int))) / 2) = (((lo + hi) / 2 : Nat) : Int) := by
     have e1 : wrap64 ((lo : Int) + (hi : Int)) = (lo : Int) + (hi : Int) := qAi oM_ oM_
     have e2 : IntKind.u64.wrap ((lo : Int) + (hi : Int)) = (lo : Int) + (hi : Int) := by
      simp [IntKind.wrap, IntKind.bits, IntKind.signed]; omega
     rw [e1, e2, qAi oM_ oM_]; omega
    have hm : (lo + hi) / 2 < l.length := by omega
    have hmr := hr _ (qAu ([] : List Int) hm)
    cases hc : slt (l.getD ((lo + hi) / 2) []) s with
    | true =>
     obtain ⟨t, ht, hv⟩ := ih ((lo + hi) / 2 + 1) hi oM_ oM_ h3 (fun j hj => lo_of _ hm hc j oM_) hhi
     refine ⟨t, ?_, hv⟩
     refine Ev.step (fun k => z123.l0.eq_2 ..) ?_
     rw [em, qA2, qAj oM_]
     refine qAa oM_ (qAa oM_ (qAa oM_ (Ev.bind (qC7 _ _ hmr hs) (qAa ((qFa _ _).2 hc) ht))))
    | false =>
     obtain ⟨t, ht, hv⟩ := ih lo ((lo + hi) / 2) oM_ oM_ oM_ hlo (fun j hj hjl => hi_of _ hm hc j hj hjl)
     refine ⟨t, ?_, hv⟩
     refine Ev.step (fun k => z123.l0.eq_2 ..) ?_
     rw [em, qA2, qAj oM_]
     refine qAa oM_ (qAa oM_ (qAa oM_ (Ev.bind (qC7 _ _ hmr hs) (qAd (fun h => ?_) ht))))
     have := (qFa _ _).1 h
     rw [hc] at this; cases this
   ·exact ih lo hi h1 oM_ h3 hlo hhi
 exact main l.length 0 l.length oM_ oM_ (Nat.le_refl _) (fun j hj => by omega) (fun j h1 h2 => by omega)
theorem qHb (l : List (List Int)) (s : List Int) (hl : l.length < 4611686018427387904) (hr : ∀ x ∈ l, x.length < 9223372036854775807) (hs : s.length < 9223372036854775807) (hsrt : Srt l) : Ev (fun k => z56.f k l s) (idx l s) := by
 obtain ⟨t, ht, hv⟩ := qLs l s hl hr hs hsrt
 unfold z56.f
 refine Ev.bind ht ?_
 rw [← hv]
 cases h : t.2 with
 | true => exact qAa rfl (qBk (Ev.now _) (by simp))
 | false => exact qAd (by simp) (qBk (Ev.now _) (by simp))
end Go.Proofs.Ytpgjfppbbbnclaa.B
set_option linter.unusedVariables false
set_option linter.unusedSimpArgs false
namespace Go.Proofs.Ytpgjfppbbbnclaa.B
open Go.RowKit Go.Proofs.YtpgjfppbbbnclaaW.PrintWords
def qE7 (l : List Int) (i : Nat) : Bool := i == 0 || decide (l.getD (i - 1) 0 < l.getD i 0)
def qCl (l : List Int) : Bool := (List.range l.length).all (qE7 l)
def qBn (l : List Int) : Bool := (decide (1 ≤ l.length) && decide (l.length ≤ 4)) && (qCl l && l.all fun v => decide (0 ≤ v) && decide (v ≤ 9))
theorem qJ3 (l : List Int) (hl : l.length < 9223372036854775807) : Ev (fun k => z73.f k l) (qCl l) := by
 unfold z73.f
 rcases Nat.eq_zero_or_pos l.length with h0 | h0
 ·have : qCl l = true := by unfold qCl; rw [h0]; rfl
  rw [this]
  refine Ev.step (fun k => z73.l0.eq_2 ..) ?_
  exact qAd oM_ (Ev.now _)
 ·refine qDo (fun (i : Nat) k => z73.l0 k l (i : Int)) (fun i => !qE7 l i) (l.length - 1) 1 (fun i hi hi2 hp r hr => ?_) (fun i hi hi2 hp _ => ?_) (fun hall => ?_)
  ·have hp : qE7 l i = true := by simpa using hp
   unfold qE7 at hp
   have e : (i == 0) = false := by simpa using (show i ≠ 0 by omega)
   rw [e, Bool.false_or] at hp
   have hp := of_decide_eq_true hp
   refine Ev.step (fun k => z73.l0.eq_2 ..) ?_
   rw [show wrap64 ((i : Int) - 1) = ((i - 1 : Nat) : Int) by rw [qAi oM_ oM_]; omega, qA0, qA0, qAj oM_]
   exact qAa oM_ (qAa oM_ (qAa oM_ (qAa oM_ (qAd oM_ hr))))
  ·have hp : qE7 l i = false := by simpa using hp
   have hf : qCl l = false := by
    unfold qCl
    rw [Bool.eq_false_iff]
    intro h
    have := yo_.1 h i (yc_.2 oM_)
    rw [hp] at this; cases this
   rw [hf]
   unfold qE7 at hp
   have e : (i == 0) = false := by simpa using (show i ≠ 0 by omega)
   rw [e, Bool.false_or] at hp
   have hp := of_decide_eq_false hp
   refine Ev.step (fun k => z73.l0.eq_2 ..) ?_
   rw [show wrap64 ((i : Int) - 1) = ((i - 1 : Nat) : Int) by rw [qAi oM_ oM_]; omega, qA0, qA0]
   exact qAa oM_ (qAa oM_ (qAa oM_ (qAa oM_ (qAa oM_ (Ev.now _)))))
  ·have hf : qCl l = true := yo_.2 (fun i hi => by
    have hi := yc_.1 hi
    rcases Nat.eq_zero_or_pos i with h | h
    ·subst h; rfl
    ·simpa using hall i h oM_)
   rw [hf, show 1 + (l.length - 1) = l.length by omega]
   refine Ev.step (fun k => z73.l0.eq_2 ..) ?_
   exact qAd oM_ (Ev.now _)
theorem qGw (v : Int) : z75.f v = some (!(decide (0 ≤ v) && decide (v ≤ 9))) := by
 unfold z75.f z76.f
 rw [qEn]; rfl
theorem qJr (l : List Int) (hl : l.length < 9223372036854775807) : Ev (fun k => z121.f k l) (l.any fun v => !(decide (0 ≤ v) && decide (v ≤ 9))) := by
 obtain ⟨t, ht, hd⟩ := qCg (l) 0 (fun i k => z122.l0 k (l) ((l).length : Int) (i : Int) ) (fun v => !(decide (0 ≤ v) && decide (v ≤ 9))) (fun j hj hp r hr => by
   refine Ev.step (fun k => z122.l0.eq_2 ..) ?_
   refine qAa oM_ (qAa oM_ (qAa oM_ ?_))
   rw [qA0, qAj oM_]
   exact Ev.bind (qAr (qGw _)) (qAd (by rw [hp]; decide) hr)) (fun j hj hp => by
   refine Ev.step (fun k => z122.l0.eq_2 ..) ?_
   refine qAa oM_ (qAa oM_ (qAa oM_ ?_))
   rw [qA0]
   exact Ev.bind (qAr (qGw _)) (qAa hp (Ev.now _))) (by
   refine Ev.step (fun k => z122.l0.eq_2 ..) ?_
   exact qAd oM_ (Ev.now _))
 unfold z121.f z122.f
 refine Ev.bind ht (qBk (Ev.now _) hd)
theorem qGr (l : List Int) (hl : l.length < 9223372036854775807) : Ev (fun k => z51.f k l) (qBn l) := by
 unfold z51.f qBn
 by_cases h1 : 1 ≤ l.length
 ·rw [decide_eq_true h1, Bool.true_and]
  refine qAa oM_ ?_
  by_cases h4 : l.length ≤ 4
  ·rw [decide_eq_true h4, Bool.true_and]
   refine qAa oM_ (Ev.bind (qJ3 l hl) ?_)
   cases hr : qCl l with
   | false => exact qAd (by decide) (Ev.now _)
   | true =>
    refine qAa rfl (Ev.bind (qJr l hl) (qBk (Ev.now _) ?_))
    rw [List.any_eq_not_all_not]; simp
  ·rw [decide_eq_false h4, Bool.false_and]
   exact qAd oM_ (Ev.now _)
 ·rw [decide_eq_false h1, Bool.false_and, Bool.false_and]
  exact qAd oM_ (Ev.now _)
theorem qIr (l : List Int) (a b : Int) (hl : l.length < 9223372036854775807) : Ev (fun k => z44.f k l a b) (qCl l && l.all fun v => decide (a ≤ v) && decide (v ≤ b)) := by
 have e : (qCl l && l.all fun v => decide (a ≤ v) && decide (v ≤ b)) = (List.range l.length).all fun i => (decide (a ≤ l.getD i 0) && decide (l.getD i 0 ≤ b)) && qE7 l i := by
  rw [← qGd l 0, qCl, Bool.eq_iff_iff, ye_, yo_, yo_, yo_]
  constructor
  ·rintro ⟨h1, h2⟩ i hi
   rw [h1 i hi, h2 i hi]; rfl
  ·intro h
   exact ⟨fun i hi => ((ye_ _ _).mp (h i hi)).2, fun i hi => ((ye_ _ _).mp (h i hi)).1⟩
 rw [e]
 unfold z44.f
 refine qHi (fun (i : Nat) k => z44.l0 k l a b (i : Int)) _ l.length (fun i hi hp r hr => ?_) (fun i hi hp => ?_) ?_
 ·obtain ⟨h1, h2⟩ := (ye_ _ _).mp hp
  refine Ev.step (fun k => z44.l0.eq_2 ..) ?_
  rw [qA0, qAj oM_]
  refine qAa oM_ (qAa oM_ (Ev.bind (qAr (qI9 _ _ _)) (qAa h1 ?_)))
  rcases Nat.eq_zero_or_pos i with h | h
  ·exact qAd oM_ hr
  ·have e : (i == 0) = false := by simpa using (show i ≠ 0 by omega)
   unfold qE7 at h2
   rw [e, Bool.false_or] at h2
   have h2 := of_decide_eq_true h2
   rw [show wrap64 ((i : Int) - 1) = ((i - 1 : Nat) : Int) by rw [qAi oM_ oM_]; omega, qA0]
   exact qAa oM_ (qAa oM_ (qAa oM_ (qAd oM_ hr)))
 ·refine Ev.step (fun k => z44.l0.eq_2 ..) ?_
  rw [qA0]
  refine qAa oM_ (qAa oM_ (Ev.bind (qAr (qI9 _ _ _)) ?_))
  cases h1 : decide (a ≤ l.getD i 0) && decide (l.getD i 0 ≤ b) with
  | false => exact qAd (by decide) (Ev.now _)
  | true =>
   rw [h1, Bool.true_and] at hp
   refine qAa rfl ?_
   rcases Nat.eq_zero_or_pos i with h | h
   ·subst h; cases hp
   ·have e : (i == 0) = false := by simpa using (show i ≠ 0 by omega)
    unfold qE7 at hp
    rw [e, Bool.false_or] at hp
    have hp := of_decide_eq_false hp
    rw [show wrap64 ((i : Int) - 1) = ((i - 1 : Nat) : Int) by rw [qAi oM_ oM_]; omega, qA0]
    exact qAa oM_ (qAa oM_ (qAa oM_ (qAa oM_ (Ev.now _))))
 ·refine Ev.step (fun k => z44.l0.eq_2 ..) ?_
  exact qAd oM_ (Ev.now _)
theorem qGj (l : List Int) (hl : l.length < 9223372036854775807) : Ev (fun k => z25.f k l) (qBn l) := by
 unfold z25.f qBn
 refine Ev.bind (qAr (qI9 _ _ _)) ?_
 have e : (decide ((1 : Int) ≤ (l.length : Int)) && decide ((l.length : Int) ≤ 4)) = (decide (1 ≤ l.length) && decide (l.length ≤ 4)) := by
  rw [Bool.eq_iff_iff]; simp; omega
 rw [e]
 cases h : decide (1 ≤ l.length) && decide (l.length ≤ 4) with
 | false => exact qAd (by decide) (Ev.now _)
 | true => exact qAa rfl (Ev.bind (qIr l 0 9 hl) (Ev.now _))
end Go.Proofs.Ytpgjfppbbbnclaa.B
set_option linter.unusedVariables false
set_option linter.unusedSimpArgs false
namespace Go.Proofs.Ytpgjfppbbbnclaa.B
open Go.RowKit Go.Proofs.YtpgjfppbbbnclaaW.PrintWords
open SimT
def qBi (s : List Int) : List (List Int) := if 1 < s.length then (List.range s.length).map (drp s) else []
theorem qF4 (s : List Int) : (qBi s).length ≤ s.length := by
 unfold qBi
 split <;> simp
theorem qJd {s x : List Int} (h : x ∈ qBi s) : x.length ≤ s.length := by
 unfold qBi at h
 split at h
 ·obtain ⟨i, hi, rfl⟩ := ys_.1 h
  exact (qPa s i).length_le
 ·cases h
theorem qEf {s x : List Int} : x ∈ qBi s ↔ 1 < s.length ∧ ∃ k, k < s.length ∧ drp s k = x := by
 unfold qBi
 split
 ·rename_i h
  rw [ys_]
  exact ⟨fun ⟨k, hk, e⟩ => ⟨h, k, yc_.1 hk, e⟩, fun ⟨_, k, hk, e⟩ => ⟨k, yc_.2 hk, e⟩⟩
 ·rename_i h
  exact ⟨fun hx => (by cases hx), fun hx => absurd hx.1 h⟩
theorem qMe {s x : List Int} (h : x ∈ qBi s) : slt x s = true := by
 obtain ⟨_, k, hk, rfl⟩ := qEf.1 h
 exact qPb hk
theorem qHf (s : List Int) (hs : s.length ≤ 1000000000000) : Ev (fun k => z54.f k s) (qBi s) := by
 unfold z54.f
 by_cases h1 : 1 < s.length
 ·have := qEi (fun (a : List (List Int)) (i : Nat) k => z54.l0 k s a (s.length : Int) (i : Int)) (drp s) s.length (fun j a hj ha r hr => by
   refine Ev.step (fun k => z54.l0.eq_2 ..) ?_
   have hal : a.length = j := by rw [ha]; simp
   rw [qAj oM_, yd_, yd_]
   refine qAa oM_ (qAa oM_ (qAa oM_ (qAa oM_ (qAa oM_ (qAa oM_ (Ev.bind (qMl _ (by simp) ?_) (qAa oM_ ?_)))))))
   ·have h2 : (s.take j).length ≤ s.length := (List.take_sublist j s).length_le
    have h3 : (s.drop (j + 1)).length ≤ s.length := (List.drop_sublist (j + 1) s).length_le
    simp only [total]; omega
   ·have e : [s.take j, s.drop (j + 1)].flatten = drp s j := by simp [drp]
    rw [e]; exact hr)
  have e : qBi s = (List.range s.length).map (drp s) := by unfold qBi; rw [if_pos h1]
  rw [e]
  refine this _ ?_
  refine Ev.step (fun k => z54.l0.eq_2 ..) ?_
  exact qAd oM_ (Ev.now _)
 ·have e : qBi s = [] := by unfold qBi; rw [if_neg h1]
  rw [e]
  refine qDo (fun (i : Nat) k => z54.l0 k s ([] : List (List Int)) (s.length : Int) (i : Int)) (fun _ => false) s.length 0 (fun j _ hj _ r hr => ?_) (fun _ _ _ h => by cases h) (fun _ => ?_)
  ·refine Ev.step (fun k => z54.l0.eq_2 ..) ?_
   rw [qAj oM_]
   exact qAa oM_ (qAd oM_ hr)
  ·refine Ev.step (fun k => z54.l0.eq_2 ..) ?_
   rw [Nat.zero_add]
   exact qAd oM_ (Ev.now _)
theorem qKu (s : List Int) (i : Nat) (hi : i < s.length) (hs : s.length ≤ 1000000000000) : z28.f s (i : Int) = some (drp s i) := by
 unfold z28.f z46.f
 have h2 : (s.take i).length ≤ s.length := (List.take_sublist i s).length_le
 have h3 : (s.drop (i + 1)).length ≤ s.length := (List.drop_sublist (i + 1) s).length_le
 rw [qAj oM_, yd_, yd_, if_pos oM_, if_pos oM_]
 simp only [Option.bind_some, List.nil_append, List.length_nil, Nat.zero_add]
 rw [if_pos oM_]
 simp only [Option.bind_some]
 rw [if_pos oM_, if_pos oM_, if_pos oM_]
 rfl
def okAt (C : List (List Int)) (D : List (List Int)) (i : Nat) : Bool := (qBn (C.getD i []) && (i == 0 || slt (C.getD (i - 1) []) (C.getD i []))) && (qBi (C.getD i [])).all fun f => decide (f ∈ D)
def okC (C : List (List Int)) : Bool := decide (C.length ≤ 48) && (List.range C.length).all (okAt C C)
theorem qDu {C D : List (List Int)} {i : Nat} : okAt C D i = true ↔ qBn (C.getD i []) = true ∧ (i = 0 ∨ slt (C.getD (i - 1) []) (C.getD i []) = true) ∧ ∀ f, f ∈ qBi (C.getD i []) → f ∈ D := by
 unfold okAt
 rw [ye_, ye_, Bool.or_eq_true, yo_, beq_iff_eq]
 simp only [decide_eq_true_eq]
 exact ⟨fun ⟨⟨a, b⟩, c⟩ => ⟨a, b, c⟩, fun ⟨a, b, c⟩ => ⟨⟨a, b⟩, c⟩⟩
theorem qE8 {C D : Nat → List (List Int)} {L : List (List Int)} (n : Nat) (hn : n ≤ L.length) (h : ∀ m, m < n → okAt L (D m) m = true) : Srt (L.take n) := by
 refine qK1 (fun i hi => ?_)
 rw [yl_] at hi
 have hi' : i + 1 < n := by omega
 obtain ⟨_, h2, _⟩ := qDu.1 (h (i + 1) hi')
 have e1 : (L.take n).getD i [] = L.getD i [] := by
  rw [ya_, ya_, List.getElem?_take, if_pos oM_]
 have e2 : (L.take n).getD (i + 1) [] = L.getD (i + 1) [] := by
  rw [ya_, ya_, List.getElem?_take, if_pos hi']
 rw [e1, e2]
 rcases h2 with h2 | h2
 ·omega
 ·exact h2
theorem qDj {C : List (List Int)} : okC C = true ↔ C.length ≤ 48 ∧ Srt C ∧ (∀ s, s ∈ C → qBn s = true) ∧ qOg C := by
 unfold okC
 rw [ye_, yf_, yo_]
 constructor
 ·rintro ⟨h1, h2⟩
  have h2' : ∀ m, m < C.length → okAt C C m = true := fun m hm => h2 m (yc_.2 hm)
  have hs := qE8 (C := fun _ => C) (D := fun _ => C) C.length (Nat.le_refl _) h2'
  rw [List.take_length] at hs
  refine ⟨h1, hs, fun s hs => ?_, fun s hs hl k hk => ?_⟩
  ·obtain ⟨i, hi, e⟩ := List.mem_iff_getElem.1 hs
   have := (qDu.1 (h2' i hi)).1
   rw [ya_, yb_ hi] at this
   simpa [e] using this
  ·obtain ⟨i, hi, e⟩ := List.mem_iff_getElem.1 hs
   have := (qDu.1 (h2' i hi)).2.2
   rw [ya_, yb_ hi] at this
   simp only [Option.getD_some, e] at this
   exact this _ (qEf.2 ⟨hl, k, hk, rfl⟩)
 ·rintro ⟨h1, h2, h3, h4⟩
  refine ⟨h1, fun i hi => qDu.2 ⟨h3 _ (qAu [] (yc_.1 hi)), ?_, fun f hf => ?_⟩⟩
  ·rcases Nat.eq_zero_or_pos i with h | h
   ·exact .inl h
   ·exact .inr (qD1 h2 oM_ (yc_.1 hi))
  ·obtain ⟨hl, k, hk, rfl⟩ := qEf.1 hf
   exact h4 _ (qAu [] (yc_.1 hi)) hl k hk
theorem qC0 {s : List Int} (h : qBn s = true) : 1 ≤ s.length ∧ s.length ≤ 4 := by
 unfold qBn at h
 rw [ye_, ye_, yf_, yf_] at h
 exact h.1
theorem qI6 {C : List (List Int)} (hs : Srt C) {i : Nat} (hi : i < C.length) : okAt C (C.take i) i = okAt C C i := by
 rw [Bool.eq_iff_iff, qDu, qDu]
 refine and_congr Iff.rfl (and_congr Iff.rfl ⟨fun h f hf => List.mem_of_mem_take (h f hf), fun h f hf => ?_⟩)
 obtain ⟨j, hj, e⟩ := List.mem_iff_getElem.1 (h f hf)
 have hlt := qMe hf
 have ej : C.getD j [] = f := by rw [ya_, yb_ hj]; exact e
 rcases Nat.lt_or_ge j i with hl | hg
 ·rw [List.mem_iff_getElem]
  exact ⟨j, by rw [yl_]; omega, by rw [List.getElem_take]; exact e⟩
 ·rcases Nat.eq_or_lt_of_le hg with rfl | hl
  ·rw [ej, qCh] at hlt; cases hlt
  ·have := qD1 hs hl hj
   rw [ej] at this
   rw [qLq this] at hlt; cases hlt
theorem qOs (C : List (List Int)) : ((List.range C.length).all (fun i => okAt C (C.take i) i) && decide (C.length ≤ 48)) = okC C := by
 unfold okC
 rw [Bool.and_comm]
 congr 1
 rw [Bool.eq_iff_iff, yo_, yo_]
 constructor
 ·intro h
  have hs := qE8 (C := fun _ => C) (D := fun m => C.take m) (L := C) C.length (Nat.le_refl _) (fun m hm => h m (yc_.2 hm))
  rw [List.take_length] at hs
  intro i hi
  rw [← qI6 hs (yc_.1 hi)]; exact h i hi
 ·intro h
  have hs := qE8 (C := fun _ => C) (D := fun _ => C) (L := C) C.length (Nat.le_refl _) (fun m hm => h m (yc_.2 hm))
  rw [List.take_length] at hs
  intro i hi
  rw [qI6 hs (yc_.1 hi)]; exact h i hi
theorem qG8 (C : List (List Int)) (i : Nat) (hi : i ≤ C.length) (hl : C.length < 4611686018427387904) (hr : ∀ x ∈ C, x.length < 9223372036854775807) (hs : Srt (C.take i)) (f : List Int) (hf : f.length < 9223372036854775807) :
  Ev (fun k => z55.f k f C (i : Int)) (!decide (f ∈ C.take i)) := by
 unfold z55.f
 rw [yd_]
 have hlt : (C.take i).length ≤ C.length := (List.take_sublist i C).length_le
 refine qAa oM_ (qAa oM_ (Ev.bind (qHb (C.take i) f oM_ (fun x hx => hr x (List.mem_of_mem_take hx)) hf hs) (qBk (Ev.now _) ?_)))
 rw [Bool.eq_iff_iff, yf_, qJ6]; simp
theorem qIc (C : List (List Int)) (n0 : Nat) (hi : n0 ≤ C.length) (hl : C.length < 4611686018427387904) (hrr : ∀ x ∈ C, x.length < 9223372036854775807) (hs : Srt (C.take n0)) (l : List (List Int)) (hll : l.length < 9223372036854775807) (hf : ∀ x ∈ l, x.length < 9223372036854775807) :
  Ev (fun k => z120.f k l C (n0 : Int)) (l.any fun f => !decide (f ∈ C.take n0)) := by
 obtain ⟨t, ht, hd⟩ := qCg (l) [] (fun i k => z124.l0 k (l) ((l).length : Int) (i : Int) C (n0 : Int)) (fun f => !decide (f ∈ C.take n0)) (fun j hj hp r hr => by
   refine Ev.step (fun k => z124.l0.eq_2 ..) ?_
   refine qAa oM_ (qAa oM_ (qAa oM_ ?_))
   rw [qA2, qAj oM_]
   exact Ev.bind (qG8 C n0 hi hl hrr hs _ (hf _ (qAu [] hj))) (qAd (by rw [hp]; decide) hr)) (fun j hj hp => by
   refine Ev.step (fun k => z124.l0.eq_2 ..) ?_
   refine qAa oM_ (qAa oM_ (qAa oM_ ?_))
   rw [qA2]
   exact Ev.bind (qG8 C n0 hi hl hrr hs _ (hf _ (qAu [] hj))) (qAa hp (Ev.now _))) (by
   refine Ev.step (fun k => z124.l0.eq_2 ..) ?_
   exact qAd oM_ (Ev.now _))
 unfold z120.f z124.f
 refine Ev.bind ht (qBk (Ev.now _) hd)
theorem qJa (C : List (List Int)) (hl : C.length ≤ 1048576) (hr : ∀ x ∈ C, x.length ≤ 1048576) : Ev (fun k => z35.f k C) (okC C) := by
 rw [← qOs]
 unfold z35.f
 have hr' : ∀ x ∈ C, x.length < 9223372036854775807 := fun x hx => by have := hr x hx; omega
 -- the rest of a round
 have hrest : ∀ (j : Nat) (b : Bool), j < C.length → Srt (C.take j) → ∀ v, (b = false → ((qBi (C.getD j [])).all fun f => decide (f ∈ C.take j)) = true → Ev (fun k => z35.l0 k C (C.length : Int) ((j + 1 : Nat) : Int) C) v) → (b = true ∨ ((qBi (C.getD j [])).all fun f => decide (f ∈ C.take j)) = false → v = false) →
   Ev (fun k => z35.j1 k (C.getD j []) C (C.length : Int) (j : Int) b C (j : Int)) v := by
  intro j b hj hs v h1 h2
  have hrow := hr _ (qAu ([] : List Int) hj)
  refine Ev.step (fun k => z35.j1.eq_2 ..) ?_
  cases b with
  | true => rw [h2 (.inl rfl)]; exact qAa rfl (Ev.now _)
  | false =>
   refine qAd (by decide) (Ev.bind (qHf _ oM_) (Ev.bind (qIc C j oM_ oM_ hr' hs _ (by have := qF4 (C.getD j []); omega) (fun x hx => by have := qJd hx; omega)) ?_))
   cases ha : (qBi (C.getD j [])).all fun f => decide (f ∈ C.take j) with
   | true =>
    refine qAd ?_ ?_
    ·rw [List.any_eq_not_all_not]; simp only [Bool.not_not, ha]; decide
    ·rw [qAj oM_]; exact h1 rfl ha
   | false =>
    rw [h2 (.inr ha)]
    refine qAa ?_ (Ev.now _)
    rw [List.any_eq_not_all_not]; simp only [Bool.not_not, ha]; rfl
 have hround : ∀ (j : Nat), j < C.length → (∀ m, m < j → okAt C (C.take m) m = true) → ∀ v, (okAt C (C.take j) j = true → Ev (fun k => z35.l0 k C (C.length : Int) ((j + 1 : Nat) : Int) C) v) → (okAt C (C.take j) j = false → v = false) →
   Ev (fun k => z35.l0 k C (C.length : Int) (j : Int) C) v := by
  intro j hj hall v h1 h2
  have hs : Srt (C.take j) := qE8 (C := fun _ => C) (D := fun m => C.take m) j oM_ hall
  have hrow := hr _ (qAu ([] : List Int) hj)
  have key := hrest j
  refine Ev.step (fun k => z35.l0.eq_2 ..) ?_
  rw [qA2]
  refine qAa oM_ (qAa oM_ (qAa oM_ (Ev.bind (qGr _ oM_) ?_)))
  unfold okAt at h1 h2
  cases hi : qBn (C.getD j []) with
  | false =>
   rw [hi] at h1 h2
   refine qAd (by decide) (key true hj hs v (fun h => by cases h) (fun _ => h2 rfl))
  | true =>
   rw [hi] at h1 h2
   refine qAa rfl ?_
   rcases Nat.eq_zero_or_pos j with h0 | h0
   ·have e : (j == 0) = true := by simpa using h0
    rw [e] at h1 h2
    simp only [Bool.true_or, Bool.true_and] at h1 h2
    exact qAd oM_ (key false hj hs v (fun _ ha => h1 ha) (fun h => h2 (h.elim (fun h => by cases h) id)))
   ·have e : (j == 0) = false := by simpa using (show j ≠ 0 by omega)
    rw [e] at h1 h2
    simp only [Bool.false_or, Bool.true_and] at h1 h2
    rw [show wrap64 ((j : Int) - 1) = ((j - 1 : Nat) : Int) by rw [qAi oM_ oM_]; omega, qA2]
    have hrow2 := hr _ (qAu ([] : List Int) (show j - 1 < C.length by omega))
    refine qAa oM_ (qAa oM_ (qAa oM_ (Ev.bind (qC7 _ _ oM_ oM_) ?_)))
    cases hc : slt (C.getD (j - 1) []) (C.getD j []) with
    | true =>
     have e2 : decide (scmp (C.getD (j - 1) []) (C.getD j []) ≥ 0) = false := decide_eq_false (by have := (qFa _ _).2 hc; omega)
     rw [e2]
     rw [hc] at h1 h2
     simp only [Bool.true_and] at h1 h2
     exact key false hj hs v (fun _ ha => h1 ha) (fun h => h2 (h.elim (fun h => by cases h) id))
    | false =>
     have e2 : decide (scmp (C.getD (j - 1) []) (C.getD j []) ≥ 0) = true := decide_eq_true (by
      have : ¬ scmp (C.getD (j - 1) []) (C.getD j []) < 0 := fun h => by rw [(qFa _ _).1 h] at hc; cases hc
      omega)
     rw [e2]
     rw [hc] at h2
     exact key true hj hs v (fun h => by cases h) (fun _ => h2 rfl)
 refine qF5 (fun (i : Nat) k => z35.l0 k C (C.length : Int) (i : Int) C) (fun i => okAt C (C.take i) i) (decide (C.length ≤ 48)) C.length (fun j hj hall hp r hr' => ?_) (fun j hj hall hp => ?_) (fun _ => ?_)
 ·exact hround j hj hall r (fun _ => hr') (fun h => by rw [hp] at h; cases h)
 ·exact hround j hj hall false (fun h => by rw [hp] at h; cases h) (fun _ => rfl)
 ·refine Ev.step (fun k => z35.l0.eq_2 ..) ?_
  exact qAd oM_ (qBk (Ev.now _) (by rw [Bool.eq_iff_iff, yf_, yf_]; omega))
theorem qFh (C : List (List Int)) (hl : C.length ≤ 1048576) (hr : ∀ x ∈ C, x.length ≤ 1048576) : Ev (fun k => z14.f k C) (okC C) := by
 unfold z14.f okC
 have hr' : ∀ x ∈ C, x.length < 9223372036854775807 := fun x hx => by have := hr x hx; omega
 by_cases h48 : C.length ≤ 48
 ·rw [decide_eq_true h48, Bool.true_and]
  refine qAd oM_ ?_
  -- the qBi
  have hfaces : ∀ (j : Nat), j < C.length → ∀ v, (((qBi (C.getD j [])).all fun f => decide (f ∈ C)) = true → Ev (fun k => z14.l0 k ((j + 1 : Nat) : Int) C) v) → (((qBi (C.getD j [])).all fun f => decide (f ∈ C)) = false → v = false) →
    Ev (fun k => z14.l1 k (j : Int) (C.getD j []) 0 C) v := by
   intro j hj v h1 h2
   have hrow := hr _ (qAu ([] : List Int) hj)
   by_cases hlen : 1 < (C.getD j []).length
   ·have hstep : ∀ (m : Nat), m < (C.getD j []).length → ∀ u, (drp (C.getD j []) m ∈ C → Ev (fun k => z14.l1 k (j : Int) (C.getD j []) ((m + 1 : Nat) : Int) C) u) → (drp (C.getD j []) m ∉ C → u = false) → Ev (fun k => z14.l1 k (j : Int) (C.getD j []) (m : Int) C) u := by
     intro m hm u g1 g2
     refine Ev.step (fun k => z14.l1.eq_2 ..) ?_
     refine qAa oM_ ?_
     refine Ev.step (fun k => z14.j3.eq_2 ..) ?_
     refine qAa (decide_eq_true oM_) (Ev.bind (qAr (qKu _ m hm oM_)) (Ev.bind (qMd C _ oM_ hr') ?_))
     by_cases hin : drp (C.getD j []) m ∈ C
     ·rw [qAj oM_]
      exact qAd (fun h => (qJ6 C _).1 h hin) (g1 hin)
     ·rw [g2 hin]
      exact qAa ((qJ6 C _).2 hin) (Ev.now _)
    have hall := qF5 (fun (m : Nat) k => (z14.l1 k (j : Int) (C.getD j []) (m : Int) C).map fun b => b) (fun m => decide (drp (C.getD j []) m ∈ C)) v (C.getD j []).length ?_ ?_ ?_
    ·have e : ((List.range (C.getD j []).length).all (fun m => decide (drp (C.getD j []) m ∈ C)) && v) = v := by
      cases v with
      | false => simp
      | true =>
       have : ((qBi (C.getD j [])).all fun f => decide (f ∈ C)) = true := by
        cases hc : (qBi (C.getD j [])).all fun f => decide (f ∈ C) with
        | true => rfl
        | false => have := h2 hc; cases this
       unfold qBi at this
       rw [if_pos hlen, List.all_map] at this
       rw [Bool.and_true]; exact this
     rw [e] at hall
     simpa using hall
    ·intro m hm _ hp u hu
     simp only [Option.map_id'] at hu ⊢
     exact hstep m hm u (fun _ => hu) (fun h => absurd (of_decide_eq_true hp) h)
    ·intro m hm _ hp
     simp only [Option.map_id']
     exact hstep m hm false (fun h => absurd h (of_decide_eq_false hp)) (fun _ => rfl)
    ·intro hall
     simp only [Option.map_id']
     have hfa : ((qBi (C.getD j [])).all fun f => decide (f ∈ C)) = true := by
      unfold qBi
      rw [if_pos hlen, List.all_map, yo_]
      exact fun m hm => hall m (yc_.1 hm)
     refine Ev.step (fun k => z14.l1.eq_2 ..) ?_
     refine qAd oM_ ?_
     refine Ev.step (fun k => z14.j3.eq_2 ..) ?_
     rw [qAj (i := j) oM_]
     exact qAd (by decide) (h1 hfa)
   ·have hfa : ((qBi (C.getD j [])).all fun f => decide (f ∈ C)) = true := by
     unfold qBi; rw [if_neg hlen]; rfl
    refine Ev.step (fun k => z14.l1.eq_2 ..) ?_
    by_cases h0 : 0 < (C.getD j []).length
    ·refine qAa oM_ ?_
     refine Ev.step (fun k => z14.j3.eq_2 ..) ?_
     rw [qAj (i := j) oM_]
     exact qAd (by rw [decide_eq_false oM_]; decide) (h1 hfa)
    ·refine qAd oM_ ?_
     refine Ev.step (fun k => z14.j3.eq_2 ..) ?_
     rw [qAj (i := j) oM_]
     exact qAd (by decide) (h1 hfa)
  have hround : ∀ (j : Nat), j < C.length → ∀ v, (okAt C C j = true → Ev (fun k => z14.l0 k ((j + 1 : Nat) : Int) C) v) → (okAt C C j = false → v = false) → Ev (fun k => z14.l0 k (j : Int) C) v := by
   intro j hj v h1 h2
   have hrow := hr _ (qAu ([] : List Int) hj)
   have key := hfaces j hj v
   have stop : v = false → Ev (fun k => z14.j1 k (j : Int) (C.getD j []) true C) v := fun e => by
    refine Ev.step (fun k => z14.j1.eq_2 ..) ?_
    rw [e]; exact qAa rfl (Ev.now _)
   have go : Ev (fun k => z14.l1 k (j : Int) (C.getD j []) 0 C) v → Ev (fun k => z14.j1 k (j : Int) (C.getD j []) false C) v := fun e => by
    refine Ev.step (fun k => z14.j1.eq_2 ..) ?_
    exact qAd (by decide) e
   refine Ev.step (fun k => z14.l0.eq_2 ..) ?_
   rw [qA2]
   refine qAa oM_ (qAa oM_ (Ev.bind (qGj _ oM_) ?_))
   unfold okAt at h1 h2
   cases hi : qBn (C.getD j []) with
   | false => rw [hi] at h2; exact qAd (by decide) (stop (h2 rfl))
   | true =>
    rw [hi] at h1 h2
    refine qAa rfl ?_
    rcases Nat.eq_zero_or_pos j with h0 | h0
    ·have e : (j == 0) = true := by simpa using h0
     rw [e] at h1 h2
     simp only [Bool.true_or, Bool.true_and] at h1 h2
     exact qAd oM_ (go (key h1 h2))
    ·have e : (j == 0) = false := by simpa using (show j ≠ 0 by omega)
     rw [e] at h1 h2
     simp only [Bool.false_or, Bool.true_and] at h1 h2
     have hrow2 := hr _ (qAu ([] : List Int) (show j - 1 < C.length by omega))
     rw [show wrap64 ((j : Int) - 1) = ((j - 1 : Nat) : Int) by rw [qAi oM_ oM_]; omega, qA2]
     refine qAa oM_ (qAa oM_ (qAa oM_ (Ev.bind (qMx _ _ oM_) ?_)))
     cases hc : slt (C.getD (j - 1) []) (C.getD j []) with
     | true =>
      rw [hc] at h1 h2
      simp only [Bool.true_and] at h1 h2
      exact go (key h1 h2)
     | false => rw [hc] at h2; exact stop (h2 rfl)
  refine qHi (fun (i : Nat) k => z14.l0 k (i : Int) C) (okAt C C) C.length (fun j hj hp r hr' => ?_) (fun j hj hp => ?_) ?_
  ·exact hround j hj r (fun _ => hr') (fun h => by rw [hp] at h; cases h)
  ·exact hround j hj false (fun h => by rw [hp] at h; cases h) (fun _ => rfl)
  ·refine Ev.step (fun k => z14.l0.eq_2 ..) ?_
   exact qAd oM_ (Ev.now _)
 ·rw [decide_eq_false h48, Bool.false_and]
  exact qAa oM_ (Ev.now _)
end Go.Proofs.Ytpgjfppbbbnclaa.B
set_option linter.unusedVariables false
set_option linter.unusedSimpArgs false
namespace Go.Proofs.Ytpgjfppbbbnclaa.B
open Go.RowKit Go.Proofs.YtpgjfppbbbnclaaW.PrintWords
open SimT
section
variable {C : List (List Int)} (hl : C.length ≤ 1048576) (hr : ∀ x ∈ C, x.length ≤ 1048576)
include hl hr
omit hl hr in
theorem qE9 (l : List Int) : z58.f l = some (l.length : Int) := rfl
omit hl hr in
def qAn (C : List (List Int)) (d : Int) : List Int := filt (fun i => decide (((C.getD i []).length : Int) = d + 1)) C.length
omit hr in
theorem qBz {d : Int} (h0 : -1000 ≤ d) (h1 : d ≤ 1000) : Ev (fun k => z38.f k C d) (qAn C d) := by
 unfold z38.f
 refine qJ8 (fun (s : List Int) (j : Nat) k => z38.l0 k d s C (C.length : Int) (j : Int)) (fun i => decide (((C.getD i []).length : Int) = d + 1)) C.length (fun j s hj hs hp r hr' => ?_) (fun j s hj hs hp r hr' => ?_) _ ?_
 ·refine Ev.step (fun k => z38.l0.eq_2 ..) ?_
  rw [qA2, qAj oM_, qAi (x := d + 1) oM_ oM_]
  exact qAa oM_ (qAa oM_ (qAa oM_ (Ev.bind (qAr (qE9 _)) (qAa (of_decide_eq_true hp) (qAa oM_ hr')))))
 ·refine Ev.step (fun k => z38.l0.eq_2 ..) ?_
  rw [qA2, qAj oM_, qAi (x := d + 1) oM_ oM_]
  exact qAa oM_ (qAa oM_ (qAa oM_ (Ev.bind (qAr (qE9 _)) (qAd (of_decide_eq_false hp) hr'))))
 ·refine Ev.step (fun k => z38.l0.eq_2 ..) ?_
  exact qAd oM_ (Ev.now _)
omit hr in
theorem qDc {d : Int} (h0 : -1000 ≤ d) (h1 : d ≤ 1000) : Ev (fun k => z31.f k C d) (qAn C d) := by
 unfold z31.f
 refine qJ8 (fun (s : List Int) (j : Nat) k => z31.l0 k d s (j : Int) C) (fun i => decide (((C.getD i []).length : Int) = d + 1)) C.length (fun j s hj hs hp r hr' => ?_) (fun j s hj hs hp r hr' => ?_) _ ?_
 ·refine Ev.step (fun k => z31.l0.eq_2 ..) ?_
  rw [qA2, qAj oM_, qAi (x := d + 1) oM_ oM_]
  exact qAa oM_ (qAa oM_ (qAa (of_decide_eq_true hp) (qAa oM_ hr')))
 ·refine Ev.step (fun k => z31.l0.eq_2 ..) ?_
  rw [qA2, qAj oM_, qAi (x := d + 1) oM_ oM_]
  exact qAa oM_ (qAa oM_ (qAd (of_decide_eq_false hp) hr'))
 ·refine Ev.step (fun k => z31.l0.eq_2 ..) ?_
  exact qAd oM_ (Ev.now _)
omit hl hr in
def qCb (C : List (List Int)) (s : List Int) : List Int := (qBi s).map (idx C)
theorem qGt (hs : Srt C) {i : Nat} (hi : i < C.length) : Ev (fun k => z68.f k C (i : Int)) (qCb C (C.getD i [])) := by
 unfold z68.f
 have hrow := hr _ (qAu ([] : List Int) hi)
 rw [qA2]
 refine qAa oM_ (qAa oM_ (Ev.bind (qHf _ oM_) ?_))
 have hfl := qF4 (C.getD i [])
 have e : qCb C (C.getD i []) = (List.range (qBi (C.getD i [])).length).map fun j => idx C ((qBi (C.getD i [])).getD j []) := qFy [] (idx C) _
 rw [e]
 refine qEi (fun (s : List Int) (j : Nat) k => z68.l0 k s (qBi (C.getD i [])) ((qBi (C.getD i [])).length : Int) (j : Int) C) (fun j => idx C ((qBi (C.getD i [])).getD j [])) (qBi (C.getD i [])).length (fun j s hj hs' r hr' => ?_) _ ?_
 ·refine Ev.step (fun k => z68.l0.eq_2 ..) ?_
  have hsl : s.length = j := by rw [hs']; simp
  have hf := qJd (qAu ([] : List Int) hj)
  rw [qA2, qAj oM_]
  exact qAa oM_ (qAa oM_ (qAa oM_ (Ev.bind (qHb C _ oM_ (fun x hx => by have := hr x hx; omega) oM_ hs) (qAa oM_ hr'))))
 ·refine Ev.step (fun k => z68.l0.eq_2 ..) ?_
  exact qAd oM_ (Ev.now _)
theorem qIs {i : Nat} (hi : i < C.length) : Ev (fun k => z48.f k C (i : Int)) (qCb C (C.getD i [])) := by
 unfold z48.f
 have hrow := hr _ (qAu ([] : List Int) hi)
 rw [qA2]
 refine qAa oM_ (qAa oM_ ?_)
 by_cases h1 : 1 < (C.getD i []).length
 ·have e : qCb C (C.getD i []) = (List.range (C.getD i []).length).map fun j => idx C (drp (C.getD i []) j) := by
   unfold qCb qBi
   rw [if_pos h1, List.map_map]; rfl
  rw [e]
  refine qEi (fun (s : List Int) (j : Nat) k => z48.l0 k (C.getD i []) s (j : Int) C) (fun j => idx C (drp (C.getD i []) j)) (C.getD i []).length (fun j s hj hs' r hr' => ?_) _ ?_
  ·refine Ev.step (fun k => z48.l0.eq_2 ..) ?_
   have hsl : s.length = j := by rw [hs']; simp
   refine qAa oM_ ?_
   refine Ev.step (fun k => z48.j1.eq_2 ..) ?_
   rw [qAj oM_]
   exact qAa (decide_eq_true oM_) (Ev.bind (qAr (qKu _ j hj oM_)) (Ev.bind (qMd C _ oM_ (fun x hx => by have := hr x hx; omega)) (qAa oM_ hr')))
  ·refine Ev.step (fun k => z48.l0.eq_2 ..) ?_
   refine qAd oM_ ?_
   refine Ev.step (fun k => z48.j1.eq_2 ..) ?_
   exact qAd (by decide) (Ev.now _)
 ·have e : qCb C (C.getD i []) = [] := by
   unfold qCb qBi; rw [if_neg h1]; rfl
  rw [e]
  refine Ev.step (fun k => z48.l0.eq_2 ..) ?_
  by_cases h2 : 0 < (C.getD i []).length
  ·refine qAa oM_ ?_
   refine Ev.step (fun k => z48.j1.eq_2 ..) ?_
   exact qAd (by rw [decide_eq_false oM_]; decide) (Ev.now _)
  ·refine qAd oM_ ?_
   refine Ev.step (fun k => z48.j1.eq_2 ..) ?_
   exact qAd (by decide) (Ev.now _)
end
end Go.Proofs.Ytpgjfppbbbnclaa.B
set_option linter.unusedVariables false
set_option linter.unusedSimpArgs false
namespace Go.Proofs.Ytpgjfppbbbnclaa.B.LinT
abbrev Vec := Nat → Int
theorem qAw {p a : Int} (c : Int) (h : p ∣ a) : p ∣ c * a := Int.dvd_trans h (Int.dvd_mul_left c a)
def Zr (p : Int) (n : Nat) (v : Vec) : Prop := ∀ i, i < n → p ∣ v i
structure Sub (p : Int) (n : Nat) (S : Vec → Prop) : Prop where
 zero : ∀ v, Zr p n v → S v
 add : ∀ v w, S v → S w → S (fun i => v i + w i)
 smul : ∀ (c : Int) v, S v → S (fun i => c * v i)
theorem Sub.congr {p : Int} {n : Nat} {S : Vec → Prop} (h : Sub p n S) {v w : Vec} (hv : S v) (e : ∀ i, i < n → p ∣ w i - v i) : S w := by
 have := h.add v (fun i => w i - v i) hv (h.zero _ e)
 have e2 : (fun i => v i + (w i - v i)) = w := by funext i; omega
 rwa [e2] at this
theorem Sub.sub {p : Int} {n : Nat} {S : Vec → Prop} (h : Sub p n S) {v w : Vec} (hv : S v) (hw : S w) : S (fun i => v i - w i) := by
 have := h.add v _ hv (h.smul (-1) w hw)
 have e2 : (fun i => v i + -1 * w i) = fun i => v i - w i := by funext i; omega
 rwa [e2] at this
def Ld (p : Int) (n : Nat) (v : Vec) (i : Nat) : Prop := i < n ∧ ¬ p ∣ v i ∧ ∀ j, j < i → p ∣ v j
theorem qN5 {q : Nat → Prop} (h : ∃ j, q j) : ∃ j, q j ∧ ∀ m, m < j → ¬ q m := by
 obtain ⟨j, hj⟩ := h
 induction j using Nat.strongRecOn with
 | _ j ih =>
  by_cases hm : ∃ m, m < j ∧ q m
  ·obtain ⟨m, h1, h2⟩ := hm
   exact ih m h1 h2
  ·exact ⟨j, hj, fun m h1 h2 => hm ⟨m, h1, h2⟩⟩
theorem ld_of {p : Int} {n : Nat} {v : Vec} (h : ¬ Zr p n v) : ∃ i, Ld p n v i := by
 have : ∃ i, i < n ∧ ¬ p ∣ v i := by
  refine Classical.byContradiction fun hc => h fun i hi => Classical.byContradiction fun hd => hc ⟨i, hi, hd⟩
 obtain ⟨i, ⟨h1, h2⟩, h3⟩ := qN5 this
 exact ⟨i, h1, h2, fun j hj => Classical.byContradiction fun hd => h3 j hj ⟨by omega, hd⟩⟩
theorem ld_nz {p : Int} {n : Nat} {v : Vec} {i : Nat} (h : Ld p n v i) : ¬ Zr p n v := fun hz => h.2.1 (hz i h.1)
def Pl (p : Int) (n : Nat) (S : Vec → Prop) (i : Nat) : Prop := ∃ v, S v ∧ Ld p n v i
open Classical in
noncomputable def cnt (Q : Nat → Prop) : Nat → Nat
 | 0 => 0
 | n + 1 => cnt Q n + (if Q n then 1 else 0)
theorem qOb (Q : Nat → Prop) : ∀ n, cnt Q n ≤ n
 | 0 => Nat.le_refl _
 | n + 1 => by have := qOb Q n; simp only [cnt]; split <;> omega
theorem qEk {Q R : Nat → Prop} : ∀ n, (∀ i, i < n → Q i → R i) → cnt Q n ≤ cnt R n
 | 0, _ => Nat.le_refl _
 | n + 1, h => by
  have ih := qEk n (fun i hi => h i oM_)
  have hn := h n oM_
  simp only [cnt]
  by_cases hq : Q n
  ·rw [if_pos hq, if_pos (hn hq)]; omega
  ·rw [if_neg hq]; split <;> omega
theorem qEl {Q R : Nat → Prop} (n : Nat) (h : ∀ i, i < n → (Q i ↔ R i)) : cnt Q n = cnt R n :=
 Nat.le_antisymm (qEk n fun i hi => (h i hi).1) (qEk n fun i hi => (h i hi).2)
theorem qEw {Q R : Nat → Prop} : ∀ n, (∀ i, i < n → Q i → R i) → cnt Q n = cnt R n → ∀ i, i < n → R i → Q i
 | 0, _, _, i, hi, _ => by omega
 | n + 1, h, e, i, hi, hr => by
  have hm := qEk n (fun i hi => h i oM_)
  have hn := h n oM_
  simp only [cnt] at e
  by_cases hq : Q n
  ·rw [if_pos hq, if_pos (hn hq)] at e
   rcases Nat.lt_or_ge i n with hl | hg
   ·exact qEw n (fun i hi => h i oM_) oM_ i hl hr
   ·have : i = n := by omega
    subst this; exact hq
  ·rw [if_neg hq] at e
   have hnr : ¬ R n := fun hR => by rw [if_pos hR] at e; omega
   rw [if_neg hnr] at e
   rcases Nat.lt_or_ge i n with hl | hg
   ·exact qEw n (fun i hi => h i oM_) oM_ i hl hr
   ·have : i = n := by omega
    subst this; exact absurd hr hnr
theorem qEv {Q R : Nat → Prop} (i0 : Nat) : ∀ n, i0 < n → ¬ Q i0 → (∀ i, i < n → (R i ↔ Q i ∨ i = i0)) → cnt R n = cnt Q n + 1
 | 0, h, _, _ => by omega
 | n + 1, h, hq, he => by
  simp only [cnt]
  rcases Nat.lt_or_ge i0 n with hl | hg
  ·rw [qEv i0 n hl hq (fun i hi => he i oM_)]
   have e := he n oM_
   have e2 : R n ↔ Q n := by
    rw [e]
    constructor
    ·rintro (h | h)
     ·exact h
     ·omega
    ·exact Or.inl
   by_cases hqn : Q n
   ·rw [if_pos hqn, if_pos (e2.2 hqn)]
   ·rw [if_neg hqn, if_neg (fun h => hqn (e2.1 h))]
  ·have : i0 = n := by omega
   subst this
   rw [if_neg hq, if_pos ((he i0 oM_).2 (.inr rfl)), qEl (Q := R) (R := Q) i0 (fun i hi => by
    rw [he i oM_]; constructor
    ·rintro (h | h)
     ·exact h
     ·omega
    ·exact Or.inl)]
theorem qJl (Q : Nat → Prop) (a : Nat) : ∀ b, cnt Q (a + b) = cnt Q a + cnt (fun j => Q (a + j)) b
 | 0 => by simp [cnt]
 | b + 1 => by
  rw [show a + (b + 1) = (a + b) + 1 by omega]
  simp only [cnt]
  rw [qJl Q a b]; omega
theorem qMo (Q : Nat → Prop) : ∀ n, (∀ i, i < n → Q i) → cnt Q n = n
 | 0, _ => rfl
 | n + 1, h => by simp only [cnt]; rw [qMo Q n (fun i hi => h i oM_), if_pos (h n oM_)]
theorem qH9 (Q : Nat → Prop) : ∀ n, (∀ i, i < n → ¬ Q i) → cnt Q n = 0
 | 0, _ => rfl
 | n + 1, h => by simp only [cnt]; rw [qH9 Q n (fun i hi => h i oM_), if_neg (h n oM_)]
noncomputable def dim (p : Int) (n : Nat) (S : Vec → Prop) : Nat := cnt (Pl p n S) n
theorem qN9 (p : Int) (n : Nat) (S : Vec → Prop) : dim p n S ≤ n := qOb _ _
theorem qH5 {p : Int} {n : Nat} {S T : Vec → Prop} (h : ∀ v, S v → T v) : dim p n S ≤ dim p n T :=
 qEk n fun i _ ⟨v, h1, h2⟩ => ⟨v, h v h1, h2⟩
theorem qBa {p : Int} {n : Nat} {S T : Vec → Prop} (h : ∀ v, S v ↔ T v) : dim p n S = dim p n T :=
 Nat.le_antisymm (qH5 fun v => (h v).1) (qH5 fun v => (h v).2)
def Pr (p : Int) : Prop := (¬ p ∣ 1) ∧ ∀ a, ¬ p ∣ a → ∃ b, p ∣ a * b - 1
theorem qJ2 {p a b : Int} (hp : Pr p) (h : ¬ p ∣ a) (h' : ¬ p ∣ b) : ¬ p ∣ a * b := fun hd => by
 obtain ⟨c, hc⟩ := hp.2 a h
 apply h'
 obtain ⟨k, hk⟩ := hd
 obtain ⟨m, hm⟩ := hc
 exact ⟨c * k - m * b, by grind⟩
theorem qIx {p : Int} {n : Nat} {S : Vec → Prop} (hp : Pr p) (hS : Sub p n S) (v : Vec) : ∃ s, S s ∧ (Zr p n (fun i => v i - s i) ∨ ∃ i, Ld p n (fun i => v i - s i) i ∧ ¬ Pl p n S i) := by
 have main : ∀ (d : Nat) (v : Vec), (∀ j, j + d < n → p ∣ v j) → ∃ s, S s ∧ (Zr p n (fun i => v i - s i) ∨ ∃ i, Ld p n (fun i => v i - s i) i ∧ ¬ Pl p n S i) := by
  intro d
  induction d with
  | zero =>
   intro v hv
   refine ⟨fun _ => 0, hS.zero _ (fun i _ => yn_ p), .inl fun i hi => ?_⟩
   simpa using hv i oM_
  | succ d ih =>
   intro v hv
   by_cases hz : Zr p n v
   ·refine ⟨fun _ => 0, hS.zero _ (fun i _ => yn_ p), .inl fun i hi => ?_⟩
    simpa using hz i hi
   ·obtain ⟨i, hi⟩ := ld_of hz
    by_cases hP : Pl p n S i
    ·obtain ⟨s, hs, hl⟩ := hP
     obtain ⟨b, hb⟩ := hp.2 _ hl.2.1
     obtain ⟨t, ht, h⟩ := ih (fun j => v j - (v i * b) * s j) (fun j hj => by
      rcases yh_ j i with h1 | h1 | h1
      ·exact yr_ (hi.2.2 j h1) (qAw _ (hl.2.2 j h1))
      ·subst h1
       obtain ⟨k, hk⟩ := hb
       exact ⟨-(v j * k), by grind⟩
      ·have : i < n := hi.1
       exact absurd (hv i oM_) hi.2.1)
     refine ⟨fun j => (v i * b) * s j + t j, hS.add _ _ (hS.smul _ _ hs) ht, ?_⟩
     have e : (fun j => v j - ((v i * b) * s j + t j)) = fun j => v j - (v i * b) * s j - t j := by funext j; omega
     rw [e]; exact h
    ·refine ⟨fun _ => 0, hS.zero _ (fun i _ => yn_ p), .inr ⟨i, ?_, hP⟩⟩
     simpa using hi
 exact main n v (fun j hj => by omega)
theorem qGx {p : Int} {n : Nat} {S T : Vec → Prop} (hp : Pr p) (hS : Sub p n S) (hT : Sub p n T) (h : ∀ v, S v → T v) (e : dim p n S = dim p n T) : ∀ v, T v → S v := by
 intro v hv
 obtain ⟨s, hs, hz | ⟨i, hi, hP⟩⟩ := qIx hp hS v
 ·exact hS.congr hs hz
 ·exact absurd (qEw n (fun i _ ⟨v, h1, h2⟩ => ⟨v, h v h1, h2⟩) e i hi.1 ⟨_, hT.sub hv (h s hs), hi⟩) hP
def Ins (p : Int) (n : Nat) (S : Vec → Prop) (x v : Vec) : Prop := ∃ (c : Int) (s : Vec), S s ∧ ∀ i, i < n → p ∣ v i - (c * x i + s i)
theorem Ins.isSub {p : Int} {n : Nat} {S : Vec → Prop} (hS : Sub p n S) (x : Vec) : Sub p n (Ins p n S x) where
 zero v hv := ⟨0, fun _ => 0, hS.zero _ (fun i _ => yn_ p), fun i hi => by simpa using hv i hi⟩
 add := by
  rintro v w ⟨c, s, hs, h⟩ ⟨c', s', hs', h'⟩
  refine ⟨c + c', _, hS.add _ _ hs hs', fun i hi => ?_⟩
  have := yq_ (h i hi) (h' i hi)
  have e : v i + w i - ((c + c') * x i + (s i + s' i)) = (v i - (c * x i + s i)) + (w i - (c' * x i + s' i)) := by grind
  rw [e]; exact this
 smul := by
  rintro d v ⟨c, s, hs, h⟩
  refine ⟨d * c, _, hS.smul d _ hs, fun i hi => ?_⟩
  have := qAw d (h i hi)
  have e : d * v i - (d * c * x i + d * s i) = d * (v i - (c * x i + s i)) := by grind
  rw [e]; exact this
theorem Ins.old {p : Int} {n : Nat} {S : Vec → Prop} {x v : Vec} (h : S v) : Ins p n S x v := ⟨0, v, h, fun i _ => by simp⟩
theorem Ins.new {p : Int} {n : Nat} {S : Vec → Prop} (hS : Sub p n S) {x : Vec} : Ins p n S x x := ⟨1, fun _ => 0, hS.zero _ (fun i _ => yn_ p), fun i _ => by simp⟩
theorem Ins.least {p : Int} {n : Nat} {S T : Vec → Prop} (hT : Sub p n T) {x v : Vec} (h : ∀ v, S v → T v) (hx : T x) (hv : Ins p n S x v) : T v := by
 obtain ⟨c, s, hs, he⟩ := hv
 exact hT.congr (hT.add _ _ (hT.smul c _ hx) (h s hs)) he
theorem qKa {p : Int} {n : Nat} {S : Vec → Prop} (hp : Pr p) (hS : Sub p n S) {x : Vec} (hx : ¬ S x) : dim p n (Ins p n S x) = dim p n S + 1 := by
 obtain ⟨s, hs, hz | ⟨i0, hi, hP⟩⟩ := qIx hp hS x
 ·exact absurd (hS.congr hs hz) hx
 refine qEv i0 n hi.1 hP (fun i hin => ⟨?_, ?_⟩)
 ·rintro ⟨v, ⟨c, t, ht, he⟩, hl⟩
  by_cases hc : p ∣ c
  ·left
   refine ⟨v, hS.congr ht (fun j hj => ?_), hl⟩
   have := yq_ (he j hj) (Int.dvd_mul_of_dvd_left (c := x j) hc)
   have e : v j - t j = v j - (c * x j + t j) + c * x j := by omega
   rw [e]; exact this
  ·-- v = c (x - s) + (c s + t)
   have hu : S (fun j => c * s j + t j) := hS.add _ _ (hS.smul c _ hs) ht
   have hv : ∀ j, j < n → p ∣ v j - (c * (x j - s j) + (c * s j + t j)) := fun j hj => by
    have e : v j - (c * (x j - s j) + (c * s j + t j)) = v j - (c * x j + t j) := by grind
    rw [e]; exact he j hj
   generalize hdef : (fun j => c * s j + t j) = u at hu
   have hv : ∀ j, j < n → p ∣ v j - (c * (x j - s j) + u j) := fun j hj => by rw [← hdef]; exact hv j hj
   rcases yh_ i i0 with h1 | h1 | h1
   ·left
    refine ⟨u, hu, hin, fun hd => hl.2.1 ?_, fun j hj => ?_⟩
    ·have h2 := hi.2.2 i h1
     have := yq_ (hv i hin) (yq_ (qAw c h2) hd)
     have e : v i = v i - (c * (x i - s i) + u i) + (c * (x i - s i) + u i) := by omega
     rw [e]; exact this
    ·have h2 := hi.2.2 j oM_
     have h3 := hl.2.2 j hj
     have := yr_ h3 (yq_ (hv j oM_) (qAw c h2))
     have e : u j = v j - (v j - (c * (x j - s j) + u j) + c * (x j - s j)) := by omega
     rw [e]; exact this
   ·exact .inr h1
   ·exfalso
    -- u has the lead i0
    refine hP ⟨u, hu, hi.1, fun hd => ?_, fun j hj => ?_⟩
    ·have h3 := hl.2.2 i0 h1
     have h4 : p ∣ c * (x i0 - s i0) := by
      have := yr_ h3 (yq_ (hv i0 hi.1) hd)
      have e : c * (x i0 - s i0) = v i0 - (v i0 - (c * (x i0 - s i0) + u i0) + u i0) := by omega
      rw [e]; exact this
     exact qJ2 hp hc hi.2.1 h4
    ·have h2 := hi.2.2 j hj
     have h3 := hl.2.2 j oM_
     have := yr_ h3 (yq_ (hv j (by have := hi.1; omega)) (qAw c h2))
     have e : u j = v j - (v j - (c * (x j - s j) + u j) + c * (x j - s j)) := by omega
     rw [e]; exact this
 ·rintro (⟨v, hv, hl⟩ | rfl)
  ·exact ⟨v, Ins.old hv, hl⟩
  ·exact ⟨_, (Ins.isSub hS x).sub (Ins.new hS) (Ins.old hs), hi⟩
def Span (p : Int) (n : Nat) : List Vec → Vec → Prop
 | [] => Zr p n
 | x :: L => Ins p n (Span p n L) x
theorem zr_sub (p : Int) (n : Nat) : Sub p n (Zr p n) where
 zero _ h := h
 add _ _ h h' i hi := yq_ (h i hi) (h' i hi)
 smul c _ h i hi := qAw c (h i hi)
theorem qAs (p : Int) (n : Nat) : ∀ L, Sub p n (Span p n L)
 | [] => zr_sub p n
 | x :: L => Ins.isSub (qAs p n L) x
theorem qA3 {p : Int} {n : Nat} : ∀ {L : List Vec} {x : Vec}, x ∈ L → Span p n L x
 | y :: L, x, h => by
  rcases List.mem_cons.1 h with rfl | h
  ·exact Ins.new (qAs p n L)
  ·exact Ins.old (qA3 h)
theorem qA9 {p : Int} {n : Nat} {T : Vec → Prop} (hT : Sub p n T) : ∀ {L : List Vec} {v : Vec}, (∀ x, x ∈ L → T x) → Span p n L v → T v
 | [], v, _, hv => hT.zero v hv
 | y :: L, v, h, hv => Ins.least hT (fun v hv => qA9 hT (fun x hx => h x (List.mem_cons_of_mem _ hx)) hv) (h y List.mem_cons_self) hv
theorem qBs {p : Int} {n : Nat} {L M : List Vec} (h : ∀ x, x ∈ L → Span p n M x) {v : Vec} (hv : Span p n L v) : Span p n M v := qA9 (qAs p n M) h hv
def qIh (p : Int) (n : Nat) : List Vec → Prop
 | [] => True
 | x :: L => ¬ Span p n L x ∧ qIh p n L
theorem qKv (p : Int) (n : Nat) : dim p n (Zr p n) = 0 := qH9 _ n (fun i _ ⟨_, h1, h2⟩ => ld_nz h2 h1)
theorem qDq {p : Int} {n : Nat} (hp : Pr p) : ∀ {L : List Vec}, qIh p n L → dim p n (Span p n L) = L.length
 | [], _ => qKv p n
 | x :: L, h => by
  have := qKa hp (qAs p n L) h.1
  simp only [Span, List.length_cons]
  rw [this, qDq hp h.2]
theorem qL6 {p : Int} {n : Nat} {S : Vec → Prop} (hS : Sub p n S) {x : Vec} (hx : S x) (v : Vec) : Ins p n S x v ↔ S v :=
 ⟨fun h => Ins.least hS (fun _ h => h) hx h, Ins.old⟩
theorem qF9 {p : Int} {n : Nat} (hp : Pr p) : ∀ (L : List Vec), dim p n (Span p n L) ≤ L.length
 | [] => by rw [show Span p n [] = Zr p n from rfl, qKv]; exact Nat.le_refl _
 | x :: L => by
  have ih := qF9 (n := n) hp L
  simp only [Span, List.length_cons]
  by_cases hx : Span p n L x
  ·rw [qBa (qL6 (qAs p n L) hx)]; omega
  ·rw [qKa hp (qAs p n L) hx]; omega
def Fst (p : Int) (a : Nat) (U : Vec → Prop) (v : Vec) : Prop := ∃ u, U u ∧ ∀ i, i < a → p ∣ v i - u i
def behind (a : Nat) (w : Vec) : Vec := fun i => if i < a then 0 else w (i - a)
def Snd (a : Nat) (U : Vec → Prop) (w : Vec) : Prop := U (behind a w)
theorem qMj {p : Int} {a b : Nat} {U : Vec → Prop} (hU : Sub p (a + b) U) : dim p (a + b) U = dim p a (Fst p a U) + dim p b (Snd a U) := by
 unfold dim
 rw [qJl]
 congr 1
 ·refine qEl a (fun i hi => ⟨?_, ?_⟩)
  ·rintro ⟨v, hv, h1, h2, h3⟩
   exact ⟨v, ⟨v, hv, fun i _ => by simp⟩, hi, h2, h3⟩
  ·rintro ⟨v, ⟨u, hu, he⟩, h1, h2, h3⟩
   refine ⟨u, hu, by omega, fun hd => h2 ?_, fun j hj => ?_⟩
   ·have := yq_ (he i hi) hd
    rwa [show v i - u i + u i = v i by omega] at this
   ·have := yr_ (h3 j hj) (he j oM_)
    rwa [show v j - (v j - u j) = u j by omega] at this
 ·refine qEl b (fun i hi => ⟨?_, ?_⟩)
  ·rintro ⟨v, hv, h1, h2, h3⟩
   refine ⟨fun j => v (a + j), hU.congr hv (fun j hj => ?_), hi, h2, fun j hj => h3 _ oM_⟩
   unfold behind
   split
   ·have := h3 j oM_
    rw [show (0 : Int) - v j = -(v j) by omega]; exact Int.dvd_neg.2 this
   ·have e : a + (j - a) = j := by omega
    show p ∣ v (a + (j - a)) - v j
    rw [e]; simp
  ·rintro ⟨w, hw, h1, h2, h3⟩
   refine ⟨_, hw, by omega, ?_, fun j hj => ?_⟩
   ·unfold behind; rw [if_neg oM_, show a + i - a = i by omega]; exact h2
   ·unfold behind; split
    ·exact yn_ p
    ·exact h3 _ oM_
theorem qJp {p : Int} {n : Nat} {S : Vec → Prop} (hp : Pr p) (hS : Sub p n S) : ∃ L, qIh p n L ∧ ∀ v, Span p n L v ↔ S v := by
 have main : ∀ (d : Nat) (L : List Vec), qIh p n L → (∀ x, x ∈ L → S x) → n ≤ L.length + d → ∃ L, qIh p n L ∧ ∀ v, Span p n L v ↔ S v := by
  intro d
  induction d with
  | zero =>
   intro L hL hx hd
   refine ⟨L, hL, fun v => ⟨qA9 hS hx, ?_⟩⟩
   have h1 := qDq hp hL
   have h2 : dim p n (Span p n L) ≤ dim p n S := qH5 fun v => qA9 hS hx
   have h3 := qN9 p n S
   exact qGx hp (qAs p n L) hS (fun v => qA9 hS hx) oM_ v
  | succ d ih =>
   intro L hL hx hd
   by_cases h : ∀ v, S v → Span p n L v
   ·exact ⟨L, hL, fun v => ⟨qA9 hS hx, h v⟩⟩
   ·obtain ⟨v, hv⟩ := Classical.not_forall.1 h
    have hv1 : S v := Classical.byContradiction fun hc => hv fun h => absurd h hc
    have hv2 : ¬ Span p n L v := fun hc => hv fun _ => hc
    refine ih (v :: L) ⟨hv2, hL⟩ (fun x hxm => ?_) (by simp only [List.length_cons]; omega)
    rcases List.mem_cons.1 hxm with rfl | hm
    ·exact hv1
    ·exact hx x hm
 exact main n [] trivial (fun x hx => by cases hx) (by simp)
structure Lmap (p : Int) (a b : Nat) (f : Vec → Vec) : Prop where
 zr : ∀ v, Zr p a v → Zr p b (f v)
 add : ∀ v w j, j < b → p ∣ f (fun i => v i + w i) j - (f v j + f w j)
 smul : ∀ (c : Int) v j, j < b → p ∣ f (fun i => c * v i) j - c * f v j
theorem Lmap.sub {p : Int} {a b : Nat} {f : Vec → Vec} (hf : Lmap p a b f) (v w : Vec) (j : Nat) (hj : j < b) : p ∣ f (fun i => v i - w i) j - (f v j - f w j) := by
 have h1 := hf.add v (fun i => -1 * w i) j hj
 have h2 := hf.smul (-1) w j hj
 have e : (fun i => v i + -1 * w i) = fun i => v i - w i := by funext i; omega
 simp only [e] at h1
 have := yq_ h1 h2
 have e2 : f (fun i => v i - w i) j - (f v j - f w j) = f (fun i => v i - w i) j - (f v j + f (fun i => -1 * w i) j) + (f (fun i => -1 * w i) j - -1 * f w j) := by omega
 rw [e2]; exact this
def Img (p : Int) (b : Nat) (f : Vec → Vec) (S : Vec → Prop) (y : Vec) : Prop := ∃ v, S v ∧ ∀ j, j < b → p ∣ y j - f v j
theorem qL8 {p : Int} {a b : Nat} {f : Vec → Vec} {S : Vec → Prop} (hf : Lmap p a b f) (hS : Sub p a S) : Sub p b (Img p b f S) where
 zero y hy := ⟨fun _ => 0, hS.zero _ (fun _ _ => yn_ p), fun j hj => yr_ (hy j hj) (hf.zr _ (fun _ _ => yn_ p) j hj)⟩
 add := by
  rintro y z ⟨v, hv, h⟩ ⟨w, hw, h'⟩
  refine ⟨_, hS.add _ _ hv hw, fun j hj => ?_⟩
  have := yr_ (yq_ (h j hj) (h' j hj)) (hf.add v w j hj)
  have e : y j + z j - f (fun i => v i + w i) j = (y j - f v j + (z j - f w j)) - (f (fun i => v i + w i) j - (f v j + f w j)) := by omega
  rw [e]; exact this
 smul := by
  rintro c y ⟨v, hv, h⟩
  refine ⟨_, hS.smul c _ hv, fun j hj => ?_⟩
  have := yr_ (qAw c (h j hj)) (hf.smul c v j hj)
  have e : c * y j - f (fun i => c * v i) j = c * (y j - f v j) - (f (fun i => c * v i) j - c * f v j) := by grind
  rw [e]; exact this
theorem qN7 {p : Int} {b : Nat} {f : Vec → Vec} {S : Vec → Prop} {v : Vec} (h : S v) : Img p b f S (f v) := ⟨v, h, fun j _ => by simp⟩
theorem qKj {p : Int} {a b : Nat} {f : Vec → Vec} (hf : Lmap p a b f) : ∀ (L : List Vec) (y : Vec), Span p b (L.map f) y ↔ Img p b f (Span p a L) y := by
 intro L y
 constructor
 ·refine qA9 (qL8 hf (qAs p a L)) (fun x hx => ?_)
  obtain ⟨v, hv, rfl⟩ := ys_.1 hx
  exact qN7 (qA3 hv)
 ·rintro ⟨v, hv, he⟩
  refine (qAs p b (L.map f)).congr (v := f v) ?_ he
  have hT : Sub p a (fun v => Span p b (L.map f) (f v)) := {
   zero := fun v hv => (qAs p b _).zero _ (hf.zr v hv)
   add := fun v w hv hw => (qAs p b _).congr ((qAs p b _).add _ _ hv hw) (hf.add v w)
   smul := fun c v hv => (qAs p b _).congr ((qAs p b _).smul c _ hv) (hf.smul c v) }
  exact qA9 hT (fun x hx => qA3 (List.mem_map_of_mem hx)) hv
theorem qPd {p : Int} {a b : Nat} {f : Vec → Vec} {S : Vec → Prop} (hp : Pr p) (hf : Lmap p a b f) (hS : Sub p a S) (hinj : ∀ v, S v → Zr p b (f v) → Zr p a v) : dim p b (Img p b f S) = dim p a S := by
 obtain ⟨L, hL, hLS⟩ := qJp hp hS
 have hind : ∀ M : List Vec, (∀ x, x ∈ M → S x) → qIh p a M → qIh p b (M.map f) := by
  intro M
  induction M with
  | nil => intro _ _; trivial
  | cons x M ih =>
   intro hx hM
   refine ⟨fun hs => hM.1 ?_, ih (fun y hy => hx y (List.mem_cons_of_mem _ hy)) hM.2⟩
   obtain ⟨v, hv, he⟩ := (qKj hf M _).1 hs
   have hvS : S v := qA9 hS (fun y hy => hx y (List.mem_cons_of_mem _ hy)) hv
   have hxS := hx x List.mem_cons_self
   refine (qAs p a M).congr hv (hinj _ (hS.sub hxS hvS) (fun j hj => ?_))
   have := yq_ (hf.sub x v j hj) (he j hj)
   rwa [Int.sub_add_cancel] at this
 have h1 := qDq hp (hind L (fun x hx => (hLS x).1 (qA3 hx)) hL)
 have h2 := qDq hp hL
 rw [List.length_map] at h1
 rw [← qBa (S := Span p a L) hLS, h2, ← h1]
 refine qBa fun y => ?_
 rw [qKj hf L y]
 constructor
 ·rintro ⟨v, hv, he⟩; exact ⟨v, (hLS v).2 hv, he⟩
 ·rintro ⟨v, hv, he⟩; exact ⟨v, (hLS v).1 hv, he⟩
def qF3 (b : Nat) (f : Vec → Vec) (v : Vec) : Vec := fun i => if i < b then f v i else v (i - b)
theorem qK9 {p : Int} {a b : Nat} {f : Vec → Vec} (hf : Lmap p a b f) : Lmap p a (b + a) (qF3 b f) where
 zr v hv i hi := by
  unfold qF3; split
  ·exact hf.zr v hv i (by assumption)
  ·exact hv _ oM_
 add v w j hj := by
  unfold qF3; split
  ·exact hf.add v w j (by assumption)
  ·simp
 smul c v j hj := by
  unfold qF3; split
  ·exact hf.smul c v j (by assumption)
  ·simp
def qPk (S T : Vec → Prop) (v : Vec) : Prop := S v ∧ T v
def Ker (p : Int) (b : Nat) (f : Vec → Vec) (v : Vec) : Prop := Zr p b (f v)
theorem qOz {p : Int} {a b : Nat} {f : Vec → Vec} (hf : Lmap p a b f) : Sub p a (Ker p b f) where
 zero v h := hf.zr v h
 add v w h h' j hj := by
  have := yq_ (hf.add v w j hj) (yq_ (h j hj) (h' j hj))
  rwa [Int.sub_add_cancel] at this
 smul c v h j hj := by
  have := yq_ (hf.smul c v j hj) (qAw c (h j hj))
  rwa [Int.sub_add_cancel] at this
theorem qE1 {p : Int} {a b : Nat} {f : Vec → Vec} {S : Vec → Prop} (hp : Pr p) (hf : Lmap p a b f) (hS : Sub p a S) : dim p b (Img p b f S) + dim p a (qPk S (Ker p b f)) = dim p a S := by
 have hg := qK9 hf
 have hU := qL8 hg hS
 have h1 := qPd hp hg hS (fun v _ hz i hi => by
  have := hz (b + i) oM_
  unfold qF3 at this
  rwa [if_neg oM_, show b + i - b = i by omega] at this)
 rw [← h1, qMj hU]
 congr 1
 ·refine qBa fun y => ⟨?_, ?_⟩
  ·rintro ⟨v, hv, he⟩
   refine ⟨qF3 b f v, qN7 hv, fun j hj => ?_⟩
   unfold qF3; rw [if_pos hj]; exact he j hj
  ·rintro ⟨u, ⟨v, hv, he⟩, h⟩
   refine ⟨v, hv, fun j hj => ?_⟩
   have h2 := he j oM_
   unfold qF3 at h2; rw [if_pos hj] at h2
   have := yq_ (h j hj) h2
   rwa [show y j - u j + (u j - f v j) = y j - f v j by omega] at this
 ·refine qBa fun w => ⟨?_, ?_⟩
  ·rintro ⟨hw, hk⟩
   refine ⟨w, hw, fun j hj => ?_⟩
   unfold behind qF3
   by_cases h : j < b
   ·rw [if_pos h, if_pos h]
    have := Int.dvd_neg.2 (hk j h)
    rwa [show (0 : Int) - f w j = -(f w j) by omega]
   ·rw [if_neg h, if_neg h]; simp
  ·rintro ⟨v, hv, he⟩
   have e1 : ∀ i, i < a → p ∣ w i - v i := fun i hi => by
    have := he (b + i) oM_
    unfold behind qF3 at this
    rwa [if_neg oM_, if_neg oM_, show b + i - b = i by omega] at this
   refine ⟨hS.congr hv e1, (qOz hf).congr (v := v) (fun j hj => ?_) e1⟩
   have := he j oM_
   unfold behind qF3 at this
   rw [if_pos hj, if_pos hj] at this
   have := Int.dvd_neg.2 this
   rwa [show -((0 : Int) - f v j) = f v j by omega] at this
def All (v : Vec) : Prop := True
theorem qM0 (p : Int) (n : Nat) : Sub p n All := ⟨fun _ _ => trivial, fun _ _ _ _ => trivial, fun _ _ _ => trivial⟩
theorem qKb {p : Int} (hp : Pr p) (n : Nat) : dim p n All = n := qMo _ n fun i hi => by
 refine ⟨fun j => if j = i then 1 else 0, trivial, hi, ?_, fun j hj => ?_⟩
 ·simp only [if_pos]; exact hp.1
 ·simp only []; rw [if_neg oM_]; exact yn_ p
def Sum (p : Int) (n : Nat) (S T : Vec → Prop) (v : Vec) : Prop := ∃ s t, S s ∧ T t ∧ ∀ i, i < n → p ∣ v i - (s i + t i)
theorem qOl {p : Int} {n : Nat} {S T : Vec → Prop} (hS : Sub p n S) (hT : Sub p n T) : Sub p n (Sum p n S T) where
 zero v hv := ⟨v, fun _ => 0, hS.zero v hv, hT.zero _ (fun _ _ => yn_ p), fun i _ => by simp⟩
 add := by
  rintro v w ⟨s, t, hs, ht, h⟩ ⟨s', t', hs', ht', h'⟩
  refine ⟨_, _, hS.add _ _ hs hs', hT.add _ _ ht ht', fun i hi => ?_⟩
  have e : v i + w i - (s i + s' i + (t i + t' i)) = v i - (s i + t i) + (w i - (s' i + t' i)) := by omega
  rw [e]; exact yq_ (h i hi) (h' i hi)
 smul := by
  rintro c v ⟨s, t, hs, ht, h⟩
  refine ⟨_, _, hS.smul c _ hs, hT.smul c _ ht, fun i hi => ?_⟩
  have e : c * v i - (c * s i + c * t i) = c * (v i - (s i + t i)) := by grind
  rw [e]; exact qAw c (h i hi)
theorem qJv {p : Int} {n : Nat} (L M : List Vec) (v : Vec) : Span p n (L ++ M) v ↔ Sum p n (Span p n L) (Span p n M) v := by
 constructor
 ·refine qA9 (qOl (qAs p n L) (qAs p n M)) (fun x hx => ?_)
  rcases List.mem_append.1 hx with h | h
  ·exact ⟨x, fun _ => 0, qA3 h, (qAs p n M).zero _ (fun _ _ => yn_ p), fun i _ => by simp⟩
  ·exact ⟨fun _ => 0, x, (qAs p n L).zero _ (fun _ _ => yn_ p), qA3 h, fun i _ => by simp⟩
 ·rintro ⟨s, t, hs, ht, h⟩
  refine (qAs p n _).congr ((qAs p n _).add _ _ ?_ ?_) h
  ·exact qBs (fun x hx => qA3 (List.mem_append_left _ hx)) hs
  ·exact qBs (fun x hx => qA3 (List.mem_append_right _ hx)) ht
def sm (f : Nat → Int) : Nat → Int
 | 0 => 0
 | n + 1 => sm f n + f n
theorem qBl {f g : Nat → Int} : ∀ n, (∀ i, i < n → f i = g i) → sm f n = sm g n
 | 0, _ => rfl
 | n + 1, h => by simp only [sm]; rw [qBl n (fun i hi => h i oM_), h n oM_]
theorem qG0 (f g : Nat → Int) : ∀ n, sm (fun i => f i + g i) n = sm f n + sm g n
 | 0 => rfl
 | n + 1 => by simp only [sm]; rw [qG0 f g n]; omega
theorem qFk (c : Int) (f : Nat → Int) : ∀ n, sm (fun i => c * f i) n = c * sm f n
 | 0 => by simp [sm]
 | n + 1 => by simp only [sm]; rw [qFk c f n, Int.mul_add]
theorem qGz {p : Int} {f : Nat → Int} : ∀ n, (∀ i, i < n → p ∣ f i) → p ∣ sm f n
 | 0, _ => yn_ p
 | n + 1, h => yq_ (qGz n fun i hi => h i oM_) (h n oM_)
theorem sm_sub (f g : Nat → Int) (n : Nat) : sm (fun i => f i - g i) n = sm f n - sm g n := by
 have h := qG0 f (fun i => -1 * g i) n
 rw [qFk] at h
 rw [show (fun i => f i - g i) = fun i => f i + -1 * g i by funext i; omega, h]; omega
theorem qFj : ∀ n, sm (fun _ => 0) n = 0
 | 0 => rfl
 | n + 1 => by simp only [sm]; rw [qFj n]; rfl
theorem qCw {f : Nat → Int} {p : Int} (i0 : Nat) : ∀ n, i0 < n → (∀ i, i < n → i ≠ i0 → p ∣ f i) → p ∣ sm f n - f i0
 | 0, h, _ => by omega
 | n + 1, h, hz => by
  simp only [sm]
  rcases Nat.lt_or_ge i0 n with hl | hg
  ·have := yq_ (qCw i0 n hl (fun i hi => hz i oM_)) (hz n oM_ oM_)
   rwa [show sm f n - f i0 + f n = sm f n + f n - f i0 by omega] at this
  ·have : i0 = n := by omega
   subst this
   have := qGz (p := p) (f := f) i0 (fun i hi => hz i oM_ oM_)
   rwa [show sm f i0 + f i0 - f i0 = sm f i0 by omega]
theorem qJw (f : Nat → Nat → Int) (m : Nat) : ∀ n, sm (fun i => sm (fun j => f i j) m) n = sm (fun j => sm (fun i => f i j) n) m
 | 0 => by simp only [sm]; rw [qFj]
 | n + 1 => by
  simp only [sm]
  rw [qJw f m n, ← qG0]
def dt (n : Nat) (v w : Vec) : Int := sm (fun i => v i * w i) n
theorem qD5 (n : Nat) (v w : Vec) : dt n v w = dt n w v := qBl n fun i _ => Int.mul_comm _ _
theorem qMi (n : Nat) (v w x : Vec) : dt n (fun i => v i + w i) x = dt n v x + dt n w x := by
 unfold dt; rw [← qG0]; exact qBl n fun i _ => Int.add_mul _ _ _
theorem qMh (n : Nat) (c : Int) (v x : Vec) : dt n (fun i => c * v i) x = c * dt n v x := by
 unfold dt; rw [← qFk]; exact qBl n fun i _ => Int.mul_assoc _ _ _
theorem qO8 {p : Int} {n : Nat} {v : Vec} (x : Vec) (h : Zr p n v) : p ∣ dt n v x := qGz n fun i hi => Int.dvd_mul_of_dvd_left (h i hi)
def Perp (p : Int) (n : Nat) (S : Vec → Prop) (v : Vec) : Prop := ∀ s, S s → p ∣ dt n v s
theorem qHz (p : Int) (n : Nat) (S : Vec → Prop) : Sub p n (Perp p n S) where
 zero v hv s _ := qO8 s hv
 add v w h h' s hs := by rw [qMi]; exact yq_ (h s hs) (h' s hs)
 smul c v h s hs := by rw [qMh]; exact qAw c (h s hs)
theorem qI3 (p : Int) (n : Nat) (v : Vec) : Sub p n (fun s => p ∣ dt n v s) where
 zero w hw := by rw [qD5]; exact qO8 v hw
 add s t h h' := by rw [qD5, qMi, qD5 n s, qD5 n t]; exact yq_ h h'
 smul c s h := by rw [qD5, qMh, qD5 n s]; exact qAw c h
theorem qFu {p : Int} {n : Nat} (L : List Vec) (v : Vec) : Perp p n (Span p n L) v ↔ ∀ x, x ∈ L → p ∣ dt n v x :=
 ⟨fun h x hx => h x (qA3 hx), fun h s hs => qA9 (qI3 p n v) h hs⟩
structure Rref (p : Int) (n r : Nat) (R : Nat → Vec) (q : Nat → Nat) : Prop where
 lt : ∀ i, i < r → q i < n
 mono : ∀ i j, i < j → j < r → q i < q j
 one : ∀ i, i < r → p ∣ R i (q i) - 1
 off : ∀ i j, i < r → j < r → i ≠ j → p ∣ R i (q j)
 pre : ∀ i c, i < r → c < q i → p ∣ R i c
def rows (R : Nat → Vec) (r : Nat) : List Vec := (List.range r).map R
theorem qBp {R : Nat → Vec} {r i : Nat} (h : i < r) : R i ∈ rows R r := List.mem_map_of_mem (yc_.2 h)
theorem qB3 {R : Nat → Vec} {r : Nat} {x : Vec} (h : x ∈ rows R r) : ∃ i, i < r ∧ R i = x := by
 obtain ⟨i, hi, he⟩ := ys_.1 h
 exact ⟨i, yc_.1 hi, he⟩
def comb (R : Nat → Vec) (r : Nat) (c : Nat → Int) : Vec := fun j => sm (fun i => c i * R i j) r
theorem qJh {p : Int} {n : Nat} {S : Vec → Prop} (hS : Sub p n S) (R : Nat → Vec) (c : Nat → Int) : ∀ r, (∀ i, i < r → S (R i)) → S (comb R r c)
 | 0, _ => hS.zero _ (fun _ _ => yn_ p)
 | r + 1, h => hS.add _ _ (qJh hS R c r (fun i hi => h i oM_)) (hS.smul (c r) _ (h r oM_))
theorem qFi {p : Int} {n : Nat} (R : Nat → Vec) (r : Nat) (v : Vec) : Span p n (rows R r) v ↔ ∃ c, ∀ j, j < n → p ∣ v j - comb R r c j := by
 constructor
 ·refine qA9 (T := fun v => ∃ c, ∀ j, j < n → p ∣ v j - comb R r c j) ⟨?_, ?_, ?_⟩ (fun x hx => ?_)
  ·intro v hv
   refine ⟨fun _ => 0, fun j hj => ?_⟩
   have e : comb R r (fun _ => 0) j = 0 := by
    unfold comb; rw [qBl (g := fun _ => 0) r (fun i _ => Int.zero_mul _), qFj]
   rw [e, Int.sub_zero]; exact hv j hj
  ·rintro v w ⟨c, hc⟩ ⟨d, hd⟩
   refine ⟨fun i => c i + d i, fun j hj => ?_⟩
   have e : comb R r (fun i => c i + d i) j = comb R r c j + comb R r d j := by
    unfold comb; rw [← qG0]; exact qBl r fun i _ => Int.add_mul _ _ _
   have := yq_ (hc j hj) (hd j hj)
   rwa [show v j - comb R r c j + (w j - comb R r d j) = v j + w j - (comb R r c j + comb R r d j) by omega, ← e] at this
  ·rintro a v ⟨c, hc⟩
   refine ⟨fun i => a * c i, fun j hj => ?_⟩
   have e : comb R r (fun i => a * c i) j = a * comb R r c j := by
    unfold comb; rw [← qFk]; exact qBl r fun i _ => Int.mul_assoc _ _ _
   have := qAw a (hc j hj)
   rwa [Int.mul_sub, ← e] at this
  ·obtain ⟨i0, hi0, rfl⟩ := qB3 hx
   refine ⟨fun i => if i = i0 then 1 else 0, fun j hj => ?_⟩
   have := qCw (p := p) (f := fun i => (if i = i0 then 1 else 0) * R i j) i0 r hi0 (fun i _ hne => by simp [hne])
   simp only [if_pos, Int.one_mul] at this
   have := Int.dvd_neg.2 this
   rwa [Int.neg_sub] at this
 ·rintro ⟨c, hc⟩
  exact (qAs p n _).congr (qJh (qAs p n _) R c r (fun i hi => qA3 (qBp hi))) hc
theorem Rref.coef {p : Int} {n r : Nat} {R : Nat → Vec} {q : Nat → Nat} (h : Rref p n r R q) {v : Vec} (hv : Span p n (rows R r) v) (j : Nat) (hj : j < n) : p ∣ v j - comb R r (fun i => v (q i)) j := by
 obtain ⟨c, hc⟩ := (qFi R r v).1 hv
 have e : ∀ i, i < r → p ∣ v (q i) - c i := fun i hi => by
  have h1 := hc (q i) (h.lt i hi)
  have h2 := qCw (p := p) (f := fun k => c k * R k (q i)) i r hi (fun k hk hne => qAw _ (h.off k i hk hi hne))
  have h3 := qAw (c i) (h.one i hi)
  have := yq_ h1 (yq_ h2 h3)
  have e : v (q i) - comb R r c (q i) + (sm (fun k => c k * R k (q i)) r - c i * R i (q i) + c i * (R i (q i) - 1)) = v (q i) - c i := by
   unfold comb; grind
  rwa [e] at this
 have h4 : p ∣ comb R r c j - comb R r (fun i => v (q i)) j := by
  unfold comb
  rw [← sm_sub]
  refine qGz r fun i hi => ?_
  have := qAw (R i j) (e i hi)
  have := Int.dvd_neg.2 this
  have e2 : -(R i j * (v (q i) - c i)) = c i * R i j - v (q i) * R i j := by grind
  rwa [e2] at this
 have := yq_ (hc j hj) h4
 rwa [show v j - comb R r c j + (comb R r c j - comb R r (fun i => v (q i)) j) = v j - comb R r (fun i => v (q i)) j by omega] at this
theorem Rref.zero {p : Int} {n r : Nat} {R : Nat → Vec} {q : Nat → Nat} (h : Rref p n r R q) {v : Vec} (hv : Span p n (rows R r) v) (hz : ∀ i, i < r → p ∣ v (q i)) : Zr p n v := fun j hj => by
 have h1 := h.coef hv j hj
 have h2 : p ∣ comb R r (fun i => v (q i)) j := qGz r fun i hi => Int.dvd_mul_of_dvd_left (hz i hi)
 have := yq_ h1 h2
 rwa [Int.sub_add_cancel] at this
theorem Rref.pl {p : Int} {n r : Nat} {R : Nat → Vec} {q : Nat → Nat} (hp : Pr p) (h : Rref p n r R q) (c : Nat) : Pl p n (Span p n (rows R r)) c ↔ ∃ i, i < r ∧ q i = c := by
 constructor
 ·rintro ⟨v, hv, hl⟩
  -- the first i with v (q i) not zero
  have hex : ∃ i, i < r ∧ ¬ p ∣ v (q i) := Classical.byContradiction fun hc => by
   refine ld_nz hl (h.zero hv fun i hi => Classical.byContradiction fun hd => hc ⟨i, hi, hd⟩)
  obtain ⟨i, ⟨hi, hni⟩, hmin⟩ := qN5 hex
  refine ⟨i, hi, ?_⟩
  have hsm : ∀ c, c < q i → p ∣ v c := fun c hc => by
   have h1 := h.coef hv c (by have := h.lt i hi; omega)
   have h2 : p ∣ comb R r (fun i => v (q i)) c := qGz r fun k hk => by
    rcases Nat.lt_or_ge k i with hki | hki
    ·exact Int.dvd_mul_of_dvd_left (Classical.byContradiction fun hd => hmin k hki ⟨hk, hd⟩)
    ·refine qAw _ (h.pre k c hk ?_)
     rcases Nat.eq_or_lt_of_le hki with rfl | hlt
     ·exact hc
     ·have := h.mono i k hlt hk; omega
   have := yq_ h1 h2
   rwa [Int.sub_add_cancel] at this
  rcases yh_ (q i) c with h1 | h1 | h1
  ·exact absurd (hl.2.2 _ h1) hni
  ·exact h1
  ·exact absurd (hsm c h1) hl.2.1
 ·rintro ⟨i, hi, rfl⟩
  refine ⟨R i, qA3 (qBp hi), h.lt i hi, fun hd => hp.1 ?_, fun j hj => h.pre i j hi hj⟩
  have := yr_ hd (h.one i hi)
  rwa [show R i (q i) - (R i (q i) - 1) = 1 by omega] at this
theorem Rref.indep {p : Int} {n r : Nat} {R : Nat → Vec} {q : Nat → Nat} (hp : Pr p) (h : Rref p n r R q) : dim p n (Span p n (rows R r)) = r := by
 have main : ∀ k, k ≤ r → cnt (fun c => ∃ i, i < k ∧ q i = c) n = k := by
  intro k
  induction k with
  | zero => intro _; exact qH9 _ n (fun c _ ⟨i, hi, _⟩ => by omega)
  | succ k ih =>
   intro hk
   rw [qEv (Q := fun c => ∃ i, i < k ∧ q i = c) (q k) n (h.lt k oM_) (fun ⟨i, hi, he⟩ => by have := h.mono i k hi oM_; omega) (fun c _ => ⟨?_, ?_⟩), ih oM_]
   ·rintro ⟨i, hi, he⟩
    rcases Nat.lt_or_ge i k with hl | hg
    ·exact .inl ⟨i, hl, he⟩
    ·have : i = k := by omega
     subst this; exact .inr he.symm
   ·rintro (⟨i, hi, he⟩ | he)
    ·exact ⟨i, by omega, he⟩
    ·exact ⟨k, by omega, he.symm⟩
 unfold dim
 rw [qEl n (fun c _ => h.pl hp c)]
 exact main r (Nat.le_refl _)
theorem Rref.unique {p : Int} {n r r' : Nat} {R R' : Nat → Vec} {q q' : Nat → Nat} (hp : Pr p) (h : Rref p n r R q) (h' : Rref p n r' R' q') (hs : ∀ v, Span p n (rows R r) v ↔ Span p n (rows R' r') v) :
  r = r' ∧ ∀ i, i < r → q i = q' i ∧ ∀ j, j < n → p ∣ R i j - R' i j := by
 have hr : r = r' := by rw [← h.indep hp, ← h'.indep hp]; exact qBa hs
 subst hr
 have hpl : ∀ c, (∃ i, i < r ∧ q i = c) ↔ ∃ i, i < r ∧ q' i = c := fun c => by
  rw [← h.pl hp c, ← h'.pl hp c]
  exact ⟨fun ⟨v, h1, h2⟩ => ⟨v, (hs v).1 h1, h2⟩, fun ⟨v, h1, h2⟩ => ⟨v, (hs v).2 h1, h2⟩⟩
 have hq : ∀ i, i < r → q i = q' i := by
  intro i
  induction i using Nat.strongRecOn with
  | _ i ih =>
   intro hi
   obtain ⟨j, hj, e1⟩ := (hpl (q i)).1 ⟨i, hi, rfl⟩
   obtain ⟨k, hk, e2⟩ := (hpl (q' i)).2 ⟨i, hi, rfl⟩
   rcases yh_ i j with hl | he | hl
   ·-- q' i < q' j = q i; k must be < i
    have h1 := h'.mono i j hl hj
    rcases yh_ k i with hk' | hk' | hk'
    ·have := ih k hk' hk; have := h'.mono k i hk' hi; omega
    ·subst hk'; omega
    ·have := h.mono i k hk' hk; omega
   ·subst he; omega
   ·have := ih j hl hj; have := h.mono j i hl hi; omega
 refine ⟨rfl, fun i hi => ⟨hq i hi, fun j hj => ?_⟩⟩
 have hd : Span p n (rows R r) (fun j => R i j - R' i j) := (qAs p n _).sub (qA3 (qBp hi)) ((hs _).2 (qA3 (qBp hi)))
 refine h.zero hd (fun k hk => ?_) j hj
 by_cases e : i = k
 ·subst e
  have h1 := h.one i hi
  have h2 := h'.one i hi
  rw [← hq i hi] at h2
  have := yr_ h1 h2
  rwa [show R i (q i) - 1 - (R' i (q i) - 1) = R i (q i) - R' i (q i) by omega] at this
 ·have h1 := h.off i k hi hk e
  have h2 := h'.off i k hi hk e
  rw [← hq k hk] at h2
  exact yr_ h1 h2
def qDh (n : Nat) (R : Nat → Vec) (v : Vec) : Vec := fun i => dt n v (R i)
theorem qFo (p : Int) (n r : Nat) (R : Nat → Vec) : Lmap p n r (qDh n R) where
 zr v hv i _ := qO8 (R i) hv
 add v w j _ := by unfold qDh; rw [qMi]; simp
 smul c v j _ := by unfold qDh; rw [qMh]; simp
theorem qDv {p : Int} {n r : Nat} {R : Nat → Vec} (v : Vec) : Ker p r (qDh n R) v ↔ Perp p n (Span p n (rows R r)) v := by
 rw [qFu]
 constructor
 ·intro h x hx
  obtain ⟨i, hi, rfl⟩ := qB3 hx
  exact h i hi
 ·intro h i hi
  exact h _ (qBp hi)
def qJs (c : Nat) : Vec := fun j => if j = c then 1 else 0
theorem qO9 {p : Int} {n : Nat} (c : Nat) (hc : c < n) (v : Vec) : dt n (qJs c) v = v c := by
 have main : ∀ m, dt m (qJs c) v = if c < m then v c else 0 := by
  intro m
  induction m with
  | zero => simp [dt, sm]
  | succ m ih =>
   unfold dt at ih ⊢
   simp only [sm, ih]
   have e : qJs c m = if m = c then 1 else 0 := rfl
   rw [e]
   by_cases h1 : c < m
   ·rw [if_pos h1, if_neg (show ¬ m = c by omega), if_pos (show c < m + 1 by omega)]; simp
   ·by_cases h2 : m = c
    ·subst h2; simp
    ·rw [if_neg h1, if_neg h2, if_neg (show ¬ c < m + 1 by omega)]; simp
 rw [main, if_pos hc]
theorem Rref.dim_perp {p : Int} {n r : Nat} {R : Nat → Vec} {q : Nat → Nat} (hp : Pr p) (h : Rref p n r R q) : dim p n (Perp p n (Span p n (rows R r))) + r = n := by
 have h1 := qE1 hp (qFo p n r R) (qM0 p n)
 have h2 : dim p r (Img p r (qDh n R) All) = r := by
  have : ∀ y, Img p r (qDh n R) All y ↔ All y := fun y => ⟨fun _ => trivial, fun _ => by
   refine ⟨fun c => sm (fun i => y i * qJs (q i) c) r, trivial, fun j hj => ?_⟩
   have e : qDh n R (fun c => sm (fun i => y i * qJs (q i) c) r) j = sm (fun i => y i * R j (q i)) r := by
    unfold qDh dt
    have e1 : ∀ c, c < n → sm (fun i => y i * qJs (q i) c) r * R j c = sm (fun i => y i * (qJs (q i) c * R j c)) r := fun c _ => by
     rw [Int.mul_comm, ← qFk]
     exact qBl r fun i _ => by grind
    rw [qBl n e1, qJw]
    refine qBl r fun i hi => ?_
    rw [qFk]
    have := qO9 (p := p) (n := n) (q i) (h.lt i hi) (R j)
    unfold dt at this
    rw [this]
   rw [e]
   have h3 := qCw (p := p) (f := fun i => y i * R j (q i)) j r hj (fun k hk hne => qAw _ (h.off j k hj hk (Ne.symm hne)))
   have h4 := qAw (y j) (h.one j hj)
   have := Int.dvd_neg.2 (yq_ h3 h4)
   have e2 : -(sm (fun i => y i * R j (q i)) r - y j * R j (q j) + y j * (R j (q j) - 1)) = y j - sm (fun i => y i * R j (q i)) r := by grind
   rwa [e2] at this⟩
  rw [qBa this, qKb hp r]
 rw [qKb hp n, h2] at h1
 have h3 : dim p n (qPk All (Ker p r (qDh n R))) = dim p n (Perp p n (Span p n (rows R r))) := qBa fun v => ⟨fun h => (qDv v).1 h.2, fun h => ⟨trivial, (qDv v).2 h⟩⟩
 omega
structure GInv (p : Int) (n m c r : Nat) (R : Nat → Vec) (q : Nat → Nat) : Prop where
 rm : r ≤ m
 lt : ∀ i, i < r → q i < c
 mono : ∀ i j, i < j → j < r → q i < q j
 one : ∀ i, i < r → p ∣ R i (q i) - 1
 off : ∀ i j, i < r → j < m → j ≠ i → p ∣ R j (q i)
 pre : ∀ i k, i < r → k < q i → p ∣ R i k
 low : ∀ i k, r ≤ i → i < m → k < c → p ∣ R i k
theorem GInv.start (p : Int) (n m : Nat) (R : Nat → Vec) (q : Nat → Nat) : GInv p n m 0 0 R q :=
 ⟨Nat.zero_le _, fun i h => by omega, fun i j _ h => by omega, fun i h => by omega, fun i j h => by omega, fun i k h => by omega, fun i k _ _ h => by omega⟩
theorem GInv.none {p : Int} {n m c r : Nat} {R : Nat → Vec} {q : Nat → Nat} (h : GInv p n m c r R q) (hz : ∀ i, r ≤ i → i < m → p ∣ R i c) : GInv p n m (c + 1) r R q :=
 ⟨h.rm, fun i hi => by have := h.lt i hi; omega, h.mono, h.one, h.off, h.pre, fun i k h1 h2 h3 => by
  rcases Nat.lt_or_ge k c with hl | hg
  ·exact h.low i k h1 h2 hl
  ·have : k = c := by omega
   subst this; exact hz i h1 h2⟩
theorem GInv.swap {p : Int} {n m c r : Nat} {R R1 : Nat → Vec} {q : Nat → Nat} (h : GInv p n m c r R q) {a : Nat} (ha : r ≤ a) (ham : a < m) (e1 : ∀ j, R1 r j = R a j) (e2 : ∀ j, R1 a j = R r j) (e3 : ∀ i j, i < m → i ≠ r → i ≠ a → R1 i j = R i j) : GInv p n m c r R1 q := by
 have e : ∀ i, i < m → ∃ k, k < m ∧ (r ≤ i → r ≤ k) ∧ (i < r → k = i) ∧ ∀ j, R1 i j = R k j := fun i hi => by
  by_cases h1 : i = r
  ·subst h1; exact ⟨a, ham, fun _ => ha, fun hh => by omega, e1⟩
  ·by_cases h2 : i = a
   ·subst h2; exact ⟨r, by omega, fun _ => Nat.le_refl _, fun hh => by omega, e2⟩
   ·exact ⟨i, hi, fun hh => hh, fun _ => rfl, fun j => e3 i j hi h1 h2⟩
 refine ⟨h.rm, h.lt, h.mono, fun i hi => ?_, fun i j hi hj hne => ?_, fun i k hi hk => ?_, fun i k h1 h2 h3 => ?_⟩
 ·obtain ⟨k, _, _, hk, he⟩ := e i oM_
  rw [he, hk hi]; exact h.one i hi
 ·obtain ⟨k, hkm, hkr, hk, he⟩ := e j hj
  rw [he]
  refine h.off i k hi hkm ?_
  rcases Nat.lt_or_ge j r with hl | hg
  ·rw [hk hl]; exact hne
  ·have := hkr hg; omega
 ·obtain ⟨k', _, _, hk', he⟩ := e i oM_
  rw [he, hk' hi]; exact h.pre i k hi hk
 ·obtain ⟨k', hkm, hkr, _, he⟩ := e i h2
  rw [he]; exact h.low k' k (hkr h1) hkm h3
theorem GInv.step {p : Int} {n m c r : Nat} {R R' : Nat → Vec} {q q' : Nat → Nat} (h : GInv p n m c r R q) (hrm : r < m) {b : Int} (hb : p ∣ R r c * b - 1)
  (e1 : ∀ j, j ≤ c → p ∣ R' r j - b * R r j) (e2 : ∀ i j, i < m → i ≠ r → j ≤ c → p ∣ R' i j - (R i j - R i c * R' r j)) (hq : ∀ i, i < r → q' i = q i) (hqr : q' r = c) : GInv p n m (c + 1) (r + 1) R' q' := by
 have top0 : ∀ k, k < c → p ∣ R' r k := fun k hk => by
  have := yq_ (e1 k oM_) (qAw b (h.low r k (Nat.le_refl _) hrm hk))
  rwa [Int.sub_add_cancel] at this
 have top1 : p ∣ R' r c - 1 := by
  have := yq_ (e1 c (Nat.le_refl _)) hb
  rwa [show R' r c - b * R r c + (R r c * b - 1) = R' r c - 1 by grind] at this
 have same : ∀ i k, i < m → i ≠ r → k < c → p ∣ R' i k - R i k := fun i k hi hne hk => by
  have := yr_ (e2 i k hi hne oM_) (qAw (R i c) (top0 k hk))
  rwa [show R' i k - (R i k - R i c * R' r k) - R i c * R' r k = R' i k - R i k by omega] at this
 have clr : ∀ i, i < m → i ≠ r → p ∣ R' i c := fun i hi hne => by
  have := yr_ (e2 i c hi hne (Nat.le_refl _)) (qAw (R i c) top1)
  rwa [show R' i c - (R i c - R i c * R' r c) - R i c * (R' r c - 1) = R' i c by grind] at this
 refine ⟨by omega, fun i hi => ?_, fun i j hij hj => ?_, fun i hi => ?_, fun i j hi hj hne => ?_, fun i k hi hk => ?_, fun i k h1 h2 h3 => ?_⟩
 ·rcases Nat.lt_or_ge i r with hl | hg
  ·rw [hq i hl]; have := h.lt i hl; omega
  ·have : i = r := by omega
   subst this; omega
 ·rcases Nat.lt_or_ge j r with hl | hg
  ·rw [hq i oM_, hq j hl]; exact h.mono i j hij hl
  ·have : j = r := by omega
   subst this; rw [hq i hij, hqr]; exact h.lt i hij
 ·rcases Nat.lt_or_ge i r with hl | hg
  ·rw [hq i hl]
   have := yq_ (same i (q i) oM_ oM_ (h.lt i hl)) (h.one i hl)
   rwa [show R' i (q i) - R i (q i) + (R i (q i) - 1) = R' i (q i) - 1 by omega] at this
  ·have : i = r := by omega
   subst this; rw [hqr]; exact top1
 ·rcases Nat.lt_or_ge i r with hl | hg
  ·rw [hq i hl]
   by_cases hj' : j = r
   ·subst hj'; exact top0 _ (h.lt i hl)
   ·have := yq_ (same j (q i) hj hj' (h.lt i hl)) (h.off i j hl hj hne)
    rwa [Int.sub_add_cancel] at this
  ·have : i = r := by omega
   subst this; rw [hqr]; exact clr j hj hne
 ·rcases Nat.lt_or_ge i r with hl | hg
  ·rw [hq i hl] at hk
   have := h.lt i hl
   have := yq_ (same i k oM_ oM_ oM_) (h.pre i k hl hk)
   rwa [Int.sub_add_cancel] at this
  ·have : i = r := by omega
   subst this; rw [hqr] at hk; exact top0 k hk
 ·rcases Nat.lt_or_ge k c with hl | hg
  ·have := yq_ (same i k h2 oM_ hl) (h.low i k oM_ h2 hl)
   rwa [Int.sub_add_cancel] at this
  ·have : k = c := by omega
   subst this; exact clr i h2 oM_
theorem GInv.rref {p : Int} {n m r : Nat} {R : Nat → Vec} {q : Nat → Nat} (h : GInv p n m n r R q) : Rref p n r R q :=
 ⟨h.lt, h.mono, h.one, fun i j hi hj hne => h.off j i hj (by have := h.rm; omega) hne, h.pre⟩
theorem GInv.span {p : Int} {n m r : Nat} {R : Nat → Vec} {q : Nat → Nat} (h : GInv p n m n r R q) (v : Vec) : Span p n (rows R m) v ↔ Span p n (rows R r) v := by
 constructor
 ·refine qBs (fun x hx => ?_)
  obtain ⟨i, hi, rfl⟩ := qB3 hx
  rcases Nat.lt_or_ge i r with hl | hg
  ·exact qA3 (qBp hl)
  ·exact (qAs p n _).zero _ (fun k hk => h.low i k hg hi hk)
 ·refine qBs (fun x hx => ?_)
  obtain ⟨i, hi, rfl⟩ := qB3 hx
  exact qA3 (qBp (by have := h.rm; omega))
theorem qLn {p : Int} {n m r : Nat} {R R' : Nat → Vec} (hrm : r < m) {a b : Int} (c : Nat → Int) (hb : p ∣ a * b - 1)
  (e1 : ∀ j, j < n → p ∣ R' r j - b * R r j) (e2 : ∀ i j, i < m → i ≠ r → j < n → p ∣ R' i j - (R i j - c i * R' r j)) (v : Vec) : Span p n (rows R' m) v ↔ Span p n (rows R m) v := by
 have sub := qAs p n (rows R m)
 have sub' := qAs p n (rows R' m)
 have htop : Span p n (rows R m) (R' r) := sub.congr (sub.smul b _ (qA3 (qBp hrm))) e1
 constructor
 ·refine qBs (fun x hx => ?_)
  obtain ⟨i, hi, rfl⟩ := qB3 hx
  by_cases h : i = r
  ·subst h; exact htop
  ·exact sub.congr (sub.sub (qA3 (qBp hi)) (sub.smul (c i) _ htop)) (fun j hj => e2 i j hi h hj)
 ·refine qBs (fun x hx => ?_)
  obtain ⟨i, hi, rfl⟩ := qB3 hx
  by_cases h : i = r
  ·subst h
   refine sub'.congr (sub'.smul a _ (qA3 (qBp hi))) (fun j hj => ?_)
   have h1 := qAw a (e1 j hj)
   have h2 := qAw (R i j) hb
   have := Int.dvd_neg.2 (yq_ h1 h2)
   rwa [show -(a * (R' i j - b * R i j) + R i j * (a * b - 1)) = R i j - a * R' i j by grind] at this
  ·refine sub'.congr (sub'.add _ _ (qA3 (qBp hi)) (sub'.smul (c i) _ (qA3 (qBp hrm)))) (fun j hj => ?_)
   have := Int.dvd_neg.2 (e2 i j hi h hj)
   rwa [show -(R' i j - (R i j - c i * R' r j)) = R i j - (R' i j + c i * R' r j) by omega] at this
theorem qEa {p : Int} {n m : Nat} {R R' : Nat → Vec} (h : ∀ i, i < m → ∃ k, k < m ∧ ∀ j, j < n → p ∣ R' i j - R k j) (h' : ∀ i, i < m → ∃ k, k < m ∧ ∀ j, j < n → p ∣ R i j - R' k j) (v : Vec) : Span p n (rows R' m) v ↔ Span p n (rows R m) v := by
 constructor
 ·refine qBs (fun x hx => ?_)
  obtain ⟨i, hi, rfl⟩ := qB3 hx
  obtain ⟨k, hk, he⟩ := h i hi
  exact (qAs p n _).congr (qA3 (qBp hk)) he
 ·refine qBs (fun x hx => ?_)
  obtain ⟨i, hi, rfl⟩ := qB3 hx
  obtain ⟨k, hk, he⟩ := h' i hi
  exact (qAs p n _).congr (qA3 (qBp hk)) he
structure KerVec (p : Int) (n r : Nat) (R : Nat → Vec) (q : Nat → Nat) (c : Nat) (x : Vec) : Prop where
 one : p ∣ x c - 1
 piv : ∀ i, i < r → p ∣ x (q i) + R i c
 oth : ∀ j, j < n → j ≠ c → (∀ i, i < r → q i ≠ j) → p ∣ x j
theorem Rref.perp_iff {p : Int} {n r : Nat} {R : Nat → Vec} {q : Nat → Nat} (h : Rref p n r R q) (v : Vec) : Perp p n (Span p n (rows R r)) v ↔ ∀ i, i < r → p ∣ dt n v (R i) := by
 rw [qFu]
 constructor
 ·exact fun h' i hi => h' _ (qBp hi)
 ·intro h' x hx
  obtain ⟨i, hi, rfl⟩ := qB3 hx
  exact h' i hi
theorem sm_two {f : Nat → Int} {p : Int} (a b : Nat) (hab : a ≠ b) : ∀ n, a < n → b < n → (∀ i, i < n → i ≠ a → i ≠ b → p ∣ f i) → p ∣ sm f n - (f a + f b) := by
 intro n ha hb hz
 have h1 := qCw (p := p) (f := fun i => if i = a then 0 else f i) b n hb (fun i hi hne => by
  by_cases h : i = a
  ·simp only [if_pos h]; exact yn_ p
  ·simp only [if_neg h]; exact hz i hi h hne)
 have h2 := qCw (p := p) (f := fun i => if i = a then f i else 0) a n ha (fun i hi hne => by
  simp only [if_neg hne]; exact yn_ p)
 have e : sm f n = sm (fun i => if i = a then 0 else f i) n + sm (fun i => if i = a then f i else 0) n := by
  rw [← qG0]; exact qBl n fun i _ => by split <;> omega
 have := yq_ h1 h2
 simp only [if_neg (Ne.symm hab), if_pos] at this
 rw [e]
 rwa [show sm (fun i => if i = a then 0 else f i) n - f b + (sm (fun i => if i = a then f i else 0) n - f a) = sm (fun i => if i = a then 0 else f i) n + sm (fun i => if i = a then f i else 0) n - (f a + f b) by omega] at this
theorem KerVec.perp {p : Int} {n r : Nat} {R : Nat → Vec} {q : Nat → Nat} (h : Rref p n r R q) {c : Nat} (hc : c < n) (hf : ∀ i, i < r → q i ≠ c) {x : Vec} (hx : KerVec p n r R q c x) : Perp p n (Span p n (rows R r)) x := by
 rw [h.perp_iff]
 intro i hi
 have h1 := sm_two (p := p) (f := fun j => x j * R i j) c (q i) (Ne.symm (hf i hi)) n hc (h.lt i hi) (fun j hj h1 h2 => by
  by_cases h3 : ∃ k, k < r ∧ q k = j
  ·obtain ⟨k, hk, rfl⟩ := h3
   exact qAw _ (h.off i k hi hk (fun e => by subst e; exact h2 rfl))
  ·exact Int.dvd_mul_of_dvd_left (hx.oth j hj h1 (fun k hk e => h3 ⟨k, hk, e⟩)))
 have h2 := qAw (R i c) hx.one
 have h3 := qAw (R i (q i)) (hx.piv i hi)
 have h4 := qAw (R i c) (h.one i hi)
 have := yr_ (yq_ h1 (yq_ h2 h3)) h4
 unfold dt
 rwa [show sm (fun j => x j * R i j) n - (x c * R i c + x (q i) * R i (q i)) + (R i c * (x c - 1) + R i (q i) * (x (q i) + R i c)) - R i c * (R i (q i) - 1) = sm (fun j => x j * R i j) n by grind] at this
theorem qF1 {p : Int} {n r : Nat} {R : Nat → Vec} {q : Nat → Nat} (hp : Pr p) : ∀ (F : List Nat) (X : Nat → Vec), (∀ c, c ∈ F → c < n ∧ (∀ i, i < r → q i ≠ c) ∧ KerVec p n r R q c (X c)) → F.Nodup → qIh p n (F.map X)
 | [], _, _, _ => trivial
 | c :: F, X, h, hn => by
  have hc := h c List.mem_cons_self
  have hcF : c ∉ F := (List.nodup_cons.1 hn).1
  refine ⟨fun hs => hp.1 ?_, qF1 hp F X (fun d hd => h d (List.mem_cons_of_mem _ hd)) (List.nodup_cons.1 hn).2⟩
  have hT : Sub p n (fun v => p ∣ v c) := ⟨fun v hv => hv c hc.1, fun v w h1 h2 => yq_ h1 h2, fun a v h1 => qAw a h1⟩
  have h0 : p ∣ X c c := qA9 hT (fun x hx => by
   obtain ⟨d, hd, rfl⟩ := ys_.1 hx
   have hd' := h d (List.mem_cons_of_mem _ hd)
   exact hd'.2.2.oth c hc.1 (fun e => hcF (by rw [e]; exact hd)) hc.2.1) hs
  have := yr_ h0 hc.2.2.one
  rwa [show X c c - (X c c - 1) = 1 by omega] at this
theorem qNo {p : Int} {n r : Nat} {R : Nat → Vec} {q : Nat → Nat} (hp : Pr p) (h : Rref p n r R q) (F : List Nat) (X : Nat → Vec) (hF : ∀ c, c ∈ F → c < n ∧ (∀ i, i < r → q i ≠ c) ∧ KerVec p n r R q c (X c)) (hn : F.Nodup) (hl : F.length + r = n) (v : Vec) :
  Span p n (F.map X) v ↔ Perp p n (Span p n (rows R r)) v := by
 have hle : ∀ v, Span p n (F.map X) v → Perp p n (Span p n (rows R r)) v := fun v => qA9 (qHz p n _) (fun x hx => by
  obtain ⟨c, hc, rfl⟩ := ys_.1 hx
  obtain ⟨h1, h2, h3⟩ := hF c hc
  exact h3.perp h h1 h2)
 refine ⟨hle v, qGx hp (qAs p n _) (qHz p n _) hle ?_ v⟩
 have h1 := qDq hp (qF1 hp F X hF hn)
 have h2 := h.dim_perp hp
 rw [List.length_map] at h1
 omega
theorem qLa {n r : Nat} {q : Nat → Nat} (lt : ∀ i, i < r → q i < n) (mono : ∀ i j, i < j → j < r → q i < q j) (f : Nat → Bool) (hf : ∀ c, c < n → (f c = true ↔ ∀ i, i < r → q i ≠ c)) : ((List.range n).filter f).length + r = n := by
 induction n generalizing r with
 | zero =>
  rcases Nat.eq_zero_or_pos r with h | h
  ·subst h; rfl
  ·have := lt 0 h; omega
 | succ n ih =>
  rw [List.range_succ, List.filter_append, yg_]
  by_cases hc : ∃ i, i < r ∧ q i = n
  ·obtain ⟨i, hi, he⟩ := hc
   have hir : i = r - 1 := by
    rcases Nat.lt_or_ge i (r - 1) with hl | hg
    ·have := mono i (r - 1) hl oM_; have := lt (r - 1) oM_; omega
    ·omega
   have hfn : f n = false := by
    cases hfn : f n with
    | false => rfl
    | true => exact absurd he ((hf n oM_).1 hfn i hi)
   have := ih (r := r - 1) (fun j hj => by have := mono j (r - 1) oM_ oM_; rw [← hir, he] at this; exact this) (fun a b hab hb => mono a b hab oM_) (fun c hcn => by
    rw [hf c oM_]
    constructor
    ·exact fun h j hj => h j oM_
    ·intro h j hj
     rcases Nat.lt_or_ge j (r - 1) with hl | hg
     ·exact h j hl
     ·have : j = i := by omega
      subst this; omega)
   simp only [List.filter_cons, hfn, List.filter_nil]
   simp only [Bool.false_eq_true, if_false, List.length_nil]
   omega
  ·have hfn : f n = true := (hf n oM_).2 (fun i hi he => hc ⟨i, hi, he⟩)
   have := ih (r := r) (fun j hj => by
    have h1 := lt j hj
    rcases Nat.lt_or_ge (q j) n with hl | hg
    ·exact hl
    ·exact absurd ⟨j, hj, by omega⟩ hc) mono (fun c hcn => hf c oM_)
   simp only [List.filter_cons, hfn, List.filter_nil]
   simp only [if_true, List.length_cons, List.length_nil]
   omega
end Go.Proofs.Ytpgjfppbbbnclaa.B.LinT
set_option linter.unusedVariables false
set_option linter.unusedSimpArgs false
namespace Go.Proofs.Ytpgjfppbbbnclaa.B.LinT
def isP (p : Nat) : Bool := decide (2 ≤ p) && decide (p ≤ 251) && (List.range 16).all fun d => decide (d < 2) || decide (p < d * d) || decide (p % d ≠ 0)
theorem qLb : ((List.range 252).all fun p => !isP p || (List.range p).all fun a => a == 0 || a * a ^ (p - 2) % p == 1) = true := by decide +kernel
theorem qBr {p : Nat} (h : isP p = true) : 2 ≤ p ∧ p ≤ 251 := by
 unfold isP at h
 rw [ye_, ye_, yf_, yf_] at h
 exact h.1
theorem fermat {p a : Nat} (h : isP p = true) (ha : a < p) (h0 : a ≠ 0) : a * a ^ (p - 2) % p = 1 := by
 have h1 := yo_.1 qLb p (yc_.2 (by have := qBr h; omega))
 rw [h] at h1
 have h2 : ∀ x, x < p → x = 0 ∨ x * x ^ (p - 2) % p = 1 := by simpa using h1
 exact (h2 a ha).resolve_left h0
theorem qJ5 {p a : Nat} (h : isP p = true) (ha : a < p) (h0 : a ≠ 0) : (p : Int) ∣ (a : Int) * ((a ^ (p - 2) % p : Nat) : Int) - 1 := by
 have h1 := fermat h ha h0
 have h2 : a * (a ^ (p - 2) % p) % p = 1 := by rw [Nat.mul_mod, Nat.mod_mod, ← Nat.mul_mod]; exact h1
 have h3 := Nat.div_add_mod (a * (a ^ (p - 2) % p)) p
 rw [h2] at h3
 refine ⟨((a * (a ^ (p - 2) % p) / p : Nat) : Int), ?_⟩
 have h4 : ((a * (a ^ (p - 2) % p) : Nat) : Int) = ((p * (a * (a ^ (p - 2) % p) / p) + 1 : Nat) : Int) := by rw [h3]
 rw [yi_, Int.natCast_add, yi_] at h4
 omega
theorem qGk {p : Nat} (h : isP p = true) : Pr (p : Int) := by
 have h2 := qBr h
 refine ⟨fun hd => ?_, fun a ha => ?_⟩
 ·have := Int.le_of_dvd (by decide) hd; omega
 ·have hm : a % (p : Int) ≠ 0 := fun he => ha (Int.dvd_of_emod_eq_zero he)
  have h3 := Int.emod_nonneg a (b := (p : Int)) oM_
  have h4 := Int.emod_lt_of_pos a (b := (p : Int)) oM_
  obtain ⟨n, hn⟩ := Int.eq_ofNat_of_zero_le h3
  have h5 := qJ5 (a := n) h oM_ oM_
  refine ⟨((n ^ (p - 2) % p : Nat) : Int), ?_⟩
  have h6 : (p : Int) ∣ a - (n : Int) := by rw [← hn]; exact Int.dvd_self_sub_emod
  have h7 := yq_ (show (p : Int) ∣ (a - (n : Int)) * ((n ^ (p - 2) % p : Nat) : Int) from Int.dvd_mul_of_dvd_left h6) h5
  rwa [show (a - (n : Int)) * ((n ^ (p - 2) % p : Nat) : Int) + ((n : Int) * ((n ^ (p - 2) % p : Nat) : Int) - 1) = a * ((n ^ (p - 2) % p : Nat) : Int) - 1 by grind] at h7
structure El (p : Int) (n m : Nat) (R0 : Nat → Vec) (c r : Nat) (R : Nat → Vec) (q : Nat → Nat) : Prop where
 g : GInv p n m c r R q
 sp : ∀ v, Span p n (rows R m) v ↔ Span p n (rows R0 m) v
 ge : ∀ i j, i < m → j < n → 0 ≤ R i j
 lt : ∀ i j, i < m → j < n → R i j < p
theorem El.start {p : Int} {n m : Nat} {R : Nat → Vec} (h0 : ∀ i j, i < m → j < n → 0 ≤ R i j) (h1 : ∀ i j, i < m → j < n → R i j < p) (q : Nat → Nat) : El p n m R 0 0 R q :=
 ⟨GInv.start p n m R q, fun _ => Iff.rfl, h0, h1⟩
theorem El.none {p : Int} {n m c r : Nat} {R0 R : Nat → Vec} {q : Nat → Nat} (h : El p n m R0 c r R q) (hz : ∀ i, r ≤ i → i < m → R i c = 0) : El p n m R0 (c + 1) r R q :=
 ⟨h.g.none fun i h1 h2 => by rw [hz i h1 h2]; exact yn_ p, h.sp, h.ge, h.lt⟩
theorem El.congr {p : Int} {n m c r : Nat} {R0 R R1 : Nat → Vec} {q : Nat → Nat} (h : El p n m R0 c r R q) (hc : c ≤ n) (e : ∀ i j, i < m → j < n → R1 i j = R i j) : El p n m R0 c r R1 q := by
 have hr := h.g.rm
 refine ⟨⟨h.g.rm, h.g.lt, h.g.mono, fun i hi => ?_, fun i j hi hj hne => ?_, fun i k hi hk => ?_, fun i k h1 h2 h3 => ?_⟩, fun v => ?_, fun i j hi hj => by rw [e i j hi hj]; exact h.ge i j hi hj, fun i j hi hj => by rw [e i j hi hj]; exact h.lt i j hi hj⟩
 ·have := h.g.lt i hi
  rw [e i _ oM_ oM_]; exact h.g.one i hi
 ·have := h.g.lt i hi
  rw [e j _ hj oM_]; exact h.g.off i j hi hj hne
 ·have := h.g.lt i hi
  rw [e i _ oM_ oM_]; exact h.g.pre i k hi hk
 ·rw [e i _ h2 oM_]; exact h.g.low i k h1 h2 h3
 ·rw [← h.sp v]
  exact qEa (fun i hi => ⟨i, hi, fun j hj => by rw [e i j hi hj, Int.sub_self]; exact yn_ p⟩) (fun i hi => ⟨i, hi, fun j hj => by rw [e i j hi hj, Int.sub_self]; exact yn_ p⟩) v
theorem El.swap {p : Int} {n m c r : Nat} {R0 R R1 : Nat → Vec} {q : Nat → Nat} (h : El p n m R0 c r R q) {a : Nat} (ha : r ≤ a) (ham : a < m) (e1 : ∀ j, R1 r j = R a j) (e2 : ∀ j, R1 a j = R r j) (e3 : ∀ i j, i < m → i ≠ r → i ≠ a → R1 i j = R i j) : El p n m R0 c r R1 q := by
 have e : ∀ i, i < m → ∃ k, k < m ∧ ∀ j, R1 i j = R k j := fun i hi => by
  by_cases h1 : i = r
  ·subst h1; exact ⟨a, ham, e1⟩
  ·by_cases h2 : i = a
   ·subst h2; exact ⟨r, by omega, e2⟩
   ·exact ⟨i, hi, fun j => e3 i j hi h1 h2⟩
 have e' : ∀ i, i < m → ∃ k, k < m ∧ ∀ j, R i j = R1 k j := fun i hi => by
  by_cases h1 : i = r
  ·subst h1; exact ⟨a, ham, fun j => (e2 j).symm⟩
  ·by_cases h2 : i = a
   ·subst h2; exact ⟨r, by omega, fun j => (e1 j).symm⟩
   ·exact ⟨i, hi, fun j => (e3 i j hi h1 h2).symm⟩
 refine ⟨h.g.swap ha ham e1 e2 e3, fun v => ?_, fun i j hi hj => ?_, fun i j hi hj => ?_⟩
 ·rw [← h.sp v]
  refine qEa (fun i hi => ?_) (fun i hi => ?_) v
  ·obtain ⟨k, hk, he⟩ := e i hi
   exact ⟨k, hk, fun j _ => by rw [he j, Int.sub_self]; exact yn_ p⟩
  ·obtain ⟨k, hk, he⟩ := e' i hi
   exact ⟨k, hk, fun j _ => by rw [he j, Int.sub_self]; exact yn_ p⟩
 ·obtain ⟨k, hk, he⟩ := e i hi
  rw [he]; exact h.ge k j hk hj
 ·obtain ⟨k, hk, he⟩ := e i hi
  rw [he]; exact h.lt k j hk hj
theorem El.congr0 {p : Int} {n m c r : Nat} {R0 R1 R : Nat → Vec} {q : Nat → Nat} (h : El p n m R0 c r R q) (e : ∀ i j, i < m → j < n → R1 i j = R0 i j) : El p n m R1 c r R q :=
 ⟨h.g, fun v => (h.sp v).trans (qEa (fun i hi => ⟨i, hi, fun j hj => by rw [e i j hi hj, Int.sub_self]; exact yn_ p⟩) (fun i hi => ⟨i, hi, fun j hj => by rw [e i j hi hj, Int.sub_self]; exact yn_ p⟩) v), h.ge, h.lt⟩
theorem El.swap' {p : Int} {n m c r : Nat} {R0 R R1 : Nat → Vec} {q : Nat → Nat} (h : El p n m R0 c r R q) (hc : c ≤ n) {a : Nat} (ha : r ≤ a) (ham : a < m) (e1 : ∀ j, j < n → R1 r j = R a j) (e2 : ∀ j, j < n → R1 a j = R r j) (e3 : ∀ i j, i < m → i ≠ r → i ≠ a → j < n → R1 i j = R i j) : El p n m R0 c r R1 q := by
 refine (h.swap (R1 := fun i j => if i = r then R a j else if i = a then R r j else R i j) ha ham (fun j => by simp) (fun j => ?_) (fun i j _ h1 h2 => by simp [h1, h2])).congr hc (fun i j hi hj => ?_)
 ·by_cases h1 : a = r
  ·subst h1; simp
  ·simp [h1]
 ·by_cases h1 : i = r
  ·subst h1; simp [e1 j hj]
  ·by_cases h2 : i = a
   ·subst h2; simp [h1, e2 j hj]
   ·simp [h1, h2, e3 i j hi h1 h2 hj]
theorem El.step {p : Int} {n m c r : Nat} {R0 R R' : Nat → Vec} {q q' : Nat → Nat} (h : El p n m R0 c r R q) (hc : c < n) (hrm : r < m) {b : Int} (hb : p ∣ R r c * b - 1)
  (e1 : ∀ j, j < n → p ∣ R' r j - b * R r j) (e2 : ∀ i j, i < m → i ≠ r → j < n → p ∣ R' i j - (R i j - R i c * R' r j)) (hq : ∀ i, i < r → q' i = q i) (hqr : q' r = c)
  (h0 : ∀ i j, i < m → j < n → 0 ≤ R' i j) (h1 : ∀ i j, i < m → j < n → R' i j < p) : El p n m R0 (c + 1) (r + 1) R' q' :=
 ⟨h.g.step hrm hb (fun j hj => e1 j oM_) (fun i j hi hne hj => e2 i j hi hne oM_) hq hqr, fun v => by rw [← h.sp v]; exact qLn hrm (fun i => R i c) hb e1 e2 v, h0, h1⟩
theorem El.full {p : Int} {n m r : Nat} {R0 R : Nat → Vec} {q : Nat → Nat} : ∀ {c : Nat}, c ≤ n → r = m → El p n m R0 c r R q → El p n m R0 n r R q := by
 intro c hc hr h
 obtain ⟨d, hd⟩ : ∃ d, n = c + d := ⟨n - c, by omega⟩
 have : ∀ e, El p n m R0 (c + e) r R q := fun e => by
  induction e with
  | zero => exact h
  | succ e ih => exact ih.none (fun i h1 h2 => by omega)
 rw [hd] at this ⊢; exact this d
theorem El.same {p : Int} {n m m' r r' : Nat} {R0 R R0' R' : Nat → Vec} {q q' : Nat → Nat} (hp : Pr p) (h : El p n m R0 n r R q) (h' : El p n m' R0' n r' R' q')
  (hs : ∀ v, Span p n (rows R0 m) v ↔ Span p n (rows R0' m') v) : r = r' ∧ ∀ i, i < r → q i = q' i ∧ ∀ j, j < n → R i j = R' i j := by
 have hs2 : ∀ v, Span p n (rows R r) v ↔ Span p n (rows R' r') v := fun v => by rw [← h.g.span v, ← h'.g.span v, h.sp v, h'.sp v, hs v]
 obtain ⟨e1, e2⟩ := h.g.rref.unique hp h'.g.rref hs2
 refine ⟨e1, fun i hi => ⟨(e2 i hi).1, fun j hj => ?_⟩⟩
 have hd := (e2 i hi).2 j hj
 have hr := h.g.rm
 have hr' := h'.g.rm
 have a1 := h.ge i j oM_ hj
 have a2 := h.lt i j oM_ hj
 have b1 := h'.ge i j oM_ hj
 have b2 := h'.lt i j oM_ hj
 obtain ⟨k, hk⟩ := hd
 have hp0 : 0 < p := by omega
 have : k = 0 := by
  rcases Int.lt_trichotomy k 0 with hl | h0 | hg
  ·have := Int.mul_le_mul_of_nonneg_left (show k ≤ -1 by omega) (Int.le_of_lt hp0); omega
  ·exact h0
  ·have := Int.mul_le_mul_of_nonneg_left (show 1 ≤ k by omega) (Int.le_of_lt hp0); omega
 rw [this] at hk; omega
theorem El.span {p : Int} {n m r : Nat} {R0 R : Nat → Vec} {q : Nat → Nat} (h : El p n m R0 n r R q) (v : Vec) : Span p n (rows R r) v ↔ Span p n (rows R0 m) v := by rw [← h.g.span v, h.sp v]
theorem El.dim {p : Int} {n m r : Nat} {R0 R : Nat → Vec} {q : Nat → Nat} (hp : Pr p) (h : El p n m R0 n r R q) : dim p n (Span p n (rows R0 m)) = r := by
 rw [← h.g.rref.indep hp]; exact qBa fun v => (h.span v).symm
def vec (l : List Int) : Vec := fun j => l.getD j 0
def rw' (L : List (List Int)) : Nat → Vec := fun i => vec (L.getD i [])
theorem qBt (L : List (List Int)) : rows (rw' L) L.length = L.map vec := by
 unfold rows rw'
 refine List.ext_getElem (by simp) fun i h1 h2 => ?_
 have hi : i < L.length := by simpa using h1
 simp [ya_, yb_ hi]
def Vs (p : Int) (n : Nat) (L : List (List Int)) : Prop := ∀ x, x ∈ L → x.length = n ∧ ∀ y, y ∈ x → 0 ≤ y ∧ y < p
theorem qEz {p : Int} {n : Nat} {L : List (List Int)} (h : Vs p n L) {i j : Nat} (hi : i < L.length) (hj : j < n) : 0 ≤ rw' L i j ∧ rw' L i j < p := by
 have hm : L.getD i [] ∈ L := by rw [ya_, yb_ hi, Option.getD_some]; exact yp_ hi
 obtain ⟨h1, h2⟩ := h _ hm
 unfold rw' vec
 have hjl : j < (L.getD i []).length := by omega
 rw [ya_ (l := L.getD i []), yb_ hjl, Option.getD_some]
 exact h2 _ (yp_ hjl)
theorem qOv {L M : List (List Int)} {p : Int} {n : Nat} (hL : Vs p n L) (hM : Vs p n M) (hl : L.length = M.length) (h : ∀ i, i < L.length → ∀ j, j < n → rw' L i j = rw' M i j) : L = M := by
 refine List.ext_getElem hl fun i h1 h2 => ?_
 have e1 := (hL _ (yp_ h1)).1
 have e2 := (hM _ (yp_ h2)).1
 refine List.ext_getElem oM_ fun j h3 h4 => ?_
 have := h i h1 j oM_
 unfold rw' vec at this
 simpa [ya_, yb_ h1, yb_ h2, yb_ h3, yb_ h4] using this
structure Red (p : Int) (n : Nat) (L B : List (List Int)) (q : List Int) : Prop where
 vs : Vs p n B
 len : q.length = B.length
 rref : Rref p n B.length (rw' B) (fun i => (q.getD i 0).toNat)
 span : ∀ v, Span p n (B.map vec) v ↔ Span p n (L.map vec) v
 pos : ∀ x, x ∈ q → 0 ≤ x
theorem Red.unique {p : Int} {n : Nat} {L L' B B' : List (List Int)} {q q' : List Int} (hp : Pr p) (h : Red p n L B q) (h' : Red p n L' B' q') (hs : ∀ v, Span p n (L.map vec) v ↔ Span p n (L'.map vec) v) : B = B' ∧ q = q' := by
 have hp0 : 0 < p ∨ p ≤ 0 := by omega
 obtain ⟨e1, e2⟩ := h.rref.unique hp h'.rref (fun v => by rw [qBt, qBt, h.span v, h'.span v, hs v])
 have hB : B = B' := qOv h.vs h'.vs e1 fun i hi j hj => by
  have hd := (e2 i hi).2 j hj
  have a := qEz h.vs hi hj
  have b := qEz h'.vs (i := i) oM_ hj
  obtain ⟨k, hk⟩ := hd
  have hp0 : 0 < p := by omega
  have : k = 0 := by
   rcases Int.lt_trichotomy k 0 with hl | h0 | hg
   ·have := Int.mul_le_mul_of_nonneg_left (show k ≤ -1 by omega) (Int.le_of_lt hp0); omega
   ·exact h0
   ·have := Int.mul_le_mul_of_nonneg_left (show 1 ≤ k by omega) (Int.le_of_lt hp0); omega
  rw [this] at hk; omega
 refine ⟨hB, List.ext_getElem (by rw [h.len, h'.len, e1]) fun i h1 h2 => ?_⟩
 have h3 := (e2 i (by rw [← h.len]; exact h1)).1
 have p1 := h.pos _ (yp_ h1)
 have p2 := h'.pos _ (yp_ h2)
 simp only [ya_, yb_ h1, yb_ h2, Option.getD_some] at h3
 omega
theorem Red.of {p : Int} {n : Nat} {L M : List (List Int)} {r : Nat} {q : List Int} (hl : M.length = L.length) (hv : Vs p n M) (hq : q.length = r) (hpos : ∀ x, x ∈ q → 0 ≤ x)
  (h : El p n L.length (rw' L) n r (rw' M) (fun i => (q.getD i 0).toNat)) : Red p n L (M.take r) q := by
 have hr := h.g.rm
 have hlen : (M.take r).length = r := by rw [yl_]; omega
 have e : ∀ i, i < r → rw' (M.take r) i = rw' M i := fun i hi => by
  unfold rw'
  rw [ya_, ya_, List.getElem?_take_of_lt hi]
 have hrr := h.g.rref
 refine ⟨fun x hx => hv x (List.mem_of_mem_take hx), by omega, ?_, fun v => ?_, hpos⟩
 ·rw [hlen]
  exact ⟨hrr.lt, hrr.mono, fun i hi => by rw [e i hi]; exact hrr.one i hi, fun i j hi hj hne => by rw [e i hi]; exact hrr.off i j hi hj hne, fun i c hi hc => by rw [e i hi]; exact hrr.pre i c hi hc⟩
 ·rw [← qBt L, ← h.span v, ← qBt, hlen]
  have : rows (rw' (M.take r)) r = rows (rw' M) r := List.map_congr_left fun i hi => e i (yc_.1 hi)
  rw [this]
end Go.Proofs.Ytpgjfppbbbnclaa.B.LinT
set_option linter.unusedVariables false
set_option linter.unusedSimpArgs false
namespace Go.Proofs.Ytpgjfppbbbnclaa.B.LinT
def fl (w : Nat) (X : List Int) : Nat → Vec := fun i j => X.getD (i * w + j) 0
theorem qCf {w i j m : Nat} (hi : i < m) (hj : j < w) : i * w + j < m * w := by
 have := Nat.mul_le_mul_right w (show i + 1 ≤ m by omega)
 rw [Nat.add_mul, Nat.one_mul] at this; omega
theorem qO3 {w i j i' j' : Nat} (hj : j < w) (hj' : j' < w) (h : i * w + j = i' * w + j') : i = i' ∧ j = j' := by
 rcases yh_ i i' with hl | he | hg
 ·have := qCf hl hj; omega
 ·subst he; omega
 ·have := qCf hg hj'; omega
theorem qEh (X : List Int) (a b : Nat) (x : Int) (ha : a < X.length) : (X.set a x).getD b 0 = if b = a then x else X.getD b 0 := by
 rw [ya_, List.getElem?_set, ya_]
 by_cases h : b = a
 ·subst h; simp [ha]
 ·rw [if_neg (Ne.symm h), if_neg h]
theorem qKr {w : Nat} (X : List Int) {i j i' j' : Nat} (x : Int) (hj : j < w) (hj' : j' < w) (ha : i * w + j < X.length) : fl w (X.set (i * w + j) x) i' j' = if i' = i ∧ j' = j then x else fl w X i' j' := by
 unfold fl
 rw [qEh _ _ _ _ ha]
 by_cases h : i' = i ∧ j' = j
 ·rw [if_pos h, if_pos (by rw [h.1, h.2])]
 ·rw [if_neg h, if_neg (fun he => h (qO3 hj' hj he))]
structure Upd (w : Nat) (X : List Int) (i0 : Nat) (g : Nat → Int) (t : Nat) (Y : List Int) : Prop where
 len : Y.length = X.length
 at_ : ∀ i j, j < w → fl w Y i j = if i = i0 ∧ j < t then g j else fl w X i j
theorem Upd.start (w : Nat) (X : List Int) (i0 : Nat) (g : Nat → Int) : Upd w X i0 g 0 X := ⟨rfl, fun i j _ => by rw [if_neg oM_]⟩
theorem Upd.next {w : Nat} {X : List Int} {i0 : Nat} {g : Nat → Int} {t : Nat} {Y : List Int} (h : Upd w X i0 g t Y) (ht : t < w) (hi : i0 * w + t < X.length) {x : Int} (hx : x = g t) : Upd w X i0 g (t + 1) (Y.set (i0 * w + t) x) := by
 refine ⟨by rw [ym_, h.len], fun i j hj => ?_⟩
 rw [qKr Y x ht hj (by rw [h.len]; exact hi), h.at_ i j hj]
 by_cases h1 : i = i0 ∧ j = t
 ·rw [if_pos h1, if_pos oM_, hx, h1.2]
 ·rw [if_neg h1]
  by_cases h2 : i = i0 ∧ j < t
  ·rw [if_pos h2, if_pos oM_]
  ·rw [if_neg h2, if_neg oM_]
structure Swp (w : Nat) (X : List Int) (a b : Nat) (t : Nat) (Y : List Int) : Prop where
 len : Y.length = X.length
 at_ : ∀ i j, j < w → fl w Y i j = if j < t then (if i = a then fl w X b j else if i = b then fl w X a j else fl w X i j) else fl w X i j
theorem Swp.start (w : Nat) (X : List Int) (a b : Nat) : Swp w X a b 0 X := ⟨rfl, fun i j _ => by rw [if_neg oM_]⟩
theorem Swp.next {w : Nat} {X : List Int} {a b : Nat} {t : Nat} {Y : List Int} (h : Swp w X a b t Y) (hab : a ≠ b) (ht : t < w) (ha : a * w + t < X.length) (hb : b * w + t < X.length) :
  Swp w X a b (t + 1) ((Y.set (b * w + t) (fl w Y a t)).set (a * w + t) (fl w Y b t)) := by
 refine ⟨by rw [ym_, ym_, h.len], fun i j hj => ?_⟩
 rw [qKr _ _ ht hj (by rw [ym_, h.len]; exact ha), qKr _ _ ht hj (by rw [h.len]; exact hb), h.at_ i j hj, h.at_ a t ht, h.at_ b t ht]
 rw [if_neg (Nat.lt_irrefl t), if_neg (Nat.lt_irrefl t)]
 rcases yh_ j t with hl | he | hg
 ·rw [if_neg (fun hh => by omega), if_neg (fun hh => by omega), if_pos hl, if_pos (show j < t + 1 by omega)]
 ·subst he
  rw [if_neg (Nat.lt_irrefl j), if_pos (Nat.lt_succ_self j)]
  by_cases h1 : i = a
  ·rw [if_pos ⟨h1, rfl⟩, if_pos h1]
  ·rw [if_neg (fun hh => h1 hh.1), if_neg h1]
   by_cases h2 : i = b
   ·rw [if_pos ⟨h2, rfl⟩, if_pos h2]
   ·rw [if_neg (fun hh => h2 hh.1), if_neg h2]
 ·rw [if_neg (fun hh => by omega), if_neg (fun hh => by omega), if_neg (show ¬ j < t by omega), if_neg (show ¬ j < t + 1 by omega)]
def unfl (w m : Nat) (X : List Int) : List (List Int) := (List.range m).map fun i => (X.drop (i * w)).take w
theorem qCq (w m : Nat) (X : List Int) : (unfl w m X).length = m := by simp [unfl]
theorem qHs {w m : Nat} (X : List Int) {i j : Nat} (hi : i < m) (hj : j < w) : rw' (unfl w m X) i j = fl w X i j := by
 unfold rw' vec unfl fl
 have h1 : ((List.range m).map fun i => (X.drop (i * w)).take w).getD i [] = (X.drop (i * w)).take w := by
  rw [ya_, List.getElem?_map, List.getElem?_range hi]; rfl
 rw [h1, ya_, List.getElem?_take_of_lt hj, List.getElem?_drop, ← ya_]
theorem qLj {p : Int} {w m : Nat} {X : List Int} (hl : X.length = m * w) (h : ∀ i j, i < m → j < w → 0 ≤ fl w X i j ∧ fl w X i j < p) : Vs p w (unfl w m X) := by
 intro x hx
 obtain ⟨i, hi, rfl⟩ := ys_.1 hx
 have him := yc_.1 hi
 have h2 := Nat.mul_le_mul_right w (show i + 1 ≤ m by omega)
 rw [Nat.add_mul, Nat.one_mul] at h2
 refine ⟨by rw [yl_, List.length_drop]; omega, fun y hy => ?_⟩
 obtain ⟨j, hj, rfl⟩ := List.getElem_of_mem hy
 have hjw : j < w := by rw [yl_] at hj; omega
 have h3 := h i j him hjw
 unfold fl at h3
 rw [List.getElem_take, List.getElem_drop]
 rwa [ya_, yb_ oM_, Option.getD_some] at h3
theorem qLk {w m r : Nat} (X : List Int) (h : r ≤ m) : (unfl w m X).take r = unfl w r X := by
 unfold unfl
 rw [← List.map_take, List.take_range, Nat.min_eq_left h]
theorem qD4 {w : Nat} : ∀ (L : List (List Int)), (∀ x, x ∈ L → x.length = w) → L.flatten.length = L.length * w
 | [], _ => by simp
 | a :: L, h => by
  rw [List.flatten_cons, yg_, qD4 L (fun x hx => h x (by simp [hx])), h a (by simp), List.length_cons, Nat.add_mul]; omega
structure FlInv (p : Int) (w m : Nat) (L : List (List Int)) (c : Nat) (X : List Int) (q : List Int) : Prop where
 len : X.length = m * w
 pos : ∀ x, x ∈ q → 0 ≤ x
 el : El p w m (rw' L) c q.length (fl w X) (fun i => (q.getD i 0).toNat)
theorem FlInv.red {p : Int} {w : Nat} {L : List (List Int)} {X : List Int} {q : List Int} (h : FlInv p w L.length L w X q) : Red p w L (unfl w q.length X) q := by
 have hr := h.el.g.rm
 rw [← qLk X hr]
 refine Red.of (qCq _ _ _) (qLj h.len fun i j hi hj => ⟨h.el.ge i j hi hj, h.el.lt i j hi hj⟩) rfl h.pos (h.el.congr (Nat.le_refl _) fun i j hi hj => qHs X hi hj)
end Go.Proofs.Ytpgjfppbbbnclaa.B.LinT
set_option linter.unusedVariables false
set_option linter.unusedSimpArgs false
namespace Go.Proofs.Ytpgjfppbbbnclaa.B.LinT
theorem qN6 {p a : Int} (h0 : 0 ≤ a) (h1 : a < p) (hd : p ∣ a) : a = 0 := by
 have := Int.emod_eq_of_lt h0 h1
 rw [Int.emod_eq_zero_of_dvd hd] at this; omega
theorem rng_eq {p a b : Int} (h0 : 0 ≤ a) (h1 : a < p) (g0 : 0 ≤ b) (g1 : b < p) (hd : p ∣ a - b) : a = b := by
 have e1 := Int.emod_eq_of_lt h0 h1
 have e2 := Int.emod_eq_of_lt g0 g1
 have := Int.emod_emod_of_dvd a (Int.dvd_refl p)
 have := (Int.emod_eq_emod_iff_emod_sub_eq_zero).2 (Int.emod_eq_zero_of_dvd hd)
 omega
theorem Red.place {p : Int} {n : Nat} {L B : List (List Int)} {q : List Int} (h : Red p n L B q) (hp : 1 < p) {i : Nat} (hi : i < B.length) :
  (q.getD i 0).toNat < n ∧ (B.getD i []).getD (q.getD i 0).toNat 0 = 1 ∧ ∀ j, j < (q.getD i 0).toNat → (B.getD i []).getD j 0 = 0 := by
 have h1 := h.rref.lt i hi
 refine ⟨h1, ?_, fun j hj => ?_⟩
 ·have a := qEz h.vs hi h1
  exact rng_eq a.1 a.2 oM_ hp (h.rref.one i hi)
 ·have a := qEz h.vs hi (j := j) oM_
  exact qN6 a.1 a.2 (h.rref.pre i j hi hj)
theorem Red.in_iff {p : Int} {n : Nat} {L B : List (List Int)} {q : List Int} (h : Red p n L B q) (v : Vec) :
  Span p n (B.map vec) v ↔ ∀ j, j < n → p ∣ v j - comb (rw' B) B.length (fun i => v (q.getD i 0).toNat) j := by
 constructor
 ·intro hv j hj
  rw [← qBt] at hv
  exact h.rref.coef hv j hj
 ·intro hv
  rw [← qBt]
  exact (qFi _ _ _).2 ⟨_, hv⟩
theorem qIt {p : Int} {n : Nat} (L : List Vec) (x v : Vec) : Span p n (L ++ [x]) v ↔ Ins p n (Span p n L) x v := by
 constructor
 ·refine qA9 (Ins.isSub (qAs p n L) x) (fun y hy => ?_)
  rcases List.mem_append.1 hy with h | h
  ·exact Ins.old (qA3 h)
  ·rw [List.mem_singleton.1 h]; exact Ins.new (qAs p n L)
 ·exact Ins.least (qAs p n _) (fun v hv => qBs (fun y hy => qA3 (List.mem_append_left _ hy)) hv) (qA3 (by simp))
theorem Red.dim {p : Int} {n : Nat} {L B : List (List Int)} {q : List Int} (hp : Pr p) (h : Red p n L B q) : LinT.dim p n (Span p n (L.map vec)) = B.length := by
 rw [← h.rref.indep hp, qBt]
 exact qBa fun v => (h.span v).symm
theorem qLh {p : Int} {n : Nat} {L M : List (List Int)} (h : Vs p n L) (h' : Vs p n M) : Vs p n (L ++ M) := fun x hx => (List.mem_append.1 hx).elim (h x) (h' x)
theorem vs_one {p : Int} {n : Nat} {x : List Int} (h : x.length = n) (h' : ∀ y, y ∈ x → 0 ≤ y ∧ y < p) : Vs p n [x] := fun y hy => by rw [List.mem_singleton.1 hy]; exact ⟨h, h'⟩
theorem Red.len_le {p : Int} {n : Nat} {L B : List (List Int)} {q : List Int} (h : Red p n L B q) (hp : Pr p) : B.length ≤ n ∧ B.length ≤ L.length := by
 rw [← h.dim hp]
 exact ⟨qN9 p n _, Nat.le_trans (qF9 hp _) (by simp)⟩
theorem Red.of_same {p : Int} {n : Nat} {L L' B : List (List Int)} {q : List Int} (h : Red p n L B q) (hs : ∀ v, Span p n (L.map vec) v ↔ Span p n (L'.map vec) v) : Red p n L' B q :=
 ⟨h.vs, h.len, h.rref, fun v => (h.span v).trans (hs v), h.pos⟩
end Go.Proofs.Ytpgjfppbbbnclaa.B.LinT
set_option linter.unusedVariables false
set_option linter.unusedSimpArgs false
namespace Go.Proofs.Ytpgjfppbbbnclaa.B
open Go.RowKit Go.Proofs.YtpgjfppbbbnclaaW.PrintWords
open LinT
theorem qCr {a : Int} {p : Nat} (h : 0 ≤ a) : Int.tmod a (p : Int) = a % (p : Int) := Int.tmod_eq_emod_of_nonneg h
theorem qK4 (p : Nat) (hp : 2 ≤ p) (hp2 : p ≤ 251) : ∀ (e x0 x7 : Nat), e ≤ 1000 → x0 < p → x7 < p → Ev (fun k => z100.l0 k (x0 : Int) (e : Int) (p : Int) (x7 : Int)) ((x7 * x0 ^ e % p : Nat) : Int) := by
 intro e
 induction e using Nat.strongRecOn with
 | _ e ih =>
  intro x0 x7 he h0 h7
  refine Ev.step (fun k => z100.l0.eq_2 ..) ?_
  rcases Nat.eq_zero_or_pos e with h | h
  ·subst h
   refine qAd oM_ (qBk (Ev.now _) ?_)
   rw [Nat.pow_zero, Nat.mul_one, Nat.mod_eq_of_lt h7]
  ·have hb : x0 * x0 ≤ 250 * 250 := yj_ oM_ oM_
   have hb2 : x7 * x0 ≤ 250 * 250 := yj_ oM_ oM_
   have e1 : Int.tmod (wrap64 ((x0 : Int) * (x0 : Int))) (p : Int) = ((x0 * x0 % p : Nat) : Int) := by
    rw [← yi_, qAi oM_ oM_, qCr oM_]; simp
   have e2 : wrap64 (Int.tdiv (e : Int) 2) = ((e / 2 : Nat) : Int) := by
    have : Int.tdiv (e : Int) 2 = ((e / 2 : Nat) : Int) := by rw [Int.tdiv_eq_ediv_of_nonneg oM_]; simp
    rw [this, qAi oM_ oM_]
   have e3 : Int.tmod (e : Int) 2 = ((e % 2 : Nat) : Int) := by rw [Int.tmod_eq_emod_of_nonneg oM_]; simp
   have e4 : Int.tmod (wrap64 ((x7 : Int) * (x0 : Int))) (p : Int) = ((x7 * x0 % p : Nat) : Int) := by
    rw [← yi_, qAi oM_ oM_, qCr oM_]; simp
   have hpow : x0 ^ e = (x0 * x0) ^ (e / 2) * x0 ^ (e % 2) := by
    rw [← Nat.pow_two, ← Nat.pow_mul, ← Nat.pow_add, Nat.div_add_mod]
   have hm : ∀ y, y % p * (x0 * x0 % p) ^ (e / 2) % p = y * (x0 * x0) ^ (e / 2) % p := fun y => by
    rw [Nat.mul_mod, Nat.pow_mod, Nat.mod_mod, Nat.mod_mod, ← Nat.pow_mod, ← Nat.mul_mod]
   refine qAa oM_ ?_
   rw [e1, e2, e3, e4]
   have hp0 : 0 < p := by omega
   rcases Nat.mod_two_eq_zero_or_one e with h2 | h2
   ·refine qAd (by rw [h2]; decide) (qAd oM_ ?_)
    refine qBk (ih (e / 2) oM_ (x0 * x0 % p) x7 oM_ (Nat.mod_lt _ hp0) h7) ?_
    have := hm x7
    rw [Nat.mod_eq_of_lt h7] at this
    rw [this, hpow, h2, Nat.pow_zero, Nat.mul_one]
   ·refine qAa (by rw [h2]; decide) (qAd oM_ ?_)
    refine qBk (ih (e / 2) oM_ (x0 * x0 % p) (x7 * x0 % p) oM_ (Nat.mod_lt _ hp0) (Nat.mod_lt _ hp0)) ?_
    rw [hm, hpow, h2, Nat.pow_one, Nat.mul_assoc, Nat.mul_comm x0]
theorem qK8 {p a : Nat} (hp : isP p = true) (ha : a < p) : Ev (fun k => z89.f k (a : Int) (p : Int)) ((a ^ (p - 2) % p : Nat) : Int) := by
 have h2 := qBr hp
 unfold z89.f z100.f
 have e : wrap64 ((p : Int) - 2) = ((p - 2 : Nat) : Int) := by rw [qAi oM_ oM_]; omega
 rw [e]
 have h := qK4 p h2.1 h2.2 (p - 2) a 1 oM_ ha oM_
 rw [Nat.one_mul] at h
 exact Ev.bind h (Ev.now _)
def addT (p : Nat) (x y : List Int) (c : Int) : List Int := (List.range x.length).map fun j => (x.getD j 0 + c * y.getD j 0) % (p : Int)
def Rng (p : Nat) (x : List Int) : Prop := ∀ y, y ∈ x → 0 ≤ y ∧ y < (p : Int)
theorem qCu {p : Nat} {x : List Int} (h : Rng p x) {j : Nat} (hj : j < x.length) : 0 ≤ x.getD j 0 ∧ x.getD j 0 < (p : Int) := h _ (qAu 0 hj)
theorem qIe (p : Nat) (x y : List Int) (c : Int) : (addT p x y c).length = x.length := by simp [addT]
theorem qIf {p : Nat} {x y : List Int} {c : Int} {j : Nat} (hj : j < x.length) : (addT p x y c).getD j 0 = (x.getD j 0 + c * y.getD j 0) % (p : Int) := by
 unfold addT
 rw [ya_, List.getElem?_map, List.getElem?_range hj]; rfl
theorem qId {p : Nat} (hp : 0 < p) (x y : List Int) (c : Int) : Rng p (addT p x y c) := by
 intro z hz
 obtain ⟨j, _, rfl⟩ := ys_.1 hz
 exact ⟨Int.emod_nonneg _ oM_, Int.emod_lt_of_pos _ oM_⟩
theorem qD6 {p : Nat} (hp0 : 0 < p) (hp : p ≤ 251) (x y : List Int) (c : Int) (hx : Rng p x) (hy : Rng p y) (hl : x.length ≤ y.length) (hm : x.length ≤ 1048576) (hc0 : 0 ≤ c) (hc : c ≤ 251) :
  Ev (fun k => z88.f k x y c (p : Int)) (addT p x y c) := by
 unfold z88.f
 refine qEi (fun s i k => z88.l0 k x y c (p : Int) s (x.length : Int) (i : Int)) (fun j => (x.getD j 0 + c * y.getD j 0) % (p : Int)) x.length (fun j s hj hs r hr => ?_) _ ?_
 ·have hsl : s.length = j := by rw [hs]; simp
  have a := qCu hx hj
  have b := qCu hy (j := j) oM_
  have hcb : 0 ≤ c * y.getD j 0 := Int.mul_nonneg hc0 b.1
  have hcb2 : c * y.getD j 0 ≤ 251 * 251 := Int.mul_le_mul hc oM_ b.1 (by decide)
  refine Ev.step (fun k => z88.l0.eq_2 ..) ?_
  (repeat (first | refine qAa oM_ ?_ | refine qAd oM_ ?_))
  rw [qAj oM_, qA0, qA0, qAi (x := c * y.getD j 0) oM_ oM_, qAi oM_ oM_, qCr oM_]
  exact hr
 ·refine Ev.step (fun k => z88.l0.eq_2 ..) ?_
  exact qAd oM_ (Ev.now _)
theorem qG3 {p : Nat} (hp : 2 ≤ p) (hp2 : p ≤ 251) {a : Int} (h0 : -1000000000 ≤ a) (h1 : a ≤ 1000000000) : z66.f a (p : Int) = some (a % (p : Int)) := by
 unfold z66.f
 rw [if_neg oM_]
 have h2 : Int.tmod a (p : Int) = a % (p : Int) ∨ Int.tmod a (p : Int) = a % (p : Int) - (p : Int) := by
  rw [Int.tmod_eq_emod]
  split
  ·left; omega
  ·right; simp
 have h3 := Int.emod_nonneg a (b := (p : Int)) oM_
 have h4 := Int.emod_lt_of_pos a (b := (p : Int)) oM_
 congr 1
 rcases h2 with h | h
 ·rw [h, qAi oM_ oM_, qCr oM_]; simp
 ·rw [h, qAi oM_ oM_, qCr oM_]; simp
end Go.Proofs.Ytpgjfppbbbnclaa.B
set_option linter.unusedVariables false
set_option linter.unusedSimpArgs false
namespace Go.Proofs.Ytpgjfppbbbnclaa.B
open Go.RowKit Go.Proofs.YtpgjfppbbbnclaaW.PrintWords
open LinT
def okP (p : Int) : Bool := (decide (2 ≤ p) && decide (p ≤ 251)) && isP p.toNat
theorem qL5 {n : Nat} (h0 : 2 ≤ n) (h1 : n ≤ 251) : isP n = true ↔ ∀ d, 2 ≤ d → d < 16 → n < d * d ∨ n % d ≠ 0 := by
 unfold isP
 rw [ye_, ye_, yf_, yf_, yo_]
 constructor
 ·rintro ⟨_, h⟩ d hd hd2
  have := h d (yc_.2 hd2)
  rw [Bool.or_eq_true, Bool.or_eq_true, yf_, yf_, yf_] at this
  rcases this with (h3 | h3) | h3
  ·omega
  ·exact .inl h3
  ·exact .inr h3
 ·intro h
  refine ⟨⟨h0, h1⟩, fun d hd => ?_⟩
  rw [Bool.or_eq_true, Bool.or_eq_true, yf_, yf_, yf_]
  by_cases h2 : d < 2
  ·exact .inl (.inl h2)
  ·rcases h d oM_ (yc_.1 hd) with h3 | h3
   ·exact .inl (.inr h3)
   ·exact .inr h3
theorem qDx {n : Nat} (h0 : 2 ≤ n) (h1 : n ≤ 251) : ∀ (e d : Nat), d + e = 16 → 2 ≤ d → ∃ b, Ev (fun k => z36.l0 k (n : Int) (d : Int)) b ∧ (b = true ↔ ∀ d', d ≤ d' → d' < 16 → n < d' * d' ∨ n % d' ≠ 0) := by
 intro e
 induction e with
 | zero =>
  intro d hd h2
  have : d = 16 := by omega
  subst this
  refine ⟨true, ?_, by simp; omega⟩
  refine Ev.step (fun k => z36.l0.eq_2 ..) ?_
  rw [← yi_, qAi oM_ oM_]
  exact qAd oM_ (Ev.now _)
 | succ e ih =>
  intro d hd h2
  have hdd : d * d ≤ 16 * 16 := yj_ oM_ oM_
  have hw : wrap64 ((d : Int) * (d : Int)) = ((d * d : Nat) : Int) := by rw [← yi_, qAi oM_ oM_]
  have hm : Int.tmod (n : Int) (d : Int) = ((n % d : Nat) : Int) := by rw [Int.tmod_eq_emod_of_nonneg oM_]; simp
  by_cases hl : n < d * d
  ·refine ⟨true, ?_, ?_⟩
   ·refine Ev.step (fun k => z36.l0.eq_2 ..) ?_
    rw [hw]
    exact qAd oM_ (Ev.now _)
   ·simp only [true_iff]
    intro d' h3 _
    have := yj_ h3 h3
    left; omega
  ·by_cases hz : n % d = 0
   ·refine ⟨false, ?_, ?_⟩
    ·refine Ev.step (fun k => z36.l0.eq_2 ..) ?_
     rw [hw, hm]
     exact qAa oM_ (qAd oM_ (qAa oM_ (Ev.now _)))
    ·simp only [Bool.false_eq_true, false_iff]
     intro h
     rcases h d (Nat.le_refl _) oM_ with h3 | h3
     ·exact hl h3
     ·exact h3 hz
   ·obtain ⟨b, hb, hi⟩ := ih (d + 1) oM_ oM_
    refine ⟨b, ?_, hi.trans ⟨fun h d' h3 h4 => ?_, fun h d' h3 h4 => h d' oM_ h4⟩⟩
    ·refine Ev.step (fun k => z36.l0.eq_2 ..) ?_
     rw [hw, hm]
     refine qAa oM_ (qAd oM_ (qAd oM_ ?_))
     rw [qAj oM_]; exact hb
    ·rcases Nat.lt_or_ge d d' with h5 | h5
     ·exact h d' oM_ h4
     ·have : d' = d := by omega
      subst this; exact .inr hz
theorem qD9 {n : Nat} (h0 : 2 ≤ n) (h1 : n ≤ 251) : ∀ (e d : Nat), d + e = 16 → 2 ≤ d → ∃ b, Ev (fun k => z29.l0 k (n : Int) (d : Int)) b ∧ (b = true ↔ ∀ d', d ≤ d' → d' < 16 → n < d' * d' ∨ n % d' ≠ 0) := by
 intro e
 induction e with
 | zero =>
  intro d hd h2
  have : d = 16 := by omega
  subst this
  refine ⟨true, ?_, by simp; omega⟩
  refine Ev.step (fun k => z29.l0.eq_2 ..) ?_
  rw [← yi_, qAi oM_ oM_]
  exact qAd oM_ (Ev.now _)
 | succ e ih =>
  intro d hd h2
  have hdd : d * d ≤ 16 * 16 := yj_ oM_ oM_
  have hw : wrap64 ((d : Int) * (d : Int)) = ((d * d : Nat) : Int) := by rw [← yi_, qAi oM_ oM_]
  have hm : Int.tmod (n : Int) (d : Int) = ((n % d : Nat) : Int) := by rw [Int.tmod_eq_emod_of_nonneg oM_]; simp
  by_cases hl : n < d * d
  ·refine ⟨true, ?_, ?_⟩
   ·refine Ev.step (fun k => z29.l0.eq_2 ..) ?_
    rw [hw]
    exact qAd oM_ (Ev.now _)
   ·simp only [true_iff]
    intro d' h3 _
    have := yj_ h3 h3
    left; omega
  ·by_cases hz : n % d = 0
   ·refine ⟨false, ?_, ?_⟩
    ·refine Ev.step (fun k => z29.l0.eq_2 ..) ?_
     rw [hw, hm]
     exact qAa oM_ (qAd oM_ (qAa oM_ (Ev.now _)))
    ·simp only [Bool.false_eq_true, false_iff]
     intro h
     rcases h d (Nat.le_refl _) oM_ with h3 | h3
     ·exact hl h3
     ·exact h3 hz
   ·obtain ⟨b, hb, hi⟩ := ih (d + 1) oM_ oM_
    refine ⟨b, ?_, hi.trans ⟨fun h d' h3 h4 => ?_, fun h d' h3 h4 => h d' oM_ h4⟩⟩
    ·refine Ev.step (fun k => z29.l0.eq_2 ..) ?_
     rw [hw, hm]
     refine qAa oM_ (qAd oM_ (qAd oM_ ?_))
     rw [qAj oM_]; exact hb
    ·rcases Nat.lt_or_ge d d' with h5 | h5
     ·exact h d' oM_ h4
     ·have : d' = d := by omega
      subst this; exact .inr hz
theorem qJb (p : Int) : Ev (fun k => z36.f k p) (okP p) := by
 unfold z36.f okP
 refine Ev.bind (qAr (qEn _ _ _)) ?_
 cases h : decide (2 ≤ p) && decide (p ≤ 251) with
 | false => exact qAd (by decide) (Ev.now _)
 | true =>
  rw [ye_, yf_, yf_] at h
  obtain ⟨n, rfl⟩ := Int.eq_ofNat_of_zero_le (show 0 ≤ p by omega)
  obtain ⟨b, hb, hi⟩ := qDx (n := n) oM_ oM_ 14 2 oM_ oM_
  refine qAa rfl (qBk hb ?_)
  rw [Bool.true_and, yd_, Bool.eq_iff_iff, qL5 oM_ oM_, hi]
theorem qHu (p : Int) : Ev (fun k => z29.f k p) (okP p) := by
 unfold z29.f okP
 refine Ev.bind (qAr (qI9 _ _ _)) ?_
 cases h : decide (2 ≤ p) && decide (p ≤ 251) with
 | false => exact qAd (by decide) (Ev.now _)
 | true =>
  rw [ye_, yf_, yf_] at h
  obtain ⟨n, rfl⟩ := Int.eq_ofNat_of_zero_le (show 0 ≤ p by omega)
  obtain ⟨b, hb, hi⟩ := qD9 (n := n) oM_ oM_ 14 2 oM_ oM_
  refine qAa rfl (qBk hb ?_)
  rw [Bool.true_and, yd_, Bool.eq_iff_iff, qL5 oM_ oM_, hi]
theorem qOt {p : Int} : okP p = true ↔ ∃ n : Nat, p = (n : Int) ∧ isP n = true := by
 unfold okP
 rw [ye_, ye_, yf_, yf_]
 constructor
 ·rintro ⟨⟨h0, h1⟩, h⟩
  exact ⟨p.toNat, by omega, h⟩
 ·rintro ⟨n, rfl, h⟩
  have := qBr h
  exact ⟨⟨by omega, by omega⟩, by rw [yd_]; exact h⟩
end Go.Proofs.Ytpgjfppbbbnclaa.B
set_option linter.unusedVariables false
set_option linter.unusedSimpArgs false
namespace Go.Proofs.Ytpgjfppbbbnclaa.B
open Go.RowKit Go.Proofs.YtpgjfppbbbnclaaW.PrintWords
open LinT
theorem qDb (p : Int) : Ev (fun k => z15.f k p) (okP p) := by
 unfold z15.f
 exact Ev.bind (qHu p) (Ev.now _)
end Go.Proofs.Ytpgjfppbbbnclaa.B
set_option linter.unusedVariables false
set_option linter.unusedSimpArgs false
namespace Go.Proofs.Ytpgjfppbbbnclaa.B
open Go.RowKit Go.Proofs.YtpgjfppbbbnclaaW.PrintWords
open SimT LinT
def run (a m : Nat) : List Int := (List.range m).map fun j => ((a + j : Nat) : Int)
theorem qCk (a m : Nat) : (run a m).length = m := by simp [run]
theorem qCe {a m j : Nat} (h : j < m) : (run a m).getD j 0 = ((a + j : Nat) : Int) := by
 unfold run
 rw [ya_, List.getElem?_map, List.getElem?_range h]; rfl
theorem qNe (a m : Nat) : run a (m + 1) = run a m ++ [((a + m : Nat) : Int)] := by
 unfold run
 rw [List.range_succ, yt_]; rfl
theorem qKs {p : Nat → Bool} (h : ∀ i j k, i ≤ j → j ≤ k → p i = true → p k = true → p j = true) : ∀ n, ∃ a m, filt p n = run a m ∧ (m = 0 ∨ a + m ≤ n) ∧ ∀ j, j < m → p (a + j) = true
 | 0 => ⟨0, 0, rfl, .inl rfl, fun j hj => by omega⟩
 | n + 1 => by
  obtain ⟨a, m, h1, h2, h3⟩ := qKs h n
  rw [qDn]
  cases hp : p n with
  | false => exact ⟨a, m, by simpa using h1, by omega, h3⟩
  | true =>
   rcases Nat.eq_zero_or_pos m with h0 | h0
   ·refine ⟨n, 1, ?_, by omega, fun j hj => by rw [show n + j = n by omega]; exact hp⟩
    rw [h1, h0]; rfl
   ·have hlt : a + m = n := by
     rcases Nat.lt_or_ge (a + m) n with hl | hg
     ·have hpm : p (a + m) = true := h a (a + m) n oM_ oM_ (by have := h3 0 h0; simpa using this) hp
      have hmem : ((a + m : Nat) : Int) ∈ filt p n := qEe.2 ⟨a + m, hl, hpm, rfl⟩
      rw [h1] at hmem
      unfold run at hmem
      obtain ⟨j, hj, he⟩ := ys_.1 hmem
      have := yc_.1 hj
      omega
     ·omega
    refine ⟨a, m + 1, ?_, by omega, fun j hj => ?_⟩
    ·rw [h1, qNe, hlt]; rfl
    ·rcases Nat.lt_or_ge j m with hl | hg
     ·exact h3 j hl
     ·rw [show a + j = n by omega]; exact hp
theorem qLo {C : List (List Int)} (hs : Srt C) {i j : Nat} (hij : i ≤ j) (hj : j < C.length) : (C.getD i []).length ≤ (C.getD j []).length := by
 rcases Nat.lt_or_ge i j with hl | hg
 ·have := (qFm _ _).1 (qD1 hs hl hj); omega
 ·have : i = j := by omega
  rw [this]; exact Nat.le_refl _
theorem qCm {C : List (List Int)} (hs : Srt C) (d : Int) : ∃ a m, qAn C d = run a m ∧ (m = 0 ∨ a + m ≤ C.length) ∧ ∀ j, j < m → ((C.getD (a + j) []).length : Int) = d + 1 := by
 have e : qAn C d = filt (fun i => decide (i < C.length) && decide (((C.getD i []).length : Int) = d + 1)) C.length := qHe _ fun i hi => by simp [hi]
 obtain ⟨a, m, h1, h2, h3⟩ := qKs (p := fun i => decide (i < C.length) && decide (((C.getD i []).length : Int) = d + 1)) (fun i j k hij hjk hi hk => by
  rw [ye_, yf_, yf_] at hi hk ⊢
  have a1 := qLo hs hij oM_
  have a2 := qLo hs hjk hk.1
  exact ⟨by omega, by omega⟩) C.length
 refine ⟨a, m, e.trans h1, h2, fun j hj => ?_⟩
 have := h3 j hj
 rw [ye_, yf_, yf_] at this
 exact this.2
theorem qNq (l : List Int) (x : Int) (hl : l.length < 9223372036854775807) : (x ∉ l → Ev (fun k => z69.f k l x) (-1)) ∧ ∀ i, i < l.length → l.getD i 0 = x → (∀ j, j < i → l.getD j 0 ≠ x) → Ev (fun k => z69.f k l x) (i : Int) := by
 unfold z69.f
 have skip : ∀ j, j < l.length → l.getD j 0 ≠ x → Le (fun k => z69.l0 k l x (l.length : Int) ((j + 1 : Nat) : Int)) (fun k => z69.l0 k l x (l.length : Int) (j : Int)) := fun j hj hne r hr => by
  refine Ev.step (fun k => z69.l0.eq_2 ..) ?_
  refine qAa oM_ (qAa oM_ (qAa oM_ (qAd (by rw [qA0]; exact fun e => hne e.symm) ?_)))
  rw [qAj oM_]; exact hr
 constructor
 ·intro hx
  have main : ∀ (d i : Nat), i + d = l.length → Ev (fun k => z69.l0 k l x (l.length : Int) (i : Int)) (-1) := by
   intro d
   induction d with
   | zero =>
    intro i hi
    refine Ev.step (fun k => z69.l0.eq_2 ..) ?_
    exact qAd oM_ (Ev.now _)
   | succ d ih => exact fun i hi => skip i oM_ (fun e => hx (e ▸ qAu 0 oM_)) _ (ih (i + 1) oM_)
  exact main l.length 0 oM_
 ·intro i hi he hb
  have main : ∀ (d j : Nat), j + d = i → Ev (fun k => z69.l0 k l x (l.length : Int) (j : Int)) (i : Int) := by
   intro d
   induction d with
   | zero =>
    intro j hj
    have : j = i := by omega
    subst this
    refine Ev.step (fun k => z69.l0.eq_2 ..) ?_
    exact qAa oM_ (qAa oM_ (qAa oM_ (qAa (by rw [qA0]; exact he.symm) (Ev.now _))))
   | succ d ih => exact fun j hj => skip j oM_ (hb j oM_) _ (ih (j + 1) oM_)
  exact main i 0 oM_
theorem qL7 {a m : Nat} (hm : m < 9223372036854775807) {j : Nat} (hj : j < m) : Ev (fun k => z69.f k (run a m) ((a + j : Nat) : Int)) (j : Int) := by
 refine (qNq (run a m) _ (by rw [qCk]; exact hm)).2 j (by rw [qCk]; exact hj) (qCe hj) (fun i hi => ?_)
 rw [qCe oM_]; omega
def askD (C : List (List Int)) (d p : Int) : Int :=
 if (okC C && okP p) = true then (if (decide (0 ≤ d) && decide (d ≤ 3)) = true then (if (qAn C (d - 1)).length ≤ 32 ∧ (qAn C d).length ≤ 32 ∧ (qAn C (d + 1)).length ≤ 32 then 0 else 5) else 2) else 1
section
variable {C : List (List Int)} (hl : C.length ≤ 1048576) (hr : ∀ x ∈ C, x.length ≤ 1048576)
include hl hr
theorem qHk (d p : Int) : Ev (fun k => z19.f k C d p) (askD C d p) := by
 unfold z19.f askD
 have hj : ∀ b, Ev (fun k => z19.j0 k d (!b) C) (if b = true then (if (decide (0 ≤ d) && decide (d ≤ 3)) = true then (if (qAn C (d - 1)).length ≤ 32 ∧ (qAn C d).length ≤ 32 ∧ (qAn C (d + 1)).length ≤ 32 then 0 else 5) else 2) else 1) := fun b => by
  refine Ev.step (fun k => z19.j0.eq_2 ..) ?_
  cases b with
  | false => exact qAa rfl (Ev.now _)
  | true =>
   refine qAd (by decide) ?_
   unfold z37.f
   refine Ev.bind (a := decide (0 ≤ d) && decide (d ≤ 3)) (Ev.bind (qAr (qEn _ _ _)) (Ev.now _)) ?_
   cases hd : decide (0 ≤ d) && decide (d ≤ 3) with
   | false => exact qAd (by decide) (Ev.now _)
   | true =>
    rw [ye_, yf_, yf_] at hd
    refine qAa rfl ?_
    have w0 : wrap64 (d - 1) = d - 1 := qAi oM_ oM_
    have w1 : wrap64 (d + 1) = d + 1 := qAi oM_ oM_
    rw [w0, if_pos rfl, if_pos rfl]
    refine Ev.step (fun k => z19.l0.eq_2 ..) ?_
    rw [w1, show wrap64 (d - 1 + 1) = d by rw [qAi oM_ oM_]; omega]
    refine qAa oM_ (Ev.bind (qBz hl oM_ oM_) ?_)
    by_cases h0 : (qAn C (d - 1)).length ≤ 32
    ·refine qAd oM_ ?_
     refine Ev.step (fun k => z19.l0.eq_2 ..) ?_
     rw [w1]
     refine qAa oM_ (Ev.bind (qBz hl oM_ oM_) ?_)
     by_cases h1 : (qAn C d).length ≤ 32
     ·refine qAd oM_ ?_
      refine Ev.step (fun k => z19.l0.eq_2 ..) ?_
      rw [w1]
      refine qAa oM_ (Ev.bind (qBz hl oM_ oM_) ?_)
      by_cases h2 : (qAn C (d + 1)).length ≤ 32
      ·refine qAd oM_ ?_
       refine Ev.step (fun k => z19.l0.eq_2 ..) ?_
       rw [w1, if_pos ⟨h0, h1, h2⟩, show wrap64 (d + 1 + 1) = d + 1 + 1 from qAi oM_ oM_]
       exact qAd oM_ (Ev.now _)
      ·rw [if_neg (fun h => h2 h.2.2)]
       exact qAa oM_ (Ev.now _)
     ·rw [if_neg (fun h => h1 h.2.1)]
      exact qAa oM_ (Ev.now _)
    ·rw [if_neg (fun h => h0 h.1)]
     exact qAa oM_ (Ev.now _)
 refine Ev.bind (qJa C hl hr) ?_
 cases ho : okC C with
 | false => exact qAd (by decide) (by simpa using hj false)
 | true => exact qAa rfl (Ev.bind (qJb p) (by simpa using hj (okP p)))
theorem qJu (d p : Int) : Ev (fun k => z16.f k C d p) (askD C d p) := by
 unfold z16.f askD
 have hj : ∀ b, Ev (fun k => z16.j0 k d (!b) C) (if b = true then (if (decide (0 ≤ d) && decide (d ≤ 3)) = true then (if (qAn C (d - 1)).length ≤ 32 ∧ (qAn C d).length ≤ 32 ∧ (qAn C (d + 1)).length ≤ 32 then 0 else 5) else 2) else 1) := fun b => by
  refine Ev.step (fun k => z16.j0.eq_2 ..) ?_
  cases b with
  | false => exact qAa rfl (Ev.now _)
  | true =>
   refine qAd (by decide) ?_
   unfold z30.f
   refine Ev.bind (a := decide (0 ≤ d) && decide (d ≤ 3)) (Ev.bind (qAr (qI9 _ _ _)) (Ev.now _)) ?_
   cases hd : decide (0 ≤ d) && decide (d ≤ 3) with
   | false => exact qAd (by decide) (Ev.now _)
   | true =>
    rw [ye_, yf_, yf_] at hd
    refine qAa rfl ?_
    have w0 : wrap64 (d - 1) = d - 1 := qAi oM_ oM_
    have w1 : wrap64 (d + 1) = d + 1 := qAi oM_ oM_
    rw [w0, w1, if_pos rfl, if_pos rfl]
    refine Ev.bind (qDc hl oM_ oM_) ?_
    by_cases h1 : (qAn C d).length ≤ 32
    ·refine qAd oM_ (Ev.bind (qDc hl oM_ oM_) ?_)
     by_cases h0 : (qAn C (d - 1)).length ≤ 32
     ·refine qAd oM_ (Ev.bind (qDc hl oM_ oM_) ?_)
      by_cases h2 : (qAn C (d + 1)).length ≤ 32
      ·exact qBk (qAd oM_ (Ev.now _)) (if_pos ⟨h0, h1, h2⟩).symm
      ·exact qBk (qAa oM_ (Ev.now _)) (if_neg (fun h => h2 h.2.2)).symm
     ·exact qBk (qAa oM_ (Ev.now _)) (if_neg (fun h => h0 h.1)).symm
    ·exact qBk (qAa oM_ (Ev.now _)) (if_neg (fun h => h1 h.2.1)).symm
 refine Ev.bind (qFh C hl hr) ?_
 cases ho : okC C with
 | false => exact qAd (by decide) (by simpa using hj false)
 | true => exact qAa rfl (Ev.bind (qDb p) (by simpa using hj (okP p)))
end
theorem qMy {C : List (List Int)} {d p : Int} (h : askD C d p = 0) : okC C = true ∧ okP p = true ∧ 0 ≤ d ∧ d ≤ 3 ∧ (qAn C (d - 1)).length ≤ 32 ∧ (qAn C d).length ≤ 32 ∧ (qAn C (d + 1)).length ≤ 32 := by
 unfold askD at h
 split at h
 ·rename_i h1
  rw [ye_] at h1
  split at h
  ·rename_i h2
   rw [ye_, yf_, yf_] at h2
   split at h
   ·rename_i h3
    exact ⟨h1.1, h1.2, h2.1, h2.2, h3⟩
   ·omega
  ·omega
 ·omega
end Go.Proofs.Ytpgjfppbbbnclaa.B
set_option linter.unusedVariables false
set_option linter.unusedSimpArgs false
namespace Go.Proofs.Ytpgjfppbbbnclaa.B
open Go.RowKit Go.Proofs.YtpgjfppbbbnclaaW.PrintWords
open LinT
theorem qOn (p : Int) {m n : Nat} {X : List Int} (hl : X.length = m * n) (hm : m ≤ 1024) (hn : n ≤ 1024) {i : Nat} (hi : i < m) : impl_Matrix_row.f p (m : Int) (n : Int) X (i : Int) = some ((X.drop (i * n)).take n) := by
 have hb : m * n ≤ 1024 * 1024 := yj_ hm hn
 have h2 := Nat.mul_le_mul_right n (show i + 1 ≤ m by omega)
 have h1 : (i + 1) * n = i * n + n := by rw [Nat.add_mul, Nat.one_mul]
 unfold impl_Matrix_row.f
 have e1 : wrap64 ((i : Int) * (n : Int)) = ((i * n : Nat) : Int) := by rw [← yi_, qAi oM_ oM_]
 have e2 : wrap64 (wrap64 ((i : Int) + 1) * (n : Int)) = ((i * n + n : Nat) : Int) := by
  rw [qAj oM_, ← yi_, h1, qAi oM_ oM_]
 rw [e1, e2, if_pos oM_, yd_, yd_, List.drop_take]
 rw [show i * n + n - i * n = n by omega]
theorem qNf {m n : Nat} {X : List Int} (hl : X.length = m * n) {i : Nat} (hi : i < m) : ((X.drop (i * n)).take n).length = n := by
 have h2 := Nat.mul_le_mul_right n (show i + 1 ≤ m by omega)
 rw [Nat.add_mul, Nat.one_mul] at h2
 rw [yl_, List.length_drop]; omega
end Go.Proofs.Ytpgjfppbbbnclaa.B
set_option linter.unusedVariables false
set_option linter.unusedSimpArgs false
namespace Go.Proofs.Ytpgjfppbbbnclaa.B
open Go.RowKit Go.Proofs.YtpgjfppbbbnclaaW.PrintWords
open LinT
theorem qOh (p : Int) (m n : Nat) (hm : m ≤ 1048576) (hn : n ≤ 1048576) : Ev (fun k => z67.f k p (m : Int) (n : Int)) (p, (m : Int), (n : Int), List.replicate (m * n) 0) := by
 unfold z67.f z125.f
 have hin : ∀ (i t : Nat), t ≤ 1048576 * 1048576 → Le (fun k => z125.l0 k (n : Int) (m : Int) (wrap64 ((i : Int) + 1)) p (m : Int) (n : Int) (List.replicate (t + n) 0)) (fun k => z125.l1 k (n : Int) (i : Int) (m : Int) (i : Int) (n : Int) 0 p (m : Int) (n : Int) (List.replicate t 0)) := by
  intro i t ht
  have main : ∀ (d j : Nat), j + d = n → Le (fun k => z125.l0 k (n : Int) (m : Int) (wrap64 ((i : Int) + 1)) p (m : Int) (n : Int) (List.replicate (t + n) 0)) (fun k => z125.l1 k (n : Int) (i : Int) (m : Int) (i : Int) (n : Int) (j : Int) p (m : Int) (n : Int) (List.replicate (t + j) 0)) := by
   intro d
   induction d with
   | zero =>
    intro j hj r hr
    have : j = n := by omega
    subst this
    refine Ev.step (fun k => z125.l1.eq_2 ..) ?_
    exact qAd oM_ hr
   | succ d ih =>
    intro j hj r hr
    have := ih (j + 1) oM_ r hr
    refine Ev.step (fun k => z125.l1.eq_2 ..) ?_
    refine qAa oM_ (Ev.bind (qAr (r := (0 : Int)) rfl) (qAa (by rw [yk_]; omega) ?_))
    rw [qAj oM_]
    have e : List.replicate (t + j) (0 : Int) ++ [0] = List.replicate (t + (j + 1)) 0 := by rw [show t + (j + 1) = t + j + 1 by omega, List.replicate_succ']
    rw [e]; exact this
  exact main n 0 oM_
 have out : ∀ (d i : Nat), i + d = m → Ev (fun k => z125.l0 k (n : Int) (m : Int) (i : Int) p (m : Int) (n : Int) (List.replicate (i * n) 0)) (p, (m : Int), (n : Int), List.replicate (m * n) 0) := by
  intro d
  induction d with
  | zero =>
   intro i hi
   have : i = m := by omega
   subst this
   refine Ev.step (fun k => z125.l0.eq_2 ..) ?_
   exact qAd oM_ (Ev.now _)
  | succ d ih =>
   intro i hi
   have hb : i * n ≤ 1048576 * 1048576 := yj_ oM_ hn
   have h := ih (i + 1) oM_
   rw [Nat.add_mul, Nat.one_mul] at h
   refine Ev.step (fun k => z125.l0.eq_2 ..) ?_
   refine qAa oM_ (hin i (i * n) hb _ ?_)
   rw [qAj oM_]; exact h
 have h := out m 0 oM_
 rw [Nat.zero_mul] at h
 exact Ev.bind h (Ev.now _)
theorem qLf (p : Int) (m n : Nat) (hm : m ≤ 1024) (hn : n ≤ 1024) : z47.f p (m : Int) (n : Int) = some (p, (m : Int), (n : Int), List.replicate (m * n) 0) := by
 have hb : m * n ≤ 1024 * 1024 := yj_ hm hn
 unfold z47.f
 rw [← yi_, qAi oM_ oM_, if_pos oM_, if_pos (by rw [yd_]; omega), yd_]
end Go.Proofs.Ytpgjfppbbbnclaa.B
set_option linter.unusedVariables false
set_option linter.unusedSimpArgs false
namespace Go.Proofs.Ytpgjfppbbbnclaa.B
open Go.RowKit Go.Proofs.YtpgjfppbbbnclaaW.PrintWords
open SimT LinT
def sgn (p : Int) (i : Nat) : Int := if i % 2 = 0 then 1 else p - 1
theorem qNd {p : Nat} (hp : p ≤ 251) (i : Nat) : z70.f (i : Int) (p : Int) = some (sgn (p : Int) i) := by
 unfold z70.f sgn
 rw [Int.tmod_eq_emod_of_nonneg oM_, qAi oM_ oM_]
 by_cases h : i % 2 = 0
 ·rw [if_pos h, if_pos oM_]
 ·rw [if_neg h, if_neg oM_]
theorem qNc {p : Nat} (hp0 : 2 ≤ p) (hp : p ≤ 251) (i : Nat) : z49.f (i : Int) (p : Int) = some (sgn (p : Int) i) := by
 unfold z49.f sgn
 rw [Int.tmod_eq_emod_of_nonneg oM_, qAi oM_ oM_]
 by_cases h : i % 2 = 0
 ·rw [if_pos h, if_pos oM_, if_neg oM_, Int.emod_eq_of_lt oM_ oM_]
 ·rw [if_neg h, if_neg oM_]
theorem qOm {p : Nat} (hp0 : 2 ≤ p) (i : Nat) : 0 ≤ sgn (p : Int) i ∧ sgn (p : Int) i < (p : Int) := by
 unfold sgn; split <;> omega
def colF (C : List (List Int)) (d : Int) (j : Nat) : List Int := qCb C (C.getD ((qAn C d).getD j 0).toNat [])
def colG (C : List (List Int)) (d p : Int) (n j : Nat) (s : List Int) : List Int :=
 iter (fun i s => s.set (((colF C d j).getD i 0 - (qAn C (d - 1)).getD 0 0).toNat * n + j) (sgn p i)) 0 (colF C d j).length s
def qB8 (C : List (List Int)) (d p : Int) : List Int :=
 iter (colG C d p (qAn C d).length) 0 (qAn C d).length (List.replicate ((qAn C (d - 1)).length * (qAn C d).length) 0)
def bMat (C : List (List Int)) (d p : Int) : Int × Int × Int × List Int := (p, ((qAn C (d - 1)).length : Int), ((qAn C d).length : Int), qB8 C d p)
theorem qH8 {C : List (List Int)} (ho : okC C = true) {d : Int} {a m b n : Nat} (ha : qAn C (d - 1) = run a m) (hb : qAn C d = run b n) {j i : Nat} (hj : j < n) (hi : i < (colF C d j).length) : ∃ r, r < m ∧ (colF C d j).getD i 0 = ((a + r : Nat) : Int) := by
 unfold colF at hi ⊢
 rw [hb, qCe hj, yd_] at hi ⊢
 have hmem : ((b + j : Nat) : Int) ∈ qAn C d := by rw [hb]; unfold run; exact ys_.2 ⟨j, yc_.2 hj, rfl⟩
 obtain ⟨i0, hi0, hp0, he0⟩ := qEe.1 hmem
 have : i0 = b + j := by omega
 subst this
 have hlen := of_decide_eq_true hp0
 have hsC : C.getD (b + j) [] ∈ C := qAu [] hi0
 generalize C.getD (b + j) [] = s at hi hlen hsC ⊢
 unfold qCb at hi ⊢
 have hi' : i < (qBi s).length := by simpa using hi
 have e : ((qBi s).map (idx C)).getD i 0 = idx C ((qBi s).getD i []) := by
  rw [ya_, List.getElem?_map, ya_, yb_ hi']; rfl
 rw [e]
 have hf : (qBi s).getD i [] ∈ qBi s := qAu [] hi'
 obtain ⟨h1, k, hk, hd⟩ := qEf.1 hf
 have hin := (qDj.1 ho).2.2.2 s hsC h1 k hk
 obtain ⟨q, hq, hq1, hq2, _⟩ := qEt hin
 rw [← hd, hq1]
 have hdl : (drp s k).length = s.length - 1 := qHj hk
 have hqm : ((q : Nat) : Int) ∈ qAn C (d - 1) := qEe.2 ⟨q, hq, decide_eq_true (by rw [hq2, hdl]; omega), rfl⟩
 rw [ha] at hqm
 unfold run at hqm
 obtain ⟨r, hr, h3⟩ := ys_.1 hqm
 exact ⟨r, yc_.1 hr, by omega⟩
theorem qKw {C : List (List Int)} (ho : okC C = true) (d : Int) (j : Nat) : (colF C d j).length ≤ 4 := by
 unfold colF qCb
 rw [List.length_map]
 by_cases h : ((qAn C d).getD j 0).toNat < C.length
 ·have := (qC0 ((qDj.1 ho).2.2.1 _ (qAu [] h))).2
  exact Nat.le_trans (qF4 _) this
 ·rw [ya_, List.getElem?_eq_none oM_]
  simp [qBi]
theorem qH7 {C : List (List Int)} {d p : Int} {n j : Nat} {s : List Int} {q : Nat} (hq : 2 ≤ q) (hp : p = (q : Int)) (h : s.length = q ∨ True) (hr : Rng q s) : (colG C d p n j s).length = s.length ∧ Rng q (colG C d p n j s) := by
 have := qFc (fun i s => s.set (((colF C d j).getD i 0 - (qAn C (d - 1)).getD 0 0).toNat * n + j) (sgn p i)) (fun _ t => t.length = s.length ∧ Rng q t) (colF C d j).length 0 s ⟨rfl, hr⟩ (fun i t _ _ ht => ⟨by rw [ym_]; exact ht.1, fun z hz => by
  rcases List.mem_or_eq_of_mem_set hz with h1 | h1
  ·exact ht.2 z h1
  ·rw [h1, hp]; exact qOm hq i⟩)
 exact this
theorem qGb (C : List (List Int)) (d : Int) {p : Nat} (hp : 2 ≤ p) : (qB8 C d (p : Int)).length = (qAn C (d - 1)).length * (qAn C d).length ∧ Rng p (qB8 C d (p : Int)) := by
 have := qFc (colG C d (p : Int) (qAn C d).length) (fun _ t => t.length = (qAn C (d - 1)).length * (qAn C d).length ∧ Rng p t) (qAn C d).length 0 (List.replicate ((qAn C (d - 1)).length * (qAn C d).length) 0) ⟨by rw [yk_], fun z hz => by rw [(List.mem_replicate.1 hz).2]; omega⟩ (fun j t _ _ ht => by
  have := qH7 (C := C) (d := d) (n := (qAn C d).length) (j := j) hp (p := (p : Int)) rfl (.inr trivial) ht.2
  exact ⟨this.1.trans ht.1, this.2⟩)
 exact this
section
variable {C : List (List Int)} (hl : C.length ≤ 1048576) (hr : ∀ x ∈ C, x.length ≤ 1048576)
include hl hr
theorem qKq {p : Nat} (hp : isP p = true) (ho : okC C = true) {d : Int} (h0 : 0 ≤ d) (h3 : d ≤ 4) (hm : (qAn C (d - 1)).length ≤ 48) (hn : (qAn C d).length ≤ 48) : Ev (fun k => z42.f k C d (p : Int)) (bMat C d (p : Int)) := by
 have h2 := qBr hp
 have hs := (qDj.1 ho).2.1
 obtain ⟨a, m, ha, ham, _⟩ := qCm hs (d - 1)
 obtain ⟨b, n, hb, hbn, _⟩ := qCm hs d
 have hml : (qAn C (d - 1)).length = m := by rw [ha, qCk]
 have hnl : (qAn C d).length = n := by rw [hb, qCk]
 unfold z42.f bMat
 have ew : wrap64 (d - 1) = d - 1 := qAi oM_ oM_
 rw [ew]
 clear ew
 refine Ev.bind (qBz hl oM_ oM_) (Ev.bind (qBz hl oM_ oM_) (Ev.bind (qAr (qE9 _)) (Ev.bind (qAr (qE9 _)) (Ev.bind (qOh (p : Int) _ _ oM_ oM_) ?_))))
 dsimp only
 have hcol : ∀ (j : Nat) (s : List Int), j < n → s.length = m * n → Le (fun k => z42.l0 k (p : Int) (qAn C (d - 1)) (qAn C d) ((qAn C d).length : Int) (wrap64 ((j : Int) + 1)) C (p : Int) ((qAn C (d - 1)).length : Int) ((qAn C d).length : Int) (colG C d (p : Int) n j s))
   (fun k => z42.l1 k (p : Int) (qAn C (d - 1)) (qAn C d) (j : Int) ((qAn C d).length : Int) (j : Int) (colF C d j) ((colF C d j).length : Int) 0 C (p : Int) ((qAn C (d - 1)).length : Int) ((qAn C d).length : Int) s) := by
  intro j s hj hsl
  have hcl := qKw ho d j
  have h := (qBj (fun (t : List Int) (i : Nat) k => z42.l1 k (p : Int) (qAn C (d - 1)) (qAn C d) (j : Int) ((qAn C d).length : Int) (j : Int) (colF C d j) ((colF C d j).length : Int) (i : Int) C (p : Int) ((qAn C (d - 1)).length : Int) ((qAn C d).length : Int) t)
   (fun i s => s.set (((colF C d j).getD i 0 - (qAn C (d - 1)).getD 0 0).toNat * n + j) (sgn (p : Int) i)) (fun _ t => t.length = m * n) (colF C d j).length 0 s hsl (fun i t _ hi ht => ⟨fun r hr' => ?_, by rw [ym_]; exact ht⟩)).1
  ·refine Le.trans (fun r hr' => ?_) h
   refine Ev.step (fun k => z42.l1.eq_2 ..) ?_
   exact qAd oM_ hr'
  ·have hi' : i < (colF C d j).length := by omega
   obtain ⟨r0, hr0, hf⟩ := qH8 ho ha hb hj hi'
   have hlt : r0 * n + j < m * n := qCf hr0 hj
   have hmn : m * n ≤ 48 * 48 := yj_ oM_ oM_
   have hix := qL7 (a := a) (m := m) oM_ hr0
   rw [← ha, ← hf] at hix
   refine Ev.step (fun k => z42.l1.eq_2 ..) ?_
   refine qAa oM_ (qAa oM_ (qAa oM_ ?_))
   rw [qA0]
   refine Ev.bind hix (Ev.bind (qAr (qNd h2.2 i)) ?_)
   have e1 : wrap64 (wrap64 ((r0 : Int) * ((qAn C d).length : Int)) + (j : Int)) = ((r0 * n + j : Nat) : Int) := by
    rw [hnl, ← yi_, qAi (x := ((r0 * n : Nat) : Int)) oM_ oM_, qAi oM_ oM_]; omega
   have e2 : (((colF C d j).getD i 0) - (qAn C (d - 1)).getD 0 0).toNat = r0 := by
    rw [hf, ha, qCe oM_]; omega
   rw [e2] at hr'
   rw [e1]
   clear e1 e2 hf hix
   refine qAa oM_ (qAa oM_ ?_)
   rw [qAj oM_, yd_]
   exact hr'
 have hall := (qBj (fun (t : List Int) (j : Nat) k => z42.l0 k (p : Int) (qAn C (d - 1)) (qAn C d) ((qAn C d).length : Int) (j : Int) C (p : Int) ((qAn C (d - 1)).length : Int) ((qAn C d).length : Int) t)
  (colG C d (p : Int) n) (fun _ t => t.length = m * n ∧ Rng p t) n 0 (List.replicate (m * n) 0) ⟨by rw [yk_], fun z hz => by rw [(List.mem_replicate.1 hz).2]; omega⟩ (fun j t _ hj ht => ⟨fun r hr' => ?_, ?_⟩)).1
 ·have h : Ev (fun k => z42.l0 k (p : Int) (qAn C (d - 1)) (qAn C d) ((qAn C d).length : Int) ((0 + n : Nat) : Int) C (p : Int) ((qAn C (d - 1)).length : Int) ((qAn C d).length : Int) (iter (colG C d (p : Int) n) 0 n (List.replicate (m * n) 0))) (p, ((qAn C (d - 1)).length : Int), ((qAn C d).length : Int), qB8 C d (p : Int)) := by
   unfold qB8
   rw [hml, hnl]
   refine Ev.step (fun k => z42.l0.eq_2 ..) ?_
   exact qAd oM_ (Ev.now _)
  have := hall _ h
  rw [hml, hnl] at this ⊢
  exact this
 ·have hj' : j < n := by omega
  have hup : rd (qAn C d) (j : Int) = ((b + j : Nat) : Int) := by rw [qA0, hb, qCe hj']
  have hbC : b + j < C.length := by omega
  have hcF : qCb C (C.getD (b + j) []) = colF C d j := by
   unfold colF; rw [hb, qCe hj', yd_]
  refine Ev.step (fun k => z42.l0.eq_2 ..) ?_
  refine qAa oM_ (qAa oM_ (qAa oM_ ?_))
  rw [hup]
  have hfi := qGt hl hr hs hbC
  rw [hcF] at hfi
  refine Ev.bind hfi (hcol j t hj' ht.1 r ?_)
  rw [qAj oM_]; exact hr'
 ·have := qH7 (C := C) (d := d) (n := n) (j := j) h2.1 (p := (p : Int)) rfl (.inr trivial) ht.2
  exact ⟨this.1.trans ht.1, this.2⟩
theorem qKi {p : Nat} (hp : isP p = true) (ho : okC C = true) {d : Int} (h0 : 0 ≤ d) (h3 : d ≤ 4) (hm : (qAn C (d - 1)).length ≤ 48) (hn : (qAn C d).length ≤ 48) : Ev (fun k => z32.f k C d (p : Int)) (bMat C d (p : Int)) := by
 have h2 := qBr hp
 have hs := (qDj.1 ho).2.1
 obtain ⟨a, m, ha, ham, ham2⟩ := qCm hs (d - 1)
 obtain ⟨b, n, hb, hbn, hbn2⟩ := qCm hs d
 have hml : (qAn C (d - 1)).length = m := by rw [ha, qCk]
 have hnl : (qAn C d).length = n := by rw [hb, qCk]
 unfold z32.f bMat
 have ew : wrap64 (d - 1) = d - 1 := qAi oM_ oM_
 rw [ew]
 clear ew
 refine Ev.bind (qDc hl oM_ oM_) (Ev.bind (qDc hl oM_ oM_) (Ev.bind (qAr (qLf (p : Int) _ _ oM_ oM_)) ?_))
 dsimp only
 rcases Int.lt_or_le 0 d with hd0 | hd0
 ·have hdec : decide (d > 0) = true := decide_eq_true hd0
  have hcol : ∀ (j : Nat) (s : List Int), j < n → s.length = m * n → Le (fun k => z32.l0 k d (p : Int) (qAn C d) (qAn C (d - 1)) (wrap64 ((j : Int) + 1)) C (p : Int) ((qAn C (d - 1)).length : Int) ((qAn C d).length : Int) (colG C d (p : Int) n j s))
    (fun k => z32.l1 k d (p : Int) (qAn C d) (qAn C (d - 1)) (j : Int) (colF C d j) 0 C (p : Int) ((qAn C (d - 1)).length : Int) ((qAn C d).length : Int) s) := by
   intro j s hj hsl
   have hcl := qKw ho d j
   have h := (qBj (fun (t : List Int) (i : Nat) k => z32.l1 k d (p : Int) (qAn C d) (qAn C (d - 1)) (j : Int) (colF C d j) (i : Int) C (p : Int) ((qAn C (d - 1)).length : Int) ((qAn C d).length : Int) t)
    (fun i s => s.set (((colF C d j).getD i 0 - (qAn C (d - 1)).getD 0 0).toNat * n + j) (sgn (p : Int) i)) (fun _ t => t.length = m * n) (colF C d j).length 0 s hsl (fun i t _ hi ht => ⟨fun r hr' => ?_, by rw [ym_]; exact ht⟩)).1
   ·refine Le.trans (fun r hr' => ?_) h
    refine Ev.step (fun k => z32.l1.eq_2 ..) ?_
    exact qAd oM_ hr'
   ·have hi' : i < (colF C d j).length := by omega
    obtain ⟨r0, hr0, hf⟩ := qH8 ho ha hb hj hi'
    have hlt : r0 * n + j < m * n := qCf hr0 hj
    have hmn : m * n ≤ 48 * 48 := yj_ oM_ oM_
    have e2 : (((colF C d j).getD i 0) - (qAn C (d - 1)).getD 0 0).toNat = r0 := by
     rw [hf, ha, qCe oM_]; omega
    have e1 : wrap64 (wrap64 (wrap64 (rd (colF C d j) (i : Int) - rd (qAn C (d - 1)) 0) * ((qAn C d).length : Int)) + (j : Int)) = ((r0 * n + j : Nat) : Int) := by
     have e3 : rd (qAn C (d - 1)) 0 = (a : Int) := by
      have := qA0 (qAn C (d - 1)) 0
      rw [ha, qCe oM_] at this
      rw [ha]; simpa using this
     have e4 : wrap64 (((a + r0 : Nat) : Int) - (a : Int)) = (r0 : Int) := by rw [qAi oM_ oM_]; omega
     rw [qA0, hf, e3, e4, hnl, ← yi_, qAi (x := ((r0 * n : Nat) : Int)) oM_ oM_, qAi oM_ oM_]; omega
    refine Ev.step (fun k => z32.l1.eq_2 ..) ?_
    rw [e2] at hr'
    rw [e1]
    clear e1 e2 hf
    refine qAa oM_ (qAa oM_ (qAa oM_ (Ev.bind (qAr (qNc h2.1 h2.2 i)) (qAa oM_ (qAa oM_ ?_)))))
    rw [qAj oM_, yd_]
    exact hr'
  have hall := (qBj (fun (t : List Int) (j : Nat) k => z32.l0 k d (p : Int) (qAn C d) (qAn C (d - 1)) (j : Int) C (p : Int) ((qAn C (d - 1)).length : Int) ((qAn C d).length : Int) t)
   (colG C d (p : Int) n) (fun _ t => t.length = m * n ∧ Rng p t) n 0 (List.replicate (m * n) 0) ⟨by rw [yk_], fun z hz => by rw [(List.mem_replicate.1 hz).2]; omega⟩ (fun j t _ hj ht => ⟨fun r hr' => ?_, ?_⟩)).1
  ·have h : Ev (fun k => z32.l0 k d (p : Int) (qAn C d) (qAn C (d - 1)) ((0 + n : Nat) : Int) C (p : Int) ((qAn C (d - 1)).length : Int) ((qAn C d).length : Int) (iter (colG C d (p : Int) n) 0 n (List.replicate (m * n) 0))) (p, ((qAn C (d - 1)).length : Int), ((qAn C d).length : Int), qB8 C d (p : Int)) := by
    unfold qB8
    rw [hml, hnl]
    refine Ev.step (fun k => z32.l0.eq_2 ..) ?_
    refine qAd oM_ ?_
    refine Ev.step (fun k => z32.j1.eq_2 ..) ?_
    exact qAd (by decide) (Ev.now _)
   have := hall _ h
   rw [hml, hnl] at this ⊢
   exact this
  ·have hj' : j < n := by omega
   have hup : rd (qAn C d) (j : Int) = ((b + j : Nat) : Int) := by rw [qA0, hb, qCe hj']
   have hbC : b + j < C.length := by omega
   have hcF : qCb C (C.getD (b + j) []) = colF C d j := by
    unfold colF; rw [hb, qCe hj', yd_]
   have hfi := qIs hl hr hbC
   rw [hcF] at hfi
   refine Ev.step (fun k => z32.l0.eq_2 ..) ?_
   refine qAa oM_ ?_
   rw [hdec]
   refine Ev.step (fun k => z32.j1.eq_2 ..) ?_
   refine qAa rfl (qAa oM_ (qAa oM_ ?_))
   rw [hup]
   refine Ev.bind hfi (hcol j t hj' ht.1 r ?_)
   rw [qAj oM_]; exact hr'
  ·have := qH7 (C := C) (d := d) (n := n) (j := j) h2.1 (p := (p : Int)) rfl (.inr trivial) ht.2
   exact ⟨this.1.trans ht.1, this.2⟩
 ·have hd : d = 0 := by omega
  subst hd
  have hm0 : m = 0 := by
   rcases Nat.eq_zero_or_pos m with h | h
   ·exact h
   ·have h5 := ham2 0 h
    have h6 := (qC0 ((qDj.1 ho).2.2.1 _ (qAu [] (show a + 0 < C.length by omega)))).1
    omega
  have hcells : qB8 C 0 (p : Int) = List.replicate ((qAn C (0 - 1)).length * (qAn C 0).length) 0 := by
   have := (qGb C 0 h2.1).1
   rw [hml, hm0, Nat.zero_mul] at this ⊢
   exact List.eq_nil_of_length_eq_zero this
  rw [hcells]
  refine Ev.step (fun k => z32.l0.eq_2 ..) ?_
  have hdec : decide ((0 : Int) > 0) = false := by decide
  rw [hdec]
  have hj : Ev (fun k => z32.j1 k 0 (p : Int) (qAn C 0) (qAn C (0 - 1)) 0 false C (p : Int) ((qAn C (0 - 1)).length : Int) ((qAn C 0).length : Int) (List.replicate ((qAn C (0 - 1)).length * (qAn C 0).length) 0)) (p, ((qAn C (0 - 1)).length : Int), ((qAn C 0).length : Int), List.replicate ((qAn C (0 - 1)).length * (qAn C 0).length) 0) := by
   refine Ev.step (fun k => z32.j1.eq_2 ..) ?_
   exact qAd (by decide) (Ev.now _)
  by_cases h : (0 : Int) < ((qAn C 0).length : Int)
  ·exact qAa h hj
  ·exact qAd h hj
end
end Go.Proofs.Ytpgjfppbbbnclaa.B
set_option linter.unusedVariables false
set_option linter.unusedSimpArgs false
namespace Go.Proofs.Ytpgjfppbbbnclaa.B
open Go.RowKit Go.Proofs.YtpgjfppbbbnclaaW.PrintWords
open SimT
theorem incR {l : List Int} (h : qCl l = true) : Inc l := by
 unfold qCl at h
 rw [yo_] at h
 have main : ∀ d i, i + d + 1 < l.length → l.getD i 0 < l.getD (i + d + 1) 0 := by
  intro d
  induction d with
  | zero =>
   intro i hi
   have := h (i + 1) (yc_.2 hi)
   unfold qE7 at this
   simpa using this
  | succ d ih =>
   intro i hi
   have h1 := ih i oM_
   have h2 := h (i + d + 2) (yc_.2 oM_)
   unfold qE7 at h2
   have h2 : l.getD (i + d + 1) 0 < l.getD (i + d + 2) 0 := by simpa using h2
   exact Int.lt_trans h1 h2
 refine List.pairwise_iff_getElem.2 (fun i j hi hj hij => ?_)
 have := main (j - i - 1) i oM_
 rw [show i + (j - i - 1) + 1 = j by omega] at this
 simpa [ya_, yb_ hj, yb_ hi] using this
theorem qOo {l : List Int} (h : Inc l) : qCl l = true := by
 unfold qCl
 rw [yo_]
 intro i hi
 rw [yc_] at hi
 unfold qE7
 rcases Nat.eq_zero_or_pos i with h0 | h0
 ·subst h0; rfl
 ·have := List.pairwise_iff_getElem.1 h (i - 1) i oM_ hi oM_
  have h2 : l.getD (i - 1) 0 < l.getD i 0 := by
   simpa [ya_, yb_ hi, yb_ (show i - 1 < l.length by omega)] using this
  rw [decide_eq_true h2, Bool.or_true]
theorem qNb {s : List Int} : qBn s = true ↔ (1 ≤ s.length ∧ s.length ≤ 4) ∧ Inc s ∧ ∀ v ∈ s, 0 ≤ v ∧ v ≤ 9 := by
 unfold qBn
 simp only [ye_, decide_eq_true_eq, yo_]
 exact ⟨fun ⟨h1, h2, h3⟩ => ⟨h1, incR h2, h3⟩, fun ⟨h1, h2, h3⟩ => ⟨h1, qOo h2, h3⟩⟩
end Go.Proofs.Ytpgjfppbbbnclaa.B
set_option linter.unusedVariables false
set_option linter.unusedSimpArgs false
namespace Go.Proofs.Ytpgjfppbbbnclaa.B
open Go.RowKit Go.Proofs.YtpgjfppbbbnclaaW.PrintWords
open SimT LinT
theorem qLr {n j m K : Nat} {F : Nat → Nat} {g : Nat → Int} (hj : j < n) (hF : ∀ k, k < K → F k < m) (hinj : ∀ k k', k < K → k' < K → F k = F k' → k = k') {s : List Int} (hs : s.length = m * n) (hz : ∀ i, i < m → fl n s i j = 0) :
  ∀ t, t ≤ K → (iter (fun k s => s.set (F k * n + j) (g k)) 0 t s).length = m * n ∧ ∀ i j', i < m → j' < n → fl n (iter (fun k s => s.set (F k * n + j) (g k)) 0 t s) i j' = if j' = j then sm (fun k => if F k = i then g k else 0) t else fl n s i j'
 | 0, _ => ⟨hs, fun i j' hi hj' => by
  show fl n s i j' = _
  by_cases e : j' = j
  ·rw [if_pos e, e, hz i hi]; rfl
  ·rw [if_neg e]⟩
 | t + 1, ht => by
  obtain ⟨h1, h2⟩ := qLr (g := g) hj hF hinj hs hz t oM_
  have hFt := hF t oM_
  have hlt := qCf hFt hj
  rw [qF2, Nat.zero_add]
  refine ⟨by rw [ym_, h1], fun i j' hi hj' => ?_⟩
  rw [qKr _ _ hj hj' (by rw [h1]; exact hlt), h2 i j' hi hj']
  by_cases e : j' = j
  ·rw [if_pos e, if_pos e]
   show _ = sm (fun k => if F k = i then g k else 0) t + (if F t = i then g t else 0)
   by_cases e2 : i = F t
   ·have hzz : sm (fun k => if F k = i then g k else 0) t = 0 := by
     rw [qBl t (g := fun _ => 0) (fun k hk => by rw [if_neg]; intro h; have := hinj k t oM_ oM_ (by rw [h, e2]); omega)]
     exact qFj t
    rw [if_pos ⟨e2, e⟩, hzz, if_pos e2.symm, Int.zero_add]
   ·rw [if_neg (fun h => e2 h.1), if_neg (fun h => e2 h.symm), Int.add_zero]
  ·rw [if_neg (fun h => e h.2), if_neg e, if_neg e]
theorem qPc {s : List Int} (hs : Inc s) {k k' : Nat} (hk : k < s.length) (hk' : k' < s.length) (h : drp s k = drp s k') : k = k' := by
 rcases yh_ k k' with hl | he | hg
 ·exfalso
  have hm : s[k] ∈ drp s k' := by
   rw [qF8]; exact List.mem_eraseIdx_iff_getElem.2 ⟨k, hk, by omega, rfl⟩
  rw [← h, qF8] at hm
  obtain ⟨i, hi, hne, e⟩ := List.mem_eraseIdx_iff_getElem.1 hm
  rcases Nat.lt_or_gt_of_ne hne with h1 | h1
  ·have := List.pairwise_iff_getElem.1 hs i k hi hk h1; omega
  ·have := List.pairwise_iff_getElem.1 hs k i hk hi h1; omega
 ·exact he
 ·exfalso
  have hm : s[k] ∈ drp s k' := by
   rw [qF8]; exact List.mem_eraseIdx_iff_getElem.2 ⟨k, hk, by omega, rfl⟩
  rw [← h, qF8] at hm
  obtain ⟨i, hi, hne, e⟩ := List.mem_eraseIdx_iff_getElem.1 hm
  rcases Nat.lt_or_gt_of_ne hne with h1 | h1
  ·have := List.pairwise_iff_getElem.1 hs i k hi hk h1; omega
  ·have := List.pairwise_iff_getElem.1 hs k i hk hi h1; omega
def bEnt (p : Int) (u s : List Int) : Int := sm (fun k => if drp s k = u then sgn p k else 0) s.length
theorem qKx {C : List (List Int)} (ho : okC C = true) {d : Int} (hd : 1 ≤ d) {a m b n : Nat} (ha : qAn C (d - 1) = run a m) (hb : qAn C d = run b n) {j : Nat} (hj : j < n) :
  (colF C d j).length = (C.getD (b + j) []).length ∧ ∀ k, k < (C.getD (b + j) []).length → ∃ r, r < m ∧ (colF C d j).getD k 0 = ((a + r : Nat) : Int) ∧ C.getD (a + r) [] = drp (C.getD (b + j) []) k := by
 have hmem : ((b + j : Nat) : Int) ∈ qAn C d := by rw [hb]; unfold run; exact ys_.2 ⟨j, yc_.2 hj, rfl⟩
 obtain ⟨i0, hi0, hp0, he0⟩ := qEe.1 hmem
 have : i0 = b + j := by omega
 subst this
 have hlen := of_decide_eq_true hp0
 have e : colF C d j = (List.range (C.getD (b + j) []).length).map fun k => idx C (drp (C.getD (b + j) []) k) := by
  unfold colF qCb qBi
  rw [hb, qCe hj, yd_, if_pos oM_, List.map_map]; rfl
 have hlc : (colF C d j).length = (C.getD (b + j) []).length := by rw [e]; simp
 refine ⟨hlc, fun k hk => ?_⟩
 obtain ⟨r, hr, hf⟩ := qH8 ho ha hb hj (i := k) oM_
 refine ⟨r, hr, hf, ?_⟩
 have hin := (qDj.1 ho).2.2.2 _ (qAu [] hi0) oM_ k hk
 obtain ⟨q, hq, hq1, hq2, _⟩ := qEt hin
 have : (colF C d j).getD k 0 = idx C (drp (C.getD (b + j) []) k) := by
  rw [e, ya_, List.getElem?_map, List.getElem?_range hk]; rfl
 rw [hf, hq1] at this
 have : a + r = q := by omega
 rw [this, hq2]
theorem qB1 {C : List (List Int)} {d : Int} {b n : Nat} (hb : qAn C d = run b n) {j : Nat} (hj : j < n) : b + j < C.length ∧ ((C.getD (b + j) []).length : Int) = d + 1 := by
 have hmem : ((b + j : Nat) : Int) ∈ qAn C d := by rw [hb]; unfold run; exact ys_.2 ⟨j, yc_.2 hj, rfl⟩
 obtain ⟨i0, hi0, hp0, he0⟩ := qEe.1 hmem
 have : i0 = b + j := by omega
 subst this
 exact ⟨hi0, of_decide_eq_true hp0⟩
theorem qI7 {C : List (List Int)} (hs : Srt C) {i j : Nat} (hi : i < C.length) (hj : j < C.length) (h : C.getD i [] = C.getD j []) : i = j := by
 rcases yh_ i j with hl | he | hg
 ·exact absurd h (qN3 (qD1 hs hl hj))
 ·exact he
 ·exact absurd h.symm (qN3 (qD1 hs hg hi))
theorem qHl {C : List (List Int)} (ho : okC C = true) {d : Int} (hd : 1 ≤ d) {p : Nat} {a m b n : Nat} (ha : qAn C (d - 1) = run a m) (hb : qAn C d = run b n) {i j : Nat} (hi : i < m) (hj : j < n) :
  fl n (qB8 C d (p : Int)) i j = bEnt (p : Int) (C.getD (a + i) []) (C.getD (b + j) []) := by
 have hml : (qAn C (d - 1)).length = m := by rw [ha, qCk]
 have hnl : (qAn C d).length = n := by rw [hb, qCk]
 obtain ⟨_, hsrt, hsx, _⟩ := qDj.1 ho
 have hbase : (qAn C (d - 1)).getD 0 0 = (a : Int) := by rw [ha, qCe oM_]; rfl
 have main : ∀ t, t ≤ n → (iter (colG C d (p : Int) n) 0 t (List.replicate (m * n) 0)).length = m * n ∧ ∀ i j', i < m → j' < n → fl n (iter (colG C d (p : Int) n) 0 t (List.replicate (m * n) 0)) i j' = if j' < t then bEnt (p : Int) (C.getD (a + i) []) (C.getD (b + j') []) else 0 := by
  intro t
  induction t with
  | zero =>
   intro _
   refine ⟨by simp [iter], fun i j' hi hj' => ?_⟩
   rw [if_neg (Nat.not_lt_zero _)]
   show (List.replicate (m * n) (0 : Int)).getD (i * n + j') 0 = 0
   rw [ya_, List.getElem?_replicate]
   split <;> rfl
  | succ t ih =>
   intro ht
   obtain ⟨h1, h2⟩ := ih oM_
   obtain ⟨c1, c2⟩ := qKx ho hd ha hb (j := t) oM_
   obtain ⟨hbt, hbl⟩ := qB1 hb (j := t) oM_
   have hinc := (qNb.1 (hsx _ (qAu [] hbt))).2.1
   have hFr : ∀ k, k < (colF C d t).length → ((colF C d t).getD k 0 - (qAn C (d - 1)).getD 0 0).toNat < m ∧ C.getD (a + ((colF C d t).getD k 0 - (qAn C (d - 1)).getD 0 0).toNat) [] = drp (C.getD (b + t) []) k := fun k hk => by
    obtain ⟨r, r1, r2, r3⟩ := c2 k oM_
    rw [r2, hbase, show (((a + r : Nat) : Int) - (a : Int)).toNat = r by omega]
    exact ⟨r1, r3⟩
   have hset := qLr (n := n) (j := t) (m := m) (K := (colF C d t).length) (F := fun k => ((colF C d t).getD k 0 - (qAn C (d - 1)).getD 0 0).toNat) (g := fun k => sgn (p : Int) k) oM_ (fun k hk => (hFr k hk).1) (fun k k' hk hk' e => by
    have e1 := (hFr k hk).2
    have e2 := (hFr k' hk').2
    have e' : ((colF C d t).getD k 0 - (qAn C (d - 1)).getD 0 0).toNat = ((colF C d t).getD k' 0 - (qAn C (d - 1)).getD 0 0).toNat := e
    rw [e'] at e1
    exact qPc hinc oM_ oM_ (e1.symm.trans e2)) h1 (fun i hi => by rw [h2 i t hi oM_, if_neg (Nat.lt_irrefl _)]) (colF C d t).length (Nat.le_refl _)
   have estep : iter (colG C d (p : Int) n) 0 (t + 1) (List.replicate (m * n) 0) = colG C d (p : Int) n t (iter (colG C d (p : Int) n) 0 t (List.replicate (m * n) 0)) := by rw [qF2, Nat.zero_add]
   rw [estep]
   refine ⟨hset.1, fun i j' hi hj' => ?_⟩
   have := hset.2 i j' hi hj'
   refine this.trans ?_
   by_cases e : j' = t
   ·rw [if_pos e, if_pos oM_, e]
    unfold bEnt
    rw [c1]
    refine qBl _ fun k hk => ?_
    obtain ⟨f1, f2⟩ := hFr k oM_
    obtain ⟨hai, _⟩ := qB1 ha hi
    obtain ⟨haf, _⟩ := qB1 ha f1
    by_cases e3 : drp (C.getD (b + t) []) k = C.getD (a + i) []
    ·rw [if_pos e3, if_pos]
     have := qI7 hsrt haf hai (by rw [f2, e3])
     show ((colF C d t).getD k 0 - (qAn C (d - 1)).getD 0 0).toNat = i
     omega
    ·rw [if_neg e3, if_neg]
     intro h
     have h' : ((colF C d t).getD k 0 - (qAn C (d - 1)).getD 0 0).toNat = i := h
     rw [h'] at f2
     exact e3 f2.symm
   ·rw [if_neg e, h2 i j' hi hj']
    by_cases e2 : j' < t
    ·rw [if_pos e2, if_pos oM_]
    ·rw [if_neg e2, if_neg oM_]
 unfold qB8
 rw [hml, hnl, (main n (Nat.le_refl _)).2 i j hi hj, if_pos hj]
theorem qLp {f : Nat → Int} (i0 : Nat) : ∀ n, i0 < n → (∀ i, i < n → i ≠ i0 → f i = 0) → sm f n = f i0
 | 0, h, _ => absurd h (Nat.not_lt_zero _)
 | n + 1, h, hz => by
  show sm f n + f n = f i0
  by_cases e : i0 = n
  ·rw [qBl n (g := fun _ => 0) (fun i hi => hz i oM_ oM_), qFj, e, Int.zero_add]
  ·rw [qLp i0 n oM_ (fun i hi => hz i oM_), hz n oM_ oM_, Int.add_zero]
theorem qJe (p : Int) (u t : List Int) (h : t.length = 3 ∨ t.length = 4) : p ∣ sm (fun k => sgn p k * bEnt p u (drp t k)) t.length := by
 have ind : ∀ l : List Int, (if l = u then p - 1 else 0) = (p - 1) * (if l = u then 1 else 0) := fun l => by split <;> simp
 have s0 : sgn p 0 = 1 := rfl
 have s1 : sgn p 1 = p - 1 := rfl
 have s2 : sgn p 2 = 1 := rfl
 have s3 : sgn p 3 = p - 1 := rfl
 rcases h with h | h
 ·obtain ⟨a, b, c, rfl⟩ : ∃ a b c, t = [a, b, c] := by
   match t, h with
   | [a, b, c], _ => exact ⟨a, b, c, rfl⟩
  show p ∣ (((0 + sgn p 0 * ((0 + (if [c] = u then sgn p 0 else 0)) + (if [b] = u then sgn p 1 else 0))) + sgn p 1 * ((0 + (if [c] = u then sgn p 0 else 0)) + (if [a] = u then sgn p 1 else 0))) + sgn p 2 * ((0 + (if [b] = u then sgn p 0 else 0)) + (if [a] = u then sgn p 1 else 0)))
  rw [s0, s1, s2]
  simp only [ind]
  generalize (if [c] = u then (1 : Int) else 0) = x0
  generalize (if [b] = u then (1 : Int) else 0) = x1
  generalize (if [a] = u then (1 : Int) else 0) = x2
  exact ⟨x0 * 1 + x1 * 1 + x2 * (p - 1), by grind⟩
 ·obtain ⟨a, b, c, e, rfl⟩ : ∃ a b c e, t = [a, b, c, e] := by
   match t, h with
   | [a, b, c, e], _ => exact ⟨a, b, c, e, rfl⟩
  show p ∣ ((((0 + sgn p 0 * (((0 + (if [c, e] = u then sgn p 0 else 0)) + (if [b, e] = u then sgn p 1 else 0)) + (if [b, c] = u then sgn p 2 else 0))) + sgn p 1 * (((0 + (if [c, e] = u then sgn p 0 else 0)) + (if [a, e] = u then sgn p 1 else 0)) + (if [a, c] = u then sgn p 2 else 0))) + sgn p 2 * (((0 + (if [b, e] = u then sgn p 0 else 0)) + (if [a, e] = u then sgn p 1 else 0)) + (if [a, b] = u then sgn p 2 else 0))) + sgn p 3 * (((0 + (if [b, c] = u then sgn p 0 else 0)) + (if [a, c] = u then sgn p 1 else 0)) + (if [a, b] = u then sgn p 2 else 0)))
  rw [s0, s1, s2, s3]
  simp only [ind]
  generalize (if [c, e] = u then (1 : Int) else 0) = x0
  generalize (if [b, e] = u then (1 : Int) else 0) = x1
  generalize (if [b, c] = u then (1 : Int) else 0) = x2
  generalize (if [a, e] = u then (1 : Int) else 0) = x3
  generalize (if [a, c] = u then (1 : Int) else 0) = x4
  generalize (if [a, b] = u then (1 : Int) else 0) = x5
  exact ⟨x0 * 1 + x1 * 1 + x2 * 1 + x3 * (p - 1) + x4 * (p - 1) + x5 * 1, by grind⟩
theorem qPe {C : List (List Int)} (ho : okC C = true) {d : Int} (h0 : 0 ≤ d) {p : Nat} {i j : Nat} (hi : i < (qAn C (d - 1)).length) (hj : j < (qAn C (d + 1)).length) :
  (p : Int) ∣ sm (fun l => fl (qAn C d).length (qB8 C d (p : Int)) i l * fl (qAn C (d + 1)).length (qB8 C (d + 1) (p : Int)) l j) (qAn C d).length := by
 obtain ⟨_, hsrt, hsx, hcl⟩ := qDj.1 ho
 obtain ⟨a, m, ha, _, _⟩ := qCm hsrt (d - 1)
 obtain ⟨b, n, hb, _, _⟩ := qCm hsrt d
 obtain ⟨c, k, hc, _, _⟩ := qCm hsrt (d + 1)
 have e1 : d + 1 - 1 = d := by omega
 have hml : (qAn C (d - 1)).length = m := by rw [ha, qCk]
 have hnl : (qAn C d).length = n := by rw [hb, qCk]
 have hkl : (qAn C (d + 1)).length = k := by rw [hc, qCk]
 rw [hml] at hi
 rw [hkl] at hj
 rw [hnl, hkl]
 obtain ⟨hai, hail⟩ := qB1 ha hi
 obtain ⟨hcj, hcjl⟩ := qB1 hc hj
 have hl1 := (qC0 (hsx _ (qAu [] hai)))
 have hl2 := (qC0 (hsx _ (qAu [] hcj)))
 have hd1 : 1 ≤ d := by omega
 -- the first matrix by its simplices, summed over the qBi
 have h2 : ∀ l, l < n → fl k (qB8 C (d + 1) (p : Int)) l j = bEnt (p : Int) (C.getD (b + l) []) (C.getD (c + j) []) := fun l hl => qHl ho (d := d + 1) oM_ (by rw [e1]; exact hb) hc hl hj
 have h1 : ∀ l, l < n → fl n (qB8 C d (p : Int)) i l = bEnt (p : Int) (C.getD (a + i) []) (C.getD (b + l) []) := fun l hl => qHl ho hd1 ha hb hi hl
 obtain ⟨_, hcol⟩ := qKx ho (d := d + 1) oM_ (by rw [e1]; exact hb) hc hj
 have e2 : sm (fun l => fl n (qB8 C d (p : Int)) i l * fl k (qB8 C (d + 1) (p : Int)) l j) n = sm (fun f => sgn (p : Int) f * bEnt (p : Int) (C.getD (a + i) []) (drp (C.getD (c + j) []) f)) (C.getD (c + j) []).length := by
  rw [qBl n (g := fun l => sm (fun f => bEnt (p : Int) (C.getD (a + i) []) (C.getD (b + l) []) * (if drp (C.getD (c + j) []) f = C.getD (b + l) [] then sgn (p : Int) f else 0)) (C.getD (c + j) []).length) (fun l hl => by
   rw [h1 l hl, h2 l hl]
   show bEnt _ _ _ * sm (fun k => if drp (C.getD (c + j) []) k = C.getD (b + l) [] then sgn (p : Int) k else 0) (C.getD (c + j) []).length = _
   rw [← qFk]), qJw]
  refine qBl _ fun f hf => ?_
  obtain ⟨r, r1, r2, r3⟩ := hcol f hf
  rw [qLp r n r1 (fun l hl hne => by
   rw [if_neg, Int.mul_zero]
   intro h
   have hbl := (qB1 hb hl).1
   have hbr := (qB1 hb r1).1
   have := qI7 hsrt hbr hbl (r3.trans h)
   omega), r3, if_pos rfl, Int.mul_comm]
 rw [e2]
 exact qJe _ _ _ oM_
end Go.Proofs.Ytpgjfppbbbnclaa.B
set_option linter.unusedVariables false
set_option linter.unusedSimpArgs false
namespace Go.Proofs.Ytpgjfppbbbnclaa.B
open Go.RowKit Go.Proofs.YtpgjfppbbbnclaaW.PrintWords
open LinT
theorem qO2 (l : List (List Int)) (c : Nat) (hc : ∀ x, x ∈ l → c < x.length) (hl : l.length ≤ 1048576) :
  ∃ t : Int, Ev (fun k => z127.f k l (c : Int)) t ∧ ((t = -1 ∧ ∀ i, i < l.length → rw' l i c = 0) ∨ ∃ i : Nat, t = (i : Int) ∧ i < l.length ∧ rw' l i c ≠ 0) := by
 unfold z127.f
 have main : ∀ (d i : Nat), i + d = l.length → (∀ j, j < i → rw' l j c = 0) → ∃ t : Int, Ev (fun k => z127.l0 k l (l.length : Int) (i : Int) (c : Int)) t ∧ ((t = -1 ∧ ∀ i, i < l.length → rw' l i c = 0) ∨ ∃ i : Nat, t = (i : Int) ∧ i < l.length ∧ rw' l i c ≠ 0) := by
  intro d
  induction d with
  | zero =>
   intro i hi hz
   refine ⟨-1, ?_, .inl ⟨rfl, fun j hj => hz j oM_⟩⟩
   refine Ev.step (fun k => z127.l0.eq_2 ..) ?_
   exact qAd oM_ (Ev.now _)
  | succ d ih =>
   intro i hi hz
   have hlen := hc (l.getD i []) (qAu [] oM_)
   have hv : z87.f (rI_ l (i : Int)) (c : Int) = some (rw' l i c != 0) := by
    unfold z87.f
    rw [qA2, if_pos oM_, if_pos oM_, qA0]; rfl
   by_cases h : rw' l i c = 0
   ·obtain ⟨t, ht, hh⟩ := ih (i + 1) oM_ (fun j hj => by
     rcases Nat.lt_or_ge j i with h1 | h1
     ·exact hz j h1
     ·have : j = i := by omega
      rw [this]; exact h)
    refine ⟨t, ?_, hh⟩
    refine Ev.step (fun k => z127.l0.eq_2 ..) ?_
    (repeat (first | refine qAa oM_ ?_ | refine qAd oM_ ?_))
    refine Ev.bind (qAr hv) (qAd (by rw [h]; decide) ?_)
    rw [qAj oM_]; exact ht
   ·refine ⟨(i : Int), ?_, .inr ⟨i, rfl, by omega, h⟩⟩
    refine Ev.step (fun k => z127.l0.eq_2 ..) ?_
    (repeat (first | refine qAa oM_ ?_ | refine qAd oM_ ?_))
    exact Ev.bind (qAr hv) (qAa (by simpa using h) (Ev.now _))
 exact main l.length 0 oM_ (fun j hj => by omega)
theorem qCv {p : Int} {n : Nat} {R : List (List Int)} (h : Vs p n R) {i : Nat} (hi : i < R.length) : (R.getD i []).length = n := (h _ (qAu [] hi)).1
theorem qC9 {p : Nat} {n : Nat} {R : List (List Int)} (h : Vs (p : Int) n R) {i : Nat} (hi : i < R.length) : Rng p (R.getD i []) := (h _ (qAu [] hi)).2
theorem qLg {p : Int} {n : Nat} {R : List (List Int)} (h : Vs p n R) (i : Nat) {x : List Int} (hx : x.length = n) (hr : ∀ y, y ∈ x → 0 ≤ y ∧ y < p) : Vs p n (R.set i x) := by
 intro y hy
 rcases List.mem_or_eq_of_mem_set hy with h1 | h1
 ·exact h y h1
 ·rw [h1]; exact ⟨hx, hr⟩
theorem qB5 {R : List (List Int)} {a : Nat} (b : Nat) (x : List Int) (ha : a < R.length) : (R.set a x).getD b [] = if b = a then x else R.getD b [] := by
 rw [ya_, List.getElem?_set, ya_]
 by_cases h : b = a
 ·subst h; simp [ha]
 ·rw [if_neg (Ne.symm h), if_neg h]
def clr (p top c : Nat) (R : List (List Int)) (i : Nat) : List Int :=
 if i = top then R.getD i [] else if rw' R i c = 0 then R.getD i [] else addT p (R.getD i []) (R.getD top []) ((p : Int) - rw' R i c)
structure Clr (p n top c : Nat) (R0 : List (List Int)) (i : Nat) (R : List (List Int)) : Prop where
 len : R.length = R0.length
 at_ : ∀ j, j < R0.length → R.getD j [] = if j < i then clr p top c R0 j else R0.getD j []
theorem clr_ok {p n : Nat} (hp : 0 < p) {top c : Nat} {R : List (List Int)} (h : Vs (p : Int) n R) {i : Nat} (hi : i < R.length) : (clr p top c R i).length = n ∧ Rng p (clr p top c R i) := by
 unfold clr
 split
 ·exact ⟨qCv h hi, qC9 h hi⟩
 ·split
  ·exact ⟨qCv h hi, qC9 h hi⟩
  ·exact ⟨by rw [qIe, qCv h hi], qId hp _ _ _⟩
theorem Clr.vs {p n : Nat} (hp : 0 < p) {top c : Nat} {R0 R : List (List Int)} {i : Nat} (h0 : Vs (p : Int) n R0) (h : Clr p n top c R0 i R) : Vs (p : Int) n R := by
 intro x hx
 obtain ⟨j, hj, rfl⟩ := List.getElem_of_mem hx
 have e : R[j] = R.getD j [] := by rw [ya_, yb_ hj]; rfl
 have hj0 : j < R0.length := by rw [← h.len]; exact hj
 rw [e, h.at_ j hj0]
 split
 ·exact clr_ok hp h0 hj0
 ·exact ⟨qCv h0 hj0, qC9 h0 hj0⟩
theorem qNx {p n : Nat} (hp : isP p = true) (hn : n ≤ 1048576) {top c : Nat} (hc : c < n) {R0 : List (List Int)} (hv : Vs (p : Int) n R0) (ht : top < R0.length) (hm : R0.length ≤ 1048576) (q : List Int) (hq : q.length ≤ 1048576) (det : Int) {β : Int × Int} :
  ∃ R, Clr p n top c R0 R0.length R ∧ ∀ r, Ev (fun k => z64.l0 k R (n : Int) (p : Int) (q ++ [(c : Int)]) det (n : Int) ((c + 1 : Nat) : Int)) r →
   Ev (fun k => z64.l1 k R0 (n : Int) (p : Int) q det (top : Int) (n : Int) (c : Int) (R0.length : Int) 0 (c : Int)) r := by
 have h2 := qBr hp
 have main : ∀ (d i : Nat) (R : List (List Int)), i + d = R0.length → Clr p n top c R0 i R → ∃ R', Clr p n top c R0 R0.length R' ∧ ∀ r, Ev (fun k => z64.l0 k R' (n : Int) (p : Int) (q ++ [(c : Int)]) det (n : Int) ((c + 1 : Nat) : Int)) r →
   Ev (fun k => z64.l1 k R (n : Int) (p : Int) q det (top : Int) (n : Int) (c : Int) (R0.length : Int) (i : Int) (c : Int)) r := by
  intro d
  induction d with
  | zero =>
   intro i R hi hR
   have : i = R0.length := by omega
   subst this
   refine ⟨R, hR, fun r hr => ?_⟩
   refine Ev.step (fun k => z64.l1.eq_2 ..) ?_
   refine qAd oM_ (qAa oM_ ?_)
   rw [qAj oM_]; exact hr
  | succ d ih =>
   intro i R hi hR
   have hRv := hR.vs oM_ hv
   have hRl := hR.len
   have hrow : R.getD i [] = R0.getD i [] := by rw [hR.at_ i oM_, if_neg oM_]
   have htop : R.getD top [] = R0.getD top [] := by
    rw [hR.at_ top ht]
    split
    ·unfold clr; rw [if_pos rfl]
    ·rfl
   have hlen := qCv hv (i := i) oM_
   have hval : rd (rI_ R (i : Int)) (c : Int) = rw' R0 i c := by rw [qA2, qA0, hrow]; rfl
   by_cases h1 : i = top
   ·obtain ⟨R', h3, h4⟩ := ih (i + 1) R oM_ ⟨hRl, fun j hj => by
     rw [hR.at_ j hj]
     by_cases hji : j = i
     ·rw [hji, if_neg (Nat.lt_irrefl i), if_pos (Nat.lt_succ_self i)]; unfold clr; rw [if_pos h1]
     ·by_cases hjl : j < i
      ·rw [if_pos hjl, if_pos oM_]
      ·rw [if_neg hjl, if_neg oM_]⟩
    refine ⟨R', h3, fun r hr => ?_⟩
    refine Ev.step (fun k => z64.l1.eq_2 ..) ?_
    refine qAa oM_ (qAa oM_ (qAa oM_ (qAa oM_ ?_)))
    rw [qAj oM_]; exact h4 r hr
   ·by_cases h0 : rw' R0 i c = 0
    ·obtain ⟨R', h3, h4⟩ := ih (i + 1) R oM_ ⟨hRl, fun j hj => by
      rw [hR.at_ j hj]
      by_cases hji : j = i
      ·rw [hji, if_neg (Nat.lt_irrefl i), if_pos (Nat.lt_succ_self i)]; unfold clr; rw [if_neg h1, if_pos h0]
      ·by_cases hjl : j < i
       ·rw [if_pos hjl, if_pos oM_]
       ·rw [if_neg hjl, if_neg oM_]⟩
     refine ⟨R', h3, fun r hr => ?_⟩
     refine Ev.step (fun k => z64.l1.eq_2 ..) ?_
     rw [hval]
     refine qAa oM_ (qAa oM_ (qAa oM_ (qAd oM_ (qAa oM_ (qAa (by rw [qA2, hrow, hlen]; omega) (qAa h0 ?_))))))
     rw [qAj oM_]; exact h4 r hr
    ·have hb := qCu (qC9 hv (i := i) oM_) (j := c) oM_
     have hb' : 0 ≤ rw' R0 i c ∧ rw' R0 i c < (p : Int) := hb
     have hadd := qD6 (p := p) oM_ h2.2 (R0.getD i []) (R0.getD top []) ((p : Int) - rw' R0 i c) (qC9 hv oM_) (qC9 hv ht) (by rw [qCv hv ht, hlen]; exact Nat.le_refl _) oM_ oM_ oM_
     obtain ⟨R', h3, h4⟩ := ih (i + 1) (R.set i (addT p (R0.getD i []) (R0.getD top []) ((p : Int) - rw' R0 i c))) oM_ ⟨by rw [ym_, hRl], fun j hj => by
      rw [qB5 j _ oM_]
      by_cases hji : j = i
      ·rw [if_pos hji, hji, if_pos (Nat.lt_succ_self i)]; unfold clr; rw [if_neg h1, if_neg h0]
      ·rw [if_neg hji, hR.at_ j hj]
       by_cases hjl : j < i
       ·rw [if_pos hjl, if_pos oM_]
       ·rw [if_neg hjl, if_neg oM_]⟩
     refine ⟨R', h3, fun r hr => ?_⟩
     refine Ev.step (fun k => z64.l1.eq_2 ..) ?_
     rw [hval]
     refine qAa oM_ (qAa oM_ (qAa oM_ (qAd oM_ (qAa oM_ (qAa (by rw [qA2, hrow, hlen]; omega) (qAd h0 (qAa oM_ (qAa oM_ ?_))))))))
     rw [qA2, qA2, hrow, htop, qAi oM_ oM_, qAj oM_]
     exact Ev.bind hadd (h4 r hr)
 obtain ⟨R', h1, h3⟩ := main R0.length 0 R0 oM_ ⟨rfl, fun j hj => by rw [if_neg oM_]⟩
 exact ⟨R', h1, h3⟩
structure StI (p n : Nat) (L : List (List Int)) (c : Nat) (R : List (List Int)) (q : List Int) : Prop where
 len : R.length = L.length
 vs : Vs (p : Int) n R
 pos : ∀ x, x ∈ q → 0 ≤ x
 el : El (p : Int) n L.length (rw' L) c q.length (rw' R) (fun i => (q.getD i 0).toNat)
theorem qFd (a : Int) (p : Int) : p ∣ a % p - a := by
 have := Int.dvd_neg.2 (Int.dvd_self_sub_emod (x := a) (m := p))
 rwa [show -(a - a % p) = a % p - a by omega] at this
theorem qL2 {p n : Nat} (hp : isP p = true) (hn : n ≤ 1048576) {L : List (List Int)} (hm : L.length ≤ 1048576) {c : Nat} (hc : c < n) {R : List (List Int)} {q : List Int} (h : StI p n L c R q) (hq : q.length ≤ c) (hqm : q.length < L.length) (hne : rw' R q.length c ≠ 0) (det : Int) :
  ∃ R' det', StI p n L (c + 1) R' (q ++ [(c : Int)]) ∧ ∀ r, Ev (fun k => z64.l0 k R' (n : Int) (p : Int) (q ++ [(c : Int)]) det' (n : Int) ((c + 1 : Nat) : Int)) r →
   Ev (fun k => z64.j1 k R (n : Int) (p : Int) q det (q.length : Int) (n : Int) (c : Int) (c : Int)) r := by
 have h2 := qBr hp
 have hRl := h.len
 have htop := qCv h.vs (i := q.length) oM_
 have hb : 0 ≤ rw' R q.length c ∧ rw' R q.length c < (p : Int) := qCu (qC9 h.vs (i := q.length) oM_) (j := c) oM_
 obtain ⟨a, ha⟩ := Int.eq_ofNat_of_zero_le hb.1
 have hap : a < p := by omega
 have hinv := qK8 hp hap
 have hcong := qJ5 hp hap oM_
 have hbp : a ^ (p - 2) % p < p := Nat.mod_lt _ oM_
 generalize hbe : a ^ (p - 2) % p = b at hinv hcong hbp
 have hz : Rng p (List.replicate n 0) := fun y hy => by rw [(List.mem_replicate.1 hy).2]; omega
 have hadd := qD6 (p := p) oM_ h2.2 (List.replicate n 0) (R.getD q.length []) (b : Int) hz (qC9 h.vs oM_) (by rw [htop]; simp) (by simpa using hn) oM_ oM_
 generalize hR1 : addT p (List.replicate n 0) (R.getD q.length []) (b : Int) = x1 at hadd
 have hx1l : x1.length = n := by rw [← hR1, qIe]; simp
 have hx1r : Rng p x1 := by rw [← hR1]; exact qId oM_ _ _ _
 have hx1 : ∀ j, j < n → (p : Int) ∣ x1.getD j 0 - (b : Int) * rw' R q.length j := fun j hj => by
  have e : x1.getD j 0 = ((b : Int) * rw' R q.length j) % (p : Int) := by
   rw [← hR1, qIf (by simpa using hj)]
   have : (List.replicate n (0 : Int)).getD j 0 = 0 := by simp [ya_, hj]
   rw [this, Int.zero_add]; rfl
  rw [e]; exact qFd _ _
 have hv1 : Vs (p : Int) n (R.set q.length x1) := qLg h.vs _ hx1l hx1r
 obtain ⟨R2, hclr, hgo⟩ := qNx (β := (0, 0)) hp hn hc hv1 (top := q.length) (by rw [ym_]; omega) (by rw [ym_]; omega) q oM_ (Int.tmod (wrap64 (det * (a : Int))) (p : Int))
 have hR2v := hclr.vs oM_ hv1
 have hR2l : R2.length = L.length := by rw [hclr.len, ym_, hRl]
 have htop2 : R2.getD q.length [] = x1 := by
  rw [hclr.at_ _ (by rw [ym_]; omega), if_pos (by rw [ym_]; omega)]
  unfold clr
  rw [if_pos rfl, qB5 _ _ oM_, if_pos rfl]
 have hoth : ∀ i, i < L.length → i ≠ q.length → ∀ j, j < n → (p : Int) ∣ rw' R2 i j - (rw' R i j - rw' R i c * rw' R2 q.length j) := fun i hi hne j hj => by
  have e0 : ∀ t, rw' (R.set q.length x1) i t = rw' R i t := fun t => by unfold rw'; rw [qB5 _ _ oM_, if_neg hne]
  have e1 : R2.getD i [] = clr p q.length c (R.set q.length x1) i := by rw [hclr.at_ _ (by rw [ym_]; omega), if_pos (by rw [ym_]; omega)]
  have e2 : (R.set q.length x1).getD i [] = R.getD i [] := by rw [qB5 _ _ oM_, if_neg hne]
  have e3 : (R.set q.length x1).getD q.length [] = x1 := by rw [qB5 _ _ oM_, if_pos rfl]
  have e4 : rw' R2 q.length j = x1.getD j 0 := by unfold rw' vec; rw [htop2]
  unfold clr at e1
  rw [if_neg hne, e0 c, e2, e3] at e1
  by_cases hz : rw' R i c = 0
  ·rw [if_pos hz] at e1
   have : rw' R2 i j = rw' R i j := by unfold rw'; rw [e1]
   rw [this, hz, Int.zero_mul]; simp
  ·rw [if_neg hz] at e1
   have : rw' R2 i j = (rw' R i j + ((p : Int) - rw' R i c) * x1.getD j 0) % (p : Int) := by
    unfold rw' vec
    rw [e1, qIf (by rw [qCv h.vs oM_]; exact hj)]
    rfl
   rw [this, e4]
   have h5 := qFd (rw' R i j + ((p : Int) - rw' R i c) * x1.getD j 0) (p : Int)
   have h6 := yq_ h5 (Int.dvd_mul_right (p : Int) (x1.getD j 0))
   rwa [show (rw' R i j + ((p : Int) - rw' R i c) * x1.getD j 0) % (p : Int) - (rw' R i j + ((p : Int) - rw' R i c) * x1.getD j 0) + (p : Int) * x1.getD j 0 = (rw' R i j + ((p : Int) - rw' R i c) * x1.getD j 0) % (p : Int) - (rw' R i j - rw' R i c * x1.getD j 0) by grind] at h6
 have hqs : ∀ i, i < q.length → ((q ++ [(c : Int)]).getD i 0) = q.getD i 0 := fun i hi => by
  rw [ya_, List.getElem?_append_left hi, ya_]
 refine ⟨R2, Int.tmod (wrap64 (det * (a : Int))) (p : Int), ⟨hR2l, hR2v, fun x hx => ?_, ?_⟩, fun r hr => ?_⟩
 ·rcases List.mem_append.1 hx with h1 | h1
  ·exact h.pos x h1
  ·rw [List.mem_singleton.1 h1]; omega
 ·rw [yg_]
  refine h.el.step hc hqm (b := (b : Int)) (by rw [ha]; exact hcong) (fun j hj => ?_) (fun i j hi hne hj => hoth i hi hne j hj) (fun i hi => by rw [hqs i hi]) (by simp) (fun i j hi hj => ?_) (fun i j hi hj => ?_)
  ·have : rw' R2 q.length j = x1.getD j 0 := by unfold rw' vec; rw [htop2]
   rw [this]; exact hx1 j hj
  ·exact (qEz hR2v oM_ hj).1
  ·exact (qEz hR2v oM_ hj).2
 ·refine Ev.step (fun k => z64.j1.eq_2 ..) ?_
  have hrd : rd (rI_ R (q.length : Int)) (c : Int) = (a : Int) := by rw [qA2, qA0, ← ha]; rfl
  rw [hrd]
  refine qAa oM_ (qAa oM_ (qAa oM_ (qAa (by rw [qA2, htop]; omega) (qAd oM_ (qAa oM_ (qAa oM_ (Ev.bind hinv ?_)))))))
  rw [qA2]
  refine Ev.bind (by simpa using hadd) ?_
  have := hgo r hr
  rw [ym_] at this
  simpa using this
theorem qMg {p n : Nat} (hp : isP p = true) (hn : n ≤ 1048576) {L : List (List Int)} (hm : L.length ≤ 1048576) (hL : Vs (p : Int) n L) :
  ∃ R q det, Ev (fun k => z64.f k L (n : Int) (p : Int)) (q, det, R) ∧ StI p n L n R q := by
 have h2 := qBr hp
 unfold z64.f
 have main : ∀ (d c : Nat) (R : List (List Int)) (q : List Int) (det : Int), c + d = n → q.length ≤ c → StI p n L c R q →
   ∃ R' q' det', Ev (fun k => z64.l0 k R (n : Int) (p : Int) q det (n : Int) (c : Int)) (q', det', R') ∧ StI p n L n R' q' := by
  intro d
  induction d with
  | zero =>
   intro c R q det hc hq h
   have : c = n := by omega
   subst this
   refine ⟨R, q, det, ?_, h⟩
   refine Ev.step (fun k => z64.l0.eq_2 ..) ?_
   exact qAd oM_ (Ev.now _)
  | succ d ih =>
   intro c R q det hc hq h
   have hrm := h.el.g.rm
   have hRl := h.len
   obtain ⟨t, ht, hd⟩ := qO2 (R.drop q.length) c (fun x hx => by have := (h.vs x (List.mem_of_mem_drop hx)).1; omega) (by rw [List.length_drop]; omega)
   have hdrop : ∀ i, i < (R.drop q.length).length → rw' (R.drop q.length) i c = rw' R (q.length + i) c := fun i hi => by
    unfold rw' vec
    rw [ya_ (l := R.drop q.length), List.getElem?_drop, ← ya_]
   have hdl : (R.drop q.length).length = L.length - q.length := by rw [List.length_drop, hRl]
   rcases hd with ⟨e, hz⟩ | ⟨i, e, hi, hne⟩
   ·subst e
    obtain ⟨R', q', det', h3, h4⟩ := ih (c + 1) R q 0 oM_ oM_ ⟨h.len, h.vs, h.pos, h.el.none (fun i h1 h3 => by
     have := hz (i - q.length) oM_
     rw [hdrop _ oM_, show q.length + (i - q.length) = i by omega] at this; exact this)⟩
    refine ⟨R', q', det', ?_, h4⟩
    refine Ev.step (fun k => z64.l0.eq_2 ..) ?_
    refine qAa oM_ (qAa oM_ (qAa oM_ (Ev.bind (by simpa using ht) (qAa (by decide) ?_))))
    rw [qAj oM_]; exact h3
   ·subst e
    rw [hdrop i hi] at hne
    have hqm : q.length < L.length := by omega
    rcases Nat.eq_zero_or_pos i with h0 | h0
    ·subst h0
     rw [Nat.add_zero] at hne
     obtain ⟨R1, det1, hst, hgo⟩ := qL2 hp hn hm oM_ h hq hqm hne det
     obtain ⟨R', q', det', h3, h4⟩ := ih (c + 1) R1 (q ++ [(c : Int)]) det1 oM_ (by simp; omega) hst
     refine ⟨R', q', det', ?_, h4⟩
     refine Ev.step (fun k => z64.l0.eq_2 ..) ?_
     refine qAa oM_ (qAa oM_ (qAa oM_ (Ev.bind (by simpa using ht) (qAd (by decide) (qAd (by decide) ?_)))))
     exact hgo _ h3
    ·have g1 : (c : Int) < (n : Int) := by omega
     have g2 : (0 : Int) ≤ (q.length : Int) := by omega
     have g3 : (q.length : Int) ≤ (R.length : Int) := by omega
     have g4 : ¬ ((i : Int) < 0) := by omega
     have g5 : (i : Int) > 0 := by omega
     have g6 : (0 : Int) ≤ ((q.length + i : Nat) : Int) := by omega
     have g7 : ((q.length + i : Nat) : Int) < (R.length : Int) := by omega
     have g8 : (q.length : Int) < (R.length : Int) := by omega
     have hs : StI p n L c ((R.set q.length (R.getD (q.length + i) [])).set (q.length + i) (R.getD q.length [])) q := by
      refine ⟨by simp [hRl], qLg (qLg h.vs _ (qCv h.vs oM_) (qC9 h.vs oM_)) _ (qCv h.vs oM_) (qC9 h.vs oM_), h.pos, ?_⟩
      have hat : ∀ j, ((R.set q.length (R.getD (q.length + i) [])).set (q.length + i) (R.getD q.length [])).getD j [] = if j = q.length + i then R.getD q.length [] else if j = q.length then R.getD (q.length + i) [] else R.getD j [] := fun j => by
       rw [qB5 _ _ (by rw [ym_]; omega), qB5 _ _ oM_]
      refine h.el.swap (a := q.length + i) oM_ oM_ (fun j => ?_) (fun j => ?_) (fun k j hk h1 h3 => ?_)
      ·unfold rw'; rw [hat, if_neg oM_, if_pos rfl]
      ·unfold rw'; rw [hat, if_pos rfl]
      ·unfold rw'; rw [hat, if_neg h3, if_neg h1]
     have hne' : rw' ((R.set q.length (R.getD (q.length + i) [])).set (q.length + i) (R.getD q.length [])) q.length c ≠ 0 := by
      have : ((R.set q.length (R.getD (q.length + i) [])).set (q.length + i) (R.getD q.length [])).getD q.length [] = R.getD (q.length + i) [] := by
       rw [qB5 _ _ (by rw [ym_]; omega), if_neg oM_, qB5 _ _ oM_, if_pos rfl]
      unfold rw'; rw [this]; exact hne
     have hred : ∃ d2, z66.f (wrap64 (-det)) (p : Int) = some d2 := ⟨_, by unfold z66.f; rw [if_neg oM_]⟩
     obtain ⟨d2, hd2⟩ := hred
     obtain ⟨R1, det1, hst, hgo⟩ := qL2 hp hn hm oM_ hs hq hqm hne' d2
     obtain ⟨R', q', det', h3, h4⟩ := ih (c + 1) R1 (q ++ [(c : Int)]) det1 oM_ (by simp; omega) hst
     refine ⟨R', q', det', ?_, h4⟩
     refine Ev.step (fun k => z64.l0.eq_2 ..) ?_
     have hw : wrap64 ((q.length : Int) + (i : Int)) = ((q.length + i : Nat) : Int) := by rw [qAi oM_ oM_]; omega
     refine qAa g1 (qAa g2 (qAa g3 (Ev.bind (by simpa using ht) (qAd g4 (qAa g5 ?_)))))
     rw [hw]
     refine qAa g6 (qAa g7 (qAa g8 (Ev.bind (qAr hd2) ?_)))
     rw [qA2, qA2, yd_, yd_]
     exact hgo _ h3
 obtain ⟨R', q', det', h3, h4⟩ := main n 0 L [] 1 oM_ (by simp) ⟨rfl, hL, fun x hx => by simp at hx, El.start (fun i j hi hj => (qEz hL hi hj).1) (fun i j hi hj => (qEz hL hi hj).2) _⟩
 exact ⟨R', q', det', h3, h4⟩
theorem StI.red {p n : Nat} {L R : List (List Int)} {q : List Int} (h : StI p n L n R q) : Red (p : Int) n L (R.take q.length) q := Red.of h.len h.vs rfl h.pos h.el
end Go.Proofs.Ytpgjfppbbbnclaa.B
set_option linter.unusedVariables false
set_option linter.unusedSimpArgs false
namespace Go.Proofs.Ytpgjfppbbbnclaa.B
open Go.RowKit Go.Proofs.YtpgjfppbbbnclaaW.PrintWords
open LinT
theorem qJ4 {p : Nat} (hp0 : 2 ≤ p) (hp : p ≤ 251) {a : Nat} (ha : a < p) : ∀ (n x : Nat), n ≤ 1000 → x < p → Ev (fun k => z71.l0 k (a : Int) (p : Int) (x : Int) (n : Int)) ((x * a ^ n % p : Nat) : Int) := by
 intro n
 induction n with
 | zero =>
  intro x _ hx
  refine Ev.step (fun k => z71.l0.eq_2 ..) ?_
  refine qAd oM_ (qBk (Ev.now _) ?_)
  rw [Nat.pow_zero, Nat.mul_one, Nat.mod_eq_of_lt hx]
 | succ n ih =>
  intro x hn hx
  have hb : x * a ≤ 250 * 250 := yj_ oM_ oM_
  have e1 : Int.tmod (wrap64 ((x : Int) * (a : Int))) (p : Int) = ((x * a % p : Nat) : Int) := by
   rw [← yi_, qAi oM_ oM_, qCr oM_]; simp
  have e2 : wrap64 (((n + 1 : Nat) : Int) - 1) = (n : Int) := by rw [qAi oM_ oM_]; omega
  refine Ev.step (fun k => z71.l0.eq_2 ..) ?_
  rw [e1, e2]
  clear e1 e2
  refine qAa oM_ (qAd oM_ (qBk (ih (x * a % p) oM_ (Nat.mod_lt _ oM_)) ?_))
  rw [Nat.mod_mul_mod, Nat.pow_succ, Nat.mul_assoc, Nat.mul_comm a]
theorem qGp {p a : Nat} (hp : isP p = true) (ha : a < p) : Ev (fun k => z71.f k (a : Int) (p : Int)) ((a ^ (p - 2) % p : Nat) : Int) := by
 have h2 := qBr hp
 unfold z71.f
 have e : wrap64 ((p : Int) - 2) = ((p - 2 : Nat) : Int) := by rw [qAi oM_ oM_]; omega
 rw [e]
 have h := qJ4 h2.1 h2.2 ha (p - 2) 1 oM_ oM_
 rwa [Nat.one_mul] at h
theorem qOu {p : Nat} (hp : 2 ≤ p) (hp2 : p ≤ 251) {a : Int} (h0 : -1000000000 ≤ a) (h1 : a ≤ 1000000000) : z72.f a (p : Int) = some (a % (p : Int)) := by
 have := qG3 hp hp2 h0 h1
 unfold z66.f at this
 unfold z72.f
 exact this
theorem ix {i w j : Nat} (hi : i ≤ 1024) (hw : w ≤ 1024) (hj : j ≤ 1024) : wrap64 (wrap64 ((i : Int) * (w : Int)) + (j : Int)) = ((i * w + j : Nat) : Int) := by
 have hb : i * w ≤ 1024 * 1024 := yj_ hi hw
 rw [← yi_, qAi (x := ((i * w : Nat) : Int)) oM_ oM_, qAi oM_ oM_]; omega
theorem rdfl (w : Nat) (X : List Int) (i j : Nat) : rd X ((i * w + j : Nat) : Int) = fl w X i j := qA0 X _
section
variable {p w m : Nat} (hp : isP p = true) (hw : w ≤ 1024) (hm : m ≤ 1024) (X0 : List Int) (q : List Int) (det : Int)
include hp hw hm
omit hp in
theorem qNr {row c : Nat} (hr : row ≤ m) (hc : c < w) {X : List Int} (hX : X.length = m * w) : ∃ t, row ≤ t ∧ t ≤ m ∧ ((t = m ∧ ∀ i, row ≤ i → i < m → fl w X i c = 0) ∨ (t < m ∧ fl w X t c ≠ 0)) ∧
  Le (fun k => z50.j3 k (p : Int) (w : Int) q det (row : Int) (c : Int) (t : Int) (p : Int) (m : Int) (w : Int) X0 (p : Int) (m : Int) (w : Int) X) (fun k => z50.l1 k (p : Int) (w : Int) q det (row : Int) (c : Int) (row : Int) (p : Int) (m : Int) (w : Int) X0 (p : Int) (m : Int) (w : Int) X) := by
 have main : ∀ (d t : Nat), t + d = m → row ≤ t → (∀ i, row ≤ i → i < t → fl w X i c = 0) → ∃ t', row ≤ t' ∧ t' ≤ m ∧ ((t' = m ∧ ∀ i, row ≤ i → i < m → fl w X i c = 0) ∨ (t' < m ∧ fl w X t' c ≠ 0)) ∧
  Le (fun k => z50.j3 k (p : Int) (w : Int) q det (row : Int) (c : Int) (t' : Int) (p : Int) (m : Int) (w : Int) X0 (p : Int) (m : Int) (w : Int) X) (fun k => z50.l1 k (p : Int) (w : Int) q det (row : Int) (c : Int) (t : Int) (p : Int) (m : Int) (w : Int) X0 (p : Int) (m : Int) (w : Int) X) := by
  intro d
  induction d with
  | zero =>
   intro t ht h1 hz
   have : t = m := by omega
   subst this
   refine ⟨t, h1, Nat.le_refl _, .inl ⟨rfl, hz⟩, fun r hr => ?_⟩
   refine Ev.step (fun k => z50.l1.eq_2 ..) ?_
   exact qAd oM_ hr
  | succ d ih =>
   intro t ht h1 hz
   have hlt := qCf (show t < m by omega) hc
   have e := ix (i := t) (w := w) (j := c) oM_ hw oM_
   by_cases h : fl w X t c = 0
   ·obtain ⟨t', a1, a2, a3, a4⟩ := ih (t + 1) oM_ oM_ (fun i hi hi2 => by
     rcases Nat.lt_or_ge i t with hl | hg
     ·exact hz i hi hl
     ·rw [show i = t by omega]; exact h)
    refine ⟨t', a1, a2, a3, fun r hr => ?_⟩
    have := a4 r hr
    refine Ev.step (fun k => z50.l1.eq_2 ..) ?_
    rw [e, rdfl]
    clear e
    refine qAa oM_ (qAa oM_ (qAa oM_ (qAa h ?_)))
    rw [qAj oM_]; exact this
   ·refine ⟨t, h1, by omega, .inr ⟨by omega, h⟩, fun r hr => ?_⟩
    refine Ev.step (fun k => z50.l1.eq_2 ..) ?_
    rw [e, rdfl]
    clear e
    exact qAa oM_ (qAa oM_ (qAa oM_ (qAd h hr)))
 exact main (m - row) row oM_ (Nat.le_refl _) (fun i h1 h2 => by omega)
omit hp in
theorem qNa {row c t : Nat} (hr : row < m) (ht : t < m) (hne : row ≠ t) {X : List Int} (hX : X.length = m * w) : ∃ Y, Swp w X row t w Y ∧
  Le (fun k => z50.j5 k (p : Int) (w : Int) q det (row : Int) (c : Int) (p : Int) (m : Int) (w : Int) X0 (p : Int) (m : Int) (w : Int) Y) (fun k => z50.l2 k (p : Int) (w : Int) q det (row : Int) (c : Int) (t : Int) 0 (p : Int) (m : Int) (w : Int) X0 (p : Int) (m : Int) (w : Int) X) := by
 have main : ∀ (d j : Nat) (Y : List Int), j + d = w → Swp w X row t j Y → ∃ Y', Swp w X row t w Y' ∧
  Le (fun k => z50.j5 k (p : Int) (w : Int) q det (row : Int) (c : Int) (p : Int) (m : Int) (w : Int) X0 (p : Int) (m : Int) (w : Int) Y') (fun k => z50.l2 k (p : Int) (w : Int) q det (row : Int) (c : Int) (t : Int) (j : Int) (p : Int) (m : Int) (w : Int) X0 (p : Int) (m : Int) (w : Int) Y) := by
  intro d
  induction d with
  | zero =>
   intro j Y hj hY
   have : j = w := by omega
   subst this
   refine ⟨Y, hY, fun r hr => ?_⟩
   refine Ev.step (fun k => z50.l2.eq_2 ..) ?_
   exact qAd oM_ hr
  | succ d ih =>
   intro j Y hj hY
   have hl := hY.len
   have h1 := qCf hr (show j < w by omega)
   have h2 := qCf ht (show j < w by omega)
   obtain ⟨Y', h3, h4⟩ := ih (j + 1) _ oM_ (hY.next hne oM_ oM_ oM_)
   refine ⟨Y', h3, fun r hr => ?_⟩
   have := h4 r hr
   obtain ⟨e1, e2⟩ := And.intro (ix (i := t) (w := w) (j := j) oM_ hw oM_) (ix (i := row) (w := w) (j := j) oM_ hw oM_)
   refine Ev.step (fun k => z50.l2.eq_2 ..) ?_
   rw [e1, e2, rdfl, rdfl]
   clear e1 e2
   refine qAa oM_ (qAa oM_ (qAa oM_ (qAa oM_ (qAa oM_ ?_))))
   rw [qAj oM_, yd_, yd_]; exact this
 exact main w 0 X oM_ (Swp.start w X row t)
theorem qLt {row c : Nat} (hr : row < m) {inv : Nat} (hi : inv < p) {X : List Int} (hX : X.length = m * w) (hR : Rng p X) : ∃ Y, Upd w X row (fun j => fl w X row j * (inv : Int) % (p : Int)) w Y ∧
  Le (fun k => z50.l4 k (p : Int) (w : Int) q det (row : Int) (c : Int) 0 (p : Int) (m : Int) (w : Int) X0 (p : Int) (m : Int) (w : Int) Y) (fun k => z50.l3 k (p : Int) (w : Int) q det (row : Int) (c : Int) (inv : Int) 0 (p : Int) (m : Int) (w : Int) X0 (p : Int) (m : Int) (w : Int) X) := by
 have hp2 := qBr hp
 have main : ∀ (d j : Nat) (Y : List Int), j + d = w → Upd w X row (fun j => fl w X row j * (inv : Int) % (p : Int)) j Y → ∃ Y', Upd w X row (fun j => fl w X row j * (inv : Int) % (p : Int)) w Y' ∧
  Le (fun k => z50.l4 k (p : Int) (w : Int) q det (row : Int) (c : Int) 0 (p : Int) (m : Int) (w : Int) X0 (p : Int) (m : Int) (w : Int) Y') (fun k => z50.l3 k (p : Int) (w : Int) q det (row : Int) (c : Int) (inv : Int) (j : Int) (p : Int) (m : Int) (w : Int) X0 (p : Int) (m : Int) (w : Int) Y) := by
  intro d
  induction d with
  | zero =>
   intro j Y hj hY
   have : j = w := by omega
   subst this
   refine ⟨Y, hY, fun r hr => ?_⟩
   refine Ev.step (fun k => z50.l3.eq_2 ..) ?_
   exact qAd oM_ hr
  | succ d ih =>
   intro j Y hj hY
   have hl := hY.len
   have h1 := qCf hr (show j < w by omega)
   have hv : fl w Y row j = fl w X row j := by rw [hY.at_ row j oM_, if_neg oM_]
   have hx : 0 ≤ fl w X row j ∧ fl w X row j < (p : Int) := qCu hR oM_
   have hb : 0 ≤ fl w X row j * (inv : Int) ∧ fl w X row j * (inv : Int) ≤ 250 * 250 := ⟨Int.mul_nonneg hx.1 oM_, Int.mul_le_mul oM_ oM_ oM_ (by decide)⟩
   obtain ⟨Y', h3, h4⟩ := ih (j + 1) _ oM_ (hY.next oM_ oM_ (x := fl w X row j * (inv : Int) % (p : Int)) rfl)
   refine ⟨Y', h3, fun r hr => ?_⟩
   have := h4 r hr
   have e2 := ix (i := row) (w := w) (j := j) oM_ hw oM_
   refine Ev.step (fun k => z50.l3.eq_2 ..) ?_
   rw [e2, rdfl, hv]
   clear e2
   refine qAa oM_ (qAa oM_ (qAa oM_ (qAd oM_ ?_)))
   rw [qAj oM_, yd_, qAi oM_ oM_, qCr oM_]; exact this
 exact main w 0 X oM_ (Upd.start w X row _)
theorem qMq {row c i : Nat} (hr : row < m) (hi : i < m) (hne : i ≠ row) {f : Int} (hf : 0 ≤ f ∧ f < (p : Int)) {X : List Int} (hX : X.length = m * w) (hR : ∀ i j, i < m → j < w → 0 ≤ fl w X i j ∧ fl w X i j < (p : Int)) : ∃ Y, Upd w X i (fun j => (fl w X i j - f * fl w X row j) % (p : Int)) w Y ∧
  Le (fun k => z50.l4 k (p : Int) (w : Int) q det (row : Int) (c : Int) ((i + 1 : Nat) : Int) (p : Int) (m : Int) (w : Int) X0 (p : Int) (m : Int) (w : Int) Y) (fun k => z50.l5 k (p : Int) (w : Int) q det (row : Int) (c : Int) (i : Int) f 0 (p : Int) (m : Int) (w : Int) X0 (p : Int) (m : Int) (w : Int) X) := by
 have hp2 := qBr hp
 have main : ∀ (d j : Nat) (Y : List Int), j + d = w → Upd w X i (fun j => (fl w X i j - f * fl w X row j) % (p : Int)) j Y → ∃ Y', Upd w X i (fun j => (fl w X i j - f * fl w X row j) % (p : Int)) w Y' ∧
  Le (fun k => z50.l4 k (p : Int) (w : Int) q det (row : Int) (c : Int) ((i + 1 : Nat) : Int) (p : Int) (m : Int) (w : Int) X0 (p : Int) (m : Int) (w : Int) Y') (fun k => z50.l5 k (p : Int) (w : Int) q det (row : Int) (c : Int) (i : Int) f (j : Int) (p : Int) (m : Int) (w : Int) X0 (p : Int) (m : Int) (w : Int) Y) := by
  intro d
  induction d with
  | zero =>
   intro j Y hj hY
   have : j = w := by omega
   subst this
   refine ⟨Y, hY, fun r hr => ?_⟩
   refine Ev.step (fun k => z50.l5.eq_2 ..) ?_
   refine qAd oM_ ?_
   rw [qAj oM_]; exact hr
  | succ d ih =>
   intro j Y hj hY
   have hl := hY.len
   have h1 := qCf hr (show j < w by omega)
   have h2 := qCf hi (show j < w by omega)
   have hv : fl w Y i j = fl w X i j := by rw [hY.at_ i j oM_, if_neg oM_]
   have hv2 : fl w Y row j = fl w X row j := by rw [hY.at_ row j oM_, if_neg oM_]
   have hx := hR i j hi oM_
   have hx2 := hR row j hr oM_
   have hb : 0 ≤ f * fl w X row j ∧ f * fl w X row j ≤ 250 * 250 := ⟨Int.mul_nonneg hf.1 hx2.1, Int.mul_le_mul oM_ oM_ hx2.1 (by decide)⟩
   obtain ⟨Y', h3, h4⟩ := ih (j + 1) _ oM_ (hY.next oM_ oM_ (x := (fl w X i j - f * fl w X row j) % (p : Int)) rfl)
   refine ⟨Y', h3, fun r hr => ?_⟩
   have := h4 r hr
   have hmv := qOu (p := p) hp2.1 hp2.2 (a := fl w X i j - f * fl w X row j) oM_ oM_
   have b1 : -9223372036854775808 ≤ f * fl w X row j := by omega
   have b2 : f * fl w X row j ≤ 9223372036854775807 := by omega
   have b3 : -9223372036854775808 ≤ fl w X i j - f * fl w X row j := by omega
   have b4 : fl w X i j - f * fl w X row j ≤ 9223372036854775807 := by omega
   obtain ⟨e1, e2⟩ := And.intro (ix (i := i) (w := w) (j := j) oM_ hw oM_) (ix (i := row) (w := w) (j := j) oM_ hw oM_)
   have e3 : wrap64 (fl w X i j - wrap64 (f * fl w X row j)) = fl w X i j - f * fl w X row j := by rw [qAi b1 b2, qAi b3 b4]
   refine Ev.step (fun k => z50.l5.eq_2 ..) ?_
   rw [e1, e2, rdfl, rdfl, hv, hv2, e3]
   clear e1 e2 e3
   refine qAa oM_ (qAa oM_ (qAa oM_ (qAa oM_ (qAa oM_ (Ev.bind (qAr hmv) ?_)))))
   rw [qAj oM_, yd_]; exact this
 exact main w 0 X oM_ (Upd.start w X i _)
omit hp hw hm in
def cl (p w row c : Nat) (X : List Int) (i j : Nat) : Int := if i = row ∨ fl w X i c = 0 then fl w X i j else (fl w X i j - fl w X i c * fl w X row j) % (p : Int)
omit hp hw hm in
theorem qMr {row c : Nat} (hp0 : 0 < p) {X : List Int} (hR : ∀ i j, i < m → j < w → 0 ≤ fl w X i j ∧ fl w X i j < (p : Int)) {i j : Nat} (hi : i < m) (hj : j < w) : 0 ≤ cl p w row c X i j ∧ cl p w row c X i j < (p : Int) := by
 unfold cl
 split
 ·exact hR i j hi hj
 ·exact ⟨Int.emod_nonneg _ oM_, Int.emod_lt_of_pos _ oM_⟩
theorem qJo {row c : Nat} (hr : row < m) (hc : c < w) (hq : q.length ≤ 1048576) {X : List Int} (hX : X.length = m * w) (hR : ∀ i j, i < m → j < w → 0 ≤ fl w X i j ∧ fl w X i j < (p : Int)) : ∃ Y : List Int, Y.length = X.length ∧ (∀ i j, i < m → j < w → fl w Y i j = cl p w row c X i j) ∧
  Le (fun k => z50.l0 k (p : Int) (w : Int) (q ++ [(c : Int)]) det ((row + 1 : Nat) : Int) ((c + 1 : Nat) : Int) (p : Int) (m : Int) (w : Int) X0 (p : Int) (m : Int) (w : Int) Y) (fun k => z50.l4 k (p : Int) (w : Int) q det (row : Int) (c : Int) 0 (p : Int) (m : Int) (w : Int) X0 (p : Int) (m : Int) (w : Int) X) := by
 have hp2 := qBr hp
 have main : ∀ (d i : Nat) (Y : List Int), i + d = m → Y.length = X.length → (∀ i' j, i' < m → j < w → fl w Y i' j = if i' < i then cl p w row c X i' j else fl w X i' j) → ∃ Y' : List Int, Y'.length = X.length ∧ (∀ i j, i < m → j < w → fl w Y' i j = cl p w row c X i j) ∧
  Le (fun k => z50.l0 k (p : Int) (w : Int) (q ++ [(c : Int)]) det ((row + 1 : Nat) : Int) ((c + 1 : Nat) : Int) (p : Int) (m : Int) (w : Int) X0 (p : Int) (m : Int) (w : Int) Y') (fun k => z50.l4 k (p : Int) (w : Int) q det (row : Int) (c : Int) (i : Int) (p : Int) (m : Int) (w : Int) X0 (p : Int) (m : Int) (w : Int) Y) := by
  intro d
  induction d with
  | zero =>
   intro i Y hi hl hY
   have : i = m := by omega
   subst this
   refine ⟨Y, hl, fun i' j hi' hj => by rw [hY i' j hi' hj, if_pos hi'], fun r hr' => ?_⟩
   refine Ev.step (fun k => z50.l4.eq_2 ..) ?_
   refine qAd oM_ (qAa oM_ ?_)
   rw [qAj oM_, qAj oM_]; exact hr'
  | succ d ih =>
   intro i Y hi hl hY
   have him : i < m := by omega
   have h1 := qCf him hc
   have e := ix (i := i) (w := w) (j := c) oM_ hw oM_
   have hic : fl w Y i c = fl w X i c := by rw [hY i c him hc, if_neg oM_]
   by_cases h : i = row ∨ fl w X i c = 0
   ·obtain ⟨Y', a1, a2, a3⟩ := ih (i + 1) Y oM_ hl (fun i' j hi' hj => by
     rw [hY i' j hi' hj]
     by_cases hlt : i' < i
     ·rw [if_pos hlt, if_pos oM_]
     ·rw [if_neg hlt]
      by_cases he : i' = i
      ·rw [if_pos oM_, he]; unfold cl; rw [if_pos h]
      ·rw [if_neg oM_])
    refine ⟨Y', a1, a2, fun r hr' => ?_⟩
    have hn := a3 r hr'
    have hj8 : Ev (fun k => z50.j8 k (p : Int) (w : Int) q det (row : Int) (c : Int) (i : Int) (fl w Y i c) true (p : Int) (m : Int) (w : Int) X0 (p : Int) (m : Int) (w : Int) Y) r := by
     refine Ev.step (fun k => z50.j8.eq_2 ..) ?_
     refine qAa rfl ?_
     rw [qAj oM_]; exact hn
    refine Ev.step (fun k => z50.l4.eq_2 ..) ?_
    rw [e, rdfl]
    clear e
    refine qAa oM_ (qAa oM_ (qAa oM_ ?_))
    by_cases hir : i = row
    ·exact qAa oM_ hj8
    ·have hz : (fl w Y i c == 0) = true := by rw [hic, h.resolve_left hir]; rfl
     rw [hz]
     exact qAd oM_ hj8
   ·have hne : i ≠ row := fun he => h (.inl he)
    have hnz : fl w X i c ≠ 0 := fun he => h (.inr he)
    have hYR : ∀ i j, i < m → j < w → 0 ≤ fl w Y i j ∧ fl w Y i j < (p : Int) := fun i' j hi' hj => by
     rw [hY i' j hi' hj]
     split
     ·exact qMr oM_ hR hi' hj
     ·exact hR i' j hi' hj
    obtain ⟨Z, hZ, hgo⟩ := qMq hp hw hm X0 q det (c := c) hr him hne (f := fl w Y i c) (hYR i c him hc) oM_ hYR
    have hrow : ∀ j, j < w → fl w Y row j = fl w X row j := fun j hj => by
     rw [hY row j hr hj]
     split
     ·unfold cl; rw [if_pos (.inl rfl)]
     ·rfl
    obtain ⟨Y', a1, a2, a3⟩ := ih (i + 1) Z oM_ (by rw [hZ.len, hl]) (fun i' j hi' hj => by
     rw [hZ.at_ i' j hj]
     by_cases he : i' = i
     ·rw [if_pos ⟨he, hj⟩, if_pos oM_, he]
      unfold cl
      rw [if_neg h, hic, hrow j hj, hY i j him hj, if_neg oM_]
     ·rw [if_neg (fun hh => he hh.1), hY i' j hi' hj]
      by_cases hlt : i' < i
      ·rw [if_pos hlt, if_pos oM_]
      ·rw [if_neg hlt, if_neg oM_])
    refine ⟨Y', a1, a2, fun r hr' => ?_⟩
    have hn := hgo r (a3 r hr')
    have hj8 : Ev (fun k => z50.j8 k (p : Int) (w : Int) q det (row : Int) (c : Int) (i : Int) (fl w Y i c) false (p : Int) (m : Int) (w : Int) X0 (p : Int) (m : Int) (w : Int) Y) r := by
     refine Ev.step (fun k => z50.j8.eq_2 ..) ?_
     exact qAd (by decide) hn
    refine Ev.step (fun k => z50.l4.eq_2 ..) ?_
    rw [e, rdfl]
    clear e
    have hz : (fl w Y i c == 0) = false := by rw [hic]; simpa using hnz
    rw [hz]
    exact qAa oM_ (qAa oM_ (qAa oM_ (qAd oM_ hj8)))
 exact main m 0 X oM_ rfl (fun i' j hi' hj => by rw [if_neg oM_])
end
theorem qMc {p w m : Nat} {X : List Int} (hX : X.length = m * w) : Rng p X ↔ ∀ i j, i < m → j < w → 0 ≤ fl w X i j ∧ fl w X i j < (p : Int) := by
 constructor
 ·intro h i j hi hj
  have := qCf hi hj
  exact qCu h oM_
 ·intro h y hy
  obtain ⟨k, hk, rfl⟩ := List.getElem_of_mem hy
  have hw : 0 < w := by
   rcases Nat.eq_zero_or_pos w with h0 | h0
   ·rw [h0, Nat.mul_zero] at hX; omega
   ·exact h0
  have h1 : k / w < m := (Nat.div_lt_iff_lt_mul hw).2 oM_
  have h2 := h (k / w) (k % w) h1 (Nat.mod_lt _ hw)
  unfold fl at h2
  rw [Nat.mul_comm, Nat.div_add_mod] at h2
  rwa [ya_, yb_ hk, Option.getD_some] at h2
theorem qKo {p w m : Nat} (hp : isP p = true) (hw : w ≤ 1024) (hm : m ≤ 1024) (X0 : List Int) {L : List (List Int)} (hL : L.length = m) {c : Nat} (hc : c < w) {X : List Int} {q : List Int} (h : FlInv (p : Int) w m L c X q) (hq : q.length ≤ c) (hqm : q.length < m) (hne : fl w X q.length c ≠ 0) (det : Int) :
  ∃ Y det', FlInv (p : Int) w m L (c + 1) Y (q ++ [(c : Int)]) ∧
  Le (fun k => z50.l0 k (p : Int) (w : Int) (q ++ [(c : Int)]) det' ((q.length + 1 : Nat) : Int) ((c + 1 : Nat) : Int) (p : Int) (m : Int) (w : Int) X0 (p : Int) (m : Int) (w : Int) Y) (fun k => z50.j5 k (p : Int) (w : Int) q det (q.length : Int) (c : Int) (p : Int) (m : Int) (w : Int) X0 (p : Int) (m : Int) (w : Int) X) := by
 have h2 := qBr hp
 have hR : ∀ i j, i < m → j < w → 0 ≤ fl w X i j ∧ fl w X i j < (p : Int) := fun i j hi hj => ⟨h.el.ge i j hi hj, h.el.lt i j hi hj⟩
 have hRx := (qMc (p := p) h.len).2 hR
 obtain ⟨a, ha⟩ := Int.eq_ofNat_of_zero_le (hR q.length c hqm hc).1
 have hap : a < p := by have := (hR q.length c hqm hc).2; omega
 have hinv := qGp hp hap
 have hcong := qJ5 hp hap oM_
 have hbp : a ^ (p - 2) % p < p := Nat.mod_lt _ oM_
 generalize hbe : a ^ (p - 2) % p = b at hinv hcong hbp
 obtain ⟨Y, hY, hgo1⟩ := qLt hp hw hm X0 q (Int.tmod (wrap64 (det * (a : Int))) (p : Int)) (c := c) hqm hbp h.len hRx
 have hYR : ∀ i j, i < m → j < w → 0 ≤ fl w Y i j ∧ fl w Y i j < (p : Int) := fun i j hi hj => by
  rw [hY.at_ i j hj]
  split
  ·exact ⟨Int.emod_nonneg _ oM_, Int.emod_lt_of_pos _ oM_⟩
  ·exact hR i j hi hj
 obtain ⟨Z, hZl, hZ, hgo2⟩ := qJo hp hw hm X0 q (Int.tmod (wrap64 (det * (a : Int))) (p : Int)) hqm hc oM_ (by rw [hY.len]; exact h.len) hYR
 have hqs : ∀ i, i < q.length → ((q ++ [(c : Int)]).getD i 0) = q.getD i 0 := fun i hi => by
  rw [ya_, List.getElem?_append_left hi, ya_]
 have hYrow : ∀ j, j < w → fl w Y q.length j = fl w X q.length j * (b : Int) % (p : Int) := fun j hj => by rw [hY.at_ _ j hj, if_pos ⟨rfl, hj⟩]
 have hYoth : ∀ i j, j < w → i ≠ q.length → fl w Y i j = fl w X i j := fun i j hj hi => by rw [hY.at_ _ j hj, if_neg (fun hh => hi hh.1)]
 have hZrow : ∀ j, j < w → fl w Z q.length j = fl w Y q.length j := fun j hj => by rw [hZ _ j hqm hj]; unfold cl; rw [if_pos (.inl rfl)]
 refine ⟨Z, Int.tmod (wrap64 (det * (a : Int))) (p : Int), ⟨by rw [hZl, hY.len, h.len], fun x hx => ?_, ?_⟩, fun r hr => ?_⟩
 ·rcases List.mem_append.1 hx with h1 | h1
  ·exact h.pos x h1
  ·rw [List.mem_singleton.1 h1]; omega
 ·rw [yg_]
  refine h.el.step hc hqm (b := (b : Int)) (by rw [ha]; exact hcong) (fun j hj => ?_) (fun i j hi hni hj => ?_) (fun i hi => by rw [hqs i hi]) (by simp) (fun i j hi hj => ?_) (fun i j hi hj => ?_)
  ·rw [hZrow j hj, hYrow j hj, Int.mul_comm]
   have := Int.dvd_neg.2 (Int.dvd_self_sub_emod (x := (b : Int) * fl w X q.length j) (m := (p : Int)))
   rwa [Int.neg_sub] at this
  ·rw [hZ i j hi hj, hZrow j hj]
   unfold cl
   by_cases hz : fl w X i c = 0
   ·rw [if_pos (.inr (by rw [hYoth i c hc hni]; exact hz)), hYoth i j hj hni, hz, Int.zero_mul]; simp
   ·rw [if_neg (fun hh => by rcases hh with hh | hh; exact hni hh; rw [hYoth i c hc hni] at hh; exact hz hh), hYoth i j hj hni, hYoth i c hc hni]
    have := Int.dvd_neg.2 (Int.dvd_self_sub_emod (x := fl w X i j - fl w X i c * fl w Y q.length j) (m := (p : Int)))
    rwa [Int.neg_sub] at this
  ·rw [hZ i j hi hj]; exact (qMr oM_ hYR hi hj).1
  ·rw [hZ i j hi hj]; exact (qMr oM_ hYR hi hj).2
 ·have hn := hgo1 r (hgo2 r hr)
  have hlt := qCf hqm hc
  have hl := h.len
  have e := ix (i := q.length) (w := w) (j := c) oM_ hw oM_
  refine Ev.step (fun k => z50.j5.eq_2 ..) ?_
  rw [e, rdfl, ha]
  clear e
  exact qAa oM_ (qAa oM_ (qAd oM_ (Ev.bind hinv hn)))
theorem qOp {p w m : Nat} (hp : isP p = true) (hw : w ≤ 1024) (hm : m ≤ 1024) {X : List Int} (hX : X.length = m * w) (hR : Rng p X) {L : List (List Int)} (hL : L.length = m) (hLX : ∀ i j, i < m → j < w → rw' L i j = fl w X i j) :
  ∃ Y q det, Ev (fun k => z50.f k (p : Int) (m : Int) (w : Int) X) ((p : Int), (m : Int), (w : Int), Y, q, det) ∧ FlInv (p : Int) w m L w Y q := by
 have h2 := qBr hp
 have hmw : m * w ≤ 1024 * 1024 := yj_ hm hw
 have stop : ∀ (c : Nat) (Y q : List Int) (det : Int), Ev (fun k => z50.j1 k (p : Int) (w : Int) q det (q.length : Int) (c : Int) false (p : Int) (m : Int) (w : Int) X (p : Int) (m : Int) (w : Int) Y) ((p : Int), (m : Int), (w : Int), Y, q, det) := fun c Y q det => by
  refine Ev.step (fun k => z50.j1.eq_2 ..) ?_
  exact qAd (by decide) (Ev.now _)
 have main : ∀ (d c : Nat) (Y : List Int) (q : List Int) (det : Int), c + d = w → q.length ≤ c → FlInv (p : Int) w m L c Y q →
   ∃ Y' q' det', Ev (fun k => z50.l0 k (p : Int) (w : Int) q det (q.length : Int) (c : Int) (p : Int) (m : Int) (w : Int) X (p : Int) (m : Int) (w : Int) Y) ((p : Int), (m : Int), (w : Int), Y', q', det') ∧ FlInv (p : Int) w m L w Y' q' := by
  intro d
  induction d with
  | zero =>
   intro c Y q det hc hq h
   have : c = w := by omega
   subst this
   refine ⟨Y, q, det, ?_, h⟩
   refine Ev.step (fun k => z50.l0.eq_2 ..) ?_
   exact qAd oM_ (stop _ _ _ _)
  | succ d ih =>
   intro c Y q det hc hq h
   have hrm := h.el.g.rm
   rcases Nat.lt_or_ge q.length m with hlt | hge
   ·obtain ⟨t, ht1, ht2, htd, hgo⟩ := qNr hw hm X q det (row := q.length) (c := c) oM_ oM_ h.len
    have hstart : ∀ r, Ev (fun k => z50.j3 k (p : Int) (w : Int) q det (q.length : Int) (c : Int) (t : Int) (p : Int) (m : Int) (w : Int) X (p : Int) (m : Int) (w : Int) Y) r →
      Ev (fun k => z50.l0 k (p : Int) (w : Int) q det (q.length : Int) (c : Int) (p : Int) (m : Int) (w : Int) X (p : Int) (m : Int) (w : Int) Y) r := fun r hr => by
     have hdec : decide ((q.length : Int) < (m : Int)) = true := decide_eq_true oM_
     refine Ev.step (fun k => z50.l0.eq_2 ..) ?_
     refine qAa oM_ ?_
     rw [hdec]
     refine Ev.step (fun k => z50.j1.eq_2 ..) ?_
     exact qAa rfl (hgo r hr)
    rcases htd with ⟨e, hz⟩ | ⟨htm, hne⟩
    ·obtain ⟨Y', q', det', h3, h4⟩ := ih (c + 1) Y q det oM_ oM_ ⟨h.len, h.pos, h.el.none hz⟩
     refine ⟨Y', q', det', hstart _ ?_, h4⟩
     refine Ev.step (fun k => z50.j3.eq_2 ..) ?_
     refine qAa oM_ ?_
     rw [qAj oM_]; exact h3
    ·rcases Nat.eq_or_lt_of_le ht1 with e | hlt2
     ·rw [← e] at hne
      obtain ⟨Y1, det1, hst, hgo1⟩ := qKo hp hw hm X hL oM_ h hq hlt hne det
      obtain ⟨Y', q', det', h3, h4⟩ := ih (c + 1) Y1 (q ++ [(c : Int)]) det1 oM_ (by simp; omega) hst
      refine ⟨Y', q', det', hstart _ ?_, h4⟩
      refine Ev.step (fun k => z50.j3.eq_2 ..) ?_
      refine qAd oM_ (qAa oM_ (hgo1 _ ?_))
      rw [yg_] at h3
      exact h3
     ·obtain ⟨Y1, hsw, hgo1⟩ := qNa hw hm X q (wrap64 ((p : Int) - det)) (c := c) hlt htm oM_ h.len
      have hs : FlInv (p : Int) w m L c Y1 q := by
       refine ⟨by rw [hsw.len, h.len], h.pos, ?_⟩
       refine h.el.swap' (a := t) oM_ oM_ htm (fun j hj => ?_) (fun j hj => ?_) (fun i j hi h1 h3 hj => ?_)
       ·rw [hsw.at_ _ j hj, if_pos hj, if_pos rfl]
       ·rw [hsw.at_ _ j hj, if_pos hj, if_neg oM_, if_pos rfl]
       ·rw [hsw.at_ _ j hj, if_pos hj, if_neg h1, if_neg h3]
      have hne' : fl w Y1 q.length c ≠ 0 := by rw [hsw.at_ _ c oM_, if_pos oM_, if_pos rfl]; exact hne
      obtain ⟨Y2, det1, hst, hgo2⟩ := qKo hp hw hm X hL oM_ hs hq hlt hne' (wrap64 ((p : Int) - det))
      obtain ⟨Y', q', det', h3, h4⟩ := ih (c + 1) Y2 (q ++ [(c : Int)]) det1 oM_ (by simp; omega) hst
      refine ⟨Y', q', det', hstart _ ?_, h4⟩
      rw [yg_] at h3
      have h5 := hgo1 _ (hgo2 _ h3)
      have g1 : ¬ ((t : Int) = (m : Int)) := by omega
      have g2 : ¬ ((t : Int) = (q.length : Int)) := by omega
      refine Ev.step (fun k => z50.j3.eq_2 ..) ?_
      exact qAd g1 (qAd g2 h5)
   ·refine ⟨Y, q, det, ?_, h.len, h.pos, h.el.full oM_ oM_⟩
    have hdec : decide ((q.length : Int) < (m : Int)) = false := decide_eq_false oM_
    refine Ev.step (fun k => z50.l0.eq_2 ..) ?_
    refine qAa oM_ ?_
    rw [hdec]
    exact stop _ _ _ _
 have hfl := (qMc (p := p) hX).1 hR
 obtain ⟨Y', q', det', h3, h4⟩ := main w 0 X [] 1 oM_ (by simp) ⟨hX, fun x hx => by simp at hx, (El.start (R := fl w X) (fun i j hi hj => (hfl i j hi hj).1) (fun i j hi hj => (hfl i j hi hj).2) _).congr0 fun i j hi hj => hLX i j hi hj⟩
 refine ⟨Y', q', det', ?_, h4⟩
 unfold z50.f
 have hown : z46.f X = some X := by
  unfold z46.f
  show (if (([] : List Int)).length + X.length < 17592186044416 then some ([] ++ X) else none) = some X
  rw [if_pos (by simp; omega)]; rfl
 exact Ev.bind (qAr hown) h3
end Go.Proofs.Ytpgjfppbbbnclaa.B
set_option linter.unusedVariables false
set_option linter.unusedSimpArgs false
namespace Go.Proofs.Ytpgjfppbbbnclaa.B
open Go.RowKit Go.Proofs.YtpgjfppbbbnclaaW.PrintWords
open LinT
theorem qJn (l : List Int) (hl : l.length ≤ 1048576) : slices_Clone_int64_int64.f l = some l := by
 unfold slices_Clone_int64_int64.f
 simp
 omega
theorem qIw {p m n : Nat} {X : List Int} (hX : X.length = m * n) (hm : m ≤ 1024) (hn : n ≤ 1024) : Ev (fun k => z63.f k (p : Int) (m : Int) (n : Int) X) (unfl n m X) := by
 unfold z63.f
 refine qEi (fun s i k => z63.l0 k s (m : Int) (i : Int) (p : Int) (m : Int) (n : Int) X) (fun i => (X.drop (i * n)).take n) m (fun i s hi hs r hr => ?_) _ ?_
 ·have hsl : s.length = i := by rw [hs]; simp
  have hrl := qNf hX hi
  refine Ev.step (fun k => z63.l0.eq_2 ..) ?_
  refine qAa oM_ (Ev.bind (qAr (qOn _ hX hm hn hi)) (Ev.bind (qAr (qJn _ oM_)) (qAa oM_ ?_)))
  rw [qAj oM_]; exact hr
 ·refine Ev.step (fun k => z63.l0.eq_2 ..) ?_
  exact qAd oM_ (Ev.now _)
theorem qL9 {α : Type} (z : α) (L : List α) {r i : Nat} (h : i < r) : (L.take r).getD i z = L.getD i z := by
 rw [ya_, ya_, List.getElem?_take_of_lt h]
theorem qNh {p : Int} {n : Nat} {L B : List (List Int)} {q : List Int} (h : Red p n L B q) {i : Nat} (hi : i < q.length) : 0 ≤ q.getD i 0 ∧ q.getD i 0 < (n : Int) := by
 have h1 := h.pos _ (qAu 0 hi)
 have h2 := h.rref.lt i (by rw [← h.len]; exact hi)
 exact ⟨h1, by omega⟩
end Go.Proofs.Ytpgjfppbbbnclaa.B
set_option linter.unusedVariables false
set_option linter.unusedSimpArgs false
namespace Go.Proofs.Ytpgjfppbbbnclaa.B
open Go.RowKit Go.Proofs.YtpgjfppbbbnclaaW.PrintWords
def has (s : List Int) (x : Int) : Bool := s.any (fun z => z == x)
theorem qGa (s : List Int) (x : Int) (hl : s.length < 9223372036854775807) : Ev (fun k => z65.f k s x) (has s x) := by
 obtain ⟨t, ht, hd⟩ := qCg s 0 (fun i k => z69.l0 k s x (s.length : Int) (i : Int)) (fun z => z == x) (fun j hj hp r hr => by
  refine Ev.step (fun k => z69.l0.eq_2 ..) ?_
  rw [qA0, qAj oM_]
  exact qAa oM_ (qAa oM_ (qAa oM_ (qAd (by intro e; rw [← e] at hp; simp at hp) hr)))) (fun j hj hp => by
  refine Ev.step (fun k => z69.l0.eq_2 ..) ?_
  rw [qA0]
  exact qAa oM_ (qAa oM_ (qAa oM_ (qAa (eq_of_beq hp).symm (Ev.now _))))) (by
  refine Ev.step (fun k => z69.l0.eq_2 ..) ?_
  exact qAd oM_ (Ev.now _))
 unfold z65.f z69.f
 exact Ev.bind ht (qBk (Ev.now _) hd)
theorem qO5 {s : List Int} {x : Int} : has s x = true ↔ x ∈ s := by
 unfold has
 rw [List.any_eq_true]
 exact ⟨fun ⟨y, hy, e⟩ => (eq_of_beq e) ▸ hy, fun h => ⟨x, h, beq_self_eq_true x⟩⟩
end Go.Proofs.Ytpgjfppbbbnclaa.B
set_option linter.unusedVariables false
set_option linter.unusedSimpArgs false
namespace Go.Proofs.Ytpgjfppbbbnclaa.B
open Go.RowKit Go.Proofs.YtpgjfppbbbnclaaW.PrintWords
open LinT
theorem qHh {α β : Type} (L : List α → Nat → Nat → Option β) (p : Nat → Bool) (g : Nat → α) : ∀ (n : Nat), (∀ j s, j < n → s.length ≤ j → p j = true → Le (L (s ++ [g j]) (j + 1)) (L s j)) → (∀ j s, j < n → s.length ≤ j → p j = false → Le (L s (j + 1)) (L s j)) → Le (L (((List.range n).filter p).map g) n) (L [] 0)
 | 0, _, _ => Le.refl _
 | n + 1, h1, h0 => by
  have ih := qHh L p g n (fun j s hj => h1 j s oM_) (fun j s hj => h0 j s oM_)
  refine Le.trans ?_ ih
  have hl : (((List.range n).filter p).map g).length ≤ n := by
   rw [List.length_map]
   exact Nat.le_trans (List.length_filter_le _ _) (by simp)
  rw [List.range_succ, List.filter_append, yt_]
  cases hp : p n with
  | true =>
   have : [n].filter p = [n] := by simp [hp]
   rw [this]
   exact h1 n _ oM_ hl hp
  | false =>
   have : [n].filter p = [] := by simp [hp]
   rw [this, List.map_nil, List.append_nil]
   exact h0 n _ oM_ hl hp
def kerV (p : Nat) (n : Nat) (B : List (List Int)) (q : List Int) (c : Nat) : List Int :=
 iter (fun i s => s.set (q.getD i 0).toNat ((-((B.getD i []).getD c 0)) % (p : Int))) 0 q.length ((List.replicate n 0).set c 1)
def kerC (p : Nat) (n : Nat) (B : List (List Int)) (q : List Int) : List (List Int) := ((List.range n).filter fun (c : Nat) => !has q (c : Int)).map (kerV p n B q)
theorem qL3 {p n : Nat} (hp : 2 ≤ p) (B : List (List Int)) (q : List Int) (c : Nat) : (kerV p n B q c).length = n ∧ Rng p (kerV p n B q c) := by
 have hset : ∀ (s : List Int) (i : Nat) (y : Int), s.length = n ∧ Rng p s → 0 ≤ y ∧ y < (p : Int) → (s.set i y).length = n ∧ Rng p (s.set i y) := fun s i y hs hy => ⟨by rw [ym_]; exact hs.1, fun z hz => by
  rcases List.mem_or_eq_of_mem_set hz with h | h
  ·exact hs.2 z h
  ·rw [h]; exact hy⟩
 have := qFc (fun i s => s.set (q.getD i 0).toNat ((-((B.getD i []).getD c 0)) % (p : Int))) (fun _ s => s.length = n ∧ Rng p s) q.length 0 ((List.replicate n 0).set c 1)
  (hset _ _ _ ⟨by simp, fun z hz => by rw [(List.mem_replicate.1 hz).2]; omega⟩ oM_) (fun j s _ _ hs => hset _ _ _ hs ⟨Int.emod_nonneg _ oM_, Int.emod_lt_of_pos _ oM_⟩)
 exact this
theorem qO0 {p n : Nat} (hp : 2 ≤ p) (B : List (List Int)) (q : List Int) : Vs (p : Int) n (kerC p n B q) := fun x hx => by
 obtain ⟨c, _, rfl⟩ := ys_.1 hx
 exact qL3 hp B q c
theorem qM8 {p m n : Nat} {X : List Int} (hX : X.length = m * n) (hR : Rng p X) : Vs (p : Int) n (unfl n m X) := qLj hX ((qMc hX).1 hR)
theorem qHa {p m n : Nat} (hp : isP p = true) {X : List Int} (hX : X.length = m * n) (hR : Rng p X) (hm : m ≤ 1000) (hn : n ≤ 1000) :
  ∃ B q, Red (p : Int) n (unfl n m X) B q ∧ Ev (fun k => z41.f k (p : Int) (m : Int) (n : Int) X) (kerC p n B q) := by
 have h2 := qBr hp
 have hvs := qM8 hX hR
 obtain ⟨R, q, det, hE, hst⟩ := qMg hp (n := n) (L := unfl n m X) oM_ (by rw [qCq]; omega) hvs
 have hred := hst.red
 refine ⟨R.take q.length, q, hred, ?_⟩
 have hRl := hst.len
 rw [qCq] at hRl
 have hqm := hst.el.g.rm
 rw [qCq] at hqm
 unfold z41.f
 refine Ev.bind (qIw hX oM_ oM_) (Ev.bind hE ?_)
 refine qHh (fun s c k => z41.l0 k R q s (n : Int) (c : Int) (p : Int) (m : Int) (n : Int) X) (fun c => !has q (c : Int)) (kerV p n (R.take q.length) q) n (fun c s hc hs hp' r hr => ?_) (fun c s hc hs hp' r hr => ?_) _ ?_
 ·have hnot : has q (c : Int) = false := by simpa using hp'
  have hv := (qL3 (n := n) h2.1 (R.take q.length) q c).1
  have hl1 := (qBj (fun (v : List Int) (i : Nat) k => z41.l1 k R q s (c : Int) v (n : Int) (c : Int) q (q.length : Int) (i : Int) (p : Int) (m : Int) (n : Int) X) (fun i v => v.set (q.getD i 0).toNat ((-(((R.take q.length).getD i []).getD c 0)) % (p : Int))) (fun _ v => v.length = n) q.length 0 ((List.replicate n 0).set c 1) (by simp) (fun i v _ hi hv' => ⟨fun r' hr' => ?_, by rw [ym_]; exact hv'⟩)).1
  ·refine Ev.step (fun k => z41.l0.eq_2 ..) ?_
   refine qAa oM_ (Ev.bind (qGa q (c : Int) oM_) ?_)
   rw [hnot]
   refine qAd (by decide) (qAa oM_ (qAa oM_ (Ev.bind (qAr rfl) (qAa oM_ (qAa (by simp; omega) ?_)))))
   rw [yd_, yd_]
   refine hl1 r ?_
   refine Ev.step (fun k => z41.l1.eq_2 ..) ?_
   refine qAd oM_ (qAa oM_ ?_)
   rw [qAj oM_]
   exact hr
  ·have hi' : i < q.length := by omega
   have hqi := qNh hred hi'
   have hrl := qCv hst.vs (i := i) oM_
   have hx := qCu (qC9 hst.vs (i := i) oM_) (j := c) oM_
   have hrv := qG3 h2.1 h2.2 (a := -((R.getD i []).getD c 0)) oM_ oM_
   have hw : wrap64 (-((R.getD i []).getD c 0)) = -((R.getD i []).getD c 0) := qAi oM_ oM_
   refine Ev.step (fun k => z41.l1.eq_2 ..) ?_
   rw [qA0, qA2, qA0, hw]
   clear hw
   refine qAa oM_ (qAa oM_ (qAa oM_ (qAa oM_ (qAa oM_ (qAa oM_ (Ev.bind (qAr hrv) (qAa oM_ (qAa oM_ ?_))))))))
   rw [qAj oM_]
   rw [qL9 [] R hi'] at hr'
   exact hr'
 ·have hin : has q (c : Int) = true := by simpa using hp'
  refine Ev.step (fun k => z41.l0.eq_2 ..) ?_
  refine qAa oM_ (Ev.bind (qGa q (c : Int) oM_) ?_)
  rw [hin]
  refine qAa rfl ?_
  rw [qAj oM_]; exact hr
 ·refine Ev.step (fun k => z41.l0.eq_2 ..) ?_
  exact qAd oM_ (Ev.now _)
end Go.Proofs.Ytpgjfppbbbnclaa.B
