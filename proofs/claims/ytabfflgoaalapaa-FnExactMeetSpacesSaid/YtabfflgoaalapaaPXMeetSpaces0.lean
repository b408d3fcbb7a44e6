/- What the functions come to, for the law FnExactMeetSpaces. -/
import Derived.Test.YtabfflgoaalapaaKCAMCIB0
import Derived.Test.YtabfflgoaalapaaKDIAAHC0
import Derived.Test.YtabfflgoaalapaaKDLBLNO0
import Derived.Test.YtabfflgoaalapaaKDOPFND0
import Derived.Test.YtabfflgoaalapaaKEGJFJO0
import Derived.Test.YtabfflgoaalapaaKENHNJJ0
import Derived.Test.YtabfflgoaalapaaKFMJCKG0
import Derived.Test.YtabfflgoaalapaaKFPGKKO0
import Derived.Test.YtabfflgoaalapaaKGHHMHL0
import Derived.Test.YtabfflgoaalapaaKGMFEED0
import Derived.Test.YtabfflgoaalapaaKHLBPAE0
import Derived.Test.YtabfflgoaalapaaKHPIFHG0
import Derived.Test.YtabfflgoaalapaaKIJINCA0
import Derived.Test.YtabfflgoaalapaaKJMIPGL0
import Derived.Test.YtabfflgoaalapaaKKNFAEL0
import Derived.Test.YtabfflgoaalapaaKMCOAIA0
import Derived.Test.YtabfflgoaalapaaKOFDAOP0
import Derived.Test.YtabfflgoaalapaaKW0
import Derived.Below
import Derived.ChangeOld
import Derived.Deep.Matrix
import Derived.Lib.SmallJoins
import Derived.OpenShut
import Derived.ProofKit
import Derived.ShutString
import Derived.SizedLaws
import Derived.WalkKit
set_option linter.unusedVariables false
set_option linter.unusedSimpArgs false
namespace Go.Proofs.Ytabfflgoaalapaa.B
open Go.RowKit Go.ChangeShapes Go.WideShapes Go.Deep Go.Proofs.YtabfflgoaalapaaW.PrintWords

def Wf (n : Int) : Prop := -9223372036854775808 ≤ n ∧ n ≤ 9223372036854775807
def WfL (l : List Int) : Prop := l.length ≤ 9223372036854775807 ∧ ∀ n ∈ l, Wf n
def WfLL (l : List (List Int)) : Prop := l.length ≤ 9223372036854775807 ∧ ∀ r ∈ l, WfL r
theorem wf_of {n : Int} (h : (Lit.int .i64 n).wf = true) : Wf n := by
 unfold Wf
 simp [Lit.wf, IntKind.min, IntKind.max, IntKind.bits, IntKind.signed] at h
 omega

section
variable {H : Type} {enc : TypeId × Value → H} {P : Program} {w : World} {base : Nat} {held : Bool} {fuel : Nat}
theorem qC5 {t : TypeId} {v : Value} {x : DataW H × List MemPlace} (ht : P.underlying t = some (.int .i64)) (h : DataW.trod enc P w base (fun _ => true) held fuel t [v] = some x) : ∃ n, v = .int .i64 n ∧ Wf n := by
 obtain ⟨n, he, _, hw⟩ := DataW.trod_int ht h
 exact ⟨n, by simpa using he, wf_of hw⟩
theorem qG7 {t e : TypeId} {v : Value} {x : DataW H × List MemPlace} (ht : P.underlying t = some (.slice e)) (he : P.underlying e = some (.int .i64)) (hc : P.cellsOf e = 1) (h : DataW.trod enc P w base (fun _ => true) held fuel t [v] = some x) :
  ∃ A l c, v = .slice A l.length c ∧ (Kd.int .i64).C w A l.length l ∧ l.length ≤ c ∧ WfL l := by
 rcases open_ints ht he hc h with ⟨hcs, _⟩ | ⟨a, l, c, zs, hcs, _, hl, hm, hz, _, hcell, hwz⟩
 ·refine ⟨none, [], 0, by simpa using hcs, ⟨rfl, by simp, fun h => by simp at h⟩, by simp, by simp [WfL]⟩
 ·simp only [if_true] at hz
  have hlen : (zs.take l).length = l := by rw [List.length_take]; omega
  refine ⟨some a, zs.take l, c, by rw [hlen]; simpa using hcs, ⟨rfl, by rw [hlen]; simp only [maxLen] at hm; omega, fun _ => ⟨a, rfl, fun j p hj => ?_⟩⟩, by omega, ?_, fun n hn => wf_of (hwz n (List.mem_of_mem_take hn))⟩
  ·have hjl : j < l := by have := (List.getElem?_eq_some_iff.1 hj).1; omega
   refine ⟨[.int .i64 p], rfl, rfl, fun i u hu => ?_⟩
   cases i with
   | zero =>
    simp only [List.getElem?_cons_zero, Option.some.injEq] at hu
    subst hu
    rw [Nat.add_zero, show j * (Kd.int .i64).sz = j from Nat.mul_one j, hcell j (by omega)]
    rw [List.getElem?_take, if_pos hjl] at hj
    rw [List.getD_eq_getElem?_getD, hj]; rfl
   | succ i => simp at hu
  ·rw [hlen]; simp only [maxLen] at hm; omega
theorem qEr {t e q : TypeId} {v : Value} {x : DataW H × List MemPlace} (ht : P.underlying t = some (.slice e)) (he : P.underlying e = some (.slice q)) (hq : P.underlying q = some (.int .i64)) (ce : P.cellsOf e = 1) (cq : P.cellsOf q = 1) (h : DataW.trod enc P w base (fun _ => true) held fuel t [v] = some x) :
  ∃ A l c, v = .slice A l.length c ∧ (Kd.slice 2 (Kd.int .i64)).C w A l.length l ∧ l.length ≤ c ∧ WfLL l := by
 rcases open_slice1 ht ce h with ⟨hcs, _⟩ | ⟨a, l, c, m, n, V, D, Pl, hcs, _, hl, hm, hmm, _, hx⟩
 ·refine ⟨none, [], 0, by simpa using hcs, ⟨rfl, by simp, fun h => by simp at h⟩, by simp, by simp [WfLL]⟩
 ·simp only [if_true] at hmm
  subst hmm
  have each : ∀ r, r < m → ∃ y : Option Addr × List Int × Nat, V r = .slice y.1 y.2.1.length y.2.2 ∧ (Kd.int .i64).C w y.1 y.2.1.length y.2.1 ∧ y.2.1.length ≤ y.2.2 ∧ WfL y.2.1 := by
   intro r hr
   obtain ⟨A, l, c, h1, h2, h3, h4⟩ := qG7 he hq cq (hx r hr).2
   exact ⟨(A, l, c), h1, h2, h3, h4⟩
  obtain ⟨y, hy⟩ := choose_lt each
  have hlen : ((List.range l).map fun r => (y r).2.1).length = l := by simp
  refine ⟨some a, (List.range l).map fun r => (y r).2.1, m, by rw [hlen]; simpa using hcs, ⟨rfl, by rw [hlen]; simp only [maxLen] at hm; omega, fun _ => ⟨a, rfl, fun j p hj => ?_⟩⟩, by omega, ?_, ?_⟩
  ·have hjl : j < l := by have := (List.getElem?_eq_some_iff.1 hj).1; omega
   rw [List.getElem?_map, List.getElem?_range hjl] at hj
   simp only [Option.map_some, Option.some.injEq] at hj
   subst hj
   obtain ⟨h1, h2, h3, h4⟩ := hy j (by omega)
   refine ⟨[.slice (y j).1 (y j).2.1.length (y j).2.2], rfl, ⟨_, _, rfl, h3, h2⟩, fun i u hu => ?_⟩
   cases i with
   | zero =>
    simp only [List.getElem?_cons_zero, Option.some.injEq] at hu
    subst hu
    rw [Nat.add_zero, show j * (Kd.slice 2 (Kd.int .i64)).sz = j from Nat.mul_one j, (hx j (by omega)).1, h1]
   | succ i => simp at hu
  ·rw [hlen]; simp only [maxLen] at hm; omega
  ·intro r hr
   simp only [List.mem_map, List.mem_range] at hr
   obtain ⟨j, hj, rfl⟩ := hr
   exact (hy j (by omega)).2.2.2

theorem open_agg1 {r : Reach} {b0 : Nat} {t : TypeId} {f0 : Field} {v : Value} {d : DataW H} {p : List MemPlace} (hs : P.underlying t = some (.struct #[f0])) (hone : oneCellFields P #[f0] = true) (hC : P.cellsOf t = 1)
  (hv : Value.okWide P w r b0 t v) (h : DataW.Trod enc P w base (fun _ => true) held t v d p) :
  ∃ (v0 : Value) (y0 : DataW H × List MemPlace) (n : Nat), v = .agg #[v0] ∧ DataW.trod enc P w base (fun _ => true) held n f0.type [v0] = some y0 := by
 obtain ⟨cs, rfl, hsz⟩ := okWide_struct hs hv
 obtain ⟨c0, rfl⟩ : ∃ c0, cs = #[c0] := by
  have h1 : cs.size = 1 := hsz.trans hC
  match cs, h1 with | ⟨[c0]⟩, _ => exact ⟨c0, rfl⟩
 obtain ⟨fuel, hf⟩ := h
 obtain ⟨y0, n, hx, _, h0⟩ := trod_struct1 hs hf
 obtain ⟨o0, k0⟩ := hone_of hone 0 f0 rfl
 exact ⟨c0, y0, n, rfl, by simpa [Value.cells, o0, k0] using h0⟩
end
theorem own : ownKnob Try.prog.godebug = none := by kernel_rfl
theorem qJa : laidOutB Try.prog = true := by kernel_rfl
end Go.Proofs.Ytabfflgoaalapaa.B

set_option linter.unusedVariables false
set_option linter.unusedSimpArgs false
namespace Go.Proofs.Ytabfflgoaalapaa.B
open Go.RowKit Go.Proofs.YtabfflgoaalapaaW.PrintWords
theorem qGb (l : List Int) (a : Int) (h0 : 0 ≤ a) (h1 : a ≤ 9223372036854775807) (hl : l.length ≤ 9223372036854775807) : z101.f l a = some (if a - l.length < 0 then -1 else a - l.length) := by
 unfold z101.f
 have e : wrap64 (a - (l.length : Int)) = a - l.length := qAy (by omega) (by omega)
 rw [e]
 split <;> rfl
theorem qGc (l : List (List Int)) (a : Int) (hw : WfLL l) (h0 : 0 ≤ a) (h1 : a ≤ 9223372036854775807) :
  (∃ t, Ev (fun k => z52.f k l a) t ∧ t < 0) ∨ (Ev (fun k => z52.f k l a) (a - l.length - total l) ∧ l.length + total l ≤ a) := by
 have loop : ∀ (d i : Nat) (b : Int), d + i = l.length → 0 ≤ b → b ≤ 9223372036854775807 → (∃ t, Ev (fun k => z52.l0 k l b (i : Int)) t ∧ t < 0) ∨ (Ev (fun k => z52.l0 k l b (i : Int)) (b - total (l.drop i)) ∧ total (l.drop i) ≤ b) := by
  intro d
  induction d with
  | zero =>
   intro i b hd hb0 hb1
   right
   have hi : l.length = i := by omega
   rw [List.drop_of_length_le (by omega)]
   refine ⟨Ev.step (fun k => z52.l0.eq_2 ..) (qAs (by omega) (qBq (Ev.now b) (by simp [total]))), by simpa [total] using hb0⟩
  | succ d ih =>
   intro i b hd hb0 hb1
   have hi : i < l.length := by omega
   have hdr : l.drop i = l.getD i [] :: l.drop (i + 1) := by
    rw [List.drop_eq_getElem_cons hi, List.getD_eq_getElem?_getD, List.getElem?_eq_getElem hi]; rfl
   have hm : l.getD i [] ∈ l := by
    rw [List.getD_eq_getElem?_getD, List.getElem?_eq_getElem hi]; exact List.getElem_mem hi
   have hrl := (hw.2 _ hm).1
   have hv := qGb (l.getD i []) b hb0 hb1 hrl
   have hrd : rI_ l (i : Int) = l.getD i [] := by simp [rI_]
   have hlen : l.length ≤ 9223372036854775807 := hw.1
   by_cases hneg : b - ((l.getD i []).length : Int) < 0
   ·left
    rw [if_pos hneg] at hv
    refine ⟨-1, Ev.step (fun k => z52.l0.eq_2 ..) (qAi (by omega) (qAi (by omega) ?_)), by omega⟩
    rw [hrd]
    exact Ev.bind (qA6 hv) (qAi (by omega) (Ev.now _))
   ·rw [if_neg hneg] at hv
    rcases ih (i + 1) (b - ((l.getD i []).length : Int)) (by omega) (by omega) (by omega) with ⟨t, ht, htn⟩ | ⟨ht, htb⟩
    ·left
     refine ⟨t, Ev.step (fun k => z52.l0.eq_2 ..) (qAi (by omega) (qAi (by omega) ?_)), htn⟩
     rw [hrd, qAv (by omega)]
     exact Ev.bind (qA6 hv) (qAs (by omega) ht)
    ·right
     rw [hdr]
     simp only [total]
     refine ⟨Ev.step (fun k => z52.l0.eq_2 ..) (qAi (by omega) (qAi (by omega) ?_)), by omega⟩
     rw [hrd, qAv (by omega)]
     exact Ev.bind (qA6 hv) (qAs (by omega) (qBq ht (by omega)))
 have hlen : l.length ≤ 9223372036854775807 := hw.1
 have e : wrap64 (a - (l.length : Int)) = a - l.length := qAy (by omega) (by omega)
 by_cases hneg : a - (l.length : Int) < 0
 ·left
  refine ⟨-1, ?_, by omega⟩
  unfold z52.f
  rw [e]
  exact qAi hneg (Ev.now _)
 ·rcases loop l.length 0 (a - l.length) (by omega) (by omega) (by omega) with ⟨t, ht, htn⟩ | ⟨ht, htb⟩
  ·left
   refine ⟨t, ?_, htn⟩
   unfold z52.f
   rw [e]
   exact qAs hneg ht
  ·right
   refine ⟨?_, by simp only [List.drop_zero] at htb; omega⟩
   unfold z52.f
   rw [e]
   exact qAs hneg ht
theorem qG2 (l : List Int) (hl : l.length ≤ 1048576) : Ev (fun k => z14.f k l) l := by
 have h := qB1 (fun (s : List Int) (i : Nat) k => z14.l0 k l s (i : Int)) (fun i s => s.set i (l.getD i 0)) (fun i s => s = l.take i ++ List.replicate (l.length - i) 0) l.length 0 (List.replicate l.length 0) (by simp) (by
  intro j s _ hj hs
  refine ⟨fun r hr => Ev.step (fun k => z14.l0.eq_2 ..) (qAi (by omega) (qAi (by omega) (qAi ?_ ?_))), ?_⟩
  ·subst hs; simp only [List.length_append, List.length_take, List.length_replicate]; omega
  ·rw [qAv (by omega), qBk, Int.toNat_natCast]; exact hr
  ·subst hs; exact qFk l j 0 (by omega) _ rfl)
 unfold z14.f
 refine qAi (by omega) (qAi (by omega) ?_)
 rw [Int.toNat_natCast]
 refine h.1 l (Ev.step (fun k => z14.l0.eq_2 ..) (qAs (by omega) (qBq (Ev.now _) ?_)))
 rw [h.2]
 simp
theorem qGa (l : List (List Int)) (hl : l.length ≤ 1048576) (hr : ∀ x ∈ l, x.length ≤ 1048576) : Ev (fun k => z57.f k l) l := by
 have h := qB1 (fun (s : List (List Int)) (i : Nat) k => z57.l0 k l s (i : Int)) (fun i s => s.set i (l.getD i [])) (fun i s => s = l.take i ++ List.replicate (l.length - i) []) l.length 0 (List.replicate l.length []) (by simp) (by
  intro j s _ hj hs
  have hm : l.getD j [] ∈ l := by
   rw [List.getD_eq_getElem?_getD, List.getElem?_eq_getElem (by omega)]; exact List.getElem_mem _
  have hrd : rI_ l (j : Int) = l.getD j [] := by simp [rI_]
  refine ⟨fun r hr' => Ev.step (fun k => z57.l0.eq_2 ..) (qAi (by omega) (qAi (by omega) ?_)), ?_⟩
  ·rw [hrd]
   refine Ev.bind (qG2 _ (hr _ hm)) (qAi ?_ ?_)
   ·subst hs; simp only [List.length_append, List.length_take, List.length_replicate]; omega
   ·rw [qAv (by omega), Int.toNat_natCast]; exact hr'
  ·subst hs; exact qFk l j [] (by omega) _ rfl)
 unfold z57.f
 refine qAi (by omega) (qAi (by omega) ?_)
 rw [Int.toNat_natCast]
 refine h.1 l (Ev.step (fun k => z57.l0.eq_2 ..) (qAs (by omega) (qBq (Ev.now _) ?_)))
 rw [h.2]
 simp
theorem qBz {α : Type} [BEq α] [LawfulBEq α] (l m : List α) (z : α) (h : l.length = m.length) : (List.range l.length).all (fun i => l.getD i z == m.getD i z) = (l == m) := by
 rw [Bool.eq_iff_iff, List.all_eq_true, beq_iff_eq]
 constructor
 ·intro e
  apply List.ext_getElem h
  intro i h1 h2
  have := e i (List.mem_range.2 h1)
  simpa [List.getD_eq_getElem?_getD, List.getElem?_eq_getElem h1, List.getElem?_eq_getElem h2] using this
 ·rintro rfl i _
  exact beq_self_eq_true _
theorem qCe {α : Type} [BEq α] [LawfulBEq α] {l m : List α} (h : l.length ≠ m.length) : (l == m) = false := by
 rw [Bool.eq_false_iff]; intro e; exact h (by rw [eq_of_beq e])
theorem qHg (l m : List Int) (hl : l.length < 9223372036854775807) : Ev (fun k => z16.f k l m) (l == m) := by
 unfold z16.f
 by_cases h : l.length = m.length
 ·refine qAi (by omega) ?_
  rw [← qBz l m 0 h]
  refine qEu (fun (i : Nat) k => z16.l0 k l m (i : Int)) _ l.length (fun j hj hp r hr => ?_) (fun j hj hp => ?_) ?_
  ·refine Ev.step (fun k => z16.l0.eq_2 ..) (qAi (by omega) (qAi (by omega) (qAi (by omega) (qAi ?_ ?_))))
   ·rw [qBk, qBk]; exact eq_of_beq hp
   ·rw [qAv (by omega)]; exact hr
  ·refine Ev.step (fun k => z16.l0.eq_2 ..) (qAi (by omega) (qAi (by omega) (qAi (by omega) (qAs ?_ (Ev.now _)))))
   rw [qBk, qBk]; exact ne_of_beq_false hp
  ·exact Ev.step (fun k => z16.l0.eq_2 ..) (qAs (by omega) (Ev.now _))
 ·rw [qCe h]
  exact qAs (by omega) (Ev.now _)
theorem qGp (l m : List (List Int)) (hl : l.length < 9223372036854775807) (hr : ∀ x ∈ l, x.length < 9223372036854775807) : Ev (fun k => z26.f k l m) (l == m) := by
 unfold z26.f
 by_cases h : l.length = m.length
 ·refine qAi (by omega) ?_
  rw [← qBz l m [] h]
  have hm : ∀ j, j < l.length → Ev (fun k => z16.f k (rI_ l (j : Int)) (rI_ m (j : Int))) (l.getD j [] == m.getD j []) := fun j hj => by
   have h1 : rI_ l (j : Int) = l.getD j [] := by simp [rI_]
   have h2 : rI_ m (j : Int) = m.getD j [] := by simp [rI_]
   rw [h1, h2]
   refine qHg _ _ (hr _ ?_)
   rw [List.getD_eq_getElem?_getD, List.getElem?_eq_getElem hj]; exact List.getElem_mem hj
  refine qEu (fun (i : Nat) k => z26.l0 k l m (i : Int)) _ l.length (fun j hj hp r hr => ?_) (fun j hj hp => ?_) ?_
  ·refine Ev.step (fun k => z26.l0.eq_2 ..) (qAi (by omega) (qAi (by omega) (qAi (by omega) (Ev.bind (hm j hj) (qAi hp ?_)))))
   rw [qAv (by omega)]; exact hr
  ·exact Ev.step (fun k => z26.l0.eq_2 ..) (qAi (by omega) (qAi (by omega) (qAi (by omega) (Ev.bind (hm j hj) (qAs (by rw [hp]; decide) (Ev.now _))))))
  ·exact Ev.step (fun k => z26.l0.eq_2 ..) (qAs (by omega) (Ev.now _))
 ·rw [qCe h]
  exact qAs (by omega) (Ev.now _)
end Go.Proofs.Ytabfflgoaalapaa.B
set_option linter.unusedVariables false
set_option linter.unusedSimpArgs false
namespace Go.Proofs.Ytabfflgoaalapaa.B
open Go.RowKit Go.Proofs.YtabfflgoaalapaaW.PrintWords
theorem qJ5 (l : List (List Int)) (a : Int) (h0 : 0 ≤ a) (h1 : a + total l ≤ 9223372036854775807) : laws_markInt64SS.f l a = some (a + total l, qA9 l a) := by
 unfold laws_markInt64SS.f
 rw [if_pos ⟨h0, h1⟩]
theorem qD9 : ∀ (l : List Int) (a : Int) (i : Nat), i < l.length → (qBc l a).getD i 0 = a + i
 | [], a, i, h => by simp at h
 | x :: l, a, 0, h => by simp [qBc]
 | x :: l, a, i + 1, h => by
  have := qD9 l (a + 1) i (by simpa using h)
  simp only [qBc, List.getD_cons_succ, this]
  omega
theorem qF1 (l : List Int) (a : Int) (h0 : 0 ≤ a) (h1 : a + l.length ≤ 9223372036854775807) : Ev (fun k => z20.f k (qBc l a) a) (a + l.length) := by
 unfold z20.f
 have h := qDj (r := a + l.length) (fun (i : Nat) k => z20.l0 k (qBc l a) (a + i) (i : Int)) (fun _ => false) l.length 0 (fun j _ hj _ r hr => by
  refine Ev.step (fun k => z20.l0.eq_2 ..) ?_
  rw [qBk, qD9 l a j (by omega), qCg, qAv (by omega), qAy (by omega) (by omega), show a + (j : Int) + 1 = a + ((j + 1 : Nat) : Int) by omega]
  (repeat (first | refine qAi (by omega) ?_ | refine qAs (by omega) ?_))
  exact hr) (fun _ _ _ h => by cases h) (fun _ => by
  refine Ev.step (fun k => z20.l0.eq_2 ..) ?_
  rw [qCg]
  exact qAs (by omega) (qBq (Ev.now _) (by omega)))
 simpa using h
theorem qD8 : ∀ (l : List (List Int)) (a : Int) (i : Nat), i < l.length → (qA9 l a).getD i [] = qBc (l.getD i []) (a + total (l.take i))
 | [], a, i, h => by simp at h
 | x :: l, a, 0, h => by simp [qA9, total]
 | x :: l, a, i + 1, h => by
  have := qD8 l (a + x.length) i (by simpa using h)
  simp only [qA9, List.getD_cons_succ, this, List.take_succ_cons, total]
  congr 1
  omega
theorem qEb (l0 : List (List Int)) (k : Nat) (hk : k < l0.length) : total (l0.take (k + 1)) = total (l0.take k) + (l0.getD k []).length := by
 have ht : l0.take (k + 1) = l0.take k ++ [l0.getD k []] := by
  rw [List.take_succ_eq_append_getElem hk, List.getD_eq_getElem?_getD, List.getElem?_eq_getElem hk]; rfl
 rw [ht, qBu]; simp [total]
theorem qE5 (l0 : List (List Int)) (k : Nat) : total (l0.take k) ≤ total l0 := by
 have h := qBu (l0.take k) (l0.drop k)
 rw [List.take_append_drop] at h
 have := qA7 (l0.drop k)
 omega
theorem qFe (l : List (List Int)) (a : Int) (h0 : 0 ≤ a) (h1 : a + total l ≤ 9223372036854775807) (hl : l.length < 9223372036854775807) : Ev (fun k => z28.f k (qA9 l a) a) (a + total l) := by
 unfold z28.f
 have h := qDj (r := a + total l) (fun (i : Nat) k => z28.l0 k (qA9 l a) (a + total (l.take i)) (i : Int)) (fun _ => false) l.length 0 (fun j _ hj _ r hr => by
  have hrd : rI_ (qA9 l a) (j : Int) = qBc (l.getD j []) (a + total (l.take j)) := by
   rw [← qD8 l a j (by omega)]; simp [rI_]
  have e1 := qEb l j (by omega)
  have e2 := qE5 l (j + 1)
  have e3 := qA7 (l.take j)
  refine Ev.step (fun k => z28.l0.eq_2 ..) ?_
  rw [hrd, qBo, qAv (by omega)]
  (repeat (first | refine qAi (by omega) ?_ | refine qAs (by omega) ?_))
  refine Ev.bind (qF1 _ _ (by omega) (by omega)) (qAs (by omega) ?_)
  rw [show a + total (l.take j) + ((l.getD j []).length : Int) = a + total (l.take (j + 1)) by omega]
  exact hr) (fun _ _ _ h => by cases h) (fun _ => by
  refine Ev.step (fun k => z28.l0.eq_2 ..) ?_
  rw [qBo]
  refine qAs (by omega) (qBq (Ev.now _) ?_)
  rw [Nat.zero_add, List.take_length])
 simpa [total] using h
end Go.Proofs.Ytabfflgoaalapaa.B
set_option linter.unusedVariables false
set_option linter.unusedSimpArgs false
namespace Go.Proofs.Ytabfflgoaalapaa.B
open Go.RowKit Go.Proofs.YtabfflgoaalapaaW.PrintWords
end Go.Proofs.Ytabfflgoaalapaa.B
set_option linter.unusedVariables false
set_option linter.unusedSimpArgs false
namespace Go.Proofs.Ytabfflgoaalapaa.B
open Go.RowKit Go.Proofs.YtabfflgoaalapaaW.PrintWords
theorem qCz : ∀ (l : List (List Int)) (x : List Int), x ∈ l → x.length ≤ total l
 | y :: l, x, h => by
  have := qA7 l
  simp only [total]
  rcases List.mem_cons.1 h with rfl | h
  ·omega
  ·have := qCz l x h; omega
theorem qG1 {l : List (List Int)} {m : Nat} (h : ∀ x ∈ l, x.length ≤ m) : total l ≤ l.length * m := by
 induction l with
 | nil => simp [total]
 | cons x l ih =>
  have h1 := h x List.mem_cons_self
  have h2 := ih (fun y hy => h y (List.mem_cons_of_mem _ hy))
  simp only [total, List.length_cons]
  rw [Int.natCast_add, Int.add_mul]
  omega
theorem qC2 (a b : Int) (l : List (List Int)) (hl : l.length < 9223372036854775807) (hr : ∀ x ∈ l, x.length < 9223372036854775807) : Ev (fun k => z17.f k a b l a b l) true := by
 unfold z17.f
 exact qAi rfl (qAi rfl (Ev.bind (qBq (qGp l l hl hr) (beq_self_eq_true l)) (qAi rfl (Ev.now _))))
theorem qFi (a b : Int) (l : List (List Int)) (hl : l.length ≤ 1048576) (hr : ∀ x ∈ l, x.length ≤ 1048576) : Ev (fun k => z13.f k a b l) (a, b, l) := by
 unfold z13.f
 exact Ev.bind (qGa l hl hr) (Ev.now _)
theorem qFj (p n : Int) (l : List (List Int)) (b : Int) (hw : WfLL l) (h0 : 0 ≤ b) (h1 : b ≤ 9223372036854775807) :
  (∃ t, Ev (fun k => z11.f k p n l b) t ∧ t < 0) ∨ (Ev (fun k => z11.f k p n l b) (b - l.length - total l) ∧ l.length + total l ≤ b) := by
 unfold z11.f
 rcases qGc l b hw h0 h1 with ⟨t, ht, hn⟩ | ⟨ht, hb⟩
 ·exact .inl ⟨-1, Ev.bind ht (qAi hn (Ev.now _)), by omega⟩
 ·exact .inr ⟨Ev.bind ht (qAs (by omega) (Ev.now _)), hb⟩
theorem qCr (p n : Int) (l : List (List Int)) (a : Int) (h0 : 0 ≤ a) (h1 : a + total l ≤ 9223372036854775807) : laws_markSpace.f p n l a = some (a + total l, qA9 l a) := qJ5 l a h0 h1
theorem qGn (p n : Int) (l : List (List Int)) (a : Int) (h0 : 0 ≤ a) (h1 : a + total l ≤ 9223372036854775807) (hl : l.length < 9223372036854775807) : Ev (fun k => z23.f k p n (qA9 l a) a) (a + total l) := by
 have := qA7 l
 unfold z23.f
 exact Ev.bind (qFe l a h0 h1 hl) (qAs (by omega) (Ev.now _))
end Go.Proofs.Ytabfflgoaalapaa.B
set_option linter.unusedVariables false
set_option linter.unusedSimpArgs false
namespace Go.Proofs.Ytabfflgoaalapaa.B
open Go.RowKit Go.Proofs.YtabfflgoaalapaaW.PrintWords
theorem qGo {α β : Type} (L : List α → Nat → Nat → Option β) (g : Nat → α) : ∀ (n : Nat), (∀ j s, j < n → s = (List.range j).map g → Le (L (s ++ [g j]) (j + 1)) (L s j)) → Le (L ((List.range n).map g) n) (L [] 0)
 | 0, _ => Le.refl _
 | n + 1, h => by
  have ih := qGo L g n (fun j s hj => h j s (by omega))
  refine Le.trans ?_ ih
  rw [List.range_succ, List.map_append]
  exact h n _ (by omega) rfl
theorem qHe (L : Nat → Nat → Option Bool) (p : Nat → Bool) (b : Bool) : ∀ (n : Nat), (∀ j, j < n → (∀ m, m < j → p m = true) → p j = true → Le (L (j + 1)) (L j)) → (∀ j, j < n → (∀ m, m < j → p m = true) → p j = false → Ev (L j) false) → ((∀ m, m < n → p m = true) → Ev (L n) b) → Ev (L 0) ((List.range n).all p && b) := by
 intro n h1 h0 he
 have main : ∀ (d i : Nat), i + d = n → (∀ m, m < i → p m = true) → Ev (L i) ((List.range n).all p && b) := by
  intro d
  induction d with
  | zero =>
   intro i hi hall
   have : i = n := by omega
   subst this
   have e : (List.range i).all p = true := List.all_eq_true.2 (fun j hj => hall j (List.mem_range.1 hj))
   rw [e, Bool.true_and]; exact he hall
  | succ d ih =>
   intro i hi hall
   cases hp : p i with
   | true =>
    refine h1 i (by omega) hall hp _ (ih (i + 1) (by omega) (fun m hm => ?_))
    rcases Nat.lt_or_ge m i with hl | hg
    ·exact hall m hl
    ·have : m = i := by omega
     subst this; exact hp
   | false =>
    have e : (List.range n).all p = false := by
     rw [Bool.eq_false_iff]
     intro h
     have := List.all_eq_true.1 h i (List.mem_range.2 (by omega))
     rw [hp] at this; cases this
    rw [e, Bool.false_and]
    exact h0 i (by omega) hall hp
 exact main n 0 (by omega) (fun m hm => by omega)
theorem qI8 {α β : Type} (z : α) (g : α → β) (l : List α) : l.map g = (List.range l.length).map fun j => g (l.getD j z) := by
 apply List.ext_getElem
 ·simp
 ·intro n h1 h2
  simp only [List.getElem_map, List.getElem_range, List.getD_eq_getElem?_getD]
  have : n < l.length := by simpa using h1
  simp [List.getElem?_eq_getElem this]
end Go.Proofs.Ytabfflgoaalapaa.B
set_option linter.unusedVariables false
set_option linter.unusedSimpArgs false
namespace Go.Proofs.Ytabfflgoaalapaa.B
open Go.RowKit Go.Proofs.YtabfflgoaalapaaW.PrintWords
theorem qD0 (a b c : Int) : z126.f a b c = some (decide (b ≤ a) && decide (a ≤ c)) := by
 unfold z126.f
 by_cases h : a ≥ b
 ·rw [if_pos h]; simp [h]
 ·rw [if_neg h]; simp; omega
theorem qHv (a b c : Int) : z79.f a b c = some (decide (b ≤ a) && decide (a ≤ c)) := by
 unfold z79.f
 by_cases h : a ≥ b
 ·rw [if_pos h]; simp [h]
 ·rw [if_neg h]; simp; omega
theorem qBp {α : Type} {l : List α} {i : Nat} (z : α) (h : i < l.length) : l.getD i z ∈ l := by
 rw [List.getD_eq_getElem?_getD, List.getElem?_eq_getElem h]; exact List.getElem_mem h
theorem qBe (l : List (List Int)) (i : Nat) : rI_ l (i : Int) = l.getD i [] := by simp [rI_]
end Go.Proofs.Ytabfflgoaalapaa.B
set_option linter.unusedVariables false
set_option linter.unusedSimpArgs false
namespace Go.Proofs.Ytabfflgoaalapaa.B.LinT
abbrev Vec := Nat → Int
theorem qBi {p a : Int} (c : Int) (h : p ∣ a) : p ∣ c * a := Int.dvd_trans h (Int.dvd_mul_left c a)
def Zr (p : Int) (n : Nat) (v : Vec) : Prop := ∀ i, i < n → p ∣ v i
structure Sub (p : Int) (n : Nat) (S : Vec → Prop) : Prop where
 zero : ∀ v, Zr p n v → S v
 add : ∀ v w, S v → S w → S (fun i => v i + w i)
 smul : ∀ (c : Int) v, S v → S (fun i => c * v i)
theorem Sub.congr {p : Int} {n : Nat} {S : Vec → Prop} (h : Sub p n S) {v w : Vec} (hv : S v) (e : ∀ i, i < n → p ∣ w i - v i) : S w := by
 have := h.add v (fun i => w i - v i) hv (h.zero _ e)
 have e2 : (fun i => v i + (w i - v i)) = w := by funext i; omega
 rwa [e2] at this
theorem Sub.sub {p : Int} {n : Nat} {S : Vec → Prop} (h : Sub p n S) {v w : Vec} (hv : S v) (hw : S w) : S (fun i => v i - w i) := by
 have := h.add v _ hv (h.smul (-1) w hw)
 have e2 : (fun i => v i + -1 * w i) = fun i => v i - w i := by funext i; omega
 rwa [e2] at this
def Ld (p : Int) (n : Nat) (v : Vec) (i : Nat) : Prop := i < n ∧ ¬ p ∣ v i ∧ ∀ j, j < i → p ∣ v j
theorem qKm {q : Nat → Prop} (h : ∃ j, q j) : ∃ j, q j ∧ ∀ m, m < j → ¬ q m := by
 obtain ⟨j, hj⟩ := h
 induction j using Nat.strongRecOn with
 | _ j ih =>
  by_cases hm : ∃ m, m < j ∧ q m
  ·obtain ⟨m, h1, h2⟩ := hm
   exact ih m h1 h2
  ·exact ⟨j, hj, fun m h1 h2 => hm ⟨m, h1, h2⟩⟩
theorem ld_of {p : Int} {n : Nat} {v : Vec} (h : ¬ Zr p n v) : ∃ i, Ld p n v i := by
 have : ∃ i, i < n ∧ ¬ p ∣ v i := by
  refine Classical.byContradiction fun hc => h fun i hi => Classical.byContradiction fun hd => hc ⟨i, hi, hd⟩
 obtain ⟨i, ⟨h1, h2⟩, h3⟩ := qKm this
 exact ⟨i, h1, h2, fun j hj => Classical.byContradiction fun hd => h3 j hj ⟨by omega, hd⟩⟩
theorem ld_nz {p : Int} {n : Nat} {v : Vec} {i : Nat} (h : Ld p n v i) : ¬ Zr p n v := fun hz => h.2.1 (hz i h.1)
def Pl (p : Int) (n : Nat) (S : Vec → Prop) (i : Nat) : Prop := ∃ v, S v ∧ Ld p n v i
open Classical in
noncomputable def cnt (Q : Nat → Prop) : Nat → Nat
 | 0 => 0
 | n + 1 => cnt Q n + (if Q n then 1 else 0)
theorem qKo (Q : Nat → Prop) : ∀ n, cnt Q n ≤ n
 | 0 => Nat.le_refl _
 | n + 1 => by have := qKo Q n; simp only [cnt]; split <;> omega
theorem qEf {Q R : Nat → Prop} : ∀ n, (∀ i, i < n → Q i → R i) → cnt Q n ≤ cnt R n
 | 0, _ => Nat.le_refl _
 | n + 1, h => by
  have ih := qEf n (fun i hi => h i (by omega))
  have hn := h n (by omega)
  simp only [cnt]
  by_cases hq : Q n
  ·rw [if_pos hq, if_pos (hn hq)]; omega
  ·rw [if_neg hq]; split <;> omega
theorem qGr {Q R : Nat → Prop} (n : Nat) (h : ∀ i, i < n → (Q i ↔ R i)) : cnt Q n = cnt R n :=
 Nat.le_antisymm (qEf n fun i hi => (h i hi).1) (qEf n fun i hi => (h i hi).2)
theorem qD6 {Q R : Nat → Prop} (i0 : Nat) : ∀ n, i0 < n → ¬ Q i0 → (∀ i, i < n → (R i ↔ Q i ∨ i = i0)) → cnt R n = cnt Q n + 1
 | 0, h, _, _ => by omega
 | n + 1, h, hq, he => by
  simp only [cnt]
  rcases Nat.lt_or_ge i0 n with hl | hg
  ·rw [qD6 i0 n hl hq (fun i hi => he i (by omega))]
   have e := he n (by omega)
   have e2 : R n ↔ Q n := by
    rw [e]
    constructor
    ·rintro (h | h)
     ·exact h
     ·omega
    ·exact Or.inl
   by_cases hqn : Q n
   ·rw [if_pos hqn, if_pos (e2.2 hqn)]
   ·rw [if_neg hqn, if_neg (fun h => hqn (e2.1 h))]
  ·have : i0 = n := by omega
   subst this
   rw [if_neg hq, if_pos ((he i0 (by omega)).2 (.inr rfl)), qGr (Q := R) (R := Q) i0 (fun i hi => by
    rw [he i (by omega)]; constructor
    ·rintro (h | h)
     ·exact h
     ·omega
    ·exact Or.inl)]
theorem qF2 (Q : Nat → Prop) : ∀ n, (∀ i, i < n → ¬ Q i) → cnt Q n = 0
 | 0, _ => rfl
 | n + 1, h => by simp only [cnt]; rw [qF2 Q n (fun i hi => h i (by omega)), if_neg (h n (by omega))]
noncomputable def dim (p : Int) (n : Nat) (S : Vec → Prop) : Nat := cnt (Pl p n S) n
theorem dim_le (p : Int) (n : Nat) (S : Vec → Prop) : dim p n S ≤ n := qKo _ _
theorem qHx {p : Int} {n : Nat} {S T : Vec → Prop} (h : ∀ v, S v → T v) : dim p n S ≤ dim p n T :=
 qEf n fun i _ ⟨v, h1, h2⟩ => ⟨v, h v h1, h2⟩
theorem qDw {p : Int} {n : Nat} {S T : Vec → Prop} (h : ∀ v, S v ↔ T v) : dim p n S = dim p n T :=
 Nat.le_antisymm (qHx fun v => (h v).1) (qHx fun v => (h v).2)
def Pr (p : Int) : Prop := (¬ p ∣ 1) ∧ ∀ a, ¬ p ∣ a → ∃ b, p ∣ a * b - 1
theorem qG9 {p a b : Int} (hp : Pr p) (h : ¬ p ∣ a) (h' : ¬ p ∣ b) : ¬ p ∣ a * b := fun hd => by
 obtain ⟨c, hc⟩ := hp.2 a h
 apply h'
 obtain ⟨k, hk⟩ := hd
 obtain ⟨m, hm⟩ := hc
 exact ⟨c * k - m * b, by grind⟩
theorem qIx {p : Int} {n : Nat} {S : Vec → Prop} (hp : Pr p) (hS : Sub p n S) (v : Vec) : ∃ s, S s ∧ (Zr p n (fun i => v i - s i) ∨ ∃ i, Ld p n (fun i => v i - s i) i ∧ ¬ Pl p n S i) := by
 have main : ∀ (d : Nat) (v : Vec), (∀ j, j + d < n → p ∣ v j) → ∃ s, S s ∧ (Zr p n (fun i => v i - s i) ∨ ∃ i, Ld p n (fun i => v i - s i) i ∧ ¬ Pl p n S i) := by
  intro d
  induction d with
  | zero =>
   intro v hv
   refine ⟨fun _ => 0, hS.zero _ (fun i _ => Int.dvd_zero p), .inl fun i hi => ?_⟩
   simpa using hv i (by omega)
  | succ d ih =>
   intro v hv
   by_cases hz : Zr p n v
   ·refine ⟨fun _ => 0, hS.zero _ (fun i _ => Int.dvd_zero p), .inl fun i hi => ?_⟩
    simpa using hz i hi
   ·obtain ⟨i, hi⟩ := ld_of hz
    by_cases hP : Pl p n S i
    ·obtain ⟨s, hs, hl⟩ := hP
     obtain ⟨b, hb⟩ := hp.2 _ hl.2.1
     obtain ⟨t, ht, h⟩ := ih (fun j => v j - (v i * b) * s j) (fun j hj => by
      rcases Nat.lt_trichotomy j i with h1 | h1 | h1
      ·exact Int.dvd_sub (hi.2.2 j h1) (qBi _ (hl.2.2 j h1))
      ·subst h1
       obtain ⟨k, hk⟩ := hb
       exact ⟨-(v j * k), by grind⟩
      ·have : i < n := hi.1
       exact absurd (hv i (by omega)) hi.2.1)
     refine ⟨fun j => (v i * b) * s j + t j, hS.add _ _ (hS.smul _ _ hs) ht, ?_⟩
     have e : (fun j => v j - ((v i * b) * s j + t j)) = fun j => v j - (v i * b) * s j - t j := by funext j; omega
     rw [e]; exact h
    ·refine ⟨fun _ => 0, hS.zero _ (fun i _ => Int.dvd_zero p), .inr ⟨i, ?_, hP⟩⟩
     simpa using hi
 exact main n v (fun j hj => by omega)
def Ins (p : Int) (n : Nat) (S : Vec → Prop) (x v : Vec) : Prop := ∃ (c : Int) (s : Vec), S s ∧ ∀ i, i < n → p ∣ v i - (c * x i + s i)
theorem Ins.isSub {p : Int} {n : Nat} {S : Vec → Prop} (hS : Sub p n S) (x : Vec) : Sub p n (Ins p n S x) where
 zero v hv := ⟨0, fun _ => 0, hS.zero _ (fun i _ => Int.dvd_zero p), fun i hi => by simpa using hv i hi⟩
 add := by
  rintro v w ⟨c, s, hs, h⟩ ⟨c', s', hs', h'⟩
  refine ⟨c + c', _, hS.add _ _ hs hs', fun i hi => ?_⟩
  have := Int.dvd_add (h i hi) (h' i hi)
  have e : v i + w i - ((c + c') * x i + (s i + s' i)) = (v i - (c * x i + s i)) + (w i - (c' * x i + s' i)) := by grind
  rw [e]; exact this
 smul := by
  rintro d v ⟨c, s, hs, h⟩
  refine ⟨d * c, _, hS.smul d _ hs, fun i hi => ?_⟩
  have := qBi d (h i hi)
  have e : d * v i - (d * c * x i + d * s i) = d * (v i - (c * x i + s i)) := by grind
  rw [e]; exact this
theorem Ins.old {p : Int} {n : Nat} {S : Vec → Prop} {x v : Vec} (h : S v) : Ins p n S x v := ⟨0, v, h, fun i _ => by simp⟩
theorem Ins.new {p : Int} {n : Nat} {S : Vec → Prop} (hS : Sub p n S) {x : Vec} : Ins p n S x x := ⟨1, fun _ => 0, hS.zero _ (fun i _ => Int.dvd_zero p), fun i _ => by simp⟩
theorem Ins.least {p : Int} {n : Nat} {S T : Vec → Prop} (hT : Sub p n T) {x v : Vec} (h : ∀ v, S v → T v) (hx : T x) (hv : Ins p n S x v) : T v := by
 obtain ⟨c, s, hs, he⟩ := hv
 exact hT.congr (hT.add _ _ (hT.smul c _ hx) (h s hs)) he
theorem qK8 {p : Int} {n : Nat} {S : Vec → Prop} (hp : Pr p) (hS : Sub p n S) {x : Vec} (hx : ¬ S x) : dim p n (Ins p n S x) = dim p n S + 1 := by
 obtain ⟨s, hs, hz | ⟨i0, hi, hP⟩⟩ := qIx hp hS x
 ·exact absurd (hS.congr hs hz) hx
 refine qD6 i0 n hi.1 hP (fun i hin => ⟨?_, ?_⟩)
 ·rintro ⟨v, ⟨c, t, ht, he⟩, hl⟩
  by_cases hc : p ∣ c
  ·left
   refine ⟨v, hS.congr ht (fun j hj => ?_), hl⟩
   have := Int.dvd_add (he j hj) (Int.dvd_mul_of_dvd_left (c := x j) hc)
   have e : v j - t j = v j - (c * x j + t j) + c * x j := by omega
   rw [e]; exact this
  ·-- v = c (x - s) + (c s + t)
   have hu : S (fun j => c * s j + t j) := hS.add _ _ (hS.smul c _ hs) ht
   have hv : ∀ j, j < n → p ∣ v j - (c * (x j - s j) + (c * s j + t j)) := fun j hj => by
    have e : v j - (c * (x j - s j) + (c * s j + t j)) = v j - (c * x j + t j) := by grind
    rw [e]; exact he j hj
   generalize hdef : (fun j => c * s j + t j) = u at hu
   have hv : ∀ j, j < n → p ∣ v j - (c * (x j - s j) + u j) := fun j hj => by rw [← hdef]; exact hv j hj
   rcases Nat.lt_trichotomy i i0 with h1 | h1 | h1
   ·left
    refine ⟨u, hu, hin, fun hd => hl.2.1 ?_, fun j hj => ?_⟩
    ·have h2 := hi.2.2 i h1
     have := Int.dvd_add (hv i hin) (Int.dvd_add (qBi c h2) hd)
     have e : v i = v i - (c * (x i - s i) + u i) + (c * (x i - s i) + u i) := by omega
     rw [e]; exact this
    ·have h2 := hi.2.2 j (by omega)
     have h3 := hl.2.2 j hj
     have := Int.dvd_sub h3 (Int.dvd_add (hv j (by omega)) (qBi c h2))
     have e : u j = v j - (v j - (c * (x j - s j) + u j) + c * (x j - s j)) := by omega
     rw [e]; exact this
   ·exact .inr h1
   ·exfalso
    -- u has the lead i0
    refine hP ⟨u, hu, hi.1, fun hd => ?_, fun j hj => ?_⟩
    ·have h3 := hl.2.2 i0 h1
     have h4 : p ∣ c * (x i0 - s i0) := by
      have := Int.dvd_sub h3 (Int.dvd_add (hv i0 hi.1) hd)
      have e : c * (x i0 - s i0) = v i0 - (v i0 - (c * (x i0 - s i0) + u i0) + u i0) := by omega
      rw [e]; exact this
     exact qG9 hp hc hi.2.1 h4
    ·have h2 := hi.2.2 j hj
     have h3 := hl.2.2 j (by omega)
     have := Int.dvd_sub h3 (Int.dvd_add (hv j (by have := hi.1; omega)) (qBi c h2))
     have e : u j = v j - (v j - (c * (x j - s j) + u j) + c * (x j - s j)) := by omega
     rw [e]; exact this
 ·rintro (⟨v, hv, hl⟩ | rfl)
  ·exact ⟨v, Ins.old hv, hl⟩
  ·exact ⟨_, (Ins.isSub hS x).sub (Ins.new hS) (Ins.old hs), hi⟩
def Span (p : Int) (n : Nat) : List Vec → Vec → Prop
 | [] => Zr p n
 | x :: L => Ins p n (Span p n L) x
theorem zr_sub (p : Int) (n : Nat) : Sub p n (Zr p n) where
 zero _ h := h
 add _ _ h h' i hi := Int.dvd_add (h i hi) (h' i hi)
 smul c _ h i hi := qBi c (h i hi)
theorem qBx (p : Int) (n : Nat) : ∀ L, Sub p n (Span p n L)
 | [] => zr_sub p n
 | x :: L => Ins.isSub (qBx p n L) x
theorem qBs {p : Int} {n : Nat} : ∀ {L : List Vec} {x : Vec}, x ∈ L → Span p n L x
 | y :: L, x, h => by
  rcases List.mem_cons.1 h with rfl | h
  ·exact Ins.new (qBx p n L)
  ·exact Ins.old (qBs h)
theorem qD2 {p : Int} {n : Nat} {T : Vec → Prop} (hT : Sub p n T) : ∀ {L : List Vec} {v : Vec}, (∀ x, x ∈ L → T x) → Span p n L v → T v
 | [], v, _, hv => hT.zero v hv
 | y :: L, v, h, hv => Ins.least hT (fun v hv => qD2 hT (fun x hx => h x (List.mem_cons_of_mem _ hx)) hv) (h y List.mem_cons_self) hv
theorem qCk {p : Int} {n : Nat} {L M : List Vec} (h : ∀ x, x ∈ L → Span p n M x) {v : Vec} (hv : Span p n L v) : Span p n M v := qD2 (qBx p n M) h hv
theorem qKc (p : Int) (n : Nat) : dim p n (Zr p n) = 0 := qF2 _ n (fun i _ ⟨_, h1, h2⟩ => ld_nz h2 h1)
theorem ins_eq {p : Int} {n : Nat} {S : Vec → Prop} (hS : Sub p n S) {x : Vec} (hx : S x) (v : Vec) : Ins p n S x v ↔ S v :=
 ⟨fun h => Ins.least hS (fun _ h => h) hx h, Ins.old⟩
theorem qEw {p : Int} {n : Nat} (hp : Pr p) : ∀ (L : List Vec), dim p n (Span p n L) ≤ L.length
 | [] => by rw [show Span p n [] = Zr p n from rfl, qKc]; exact Nat.le_refl _
 | x :: L => by
  have ih := qEw (n := n) hp L
  simp only [Span, List.length_cons]
  by_cases hx : Span p n L x
  ·rw [qDw (ins_eq (qBx p n L) hx)]; omega
  ·rw [qK8 hp (qBx p n L) hx]; omega
structure Lmap (p : Int) (a b : Nat) (f : Vec → Vec) : Prop where
 zr : ∀ v, Zr p a v → Zr p b (f v)
 add : ∀ v w j, j < b → p ∣ f (fun i => v i + w i) j - (f v j + f w j)
 smul : ∀ (c : Int) v j, j < b → p ∣ f (fun i => c * v i) j - c * f v j
theorem Lmap.sub {p : Int} {a b : Nat} {f : Vec → Vec} (hf : Lmap p a b f) (v w : Vec) (j : Nat) (hj : j < b) : p ∣ f (fun i => v i - w i) j - (f v j - f w j) := by
 have h1 := hf.add v (fun i => -1 * w i) j hj
 have h2 := hf.smul (-1) w j hj
 have e : (fun i => v i + -1 * w i) = fun i => v i - w i := by funext i; omega
 simp only [e] at h1
 have := Int.dvd_add h1 h2
 have e2 : f (fun i => v i - w i) j - (f v j - f w j) = f (fun i => v i - w i) j - (f v j + f (fun i => -1 * w i) j) + (f (fun i => -1 * w i) j - -1 * f w j) := by omega
 rw [e2]; exact this
def sm (f : Nat → Int) : Nat → Int
 | 0 => 0
 | n + 1 => sm f n + f n
theorem qEd {f g : Nat → Int} : ∀ n, (∀ i, i < n → f i = g i) → sm f n = sm g n
 | 0, _ => rfl
 | n + 1, h => by simp only [sm]; rw [qEd n (fun i hi => h i (by omega)), h n (by omega)]
theorem qIs (f g : Nat → Int) : ∀ n, sm (fun i => f i + g i) n = sm f n + sm g n
 | 0 => rfl
 | n + 1 => by simp only [sm]; rw [qIs f g n]; omega
theorem qIr (c : Int) (f : Nat → Int) : ∀ n, sm (fun i => c * f i) n = c * sm f n
 | 0 => by simp [sm]
 | n + 1 => by simp only [sm]; rw [qIr c f n, Int.mul_add]
theorem qGd {p : Int} {f : Nat → Int} : ∀ n, (∀ i, i < n → p ∣ f i) → p ∣ sm f n
 | 0, _ => Int.dvd_zero p
 | n + 1, h => Int.dvd_add (qGd n fun i hi => h i (by omega)) (h n (by omega))
theorem sm_sub (f g : Nat → Int) (n : Nat) : sm (fun i => f i - g i) n = sm f n - sm g n := by
 have h := qIs f (fun i => -1 * g i) n
 rw [qIr] at h
 rw [show (fun i => f i - g i) = fun i => f i + -1 * g i by funext i; omega, h]; omega
theorem qIq : ∀ n, sm (fun _ => 0) n = 0
 | 0 => rfl
 | n + 1 => by simp only [sm]; rw [qIq n]; rfl
theorem qEk {f : Nat → Int} {p : Int} (i0 : Nat) : ∀ n, i0 < n → (∀ i, i < n → i ≠ i0 → p ∣ f i) → p ∣ sm f n - f i0
 | 0, h, _ => by omega
 | n + 1, h, hz => by
  simp only [sm]
  rcases Nat.lt_or_ge i0 n with hl | hg
  ·have := Int.dvd_add (qEk i0 n hl (fun i hi => hz i (by omega))) (hz n (by omega) (by omega))
   rwa [show sm f n - f i0 + f n = sm f n + f n - f i0 by omega] at this
  ·have : i0 = n := by omega
   subst this
   have := qGd (p := p) (f := f) i0 (fun i hi => hz i (by omega) (by omega))
   rwa [show sm f i0 + f i0 - f i0 = sm f i0 by omega]
structure Rref (p : Int) (n r : Nat) (R : Nat → Vec) (q : Nat → Nat) : Prop where
 lt : ∀ i, i < r → q i < n
 mono : ∀ i j, i < j → j < r → q i < q j
 one : ∀ i, i < r → p ∣ R i (q i) - 1
 off : ∀ i j, i < r → j < r → i ≠ j → p ∣ R i (q j)
 pre : ∀ i c, i < r → c < q i → p ∣ R i c
def rows (R : Nat → Vec) (r : Nat) : List Vec := (List.range r).map R
theorem qBy {R : Nat → Vec} {r i : Nat} (h : i < r) : R i ∈ rows R r := List.mem_map_of_mem (List.mem_range.2 h)
theorem qCq {R : Nat → Vec} {r : Nat} {x : Vec} (h : x ∈ rows R r) : ∃ i, i < r ∧ R i = x := by
 obtain ⟨i, hi, he⟩ := List.mem_map.1 h
 exact ⟨i, List.mem_range.1 hi, he⟩
def comb (R : Nat → Vec) (r : Nat) (c : Nat → Int) : Vec := fun j => sm (fun i => c i * R i j) r
theorem qGq {p : Int} {n : Nat} {S : Vec → Prop} (hS : Sub p n S) (R : Nat → Vec) (c : Nat → Int) : ∀ r, (∀ i, i < r → S (R i)) → S (comb R r c)
 | 0, _ => hS.zero _ (fun _ _ => Int.dvd_zero p)
 | r + 1, h => hS.add _ _ (qGq hS R c r (fun i hi => h i (by omega))) (hS.smul (c r) _ (h r (by omega)))
theorem qIp {p : Int} {n : Nat} (R : Nat → Vec) (r : Nat) (v : Vec) : Span p n (rows R r) v ↔ ∃ c, ∀ j, j < n → p ∣ v j - comb R r c j := by
 constructor
 ·refine qD2 (T := fun v => ∃ c, ∀ j, j < n → p ∣ v j - comb R r c j) ⟨?_, ?_, ?_⟩ (fun x hx => ?_)
  ·intro v hv
   refine ⟨fun _ => 0, fun j hj => ?_⟩
   have e : comb R r (fun _ => 0) j = 0 := by
    unfold comb; rw [qEd (g := fun _ => 0) r (fun i _ => Int.zero_mul _), qIq]
   rw [e, Int.sub_zero]; exact hv j hj
  ·rintro v w ⟨c, hc⟩ ⟨d, hd⟩
   refine ⟨fun i => c i + d i, fun j hj => ?_⟩
   have e : comb R r (fun i => c i + d i) j = comb R r c j + comb R r d j := by
    unfold comb; rw [← qIs]; exact qEd r fun i _ => Int.add_mul _ _ _
   have := Int.dvd_add (hc j hj) (hd j hj)
   rwa [show v j - comb R r c j + (w j - comb R r d j) = v j + w j - (comb R r c j + comb R r d j) by omega, ← e] at this
  ·rintro a v ⟨c, hc⟩
   refine ⟨fun i => a * c i, fun j hj => ?_⟩
   have e : comb R r (fun i => a * c i) j = a * comb R r c j := by
    unfold comb; rw [← qIr]; exact qEd r fun i _ => Int.mul_assoc _ _ _
   have := qBi a (hc j hj)
   rwa [Int.mul_sub, ← e] at this
  ·obtain ⟨i0, hi0, rfl⟩ := qCq hx
   refine ⟨fun i => if i = i0 then 1 else 0, fun j hj => ?_⟩
   have := qEk (p := p) (f := fun i => (if i = i0 then 1 else 0) * R i j) i0 r hi0 (fun i _ hne => by simp [hne])
   simp only [if_pos, Int.one_mul] at this
   have := Int.dvd_neg.2 this
   rwa [Int.neg_sub] at this
 ·rintro ⟨c, hc⟩
  exact (qBx p n _).congr (qGq (qBx p n _) R c r (fun i hi => qBs (qBy hi))) hc
theorem Rref.coef {p : Int} {n r : Nat} {R : Nat → Vec} {q : Nat → Nat} (h : Rref p n r R q) {v : Vec} (hv : Span p n (rows R r) v) (j : Nat) (hj : j < n) : p ∣ v j - comb R r (fun i => v (q i)) j := by
 obtain ⟨c, hc⟩ := (qIp R r v).1 hv
 have e : ∀ i, i < r → p ∣ v (q i) - c i := fun i hi => by
  have h1 := hc (q i) (h.lt i hi)
  have h2 := qEk (p := p) (f := fun k => c k * R k (q i)) i r hi (fun k hk hne => qBi _ (h.off k i hk hi hne))
  have h3 := qBi (c i) (h.one i hi)
  have := Int.dvd_add h1 (Int.dvd_add h2 h3)
  have e : v (q i) - comb R r c (q i) + (sm (fun k => c k * R k (q i)) r - c i * R i (q i) + c i * (R i (q i) - 1)) = v (q i) - c i := by
   unfold comb; grind
  rwa [e] at this
 have h4 : p ∣ comb R r c j - comb R r (fun i => v (q i)) j := by
  unfold comb
  rw [← sm_sub]
  refine qGd r fun i hi => ?_
  have := qBi (R i j) (e i hi)
  have := Int.dvd_neg.2 this
  have e2 : -(R i j * (v (q i) - c i)) = c i * R i j - v (q i) * R i j := by grind
  rwa [e2] at this
 have := Int.dvd_add (hc j hj) h4
 rwa [show v j - comb R r c j + (comb R r c j - comb R r (fun i => v (q i)) j) = v j - comb R r (fun i => v (q i)) j by omega] at this
theorem Rref.zero {p : Int} {n r : Nat} {R : Nat → Vec} {q : Nat → Nat} (h : Rref p n r R q) {v : Vec} (hv : Span p n (rows R r) v) (hz : ∀ i, i < r → p ∣ v (q i)) : Zr p n v := fun j hj => by
 have h1 := h.coef hv j hj
 have h2 : p ∣ comb R r (fun i => v (q i)) j := qGd r fun i hi => Int.dvd_mul_of_dvd_left (hz i hi)
 have := Int.dvd_add h1 h2
 rwa [Int.sub_add_cancel] at this
theorem Rref.pl {p : Int} {n r : Nat} {R : Nat → Vec} {q : Nat → Nat} (hp : Pr p) (h : Rref p n r R q) (c : Nat) : Pl p n (Span p n (rows R r)) c ↔ ∃ i, i < r ∧ q i = c := by
 constructor
 ·rintro ⟨v, hv, hl⟩
  -- the first i with v (q i) not zero
  have hex : ∃ i, i < r ∧ ¬ p ∣ v (q i) := Classical.byContradiction fun hc => by
   refine ld_nz hl (h.zero hv fun i hi => Classical.byContradiction fun hd => hc ⟨i, hi, hd⟩)
  obtain ⟨i, ⟨hi, hni⟩, hmin⟩ := qKm hex
  refine ⟨i, hi, ?_⟩
  have hsm : ∀ c, c < q i → p ∣ v c := fun c hc => by
   have h1 := h.coef hv c (by have := h.lt i hi; omega)
   have h2 : p ∣ comb R r (fun i => v (q i)) c := qGd r fun k hk => by
    rcases Nat.lt_or_ge k i with hki | hki
    ·exact Int.dvd_mul_of_dvd_left (Classical.byContradiction fun hd => hmin k hki ⟨hk, hd⟩)
    ·refine qBi _ (h.pre k c hk ?_)
     rcases Nat.eq_or_lt_of_le hki with rfl | hlt
     ·exact hc
     ·have := h.mono i k hlt hk; omega
   have := Int.dvd_add h1 h2
   rwa [Int.sub_add_cancel] at this
  rcases Nat.lt_trichotomy (q i) c with h1 | h1 | h1
  ·exact absurd (hl.2.2 _ h1) hni
  ·exact h1
  ·exact absurd (hsm c h1) hl.2.1
 ·rintro ⟨i, hi, rfl⟩
  refine ⟨R i, qBs (qBy hi), h.lt i hi, fun hd => hp.1 ?_, fun j hj => h.pre i j hi hj⟩
  have := Int.dvd_sub hd (h.one i hi)
  rwa [show R i (q i) - (R i (q i) - 1) = 1 by omega] at this
theorem Rref.indep {p : Int} {n r : Nat} {R : Nat → Vec} {q : Nat → Nat} (hp : Pr p) (h : Rref p n r R q) : dim p n (Span p n (rows R r)) = r := by
 have main : ∀ k, k ≤ r → cnt (fun c => ∃ i, i < k ∧ q i = c) n = k := by
  intro k
  induction k with
  | zero => intro _; exact qF2 _ n (fun c _ ⟨i, hi, _⟩ => by omega)
  | succ k ih =>
   intro hk
   rw [qD6 (Q := fun c => ∃ i, i < k ∧ q i = c) (q k) n (h.lt k (by omega)) (fun ⟨i, hi, he⟩ => by have := h.mono i k hi (by omega); omega) (fun c _ => ⟨?_, ?_⟩), ih (by omega)]
   ·rintro ⟨i, hi, he⟩
    rcases Nat.lt_or_ge i k with hl | hg
    ·exact .inl ⟨i, hl, he⟩
    ·have : i = k := by omega
     subst this; exact .inr he.symm
   ·rintro (⟨i, hi, he⟩ | he)
    ·exact ⟨i, by omega, he⟩
    ·exact ⟨k, by omega, he.symm⟩
 unfold dim
 rw [qGr n (fun c _ => h.pl hp c)]
 exact main r (Nat.le_refl _)
theorem Rref.unique {p : Int} {n r r' : Nat} {R R' : Nat → Vec} {q q' : Nat → Nat} (hp : Pr p) (h : Rref p n r R q) (h' : Rref p n r' R' q') (hs : ∀ v, Span p n (rows R r) v ↔ Span p n (rows R' r') v) :
  r = r' ∧ ∀ i, i < r → q i = q' i ∧ ∀ j, j < n → p ∣ R i j - R' i j := by
 have hr : r = r' := by rw [← h.indep hp, ← h'.indep hp]; exact qDw hs
 subst hr
 have hpl : ∀ c, (∃ i, i < r ∧ q i = c) ↔ ∃ i, i < r ∧ q' i = c := fun c => by
  rw [← h.pl hp c, ← h'.pl hp c]
  exact ⟨fun ⟨v, h1, h2⟩ => ⟨v, (hs v).1 h1, h2⟩, fun ⟨v, h1, h2⟩ => ⟨v, (hs v).2 h1, h2⟩⟩
 have hq : ∀ i, i < r → q i = q' i := by
  intro i
  induction i using Nat.strongRecOn with
  | _ i ih =>
   intro hi
   obtain ⟨j, hj, e1⟩ := (hpl (q i)).1 ⟨i, hi, rfl⟩
   obtain ⟨k, hk, e2⟩ := (hpl (q' i)).2 ⟨i, hi, rfl⟩
   rcases Nat.lt_trichotomy i j with hl | he | hl
   ·-- q' i < q' j = q i; k must be < i
    have h1 := h'.mono i j hl hj
    rcases Nat.lt_trichotomy k i with hk' | hk' | hk'
    ·have := ih k hk' hk; have := h'.mono k i hk' hi; omega
    ·subst hk'; omega
    ·have := h.mono i k hk' hk; omega
   ·subst he; omega
   ·have := ih j hl hj; have := h.mono j i hl hi; omega
 refine ⟨rfl, fun i hi => ⟨hq i hi, fun j hj => ?_⟩⟩
 have hd : Span p n (rows R r) (fun j => R i j - R' i j) := (qBx p n _).sub (qBs (qBy hi)) ((hs _).2 (qBs (qBy hi)))
 refine h.zero hd (fun k hk => ?_) j hj
 by_cases e : i = k
 ·subst e
  have h1 := h.one i hi
  have h2 := h'.one i hi
  rw [← hq i hi] at h2
  have := Int.dvd_sub h1 h2
  rwa [show R i (q i) - 1 - (R' i (q i) - 1) = R i (q i) - R' i (q i) by omega] at this
 ·have h1 := h.off i k hi hk e
  have h2 := h'.off i k hi hk e
  rw [← hq k hk] at h2
  exact Int.dvd_sub h1 h2
structure GInv (p : Int) (n m c r : Nat) (R : Nat → Vec) (q : Nat → Nat) : Prop where
 rm : r ≤ m
 lt : ∀ i, i < r → q i < c
 mono : ∀ i j, i < j → j < r → q i < q j
 one : ∀ i, i < r → p ∣ R i (q i) - 1
 off : ∀ i j, i < r → j < m → j ≠ i → p ∣ R j (q i)
 pre : ∀ i k, i < r → k < q i → p ∣ R i k
 low : ∀ i k, r ≤ i → i < m → k < c → p ∣ R i k
theorem GInv.start (p : Int) (n m : Nat) (R : Nat → Vec) (q : Nat → Nat) : GInv p n m 0 0 R q :=
 ⟨Nat.zero_le _, fun i h => by omega, fun i j _ h => by omega, fun i h => by omega, fun i j h => by omega, fun i k h => by omega, fun i k _ _ h => by omega⟩
theorem GInv.none {p : Int} {n m c r : Nat} {R : Nat → Vec} {q : Nat → Nat} (h : GInv p n m c r R q) (hz : ∀ i, r ≤ i → i < m → p ∣ R i c) : GInv p n m (c + 1) r R q :=
 ⟨h.rm, fun i hi => by have := h.lt i hi; omega, h.mono, h.one, h.off, h.pre, fun i k h1 h2 h3 => by
  rcases Nat.lt_or_ge k c with hl | hg
  ·exact h.low i k h1 h2 hl
  ·have : k = c := by omega
   subst this; exact hz i h1 h2⟩
theorem GInv.swap {p : Int} {n m c r : Nat} {R R1 : Nat → Vec} {q : Nat → Nat} (h : GInv p n m c r R q) {a : Nat} (ha : r ≤ a) (ham : a < m) (e1 : ∀ j, R1 r j = R a j) (e2 : ∀ j, R1 a j = R r j) (e3 : ∀ i j, i < m → i ≠ r → i ≠ a → R1 i j = R i j) : GInv p n m c r R1 q := by
 have e : ∀ i, i < m → ∃ k, k < m ∧ (r ≤ i → r ≤ k) ∧ (i < r → k = i) ∧ ∀ j, R1 i j = R k j := fun i hi => by
  by_cases h1 : i = r
  ·subst h1; exact ⟨a, ham, fun _ => ha, fun hh => by omega, e1⟩
  ·by_cases h2 : i = a
   ·subst h2; exact ⟨r, by omega, fun _ => Nat.le_refl _, fun hh => by omega, e2⟩
   ·exact ⟨i, hi, fun hh => hh, fun _ => rfl, fun j => e3 i j hi h1 h2⟩
 refine ⟨h.rm, h.lt, h.mono, fun i hi => ?_, fun i j hi hj hne => ?_, fun i k hi hk => ?_, fun i k h1 h2 h3 => ?_⟩
 ·obtain ⟨k, _, _, hk, he⟩ := e i (by omega)
  rw [he, hk hi]; exact h.one i hi
 ·obtain ⟨k, hkm, hkr, hk, he⟩ := e j hj
  rw [he]
  refine h.off i k hi hkm ?_
  rcases Nat.lt_or_ge j r with hl | hg
  ·rw [hk hl]; exact hne
  ·have := hkr hg; omega
 ·obtain ⟨k', _, _, hk', he⟩ := e i (by omega)
  rw [he, hk' hi]; exact h.pre i k hi hk
 ·obtain ⟨k', hkm, hkr, _, he⟩ := e i h2
  rw [he]; exact h.low k' k (hkr h1) hkm h3
theorem GInv.step {p : Int} {n m c r : Nat} {R R' : Nat → Vec} {q q' : Nat → Nat} (h : GInv p n m c r R q) (hrm : r < m) {b : Int} (hb : p ∣ R r c * b - 1)
  (e1 : ∀ j, j ≤ c → p ∣ R' r j - b * R r j) (e2 : ∀ i j, i < m → i ≠ r → j ≤ c → p ∣ R' i j - (R i j - R i c * R' r j)) (hq : ∀ i, i < r → q' i = q i) (hqr : q' r = c) : GInv p n m (c + 1) (r + 1) R' q' := by
 have top0 : ∀ k, k < c → p ∣ R' r k := fun k hk => by
  have := Int.dvd_add (e1 k (by omega)) (qBi b (h.low r k (Nat.le_refl _) hrm hk))
  rwa [Int.sub_add_cancel] at this
 have top1 : p ∣ R' r c - 1 := by
  have := Int.dvd_add (e1 c (Nat.le_refl _)) hb
  rwa [show R' r c - b * R r c + (R r c * b - 1) = R' r c - 1 by grind] at this
 have same : ∀ i k, i < m → i ≠ r → k < c → p ∣ R' i k - R i k := fun i k hi hne hk => by
  have := Int.dvd_sub (e2 i k hi hne (by omega)) (qBi (R i c) (top0 k hk))
  rwa [show R' i k - (R i k - R i c * R' r k) - R i c * R' r k = R' i k - R i k by omega] at this
 have clr : ∀ i, i < m → i ≠ r → p ∣ R' i c := fun i hi hne => by
  have := Int.dvd_sub (e2 i c hi hne (Nat.le_refl _)) (qBi (R i c) top1)
  rwa [show R' i c - (R i c - R i c * R' r c) - R i c * (R' r c - 1) = R' i c by grind] at this
 refine ⟨by omega, fun i hi => ?_, fun i j hij hj => ?_, fun i hi => ?_, fun i j hi hj hne => ?_, fun i k hi hk => ?_, fun i k h1 h2 h3 => ?_⟩
 ·rcases Nat.lt_or_ge i r with hl | hg
  ·rw [hq i hl]; have := h.lt i hl; omega
  ·have : i = r := by omega
   subst this; omega
 ·rcases Nat.lt_or_ge j r with hl | hg
  ·rw [hq i (by omega), hq j hl]; exact h.mono i j hij hl
  ·have : j = r := by omega
   subst this; rw [hq i hij, hqr]; exact h.lt i hij
 ·rcases Nat.lt_or_ge i r with hl | hg
  ·rw [hq i hl]
   have := Int.dvd_add (same i (q i) (by omega) (by omega) (h.lt i hl)) (h.one i hl)
   rwa [show R' i (q i) - R i (q i) + (R i (q i) - 1) = R' i (q i) - 1 by omega] at this
  ·have : i = r := by omega
   subst this; rw [hqr]; exact top1
 ·rcases Nat.lt_or_ge i r with hl | hg
  ·rw [hq i hl]
   by_cases hj' : j = r
   ·subst hj'; exact top0 _ (h.lt i hl)
   ·have := Int.dvd_add (same j (q i) hj hj' (h.lt i hl)) (h.off i j hl hj hne)
    rwa [Int.sub_add_cancel] at this
  ·have : i = r := by omega
   subst this; rw [hqr]; exact clr j hj hne
 ·rcases Nat.lt_or_ge i r with hl | hg
  ·rw [hq i hl] at hk
   have := h.lt i hl
   have := Int.dvd_add (same i k (by omega) (by omega) (by omega)) (h.pre i k hl hk)
   rwa [Int.sub_add_cancel] at this
  ·have : i = r := by omega
   subst this; rw [hqr] at hk; exact top0 k hk
 ·rcases Nat.lt_or_ge k c with hl | hg
  ·have := Int.dvd_add (same i k h2 (by omega) hl) (h.low i k (by omega) h2 hl)
   rwa [Int.sub_add_cancel] at this
  ·have : k = c := by omega
   subst this; exact clr i h2 (by omega)
theorem GInv.rref {p : Int} {n m r : Nat} {R : Nat → Vec} {q : Nat → Nat} (h : GInv p n m n r R q) : Rref p n r R q :=
 ⟨h.lt, h.mono, h.one, fun i j hi hj hne => h.off j i hj (by have := h.rm; omega) hne, h.pre⟩
theorem GInv.span {p : Int} {n m r : Nat} {R : Nat → Vec} {q : Nat → Nat} (h : GInv p n m n r R q) (v : Vec) : Span p n (rows R m) v ↔ Span p n (rows R r) v := by
 constructor
 ·refine qCk (fun x hx => ?_)
  obtain ⟨i, hi, rfl⟩ := qCq hx
  rcases Nat.lt_or_ge i r with hl | hg
  ·exact qBs (qBy hl)
  ·exact (qBx p n _).zero _ (fun k hk => h.low i k hg hi hk)
 ·refine qCk (fun x hx => ?_)
  obtain ⟨i, hi, rfl⟩ := qCq hx
  exact qBs (qBy (by have := h.rm; omega))
theorem qIo {p : Int} {n m r : Nat} {R R' : Nat → Vec} (hrm : r < m) {a b : Int} (c : Nat → Int) (hb : p ∣ a * b - 1)
  (e1 : ∀ j, j < n → p ∣ R' r j - b * R r j) (e2 : ∀ i j, i < m → i ≠ r → j < n → p ∣ R' i j - (R i j - c i * R' r j)) (v : Vec) : Span p n (rows R' m) v ↔ Span p n (rows R m) v := by
 have sub := qBx p n (rows R m)
 have sub' := qBx p n (rows R' m)
 have htop : Span p n (rows R m) (R' r) := sub.congr (sub.smul b _ (qBs (qBy hrm))) e1
 constructor
 ·refine qCk (fun x hx => ?_)
  obtain ⟨i, hi, rfl⟩ := qCq hx
  by_cases h : i = r
  ·subst h; exact htop
  ·exact sub.congr (sub.sub (qBs (qBy hi)) (sub.smul (c i) _ htop)) (fun j hj => e2 i j hi h hj)
 ·refine qCk (fun x hx => ?_)
  obtain ⟨i, hi, rfl⟩ := qCq hx
  by_cases h : i = r
  ·subst h
   refine sub'.congr (sub'.smul a _ (qBs (qBy hi))) (fun j hj => ?_)
   have h1 := qBi a (e1 j hj)
   have h2 := qBi (R i j) hb
   have := Int.dvd_neg.2 (Int.dvd_add h1 h2)
   rwa [show -(a * (R' i j - b * R i j) + R i j * (a * b - 1)) = R i j - a * R' i j by grind] at this
  ·refine sub'.congr (sub'.add _ _ (qBs (qBy hi)) (sub'.smul (c i) _ (qBs (qBy hrm)))) (fun j hj => ?_)
   have := Int.dvd_neg.2 (e2 i j hi h hj)
   rwa [show -(R' i j - (R i j - c i * R' r j)) = R i j - (R' i j + c i * R' r j) by omega] at this
theorem qEj {p : Int} {n m : Nat} {R R' : Nat → Vec} (h : ∀ i, i < m → ∃ k, k < m ∧ ∀ j, j < n → p ∣ R' i j - R k j) (h' : ∀ i, i < m → ∃ k, k < m ∧ ∀ j, j < n → p ∣ R i j - R' k j) (v : Vec) : Span p n (rows R' m) v ↔ Span p n (rows R m) v := by
 constructor
 ·refine qCk (fun x hx => ?_)
  obtain ⟨i, hi, rfl⟩ := qCq hx
  obtain ⟨k, hk, he⟩ := h i hi
  exact (qBx p n _).congr (qBs (qBy hk)) he
 ·refine qCk (fun x hx => ?_)
  obtain ⟨i, hi, rfl⟩ := qCq hx
  obtain ⟨k, hk, he⟩ := h' i hi
  exact (qBx p n _).congr (qBs (qBy hk)) he
end Go.Proofs.Ytabfflgoaalapaa.B.LinT
set_option linter.unusedVariables false
set_option linter.unusedSimpArgs false
namespace Go.Proofs.Ytabfflgoaalapaa.B.LinT
def isP (p : Nat) : Bool := decide (2 ≤ p) && decide (p ≤ 251) && (List.range 16).all fun d => decide (d < 2) || decide (p < d * d) || decide (p % d ≠ 0)
theorem qIf : ((List.range 252).all fun p => !isP p || (List.range p).all fun a => a == 0 || a * a ^ (p - 2) % p == 1) = true := by decide +kernel
theorem qBr {p : Nat} (h : isP p = true) : 2 ≤ p ∧ p ≤ 251 := by
 unfold isP at h
 rw [Bool.and_eq_true, Bool.and_eq_true, decide_eq_true_iff, decide_eq_true_iff] at h
 exact h.1
theorem fermat {p a : Nat} (h : isP p = true) (ha : a < p) (h0 : a ≠ 0) : a * a ^ (p - 2) % p = 1 := by
 have h1 := List.all_eq_true.1 qIf p (List.mem_range.2 (by have := qBr h; omega))
 rw [h] at h1
 have h2 : ∀ x, x < p → x = 0 ∨ x * x ^ (p - 2) % p = 1 := by simpa using h1
 exact (h2 a ha).resolve_left h0
theorem qHd {p a : Nat} (h : isP p = true) (ha : a < p) (h0 : a ≠ 0) : (p : Int) ∣ (a : Int) * ((a ^ (p - 2) % p : Nat) : Int) - 1 := by
 have h1 := fermat h ha h0
 have h2 : a * (a ^ (p - 2) % p) % p = 1 := by rw [Nat.mul_mod, Nat.mod_mod, ← Nat.mul_mod]; exact h1
 have h3 := Nat.div_add_mod (a * (a ^ (p - 2) % p)) p
 rw [h2] at h3
 refine ⟨((a * (a ^ (p - 2) % p) / p : Nat) : Int), ?_⟩
 have h4 : ((a * (a ^ (p - 2) % p) : Nat) : Int) = ((p * (a * (a ^ (p - 2) % p) / p) + 1 : Nat) : Int) := by rw [h3]
 rw [Int.natCast_mul, Int.natCast_add, Int.natCast_mul] at h4
 omega
theorem qE9 {p : Nat} (h : isP p = true) : Pr (p : Int) := by
 have h2 := qBr h
 refine ⟨fun hd => ?_, fun a ha => ?_⟩
 ·have := Int.le_of_dvd (by decide) hd; omega
 ·have hm : a % (p : Int) ≠ 0 := fun he => ha (Int.dvd_of_emod_eq_zero he)
  have h3 := Int.emod_nonneg a (b := (p : Int)) (by omega)
  have h4 := Int.emod_lt_of_pos a (b := (p : Int)) (by omega)
  obtain ⟨n, hn⟩ := Int.eq_ofNat_of_zero_le h3
  have h5 := qHd (a := n) h (by omega) (by omega)
  refine ⟨((n ^ (p - 2) % p : Nat) : Int), ?_⟩
  have h6 : (p : Int) ∣ a - (n : Int) := by rw [← hn]; exact Int.dvd_self_sub_emod
  have h7 := Int.dvd_add (show (p : Int) ∣ (a - (n : Int)) * ((n ^ (p - 2) % p : Nat) : Int) from Int.dvd_mul_of_dvd_left h6) h5
  rwa [show (a - (n : Int)) * ((n ^ (p - 2) % p : Nat) : Int) + ((n : Int) * ((n ^ (p - 2) % p : Nat) : Int) - 1) = a * ((n ^ (p - 2) % p : Nat) : Int) - 1 by grind] at h7
structure El (p : Int) (n m : Nat) (R0 : Nat → Vec) (c r : Nat) (R : Nat → Vec) (q : Nat → Nat) : Prop where
 g : GInv p n m c r R q
 sp : ∀ v, Span p n (rows R m) v ↔ Span p n (rows R0 m) v
 ge : ∀ i j, i < m → j < n → 0 ≤ R i j
 lt : ∀ i j, i < m → j < n → R i j < p
theorem El.start {p : Int} {n m : Nat} {R : Nat → Vec} (h0 : ∀ i j, i < m → j < n → 0 ≤ R i j) (h1 : ∀ i j, i < m → j < n → R i j < p) (q : Nat → Nat) : El p n m R 0 0 R q :=
 ⟨GInv.start p n m R q, fun _ => Iff.rfl, h0, h1⟩
theorem El.none {p : Int} {n m c r : Nat} {R0 R : Nat → Vec} {q : Nat → Nat} (h : El p n m R0 c r R q) (hz : ∀ i, r ≤ i → i < m → R i c = 0) : El p n m R0 (c + 1) r R q :=
 ⟨h.g.none fun i h1 h2 => by rw [hz i h1 h2]; exact Int.dvd_zero p, h.sp, h.ge, h.lt⟩
theorem El.congr {p : Int} {n m c r : Nat} {R0 R R1 : Nat → Vec} {q : Nat → Nat} (h : El p n m R0 c r R q) (hc : c ≤ n) (e : ∀ i j, i < m → j < n → R1 i j = R i j) : El p n m R0 c r R1 q := by
 have hr := h.g.rm
 refine ⟨⟨h.g.rm, h.g.lt, h.g.mono, fun i hi => ?_, fun i j hi hj hne => ?_, fun i k hi hk => ?_, fun i k h1 h2 h3 => ?_⟩, fun v => ?_, fun i j hi hj => by rw [e i j hi hj]; exact h.ge i j hi hj, fun i j hi hj => by rw [e i j hi hj]; exact h.lt i j hi hj⟩
 ·have := h.g.lt i hi
  rw [e i _ (by omega) (by omega)]; exact h.g.one i hi
 ·have := h.g.lt i hi
  rw [e j _ hj (by omega)]; exact h.g.off i j hi hj hne
 ·have := h.g.lt i hi
  rw [e i _ (by omega) (by omega)]; exact h.g.pre i k hi hk
 ·rw [e i _ h2 (by omega)]; exact h.g.low i k h1 h2 h3
 ·rw [← h.sp v]
  exact qEj (fun i hi => ⟨i, hi, fun j hj => by rw [e i j hi hj, Int.sub_self]; exact Int.dvd_zero p⟩) (fun i hi => ⟨i, hi, fun j hj => by rw [e i j hi hj, Int.sub_self]; exact Int.dvd_zero p⟩) v
theorem El.swap {p : Int} {n m c r : Nat} {R0 R R1 : Nat → Vec} {q : Nat → Nat} (h : El p n m R0 c r R q) {a : Nat} (ha : r ≤ a) (ham : a < m) (e1 : ∀ j, R1 r j = R a j) (e2 : ∀ j, R1 a j = R r j) (e3 : ∀ i j, i < m → i ≠ r → i ≠ a → R1 i j = R i j) : El p n m R0 c r R1 q := by
 have e : ∀ i, i < m → ∃ k, k < m ∧ ∀ j, R1 i j = R k j := fun i hi => by
  by_cases h1 : i = r
  ·subst h1; exact ⟨a, ham, e1⟩
  ·by_cases h2 : i = a
   ·subst h2; exact ⟨r, by omega, e2⟩
   ·exact ⟨i, hi, fun j => e3 i j hi h1 h2⟩
 have e' : ∀ i, i < m → ∃ k, k < m ∧ ∀ j, R i j = R1 k j := fun i hi => by
  by_cases h1 : i = r
  ·subst h1; exact ⟨a, ham, fun j => (e2 j).symm⟩
  ·by_cases h2 : i = a
   ·subst h2; exact ⟨r, by omega, fun j => (e1 j).symm⟩
   ·exact ⟨i, hi, fun j => (e3 i j hi h1 h2).symm⟩
 refine ⟨h.g.swap ha ham e1 e2 e3, fun v => ?_, fun i j hi hj => ?_, fun i j hi hj => ?_⟩
 ·rw [← h.sp v]
  refine qEj (fun i hi => ?_) (fun i hi => ?_) v
  ·obtain ⟨k, hk, he⟩ := e i hi
   exact ⟨k, hk, fun j _ => by rw [he j, Int.sub_self]; exact Int.dvd_zero p⟩
  ·obtain ⟨k, hk, he⟩ := e' i hi
   exact ⟨k, hk, fun j _ => by rw [he j, Int.sub_self]; exact Int.dvd_zero p⟩
 ·obtain ⟨k, hk, he⟩ := e i hi
  rw [he]; exact h.ge k j hk hj
 ·obtain ⟨k, hk, he⟩ := e i hi
  rw [he]; exact h.lt k j hk hj
theorem El.congr0 {p : Int} {n m c r : Nat} {R0 R1 R : Nat → Vec} {q : Nat → Nat} (h : El p n m R0 c r R q) (e : ∀ i j, i < m → j < n → R1 i j = R0 i j) : El p n m R1 c r R q :=
 ⟨h.g, fun v => (h.sp v).trans (qEj (fun i hi => ⟨i, hi, fun j hj => by rw [e i j hi hj, Int.sub_self]; exact Int.dvd_zero p⟩) (fun i hi => ⟨i, hi, fun j hj => by rw [e i j hi hj, Int.sub_self]; exact Int.dvd_zero p⟩) v), h.ge, h.lt⟩
theorem El.swap' {p : Int} {n m c r : Nat} {R0 R R1 : Nat → Vec} {q : Nat → Nat} (h : El p n m R0 c r R q) (hc : c ≤ n) {a : Nat} (ha : r ≤ a) (ham : a < m) (e1 : ∀ j, j < n → R1 r j = R a j) (e2 : ∀ j, j < n → R1 a j = R r j) (e3 : ∀ i j, i < m → i ≠ r → i ≠ a → j < n → R1 i j = R i j) : El p n m R0 c r R1 q := by
 refine (h.swap (R1 := fun i j => if i = r then R a j else if i = a then R r j else R i j) ha ham (fun j => by simp) (fun j => ?_) (fun i j _ h1 h2 => by simp [h1, h2])).congr hc (fun i j hi hj => ?_)
 ·by_cases h1 : a = r
  ·subst h1; simp
  ·simp [h1]
 ·by_cases h1 : i = r
  ·subst h1; simp [e1 j hj]
  ·by_cases h2 : i = a
   ·subst h2; simp [h1, e2 j hj]
   ·simp [h1, h2, e3 i j hi h1 h2 hj]
theorem El.step {p : Int} {n m c r : Nat} {R0 R R' : Nat → Vec} {q q' : Nat → Nat} (h : El p n m R0 c r R q) (hc : c < n) (hrm : r < m) {b : Int} (hb : p ∣ R r c * b - 1)
  (e1 : ∀ j, j < n → p ∣ R' r j - b * R r j) (e2 : ∀ i j, i < m → i ≠ r → j < n → p ∣ R' i j - (R i j - R i c * R' r j)) (hq : ∀ i, i < r → q' i = q i) (hqr : q' r = c)
  (h0 : ∀ i j, i < m → j < n → 0 ≤ R' i j) (h1 : ∀ i j, i < m → j < n → R' i j < p) : El p n m R0 (c + 1) (r + 1) R' q' :=
 ⟨h.g.step hrm hb (fun j hj => e1 j (by omega)) (fun i j hi hne hj => e2 i j hi hne (by omega)) hq hqr, fun v => by rw [← h.sp v]; exact qIo hrm (fun i => R i c) hb e1 e2 v, h0, h1⟩
theorem El.full {p : Int} {n m r : Nat} {R0 R : Nat → Vec} {q : Nat → Nat} : ∀ {c : Nat}, c ≤ n → r = m → El p n m R0 c r R q → El p n m R0 n r R q := by
 intro c hc hr h
 obtain ⟨d, hd⟩ : ∃ d, n = c + d := ⟨n - c, by omega⟩
 have : ∀ e, El p n m R0 (c + e) r R q := fun e => by
  induction e with
  | zero => exact h
  | succ e ih => exact ih.none (fun i h1 h2 => by omega)
 rw [hd] at this ⊢; exact this d
theorem El.same {p : Int} {n m m' r r' : Nat} {R0 R R0' R' : Nat → Vec} {q q' : Nat → Nat} (hp : Pr p) (h : El p n m R0 n r R q) (h' : El p n m' R0' n r' R' q')
  (hs : ∀ v, Span p n (rows R0 m) v ↔ Span p n (rows R0' m') v) : r = r' ∧ ∀ i, i < r → q i = q' i ∧ ∀ j, j < n → R i j = R' i j := by
 have hs2 : ∀ v, Span p n (rows R r) v ↔ Span p n (rows R' r') v := fun v => by rw [← h.g.span v, ← h'.g.span v, h.sp v, h'.sp v, hs v]
 obtain ⟨e1, e2⟩ := h.g.rref.unique hp h'.g.rref hs2
 refine ⟨e1, fun i hi => ⟨(e2 i hi).1, fun j hj => ?_⟩⟩
 have hd := (e2 i hi).2 j hj
 have hr := h.g.rm
 have hr' := h'.g.rm
 have a1 := h.ge i j (by omega) hj
 have a2 := h.lt i j (by omega) hj
 have b1 := h'.ge i j (by omega) hj
 have b2 := h'.lt i j (by omega) hj
 obtain ⟨k, hk⟩ := hd
 have hp0 : 0 < p := by omega
 have : k = 0 := by
  rcases Int.lt_trichotomy k 0 with hl | h0 | hg
  ·have := Int.mul_le_mul_of_nonneg_left (show k ≤ -1 by omega) (Int.le_of_lt hp0); omega
  ·exact h0
  ·have := Int.mul_le_mul_of_nonneg_left (show 1 ≤ k by omega) (Int.le_of_lt hp0); omega
 rw [this] at hk; omega
theorem El.span {p : Int} {n m r : Nat} {R0 R : Nat → Vec} {q : Nat → Nat} (h : El p n m R0 n r R q) (v : Vec) : Span p n (rows R r) v ↔ Span p n (rows R0 m) v := by rw [← h.g.span v, h.sp v]
theorem El.dim {p : Int} {n m r : Nat} {R0 R : Nat → Vec} {q : Nat → Nat} (hp : Pr p) (h : El p n m R0 n r R q) : dim p n (Span p n (rows R0 m)) = r := by
 rw [← h.g.rref.indep hp]; exact qDw fun v => (h.span v).symm
def vec (l : List Int) : Vec := fun j => l.getD j 0
def rw' (L : List (List Int)) : Nat → Vec := fun i => vec (L.getD i [])
theorem qCy (L : List (List Int)) : rows (rw' L) L.length = L.map vec := by
 unfold rows rw'
 refine List.ext_getElem (by simp) fun i h1 h2 => ?_
 have hi : i < L.length := by simpa using h1
 simp [List.getD_eq_getElem?_getD, List.getElem?_eq_getElem hi]
def Vs (p : Int) (n : Nat) (L : List (List Int)) : Prop := ∀ x, x ∈ L → x.length = n ∧ ∀ y, y ∈ x → 0 ≤ y ∧ y < p
theorem qFg {p : Int} {n : Nat} {L : List (List Int)} (h : Vs p n L) {i j : Nat} (hi : i < L.length) (hj : j < n) : 0 ≤ rw' L i j ∧ rw' L i j < p := by
 have hm : L.getD i [] ∈ L := by rw [List.getD_eq_getElem?_getD, List.getElem?_eq_getElem hi, Option.getD_some]; exact List.getElem_mem hi
 obtain ⟨h1, h2⟩ := h _ hm
 unfold rw' vec
 have hjl : j < (L.getD i []).length := by omega
 rw [List.getD_eq_getElem?_getD (l := L.getD i []), List.getElem?_eq_getElem hjl, Option.getD_some]
 exact h2 _ (List.getElem_mem hjl)
theorem qKz {L M : List (List Int)} {p : Int} {n : Nat} (hL : Vs p n L) (hM : Vs p n M) (hl : L.length = M.length) (h : ∀ i, i < L.length → ∀ j, j < n → rw' L i j = rw' M i j) : L = M := by
 refine List.ext_getElem hl fun i h1 h2 => ?_
 have e1 := (hL _ (List.getElem_mem h1)).1
 have e2 := (hM _ (List.getElem_mem h2)).1
 refine List.ext_getElem (by omega) fun j h3 h4 => ?_
 have := h i h1 j (by omega)
 unfold rw' vec at this
 simpa [List.getD_eq_getElem?_getD, List.getElem?_eq_getElem h1, List.getElem?_eq_getElem h2, List.getElem?_eq_getElem h3, List.getElem?_eq_getElem h4] using this
structure Red (p : Int) (n : Nat) (L B : List (List Int)) (q : List Int) : Prop where
 vs : Vs p n B
 len : q.length = B.length
 rref : Rref p n B.length (rw' B) (fun i => (q.getD i 0).toNat)
 span : ∀ v, Span p n (B.map vec) v ↔ Span p n (L.map vec) v
 pos : ∀ x, x ∈ q → 0 ≤ x
theorem Red.unique {p : Int} {n : Nat} {L L' B B' : List (List Int)} {q q' : List Int} (hp : Pr p) (h : Red p n L B q) (h' : Red p n L' B' q') (hs : ∀ v, Span p n (L.map vec) v ↔ Span p n (L'.map vec) v) : B = B' ∧ q = q' := by
 have hp0 : 0 < p ∨ p ≤ 0 := by omega
 obtain ⟨e1, e2⟩ := h.rref.unique hp h'.rref (fun v => by rw [qCy, qCy, h.span v, h'.span v, hs v])
 have hB : B = B' := qKz h.vs h'.vs e1 fun i hi j hj => by
  have hd := (e2 i hi).2 j hj
  have a := qFg h.vs hi hj
  have b := qFg h'.vs (i := i) (by omega) hj
  obtain ⟨k, hk⟩ := hd
  have hp0 : 0 < p := by omega
  have : k = 0 := by
   rcases Int.lt_trichotomy k 0 with hl | h0 | hg
   ·have := Int.mul_le_mul_of_nonneg_left (show k ≤ -1 by omega) (Int.le_of_lt hp0); omega
   ·exact h0
   ·have := Int.mul_le_mul_of_nonneg_left (show 1 ≤ k by omega) (Int.le_of_lt hp0); omega
  rw [this] at hk; omega
 refine ⟨hB, List.ext_getElem (by rw [h.len, h'.len, e1]) fun i h1 h2 => ?_⟩
 have h3 := (e2 i (by rw [← h.len]; exact h1)).1
 have p1 := h.pos _ (List.getElem_mem h1)
 have p2 := h'.pos _ (List.getElem_mem h2)
 simp only [List.getD_eq_getElem?_getD, List.getElem?_eq_getElem h1, List.getElem?_eq_getElem h2, Option.getD_some] at h3
 omega
theorem Red.of {p : Int} {n : Nat} {L M : List (List Int)} {r : Nat} {q : List Int} (hl : M.length = L.length) (hv : Vs p n M) (hq : q.length = r) (hpos : ∀ x, x ∈ q → 0 ≤ x)
  (h : El p n L.length (rw' L) n r (rw' M) (fun i => (q.getD i 0).toNat)) : Red p n L (M.take r) q := by
 have hr := h.g.rm
 have hlen : (M.take r).length = r := by rw [List.length_take]; omega
 have e : ∀ i, i < r → rw' (M.take r) i = rw' M i := fun i hi => by
  unfold rw'
  rw [List.getD_eq_getElem?_getD, List.getD_eq_getElem?_getD, List.getElem?_take_of_lt hi]
 have hrr := h.g.rref
 refine ⟨fun x hx => hv x (List.mem_of_mem_take hx), by omega, ?_, fun v => ?_, hpos⟩
 ·rw [hlen]
  exact ⟨hrr.lt, hrr.mono, fun i hi => by rw [e i hi]; exact hrr.one i hi, fun i j hi hj hne => by rw [e i hi]; exact hrr.off i j hi hj hne, fun i c hi hc => by rw [e i hi]; exact hrr.pre i c hi hc⟩
 ·rw [← qCy L, ← h.span v, ← qCy, hlen]
  have : rows (rw' (M.take r)) r = rows (rw' M) r := List.map_congr_left fun i hi => e i (List.mem_range.1 hi)
  rw [this]
end Go.Proofs.Ytabfflgoaalapaa.B.LinT
set_option linter.unusedVariables false
set_option linter.unusedSimpArgs false
namespace Go.Proofs.Ytabfflgoaalapaa.B.LinT
def fl (w : Nat) (X : List Int) : Nat → Vec := fun i j => X.getD (i * w + j) 0
theorem qCt {w i j m : Nat} (hi : i < m) (hj : j < w) : i * w + j < m * w := by
 have := Nat.mul_le_mul_right w (show i + 1 ≤ m by omega)
 rw [Nat.add_mul, Nat.one_mul] at this; omega
theorem qK4 {w i j i' j' : Nat} (hj : j < w) (hj' : j' < w) (h : i * w + j = i' * w + j') : i = i' ∧ j = j' := by
 rcases Nat.lt_trichotomy i i' with hl | he | hg
 ·have := qCt hl hj; omega
 ·subst he; omega
 ·have := qCt hg hj'; omega
theorem qJ8 (X : List Int) (a b : Nat) (x : Int) (ha : a < X.length) : (X.set a x).getD b 0 = if b = a then x else X.getD b 0 := by
 rw [List.getD_eq_getElem?_getD, List.getElem?_set, List.getD_eq_getElem?_getD]
 by_cases h : b = a
 ·subst h; simp [ha]
 ·rw [if_neg (Ne.symm h), if_neg h]
theorem qJg {w : Nat} (X : List Int) {i j i' j' : Nat} (x : Int) (hj : j < w) (hj' : j' < w) (ha : i * w + j < X.length) : fl w (X.set (i * w + j) x) i' j' = if i' = i ∧ j' = j then x else fl w X i' j' := by
 unfold fl
 rw [qJ8 _ _ _ _ ha]
 by_cases h : i' = i ∧ j' = j
 ·rw [if_pos h, if_pos (by rw [h.1, h.2])]
 ·rw [if_neg h, if_neg (fun he => h (qK4 hj' hj he))]
structure Upd (w : Nat) (X : List Int) (i0 : Nat) (g : Nat → Int) (t : Nat) (Y : List Int) : Prop where
 len : Y.length = X.length
 at_ : ∀ i j, j < w → fl w Y i j = if i = i0 ∧ j < t then g j else fl w X i j
theorem Upd.start (w : Nat) (X : List Int) (i0 : Nat) (g : Nat → Int) : Upd w X i0 g 0 X := ⟨rfl, fun i j _ => by rw [if_neg (by omega)]⟩
theorem Upd.next {w : Nat} {X : List Int} {i0 : Nat} {g : Nat → Int} {t : Nat} {Y : List Int} (h : Upd w X i0 g t Y) (ht : t < w) (hi : i0 * w + t < X.length) {x : Int} (hx : x = g t) : Upd w X i0 g (t + 1) (Y.set (i0 * w + t) x) := by
 refine ⟨by rw [List.length_set, h.len], fun i j hj => ?_⟩
 rw [qJg Y x ht hj (by rw [h.len]; exact hi), h.at_ i j hj]
 by_cases h1 : i = i0 ∧ j = t
 ·rw [if_pos h1, if_pos (by omega), hx, h1.2]
 ·rw [if_neg h1]
  by_cases h2 : i = i0 ∧ j < t
  ·rw [if_pos h2, if_pos (by omega)]
  ·rw [if_neg h2, if_neg (by omega)]
structure Swp (w : Nat) (X : List Int) (a b : Nat) (t : Nat) (Y : List Int) : Prop where
 len : Y.length = X.length
 at_ : ∀ i j, j < w → fl w Y i j = if j < t then (if i = a then fl w X b j else if i = b then fl w X a j else fl w X i j) else fl w X i j
theorem Swp.start (w : Nat) (X : List Int) (a b : Nat) : Swp w X a b 0 X := ⟨rfl, fun i j _ => by rw [if_neg (by omega)]⟩
theorem Swp.next {w : Nat} {X : List Int} {a b : Nat} {t : Nat} {Y : List Int} (h : Swp w X a b t Y) (hab : a ≠ b) (ht : t < w) (ha : a * w + t < X.length) (hb : b * w + t < X.length) :
  Swp w X a b (t + 1) ((Y.set (b * w + t) (fl w Y a t)).set (a * w + t) (fl w Y b t)) := by
 refine ⟨by rw [List.length_set, List.length_set, h.len], fun i j hj => ?_⟩
 rw [qJg _ _ ht hj (by rw [List.length_set, h.len]; exact ha), qJg _ _ ht hj (by rw [h.len]; exact hb), h.at_ i j hj, h.at_ a t ht, h.at_ b t ht]
 rw [if_neg (Nat.lt_irrefl t), if_neg (Nat.lt_irrefl t)]
 rcases Nat.lt_trichotomy j t with hl | he | hg
 ·rw [if_neg (fun hh => by omega), if_neg (fun hh => by omega), if_pos hl, if_pos (show j < t + 1 by omega)]
 ·subst he
  rw [if_neg (Nat.lt_irrefl j), if_pos (Nat.lt_succ_self j)]
  by_cases h1 : i = a
  ·rw [if_pos ⟨h1, rfl⟩, if_pos h1]
  ·rw [if_neg (fun hh => h1 hh.1), if_neg h1]
   by_cases h2 : i = b
   ·rw [if_pos ⟨h2, rfl⟩, if_pos h2]
   ·rw [if_neg (fun hh => h2 hh.1), if_neg h2]
 ·rw [if_neg (fun hh => by omega), if_neg (fun hh => by omega), if_neg (show ¬ j < t by omega), if_neg (show ¬ j < t + 1 by omega)]
def unfl (w m : Nat) (X : List Int) : List (List Int) := (List.range m).map fun i => (X.drop (i * w)).take w
theorem qC3 (w m : Nat) (X : List Int) : (unfl w m X).length = m := by simp [unfl]
theorem qFw {w m : Nat} (X : List Int) {i j : Nat} (hi : i < m) (hj : j < w) : rw' (unfl w m X) i j = fl w X i j := by
 unfold rw' vec unfl fl
 have h1 : ((List.range m).map fun i => (X.drop (i * w)).take w).getD i [] = (X.drop (i * w)).take w := by
  rw [List.getD_eq_getElem?_getD, List.getElem?_map, List.getElem?_range hi]; rfl
 rw [h1, List.getD_eq_getElem?_getD, List.getElem?_take_of_lt hj, List.getElem?_drop, ← List.getD_eq_getElem?_getD]
theorem qIl {p : Int} {w m : Nat} {X : List Int} (hl : X.length = m * w) (h : ∀ i j, i < m → j < w → 0 ≤ fl w X i j ∧ fl w X i j < p) : Vs p w (unfl w m X) := by
 intro x hx
 obtain ⟨i, hi, rfl⟩ := List.mem_map.1 hx
 have him := List.mem_range.1 hi
 have h2 := Nat.mul_le_mul_right w (show i + 1 ≤ m by omega)
 rw [Nat.add_mul, Nat.one_mul] at h2
 refine ⟨by rw [List.length_take, List.length_drop]; omega, fun y hy => ?_⟩
 obtain ⟨j, hj, rfl⟩ := List.getElem_of_mem hy
 have hjw : j < w := by rw [List.length_take] at hj; omega
 have h3 := h i j him hjw
 unfold fl at h3
 rw [List.getElem_take, List.getElem_drop]
 rwa [List.getD_eq_getElem?_getD, List.getElem?_eq_getElem (by omega), Option.getD_some] at h3
theorem qIm {w m r : Nat} (X : List Int) (h : r ≤ m) : (unfl w m X).take r = unfl w r X := by
 unfold unfl
 rw [← List.map_take, List.take_range, Nat.min_eq_left h]
theorem qFp {w : Nat} : ∀ (L : List (List Int)), (∀ x, x ∈ L → x.length = w) → ∀ i j, i < L.length → j < w → fl w L.flatten i j = rw' L i j
 | [], _, i, j, hi, _ => by simp at hi
 | a :: L, h, i, j, hi, hj => by
  have ha := h a (by simp)
  unfold fl rw' vec
  rw [List.flatten_cons]
  cases i with
  | zero =>
   rw [List.getD_eq_getElem?_getD, Nat.zero_mul, Nat.zero_add, List.getElem?_append_left (by omega)]
   simp [List.getD_eq_getElem?_getD]
  | succ i =>
   have ih := qFp L (fun x hx => h x (by simp [hx])) i j (by simpa using hi) hj
   unfold fl rw' vec at ih
   rw [List.getD_eq_getElem?_getD, List.getElem?_append_right (by rw [Nat.add_mul]; omega), ← List.getD_eq_getElem?_getD]
   have : (i + 1) * w + j - a.length = i * w + j := by rw [Nat.add_mul]; omega
   rw [this, ih]
   simp [List.getD_eq_getElem?_getD]
theorem qCh {w : Nat} : ∀ (L : List (List Int)), (∀ x, x ∈ L → x.length = w) → L.flatten.length = L.length * w
 | [], _ => by simp
 | a :: L, h => by
  rw [List.flatten_cons, List.length_append, qCh L (fun x hx => h x (by simp [hx])), h a (by simp), List.length_cons, Nat.add_mul]; omega
structure FlInv (p : Int) (w m : Nat) (L : List (List Int)) (c : Nat) (X : List Int) (q : List Int) : Prop where
 len : X.length = m * w
 pos : ∀ x, x ∈ q → 0 ≤ x
 el : El p w m (rw' L) c q.length (fl w X) (fun i => (q.getD i 0).toNat)
theorem FlInv.red {p : Int} {w : Nat} {L : List (List Int)} {X : List Int} {q : List Int} (h : FlInv p w L.length L w X q) : Red p w L (unfl w q.length X) q := by
 have hr := h.el.g.rm
 rw [← qIm X hr]
 refine Red.of (qC3 _ _ _) (qIl h.len fun i j hi hj => ⟨h.el.ge i j hi hj, h.el.lt i j hi hj⟩) rfl h.pos (h.el.congr (Nat.le_refl _) fun i j hi hj => qFw X hi hj)
end Go.Proofs.Ytabfflgoaalapaa.B.LinT
set_option linter.unusedVariables false
set_option linter.unusedSimpArgs false
namespace Go.Proofs.Ytabfflgoaalapaa.B.LinT
theorem Red.dim {p : Int} {n : Nat} {L B : List (List Int)} {q : List Int} (hp : Pr p) (h : Red p n L B q) : LinT.dim p n (Span p n (L.map vec)) = B.length := by
 rw [← h.rref.indep hp, qCy]
 exact qDw fun v => (h.span v).symm
theorem qF9 {p : Int} {n : Nat} {L M : List (List Int)} (h : Vs p n L) (h' : Vs p n M) : Vs p n (L ++ M) := fun x hx => (List.mem_append.1 hx).elim (h x) (h' x)
theorem Red.len_le {p : Int} {n : Nat} {L B : List (List Int)} {q : List Int} (h : Red p n L B q) (hp : Pr p) : B.length ≤ n ∧ B.length ≤ L.length := by
 rw [← h.dim hp]
 exact ⟨dim_le p n _, Nat.le_trans (qEw hp _) (by simp)⟩
end Go.Proofs.Ytabfflgoaalapaa.B.LinT
set_option linter.unusedVariables false
set_option linter.unusedSimpArgs false
namespace Go.Proofs.Ytabfflgoaalapaa.B
open Go.RowKit Go.Proofs.YtabfflgoaalapaaW.PrintWords
open LinT
theorem qCn {a : Int} {p : Nat} (h : 0 ≤ a) : Int.tmod a (p : Int) = a % (p : Int) := Int.tmod_eq_emod_of_nonneg h
theorem qH9 (p : Nat) (hp : 2 ≤ p) (hp2 : p ≤ 251) : ∀ (e x0 x7 : Nat), e ≤ 1000 → x0 < p → x7 < p → Ev (fun k => z159.l0 k (x0 : Int) (e : Int) (p : Int) (x7 : Int)) ((x7 * x0 ^ e % p : Nat) : Int) := by
 intro e
 induction e using Nat.strongRecOn with
 | _ e ih =>
  intro x0 x7 he h0 h7
  refine Ev.step (fun k => z159.l0.eq_2 ..) ?_
  rcases Nat.eq_zero_or_pos e with h | h
  ·subst h
   refine qAs (by omega) (qBq (Ev.now _) ?_)
   rw [Nat.pow_zero, Nat.mul_one, Nat.mod_eq_of_lt h7]
  ·have hb : x0 * x0 ≤ 250 * 250 := Nat.mul_le_mul (by omega) (by omega)
   have hb2 : x7 * x0 ≤ 250 * 250 := Nat.mul_le_mul (by omega) (by omega)
   have e1 : Int.tmod (wrap64 ((x0 : Int) * (x0 : Int))) (p : Int) = ((x0 * x0 % p : Nat) : Int) := by
    rw [← Int.natCast_mul, qAy (by omega) (by omega), qCn (by omega)]; simp
   have e2 : wrap64 (Int.tdiv (e : Int) 2) = ((e / 2 : Nat) : Int) := by
    have : Int.tdiv (e : Int) 2 = ((e / 2 : Nat) : Int) := by rw [Int.tdiv_eq_ediv_of_nonneg (by omega)]; simp
    rw [this, qAy (by omega) (by omega)]
   have e3 : Int.tmod (e : Int) 2 = ((e % 2 : Nat) : Int) := by rw [Int.tmod_eq_emod_of_nonneg (by omega)]; simp
   have e4 : Int.tmod (wrap64 ((x7 : Int) * (x0 : Int))) (p : Int) = ((x7 * x0 % p : Nat) : Int) := by
    rw [← Int.natCast_mul, qAy (by omega) (by omega), qCn (by omega)]; simp
   have hpow : x0 ^ e = (x0 * x0) ^ (e / 2) * x0 ^ (e % 2) := by
    rw [← Nat.pow_two, ← Nat.pow_mul, ← Nat.pow_add, Nat.div_add_mod]
   have hm : ∀ y, y % p * (x0 * x0 % p) ^ (e / 2) % p = y * (x0 * x0) ^ (e / 2) % p := fun y => by
    rw [Nat.mul_mod, Nat.pow_mod, Nat.mod_mod, Nat.mod_mod, ← Nat.pow_mod, ← Nat.mul_mod]
   refine qAi (by omega) ?_
   rw [e1, e2, e3, e4]
   have hp0 : 0 < p := by omega
   rcases Nat.mod_two_eq_zero_or_one e with h2 | h2
   ·refine qAs (by rw [h2]; decide) (qAs (by omega) ?_)
    refine qBq (ih (e / 2) (by omega) (x0 * x0 % p) x7 (by omega) (Nat.mod_lt _ hp0) h7) ?_
    have := hm x7
    rw [Nat.mod_eq_of_lt h7] at this
    rw [this, hpow, h2, Nat.pow_zero, Nat.mul_one]
   ·refine qAi (by rw [h2]; decide) (qAs (by omega) ?_)
    refine qBq (ih (e / 2) (by omega) (x0 * x0 % p) (x7 * x0 % p) (by omega) (Nat.mod_lt _ hp0) (Nat.mod_lt _ hp0)) ?_
    rw [hm, hpow, h2, Nat.pow_one, Nat.mul_assoc, Nat.mul_comm x0]
theorem qIe {p a : Nat} (hp : isP p = true) (ha : a < p) : Ev (fun k => z149.f k (a : Int) (p : Int)) ((a ^ (p - 2) % p : Nat) : Int) := by
 have h2 := qBr hp
 unfold z149.f z159.f
 have e : wrap64 ((p : Int) - 2) = ((p - 2 : Nat) : Int) := by rw [qAy (by omega) (by omega)]; omega
 rw [e]
 have h := qH9 p h2.1 h2.2 (p - 2) a 1 (by omega) ha (by omega)
 rw [Nat.one_mul] at h
 exact Ev.bind h (Ev.now _)
def addT (p : Nat) (x y : List Int) (c : Int) : List Int := (List.range x.length).map fun j => (x.getD j 0 + c * y.getD j 0) % (p : Int)
def Rng (p : Nat) (x : List Int) : Prop := ∀ y, y ∈ x → 0 ≤ y ∧ y < (p : Int)
theorem qDh {p : Nat} {x : List Int} (h : Rng p x) {j : Nat} (hj : j < x.length) : 0 ≤ x.getD j 0 ∧ x.getD j 0 < (p : Int) := h _ (qBp 0 hj)
theorem qH2 (p : Nat) (x y : List Int) (c : Int) : (addT p x y c).length = x.length := by simp [addT]
theorem qH3 {p : Nat} {x y : List Int} {c : Int} {j : Nat} (hj : j < x.length) : (addT p x y c).getD j 0 = (x.getD j 0 + c * y.getD j 0) % (p : Int) := by
 unfold addT
 rw [List.getD_eq_getElem?_getD, List.getElem?_map, List.getElem?_range hj]; rfl
theorem qH1 {p : Nat} (hp : 0 < p) (x y : List Int) (c : Int) : Rng p (addT p x y c) := by
 intro z hz
 obtain ⟨j, _, rfl⟩ := List.mem_map.1 hz
 exact ⟨Int.emod_nonneg _ (by omega), Int.emod_lt_of_pos _ (by omega)⟩
theorem qE0 {p : Nat} (hp0 : 0 < p) (hp : p ≤ 251) (x y : List Int) (c : Int) (hx : Rng p x) (hy : Rng p y) (hl : x.length ≤ y.length) (hm : x.length ≤ 1048576) (hc0 : 0 ≤ c) (hc : c ≤ 251) :
  Ev (fun k => z108.f k x y c (p : Int)) (addT p x y c) := by
 unfold z108.f
 refine qGo (fun s i k => z108.l0 k x y c (p : Int) s (x.length : Int) (i : Int)) (fun j => (x.getD j 0 + c * y.getD j 0) % (p : Int)) x.length (fun j s hj hs r hr => ?_) _ ?_
 ·have hsl : s.length = j := by rw [hs]; simp
  have a := qDh hx hj
  have b := qDh hy (j := j) (by omega)
  have hcb : 0 ≤ c * y.getD j 0 := Int.mul_nonneg hc0 b.1
  have hcb2 : c * y.getD j 0 ≤ 251 * 251 := Int.mul_le_mul hc (by omega) b.1 (by decide)
  refine Ev.step (fun k => z108.l0.eq_2 ..) ?_
  (repeat (first | refine qAi (by omega) ?_ | refine qAs (by omega) ?_))
  rw [qAv (by omega), qBk, qBk, qAy (x := c * y.getD j 0) (by omega) (by omega), qAy (by omega) (by omega), qCn (by omega)]
  exact hr
 ·refine Ev.step (fun k => z108.l0.eq_2 ..) ?_
  exact qAs (by omega) (Ev.now _)
theorem qFl {p : Nat} (hp : 2 ≤ p) (hp2 : p ≤ 251) {a : Int} (h0 : -1000000000 ≤ a) (h1 : a ≤ 1000000000) : z131.f a (p : Int) = some (a % (p : Int)) := by
 unfold z131.f
 rw [if_neg (by omega)]
 have h2 : Int.tmod a (p : Int) = a % (p : Int) ∨ Int.tmod a (p : Int) = a % (p : Int) - (p : Int) := by
  rw [Int.tmod_eq_emod]
  split
  ·left; omega
  ·right; simp
 have h3 := Int.emod_nonneg a (b := (p : Int)) (by omega)
 have h4 := Int.emod_lt_of_pos a (b := (p : Int)) (by omega)
 congr 1
 rcases h2 with h | h
 ·rw [h, qAy (by omega) (by omega), qCn (by omega)]; simp
 ·rw [h, qAy (by omega) (by omega), qCn (by omega)]; simp
end Go.Proofs.Ytabfflgoaalapaa.B
set_option linter.unusedVariables false
set_option linter.unusedSimpArgs false
namespace Go.Proofs.Ytabfflgoaalapaa.B
open Go.RowKit Go.Proofs.YtabfflgoaalapaaW.PrintWords
open LinT
theorem qK3 (l : List (List Int)) (c : Nat) (hc : ∀ x, x ∈ l → c < x.length) (hl : l.length ≤ 1048576) :
  ∃ t : Int, Ev (fun k => z182.f k l (c : Int)) t ∧ ((t = -1 ∧ ∀ i, i < l.length → rw' l i c = 0) ∨ ∃ i : Nat, t = (i : Int) ∧ i < l.length ∧ rw' l i c ≠ 0) := by
 unfold z182.f
 have main : ∀ (d i : Nat), i + d = l.length → (∀ j, j < i → rw' l j c = 0) → ∃ t : Int, Ev (fun k => z182.l0 k l (l.length : Int) (i : Int) (c : Int)) t ∧ ((t = -1 ∧ ∀ i, i < l.length → rw' l i c = 0) ∨ ∃ i : Nat, t = (i : Int) ∧ i < l.length ∧ rw' l i c ≠ 0) := by
  intro d
  induction d with
  | zero =>
   intro i hi hz
   refine ⟨-1, ?_, .inl ⟨rfl, fun j hj => hz j (by omega)⟩⟩
   refine Ev.step (fun k => z182.l0.eq_2 ..) ?_
   exact qAs (by omega) (Ev.now _)
  | succ d ih =>
   intro i hi hz
   have hlen := hc (l.getD i []) (qBp [] (by omega))
   have hv : z148.f (rI_ l (i : Int)) (c : Int) = some (rw' l i c != 0) := by
    unfold z148.f
    rw [qBe, if_pos (by omega), if_pos (by omega), qBk]; rfl
   by_cases h : rw' l i c = 0
   ·obtain ⟨t, ht, hh⟩ := ih (i + 1) (by omega) (fun j hj => by
     rcases Nat.lt_or_ge j i with h1 | h1
     ·exact hz j h1
     ·have : j = i := by omega
      rw [this]; exact h)
    refine ⟨t, ?_, hh⟩
    refine Ev.step (fun k => z182.l0.eq_2 ..) ?_
    (repeat (first | refine qAi (by omega) ?_ | refine qAs (by omega) ?_))
    refine Ev.bind (qA6 hv) (qAs (by rw [h]; decide) ?_)
    rw [qAv (by omega)]; exact ht
   ·refine ⟨(i : Int), ?_, .inr ⟨i, rfl, by omega, h⟩⟩
    refine Ev.step (fun k => z182.l0.eq_2 ..) ?_
    (repeat (first | refine qAi (by omega) ?_ | refine qAs (by omega) ?_))
    exact Ev.bind (qA6 hv) (qAi (by simpa using h) (Ev.now _))
 exact main l.length 0 (by omega) (fun j hj => by omega)
theorem qCv {p : Int} {n : Nat} {R : List (List Int)} (h : Vs p n R) {i : Nat} (hi : i < R.length) : (R.getD i []).length = n := (h _ (qBp [] hi)).1
theorem qCu {p : Nat} {n : Nat} {R : List (List Int)} (h : Vs (p : Int) n R) {i : Nat} (hi : i < R.length) : Rng p (R.getD i []) := (h _ (qBp [] hi)).2
theorem qIj {p : Int} {n : Nat} {R : List (List Int)} (h : Vs p n R) (i : Nat) {x : List Int} (hx : x.length = n) (hr : ∀ y, y ∈ x → 0 ≤ y ∧ y < p) : Vs p n (R.set i x) := by
 intro y hy
 rcases List.mem_or_eq_of_mem_set hy with h1 | h1
 ·exact h y h1
 ·rw [h1]; exact ⟨hx, hr⟩
theorem qB7 {R : List (List Int)} {a : Nat} (b : Nat) (x : List Int) (ha : a < R.length) : (R.set a x).getD b [] = if b = a then x else R.getD b [] := by
 rw [List.getD_eq_getElem?_getD, List.getElem?_set, List.getD_eq_getElem?_getD]
 by_cases h : b = a
 ·subst h; simp [ha]
 ·rw [if_neg (Ne.symm h), if_neg h]
def clr (p top c : Nat) (R : List (List Int)) (i : Nat) : List Int :=
 if i = top then R.getD i [] else if rw' R i c = 0 then R.getD i [] else addT p (R.getD i []) (R.getD top []) ((p : Int) - rw' R i c)
structure Clr (p n top c : Nat) (R0 : List (List Int)) (i : Nat) (R : List (List Int)) : Prop where
 len : R.length = R0.length
 at_ : ∀ j, j < R0.length → R.getD j [] = if j < i then clr p top c R0 j else R0.getD j []
theorem clr_ok {p n : Nat} (hp : 0 < p) {top c : Nat} {R : List (List Int)} (h : Vs (p : Int) n R) {i : Nat} (hi : i < R.length) : (clr p top c R i).length = n ∧ Rng p (clr p top c R i) := by
 unfold clr
 split
 ·exact ⟨qCv h hi, qCu h hi⟩
 ·split
  ·exact ⟨qCv h hi, qCu h hi⟩
  ·exact ⟨by rw [qH2, qCv h hi], qH1 hp _ _ _⟩
theorem Clr.vs {p n : Nat} (hp : 0 < p) {top c : Nat} {R0 R : List (List Int)} {i : Nat} (h0 : Vs (p : Int) n R0) (h : Clr p n top c R0 i R) : Vs (p : Int) n R := by
 intro x hx
 obtain ⟨j, hj, rfl⟩ := List.getElem_of_mem hx
 have e : R[j] = R.getD j [] := by rw [List.getD_eq_getElem?_getD, List.getElem?_eq_getElem hj]; rfl
 have hj0 : j < R0.length := by rw [← h.len]; exact hj
 rw [e, h.at_ j hj0]
 split
 ·exact clr_ok hp h0 hj0
 ·exact ⟨qCv h0 hj0, qCu h0 hj0⟩
theorem qKd {p n : Nat} (hp : isP p = true) (hn : n ≤ 1048576) {top c : Nat} (hc : c < n) {R0 : List (List Int)} (hv : Vs (p : Int) n R0) (ht : top < R0.length) (hm : R0.length ≤ 1048576) (q : List Int) (hq : q.length ≤ 1048576) (det : Int) {β : Int × Int} :
  ∃ R, Clr p n top c R0 R0.length R ∧ ∀ r, Ev (fun k => z128.l0 k R (n : Int) (p : Int) (q ++ [(c : Int)]) det (n : Int) ((c + 1 : Nat) : Int)) r →
   Ev (fun k => z128.l1 k R0 (n : Int) (p : Int) q det (top : Int) (n : Int) (c : Int) (R0.length : Int) 0 (c : Int)) r := by
 have h2 := qBr hp
 have main : ∀ (d i : Nat) (R : List (List Int)), i + d = R0.length → Clr p n top c R0 i R → ∃ R', Clr p n top c R0 R0.length R' ∧ ∀ r, Ev (fun k => z128.l0 k R' (n : Int) (p : Int) (q ++ [(c : Int)]) det (n : Int) ((c + 1 : Nat) : Int)) r →
   Ev (fun k => z128.l1 k R (n : Int) (p : Int) q det (top : Int) (n : Int) (c : Int) (R0.length : Int) (i : Int) (c : Int)) r := by
  intro d
  induction d with
  | zero =>
   intro i R hi hR
   have : i = R0.length := by omega
   subst this
   refine ⟨R, hR, fun r hr => ?_⟩
   refine Ev.step (fun k => z128.l1.eq_2 ..) ?_
   refine qAs (by omega) (qAi (by omega) ?_)
   rw [qAv (by omega)]; exact hr
  | succ d ih =>
   intro i R hi hR
   have hRv := hR.vs (by omega) hv
   have hRl := hR.len
   have hrow : R.getD i [] = R0.getD i [] := by rw [hR.at_ i (by omega), if_neg (by omega)]
   have htop : R.getD top [] = R0.getD top [] := by
    rw [hR.at_ top ht]
    split
    ·unfold clr; rw [if_pos rfl]
    ·rfl
   have hlen := qCv hv (i := i) (by omega)
   have hval : rd (rI_ R (i : Int)) (c : Int) = rw' R0 i c := by rw [qBe, qBk, hrow]; rfl
   by_cases h1 : i = top
   ·obtain ⟨R', h3, h4⟩ := ih (i + 1) R (by omega) ⟨hRl, fun j hj => by
     rw [hR.at_ j hj]
     by_cases hji : j = i
     ·rw [hji, if_neg (Nat.lt_irrefl i), if_pos (Nat.lt_succ_self i)]; unfold clr; rw [if_pos h1]
     ·by_cases hjl : j < i
      ·rw [if_pos hjl, if_pos (by omega)]
      ·rw [if_neg hjl, if_neg (by omega)]⟩
    refine ⟨R', h3, fun r hr => ?_⟩
    refine Ev.step (fun k => z128.l1.eq_2 ..) ?_
    refine qAi (by omega) (qAi (by omega) (qAi (by omega) (qAi (by omega) ?_)))
    rw [qAv (by omega)]; exact h4 r hr
   ·by_cases h0 : rw' R0 i c = 0
    ·obtain ⟨R', h3, h4⟩ := ih (i + 1) R (by omega) ⟨hRl, fun j hj => by
      rw [hR.at_ j hj]
      by_cases hji : j = i
      ·rw [hji, if_neg (Nat.lt_irrefl i), if_pos (Nat.lt_succ_self i)]; unfold clr; rw [if_neg h1, if_pos h0]
      ·by_cases hjl : j < i
       ·rw [if_pos hjl, if_pos (by omega)]
       ·rw [if_neg hjl, if_neg (by omega)]⟩
     refine ⟨R', h3, fun r hr => ?_⟩
     refine Ev.step (fun k => z128.l1.eq_2 ..) ?_
     rw [hval]
     refine qAi (by omega) (qAi (by omega) (qAi (by omega) (qAs (by omega) (qAi (by omega) (qAi (by rw [qBe, hrow, hlen]; omega) (qAi h0 ?_))))))
     rw [qAv (by omega)]; exact h4 r hr
    ·have hb := qDh (qCu hv (i := i) (by omega)) (j := c) (by omega)
     have hb' : 0 ≤ rw' R0 i c ∧ rw' R0 i c < (p : Int) := hb
     have hadd := qE0 (p := p) (by omega) h2.2 (R0.getD i []) (R0.getD top []) ((p : Int) - rw' R0 i c) (qCu hv (by omega)) (qCu hv ht) (by rw [qCv hv ht, hlen]; exact Nat.le_refl _) (by omega) (by omega) (by omega)
     obtain ⟨R', h3, h4⟩ := ih (i + 1) (R.set i (addT p (R0.getD i []) (R0.getD top []) ((p : Int) - rw' R0 i c))) (by omega) ⟨by rw [List.length_set, hRl], fun j hj => by
      rw [qB7 j _ (by omega)]
      by_cases hji : j = i
      ·rw [if_pos hji, hji, if_pos (Nat.lt_succ_self i)]; unfold clr; rw [if_neg h1, if_neg h0]
      ·rw [if_neg hji, hR.at_ j hj]
       by_cases hjl : j < i
       ·rw [if_pos hjl, if_pos (by omega)]
       ·rw [if_neg hjl, if_neg (by omega)]⟩
     refine ⟨R', h3, fun r hr => ?_⟩
     refine Ev.step (fun k => z128.l1.eq_2 ..) ?_
     rw [hval]
     refine qAi (by omega) (qAi (by omega) (qAi (by omega) (qAs (by omega) (qAi (by omega) (qAi (by rw [qBe, hrow, hlen]; omega) (qAs h0 (qAi (by omega) (qAi (by omega) ?_))))))))
     rw [qBe, qBe, hrow, htop, qAy (by omega) (by omega), qAv (by omega)]
     exact Ev.bind hadd (h4 r hr)
 obtain ⟨R', h1, h3⟩ := main R0.length 0 R0 (by omega) ⟨rfl, fun j hj => by rw [if_neg (by omega)]⟩
 exact ⟨R', h1, h3⟩
structure StI (p n : Nat) (L : List (List Int)) (c : Nat) (R : List (List Int)) (q : List Int) : Prop where
 len : R.length = L.length
 vs : Vs (p : Int) n R
 pos : ∀ x, x ∈ q → 0 ≤ x
 el : El (p : Int) n L.length (rw' L) c q.length (rw' R) (fun i => (q.getD i 0).toNat)
theorem qHw (a : Int) (p : Int) : p ∣ a % p - a := by
 have := Int.dvd_neg.2 (Int.dvd_self_sub_emod (x := a) (m := p))
 rwa [show -(a - a % p) = a % p - a by omega] at this
theorem qI9 {p n : Nat} (hp : isP p = true) (hn : n ≤ 1048576) {L : List (List Int)} (hm : L.length ≤ 1048576) {c : Nat} (hc : c < n) {R : List (List Int)} {q : List Int} (h : StI p n L c R q) (hq : q.length ≤ c) (hqm : q.length < L.length) (hne : rw' R q.length c ≠ 0) (det : Int) :
  ∃ R' det', StI p n L (c + 1) R' (q ++ [(c : Int)]) ∧ ∀ r, Ev (fun k => z128.l0 k R' (n : Int) (p : Int) (q ++ [(c : Int)]) det' (n : Int) ((c + 1 : Nat) : Int)) r →
   Ev (fun k => z128.j1 k R (n : Int) (p : Int) q det (q.length : Int) (n : Int) (c : Int) (c : Int)) r := by
 have h2 := qBr hp
 have hRl := h.len
 have htop := qCv h.vs (i := q.length) (by omega)
 have hb : 0 ≤ rw' R q.length c ∧ rw' R q.length c < (p : Int) := qDh (qCu h.vs (i := q.length) (by omega)) (j := c) (by omega)
 obtain ⟨a, ha⟩ := Int.eq_ofNat_of_zero_le hb.1
 have hap : a < p := by omega
 have hinv := qIe hp hap
 have hcong := qHd hp hap (by omega)
 have hbp : a ^ (p - 2) % p < p := Nat.mod_lt _ (by omega)
 generalize hbe : a ^ (p - 2) % p = b at hinv hcong hbp
 have hz : Rng p (List.replicate n 0) := fun y hy => by rw [(List.mem_replicate.1 hy).2]; omega
 have hadd := qE0 (p := p) (by omega) h2.2 (List.replicate n 0) (R.getD q.length []) (b : Int) hz (qCu h.vs (by omega)) (by rw [htop]; simp) (by simpa using hn) (by omega) (by omega)
 generalize hR1 : addT p (List.replicate n 0) (R.getD q.length []) (b : Int) = x1 at hadd
 have hx1l : x1.length = n := by rw [← hR1, qH2]; simp
 have hx1r : Rng p x1 := by rw [← hR1]; exact qH1 (by omega) _ _ _
 have hx1 : ∀ j, j < n → (p : Int) ∣ x1.getD j 0 - (b : Int) * rw' R q.length j := fun j hj => by
  have e : x1.getD j 0 = ((b : Int) * rw' R q.length j) % (p : Int) := by
   rw [← hR1, qH3 (by simpa using hj)]
   have : (List.replicate n (0 : Int)).getD j 0 = 0 := by simp [List.getD_eq_getElem?_getD, hj]
   rw [this, Int.zero_add]; rfl
  rw [e]; exact qHw _ _
 have hv1 : Vs (p : Int) n (R.set q.length x1) := qIj h.vs _ hx1l hx1r
 obtain ⟨R2, hclr, hgo⟩ := qKd (β := (0, 0)) hp hn hc hv1 (top := q.length) (by rw [List.length_set]; omega) (by rw [List.length_set]; omega) q (by omega) (Int.tmod (wrap64 (det * (a : Int))) (p : Int))
 have hR2v := hclr.vs (by omega) hv1
 have hR2l : R2.length = L.length := by rw [hclr.len, List.length_set, hRl]
 have htop2 : R2.getD q.length [] = x1 := by
  rw [hclr.at_ _ (by rw [List.length_set]; omega), if_pos (by rw [List.length_set]; omega)]
  unfold clr
  rw [if_pos rfl, qB7 _ _ (by omega), if_pos rfl]
 have hoth : ∀ i, i < L.length → i ≠ q.length → ∀ j, j < n → (p : Int) ∣ rw' R2 i j - (rw' R i j - rw' R i c * rw' R2 q.length j) := fun i hi hne j hj => by
  have e0 : ∀ t, rw' (R.set q.length x1) i t = rw' R i t := fun t => by unfold rw'; rw [qB7 _ _ (by omega), if_neg hne]
  have e1 : R2.getD i [] = clr p q.length c (R.set q.length x1) i := by rw [hclr.at_ _ (by rw [List.length_set]; omega), if_pos (by rw [List.length_set]; omega)]
  have e2 : (R.set q.length x1).getD i [] = R.getD i [] := by rw [qB7 _ _ (by omega), if_neg hne]
  have e3 : (R.set q.length x1).getD q.length [] = x1 := by rw [qB7 _ _ (by omega), if_pos rfl]
  have e4 : rw' R2 q.length j = x1.getD j 0 := by unfold rw' vec; rw [htop2]
  unfold clr at e1
  rw [if_neg hne, e0 c, e2, e3] at e1
  by_cases hz : rw' R i c = 0
  ·rw [if_pos hz] at e1
   have : rw' R2 i j = rw' R i j := by unfold rw'; rw [e1]
   rw [this, hz, Int.zero_mul]; simp
  ·rw [if_neg hz] at e1
   have : rw' R2 i j = (rw' R i j + ((p : Int) - rw' R i c) * x1.getD j 0) % (p : Int) := by
    unfold rw' vec
    rw [e1, qH3 (by rw [qCv h.vs (by omega)]; exact hj)]
    rfl
   rw [this, e4]
   have h5 := qHw (rw' R i j + ((p : Int) - rw' R i c) * x1.getD j 0) (p : Int)
   have h6 := Int.dvd_add h5 (Int.dvd_mul_right (p : Int) (x1.getD j 0))
   rwa [show (rw' R i j + ((p : Int) - rw' R i c) * x1.getD j 0) % (p : Int) - (rw' R i j + ((p : Int) - rw' R i c) * x1.getD j 0) + (p : Int) * x1.getD j 0 = (rw' R i j + ((p : Int) - rw' R i c) * x1.getD j 0) % (p : Int) - (rw' R i j - rw' R i c * x1.getD j 0) by grind] at h6
 have hqs : ∀ i, i < q.length → ((q ++ [(c : Int)]).getD i 0) = q.getD i 0 := fun i hi => by
  rw [List.getD_eq_getElem?_getD, List.getElem?_append_left hi, List.getD_eq_getElem?_getD]
 refine ⟨R2, Int.tmod (wrap64 (det * (a : Int))) (p : Int), ⟨hR2l, hR2v, fun x hx => ?_, ?_⟩, fun r hr => ?_⟩
 ·rcases List.mem_append.1 hx with h1 | h1
  ·exact h.pos x h1
  ·rw [List.mem_singleton.1 h1]; omega
 ·rw [List.length_append]
  refine h.el.step hc hqm (b := (b : Int)) (by rw [ha]; exact hcong) (fun j hj => ?_) (fun i j hi hne hj => hoth i hi hne j hj) (fun i hi => by rw [hqs i hi]) (by simp) (fun i j hi hj => ?_) (fun i j hi hj => ?_)
  ·have : rw' R2 q.length j = x1.getD j 0 := by unfold rw' vec; rw [htop2]
   rw [this]; exact hx1 j hj
  ·exact (qFg hR2v (by omega) hj).1
  ·exact (qFg hR2v (by omega) hj).2
 ·refine Ev.step (fun k => z128.j1.eq_2 ..) ?_
  have hrd : rd (rI_ R (q.length : Int)) (c : Int) = (a : Int) := by rw [qBe, qBk, ← ha]; rfl
  rw [hrd]
  refine qAi (by omega) (qAi (by omega) (qAi (by omega) (qAi (by rw [qBe, htop]; omega) (qAs (by omega) (qAi (by omega) (qAi (by omega) (Ev.bind hinv ?_)))))))
  rw [qBe]
  refine Ev.bind (by simpa using hadd) ?_
  have := hgo r hr
  rw [List.length_set] at this
  simpa using this
theorem qJi {p n : Nat} (hp : isP p = true) (hn : n ≤ 1048576) {L : List (List Int)} (hm : L.length ≤ 1048576) (hL : Vs (p : Int) n L) :
  ∃ R q det, Ev (fun k => z128.f k L (n : Int) (p : Int)) (q, det, R) ∧ StI p n L n R q := by
 have h2 := qBr hp
 unfold z128.f
 have main : ∀ (d c : Nat) (R : List (List Int)) (q : List Int) (det : Int), c + d = n → q.length ≤ c → StI p n L c R q →
   ∃ R' q' det', Ev (fun k => z128.l0 k R (n : Int) (p : Int) q det (n : Int) (c : Int)) (q', det', R') ∧ StI p n L n R' q' := by
  intro d
  induction d with
  | zero =>
   intro c R q det hc hq h
   have : c = n := by omega
   subst this
   refine ⟨R, q, det, ?_, h⟩
   refine Ev.step (fun k => z128.l0.eq_2 ..) ?_
   exact qAs (by omega) (Ev.now _)
  | succ d ih =>
   intro c R q det hc hq h
   have hrm := h.el.g.rm
   have hRl := h.len
   obtain ⟨t, ht, hd⟩ := qK3 (R.drop q.length) c (fun x hx => by have := (h.vs x (List.mem_of_mem_drop hx)).1; omega) (by rw [List.length_drop]; omega)
   have hdrop : ∀ i, i < (R.drop q.length).length → rw' (R.drop q.length) i c = rw' R (q.length + i) c := fun i hi => by
    unfold rw' vec
    rw [List.getD_eq_getElem?_getD (l := R.drop q.length), List.getElem?_drop, ← List.getD_eq_getElem?_getD]
   have hdl : (R.drop q.length).length = L.length - q.length := by rw [List.length_drop, hRl]
   rcases hd with ⟨e, hz⟩ | ⟨i, e, hi, hne⟩
   ·subst e
    obtain ⟨R', q', det', h3, h4⟩ := ih (c + 1) R q 0 (by omega) (by omega) ⟨h.len, h.vs, h.pos, h.el.none (fun i h1 h3 => by
     have := hz (i - q.length) (by omega)
     rw [hdrop _ (by omega), show q.length + (i - q.length) = i by omega] at this; exact this)⟩
    refine ⟨R', q', det', ?_, h4⟩
    refine Ev.step (fun k => z128.l0.eq_2 ..) ?_
    refine qAi (by omega) (qAi (by omega) (qAi (by omega) (Ev.bind (by simpa using ht) (qAi (by decide) ?_))))
    rw [qAv (by omega)]; exact h3
   ·subst e
    rw [hdrop i hi] at hne
    have hqm : q.length < L.length := by omega
    rcases Nat.eq_zero_or_pos i with h0 | h0
    ·subst h0
     rw [Nat.add_zero] at hne
     obtain ⟨R1, det1, hst, hgo⟩ := qI9 hp hn hm (by omega) h hq hqm hne det
     obtain ⟨R', q', det', h3, h4⟩ := ih (c + 1) R1 (q ++ [(c : Int)]) det1 (by omega) (by simp; omega) hst
     refine ⟨R', q', det', ?_, h4⟩
     refine Ev.step (fun k => z128.l0.eq_2 ..) ?_
     refine qAi (by omega) (qAi (by omega) (qAi (by omega) (Ev.bind (by simpa using ht) (qAs (by decide) (qAs (by decide) ?_)))))
     exact hgo _ h3
    ·have g1 : (c : Int) < (n : Int) := by omega
     have g2 : (0 : Int) ≤ (q.length : Int) := by omega
     have g3 : (q.length : Int) ≤ (R.length : Int) := by omega
     have g4 : ¬ ((i : Int) < 0) := by omega
     have g5 : (i : Int) > 0 := by omega
     have g6 : (0 : Int) ≤ ((q.length + i : Nat) : Int) := by omega
     have g7 : ((q.length + i : Nat) : Int) < (R.length : Int) := by omega
     have g8 : (q.length : Int) < (R.length : Int) := by omega
     have hs : StI p n L c ((R.set q.length (R.getD (q.length + i) [])).set (q.length + i) (R.getD q.length [])) q := by
      refine ⟨by simp [hRl], qIj (qIj h.vs _ (qCv h.vs (by omega)) (qCu h.vs (by omega))) _ (qCv h.vs (by omega)) (qCu h.vs (by omega)), h.pos, ?_⟩
      have hat : ∀ j, ((R.set q.length (R.getD (q.length + i) [])).set (q.length + i) (R.getD q.length [])).getD j [] = if j = q.length + i then R.getD q.length [] else if j = q.length then R.getD (q.length + i) [] else R.getD j [] := fun j => by
       rw [qB7 _ _ (by rw [List.length_set]; omega), qB7 _ _ (by omega)]
      refine h.el.swap (a := q.length + i) (by omega) (by omega) (fun j => ?_) (fun j => ?_) (fun k j hk h1 h3 => ?_)
      ·unfold rw'; rw [hat, if_neg (by omega), if_pos rfl]
      ·unfold rw'; rw [hat, if_pos rfl]
      ·unfold rw'; rw [hat, if_neg h3, if_neg h1]
     have hne' : rw' ((R.set q.length (R.getD (q.length + i) [])).set (q.length + i) (R.getD q.length [])) q.length c ≠ 0 := by
      have : ((R.set q.length (R.getD (q.length + i) [])).set (q.length + i) (R.getD q.length [])).getD q.length [] = R.getD (q.length + i) [] := by
       rw [qB7 _ _ (by rw [List.length_set]; omega), if_neg (by omega), qB7 _ _ (by omega), if_pos rfl]
      unfold rw'; rw [this]; exact hne
     have hred : ∃ d2, z131.f (wrap64 (-det)) (p : Int) = some d2 := ⟨_, by unfold z131.f; rw [if_neg (by omega)]⟩
     obtain ⟨d2, hd2⟩ := hred
     obtain ⟨R1, det1, hst, hgo⟩ := qI9 hp hn hm (by omega) hs hq hqm hne' d2
     obtain ⟨R', q', det', h3, h4⟩ := ih (c + 1) R1 (q ++ [(c : Int)]) det1 (by omega) (by simp; omega) hst
     refine ⟨R', q', det', ?_, h4⟩
     refine Ev.step (fun k => z128.l0.eq_2 ..) ?_
     have hw : wrap64 ((q.length : Int) + (i : Int)) = ((q.length + i : Nat) : Int) := by rw [qAy (by omega) (by omega)]; omega
     refine qAi g1 (qAi g2 (qAi g3 (Ev.bind (by simpa using ht) (qAs g4 (qAi g5 ?_)))))
     rw [hw]
     refine qAi g6 (qAi g7 (qAi g8 (Ev.bind (qA6 hd2) ?_)))
     rw [qBe, qBe, Int.toNat_natCast, Int.toNat_natCast]
     exact hgo _ h3
 obtain ⟨R', q', det', h3, h4⟩ := main n 0 L [] 1 (by omega) (by simp) ⟨rfl, hL, fun x hx => by simp at hx, El.start (fun i j hi hj => (qFg hL hi hj).1) (fun i j hi hj => (qFg hL hi hj).2) _⟩
 exact ⟨R', q', det', h3, h4⟩
theorem StI.red {p n : Nat} {L R : List (List Int)} {q : List Int} (h : StI p n L n R q) : Red (p : Int) n L (R.take q.length) q := Red.of h.len h.vs rfl h.pos h.el
end Go.Proofs.Ytabfflgoaalapaa.B
set_option linter.unusedVariables false
set_option linter.unusedSimpArgs false
namespace Go.Proofs.Ytabfflgoaalapaa.B
open Go.RowKit Go.Proofs.YtabfflgoaalapaaW.PrintWords
open LinT
theorem qHc {p : Nat} (hp0 : 2 ≤ p) (hp : p ≤ 251) {a : Nat} (ha : a < p) : ∀ (n x : Nat), n ≤ 1000 → x < p → Ev (fun k => z155.l0 k (a : Int) (p : Int) (x : Int) (n : Int)) ((x * a ^ n % p : Nat) : Int) := by
 intro n
 induction n with
 | zero =>
  intro x _ hx
  refine Ev.step (fun k => z155.l0.eq_2 ..) ?_
  refine qAs (by omega) (qBq (Ev.now _) ?_)
  rw [Nat.pow_zero, Nat.mul_one, Nat.mod_eq_of_lt hx]
 | succ n ih =>
  intro x hn hx
  have hb : x * a ≤ 250 * 250 := Nat.mul_le_mul (by omega) (by omega)
  have e1 : Int.tmod (wrap64 ((x : Int) * (a : Int))) (p : Int) = ((x * a % p : Nat) : Int) := by
   rw [← Int.natCast_mul, qAy (by omega) (by omega), qCn (by omega)]; simp
  have e2 : wrap64 (((n + 1 : Nat) : Int) - 1) = (n : Int) := by rw [qAy (by omega) (by omega)]; omega
  refine Ev.step (fun k => z155.l0.eq_2 ..) ?_
  rw [e1, e2]
  clear e1 e2
  refine qAi (by omega) (qAs (by omega) (qBq (ih (x * a % p) (by omega) (Nat.mod_lt _ (by omega))) ?_))
  rw [Nat.mod_mul_mod, Nat.pow_succ, Nat.mul_assoc, Nat.mul_comm a]
theorem qFd {p a : Nat} (hp : isP p = true) (ha : a < p) : Ev (fun k => z155.f k (a : Int) (p : Int)) ((a ^ (p - 2) % p : Nat) : Int) := by
 have h2 := qBr hp
 unfold z155.f
 have e : wrap64 ((p : Int) - 2) = ((p - 2 : Nat) : Int) := by rw [qAy (by omega) (by omega)]; omega
 rw [e]
 have h := qHc h2.1 h2.2 ha (p - 2) 1 (by omega) (by omega)
 rwa [Nat.one_mul] at h
theorem qI6 {p : Nat} (hp : 2 ≤ p) (hp2 : p ≤ 251) {a : Int} (h0 : -1000000000 ≤ a) (h1 : a ≤ 1000000000) : z156.f a (p : Int) = some (a % (p : Int)) := by
 have := qFl hp hp2 h0 h1
 unfold z131.f at this
 unfold z156.f
 exact this
theorem ix {i w j : Nat} (hi : i ≤ 1024) (hw : w ≤ 1024) (hj : j ≤ 1024) : wrap64 (wrap64 ((i : Int) * (w : Int)) + (j : Int)) = ((i * w + j : Nat) : Int) := by
 have hb : i * w ≤ 1024 * 1024 := Nat.mul_le_mul hi hw
 rw [← Int.natCast_mul, qAy (x := ((i * w : Nat) : Int)) (by omega) (by omega), qAy (by omega) (by omega)]; omega
theorem rdfl (w : Nat) (X : List Int) (i j : Nat) : rd X ((i * w + j : Nat) : Int) = fl w X i j := qBk X _
section
variable {p w m : Nat} (hp : isP p = true) (hw : w ≤ 1024) (hm : m ≤ 1024) (X0 : List Int) (q : List Int) (det : Int)
include hp hw hm
omit hp in
theorem qJ9 {row c : Nat} (hr : row ≤ m) (hc : c < w) {X : List Int} (hX : X.length = m * w) : ∃ t, row ≤ t ∧ t ≤ m ∧ ((t = m ∧ ∀ i, row ≤ i → i < m → fl w X i c = 0) ∨ (t < m ∧ fl w X t c ≠ 0)) ∧
  Le (fun k => z134.j3 k (p : Int) (w : Int) q det (row : Int) (c : Int) (t : Int) (p : Int) (m : Int) (w : Int) X0 (p : Int) (m : Int) (w : Int) X) (fun k => z134.l1 k (p : Int) (w : Int) q det (row : Int) (c : Int) (row : Int) (p : Int) (m : Int) (w : Int) X0 (p : Int) (m : Int) (w : Int) X) := by
 have main : ∀ (d t : Nat), t + d = m → row ≤ t → (∀ i, row ≤ i → i < t → fl w X i c = 0) → ∃ t', row ≤ t' ∧ t' ≤ m ∧ ((t' = m ∧ ∀ i, row ≤ i → i < m → fl w X i c = 0) ∨ (t' < m ∧ fl w X t' c ≠ 0)) ∧
  Le (fun k => z134.j3 k (p : Int) (w : Int) q det (row : Int) (c : Int) (t' : Int) (p : Int) (m : Int) (w : Int) X0 (p : Int) (m : Int) (w : Int) X) (fun k => z134.l1 k (p : Int) (w : Int) q det (row : Int) (c : Int) (t : Int) (p : Int) (m : Int) (w : Int) X0 (p : Int) (m : Int) (w : Int) X) := by
  intro d
  induction d with
  | zero =>
   intro t ht h1 hz
   have : t = m := by omega
   subst this
   refine ⟨t, h1, Nat.le_refl _, .inl ⟨rfl, hz⟩, fun r hr => ?_⟩
   refine Ev.step (fun k => z134.l1.eq_2 ..) ?_
   exact qAs (by omega) hr
  | succ d ih =>
   intro t ht h1 hz
   have hlt := qCt (show t < m by omega) hc
   have e := ix (i := t) (w := w) (j := c) (by omega) hw (by omega)
   by_cases h : fl w X t c = 0
   ·obtain ⟨t', a1, a2, a3, a4⟩ := ih (t + 1) (by omega) (by omega) (fun i hi hi2 => by
     rcases Nat.lt_or_ge i t with hl | hg
     ·exact hz i hi hl
     ·rw [show i = t by omega]; exact h)
    refine ⟨t', a1, a2, a3, fun r hr => ?_⟩
    have := a4 r hr
    refine Ev.step (fun k => z134.l1.eq_2 ..) ?_
    rw [e, rdfl]
    clear e
    refine qAi (by omega) (qAi (by omega) (qAi (by omega) (qAi h ?_)))
    rw [qAv (by omega)]; exact this
   ·refine ⟨t, h1, by omega, .inr ⟨by omega, h⟩, fun r hr => ?_⟩
    refine Ev.step (fun k => z134.l1.eq_2 ..) ?_
    rw [e, rdfl]
    clear e
    exact qAi (by omega) (qAi (by omega) (qAi (by omega) (qAs h hr)))
 exact main (m - row) row (by omega) (Nat.le_refl _) (fun i h1 h2 => by omega)
omit hp in
theorem qJ0 {row c t : Nat} (hr : row < m) (ht : t < m) (hne : row ≠ t) {X : List Int} (hX : X.length = m * w) : ∃ Y, Swp w X row t w Y ∧
  Le (fun k => z134.j5 k (p : Int) (w : Int) q det (row : Int) (c : Int) (p : Int) (m : Int) (w : Int) X0 (p : Int) (m : Int) (w : Int) Y) (fun k => z134.l2 k (p : Int) (w : Int) q det (row : Int) (c : Int) (t : Int) 0 (p : Int) (m : Int) (w : Int) X0 (p : Int) (m : Int) (w : Int) X) := by
 have main : ∀ (d j : Nat) (Y : List Int), j + d = w → Swp w X row t j Y → ∃ Y', Swp w X row t w Y' ∧
  Le (fun k => z134.j5 k (p : Int) (w : Int) q det (row : Int) (c : Int) (p : Int) (m : Int) (w : Int) X0 (p : Int) (m : Int) (w : Int) Y') (fun k => z134.l2 k (p : Int) (w : Int) q det (row : Int) (c : Int) (t : Int) (j : Int) (p : Int) (m : Int) (w : Int) X0 (p : Int) (m : Int) (w : Int) Y) := by
  intro d
  induction d with
  | zero =>
   intro j Y hj hY
   have : j = w := by omega
   subst this
   refine ⟨Y, hY, fun r hr => ?_⟩
   refine Ev.step (fun k => z134.l2.eq_2 ..) ?_
   exact qAs (by omega) hr
  | succ d ih =>
   intro j Y hj hY
   have hl := hY.len
   have h1 := qCt hr (show j < w by omega)
   have h2 := qCt ht (show j < w by omega)
   obtain ⟨Y', h3, h4⟩ := ih (j + 1) _ (by omega) (hY.next hne (by omega) (by omega) (by omega))
   refine ⟨Y', h3, fun r hr => ?_⟩
   have := h4 r hr
   obtain ⟨e1, e2⟩ := And.intro (ix (i := t) (w := w) (j := j) (by omega) hw (by omega)) (ix (i := row) (w := w) (j := j) (by omega) hw (by omega))
   refine Ev.step (fun k => z134.l2.eq_2 ..) ?_
   rw [e1, e2, rdfl, rdfl]
   clear e1 e2
   refine qAi (by omega) (qAi (by omega) (qAi (by omega) (qAi (by omega) (qAi (by omega) ?_))))
   rw [qAv (by omega), Int.toNat_natCast, Int.toNat_natCast]; exact this
 exact main w 0 X (by omega) (Swp.start w X row t)
theorem qIt {row c : Nat} (hr : row < m) {inv : Nat} (hi : inv < p) {X : List Int} (hX : X.length = m * w) (hR : Rng p X) : ∃ Y, Upd w X row (fun j => fl w X row j * (inv : Int) % (p : Int)) w Y ∧
  Le (fun k => z134.l4 k (p : Int) (w : Int) q det (row : Int) (c : Int) 0 (p : Int) (m : Int) (w : Int) X0 (p : Int) (m : Int) (w : Int) Y) (fun k => z134.l3 k (p : Int) (w : Int) q det (row : Int) (c : Int) (inv : Int) 0 (p : Int) (m : Int) (w : Int) X0 (p : Int) (m : Int) (w : Int) X) := by
 have hp2 := qBr hp
 have main : ∀ (d j : Nat) (Y : List Int), j + d = w → Upd w X row (fun j => fl w X row j * (inv : Int) % (p : Int)) j Y → ∃ Y', Upd w X row (fun j => fl w X row j * (inv : Int) % (p : Int)) w Y' ∧
  Le (fun k => z134.l4 k (p : Int) (w : Int) q det (row : Int) (c : Int) 0 (p : Int) (m : Int) (w : Int) X0 (p : Int) (m : Int) (w : Int) Y') (fun k => z134.l3 k (p : Int) (w : Int) q det (row : Int) (c : Int) (inv : Int) (j : Int) (p : Int) (m : Int) (w : Int) X0 (p : Int) (m : Int) (w : Int) Y) := by
  intro d
  induction d with
  | zero =>
   intro j Y hj hY
   have : j = w := by omega
   subst this
   refine ⟨Y, hY, fun r hr => ?_⟩
   refine Ev.step (fun k => z134.l3.eq_2 ..) ?_
   exact qAs (by omega) hr
  | succ d ih =>
   intro j Y hj hY
   have hl := hY.len
   have h1 := qCt hr (show j < w by omega)
   have hv : fl w Y row j = fl w X row j := by rw [hY.at_ row j (by omega), if_neg (by omega)]
   have hx : 0 ≤ fl w X row j ∧ fl w X row j < (p : Int) := qDh hR (by omega)
   have hb : 0 ≤ fl w X row j * (inv : Int) ∧ fl w X row j * (inv : Int) ≤ 250 * 250 := ⟨Int.mul_nonneg hx.1 (by omega), Int.mul_le_mul (by omega) (by omega) (by omega) (by decide)⟩
   obtain ⟨Y', h3, h4⟩ := ih (j + 1) _ (by omega) (hY.next (by omega) (by omega) (x := fl w X row j * (inv : Int) % (p : Int)) rfl)
   refine ⟨Y', h3, fun r hr => ?_⟩
   have := h4 r hr
   have e2 := ix (i := row) (w := w) (j := j) (by omega) hw (by omega)
   refine Ev.step (fun k => z134.l3.eq_2 ..) ?_
   rw [e2, rdfl, hv]
   clear e2
   refine qAi (by omega) (qAi (by omega) (qAi (by omega) (qAs (by omega) ?_)))
   rw [qAv (by omega), Int.toNat_natCast, qAy (by omega) (by omega), qCn (by omega)]; exact this
 exact main w 0 X (by omega) (Upd.start w X row _)
theorem qJl {row c i : Nat} (hr : row < m) (hi : i < m) (hne : i ≠ row) {f : Int} (hf : 0 ≤ f ∧ f < (p : Int)) {X : List Int} (hX : X.length = m * w) (hR : ∀ i j, i < m → j < w → 0 ≤ fl w X i j ∧ fl w X i j < (p : Int)) : ∃ Y, Upd w X i (fun j => (fl w X i j - f * fl w X row j) % (p : Int)) w Y ∧
  Le (fun k => z134.l4 k (p : Int) (w : Int) q det (row : Int) (c : Int) ((i + 1 : Nat) : Int) (p : Int) (m : Int) (w : Int) X0 (p : Int) (m : Int) (w : Int) Y) (fun k => z134.l5 k (p : Int) (w : Int) q det (row : Int) (c : Int) (i : Int) f 0 (p : Int) (m : Int) (w : Int) X0 (p : Int) (m : Int) (w : Int) X) := by
 have hp2 := qBr hp
 have main : ∀ (d j : Nat) (Y : List Int), j + d = w → Upd w X i (fun j => (fl w X i j - f * fl w X row j) % (p : Int)) j Y → ∃ Y', Upd w X i (fun j => (fl w X i j - f * fl w X row j) % (p : Int)) w Y' ∧
  Le (fun k => z134.l4 k (p : Int) (w : Int) q det (row : Int) (c : Int) ((i + 1 : Nat) : Int) (p : Int) (m : Int) (w : Int) X0 (p : Int) (m : Int) (w : Int) Y') (fun k => z134.l5 k (p : Int) (w : Int) q det (row : Int) (c : Int) (i : Int) f (j : Int) (p : Int) (m : Int) (w : Int) X0 (p : Int) (m : Int) (w : Int) Y) := by
  intro d
  induction d with
  | zero =>
   intro j Y hj hY
   have : j = w := by omega
   subst this
   refine ⟨Y, hY, fun r hr => ?_⟩
   refine Ev.step (fun k => z134.l5.eq_2 ..) ?_
   refine qAs (by omega) ?_
   rw [qAv (by omega)]; exact hr
  | succ d ih =>
   intro j Y hj hY
   have hl := hY.len
   have h1 := qCt hr (show j < w by omega)
   have h2 := qCt hi (show j < w by omega)
   have hv : fl w Y i j = fl w X i j := by rw [hY.at_ i j (by omega), if_neg (by omega)]
   have hv2 : fl w Y row j = fl w X row j := by rw [hY.at_ row j (by omega), if_neg (by omega)]
   have hx := hR i j hi (by omega)
   have hx2 := hR row j hr (by omega)
   have hb : 0 ≤ f * fl w X row j ∧ f * fl w X row j ≤ 250 * 250 := ⟨Int.mul_nonneg hf.1 hx2.1, Int.mul_le_mul (by omega) (by omega) hx2.1 (by decide)⟩
   obtain ⟨Y', h3, h4⟩ := ih (j + 1) _ (by omega) (hY.next (by omega) (by omega) (x := (fl w X i j - f * fl w X row j) % (p : Int)) rfl)
   refine ⟨Y', h3, fun r hr => ?_⟩
   have := h4 r hr
   have hmv := qI6 (p := p) hp2.1 hp2.2 (a := fl w X i j - f * fl w X row j) (by omega) (by omega)
   have b1 : -9223372036854775808 ≤ f * fl w X row j := by omega
   have b2 : f * fl w X row j ≤ 9223372036854775807 := by omega
   have b3 : -9223372036854775808 ≤ fl w X i j - f * fl w X row j := by omega
   have b4 : fl w X i j - f * fl w X row j ≤ 9223372036854775807 := by omega
   obtain ⟨e1, e2⟩ := And.intro (ix (i := i) (w := w) (j := j) (by omega) hw (by omega)) (ix (i := row) (w := w) (j := j) (by omega) hw (by omega))
   have e3 : wrap64 (fl w X i j - wrap64 (f * fl w X row j)) = fl w X i j - f * fl w X row j := by rw [qAy b1 b2, qAy b3 b4]
   refine Ev.step (fun k => z134.l5.eq_2 ..) ?_
   rw [e1, e2, rdfl, rdfl, hv, hv2, e3]
   clear e1 e2 e3
   refine qAi (by omega) (qAi (by omega) (qAi (by omega) (qAi (by omega) (qAi (by omega) (Ev.bind (qA6 hmv) ?_)))))
   rw [qAv (by omega), Int.toNat_natCast]; exact this
 exact main w 0 X (by omega) (Upd.start w X i _)
omit hp hw hm in
def cl (p w row c : Nat) (X : List Int) (i j : Nat) : Int := if i = row ∨ fl w X i c = 0 then fl w X i j else (fl w X i j - fl w X i c * fl w X row j) % (p : Int)
omit hp hw hm in
theorem qJm {row c : Nat} (hp0 : 0 < p) {X : List Int} (hR : ∀ i j, i < m → j < w → 0 ≤ fl w X i j ∧ fl w X i j < (p : Int)) {i j : Nat} (hi : i < m) (hj : j < w) : 0 ≤ cl p w row c X i j ∧ cl p w row c X i j < (p : Int) := by
 unfold cl
 split
 ·exact hR i j hi hj
 ·exact ⟨Int.emod_nonneg _ (by omega), Int.emod_lt_of_pos _ (by omega)⟩
theorem qGt {row c : Nat} (hr : row < m) (hc : c < w) (hq : q.length ≤ 1048576) {X : List Int} (hX : X.length = m * w) (hR : ∀ i j, i < m → j < w → 0 ≤ fl w X i j ∧ fl w X i j < (p : Int)) : ∃ Y : List Int, Y.length = X.length ∧ (∀ i j, i < m → j < w → fl w Y i j = cl p w row c X i j) ∧
  Le (fun k => z134.l0 k (p : Int) (w : Int) (q ++ [(c : Int)]) det ((row + 1 : Nat) : Int) ((c + 1 : Nat) : Int) (p : Int) (m : Int) (w : Int) X0 (p : Int) (m : Int) (w : Int) Y) (fun k => z134.l4 k (p : Int) (w : Int) q det (row : Int) (c : Int) 0 (p : Int) (m : Int) (w : Int) X0 (p : Int) (m : Int) (w : Int) X) := by
 have hp2 := qBr hp
 have main : ∀ (d i : Nat) (Y : List Int), i + d = m → Y.length = X.length → (∀ i' j, i' < m → j < w → fl w Y i' j = if i' < i then cl p w row c X i' j else fl w X i' j) → ∃ Y' : List Int, Y'.length = X.length ∧ (∀ i j, i < m → j < w → fl w Y' i j = cl p w row c X i j) ∧
  Le (fun k => z134.l0 k (p : Int) (w : Int) (q ++ [(c : Int)]) det ((row + 1 : Nat) : Int) ((c + 1 : Nat) : Int) (p : Int) (m : Int) (w : Int) X0 (p : Int) (m : Int) (w : Int) Y') (fun k => z134.l4 k (p : Int) (w : Int) q det (row : Int) (c : Int) (i : Int) (p : Int) (m : Int) (w : Int) X0 (p : Int) (m : Int) (w : Int) Y) := by
  intro d
  induction d with
  | zero =>
   intro i Y hi hl hY
   have : i = m := by omega
   subst this
   refine ⟨Y, hl, fun i' j hi' hj => by rw [hY i' j hi' hj, if_pos hi'], fun r hr' => ?_⟩
   refine Ev.step (fun k => z134.l4.eq_2 ..) ?_
   refine qAs (by omega) (qAi (by omega) ?_)
   rw [qAv (by omega), qAv (by omega)]; exact hr'
  | succ d ih =>
   intro i Y hi hl hY
   have him : i < m := by omega
   have h1 := qCt him hc
   have e := ix (i := i) (w := w) (j := c) (by omega) hw (by omega)
   have hic : fl w Y i c = fl w X i c := by rw [hY i c him hc, if_neg (by omega)]
   by_cases h : i = row ∨ fl w X i c = 0
   ·obtain ⟨Y', a1, a2, a3⟩ := ih (i + 1) Y (by omega) hl (fun i' j hi' hj => by
     rw [hY i' j hi' hj]
     by_cases hlt : i' < i
     ·rw [if_pos hlt, if_pos (by omega)]
     ·rw [if_neg hlt]
      by_cases he : i' = i
      ·rw [if_pos (by omega), he]; unfold cl; rw [if_pos h]
      ·rw [if_neg (by omega)])
    refine ⟨Y', a1, a2, fun r hr' => ?_⟩
    have hn := a3 r hr'
    have hj8 : Ev (fun k => z134.j8 k (p : Int) (w : Int) q det (row : Int) (c : Int) (i : Int) (fl w Y i c) true (p : Int) (m : Int) (w : Int) X0 (p : Int) (m : Int) (w : Int) Y) r := by
     refine Ev.step (fun k => z134.j8.eq_2 ..) ?_
     refine qAi rfl ?_
     rw [qAv (by omega)]; exact hn
    refine Ev.step (fun k => z134.l4.eq_2 ..) ?_
    rw [e, rdfl]
    clear e
    refine qAi (by omega) (qAi (by omega) (qAi (by omega) ?_))
    by_cases hir : i = row
    ·exact qAi (by omega) hj8
    ·have hz : (fl w Y i c == 0) = true := by rw [hic, h.resolve_left hir]; rfl
     rw [hz]
     exact qAs (by omega) hj8
   ·have hne : i ≠ row := fun he => h (.inl he)
    have hnz : fl w X i c ≠ 0 := fun he => h (.inr he)
    have hYR : ∀ i j, i < m → j < w → 0 ≤ fl w Y i j ∧ fl w Y i j < (p : Int) := fun i' j hi' hj => by
     rw [hY i' j hi' hj]
     split
     ·exact qJm (by omega) hR hi' hj
     ·exact hR i' j hi' hj
    obtain ⟨Z, hZ, hgo⟩ := qJl hp hw hm X0 q det (c := c) hr him hne (f := fl w Y i c) (hYR i c him hc) (by omega) hYR
    have hrow : ∀ j, j < w → fl w Y row j = fl w X row j := fun j hj => by
     rw [hY row j hr hj]
     split
     ·unfold cl; rw [if_pos (.inl rfl)]
     ·rfl
    obtain ⟨Y', a1, a2, a3⟩ := ih (i + 1) Z (by omega) (by rw [hZ.len, hl]) (fun i' j hi' hj => by
     rw [hZ.at_ i' j hj]
     by_cases he : i' = i
     ·rw [if_pos ⟨he, hj⟩, if_pos (by omega), he]
      unfold cl
      rw [if_neg h, hic, hrow j hj, hY i j him hj, if_neg (by omega)]
     ·rw [if_neg (fun hh => he hh.1), hY i' j hi' hj]
      by_cases hlt : i' < i
      ·rw [if_pos hlt, if_pos (by omega)]
      ·rw [if_neg hlt, if_neg (by omega)])
    refine ⟨Y', a1, a2, fun r hr' => ?_⟩
    have hn := hgo r (a3 r hr')
    have hj8 : Ev (fun k => z134.j8 k (p : Int) (w : Int) q det (row : Int) (c : Int) (i : Int) (fl w Y i c) false (p : Int) (m : Int) (w : Int) X0 (p : Int) (m : Int) (w : Int) Y) r := by
     refine Ev.step (fun k => z134.j8.eq_2 ..) ?_
     exact qAs (by decide) hn
    refine Ev.step (fun k => z134.l4.eq_2 ..) ?_
    rw [e, rdfl]
    clear e
    have hz : (fl w Y i c == 0) = false := by rw [hic]; simpa using hnz
    rw [hz]
    exact qAi (by omega) (qAi (by omega) (qAi (by omega) (qAs (by omega) hj8)))
 exact main m 0 X (by omega) rfl (fun i' j hi' hj => by rw [if_neg (by omega)])
end
theorem qJh {p w m : Nat} {X : List Int} (hX : X.length = m * w) : Rng p X ↔ ∀ i j, i < m → j < w → 0 ≤ fl w X i j ∧ fl w X i j < (p : Int) := by
 constructor
 ·intro h i j hi hj
  have := qCt hi hj
  exact qDh h (by omega)
 ·intro h y hy
  obtain ⟨k, hk, rfl⟩ := List.getElem_of_mem hy
  have hw : 0 < w := by
   rcases Nat.eq_zero_or_pos w with h0 | h0
   ·rw [h0, Nat.mul_zero] at hX; omega
   ·exact h0
  have h1 : k / w < m := (Nat.div_lt_iff_lt_mul hw).2 (by omega)
  have h2 := h (k / w) (k % w) h1 (Nat.mod_lt _ hw)
  unfold fl at h2
  rw [Nat.mul_comm, Nat.div_add_mod] at h2
  rwa [List.getD_eq_getElem?_getD, List.getElem?_eq_getElem hk, Option.getD_some] at h2
theorem qHs {p w m : Nat} (hp : isP p = true) (hw : w ≤ 1024) (hm : m ≤ 1024) (X0 : List Int) {L : List (List Int)} (hL : L.length = m) {c : Nat} (hc : c < w) {X : List Int} {q : List Int} (h : FlInv (p : Int) w m L c X q) (hq : q.length ≤ c) (hqm : q.length < m) (hne : fl w X q.length c ≠ 0) (det : Int) :
  ∃ Y det', FlInv (p : Int) w m L (c + 1) Y (q ++ [(c : Int)]) ∧
  Le (fun k => z134.l0 k (p : Int) (w : Int) (q ++ [(c : Int)]) det' ((q.length + 1 : Nat) : Int) ((c + 1 : Nat) : Int) (p : Int) (m : Int) (w : Int) X0 (p : Int) (m : Int) (w : Int) Y) (fun k => z134.j5 k (p : Int) (w : Int) q det (q.length : Int) (c : Int) (p : Int) (m : Int) (w : Int) X0 (p : Int) (m : Int) (w : Int) X) := by
 have h2 := qBr hp
 have hR : ∀ i j, i < m → j < w → 0 ≤ fl w X i j ∧ fl w X i j < (p : Int) := fun i j hi hj => ⟨h.el.ge i j hi hj, h.el.lt i j hi hj⟩
 have hRx := (qJh (p := p) h.len).2 hR
 obtain ⟨a, ha⟩ := Int.eq_ofNat_of_zero_le (hR q.length c hqm hc).1
 have hap : a < p := by have := (hR q.length c hqm hc).2; omega
 have hinv := qFd hp hap
 have hcong := qHd hp hap (by omega)
 have hbp : a ^ (p - 2) % p < p := Nat.mod_lt _ (by omega)
 generalize hbe : a ^ (p - 2) % p = b at hinv hcong hbp
 obtain ⟨Y, hY, hgo1⟩ := qIt hp hw hm X0 q (Int.tmod (wrap64 (det * (a : Int))) (p : Int)) (c := c) hqm hbp h.len hRx
 have hYR : ∀ i j, i < m → j < w → 0 ≤ fl w Y i j ∧ fl w Y i j < (p : Int) := fun i j hi hj => by
  rw [hY.at_ i j hj]
  split
  ·exact ⟨Int.emod_nonneg _ (by omega), Int.emod_lt_of_pos _ (by omega)⟩
  ·exact hR i j hi hj
 obtain ⟨Z, hZl, hZ, hgo2⟩ := qGt hp hw hm X0 q (Int.tmod (wrap64 (det * (a : Int))) (p : Int)) hqm hc (by omega) (by rw [hY.len]; exact h.len) hYR
 have hqs : ∀ i, i < q.length → ((q ++ [(c : Int)]).getD i 0) = q.getD i 0 := fun i hi => by
  rw [List.getD_eq_getElem?_getD, List.getElem?_append_left hi, List.getD_eq_getElem?_getD]
 have hYrow : ∀ j, j < w → fl w Y q.length j = fl w X q.length j * (b : Int) % (p : Int) := fun j hj => by rw [hY.at_ _ j hj, if_pos ⟨rfl, hj⟩]
 have hYoth : ∀ i j, j < w → i ≠ q.length → fl w Y i j = fl w X i j := fun i j hj hi => by rw [hY.at_ _ j hj, if_neg (fun hh => hi hh.1)]
 have hZrow : ∀ j, j < w → fl w Z q.length j = fl w Y q.length j := fun j hj => by rw [hZ _ j hqm hj]; unfold cl; rw [if_pos (.inl rfl)]
 refine ⟨Z, Int.tmod (wrap64 (det * (a : Int))) (p : Int), ⟨by rw [hZl, hY.len, h.len], fun x hx => ?_, ?_⟩, fun r hr => ?_⟩
 ·rcases List.mem_append.1 hx with h1 | h1
  ·exact h.pos x h1
  ·rw [List.mem_singleton.1 h1]; omega
 ·rw [List.length_append]
  refine h.el.step hc hqm (b := (b : Int)) (by rw [ha]; exact hcong) (fun j hj => ?_) (fun i j hi hni hj => ?_) (fun i hi => by rw [hqs i hi]) (by simp) (fun i j hi hj => ?_) (fun i j hi hj => ?_)
  ·rw [hZrow j hj, hYrow j hj, Int.mul_comm]
   have := Int.dvd_neg.2 (Int.dvd_self_sub_emod (x := (b : Int) * fl w X q.length j) (m := (p : Int)))
   rwa [Int.neg_sub] at this
  ·rw [hZ i j hi hj, hZrow j hj]
   unfold cl
   by_cases hz : fl w X i c = 0
   ·rw [if_pos (.inr (by rw [hYoth i c hc hni]; exact hz)), hYoth i j hj hni, hz, Int.zero_mul]; simp
   ·rw [if_neg (fun hh => by rcases hh with hh | hh; exact hni hh; rw [hYoth i c hc hni] at hh; exact hz hh), hYoth i j hj hni, hYoth i c hc hni]
    have := Int.dvd_neg.2 (Int.dvd_self_sub_emod (x := fl w X i j - fl w X i c * fl w Y q.length j) (m := (p : Int)))
    rwa [Int.neg_sub] at this
  ·rw [hZ i j hi hj]; exact (qJm (by omega) hYR hi hj).1
  ·rw [hZ i j hi hj]; exact (qJm (by omega) hYR hi hj).2
 ·have hn := hgo1 r (hgo2 r hr)
  have hlt := qCt hqm hc
  have hl := h.len
  have e := ix (i := q.length) (w := w) (j := c) (by omega) hw (by omega)
  refine Ev.step (fun k => z134.j5.eq_2 ..) ?_
  rw [e, rdfl, ha]
  clear e
  exact qAi (by omega) (qAi (by omega) (qAs (by omega) (Ev.bind hinv hn)))
theorem qIy {p w m : Nat} (hp : isP p = true) (hw : w ≤ 1024) (hm : m ≤ 1024) {X : List Int} (hX : X.length = m * w) (hR : Rng p X) {L : List (List Int)} (hL : L.length = m) (hLX : ∀ i j, i < m → j < w → rw' L i j = fl w X i j) :
  ∃ Y q det, Ev (fun k => z134.f k (p : Int) (m : Int) (w : Int) X) ((p : Int), (m : Int), (w : Int), Y, q, det) ∧ FlInv (p : Int) w m L w Y q := by
 have h2 := qBr hp
 have hmw : m * w ≤ 1024 * 1024 := Nat.mul_le_mul hm hw
 have stop : ∀ (c : Nat) (Y q : List Int) (det : Int), Ev (fun k => z134.j1 k (p : Int) (w : Int) q det (q.length : Int) (c : Int) false (p : Int) (m : Int) (w : Int) X (p : Int) (m : Int) (w : Int) Y) ((p : Int), (m : Int), (w : Int), Y, q, det) := fun c Y q det => by
  refine Ev.step (fun k => z134.j1.eq_2 ..) ?_
  exact qAs (by decide) (Ev.now _)
 have main : ∀ (d c : Nat) (Y : List Int) (q : List Int) (det : Int), c + d = w → q.length ≤ c → FlInv (p : Int) w m L c Y q →
   ∃ Y' q' det', Ev (fun k => z134.l0 k (p : Int) (w : Int) q det (q.length : Int) (c : Int) (p : Int) (m : Int) (w : Int) X (p : Int) (m : Int) (w : Int) Y) ((p : Int), (m : Int), (w : Int), Y', q', det') ∧ FlInv (p : Int) w m L w Y' q' := by
  intro d
  induction d with
  | zero =>
   intro c Y q det hc hq h
   have : c = w := by omega
   subst this
   refine ⟨Y, q, det, ?_, h⟩
   refine Ev.step (fun k => z134.l0.eq_2 ..) ?_
   exact qAs (by omega) (stop _ _ _ _)
  | succ d ih =>
   intro c Y q det hc hq h
   have hrm := h.el.g.rm
   rcases Nat.lt_or_ge q.length m with hlt | hge
   ·obtain ⟨t, ht1, ht2, htd, hgo⟩ := qJ9 hw hm X q det (row := q.length) (c := c) (by omega) (by omega) h.len
    have hstart : ∀ r, Ev (fun k => z134.j3 k (p : Int) (w : Int) q det (q.length : Int) (c : Int) (t : Int) (p : Int) (m : Int) (w : Int) X (p : Int) (m : Int) (w : Int) Y) r →
      Ev (fun k => z134.l0 k (p : Int) (w : Int) q det (q.length : Int) (c : Int) (p : Int) (m : Int) (w : Int) X (p : Int) (m : Int) (w : Int) Y) r := fun r hr => by
     have hdec : decide ((q.length : Int) < (m : Int)) = true := decide_eq_true (by omega)
     refine Ev.step (fun k => z134.l0.eq_2 ..) ?_
     refine qAi (by omega) ?_
     rw [hdec]
     refine Ev.step (fun k => z134.j1.eq_2 ..) ?_
     exact qAi rfl (hgo r hr)
    rcases htd with ⟨e, hz⟩ | ⟨htm, hne⟩
    ·obtain ⟨Y', q', det', h3, h4⟩ := ih (c + 1) Y q det (by omega) (by omega) ⟨h.len, h.pos, h.el.none hz⟩
     refine ⟨Y', q', det', hstart _ ?_, h4⟩
     refine Ev.step (fun k => z134.j3.eq_2 ..) ?_
     refine qAi (by omega) ?_
     rw [qAv (by omega)]; exact h3
    ·rcases Nat.eq_or_lt_of_le ht1 with e | hlt2
     ·rw [← e] at hne
      obtain ⟨Y1, det1, hst, hgo1⟩ := qHs hp hw hm X hL (by omega) h hq hlt hne det
      obtain ⟨Y', q', det', h3, h4⟩ := ih (c + 1) Y1 (q ++ [(c : Int)]) det1 (by omega) (by simp; omega) hst
      refine ⟨Y', q', det', hstart _ ?_, h4⟩
      refine Ev.step (fun k => z134.j3.eq_2 ..) ?_
      refine qAs (by omega) (qAi (by omega) (hgo1 _ ?_))
      rw [List.length_append] at h3
      exact h3
     ·obtain ⟨Y1, hsw, hgo1⟩ := qJ0 hw hm X q (wrap64 ((p : Int) - det)) (c := c) hlt htm (by omega) h.len
      have hs : FlInv (p : Int) w m L c Y1 q := by
       refine ⟨by rw [hsw.len, h.len], h.pos, ?_⟩
       refine h.el.swap' (a := t) (by omega) (by omega) htm (fun j hj => ?_) (fun j hj => ?_) (fun i j hi h1 h3 hj => ?_)
       ·rw [hsw.at_ _ j hj, if_pos hj, if_pos rfl]
       ·rw [hsw.at_ _ j hj, if_pos hj, if_neg (by omega), if_pos rfl]
       ·rw [hsw.at_ _ j hj, if_pos hj, if_neg h1, if_neg h3]
      have hne' : fl w Y1 q.length c ≠ 0 := by rw [hsw.at_ _ c (by omega), if_pos (by omega), if_pos rfl]; exact hne
      obtain ⟨Y2, det1, hst, hgo2⟩ := qHs hp hw hm X hL (by omega) hs hq hlt hne' (wrap64 ((p : Int) - det))
      obtain ⟨Y', q', det', h3, h4⟩ := ih (c + 1) Y2 (q ++ [(c : Int)]) det1 (by omega) (by simp; omega) hst
      refine ⟨Y', q', det', hstart _ ?_, h4⟩
      rw [List.length_append] at h3
      have h5 := hgo1 _ (hgo2 _ h3)
      have g1 : ¬ ((t : Int) = (m : Int)) := by omega
      have g2 : ¬ ((t : Int) = (q.length : Int)) := by omega
      refine Ev.step (fun k => z134.j3.eq_2 ..) ?_
      exact qAs g1 (qAs g2 h5)
   ·refine ⟨Y, q, det, ?_, h.len, h.pos, h.el.full (by omega) (by omega)⟩
    have hdec : decide ((q.length : Int) < (m : Int)) = false := decide_eq_false (by omega)
    refine Ev.step (fun k => z134.l0.eq_2 ..) ?_
    refine qAi (by omega) ?_
    rw [hdec]
    exact stop _ _ _ _
 have hfl := (qJh (p := p) hX).1 hR
 obtain ⟨Y', q', det', h3, h4⟩ := main w 0 X [] 1 (by omega) (by simp) ⟨hX, fun x hx => by simp at hx, (El.start (R := fl w X) (fun i j hi hj => (hfl i j hi hj).1) (fun i j hi hj => (hfl i j hi hj).2) _).congr0 fun i j hi hj => hLX i j hi hj⟩
 refine ⟨Y', q', det', ?_, h4⟩
 unfold z134.f
 have hown : z111.f X = some X := by
  unfold z111.f
  show (if (([] : List Int)).length + X.length < 17592186044416 then some ([] ++ X) else none) = some X
  rw [if_pos (by simp; omega)]; rfl
 exact Ev.bind (qA6 hown) h3
end Go.Proofs.Ytabfflgoaalapaa.B
set_option linter.unusedVariables false
set_option linter.unusedSimpArgs false
namespace Go.Proofs.Ytabfflgoaalapaa.B
open Go.RowKit Go.Proofs.YtabfflgoaalapaaW.PrintWords
open LinT
def okP (p : Int) : Bool := (decide (2 ≤ p) && decide (p ≤ 251)) && isP p.toNat
theorem qJc {n : Nat} (h0 : 2 ≤ n) (h1 : n ≤ 251) : isP n = true ↔ ∀ d, 2 ≤ d → d < 16 → n < d * d ∨ n % d ≠ 0 := by
 unfold isP
 rw [Bool.and_eq_true, Bool.and_eq_true, decide_eq_true_iff, decide_eq_true_iff, List.all_eq_true]
 constructor
 ·rintro ⟨_, h⟩ d hd hd2
  have := h d (List.mem_range.2 hd2)
  rw [Bool.or_eq_true, Bool.or_eq_true, decide_eq_true_iff, decide_eq_true_iff, decide_eq_true_iff] at this
  rcases this with (h3 | h3) | h3
  ·omega
  ·exact .inl h3
  ·exact .inr h3
 ·intro h
  refine ⟨⟨h0, h1⟩, fun d hd => ?_⟩
  rw [Bool.or_eq_true, Bool.or_eq_true, decide_eq_true_iff, decide_eq_true_iff, decide_eq_true_iff]
  by_cases h2 : d < 2
  ·exact .inl (.inl h2)
  ·rcases h d (by omega) (List.mem_range.1 hd) with h3 | h3
   ·exact .inl (.inr h3)
   ·exact .inr h3
theorem qDb {n : Nat} (h0 : 2 ≤ n) (h1 : n ≤ 251) : ∀ (e d : Nat), d + e = 16 → 2 ≤ d → ∃ b, Ev (fun k => z87.l0 k (n : Int) (d : Int)) b ∧ (b = true ↔ ∀ d', d ≤ d' → d' < 16 → n < d' * d' ∨ n % d' ≠ 0) := by
 intro e
 induction e with
 | zero =>
  intro d hd h2
  have : d = 16 := by omega
  subst this
  refine ⟨true, ?_, by simp; omega⟩
  refine Ev.step (fun k => z87.l0.eq_2 ..) ?_
  rw [← Int.natCast_mul, qAy (by omega) (by omega)]
  exact qAs (by omega) (Ev.now _)
 | succ e ih =>
  intro d hd h2
  have hdd : d * d ≤ 16 * 16 := Nat.mul_le_mul (by omega) (by omega)
  have hw : wrap64 ((d : Int) * (d : Int)) = ((d * d : Nat) : Int) := by rw [← Int.natCast_mul, qAy (by omega) (by omega)]
  have hm : Int.tmod (n : Int) (d : Int) = ((n % d : Nat) : Int) := by rw [Int.tmod_eq_emod_of_nonneg (by omega)]; simp
  by_cases hl : n < d * d
  ·refine ⟨true, ?_, ?_⟩
   ·refine Ev.step (fun k => z87.l0.eq_2 ..) ?_
    rw [hw]
    exact qAs (by omega) (Ev.now _)
   ·simp only [true_iff]
    intro d' h3 _
    have := Nat.mul_le_mul h3 h3
    left; omega
  ·by_cases hz : n % d = 0
   ·refine ⟨false, ?_, ?_⟩
    ·refine Ev.step (fun k => z87.l0.eq_2 ..) ?_
     rw [hw, hm]
     exact qAi (by omega) (qAs (by omega) (qAi (by omega) (Ev.now _)))
    ·simp only [Bool.false_eq_true, false_iff]
     intro h
     rcases h d (Nat.le_refl _) (by omega) with h3 | h3
     ·exact hl h3
     ·exact h3 hz
   ·obtain ⟨b, hb, hi⟩ := ih (d + 1) (by omega) (by omega)
    refine ⟨b, ?_, hi.trans ⟨fun h d' h3 h4 => ?_, fun h d' h3 h4 => h d' (by omega) h4⟩⟩
    ·refine Ev.step (fun k => z87.l0.eq_2 ..) ?_
     rw [hw, hm]
     refine qAi (by omega) (qAs (by omega) (qAs (by omega) ?_))
     rw [qAv (by omega)]; exact hb
    ·rcases Nat.lt_or_ge d d' with h5 | h5
     ·exact h d' (by omega) h4
     ·have : d' = d := by omega
      subst this; exact .inr hz
theorem qDo {n : Nat} (h0 : 2 ≤ n) (h1 : n ≤ 251) : ∀ (e d : Nat), d + e = 16 → 2 ≤ d → ∃ b, Ev (fun k => z77.l0 k (n : Int) (d : Int)) b ∧ (b = true ↔ ∀ d', d ≤ d' → d' < 16 → n < d' * d' ∨ n % d' ≠ 0) := by
 intro e
 induction e with
 | zero =>
  intro d hd h2
  have : d = 16 := by omega
  subst this
  refine ⟨true, ?_, by simp; omega⟩
  refine Ev.step (fun k => z77.l0.eq_2 ..) ?_
  rw [← Int.natCast_mul, qAy (by omega) (by omega)]
  exact qAs (by omega) (Ev.now _)
 | succ e ih =>
  intro d hd h2
  have hdd : d * d ≤ 16 * 16 := Nat.mul_le_mul (by omega) (by omega)
  have hw : wrap64 ((d : Int) * (d : Int)) = ((d * d : Nat) : Int) := by rw [← Int.natCast_mul, qAy (by omega) (by omega)]
  have hm : Int.tmod (n : Int) (d : Int) = ((n % d : Nat) : Int) := by rw [Int.tmod_eq_emod_of_nonneg (by omega)]; simp
  by_cases hl : n < d * d
  ·refine ⟨true, ?_, ?_⟩
   ·refine Ev.step (fun k => z77.l0.eq_2 ..) ?_
    rw [hw]
    exact qAs (by omega) (Ev.now _)
   ·simp only [true_iff]
    intro d' h3 _
    have := Nat.mul_le_mul h3 h3
    left; omega
  ·by_cases hz : n % d = 0
   ·refine ⟨false, ?_, ?_⟩
    ·refine Ev.step (fun k => z77.l0.eq_2 ..) ?_
     rw [hw, hm]
     exact qAi (by omega) (qAs (by omega) (qAi (by omega) (Ev.now _)))
    ·simp only [Bool.false_eq_true, false_iff]
     intro h
     rcases h d (Nat.le_refl _) (by omega) with h3 | h3
     ·exact hl h3
     ·exact h3 hz
   ·obtain ⟨b, hb, hi⟩ := ih (d + 1) (by omega) (by omega)
    refine ⟨b, ?_, hi.trans ⟨fun h d' h3 h4 => ?_, fun h d' h3 h4 => h d' (by omega) h4⟩⟩
    ·refine Ev.step (fun k => z77.l0.eq_2 ..) ?_
     rw [hw, hm]
     refine qAi (by omega) (qAs (by omega) (qAs (by omega) ?_))
     rw [qAv (by omega)]; exact hb
    ·rcases Nat.lt_or_ge d d' with h5 | h5
     ·exact h d' (by omega) h4
     ·have : d' = d := by omega
      subst this; exact .inr hz
theorem qGm (p : Int) : Ev (fun k => z87.f k p) (okP p) := by
 unfold z87.f okP
 refine Ev.bind (qA6 (qD0 _ _ _)) ?_
 cases h : decide (2 ≤ p) && decide (p ≤ 251) with
 | false => exact qAs (by decide) (Ev.now _)
 | true =>
  rw [Bool.and_eq_true, decide_eq_true_iff, decide_eq_true_iff] at h
  obtain ⟨n, rfl⟩ := Int.eq_ofNat_of_zero_le (show 0 ≤ p by omega)
  obtain ⟨b, hb, hi⟩ := qDb (n := n) (by omega) (by omega) 14 2 (by omega) (by omega)
  refine qAi rfl (qBq hb ?_)
  rw [Bool.true_and, Int.toNat_natCast, Bool.eq_iff_iff, qJc (by omega) (by omega), hi]
theorem qFz (p : Int) : Ev (fun k => z77.f k p) (okP p) := by
 unfold z77.f okP
 refine Ev.bind (qA6 (qHv _ _ _)) ?_
 cases h : decide (2 ≤ p) && decide (p ≤ 251) with
 | false => exact qAs (by decide) (Ev.now _)
 | true =>
  rw [Bool.and_eq_true, decide_eq_true_iff, decide_eq_true_iff] at h
  obtain ⟨n, rfl⟩ := Int.eq_ofNat_of_zero_le (show 0 ≤ p by omega)
  obtain ⟨b, hb, hi⟩ := qDo (n := n) (by omega) (by omega) 14 2 (by omega) (by omega)
  refine qAi rfl (qBq hb ?_)
  rw [Bool.true_and, Int.toNat_natCast, Bool.eq_iff_iff, qJc (by omega) (by omega), hi]
theorem qG8 {p : Int} : okP p = true ↔ ∃ n : Nat, p = (n : Int) ∧ isP n = true := by
 unfold okP
 rw [Bool.and_eq_true, Bool.and_eq_true, decide_eq_true_iff, decide_eq_true_iff]
 constructor
 ·rintro ⟨⟨h0, h1⟩, h⟩
  exact ⟨p.toNat, by omega, h⟩
 ·rintro ⟨n, rfl, h⟩
  have := qBr h
  exact ⟨⟨by omega, by omega⟩, by rw [Int.toNat_natCast]; exact h⟩
end Go.Proofs.Ytabfflgoaalapaa.B
set_option linter.unusedVariables false
set_option linter.unusedSimpArgs false
namespace Go.Proofs.Ytabfflgoaalapaa.B
open Go.RowKit Go.Proofs.YtabfflgoaalapaaW.PrintWords
open LinT
def vecC (l : List Int) (n p : Int) : Bool := decide ((l.length : Int) = n) && l.all fun y => decide (0 ≤ y) && decide (y ≤ p - 1)
theorem qHm {l : List Int} {n p : Nat} : vecC l (n : Int) (p : Int) = true ↔ l.length = n ∧ Rng p l := by
 unfold vecC Rng
 rw [Bool.and_eq_true, decide_eq_true_iff, List.all_eq_true]
 constructor
 ·rintro ⟨h1, h2⟩
  refine ⟨by omega, fun y hy => ?_⟩
  have := h2 y hy
  rw [Bool.and_eq_true, decide_eq_true_iff, decide_eq_true_iff] at this
  omega
 ·rintro ⟨h1, h2⟩
  refine ⟨by omega, fun y hy => ?_⟩
  have := h2 y hy
  rw [Bool.and_eq_true, decide_eq_true_iff, decide_eq_true_iff]
  omega
theorem qDs {p : Nat} (hp : p ≤ 251) (a : Int) : Ev (fun k => z142.f a (p : Int)) (!(decide (0 ≤ a) && decide (a ≤ (p : Int) - 1))) := by
 unfold z142.f z143.f
 rw [qAy (by omega) (by omega)]
 exact Ev.bind (a := decide (0 ≤ a) && decide (a ≤ (p : Int) - 1)) (Ev.bind (qA6 (qD0 _ _ _)) (Ev.now _)) (Ev.now _)
theorem qF7 {p : Nat} (hq : p ≤ 251) (l : List Int) (hl : l.length ≤ 1048576) : Ev (fun k => z179.f k l (p : Int)) (l.any fun a => !(decide (0 ≤ a) && decide (a ≤ (p : Int) - 1))) := by
 obtain ⟨t, ht, hd⟩ := qCs (l) 0 (fun i k => z180.l0 k (l) ((l).length : Int) (i : Int) (p : Int)) (fun a => !(decide (0 ≤ a) && decide (a ≤ (p : Int) - 1))) (fun j hj hp r hr => by
   refine Ev.step (fun k => z180.l0.eq_2 ..) ?_
   refine qAi (by omega) (qAi (by omega) (qAi (by omega) ?_))
   rw [qBk, qAv (by omega)]
   exact Ev.bind (qDs hq _) (qAs (by rw [hp]; decide) hr)) (fun j hj hp => by
   refine Ev.step (fun k => z180.l0.eq_2 ..) ?_
   refine qAi (by omega) (qAi (by omega) (qAi (by omega) ?_))
   rw [qBk]
   exact Ev.bind (qDs hq _) (qAi hp (Ev.now _))) (by
   refine Ev.step (fun k => z180.l0.eq_2 ..) ?_
   exact qAs (by omega) (Ev.now _))
 unfold z179.f z180.f
 refine Ev.bind ht (qBq (Ev.now _) hd)
theorem qFf {p : Nat} (hp : p ≤ 251) (l : List Int) (hl : l.length ≤ 1048576) : Ev (fun k => z107.f k l (p : Int)) (l.all fun y => decide (0 ≤ y) && decide (y ≤ (p : Int) - 1)) := by
 unfold z107.f
 refine Ev.bind (qF7 hp l hl) (qBq (Ev.now _) ?_)
 rw [List.any_eq_not_all_not]; simp
theorem qHb {p : Nat} (hp : p ≤ 251) (l : List Int) (n : Int) (hl : l.length ≤ 1048576) : Ev (fun k => z59.f k l n (p : Int)) (vecC l n (p : Int)) := by
 unfold z59.f vecC
 refine Ev.bind (qA6 (r := (l.length : Int)) rfl) ?_
 by_cases h : (l.length : Int) = n
 ·refine qAi h (Ev.bind (qFf hp l hl) (qBq (Ev.now _) ?_))
  rw [decide_eq_true h, Bool.true_and]
 ·refine qBq (qAs h (Ev.now _)) ?_
  rw [decide_eq_false h, Bool.false_and]
end Go.Proofs.Ytabfflgoaalapaa.B
set_option linter.unusedVariables false
set_option linter.unusedSimpArgs false
namespace Go.Proofs.Ytabfflgoaalapaa.B
open Go.RowKit Go.Proofs.YtabfflgoaalapaaW.PrintWords
theorem qE7 (l m : List Int) (hl : l.length < 9223372036854775807) : Ev (fun k => z140.f k l m) (l == m) := by
 unfold z140.f
 by_cases h : l.length = m.length
 ·refine qAi (by omega) ?_
  rw [← qBz l m 0 h]
  refine qEu (fun (i : Nat) k => z140.l0 k l m (l.length : Int) (i : Int)) _ l.length (fun j hj hp r hr => ?_) (fun j hj hp => ?_) ?_
  ·refine Ev.step (fun k => z140.l0.eq_2 ..) ?_
   refine qAi (by omega) (qAi (by omega) (qAi (by omega) (qAi (by omega) (qAi ?_ ?_))))
   ·rw [qBk, qBk]; exact eq_of_beq hp
   ·rw [qAv (by omega)]; exact hr
  ·refine Ev.step (fun k => z140.l0.eq_2 ..) ?_
   refine qAi (by omega) (qAi (by omega) (qAi (by omega) (qAi (by omega) (qAs ?_ (Ev.now _)))))
   rw [qBk, qBk]; exact ne_of_beq_false hp
  ·refine Ev.step (fun k => z140.l0.eq_2 ..) ?_
   exact qAs (by omega) (Ev.now _)
 ·rw [qCe h]
  exact qAs (by omega) (Ev.now _)
theorem qIu (l m : List Int) (hl : l.length < 9223372036854775807) : Ev (fun k => z138.f k l m) (l == m) := by
 unfold z138.f
 by_cases h : l.length = m.length
 ·refine qAi (by omega) ?_
  rw [← qBz l m 0 h]
  refine qEu (fun (i : Nat) k => z138.l0 k l m (i : Int)) _ l.length (fun j hj hp r hr => ?_) (fun j hj hp => ?_) ?_
  ·refine Ev.step (fun k => z138.l0.eq_2 ..) ?_
   refine qAi (by omega) (qAi (by omega) (qAi (by omega) (qAi ?_ ?_)))
   ·rw [qBk, qBk]; exact eq_of_beq hp
   ·rw [qAv (by omega)]; exact hr
  ·refine Ev.step (fun k => z138.l0.eq_2 ..) ?_
   refine qAi (by omega) (qAi (by omega) (qAi (by omega) (qAs ?_ (Ev.now _))))
   rw [qBk, qBk]; exact ne_of_beq_false hp
  ·refine Ev.step (fun k => z138.l0.eq_2 ..) ?_
   exact qAs (by omega) (Ev.now _)
 ·rw [qCe h]
  exact qAs (by omega) (Ev.now _)
end Go.Proofs.Ytabfflgoaalapaa.B
set_option linter.unusedVariables false
set_option linter.unusedSimpArgs false
namespace Go.Proofs.Ytabfflgoaalapaa.B
open Go.RowKit Go.Proofs.YtabfflgoaalapaaW.PrintWords
theorem qIi (l m : List (List Int)) (hl : l.length < 9223372036854775807) (hr : ∀ x ∈ l, x.length < 9223372036854775807) : Ev (fun k => z105.f k l m) (l == m) := by
 unfold z105.f z183.f
 refine Ev.bind (a := (l == m)) ?_ (Ev.now _)
 by_cases h : l.length = m.length
 ·refine qAi (by omega) ?_
  rw [← qBz l m [] h]
  have hm : ∀ j, j < l.length → Ev (fun k => z140.f k (rI_ l (j : Int)) (rI_ m (j : Int))) (l.getD j [] == m.getD j []) := fun j hj => by
   rw [qBe, qBe]
   exact qE7 _ _ (hr _ (qBp [] hj))
  refine qEu (fun (i : Nat) k => z183.l0 k m l (l.length : Int) (i : Int)) _ l.length (fun j hj hp r hr => ?_) (fun j hj hp => ?_) ?_
  ·refine Ev.step (fun k => z183.l0.eq_2 ..) ?_
   refine qAi (by omega) (qAi (by omega) (qAi (by omega) (qAi (by omega) (Ev.bind (hm j hj) (qAi hp ?_)))))
   rw [qAv (by omega)]; exact hr
  ·refine Ev.step (fun k => z183.l0.eq_2 ..) ?_
   exact qAi (by omega) (qAi (by omega) (qAi (by omega) (qAi (by omega) (Ev.bind (hm j hj) (qAs (by rw [hp]; decide) (Ev.now _))))))
  ·refine Ev.step (fun k => z183.l0.eq_2 ..) ?_
   exact qAs (by omega) (Ev.now _)
 ·rw [qCe h]
  exact qAs (by omega) (Ev.now _)
end Go.Proofs.Ytabfflgoaalapaa.B
set_option linter.unusedVariables false
set_option linter.unusedSimpArgs false
namespace Go.Proofs.Ytabfflgoaalapaa.B
open Go.RowKit Go.Proofs.YtabfflgoaalapaaW.PrintWords
theorem qEi (l : List (List Int)) (k : Nat) (hk : k < l.length) : total (l.take (k + 1)) = total (l.take k) + (l.getD k []).length := by
 have ht : l.take (k + 1) = l.take k ++ [l.getD k []] := by
  rw [List.take_succ_eq_append_getElem hk, List.getD_eq_getElem?_getD, List.getElem?_eq_getElem hk]; rfl
 rw [ht, qBu]; simp [total]
theorem qDc (l : List (List Int)) (k : Nat) : total (l.take k) ≤ total l := by
 have h := qBu (l.take k) (l.drop k)
 rw [List.take_append_drop] at h
 have := qA7 (l.drop k)
 omega
theorem qCj : ∀ l : List (List Int), (l.flatten.length : Int) = total l
 | [] => rfl
 | x :: l => by rw [List.flatten_cons, List.length_append]; have := qCj l; simp only [total]; omega
theorem qDv (l : List (List Int)) (k : Nat) (hk : k < l.length) : (l.take (k + 1)).flatten = (l.take k).flatten ++ l.getD k [] := by
 have ht : l.take (k + 1) = l.take k ++ [l.getD k []] := by
  rw [List.take_succ_eq_append_getElem hk, List.getD_eq_getElem?_getD, List.getElem?_eq_getElem hk]; rfl
 rw [ht, List.flatten_append]; simp
theorem qJj (l : List (List Int)) (hl : l.length < 9223372036854775807) (ht : total l ≤ 17592186044415) : Ev (fun k => z158.f k l) l.flatten := by
 unfold z158.f
 -- the second loop
 have h1 : Ev (fun k => z158.l1 k ([] : List Int) l (l.length : Int) 0) l.flatten := by
  have := (qB1 (fun (s : List Int) (i : Nat) k => z158.l1 k s l (l.length : Int) (i : Int)) (fun i s => s ++ l.getD i []) (fun i s => s = (l.take i).flatten) l.length 0 [] (by simp) (by
   intro j s _ hj hs
   have hj' : j < l.length := by omega
   refine ⟨fun r hr => ?_, by rw [qDv l j hj', hs]⟩
   refine Ev.step (fun k => z158.l1.eq_2 ..) ?_
   rw [qBe, qAv (by omega)]
   have e1 := qEi l j hj'
   have e2 := qDc l (j + 1)
   have e3 := qCj (l.take j)
   rw [← hs] at e3
   exact qAi (by omega) (qAi (by omega) (qAi (by omega) (qAi (by omega) hr)))))
  refine this.1 _ ?_
  refine Ev.step (fun k => z158.l1.eq_2 ..) ?_
  refine qAs (by omega) (qBq (Ev.now _) ?_)
  rw [this.2, Nat.zero_add, List.take_length]
 have := (qB1 (fun (s : Int) (i : Nat) k => z158.l0 k l s l (l.length : Int) (i : Int)) (fun i s => s + (l.getD i []).length) (fun i s => s = total (l.take i)) l.length 0 0 (by simp [total]) (by
  intro j s _ hj hs
  have hj' : j < l.length := by omega
  have e1 := qEi l j hj'
  have e2 := qDc l (j + 1)
  have e3 := qA7 (l.take j)
  refine ⟨fun r hr => ?_, by rw [e1, hs]⟩
  refine Ev.step (fun k => z158.l0.eq_2 ..) ?_
  rw [qBe, qAv (by omega), qAy (x := s + ((l.getD j []).length : Int)) (by omega) (by omega)]
  exact qAi (by omega) (qAi (by omega) (qAi (by omega) (qAs (by omega) hr)))))
 refine this.1 _ ?_
 refine Ev.step (fun k => z158.l0.eq_2 ..) ?_
 have e4 : iter (fun i s => s + ((l.getD i []).length : Int)) 0 l.length 0 = total l := by
  rw [this.2, Nat.zero_add, List.take_length]
 rw [e4]
 have e5 := qA7 l
 refine qAs (by omega) (Ev.bind (a := []) (qA6 ?_) h1)
 unfold slices_Grow_int64_int64.f
 rw [if_pos ⟨⟨rfl, e5⟩, ht⟩]
end Go.Proofs.Ytabfflgoaalapaa.B
set_option linter.unusedVariables false
set_option linter.unusedSimpArgs false
namespace Go.Proofs.Ytabfflgoaalapaa.B
open Go.RowKit Go.Proofs.YtabfflgoaalapaaW.PrintWords
open LinT
theorem qKx (p : Int) {m n : Nat} {X : List Int} (hl : X.length = m * n) (hm : m ≤ 1024) (hn : n ≤ 1024) {i : Nat} (hi : i < m) : impl_Matrix_row.f p (m : Int) (n : Int) X (i : Int) = some ((X.drop (i * n)).take n) := by
 have hb : m * n ≤ 1024 * 1024 := Nat.mul_le_mul hm hn
 have h2 := Nat.mul_le_mul_right n (show i + 1 ≤ m by omega)
 have h1 : (i + 1) * n = i * n + n := by rw [Nat.add_mul, Nat.one_mul]
 unfold impl_Matrix_row.f
 have e1 : wrap64 ((i : Int) * (n : Int)) = ((i * n : Nat) : Int) := by rw [← Int.natCast_mul, qAy (by omega) (by omega)]
 have e2 : wrap64 (wrap64 ((i : Int) + 1) * (n : Int)) = ((i * n + n : Nat) : Int) := by
  rw [qAv (by omega), ← Int.natCast_mul, h1, qAy (by omega) (by omega)]
 rw [e1, e2, if_pos (by omega), Int.toNat_natCast, Int.toNat_natCast, List.drop_take]
 rw [show i * n + n - i * n = n by omega]
theorem qHo {m n : Nat} {X : List Int} (hl : X.length = m * n) {i : Nat} (hi : i < m) : ((X.drop (i * n)).take n).length = n := by
 have h2 := Nat.mul_le_mul_right n (show i + 1 ≤ m by omega)
 rw [Nat.add_mul, Nat.one_mul] at h2
 rw [List.length_take, List.length_drop]; omega
end Go.Proofs.Ytabfflgoaalapaa.B
set_option linter.unusedVariables false
set_option linter.unusedSimpArgs false
namespace Go.Proofs.Ytabfflgoaalapaa.B
open Go.RowKit Go.Proofs.YtabfflgoaalapaaW.PrintWords
open LinT
theorem qGs (l : List Int) (hl : l.length ≤ 1048576) : slices_Clone_int64_int64.f l = some l := by
 unfold slices_Clone_int64_int64.f
 simp
 omega
theorem qIv {p m n : Nat} {X : List Int} (hX : X.length = m * n) (hm : m ≤ 1024) (hn : n ≤ 1024) : Ev (fun k => z72.f k (p : Int) (m : Int) (n : Int) X) (unfl n m X) := by
 unfold z72.f
 refine qGo (fun s i k => z72.l0 k s (m : Int) (i : Int) (p : Int) (m : Int) (n : Int) X) (fun i => (X.drop (i * n)).take n) m (fun i s hi hs r hr => ?_) _ ?_
 ·have hsl : s.length = i := by rw [hs]; simp
  have hrl := qHo hX hi
  refine Ev.step (fun k => z72.l0.eq_2 ..) ?_
  refine qAi (by omega) (Ev.bind (qA6 (qKx _ hX hm hn hi)) (Ev.bind (qA6 (qGs _ (by omega))) (qAi (by omega) ?_)))
  rw [qAv (by omega)]; exact hr
 ·refine Ev.step (fun k => z72.l0.eq_2 ..) ?_
  exact qAs (by omega) (Ev.now _)
theorem qJd {α : Type} (z : α) (L : List α) {r i : Nat} (h : i < r) : (L.take r).getD i z = L.getD i z := by
 rw [List.getD_eq_getElem?_getD, List.getD_eq_getElem?_getD, List.getElem?_take_of_lt h]
theorem red_q {p : Int} {n : Nat} {L B : List (List Int)} {q : List Int} (h : Red p n L B q) {i : Nat} (hi : i < q.length) : 0 ≤ q.getD i 0 ∧ q.getD i 0 < (n : Int) := by
 have h1 := h.pos _ (qBp 0 hi)
 have h2 := h.rref.lt i (by rw [← h.len]; exact hi)
 exact ⟨h1, by omega⟩
end Go.Proofs.Ytabfflgoaalapaa.B
set_option linter.unusedVariables false
set_option linter.unusedSimpArgs false
namespace Go.Proofs.Ytabfflgoaalapaa.B
open Go.RowKit Go.Proofs.YtabfflgoaalapaaW.PrintWords
open LinT
noncomputable def redB (p : Int) (n : Nat) (L : List (List Int)) : List (List Int) := open Classical in if h : ∃ B q, Red p n L B q then Classical.choose h else []
theorem qIz {p : Int} {n : Nat} {L B : List (List Int)} {q : List Int} (hp : Pr p) (h : Red p n L B q) : redB p n L = B := by
 have hex : ∃ B q, Red p n L B q := ⟨B, q, h⟩
 unfold redB
 rw [dif_pos hex]
 obtain ⟨q', hq'⟩ := Classical.choose_spec hex
 exact (hq'.unique hp h (fun v => Iff.rfl)).1
theorem qEa (l : List (List Int)) (hl : l.length ≤ 1048576) (hr : ∀ x ∈ l, x.length ≤ 1048576) : Ev (fun k => z114.f k l) l := by
 unfold z114.f
 have e : l = (List.range l.length).map fun j => id (l.getD j []) := by
  have := qI8 ([] : List Int) id l
  rwa [List.map_id] at this
 refine qBq ?_ e.symm
 refine qGo (fun s i k => z114.l0 k s l (l.length : Int) (i : Int)) (fun j => id (l.getD j [])) l.length (fun j s hj hs r hr' => ?_) _ ?_
 ·have hsl : s.length = j := by rw [hs]; simp
  have := hr _ (qBp ([] : List Int) hj)
  refine Ev.step (fun k => z114.l0.eq_2 ..) ?_
  rw [qBe]
  refine qAi (by omega) (qAi (by omega) (qAi (by omega) (Ev.bind (qA6 (qGs _ this)) (qAi (by omega) ?_))))
  rw [qAv (by omega)]; exact hr'
 ·refine Ev.step (fun k => z114.l0.eq_2 ..) ?_
  exact qAs (by omega) (Ev.now _)
theorem qCd {p n : Nat} (hp : isP p = true) (hn : n ≤ 1024) {L : List (List Int)} (hm : L.length ≤ 1048576) (hL : Vs (p : Int) n L) :
  Ev (fun k => z90.f k (p : Int) (n : Int) L) ((p : Int), (n : Int), redB (p : Int) n L) ∧ ∃ q, Red (p : Int) n L (redB (p : Int) n L) q := by
 obtain ⟨R, q, det, hE, hst⟩ := qJi hp (n := n) (by omega) hm hL
 have hred := hst.red
 have he := qIz (qE9 hp) hred
 rw [he]
 refine ⟨?_, q, hred⟩
 have hRl := hst.len
 have hqm := hst.el.g.rm
 have hrow : ∀ x ∈ L, x.length ≤ 1048576 := fun x hx => by rw [(hL x hx).1]; omega
 unfold z90.f
 refine Ev.bind (qEa L hm hrow) (Ev.bind hE ?_)
 dsimp only
 refine qAi (by omega) (qAi (by omega) ?_)
 rw [Int.toNat_natCast]
 refine Ev.bind (qEa _ (by rw [List.length_take]; omega) (fun x hx => ?_)) (Ev.now _)
 rw [(hst.vs x (List.mem_of_mem_take hx)).1]; omega
theorem qHn {p n : Nat} {L : List (List Int)} (hm : L.length ≤ 1024) (hn : n ≤ 1024) (hL : ∀ x, x ∈ L → x.length = n) : Ev (fun k => z135.f k (p : Int) (n : Int) L) ((p : Int), (L.length : Int), (n : Int), L.flatten) := by
 unfold z135.f
 have main : ∀ (d i : Nat), i + d = L.length → Ev (fun k => z135.l0 k L (i : Int) (p : Int) (L.length : Int) (n : Int) (L.take i).flatten) ((p : Int), (L.length : Int), (n : Int), L.flatten) := by
  intro d
  induction d with
  | zero =>
   intro i hi
   have : i = L.length := by omega
   subst this
   rw [List.take_length]
   refine Ev.step (fun k => z135.l0.eq_2 ..) ?_
   exact qAs (by omega) (Ev.now _)
  | succ d ih =>
   intro i hi
   have h := ih (i + 1) (by omega)
   have hlen := hL _ (qBp ([] : List Int) (show i < L.length by omega))
   have hfl : (L.take i).flatten.length = i * n := by
    rw [qCh (w := n) _ (fun x hx => hL x (List.mem_of_mem_take hx)), List.length_take, Nat.min_eq_left (by omega)]
   have hb : i * n ≤ 1024 * 1024 := Nat.mul_le_mul (by omega) hn
   rw [qDv L i (by omega)] at h
   refine Ev.step (fun k => z135.l0.eq_2 ..) ?_
   rw [qBe]
   refine qAi (by omega) (qAi (by omega) (qAi (by omega) ?_))
   rw [qAv (by omega)]; exact h
 have := main L.length 0 (by omega)
 simpa using this
theorem qF5 {p n : Nat} (hp : isP p = true) (hn : n ≤ 1000) {L : List (List Int)} (hm : L.length ≤ 1000) (hL : Vs (p : Int) n L) :
  Ev (fun k => z104.f k (p : Int) (n : Int) L) (redB (p : Int) n L) ∧ ∃ q, Red (p : Int) n L (redB (p : Int) n L) q := by
 have hlen : ∀ x, x ∈ L → x.length = n := fun x hx => (hL x hx).1
 have hfl := qCh (w := n) L hlen
 obtain ⟨Y, q, det, hE, hst⟩ := qIy hp (w := n) (m := L.length) (X := L.flatten) (by omega) (by omega) hfl (fun y hy => by
  obtain ⟨x, hx, hy2⟩ := List.mem_flatten.1 hy
  exact (hL x hx).2 y hy2) (L := L) rfl (fun i j hi hj => (qFp _ hlen i j hi hj).symm)
 have hred := hst.red
 have he := qIz (qE9 hp) hred
 rw [he]
 refine ⟨?_, q, hred⟩
 have hqm := hst.el.g.rm
 have hYl := hst.len
 have hmn : L.length * n ≤ 1000 * 1000 := Nat.mul_le_mul hm hn
 unfold z104.f
 refine Ev.bind (qHn (by omega) (by omega) hlen) (Ev.bind hE ?_)
 refine qGo (fun s i k => z104.l0 k (n : Int) q s (i : Int) (p : Int) (L.length : Int) (n : Int) Y) (fun i => (Y.drop (i * n)).take n) q.length (fun i s hi hs r hr => ?_) _ ?_
 ·have hsl : s.length = i := by rw [hs]; simp
  have hrl := qHo hYl (show i < L.length by omega)
  have h2 := Nat.mul_le_mul_right n (show i + 1 ≤ L.length by omega)
  have h1 : (i + 1) * n = i * n + n := by rw [Nat.add_mul, Nat.one_mul]
  have hown : z111.f ((Y.drop (i * n)).take n) = some ((Y.drop (i * n)).take n) := by
   unfold z111.f
   show (if (([] : List Int)).length + ((Y.drop (i * n)).take n).length < 17592186044416 then some ([] ++ (Y.drop (i * n)).take n) else none) = _
   rw [if_pos (by rw [hrl]; simp; omega)]; rfl
  obtain ⟨e1, e2⟩ : wrap64 ((i : Int) * (n : Int)) = ((i * n : Nat) : Int) ∧ wrap64 (wrap64 ((i : Int) + 1) * (n : Int)) = ((i * n + n : Nat) : Int) :=
   ⟨by rw [← Int.natCast_mul, qAy (by omega) (by omega)], by rw [qAv (by omega), ← Int.natCast_mul, h1, qAy (by omega) (by omega)]⟩
  refine Ev.step (fun k => z104.l0.eq_2 ..) ?_
  rw [e1, e2, Int.toNat_natCast, Int.toNat_natCast]
  clear e1 e2
  have d1 : (Y.take (i * n + n)).drop (i * n) = (Y.drop (i * n)).take n := by rw [List.drop_take]; congr 1; omega
  rw [d1]
  refine qAi (by omega) (qAi (by omega) (qAi (by omega) (qAi (by omega) (Ev.bind (qA6 hown) (qAi (by omega) ?_)))))
  rw [qAv (by omega)]; exact hr
 ·refine Ev.step (fun k => z104.l0.eq_2 ..) ?_
  exact qAs (by omega) (Ev.now _)
theorem qD7 {p : Nat} (hq : p ≤ 251) (x : List Int) (n : Int) (hx : x.length ≤ 1048576) : Ev (fun k => z127.f k x n (p : Int)) (!vecC x n (p : Int)) := by
 unfold z127.f
 exact Ev.bind (qHb hq x n hx) (Ev.now _)
theorem qGv {p : Nat} (hq : p ≤ 251) (L : List (List Int)) (n : Int) (hl : L.length ≤ 1048576) (hx : ∀ x ∈ L, x.length ≤ 1048576) : Ev (fun k => z178.f k L n (p : Int)) (L.any fun x => !vecC x n (p : Int)) := by
 obtain ⟨t, ht, hd⟩ := qCs (L) [] (fun i k => z181.l0 k (L) ((L).length : Int) (i : Int) n (p : Int)) (fun x => !vecC x n (p : Int)) (fun j hj hp r hr => by
   refine Ev.step (fun k => z181.l0.eq_2 ..) ?_
   refine qAi (by omega) (qAi (by omega) (qAi (by omega) ?_))
   rw [qBe, qAv (by omega)]
   exact Ev.bind (qD7 hq _ n (hx _ (qBp ([] : List Int) hj))) (qAs (by rw [hp]; decide) hr)) (fun j hj hp => by
   refine Ev.step (fun k => z181.l0.eq_2 ..) ?_
   refine qAi (by omega) (qAi (by omega) (qAi (by omega) ?_))
   rw [qBe]
   exact Ev.bind (qD7 hq _ n (hx _ (qBp ([] : List Int) hj))) (qAi hp (Ev.now _))) (by
   refine Ev.step (fun k => z181.l0.eq_2 ..) ?_
   exact qAs (by omega) (Ev.now _))
 unfold z178.f z181.f
 refine Ev.bind ht (qBq (Ev.now _) hd)
theorem qF6 {p : Nat} (hq : p ≤ 251) (L : List (List Int)) (n : Int) (hl : L.length ≤ 1048576) (hx : ∀ x ∈ L, x.length ≤ 1048576) : Ev (fun k => z89.f k L n (p : Int)) (L.all fun x => vecC x n (p : Int)) := by
 unfold z89.f
 refine Ev.bind (qGv hq L n hl hx) (qBq (Ev.now _) ?_)
 rw [List.any_eq_not_all_not]; simp
theorem qFh {p : Nat} (hq : p ≤ 251) (x : List Int) {n : Nat} (hn : n ≤ 64) (hx : x.length ≤ 1048576) : Ev (fun k => z54.f k (p : Int) (n : Int) x) (vecC x (n : Int) (p : Int)) := by
 unfold z54.f z78.f vecC
 have hw : wrap64 ((p : Int) - 1) = (p : Int) - 1 := qAy (by omega) (by omega)
 have h := qHe (fun (i : Nat) k => z78.l0 k x (p : Int) (i : Int)) (fun i => decide (0 ≤ x.getD i 0) && decide (x.getD i 0 ≤ (p : Int) - 1)) (decide ((x.length : Int) ≤ 64)) x.length (fun j hj _ hp' r hr => by
  refine Ev.step (fun k => z78.l0.eq_2 ..) ?_
  rw [hw, qBk]
  clear hw
  refine qAi (by omega) (qAi (by omega) (Ev.bind (qA6 (qHv _ _ _)) (qAi hp' ?_)))
  rw [qAv (by omega)]; exact hr) (fun j hj _ hp' => by
  refine Ev.step (fun k => z78.l0.eq_2 ..) ?_
  rw [hw, qBk]
  clear hw
  exact qAi (by omega) (qAi (by omega) (Ev.bind (qA6 (qHv _ _ _)) (qAs (by rw [hp']; decide) (Ev.now _))))) (fun _ => by
  refine Ev.step (fun k => z78.l0.eq_2 ..) ?_
  clear hw
  exact qAs (by omega) (Ev.now _))
 clear hw
 rw [qEz x 0 (fun y => decide (0 ≤ y) && decide (y ≤ (p : Int) - 1))] at h
 refine Ev.bind h ?_
 cases ha : (x.all fun y => decide (0 ≤ y) && decide (y ≤ (p : Int) - 1)) with
 | false =>
  rw [Bool.false_and, Bool.and_false]
  exact qAs (by decide) (Ev.now _)
 | true =>
  rw [Bool.true_and, Bool.and_true]
  by_cases h64 : (x.length : Int) ≤ 64
  ·rw [decide_eq_true h64]
   exact qAi rfl (qBq (Ev.now _) (by rw [Bool.beq_eq_decide_eq]))
  ·rw [decide_eq_false h64, decide_eq_false (by omega)]
   exact qAs (by decide) (Ev.now _)
theorem qG0 {p : Nat} (hq : p ≤ 251) (L : List (List Int)) {n : Nat} (hn : n ≤ 64) (hl : L.length ≤ 1048576) (hx : ∀ x ∈ L, x.length ≤ 1048576) : Ev (fun k => z102.f k (p : Int) (n : Int) L) (L.all fun x => vecC x (n : Int) (p : Int)) := by
 unfold z102.f
 refine qHf L [] (fun (i : Nat) k => z102.l0 k (p : Int) (n : Int) L (i : Int)) (fun x => vecC x (n : Int) (p : Int)) (fun j hj hp r hr => ?_) (fun j hj hp => ?_) ?_
 ·have := hx _ (qBp ([] : List Int) hj)
  refine Ev.step (fun k => z102.l0.eq_2 ..) ?_
  rw [qBe]
  refine qAi (by omega) (qAi (by omega) (Ev.bind (qFh hq _ hn this) (qAi hp ?_)))
  rw [qAv (by omega)]; exact hr
 ·have := hx _ (qBp ([] : List Int) hj)
  refine Ev.step (fun k => z102.l0.eq_2 ..) ?_
  rw [qBe]
  exact qAi (by omega) (qAi (by omega) (Ev.bind (qFh hq _ hn this) (qAs (by rw [hp]; decide) (Ev.now _))))
 ·refine Ev.step (fun k => z102.l0.eq_2 ..) ?_
  exact qAs (by omega) (Ev.now _)
theorem qH0 {p n : Nat} {L : List (List Int)} : (L.all fun x => vecC x (n : Int) (p : Int)) = true ↔ Vs (p : Int) n L := by
 rw [List.all_eq_true]
 constructor
 ·intro h x hx
  obtain ⟨h1, h2⟩ := qHm.1 (h x hx)
  exact ⟨h1, h2⟩
 ·exact fun h x hx => qHm.2 ⟨(h x hx).1, (h x hx).2⟩
theorem qG3 (l m : List (List Int)) (hl : l.length < 9223372036854775807) (hr : ∀ x ∈ l, x.length < 9223372036854775807) : Ev (fun k => z103.f k l m) (l == m) := by
 unfold z103.f
 by_cases h : l.length = m.length
 ·refine qAi (by omega) ?_
  rw [← qBz l m [] h]
  refine qEu (fun (i : Nat) k => z103.l0 k l m (i : Int)) _ l.length (fun j hj hp r hr' => ?_) (fun j hj hp => ?_) ?_
  ·have hrow := hr _ (qBp ([] : List Int) hj)
   refine Ev.step (fun k => z103.l0.eq_2 ..) ?_
   rw [qBe, qBe]
   refine qAi (by omega) (qAi (by omega) (qAi (by omega) (Ev.bind (qIu _ _ hrow) (qAi hp ?_))))
   rw [qAv (by omega)]; exact hr'
  ·have hrow := hr _ (qBp ([] : List Int) hj)
   refine Ev.step (fun k => z103.l0.eq_2 ..) ?_
   rw [qBe, qBe]
   exact qAi (by omega) (qAi (by omega) (qAi (by omega) (Ev.bind (qIu _ _ hrow) (qAs (by rw [hp]; decide) (Ev.now _)))))
  ·refine Ev.step (fun k => z103.l0.eq_2 ..) ?_
   exact qAs (by omega) (Ev.now _)
 ·rw [qCe h]
  exact qAs (by omega) (Ev.now _)
noncomputable def okS (p n : Int) (L : List (List Int)) : Bool := open Classical in (okP p && (decide (0 ≤ n) && decide (n ≤ 32))) && ((L.all fun x => vecC x n p) && (redB p n.toNat L == L))
theorem qI4 {p n : Int} {L : List (List Int)} (h : okS p n L = true) : ∃ q m : Nat, p = (q : Int) ∧ n = (m : Int) ∧ isP q = true ∧ m ≤ 32 ∧ Vs (q : Int) m L ∧ redB (q : Int) m L = L := by
 unfold okS at h
 rw [Bool.and_eq_true, Bool.and_eq_true, Bool.and_eq_true, Bool.and_eq_true, decide_eq_true_iff, decide_eq_true_iff] at h
 obtain ⟨⟨h1, h2, h3⟩, h4, h5⟩ := h
 obtain ⟨q, rfl, hq⟩ := qG8.1 h1
 obtain ⟨m, rfl⟩ := Int.eq_ofNat_of_zero_le h2
 exact ⟨q, m, rfl, rfl, hq, by omega, qH0.1 h4, by simpa using h5⟩
section
variable {L : List (List Int)} (hl : L.length ≤ 1048576) (hr : ∀ x ∈ L, x.length ≤ 1048576)
include hl hr
theorem qDn (p n : Int) : Ev (fun k => z58.f k p n L) (okS p n L) := by
 unfold z58.f okS z88.f
 refine Ev.bind (qGm p) ?_
 cases hp : okP p with
 | false => exact qAs (by decide) (qBq (Ev.now _) (by simp))
 | true =>
  obtain ⟨q, rfl, hq⟩ := qG8.1 hp
  refine qAi rfl (Ev.bind (a := decide (0 ≤ n) && decide (n ≤ 32)) (Ev.bind (qA6 (qD0 _ _ _)) (Ev.now _)) ?_)
  cases hn : decide (0 ≤ n) && decide (n ≤ 32) with
  | false => exact qAs (by decide) (qBq (Ev.now _) (by simp))
  | true =>
   rw [Bool.and_eq_true, decide_eq_true_iff, decide_eq_true_iff] at hn
   obtain ⟨m, rfl⟩ := Int.eq_ofNat_of_zero_le hn.1
   refine qAi rfl (Ev.bind (qF6 (qBr hq).2 L _ hl hr) ?_)
   cases hv : (L.all fun x => vecC x (m : Int) (q : Int)) with
   | false => exact qAs (by decide) (qBq (Ev.now _) (by simp))
   | true =>
    obtain ⟨h1, qq, h2⟩ := qCd hq (by omega) hl (qH0.1 hv)
    have h3 := h2.len_le (qE9 hq)
    refine qAi rfl (Ev.bind h1 ?_)
    dsimp only
    refine Ev.bind (qIi _ L (by omega) (fun x hx => by rw [(h2.vs x hx).1]; omega)) (qBq (Ev.now _) ?_)
    rw [Int.toNat_natCast]
    simp
theorem qKl (p n : Int) : Ev (fun k => z53.f k p n L) (okS p n L) := by
 unfold z53.f okS
 have stop : ∀ p n, Ev (fun k => z53.j0 k true p n L) false := fun p n => by
  refine Ev.step (fun k => z53.j0.eq_2 ..) ?_
  exact qAi rfl (Ev.now _)
 refine Ev.bind (qFz p) ?_
 cases hp : okP p with
 | false => exact qAs (by decide) (qBq (stop _ _) (by simp))
 | true =>
  obtain ⟨q, rfl, hq⟩ := qG8.1 hp
  refine qAi rfl (Ev.bind (qA6 (qHv _ _ _)) ?_)
  cases hn : decide (0 ≤ n) && decide (n ≤ 32) with
  | false => exact qAs (by decide) (qBq (stop _ _) (by simp))
  | true =>
   rw [Bool.and_eq_true, decide_eq_true_iff, decide_eq_true_iff] at hn
   obtain ⟨m, rfl⟩ := Int.eq_ofNat_of_zero_le hn.1
   refine qAi rfl ?_
   by_cases hlen : (L.length : Int) > (m : Int)
   ·refine qBq (qAi hlen (stop _ _)) ?_
    cases hv : (L.all fun x => vecC x (m : Int) (q : Int)) with
    | false => simp
    | true =>
     obtain ⟨h1, qq, h2⟩ := qCd (L := L) hq (show m ≤ 1024 by omega) hl (qH0.1 hv)
     have h3 := h2.len_le (qE9 hq)
     have hne : ¬ (redB (q : Int) m L = L) := fun he => by rw [he] at h3; omega
     rw [Int.toNat_natCast]
     simp [hne]
   ·refine qAs hlen (Ev.bind (qG0 (qBr hq).2 L (by omega) hl hr) ?_)
    cases hv : (L.all fun x => vecC x (m : Int) (q : Int)) with
    | false => exact qBq (stop _ _) (by simp)
    | true =>
     obtain ⟨h1, qq, h2⟩ := qF5 (L := L) hq (show m ≤ 1000 by omega) (by omega) (qH0.1 hv)
     have h3 := h2.len_le (qE9 hq)
     have hj : Ev (fun k => z53.j0 k false (q : Int) (m : Int) L) (redB (q : Int) m L == L) := by
      refine Ev.step (fun k => z53.j0.eq_2 ..) ?_
      exact qAs (by decide) (Ev.bind h1 (Ev.bind (qG3 _ L (by omega) (fun x hx => by rw [(h2.vs x hx).1]; omega)) (Ev.now _)))
     refine qBq hj ?_
     rw [Int.toNat_natCast]
     simp
end
end Go.Proofs.Ytabfflgoaalapaa.B
set_option linter.unusedVariables false
set_option linter.unusedSimpArgs false
namespace Go.Proofs.Ytabfflgoaalapaa.B
open Go.RowKit Go.Proofs.YtabfflgoaalapaaW.PrintWords
open LinT
noncomputable def askT (p n : Int) (L : List (List Int)) (p' n' : Int) (M : List (List Int)) : Int := if (okS p n L && okS p' n' M) = true then (if p = p' ∧ n = n' then 0 else 6) else 1
section
variable {L M : List (List Int)} (hl : L.length ≤ 1048576) (hr : ∀ x ∈ L, x.length ≤ 1048576) (hl' : M.length ≤ 1048576) (hr' : ∀ x ∈ M, x.length ≤ 1048576)
include hl hr hl' hr'
theorem qD4 (p n p' n' : Int) : Ev (fun k => z63.f k p n L p' n' M) (askT p n L p' n' M) := by
 unfold z63.f askT
 have hj : ∀ b, Ev (fun k => z63.j0 k (!b) p n L p' n' M) (if b = true then (if p = p' ∧ n = n' then 0 else 6) else 1) := fun b => by
  refine Ev.step (fun k => z63.j0.eq_2 ..) ?_
  cases b with
  | false => exact qAi rfl (Ev.now _)
  | true =>
   refine qAs (by decide) ?_
   rw [if_pos rfl]
   by_cases h1 : p = p'
   ·refine qAi h1 ?_
    by_cases h2 : n = n'
    ·exact qBq (qAi h2 (Ev.now _)) (if_pos ⟨h1, h2⟩).symm
    ·exact qBq (qAs h2 (Ev.now _)) (if_neg (fun h => h2 h.2)).symm
   ·exact qBq (qAs h1 (Ev.now _)) (if_neg (fun h => h1 h.1)).symm
 have h1 := qDn hl hr p n
 have h2 := qDn hl' hr' p' n'
 refine Ev.bind h1 ?_
 cases ho : okS p n L with
 | false => exact qAs (by decide) (by simpa using hj false)
 | true => exact qAi rfl (Ev.bind h2 (by simpa using hj (okS p' n' M)))
theorem qE6 (p n p' n' : Int) : Ev (fun k => z61.f k p n L p' n' M) (askT p n L p' n' M) := by
 unfold z61.f askT
 have hj : ∀ b, Ev (fun k => z61.j0 k (!b) p n L p' n' M) (if b = true then (if p = p' ∧ n = n' then 0 else 6) else 1) := fun b => by
  refine Ev.step (fun k => z61.j0.eq_2 ..) ?_
  cases b with
  | false => exact qAi rfl (Ev.now _)
  | true =>
   refine qAs (by decide) ?_
   rw [if_pos rfl]
   by_cases h1 : p = p'
   ·refine qAi h1 ?_
    by_cases h2 : n = n'
    ·exact qBq (qAi h2 (Ev.now _)) (if_pos ⟨h1, h2⟩).symm
    ·exact qBq (qAs h2 (Ev.now _)) (if_neg (fun h => h2 h.2)).symm
   ·exact qBq (qAs h1 (Ev.now _)) (if_neg (fun h => h1 h.1)).symm
 have h1 := qKl hl hr p n
 have h2 := qKl hl' hr' p' n'
 refine Ev.bind h1 ?_
 cases ho : okS p n L with
 | false => exact qAs (by decide) (by simpa using hj false)
 | true => exact qAi rfl (Ev.bind h2 (by simpa using hj (okS p' n' M)))
end
theorem qJr {p n p' n' : Int} {L M : List (List Int)} (hl : L.length ≤ 1048576) (hl' : M.length ≤ 1048576) (h : askT p n L p' n' M = 0) : ∃ (q m : Nat) (s t : List Int), p = (q : Int) ∧ n = (m : Int) ∧ p' = (q : Int) ∧ n' = (m : Int) ∧ isP q = true ∧ m ≤ 32 ∧ Red (q : Int) m L L s ∧ Red (q : Int) m M M t ∧ L.length ≤ 32 ∧ M.length ≤ 32 := by
 unfold askT at h
 by_cases ho : (okS p n L && okS p' n' M) = true
 ·rw [if_pos ho] at h
  rw [Bool.and_eq_true] at ho
  by_cases he : p = p' ∧ n = n'
  ·obtain ⟨rfl, rfl⟩ := he
   obtain ⟨q, m, rfl, rfl, hq, hm, hv, he⟩ := qI4 ho.1
   obtain ⟨q', m', e1, e2, hq', hm', hv', he'⟩ := qI4 ho.2
   have : q' = q := by omega
   subst this
   have : m' = m := by omega
   subst this
   obtain ⟨_, s, hs⟩ := qCd (L := L) hq (show m' ≤ 1024 by omega) hl hv
   obtain ⟨_, t, ht⟩ := qCd (L := M) hq (show m' ≤ 1024 by omega) hl' hv'
   rw [he] at hs
   rw [he'] at ht
   have l1 := (hs.len_le (qE9 hq)).1
   have l2 := (ht.len_le (qE9 hq)).1
   exact ⟨q', m', s, t, rfl, rfl, rfl, rfl, hq, hm, hs, ht, by omega, by omega⟩
  ·rw [if_neg he] at h; omega
 ·rw [if_neg ho] at h; omega
end Go.Proofs.Ytabfflgoaalapaa.B
set_option linter.unusedVariables false
set_option linter.unusedSimpArgs false
namespace Go.Proofs.Ytabfflgoaalapaa.B
open Go.RowKit Go.Proofs.YtabfflgoaalapaaW.PrintWords
open LinT
theorem rdll (A B : List (List Int)) : qA3 [A, B] 0 = A ∧ qA3 [A, B] 1 = B := ⟨rfl, rfl⟩
theorem ln2 (A B : List (List Int)) : (([A, B] : List (List (List Int))).length : Int) = 2 := rfl
theorem qIg (A B : List (List Int)) (hA : A.length ≤ 1048576) (hB : B.length ≤ 1048576) : Ev (fun k => z110.f k [A, B]) (A ++ B) := by
 have w0 : wrap64 (0 + (A.length : Int)) = (A.length : Int) := by rw [qAy (by omega) (by omega)]; omega
 have w1 : wrap64 ((A.length : Int) + (B.length : Int)) = ((A.length + B.length : Nat) : Int) := by rw [qAy (by omega) (by omega)]; omega
 have i0 : wrap64 ((0 : Int) + 1) = 1 := qAy (by decide) (by decide)
 have i1 : wrap64 ((1 : Int) + 1) = 2 := qAy (by decide) (by decide)
 have g0 : ¬ (wrap64 (0 + (A.length : Int)) < 0) := by rw [w0]; clear w0 w1; omega
 have g1 : ¬ (wrap64 ((A.length : Int) + (B.length : Int)) < 0) := by rw [w1]; clear w0 w1; omega
 have hg : slices_Grow_int64_int64_L.f ([] : List (List Int)) ((A.length + B.length : Nat) : Int) = some [] := by
  unfold slices_Grow_int64_int64_L.f
  rw [if_pos]
  clear w0 w1 g0 g1
  exact ⟨⟨rfl, by omega⟩, by omega⟩
 have l1 : ([] : List (List Int)).length + A.length < 5864062014805 := by clear w0 w1 g0 g1; simp; omega
 have l2 : A.length + B.length < 5864062014805 := by clear w0 w1 g0 g1; omega
 unfold z110.f
 refine Ev.step (fun k => z110.l0.eq_2 ..) ?_
 refine qAi (show (0 : Int) < (([A, B] : List (List (List Int))).length : Int) by rw [ln2]; decide) (qAi (by decide) (qAi (show (0 : Int) < (([A, B] : List (List (List Int))).length : Int) by rw [ln2]; decide) ?_))
 rw [(rdll A B).1]
 refine qAs g0 ?_
 rw [w0, i0]
 refine Ev.step (fun k => z110.l0.eq_2 ..) ?_
 refine qAi (show (1 : Int) < (([A, B] : List (List (List Int))).length : Int) by rw [ln2]; decide) (qAi (by decide) (qAi (show (1 : Int) < (([A, B] : List (List (List Int))).length : Int) by rw [ln2]; decide) ?_))
 rw [(rdll A B).2]
 refine qAs g1 ?_
 rw [w1, i1]
 refine Ev.step (fun k => z110.l0.eq_2 ..) ?_
 refine qAs (show ¬ (2 : Int) < (([A, B] : List (List (List Int))).length : Int) by rw [ln2]; decide) (Ev.bind (qA6 hg) ?_)
 refine Ev.step (fun k => z110.l1.eq_2 ..) ?_
 refine qAi (show (0 : Int) < (([A, B] : List (List (List Int))).length : Int) by rw [ln2]; decide) (qAi (by decide) (qAi (show (0 : Int) < (([A, B] : List (List (List Int))).length : Int) by rw [ln2]; decide) ?_))
 rw [(rdll A B).1]
 refine qAi l1 ?_
 rw [i0, List.nil_append]
 refine Ev.step (fun k => z110.l1.eq_2 ..) ?_
 refine qAi (show (1 : Int) < (([A, B] : List (List (List Int))).length : Int) by rw [ln2]; decide) (qAi (by decide) (qAi (show (1 : Int) < (([A, B] : List (List (List Int))).length : Int) by rw [ln2]; decide) ?_))
 rw [(rdll A B).2]
 refine qAi l2 ?_
 rw [i1]
 refine Ev.step (fun k => z110.l1.eq_2 ..) ?_
 exact qAs (show ¬ (2 : Int) < (([A, B] : List (List (List Int))).length : Int) by rw [ln2]; decide) (Ev.now _)
theorem qKw {p n : Nat} (hp : isP p = true) (hn : n ≤ 1000) {A B : List (List Int)} (hA : A.length ≤ 400) (hB : B.length ≤ 400) (hv : Vs (p : Int) n A) (hv' : Vs (p : Int) n B) (p' n' : Int) :
  Ev (fun k => z64.f k (p : Int) (n : Int) A p' n' B) ((p : Int), (n : Int), redB (p : Int) n (A ++ B)) := by
 unfold z64.f
 exact Ev.bind (qIg A B (by omega) (by omega)) (Ev.bind (qCd hp (by omega) (by rw [List.length_append]; omega) (qF9 hv hv')).1 (Ev.now _))
theorem qKv {p n : Nat} (hp : isP p = true) (hn : n ≤ 1000) {A B : List (List Int)} (hA : A.length ≤ 400) (hB : B.length ≤ 400) (hv : Vs (p : Int) n A) (hv' : Vs (p : Int) n B) :
  Ev (fun k => z62.f k (p : Int) (n : Int) (A ++ B)) ((p : Int), (n : Int), redB (p : Int) n (A ++ B)) ∧ Vs (p : Int) n (redB (p : Int) n (A ++ B)) ∧ (redB (p : Int) n (A ++ B)).length ≤ n := by
 obtain ⟨h1, q, h2⟩ := qF5 hp hn (L := A ++ B) (by rw [List.length_append]; omega) (qF9 hv hv')
 unfold z62.f
 exact ⟨Ev.bind h1 (Ev.now _), h2.vs, (h2.len_le (qE9 hp)).1⟩
end Go.Proofs.Ytabfflgoaalapaa.B
set_option linter.unusedVariables false
set_option linter.unusedSimpArgs false
namespace Go.Proofs.Ytabfflgoaalapaa.B
open Go.RowKit Go.Proofs.YtabfflgoaalapaaW.PrintWords
def has (s : List Int) (x : Int) : Bool := s.any (fun z => z == x)
theorem qEx (s : List Int) (x : Int) (hl : s.length < 9223372036854775807) : Ev (fun k => z130.f k s x) (has s x) := by
 obtain ⟨t, ht, hd⟩ := qCs s 0 (fun i k => z152.l0 k s x (s.length : Int) (i : Int)) (fun z => z == x) (fun j hj hp r hr => by
  refine Ev.step (fun k => z152.l0.eq_2 ..) ?_
  rw [qBk, qAv (by omega)]
  exact qAi (by omega) (qAi (by omega) (qAi (by omega) (qAs (by intro e; rw [← e] at hp; simp at hp) hr)))) (fun j hj hp => by
  refine Ev.step (fun k => z152.l0.eq_2 ..) ?_
  rw [qBk]
  exact qAi (by omega) (qAi (by omega) (qAi (by omega) (qAi (eq_of_beq hp).symm (Ev.now _))))) (by
  refine Ev.step (fun k => z152.l0.eq_2 ..) ?_
  exact qAs (by omega) (Ev.now _))
 unfold z130.f z152.f
 exact Ev.bind ht (qBq (Ev.now _) hd)
theorem qKn (s : List Int) (x : Int) (hl : s.length < 9223372036854775807) : Ev (fun k => z70.f k s x) (has s x) := by
 unfold z70.f
 refine qDj (fun (i : Nat) k => z70.l0 k s x (i : Int)) (fun i => s.getD i 0 == x) s.length 0 (fun j _ hj hp r hr => ?_) (fun j _ hj hp _ => ?_) (fun hall => ?_)
 ·refine Ev.step (fun k => z70.l0.eq_2 ..) ?_
  rw [qBk, qAv (by omega)]
  exact qAi (by omega) (qAi (by omega) (qAs (by intro e; rw [← e] at hp; simp at hp) hr))
 ·have : has s x = true := List.any_eq_true.2 ⟨_, qBp 0 (show j < s.length by omega), hp⟩
  rw [this]
  refine Ev.step (fun k => z70.l0.eq_2 ..) ?_
  rw [qBk]
  exact qAi (by omega) (qAi (by omega) (qAi (eq_of_beq hp) (Ev.now _)))
 ·have : has s x = false := by
   rw [has, ← qGu s 0, Bool.eq_false_iff]
   intro h
   obtain ⟨i, hi, hp⟩ := List.any_eq_true.1 h
   rw [hall i (Nat.zero_le _) (by have := List.mem_range.1 hi; omega)] at hp; cases hp
  rw [this, Nat.zero_add]
  refine Ev.step (fun k => z70.l0.eq_2 ..) ?_
  exact qAs (by omega) (Ev.now _)
end Go.Proofs.Ytabfflgoaalapaa.B
set_option linter.unusedVariables false
set_option linter.unusedSimpArgs false
namespace Go.Proofs.Ytabfflgoaalapaa.B
open Go.RowKit Go.Proofs.YtabfflgoaalapaaW.PrintWords
open LinT
theorem qD5 {α β : Type} (L : List α → Nat → Nat → Option β) (p : Nat → Bool) (g : Nat → α) : ∀ (n : Nat), (∀ j s, j < n → s.length ≤ j → p j = true → Le (L (s ++ [g j]) (j + 1)) (L s j)) → (∀ j s, j < n → s.length ≤ j → p j = false → Le (L s (j + 1)) (L s j)) → Le (L (((List.range n).filter p).map g) n) (L [] 0)
 | 0, _, _ => Le.refl _
 | n + 1, h1, h0 => by
  have ih := qD5 L p g n (fun j s hj => h1 j s (by omega)) (fun j s hj => h0 j s (by omega))
  refine Le.trans ?_ ih
  have hl : (((List.range n).filter p).map g).length ≤ n := by
   rw [List.length_map]
   exact Nat.le_trans (List.length_filter_le _ _) (by simp)
  rw [List.range_succ, List.filter_append, List.map_append]
  cases hp : p n with
  | true =>
   have : [n].filter p = [n] := by simp [hp]
   rw [this]
   exact h1 n _ (by omega) hl hp
  | false =>
   have : [n].filter p = [] := by simp [hp]
   rw [this, List.map_nil, List.append_nil]
   exact h0 n _ (by omega) hl hp
def kerV (p : Nat) (n : Nat) (B : List (List Int)) (q : List Int) (c : Nat) : List Int :=
 iter (fun i s => s.set (q.getD i 0).toNat ((-((B.getD i []).getD c 0)) % (p : Int))) 0 q.length ((List.replicate n 0).set c 1)
def kerC (p : Nat) (n : Nat) (B : List (List Int)) (q : List Int) : List (List Int) := ((List.range n).filter fun (c : Nat) => !has q (c : Int)).map (kerV p n B q)
theorem qJb {p n : Nat} (hp : 2 ≤ p) (B : List (List Int)) (q : List Int) (c : Nat) : (kerV p n B q c).length = n ∧ Rng p (kerV p n B q c) := by
 have hset : ∀ (s : List Int) (i : Nat) (y : Int), s.length = n ∧ Rng p s → 0 ≤ y ∧ y < (p : Int) → (s.set i y).length = n ∧ Rng p (s.set i y) := fun s i y hs hy => ⟨by rw [List.length_set]; exact hs.1, fun z hz => by
  rcases List.mem_or_eq_of_mem_set hz with h | h
  ·exact hs.2 z h
  ·rw [h]; exact hy⟩
 have := qHt (fun i s => s.set (q.getD i 0).toNat ((-((B.getD i []).getD c 0)) % (p : Int))) (fun _ s => s.length = n ∧ Rng p s) q.length 0 ((List.replicate n 0).set c 1)
  (hset _ _ _ ⟨by simp, fun z hz => by rw [(List.mem_replicate.1 hz).2]; omega⟩ (by omega)) (fun j s _ _ hs => hset _ _ _ hs ⟨Int.emod_nonneg _ (by omega), Int.emod_lt_of_pos _ (by omega)⟩)
 exact this
theorem qK2 {p n : Nat} (hp : 2 ≤ p) (B : List (List Int)) (q : List Int) : Vs (p : Int) n (kerC p n B q) := fun x hx => by
 obtain ⟨c, _, rfl⟩ := List.mem_map.1 hx
 exact qJb hp B q c
theorem qJ7 (p n : Nat) (B : List (List Int)) (q : List Int) : (kerC p n B q).length ≤ n := by
 unfold kerC
 rw [List.length_map]
 exact Nat.le_trans (List.length_filter_le _ _) (by simp)
theorem qJy {p m n : Nat} {X : List Int} (hX : X.length = m * n) (hR : Rng p X) : Vs (p : Int) n (unfl n m X) := qIl hX ((qJh hX).1 hR)
theorem qIc {p m n : Nat} (hp : isP p = true) {X : List Int} (hX : X.length = m * n) (hR : Rng p X) (hm : m ≤ 1000) (hn : n ≤ 1000) :
  ∃ B q, Red (p : Int) n (unfl n m X) B q ∧ Ev (fun k => z93.f k (p : Int) (m : Int) (n : Int) X) (kerC p n B q) := by
 have h2 := qBr hp
 have hvs := qJy hX hR
 obtain ⟨R, q, det, hE, hst⟩ := qJi hp (n := n) (L := unfl n m X) (by omega) (by rw [qC3]; omega) hvs
 have hred := hst.red
 refine ⟨R.take q.length, q, hred, ?_⟩
 have hRl := hst.len
 rw [qC3] at hRl
 have hqm := hst.el.g.rm
 rw [qC3] at hqm
 unfold z93.f
 refine Ev.bind (qIv hX (by omega) (by omega)) (Ev.bind hE ?_)
 refine qD5 (fun s c k => z93.l0 k R q s (n : Int) (c : Int) (p : Int) (m : Int) (n : Int) X) (fun c => !has q (c : Int)) (kerV p n (R.take q.length) q) n (fun c s hc hs hp' r hr => ?_) (fun c s hc hs hp' r hr => ?_) _ ?_
 ·have hnot : has q (c : Int) = false := by simpa using hp'
  have hv := (qJb (n := n) h2.1 (R.take q.length) q c).1
  have hl1 := (qB1 (fun (v : List Int) (i : Nat) k => z93.l1 k R q s (c : Int) v (n : Int) (c : Int) q (q.length : Int) (i : Int) (p : Int) (m : Int) (n : Int) X) (fun i v => v.set (q.getD i 0).toNat ((-(((R.take q.length).getD i []).getD c 0)) % (p : Int))) (fun _ v => v.length = n) q.length 0 ((List.replicate n 0).set c 1) (by simp) (fun i v _ hi hv' => ⟨fun r' hr' => ?_, by rw [List.length_set]; exact hv'⟩)).1
  ·refine Ev.step (fun k => z93.l0.eq_2 ..) ?_
   refine qAi (by omega) (Ev.bind (qEx q (c : Int) (by omega)) ?_)
   rw [hnot]
   refine qAs (by decide) (qAi (by omega) (qAi (by omega) (Ev.bind (qA6 rfl) (qAi (by omega) (qAi (by simp; omega) ?_)))))
   rw [Int.toNat_natCast, Int.toNat_natCast]
   refine hl1 r ?_
   refine Ev.step (fun k => z93.l1.eq_2 ..) ?_
   refine qAs (by omega) (qAi (by omega) ?_)
   rw [qAv (by omega)]
   exact hr
  ·have hi' : i < q.length := by omega
   have hqi := red_q hred hi'
   have hrl := qCv hst.vs (i := i) (by omega)
   have hx := qDh (qCu hst.vs (i := i) (by omega)) (j := c) (by omega)
   have hrv := qFl h2.1 h2.2 (a := -((R.getD i []).getD c 0)) (by omega) (by omega)
   have hw : wrap64 (-((R.getD i []).getD c 0)) = -((R.getD i []).getD c 0) := qAy (by omega) (by omega)
   refine Ev.step (fun k => z93.l1.eq_2 ..) ?_
   rw [qBk, qBe, qBk, hw]
   clear hw
   refine qAi (by omega) (qAi (by omega) (qAi (by omega) (qAi (by omega) (qAi (by omega) (qAi (by omega) (Ev.bind (qA6 hrv) (qAi (by omega) (qAi (by omega) ?_))))))))
   rw [qAv (by omega)]
   rw [qJd [] R hi'] at hr'
   exact hr'
 ·have hin : has q (c : Int) = true := by simpa using hp'
  refine Ev.step (fun k => z93.l0.eq_2 ..) ?_
  refine qAi (by omega) (Ev.bind (qEx q (c : Int) (by omega)) ?_)
  rw [hin]
  refine qAi rfl ?_
  rw [qAv (by omega)]; exact hr
 ·refine Ev.step (fun k => z93.l0.eq_2 ..) ?_
  exact qAs (by omega) (Ev.now _)
theorem qIb {p m n : Nat} (hp : isP p = true) {X : List Int} (hX : X.length = m * n) (hR : Rng p X) (hm : m ≤ 1000) (hn : n ≤ 1000) :
  ∃ B q, Red (p : Int) n (unfl n m X) B q ∧ Ev (fun k => z136.f k (p : Int) (m : Int) (n : Int) X) (kerC p n B q) := by
 have h2 := qBr hp
 obtain ⟨Y, q, det, hE, hst⟩ := qIy hp (w := n) (m := m) (X := X) (by omega) (by omega) hX hR (L := unfl n m X) (qC3 _ _ _) (fun i j hi hj => qFw X hi hj)
 have hst' : FlInv (p : Int) n (unfl n m X).length (unfl n m X) n Y q := by rw [qC3]; exact hst
 have hred := hst'.red
 have hqm := hst.el.g.rm
 have hYl := hst.len
 refine ⟨unfl n q.length Y, q, hred, ?_⟩
 unfold z136.f
 refine Ev.bind hE ?_
 refine qD5 (fun s c k => z136.l0 k q s (c : Int) (p : Int) (m : Int) (n : Int) X (p : Int) (m : Int) (n : Int) Y) (fun c => !has q (c : Int)) (kerV p n (unfl n q.length Y) q) n (fun c s hc hs hp' r hr => ?_) (fun c s hc hs hp' r hr => ?_) _ ?_
 ·have hnot : has q (c : Int) = false := by simpa using hp'
  have hl1 := (qB1 (fun (v : List Int) (i : Nat) k => z136.l1 k q s (c : Int) v (i : Int) (p : Int) (m : Int) (n : Int) X (p : Int) (m : Int) (n : Int) Y) (fun i v => v.set (q.getD i 0).toNat ((-(((unfl n q.length Y).getD i []).getD c 0)) % (p : Int))) (fun _ v => v.length = n) q.length 0 ((List.replicate n 0).set c 1) (by simp) (fun i v _ hi hv' => ⟨fun r' hr' => ?_, by rw [List.length_set]; exact hv'⟩)).1
  ·refine Ev.step (fun k => z136.l0.eq_2 ..) ?_
   refine qAi (by omega) (Ev.bind (qKn q (c : Int) (by omega)) ?_)
   rw [hnot]
   refine qAs (by decide) (qAi (by omega) (qAi (by omega) (Ev.bind (qA6 rfl) (qAi (by omega) (qAi (by simp; omega) ?_)))))
   rw [Int.toNat_natCast, Int.toNat_natCast]
   refine hl1 r ?_
   refine Ev.step (fun k => z136.l1.eq_2 ..) ?_
   refine qAs (by omega) (qAi (by omega) ?_)
   rw [qAv (by omega)]
   exact hr
  ·have hi' : i < q.length := by omega
   have hqi := red_q hred hi'
   have hlt := qCt (show i < m by omega) hc
   have hB : ((unfl n q.length Y).getD i []).getD c 0 = fl n Y i c := qFw Y (by omega) hc
   have hx : 0 ≤ fl n Y i c ∧ fl n Y i c < (p : Int) := ⟨hst.el.ge i c (by omega) hc, hst.el.lt i c (by omega) hc⟩
   have hrv := qI6 h2.1 h2.2 (a := -(fl n Y i c)) (by omega) (by omega)
   obtain ⟨e, hw⟩ := And.intro (ix (i := i) (w := n) (j := c) (by omega) (by omega) (by omega)) (qAy (x := -(fl n Y i c)) (by omega) (by omega))
   rw [hB] at hr'
   refine Ev.step (fun k => z136.l1.eq_2 ..) ?_
   rw [qBk, e, rdfl, hw]
   clear hw e
   refine qAi (by omega) (qAi (by omega) (qAi (by omega) (qAi (by omega) (Ev.bind (qA6 hrv) (qAi (by omega) (qAi (by omega) ?_))))))
   rw [qAv (by omega)]
   exact hr'
 ·have hin : has q (c : Int) = true := by simpa using hp'
  refine Ev.step (fun k => z136.l0.eq_2 ..) ?_
  refine qAi (by omega) (Ev.bind (qKn q (c : Int) (by omega)) ?_)
  rw [hin]
  refine qAi rfl ?_
  rw [qAv (by omega)]; exact hr
 ·refine Ev.step (fun k => z136.l0.eq_2 ..) ?_
  exact qAs (by omega) (Ev.now _)
theorem qHa {p m n : Nat} (hp : isP p = true) {X : List Int} (hX : X.length = m * n) (hR : Rng p X) (hm : m ≤ 1000) (hn : n ≤ 1000) :
  ∃ K, Vs (p : Int) n K ∧ K.length ≤ n ∧ Ev (fun k => z93.f k (p : Int) (m : Int) (n : Int) X) K ∧ Ev (fun k => z136.f k (p : Int) (m : Int) (n : Int) X) K := by
 obtain ⟨B, q, h1, h2⟩ := qIc hp hX hR hm hn
 obtain ⟨B', q', h3, h4⟩ := qIb hp hX hR hm hn
 obtain ⟨e1, e2⟩ := h1.unique (qE9 hp) h3 (fun v => Iff.rfl)
 subst e1 e2
 exact ⟨_, qK2 (qBr hp).1 B q, qJ7 p n B q, h2, h4⟩
end Go.Proofs.Ytabfflgoaalapaa.B
set_option linter.unusedVariables false
set_option linter.unusedSimpArgs false
namespace Go.Proofs.Ytabfflgoaalapaa.B
open Go.RowKit Go.Proofs.YtabfflgoaalapaaW.PrintWords
open LinT
theorem qH6 (L : List (List Int)) {n : Nat} (h : ∀ x ∈ L, x.length = n) : total L = ((L.length * n : Nat) : Int) := by
 rw [← qCj, qCh (w := n) L h]
theorem qEq {p n : Nat} (hp : isP p = true) (hn : n ≤ 1000) {L : List (List Int)} (hm : L.length ≤ 1000) (hL : Vs (p : Int) n L) :
  ∃ B, Vs (p : Int) n B ∧ B.length ≤ n ∧ Ev (fun k => z100.f k (p : Int) (n : Int) L) ((p : Int), (n : Int), B) ∧ Ev (fun k => z99.f k (p : Int) (n : Int) L) ((p : Int), (n : Int), B) := by
 have hlen : ∀ x, x ∈ L → x.length = n := fun x hx => (hL x hx).1
 have hfl := qCh (w := n) L hlen
 have hR : Rng p L.flatten := fun y hy => by
  obtain ⟨x, hx, hy2⟩ := List.mem_flatten.1 hy
  exact (hL x hx).2 y hy2
 have hb : L.length * n ≤ 1000 * 1000 := Nat.mul_le_mul hm hn
 obtain ⟨K, hK, hKl, h1, h2⟩ := qHa hp hfl hR hm hn
 obtain ⟨h3, q, hq⟩ := qCd (L := K) hp (show n ≤ 1024 by omega) (by omega) hK
 obtain ⟨h4, _⟩ := qF5 (L := K) hp hn (by omega) hK
 refine ⟨redB (p : Int) n K, hq.vs, (hq.len_le (qE9 hp)).1, ?_, ?_⟩
 ·unfold z100.f z137.f
  refine Ev.bind (a := ((p : Int), (L.length : Int), (n : Int), L.flatten)) (Ev.bind (qA6 (r := (L.length : Int)) rfl) (Ev.bind (qJj L (by omega) (by rw [qH6 L hlen]; omega)) (Ev.now _))) (Ev.bind h1 (Ev.bind h3 (Ev.now _)))
 ·unfold z99.f z62.f
  exact Ev.bind (qHn (by omega) (by omega) hlen) (Ev.bind h2 (Ev.bind (a := ((p : Int), (n : Int), redB (p : Int) n K)) (Ev.bind h4 (Ev.now _)) (Ev.now _)))
end Go.Proofs.Ytabfflgoaalapaa.B
set_option linter.unusedVariables false
set_option linter.unusedSimpArgs false
namespace Go.Proofs.Ytabfflgoaalapaa.B
open Go.RowKit Go.Proofs.YtabfflgoaalapaaW.PrintWords
open LinT
theorem qI7 {L M : List (List Int)} (hl : L.length ≤ 1048576) (hr : ∀ x ∈ L, x.length ≤ 1048576) (hl' : M.length ≤ 1048576) (hr' : ∀ x ∈ M, x.length ≤ 1048576) (p n p' n' : Int) :
  ∃ g : Int × Int × List (List Int) × Int, g.2.2.1.length ≤ 1048576 ∧ (∀ x ∈ g.2.2.1, x.length ≤ 1024) ∧ Ev (fun k => z51.f k p n L p' n' M) g ∧ Ev (fun k => z50.f k p n L p' n' M) g := by
 have c1 := qD4 hl hr hl' hr' p n p' n'
 have c2 := qE6 hl hr hl' hr' p n p' n'
 unfold z51.f z50.f
 by_cases hz : askT p n L p' n' M = 0
 ·obtain ⟨q, m, s, t, rfl, rfl, rfl, rfl, hq, hm, hs, ht, l1, l2⟩ := qJr hl hl' hz
  obtain ⟨A, hA, hAl, a1, a2⟩ := qEq (L := L) hq (show m ≤ 1000 by omega) (by omega) hs.vs
  obtain ⟨B, hB, hBl, b1, b2⟩ := qEq (L := M) hq (show m ≤ 1000 by omega) (by omega) ht.vs
  obtain ⟨s1, s2, s3⟩ := qKv hq (show m ≤ 1000 by omega) (A := A) (B := B) (by omega) (by omega) hA hB
  have s0 := qKw hq (show m ≤ 1000 by omega) (A := A) (B := B) (by omega) (by omega) hA hB (q : Int) (m : Int)
  obtain ⟨D, hD, hDl, d1, d2⟩ := qEq (L := redB (q : Int) m (A ++ B)) hq (show m ≤ 1000 by omega) (by omega) s2
  refine ⟨((q : Int), (m : Int), D, 0), by show D.length ≤ 1048576; omega, fun x hx => by rw [(hD x hx).1]; omega, Ev.bind c1 (qAi hz (Ev.bind a1 (Ev.bind b1 (Ev.bind s0 (Ev.bind d1 (Ev.now _)))))), Ev.bind c2 (qAi hz (Ev.bind a2 (Ev.bind b2 ?_)))⟩
  exact Ev.bind (qA6 rfl) (qAi (by simp; omega) (Ev.bind (qA6 rfl) (qAi (by simp; omega) (Ev.bind s1 (Ev.bind d2 (Ev.now _))))))
 ·exact ⟨(0, 0, [], askT p n L p' n' M), by simp, by simp, Ev.bind c1 (qAs hz (Ev.now _)), Ev.bind c2 (qAs hz (Ev.now _))⟩
theorem qEp {a0_0 a0_1 : Int} {l0_2 : List (List Int)} {a1_0 a1_1 : Int} {l1_2 : List (List Int)} (h0 : Wf a0_0) (h1 : Wf a0_1) (h2 : WfLL l0_2) (h3 : Wf a1_0) (h4 : Wf a1_1) (h5 : WfLL l1_2) : ∃ k, z10.f k a0_0 a0_1 l0_2 a1_0 a1_1 l1_2 = some true := by
 refine Ev.rounds (g := fun k => z10.f k a0_0 a0_1 l0_2 a1_0 a1_1 l1_2) ?_
 unfold z10.f
 rcases qFj a0_0 a0_1 l0_2 1048576 h2 (by omega) (by omega) with ⟨t, ht, hn⟩ | ⟨ht, hb⟩
 ·exact Ev.bind ht (qAi hn (Ev.now _))
 have htn := qA7 l0_2
 refine Ev.bind ht (qAs (by omega) ?_)
 rcases qFj a1_0 a1_1 l1_2 (1048576 - l0_2.length - total l0_2) h5 (by omega) (by omega) with ⟨t, ht', hn⟩ | ⟨ht', hb'⟩
 ·exact Ev.bind ht' (qAi hn (Ev.now _))
 have htn' := qA7 l1_2
 refine Ev.bind ht' (qAs (by omega) ?_)
 have hrow : ∀ x ∈ l0_2, x.length ≤ 1048576 := fun x hx => by have := qCz l0_2 x hx; omega
 have hlen : l0_2.length ≤ 1048576 := by omega
 have hrow' : ∀ x ∈ l1_2, x.length ≤ 1048576 := fun x hx => by have := qCz l1_2 x hx; omega
 have hlen' : l1_2.length ≤ 1048576 := by omega
 have hto := qFi a0_0 a0_1 l0_2 hlen hrow
 have heq := qC2 a0_0 a0_1 l0_2 (by omega) (fun x hx => by have := hrow x hx; omega)
 have hto' := qFi a1_0 a1_1 l1_2 hlen' hrow'
 have heq' := qC2 a1_0 a1_1 l1_2 (by omega) (fun x hx => by have := hrow' x hx; omega)
 obtain ⟨g, hs, hs2, him, hsp⟩ := qI7 hlen hrow hlen' hrow' a0_0 a0_1 a1_0 a1_1
 obtain ⟨g0, g1, g2, g3⟩ := g
 dsimp only at hs hs2
 have htg := qG1 (l := g2) (m := 1024) hs2
 have htg0 := qA7 g2
 have heg := qC2 g0 g1 g2 (by omega) (fun x hx => by have := hs2 x hx; omega)
 have hm1 := qCr a0_0 a0_1 l0_2 1 (by omega) (by omega)
 have hm3 := qCr a1_0 a1_1 l1_2 (1 + total l0_2) (by omega) (by omega)
 have hm2 := qCr g0 g1 g2 1 (by omega) (by omega)
 have hh := qGn g0 g1 g2 1 (by omega) (by omega) (by omega)
 (repeat (first | exact Ev.now _ | refine qAi rfl ?_ | refine qAs (by simp only []; omega) ?_ | refine qAs (by omega) ?_ | refine qAs (by simp) ?_ | refine Ev.bind (by assumption) ?_ | refine Ev.bind (qA6 (by assumption)) ?_))
end Go.Proofs.Ytabfflgoaalapaa.B
