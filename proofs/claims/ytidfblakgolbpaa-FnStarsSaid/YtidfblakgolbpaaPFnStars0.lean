/- What the functions come to, for the law FnStars. -/
import Derived.Test.YtidfblakgolbpaaKABKJAH0
import Derived.Test.YtidfblakgolbpaaKBEEMKG0
import Derived.Test.YtidfblakgolbpaaKDJEOJC0
import Derived.Test.YtidfblakgolbpaaKGBPODH0
import Derived.Test.YtidfblakgolbpaaKGBPODH1
import Derived.Test.YtidfblakgolbpaaKGDJBOE0
import Derived.Test.YtidfblakgolbpaaKIPEDHF0
import Derived.Test.YtidfblakgolbpaaKKMFHGH0
import Derived.Test.YtidfblakgolbpaaKLFIGDF0
import Derived.Test.YtidfblakgolbpaaKOMGJCI0
import Derived.Test.YtidfblakgolbpaaKW0
set_option linter.unusedVariables false
set_option linter.unusedSimpArgs false
namespace Go.Proofs.Ytidfblakgolbpaa.B
open Go.RowKit Go.ChangeShapes Go.WideShapes Go.Deep Go.Proofs.YtidfblakgolbpaaW.PrintWords

def WfB (l : List Int) : Prop := l.length ≤ 9223372036854775807 ∧ ∀ n ∈ l, 0 ≤ n ∧ n ≤ 255
theorem byte_of {n : Int} (h : (Lit.int .u8 n).wf = true) : 0 ≤ n ∧ n ≤ 255 := by
 simp [Lit.wf, IntKind.min, IntKind.max, IntKind.bits, IntKind.signed] at h
 omega
section
variable {H : Type} {enc : TypeId × Value → H} {P : Program} {w : World} {base : Nat} {held : Bool} {fuel : Nat}
theorem opened_bytes {t e : TypeId} {v : Value} {x : DataW H × List MemPlace} (ht : P.underlying t = some (.slice e)) (he : P.underlying e = some (.int .u8)) (hc : P.cellsOf e = 1) (h : DataW.trod enc P w base (fun _ => true) held fuel t [v] = some x) :
  ∃ A l c, v = .slice A l.length c ∧ (Kd.int .u8).C w A l.length l ∧ l.length ≤ c ∧ WfB l := by
 rcases open_ints ht he hc h with ⟨hcs, _⟩ | ⟨a, l, c, zs, hcs, _, hl, hm, hz, _, hcell, hwz⟩
 ·refine ⟨none, [], 0, by simpa using hcs, ⟨rfl, by simp, fun h => by simp at h⟩, by simp, by simp [WfB]⟩
 ·simp only [if_true] at hz
  have hlen : (zs.take l).length = l := by rw [List.length_take]; omega
  refine ⟨some a, zs.take l, c, by rw [hlen]; simpa using hcs, ⟨rfl, by rw [hlen]; simp only [maxLen] at hm; omega, fun _ => ⟨a, rfl, fun j p hj => ?_⟩⟩, by omega, ?_, fun n hn => byte_of (hwz n (List.mem_of_mem_take hn))⟩
  ·have hjl : j < l := by have := (List.getElem?_eq_some_iff.1 hj).1; omega
   refine ⟨[.int .u8 p], rfl, rfl, fun i u hu => ?_⟩
   cases i with
   | zero =>
    simp only [List.getElem?_cons_zero, Option.some.injEq] at hu
    subst hu
    rw [Nat.add_zero, show j * (Kd.int .u8).sz = j from Nat.mul_one j, hcell j (by omega)]
    rw [List.getElem?_take, if_pos hjl] at hj
    rw [List.getD_eq_getElem?_getD, hj]; rfl
   | succ i => simp at hu
  ·rw [hlen]; simp only [maxLen] at hm; omega
end
end Go.Proofs.Ytidfblakgolbpaa.B

set_option linter.unusedVariables false
set_option linter.unusedSimpArgs false
namespace Go.Proofs.Ytidfblakgolbpaa.B
open Go.RowKit Go.Proofs.YtidfblakgolbpaaW.PrintWords

theorem row_le_total : ∀ (l : List (List Int)) (x : List Int), x ∈ l → x.length ≤ total l
 | [], x, h => by cases h
 | y :: l, x, h => by
  simp only [total]
  rcases List.mem_cons.1 h with rfl | h
  ·have := total_nonneg l; omega
  ·have := row_le_total l x h; omega
theorem total_le_of {l : List (List Int)} {m : Nat} (h : ∀ x ∈ l, x.length ≤ m) : total l ≤ l.length * m := by
 induction l with
 | nil => simp [total]
 | cons x l ih =>
  have h1 := h x List.mem_cons_self
  have h2 := ih (fun y hy => h y (List.mem_cons_of_mem _ hy))
  simp only [total, List.length_cons]
  rw [Int.natCast_add, Int.add_mul]
  omega
end Go.Proofs.Ytidfblakgolbpaa.B

set_option linter.unusedVariables false
set_option linter.unusedSimpArgs false
namespace Go.Proofs.Ytidfblakgolbpaa.B
open Go.RowKit Go.Proofs.YtidfblakgolbpaaW.PrintWords

theorem markInts_get : ∀ (l : List Int) (a : Int) (i : Nat), i < l.length → (markInts l a).getD i 0 = a + i
 | [], a, i, h => by simp at h
 | x :: l, a, 0, h => by simp [markInts]
 | x :: l, a, i + 1, h => by
  have := markInts_get l (a + 1) i (by simpa using h)
  simp only [markInts, List.getD_cons_succ, this]
  omega
theorem markRows_get : ∀ (l : List (List Int)) (a : Int) (i : Nat), i < l.length → (markRows l a).getD i [] = markInts (l.getD i []) (a + total (l.take i))
 | [], a, i, h => by simp at h
 | x :: l, a, 0, h => by simp [markRows, total]
 | x :: l, a, i + 1, h => by
  have := markRows_get l (a + x.length) i (by simpa using h)
  simp only [markRows, List.getD_cons_succ, this, List.take_succ_cons, total]
  congr 1
  omega
theorem total_take_succ' (l0 : List (List Int)) (k : Nat) (hk : k < l0.length) : total (l0.take (k + 1)) = total (l0.take k) + (l0.getD k []).length := by
 have ht : l0.take (k + 1) = l0.take k ++ [l0.getD k []] := by
  rw [List.take_succ_eq_append_getElem hk, List.getD_eq_getElem?_getD, List.getElem?_eq_getElem hk]; rfl
 rw [ht, total_append]; simp [total]
theorem total_take_le' (l0 : List (List Int)) (k : Nat) : total (l0.take k) ≤ total l0 := by
 have h := total_append (l0.take k) (l0.drop k)
 rw [List.take_append_drop] at h
 have := total_nonneg (l0.drop k)
 omega
end Go.Proofs.Ytidfblakgolbpaa.B

set_option linter.unusedVariables false
set_option linter.unusedSimpArgs false
namespace Go.Proofs.Ytidfblakgolbpaa.B
open Go.RowKit Go.Proofs.YtidfblakgolbpaaW.PrintWords

end Go.Proofs.Ytidfblakgolbpaa.B

set_option linter.unusedVariables false
set_option linter.unusedSimpArgs false
namespace Go.Proofs.Ytidfblakgolbpaa.B
open Go.RowKit Go.Proofs.YtidfblakgolbpaaW.PrintWords
end Go.Proofs.Ytidfblakgolbpaa.B

set_option linter.unusedVariables false
set_option linter.unusedSimpArgs false
namespace Go.Proofs.Ytidfblakgolbpaa.B
open Go.RowKit Go.Proofs.YtidfblakgolbpaaW.PrintWords
open SimT

section
variable {C : List (List Int)} (hl : C.length ≤ 1048576) (hr : ∀ x ∈ C, x.length ≤ 1048576)
include hl hr
omit hl hr in
theorem size_val (l : List Int) : z49.f l = some (l.length : Int) := rfl
omit hl hr in
def ofDim (C : List (List Int)) (d : Int) : List Int := filt (fun i => decide (((C.getD i []).length : Int) = d + 1)) C.length
omit hr in
theorem simplicesOf_ev {d : Int} (h0 : -1000 ≤ d) (h1 : d ≤ 1000) : Ev (fun k => z23.f k C d) (ofDim C d) := by
 unfold z23.f
 refine ev_filt (fun (s : List Int) (j : Nat) k => z23.l0 k d s C (C.length : Int) (j : Int)) (fun i => decide (((C.getD i []).length : Int) = d + 1)) C.length (fun j s hj hs hp r hr' => ?_) (fun j s hj hs hp r hr' => ?_) _ ?_
 ·refine Ev.step (fun k => z23.l0.eq_2 ..) ?_
  rw [rdl_nat, wrap_succ (by omega), wrap_small (x := d + 1) (by omega) (by omega)]
  exact ev_pos (by omega) (ev_pos (by omega) (ev_pos (by omega) (Ev.bind (ev_const (size_val _)) (ev_pos (of_decide_eq_true hp) (ev_pos (by omega) hr')))))
 ·refine Ev.step (fun k => z23.l0.eq_2 ..) ?_
  rw [rdl_nat, wrap_succ (by omega), wrap_small (x := d + 1) (by omega) (by omega)]
  exact ev_pos (by omega) (ev_pos (by omega) (ev_pos (by omega) (Ev.bind (ev_const (size_val _)) (ev_neg (of_decide_eq_false hp) hr'))))
 ·refine Ev.step (fun k => z23.l0.eq_2 ..) ?_
  exact ev_neg (by omega) (Ev.now _)
omit hr in
omit hl hr in
def faceIdx (C : List (List Int)) (s : List Int) : List Int := (faces s).map (idx C)
theorem faceIndices_ev (hs : Srt C) {i : Nat} (hi : i < C.length) : Ev (fun k => z17.f k C (i : Int)) (faceIdx C (C.getD i [])) := by
 unfold z17.f
 have hrow := hr _ (getD_mem ([] : List Int) hi)
 rw [rdl_nat]
 refine ev_pos (by omega) (ev_pos (by omega) (Ev.bind (facesOf_ev _ (by omega)) ?_))
 have hfl := faces_len (C.getD i [])
 have e : faceIdx C (C.getD i []) = (List.range (faces (C.getD i [])).length).map fun j => idx C ((faces (C.getD i [])).getD j []) := map_range [] (idx C) _
 rw [e]
 refine ev_map (fun (s : List Int) (j : Nat) k => z17.l0 k s (faces (C.getD i [])) ((faces (C.getD i [])).length : Int) (j : Int) C) (fun j => idx C ((faces (C.getD i [])).getD j [])) (faces (C.getD i [])).length (fun j s hj hs' r hr' => ?_) _ ?_
 ·refine Ev.step (fun k => z17.l0.eq_2 ..) ?_
  have hsl : s.length = j := by rw [hs']; simp
  have hf := faces_row (getD_mem ([] : List Int) hj)
  rw [rdl_nat, wrap_succ (by omega)]
  exact ev_pos (by omega) (ev_pos (by omega) (ev_pos (by omega) (Ev.bind (indexOf_ev C _ (by omega) (fun x hx => by have := hr x hx; omega) (by omega) hs) (ev_pos (by omega) hr'))))
 ·refine Ev.step (fun k => z17.l0.eq_2 ..) ?_
  exact ev_neg (by omega) (Ev.now _)
end
end Go.Proofs.Ytidfblakgolbpaa.B

set_option linter.unusedVariables false
set_option linter.unusedSimpArgs false
namespace Go.Proofs.Ytidfblakgolbpaa.B
open Go.RowKit Go.Proofs.YtidfblakgolbpaaW.PrintWords
open SimT

section
variable {C : List (List Int)} (hl : C.length ≤ 1048576) (hr : ∀ x ∈ C, x.length ≤ 1048576)
def part (a b : List Int) : Bool := a.all fun v => has b v
theorem notIn_ev (b : List Int) (v : Int) (hb : b.length < 9223372036854775807) : Ev (fun k => z54.f k v b) (!has b v) := by
 unfold z54.f
 exact Ev.bind (contains_ev b v hb) (Ev.now _)
theorem anyNotIn_ev (a b : List Int) (ha : a.length < 9223372036854775807) (hb : b.length < 9223372036854775807) : Ev (fun k => z113.f k a b) (a.any fun v => !has b v) := by
 obtain ⟨t, ht, hd⟩ := ev_index_list (a) 0 (fun i k => z114.l0 k (a) ((a).length : Int) (i : Int) b) (fun v => !has b v) (fun j hj hp r hr => by
   refine Ev.step (fun k => z114.l0.eq_2 ..) ?_
   refine ev_pos (by omega) (ev_pos (by omega) (ev_pos (by omega) ?_))
   rw [rd_nat, wrap_succ (by omega)]
   exact Ev.bind (notIn_ev b _ hb) (ev_neg (by rw [hp]; decide) hr)) (fun j hj hp => by
   refine Ev.step (fun k => z114.l0.eq_2 ..) ?_
   refine ev_pos (by omega) (ev_pos (by omega) (ev_pos (by omega) ?_))
   rw [rd_nat]
   exact Ev.bind (notIn_ev b _ hb) (ev_pos hp (Ev.now _))) (by
   refine Ev.step (fun k => z114.l0.eq_2 ..) ?_
   exact ev_neg (by omega) (Ev.now _))
 unfold z113.f z114.f
 refine Ev.bind ht (ev_eq (Ev.now _) hd)
theorem isFace_ev (a b : List Int) (ha : a.length < 9223372036854775807) (hb : b.length < 9223372036854775807) : Ev (fun k => z30.f k a b) (part a b) := by
 unfold z30.f
 refine Ev.bind (anyNotIn_ev a b ha hb) (ev_eq (Ev.now _) ?_)
 unfold part
 rw [List.any_eq_not_all_not]; simp
def star (C : List (List Int)) (s : List Int) : List Int := filt (fun i => part s (C.getD i [])) C.length
include hl hr
theorem starOf_ev {i : Nat} (hi : i < C.length) : Ev (fun k => z16.f k C (i : Int)) (star C (C.getD i [])) := by
 unfold z16.f
 have hrow := hr _ (getD_mem ([] : List Int) hi)
 refine ev_filt (fun (s : List Int) (j : Nat) k => z16.l0 k (i : Int) s C (C.length : Int) (j : Int) C) (fun j => part (C.getD i []) (C.getD j [])) C.length (fun j s hj hs hp r hr' => ?_) (fun j s hj hs hp r hr' => ?_) _ ?_
 ·refine Ev.step (fun k => z16.l0.eq_2 ..) ?_
  have hrow2 := hr _ (getD_mem ([] : List Int) hj)
  rw [rdl_nat, rdl_nat, wrap_succ (by omega)]
  exact ev_pos (by omega) (ev_pos (by omega) (ev_pos (by omega) (ev_pos (by omega) (ev_pos (by omega) (Ev.bind (isFace_ev _ _ (by omega) (by omega)) (ev_pos hp (ev_pos (by omega) hr')))))))
 ·refine Ev.step (fun k => z16.l0.eq_2 ..) ?_
  have hrow2 := hr _ (getD_mem ([] : List Int) hj)
  rw [rdl_nat, rdl_nat, wrap_succ (by omega)]
  exact ev_pos (by omega) (ev_pos (by omega) (ev_pos (by omega) (ev_pos (by omega) (ev_pos (by omega) (Ev.bind (isFace_ev _ _ (by omega) (by omega)) (ev_neg (by rw [hp]; decide) hr'))))))
 ·refine Ev.step (fun k => z16.l0.eq_2 ..) ?_
  exact ev_neg (by omega) (Ev.now _)
omit hl hr in
theorem sizeL_val (l : List (List Int)) : z29.f l = some (l.length : Int) := rfl
omit hl hr in
def facetsC (C : List (List Int)) : List Int := filt (fun i => (star C (C.getD i [])).length == 1) C.length
omit hl hr in
def askC (C : List (List Int)) (i : Int) : Int := if okC C = true then (if (decide (0 ≤ i) && decide (i ≤ (C.length : Int) - 1)) = true then 0 else 2) else 1
theorem hasSimplex_ev (i : Int) : Ev (fun k => z15.f k C i) (askC C i) := by
 unfold z15.f askC
 refine Ev.bind (implValid_ev C hl hr) ?_
 cases ho : okC C with
 | false => exact ev_neg (by decide) (ev_eq (Ev.now _) (by simp))
 | true =>
  refine ev_pos rfl (Ev.bind (ev_const (sizeL_val C)) ?_)
  rw [wrap_small (by omega) (by omega), if_pos (show true = true from rfl)]
  refine Ev.bind (ev_const (within_val _ _ _)) ?_
  cases (decide (0 ≤ i) && decide (i ≤ (C.length : Int) - 1)) with
  | true => exact ev_pos rfl (Ev.now _)
  | false => exact ev_neg (by decide) (Ev.now _)
omit hl hr in
theorem askC_zero {i : Int} (h : askC C i = 0) : okC C = true ∧ ∃ n : Nat, i = (n : Int) ∧ n < C.length := by
 unfold askC at h
 split at h
 ·rename_i ho
  split at h
  ·rename_i hi
   rw [Bool.and_eq_true, decide_eq_true_iff, decide_eq_true_iff] at hi
   exact ⟨ho, i.toNat, by omega, by omega⟩
  ·omega
 ·omega
end
end Go.Proofs.Ytidfblakgolbpaa.B

set_option linter.unusedVariables false
set_option linter.unusedSimpArgs false
namespace Go.Proofs.Ytidfblakgolbpaa.B
open Go.RowKit Go.Proofs.YtidfblakgolbpaaW.PrintWords

def starOfC (C : List (List Int)) (i : Int) : List Int × Int := if askC C i = 0 then (star C (C.getD i.toNat []), 0) else ([], askC C i)
theorem implStarOf_ev {C : List (List Int)} (hl : C.length ≤ 1048576) (hr : ∀ x ∈ C, x.length ≤ 1048576) (i : Int) : Ev (fun k => z7.f k C i) (starOfC C i) := by
 unfold z7.f starOfC
 refine Ev.bind (hasSimplex_ev hl hr i) ?_
 by_cases h : askC C i = 0
 ·obtain ⟨ho, n, rfl, hn⟩ := askC_zero h
  have hs := (okC_iff.1 ho).2.1
  refine ev_eq (ev_pos h (Ev.bind (starOf_ev hl hr hn) (Ev.now _))) ?_
  rw [if_pos h, Int.toNat_natCast]
 ·exact ev_eq (ev_neg h (Ev.now _)) (if_neg h).symm
theorem starOfC_small {C : List (List Int)} (hl : C.length ≤ 1048576) (hr : ∀ x ∈ C, x.length ≤ 1048576) (i : Int) : (starOfC C i).1.length ≤ 1048576 := by
 unfold starOfC
 split
 ·rename_i h
  obtain ⟨ho, n, rfl, hn⟩ := askC_zero h
  have hrn := hr _ (getD_mem ([] : List Int) hn)
  exact Nat.le_trans (filt_le _ _) hl
 ·simp

end Go.Proofs.Ytidfblakgolbpaa.B

set_option linter.unusedVariables false
set_option linter.unusedSimpArgs false
namespace Go.Proofs.Ytidfblakgolbpaa.B
open Go.RowKit Go.Proofs.YtidfblakgolbpaaW.PrintWords

def facesOfC (C : List (List Int)) (i : Int) : List Int × Int := if askC C i = 0 then (faceIdx C (C.getD i.toNat []), 0) else ([], askC C i)
theorem implFacesOf_ev {C : List (List Int)} (hl : C.length ≤ 1048576) (hr : ∀ x ∈ C, x.length ≤ 1048576) (i : Int) : Ev (fun k => z8.f k C i) (facesOfC C i) := by
 unfold z8.f facesOfC
 refine Ev.bind (hasSimplex_ev hl hr i) ?_
 by_cases h : askC C i = 0
 ·obtain ⟨ho, n, rfl, hn⟩ := askC_zero h
  have hs := (okC_iff.1 ho).2.1
  refine ev_eq (ev_pos h (Ev.bind (faceIndices_ev hl hr hs hn) (Ev.now _))) ?_
  rw [if_pos h, Int.toNat_natCast]
 ·exact ev_eq (ev_neg h (Ev.now _)) (if_neg h).symm
theorem facesOfC_small {C : List (List Int)} (hl : C.length ≤ 1048576) (hr : ∀ x ∈ C, x.length ≤ 1048576) (i : Int) : (facesOfC C i).1.length ≤ 1048576 := by
 unfold facesOfC
 split
 ·rename_i h
  obtain ⟨ho, n, rfl, hn⟩ := askC_zero h
  have hrn := hr _ (getD_mem ([] : List Int) hn)
  simp only [Int.toNat_natCast]
  have := faces_len (C.getD n [])
  unfold faceIdx
  rw [List.length_map]; omega
 ·simp

end Go.Proofs.Ytidfblakgolbpaa.B

set_option linter.unusedVariables false
set_option linter.unusedSimpArgs false
namespace Go.Proofs.Ytidfblakgolbpaa.B
open Go.RowKit Go.Proofs.YtidfblakgolbpaaW.PrintWords

def simplicesOfC (C : List (List Int)) (d : Int) : List Int × Int := if okC C = true then (if (decide (0 ≤ d) && decide (d ≤ 3)) = true then (ofDim C d, 0) else ([], 2)) else ([], 1)
theorem implSimplicesOf_ev {C : List (List Int)} (hl : C.length ≤ 1048576) (hr : ∀ x ∈ C, x.length ≤ 1048576) (d : Int) : Ev (fun k => z12.f k C d) (simplicesOfC C d) := by
 unfold z12.f simplicesOfC z22.f
 refine Ev.bind (implValid_ev C hl hr) ?_
 cases ho : okC C with
 | false => exact ev_neg (by decide) (ev_eq (Ev.now _) (by simp))
 | true =>
  refine ev_pos rfl (Ev.bind (a := decide (0 ≤ d) && decide (d ≤ 3)) (Ev.bind (ev_const (within_val _ _ _)) (Ev.now _)) ?_)
  cases hd : decide (0 ≤ d) && decide (d ≤ 3) with
  | false => exact ev_neg (by decide) (ev_eq (Ev.now _) (by simp))
  | true =>
   rw [Bool.and_eq_true, decide_eq_true_iff, decide_eq_true_iff] at hd
   exact ev_pos rfl (Ev.bind (simplicesOf_ev hl (by omega) (by omega)) (ev_eq (Ev.now _) (by simp)))
theorem simplicesOfC_small {C : List (List Int)} (hl : C.length ≤ 1048576) (d : Int) : (simplicesOfC C d).1.length ≤ 1048576 := by
 unfold simplicesOfC
 split
 ·split
  ·exact Nat.le_trans (filt_le _ _) hl
  ·simp
 ·simp

end Go.Proofs.Ytidfblakgolbpaa.B

set_option linter.unusedVariables false
set_option linter.unusedSimpArgs false
namespace Go.Proofs.Ytidfblakgolbpaa.B
open Go.RowKit Go.Proofs.YtidfblakgolbpaaW.PrintWords
open SimT

theorem ev_filtR {β : Type} (L : List (List Int) → Nat → Nat → Option β) (C : List (List Int)) (p : List Int → Bool) (h1 : ∀ j s, j < C.length → s.length ≤ j → p (C.getD j []) = true → Le (L (s ++ [C.getD j []]) (j + 1)) (L s j)) (h0 : ∀ j s, j < C.length → s.length ≤ j → p (C.getD j []) = false → Le (L s (j + 1)) (L s j)) : Le (L (C.filter p) C.length) (L [] 0) := by
 have main : ∀ n, n ≤ C.length → Le (L ((C.take n).filter p) n) (L [] 0) := by
  intro n
  induction n with
  | zero => exact fun _ r hr => by simpa using hr
  | succ n ih =>
   intro hn
   have ht : C.take (n + 1) = C.take n ++ [C.getD n []] := by
    rw [List.take_succ_eq_append_getElem hn, List.getD_eq_getElem?_getD, List.getElem?_eq_getElem hn]; rfl
   have hsl : ((C.take n).filter p).length ≤ n := Nat.le_trans (List.length_filter_le _ _) (by rw [List.length_take]; omega)
   rw [ht, List.filter_append]
   cases hp : p (C.getD n []) with
   | true =>
    rw [show List.filter p [C.getD n []] = [C.getD n []] by rw [List.filter_cons, hp]; rfl]
    exact Le.trans (h1 n _ (by omega) hsl hp) (ih (by omega))
   | false =>
    rw [show List.filter p [C.getD n []] = [] by rw [List.filter_cons, hp]; rfl, List.append_nil]
    exact Le.trans (h0 n _ (by omega) hsl hp) (ih (by omega))
 have := main C.length (Nat.le_refl _)
 rwa [List.take_length] at this
theorem sortS_srt {l : List (List Int)} (h : Srt l) : sortS l = l := by
 unfold sortS
 refine List.mergeSort_of_pairwise (List.Pairwise.imp (fun {a b} h => ?_) h)
 rw [slt_asymm h]; rfl
theorem dedup_id {l : List (List Int)} (h : ∀ j, j + 1 < l.length → l.getD (j + 1) [] ≠ l.getD j []) : dedup l = l := by
 unfold dedup keepIx
 rw [List.filter_eq_self.2 (fun j hj => ?_)]
 ·have := map_range ([] : List Int) id l
  simpa using this.symm
 ·rw [List.mem_range] at hj
  unfold keepAt
  cases j with
  | zero => rfl
  | succ j =>
   have := h j hj
   rw [show j + 1 - 1 = j from rfl, beq_eq_false_iff_ne.2 this]
   simp
theorem dedup_srt {l : List (List Int)} (h : Srt l) : dedup l = l :=
 dedup_id fun j hj e => by
  have := slt_ne (srt_get h (i := j) (j := j + 1) (by omega) hj)
  exact this e.symm
theorem inOrder_val {l : List (List Int)} (h : Srt l) (hl : l.length ≤ 1048576) (hr : ∀ x ∈ l, x.length ≤ 1048576) : impl_inOrder.f l = some l := by
 unfold impl_inOrder.f
 rw [sortS_srt h, dedup_srt h, if_pos]
 simp only [Bool.and_eq_true, decide_eq_true_eq, List.all_eq_true]
 exact ⟨hl, hr⟩
theorem sortS_mem {l : List (List Int)} {x : List Int} : x ∈ sortS l ↔ x ∈ l := by
 unfold sortS
 exact List.mem_mergeSort
theorem sortS_of_nodup {l : List (List Int)} (h : l.Nodup) : Srt (sortS l) := by
 have hn : (sortS l).Nodup := (List.mergeSort_perm l _).nodup_iff.2 h
 have hp : (sortS l).Pairwise (fun a b => (!(slt b a)) = true) := by
  unfold sortS
  refine List.pairwise_mergeSort (fun a b c h1 h2 => ?_) (fun a b => ?_) l
  ·rw [Bool.not_eq_true', ← lt_scmp] at *
   exact swo_scmp.ntrans c b a h2 h1
  ·rcases slt_tri a b with h | h | h
   ·rw [slt_asymm h]; rfl
   ·subst h; rw [slt_irrefl]; rfl
   ·rw [slt_asymm h]; simp
 refine List.Pairwise.imp (fun {a b} h => ?_) (hp.and hn)
 obtain ⟨h1, h2⟩ := h
 rcases slt_tri a b with h | h | h
 ·exact h
 ·exact absurd h h2
 ·rw [h] at h1; cases h1
theorem inOrder_nodup {l : List (List Int)} (h : l.Nodup) (hl : l.length ≤ 1048576) (hr : ∀ x ∈ l, x.length ≤ 1048576) : impl_inOrder.f l = some (sortS l) := by
 unfold impl_inOrder.f
 rw [dedup_srt (sortS_of_nodup h), if_pos]
 simp only [Bool.and_eq_true, decide_eq_true_eq, List.all_eq_true]
 exact ⟨hl, hr⟩
end Go.Proofs.Ytidfblakgolbpaa.B

set_option linter.unusedVariables false
set_option linter.unusedSimpArgs false
namespace Go.Proofs.Ytidfblakgolbpaa.B
open Go.RowKit Go.Proofs.YtidfblakgolbpaaW.PrintWords
open SimT

theorem inc_of_rising {l : List Int} (h : rising l = true) : Inc l := by
 unfold rising at h
 rw [List.all_eq_true] at h
 have main : ∀ d i, i + d + 1 < l.length → l.getD i 0 < l.getD (i + d + 1) 0 := by
  intro d
  induction d with
  | zero =>
   intro i hi
   have := h (i + 1) (List.mem_range.2 hi)
   unfold rises at this
   simpa using this
  | succ d ih =>
   intro i hi
   have h1 := ih i (by omega)
   have h2 := h (i + d + 2) (List.mem_range.2 (by omega))
   unfold rises at h2
   have h2 : l.getD (i + d + 1) 0 < l.getD (i + d + 2) 0 := by simpa using h2
   exact Int.lt_trans h1 h2
 refine List.pairwise_iff_getElem.2 (fun i j hi hj hij => ?_)
 have := main (j - i - 1) i (by omega)
 rw [show i + (j - i - 1) + 1 = j by omega] at this
 simpa [List.getD_eq_getElem?_getD, List.getElem?_eq_getElem hj, List.getElem?_eq_getElem hi] using this
theorem inc_simplex {s : List Int} (h : isSimplex s = true) : Inc s := by
 unfold isSimplex at h
 simp only [Bool.and_eq_true] at h
 exact inc_of_rising h.2.1
def rest (s t : List Int) : List Int := t.filter fun x => !has s x
theorem mem_rest {s t : List Int} {x : Int} : x ∈ rest s t ↔ x ∈ t ∧ x ∉ s := by
 unfold rest
 rw [List.mem_filter, Bool.not_eq_true', ← Bool.not_eq_true, has_iff]
theorem rest_sub (s t : List Int) : (rest s t).Sublist t := List.filter_sublist
theorem rest_len (s t : List Int) : (rest s t).length ≤ t.length := (rest_sub s t).length_le
theorem part_iff {a b : List Int} : part a b = true ↔ ∀ x ∈ a, x ∈ b := by
 unfold part
 rw [List.all_eq_true]
 exact ⟨fun h x hx => has_iff.1 (h x hx), fun h x hx => has_iff.2 (h x hx)⟩
def linkL (C : List (List Int)) (s : List Int) : List (List Int) := (((C.filter (part s)).map (rest s)).filter fun r => !r.isEmpty)
theorem mem_linkL {C : List (List Int)} {s r : List Int} : r ∈ linkL C s ↔ (∃ t, t ∈ C ∧ (∀ x ∈ s, x ∈ t) ∧ rest s t = r) ∧ r ≠ [] := by
 unfold linkL
 rw [List.mem_filter, List.mem_map]
 constructor
 ·rintro ⟨⟨t, ht, rfl⟩, h2⟩
  obtain ⟨h1, h3⟩ := List.mem_filter.1 ht
  exact ⟨⟨t, h1, part_iff.1 h3, rfl⟩, fun e => by rw [e] at h2; cases h2⟩
 ·rintro ⟨⟨t, h1, h3, rfl⟩, h2⟩
  exact ⟨⟨t, List.mem_filter.2 ⟨h1, part_iff.2 h3⟩, rfl⟩, by simpa using h2⟩
theorem linkL_nodup {C : List (List Int)} {s : List Int} (ho : okC C = true) (hs : s ∈ C) : (linkL C s).Nodup := by
 obtain ⟨_, h2, h3, _⟩ := okC_iff.1 ho
 unfold linkL
 refine List.Pairwise.filter _ (List.pairwise_map.2 (List.Pairwise.imp_of_mem (R := fun a b => a ≠ b) (fun {a b} ha hb hne e => hne ?_) (List.Pairwise.filter _ (srt_nodup h2))))
 obtain ⟨ha1, ha2⟩ := List.mem_filter.1 ha
 obtain ⟨hb1, hb2⟩ := List.mem_filter.1 hb
 have ha2 := part_iff.1 ha2
 have hb2 := part_iff.1 hb2
 refine inc_ext (inc_simplex (h3 a ha1)) (inc_simplex (h3 b hb1)) (fun x => ?_)
 by_cases hx : x ∈ s
 ·exact ⟨fun _ => hb2 x hx, fun _ => ha2 x hx⟩
 ·have h4 : x ∈ rest s a ↔ x ∈ rest s b := by rw [e]
  rw [mem_rest, mem_rest] at h4
  exact ⟨fun h => (h4.1 ⟨h, hx⟩).1, fun h => (h4.2 ⟨h, hx⟩).1⟩
theorem linkL_len {C : List (List Int)} (s : List Int) : (linkL C s).length ≤ C.length := by
 unfold linkL
 refine Nat.le_trans (List.length_filter_le _ _) ?_
 rw [List.length_map]
 exact List.length_filter_le _ _
theorem linkL_row {C : List (List Int)} {s r : List Int} (ho : okC C = true) (h : r ∈ linkL C s) : r.length ≤ 4 := by
 obtain ⟨⟨t, h1, _, rfl⟩, _⟩ := mem_linkL.1 h
 exact Nat.le_trans (rest_len s t) (simplex_len ((okC_iff.1 ho).2.2.1 t h1)).2
theorem linkL_face {C : List (List Int)} {s r x : List Int} (ho : okC C = true) (hs : s ∈ C) (hr : r ∈ linkL C s) (hx : x.Sublist r) (hne : x ≠ []) : x ∈ linkL C s := by
 obtain ⟨_, _, h3, h4⟩ := okC_iff.1 ho
 obtain ⟨⟨t, h1, h2, rfl⟩, _⟩ := mem_linkL.1 hr
 have hxt : x.Sublist t := hx.trans (rest_sub s t)
 have ht := inc_simplex (h3 t h1)
 have hxi : Inc x := inc_sub hxt ht
 have hxr : ∀ y ∈ x, y ∈ t ∧ y ∉ s := fun y hy => mem_rest.1 (hx.subset hy)
 let u := t.filter fun y => has s y || has x y
 have hut : u.Sublist t := List.filter_sublist
 have hum : ∀ y, y ∈ u ↔ y ∈ t ∧ (y ∈ s ∨ y ∈ x) := fun y => by
  show y ∈ t.filter _ ↔ _
  rw [List.mem_filter, Bool.or_eq_true, has_iff, has_iff]
 have hune : u ≠ [] := fun e => by
  cases x with
  | nil => exact hne rfl
  | cons a x =>
   have := (hum a).2 ⟨(hxr a List.mem_cons_self).1, .inr List.mem_cons_self⟩
   rw [e] at this; cases this
 refine mem_linkL.2 ⟨⟨u, closed_mem h4 h1 hut hune, fun y hy => (hum y).2 ⟨h2 y hy, .inl hy⟩, ?_⟩, hne⟩
 refine inc_ext (inc_sub (rest_sub s u) (inc_sub hut ht)) hxi (fun y => ?_)
 rw [mem_rest, hum]
 constructor
 ·rintro ⟨⟨_, h | h⟩, h5⟩
  ·exact absurd h h5
  ·exact h
 ·intro h
  exact ⟨⟨(hxr y h).1, .inr h⟩, (hxr y h).2⟩
theorem link_both {C : List (List Int)} {s : List Int} (ho : okC C = true) (hs : s ∈ C) : (linkL C s).foldl (fun C s => putN s.length C s) [] = sortS (linkL C s) := by
 obtain ⟨h1, _, h3⟩ := put_all (linkL C s) (C := []) (fun r hr => (mem_linkL.1 hr).2) List.Pairwise.nil (fun s hs => by cases hs)
 refine srt_ext h1 (sortS_of_nodup (linkL_nodup ho hs)) (fun x => ?_)
 rw [h3, sortS_mem]
 constructor
 ·rintro (h | ⟨⟨r, hr, hx⟩, hne⟩)
  ·cases h
  ·exact linkL_face ho hs hr hx hne
 ·intro h
  exact .inr ⟨⟨x, h, List.Sublist.refl _⟩, (mem_linkL.1 h).2⟩
theorem iter_foldl {σ α : Type} (G : σ → α → σ) (z : α) (xs : List α) (s : σ) : iter (fun j s => G s (xs.getD j z)) 0 xs.length s = xs.foldl G s := by
 have main : ∀ n, n ≤ xs.length → iter (fun j s => G s (xs.getD j z)) 0 n s = (xs.take n).foldl G s := by
  intro n
  induction n with
  | zero => intro _; rfl
  | succ n ih =>
   intro hn
   rw [iter_last, ih (by omega), Nat.zero_add, List.take_succ_eq_append_getElem (by omega), List.foldl_append, List.foldl_cons, List.foldl_nil, List.getD_eq_getElem?_getD, List.getElem?_eq_getElem (by omega)]
   rfl
 have := main xs.length (Nat.le_refl _)
 rwa [List.take_length] at this
def stepI (C : List (List Int)) (s : List Int) (acc : List (List Int)) (i : Int) : List (List Int) := if (rest s (C.getD i.toNat [])).isEmpty then acc else acc ++ [rest s (C.getD i.toNat [])]
def stepS (C : List (List Int)) (s : List Int) (acc : List (List Int)) (i : Int) : List (List Int) := if (rest s (C.getD i.toNat [])).isEmpty then acc else putN (rest s (C.getD i.toNat [])).length acc (rest s (C.getD i.toNat []))
theorem star_map (C : List (List Int)) (s : List Int) : (star C s).map (fun i => C.getD i.toNat []) = C.filter (part s) := by
 unfold star filt
 rw [List.map_map]
 have h : C = (List.range C.length).map fun j => C.getD j [] := by
  have := map_range ([] : List Int) id C
  simpa using this
 conv => rhs; rw [h, List.filter_map]
 rfl
theorem steps_I (C : List (List Int)) (s : List Int) : ∀ (L : List Int) (acc : List (List Int)), L.foldl (stepI C s) acc = acc ++ ((L.map fun i => rest s (C.getD i.toNat [])).filter fun r => !r.isEmpty)
 | [], acc => by simp
 | i :: L, acc => by
  rw [List.foldl_cons, steps_I C s L, List.map_cons, List.filter_cons]
  unfold stepI
  cases (rest s (C.getD i.toNat [])).isEmpty <;> simp
theorem steps_S (C : List (List Int)) (s : List Int) : ∀ (L : List Int) (acc : List (List Int)), L.foldl (stepS C s) acc = ((L.map fun i => rest s (C.getD i.toNat [])).filter fun r => !r.isEmpty).foldl (fun C s => putN s.length C s) acc
 | [], acc => by simp
 | i :: L, acc => by
  rw [List.foldl_cons, steps_S C s L, List.map_cons, List.filter_cons]
  unfold stepS
  cases (rest s (C.getD i.toNat [])).isEmpty <;> simp
theorem link_map (C : List (List Int)) (s : List Int) : ((star C s).map fun i => rest s (C.getD i.toNat [])).filter (fun r => !r.isEmpty) = linkL C s := by
 unfold linkL
 rw [← star_map, List.map_map]
 rfl
theorem star_at {C : List (List Int)} {s : List Int} {j : Nat} (hj : j < (star C s).length) : ∃ n : Nat, (star C s).getD j 0 = (n : Int) ∧ n < C.length ∧ part s (C.getD n []) = true := by
 obtain ⟨i, h1, h2, h3⟩ := mem_filt.1 (getD_mem (0 : Int) hj)
 exact ⟨i, h3, h1, h2⟩
theorem cnt4 : cntN 4 = 41 := rfl
theorem cnt_le {n : Nat} (h : n ≤ 4) : cntN n ≤ 41 := by
 rcases n with _ | _ | _ | _ | _ | n
 ·decide
 ·decide
 ·decide
 ·decide
 ·decide
 ·omega
def linkC (C : List (List Int)) (i : Int) : List (List Int) × Int := if askC C i = 0 then (sortS (linkL C (C.getD i.toNat [])), 0) else ([], askC C i)
section
variable {C : List (List Int)} (hl : C.length ≤ 1048576) (hr : ∀ x ∈ C, x.length ≤ 1048576)
include hl hr
theorem implLink_ev (i : Int) : Ev (fun k => z9.f k C i) (linkC C i) := by
 unfold z9.f linkC
 refine Ev.bind (hasSimplex_ev hl hr i) ?_
 by_cases h : askC C i = 0
 ·obtain ⟨ho, n, rfl, hn⟩ := askC_zero h
  have hsC := getD_mem ([] : List Int) hn
  have hrn := hr _ hsC
  have hst : (star C (C.getD n [])).length ≤ C.length := filt_le _ _
  refine ev_eq (ev_pos h (Ev.bind (starOf_ev hl hr hn) ?_)) (by rw [if_pos h, Int.toNat_natCast])
  obtain ⟨h1, h2⟩ := le_iter_inv (fun acc j k => z9.l0 k (n : Int) acc (star C (C.getD n [])) ((star C (C.getD n [])).length : Int) (j : Int) C) (fun j acc => stepI C (C.getD n []) acc ((star C (C.getD n [])).getD j 0)) (fun j acc => acc.length ≤ j) (star C (C.getD n [])).length 0 [] (by simp) (by
   intro j acc _ hj hI
   obtain ⟨m, hm, hmC, hpm⟩ := star_at (s := C.getD n []) (C := C) (by omega : j < _)
   have hrm := hr _ (getD_mem ([] : List Int) hmC)
   have h1m := (simplex_len ((okC_iff.1 ho).2.2.1 _ (getD_mem ([] : List Int) hmC))).1
   have hw : impl_without.f (C.getD m []) (C.getD n []) = some (rest (C.getD n []) (C.getD m [])) := by
    unfold impl_without.f
    rw [if_pos]
    ·rfl
    ·simp only [Bool.and_eq_true, decide_eq_true_eq]; omega
   refine ⟨fun r hr' => ?_, ?_⟩
   ·have hr'' : Ev (fun k => z9.l0 k (n : Int) (stepI C (C.getD n []) acc (m : Int)) (star C (C.getD n [])) ((star C (C.getD n [])).length : Int) ((j + 1 : Nat) : Int) C) r := by rw [← hm]; exact hr'
    unfold stepI at hr''
    rw [Int.toNat_natCast] at hr''
    refine Ev.step (fun k => z9.l0.eq_2 ..) ?_
    rw [rd_nat, hm, rdl_nat, rdl_nat, wrap_succ (by omega)]
    refine ev_pos (by omega) (ev_pos (by omega) (ev_pos (by omega) (ev_pos (by omega) (ev_pos (by omega) (ev_pos (by omega) (ev_pos (by omega) (Ev.bind (ev_const hw) ?_)))))))
    cases hE : rest (C.getD n []) (C.getD m []) with
    | nil =>
     rw [hE] at hr''
     exact ev_neg (by simp) hr''
    | cons a l =>
     rw [hE] at hr''
     exact ev_pos (by simp) (ev_pos (by omega) hr'')
   ·show (stepI C (C.getD n []) acc _).length ≤ j + 1
    unfold stepI
    split
    ·omega
    ·simp; omega)
  rw [iter_foldl, steps_I, link_map, List.nil_append, Nat.zero_add] at h1
  refine h1 _ ?_
  have hlk := linkL_len (C := C) (C.getD n [])
  refine Ev.step (fun k => z9.l0.eq_2 ..) ?_
  exact ev_neg (by omega) (Ev.bind (ev_const (inOrder_nodup (linkL_nodup ho hsC) (by omega) (fun x hx => by have := linkL_row ho hx; omega))) (Ev.now _))
 ·exact ev_eq (ev_neg h (Ev.now _)) (if_neg h).symm
omit hl hr in
omit hl hr in
theorem linkC_small (i : Int) : (linkC C i).1.length ≤ 48 ∧ ∀ x ∈ (linkC C i).1, x.length ≤ 4 := by
 unfold linkC
 split
 ·rename_i h
  obtain ⟨ho, n, rfl, hn⟩ := askC_zero h
  have hC48 := (okC_iff.1 ho).1
  refine ⟨?_, fun x hx => linkL_row ho (sortS_mem.1 hx)⟩
  show (sortS _).length ≤ 48
  unfold sortS
  rw [List.length_mergeSort]
  exact Nat.le_trans (linkL_len _) hC48
 ·simp
end
end Go.Proofs.Ytidfblakgolbpaa.B

set_option linter.unusedVariables false
set_option linter.unusedSimpArgs false
namespace Go.Proofs.Ytidfblakgolbpaa.B
open Go.RowKit Go.Proofs.YtidfblakgolbpaaW.PrintWords

theorem wrap64_i64 (n : Int) (h0 : 0 ≤ n) (h1 : n < 9223372036854775808) : IntKind.i64.wrap n = n := by
 rw [IntKind.wrap_i64]; omega
theorem pow12 {x : Nat} (h : x ≤ 12) : 2 ^ x ≤ 4096 := Nat.pow_le_pow_right (n := 2) (by decide) h
theorem shl_one {x : Nat} (h : x ≤ 12) : shl .i64 1 (x : Int) = ((2 ^ x : Nat) : Int) := by
 have hp := pow12 h
 have h2 : (2 : Int) ^ x = ((2 ^ x : Nat) : Int) := by simp
 unfold shl
 rw [Int.toNat_natCast, show min x IntKind.i64.bits = x from Nat.min_eq_left (by show x ≤ 64; omega), Int.one_mul, h2]
 exact wrap64_i64 _ (Int.natCast_nonneg _) (by omega)
theorem shr_nat {a x : Nat} (h : x ≤ 64) : shr .i64 (a : Int) (x : Int) = ((a / 2 ^ x : Nat) : Int) := by
 have h2 : (2 : Int) ^ x = ((2 ^ x : Nat) : Int) := by simp
 unfold shr
 rw [Int.toNat_natCast, show min x IntKind.i64.bits = x from Nat.min_eq_left (by show x ≤ 64; omega), h2]
 exact (Int.natCast_ediv a (2 ^ x)).symm
theorem i62 (n : Int) (h0 : 0 ≤ n) (h1 : n < 2 ^ 62) : IntKind.i64.wrap n = n := by
 have h2 : (2 : Int) ^ 62 = 4611686018427387904 := by decide
 rw [h2] at h1
 exact wrap64_i64 n h0 (by omega)
theorem and_nat {a b : Nat} (ha : a < 2 ^ 62) (hb : b < 2 ^ 62) : Go.bits .and .i64 (a : Int) (b : Int) = ((a &&& b : Nat) : Int) := (bits_nat .i64 62 (by decide) i62 a b ha hb).1
theorem or_nat {a b : Nat} (ha : a < 2 ^ 62) (hb : b < 2 ^ 62) : Go.bits .or .i64 (a : Int) (b : Int) = ((a ||| b : Nat) : Int) := (bits_nat .i64 62 (by decide) i62 a b ha hb).2
theorem and_two_pow' (a x : Nat) : a &&& 2 ^ x = if a.testBit x = true then 2 ^ x else 0 := by
 apply Nat.eq_of_testBit_eq
 intro i
 rw [Nat.testBit_and, Nat.testBit_two_pow]
 split
 ·rename_i h
  rw [Nat.testBit_two_pow]
  by_cases e : x = i
  ·subst e; simp [h]
  ·simp [e]
 ·rename_i h
  by_cases e : x = i
  ·subst e; simp [h]
  ·simp [e]
theorem testBit_shr (a x : Nat) : (a / 2 ^ x % 2 = 1) ↔ a.testBit x = true := by
 rw [Nat.testBit_eq_decide_div_mod_eq, decide_eq_true_eq]
theorem and_one_eq {a : Nat} (ha : a < 2 ^ 62) : (Go.bits .and .i64 (a : Int) 1 = 1) ↔ a % 2 = 1 := by
 have := and_nat (b := 1) ha (by decide)
 rw [show ((1 : Nat) : Int) = 1 from rfl] at this
 rw [this, Nat.and_one_is_mod]
 omega
theorem and_bit_zero {a x : Nat} (ha : a < 2 ^ 62) (hx : x ≤ 12) : (Go.bits .and .i64 (a : Int) ((2 ^ x : Nat) : Int) = 0) ↔ a.testBit x = false := by
 have hp := pow12 hx
 have h1 : 0 < 2 ^ x := Nat.two_pow_pos x
 rw [and_nat ha (Nat.lt_of_le_of_lt hp (by decide)), and_two_pow']
 cases h : a.testBit x with
 | true =>
  rw [if_pos rfl]
  refine ⟨fun e => ?_, fun e => by cases e⟩
  have e2 : (2 ^ x : Nat) = 0 := Int.ofNat.inj e
  omega
 | false => simp
def members (set m : Nat) : List Int := iter (fun x s => if set.testBit x = true then s ++ [(x : Int)] else s) 0 m []
theorem members_le (set m : Nat) : (members set m).length ≤ m := by
 have := iter_inv (fun x s => if set.testBit x = true then s ++ [(x : Int)] else s) (fun i (t : List Int) => t.length ≤ i) m 0 [] (by simp) (fun j t _ _ h => by
  split
  ·simp only [List.length_append, List.length_singleton]; omega
  ·omega)
 simpa [members] using this
theorem members_mem (set m : Nat) : ∀ y ∈ members set m, 0 ≤ y ∧ y < m := by
 have := iter_inv (fun x s => if set.testBit x = true then s ++ [(x : Int)] else s) (fun i (t : List Int) => ∀ y ∈ t, 0 ≤ y ∧ y < i) m 0 [] (by simp) (fun j t _ _ h => by
  split
  ·intro y hy
   rcases List.mem_append.1 hy with hy | hy
   ·have := h y hy; omega
   ·rw [List.mem_singleton.1 hy]; omega
  ·intro y hy; have := h y hy; omega)
 simpa [members] using this
theorem members_more (set m d : Nat) (h : set < 2 ^ m) : members set (m + d) = members set m := by
 unfold members
 rw [iter_add, Nat.zero_add]
 generalize iter (fun x s => if set.testBit x = true then s ++ [(x : Int)] else s) 0 m [] = s
 have := iter_inv (fun x s => if set.testBit x = true then s ++ [(x : Int)] else s) (fun i (t : List Int) => t = s) d m s rfl (fun j t hj _ ht => by
  have : set.testBit j = false := Nat.testBit_lt_two_pow (Nat.lt_of_lt_of_le h (Nat.pow_le_pow_right (by decide) hj))
  rw [this]; simpa using ht)
 exact this
end Go.Proofs.Ytidfblakgolbpaa.B

set_option linter.unusedVariables false
set_option linter.unusedSimpArgs false
namespace Go.Proofs.Ytidfblakgolbpaa.B
open Go.RowKit Go.Proofs.YtidfblakgolbpaaW.PrintWords

def Byt (l : List Int) : Prop := ∀ n ∈ l, 0 ≤ n ∧ n ≤ 255
theorem u64_range (n : Int) : 0 ≤ IntKind.u64.wrap n ∧ IntKind.u64.wrap n ≤ 18446744073709551615 := by
 rw [show IntKind.u64.wrap n = n % 18446744073709551616 by simp [IntKind.wrap, IntKind.bits, IntKind.signed]]; omega
theorem and_255 {x : Int} (h0 : 0 ≤ x) (h1 : x ≤ 18446744073709551615) : 0 ≤ wrap64 (Go.bits .and .u64 (x / 1099511627776) 255) ∧ wrap64 (Go.bits .and .u64 (x / 1099511627776) 255) ≤ 255 := by
 obtain ⟨m, hm⟩ := Int.eq_ofNat_of_zero_le (show 0 ≤ x / 1099511627776 by omega)
 have hb : m < 2 ^ 24 := by
  have : x / 1099511627776 ≤ 16777215 := by omega
  omega
 have h := (bits_nat .u64 24 (by decide) (fun n a b => by
  have e : (2 : Int) ^ 24 = 16777216 := by decide
  rw [e] at b
  rw [show IntKind.u64.wrap n = n % 18446744073709551616 by simp [IntKind.wrap, IntKind.bits, IntKind.signed]]; omega) m 255 hb (by decide)).1
 rw [hm, show (255 : Int) = ((255 : Nat) : Int) from rfl, h]
 have h2 : m &&& 255 ≤ 255 := Nat.and_le_right
 rw [wrap_small (by omega) (by omega)]
 omega
theorem next_ok {l : List Int} (hl : Byt l) {a : Int} (z : Int) (h0 : 0 ≤ a) (h1 : a ≤ 4611686018427387904) : ∃ v z', z50.f l a z = some (v, a + 1, z') ∧ 0 ≤ v ∧ v ≤ 255 := by
 unfold z50.f
 have hw : wrap64 (a + 1) = a + 1 := wrap_small (by omega) (by omega)
 rw [hw]
 clear hw
 by_cases h : a < (l.length : Int)
 ·rw [if_pos h, if_pos h0, if_pos (by omega)]
  obtain ⟨i, rfl⟩ := Int.eq_ofNat_of_zero_le h0
  obtain ⟨b0, b1⟩ := hl _ (getD_mem (i := i) 0 (show i < l.length by omega))
  refine ⟨_, _, rfl, ?_, ?_⟩
  ·rw [rd_nat, wrap_small (by omega) (by omega)]; exact b0
  ·rw [rd_nat, wrap_small (by omega) (by omega)]; exact b1
 ·rw [if_neg h, if_neg (by omega)]
  exact ⟨_, _, rfl, (and_255 (u64_range _).1 (u64_range _).2).1, (and_255 (u64_range _).1 (u64_range _).2).2⟩
theorem pick_ok {l : List Int} (hl : Byt l) {a : Int} (z n : Int) (h0 : 0 ≤ a) (h1 : a ≤ 4611686018427387000) : ∃ v a' z', z24.f l a z n = some (v, a', z') ∧ 0 ≤ v ∧ (n ≤ 1 → v = 0) ∧ (1 < n → v < n) ∧ a ≤ a' ∧ a' ≤ a + 2 := by
 unfold z24.f
 by_cases h : n ≤ 1
 ·rw [if_pos h]
  exact ⟨0, a, z, rfl, by omega, fun _ => rfl, fun h => by omega, by omega, by omega⟩
 rw [if_neg h]
 obtain ⟨v, z1, e, hv, hv'⟩ := next_ok hl z h0 (by omega)
 rw [e]
 show ∃ v' a' z', (if n > 200 then _ else _) = some (v', a', z') ∧ _
 by_cases h2 : n > 200
 ·rw [if_pos h2]
  obtain ⟨u, z2, e2, hu, hu'⟩ := next_ok (a := a + 1) hl z1 (by omega) (by omega)
  rw [e2]
  have hx : wrap64 (wrap64 (v * 256) + u) = v * 256 + u := by
   rw [wrap_small (x := v * 256) (by omega) (by omega), wrap_small (by omega) (by omega)]
  show ∃ v' a' z', (if n = 0 then none else some (Int.tmod (wrap64 (wrap64 (v * 256) + u)) n, a + 1 + 1, z2)) = some (v', a', z') ∧ _
  rw [if_neg (by omega), hx]
  clear hx
  exact ⟨_, _, _, rfl, Int.tmod_nonneg _ (by omega), fun h => by omega, fun _ => Int.tmod_lt_of_pos _ (by omega), by omega, by omega⟩
 ·rw [if_neg h2]
  show ∃ v' a' z', (if n = 0 then none else some (Int.tmod v n, a + 1, z1)) = some (v', a', z') ∧ _
  rw [if_neg (by omega)]
  exact ⟨_, _, _, rfl, Int.tmod_nonneg _ hv, fun h => by omega, fun _ => Int.tmod_lt_of_pos _ (by omega), by omega, by omega⟩
theorem one_ok {l : List Int} (hl : Byt l) {a : Int} (z n : Int) (h0 : 0 ≤ a) (h1 : a ≤ 4611686018427387000) : ∃ (v : Bool) (a' z' : Int), z27.f l a z n = some (v, a', z') ∧ a ≤ a' ∧ a' ≤ a + 2 := by
 obtain ⟨v, a', z', e, _, _, _, h2, h3⟩ := pick_ok hl z n h0 h1
 unfold z27.f
 rw [e]
 exact ⟨_, _, _, rfl, h2, h3⟩
end Go.Proofs.Ytidfblakgolbpaa.B

set_option linter.unusedVariables false
set_option linter.unusedSimpArgs false
namespace Go.Proofs.Ytidfblakgolbpaa.B
open Go.RowKit Go.Proofs.YtidfblakgolbpaaW.PrintWords
open SimT

theorem incR {l : List Int} (h : rising l = true) : Inc l := by
 unfold rising at h
 rw [List.all_eq_true] at h
 have main : ∀ d i, i + d + 1 < l.length → l.getD i 0 < l.getD (i + d + 1) 0 := by
  intro d
  induction d with
  | zero =>
   intro i hi
   have := h (i + 1) (List.mem_range.2 hi)
   unfold rises at this
   simpa using this
  | succ d ih =>
   intro i hi
   have h1 := ih i (by omega)
   have h2 := h (i + d + 2) (List.mem_range.2 (by omega))
   unfold rises at h2
   have h2 : l.getD (i + d + 1) 0 < l.getD (i + d + 2) 0 := by simpa using h2
   exact Int.lt_trans h1 h2
 refine List.pairwise_iff_getElem.2 (fun i j hi hj hij => ?_)
 have := main (j - i - 1) i (by omega)
 rw [show i + (j - i - 1) + 1 = j by omega] at this
 simpa [List.getD_eq_getElem?_getD, List.getElem?_eq_getElem hj, List.getElem?_eq_getElem hi] using this
theorem risingI {l : List Int} (h : Inc l) : rising l = true := by
 unfold rising
 rw [List.all_eq_true]
 intro i hi
 rw [List.mem_range] at hi
 unfold rises
 rcases Nat.eq_zero_or_pos i with h0 | h0
 ·subst h0; rfl
 ·have := List.pairwise_iff_getElem.1 h (i - 1) i (by omega) hi (by omega)
  have h2 : l.getD (i - 1) 0 < l.getD i 0 := by
   simpa [List.getD_eq_getElem?_getD, List.getElem?_eq_getElem hi, List.getElem?_eq_getElem (show i - 1 < l.length by omega)] using this
  rw [decide_eq_true h2, Bool.or_true]
theorem simplexI {s : List Int} : isSimplex s = true ↔ (1 ≤ s.length ∧ s.length ≤ 4) ∧ Inc s ∧ ∀ v ∈ s, 0 ≤ v ∧ v ≤ 9 := by
 unfold isSimplex
 simp only [Bool.and_eq_true, decide_eq_true_eq, List.all_eq_true]
 exact ⟨fun ⟨h1, h2, h3⟩ => ⟨h1, incR h2, h3⟩, fun ⟨h1, h2, h3⟩ => ⟨h1, risingI h2, h3⟩⟩
def insI (v : Int) : List Int → List Int
 | [] => [v]
 | a :: s => if v < a then v :: a :: s else a :: insI v s
theorem mem_insI {v x : Int} : ∀ {s : List Int}, x ∈ insI v s ↔ x = v ∨ x ∈ s
 | [] => by simp [insI]
 | a :: s => by
  unfold insI
  split
  ·simp
  ·rw [List.mem_cons, mem_insI, List.mem_cons]
   constructor
   ·rintro (h | h | h)
    ·exact .inr (.inl h)
    ·exact .inl h
    ·exact .inr (.inr h)
   ·rintro (h | h | h)
    ·exact .inr (.inl h)
    ·exact .inl h
    ·exact .inr (.inr h)
theorem insI_len (v : Int) : ∀ s : List Int, (insI v s).length = s.length + 1
 | [] => rfl
 | a :: s => by
  unfold insI
  split
  ·rfl
  ·simp [insI_len v s]
theorem inc_insI {v : Int} : ∀ {s : List Int}, Inc s → v ∉ s → Inc (insI v s)
 | [], _, _ => List.pairwise_singleton _ _
 | a :: s, h, hn => by
  have h' := List.pairwise_cons.1 h
  unfold insI
  split
  ·rename_i hlt
   refine List.pairwise_cons.2 ⟨fun x hx => ?_, h⟩
   rcases List.mem_cons.1 hx with rfl | hx
   ·exact hlt
   ·exact Int.lt_trans hlt (h'.1 x hx)
  ·rename_i hlt
   refine List.pairwise_cons.2 ⟨fun x hx => ?_, inc_insI h'.2 (fun hm => hn (List.mem_cons_of_mem _ hm))⟩
   rcases mem_insI.1 hx with rfl | hx
   ·have : x ≠ a := fun e => hn (by rw [e]; exact List.mem_cons_self)
    omega
   ·exact h'.1 x hx
theorem iter_fold {σ α : Type} (G : σ → α → σ) (z : α) (xs : List α) (s : σ) : ∀ n, n ≤ xs.length → iter (fun j s => G s (xs.getD j z)) 0 n s = (xs.take n).foldl G s := by
 intro n
 induction n with
 | zero => intro _; rfl
 | succ n ih =>
  intro hn
  rw [iter_last, ih (by omega), Nat.zero_add, List.take_succ_eq_append_getElem (by omega), List.foldl_append, List.foldl_cons, List.foldl_nil, List.getD_eq_getElem?_getD, List.getElem?_eq_getElem (by omega)]
  rfl
theorem cntF {n : Nat} (h : n ≤ 4) : cntN n ≤ 41 := by
 rcases n with _ | _ | _ | _ | _ | n
 ·decide
 ·decide
 ·decide
 ·decide
 ·decide
 ·omega
theorem put_val {acc : List (List Int)} {s : List Int} (h1 : 1 ≤ s.length) (h4 : s.length ≤ 4) (hl : acc.length ≤ 1000000) (hr : ∀ x ∈ acc, x.length ≤ 1048576) : spec_l05Put.f acc s = some (putN s.length acc s) := by
 have := cntF h4
 unfold spec_l05Put.f
 rw [if_pos]
 simp only [Bool.and_eq_true, decide_eq_true_eq, List.all_eq_true]
 exact ⟨⟨h1, by omega⟩, by omega, hr⟩
end Go.Proofs.Ytidfblakgolbpaa.B

set_option linter.unusedVariables false
set_option linter.unusedSimpArgs false
namespace Go.Proofs.Ytidfblakgolbpaa.B
open Go.RowKit Go.Proofs.YtidfblakgolbpaaW.PrintWords
open SimT

def closure (l : List (List Int)) : List (List Int) := l.foldl (fun C s => putN s.length C s) []
theorem closure_spec {l : List (List Int)} (h : ∀ s ∈ l, s ≠ []) : Srt (closure l) ∧ Closed (closure l) ∧ ∀ x, x ∈ closure l ↔ (∃ s, s ∈ l ∧ x.Sublist s) ∧ x ≠ [] := by
 obtain ⟨h1, h2, h3⟩ := put_all l (C := []) h List.Pairwise.nil (fun s hs => by cases hs)
 refine ⟨h1, h2, fun x => ?_⟩
 unfold closure
 rw [h3]
 exact ⟨fun h => h.elim (fun h => by cases h) id, .inr⟩
theorem ne_of_len {s : List Int} (h : 1 ≤ s.length) : s ≠ [] := fun e => by rw [e] at h; simp at h
theorem specClosure_ev (l : List (List Int)) (hl : l.length ≤ 1000) (hr : ∀ s ∈ l, 1 ≤ s.length ∧ s.length ≤ 4) : Ev (fun k => z25.f k l) (closure l) := by
 unfold z25.f
 obtain ⟨h1, _⟩ := le_iter_inv (fun acc j k => z25.l0 k l (j : Int) acc) (fun j acc => putN (l.getD j []).length acc (l.getD j [])) (fun j acc => acc.length ≤ 41 * j ∧ (∀ x ∈ acc, x.length ≤ 4) ∧ Srt acc ∧ Closed acc) l.length 0 [] ⟨by simp, by simp, List.Pairwise.nil, fun s hs => by cases hs⟩ (by
  intro j acc _ hj hI
  have hjl : j < l.length := by omega
  obtain ⟨hm1, hm4⟩ := hr _ (getD_mem ([] : List Int) hjl)
  obtain ⟨i1, i2, i3, i4⟩ := hI
  have hcn := cntF (n := (l.getD j []).length) hm4
  have hpl := putN_len (l.getD j []).length acc (l.getD j []) (Nat.le_refl _)
  obtain ⟨p1, p2, p3⟩ := putN_spec (l.getD j []).length (Nat.le_refl _) (ne_of_len hm1) i3 i4
  refine ⟨fun r hr' => ?_, by omega, fun x hx => ?_, p1, p2⟩
  ·refine Ev.step (fun k => z25.l0.eq_2 ..) ?_
   rw [rdl_nat, wrap_succ (by omega)]
   exact ev_pos (by omega) (ev_pos (by omega) (Ev.bind (ev_const (put_val hm1 hm4 (by omega) (fun x hx => by have := i2 x hx; omega))) hr'))
  ·rcases (p3 x).1 hx with h | ⟨h, _⟩
   ·exact i2 x h
   ·have := h.length_le; omega)
 have hf : iter (fun j acc => putN (l.getD j []).length acc (l.getD j [])) 0 l.length [] = closure l := by
  have h5 := iter_fold (fun acc s => putN s.length acc s) ([] : List Int) l [] l.length (Nat.le_refl _)
  rwa [List.take_length] at h5
 rw [hf, Nat.zero_add] at h1
 refine h1 _ ?_
 refine Ev.step (fun k => z25.l0.eq_2 ..) ?_
 exact ev_neg (by omega) (Ev.now _)
theorem closure_row {l : List (List Int)} (hr : ∀ s ∈ l, 1 ≤ s.length ∧ s.length ≤ 4) {x : List Int} (hx : x ∈ closure l) : x.length ≤ 4 := by
 obtain ⟨⟨s, hs, h⟩, _⟩ := ((closure_spec (fun s hs => ne_of_len (hr s hs).1)).2.2 x).1 hx
 have := h.length_le
 have := (hr s hs).2
 omega
end Go.Proofs.Ytidfblakgolbpaa.B

set_option linter.unusedVariables false
set_option linter.unusedSimpArgs false
namespace Go.Proofs.Ytidfblakgolbpaa.B
open Go.RowKit Go.Proofs.YtidfblakgolbpaaW.PrintWords
open SimT

def putI (v : Int) : List Int → List Int
 | [] => [v]
 | a :: s => if v < a then v :: a :: s else if v = a then a :: s else a :: putI v s
theorem mem_putI {v x : Int} : ∀ {s : List Int}, x ∈ putI v s ↔ x = v ∨ x ∈ s
 | [] => by simp [putI]
 | a :: s => by
  unfold putI
  split
  ·simp
  ·split
   ·rename_i h
    subst h
    simp
   ·rw [List.mem_cons, mem_putI, List.mem_cons]
    constructor
    ·rintro (h | h | h)
     ·exact .inr (.inl h)
     ·exact .inl h
     ·exact .inr (.inr h)
    ·rintro (h | h | h)
     ·exact .inr (.inl h)
     ·exact .inl h
     ·exact .inr (.inr h)
theorem putI_len (v : Int) : ∀ s : List Int, s.length ≤ (putI v s).length ∧ (putI v s).length ≤ s.length + 1 ∧ 1 ≤ (putI v s).length
 | [] => by simp [putI]
 | a :: s => by
  have := putI_len v s
  unfold putI
  split
  ·simp
  ·split
   ·simp
   ·simp only [List.length_cons]
    omega
theorem inc_putI {v : Int} : ∀ {s : List Int}, Inc s → Inc (putI v s)
 | [], _ => List.pairwise_singleton _ _
 | a :: s, h => by
  have h' := List.pairwise_cons.1 h
  unfold putI
  split
  ·rename_i hlt
   refine List.pairwise_cons.2 ⟨fun x hx => ?_, h⟩
   rcases List.mem_cons.1 hx with rfl | hx
   ·exact hlt
   ·exact Int.lt_trans hlt (h'.1 x hx)
  ·split
   ·exact h
   ·refine List.pairwise_cons.2 ⟨fun x hx => ?_, inc_putI h'.2⟩
    rcases mem_putI.1 hx with rfl | hx
    ·omega
    ·exact h'.1 x hx
theorem l00PutG_ev {v : Int} {s : List Int} (hl : s.length ≤ 1048576) : Ev (fun k => z52.f k s v) (putI v s) := by
 unfold z52.f
 have hdrop : ∀ i, i < s.length → s.drop i = s.getD i 0 :: s.drop (i + 1) := fun i hi => by
  rw [List.drop_eq_getElem_cons hi, List.getD_eq_getElem?_getD, List.getElem?_eq_getElem hi]; rfl
 have hdone : ∀ d i acc, i + d = s.length → acc.length ≤ i + 1 → Ev (fun k => z52.l0 k s v acc true (i : Int)) (acc ++ s.drop i) := by
  intro d
  induction d with
  | zero =>
   intro i acc hi ha
   rw [List.drop_of_length_le (by omega), List.append_nil]
   refine Ev.step (fun k => z52.l0.eq_2 ..) ?_
   exact ev_neg (by omega) (ev_pos rfl (Ev.now _))
  | succ d ih =>
   intro i acc hi ha
   rw [hdrop i (by omega), show acc ++ s.getD i 0 :: s.drop (i + 1) = (acc ++ [s.getD i 0]) ++ s.drop (i + 1) by simp]
   refine Ev.step (fun k => z52.l0.eq_2 ..) ?_
   refine ev_pos (by omega) (ev_pos rfl ?_)
   refine Ev.step (fun k => z52.j1.eq_2 ..) ?_
   rw [rd_nat, wrap_succ (by omega)]
   exact ev_neg (by decide) (ev_pos (by omega) (ev_pos (by omega) (ev_pos (by omega) (ih (i + 1) _ (by omega) (by simp; omega)))))
 have hnot : ∀ d i acc, i + d = s.length → acc.length ≤ i → Ev (fun k => z52.l0 k s v acc false (i : Int)) (acc ++ putI v (s.drop i)) := by
  intro d
  induction d with
  | zero =>
   intro i acc hi ha
   rw [List.drop_of_length_le (by omega)]
   refine Ev.step (fun k => z52.l0.eq_2 ..) ?_
   exact ev_neg (by omega) (ev_neg (by decide) (ev_pos (by omega) (Ev.now _)))
  | succ d ih =>
   intro i acc hi ha
   rw [hdrop i (by omega)]
   refine Ev.step (fun k => z52.l0.eq_2 ..) ?_
   rw [rd_nat]
   refine ev_pos (by omega) (ev_neg (by decide) (ev_pos (by omega) ?_))
   by_cases hlt : v < s.getD i 0
   ·rw [show putI v (s.getD i 0 :: s.drop (i + 1)) = v :: s.getD i 0 :: s.drop (i + 1) by unfold putI; rw [if_pos hlt], show acc ++ v :: s.getD i 0 :: s.drop (i + 1) = ((acc ++ [v]) ++ [s.getD i 0]) ++ s.drop (i + 1) by simp]
    rw [decide_eq_true (show s.getD i 0 ≥ v by omega)]
    refine Ev.step (fun k => z52.j1.eq_2 ..) ?_
    rw [rd_nat, wrap_succ (by omega)]
    refine ev_pos rfl (ev_pos (by omega) (ev_pos (by omega) (ev_pos (by omega) (ev_pos (by omega) (Ev.bind (Ev.now _) (ev_pos (by simp; omega) (hdone d (i + 1) _ (by omega) (by simp; omega))))))))
   ·by_cases he : v = s.getD i 0
    ·rw [show putI v (s.getD i 0 :: s.drop (i + 1)) = s.getD i 0 :: s.drop (i + 1) by unfold putI; rw [if_neg hlt, if_pos he], show acc ++ s.getD i 0 :: s.drop (i + 1) = (acc ++ [s.getD i 0]) ++ s.drop (i + 1) by simp]
     rw [decide_eq_true (show s.getD i 0 ≥ v by omega)]
     refine Ev.step (fun k => z52.j1.eq_2 ..) ?_
     rw [rd_nat, wrap_succ (by omega)]
     exact ev_pos rfl (ev_pos (by omega) (ev_pos (by omega) (ev_neg (by omega) (ev_pos (by omega) (hdone d (i + 1) _ (by omega) (by simp; omega))))))
    ·rw [show putI v (s.getD i 0 :: s.drop (i + 1)) = s.getD i 0 :: putI v (s.drop (i + 1)) by conv => lhs; unfold putI; rw [if_neg hlt, if_neg he], show acc ++ s.getD i 0 :: putI v (s.drop (i + 1)) = (acc ++ [s.getD i 0]) ++ putI v (s.drop (i + 1)) by simp]
     rw [decide_eq_false (show ¬ s.getD i 0 ≥ v by omega)]
     refine Ev.step (fun k => z52.j1.eq_2 ..) ?_
     rw [rd_nat, wrap_succ (by omega)]
     exact ev_neg (by decide) (ev_pos (by omega) (ev_pos (by omega) (ev_pos (by omega) (ih (i + 1) _ (by omega) (by simp; omega)))))
 have := hnot s.length 0 [] (by omega) (by simp)
 simpa using this
def Drawn3 (m : Int) (s : List Int) : Prop := Inc s ∧ 1 ≤ s.length ∧ s.length ≤ 3 ∧ ∀ x ∈ s, 0 ≤ x ∧ x ≤ m
section
variable {l : List Int} (hl : Byt l)
include hl
theorem drawSimplex_loop (nv : Int) (h1 : 1 ≤ nv) (h6 : nv ≤ 6) : ∀ (c : Nat) (s : List Int) (a z : Int), Inc s → s.length + c ≤ 3 → (1 ≤ c ∨ 1 ≤ s.length) → (∀ x ∈ s, 0 ≤ x ∧ x ≤ 5) → 0 ≤ a → a + 2 * c ≤ 1000000 →
  ∃ s' a' z', Ev (fun k => z26.l0 k nv s (c : Int) l a z) (s', a', z') ∧ Drawn3 5 s' ∧ a ≤ a' ∧ a' ≤ a + 2 * c
 | 0, s, a, z, hs, hc, h0, hr, ha, ha2 => ⟨s, a, z, by
   refine Ev.step (fun k => z26.l0.eq_2 ..) ?_
   exact ev_neg (by omega) (Ev.now _), ⟨hs, by omega, by omega, hr⟩, by omega, by omega⟩
 | c + 1, s, a, z, hs, hc, h0, hr, ha, ha2 => by
  obtain ⟨v, a1, z1, e, v0, v1, v2, p1, p2⟩ := pick_ok hl z nv ha (by omega)
  have hp := putI_len v s
  have hv5 : v ≤ 5 := by
   by_cases h : nv ≤ 1
   ·rw [v1 h]; omega
   ·have := v2 (by omega); omega
  obtain ⟨s', a', z', e2, d, q1, q2⟩ := drawSimplex_loop nv h1 h6 c (putI v s) a1 z1 (inc_putI hs) (by omega) (by omega) (fun x hx => by
   rcases mem_putI.1 hx with rfl | hx
   ·exact ⟨v0, hv5⟩
   ·exact hr x hx) (by omega) (by omega)
  refine ⟨s', a', z', ?_, d, by omega, by omega⟩
  refine Ev.step (fun k => z26.l0.eq_2 ..) ?_
  rw [show wrap64 (((c + 1 : Nat) : Int) - 1) = (c : Int) by rw [wrap_small (by omega) (by omega)]; omega]
  exact ev_pos (by omega) (Ev.bind (ev_const e) (Ev.bind (l00PutG_ev (by omega)) e2))
theorem drawSimplex_ok (nv : Int) (h1 : 1 ≤ nv) (h6 : nv ≤ 6) (a z : Int) (ha : 0 ≤ a) (ha2 : a ≤ 100000) : ∃ s a' z', Ev (fun k => z26.f k l a z nv 3) (s, a', z') ∧ Drawn3 5 s ∧ a ≤ a' ∧ a' ≤ a + 8 := by
 obtain ⟨v, a1, z1, e, v0, _, v2, p1, p2⟩ := pick_ok hl z 3 ha (by omega)
 have hv := v2 (by decide)
 obtain ⟨n, rfl⟩ := Int.eq_ofNat_of_zero_le v0
 obtain ⟨s, a', z', e2, d, q1, q2⟩ := drawSimplex_loop hl nv h1 h6 (n + 1) [] a1 z1 List.Pairwise.nil (by simp; omega) (by omega) (by simp) (by omega) (by omega)
 refine ⟨s, a', z', ?_, d, by omega, by omega⟩
 unfold z26.f
 refine Ev.bind (ev_const e) ?_
 rw [show wrap64 (1 + (n : Int)) = ((n + 1 : Nat) : Int) by rw [wrap_small (by omega) (by omega)]; omega]
 exact e2
end
theorem nodup_len {α : Type} [DecidableEq α] : ∀ {l m : List α}, l.Nodup → (∀ x ∈ l, x ∈ m) → l.length ≤ m.length
 | [], m, _, _ => Nat.zero_le _
 | a :: l, m, h, hm => by
  obtain ⟨h1, h2⟩ := List.nodup_cons.1 h
  have ha := hm a List.mem_cons_self
  have := nodup_len (l := l) (m := m.erase a) h2 (fun x hx => (List.mem_erase_of_ne (fun (e : x = a) => h1 (by rw [← e]; exact hx))).2 (hm x (List.mem_cons_of_mem _ hx)))
  rw [List.length_erase_of_mem ha] at this
  have hp : 0 < m.length := List.length_pos_of_mem ha
  simp only [List.length_cons]
  omega
def tetra : List Int := [0, 1, 2, 3]
def bigT : List (List Int) := tetra :: faces tetra ++ (faces tetra).flatMap faces
def ones : List (List Int) := [[0], [1], [2], [3], [4], [5]]
def allOf (L : List (List Int)) : List (List Int) := ones ++ (L.flatMap (fun s => s :: faces s) ++ bigT)
theorem flat_len : ∀ L : List (List Int), (∀ s ∈ L, s.length ≤ 3) → (L.flatMap (fun s => s :: faces s)).length ≤ 4 * L.length
 | [], _ => by simp
 | s :: L, h => by
  have h1 := flat_len L (fun t ht => h t (List.mem_cons_of_mem _ ht))
  have h2 := faces_len s
  have h3 := h s List.mem_cons_self
  rw [List.flatMap_cons, List.length_append, List.length_cons, List.length_cons]
  omega
theorem one_mem {x s : List Int} (hx : x.Sublist s) (hl : x.length = 1) (hr : ∀ z ∈ s, 0 ≤ z ∧ z ≤ 5) : x ∈ ones := by
 match x, hl with
 | [v], _ =>
  have hv := hr v (hx.subset List.mem_cons_self)
  have : v = 0 ∨ v = 1 ∨ v = 2 ∨ v = 3 ∨ v = 4 ∨ v = 5 := by omega
  unfold ones
  rcases this with rfl | rfl | rfl | rfl | rfl | rfl <;> simp
theorem face_or {x s : List Int} (hx : x.Sublist s) (h2 : 2 ≤ x.length) : x = s ∨ ∃ f, f ∈ faces s ∧ x.Sublist f := by
 rcases sub_cases.1 hx with h | ⟨k, hk, h⟩
 ·exact .inl h
 ·refine .inr ⟨drp s k, mem_faces.2 ⟨?_, k, hk, rfl⟩, h⟩
  have := hx.length_le
  omega
theorem closure_small {L : List (List Int)} {M : List (List Int)} (hL : ∀ s ∈ L, Drawn3 5 s) (hl : L.length ≤ 5) (hM : ∀ s ∈ M, s ∈ L ∨ s = tetra) : (closure M).length ≤ 48 := by
 have hne : ∀ s ∈ M, s ≠ [] := fun s hs => by
  rcases hM s hs with h | rfl
  ·exact ne_of_len (hL s h).2.1
  ·decide
 obtain ⟨c1, _, c3⟩ := closure_spec hne
 have h1 := nodup_len (m := allOf L) (srt_nodup c1) (fun x hx => by
  obtain ⟨⟨s, hs, hxs⟩, hxne⟩ := (c3 x).1 hx
  have hxl : 1 ≤ x.length := by
   cases x with
   | nil => exact absurd rfl hxne
   | cons a x => simp
  unfold allOf
  rw [List.mem_append, List.mem_append]
  have hr : ∀ z ∈ s, 0 ≤ z ∧ z ≤ 5 := by
   rcases hM s hs with h | rfl
   ·exact (hL s h).2.2.2
   ·intro z hz
    unfold tetra at hz
    simp at hz
    omega
  by_cases h1 : x.length = 1
  ·exact .inl (one_mem hxs h1 hr)
  ·right
   rcases hM s hs with h | rfl
   ·left
    rw [List.mem_flatMap]
    refine ⟨s, h, ?_⟩
    rcases face_or hxs (by omega) with rfl | ⟨f, hf, hxf⟩
    ·exact List.mem_cons_self
    ·have h3 := (hL s h).2.2.1
     obtain ⟨_, k, hk, rfl⟩ := mem_faces.1 hf
     have h4 := drp_length hk
     have := hxf.eq_of_length_le (by omega)
     rw [this]
     exact List.mem_cons_of_mem _ hf
   ·right
    unfold bigT
    rcases face_or hxs (by omega) with rfl | ⟨f, hf, hxf⟩
    ·simp
    ·rcases face_or hxf (by omega) with rfl | ⟨g, hg, hxg⟩
     ·exact List.mem_append.2 (.inl (List.mem_cons_of_mem _ hf))
     ·obtain ⟨_, k, hk, rfl⟩ := mem_faces.1 hf
      have h4 := drp_length hk
      have hg' := hg
      obtain ⟨_, k2, hk2, rfl⟩ := mem_faces.1 hg
      have h5 := drp_length hk2
      have ht : tetra.length = 4 := rfl
      have := hxg.eq_of_length_le (by omega)
      rw [this]
      exact List.mem_append.2 (.inr (List.mem_flatMap.2 ⟨_, hf, hg'⟩)))
 have h2 := flat_len L (fun s hs => (hL s hs).2.2.1)
 have h3 : (allOf L).length = 6 + ((L.flatMap (fun s => s :: faces s)).length + 17) := by
  unfold allOf
  rw [List.length_append, List.length_append]
  rfl
 omega
theorem tetra_ok : isSimplex tetra = true := by decide
theorem closure_ok {L : List (List Int)} {M : List (List Int)} (hL : ∀ s ∈ L, Drawn3 5 s) (hl : L.length ≤ 5) (hM : ∀ s ∈ M, s ∈ L ∨ s = tetra) : okC (closure M) = true := by
 have hsx : ∀ s ∈ M, isSimplex s = true := fun s hs => by
  rcases hM s hs with h | rfl
  ·obtain ⟨d1, d2, d3, d4⟩ := hL s h
   exact simplexI.2 ⟨by omega, d1, fun v hv => by have := d4 v hv; omega⟩
  ·exact tetra_ok
 obtain ⟨c1, c2, c3⟩ := closure_spec (l := M) (fun s hs => ne_of_len (simplex_len (hsx s hs)).1)
 refine okC_iff.2 ⟨closure_small hL hl hM, c1, fun x hx => ?_, c2⟩
 obtain ⟨⟨s, hs, hxs⟩, hxne⟩ := (c3 x).1 hx
 obtain ⟨r1, r2, r3⟩ := simplexI.1 (hsx s hs)
 have hxl : 1 ≤ x.length := by
  cases x with
  | nil => exact absurd rfl hxne
  | cons a x => simp
 have := hxs.length_le
 exact simplexI.2 ⟨by omega, inc_sub hxs r2, fun v hv => r3 v (hxs.subset hv)⟩
theorem drawn_const (s : List Int) (h : isSimplex s = true ∧ s.length ≤ 3 ∧ s.all (fun x => decide (x ≤ 5)) = true) : Drawn3 5 s := by
 obtain ⟨h1, h2, h3⟩ := h
 obtain ⟨r1, r2, r3⟩ := simplexI.1 h1
 rw [List.all_eq_true] at h3
 exact ⟨r2, r1.1, h2, fun x hx => ⟨(r3 x hx).1, of_decide_eq_true (h3 x hx)⟩⟩
section
variable {l : List Int} (hl : Byt l)
include hl
theorem draw_loop (nv : Int) (h1 : 1 ≤ nv) (h6 : nv ≤ 6) : ∀ (c : Nat) (acc : List (List Int)) (a z : Int), (∀ s ∈ acc, Drawn3 5 s) → acc.length + c ≤ 5 → 0 ≤ a → a + 8 * c ≤ 1000 →
  ∃ C a' z', Ev (fun k => z14.l0 k acc nv (c : Int) l a z) (C, a', z') ∧ okC C = true
 | 0, acc, a, z, hacc, hc, ha, ha2 => by
  obtain ⟨b, a1, z1, e, _, _⟩ := one_ok hl z 6 ha (by omega)
  cases b with
  | true =>
   refine ⟨closure (acc ++ [tetra]), a1, z1, ?_, closure_ok hacc (by omega) (fun s hs => ?_)⟩
   ·refine Ev.step (fun k => z14.l0.eq_2 ..) ?_
    refine ev_neg (by omega) (Ev.bind (ev_const e) (ev_pos rfl (ev_pos (by omega) (Ev.bind (specClosure_ev _ (by simp; omega) (fun s hs => ?_)) (Ev.now _)))))
    rcases List.mem_append.1 hs with h | h
    ·have := hacc s h
     exact ⟨this.2.1, by have := this.2.2.1; omega⟩
    ·rw [List.mem_singleton] at h
     subst h
     decide
   ·rcases List.mem_append.1 hs with h | h
    ·exact .inl h
    ·exact .inr (List.mem_singleton.1 h)
  | false =>
   refine ⟨closure acc, a1, z1, ?_, closure_ok hacc (by omega) (fun s hs => .inl hs)⟩
   refine Ev.step (fun k => z14.l0.eq_2 ..) ?_
   exact ev_neg (by omega) (Ev.bind (ev_const e) (ev_neg (by simp) (Ev.bind (specClosure_ev _ (by omega) (fun s hs => ⟨(hacc s hs).2.1, by have := (hacc s hs).2.2.1; omega⟩)) (Ev.now _))))
 | c + 1, acc, a, z, hacc, hc, ha, ha2 => by
  obtain ⟨s, a1, z1, e, d, p1, p2⟩ := drawSimplex_ok hl nv h1 h6 a z ha (by omega)
  obtain ⟨C, a', z', e2, hC⟩ := draw_loop nv h1 h6 c (acc ++ [s]) a1 z1 (fun t ht => by
   rcases List.mem_append.1 ht with h | h
   ·exact hacc t h
   ·rw [List.mem_singleton.1 h]; exact d) (by simp; omega) (by omega) (by omega)
  refine ⟨C, a', z', ?_, hC⟩
  refine Ev.step (fun k => z14.l0.eq_2 ..) ?_
  rw [show wrap64 (((c + 1 : Nat) : Int) - 1) = (c : Int) by rw [wrap_small (by omega) (by omega)]; omega]
  exact ev_pos (by omega) (Ev.bind e (ev_pos (by omega) e2))
theorem drawC_ok : ∃ C, Ev (fun k => z5.f k l) C ∧ okC C = true := by
 obtain ⟨v, a1, z1, e, v0, _, v2, p1, p2⟩ := pick_ok hl 0 6 (a := 0) (by omega) (by omega)
 have hmain : ∃ C a' z', Ev (fun k => z14.f k l 0 0) (C, a', z') ∧ okC C = true := by
  unfold z14.f
  by_cases h0 : v = 0
  ·have hd : ∀ s ∈ [[0, 1], [1, 2], [0, 2], [2, 3]], Drawn3 5 s := fun s hs => drawn_const s (by
    revert s
    decide)
   exact ⟨_, a1, z1, Ev.bind (ev_const e) (ev_pos h0 (Ev.bind (specClosure_ev _ (by decide) (fun s hs => ⟨(hd s hs).2.1, by have := (hd s hs).2.2.1; omega⟩)) (Ev.now _))), closure_ok hd (by decide) (fun s hs => .inl hs)⟩
  ·by_cases h1 : v = 1
   ·have hd : ∀ s ∈ [[0, 1, 2], [0, 1, 3], [0, 2, 3], [1, 2, 3]], Drawn3 5 s := fun s hs => drawn_const s (by
     revert s
     decide)
    exact ⟨_, a1, z1, Ev.bind (ev_const e) (ev_neg h0 (ev_pos h1 (Ev.bind (specClosure_ev _ (by decide) (fun s hs => ⟨(hd s hs).2.1, by have := (hd s hs).2.2.1; omega⟩)) (Ev.now _)))), closure_ok hd (by decide) (fun s hs => .inl hs)⟩
   ·obtain ⟨n, a2, z2, e2, n0, _, n2, q1, q2⟩ := pick_ok hl z1 4 (a := a1) (by omega) (by omega)
    obtain ⟨c, a3, z3, e3, c0, _, c2, r1, r2⟩ := pick_ok hl z2 6 (a := a2) (by omega) (by omega)
    have hn := n2 (by decide)
    have hc := c2 (by decide)
    obtain ⟨cn, rfl⟩ := Int.eq_ofNat_of_zero_le c0
    obtain ⟨C, a', z', e4, hC⟩ := draw_loop hl (3 + n) (by omega) (by omega) cn [] a3 z3 (by simp) (by simp; omega) (by omega) (by omega)
    refine ⟨C, a', z', ?_, hC⟩
    refine Ev.bind (ev_const e) (ev_neg h0 (ev_neg h1 (Ev.bind (ev_const e2) (Ev.bind (ev_const e3) ?_))))
    rw [wrap_small (x := 3 + n) (by omega) (by omega)]
    exact e4
 obtain ⟨C, a', z', e4, hC⟩ := hmain
 refine ⟨C, ?_, hC⟩
 unfold z5.f
 exact Ev.bind (ev_const rfl) (Ev.bind e4 (Ev.now _))
end
end Go.Proofs.Ytidfblakgolbpaa.B

set_option linter.unusedVariables false
set_option linter.unusedSimpArgs false
namespace Go.Proofs.Ytidfblakgolbpaa.B
open Go.RowKit Go.Proofs.YtidfblakgolbpaaW.PrintWords
open SimT

theorem hasR8_ev (l : List Int) (hl : l.length ≤ 1000) (x : Int) (hx : x ∈ l) : Ev (fun k => z10.f k l x) true := by
 unfold z10.f
 obtain ⟨j, hj, he⟩ := List.mem_iff_getElem.1 hx
 have main : ∀ (d i : Nat), i + d = j → Ev (fun k => z10.l0 k l x (i : Int)) true := by
  intro d
  induction d with
  | zero =>
   intro i hi
   have hi : i = j := by omega
   subst hi
   refine Ev.step (fun k => z10.l0.eq_2 ..) ?_
   rw [rd_nat, List.getD_eq_getElem?_getD, List.getElem?_eq_getElem hj]
   exact ev_pos (by omega) (ev_pos (by omega) (ev_pos he (Ev.now _)))
  | succ d ih =>
   intro i hi
   refine Ev.step (fun k => z10.l0.eq_2 ..) ?_
   rw [wrap_succ (by omega)]
   refine ev_pos (by omega) (ev_pos (by omega) ?_)
   by_cases h : rd l (i : Int) = x
   ·exact ev_pos h (Ev.now _)
   ·exact ev_neg h (ih (i + 1) (by omega))
 exact main j 0 (by omega)
theorem r8At_ok {l : List Int} (hl : Byt l) {n : Nat} (h0 : 0 < n) (hn : n ≤ 1000) : ∃ i : Nat, i < n ∧ z6.f l 0 (n : Int) = some (i : Int) := by
 unfold z6.f
 by_cases h1 : (n : Int) ≤ 1
 ·exact ⟨0, h0, by rw [if_pos h1]; rfl⟩
 ·rw [if_neg h1]
  by_cases h2 : (0 : Int) ≥ (l.length : Int)
  ·exact ⟨0, h0, by rw [if_pos h2]; rfl⟩
  ·rw [if_neg h2, if_pos (by omega), if_pos (by omega), if_neg (by omega)]
   obtain ⟨b0, b1⟩ := hl _ (getD_mem (i := 0) 0 (show 0 < l.length by omega))
   have e : rd l 0 = l.getD 0 0 := rd_nat l 0
   rw [e, wrap_small (by omega) (by omega)]
   have h3 := Int.tmod_nonneg (n : Int) b0
   have h4 := Int.tmod_lt_of_pos (l.getD 0 0) (show (0 : Int) < (n : Int) by omega)
   obtain ⟨i, hi⟩ := Int.eq_ofNat_of_zero_le h3
   exact ⟨i, by omega, by rw [hi]⟩
theorem askC_ok {C : List (List Int)} (ho : okC C = true) {i : Nat} (hi : i < C.length) : askC C (i : Int) = 0 := by
 unfold askC
 rw [if_pos ho, if_pos]
 rw [Bool.and_eq_true, decide_eq_true_iff, decide_eq_true_iff]
 omega
theorem star_link {C : List (List Int)} {s : List Int} (ho : okC C = true) (hs : s ∈ C) : (star C s).length = (linkL C s).length + 1 := by
 obtain ⟨_, h2, h3, _⟩ := okC_iff.1 ho
 have h1 : (star C s).length = (C.filter (part s)).length := by
  rw [← star_map, List.length_map]
 rw [h1]
 have hlen : (linkL C s).length = ((C.filter (part s)).filter fun t => !(rest s t).isEmpty).length := by
  unfold linkL
  rw [List.filter_map, List.length_map]
  rfl
 rw [hlen]
 have hnd : (C.filter (part s)).Nodup := List.Pairwise.filter _ (srt_nodup h2)
 have hsm : s ∈ C.filter (part s) := List.mem_filter.2 ⟨hs, part_iff.2 (fun x hx => hx)⟩
 have hiff : ∀ t ∈ C.filter (part s), (!(rest s t).isEmpty) = (t != s) := by
  intro t ht
  obtain ⟨t1, t2⟩ := List.mem_filter.1 ht
  have t2 := part_iff.1 t2
  by_cases e : t = s
  ·subst e
   have : rest t t = [] := by
    unfold rest
    rw [List.filter_eq_nil_iff]
    intro x hx
    rw [has_iff.2 hx]
    simp
   rw [this]
   simp
  ·have : rest s t ≠ [] := fun h => by
    refine e (inc_ext (inc_simplex (h3 t t1)) (inc_simplex (h3 s hs)) (fun x => Iff.intro (fun hx => ?_) (fun hx => t2 x hx)))
    by_cases hxs : x ∈ s
    ·exact hxs
    ·have h9 : x ∈ rest s t := mem_rest.2 ⟨hx, hxs⟩
     rw [h] at h9
     cases h9
   rw [show (t != s) = true by simpa using e]
   cases h : rest s t with
   | nil => exact absurd h this
   | cons a l => rfl
 rw [List.filter_congr hiff]
 have : ∀ l : List (List Int), l.Nodup → s ∈ l → l.length = (l.filter fun t => t != s).length + 1 := by
  intro l
  induction l with
  | nil => intro _ h; cases h
  | cons a l ih =>
   intro hn hm
   obtain ⟨n1, n2⟩ := List.nodup_cons.1 hn
   by_cases e : a = s
   ·subst e
    rw [List.filter_cons, if_neg (by simp), List.filter_eq_self.2 (fun x hx => by
     have : x ≠ a := fun e => n1 (e ▸ hx)
     simpa using this)]
    rfl
   ·have hm' : s ∈ l := by
     rcases List.mem_cons.1 hm with h | h
     ·exact absurd h.symm e
     ·exact h
    rw [List.filter_cons, if_pos (by simpa using e), List.length_cons, List.length_cons, ih n2 hm']
 exact this _ hnd hsm
theorem link_ok {C : List (List Int)} {s : List Int} (ho : okC C = true) (hs : s ∈ C) : okC (sortS (linkL C s)) = true := by
 obtain ⟨h1, _, h3, _⟩ := okC_iff.1 ho
 refine okC_iff.2 ⟨?_, sortS_of_nodup (linkL_nodup ho hs), fun x hx => ?_, fun t ht h1t k hk => ?_⟩
 ·unfold sortS
  rw [List.length_mergeSort]
  exact Nat.le_trans (linkL_len s) h1
 ·obtain ⟨⟨t, t1, _, rfl⟩, hne⟩ := mem_linkL.1 (sortS_mem.1 hx)
  obtain ⟨r1, r2, r3⟩ := simplexI.1 (h3 t t1)
  have := rest_len s t
  have hp : 1 ≤ (rest s t).length := by
   cases h : rest s t with
   | nil => exact absurd h hne
   | cons a l => simp
  exact simplexI.2 ⟨by omega, inc_sub (rest_sub s t) r2, fun v hv => r3 v ((rest_sub s t).subset hv)⟩
 ·refine sortS_mem.2 (linkL_face ho hs (sortS_mem.1 ht) (drp_sub t k) (fun e => ?_))
  have := drp_length hk
  rw [e] at this
  simp at this
  omega
theorem pure_FnStars {l0 l1 : List Int} (h0 : WfB l0) (h1 : WfB l1) : ∃ k, z3.f k l0 l1 = some true := by
 refine Ev.rounds (g := fun k => z3.f k l0 l1) ?_
 unfold z3.f
 have hb0 : Byt l0 := h0.2
 have hb1 : Byt l1 := h1.2
 have hlong : ∃ b, z4.f l0 l1 = some b := by
  unfold z4.f
  split
  ·exact ⟨_, rfl⟩
  ·exact ⟨_, rfl⟩
 obtain ⟨b, hb⟩ := hlong
 refine Ev.bind (ev_const hb) ?_
 cases b with
 | true => exact ev_pos rfl (Ev.now _)
 | false =>
 obtain ⟨C, hC, ho⟩ := drawC_ok hb0
 refine ev_neg (by decide) (Ev.bind hC ?_)
 obtain ⟨c48, csrt, csx, ccl⟩ := okC_iff.1 ho
 by_cases hz : C.length = 0
 ·exact ev_pos (by omega) (Ev.now _)
 refine ev_neg (by omega) ?_
 obtain ⟨i, hi, hat⟩ := r8At_ok hb1 (n := C.length) (by omega) (by omega)
 have hl : C.length ≤ 1048576 := by omega
 have hr : ∀ x ∈ C, x.length ≤ 1048576 := fun x hx => by have := (simplex_len (csx x hx)).2; omega
 have hsC := getD_mem ([] : List Int) hi
 have hsl := simplex_len (csx _ hsC)
 have hstar : ∀ j : Nat, j < C.length → Ev (fun k => z7.f k C (j : Int)) (star C (C.getD j []), 0) := fun j hj => by
  have := implStarOf_ev hl hr (j : Int)
  unfold starOfC at this
  rwa [if_pos (askC_ok ho hj), Int.toNat_natCast] at this
 have hfaces : Ev (fun k => z8.f k C (i : Int)) (faceIdx C (C.getD i []), 0) := by
  have := implFacesOf_ev hl hr (i : Int)
  unfold facesOfC at this
  rwa [if_pos (askC_ok ho hi), Int.toNat_natCast] at this
 have hlink : Ev (fun k => z9.f k C (i : Int)) (sortS (linkL C (C.getD i [])), 0) := by
  have := implLink_ev hl hr (i : Int)
  unfold linkC at this
  rwa [if_pos (askC_ok ho hi), Int.toNat_natCast] at this
 have hsl48 : ∀ s, (star C s).length ≤ 1000 := fun s => Nat.le_trans (filt_le _ _) (by omega)
 have hown : ∀ j : Nat, j < C.length → (∀ x ∈ C.getD j [], x ∈ C.getD i []) → Ev (fun k => z10.f k (star C (C.getD j [])) (i : Int)) true := fun j hj hp =>
  hasR8_ev _ (hsl48 _) _ (mem_filt.2 ⟨i, hi, part_iff.2 hp, rfl⟩)
 refine Ev.bind (ev_const hat) (Ev.bind (hstar i hi) (Ev.bind hfaces (Ev.bind hlink ?_)))
 refine ev_pos rfl (Ev.bind (hown i hi (fun x hx => hx)) (ev_pos rfl (ev_pos rfl (ev_pos rfl (Ev.bind (a := true) ?_ (ev_pos rfl ?_))))))
 ·unfold z11.f
  have hlk := link_ok ho hsC
  obtain ⟨k1, _, k3, _⟩ := okC_iff.1 hlk
  exact Ev.bind (ev_eq (specOk_ev (sortS (linkL C (C.getD i []))) (by omega) (fun x hx => by have := (simplex_len (k3 x hx)).2; omega)) hlk) (Ev.now _)
 have hcount : ((((sortS (linkL C (C.getD i []))).length : Int) != wrap64 (((star C (C.getD i [])).length : Int) - 1)) : Bool) = false := by
  have h2 := star_link ho hsC
  have h3 := hsl48 (C.getD i [])
  have h4 : (sortS (linkL C (C.getD i []))).length = (linkL C (C.getD i [])).length := by unfold sortS; rw [List.length_mergeSort]
  have h5 : wrap64 (((star C (C.getD i [])).length : Int) - 1) = ((sortS (linkL C (C.getD i []))).length : Int) := by
   rw [wrap_small (by omega) (by omega), h4]
   omega
  rw [h5]
  simp
 dsimp only
 rw [hcount]
 have hfl : (faceIdx C (C.getD i [])).length = if 1 < (C.getD i []).length then (C.getD i []).length else 0 := by
  unfold faceIdx faces
  split <;> simp
 have hfm : ∀ x ∈ faceIdx C (C.getD i []), ∃ j : Nat, x = (j : Int) ∧ j < C.length ∧ ∀ z ∈ C.getD j [], z ∈ C.getD i [] := by
  intro x hx
  unfold faceIdx at hx
  obtain ⟨f, hf, rfl⟩ := List.mem_map.1 hx
  obtain ⟨f1, k, hk, rfl⟩ := mem_faces.1 hf
  have hfC : drp (C.getD i []) k ∈ C := ccl _ hsC f1 k hk
  obtain ⟨j, j1, j2, j3, _⟩ := idx_get hfC
  exact ⟨j, j2, j1, by rw [j3]; exact fun z hz => (drp_sub _ _).subset hz⟩
 generalize hF : faceIdx C (C.getD i []) = F at hfl hfm
 have hF4 : F.length ≤ 4 := by rw [hfl]; split <;> omega
 have hend : Ev (fun k => z3.l0 k (C.length : Int) (i : Int) F (F.length : Int) C) true := by
  refine Ev.step (fun k => z3.l0.eq_2 ..) ?_
  rw [rdl_nat]
  have hsim := implSimplicesOf_ev hl hr (wrap64 (((C.getD i []).length : Int) - 1))
  have hd : wrap64 (((C.getD i []).length : Int) - 1) = ((C.getD i []).length : Int) - 1 := wrap_small (by omega) (by omega)
  rw [hd] at hsim ⊢
  unfold simplicesOfC at hsim
  rw [if_pos ho, if_pos (by rw [Bool.and_eq_true, decide_eq_true_iff, decide_eq_true_iff]; omega)] at hsim
  refine ev_neg (by omega) (ev_pos (by omega) (ev_pos (by omega) (Ev.bind hsim (ev_pos rfl (Ev.bind (hasR8_ev _ (Nat.le_trans (filt_le _ _) (by omega)) _ (mem_filt.2 ⟨i, hi, decide_eq_true (by omega), rfl⟩)) (Ev.now _))))))
 have hloop : ∀ d j, j + d = F.length → Ev (fun k => z3.l0 k (C.length : Int) (i : Int) F (j : Int) C) true := by
  intro d
  induction d with
  | zero =>
   intro j hj
   have : j = F.length := by omega
   subst this
   exact hend
  | succ d ih =>
   intro j hj
   obtain ⟨m, hm, hmC, hmp⟩ := hfm _ (getD_mem (0 : Int) (show j < F.length by omega))
   have next := ih (j + 1) (by omega)
   refine Ev.step (fun k => z3.l0.eq_2 ..) ?_
   rw [rd_nat, hm]
   refine ev_pos (by omega) (ev_pos (by omega) (ev_neg (by omega) ?_))
   rw [decide_eq_false (show ¬ (m : Int) ≥ (C.length : Int) by omega)]
   refine Ev.step (fun k => z3.j3.eq_2 ..) ?_
   rw [rd_nat, hm, wrap_succ (by omega)]
   exact ev_neg (by decide) (ev_pos (by omega) (ev_pos (by omega) (Ev.bind (hstar m hmC) (ev_pos rfl (Ev.bind (hown m hmC hmp) (ev_pos rfl next))))))
 have hj1 : Ev (fun k => z3.j1 k (C.length : Int) (i : Int) F false C) true := by
  refine Ev.step (fun k => z3.j1.eq_2 ..) ?_
  exact ev_neg (by decide) (hloop F.length 0 (by omega))
 refine Ev.step (fun k => z3.j0.eq_2 ..) ?_
 rw [rdl_nat]
 refine ev_neg (by decide) (ev_pos (by omega) (ev_pos (by omega) ?_))
 by_cases h1s : 1 < (C.getD i []).length
 ·rw [if_pos h1s] at hfl
  exact ev_pos (by omega) (ev_neg (by omega) hj1)
 ·rw [if_neg h1s] at hfl
  have h2s : (((C.getD i []).length : Int) != 1) = false := by
   have : ((C.getD i []).length : Int) = 1 := by omega
   rw [this]
   rfl
  rw [h2s]
  exact ev_neg (by omega) (ev_pos (by omega) hj1)
end Go.Proofs.Ytidfblakgolbpaa.B

