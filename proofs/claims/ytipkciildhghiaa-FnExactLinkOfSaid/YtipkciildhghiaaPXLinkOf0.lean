/- What the functions come to, for the law FnExactLinkOf. -/
import Derived.Test.YtipkciildhghiaaKABCINL0
import Derived.Test.YtipkciildhghiaaKADDOPM0
import Derived.Test.YtipkciildhghiaaKBCLLOK0
import Derived.Test.YtipkciildhghiaaKCGOPCK0
import Derived.Test.YtipkciildhghiaaKCPHCIC0
import Derived.Test.YtipkciildhghiaaKFPEGOA0
import Derived.Test.YtipkciildhghiaaKHEHKAM0
import Derived.Test.YtipkciildhghiaaKHGNPLP0
import Derived.Test.YtipkciildhghiaaKJAHHEB0
import Derived.Test.YtipkciildhghiaaKKPOCEA0
import Derived.Test.YtipkciildhghiaaKNJLLLB0
import Derived.Test.YtipkciildhghiaaKOILLIC0
import Derived.Test.YtipkciildhghiaaKW0
set_option linter.unusedVariables false
set_option linter.unusedSimpArgs false
namespace Go.Proofs.Ytipkciildhghiaa.B
open Go.RowKit Go.Proofs.YtipkciildhghiaaW.PrintWords
theorem row_le_total : ∀ (l : List (List Int)) (x : List Int), x ∈ l → x.length ≤ total l
 | [], x, h => by cases h
 | y :: l, x, h => by
  simp only [total]
  rcases List.mem_cons.1 h with rfl | h
  ·have := total_nonneg l; omega
  ·have := row_le_total l x h; omega
theorem total_le_of {l : List (List Int)} {m : Nat} (h : ∀ x ∈ l, x.length ≤ m) : total l ≤ l.length * m := by
 induction l with
 | nil => simp [total]
 | cons x l ih =>
  have h1 := h x List.mem_cons_self
  have h2 := ih (fun y hy => h y (List.mem_cons_of_mem _ hy))
  simp only [total, List.length_cons]
  rw [Int.natCast_add, Int.add_mul]
  omega
theorem eqComplex_self (l : List (List Int)) (hl : l.length < 9223372036854775807) (hr : ∀ x ∈ l, x.length < 9223372036854775807) : Ev (fun k => z20.f k l l) true := by
 unfold z20.f
 exact Ev.bind (ev_eq (eqInt64SS_ev l l hl hr) (beq_self_eq_true l)) (ev_pos rfl (Ev.now _))
theorem toComplex_ev (l : List (List Int)) (hl : l.length ≤ 1048576) (hr : ∀ x ∈ l, x.length ≤ 1048576) : Ev (fun k => z17.f k l) l := by
 unfold z17.f
 exact Ev.bind (toInt64SS_ev l hl hr) (Ev.now _)
theorem szComplex_ev (l : List (List Int)) (b : Int) (hw : WfLL l) (h0 : 0 ≤ b) (h1 : b ≤ 9223372036854775807) :
  (∃ t, Ev (fun k => z15.f k l b) t ∧ t < 0) ∨ (Ev (fun k => z15.f k l b) (b - l.length - total l) ∧ l.length + total l ≤ b) := by
 unfold z15.f
 rcases szInt64SS_ev l b hw h0 h1 with ⟨t, ht, hn⟩ | ⟨ht, hb⟩
 ·exact .inl ⟨-1, Ev.bind ht (ev_pos hn (Ev.now _)), by omega⟩
 ·exact .inr ⟨Ev.bind ht (ev_neg (by omega) (Ev.now _)), hb⟩
end Go.Proofs.Ytipkciildhghiaa.B
set_option linter.unusedVariables false
set_option linter.unusedSimpArgs false
namespace Go.Proofs.Ytipkciildhghiaa.B
open Go.RowKit Go.Proofs.YtipkciildhghiaaW.PrintWords
theorem mark_val (l : List (List Int)) (a : Int) (h0 : 0 ≤ a) (h1 : a + total l ≤ 9223372036854775807) : laws_markInt64SS.f l a = some (a + total l, markRows l a) := by
 unfold laws_markInt64SS.f
 rw [if_pos ⟨h0, h1⟩]
theorem markInts_get : ∀ (l : List Int) (a : Int) (i : Nat), i < l.length → (markInts l a).getD i 0 = a + i
 | [], a, i, h => by simp at h
 | x :: l, a, 0, h => by simp [markInts]
 | x :: l, a, i + 1, h => by
  have := markInts_get l (a + 1) i (by simpa using h)
  simp only [markInts, List.getD_cons_succ, this]
  omega
theorem heldInt64S_ev (l : List Int) (a : Int) (h0 : 0 ≤ a) (h1 : a + l.length ≤ 9223372036854775807) : Ev (fun k => z23.f k (markInts l a) a) (a + l.length) := by
 unfold z23.f
 have h := ev_find (r := a + l.length) (fun (i : Nat) k => z23.l0 k (markInts l a) (a + i) (i : Int)) (fun _ => false) l.length 0 (fun j _ hj _ r hr => by
  refine Ev.step (fun k => z23.l0.eq_2 ..) ?_
  rw [rd_nat, markInts_get l a j (by omega), markInts_length, wrap_succ (by omega), wrap_small (by omega) (by omega), show a + (j : Int) + 1 = a + ((j + 1 : Nat) : Int) by omega]
  (repeat (first | refine ev_pos (by omega) ?_ | refine ev_neg (by omega) ?_))
  exact hr) (fun _ _ _ h => by cases h) (fun _ => by
  refine Ev.step (fun k => z23.l0.eq_2 ..) ?_
  rw [markInts_length]
  exact ev_neg (by omega) (ev_eq (Ev.now _) (by omega)))
 simpa using h
theorem markRows_get : ∀ (l : List (List Int)) (a : Int) (i : Nat), i < l.length → (markRows l a).getD i [] = markInts (l.getD i []) (a + total (l.take i))
 | [], a, i, h => by simp at h
 | x :: l, a, 0, h => by simp [markRows, total]
 | x :: l, a, i + 1, h => by
  have := markRows_get l (a + x.length) i (by simpa using h)
  simp only [markRows, List.getD_cons_succ, this, List.take_succ_cons, total]
  congr 1
  omega
theorem total_take_succ' (l0 : List (List Int)) (k : Nat) (hk : k < l0.length) : total (l0.take (k + 1)) = total (l0.take k) + (l0.getD k []).length := by
 have ht : l0.take (k + 1) = l0.take k ++ [l0.getD k []] := by
  rw [List.take_succ_eq_append_getElem hk, List.getD_eq_getElem?_getD, List.getElem?_eq_getElem hk]; rfl
 rw [ht, total_append]; simp [total]
theorem total_take_le' (l0 : List (List Int)) (k : Nat) : total (l0.take k) ≤ total l0 := by
 have h := total_append (l0.take k) (l0.drop k)
 rw [List.take_append_drop] at h
 have := total_nonneg (l0.drop k)
 omega
theorem heldInt64SS_ev (l : List (List Int)) (a : Int) (h0 : 0 ≤ a) (h1 : a + total l ≤ 9223372036854775807) (hl : l.length < 9223372036854775807) : Ev (fun k => z51.f k (markRows l a) a) (a + total l) := by
 unfold z51.f
 have h := ev_find (r := a + total l) (fun (i : Nat) k => z51.l0 k (markRows l a) (a + total (l.take i)) (i : Int)) (fun _ => false) l.length 0 (fun j _ hj _ r hr => by
  have hrd : rI_ (markRows l a) (j : Int) = markInts (l.getD j []) (a + total (l.take j)) := by
   rw [← markRows_get l a j (by omega)]; simp [rI_]
  have e1 := total_take_succ' l j (by omega)
  have e2 := total_take_le' l (j + 1)
  have e3 := total_nonneg (l.take j)
  refine Ev.step (fun k => z51.l0.eq_2 ..) ?_
  rw [hrd, markRows_length, wrap_succ (by omega)]
  (repeat (first | refine ev_pos (by omega) ?_ | refine ev_neg (by omega) ?_))
  refine Ev.bind (heldInt64S_ev _ _ (by omega) (by omega)) (ev_neg (by omega) ?_)
  rw [show a + total (l.take j) + ((l.getD j []).length : Int) = a + total (l.take (j + 1)) by omega]
  exact hr) (fun _ _ _ h => by cases h) (fun _ => by
  refine Ev.step (fun k => z51.l0.eq_2 ..) ?_
  rw [markRows_length]
  refine ev_neg (by omega) (ev_eq (Ev.now _) ?_)
  rw [Nat.zero_add, List.take_length])
 simpa [total] using h
end Go.Proofs.Ytipkciildhghiaa.B
set_option linter.unusedVariables false
set_option linter.unusedSimpArgs false
namespace Go.Proofs.Ytipkciildhghiaa.B
open Go.RowKit Go.Proofs.YtipkciildhghiaaW.PrintWords
open SimT
section
variable {C : List (List Int)} (hl : C.length ≤ 1048576) (hr : ∀ x ∈ C, x.length ≤ 1048576)
include hl hr
end
end Go.Proofs.Ytipkciildhghiaa.B
set_option linter.unusedVariables false
set_option linter.unusedSimpArgs false
namespace Go.Proofs.Ytipkciildhghiaa.B
open Go.RowKit Go.Proofs.YtipkciildhghiaaW.PrintWords
open SimT
section
variable {C : List (List Int)} (hl : C.length ≤ 1048576) (hr : ∀ x ∈ C, x.length ≤ 1048576)
def part (a b : List Int) : Bool := a.all fun v => has b v
theorem notIn_ev (b : List Int) (v : Int) (hb : b.length < 9223372036854775807) : Ev (fun k => z158.f k v b) (!has b v) := by
 unfold z158.f
 exact Ev.bind (contains_ev b v hb) (Ev.now _)
theorem anyNotIn_ev (a b : List Int) (ha : a.length < 9223372036854775807) (hb : b.length < 9223372036854775807) : Ev (fun k => z231.f k a b) (a.any fun v => !has b v) := by
 obtain ⟨t, ht, hd⟩ := ev_index_list (a) 0 (fun i k => z232.l0 k (a) ((a).length : Int) (i : Int) b) (fun v => !has b v) (fun j hj hp r hr => by
   refine Ev.step (fun k => z232.l0.eq_2 ..) ?_
   refine ev_pos (by omega) (ev_pos (by omega) (ev_pos (by omega) ?_))
   rw [rd_nat, wrap_succ (by omega)]
   exact Ev.bind (notIn_ev b _ hb) (ev_neg (by rw [hp]; decide) hr)) (fun j hj hp => by
   refine Ev.step (fun k => z232.l0.eq_2 ..) ?_
   refine ev_pos (by omega) (ev_pos (by omega) (ev_pos (by omega) ?_))
   rw [rd_nat]
   exact Ev.bind (notIn_ev b _ hb) (ev_pos hp (Ev.now _))) (by
   refine Ev.step (fun k => z232.l0.eq_2 ..) ?_
   exact ev_neg (by omega) (Ev.now _))
 unfold z231.f z232.f
 refine Ev.bind ht (ev_eq (Ev.now _) hd)
theorem isFace_ev (a b : List Int) (ha : a.length < 9223372036854775807) (hb : b.length < 9223372036854775807) : Ev (fun k => z119.f k a b) (part a b) := by
 unfold z119.f
 refine Ev.bind (anyNotIn_ev a b ha hb) (ev_eq (Ev.now _) ?_)
 unfold part
 rw [List.any_eq_not_all_not]; simp
theorem specPart_ev (a b : List Int) (ha : a.length < 9223372036854775807) (hb : b.length < 9223372036854775807) : Ev (fun k => z117.f k a b) (part a b) := by
 unfold z117.f part
 refine ev_all_list a 0 (fun (i : Nat) k => z117.l0 k a b (i : Int)) (fun v => has b v) (fun j hj hp r hr => ?_) (fun j hj hp => ?_) ?_
 ·refine Ev.step (fun k => z117.l0.eq_2 ..) ?_
  rw [rd_nat, wrap_succ (by omega)]
  exact ev_pos (by omega) (ev_pos (by omega) (Ev.bind (has_ev b _ hb) (ev_pos hp hr)))
 ·refine Ev.step (fun k => z117.l0.eq_2 ..) ?_
  rw [rd_nat]
  exact ev_pos (by omega) (ev_pos (by omega) (Ev.bind (has_ev b _ hb) (ev_neg (by rw [hp]; decide) (Ev.now _))))
 ·refine Ev.step (fun k => z117.l0.eq_2 ..) ?_
  exact ev_neg (by omega) (Ev.now _)
def star (C : List (List Int)) (s : List Int) : List Int := filt (fun i => part s (C.getD i [])) C.length
include hl hr
theorem starOf_ev {i : Nat} (hi : i < C.length) : Ev (fun k => z70.f k C (i : Int)) (star C (C.getD i [])) := by
 unfold z70.f
 have hrow := hr _ (getD_mem ([] : List Int) hi)
 refine ev_filt (fun (s : List Int) (j : Nat) k => z70.l0 k (i : Int) s C (C.length : Int) (j : Int) C) (fun j => part (C.getD i []) (C.getD j [])) C.length (fun j s hj hs hp r hr' => ?_) (fun j s hj hs hp r hr' => ?_) _ ?_
 ·refine Ev.step (fun k => z70.l0.eq_2 ..) ?_
  have hrow2 := hr _ (getD_mem ([] : List Int) hj)
  rw [rdl_nat, rdl_nat, wrap_succ (by omega)]
  exact ev_pos (by omega) (ev_pos (by omega) (ev_pos (by omega) (ev_pos (by omega) (ev_pos (by omega) (Ev.bind (isFace_ev _ _ (by omega) (by omega)) (ev_pos hp (ev_pos (by omega) hr')))))))
 ·refine Ev.step (fun k => z70.l0.eq_2 ..) ?_
  have hrow2 := hr _ (getD_mem ([] : List Int) hj)
  rw [rdl_nat, rdl_nat, wrap_succ (by omega)]
  exact ev_pos (by omega) (ev_pos (by omega) (ev_pos (by omega) (ev_pos (by omega) (ev_pos (by omega) (Ev.bind (isFace_ev _ _ (by omega) (by omega)) (ev_neg (by rw [hp]; decide) hr'))))))
 ·refine Ev.step (fun k => z70.l0.eq_2 ..) ?_
  exact ev_neg (by omega) (Ev.now _)
theorem specStar_ev (t : List Int) (ht : t.length < 9223372036854775807) : Ev (fun k => z66.f k C t) (star C t) := by
 unfold z66.f
 refine ev_filt (fun (s : List Int) (j : Nat) k => z66.l0 k t s (j : Int) C) (fun j => part t (C.getD j [])) C.length (fun j s hj hs hp r hr' => ?_) (fun j s hj hs hp r hr' => ?_) _ ?_
 ·refine Ev.step (fun k => z66.l0.eq_2 ..) ?_
  have hrow2 := hr _ (getD_mem ([] : List Int) hj)
  rw [rdl_nat, wrap_succ (by omega)]
  exact ev_pos (by omega) (ev_pos (by omega) (Ev.bind (specPart_ev _ _ ht (by omega)) (ev_pos hp (ev_pos (by omega) hr'))))
 ·refine Ev.step (fun k => z66.l0.eq_2 ..) ?_
  have hrow2 := hr _ (getD_mem ([] : List Int) hj)
  rw [rdl_nat, wrap_succ (by omega)]
  exact ev_pos (by omega) (ev_pos (by omega) (Ev.bind (specPart_ev _ _ ht (by omega)) (ev_neg (by rw [hp]; decide) hr')))
 ·refine Ev.step (fun k => z66.l0.eq_2 ..) ?_
  exact ev_neg (by omega) (Ev.now _)
omit hl hr in
theorem sizeL_val (l : List (List Int)) : z118.f l = some (l.length : Int) := rfl
omit hl hr in
def askC (C : List (List Int)) (i : Int) : Int := if okC C = true then (if (decide (0 ≤ i) && decide (i ≤ (C.length : Int) - 1)) = true then 0 else 2) else 1
theorem hasSimplex_ev (i : Int) : Ev (fun k => z69.f k C i) (askC C i) := by
 unfold z69.f askC
 refine Ev.bind (implValid_ev C hl hr) ?_
 cases ho : okC C with
 | false => exact ev_neg (by decide) (ev_eq (Ev.now _) (by simp))
 | true =>
  refine ev_pos rfl (Ev.bind (ev_const (sizeL_val C)) ?_)
  rw [wrap_small (by omega) (by omega), if_pos (show true = true from rfl)]
  refine Ev.bind (ev_const (within_val _ _ _)) ?_
  cases (decide (0 ≤ i) && decide (i ≤ (C.length : Int) - 1)) with
  | true => exact ev_pos rfl (Ev.now _)
  | false => exact ev_neg (by decide) (Ev.now _)
theorem specAsk_ev (i : Int) : Ev (fun k => z65.f k C i) (askC C i) := by
 unfold z65.f askC
 refine Ev.bind (specOk_ev C hl hr) ?_
 cases ho : okC C with
 | false => exact ev_neg (by decide) (ev_eq (Ev.now _) (by simp))
 | true =>
  refine ev_pos rfl ?_
  rw [wrap_small (by omega) (by omega), if_pos (show true = true from rfl)]
  refine Ev.bind (ev_const (in_val _ _ _)) ?_
  cases (decide (0 ≤ i) && decide (i ≤ (C.length : Int) - 1)) with
  | true => exact ev_pos rfl (Ev.now _)
  | false => exact ev_neg (by decide) (Ev.now _)
omit hl hr in
theorem askC_zero {i : Int} (h : askC C i = 0) : okC C = true ∧ ∃ n : Nat, i = (n : Int) ∧ n < C.length := by
 unfold askC at h
 split at h
 ·rename_i ho
  split at h
  ·rename_i hi
   rw [Bool.and_eq_true, decide_eq_true_iff, decide_eq_true_iff] at hi
   exact ⟨ho, i.toNat, by omega, by omega⟩
  ·omega
 ·omega
end
end Go.Proofs.Ytipkciildhghiaa.B
set_option linter.unusedVariables false
set_option linter.unusedSimpArgs false
namespace Go.Proofs.Ytipkciildhghiaa.B
open Go.RowKit Go.Proofs.YtipkciildhghiaaW.PrintWords
open SimT
theorem apart_srt {l : List (List Int)} (h : Srt l) : apart l = true := by
 unfold apart
 rw [List.all_eq_true]
 intro j hj
 rw [List.mem_range] at hj
 have := slt_ne (srt_get h (i := j) (j := j + 1) (by omega) (by omega))
 simpa using fun e => this e.symm
theorem heldComplex_ev (l : List (List Int)) (b : Int) (h0 : 0 ≤ b) (h1 : b + total l ≤ 9223372036854775807) (hl : l.length < 9223372036854775807) : Ev (fun k => z26.f k (markRows l b) b) (b + total l) := by
 unfold z26.f
 have := total_nonneg l
 exact Ev.bind (heldInt64SS_ev l b h0 h1 hl) (ev_neg (by omega) (Ev.now _))
theorem sortS_mem {l : List (List Int)} {x : List Int} : x ∈ sortS l ↔ x ∈ l := by
 unfold sortS
 exact List.mem_mergeSort
theorem sortS_of_nodup {l : List (List Int)} (h : l.Nodup) : Srt (sortS l) := by
 have hn : (sortS l).Nodup := (List.mergeSort_perm l _).nodup_iff.2 h
 have hp : (sortS l).Pairwise (fun a b => (!(slt b a)) = true) := by
  unfold sortS
  refine List.pairwise_mergeSort (fun a b c h1 h2 => ?_) (fun a b => ?_) l
  ·rw [Bool.not_eq_true', ← lt_scmp] at *
   exact swo_scmp.ntrans c b a h2 h1
  ·rcases slt_tri a b with h | h | h
   ·rw [slt_asymm h]; rfl
   ·subst h; rw [slt_irrefl]; rfl
   ·rw [slt_asymm h]; simp
 refine List.Pairwise.imp (fun {a b} h => ?_) (hp.and hn)
 obtain ⟨h1, h2⟩ := h
 rcases slt_tri a b with h | h | h
 ·exact h
 ·exact absurd h h2
 ·rw [h] at h1; cases h1
theorem inOrder_nodup {l : List (List Int)} (h : l.Nodup) (hl : l.length ≤ 1048576) (hr : ∀ x ∈ l, x.length ≤ 1048576) : impl_inOrder.f l = some (sortS l) := by
 unfold impl_inOrder.f
 rw [apart_srt (sortS_of_nodup h), if_pos]
 simp only [Bool.and_true, Bool.and_eq_true, decide_eq_true_eq, List.all_eq_true]
 exact ⟨hl, hr⟩
end Go.Proofs.Ytipkciildhghiaa.B
set_option linter.unusedVariables false
set_option linter.unusedSimpArgs false
namespace Go.Proofs.Ytipkciildhghiaa.B
open Go.RowKit Go.Proofs.YtipkciildhghiaaW.PrintWords
open SimT
theorem inc_of_rising {l : List Int} (h : rising l = true) : Inc l := by
 unfold rising at h
 rw [List.all_eq_true] at h
 have main : ∀ d i, i + d + 1 < l.length → l.getD i 0 < l.getD (i + d + 1) 0 := by
  intro d
  induction d with
  | zero =>
   intro i hi
   have := h (i + 1) (List.mem_range.2 hi)
   unfold rises at this
   simpa using this
  | succ d ih =>
   intro i hi
   have h1 := ih i (by omega)
   have h2 := h (i + d + 2) (List.mem_range.2 (by omega))
   unfold rises at h2
   have h2 : l.getD (i + d + 1) 0 < l.getD (i + d + 2) 0 := by simpa using h2
   exact Int.lt_trans h1 h2
 refine List.pairwise_iff_getElem.2 (fun i j hi hj hij => ?_)
 have := main (j - i - 1) i (by omega)
 rw [show i + (j - i - 1) + 1 = j by omega] at this
 simpa [List.getD_eq_getElem?_getD, List.getElem?_eq_getElem hj, List.getElem?_eq_getElem hi] using this
theorem inc_simplex {s : List Int} (h : isSimplex s = true) : Inc s := by
 unfold isSimplex at h
 simp only [Bool.and_eq_true] at h
 exact inc_of_rising h.2.1
def rest (s t : List Int) : List Int := t.filter fun x => !has s x
theorem mem_rest {s t : List Int} {x : Int} : x ∈ rest s t ↔ x ∈ t ∧ x ∉ s := by
 unfold rest
 rw [List.mem_filter, Bool.not_eq_true', ← Bool.not_eq_true, has_iff]
theorem rest_sub (s t : List Int) : (rest s t).Sublist t := List.filter_sublist
theorem rest_len (s t : List Int) : (rest s t).length ≤ t.length := (rest_sub s t).length_le
theorem part_iff {a b : List Int} : part a b = true ↔ ∀ x ∈ a, x ∈ b := by
 unfold part
 rw [List.all_eq_true]
 exact ⟨fun h x hx => has_iff.1 (h x hx), fun h x hx => has_iff.2 (h x hx)⟩
def linkL (C : List (List Int)) (s : List Int) : List (List Int) := (((C.filter (part s)).map (rest s)).filter fun r => !r.isEmpty)
theorem mem_linkL {C : List (List Int)} {s r : List Int} : r ∈ linkL C s ↔ (∃ t, t ∈ C ∧ (∀ x ∈ s, x ∈ t) ∧ rest s t = r) ∧ r ≠ [] := by
 unfold linkL
 rw [List.mem_filter, List.mem_map]
 constructor
 ·rintro ⟨⟨t, ht, rfl⟩, h2⟩
  obtain ⟨h1, h3⟩ := List.mem_filter.1 ht
  exact ⟨⟨t, h1, part_iff.1 h3, rfl⟩, fun e => by rw [e] at h2; cases h2⟩
 ·rintro ⟨⟨t, h1, h3, rfl⟩, h2⟩
  exact ⟨⟨t, List.mem_filter.2 ⟨h1, part_iff.2 h3⟩, rfl⟩, by simpa using h2⟩
theorem linkL_nodup {C : List (List Int)} {s : List Int} (ho : okC C = true) (hs : s ∈ C) : (linkL C s).Nodup := by
 obtain ⟨_, h2, h3, _⟩ := okC_iff.1 ho
 unfold linkL
 refine List.Pairwise.filter _ (List.pairwise_map.2 (List.Pairwise.imp_of_mem (R := fun a b => a ≠ b) (fun {a b} ha hb hne e => hne ?_) (List.Pairwise.filter _ (srt_nodup h2))))
 obtain ⟨ha1, ha2⟩ := List.mem_filter.1 ha
 obtain ⟨hb1, hb2⟩ := List.mem_filter.1 hb
 have ha2 := part_iff.1 ha2
 have hb2 := part_iff.1 hb2
 refine inc_ext (inc_simplex (h3 a ha1)) (inc_simplex (h3 b hb1)) (fun x => ?_)
 by_cases hx : x ∈ s
 ·exact ⟨fun _ => hb2 x hx, fun _ => ha2 x hx⟩
 ·have h4 : x ∈ rest s a ↔ x ∈ rest s b := by rw [e]
  rw [mem_rest, mem_rest] at h4
  exact ⟨fun h => (h4.1 ⟨h, hx⟩).1, fun h => (h4.2 ⟨h, hx⟩).1⟩
theorem linkL_len {C : List (List Int)} (s : List Int) : (linkL C s).length ≤ C.length := by
 unfold linkL
 refine Nat.le_trans (List.length_filter_le _ _) ?_
 rw [List.length_map]
 exact List.length_filter_le _ _
theorem linkL_row {C : List (List Int)} {s r : List Int} (ho : okC C = true) (h : r ∈ linkL C s) : r.length ≤ 4 := by
 obtain ⟨⟨t, h1, _, rfl⟩, _⟩ := mem_linkL.1 h
 exact Nat.le_trans (rest_len s t) (simplex_len ((okC_iff.1 ho).2.2.1 t h1)).2
theorem linkL_face {C : List (List Int)} {s r x : List Int} (ho : okC C = true) (hs : s ∈ C) (hr : r ∈ linkL C s) (hx : x.Sublist r) (hne : x ≠ []) : x ∈ linkL C s := by
 obtain ⟨_, _, h3, h4⟩ := okC_iff.1 ho
 obtain ⟨⟨t, h1, h2, rfl⟩, _⟩ := mem_linkL.1 hr
 have hxt : x.Sublist t := hx.trans (rest_sub s t)
 have ht := inc_simplex (h3 t h1)
 have hxi : Inc x := inc_sub hxt ht
 have hxr : ∀ y ∈ x, y ∈ t ∧ y ∉ s := fun y hy => mem_rest.1 (hx.subset hy)
 let u := t.filter fun y => has s y || has x y
 have hut : u.Sublist t := List.filter_sublist
 have hum : ∀ y, y ∈ u ↔ y ∈ t ∧ (y ∈ s ∨ y ∈ x) := fun y => by
  show y ∈ t.filter _ ↔ _
  rw [List.mem_filter, Bool.or_eq_true, has_iff, has_iff]
 have hune : u ≠ [] := fun e => by
  cases x with
  | nil => exact hne rfl
  | cons a x =>
   have := (hum a).2 ⟨(hxr a List.mem_cons_self).1, .inr List.mem_cons_self⟩
   rw [e] at this; cases this
 refine mem_linkL.2 ⟨⟨u, closed_mem h4 h1 hut hune, fun y hy => (hum y).2 ⟨h2 y hy, .inl hy⟩, ?_⟩, hne⟩
 refine inc_ext (inc_sub (rest_sub s u) (inc_sub hut ht)) hxi (fun y => ?_)
 rw [mem_rest, hum]
 constructor
 ·rintro ⟨⟨_, h | h⟩, h5⟩
  ·exact absurd h h5
  ·exact h
 ·intro h
  exact ⟨⟨(hxr y h).1, .inr h⟩, (hxr y h).2⟩
theorem link_both {C : List (List Int)} {s : List Int} (ho : okC C = true) (hs : s ∈ C) : (linkL C s).foldl (fun C s => putN s.length C s) [] = sortS (linkL C s) := by
 obtain ⟨h1, _, h3⟩ := put_all (linkL C s) (C := []) (fun r hr => (mem_linkL.1 hr).2) List.Pairwise.nil (fun s hs => by cases hs)
 refine srt_ext h1 (sortS_of_nodup (linkL_nodup ho hs)) (fun x => ?_)
 rw [h3, sortS_mem]
 constructor
 ·rintro (h | ⟨⟨r, hr, hx⟩, hne⟩)
  ·cases h
  ·exact linkL_face ho hs hr hx hne
 ·intro h
  exact .inr ⟨⟨x, h, List.Sublist.refl _⟩, (mem_linkL.1 h).2⟩
theorem iter_foldl {σ α : Type} (G : σ → α → σ) (z : α) (xs : List α) (s : σ) : iter (fun j s => G s (xs.getD j z)) 0 xs.length s = xs.foldl G s := by
 have main : ∀ n, n ≤ xs.length → iter (fun j s => G s (xs.getD j z)) 0 n s = (xs.take n).foldl G s := by
  intro n
  induction n with
  | zero => intro _; rfl
  | succ n ih =>
   intro hn
   rw [iter_last, ih (by omega), Nat.zero_add, List.take_succ_eq_append_getElem (by omega), List.foldl_append, List.foldl_cons, List.foldl_nil, List.getD_eq_getElem?_getD, List.getElem?_eq_getElem (by omega)]
   rfl
 have := main xs.length (Nat.le_refl _)
 rwa [List.take_length] at this
def stepI (C : List (List Int)) (s : List Int) (acc : List (List Int)) (i : Int) : List (List Int) := if (rest s (C.getD i.toNat [])).isEmpty then acc else acc ++ [rest s (C.getD i.toNat [])]
def stepS (C : List (List Int)) (s : List Int) (acc : List (List Int)) (i : Int) : List (List Int) := if (rest s (C.getD i.toNat [])).isEmpty then acc else putN (rest s (C.getD i.toNat [])).length acc (rest s (C.getD i.toNat []))
theorem star_map (C : List (List Int)) (s : List Int) : (star C s).map (fun i => C.getD i.toNat []) = C.filter (part s) := by
 unfold star filt
 rw [List.map_map]
 have h : C = (List.range C.length).map fun j => C.getD j [] := by
  have := map_range ([] : List Int) id C
  simpa using this
 conv => rhs; rw [h, List.filter_map]
 rfl
theorem steps_I (C : List (List Int)) (s : List Int) : ∀ (L : List Int) (acc : List (List Int)), L.foldl (stepI C s) acc = acc ++ ((L.map fun i => rest s (C.getD i.toNat [])).filter fun r => !r.isEmpty)
 | [], acc => by simp
 | i :: L, acc => by
  rw [List.foldl_cons, steps_I C s L, List.map_cons, List.filter_cons]
  unfold stepI
  cases (rest s (C.getD i.toNat [])).isEmpty <;> simp
theorem steps_S (C : List (List Int)) (s : List Int) : ∀ (L : List Int) (acc : List (List Int)), L.foldl (stepS C s) acc = ((L.map fun i => rest s (C.getD i.toNat [])).filter fun r => !r.isEmpty).foldl (fun C s => putN s.length C s) acc
 | [], acc => by simp
 | i :: L, acc => by
  rw [List.foldl_cons, steps_S C s L, List.map_cons, List.filter_cons]
  unfold stepS
  cases (rest s (C.getD i.toNat [])).isEmpty <;> simp
theorem link_map (C : List (List Int)) (s : List Int) : ((star C s).map fun i => rest s (C.getD i.toNat [])).filter (fun r => !r.isEmpty) = linkL C s := by
 unfold linkL
 rw [← star_map, List.map_map]
 rfl
theorem star_at {C : List (List Int)} {s : List Int} {j : Nat} (hj : j < (star C s).length) : ∃ n : Nat, (star C s).getD j 0 = (n : Int) ∧ n < C.length ∧ part s (C.getD n []) = true := by
 obtain ⟨i, h1, h2, h3⟩ := mem_filt.1 (getD_mem (0 : Int) hj)
 exact ⟨i, h3, h1, h2⟩
theorem cnt_le {n : Nat} (h : n ≤ 4) : cntN n ≤ 41 := by
 rcases n with _ | _ | _ | _ | _ | n
 ·decide
 ·decide
 ·decide
 ·decide
 ·decide
 ·omega
def linkC (C : List (List Int)) (i : Int) : List (List Int) × Int := if askC C i = 0 then (sortS (linkL C (C.getD i.toNat [])), 0) else ([], askC C i)
section
variable {C : List (List Int)} (hl : C.length ≤ 1048576) (hr : ∀ x ∈ C, x.length ≤ 1048576)
include hl hr
theorem implLink_ev (i : Int) : Ev (fun k => z28.f k C i) (linkC C i) := by
 unfold z28.f linkC
 refine Ev.bind (hasSimplex_ev hl hr i) ?_
 by_cases h : askC C i = 0
 ·obtain ⟨ho, n, rfl, hn⟩ := askC_zero h
  have hsC := getD_mem ([] : List Int) hn
  have hrn := hr _ hsC
  have hst : (star C (C.getD n [])).length ≤ C.length := filt_le _ _
  refine ev_eq (ev_pos h (Ev.bind (starOf_ev hl hr hn) ?_)) (by rw [if_pos h, Int.toNat_natCast])
  obtain ⟨h1, h2⟩ := le_iter_inv (fun acc j k => z28.l0 k (n : Int) acc (star C (C.getD n [])) ((star C (C.getD n [])).length : Int) (j : Int) C) (fun j acc => stepI C (C.getD n []) acc ((star C (C.getD n [])).getD j 0)) (fun j acc => acc.length ≤ j) (star C (C.getD n [])).length 0 [] (by simp) (by
   intro j acc _ hj hI
   obtain ⟨m, hm, hmC, hpm⟩ := star_at (s := C.getD n []) (C := C) (by omega : j < _)
   have hrm := hr _ (getD_mem ([] : List Int) hmC)
   have h1m := (simplex_len ((okC_iff.1 ho).2.2.1 _ (getD_mem ([] : List Int) hmC))).1
   have hw : impl_without.f (C.getD m []) (C.getD n []) = some (rest (C.getD n []) (C.getD m [])) := by
    unfold impl_without.f
    rw [if_pos]
    ·rfl
    ·simp only [Bool.and_eq_true, decide_eq_true_eq]; omega
   refine ⟨fun r hr' => ?_, ?_⟩
   ·have hr'' : Ev (fun k => z28.l0 k (n : Int) (stepI C (C.getD n []) acc (m : Int)) (star C (C.getD n [])) ((star C (C.getD n [])).length : Int) ((j + 1 : Nat) : Int) C) r := by rw [← hm]; exact hr'
    unfold stepI at hr''
    rw [Int.toNat_natCast] at hr''
    refine Ev.step (fun k => z28.l0.eq_2 ..) ?_
    rw [rd_nat, hm, rdl_nat, rdl_nat, wrap_succ (by omega)]
    refine ev_pos (by omega) (ev_pos (by omega) (ev_pos (by omega) (ev_pos (by omega) (ev_pos (by omega) (ev_pos (by omega) (ev_pos (by omega) (Ev.bind (ev_const hw) ?_)))))))
    cases hE : rest (C.getD n []) (C.getD m []) with
    | nil =>
     rw [hE] at hr''
     exact ev_neg (by simp) hr''
    | cons a l =>
     rw [hE] at hr''
     exact ev_pos (by simp) (ev_pos (by omega) hr'')
   ·show (stepI C (C.getD n []) acc _).length ≤ j + 1
    unfold stepI
    split
    ·omega
    ·simp; omega)
  rw [iter_foldl, steps_I, link_map, List.nil_append, Nat.zero_add] at h1
  refine h1 _ ?_
  have hlk := linkL_len (C := C) (C.getD n [])
  refine Ev.step (fun k => z28.l0.eq_2 ..) ?_
  exact ev_neg (by omega) (Ev.bind (ev_const (inOrder_nodup (linkL_nodup ho hsC) (by omega) (fun x hx => by have := linkL_row ho hx; omega))) (Ev.now _))
 ·exact ev_eq (ev_neg h (Ev.now _)) (if_neg h).symm
omit hl hr in
theorem specRest_le (s t : List Int) (hs : s.length ≤ 1048576) (ht : t.length ≤ 1048576) (q : List Int) (i : Int) (D : List (List Int)) : Le (fun k => z27.l1 k s q i (rest s t) t (t.length : Int) C D) (fun k => z27.l1 k s q i [] t 0 C D) := by
 have hlen : ∀ n, (rest s (t.take n)).length ≤ n := fun n => Nat.le_trans (rest_len s _) (by rw [List.length_take]; omega)
 have main : ∀ n, n ≤ t.length → Le (fun k => z27.l1 k s q i (rest s (t.take n)) t (n : Int) C D) (fun k => z27.l1 k s q i [] t 0 C D) := by
  intro n
  induction n with
  | zero => exact fun _ r hr => by simpa [rest] using hr
  | succ n ih =>
   intro hn
   refine Le.trans (fun r hr' => ?_) (ih (by omega))
   have hl2 := hlen n
   have e : rest s (t.take (n + 1)) = rest s (t.take n) ++ (if has s (t.getD n 0) then [] else [t.getD n 0]) := by
    unfold rest
    rw [List.take_succ_eq_append_getElem (by omega), List.filter_append, List.getD_eq_getElem?_getD, List.getElem?_eq_getElem (by omega), Option.getD_some, List.filter_cons, List.filter_nil]
    cases has s (t[n]) <;> simp
   rw [e] at hr'
   refine Ev.step (fun k => z27.l1.eq_2 ..) ?_
   rw [rd_nat, wrap_succ (by omega)]
   refine ev_pos (by omega) (ev_pos (by omega) (Ev.bind (has_ev s _ (by omega)) ?_))
   cases hh : has s (t.getD n 0) with
   | true =>
    rw [hh, if_pos rfl, List.append_nil] at hr'
    exact ev_pos rfl hr'
   | false =>
    rw [hh, if_neg (by decide)] at hr'
    exact ev_neg (by decide) (ev_pos (by omega) hr')
 have := main t.length (Nat.le_refl _)
 rwa [List.take_length] at this
theorem specLink_ev (i : Int) : Ev (fun k => z27.f k C i) (linkC C i) := by
 unfold z27.f linkC
 refine Ev.bind (specAsk_ev hl hr i) ?_
 by_cases h : askC C i = 0
 ·obtain ⟨ho, n, rfl, hn⟩ := askC_zero h
  have hsC := getD_mem ([] : List Int) hn
  have hrn := hr _ hsC
  have hC48 := (okC_iff.1 ho).1
  have hst : (star C (C.getD n [])).length ≤ C.length := filt_le _ _
  rw [rdl_nat]
  refine ev_eq (ev_pos h (ev_pos (by omega) (ev_pos (by omega) (Ev.bind (specStar_ev hl hr _ (by omega)) ?_)))) (by rw [if_pos h, Int.toNat_natCast])
  obtain ⟨h1, h2⟩ := le_iter_inv (fun acc j k => z27.l0 k (C.getD n []) (star C (C.getD n [])) (j : Int) C acc) (fun j acc => stepS C (C.getD n []) acc ((star C (C.getD n [])).getD j 0)) (fun j acc => acc.length ≤ 41 * j ∧ (∀ x ∈ acc, x.length ≤ 4) ∧ Srt acc ∧ Closed acc) (star C (C.getD n [])).length 0 [] ⟨by simp, by simp, List.Pairwise.nil, fun s hs => by cases hs⟩ (by
   intro j acc _ hj hI
   obtain ⟨m, hm, hmC, hpm⟩ := star_at (s := C.getD n []) (C := C) (by omega : j < _)
   have hrm := hr _ (getD_mem ([] : List Int) hmC)
   have h4m := (simplex_len ((okC_iff.1 ho).2.2.1 _ (getD_mem ([] : List Int) hmC))).2
   have hrl := rest_len (C.getD n []) (C.getD m [])
   obtain ⟨i1, i2, i3, i4⟩ := hI
   refine ⟨fun r hr' => ?_, ?_⟩
   ·have hr'' : Ev (fun k => z27.l0 k (C.getD n []) (star C (C.getD n [])) ((j + 1 : Nat) : Int) C (stepS C (C.getD n []) acc (m : Int))) r := by rw [← hm]; exact hr'
    unfold stepS at hr''
    rw [Int.toNat_natCast] at hr''
    refine Ev.step (fun k => z27.l0.eq_2 ..) ?_
    rw [rd_nat, hm, rdl_nat]
    refine ev_pos (by omega) (ev_pos (by omega) (ev_pos (by omega) (ev_pos (by omega) ?_)))
    refine specRest_le (C.getD n []) (C.getD m []) (by omega) (by omega) _ _ _ r ?_
    refine Ev.step (fun k => z27.l1.eq_2 ..) ?_
    rw [show wrap64 ((j : Int) + 1) = ((j + 1 : Nat) : Int) from wrap_succ (by omega)]
    refine ev_neg (by omega) ?_
    cases hE : rest (C.getD n []) (C.getD m []) with
    | nil =>
     rw [hE] at hr''
     exact ev_neg (by simp) hr''
    | cons a l =>
     rw [hE] at hr'' hrl
     have hcn := cnt_le (n := (a :: l).length) (by omega)
     have hp : spec_l05Put.f acc (a :: l) = some (putN (a :: l).length acc (a :: l)) := by
      unfold spec_l05Put.f
      rw [if_pos]
      simp only [Bool.and_eq_true, decide_eq_true_eq, List.all_eq_true]
      refine ⟨⟨by simp, by omega⟩, by omega, fun x hx => by have := i2 x hx; omega⟩
     exact ev_pos (by simp) (Ev.bind (ev_const hp) hr'')
   ·show (stepS C (C.getD n []) acc _).length ≤ 41 * (j + 1) ∧ _
    rw [hm]
    show (stepS C (C.getD n []) acc (m : Int)).length ≤ 41 * (j + 1) ∧ (∀ x ∈ stepS C (C.getD n []) acc (m : Int), x.length ≤ 4) ∧ Srt (stepS C (C.getD n []) acc (m : Int)) ∧ Closed (stepS C (C.getD n []) acc (m : Int))
    unfold stepS
    rw [Int.toNat_natCast]
    cases hE : rest (C.getD n []) (C.getD m []) with
    | nil => exact ⟨by simp; omega, i2, i3, i4⟩
    | cons a l =>
     rw [hE] at hrl
     have hcn := cnt_le (n := (a :: l).length) (by omega)
     have hpl := putN_len (a :: l).length acc (a :: l) (Nat.le_refl _)
     obtain ⟨p1, p2, p3⟩ := putN_spec (a :: l).length (Nat.le_refl _) (by simp) i3 i4
     rw [show (a :: l).isEmpty = false from rfl, if_neg (by decide)]
     refine ⟨by omega, fun x hx => ?_, p1, p2⟩
     rcases (p3 x).1 hx with h | ⟨h, _⟩
     ·exact i2 x h
     ·have := h.length_le; omega)
  rw [iter_foldl, steps_S, link_map, link_both ho hsC, Nat.zero_add] at h1
  refine h1 _ ?_
  refine Ev.step (fun k => z27.l0.eq_2 ..) ?_
  exact ev_neg (by omega) (Ev.now _)
 ·exact ev_eq (ev_neg h (Ev.now _)) (if_neg h).symm
omit hl hr in
theorem linkC_small (i : Int) : (linkC C i).1.length ≤ 48 ∧ ∀ x ∈ (linkC C i).1, x.length ≤ 4 := by
 unfold linkC
 split
 ·rename_i h
  obtain ⟨ho, n, rfl, hn⟩ := askC_zero h
  have hC48 := (okC_iff.1 ho).1
  refine ⟨?_, fun x hx => linkL_row ho (sortS_mem.1 hx)⟩
  show (sortS _).length ≤ 48
  unfold sortS
  rw [List.length_mergeSort]
  exact Nat.le_trans (linkL_len _) hC48
 ·simp
end
theorem pure_LinkOf {l0 : List (List Int)} {a1 : Int} (h0 : WfLL l0) (h1 : Wf a1) : ∃ k, z5.f k l0 a1 = some true := by
 refine Ev.rounds (g := fun k => z5.f k l0 a1) ?_
 unfold z5.f
 rcases szComplex_ev l0 1048576 h0 (by omega) (by omega) with ⟨t, ht, hn⟩ | ⟨ht, hb⟩
 ·exact Ev.bind ht (ev_pos hn (Ev.now _))
 have htn := total_nonneg l0
 have hrow : ∀ x ∈ l0, x.length ≤ 1048576 := fun x hx => by have := row_le_total l0 x hx; omega
 have hlen : l0.length ≤ 1048576 := by omega
 have hto := toComplex_ev l0 hlen hrow
 have heq := eqComplex_self l0 (by omega) (fun x hx => by have := hrow x hx; omega)
 refine Ev.bind ht (ev_neg (by omega) ?_)
 have hsp := specLink_ev hlen hrow a1
 have him := implLink_ev hlen hrow a1
 have hs := linkC_small (C := l0) a1
 generalize linkC l0 a1 = g at hsp him hs
 obtain ⟨g0, g1⟩ := g
 dsimp only at hs
 obtain ⟨hs, hs2⟩ := hs
 have htg := total_le_of (l := g0) (m := 4) hs2
 have htg0 := total_nonneg g0
 have heg := eqComplex_self g0 (by omega) (fun x hx => by have := hs2 x hx; omega)
 have hm1 : laws_markComplex.f l0 1 = some (1 + total l0, markRows l0 1) := mark_val l0 1 (by omega) (by omega)
 have hm2 : laws_markComplex.f g0 1 = some (1 + total g0, markRows g0 1) := mark_val g0 1 (by omega) (by omega)
 have hh := heldComplex_ev g0 1 (by omega) (by omega) (by omega)
 (repeat (first | exact Ev.now _ | refine ev_pos rfl ?_ | refine ev_neg (by simp only []; omega) ?_ | refine ev_neg (by omega) ?_ | refine ev_neg (by simp) ?_ | refine Ev.bind (by assumption) ?_ | refine Ev.bind (ev_const (by assumption)) ?_))
end Go.Proofs.Ytipkciildhghiaa.B
