/- What the functions come to, for the law FnExactSkeletonOf. -/
import Derived.Test.YtipkciildhghiaaKANDPCJ0
import Derived.Test.YtipkciildhghiaaKFEODMB0
import Derived.Test.YtipkciildhghiaaKHJONCD0
import Derived.Test.YtipkciildhghiaaKHKCALG0
import Derived.Test.YtipkciildhghiaaKJFPECC0
import Derived.Test.YtipkciildhghiaaKJKIMLF0
import Derived.Test.YtipkciildhghiaaKKFMIHE0
import Derived.Test.YtipkciildhghiaaKMEJJOC0
import Derived.Test.YtipkciildhghiaaKOJCANM0
import Derived.Test.YtipkciildhghiaaKPFOJIL0
import Derived.Test.YtipkciildhghiaaKW0
set_option linter.unusedVariables false
set_option linter.unusedSimpArgs false
namespace Go.Proofs.Ytipkciildhghiaa.B
open Go.RowKit Go.Proofs.YtipkciildhghiaaW.PrintWords

theorem row_le_total : ∀ (l : List (List Int)) (x : List Int), x ∈ l → x.length ≤ total l
 | [], x, h => by cases h
 | y :: l, x, h => by
  simp only [total]
  rcases List.mem_cons.1 h with rfl | h
  ·have := total_nonneg l; omega
  ·have := row_le_total l x h; omega
theorem total_le_of {l : List (List Int)} {m : Nat} (h : ∀ x ∈ l, x.length ≤ m) : total l ≤ l.length * m := by
 induction l with
 | nil => simp [total]
 | cons x l ih =>
  have h1 := h x List.mem_cons_self
  have h2 := ih (fun y hy => h y (List.mem_cons_of_mem _ hy))
  simp only [total, List.length_cons]
  rw [Int.natCast_add, Int.add_mul]
  omega
theorem eqComplex_self (l : List (List Int)) (hl : l.length < 9223372036854775807) (hr : ∀ x ∈ l, x.length < 9223372036854775807) : Ev (fun k => z20.f k l l) true := by
 unfold z20.f
 exact Ev.bind (ev_eq (eqInt64SS_ev l l hl hr) (beq_self_eq_true l)) (ev_pos rfl (Ev.now _))
theorem toComplex_ev (l : List (List Int)) (hl : l.length ≤ 1048576) (hr : ∀ x ∈ l, x.length ≤ 1048576) : Ev (fun k => z17.f k l) l := by
 unfold z17.f
 exact Ev.bind (toInt64SS_ev l hl hr) (Ev.now _)
theorem szComplex_ev (l : List (List Int)) (b : Int) (hw : WfLL l) (h0 : 0 ≤ b) (h1 : b ≤ 9223372036854775807) :
  (∃ t, Ev (fun k => z15.f k l b) t ∧ t < 0) ∨ (Ev (fun k => z15.f k l b) (b - l.length - total l) ∧ l.length + total l ≤ b) := by
 unfold z15.f
 rcases szInt64SS_ev l b hw h0 h1 with ⟨t, ht, hn⟩ | ⟨ht, hb⟩
 ·exact .inl ⟨-1, Ev.bind ht (ev_pos hn (Ev.now _)), by omega⟩
 ·exact .inr ⟨Ev.bind ht (ev_neg (by omega) (Ev.now _)), hb⟩
end Go.Proofs.Ytipkciildhghiaa.B

set_option linter.unusedVariables false
set_option linter.unusedSimpArgs false
namespace Go.Proofs.Ytipkciildhghiaa.B
open Go.RowKit Go.Proofs.YtipkciildhghiaaW.PrintWords

theorem mark_val (l : List (List Int)) (a : Int) (h0 : 0 ≤ a) (h1 : a + total l ≤ 9223372036854775807) : laws_markInt64SS.f l a = some (a + total l, markRows l a) := by
 unfold laws_markInt64SS.f
 rw [if_pos ⟨h0, h1⟩]
theorem markInts_get : ∀ (l : List Int) (a : Int) (i : Nat), i < l.length → (markInts l a).getD i 0 = a + i
 | [], a, i, h => by simp at h
 | x :: l, a, 0, h => by simp [markInts]
 | x :: l, a, i + 1, h => by
  have := markInts_get l (a + 1) i (by simpa using h)
  simp only [markInts, List.getD_cons_succ, this]
  omega
theorem heldInt64S_ev (l : List Int) (a : Int) (h0 : 0 ≤ a) (h1 : a + l.length ≤ 9223372036854775807) : Ev (fun k => z23.f k (markInts l a) a) (a + l.length) := by
 unfold z23.f
 have h := ev_find (r := a + l.length) (fun (i : Nat) k => z23.l0 k (markInts l a) (a + i) (i : Int)) (fun _ => false) l.length 0 (fun j _ hj _ r hr => by
  refine Ev.step (fun k => z23.l0.eq_2 ..) ?_
  rw [rd_nat, markInts_get l a j (by omega), markInts_length, wrap_succ (by omega), wrap_small (by omega) (by omega), show a + (j : Int) + 1 = a + ((j + 1 : Nat) : Int) by omega]
  (repeat (first | refine ev_pos (by omega) ?_ | refine ev_neg (by omega) ?_))
  exact hr) (fun _ _ _ h => by cases h) (fun _ => by
  refine Ev.step (fun k => z23.l0.eq_2 ..) ?_
  rw [markInts_length]
  exact ev_neg (by omega) (ev_eq (Ev.now _) (by omega)))
 simpa using h
theorem markRows_get : ∀ (l : List (List Int)) (a : Int) (i : Nat), i < l.length → (markRows l a).getD i [] = markInts (l.getD i []) (a + total (l.take i))
 | [], a, i, h => by simp at h
 | x :: l, a, 0, h => by simp [markRows, total]
 | x :: l, a, i + 1, h => by
  have := markRows_get l (a + x.length) i (by simpa using h)
  simp only [markRows, List.getD_cons_succ, this, List.take_succ_cons, total]
  congr 1
  omega
theorem total_take_succ' (l0 : List (List Int)) (k : Nat) (hk : k < l0.length) : total (l0.take (k + 1)) = total (l0.take k) + (l0.getD k []).length := by
 have ht : l0.take (k + 1) = l0.take k ++ [l0.getD k []] := by
  rw [List.take_succ_eq_append_getElem hk, List.getD_eq_getElem?_getD, List.getElem?_eq_getElem hk]; rfl
 rw [ht, total_append]; simp [total]
theorem total_take_le' (l0 : List (List Int)) (k : Nat) : total (l0.take k) ≤ total l0 := by
 have h := total_append (l0.take k) (l0.drop k)
 rw [List.take_append_drop] at h
 have := total_nonneg (l0.drop k)
 omega
theorem heldInt64SS_ev (l : List (List Int)) (a : Int) (h0 : 0 ≤ a) (h1 : a + total l ≤ 9223372036854775807) (hl : l.length < 9223372036854775807) : Ev (fun k => z51.f k (markRows l a) a) (a + total l) := by
 unfold z51.f
 have h := ev_find (r := a + total l) (fun (i : Nat) k => z51.l0 k (markRows l a) (a + total (l.take i)) (i : Int)) (fun _ => false) l.length 0 (fun j _ hj _ r hr => by
  have hrd : rd_ListInt (markRows l a) (j : Int) = markInts (l.getD j []) (a + total (l.take j)) := by
   rw [← markRows_get l a j (by omega)]; simp [rd_ListInt]
  have e1 := total_take_succ' l j (by omega)
  have e2 := total_take_le' l (j + 1)
  have e3 := total_nonneg (l.take j)
  refine Ev.step (fun k => z51.l0.eq_2 ..) ?_
  rw [hrd, markRows_length, wrap_succ (by omega)]
  (repeat (first | refine ev_pos (by omega) ?_ | refine ev_neg (by omega) ?_))
  refine Ev.bind (heldInt64S_ev _ _ (by omega) (by omega)) (ev_neg (by omega) ?_)
  rw [show a + total (l.take j) + ((l.getD j []).length : Int) = a + total (l.take (j + 1)) by omega]
  exact hr) (fun _ _ _ h => by cases h) (fun _ => by
  refine Ev.step (fun k => z51.l0.eq_2 ..) ?_
  rw [markRows_length]
  refine ev_neg (by omega) (ev_eq (Ev.now _) ?_)
  rw [Nat.zero_add, List.take_length])
 simpa [total] using h
end Go.Proofs.Ytipkciildhghiaa.B

set_option linter.unusedVariables false
set_option linter.unusedSimpArgs false
namespace Go.Proofs.Ytipkciildhghiaa.B
open Go.RowKit Go.Proofs.YtipkciildhghiaaW.PrintWords

theorem total_take1 (l : List (List Int)) (k : Nat) (hk : k < l.length) : total (l.take (k + 1)) = total (l.take k) + (l.getD k []).length := by
 have ht : l.take (k + 1) = l.take k ++ [l.getD k []] := by
  rw [List.take_succ_eq_append_getElem hk, List.getD_eq_getElem?_getD, List.getElem?_eq_getElem hk]; rfl
 rw [ht, total_append]; simp [total]
theorem total_take_all (l : List (List Int)) (k : Nat) : total (l.take k) ≤ total l := by
 have h := total_append (l.take k) (l.drop k)
 rw [List.take_append_drop] at h
 have := total_nonneg (l.drop k)
 omega
theorem flatten_length : ∀ l : List (List Int), (l.flatten.length : Int) = total l
 | [] => rfl
 | x :: l => by rw [List.flatten_cons, List.length_append]; have := flatten_length l; simp only [total]; omega
theorem flatten_take1 (l : List (List Int)) (k : Nat) (hk : k < l.length) : (l.take (k + 1)).flatten = (l.take k).flatten ++ l.getD k [] := by
 have ht : l.take (k + 1) = l.take k ++ [l.getD k []] := by
  rw [List.take_succ_eq_append_getElem hk, List.getD_eq_getElem?_getD, List.getElem?_eq_getElem hk]; rfl
 rw [ht, List.flatten_append]; simp
theorem concat_ev (l : List (List Int)) (hl : l.length < 9223372036854775807) (ht : total l ≤ 17592186044415) : Ev (fun k => z156.f k l) l.flatten := by
 unfold z156.f
 -- the second loop
 have h1 : Ev (fun k => z156.l1 k ([] : List Int) l (l.length : Int) 0) l.flatten := by
  have := (le_iter_inv (fun (s : List Int) (i : Nat) k => z156.l1 k s l (l.length : Int) (i : Int)) (fun i s => s ++ l.getD i []) (fun i s => s = (l.take i).flatten) l.length 0 [] (by simp) (by
   intro j s _ hj hs
   have hj' : j < l.length := by omega
   refine ⟨fun r hr => ?_, by rw [flatten_take1 l j hj', hs]⟩
   refine Ev.step (fun k => z156.l1.eq_2 ..) ?_
   rw [rdl_nat, wrap_succ (by omega)]
   have e1 := total_take1 l j hj'
   have e2 := total_take_all l (j + 1)
   have e3 := flatten_length (l.take j)
   rw [← hs] at e3
   exact ev_pos (by omega) (ev_pos (by omega) (ev_pos (by omega) (ev_pos (by omega) hr)))))
  refine this.1 _ ?_
  refine Ev.step (fun k => z156.l1.eq_2 ..) ?_
  refine ev_neg (by omega) (ev_eq (Ev.now _) ?_)
  rw [this.2, Nat.zero_add, List.take_length]
 have := (le_iter_inv (fun (s : Int) (i : Nat) k => z156.l0 k l s l (l.length : Int) (i : Int)) (fun i s => s + (l.getD i []).length) (fun i s => s = total (l.take i)) l.length 0 0 (by simp [total]) (by
  intro j s _ hj hs
  have hj' : j < l.length := by omega
  have e1 := total_take1 l j hj'
  have e2 := total_take_all l (j + 1)
  have e3 := total_nonneg (l.take j)
  refine ⟨fun r hr => ?_, by rw [e1, hs]⟩
  refine Ev.step (fun k => z156.l0.eq_2 ..) ?_
  rw [rdl_nat, wrap_succ (by omega), wrap_small (x := s + ((l.getD j []).length : Int)) (by omega) (by omega)]
  exact ev_pos (by omega) (ev_pos (by omega) (ev_pos (by omega) (ev_neg (by omega) hr)))))
 refine this.1 _ ?_
 refine Ev.step (fun k => z156.l0.eq_2 ..) ?_
 have e4 : iter (fun i s => s + ((l.getD i []).length : Int)) 0 l.length 0 = total l := by
  rw [this.2, Nat.zero_add, List.take_length]
 rw [e4]
 have e5 := total_nonneg l
 refine ev_neg (by omega) (Ev.bind (a := []) (ev_const ?_) h1)
 unfold slices_Grow_int64_int64.f
 rw [if_pos ⟨⟨rfl, e5⟩, ht⟩]
end Go.Proofs.Ytipkciildhghiaa.B

set_option linter.unusedVariables false
set_option linter.unusedSimpArgs false
namespace Go.Proofs.Ytipkciildhghiaa.B
open Go.RowKit Go.Proofs.YtipkciildhghiaaW.PrintWords

def rises (l : List Int) (i : Nat) : Bool := i == 0 || decide (l.getD (i - 1) 0 < l.getD i 0)
def rising (l : List Int) : Bool := (List.range l.length).all (rises l)
def isSimplex (l : List Int) : Bool := (decide (1 ≤ l.length) && decide (l.length ≤ 4)) && (rising l && l.all fun v => decide (0 ≤ v) && decide (v ≤ 9))
theorem isRising_ev (l : List Int) (hl : l.length < 9223372036854775807) : Ev (fun k => z125.f k l) (rising l) := by
 unfold z125.f
 rcases Nat.eq_zero_or_pos l.length with h0 | h0
 ·have : rising l = true := by unfold rising; rw [h0]; rfl
  rw [this]
  refine Ev.step (fun k => z125.l0.eq_2 ..) ?_
  exact ev_neg (by omega) (Ev.now _)
 ·refine ev_find (fun (i : Nat) k => z125.l0 k l (i : Int)) (fun i => !rises l i) (l.length - 1) 1 (fun i hi hi2 hp r hr => ?_) (fun i hi hi2 hp _ => ?_) (fun hall => ?_)
  ·have hp : rises l i = true := by simpa using hp
   unfold rises at hp
   have e : (i == 0) = false := by simpa using (show i ≠ 0 by omega)
   rw [e, Bool.false_or] at hp
   have hp := of_decide_eq_true hp
   refine Ev.step (fun k => z125.l0.eq_2 ..) ?_
   rw [show wrap64 ((i : Int) - 1) = ((i - 1 : Nat) : Int) by rw [wrap_small (by omega) (by omega)]; omega, rd_nat, rd_nat, wrap_succ (by omega)]
   exact ev_pos (by omega) (ev_pos (by omega) (ev_pos (by omega) (ev_pos (by omega) (ev_neg (by omega) hr))))
  ·have hp : rises l i = false := by simpa using hp
   have hf : rising l = false := by
    unfold rising
    rw [Bool.eq_false_iff]
    intro h
    have := List.all_eq_true.1 h i (List.mem_range.2 (by omega))
    rw [hp] at this; cases this
   rw [hf]
   unfold rises at hp
   have e : (i == 0) = false := by simpa using (show i ≠ 0 by omega)
   rw [e, Bool.false_or] at hp
   have hp := of_decide_eq_false hp
   refine Ev.step (fun k => z125.l0.eq_2 ..) ?_
   rw [show wrap64 ((i : Int) - 1) = ((i - 1 : Nat) : Int) by rw [wrap_small (by omega) (by omega)]; omega, rd_nat, rd_nat]
   exact ev_pos (by omega) (ev_pos (by omega) (ev_pos (by omega) (ev_pos (by omega) (ev_pos (by omega) (Ev.now _)))))
  ·have hf : rising l = true := List.all_eq_true.2 (fun i hi => by
    have hi := List.mem_range.1 hi
    rcases Nat.eq_zero_or_pos i with h | h
    ·subst h; rfl
    ·simpa using hall i h (by omega))
   rw [hf, show 1 + (l.length - 1) = l.length by omega]
   refine Ev.step (fun k => z125.l0.eq_2 ..) ?_
   exact ev_neg (by omega) (Ev.now _)
theorem vertex_val (v : Int) : z127.f v = some (!(decide (0 ≤ v) && decide (v ≤ 9))) := by
 unfold z127.f z83.f
 rw [within_val]; rfl
theorem vertices_ev (l : List Int) (hl : l.length < 9223372036854775807) : Ev (fun k => z225.f k l) (l.any fun v => !(decide (0 ≤ v) && decide (v ≤ 9))) := by
 obtain ⟨t, ht, hd⟩ := ev_index_list (l) 0 (fun i k => z226.l0 k (l) ((l).length : Int) (i : Int) ) (fun v => !(decide (0 ≤ v) && decide (v ≤ 9))) (fun j hj hp r hr => by
   refine Ev.step (fun k => z226.l0.eq_2 ..) ?_
   refine ev_pos (by omega) (ev_pos (by omega) (ev_pos (by omega) ?_))
   rw [rd_nat, wrap_succ (by omega)]
   exact Ev.bind (ev_const (vertex_val _)) (ev_neg (by rw [hp]; decide) hr)) (fun j hj hp => by
   refine Ev.step (fun k => z226.l0.eq_2 ..) ?_
   refine ev_pos (by omega) (ev_pos (by omega) (ev_pos (by omega) ?_))
   rw [rd_nat]
   exact Ev.bind (ev_const (vertex_val _)) (ev_pos hp (Ev.now _))) (by
   refine Ev.step (fun k => z226.l0.eq_2 ..) ?_
   exact ev_neg (by omega) (Ev.now _))
 unfold z225.f z226.f
 refine Ev.bind ht (ev_eq (Ev.now _) hd)
theorem implSimplex_ev (l : List Int) (hl : l.length < 9223372036854775807) : Ev (fun k => z77.f k l) (isSimplex l) := by
 unfold z77.f isSimplex
 by_cases h1 : 1 ≤ l.length
 ·rw [decide_eq_true h1, Bool.true_and]
  refine ev_pos (by omega) ?_
  by_cases h4 : l.length ≤ 4
  ·rw [decide_eq_true h4, Bool.true_and]
   refine ev_pos (by omega) (Ev.bind (isRising_ev l hl) ?_)
   cases hr : rising l with
   | false => exact ev_neg (by decide) (Ev.now _)
   | true =>
    refine ev_pos rfl (Ev.bind (vertices_ev l hl) (ev_eq (Ev.now _) ?_))
    rw [List.any_eq_not_all_not]; simp
  ·rw [decide_eq_false h4, Bool.false_and]
   exact ev_neg (by omega) (Ev.now _)
 ·rw [decide_eq_false h1, Bool.false_and, Bool.false_and]
  exact ev_neg (by omega) (Ev.now _)
theorem specRises_ev (l : List Int) (a b : Int) (hl : l.length < 9223372036854775807) : Ev (fun k => z123.f k l a b) (rising l && l.all fun v => decide (a ≤ v) && decide (v ≤ b)) := by
 have e : (rising l && l.all fun v => decide (a ≤ v) && decide (v ≤ b)) = (List.range l.length).all fun i => (decide (a ≤ l.getD i 0) && decide (l.getD i 0 ≤ b)) && rises l i := by
  rw [← all_range l 0, rising, Bool.eq_iff_iff, Bool.and_eq_true, List.all_eq_true, List.all_eq_true, List.all_eq_true]
  constructor
  ·rintro ⟨h1, h2⟩ i hi
   rw [h1 i hi, h2 i hi]; rfl
  ·intro h
   exact ⟨fun i hi => ((Bool.and_eq_true _ _).mp (h i hi)).2, fun i hi => ((Bool.and_eq_true _ _).mp (h i hi)).1⟩
 rw [e]
 unfold z123.f
 refine ev_all (fun (i : Nat) k => z123.l0 k l a b (i : Int)) _ l.length (fun i hi hp r hr => ?_) (fun i hi hp => ?_) ?_
 ·obtain ⟨h1, h2⟩ := (Bool.and_eq_true _ _).mp hp
  refine Ev.step (fun k => z123.l0.eq_2 ..) ?_
  rw [rd_nat, wrap_succ (by omega)]
  refine ev_pos (by omega) (ev_pos (by omega) (Ev.bind (ev_const (in_val _ _ _)) (ev_pos h1 ?_)))
  rcases Nat.eq_zero_or_pos i with h | h
  ·exact ev_neg (by omega) hr
  ·have e : (i == 0) = false := by simpa using (show i ≠ 0 by omega)
   unfold rises at h2
   rw [e, Bool.false_or] at h2
   have h2 := of_decide_eq_true h2
   rw [show wrap64 ((i : Int) - 1) = ((i - 1 : Nat) : Int) by rw [wrap_small (by omega) (by omega)]; omega, rd_nat]
   exact ev_pos (by omega) (ev_pos (by omega) (ev_pos (by omega) (ev_neg (by omega) hr)))
 ·refine Ev.step (fun k => z123.l0.eq_2 ..) ?_
  rw [rd_nat]
  refine ev_pos (by omega) (ev_pos (by omega) (Ev.bind (ev_const (in_val _ _ _)) ?_))
  cases h1 : decide (a ≤ l.getD i 0) && decide (l.getD i 0 ≤ b) with
  | false => exact ev_neg (by decide) (Ev.now _)
  | true =>
   rw [h1, Bool.true_and] at hp
   refine ev_pos rfl ?_
   rcases Nat.eq_zero_or_pos i with h | h
   ·subst h; cases hp
   ·have e : (i == 0) = false := by simpa using (show i ≠ 0 by omega)
    unfold rises at hp
    rw [e, Bool.false_or] at hp
    have hp := of_decide_eq_false hp
    rw [show wrap64 ((i : Int) - 1) = ((i - 1 : Nat) : Int) by rw [wrap_small (by omega) (by omega)]; omega, rd_nat]
    exact ev_pos (by omega) (ev_pos (by omega) (ev_pos (by omega) (ev_pos (by omega) (Ev.now _))))
 ·refine Ev.step (fun k => z123.l0.eq_2 ..) ?_
  exact ev_neg (by omega) (Ev.now _)
theorem specSimplex_ev (l : List Int) (hl : l.length < 9223372036854775807) : Ev (fun k => z73.f k l) (isSimplex l) := by
 unfold z73.f isSimplex
 refine Ev.bind (ev_const (in_val _ _ _)) ?_
 have e : (decide ((1 : Int) ≤ (l.length : Int)) && decide ((l.length : Int) ≤ 4)) = (decide (1 ≤ l.length) && decide (l.length ≤ 4)) := by
  rw [Bool.eq_iff_iff]; simp; omega
 rw [e]
 cases h : decide (1 ≤ l.length) && decide (l.length ≤ 4) with
 | false => exact ev_neg (by decide) (Ev.now _)
 | true => exact ev_pos rfl (Ev.bind (specRises_ev l 0 9 hl) (Ev.now _))
end Go.Proofs.Ytipkciildhghiaa.B

set_option linter.unusedVariables false
set_option linter.unusedSimpArgs false
namespace Go.Proofs.Ytipkciildhghiaa.B
open Go.RowKit Go.Proofs.YtipkciildhghiaaW.PrintWords
open SimT

def faces (s : List Int) : List (List Int) := if 1 < s.length then (List.range s.length).map (drp s) else []
theorem faces_len (s : List Int) : (faces s).length ≤ s.length := by
 unfold faces
 split <;> simp
theorem faces_row {s x : List Int} (h : x ∈ faces s) : x.length ≤ s.length := by
 unfold faces at h
 split at h
 ·obtain ⟨i, hi, rfl⟩ := List.mem_map.1 h
  exact (drp_sub s i).length_le
 ·cases h
theorem mem_faces {s x : List Int} : x ∈ faces s ↔ 1 < s.length ∧ ∃ k, k < s.length ∧ drp s k = x := by
 unfold faces
 split
 ·rename_i h
  rw [List.mem_map]
  exact ⟨fun ⟨k, hk, e⟩ => ⟨h, k, List.mem_range.1 hk, e⟩, fun ⟨_, k, hk, e⟩ => ⟨k, List.mem_range.2 hk, e⟩⟩
 ·rename_i h
  exact ⟨fun hx => (by cases hx), fun hx => absurd hx.1 h⟩
theorem faces_get {s : List Int} (h : 1 < s.length) {i : Nat} (hi : i < s.length) : (faces s).getD i [] = drp s i := by
 unfold faces
 rw [if_pos h]
 simp [List.getD_eq_getElem?_getD, hi]
theorem faces_slt {s x : List Int} (h : x ∈ faces s) : slt x s = true := by
 obtain ⟨_, k, hk, rfl⟩ := mem_faces.1 h
 exact drp_slt hk
theorem facesOf_ev (s : List Int) (hs : s.length ≤ 1000000000000) : Ev (fun k => z110.f k s) (faces s) := by
 unfold z110.f
 by_cases h1 : 1 < s.length
 ·have := ev_map (fun (a : List (List Int)) (i : Nat) k => z110.l0 k s a (s.length : Int) (i : Int)) (drp s) s.length (fun j a hj ha r hr => by
   refine Ev.step (fun k => z110.l0.eq_2 ..) ?_
   have hal : a.length = j := by rw [ha]; simp
   rw [wrap_succ (by omega), Int.toNat_natCast, Int.toNat_natCast]
   refine ev_pos (by omega) (ev_pos (by omega) (ev_pos (by omega) (ev_pos (by omega) (ev_pos (by omega) (ev_pos (by omega) (Ev.bind (concat_ev _ (by simp) ?_) (ev_pos (by omega) ?_)))))))
   ·have h2 : (s.take j).length ≤ s.length := (List.take_sublist j s).length_le
    have h3 : (s.drop (j + 1)).length ≤ s.length := (List.drop_sublist (j + 1) s).length_le
    simp only [total]; omega
   ·have e : [s.take j, s.drop (j + 1)].flatten = drp s j := by simp [drp]
    rw [e]; exact hr)
  have e : faces s = (List.range s.length).map (drp s) := by unfold faces; rw [if_pos h1]
  rw [e]
  refine this _ ?_
  refine Ev.step (fun k => z110.l0.eq_2 ..) ?_
  exact ev_neg (by omega) (Ev.now _)
 ·have e : faces s = [] := by unfold faces; rw [if_neg h1]
  rw [e]
  refine ev_find (fun (i : Nat) k => z110.l0 k s ([] : List (List Int)) (s.length : Int) (i : Int)) (fun _ => false) s.length 0 (fun j _ hj _ r hr => ?_) (fun _ _ _ h => by cases h) (fun _ => ?_)
  ·refine Ev.step (fun k => z110.l0.eq_2 ..) ?_
   rw [wrap_succ (by omega)]
   exact ev_pos (by omega) (ev_neg (by omega) hr)
  ·refine Ev.step (fun k => z110.l0.eq_2 ..) ?_
   rw [Nat.zero_add]
   exact ev_neg (by omega) (Ev.now _)
theorem drop_val (s : List Int) (i : Nat) (hi : i < s.length) (hs : s.length ≤ 1000000000000) : z108.f s (i : Int) = some (drp s i) := by
 unfold z108.f z82.f
 have h2 : (s.take i).length ≤ s.length := (List.take_sublist i s).length_le
 have h3 : (s.drop (i + 1)).length ≤ s.length := (List.drop_sublist (i + 1) s).length_le
 rw [wrap_succ (by omega), Int.toNat_natCast, Int.toNat_natCast, if_pos (by omega), if_pos (by omega)]
 simp only [Option.bind_some, List.nil_append, List.length_nil, Nat.zero_add]
 rw [if_pos (by omega)]
 simp only [Option.bind_some]
 rw [if_pos (by omega), if_pos (by omega), if_pos (by omega)]
 rfl

def okAt (C : List (List Int)) (D : List (List Int)) (i : Nat) : Bool := (isSimplex (C.getD i []) && (i == 0 || slt (C.getD (i - 1) []) (C.getD i []))) && (faces (C.getD i [])).all fun f => decide (f ∈ D)
def okC (C : List (List Int)) : Bool := decide (C.length ≤ 48) && (List.range C.length).all (okAt C C)
theorem okAt_iff {C D : List (List Int)} {i : Nat} : okAt C D i = true ↔ isSimplex (C.getD i []) = true ∧ (i = 0 ∨ slt (C.getD (i - 1) []) (C.getD i []) = true) ∧ ∀ f, f ∈ faces (C.getD i []) → f ∈ D := by
 unfold okAt
 rw [Bool.and_eq_true, Bool.and_eq_true, Bool.or_eq_true, List.all_eq_true, beq_iff_eq]
 simp only [decide_eq_true_eq]
 exact ⟨fun ⟨⟨a, b⟩, c⟩ => ⟨a, b, c⟩, fun ⟨a, b, c⟩ => ⟨⟨a, b⟩, c⟩⟩
theorem srt_upto {C D : Nat → List (List Int)} {L : List (List Int)} (n : Nat) (hn : n ≤ L.length) (h : ∀ m, m < n → okAt L (D m) m = true) : Srt (L.take n) := by
 refine srt_of_get (fun i hi => ?_)
 rw [List.length_take] at hi
 have hi' : i + 1 < n := by omega
 obtain ⟨_, h2, _⟩ := okAt_iff.1 (h (i + 1) hi')
 have e1 : (L.take n).getD i [] = L.getD i [] := by
  rw [List.getD_eq_getElem?_getD, List.getD_eq_getElem?_getD, List.getElem?_take, if_pos (by omega)]
 have e2 : (L.take n).getD (i + 1) [] = L.getD (i + 1) [] := by
  rw [List.getD_eq_getElem?_getD, List.getD_eq_getElem?_getD, List.getElem?_take, if_pos hi']
 rw [e1, e2]
 rcases h2 with h2 | h2
 ·omega
 ·exact h2
theorem okC_iff {C : List (List Int)} : okC C = true ↔ C.length ≤ 48 ∧ Srt C ∧ (∀ s, s ∈ C → isSimplex s = true) ∧ Closed C := by
 unfold okC
 rw [Bool.and_eq_true, decide_eq_true_iff, List.all_eq_true]
 constructor
 ·rintro ⟨h1, h2⟩
  have h2' : ∀ m, m < C.length → okAt C C m = true := fun m hm => h2 m (List.mem_range.2 hm)
  have hs := srt_upto (C := fun _ => C) (D := fun _ => C) C.length (Nat.le_refl _) h2'
  rw [List.take_length] at hs
  refine ⟨h1, hs, fun s hs => ?_, fun s hs hl k hk => ?_⟩
  ·obtain ⟨i, hi, e⟩ := List.mem_iff_getElem.1 hs
   have := (okAt_iff.1 (h2' i hi)).1
   rw [List.getD_eq_getElem?_getD, List.getElem?_eq_getElem hi] at this
   simpa [e] using this
  ·obtain ⟨i, hi, e⟩ := List.mem_iff_getElem.1 hs
   have := (okAt_iff.1 (h2' i hi)).2.2
   rw [List.getD_eq_getElem?_getD, List.getElem?_eq_getElem hi] at this
   simp only [Option.getD_some, e] at this
   exact this _ (mem_faces.2 ⟨hl, k, hk, rfl⟩)
 ·rintro ⟨h1, h2, h3, h4⟩
  refine ⟨h1, fun i hi => okAt_iff.2 ⟨h3 _ (getD_mem [] (List.mem_range.1 hi)), ?_, fun f hf => ?_⟩⟩
  ·rcases Nat.eq_zero_or_pos i with h | h
   ·exact .inl h
   ·exact .inr (srt_get h2 (by omega) (List.mem_range.1 hi))
  ·obtain ⟨hl, k, hk, rfl⟩ := mem_faces.1 hf
   exact h4 _ (getD_mem [] (List.mem_range.1 hi)) hl k hk
theorem simplex_len {s : List Int} (h : isSimplex s = true) : 1 ≤ s.length ∧ s.length ≤ 4 := by
 unfold isSimplex at h
 rw [Bool.and_eq_true, Bool.and_eq_true, decide_eq_true_iff, decide_eq_true_iff] at h
 exact h.1
theorem okAt_take {C : List (List Int)} (hs : Srt C) {i : Nat} (hi : i < C.length) : okAt C (C.take i) i = okAt C C i := by
 rw [Bool.eq_iff_iff, okAt_iff, okAt_iff]
 refine and_congr Iff.rfl (and_congr Iff.rfl ⟨fun h f hf => List.mem_of_mem_take (h f hf), fun h f hf => ?_⟩)
 obtain ⟨j, hj, e⟩ := List.mem_iff_getElem.1 (h f hf)
 have hlt := faces_slt hf
 have ej : C.getD j [] = f := by rw [List.getD_eq_getElem?_getD, List.getElem?_eq_getElem hj]; exact e
 rcases Nat.lt_or_ge j i with hl | hg
 ·rw [List.mem_iff_getElem]
  exact ⟨j, by rw [List.length_take]; omega, by rw [List.getElem_take]; exact e⟩
 ·rcases Nat.eq_or_lt_of_le hg with rfl | hl
  ·rw [ej, slt_irrefl] at hlt; cases hlt
  ·have := srt_get hs hl hj
   rw [ej] at this
   rw [slt_asymm this] at hlt; cases hlt
theorem ok_same (C : List (List Int)) : ((List.range C.length).all (fun i => okAt C (C.take i) i) && decide (C.length ≤ 48)) = okC C := by
 unfold okC
 rw [Bool.and_comm]
 congr 1
 rw [Bool.eq_iff_iff, List.all_eq_true, List.all_eq_true]
 constructor
 ·intro h
  have hs := srt_upto (C := fun _ => C) (D := fun m => C.take m) (L := C) C.length (Nat.le_refl _) (fun m hm => h m (List.mem_range.2 hm))
  rw [List.take_length] at hs
  intro i hi
  rw [← okAt_take hs (List.mem_range.1 hi)]; exact h i hi
 ·intro h
  have hs := srt_upto (C := fun _ => C) (D := fun _ => C) (L := C) C.length (Nat.le_refl _) (fun m hm => h m (List.mem_range.2 hm))
  rw [List.take_length] at hs
  intro i hi
  rw [okAt_take hs (List.mem_range.1 hi)]; exact h i hi

theorem missing_ev (C : List (List Int)) (i : Nat) (hi : i ≤ C.length) (hl : C.length < 4611686018427387904) (hr : ∀ x ∈ C, x.length < 9223372036854775807) (hs : Srt (C.take i)) (f : List Int) (hf : f.length < 9223372036854775807) :
  Ev (fun k => z111.f k f C (i : Int)) (!decide (f ∈ C.take i)) := by
 unfold z111.f
 rw [Int.toNat_natCast]
 have hlt : (C.take i).length ≤ C.length := (List.take_sublist i C).length_le
 refine ev_pos (by omega) (ev_pos (by omega) (Ev.bind (indexOf_ev (C.take i) f (by omega) (fun x hx => hr x (List.mem_of_mem_take hx)) hf hs) (ev_eq (Ev.now _) ?_)))
 rw [Bool.eq_iff_iff, decide_eq_true_iff, idx_neg]; simp
theorem anyMissing_ev (C : List (List Int)) (n0 : Nat) (hi : n0 ≤ C.length) (hl : C.length < 4611686018427387904) (hrr : ∀ x ∈ C, x.length < 9223372036854775807) (hs : Srt (C.take n0)) (l : List (List Int)) (hll : l.length < 9223372036854775807) (hf : ∀ x ∈ l, x.length < 9223372036854775807) :
  Ev (fun k => z224.f k l C (n0 : Int)) (l.any fun f => !decide (f ∈ C.take n0)) := by
 obtain ⟨t, ht, hd⟩ := ev_index_list (l) [] (fun i k => z228.l0 k (l) ((l).length : Int) (i : Int) C (n0 : Int)) (fun f => !decide (f ∈ C.take n0)) (fun j hj hp r hr => by
   refine Ev.step (fun k => z228.l0.eq_2 ..) ?_
   refine ev_pos (by omega) (ev_pos (by omega) (ev_pos (by omega) ?_))
   rw [rdl_nat, wrap_succ (by omega)]
   exact Ev.bind (missing_ev C n0 hi hl hrr hs _ (hf _ (getD_mem [] hj))) (ev_neg (by rw [hp]; decide) hr)) (fun j hj hp => by
   refine Ev.step (fun k => z228.l0.eq_2 ..) ?_
   refine ev_pos (by omega) (ev_pos (by omega) (ev_pos (by omega) ?_))
   rw [rdl_nat]
   exact Ev.bind (missing_ev C n0 hi hl hrr hs _ (hf _ (getD_mem [] hj))) (ev_pos hp (Ev.now _))) (by
   refine Ev.step (fun k => z228.l0.eq_2 ..) ?_
   exact ev_neg (by omega) (Ev.now _))
 unfold z224.f z228.f
 refine Ev.bind ht (ev_eq (Ev.now _) hd)
theorem implValid_ev (C : List (List Int)) (hl : C.length ≤ 1048576) (hr : ∀ x ∈ C, x.length ≤ 1048576) : Ev (fun k => z58.f k C) (okC C) := by
 rw [← ok_same]
 unfold z58.f
 have hr' : ∀ x ∈ C, x.length < 9223372036854775807 := fun x hx => by have := hr x hx; omega
 -- the rest of a round
 have hrest : ∀ (j : Nat) (b : Bool), j < C.length → Srt (C.take j) → ∀ v, (b = false → ((faces (C.getD j [])).all fun f => decide (f ∈ C.take j)) = true → Ev (fun k => z58.l0 k C (C.length : Int) ((j + 1 : Nat) : Int) C) v) → (b = true ∨ ((faces (C.getD j [])).all fun f => decide (f ∈ C.take j)) = false → v = false) →
   Ev (fun k => z58.j1 k (C.getD j []) C (C.length : Int) (j : Int) b C (j : Int)) v := by
  intro j b hj hs v h1 h2
  have hrow := hr _ (getD_mem ([] : List Int) hj)
  refine Ev.step (fun k => z58.j1.eq_2 ..) ?_
  cases b with
  | true => rw [h2 (.inl rfl)]; exact ev_pos rfl (Ev.now _)
  | false =>
   refine ev_neg (by decide) (Ev.bind (facesOf_ev _ (by omega)) (Ev.bind (anyMissing_ev C j (by omega) (by omega) hr' hs _ (by have := faces_len (C.getD j []); omega) (fun x hx => by have := faces_row hx; omega)) ?_))
   cases ha : (faces (C.getD j [])).all fun f => decide (f ∈ C.take j) with
   | true =>
    refine ev_neg ?_ ?_
    ·rw [List.any_eq_not_all_not]; simp only [Bool.not_not, ha]; decide
    ·rw [wrap_succ (by omega)]; exact h1 rfl ha
   | false =>
    rw [h2 (.inr ha)]
    refine ev_pos ?_ (Ev.now _)
    rw [List.any_eq_not_all_not]; simp only [Bool.not_not, ha]; rfl
 have hround : ∀ (j : Nat), j < C.length → (∀ m, m < j → okAt C (C.take m) m = true) → ∀ v, (okAt C (C.take j) j = true → Ev (fun k => z58.l0 k C (C.length : Int) ((j + 1 : Nat) : Int) C) v) → (okAt C (C.take j) j = false → v = false) →
   Ev (fun k => z58.l0 k C (C.length : Int) (j : Int) C) v := by
  intro j hj hall v h1 h2
  have hs : Srt (C.take j) := srt_upto (C := fun _ => C) (D := fun m => C.take m) j (by omega) hall
  have hrow := hr _ (getD_mem ([] : List Int) hj)
  have key := hrest j
  refine Ev.step (fun k => z58.l0.eq_2 ..) ?_
  rw [rdl_nat]
  refine ev_pos (by omega) (ev_pos (by omega) (ev_pos (by omega) (Ev.bind (implSimplex_ev _ (by omega)) ?_)))
  unfold okAt at h1 h2
  cases hi : isSimplex (C.getD j []) with
  | false =>
   rw [hi] at h1 h2
   refine ev_neg (by decide) (key true hj hs v (fun h => by cases h) (fun _ => h2 rfl))
  | true =>
   rw [hi] at h1 h2
   refine ev_pos rfl ?_
   rcases Nat.eq_zero_or_pos j with h0 | h0
   ·have e : (j == 0) = true := by simpa using h0
    rw [e] at h1 h2
    simp only [Bool.true_or, Bool.true_and] at h1 h2
    exact ev_neg (by omega) (key false hj hs v (fun _ ha => h1 ha) (fun h => h2 (h.elim (fun h => by cases h) id)))
   ·have e : (j == 0) = false := by simpa using (show j ≠ 0 by omega)
    rw [e] at h1 h2
    simp only [Bool.false_or, Bool.true_and] at h1 h2
    rw [show wrap64 ((j : Int) - 1) = ((j - 1 : Nat) : Int) by rw [wrap_small (by omega) (by omega)]; omega, rdl_nat]
    have hrow2 := hr _ (getD_mem ([] : List Int) (show j - 1 < C.length by omega))
    refine ev_pos (by omega) (ev_pos (by omega) (ev_pos (by omega) (Ev.bind (compareS_ev _ _ (by omega) (by omega)) ?_)))
    cases hc : slt (C.getD (j - 1) []) (C.getD j []) with
    | true =>
     have e2 : decide (scmp (C.getD (j - 1) []) (C.getD j []) ≥ 0) = false := decide_eq_false (by have := (scmp_neg _ _).2 hc; omega)
     rw [e2]
     rw [hc] at h1 h2
     simp only [Bool.true_and] at h1 h2
     exact key false hj hs v (fun _ ha => h1 ha) (fun h => h2 (h.elim (fun h => by cases h) id))
    | false =>
     have e2 : decide (scmp (C.getD (j - 1) []) (C.getD j []) ≥ 0) = true := decide_eq_true (by
      have : ¬ scmp (C.getD (j - 1) []) (C.getD j []) < 0 := fun h => by rw [(scmp_neg _ _).1 h] at hc; cases hc
      omega)
     rw [e2]
     rw [hc] at h2
     exact key true hj hs v (fun h => by cases h) (fun _ => h2 rfl)
 refine ev_all_then (fun (i : Nat) k => z58.l0 k C (C.length : Int) (i : Int) C) (fun i => okAt C (C.take i) i) (decide (C.length ≤ 48)) C.length (fun j hj hall hp r hr' => ?_) (fun j hj hall hp => ?_) (fun _ => ?_)
 ·exact hround j hj hall r (fun _ => hr') (fun h => by rw [hp] at h; cases h)
 ·exact hround j hj hall false (fun h => by rw [hp] at h; cases h) (fun _ => rfl)
 ·refine Ev.step (fun k => z58.l0.eq_2 ..) ?_
  exact ev_neg (by omega) (ev_eq (Ev.now _) (by rw [Bool.eq_iff_iff, decide_eq_true_iff, decide_eq_true_iff]; omega))

theorem specOk_ev (C : List (List Int)) (hl : C.length ≤ 1048576) (hr : ∀ x ∈ C, x.length ≤ 1048576) : Ev (fun k => z56.f k C) (okC C) := by
 unfold z56.f okC
 have hr' : ∀ x ∈ C, x.length < 9223372036854775807 := fun x hx => by have := hr x hx; omega
 by_cases h48 : C.length ≤ 48
 ·rw [decide_eq_true h48, Bool.true_and]
  refine ev_neg (by omega) ?_
  -- the faces
  have hfaces : ∀ (j : Nat), j < C.length → ∀ v, (((faces (C.getD j [])).all fun f => decide (f ∈ C)) = true → Ev (fun k => z56.l0 k ((j + 1 : Nat) : Int) C) v) → (((faces (C.getD j [])).all fun f => decide (f ∈ C)) = false → v = false) →
    Ev (fun k => z56.l1 k (j : Int) (C.getD j []) 0 C) v := by
   intro j hj v h1 h2
   have hrow := hr _ (getD_mem ([] : List Int) hj)
   by_cases hlen : 1 < (C.getD j []).length
   ·have hstep : ∀ (m : Nat), m < (C.getD j []).length → ∀ u, (drp (C.getD j []) m ∈ C → Ev (fun k => z56.l1 k (j : Int) (C.getD j []) ((m + 1 : Nat) : Int) C) u) → (drp (C.getD j []) m ∉ C → u = false) → Ev (fun k => z56.l1 k (j : Int) (C.getD j []) (m : Int) C) u := by
     intro m hm u g1 g2
     refine Ev.step (fun k => z56.l1.eq_2 ..) ?_
     refine ev_pos (by omega) ?_
     refine Ev.step (fun k => z56.j3.eq_2 ..) ?_
     refine ev_pos (decide_eq_true (by omega)) (Ev.bind (ev_const (drop_val _ m hm (by omega))) (Ev.bind (find_ev C _ (by omega) hr') ?_))
     by_cases hin : drp (C.getD j []) m ∈ C
     ·rw [wrap_succ (by omega)]
      exact ev_neg (fun h => (idx_neg C _).1 h hin) (g1 hin)
     ·rw [g2 hin]
      exact ev_pos ((idx_neg C _).2 hin) (Ev.now _)
    have hall := ev_all_then (fun (m : Nat) k => (z56.l1 k (j : Int) (C.getD j []) (m : Int) C).map fun b => b) (fun m => decide (drp (C.getD j []) m ∈ C)) v (C.getD j []).length ?_ ?_ ?_
    ·have e : ((List.range (C.getD j []).length).all (fun m => decide (drp (C.getD j []) m ∈ C)) && v) = v := by
      cases v with
      | false => simp
      | true =>
       have : ((faces (C.getD j [])).all fun f => decide (f ∈ C)) = true := by
        cases hc : (faces (C.getD j [])).all fun f => decide (f ∈ C) with
        | true => rfl
        | false => have := h2 hc; cases this
       unfold faces at this
       rw [if_pos hlen, List.all_map] at this
       rw [Bool.and_true]; exact this
     rw [e] at hall
     simpa using hall
    ·intro m hm _ hp u hu
     simp only [Option.map_id'] at hu ⊢
     exact hstep m hm u (fun _ => hu) (fun h => absurd (of_decide_eq_true hp) h)
    ·intro m hm _ hp
     simp only [Option.map_id']
     exact hstep m hm false (fun h => absurd h (of_decide_eq_false hp)) (fun _ => rfl)
    ·intro hall
     simp only [Option.map_id']
     have hfa : ((faces (C.getD j [])).all fun f => decide (f ∈ C)) = true := by
      unfold faces
      rw [if_pos hlen, List.all_map, List.all_eq_true]
      exact fun m hm => hall m (List.mem_range.1 hm)
     refine Ev.step (fun k => z56.l1.eq_2 ..) ?_
     refine ev_neg (by omega) ?_
     refine Ev.step (fun k => z56.j3.eq_2 ..) ?_
     rw [wrap_succ (i := j) (by omega)]
     exact ev_neg (by decide) (h1 hfa)
   ·have hfa : ((faces (C.getD j [])).all fun f => decide (f ∈ C)) = true := by
     unfold faces; rw [if_neg hlen]; rfl
    refine Ev.step (fun k => z56.l1.eq_2 ..) ?_
    by_cases h0 : 0 < (C.getD j []).length
    ·refine ev_pos (by omega) ?_
     refine Ev.step (fun k => z56.j3.eq_2 ..) ?_
     rw [wrap_succ (i := j) (by omega)]
     exact ev_neg (by rw [decide_eq_false (by omega)]; decide) (h1 hfa)
    ·refine ev_neg (by omega) ?_
     refine Ev.step (fun k => z56.j3.eq_2 ..) ?_
     rw [wrap_succ (i := j) (by omega)]
     exact ev_neg (by decide) (h1 hfa)
  have hround : ∀ (j : Nat), j < C.length → ∀ v, (okAt C C j = true → Ev (fun k => z56.l0 k ((j + 1 : Nat) : Int) C) v) → (okAt C C j = false → v = false) → Ev (fun k => z56.l0 k (j : Int) C) v := by
   intro j hj v h1 h2
   have hrow := hr _ (getD_mem ([] : List Int) hj)
   have key := hfaces j hj v
   have stop : v = false → Ev (fun k => z56.j1 k (j : Int) (C.getD j []) true C) v := fun e => by
    refine Ev.step (fun k => z56.j1.eq_2 ..) ?_
    rw [e]; exact ev_pos rfl (Ev.now _)
   have go : Ev (fun k => z56.l1 k (j : Int) (C.getD j []) 0 C) v → Ev (fun k => z56.j1 k (j : Int) (C.getD j []) false C) v := fun e => by
    refine Ev.step (fun k => z56.j1.eq_2 ..) ?_
    exact ev_neg (by decide) e
   refine Ev.step (fun k => z56.l0.eq_2 ..) ?_
   rw [rdl_nat]
   refine ev_pos (by omega) (ev_pos (by omega) (Ev.bind (specSimplex_ev _ (by omega)) ?_))
   unfold okAt at h1 h2
   cases hi : isSimplex (C.getD j []) with
   | false => rw [hi] at h2; exact ev_neg (by decide) (stop (h2 rfl))
   | true =>
    rw [hi] at h1 h2
    refine ev_pos rfl ?_
    rcases Nat.eq_zero_or_pos j with h0 | h0
    ·have e : (j == 0) = true := by simpa using h0
     rw [e] at h1 h2
     simp only [Bool.true_or, Bool.true_and] at h1 h2
     exact ev_neg (by omega) (go (key h1 h2))
    ·have e : (j == 0) = false := by simpa using (show j ≠ 0 by omega)
     rw [e] at h1 h2
     simp only [Bool.false_or, Bool.true_and] at h1 h2
     have hrow2 := hr _ (getD_mem ([] : List Int) (show j - 1 < C.length by omega))
     rw [show wrap64 ((j : Int) - 1) = ((j - 1 : Nat) : Int) by rw [wrap_small (by omega) (by omega)]; omega, rdl_nat]
     refine ev_pos (by omega) (ev_pos (by omega) (ev_pos (by omega) (Ev.bind (before_ev _ _ (by omega)) ?_)))
     cases hc : slt (C.getD (j - 1) []) (C.getD j []) with
     | true =>
      rw [hc] at h1 h2
      simp only [Bool.true_and] at h1 h2
      exact go (key h1 h2)
     | false => rw [hc] at h2; exact stop (h2 rfl)
  refine ev_all (fun (i : Nat) k => z56.l0 k (i : Int) C) (okAt C C) C.length (fun j hj hp r hr' => ?_) (fun j hj hp => ?_) ?_
  ·exact hround j hj r (fun _ => hr') (fun h => by rw [hp] at h; cases h)
  ·exact hround j hj false (fun h => by rw [hp] at h; cases h) (fun _ => rfl)
  ·refine Ev.step (fun k => z56.l0.eq_2 ..) ?_
   exact ev_neg (by omega) (Ev.now _)
 ·rw [decide_eq_false h48, Bool.false_and]
  exact ev_pos (by omega) (Ev.now _)
end Go.Proofs.Ytipkciildhghiaa.B

set_option linter.unusedVariables false
set_option linter.unusedSimpArgs false
namespace Go.Proofs.Ytipkciildhghiaa.B
open Go.RowKit Go.Proofs.YtipkciildhghiaaW.PrintWords
open SimT

theorem ev_filtR {β : Type} (L : List (List Int) → Nat → Nat → Option β) (C : List (List Int)) (p : List Int → Bool) (h1 : ∀ j s, j < C.length → s.length ≤ j → p (C.getD j []) = true → Le (L (s ++ [C.getD j []]) (j + 1)) (L s j)) (h0 : ∀ j s, j < C.length → s.length ≤ j → p (C.getD j []) = false → Le (L s (j + 1)) (L s j)) : Le (L (C.filter p) C.length) (L [] 0) := by
 have main : ∀ n, n ≤ C.length → Le (L ((C.take n).filter p) n) (L [] 0) := by
  intro n
  induction n with
  | zero => exact fun _ r hr => by simpa using hr
  | succ n ih =>
   intro hn
   have ht : C.take (n + 1) = C.take n ++ [C.getD n []] := by
    rw [List.take_succ_eq_append_getElem hn, List.getD_eq_getElem?_getD, List.getElem?_eq_getElem hn]; rfl
   have hsl : ((C.take n).filter p).length ≤ n := Nat.le_trans (List.length_filter_le _ _) (by rw [List.length_take]; omega)
   rw [ht, List.filter_append]
   cases hp : p (C.getD n []) with
   | true =>
    rw [show List.filter p [C.getD n []] = [C.getD n []] by rw [List.filter_cons, hp]; rfl]
    exact Le.trans (h1 n _ (by omega) hsl hp) (ih (by omega))
   | false =>
    rw [show List.filter p [C.getD n []] = [] by rw [List.filter_cons, hp]; rfl, List.append_nil]
    exact Le.trans (h0 n _ (by omega) hsl hp) (ih (by omega))
 have := main C.length (Nat.le_refl _)
 rwa [List.take_length] at this
def skel (C : List (List Int)) (d : Int) : List (List Int) := C.filter fun s => decide ((s.length : Int) ≤ d + 1)
theorem sortS_srt {l : List (List Int)} (h : Srt l) : sortS l = l := by
 unfold sortS
 refine List.mergeSort_of_pairwise (List.Pairwise.imp (fun {a b} h => ?_) h)
 rw [slt_asymm h]; rfl
theorem apart_srt {l : List (List Int)} (h : Srt l) : apart l = true := by
 unfold apart
 rw [List.all_eq_true]
 intro j hj
 rw [List.mem_range] at hj
 have := slt_ne (srt_get h (i := j) (j := j + 1) (by omega) (by omega))
 simpa using fun e => this e.symm
theorem inOrder_val {l : List (List Int)} (h : Srt l) (hl : l.length ≤ 1048576) (hr : ∀ x ∈ l, x.length ≤ 1048576) : impl_inOrder.f l = some l := by
 unfold impl_inOrder.f
 rw [sortS_srt h, apart_srt h, if_pos]
 simp only [Bool.and_true, Bool.and_eq_true, decide_eq_true_eq, List.all_eq_true]
 exact ⟨hl, hr⟩
theorem sizeS_val (l : List Int) : z63.f l = some (l.length : Int) := rfl
theorem ownS_val (l : List Int) (h : l.length ≤ 1048576) : z82.f l = some l := by
 unfold z82.f
 simp
 omega
theorem heldComplex_ev (l : List (List Int)) (b : Int) (h0 : 0 ≤ b) (h1 : b + total l ≤ 9223372036854775807) (hl : l.length < 9223372036854775807) : Ev (fun k => z26.f k (markRows l b) b) (b + total l) := by
 unfold z26.f
 have := total_nonneg l
 exact Ev.bind (heldInt64SS_ev l b h0 h1 hl) (ev_neg (by omega) (Ev.now _))
def skelC (C : List (List Int)) (d : Int) : List (List Int) × Int := if okC C = true then (if (decide (0 ≤ d) && decide (d ≤ 3)) = true then (skel C d, 0) else ([], 2)) else ([], 1)
section
variable {C : List (List Int)} (hl : C.length ≤ 1048576) (hr : ∀ x ∈ C, x.length ≤ 1048576)
include hl hr
theorem skel_small (d : Int) : (skel C d).length ≤ 1048576 ∧ ∀ x ∈ skel C d, x.length ≤ 1048576 :=
 ⟨Nat.le_trans (List.length_filter_le _ _) hl, fun x hx => hr x (List.mem_filter.1 hx).1⟩
theorem implSkel_ev (d : Int) : Ev (fun k => z25.f k C d) (skelC C d) := by
 unfold z25.f skelC z62.f
 refine Ev.bind (implValid_ev C hl hr) ?_
 cases ho : okC C with
 | false => exact ev_neg (by decide) (ev_eq (Ev.now _) (by simp))
 | true =>
  refine ev_pos rfl (Ev.bind (a := decide (0 ≤ d) && decide (d ≤ 3)) (Ev.bind (ev_const (within_val _ _ _)) (Ev.now _)) ?_)
  cases hd : decide (0 ≤ d) && decide (d ≤ 3) with
  | false => exact ev_neg (by decide) (ev_eq (Ev.now _) (by simp))
  | true =>
   rw [Bool.and_eq_true, decide_eq_true_iff, decide_eq_true_iff] at hd
   have hs : Srt (skel C d) := List.Pairwise.filter _ (okC_iff.1 ho).2.1
   have hb := skel_small hl hr d
   refine ev_pos rfl (ev_eq (r := (skel C d, 0)) (ev_filtR (fun s j k => z25.l0 k d s C (C.length : Int) (j : Int)) C (fun s => decide ((s.length : Int) ≤ d + 1)) (fun j s hj hs hp r hr' => ?_) (fun j s hj hs hp r hr' => ?_) _ ?_) (by simp))
   ·refine Ev.step (fun k => z25.l0.eq_2 ..) ?_
    rw [rdl_nat, wrap_succ (by omega), wrap_small (x := d + 1) (by omega) (by omega)]
    exact ev_pos (by omega) (ev_pos (by omega) (ev_pos (by omega) (Ev.bind (ev_const (sizeS_val _)) (ev_pos (of_decide_eq_true hp) (ev_pos (by omega) hr')))))
   ·refine Ev.step (fun k => z25.l0.eq_2 ..) ?_
    rw [rdl_nat, wrap_succ (by omega), wrap_small (x := d + 1) (by omega) (by omega)]
    exact ev_pos (by omega) (ev_pos (by omega) (ev_pos (by omega) (Ev.bind (ev_const (sizeS_val _)) (ev_neg (of_decide_eq_false hp) hr'))))
   ·refine Ev.step (fun k => z25.l0.eq_2 ..) ?_
    exact ev_neg (by omega) (Ev.bind (ev_const (inOrder_val hs hb.1 hb.2)) (Ev.now _))
theorem specSkel_ev (d : Int) : Ev (fun k => z24.f k C d) (skelC C d) := by
 unfold z24.f skelC z60.f
 refine Ev.bind (specOk_ev C hl hr) ?_
 cases ho : okC C with
 | false => exact ev_neg (by decide) (ev_eq (Ev.now _) (by simp))
 | true =>
  refine ev_pos rfl (Ev.bind (a := decide (0 ≤ d) && decide (d ≤ 3)) (Ev.bind (ev_const (in_val _ _ _)) (Ev.now _)) ?_)
  cases hd : decide (0 ≤ d) && decide (d ≤ 3) with
  | false => exact ev_neg (by decide) (ev_eq (Ev.now _) (by simp))
  | true =>
   rw [Bool.and_eq_true, decide_eq_true_iff, decide_eq_true_iff] at hd
   refine ev_pos rfl (Ev.bind (a := skel C d) ?_ (ev_eq (Ev.now _) (by simp)))
   unfold z61.f
   refine ev_filtR (fun s j k => z61.l0 k d (j : Int) C s) C (fun s => decide ((s.length : Int) ≤ d + 1)) (fun j s hj hs hp r hr' => ?_) (fun j s hj hs hp r hr' => ?_) _ ?_
   ·have hrow := hr _ (getD_mem ([] : List Int) hj)
    refine Ev.step (fun k => z61.l0.eq_2 ..) ?_
    rw [rdl_nat, wrap_succ (by omega), wrap_small (x := d + 1) (by omega) (by omega)]
    exact ev_pos (by omega) (ev_pos (by omega) (ev_pos (of_decide_eq_true hp) (Ev.bind (ev_const (ownS_val _ hrow)) (ev_pos (by omega) hr'))))
   ·refine Ev.step (fun k => z61.l0.eq_2 ..) ?_
    rw [rdl_nat, wrap_succ (by omega), wrap_small (x := d + 1) (by omega) (by omega)]
    exact ev_pos (by omega) (ev_pos (by omega) (ev_neg (of_decide_eq_false hp) hr'))
   ·refine Ev.step (fun k => z61.l0.eq_2 ..) ?_
    exact ev_neg (by omega) (Ev.now _)
omit hl hr in
theorem skelC_small (d : Int) : (skelC C d).1.length ≤ 48 ∧ ∀ x ∈ (skelC C d).1, x.length ≤ 4 := by
 unfold skelC
 split
 ·rename_i ho
  obtain ⟨h1, _, h3, _⟩ := okC_iff.1 ho
  split
  ·exact ⟨Nat.le_trans (List.length_filter_le _ _) h1, fun x hx => (simplex_len (h3 x (List.mem_filter.1 hx).1)).2⟩
  ·simp
 ·simp
end
theorem pure_SkeletonOf {l0 : List (List Int)} {a1 : Int} (h0 : WfLL l0) (h1 : Wf a1) : ∃ k, z4.f k l0 a1 = some true := by
 refine Ev.rounds (g := fun k => z4.f k l0 a1) ?_
 unfold z4.f
 rcases szComplex_ev l0 1048576 h0 (by omega) (by omega) with ⟨t, ht, hn⟩ | ⟨ht, hb⟩
 ·exact Ev.bind ht (ev_pos hn (Ev.now _))
 have htn := total_nonneg l0
 have hrow : ∀ x ∈ l0, x.length ≤ 1048576 := fun x hx => by have := row_le_total l0 x hx; omega
 have hlen : l0.length ≤ 1048576 := by omega
 have hto := toComplex_ev l0 hlen hrow
 have heq := eqComplex_self l0 (by omega) (fun x hx => by have := hrow x hx; omega)
 refine Ev.bind ht (ev_neg (by omega) ?_)
 have hsp := specSkel_ev hlen hrow a1
 have him := implSkel_ev hlen hrow a1
 have hs := skelC_small (C := l0) a1
 generalize skelC l0 a1 = g at hsp him hs
 obtain ⟨g0, g1⟩ := g
 dsimp only at hs
 obtain ⟨hs, hs2⟩ := hs
 have htg := total_le_of (l := g0) (m := 4) hs2
 have htg0 := total_nonneg g0
 have heg := eqComplex_self g0 (by omega) (fun x hx => by have := hs2 x hx; omega)
 have hm1 : laws_markComplex.f l0 1 = some (1 + total l0, markRows l0 1) := mark_val l0 1 (by omega) (by omega)
 have hm2 : laws_markComplex.f g0 1 = some (1 + total g0, markRows g0 1) := mark_val g0 1 (by omega) (by omega)
 have hh := heldComplex_ev g0 1 (by omega) (by omega) (by omega)
 (repeat (first | exact Ev.now _ | refine ev_pos rfl ?_ | refine ev_neg (by simp only []; omega) ?_ | refine ev_neg (by omega) ?_ | refine ev_neg (by simp) ?_ | refine Ev.bind (by assumption) ?_ | refine Ev.bind (ev_const (by assumption)) ?_))
end Go.Proofs.Ytipkciildhghiaa.B

