/- What the functions come to, for the law FnExactPartsOf. -/
import Derived.Test.YtipkciildhghiaaKCOMJNM0
import Derived.Test.YtipkciildhghiaaKFEODMB0
import Derived.Test.YtipkciildhghiaaKGAPOAC0
import Derived.Test.YtipkciildhghiaaKHGNPLP0
import Derived.Test.YtipkciildhghiaaKHKCALG0
import Derived.Test.YtipkciildhghiaaKJKIMLF0
import Derived.Test.YtipkciildhghiaaKKDOALB0
import Derived.Test.YtipkciildhghiaaKKFMIHE0
import Derived.Test.YtipkciildhghiaaKMEJJOC0
import Derived.Test.YtipkciildhghiaaKOANLHA0
import Derived.Test.YtipkciildhghiaaKOILLIC0
import Derived.Test.YtipkciildhghiaaKOJCANM0
import Derived.Test.YtipkciildhghiaaKOJIGNG0
import Derived.Test.YtipkciildhghiaaKPFOJIL0
import Derived.Test.YtipkciildhghiaaKW0
set_option linter.unusedVariables false
set_option linter.unusedSimpArgs false
namespace Go.Proofs.Ytipkciildhghiaa.B
open Go.RowKit Go.Proofs.YtipkciildhghiaaW.PrintWords

theorem row_le_total : ∀ (l : List (List Int)) (x : List Int), x ∈ l → x.length ≤ total l
 | [], x, h => by cases h
 | y :: l, x, h => by
  simp only [total]
  rcases List.mem_cons.1 h with rfl | h
  ·have := total_nonneg l; omega
  ·have := row_le_total l x h; omega
theorem total_le_of {l : List (List Int)} {m : Nat} (h : ∀ x ∈ l, x.length ≤ m) : total l ≤ l.length * m := by
 induction l with
 | nil => simp [total]
 | cons x l ih =>
  have h1 := h x List.mem_cons_self
  have h2 := ih (fun y hy => h y (List.mem_cons_of_mem _ hy))
  simp only [total, List.length_cons]
  rw [Int.natCast_add, Int.add_mul]
  omega
theorem eqComplex_self (l : List (List Int)) (hl : l.length < 9223372036854775807) (hr : ∀ x ∈ l, x.length < 9223372036854775807) : Ev (fun k => z20.f k l l) true := by
 unfold z20.f
 exact Ev.bind (ev_eq (eqInt64SS_ev l l hl hr) (beq_self_eq_true l)) (ev_pos rfl (Ev.now _))
theorem toComplex_ev (l : List (List Int)) (hl : l.length ≤ 1048576) (hr : ∀ x ∈ l, x.length ≤ 1048576) : Ev (fun k => z17.f k l) l := by
 unfold z17.f
 exact Ev.bind (toInt64SS_ev l hl hr) (Ev.now _)
theorem szComplex_ev (l : List (List Int)) (b : Int) (hw : WfLL l) (h0 : 0 ≤ b) (h1 : b ≤ 9223372036854775807) :
  (∃ t, Ev (fun k => z15.f k l b) t ∧ t < 0) ∨ (Ev (fun k => z15.f k l b) (b - l.length - total l) ∧ l.length + total l ≤ b) := by
 unfold z15.f
 rcases szInt64SS_ev l b hw h0 h1 with ⟨t, ht, hn⟩ | ⟨ht, hb⟩
 ·exact .inl ⟨-1, Ev.bind ht (ev_pos hn (Ev.now _)), by omega⟩
 ·exact .inr ⟨Ev.bind ht (ev_neg (by omega) (Ev.now _)), hb⟩
end Go.Proofs.Ytipkciildhghiaa.B

set_option linter.unusedVariables false
set_option linter.unusedSimpArgs false
namespace Go.Proofs.Ytipkciildhghiaa.B
open Go.RowKit Go.Proofs.YtipkciildhghiaaW.PrintWords

theorem mark_val (l : List (List Int)) (a : Int) (h0 : 0 ≤ a) (h1 : a + total l ≤ 9223372036854775807) : laws_markInt64SS.f l a = some (a + total l, markRows l a) := by
 unfold laws_markInt64SS.f
 rw [if_pos ⟨h0, h1⟩]
theorem markInts_get : ∀ (l : List Int) (a : Int) (i : Nat), i < l.length → (markInts l a).getD i 0 = a + i
 | [], a, i, h => by simp at h
 | x :: l, a, 0, h => by simp [markInts]
 | x :: l, a, i + 1, h => by
  have := markInts_get l (a + 1) i (by simpa using h)
  simp only [markInts, List.getD_cons_succ, this]
  omega
theorem heldInt64S_ev (l : List Int) (a : Int) (h0 : 0 ≤ a) (h1 : a + l.length ≤ 9223372036854775807) : Ev (fun k => z23.f k (markInts l a) a) (a + l.length) := by
 unfold z23.f
 have h := ev_find (r := a + l.length) (fun (i : Nat) k => z23.l0 k (markInts l a) (a + i) (i : Int)) (fun _ => false) l.length 0 (fun j _ hj _ r hr => by
  refine Ev.step (fun k => z23.l0.eq_2 ..) ?_
  rw [rd_nat, markInts_get l a j (by omega), markInts_length, wrap_succ (by omega), wrap_small (by omega) (by omega), show a + (j : Int) + 1 = a + ((j + 1 : Nat) : Int) by omega]
  (repeat (first | refine ev_pos (by omega) ?_ | refine ev_neg (by omega) ?_))
  exact hr) (fun _ _ _ h => by cases h) (fun _ => by
  refine Ev.step (fun k => z23.l0.eq_2 ..) ?_
  rw [markInts_length]
  exact ev_neg (by omega) (ev_eq (Ev.now _) (by omega)))
 simpa using h
theorem markRows_get : ∀ (l : List (List Int)) (a : Int) (i : Nat), i < l.length → (markRows l a).getD i [] = markInts (l.getD i []) (a + total (l.take i))
 | [], a, i, h => by simp at h
 | x :: l, a, 0, h => by simp [markRows, total]
 | x :: l, a, i + 1, h => by
  have := markRows_get l (a + x.length) i (by simpa using h)
  simp only [markRows, List.getD_cons_succ, this, List.take_succ_cons, total]
  congr 1
  omega
theorem total_take_succ' (l0 : List (List Int)) (k : Nat) (hk : k < l0.length) : total (l0.take (k + 1)) = total (l0.take k) + (l0.getD k []).length := by
 have ht : l0.take (k + 1) = l0.take k ++ [l0.getD k []] := by
  rw [List.take_succ_eq_append_getElem hk, List.getD_eq_getElem?_getD, List.getElem?_eq_getElem hk]; rfl
 rw [ht, total_append]; simp [total]
theorem total_take_le' (l0 : List (List Int)) (k : Nat) : total (l0.take k) ≤ total l0 := by
 have h := total_append (l0.take k) (l0.drop k)
 rw [List.take_append_drop] at h
 have := total_nonneg (l0.drop k)
 omega
theorem heldInt64SS_ev (l : List (List Int)) (a : Int) (h0 : 0 ≤ a) (h1 : a + total l ≤ 9223372036854775807) (hl : l.length < 9223372036854775807) : Ev (fun k => z51.f k (markRows l a) a) (a + total l) := by
 unfold z51.f
 have h := ev_find (r := a + total l) (fun (i : Nat) k => z51.l0 k (markRows l a) (a + total (l.take i)) (i : Int)) (fun _ => false) l.length 0 (fun j _ hj _ r hr => by
  have hrd : rd_ListInt (markRows l a) (j : Int) = markInts (l.getD j []) (a + total (l.take j)) := by
   rw [← markRows_get l a j (by omega)]; simp [rd_ListInt]
  have e1 := total_take_succ' l j (by omega)
  have e2 := total_take_le' l (j + 1)
  have e3 := total_nonneg (l.take j)
  refine Ev.step (fun k => z51.l0.eq_2 ..) ?_
  rw [hrd, markRows_length, wrap_succ (by omega)]
  (repeat (first | refine ev_pos (by omega) ?_ | refine ev_neg (by omega) ?_))
  refine Ev.bind (heldInt64S_ev _ _ (by omega) (by omega)) (ev_neg (by omega) ?_)
  rw [show a + total (l.take j) + ((l.getD j []).length : Int) = a + total (l.take (j + 1)) by omega]
  exact hr) (fun _ _ _ h => by cases h) (fun _ => by
  refine Ev.step (fun k => z51.l0.eq_2 ..) ?_
  rw [markRows_length]
  refine ev_neg (by omega) (ev_eq (Ev.now _) ?_)
  rw [Nat.zero_add, List.take_length])
 simpa [total] using h
end Go.Proofs.Ytipkciildhghiaa.B

set_option linter.unusedVariables false
set_option linter.unusedSimpArgs false
namespace Go.Proofs.Ytipkciildhghiaa.B
open Go.RowKit Go.Proofs.YtipkciildhghiaaW.PrintWords

theorem eqInt64S_self (l : List Int) (hl : l.length < 9223372036854775807) : Ev (fun k => z19.f k l l) true := ev_eq (eqInt64S_ev l l hl) (beq_self_eq_true l)
theorem eqInt64SS_self (l : List (List Int)) (hl : l.length < 9223372036854775807) (hr : ∀ x ∈ l, x.length < 9223372036854775807) : Ev (fun k => z33.f k l l) true := ev_eq (eqInt64SS_ev l l hl hr) (beq_self_eq_true l)
theorem markInt64S_mark (l : List Int) (a : Int) (h0 : 0 ≤ a) (h1 : a + l.length ≤ 9223372036854775807) : Ev (fun k => z22.f k l a) (a + l.length, markInts l a) := by
 have := markInt64S_ev l.length l [] l a rfl rfl h0 h1 (by omega)
 simpa [z22.f] using this
end Go.Proofs.Ytipkciildhghiaa.B

set_option linter.unusedVariables false
set_option linter.unusedSimpArgs false
namespace Go.Proofs.Ytipkciildhghiaa.B
open Go.RowKit Go.Proofs.YtipkciildhghiaaW.PrintWords
end Go.Proofs.Ytipkciildhghiaa.B

set_option linter.unusedVariables false
set_option linter.unusedSimpArgs false
namespace Go.Proofs.Ytipkciildhghiaa.B
open Go.RowKit Go.Proofs.YtipkciildhghiaaW.PrintWords

theorem total_take1 (l : List (List Int)) (k : Nat) (hk : k < l.length) : total (l.take (k + 1)) = total (l.take k) + (l.getD k []).length := by
 have ht : l.take (k + 1) = l.take k ++ [l.getD k []] := by
  rw [List.take_succ_eq_append_getElem hk, List.getD_eq_getElem?_getD, List.getElem?_eq_getElem hk]; rfl
 rw [ht, total_append]; simp [total]
theorem total_take_all (l : List (List Int)) (k : Nat) : total (l.take k) ≤ total l := by
 have h := total_append (l.take k) (l.drop k)
 rw [List.take_append_drop] at h
 have := total_nonneg (l.drop k)
 omega
theorem flatten_length : ∀ l : List (List Int), (l.flatten.length : Int) = total l
 | [] => rfl
 | x :: l => by rw [List.flatten_cons, List.length_append]; have := flatten_length l; simp only [total]; omega
theorem flatten_take1 (l : List (List Int)) (k : Nat) (hk : k < l.length) : (l.take (k + 1)).flatten = (l.take k).flatten ++ l.getD k [] := by
 have ht : l.take (k + 1) = l.take k ++ [l.getD k []] := by
  rw [List.take_succ_eq_append_getElem hk, List.getD_eq_getElem?_getD, List.getElem?_eq_getElem hk]; rfl
 rw [ht, List.flatten_append]; simp
theorem concat_ev (l : List (List Int)) (hl : l.length < 9223372036854775807) (ht : total l ≤ 17592186044415) : Ev (fun k => z156.f k l) l.flatten := by
 unfold z156.f
 -- the second loop
 have h1 : Ev (fun k => z156.l1 k ([] : List Int) l (l.length : Int) 0) l.flatten := by
  have := (le_iter_inv (fun (s : List Int) (i : Nat) k => z156.l1 k s l (l.length : Int) (i : Int)) (fun i s => s ++ l.getD i []) (fun i s => s = (l.take i).flatten) l.length 0 [] (by simp) (by
   intro j s _ hj hs
   have hj' : j < l.length := by omega
   refine ⟨fun r hr => ?_, by rw [flatten_take1 l j hj', hs]⟩
   refine Ev.step (fun k => z156.l1.eq_2 ..) ?_
   rw [rdl_nat, wrap_succ (by omega)]
   have e1 := total_take1 l j hj'
   have e2 := total_take_all l (j + 1)
   have e3 := flatten_length (l.take j)
   rw [← hs] at e3
   exact ev_pos (by omega) (ev_pos (by omega) (ev_pos (by omega) (ev_pos (by omega) hr)))))
  refine this.1 _ ?_
  refine Ev.step (fun k => z156.l1.eq_2 ..) ?_
  refine ev_neg (by omega) (ev_eq (Ev.now _) ?_)
  rw [this.2, Nat.zero_add, List.take_length]
 have := (le_iter_inv (fun (s : Int) (i : Nat) k => z156.l0 k l s l (l.length : Int) (i : Int)) (fun i s => s + (l.getD i []).length) (fun i s => s = total (l.take i)) l.length 0 0 (by simp [total]) (by
  intro j s _ hj hs
  have hj' : j < l.length := by omega
  have e1 := total_take1 l j hj'
  have e2 := total_take_all l (j + 1)
  have e3 := total_nonneg (l.take j)
  refine ⟨fun r hr => ?_, by rw [e1, hs]⟩
  refine Ev.step (fun k => z156.l0.eq_2 ..) ?_
  rw [rdl_nat, wrap_succ (by omega), wrap_small (x := s + ((l.getD j []).length : Int)) (by omega) (by omega)]
  exact ev_pos (by omega) (ev_pos (by omega) (ev_pos (by omega) (ev_neg (by omega) hr)))))
 refine this.1 _ ?_
 refine Ev.step (fun k => z156.l0.eq_2 ..) ?_
 have e4 : iter (fun i s => s + ((l.getD i []).length : Int)) 0 l.length 0 = total l := by
  rw [this.2, Nat.zero_add, List.take_length]
 rw [e4]
 have e5 := total_nonneg l
 refine ev_neg (by omega) (Ev.bind (a := []) (ev_const ?_) h1)
 unfold slices_Grow_int64_int64.f
 rw [if_pos ⟨⟨rfl, e5⟩, ht⟩]
end Go.Proofs.Ytipkciildhghiaa.B

set_option linter.unusedVariables false
set_option linter.unusedSimpArgs false
namespace Go.Proofs.Ytipkciildhghiaa.B
open Go.RowKit Go.Proofs.YtipkciildhghiaaW.PrintWords

def rises (l : List Int) (i : Nat) : Bool := i == 0 || decide (l.getD (i - 1) 0 < l.getD i 0)
def rising (l : List Int) : Bool := (List.range l.length).all (rises l)
def isSimplex (l : List Int) : Bool := (decide (1 ≤ l.length) && decide (l.length ≤ 4)) && (rising l && l.all fun v => decide (0 ≤ v) && decide (v ≤ 9))
theorem isRising_ev (l : List Int) (hl : l.length < 9223372036854775807) : Ev (fun k => z125.f k l) (rising l) := by
 unfold z125.f
 rcases Nat.eq_zero_or_pos l.length with h0 | h0
 ·have : rising l = true := by unfold rising; rw [h0]; rfl
  rw [this]
  refine Ev.step (fun k => z125.l0.eq_2 ..) ?_
  exact ev_neg (by omega) (Ev.now _)
 ·refine ev_find (fun (i : Nat) k => z125.l0 k l (i : Int)) (fun i => !rises l i) (l.length - 1) 1 (fun i hi hi2 hp r hr => ?_) (fun i hi hi2 hp _ => ?_) (fun hall => ?_)
  ·have hp : rises l i = true := by simpa using hp
   unfold rises at hp
   have e : (i == 0) = false := by simpa using (show i ≠ 0 by omega)
   rw [e, Bool.false_or] at hp
   have hp := of_decide_eq_true hp
   refine Ev.step (fun k => z125.l0.eq_2 ..) ?_
   rw [show wrap64 ((i : Int) - 1) = ((i - 1 : Nat) : Int) by rw [wrap_small (by omega) (by omega)]; omega, rd_nat, rd_nat, wrap_succ (by omega)]
   exact ev_pos (by omega) (ev_pos (by omega) (ev_pos (by omega) (ev_pos (by omega) (ev_neg (by omega) hr))))
  ·have hp : rises l i = false := by simpa using hp
   have hf : rising l = false := by
    unfold rising
    rw [Bool.eq_false_iff]
    intro h
    have := List.all_eq_true.1 h i (List.mem_range.2 (by omega))
    rw [hp] at this; cases this
   rw [hf]
   unfold rises at hp
   have e : (i == 0) = false := by simpa using (show i ≠ 0 by omega)
   rw [e, Bool.false_or] at hp
   have hp := of_decide_eq_false hp
   refine Ev.step (fun k => z125.l0.eq_2 ..) ?_
   rw [show wrap64 ((i : Int) - 1) = ((i - 1 : Nat) : Int) by rw [wrap_small (by omega) (by omega)]; omega, rd_nat, rd_nat]
   exact ev_pos (by omega) (ev_pos (by omega) (ev_pos (by omega) (ev_pos (by omega) (ev_pos (by omega) (Ev.now _)))))
  ·have hf : rising l = true := List.all_eq_true.2 (fun i hi => by
    have hi := List.mem_range.1 hi
    rcases Nat.eq_zero_or_pos i with h | h
    ·subst h; rfl
    ·simpa using hall i h (by omega))
   rw [hf, show 1 + (l.length - 1) = l.length by omega]
   refine Ev.step (fun k => z125.l0.eq_2 ..) ?_
   exact ev_neg (by omega) (Ev.now _)
theorem vertex_val (v : Int) : z127.f v = some (!(decide (0 ≤ v) && decide (v ≤ 9))) := by
 unfold z127.f z83.f
 rw [within_val]; rfl
theorem vertices_ev (l : List Int) (hl : l.length < 9223372036854775807) : Ev (fun k => z225.f k l) (l.any fun v => !(decide (0 ≤ v) && decide (v ≤ 9))) := by
 obtain ⟨t, ht, hd⟩ := ev_index_list (l) 0 (fun i k => z226.l0 k (l) ((l).length : Int) (i : Int) ) (fun v => !(decide (0 ≤ v) && decide (v ≤ 9))) (fun j hj hp r hr => by
   refine Ev.step (fun k => z226.l0.eq_2 ..) ?_
   refine ev_pos (by omega) (ev_pos (by omega) (ev_pos (by omega) ?_))
   rw [rd_nat, wrap_succ (by omega)]
   exact Ev.bind (ev_const (vertex_val _)) (ev_neg (by rw [hp]; decide) hr)) (fun j hj hp => by
   refine Ev.step (fun k => z226.l0.eq_2 ..) ?_
   refine ev_pos (by omega) (ev_pos (by omega) (ev_pos (by omega) ?_))
   rw [rd_nat]
   exact Ev.bind (ev_const (vertex_val _)) (ev_pos hp (Ev.now _))) (by
   refine Ev.step (fun k => z226.l0.eq_2 ..) ?_
   exact ev_neg (by omega) (Ev.now _))
 unfold z225.f z226.f
 refine Ev.bind ht (ev_eq (Ev.now _) hd)
theorem implSimplex_ev (l : List Int) (hl : l.length < 9223372036854775807) : Ev (fun k => z77.f k l) (isSimplex l) := by
 unfold z77.f isSimplex
 by_cases h1 : 1 ≤ l.length
 ·rw [decide_eq_true h1, Bool.true_and]
  refine ev_pos (by omega) ?_
  by_cases h4 : l.length ≤ 4
  ·rw [decide_eq_true h4, Bool.true_and]
   refine ev_pos (by omega) (Ev.bind (isRising_ev l hl) ?_)
   cases hr : rising l with
   | false => exact ev_neg (by decide) (Ev.now _)
   | true =>
    refine ev_pos rfl (Ev.bind (vertices_ev l hl) (ev_eq (Ev.now _) ?_))
    rw [List.any_eq_not_all_not]; simp
  ·rw [decide_eq_false h4, Bool.false_and]
   exact ev_neg (by omega) (Ev.now _)
 ·rw [decide_eq_false h1, Bool.false_and, Bool.false_and]
  exact ev_neg (by omega) (Ev.now _)
theorem specRises_ev (l : List Int) (a b : Int) (hl : l.length < 9223372036854775807) : Ev (fun k => z123.f k l a b) (rising l && l.all fun v => decide (a ≤ v) && decide (v ≤ b)) := by
 have e : (rising l && l.all fun v => decide (a ≤ v) && decide (v ≤ b)) = (List.range l.length).all fun i => (decide (a ≤ l.getD i 0) && decide (l.getD i 0 ≤ b)) && rises l i := by
  rw [← all_range l 0, rising, Bool.eq_iff_iff, Bool.and_eq_true, List.all_eq_true, List.all_eq_true, List.all_eq_true]
  constructor
  ·rintro ⟨h1, h2⟩ i hi
   rw [h1 i hi, h2 i hi]; rfl
  ·intro h
   exact ⟨fun i hi => ((Bool.and_eq_true _ _).mp (h i hi)).2, fun i hi => ((Bool.and_eq_true _ _).mp (h i hi)).1⟩
 rw [e]
 unfold z123.f
 refine ev_all (fun (i : Nat) k => z123.l0 k l a b (i : Int)) _ l.length (fun i hi hp r hr => ?_) (fun i hi hp => ?_) ?_
 ·obtain ⟨h1, h2⟩ := (Bool.and_eq_true _ _).mp hp
  refine Ev.step (fun k => z123.l0.eq_2 ..) ?_
  rw [rd_nat, wrap_succ (by omega)]
  refine ev_pos (by omega) (ev_pos (by omega) (Ev.bind (ev_const (in_val _ _ _)) (ev_pos h1 ?_)))
  rcases Nat.eq_zero_or_pos i with h | h
  ·exact ev_neg (by omega) hr
  ·have e : (i == 0) = false := by simpa using (show i ≠ 0 by omega)
   unfold rises at h2
   rw [e, Bool.false_or] at h2
   have h2 := of_decide_eq_true h2
   rw [show wrap64 ((i : Int) - 1) = ((i - 1 : Nat) : Int) by rw [wrap_small (by omega) (by omega)]; omega, rd_nat]
   exact ev_pos (by omega) (ev_pos (by omega) (ev_pos (by omega) (ev_neg (by omega) hr)))
 ·refine Ev.step (fun k => z123.l0.eq_2 ..) ?_
  rw [rd_nat]
  refine ev_pos (by omega) (ev_pos (by omega) (Ev.bind (ev_const (in_val _ _ _)) ?_))
  cases h1 : decide (a ≤ l.getD i 0) && decide (l.getD i 0 ≤ b) with
  | false => exact ev_neg (by decide) (Ev.now _)
  | true =>
   rw [h1, Bool.true_and] at hp
   refine ev_pos rfl ?_
   rcases Nat.eq_zero_or_pos i with h | h
   ·subst h; cases hp
   ·have e : (i == 0) = false := by simpa using (show i ≠ 0 by omega)
    unfold rises at hp
    rw [e, Bool.false_or] at hp
    have hp := of_decide_eq_false hp
    rw [show wrap64 ((i : Int) - 1) = ((i - 1 : Nat) : Int) by rw [wrap_small (by omega) (by omega)]; omega, rd_nat]
    exact ev_pos (by omega) (ev_pos (by omega) (ev_pos (by omega) (ev_pos (by omega) (Ev.now _))))
 ·refine Ev.step (fun k => z123.l0.eq_2 ..) ?_
  exact ev_neg (by omega) (Ev.now _)
theorem specSimplex_ev (l : List Int) (hl : l.length < 9223372036854775807) : Ev (fun k => z73.f k l) (isSimplex l) := by
 unfold z73.f isSimplex
 refine Ev.bind (ev_const (in_val _ _ _)) ?_
 have e : (decide ((1 : Int) ≤ (l.length : Int)) && decide ((l.length : Int) ≤ 4)) = (decide (1 ≤ l.length) && decide (l.length ≤ 4)) := by
  rw [Bool.eq_iff_iff]; simp; omega
 rw [e]
 cases h : decide (1 ≤ l.length) && decide (l.length ≤ 4) with
 | false => exact ev_neg (by decide) (Ev.now _)
 | true => exact ev_pos rfl (Ev.bind (specRises_ev l 0 9 hl) (Ev.now _))
end Go.Proofs.Ytipkciildhghiaa.B

set_option linter.unusedVariables false
set_option linter.unusedSimpArgs false
namespace Go.Proofs.Ytipkciildhghiaa.B
open Go.RowKit Go.Proofs.YtipkciildhghiaaW.PrintWords
open SimT

def faces (s : List Int) : List (List Int) := if 1 < s.length then (List.range s.length).map (drp s) else []
theorem faces_len (s : List Int) : (faces s).length ≤ s.length := by
 unfold faces
 split <;> simp
theorem faces_row {s x : List Int} (h : x ∈ faces s) : x.length ≤ s.length := by
 unfold faces at h
 split at h
 ·obtain ⟨i, hi, rfl⟩ := List.mem_map.1 h
  exact (drp_sub s i).length_le
 ·cases h
theorem mem_faces {s x : List Int} : x ∈ faces s ↔ 1 < s.length ∧ ∃ k, k < s.length ∧ drp s k = x := by
 unfold faces
 split
 ·rename_i h
  rw [List.mem_map]
  exact ⟨fun ⟨k, hk, e⟩ => ⟨h, k, List.mem_range.1 hk, e⟩, fun ⟨_, k, hk, e⟩ => ⟨k, List.mem_range.2 hk, e⟩⟩
 ·rename_i h
  exact ⟨fun hx => (by cases hx), fun hx => absurd hx.1 h⟩
theorem faces_get {s : List Int} (h : 1 < s.length) {i : Nat} (hi : i < s.length) : (faces s).getD i [] = drp s i := by
 unfold faces
 rw [if_pos h]
 simp [List.getD_eq_getElem?_getD, hi]
theorem faces_slt {s x : List Int} (h : x ∈ faces s) : slt x s = true := by
 obtain ⟨_, k, hk, rfl⟩ := mem_faces.1 h
 exact drp_slt hk
theorem facesOf_ev (s : List Int) (hs : s.length ≤ 1000000000000) : Ev (fun k => z110.f k s) (faces s) := by
 unfold z110.f
 by_cases h1 : 1 < s.length
 ·have := ev_map (fun (a : List (List Int)) (i : Nat) k => z110.l0 k s a (s.length : Int) (i : Int)) (drp s) s.length (fun j a hj ha r hr => by
   refine Ev.step (fun k => z110.l0.eq_2 ..) ?_
   have hal : a.length = j := by rw [ha]; simp
   rw [wrap_succ (by omega), Int.toNat_natCast, Int.toNat_natCast]
   refine ev_pos (by omega) (ev_pos (by omega) (ev_pos (by omega) (ev_pos (by omega) (ev_pos (by omega) (ev_pos (by omega) (Ev.bind (concat_ev _ (by simp) ?_) (ev_pos (by omega) ?_)))))))
   ·have h2 : (s.take j).length ≤ s.length := (List.take_sublist j s).length_le
    have h3 : (s.drop (j + 1)).length ≤ s.length := (List.drop_sublist (j + 1) s).length_le
    simp only [total]; omega
   ·have e : [s.take j, s.drop (j + 1)].flatten = drp s j := by simp [drp]
    rw [e]; exact hr)
  have e : faces s = (List.range s.length).map (drp s) := by unfold faces; rw [if_pos h1]
  rw [e]
  refine this _ ?_
  refine Ev.step (fun k => z110.l0.eq_2 ..) ?_
  exact ev_neg (by omega) (Ev.now _)
 ·have e : faces s = [] := by unfold faces; rw [if_neg h1]
  rw [e]
  refine ev_find (fun (i : Nat) k => z110.l0 k s ([] : List (List Int)) (s.length : Int) (i : Int)) (fun _ => false) s.length 0 (fun j _ hj _ r hr => ?_) (fun _ _ _ h => by cases h) (fun _ => ?_)
  ·refine Ev.step (fun k => z110.l0.eq_2 ..) ?_
   rw [wrap_succ (by omega)]
   exact ev_pos (by omega) (ev_neg (by omega) hr)
  ·refine Ev.step (fun k => z110.l0.eq_2 ..) ?_
   rw [Nat.zero_add]
   exact ev_neg (by omega) (Ev.now _)
theorem drop_val (s : List Int) (i : Nat) (hi : i < s.length) (hs : s.length ≤ 1000000000000) : z108.f s (i : Int) = some (drp s i) := by
 unfold z108.f z82.f
 have h2 : (s.take i).length ≤ s.length := (List.take_sublist i s).length_le
 have h3 : (s.drop (i + 1)).length ≤ s.length := (List.drop_sublist (i + 1) s).length_le
 rw [wrap_succ (by omega), Int.toNat_natCast, Int.toNat_natCast, if_pos (by omega), if_pos (by omega)]
 simp only [Option.bind_some, List.nil_append, List.length_nil, Nat.zero_add]
 rw [if_pos (by omega)]
 simp only [Option.bind_some]
 rw [if_pos (by omega), if_pos (by omega), if_pos (by omega)]
 rfl

def okAt (C : List (List Int)) (D : List (List Int)) (i : Nat) : Bool := (isSimplex (C.getD i []) && (i == 0 || slt (C.getD (i - 1) []) (C.getD i []))) && (faces (C.getD i [])).all fun f => decide (f ∈ D)
def okC (C : List (List Int)) : Bool := decide (C.length ≤ 48) && (List.range C.length).all (okAt C C)
theorem okAt_iff {C D : List (List Int)} {i : Nat} : okAt C D i = true ↔ isSimplex (C.getD i []) = true ∧ (i = 0 ∨ slt (C.getD (i - 1) []) (C.getD i []) = true) ∧ ∀ f, f ∈ faces (C.getD i []) → f ∈ D := by
 unfold okAt
 rw [Bool.and_eq_true, Bool.and_eq_true, Bool.or_eq_true, List.all_eq_true, beq_iff_eq]
 simp only [decide_eq_true_eq]
 exact ⟨fun ⟨⟨a, b⟩, c⟩ => ⟨a, b, c⟩, fun ⟨a, b, c⟩ => ⟨⟨a, b⟩, c⟩⟩
theorem srt_upto {C D : Nat → List (List Int)} {L : List (List Int)} (n : Nat) (hn : n ≤ L.length) (h : ∀ m, m < n → okAt L (D m) m = true) : Srt (L.take n) := by
 refine srt_of_get (fun i hi => ?_)
 rw [List.length_take] at hi
 have hi' : i + 1 < n := by omega
 obtain ⟨_, h2, _⟩ := okAt_iff.1 (h (i + 1) hi')
 have e1 : (L.take n).getD i [] = L.getD i [] := by
  rw [List.getD_eq_getElem?_getD, List.getD_eq_getElem?_getD, List.getElem?_take, if_pos (by omega)]
 have e2 : (L.take n).getD (i + 1) [] = L.getD (i + 1) [] := by
  rw [List.getD_eq_getElem?_getD, List.getD_eq_getElem?_getD, List.getElem?_take, if_pos hi']
 rw [e1, e2]
 rcases h2 with h2 | h2
 ·omega
 ·exact h2
theorem okC_iff {C : List (List Int)} : okC C = true ↔ C.length ≤ 48 ∧ Srt C ∧ (∀ s, s ∈ C → isSimplex s = true) ∧ Closed C := by
 unfold okC
 rw [Bool.and_eq_true, decide_eq_true_iff, List.all_eq_true]
 constructor
 ·rintro ⟨h1, h2⟩
  have h2' : ∀ m, m < C.length → okAt C C m = true := fun m hm => h2 m (List.mem_range.2 hm)
  have hs := srt_upto (C := fun _ => C) (D := fun _ => C) C.length (Nat.le_refl _) h2'
  rw [List.take_length] at hs
  refine ⟨h1, hs, fun s hs => ?_, fun s hs hl k hk => ?_⟩
  ·obtain ⟨i, hi, e⟩ := List.mem_iff_getElem.1 hs
   have := (okAt_iff.1 (h2' i hi)).1
   rw [List.getD_eq_getElem?_getD, List.getElem?_eq_getElem hi] at this
   simpa [e] using this
  ·obtain ⟨i, hi, e⟩ := List.mem_iff_getElem.1 hs
   have := (okAt_iff.1 (h2' i hi)).2.2
   rw [List.getD_eq_getElem?_getD, List.getElem?_eq_getElem hi] at this
   simp only [Option.getD_some, e] at this
   exact this _ (mem_faces.2 ⟨hl, k, hk, rfl⟩)
 ·rintro ⟨h1, h2, h3, h4⟩
  refine ⟨h1, fun i hi => okAt_iff.2 ⟨h3 _ (getD_mem [] (List.mem_range.1 hi)), ?_, fun f hf => ?_⟩⟩
  ·rcases Nat.eq_zero_or_pos i with h | h
   ·exact .inl h
   ·exact .inr (srt_get h2 (by omega) (List.mem_range.1 hi))
  ·obtain ⟨hl, k, hk, rfl⟩ := mem_faces.1 hf
   exact h4 _ (getD_mem [] (List.mem_range.1 hi)) hl k hk
theorem simplex_len {s : List Int} (h : isSimplex s = true) : 1 ≤ s.length ∧ s.length ≤ 4 := by
 unfold isSimplex at h
 rw [Bool.and_eq_true, Bool.and_eq_true, decide_eq_true_iff, decide_eq_true_iff] at h
 exact h.1
theorem okAt_take {C : List (List Int)} (hs : Srt C) {i : Nat} (hi : i < C.length) : okAt C (C.take i) i = okAt C C i := by
 rw [Bool.eq_iff_iff, okAt_iff, okAt_iff]
 refine and_congr Iff.rfl (and_congr Iff.rfl ⟨fun h f hf => List.mem_of_mem_take (h f hf), fun h f hf => ?_⟩)
 obtain ⟨j, hj, e⟩ := List.mem_iff_getElem.1 (h f hf)
 have hlt := faces_slt hf
 have ej : C.getD j [] = f := by rw [List.getD_eq_getElem?_getD, List.getElem?_eq_getElem hj]; exact e
 rcases Nat.lt_or_ge j i with hl | hg
 ·rw [List.mem_iff_getElem]
  exact ⟨j, by rw [List.length_take]; omega, by rw [List.getElem_take]; exact e⟩
 ·rcases Nat.eq_or_lt_of_le hg with rfl | hl
  ·rw [ej, slt_irrefl] at hlt; cases hlt
  ·have := srt_get hs hl hj
   rw [ej] at this
   rw [slt_asymm this] at hlt; cases hlt
theorem ok_same (C : List (List Int)) : ((List.range C.length).all (fun i => okAt C (C.take i) i) && decide (C.length ≤ 48)) = okC C := by
 unfold okC
 rw [Bool.and_comm]
 congr 1
 rw [Bool.eq_iff_iff, List.all_eq_true, List.all_eq_true]
 constructor
 ·intro h
  have hs := srt_upto (C := fun _ => C) (D := fun m => C.take m) (L := C) C.length (Nat.le_refl _) (fun m hm => h m (List.mem_range.2 hm))
  rw [List.take_length] at hs
  intro i hi
  rw [← okAt_take hs (List.mem_range.1 hi)]; exact h i hi
 ·intro h
  have hs := srt_upto (C := fun _ => C) (D := fun _ => C) (L := C) C.length (Nat.le_refl _) (fun m hm => h m (List.mem_range.2 hm))
  rw [List.take_length] at hs
  intro i hi
  rw [okAt_take hs (List.mem_range.1 hi)]; exact h i hi

theorem missing_ev (C : List (List Int)) (i : Nat) (hi : i ≤ C.length) (hl : C.length < 4611686018427387904) (hr : ∀ x ∈ C, x.length < 9223372036854775807) (hs : Srt (C.take i)) (f : List Int) (hf : f.length < 9223372036854775807) :
  Ev (fun k => z111.f k f C (i : Int)) (!decide (f ∈ C.take i)) := by
 unfold z111.f
 rw [Int.toNat_natCast]
 have hlt : (C.take i).length ≤ C.length := (List.take_sublist i C).length_le
 refine ev_pos (by omega) (ev_pos (by omega) (Ev.bind (indexOf_ev (C.take i) f (by omega) (fun x hx => hr x (List.mem_of_mem_take hx)) hf hs) (ev_eq (Ev.now _) ?_)))
 rw [Bool.eq_iff_iff, decide_eq_true_iff, idx_neg]; simp
theorem anyMissing_ev (C : List (List Int)) (n0 : Nat) (hi : n0 ≤ C.length) (hl : C.length < 4611686018427387904) (hrr : ∀ x ∈ C, x.length < 9223372036854775807) (hs : Srt (C.take n0)) (l : List (List Int)) (hll : l.length < 9223372036854775807) (hf : ∀ x ∈ l, x.length < 9223372036854775807) :
  Ev (fun k => z224.f k l C (n0 : Int)) (l.any fun f => !decide (f ∈ C.take n0)) := by
 obtain ⟨t, ht, hd⟩ := ev_index_list (l) [] (fun i k => z228.l0 k (l) ((l).length : Int) (i : Int) C (n0 : Int)) (fun f => !decide (f ∈ C.take n0)) (fun j hj hp r hr => by
   refine Ev.step (fun k => z228.l0.eq_2 ..) ?_
   refine ev_pos (by omega) (ev_pos (by omega) (ev_pos (by omega) ?_))
   rw [rdl_nat, wrap_succ (by omega)]
   exact Ev.bind (missing_ev C n0 hi hl hrr hs _ (hf _ (getD_mem [] hj))) (ev_neg (by rw [hp]; decide) hr)) (fun j hj hp => by
   refine Ev.step (fun k => z228.l0.eq_2 ..) ?_
   refine ev_pos (by omega) (ev_pos (by omega) (ev_pos (by omega) ?_))
   rw [rdl_nat]
   exact Ev.bind (missing_ev C n0 hi hl hrr hs _ (hf _ (getD_mem [] hj))) (ev_pos hp (Ev.now _))) (by
   refine Ev.step (fun k => z228.l0.eq_2 ..) ?_
   exact ev_neg (by omega) (Ev.now _))
 unfold z224.f z228.f
 refine Ev.bind ht (ev_eq (Ev.now _) hd)
theorem implValid_ev (C : List (List Int)) (hl : C.length ≤ 1048576) (hr : ∀ x ∈ C, x.length ≤ 1048576) : Ev (fun k => z58.f k C) (okC C) := by
 rw [← ok_same]
 unfold z58.f
 have hr' : ∀ x ∈ C, x.length < 9223372036854775807 := fun x hx => by have := hr x hx; omega
 -- the rest of a round
 have hrest : ∀ (j : Nat) (b : Bool), j < C.length → Srt (C.take j) → ∀ v, (b = false → ((faces (C.getD j [])).all fun f => decide (f ∈ C.take j)) = true → Ev (fun k => z58.l0 k C (C.length : Int) ((j + 1 : Nat) : Int) C) v) → (b = true ∨ ((faces (C.getD j [])).all fun f => decide (f ∈ C.take j)) = false → v = false) →
   Ev (fun k => z58.j1 k (C.getD j []) C (C.length : Int) (j : Int) b C (j : Int)) v := by
  intro j b hj hs v h1 h2
  have hrow := hr _ (getD_mem ([] : List Int) hj)
  refine Ev.step (fun k => z58.j1.eq_2 ..) ?_
  cases b with
  | true => rw [h2 (.inl rfl)]; exact ev_pos rfl (Ev.now _)
  | false =>
   refine ev_neg (by decide) (Ev.bind (facesOf_ev _ (by omega)) (Ev.bind (anyMissing_ev C j (by omega) (by omega) hr' hs _ (by have := faces_len (C.getD j []); omega) (fun x hx => by have := faces_row hx; omega)) ?_))
   cases ha : (faces (C.getD j [])).all fun f => decide (f ∈ C.take j) with
   | true =>
    refine ev_neg ?_ ?_
    ·rw [List.any_eq_not_all_not]; simp only [Bool.not_not, ha]; decide
    ·rw [wrap_succ (by omega)]; exact h1 rfl ha
   | false =>
    rw [h2 (.inr ha)]
    refine ev_pos ?_ (Ev.now _)
    rw [List.any_eq_not_all_not]; simp only [Bool.not_not, ha]; rfl
 have hround : ∀ (j : Nat), j < C.length → (∀ m, m < j → okAt C (C.take m) m = true) → ∀ v, (okAt C (C.take j) j = true → Ev (fun k => z58.l0 k C (C.length : Int) ((j + 1 : Nat) : Int) C) v) → (okAt C (C.take j) j = false → v = false) →
   Ev (fun k => z58.l0 k C (C.length : Int) (j : Int) C) v := by
  intro j hj hall v h1 h2
  have hs : Srt (C.take j) := srt_upto (C := fun _ => C) (D := fun m => C.take m) j (by omega) hall
  have hrow := hr _ (getD_mem ([] : List Int) hj)
  have key := hrest j
  refine Ev.step (fun k => z58.l0.eq_2 ..) ?_
  rw [rdl_nat]
  refine ev_pos (by omega) (ev_pos (by omega) (ev_pos (by omega) (Ev.bind (implSimplex_ev _ (by omega)) ?_)))
  unfold okAt at h1 h2
  cases hi : isSimplex (C.getD j []) with
  | false =>
   rw [hi] at h1 h2
   refine ev_neg (by decide) (key true hj hs v (fun h => by cases h) (fun _ => h2 rfl))
  | true =>
   rw [hi] at h1 h2
   refine ev_pos rfl ?_
   rcases Nat.eq_zero_or_pos j with h0 | h0
   ·have e : (j == 0) = true := by simpa using h0
    rw [e] at h1 h2
    simp only [Bool.true_or, Bool.true_and] at h1 h2
    exact ev_neg (by omega) (key false hj hs v (fun _ ha => h1 ha) (fun h => h2 (h.elim (fun h => by cases h) id)))
   ·have e : (j == 0) = false := by simpa using (show j ≠ 0 by omega)
    rw [e] at h1 h2
    simp only [Bool.false_or, Bool.true_and] at h1 h2
    rw [show wrap64 ((j : Int) - 1) = ((j - 1 : Nat) : Int) by rw [wrap_small (by omega) (by omega)]; omega, rdl_nat]
    have hrow2 := hr _ (getD_mem ([] : List Int) (show j - 1 < C.length by omega))
    refine ev_pos (by omega) (ev_pos (by omega) (ev_pos (by omega) (Ev.bind (compareS_ev _ _ (by omega) (by omega)) ?_)))
    cases hc : slt (C.getD (j - 1) []) (C.getD j []) with
    | true =>
     have e2 : decide (scmp (C.getD (j - 1) []) (C.getD j []) ≥ 0) = false := decide_eq_false (by have := (scmp_neg _ _).2 hc; omega)
     rw [e2]
     rw [hc] at h1 h2
     simp only [Bool.true_and] at h1 h2
     exact key false hj hs v (fun _ ha => h1 ha) (fun h => h2 (h.elim (fun h => by cases h) id))
    | false =>
     have e2 : decide (scmp (C.getD (j - 1) []) (C.getD j []) ≥ 0) = true := decide_eq_true (by
      have : ¬ scmp (C.getD (j - 1) []) (C.getD j []) < 0 := fun h => by rw [(scmp_neg _ _).1 h] at hc; cases hc
      omega)
     rw [e2]
     rw [hc] at h2
     exact key true hj hs v (fun h => by cases h) (fun _ => h2 rfl)
 refine ev_all_then (fun (i : Nat) k => z58.l0 k C (C.length : Int) (i : Int) C) (fun i => okAt C (C.take i) i) (decide (C.length ≤ 48)) C.length (fun j hj hall hp r hr' => ?_) (fun j hj hall hp => ?_) (fun _ => ?_)
 ·exact hround j hj hall r (fun _ => hr') (fun h => by rw [hp] at h; cases h)
 ·exact hround j hj hall false (fun h => by rw [hp] at h; cases h) (fun _ => rfl)
 ·refine Ev.step (fun k => z58.l0.eq_2 ..) ?_
  exact ev_neg (by omega) (ev_eq (Ev.now _) (by rw [Bool.eq_iff_iff, decide_eq_true_iff, decide_eq_true_iff]; omega))

theorem specOk_ev (C : List (List Int)) (hl : C.length ≤ 1048576) (hr : ∀ x ∈ C, x.length ≤ 1048576) : Ev (fun k => z56.f k C) (okC C) := by
 unfold z56.f okC
 have hr' : ∀ x ∈ C, x.length < 9223372036854775807 := fun x hx => by have := hr x hx; omega
 by_cases h48 : C.length ≤ 48
 ·rw [decide_eq_true h48, Bool.true_and]
  refine ev_neg (by omega) ?_
  -- the faces
  have hfaces : ∀ (j : Nat), j < C.length → ∀ v, (((faces (C.getD j [])).all fun f => decide (f ∈ C)) = true → Ev (fun k => z56.l0 k ((j + 1 : Nat) : Int) C) v) → (((faces (C.getD j [])).all fun f => decide (f ∈ C)) = false → v = false) →
    Ev (fun k => z56.l1 k (j : Int) (C.getD j []) 0 C) v := by
   intro j hj v h1 h2
   have hrow := hr _ (getD_mem ([] : List Int) hj)
   by_cases hlen : 1 < (C.getD j []).length
   ·have hstep : ∀ (m : Nat), m < (C.getD j []).length → ∀ u, (drp (C.getD j []) m ∈ C → Ev (fun k => z56.l1 k (j : Int) (C.getD j []) ((m + 1 : Nat) : Int) C) u) → (drp (C.getD j []) m ∉ C → u = false) → Ev (fun k => z56.l1 k (j : Int) (C.getD j []) (m : Int) C) u := by
     intro m hm u g1 g2
     refine Ev.step (fun k => z56.l1.eq_2 ..) ?_
     refine ev_pos (by omega) ?_
     refine Ev.step (fun k => z56.j3.eq_2 ..) ?_
     refine ev_pos (decide_eq_true (by omega)) (Ev.bind (ev_const (drop_val _ m hm (by omega))) (Ev.bind (find_ev C _ (by omega) hr') ?_))
     by_cases hin : drp (C.getD j []) m ∈ C
     ·rw [wrap_succ (by omega)]
      exact ev_neg (fun h => (idx_neg C _).1 h hin) (g1 hin)
     ·rw [g2 hin]
      exact ev_pos ((idx_neg C _).2 hin) (Ev.now _)
    have hall := ev_all_then (fun (m : Nat) k => (z56.l1 k (j : Int) (C.getD j []) (m : Int) C).map fun b => b) (fun m => decide (drp (C.getD j []) m ∈ C)) v (C.getD j []).length ?_ ?_ ?_
    ·have e : ((List.range (C.getD j []).length).all (fun m => decide (drp (C.getD j []) m ∈ C)) && v) = v := by
      cases v with
      | false => simp
      | true =>
       have : ((faces (C.getD j [])).all fun f => decide (f ∈ C)) = true := by
        cases hc : (faces (C.getD j [])).all fun f => decide (f ∈ C) with
        | true => rfl
        | false => have := h2 hc; cases this
       unfold faces at this
       rw [if_pos hlen, List.all_map] at this
       rw [Bool.and_true]; exact this
     rw [e] at hall
     simpa using hall
    ·intro m hm _ hp u hu
     simp only [Option.map_id'] at hu ⊢
     exact hstep m hm u (fun _ => hu) (fun h => absurd (of_decide_eq_true hp) h)
    ·intro m hm _ hp
     simp only [Option.map_id']
     exact hstep m hm false (fun h => absurd h (of_decide_eq_false hp)) (fun _ => rfl)
    ·intro hall
     simp only [Option.map_id']
     have hfa : ((faces (C.getD j [])).all fun f => decide (f ∈ C)) = true := by
      unfold faces
      rw [if_pos hlen, List.all_map, List.all_eq_true]
      exact fun m hm => hall m (List.mem_range.1 hm)
     refine Ev.step (fun k => z56.l1.eq_2 ..) ?_
     refine ev_neg (by omega) ?_
     refine Ev.step (fun k => z56.j3.eq_2 ..) ?_
     rw [wrap_succ (i := j) (by omega)]
     exact ev_neg (by decide) (h1 hfa)
   ·have hfa : ((faces (C.getD j [])).all fun f => decide (f ∈ C)) = true := by
     unfold faces; rw [if_neg hlen]; rfl
    refine Ev.step (fun k => z56.l1.eq_2 ..) ?_
    by_cases h0 : 0 < (C.getD j []).length
    ·refine ev_pos (by omega) ?_
     refine Ev.step (fun k => z56.j3.eq_2 ..) ?_
     rw [wrap_succ (i := j) (by omega)]
     exact ev_neg (by rw [decide_eq_false (by omega)]; decide) (h1 hfa)
    ·refine ev_neg (by omega) ?_
     refine Ev.step (fun k => z56.j3.eq_2 ..) ?_
     rw [wrap_succ (i := j) (by omega)]
     exact ev_neg (by decide) (h1 hfa)
  have hround : ∀ (j : Nat), j < C.length → ∀ v, (okAt C C j = true → Ev (fun k => z56.l0 k ((j + 1 : Nat) : Int) C) v) → (okAt C C j = false → v = false) → Ev (fun k => z56.l0 k (j : Int) C) v := by
   intro j hj v h1 h2
   have hrow := hr _ (getD_mem ([] : List Int) hj)
   have key := hfaces j hj v
   have stop : v = false → Ev (fun k => z56.j1 k (j : Int) (C.getD j []) true C) v := fun e => by
    refine Ev.step (fun k => z56.j1.eq_2 ..) ?_
    rw [e]; exact ev_pos rfl (Ev.now _)
   have go : Ev (fun k => z56.l1 k (j : Int) (C.getD j []) 0 C) v → Ev (fun k => z56.j1 k (j : Int) (C.getD j []) false C) v := fun e => by
    refine Ev.step (fun k => z56.j1.eq_2 ..) ?_
    exact ev_neg (by decide) e
   refine Ev.step (fun k => z56.l0.eq_2 ..) ?_
   rw [rdl_nat]
   refine ev_pos (by omega) (ev_pos (by omega) (Ev.bind (specSimplex_ev _ (by omega)) ?_))
   unfold okAt at h1 h2
   cases hi : isSimplex (C.getD j []) with
   | false => rw [hi] at h2; exact ev_neg (by decide) (stop (h2 rfl))
   | true =>
    rw [hi] at h1 h2
    refine ev_pos rfl ?_
    rcases Nat.eq_zero_or_pos j with h0 | h0
    ·have e : (j == 0) = true := by simpa using h0
     rw [e] at h1 h2
     simp only [Bool.true_or, Bool.true_and] at h1 h2
     exact ev_neg (by omega) (go (key h1 h2))
    ·have e : (j == 0) = false := by simpa using (show j ≠ 0 by omega)
     rw [e] at h1 h2
     simp only [Bool.false_or, Bool.true_and] at h1 h2
     have hrow2 := hr _ (getD_mem ([] : List Int) (show j - 1 < C.length by omega))
     rw [show wrap64 ((j : Int) - 1) = ((j - 1 : Nat) : Int) by rw [wrap_small (by omega) (by omega)]; omega, rdl_nat]
     refine ev_pos (by omega) (ev_pos (by omega) (ev_pos (by omega) (Ev.bind (before_ev _ _ (by omega)) ?_)))
     cases hc : slt (C.getD (j - 1) []) (C.getD j []) with
     | true =>
      rw [hc] at h1 h2
      simp only [Bool.true_and] at h1 h2
      exact go (key h1 h2)
     | false => rw [hc] at h2; exact stop (h2 rfl)
  refine ev_all (fun (i : Nat) k => z56.l0 k (i : Int) C) (okAt C C) C.length (fun j hj hp r hr' => ?_) (fun j hj hp => ?_) ?_
  ·exact hround j hj r (fun _ => hr') (fun h => by rw [hp] at h; cases h)
  ·exact hround j hj false (fun h => by rw [hp] at h; cases h) (fun _ => rfl)
  ·refine Ev.step (fun k => z56.l0.eq_2 ..) ?_
   exact ev_neg (by omega) (Ev.now _)
 ·rw [decide_eq_false h48, Bool.false_and]
  exact ev_pos (by omega) (Ev.now _)
end Go.Proofs.Ytipkciildhghiaa.B

set_option linter.unusedVariables false
set_option linter.unusedSimpArgs false
namespace Go.Proofs.Ytipkciildhghiaa.B
open Go.RowKit Go.Proofs.YtipkciildhghiaaW.PrintWords
open SimT

section
variable {C : List (List Int)} (hl : C.length ≤ 1048576) (hr : ∀ x ∈ C, x.length ≤ 1048576)
include hl hr
omit hl hr in
theorem size_val (l : List Int) : z63.f l = some (l.length : Int) := rfl
omit hl hr in
def ofDim (C : List (List Int)) (d : Int) : List Int := filt (fun i => decide (((C.getD i []).length : Int) = d + 1)) C.length
omit hr in
theorem simplicesOf_ev {d : Int} (h0 : -1000 ≤ d) (h1 : d ≤ 1000) : Ev (fun k => z93.f k C d) (ofDim C d) := by
 unfold z93.f
 refine ev_filt (fun (s : List Int) (j : Nat) k => z93.l0 k d s C (C.length : Int) (j : Int)) (fun i => decide (((C.getD i []).length : Int) = d + 1)) C.length (fun j s hj hs hp r hr' => ?_) (fun j s hj hs hp r hr' => ?_) _ ?_
 ·refine Ev.step (fun k => z93.l0.eq_2 ..) ?_
  rw [rdl_nat, wrap_succ (by omega), wrap_small (x := d + 1) (by omega) (by omega)]
  exact ev_pos (by omega) (ev_pos (by omega) (ev_pos (by omega) (Ev.bind (ev_const (size_val _)) (ev_pos (of_decide_eq_true hp) (ev_pos (by omega) hr')))))
 ·refine Ev.step (fun k => z93.l0.eq_2 ..) ?_
  rw [rdl_nat, wrap_succ (by omega), wrap_small (x := d + 1) (by omega) (by omega)]
  exact ev_pos (by omega) (ev_pos (by omega) (ev_pos (by omega) (Ev.bind (ev_const (size_val _)) (ev_neg (of_decide_eq_false hp) hr'))))
 ·refine Ev.step (fun k => z93.l0.eq_2 ..) ?_
  exact ev_neg (by omega) (Ev.now _)
omit hr in
theorem specOf_ev {d : Int} (h0 : -1000 ≤ d) (h1 : d ≤ 1000) : Ev (fun k => z89.f k C d) (ofDim C d) := by
 unfold z89.f
 refine ev_filt (fun (s : List Int) (j : Nat) k => z89.l0 k d s (j : Int) C) (fun i => decide (((C.getD i []).length : Int) = d + 1)) C.length (fun j s hj hs hp r hr' => ?_) (fun j s hj hs hp r hr' => ?_) _ ?_
 ·refine Ev.step (fun k => z89.l0.eq_2 ..) ?_
  rw [rdl_nat, wrap_succ (by omega), wrap_small (x := d + 1) (by omega) (by omega)]
  exact ev_pos (by omega) (ev_pos (by omega) (ev_pos (of_decide_eq_true hp) (ev_pos (by omega) hr')))
 ·refine Ev.step (fun k => z89.l0.eq_2 ..) ?_
  rw [rdl_nat, wrap_succ (by omega), wrap_small (x := d + 1) (by omega) (by omega)]
  exact ev_pos (by omega) (ev_pos (by omega) (ev_neg (of_decide_eq_false hp) hr'))
 ·refine Ev.step (fun k => z89.l0.eq_2 ..) ?_
  exact ev_neg (by omega) (Ev.now _)
omit hl hr in
def faceIdx (C : List (List Int)) (s : List Int) : List Int := (faces s).map (idx C)
theorem faceIndices_ev (hs : Srt C) {i : Nat} (hi : i < C.length) : Ev (fun k => z138.f k C (i : Int)) (faceIdx C (C.getD i [])) := by
 unfold z138.f
 have hrow := hr _ (getD_mem ([] : List Int) hi)
 rw [rdl_nat]
 refine ev_pos (by omega) (ev_pos (by omega) (Ev.bind (facesOf_ev _ (by omega)) ?_))
 have hfl := faces_len (C.getD i [])
 have e : faceIdx C (C.getD i []) = (List.range (faces (C.getD i [])).length).map fun j => idx C ((faces (C.getD i [])).getD j []) := map_range [] (idx C) _
 rw [e]
 refine ev_map (fun (s : List Int) (j : Nat) k => z138.l0 k s (faces (C.getD i [])) ((faces (C.getD i [])).length : Int) (j : Int) C) (fun j => idx C ((faces (C.getD i [])).getD j [])) (faces (C.getD i [])).length (fun j s hj hs' r hr' => ?_) _ ?_
 ·refine Ev.step (fun k => z138.l0.eq_2 ..) ?_
  have hsl : s.length = j := by rw [hs']; simp
  have hf := faces_row (getD_mem ([] : List Int) hj)
  rw [rdl_nat, wrap_succ (by omega)]
  exact ev_pos (by omega) (ev_pos (by omega) (ev_pos (by omega) (Ev.bind (indexOf_ev C _ (by omega) (fun x hx => by have := hr x hx; omega) (by omega) hs) (ev_pos (by omega) hr'))))
 ·refine Ev.step (fun k => z138.l0.eq_2 ..) ?_
  exact ev_neg (by omega) (Ev.now _)
theorem specFaces_ev {i : Nat} (hi : i < C.length) : Ev (fun k => z135.f k C (i : Int)) (faceIdx C (C.getD i [])) := by
 unfold z135.f
 have hrow := hr _ (getD_mem ([] : List Int) hi)
 rw [rdl_nat]
 refine ev_pos (by omega) (ev_pos (by omega) ?_)
 by_cases h1 : 1 < (C.getD i []).length
 ·have e : faceIdx C (C.getD i []) = (List.range (C.getD i []).length).map fun j => idx C (drp (C.getD i []) j) := by
   unfold faceIdx faces
   rw [if_pos h1, List.map_map]; rfl
  rw [e]
  refine ev_map (fun (s : List Int) (j : Nat) k => z135.l0 k (C.getD i []) s (j : Int) C) (fun j => idx C (drp (C.getD i []) j)) (C.getD i []).length (fun j s hj hs' r hr' => ?_) _ ?_
  ·refine Ev.step (fun k => z135.l0.eq_2 ..) ?_
   have hsl : s.length = j := by rw [hs']; simp
   refine ev_pos (by omega) ?_
   refine Ev.step (fun k => z135.j1.eq_2 ..) ?_
   rw [wrap_succ (by omega)]
   exact ev_pos (decide_eq_true (by omega)) (Ev.bind (ev_const (drop_val _ j hj (by omega))) (Ev.bind (find_ev C _ (by omega) (fun x hx => by have := hr x hx; omega)) (ev_pos (by omega) hr')))
  ·refine Ev.step (fun k => z135.l0.eq_2 ..) ?_
   refine ev_neg (by omega) ?_
   refine Ev.step (fun k => z135.j1.eq_2 ..) ?_
   exact ev_neg (by decide) (Ev.now _)
 ·have e : faceIdx C (C.getD i []) = [] := by
   unfold faceIdx faces; rw [if_neg h1]; rfl
  rw [e]
  refine Ev.step (fun k => z135.l0.eq_2 ..) ?_
  by_cases h2 : 0 < (C.getD i []).length
  ·refine ev_pos (by omega) ?_
   refine Ev.step (fun k => z135.j1.eq_2 ..) ?_
   exact ev_neg (by rw [decide_eq_false (by omega)]; decide) (Ev.now _)
  ·refine ev_neg (by omega) ?_
   refine Ev.step (fun k => z135.j1.eq_2 ..) ?_
   exact ev_neg (by decide) (Ev.now _)
end
end Go.Proofs.Ytipkciildhghiaa.B

set_option linter.unusedVariables false
set_option linter.unusedSimpArgs false
namespace Go.Proofs.Ytipkciildhghiaa.B.LinT

abbrev Vec := Nat → Int
theorem dvd_add' {p a b : Int} (h : p ∣ a) (h' : p ∣ b) : p ∣ a + b := Int.dvd_add h h'
theorem dvd_mul_l {p a : Int} (c : Int) (h : p ∣ a) : p ∣ c * a := Int.dvd_trans h (Int.dvd_mul_left c a)
def Zr (p : Int) (n : Nat) (v : Vec) : Prop := ∀ i, i < n → p ∣ v i
structure Sub (p : Int) (n : Nat) (S : Vec → Prop) : Prop where
 zero : ∀ v, Zr p n v → S v
 add : ∀ v w, S v → S w → S (fun i => v i + w i)
 smul : ∀ (c : Int) v, S v → S (fun i => c * v i)
theorem Sub.congr {p : Int} {n : Nat} {S : Vec → Prop} (h : Sub p n S) {v w : Vec} (hv : S v) (e : ∀ i, i < n → p ∣ w i - v i) : S w := by
 have := h.add v (fun i => w i - v i) hv (h.zero _ e)
 have e2 : (fun i => v i + (w i - v i)) = w := by funext i; omega
 rwa [e2] at this
theorem Sub.sub {p : Int} {n : Nat} {S : Vec → Prop} (h : Sub p n S) {v w : Vec} (hv : S v) (hw : S w) : S (fun i => v i - w i) := by
 have := h.add v _ hv (h.smul (-1) w hw)
 have e2 : (fun i => v i + -1 * w i) = fun i => v i - w i := by funext i; omega
 rwa [e2] at this
def Ld (p : Int) (n : Nat) (v : Vec) (i : Nat) : Prop := i < n ∧ ¬ p ∣ v i ∧ ∀ j, j < i → p ∣ v j
theorem least' {q : Nat → Prop} (h : ∃ j, q j) : ∃ j, q j ∧ ∀ m, m < j → ¬ q m := by
 obtain ⟨j, hj⟩ := h
 induction j using Nat.strongRecOn with
 | _ j ih =>
  by_cases hm : ∃ m, m < j ∧ q m
  ·obtain ⟨m, h1, h2⟩ := hm
   exact ih m h1 h2
  ·exact ⟨j, hj, fun m h1 h2 => hm ⟨m, h1, h2⟩⟩
theorem ld_of {p : Int} {n : Nat} {v : Vec} (h : ¬ Zr p n v) : ∃ i, Ld p n v i := by
 have : ∃ i, i < n ∧ ¬ p ∣ v i := by
  refine Classical.byContradiction fun hc => h fun i hi => Classical.byContradiction fun hd => hc ⟨i, hi, hd⟩
 obtain ⟨i, ⟨h1, h2⟩, h3⟩ := least' this
 exact ⟨i, h1, h2, fun j hj => Classical.byContradiction fun hd => h3 j hj ⟨by omega, hd⟩⟩
theorem ld_unique {p : Int} {n : Nat} {v : Vec} {i j : Nat} (h : Ld p n v i) (h' : Ld p n v j) : i = j := by
 rcases Nat.lt_trichotomy i j with hl | he | hl
 ·exact absurd (h'.2.2 i hl) h.2.1
 ·exact he
 ·exact absurd (h.2.2 j hl) h'.2.1
theorem ld_nz {p : Int} {n : Nat} {v : Vec} {i : Nat} (h : Ld p n v i) : ¬ Zr p n v := fun hz => h.2.1 (hz i h.1)
def Pl (p : Int) (n : Nat) (S : Vec → Prop) (i : Nat) : Prop := ∃ v, S v ∧ Ld p n v i
open Classical in
noncomputable def cnt (Q : Nat → Prop) : Nat → Nat
 | 0 => 0
 | n + 1 => cnt Q n + (if Q n then 1 else 0)
theorem cnt_le (Q : Nat → Prop) : ∀ n, cnt Q n ≤ n
 | 0 => Nat.le_refl _
 | n + 1 => by have := cnt_le Q n; simp only [cnt]; split <;> omega
theorem cnt_mono {Q R : Nat → Prop} : ∀ n, (∀ i, i < n → Q i → R i) → cnt Q n ≤ cnt R n
 | 0, _ => Nat.le_refl _
 | n + 1, h => by
  have ih := cnt_mono n (fun i hi => h i (by omega))
  have hn := h n (by omega)
  simp only [cnt]
  by_cases hq : Q n
  ·rw [if_pos hq, if_pos (hn hq)]; omega
  ·rw [if_neg hq]; split <;> omega
theorem cnt_congr {Q R : Nat → Prop} (n : Nat) (h : ∀ i, i < n → (Q i ↔ R i)) : cnt Q n = cnt R n :=
 Nat.le_antisymm (cnt_mono n fun i hi => (h i hi).1) (cnt_mono n fun i hi => (h i hi).2)
theorem cnt_eq_sub {Q R : Nat → Prop} : ∀ n, (∀ i, i < n → Q i → R i) → cnt Q n = cnt R n → ∀ i, i < n → R i → Q i
 | 0, _, _, i, hi, _ => by omega
 | n + 1, h, e, i, hi, hr => by
  have hm := cnt_mono n (fun i hi => h i (by omega))
  have hn := h n (by omega)
  simp only [cnt] at e
  by_cases hq : Q n
  ·rw [if_pos hq, if_pos (hn hq)] at e
   rcases Nat.lt_or_ge i n with hl | hg
   ·exact cnt_eq_sub n (fun i hi => h i (by omega)) (by omega) i hl hr
   ·have : i = n := by omega
    subst this; exact hq
  ·rw [if_neg hq] at e
   have hnr : ¬ R n := fun hR => by rw [if_pos hR] at e; omega
   rw [if_neg hnr] at e
   rcases Nat.lt_or_ge i n with hl | hg
   ·exact cnt_eq_sub n (fun i hi => h i (by omega)) (by omega) i hl hr
   ·have : i = n := by omega
    subst this; exact absurd hr hnr
theorem cnt_insert {Q R : Nat → Prop} (i0 : Nat) : ∀ n, i0 < n → ¬ Q i0 → (∀ i, i < n → (R i ↔ Q i ∨ i = i0)) → cnt R n = cnt Q n + 1
 | 0, h, _, _ => by omega
 | n + 1, h, hq, he => by
  simp only [cnt]
  rcases Nat.lt_or_ge i0 n with hl | hg
  ·rw [cnt_insert i0 n hl hq (fun i hi => he i (by omega))]
   have e := he n (by omega)
   have e2 : R n ↔ Q n := by
    rw [e]
    constructor
    ·rintro (h | h)
     ·exact h
     ·omega
    ·exact Or.inl
   by_cases hqn : Q n
   ·rw [if_pos hqn, if_pos (e2.2 hqn)]
   ·rw [if_neg hqn, if_neg (fun h => hqn (e2.1 h))]
  ·have : i0 = n := by omega
   subst this
   rw [if_neg hq, if_pos ((he i0 (by omega)).2 (.inr rfl)), cnt_congr (Q := R) (R := Q) i0 (fun i hi => by
    rw [he i (by omega)]; constructor
    ·rintro (h | h)
     ·exact h
     ·omega
    ·exact Or.inl)]
theorem cnt_split (Q : Nat → Prop) (a : Nat) : ∀ b, cnt Q (a + b) = cnt Q a + cnt (fun j => Q (a + j)) b
 | 0 => by simp [cnt]
 | b + 1 => by
  rw [show a + (b + 1) = (a + b) + 1 by omega]
  simp only [cnt]
  rw [cnt_split Q a b]; omega
theorem cnt_all (Q : Nat → Prop) : ∀ n, (∀ i, i < n → Q i) → cnt Q n = n
 | 0, _ => rfl
 | n + 1, h => by simp only [cnt]; rw [cnt_all Q n (fun i hi => h i (by omega)), if_pos (h n (by omega))]
theorem cnt_none (Q : Nat → Prop) : ∀ n, (∀ i, i < n → ¬ Q i) → cnt Q n = 0
 | 0, _ => rfl
 | n + 1, h => by simp only [cnt]; rw [cnt_none Q n (fun i hi => h i (by omega)), if_neg (h n (by omega))]
noncomputable def dim (p : Int) (n : Nat) (S : Vec → Prop) : Nat := cnt (Pl p n S) n
theorem dim_le (p : Int) (n : Nat) (S : Vec → Prop) : dim p n S ≤ n := cnt_le _ _
theorem dim_mono {p : Int} {n : Nat} {S T : Vec → Prop} (h : ∀ v, S v → T v) : dim p n S ≤ dim p n T :=
 cnt_mono n fun i _ ⟨v, h1, h2⟩ => ⟨v, h v h1, h2⟩
theorem dim_congr {p : Int} {n : Nat} {S T : Vec → Prop} (h : ∀ v, S v ↔ T v) : dim p n S = dim p n T :=
 Nat.le_antisymm (dim_mono fun v => (h v).1) (dim_mono fun v => (h v).2)

def Pr (p : Int) : Prop := (¬ p ∣ 1) ∧ ∀ a, ¬ p ∣ a → ∃ b, p ∣ a * b - 1
theorem not_dvd_mul {p a b : Int} (hp : Pr p) (h : ¬ p ∣ a) (h' : ¬ p ∣ b) : ¬ p ∣ a * b := fun hd => by
 obtain ⟨c, hc⟩ := hp.2 a h
 apply h'
 obtain ⟨k, hk⟩ := hd
 obtain ⟨m, hm⟩ := hc
 exact ⟨c * k - m * b, by grind⟩
theorem reduce_to {p : Int} {n : Nat} {S : Vec → Prop} (hp : Pr p) (hS : Sub p n S) (v : Vec) : ∃ s, S s ∧ (Zr p n (fun i => v i - s i) ∨ ∃ i, Ld p n (fun i => v i - s i) i ∧ ¬ Pl p n S i) := by
 have main : ∀ (d : Nat) (v : Vec), (∀ j, j + d < n → p ∣ v j) → ∃ s, S s ∧ (Zr p n (fun i => v i - s i) ∨ ∃ i, Ld p n (fun i => v i - s i) i ∧ ¬ Pl p n S i) := by
  intro d
  induction d with
  | zero =>
   intro v hv
   refine ⟨fun _ => 0, hS.zero _ (fun i _ => Int.dvd_zero p), .inl fun i hi => ?_⟩
   simpa using hv i (by omega)
  | succ d ih =>
   intro v hv
   by_cases hz : Zr p n v
   ·refine ⟨fun _ => 0, hS.zero _ (fun i _ => Int.dvd_zero p), .inl fun i hi => ?_⟩
    simpa using hz i hi
   ·obtain ⟨i, hi⟩ := ld_of hz
    by_cases hP : Pl p n S i
    ·obtain ⟨s, hs, hl⟩ := hP
     obtain ⟨b, hb⟩ := hp.2 _ hl.2.1
     obtain ⟨t, ht, h⟩ := ih (fun j => v j - (v i * b) * s j) (fun j hj => by
      rcases Nat.lt_trichotomy j i with h1 | h1 | h1
      ·exact Int.dvd_sub (hi.2.2 j h1) (dvd_mul_l _ (hl.2.2 j h1))
      ·subst h1
       obtain ⟨k, hk⟩ := hb
       exact ⟨-(v j * k), by grind⟩
      ·have : i < n := hi.1
       exact absurd (hv i (by omega)) hi.2.1)
     refine ⟨fun j => (v i * b) * s j + t j, hS.add _ _ (hS.smul _ _ hs) ht, ?_⟩
     have e : (fun j => v j - ((v i * b) * s j + t j)) = fun j => v j - (v i * b) * s j - t j := by funext j; omega
     rw [e]; exact h
    ·refine ⟨fun _ => 0, hS.zero _ (fun i _ => Int.dvd_zero p), .inr ⟨i, ?_, hP⟩⟩
     simpa using hi
 exact main n v (fun j hj => by omega)
theorem sub_of_dim {p : Int} {n : Nat} {S T : Vec → Prop} (hp : Pr p) (hS : Sub p n S) (hT : Sub p n T) (h : ∀ v, S v → T v) (e : dim p n S = dim p n T) : ∀ v, T v → S v := by
 intro v hv
 obtain ⟨s, hs, hz | ⟨i, hi, hP⟩⟩ := reduce_to hp hS v
 ·exact hS.congr hs hz
 ·exact absurd (cnt_eq_sub n (fun i _ ⟨v, h1, h2⟩ => ⟨v, h v h1, h2⟩) e i hi.1 ⟨_, hT.sub hv (h s hs), hi⟩) hP
def Ins (p : Int) (n : Nat) (S : Vec → Prop) (x v : Vec) : Prop := ∃ (c : Int) (s : Vec), S s ∧ ∀ i, i < n → p ∣ v i - (c * x i + s i)
theorem Ins.isSub {p : Int} {n : Nat} {S : Vec → Prop} (hS : Sub p n S) (x : Vec) : Sub p n (Ins p n S x) where
 zero v hv := ⟨0, fun _ => 0, hS.zero _ (fun i _ => Int.dvd_zero p), fun i hi => by simpa using hv i hi⟩
 add := by
  rintro v w ⟨c, s, hs, h⟩ ⟨c', s', hs', h'⟩
  refine ⟨c + c', _, hS.add _ _ hs hs', fun i hi => ?_⟩
  have := Int.dvd_add (h i hi) (h' i hi)
  have e : v i + w i - ((c + c') * x i + (s i + s' i)) = (v i - (c * x i + s i)) + (w i - (c' * x i + s' i)) := by grind
  rw [e]; exact this
 smul := by
  rintro d v ⟨c, s, hs, h⟩
  refine ⟨d * c, _, hS.smul d _ hs, fun i hi => ?_⟩
  have := dvd_mul_l d (h i hi)
  have e : d * v i - (d * c * x i + d * s i) = d * (v i - (c * x i + s i)) := by grind
  rw [e]; exact this
theorem Ins.old {p : Int} {n : Nat} {S : Vec → Prop} {x v : Vec} (h : S v) : Ins p n S x v := ⟨0, v, h, fun i _ => by simp⟩
theorem Ins.new {p : Int} {n : Nat} {S : Vec → Prop} (hS : Sub p n S) {x : Vec} : Ins p n S x x := ⟨1, fun _ => 0, hS.zero _ (fun i _ => Int.dvd_zero p), fun i _ => by simp⟩
theorem Ins.least {p : Int} {n : Nat} {S T : Vec → Prop} (hT : Sub p n T) {x v : Vec} (h : ∀ v, S v → T v) (hx : T x) (hv : Ins p n S x v) : T v := by
 obtain ⟨c, s, hs, he⟩ := hv
 exact hT.congr (hT.add _ _ (hT.smul c _ hx) (h s hs)) he
theorem dim_ins {p : Int} {n : Nat} {S : Vec → Prop} (hp : Pr p) (hS : Sub p n S) {x : Vec} (hx : ¬ S x) : dim p n (Ins p n S x) = dim p n S + 1 := by
 obtain ⟨s, hs, hz | ⟨i0, hi, hP⟩⟩ := reduce_to hp hS x
 ·exact absurd (hS.congr hs hz) hx
 refine cnt_insert i0 n hi.1 hP (fun i hin => ⟨?_, ?_⟩)
 ·rintro ⟨v, ⟨c, t, ht, he⟩, hl⟩
  by_cases hc : p ∣ c
  ·left
   refine ⟨v, hS.congr ht (fun j hj => ?_), hl⟩
   have := Int.dvd_add (he j hj) (Int.dvd_mul_of_dvd_left (c := x j) hc)
   have e : v j - t j = v j - (c * x j + t j) + c * x j := by omega
   rw [e]; exact this
  ·-- v = c (x - s) + (c s + t)
   have hu : S (fun j => c * s j + t j) := hS.add _ _ (hS.smul c _ hs) ht
   have hv : ∀ j, j < n → p ∣ v j - (c * (x j - s j) + (c * s j + t j)) := fun j hj => by
    have e : v j - (c * (x j - s j) + (c * s j + t j)) = v j - (c * x j + t j) := by grind
    rw [e]; exact he j hj
   generalize hdef : (fun j => c * s j + t j) = u at hu
   have hv : ∀ j, j < n → p ∣ v j - (c * (x j - s j) + u j) := fun j hj => by rw [← hdef]; exact hv j hj
   rcases Nat.lt_trichotomy i i0 with h1 | h1 | h1
   ·left
    refine ⟨u, hu, hin, fun hd => hl.2.1 ?_, fun j hj => ?_⟩
    ·have h2 := hi.2.2 i h1
     have := Int.dvd_add (hv i hin) (Int.dvd_add (dvd_mul_l c h2) hd)
     have e : v i = v i - (c * (x i - s i) + u i) + (c * (x i - s i) + u i) := by omega
     rw [e]; exact this
    ·have h2 := hi.2.2 j (by omega)
     have h3 := hl.2.2 j hj
     have := Int.dvd_sub h3 (Int.dvd_add (hv j (by omega)) (dvd_mul_l c h2))
     have e : u j = v j - (v j - (c * (x j - s j) + u j) + c * (x j - s j)) := by omega
     rw [e]; exact this
   ·exact .inr h1
   ·exfalso
    -- u has the lead i0
    refine hP ⟨u, hu, hi.1, fun hd => ?_, fun j hj => ?_⟩
    ·have h3 := hl.2.2 i0 h1
     have h4 : p ∣ c * (x i0 - s i0) := by
      have := Int.dvd_sub h3 (Int.dvd_add (hv i0 hi.1) hd)
      have e : c * (x i0 - s i0) = v i0 - (v i0 - (c * (x i0 - s i0) + u i0) + u i0) := by omega
      rw [e]; exact this
     exact not_dvd_mul hp hc hi.2.1 h4
    ·have h2 := hi.2.2 j hj
     have h3 := hl.2.2 j (by omega)
     have := Int.dvd_sub h3 (Int.dvd_add (hv j (by have := hi.1; omega)) (dvd_mul_l c h2))
     have e : u j = v j - (v j - (c * (x j - s j) + u j) + c * (x j - s j)) := by omega
     rw [e]; exact this
 ·rintro (⟨v, hv, hl⟩ | rfl)
  ·exact ⟨v, Ins.old hv, hl⟩
  ·exact ⟨_, (Ins.isSub hS x).sub (Ins.new hS) (Ins.old hs), hi⟩
def Span (p : Int) (n : Nat) : List Vec → Vec → Prop
 | [] => Zr p n
 | x :: L => Ins p n (Span p n L) x
theorem zr_sub (p : Int) (n : Nat) : Sub p n (Zr p n) where
 zero _ h := h
 add _ _ h h' i hi := Int.dvd_add (h i hi) (h' i hi)
 smul c _ h i hi := dvd_mul_l c (h i hi)
theorem span_sub (p : Int) (n : Nat) : ∀ L, Sub p n (Span p n L)
 | [] => zr_sub p n
 | x :: L => Ins.isSub (span_sub p n L) x
theorem span_mem {p : Int} {n : Nat} : ∀ {L : List Vec} {x : Vec}, x ∈ L → Span p n L x
 | y :: L, x, h => by
  rcases List.mem_cons.1 h with rfl | h
  ·exact Ins.new (span_sub p n L)
  ·exact Ins.old (span_mem h)
theorem span_least {p : Int} {n : Nat} {T : Vec → Prop} (hT : Sub p n T) : ∀ {L : List Vec} {v : Vec}, (∀ x, x ∈ L → T x) → Span p n L v → T v
 | [], v, _, hv => hT.zero v hv
 | y :: L, v, h, hv => Ins.least hT (fun v hv => span_least hT (fun x hx => h x (List.mem_cons_of_mem _ hx)) hv) (h y List.mem_cons_self) hv
theorem span_mono {p : Int} {n : Nat} {L M : List Vec} (h : ∀ x, x ∈ L → Span p n M x) {v : Vec} (hv : Span p n L v) : Span p n M v := span_least (span_sub p n M) h hv
def Indep (p : Int) (n : Nat) : List Vec → Prop
 | [] => True
 | x :: L => ¬ Span p n L x ∧ Indep p n L
theorem dim_zero (p : Int) (n : Nat) : dim p n (Zr p n) = 0 := cnt_none _ n (fun i _ ⟨_, h1, h2⟩ => ld_nz h2 h1)
theorem dim_indep {p : Int} {n : Nat} (hp : Pr p) : ∀ {L : List Vec}, Indep p n L → dim p n (Span p n L) = L.length
 | [], _ => dim_zero p n
 | x :: L, h => by
  have := dim_ins hp (span_sub p n L) h.1
  simp only [Span, List.length_cons]
  rw [this, dim_indep hp h.2]
theorem ins_eq {p : Int} {n : Nat} {S : Vec → Prop} (hS : Sub p n S) {x : Vec} (hx : S x) (v : Vec) : Ins p n S x v ↔ S v :=
 ⟨fun h => Ins.least hS (fun _ h => h) hx h, Ins.old⟩
theorem dim_span_le {p : Int} {n : Nat} (hp : Pr p) : ∀ (L : List Vec), dim p n (Span p n L) ≤ L.length
 | [] => by rw [show Span p n [] = Zr p n from rfl, dim_zero]; exact Nat.le_refl _
 | x :: L => by
  have ih := dim_span_le (n := n) hp L
  simp only [Span, List.length_cons]
  by_cases hx : Span p n L x
  ·rw [dim_congr (ins_eq (span_sub p n L) hx)]; omega
  ·rw [dim_ins hp (span_sub p n L) hx]; omega
theorem indep_of_dim {p : Int} {n : Nat} (hp : Pr p) : ∀ {L : List Vec}, dim p n (Span p n L) = L.length → Indep p n L
 | [], _ => trivial
 | x :: L, h => by
  have ih := dim_span_le (n := n) hp L
  simp only [Span, List.length_cons] at h
  by_cases hx : Span p n L x
  ·rw [dim_congr (ins_eq (span_sub p n L) hx)] at h; omega
  ·rw [dim_ins hp (span_sub p n L) hx] at h
   exact ⟨hx, indep_of_dim hp (by omega)⟩

def Fst (p : Int) (a : Nat) (U : Vec → Prop) (v : Vec) : Prop := ∃ u, U u ∧ ∀ i, i < a → p ∣ v i - u i
def behind (a : Nat) (w : Vec) : Vec := fun i => if i < a then 0 else w (i - a)
def Snd (a : Nat) (U : Vec → Prop) (w : Vec) : Prop := U (behind a w)
theorem fst_sub {p : Int} {a b : Nat} {U : Vec → Prop} (hU : Sub p (a + b) U) : Sub p a (Fst p a U) where
 zero v hv := ⟨fun _ => 0, hU.zero _ (fun _ _ => Int.dvd_zero p), fun i hi => by simpa using hv i hi⟩
 add := by
  rintro v w ⟨u, hu, h⟩ ⟨t, ht, h'⟩
  refine ⟨_, hU.add _ _ hu ht, fun i hi => ?_⟩
  have e : v i + w i - (u i + t i) = (v i - u i) + (w i - t i) := by omega
  rw [e]; exact Int.dvd_add (h i hi) (h' i hi)
 smul := by
  rintro c v ⟨u, hu, h⟩
  refine ⟨_, hU.smul c _ hu, fun i hi => ?_⟩
  have e : c * v i - c * u i = c * (v i - u i) := by grind
  rw [e]; exact dvd_mul_l c (h i hi)
theorem snd_sub {p : Int} {a b : Nat} {U : Vec → Prop} (hU : Sub p (a + b) U) : Sub p b (Snd a U) where
 zero v hv := hU.zero _ (fun i hi => by
  unfold behind; split
  ·exact Int.dvd_zero p
  ·exact hv _ (by omega))
 add v w hv hw := by
  have := hU.add _ _ hv hw
  have e : (fun i => behind a v i + behind a w i) = behind a (fun i => v i + w i) := by funext i; unfold behind; split <;> simp
  unfold Snd; rw [← e]; exact this
 smul c v hv := by
  have := hU.smul c _ hv
  have e : (fun i => c * behind a v i) = behind a (fun i => c * v i) := by funext i; unfold behind; split <;> simp
  unfold Snd; rw [← e]; exact this
theorem dim_split {p : Int} {a b : Nat} {U : Vec → Prop} (hU : Sub p (a + b) U) : dim p (a + b) U = dim p a (Fst p a U) + dim p b (Snd a U) := by
 unfold dim
 rw [cnt_split]
 congr 1
 ·refine cnt_congr a (fun i hi => ⟨?_, ?_⟩)
  ·rintro ⟨v, hv, h1, h2, h3⟩
   exact ⟨v, ⟨v, hv, fun i _ => by simp⟩, hi, h2, h3⟩
  ·rintro ⟨v, ⟨u, hu, he⟩, h1, h2, h3⟩
   refine ⟨u, hu, by omega, fun hd => h2 ?_, fun j hj => ?_⟩
   ·have := Int.dvd_add (he i hi) hd
    rwa [show v i - u i + u i = v i by omega] at this
   ·have := Int.dvd_sub (h3 j hj) (he j (by omega))
    rwa [show v j - (v j - u j) = u j by omega] at this
 ·refine cnt_congr b (fun i hi => ⟨?_, ?_⟩)
  ·rintro ⟨v, hv, h1, h2, h3⟩
   refine ⟨fun j => v (a + j), hU.congr hv (fun j hj => ?_), hi, h2, fun j hj => h3 _ (by omega)⟩
   unfold behind
   split
   ·have := h3 j (by omega)
    rw [show (0 : Int) - v j = -(v j) by omega]; exact Int.dvd_neg.2 this
   ·have e : a + (j - a) = j := by omega
    show p ∣ v (a + (j - a)) - v j
    rw [e]; simp
  ·rintro ⟨w, hw, h1, h2, h3⟩
   refine ⟨_, hw, by omega, ?_, fun j hj => ?_⟩
   ·unfold behind; rw [if_neg (by omega), show a + i - a = i by omega]; exact h2
   ·unfold behind; split
    ·exact Int.dvd_zero p
    ·exact h3 _ (by omega)

theorem basis_exists {p : Int} {n : Nat} {S : Vec → Prop} (hp : Pr p) (hS : Sub p n S) : ∃ L, Indep p n L ∧ ∀ v, Span p n L v ↔ S v := by
 have main : ∀ (d : Nat) (L : List Vec), Indep p n L → (∀ x, x ∈ L → S x) → n ≤ L.length + d → ∃ L, Indep p n L ∧ ∀ v, Span p n L v ↔ S v := by
  intro d
  induction d with
  | zero =>
   intro L hL hx hd
   refine ⟨L, hL, fun v => ⟨span_least hS hx, ?_⟩⟩
   have h1 := dim_indep hp hL
   have h2 : dim p n (Span p n L) ≤ dim p n S := dim_mono fun v => span_least hS hx
   have h3 := dim_le p n S
   exact sub_of_dim hp (span_sub p n L) hS (fun v => span_least hS hx) (by omega) v
  | succ d ih =>
   intro L hL hx hd
   by_cases h : ∀ v, S v → Span p n L v
   ·exact ⟨L, hL, fun v => ⟨span_least hS hx, h v⟩⟩
   ·obtain ⟨v, hv⟩ := Classical.not_forall.1 h
    have hv1 : S v := Classical.byContradiction fun hc => hv fun h => absurd h hc
    have hv2 : ¬ Span p n L v := fun hc => hv fun _ => hc
    refine ih (v :: L) ⟨hv2, hL⟩ (fun x hxm => ?_) (by simp only [List.length_cons]; omega)
    rcases List.mem_cons.1 hxm with rfl | hm
    ·exact hv1
    ·exact hx x hm
 exact main n [] trivial (fun x hx => by cases hx) (by simp)
structure Lmap (p : Int) (a b : Nat) (f : Vec → Vec) : Prop where
 zr : ∀ v, Zr p a v → Zr p b (f v)
 add : ∀ v w j, j < b → p ∣ f (fun i => v i + w i) j - (f v j + f w j)
 smul : ∀ (c : Int) v j, j < b → p ∣ f (fun i => c * v i) j - c * f v j
theorem Lmap.sub {p : Int} {a b : Nat} {f : Vec → Vec} (hf : Lmap p a b f) (v w : Vec) (j : Nat) (hj : j < b) : p ∣ f (fun i => v i - w i) j - (f v j - f w j) := by
 have h1 := hf.add v (fun i => -1 * w i) j hj
 have h2 := hf.smul (-1) w j hj
 have e : (fun i => v i + -1 * w i) = fun i => v i - w i := by funext i; omega
 simp only [e] at h1
 have := Int.dvd_add h1 h2
 have e2 : f (fun i => v i - w i) j - (f v j - f w j) = f (fun i => v i - w i) j - (f v j + f (fun i => -1 * w i) j) + (f (fun i => -1 * w i) j - -1 * f w j) := by omega
 rw [e2]; exact this
def Img (p : Int) (b : Nat) (f : Vec → Vec) (S : Vec → Prop) (y : Vec) : Prop := ∃ v, S v ∧ ∀ j, j < b → p ∣ y j - f v j
theorem img_sub {p : Int} {a b : Nat} {f : Vec → Vec} {S : Vec → Prop} (hf : Lmap p a b f) (hS : Sub p a S) : Sub p b (Img p b f S) where
 zero y hy := ⟨fun _ => 0, hS.zero _ (fun _ _ => Int.dvd_zero p), fun j hj => Int.dvd_sub (hy j hj) (hf.zr _ (fun _ _ => Int.dvd_zero p) j hj)⟩
 add := by
  rintro y z ⟨v, hv, h⟩ ⟨w, hw, h'⟩
  refine ⟨_, hS.add _ _ hv hw, fun j hj => ?_⟩
  have := Int.dvd_sub (Int.dvd_add (h j hj) (h' j hj)) (hf.add v w j hj)
  have e : y j + z j - f (fun i => v i + w i) j = (y j - f v j + (z j - f w j)) - (f (fun i => v i + w i) j - (f v j + f w j)) := by omega
  rw [e]; exact this
 smul := by
  rintro c y ⟨v, hv, h⟩
  refine ⟨_, hS.smul c _ hv, fun j hj => ?_⟩
  have := Int.dvd_sub (dvd_mul_l c (h j hj)) (hf.smul c v j hj)
  have e : c * y j - f (fun i => c * v i) j = c * (y j - f v j) - (f (fun i => c * v i) j - c * f v j) := by grind
  rw [e]; exact this
theorem img_of {p : Int} {b : Nat} {f : Vec → Vec} {S : Vec → Prop} {v : Vec} (h : S v) : Img p b f S (f v) := ⟨v, h, fun j _ => by simp⟩
theorem span_map {p : Int} {a b : Nat} {f : Vec → Vec} (hf : Lmap p a b f) : ∀ (L : List Vec) (y : Vec), Span p b (L.map f) y ↔ Img p b f (Span p a L) y := by
 intro L y
 constructor
 ·refine span_least (img_sub hf (span_sub p a L)) (fun x hx => ?_)
  obtain ⟨v, hv, rfl⟩ := List.mem_map.1 hx
  exact img_of (span_mem hv)
 ·rintro ⟨v, hv, he⟩
  refine (span_sub p b (L.map f)).congr (v := f v) ?_ he
  have hT : Sub p a (fun v => Span p b (L.map f) (f v)) := {
   zero := fun v hv => (span_sub p b _).zero _ (hf.zr v hv)
   add := fun v w hv hw => (span_sub p b _).congr ((span_sub p b _).add _ _ hv hw) (hf.add v w)
   smul := fun c v hv => (span_sub p b _).congr ((span_sub p b _).smul c _ hv) (hf.smul c v) }
  exact span_least hT (fun x hx => span_mem (List.mem_map_of_mem hx)) hv
theorem dim_iso {p : Int} {a b : Nat} {f : Vec → Vec} {S : Vec → Prop} (hp : Pr p) (hf : Lmap p a b f) (hS : Sub p a S) (hinj : ∀ v, S v → Zr p b (f v) → Zr p a v) : dim p b (Img p b f S) = dim p a S := by
 obtain ⟨L, hL, hLS⟩ := basis_exists hp hS
 have hind : ∀ M : List Vec, (∀ x, x ∈ M → S x) → Indep p a M → Indep p b (M.map f) := by
  intro M
  induction M with
  | nil => intro _ _; trivial
  | cons x M ih =>
   intro hx hM
   refine ⟨fun hs => hM.1 ?_, ih (fun y hy => hx y (List.mem_cons_of_mem _ hy)) hM.2⟩
   obtain ⟨v, hv, he⟩ := (span_map hf M _).1 hs
   have hvS : S v := span_least hS (fun y hy => hx y (List.mem_cons_of_mem _ hy)) hv
   have hxS := hx x List.mem_cons_self
   refine (span_sub p a M).congr hv (hinj _ (hS.sub hxS hvS) (fun j hj => ?_))
   have := Int.dvd_add (hf.sub x v j hj) (he j hj)
   rwa [Int.sub_add_cancel] at this
 have h1 := dim_indep hp (hind L (fun x hx => (hLS x).1 (span_mem hx)) hL)
 have h2 := dim_indep hp hL
 rw [List.length_map] at h1
 rw [← dim_congr (S := Span p a L) hLS, h2, ← h1]
 refine dim_congr fun y => ?_
 rw [span_map hf L y]
 constructor
 ·rintro ⟨v, hv, he⟩; exact ⟨v, (hLS v).2 hv, he⟩
 ·rintro ⟨v, hv, he⟩; exact ⟨v, (hLS v).1 hv, he⟩
def graph (b : Nat) (f : Vec → Vec) (v : Vec) : Vec := fun i => if i < b then f v i else v (i - b)
theorem graph_lmap {p : Int} {a b : Nat} {f : Vec → Vec} (hf : Lmap p a b f) : Lmap p a (b + a) (graph b f) where
 zr v hv i hi := by
  unfold graph; split
  ·exact hf.zr v hv i (by assumption)
  ·exact hv _ (by omega)
 add v w j hj := by
  unfold graph; split
  ·exact hf.add v w j (by assumption)
  ·simp
 smul c v j hj := by
  unfold graph; split
  ·exact hf.smul c v j (by assumption)
  ·simp
def Inter (S T : Vec → Prop) (v : Vec) : Prop := S v ∧ T v
def Ker (p : Int) (b : Nat) (f : Vec → Vec) (v : Vec) : Prop := Zr p b (f v)
theorem inter_sub {p : Int} {n : Nat} {S T : Vec → Prop} (hS : Sub p n S) (hT : Sub p n T) : Sub p n (Inter S T) where
 zero v h := ⟨hS.zero v h, hT.zero v h⟩
 add v w h h' := ⟨hS.add v w h.1 h'.1, hT.add v w h.2 h'.2⟩
 smul c v h := ⟨hS.smul c v h.1, hT.smul c v h.2⟩
theorem ker_sub {p : Int} {a b : Nat} {f : Vec → Vec} (hf : Lmap p a b f) : Sub p a (Ker p b f) where
 zero v h := hf.zr v h
 add v w h h' j hj := by
  have := Int.dvd_add (hf.add v w j hj) (Int.dvd_add (h j hj) (h' j hj))
  rwa [Int.sub_add_cancel] at this
 smul c v h j hj := by
  have := Int.dvd_add (hf.smul c v j hj) (dvd_mul_l c (h j hj))
  rwa [Int.sub_add_cancel] at this
theorem rank_nullity {p : Int} {a b : Nat} {f : Vec → Vec} {S : Vec → Prop} (hp : Pr p) (hf : Lmap p a b f) (hS : Sub p a S) : dim p b (Img p b f S) + dim p a (Inter S (Ker p b f)) = dim p a S := by
 have hg := graph_lmap hf
 have hU := img_sub hg hS
 have h1 := dim_iso hp hg hS (fun v _ hz i hi => by
  have := hz (b + i) (by omega)
  unfold graph at this
  rwa [if_neg (by omega), show b + i - b = i by omega] at this)
 rw [← h1, dim_split hU]
 congr 1
 ·refine dim_congr fun y => ⟨?_, ?_⟩
  ·rintro ⟨v, hv, he⟩
   refine ⟨graph b f v, img_of hv, fun j hj => ?_⟩
   unfold graph; rw [if_pos hj]; exact he j hj
  ·rintro ⟨u, ⟨v, hv, he⟩, h⟩
   refine ⟨v, hv, fun j hj => ?_⟩
   have h2 := he j (by omega)
   unfold graph at h2; rw [if_pos hj] at h2
   have := Int.dvd_add (h j hj) h2
   rwa [show y j - u j + (u j - f v j) = y j - f v j by omega] at this
 ·refine dim_congr fun w => ⟨?_, ?_⟩
  ·rintro ⟨hw, hk⟩
   refine ⟨w, hw, fun j hj => ?_⟩
   unfold behind graph
   by_cases h : j < b
   ·rw [if_pos h, if_pos h]
    have := Int.dvd_neg.2 (hk j h)
    rwa [show (0 : Int) - f w j = -(f w j) by omega]
   ·rw [if_neg h, if_neg h]; simp
  ·rintro ⟨v, hv, he⟩
   have e1 : ∀ i, i < a → p ∣ w i - v i := fun i hi => by
    have := he (b + i) (by omega)
    unfold behind graph at this
    rwa [if_neg (by omega), if_neg (by omega), show b + i - b = i by omega] at this
   refine ⟨hS.congr hv e1, (ker_sub hf).congr (v := v) (fun j hj => ?_) e1⟩
   have := he j (by omega)
   unfold behind graph at this
   rw [if_pos hj, if_pos hj] at this
   have := Int.dvd_neg.2 this
   rwa [show -((0 : Int) - f v j) = f v j by omega] at this
def All (v : Vec) : Prop := True
theorem all_sub (p : Int) (n : Nat) : Sub p n All := ⟨fun _ _ => trivial, fun _ _ _ _ => trivial, fun _ _ _ => trivial⟩
theorem dim_all {p : Int} (hp : Pr p) (n : Nat) : dim p n All = n := cnt_all _ n fun i hi => by
 refine ⟨fun j => if j = i then 1 else 0, trivial, hi, ?_, fun j hj => ?_⟩
 ·simp only [if_pos]; exact hp.1
 ·simp only []; rw [if_neg (by omega)]; exact Int.dvd_zero p
def Sum (p : Int) (n : Nat) (S T : Vec → Prop) (v : Vec) : Prop := ∃ s t, S s ∧ T t ∧ ∀ i, i < n → p ∣ v i - (s i + t i)
theorem sum_sub {p : Int} {n : Nat} {S T : Vec → Prop} (hS : Sub p n S) (hT : Sub p n T) : Sub p n (Sum p n S T) where
 zero v hv := ⟨v, fun _ => 0, hS.zero v hv, hT.zero _ (fun _ _ => Int.dvd_zero p), fun i _ => by simp⟩
 add := by
  rintro v w ⟨s, t, hs, ht, h⟩ ⟨s', t', hs', ht', h'⟩
  refine ⟨_, _, hS.add _ _ hs hs', hT.add _ _ ht ht', fun i hi => ?_⟩
  have e : v i + w i - (s i + s' i + (t i + t' i)) = v i - (s i + t i) + (w i - (s' i + t' i)) := by omega
  rw [e]; exact Int.dvd_add (h i hi) (h' i hi)
 smul := by
  rintro c v ⟨s, t, hs, ht, h⟩
  refine ⟨_, _, hS.smul c _ hs, hT.smul c _ ht, fun i hi => ?_⟩
  have e : c * v i - (c * s i + c * t i) = c * (v i - (s i + t i)) := by grind
  rw [e]; exact dvd_mul_l c (h i hi)
theorem span_append {p : Int} {n : Nat} (L M : List Vec) (v : Vec) : Span p n (L ++ M) v ↔ Sum p n (Span p n L) (Span p n M) v := by
 constructor
 ·refine span_least (sum_sub (span_sub p n L) (span_sub p n M)) (fun x hx => ?_)
  rcases List.mem_append.1 hx with h | h
  ·exact ⟨x, fun _ => 0, span_mem h, (span_sub p n M).zero _ (fun _ _ => Int.dvd_zero p), fun i _ => by simp⟩
  ·exact ⟨fun _ => 0, x, (span_sub p n L).zero _ (fun _ _ => Int.dvd_zero p), span_mem h, fun i _ => by simp⟩
 ·rintro ⟨s, t, hs, ht, h⟩
  refine (span_sub p n _).congr ((span_sub p n _).add _ _ ?_ ?_) h
  ·exact span_mono (fun x hx => span_mem (List.mem_append_left _ hx)) hs
  ·exact span_mono (fun x hx => span_mem (List.mem_append_right _ hx)) ht
theorem dim_sum_inter {p : Int} {n : Nat} {S T : Vec → Prop} (hp : Pr p) (hS : Sub p n S) (hT : Sub p n T) : dim p n (Sum p n S T) + dim p n (Inter S T) = dim p n S + dim p n T := by
 -- pairs
 let W : Vec → Prop := fun u => S u ∧ T (fun i => u (n + i))
 have hW : Sub p (n + n) W := {
  zero := fun v hv => ⟨hS.zero v (fun i hi => hv i (by omega)), hT.zero _ (fun i hi => hv _ (by omega))⟩
  add := fun v w h h' => ⟨hS.add _ _ h.1 h'.1, hT.add _ _ h.2 h'.2⟩
  smul := fun c v h => ⟨hS.smul c _ h.1, hT.smul c _ h.2⟩ }
 have hd : dim p (n + n) W = dim p n S + dim p n T := by
  rw [dim_split hW]
  congr 1
  ·refine dim_congr fun v => ⟨?_, fun h => ?_⟩
   ·rintro ⟨u, hu, he⟩; exact hS.congr hu.1 he
   ·refine ⟨fun i => if i < n then v i else 0, ⟨hS.congr h (fun i hi => ?_), hT.zero _ (fun i hi => ?_)⟩, fun i hi => ?_⟩
    ·simp only [if_pos hi]; simp
    ·simp only []; rw [if_neg (by omega)]; exact Int.dvd_zero p
    ·simp only [if_pos hi]; simp
  ·refine dim_congr fun v => ⟨fun h => ?_, fun h => ⟨hS.zero _ (fun i hi => ?_), hT.congr h (fun i hi => ?_)⟩⟩
   ·refine hT.congr h.2 (fun i hi => ?_)
    simp only [behind]; rw [if_neg (by omega), show n + i - n = i by omega]; simp
   ·unfold behind; rw [if_pos hi]; exact Int.dvd_zero p
   ·simp only [behind]; rw [if_neg (by omega), show n + i - n = i by omega]; simp
 have hf : Lmap p (n + n) n (fun u i => u i + u (n + i)) := {
  zr := fun v hv i hi => Int.dvd_add (hv i (by omega)) (hv (n + i) (by omega))
  add := fun v w j hj => by
   have e : v j + w j + (v (n + j) + w (n + j)) - (v j + v (n + j) + (w j + w (n + j))) = 0 := by omega
   simp only [e]; exact Int.dvd_zero p
  smul := fun c v j hj => by
   have e : c * v j + c * v (n + j) - c * (v j + v (n + j)) = 0 := by grind
   simp only [e]; exact Int.dvd_zero p }
 have h := rank_nullity hp hf hW
 rw [hd] at h
 have e1 : dim p n (Img p n (fun u i => u i + u (n + i)) W) = dim p n (Sum p n S T) := by
  refine dim_congr fun v => ⟨?_, ?_⟩
  ·rintro ⟨u, hu, he⟩; exact ⟨u, _, hu.1, hu.2, he⟩
  ·rintro ⟨s, t, hs, ht, he⟩
   refine ⟨fun i => if i < n then s i else t (i - n), ⟨hS.congr hs (fun i hi => ?_), hT.congr ht (fun i hi => ?_)⟩, fun i hi => ?_⟩
   ·simp only [if_pos hi]; simp
   ·simp only []; rw [if_neg (by omega), show n + i - n = i by omega]; simp
   ·simp only [if_pos hi]; rw [if_neg (by omega), show n + i - n = i by omega]; exact he i hi
 have e2 : dim p (n + n) (Inter W (Ker p n (fun u i => u i + u (n + i)))) = dim p n (Inter S T) := by
  have hg : Lmap p n (n + n) (fun v i => if i < n then v i else -v (i - n)) := {
   zr := fun v hv i hi => by
    simp only []; split
    ·exact hv i (by assumption)
    ·exact Int.dvd_neg.2 (hv _ (by omega))
   add := fun v w j hj => by
    simp only []; split
    ·simp
    ·rw [show -(v (j - n) + w (j - n)) - (-v (j - n) + -w (j - n)) = 0 by omega]; exact Int.dvd_zero p
   smul := fun c v j hj => by
    simp only []; split
    ·simp
    ·have e : -(c * v (j - n)) - c * -v (j - n) = 0 := by grind
     rw [e]; exact Int.dvd_zero p }
  rw [← dim_iso hp hg (inter_sub hS hT) (fun v _ hz i hi => by
   have := hz i (by omega)
   simp only [if_pos hi] at this; exact this)]
  refine dim_congr fun u => ⟨?_, ?_⟩
  ·rintro ⟨⟨h1, h2⟩, h3⟩
   have e : ∀ i, i < n → p ∣ u i + u (n + i) := h3
   refine ⟨u, ⟨h1, hT.congr (hT.smul (-1) _ h2) (fun i hi => ?_)⟩, fun i hi => ?_⟩
   ·have := e i hi
    rw [show u i - -1 * u (n + i) = u i + u (n + i) by omega]; exact this
   ·simp only []; split
    ·simp
    ·have := e (i - n) (by omega)
     rw [show n + (i - n) = i by omega] at this
     rw [show u i - -u (i - n) = u (i - n) + u i by omega]; exact this
  ·rintro ⟨v, ⟨h1, h2⟩, he⟩
   have ea : ∀ i, i < n → p ∣ u i - v i := fun i hi => by
    have := he i (by omega)
    simp only [if_pos hi] at this; exact this
   have eb : ∀ i, i < n → p ∣ u (n + i) - -1 * v i := fun i hi => by
    have := he (n + i) (by omega)
    simp only [] at this
    rw [if_neg (by omega), show n + i - n = i by omega] at this
    rw [show -1 * v i = -v i by omega]; exact this
   refine ⟨⟨hS.congr h1 ea, hT.congr (hT.smul (-1) _ h2) eb⟩, fun i hi => ?_⟩
   have := Int.dvd_add (ea i hi) (eb i hi)
   rwa [show u i - v i + (u (n + i) - -1 * v i) = u i + u (n + i) by omega] at this
 rw [e1, e2] at h
 omega

def sm (f : Nat → Int) : Nat → Int
 | 0 => 0
 | n + 1 => sm f n + f n
theorem sm_congr {f g : Nat → Int} : ∀ n, (∀ i, i < n → f i = g i) → sm f n = sm g n
 | 0, _ => rfl
 | n + 1, h => by simp only [sm]; rw [sm_congr n (fun i hi => h i (by omega)), h n (by omega)]
theorem sm_add (f g : Nat → Int) : ∀ n, sm (fun i => f i + g i) n = sm f n + sm g n
 | 0 => rfl
 | n + 1 => by simp only [sm]; rw [sm_add f g n]; omega
theorem sm_mul (c : Int) (f : Nat → Int) : ∀ n, sm (fun i => c * f i) n = c * sm f n
 | 0 => by simp [sm]
 | n + 1 => by simp only [sm]; rw [sm_mul c f n, Int.mul_add]
theorem sm_dvd {p : Int} {f : Nat → Int} : ∀ n, (∀ i, i < n → p ∣ f i) → p ∣ sm f n
 | 0, _ => Int.dvd_zero p
 | n + 1, h => Int.dvd_add (sm_dvd n fun i hi => h i (by omega)) (h n (by omega))
theorem sm_sub (f g : Nat → Int) (n : Nat) : sm (fun i => f i - g i) n = sm f n - sm g n := by
 have h := sm_add f (fun i => -1 * g i) n
 rw [sm_mul] at h
 rw [show (fun i => f i - g i) = fun i => f i + -1 * g i by funext i; omega, h]; omega
theorem sm_zero : ∀ n, sm (fun _ => 0) n = 0
 | 0 => rfl
 | n + 1 => by simp only [sm]; rw [sm_zero n]; rfl
theorem sm_single {f : Nat → Int} {p : Int} (i0 : Nat) : ∀ n, i0 < n → (∀ i, i < n → i ≠ i0 → p ∣ f i) → p ∣ sm f n - f i0
 | 0, h, _ => by omega
 | n + 1, h, hz => by
  simp only [sm]
  rcases Nat.lt_or_ge i0 n with hl | hg
  ·have := Int.dvd_add (sm_single i0 n hl (fun i hi => hz i (by omega))) (hz n (by omega) (by omega))
   rwa [show sm f n - f i0 + f n = sm f n + f n - f i0 by omega] at this
  ·have : i0 = n := by omega
   subst this
   have := sm_dvd (p := p) (f := f) i0 (fun i hi => hz i (by omega) (by omega))
   rwa [show sm f i0 + f i0 - f i0 = sm f i0 by omega]
theorem sm_swap (f : Nat → Nat → Int) (m : Nat) : ∀ n, sm (fun i => sm (fun j => f i j) m) n = sm (fun j => sm (fun i => f i j) n) m
 | 0 => by simp only [sm]; rw [sm_zero]
 | n + 1 => by
  simp only [sm]
  rw [sm_swap f m n, ← sm_add]
def dt (n : Nat) (v w : Vec) : Int := sm (fun i => v i * w i) n
theorem dt_comm (n : Nat) (v w : Vec) : dt n v w = dt n w v := sm_congr n fun i _ => Int.mul_comm _ _
theorem dt_add (n : Nat) (v w x : Vec) : dt n (fun i => v i + w i) x = dt n v x + dt n w x := by
 unfold dt; rw [← sm_add]; exact sm_congr n fun i _ => Int.add_mul _ _ _
theorem dt_mul (n : Nat) (c : Int) (v x : Vec) : dt n (fun i => c * v i) x = c * dt n v x := by
 unfold dt; rw [← sm_mul]; exact sm_congr n fun i _ => Int.mul_assoc _ _ _
theorem dt_zr {p : Int} {n : Nat} {v : Vec} (x : Vec) (h : Zr p n v) : p ∣ dt n v x := sm_dvd n fun i hi => Int.dvd_mul_of_dvd_left (h i hi)
def Perp (p : Int) (n : Nat) (S : Vec → Prop) (v : Vec) : Prop := ∀ s, S s → p ∣ dt n v s
theorem perp_sub (p : Int) (n : Nat) (S : Vec → Prop) : Sub p n (Perp p n S) where
 zero v hv s _ := dt_zr s hv
 add v w h h' s hs := by rw [dt_add]; exact Int.dvd_add (h s hs) (h' s hs)
 smul c v h s hs := by rw [dt_mul]; exact dvd_mul_l c (h s hs)
theorem perp_one_sub (p : Int) (n : Nat) (v : Vec) : Sub p n (fun s => p ∣ dt n v s) where
 zero w hw := by rw [dt_comm]; exact dt_zr v hw
 add s t h h' := by rw [dt_comm, dt_add, dt_comm n s, dt_comm n t]; exact Int.dvd_add h h'
 smul c s h := by rw [dt_comm, dt_mul, dt_comm n s]; exact dvd_mul_l c h
theorem perp_span {p : Int} {n : Nat} (L : List Vec) (v : Vec) : Perp p n (Span p n L) v ↔ ∀ x, x ∈ L → p ∣ dt n v x :=
 ⟨fun h x hx => h x (span_mem hx), fun h s hs => span_least (perp_one_sub p n v) h hs⟩

structure Rref (p : Int) (n r : Nat) (R : Nat → Vec) (q : Nat → Nat) : Prop where
 lt : ∀ i, i < r → q i < n
 mono : ∀ i j, i < j → j < r → q i < q j
 one : ∀ i, i < r → p ∣ R i (q i) - 1
 off : ∀ i j, i < r → j < r → i ≠ j → p ∣ R i (q j)
 pre : ∀ i c, i < r → c < q i → p ∣ R i c
def rows (R : Nat → Vec) (r : Nat) : List Vec := (List.range r).map R
theorem rows_mem {R : Nat → Vec} {r i : Nat} (h : i < r) : R i ∈ rows R r := List.mem_map_of_mem (List.mem_range.2 h)
theorem mem_rows {R : Nat → Vec} {r : Nat} {x : Vec} (h : x ∈ rows R r) : ∃ i, i < r ∧ R i = x := by
 obtain ⟨i, hi, he⟩ := List.mem_map.1 h
 exact ⟨i, List.mem_range.1 hi, he⟩
def comb (R : Nat → Vec) (r : Nat) (c : Nat → Int) : Vec := fun j => sm (fun i => c i * R i j) r
theorem comb_span {p : Int} {n : Nat} {S : Vec → Prop} (hS : Sub p n S) (R : Nat → Vec) (c : Nat → Int) : ∀ r, (∀ i, i < r → S (R i)) → S (comb R r c)
 | 0, _ => hS.zero _ (fun _ _ => Int.dvd_zero p)
 | r + 1, h => hS.add _ _ (comb_span hS R c r (fun i hi => h i (by omega))) (hS.smul (c r) _ (h r (by omega)))
theorem span_comb {p : Int} {n : Nat} (R : Nat → Vec) (r : Nat) (v : Vec) : Span p n (rows R r) v ↔ ∃ c, ∀ j, j < n → p ∣ v j - comb R r c j := by
 constructor
 ·refine span_least (T := fun v => ∃ c, ∀ j, j < n → p ∣ v j - comb R r c j) ⟨?_, ?_, ?_⟩ (fun x hx => ?_)
  ·intro v hv
   refine ⟨fun _ => 0, fun j hj => ?_⟩
   have e : comb R r (fun _ => 0) j = 0 := by
    unfold comb; rw [sm_congr (g := fun _ => 0) r (fun i _ => Int.zero_mul _), sm_zero]
   rw [e, Int.sub_zero]; exact hv j hj
  ·rintro v w ⟨c, hc⟩ ⟨d, hd⟩
   refine ⟨fun i => c i + d i, fun j hj => ?_⟩
   have e : comb R r (fun i => c i + d i) j = comb R r c j + comb R r d j := by
    unfold comb; rw [← sm_add]; exact sm_congr r fun i _ => Int.add_mul _ _ _
   have := Int.dvd_add (hc j hj) (hd j hj)
   rwa [show v j - comb R r c j + (w j - comb R r d j) = v j + w j - (comb R r c j + comb R r d j) by omega, ← e] at this
  ·rintro a v ⟨c, hc⟩
   refine ⟨fun i => a * c i, fun j hj => ?_⟩
   have e : comb R r (fun i => a * c i) j = a * comb R r c j := by
    unfold comb; rw [← sm_mul]; exact sm_congr r fun i _ => Int.mul_assoc _ _ _
   have := dvd_mul_l a (hc j hj)
   rwa [Int.mul_sub, ← e] at this
  ·obtain ⟨i0, hi0, rfl⟩ := mem_rows hx
   refine ⟨fun i => if i = i0 then 1 else 0, fun j hj => ?_⟩
   have := sm_single (p := p) (f := fun i => (if i = i0 then 1 else 0) * R i j) i0 r hi0 (fun i _ hne => by simp [hne])
   simp only [if_pos, Int.one_mul] at this
   have := Int.dvd_neg.2 this
   rwa [Int.neg_sub] at this
 ·rintro ⟨c, hc⟩
  exact (span_sub p n _).congr (comb_span (span_sub p n _) R c r (fun i hi => span_mem (rows_mem hi))) hc
theorem Rref.coef {p : Int} {n r : Nat} {R : Nat → Vec} {q : Nat → Nat} (h : Rref p n r R q) {v : Vec} (hv : Span p n (rows R r) v) (j : Nat) (hj : j < n) : p ∣ v j - comb R r (fun i => v (q i)) j := by
 obtain ⟨c, hc⟩ := (span_comb R r v).1 hv
 have e : ∀ i, i < r → p ∣ v (q i) - c i := fun i hi => by
  have h1 := hc (q i) (h.lt i hi)
  have h2 := sm_single (p := p) (f := fun k => c k * R k (q i)) i r hi (fun k hk hne => dvd_mul_l _ (h.off k i hk hi hne))
  have h3 := dvd_mul_l (c i) (h.one i hi)
  have := Int.dvd_add h1 (Int.dvd_add h2 h3)
  have e : v (q i) - comb R r c (q i) + (sm (fun k => c k * R k (q i)) r - c i * R i (q i) + c i * (R i (q i) - 1)) = v (q i) - c i := by
   unfold comb; grind
  rwa [e] at this
 have h4 : p ∣ comb R r c j - comb R r (fun i => v (q i)) j := by
  unfold comb
  rw [← sm_sub]
  refine sm_dvd r fun i hi => ?_
  have := dvd_mul_l (R i j) (e i hi)
  have := Int.dvd_neg.2 this
  have e2 : -(R i j * (v (q i) - c i)) = c i * R i j - v (q i) * R i j := by grind
  rwa [e2] at this
 have := Int.dvd_add (hc j hj) h4
 rwa [show v j - comb R r c j + (comb R r c j - comb R r (fun i => v (q i)) j) = v j - comb R r (fun i => v (q i)) j by omega] at this
theorem Rref.zero {p : Int} {n r : Nat} {R : Nat → Vec} {q : Nat → Nat} (h : Rref p n r R q) {v : Vec} (hv : Span p n (rows R r) v) (hz : ∀ i, i < r → p ∣ v (q i)) : Zr p n v := fun j hj => by
 have h1 := h.coef hv j hj
 have h2 : p ∣ comb R r (fun i => v (q i)) j := sm_dvd r fun i hi => Int.dvd_mul_of_dvd_left (hz i hi)
 have := Int.dvd_add h1 h2
 rwa [Int.sub_add_cancel] at this
theorem Rref.pl {p : Int} {n r : Nat} {R : Nat → Vec} {q : Nat → Nat} (hp : Pr p) (h : Rref p n r R q) (c : Nat) : Pl p n (Span p n (rows R r)) c ↔ ∃ i, i < r ∧ q i = c := by
 constructor
 ·rintro ⟨v, hv, hl⟩
  -- the first i with v (q i) not zero
  have hex : ∃ i, i < r ∧ ¬ p ∣ v (q i) := Classical.byContradiction fun hc => by
   refine ld_nz hl (h.zero hv fun i hi => Classical.byContradiction fun hd => hc ⟨i, hi, hd⟩)
  obtain ⟨i, ⟨hi, hni⟩, hmin⟩ := least' hex
  refine ⟨i, hi, ?_⟩
  have hsm : ∀ c, c < q i → p ∣ v c := fun c hc => by
   have h1 := h.coef hv c (by have := h.lt i hi; omega)
   have h2 : p ∣ comb R r (fun i => v (q i)) c := sm_dvd r fun k hk => by
    rcases Nat.lt_or_ge k i with hki | hki
    ·exact Int.dvd_mul_of_dvd_left (Classical.byContradiction fun hd => hmin k hki ⟨hk, hd⟩)
    ·refine dvd_mul_l _ (h.pre k c hk ?_)
     rcases Nat.eq_or_lt_of_le hki with rfl | hlt
     ·exact hc
     ·have := h.mono i k hlt hk; omega
   have := Int.dvd_add h1 h2
   rwa [Int.sub_add_cancel] at this
  rcases Nat.lt_trichotomy (q i) c with h1 | h1 | h1
  ·exact absurd (hl.2.2 _ h1) hni
  ·exact h1
  ·exact absurd (hsm c h1) hl.2.1
 ·rintro ⟨i, hi, rfl⟩
  refine ⟨R i, span_mem (rows_mem hi), h.lt i hi, fun hd => hp.1 ?_, fun j hj => h.pre i j hi hj⟩
  have := Int.dvd_sub hd (h.one i hi)
  rwa [show R i (q i) - (R i (q i) - 1) = 1 by omega] at this
theorem Rref.indep {p : Int} {n r : Nat} {R : Nat → Vec} {q : Nat → Nat} (hp : Pr p) (h : Rref p n r R q) : dim p n (Span p n (rows R r)) = r := by
 have main : ∀ k, k ≤ r → cnt (fun c => ∃ i, i < k ∧ q i = c) n = k := by
  intro k
  induction k with
  | zero => intro _; exact cnt_none _ n (fun c _ ⟨i, hi, _⟩ => by omega)
  | succ k ih =>
   intro hk
   rw [cnt_insert (Q := fun c => ∃ i, i < k ∧ q i = c) (q k) n (h.lt k (by omega)) (fun ⟨i, hi, he⟩ => by have := h.mono i k hi (by omega); omega) (fun c _ => ⟨?_, ?_⟩), ih (by omega)]
   ·rintro ⟨i, hi, he⟩
    rcases Nat.lt_or_ge i k with hl | hg
    ·exact .inl ⟨i, hl, he⟩
    ·have : i = k := by omega
     subst this; exact .inr he.symm
   ·rintro (⟨i, hi, he⟩ | he)
    ·exact ⟨i, by omega, he⟩
    ·exact ⟨k, by omega, he.symm⟩
 unfold dim
 rw [cnt_congr n (fun c _ => h.pl hp c)]
 exact main r (Nat.le_refl _)
theorem Rref.unique {p : Int} {n r r' : Nat} {R R' : Nat → Vec} {q q' : Nat → Nat} (hp : Pr p) (h : Rref p n r R q) (h' : Rref p n r' R' q') (hs : ∀ v, Span p n (rows R r) v ↔ Span p n (rows R' r') v) :
  r = r' ∧ ∀ i, i < r → q i = q' i ∧ ∀ j, j < n → p ∣ R i j - R' i j := by
 have hr : r = r' := by rw [← h.indep hp, ← h'.indep hp]; exact dim_congr hs
 subst hr
 have hpl : ∀ c, (∃ i, i < r ∧ q i = c) ↔ ∃ i, i < r ∧ q' i = c := fun c => by
  rw [← h.pl hp c, ← h'.pl hp c]
  exact ⟨fun ⟨v, h1, h2⟩ => ⟨v, (hs v).1 h1, h2⟩, fun ⟨v, h1, h2⟩ => ⟨v, (hs v).2 h1, h2⟩⟩
 have hq : ∀ i, i < r → q i = q' i := by
  intro i
  induction i using Nat.strongRecOn with
  | _ i ih =>
   intro hi
   obtain ⟨j, hj, e1⟩ := (hpl (q i)).1 ⟨i, hi, rfl⟩
   obtain ⟨k, hk, e2⟩ := (hpl (q' i)).2 ⟨i, hi, rfl⟩
   rcases Nat.lt_trichotomy i j with hl | he | hl
   ·-- q' i < q' j = q i; k must be < i
    have h1 := h'.mono i j hl hj
    rcases Nat.lt_trichotomy k i with hk' | hk' | hk'
    ·have := ih k hk' hk; have := h'.mono k i hk' hi; omega
    ·subst hk'; omega
    ·have := h.mono i k hk' hk; omega
   ·subst he; omega
   ·have := ih j hl hj; have := h.mono j i hl hi; omega
 refine ⟨rfl, fun i hi => ⟨hq i hi, fun j hj => ?_⟩⟩
 have hd : Span p n (rows R r) (fun j => R i j - R' i j) := (span_sub p n _).sub (span_mem (rows_mem hi)) ((hs _).2 (span_mem (rows_mem hi)))
 refine h.zero hd (fun k hk => ?_) j hj
 by_cases e : i = k
 ·subst e
  have h1 := h.one i hi
  have h2 := h'.one i hi
  rw [← hq i hi] at h2
  have := Int.dvd_sub h1 h2
  rwa [show R i (q i) - 1 - (R' i (q i) - 1) = R i (q i) - R' i (q i) by omega] at this
 ·have h1 := h.off i k hi hk e
  have h2 := h'.off i k hi hk e
  rw [← hq k hk] at h2
  exact Int.dvd_sub h1 h2
def rowMap (n : Nat) (R : Nat → Vec) (v : Vec) : Vec := fun i => dt n v (R i)
theorem rowMap_lmap (p : Int) (n r : Nat) (R : Nat → Vec) : Lmap p n r (rowMap n R) where
 zr v hv i _ := dt_zr (R i) hv
 add v w j _ := by unfold rowMap; rw [dt_add]; simp
 smul c v j _ := by unfold rowMap; rw [dt_mul]; simp
theorem ker_rowMap {p : Int} {n r : Nat} {R : Nat → Vec} (v : Vec) : Ker p r (rowMap n R) v ↔ Perp p n (Span p n (rows R r)) v := by
 rw [perp_span]
 constructor
 ·intro h x hx
  obtain ⟨i, hi, rfl⟩ := mem_rows hx
  exact h i hi
 ·intro h i hi
  exact h _ (rows_mem hi)
def unitV (c : Nat) : Vec := fun j => if j = c then 1 else 0
theorem dt_unit {p : Int} {n : Nat} (c : Nat) (hc : c < n) (v : Vec) : dt n (unitV c) v = v c := by
 have main : ∀ m, dt m (unitV c) v = if c < m then v c else 0 := by
  intro m
  induction m with
  | zero => simp [dt, sm]
  | succ m ih =>
   unfold dt at ih ⊢
   simp only [sm, ih]
   have e : unitV c m = if m = c then 1 else 0 := rfl
   rw [e]
   by_cases h1 : c < m
   ·rw [if_pos h1, if_neg (show ¬ m = c by omega), if_pos (show c < m + 1 by omega)]; simp
   ·by_cases h2 : m = c
    ·subst h2; simp
    ·rw [if_neg h1, if_neg h2, if_neg (show ¬ c < m + 1 by omega)]; simp
 rw [main, if_pos hc]
theorem Rref.dim_perp {p : Int} {n r : Nat} {R : Nat → Vec} {q : Nat → Nat} (hp : Pr p) (h : Rref p n r R q) : dim p n (Perp p n (Span p n (rows R r))) + r = n := by
 have h1 := rank_nullity hp (rowMap_lmap p n r R) (all_sub p n)
 have h2 : dim p r (Img p r (rowMap n R) All) = r := by
  have : ∀ y, Img p r (rowMap n R) All y ↔ All y := fun y => ⟨fun _ => trivial, fun _ => by
   refine ⟨fun c => sm (fun i => y i * unitV (q i) c) r, trivial, fun j hj => ?_⟩
   have e : rowMap n R (fun c => sm (fun i => y i * unitV (q i) c) r) j = sm (fun i => y i * R j (q i)) r := by
    unfold rowMap dt
    have e1 : ∀ c, c < n → sm (fun i => y i * unitV (q i) c) r * R j c = sm (fun i => y i * (unitV (q i) c * R j c)) r := fun c _ => by
     rw [Int.mul_comm, ← sm_mul]
     exact sm_congr r fun i _ => by grind
    rw [sm_congr n e1, sm_swap]
    refine sm_congr r fun i hi => ?_
    rw [sm_mul]
    have := dt_unit (p := p) (n := n) (q i) (h.lt i hi) (R j)
    unfold dt at this
    rw [this]
   rw [e]
   have h3 := sm_single (p := p) (f := fun i => y i * R j (q i)) j r hj (fun k hk hne => dvd_mul_l _ (h.off j k hj hk (Ne.symm hne)))
   have h4 := dvd_mul_l (y j) (h.one j hj)
   have := Int.dvd_neg.2 (Int.dvd_add h3 h4)
   have e2 : -(sm (fun i => y i * R j (q i)) r - y j * R j (q j) + y j * (R j (q j) - 1)) = y j - sm (fun i => y i * R j (q i)) r := by grind
   rwa [e2] at this⟩
  rw [dim_congr this, dim_all hp r]
 rw [dim_all hp n, h2] at h1
 have h3 : dim p n (Inter All (Ker p r (rowMap n R))) = dim p n (Perp p n (Span p n (rows R r))) := dim_congr fun v => ⟨fun h => (ker_rowMap v).1 h.2, fun h => ⟨trivial, (ker_rowMap v).2 h⟩⟩
 omega

structure GInv (p : Int) (n m c r : Nat) (R : Nat → Vec) (q : Nat → Nat) : Prop where
 rm : r ≤ m
 lt : ∀ i, i < r → q i < c
 mono : ∀ i j, i < j → j < r → q i < q j
 one : ∀ i, i < r → p ∣ R i (q i) - 1
 off : ∀ i j, i < r → j < m → j ≠ i → p ∣ R j (q i)
 pre : ∀ i k, i < r → k < q i → p ∣ R i k
 low : ∀ i k, r ≤ i → i < m → k < c → p ∣ R i k
theorem GInv.start (p : Int) (n m : Nat) (R : Nat → Vec) (q : Nat → Nat) : GInv p n m 0 0 R q :=
 ⟨Nat.zero_le _, fun i h => by omega, fun i j _ h => by omega, fun i h => by omega, fun i j h => by omega, fun i k h => by omega, fun i k _ _ h => by omega⟩
theorem GInv.none {p : Int} {n m c r : Nat} {R : Nat → Vec} {q : Nat → Nat} (h : GInv p n m c r R q) (hz : ∀ i, r ≤ i → i < m → p ∣ R i c) : GInv p n m (c + 1) r R q :=
 ⟨h.rm, fun i hi => by have := h.lt i hi; omega, h.mono, h.one, h.off, h.pre, fun i k h1 h2 h3 => by
  rcases Nat.lt_or_ge k c with hl | hg
  ·exact h.low i k h1 h2 hl
  ·have : k = c := by omega
   subst this; exact hz i h1 h2⟩
theorem GInv.swap {p : Int} {n m c r : Nat} {R R1 : Nat → Vec} {q : Nat → Nat} (h : GInv p n m c r R q) {a : Nat} (ha : r ≤ a) (ham : a < m) (e1 : ∀ j, R1 r j = R a j) (e2 : ∀ j, R1 a j = R r j) (e3 : ∀ i j, i < m → i ≠ r → i ≠ a → R1 i j = R i j) : GInv p n m c r R1 q := by
 have e : ∀ i, i < m → ∃ k, k < m ∧ (r ≤ i → r ≤ k) ∧ (i < r → k = i) ∧ ∀ j, R1 i j = R k j := fun i hi => by
  by_cases h1 : i = r
  ·subst h1; exact ⟨a, ham, fun _ => ha, fun hh => by omega, e1⟩
  ·by_cases h2 : i = a
   ·subst h2; exact ⟨r, by omega, fun _ => Nat.le_refl _, fun hh => by omega, e2⟩
   ·exact ⟨i, hi, fun hh => hh, fun _ => rfl, fun j => e3 i j hi h1 h2⟩
 refine ⟨h.rm, h.lt, h.mono, fun i hi => ?_, fun i j hi hj hne => ?_, fun i k hi hk => ?_, fun i k h1 h2 h3 => ?_⟩
 ·obtain ⟨k, _, _, hk, he⟩ := e i (by omega)
  rw [he, hk hi]; exact h.one i hi
 ·obtain ⟨k, hkm, hkr, hk, he⟩ := e j hj
  rw [he]
  refine h.off i k hi hkm ?_
  rcases Nat.lt_or_ge j r with hl | hg
  ·rw [hk hl]; exact hne
  ·have := hkr hg; omega
 ·obtain ⟨k', _, _, hk', he⟩ := e i (by omega)
  rw [he, hk' hi]; exact h.pre i k hi hk
 ·obtain ⟨k', hkm, hkr, _, he⟩ := e i h2
  rw [he]; exact h.low k' k (hkr h1) hkm h3
theorem GInv.step {p : Int} {n m c r : Nat} {R R' : Nat → Vec} {q q' : Nat → Nat} (h : GInv p n m c r R q) (hrm : r < m) {b : Int} (hb : p ∣ R r c * b - 1)
  (e1 : ∀ j, j ≤ c → p ∣ R' r j - b * R r j) (e2 : ∀ i j, i < m → i ≠ r → j ≤ c → p ∣ R' i j - (R i j - R i c * R' r j)) (hq : ∀ i, i < r → q' i = q i) (hqr : q' r = c) : GInv p n m (c + 1) (r + 1) R' q' := by
 have top0 : ∀ k, k < c → p ∣ R' r k := fun k hk => by
  have := Int.dvd_add (e1 k (by omega)) (dvd_mul_l b (h.low r k (Nat.le_refl _) hrm hk))
  rwa [Int.sub_add_cancel] at this
 have top1 : p ∣ R' r c - 1 := by
  have := Int.dvd_add (e1 c (Nat.le_refl _)) hb
  rwa [show R' r c - b * R r c + (R r c * b - 1) = R' r c - 1 by grind] at this
 have same : ∀ i k, i < m → i ≠ r → k < c → p ∣ R' i k - R i k := fun i k hi hne hk => by
  have := Int.dvd_sub (e2 i k hi hne (by omega)) (dvd_mul_l (R i c) (top0 k hk))
  rwa [show R' i k - (R i k - R i c * R' r k) - R i c * R' r k = R' i k - R i k by omega] at this
 have clr : ∀ i, i < m → i ≠ r → p ∣ R' i c := fun i hi hne => by
  have := Int.dvd_sub (e2 i c hi hne (Nat.le_refl _)) (dvd_mul_l (R i c) top1)
  rwa [show R' i c - (R i c - R i c * R' r c) - R i c * (R' r c - 1) = R' i c by grind] at this
 refine ⟨by omega, fun i hi => ?_, fun i j hij hj => ?_, fun i hi => ?_, fun i j hi hj hne => ?_, fun i k hi hk => ?_, fun i k h1 h2 h3 => ?_⟩
 ·rcases Nat.lt_or_ge i r with hl | hg
  ·rw [hq i hl]; have := h.lt i hl; omega
  ·have : i = r := by omega
   subst this; omega
 ·rcases Nat.lt_or_ge j r with hl | hg
  ·rw [hq i (by omega), hq j hl]; exact h.mono i j hij hl
  ·have : j = r := by omega
   subst this; rw [hq i hij, hqr]; exact h.lt i hij
 ·rcases Nat.lt_or_ge i r with hl | hg
  ·rw [hq i hl]
   have := Int.dvd_add (same i (q i) (by omega) (by omega) (h.lt i hl)) (h.one i hl)
   rwa [show R' i (q i) - R i (q i) + (R i (q i) - 1) = R' i (q i) - 1 by omega] at this
  ·have : i = r := by omega
   subst this; rw [hqr]; exact top1
 ·rcases Nat.lt_or_ge i r with hl | hg
  ·rw [hq i hl]
   by_cases hj' : j = r
   ·subst hj'; exact top0 _ (h.lt i hl)
   ·have := Int.dvd_add (same j (q i) hj hj' (h.lt i hl)) (h.off i j hl hj hne)
    rwa [Int.sub_add_cancel] at this
  ·have : i = r := by omega
   subst this; rw [hqr]; exact clr j hj hne
 ·rcases Nat.lt_or_ge i r with hl | hg
  ·rw [hq i hl] at hk
   have := h.lt i hl
   have := Int.dvd_add (same i k (by omega) (by omega) (by omega)) (h.pre i k hl hk)
   rwa [Int.sub_add_cancel] at this
  ·have : i = r := by omega
   subst this; rw [hqr] at hk; exact top0 k hk
 ·rcases Nat.lt_or_ge k c with hl | hg
  ·have := Int.dvd_add (same i k h2 (by omega) hl) (h.low i k (by omega) h2 hl)
   rwa [Int.sub_add_cancel] at this
  ·have : k = c := by omega
   subst this; exact clr i h2 (by omega)
theorem GInv.rref {p : Int} {n m r : Nat} {R : Nat → Vec} {q : Nat → Nat} (h : GInv p n m n r R q) : Rref p n r R q :=
 ⟨h.lt, h.mono, h.one, fun i j hi hj hne => h.off j i hj (by have := h.rm; omega) hne, h.pre⟩
theorem GInv.span {p : Int} {n m r : Nat} {R : Nat → Vec} {q : Nat → Nat} (h : GInv p n m n r R q) (v : Vec) : Span p n (rows R m) v ↔ Span p n (rows R r) v := by
 constructor
 ·refine span_mono (fun x hx => ?_)
  obtain ⟨i, hi, rfl⟩ := mem_rows hx
  rcases Nat.lt_or_ge i r with hl | hg
  ·exact span_mem (rows_mem hl)
  ·exact (span_sub p n _).zero _ (fun k hk => h.low i k hg hi hk)
 ·refine span_mono (fun x hx => ?_)
  obtain ⟨i, hi, rfl⟩ := mem_rows hx
  exact span_mem (rows_mem (by have := h.rm; omega))
theorem step_span {p : Int} {n m r : Nat} {R R' : Nat → Vec} (hrm : r < m) {a b : Int} (c : Nat → Int) (hb : p ∣ a * b - 1)
  (e1 : ∀ j, j < n → p ∣ R' r j - b * R r j) (e2 : ∀ i j, i < m → i ≠ r → j < n → p ∣ R' i j - (R i j - c i * R' r j)) (v : Vec) : Span p n (rows R' m) v ↔ Span p n (rows R m) v := by
 have sub := span_sub p n (rows R m)
 have sub' := span_sub p n (rows R' m)
 have htop : Span p n (rows R m) (R' r) := sub.congr (sub.smul b _ (span_mem (rows_mem hrm))) e1
 constructor
 ·refine span_mono (fun x hx => ?_)
  obtain ⟨i, hi, rfl⟩ := mem_rows hx
  by_cases h : i = r
  ·subst h; exact htop
  ·exact sub.congr (sub.sub (span_mem (rows_mem hi)) (sub.smul (c i) _ htop)) (fun j hj => e2 i j hi h hj)
 ·refine span_mono (fun x hx => ?_)
  obtain ⟨i, hi, rfl⟩ := mem_rows hx
  by_cases h : i = r
  ·subst h
   refine sub'.congr (sub'.smul a _ (span_mem (rows_mem hi))) (fun j hj => ?_)
   have h1 := dvd_mul_l a (e1 j hj)
   have h2 := dvd_mul_l (R i j) hb
   have := Int.dvd_neg.2 (Int.dvd_add h1 h2)
   rwa [show -(a * (R' i j - b * R i j) + R i j * (a * b - 1)) = R i j - a * R' i j by grind] at this
  ·refine sub'.congr (sub'.add _ _ (span_mem (rows_mem hi)) (sub'.smul (c i) _ (span_mem (rows_mem hrm)))) (fun j hj => ?_)
   have := Int.dvd_neg.2 (e2 i j hi h hj)
   rwa [show -(R' i j - (R i j - c i * R' r j)) = R i j - (R' i j + c i * R' r j) by omega] at this
theorem span_perm {p : Int} {n m : Nat} {R R' : Nat → Vec} (h : ∀ i, i < m → ∃ k, k < m ∧ ∀ j, j < n → p ∣ R' i j - R k j) (h' : ∀ i, i < m → ∃ k, k < m ∧ ∀ j, j < n → p ∣ R i j - R' k j) (v : Vec) : Span p n (rows R' m) v ↔ Span p n (rows R m) v := by
 constructor
 ·refine span_mono (fun x hx => ?_)
  obtain ⟨i, hi, rfl⟩ := mem_rows hx
  obtain ⟨k, hk, he⟩ := h i hi
  exact (span_sub p n _).congr (span_mem (rows_mem hk)) he
 ·refine span_mono (fun x hx => ?_)
  obtain ⟨i, hi, rfl⟩ := mem_rows hx
  obtain ⟨k, hk, he⟩ := h' i hi
  exact (span_sub p n _).congr (span_mem (rows_mem hk)) he

structure KerVec (p : Int) (n r : Nat) (R : Nat → Vec) (q : Nat → Nat) (c : Nat) (x : Vec) : Prop where
 one : p ∣ x c - 1
 piv : ∀ i, i < r → p ∣ x (q i) + R i c
 oth : ∀ j, j < n → j ≠ c → (∀ i, i < r → q i ≠ j) → p ∣ x j
theorem Rref.perp_iff {p : Int} {n r : Nat} {R : Nat → Vec} {q : Nat → Nat} (h : Rref p n r R q) (v : Vec) : Perp p n (Span p n (rows R r)) v ↔ ∀ i, i < r → p ∣ dt n v (R i) := by
 rw [perp_span]
 constructor
 ·exact fun h' i hi => h' _ (rows_mem hi)
 ·intro h' x hx
  obtain ⟨i, hi, rfl⟩ := mem_rows hx
  exact h' i hi
theorem sm_two {f : Nat → Int} {p : Int} (a b : Nat) (hab : a ≠ b) : ∀ n, a < n → b < n → (∀ i, i < n → i ≠ a → i ≠ b → p ∣ f i) → p ∣ sm f n - (f a + f b) := by
 intro n ha hb hz
 have h1 := sm_single (p := p) (f := fun i => if i = a then 0 else f i) b n hb (fun i hi hne => by
  by_cases h : i = a
  ·simp only [if_pos h]; exact Int.dvd_zero p
  ·simp only [if_neg h]; exact hz i hi h hne)
 have h2 := sm_single (p := p) (f := fun i => if i = a then f i else 0) a n ha (fun i hi hne => by
  simp only [if_neg hne]; exact Int.dvd_zero p)
 have e : sm f n = sm (fun i => if i = a then 0 else f i) n + sm (fun i => if i = a then f i else 0) n := by
  rw [← sm_add]; exact sm_congr n fun i _ => by split <;> omega
 have := Int.dvd_add h1 h2
 simp only [if_neg (Ne.symm hab), if_pos] at this
 rw [e]
 rwa [show sm (fun i => if i = a then 0 else f i) n - f b + (sm (fun i => if i = a then f i else 0) n - f a) = sm (fun i => if i = a then 0 else f i) n + sm (fun i => if i = a then f i else 0) n - (f a + f b) by omega] at this
theorem KerVec.perp {p : Int} {n r : Nat} {R : Nat → Vec} {q : Nat → Nat} (h : Rref p n r R q) {c : Nat} (hc : c < n) (hf : ∀ i, i < r → q i ≠ c) {x : Vec} (hx : KerVec p n r R q c x) : Perp p n (Span p n (rows R r)) x := by
 rw [h.perp_iff]
 intro i hi
 have h1 := sm_two (p := p) (f := fun j => x j * R i j) c (q i) (Ne.symm (hf i hi)) n hc (h.lt i hi) (fun j hj h1 h2 => by
  by_cases h3 : ∃ k, k < r ∧ q k = j
  ·obtain ⟨k, hk, rfl⟩ := h3
   exact dvd_mul_l _ (h.off i k hi hk (fun e => by subst e; exact h2 rfl))
  ·exact Int.dvd_mul_of_dvd_left (hx.oth j hj h1 (fun k hk e => h3 ⟨k, hk, e⟩)))
 have h2 := dvd_mul_l (R i c) hx.one
 have h3 := dvd_mul_l (R i (q i)) (hx.piv i hi)
 have h4 := dvd_mul_l (R i c) (h.one i hi)
 have := Int.dvd_sub (Int.dvd_add h1 (Int.dvd_add h2 h3)) h4
 unfold dt
 rwa [show sm (fun j => x j * R i j) n - (x c * R i c + x (q i) * R i (q i)) + (R i c * (x c - 1) + R i (q i) * (x (q i) + R i c)) - R i c * (R i (q i) - 1) = sm (fun j => x j * R i j) n by grind] at this
theorem ker_indep {p : Int} {n r : Nat} {R : Nat → Vec} {q : Nat → Nat} (hp : Pr p) : ∀ (F : List Nat) (X : Nat → Vec), (∀ c, c ∈ F → c < n ∧ (∀ i, i < r → q i ≠ c) ∧ KerVec p n r R q c (X c)) → F.Nodup → Indep p n (F.map X)
 | [], _, _, _ => trivial
 | c :: F, X, h, hn => by
  have hc := h c List.mem_cons_self
  have hcF : c ∉ F := (List.nodup_cons.1 hn).1
  refine ⟨fun hs => hp.1 ?_, ker_indep hp F X (fun d hd => h d (List.mem_cons_of_mem _ hd)) (List.nodup_cons.1 hn).2⟩
  have hT : Sub p n (fun v => p ∣ v c) := ⟨fun v hv => hv c hc.1, fun v w h1 h2 => Int.dvd_add h1 h2, fun a v h1 => dvd_mul_l a h1⟩
  have h0 : p ∣ X c c := span_least hT (fun x hx => by
   obtain ⟨d, hd, rfl⟩ := List.mem_map.1 hx
   have hd' := h d (List.mem_cons_of_mem _ hd)
   exact hd'.2.2.oth c hc.1 (fun e => hcF (by rw [e]; exact hd)) hc.2.1) hs
  have := Int.dvd_sub h0 hc.2.2.one
  rwa [show X c c - (X c c - 1) = 1 by omega] at this
theorem ker_span {p : Int} {n r : Nat} {R : Nat → Vec} {q : Nat → Nat} (hp : Pr p) (h : Rref p n r R q) (F : List Nat) (X : Nat → Vec) (hF : ∀ c, c ∈ F → c < n ∧ (∀ i, i < r → q i ≠ c) ∧ KerVec p n r R q c (X c)) (hn : F.Nodup) (hl : F.length + r = n) (v : Vec) :
  Span p n (F.map X) v ↔ Perp p n (Span p n (rows R r)) v := by
 have hle : ∀ v, Span p n (F.map X) v → Perp p n (Span p n (rows R r)) v := fun v => span_least (perp_sub p n _) (fun x hx => by
  obtain ⟨c, hc, rfl⟩ := List.mem_map.1 hx
  obtain ⟨h1, h2, h3⟩ := hF c hc
  exact h3.perp h h1 h2)
 refine ⟨hle v, sub_of_dim hp (span_sub p n _) (perp_sub p n _) hle ?_ v⟩
 have h1 := dim_indep hp (ker_indep hp F X hF hn)
 have h2 := h.dim_perp hp
 rw [List.length_map] at h1
 omega
theorem free_count {n r : Nat} {q : Nat → Nat} (lt : ∀ i, i < r → q i < n) (mono : ∀ i j, i < j → j < r → q i < q j) (f : Nat → Bool) (hf : ∀ c, c < n → (f c = true ↔ ∀ i, i < r → q i ≠ c)) : ((List.range n).filter f).length + r = n := by
 induction n generalizing r with
 | zero =>
  rcases Nat.eq_zero_or_pos r with h | h
  ·subst h; rfl
  ·have := lt 0 h; omega
 | succ n ih =>
  rw [List.range_succ, List.filter_append, List.length_append]
  by_cases hc : ∃ i, i < r ∧ q i = n
  ·obtain ⟨i, hi, he⟩ := hc
   have hir : i = r - 1 := by
    rcases Nat.lt_or_ge i (r - 1) with hl | hg
    ·have := mono i (r - 1) hl (by omega); have := lt (r - 1) (by omega); omega
    ·omega
   have hfn : f n = false := by
    cases hfn : f n with
    | false => rfl
    | true => exact absurd he ((hf n (by omega)).1 hfn i hi)
   have := ih (r := r - 1) (fun j hj => by have := mono j (r - 1) (by omega) (by omega); rw [← hir, he] at this; exact this) (fun a b hab hb => mono a b hab (by omega)) (fun c hcn => by
    rw [hf c (by omega)]
    constructor
    ·exact fun h j hj => h j (by omega)
    ·intro h j hj
     rcases Nat.lt_or_ge j (r - 1) with hl | hg
     ·exact h j hl
     ·have : j = i := by omega
      subst this; omega)
   simp only [List.filter_cons, hfn, List.filter_nil]
   simp only [Bool.false_eq_true, if_false, List.length_nil]
   omega
  ·have hfn : f n = true := (hf n (by omega)).2 (fun i hi he => hc ⟨i, hi, he⟩)
   have := ih (r := r) (fun j hj => by
    have h1 := lt j hj
    rcases Nat.lt_or_ge (q j) n with hl | hg
    ·exact hl
    ·exact absurd ⟨j, hj, by omega⟩ hc) mono (fun c hcn => hf c (by omega))
   simp only [List.filter_cons, hfn, List.filter_nil]
   simp only [if_true, List.length_cons, List.length_nil]
   omega
end Go.Proofs.Ytipkciildhghiaa.B.LinT

set_option linter.unusedVariables false
set_option linter.unusedSimpArgs false
namespace Go.Proofs.Ytipkciildhghiaa.B.ParT
open LinT
def upd (f : Nat → Int) (a b : Nat) : Nat → Int := fun i => if i = a ∨ i = b then min (f a) (f b) else f i
def sweep (E : List (Nat × Nat)) (f : Nat → Int) : Nat → Int := E.foldl (fun f e => upd f e.1 e.2) f
def swp (E : List (Nat × Nat)) : Nat → (Nat → Int) → Nat → Int
 | 0, f => f
 | k + 1, f => sweep E (swp E k f)
theorem upd_le (f : Nat → Int) (a b i : Nat) : upd f a b i ≤ f i := by
 unfold upd
 split
 ·rename_i h
  rcases h with h | h <;> subst h <;> omega
 ·omega
theorem sweep_le : ∀ (E : List (Nat × Nat)) (f : Nat → Int) (i : Nat), sweep E f i ≤ f i
 | [], f, i => Int.le_refl _
 | e :: E, f, i => by
  have h1 := sweep_le E (upd f e.1 e.2) i
  have h2 := upd_le f e.1 e.2 i
  simp only [sweep, List.foldl_cons] at h1 ⊢
  omega
theorem stable_iff : ∀ (E : List (Nat × Nat)) (f : Nat → Int), (∀ i, sweep E f i = f i) ↔ ∀ e, e ∈ E → f e.1 = f e.2
 | [], f => ⟨fun _ e he => (by cases he), fun _ _ => rfl⟩
 | e :: E, f => by
  have hu : (∀ i, upd f e.1 e.2 i = f i) ↔ f e.1 = f e.2 := by
   constructor
   ·intro h
    have h1 := h e.1
    have h2 := h e.2
    unfold upd at h1 h2
    rw [if_pos (.inl rfl)] at h1
    rw [if_pos (.inr rfl)] at h2
    omega
   ·intro h i
    unfold upd
    split
    ·rename_i hh
     rcases hh with hh | hh <;> subst hh <;> omega
    ·rfl
  constructor
  ·intro h
   have hid : ∀ i, upd f e.1 e.2 i = f i := fun i => by
    have h1 := h i
    have h2 := sweep_le E (upd f e.1 e.2) i
    have h3 := upd_le f e.1 e.2 i
    simp only [sweep, List.foldl_cons] at h1 h2
    omega
   have hE : ∀ i, sweep E f i = f i := fun i => by
    have h1 := h i
    simp only [sweep, List.foldl_cons] at h1 ⊢
    rwa [show upd f e.1 e.2 = f from funext hid] at h1
   intro e' he'
   rcases List.mem_cons.1 he' with rfl | he'
   ·exact hu.1 hid
   ·exact (stable_iff E f).1 hE e' he'
  ·intro h i
   have hid := hu.2 (h e List.mem_cons_self)
   simp only [sweep, List.foldl_cons]
   rw [show upd f e.1 e.2 = f from funext hid]
   exact (stable_iff E f).2 (fun e' he' => h e' (List.mem_cons_of_mem _ he')) i
def Stable (E : List (Nat × Nat)) (f : Nat → Int) : Prop := ∀ e, e ∈ E → f e.1 = f e.2
theorem swp_stable {E : List (Nat × Nat)} {f : Nat → Int} (h : Stable E f) : ∀ k, swp E k f = f
 | 0 => rfl
 | k + 1 => by simp only [swp, swp_stable h k]; exact funext ((stable_iff E f).2 h)
theorem swp_add (E : List (Nat × Nat)) (f : Nat → Int) (a : Nat) : ∀ b, swp E (a + b) f = swp E b (swp E a f)
 | 0 => rfl
 | b + 1 => by rw [← Nat.add_assoc]; simp only [swp, swp_add E f a b]
theorem swp_le (E : List (Nat × Nat)) (f : Nat → Int) (i : Nat) : ∀ k, swp E k f i ≤ f i
 | 0 => Int.le_refl _
 | k + 1 => by have := sweep_le E (swp E k f) i; have := swp_le E f i k; simp only [swp]; omega
theorem sweep_nonneg : ∀ (E : List (Nat × Nat)) (f : Nat → Int), (∀ i, 0 ≤ f i) → ∀ i, 0 ≤ sweep E f i
 | [], f, h, i => h i
 | e :: E, f, h, i => by
  refine sweep_nonneg E (upd f e.1 e.2) (fun j => ?_) i
  unfold upd
  split
  ·have := h e.1; have := h e.2; omega
  ·exact h j
theorem sm_le {f g : Nat → Int} : ∀ n, (∀ i, i < n → f i ≤ g i) → sm f n ≤ sm g n
 | 0, _ => Int.le_refl _
 | n + 1, h => by have := sm_le n (fun i hi => h i (by omega)); have := h n (by omega); simp only [sm]; omega
theorem sm_lt {f g : Nat → Int} (k : Nat) : ∀ n, k < n → (∀ i, i < n → f i ≤ g i) → f k < g k → sm f n < sm g n
 | 0, h, _, _ => by omega
 | n + 1, h, hle, hlt => by
  simp only [sm]
  have := hle n (by omega)
  rcases Nat.lt_or_ge k n with hl | hg
  ·have := sm_lt k n hl (fun i hi => hle i (by omega)) hlt; omega
  ·have : k = n := by omega
   subst this
   have := sm_le (f := f) (g := g) k (fun i hi => hle i (by omega)); omega
theorem sm_nonneg {f : Nat → Int} (h : ∀ i, 0 ≤ f i) : ∀ n, 0 ≤ sm f n
 | 0 => Int.le_refl _
 | n + 1 => by have := sm_nonneg h n; have := h n; simp only [sm]; omega
theorem sweep_out {E : List (Nat × Nat)} {n : Nat} (hE : ∀ e, e ∈ E → e.1 < n ∧ e.2 < n) (f : Nat → Int) {i : Nat} (hi : n ≤ i) : sweep E f i = f i := by
 induction E generalizing f with
 | nil => rfl
 | cons e E ih =>
  have h1 := hE e List.mem_cons_self
  have := ih (fun e' he' => hE e' (List.mem_cons_of_mem _ he')) (upd f e.1 e.2)
  simp only [sweep, List.foldl_cons] at this ⊢
  rw [this]
  unfold upd; rw [if_neg (by omega)]
theorem rest_exists {E : List (Nat × Nat)} {n : Nat} (hE : ∀ e, e ∈ E → e.1 < n ∧ e.2 < n) : ∀ (d : Nat) (f : Nat → Int), (∀ i, 0 ≤ f i) → sm f n ≤ d → ∃ N, N ≤ d ∧ Stable E (swp E N f) := by
 intro d
 induction d with
 | zero =>
  intro f h0 hs
  refine ⟨0, Nat.le_refl _, (stable_iff E f).1 (fun i => ?_)⟩
  rcases Nat.lt_or_ge i n with hl | hg
  ·have h1 := sweep_le E f i
   have h2 := sweep_nonneg E f h0 i
   rcases Int.lt_or_eq_of_le h1 with h3 | h3
   ·have := sm_lt i n hl (fun i _ => sweep_le E f i) h3
    have := sm_nonneg (sweep_nonneg E f h0) n
    omega
   ·exact h3
  ·exact sweep_out hE f hg
 | succ d ih =>
  intro f h0 hs
  by_cases h : ∀ i, sweep E f i = f i
  ·exact ⟨0, Nat.zero_le _, (stable_iff E f).1 h⟩
  ·obtain ⟨i, hi⟩ := Classical.not_forall.1 h
   have hin : i < n := by
    rcases Nat.lt_or_ge i n with hl | hg
    ·exact hl
    ·exact absurd (sweep_out hE f hg) hi
   have h1 := sweep_le E f i
   have := sm_lt i n hin (fun i _ => sweep_le E f i) (by omega)
   obtain ⟨N, hN, hst⟩ := ih (sweep E f) (sweep_nonneg E f h0) (by omega)
   refine ⟨1 + N, by omega, ?_⟩
   rw [swp_add]; exact hst
theorem edge_between {E : List (Nat × Nat)} {f m : Nat → Int} {N : Nat} (hm : swp E N f = m) (hst : Stable E m) {i : Nat} (hi : f i ≠ m i) : ∃ e, e ∈ E ∧ ((f e.1 = m e.1 ∧ f e.2 ≠ m e.2) ∨ (f e.1 ≠ m e.1 ∧ f e.2 = m e.2)) := by
 refine Classical.byContradiction fun hc => ?_
 have hboth : ∀ e, e ∈ E → (f e.1 = m e.1 ↔ f e.2 = m e.2) := fun e he => by
  refine Classical.byContradiction fun hb => hc ⟨e, he, ?_⟩
  by_cases h1 : f e.1 = m e.1 <;> by_cases h2 : f e.2 = m e.2
  ·exact absurd ⟨fun _ => h2, fun _ => h1⟩ hb
  ·exact .inl ⟨h1, h2⟩
  ·exact .inr ⟨h1, h2⟩
  ·exact absurd ⟨fun h => absurd h h1, fun h => absurd h h2⟩ hb
 have hle : ∀ i, m i ≤ f i := fun i => by rw [← hm]; exact swp_le E f i N
 -- what is above stays above
 have hsw : ∀ (E' : List (Nat × Nat)) (g : Nat → Int), (∀ e, e ∈ E' → e ∈ E) → (∀ j, f j ≠ m j → m j < g j) → ∀ j, f j ≠ m j → m j < sweep E' g j := by
  intro E'
  induction E' with
  | nil => intro g _ h; exact h
  | cons e E' ih =>
   intro g hsub h
   refine ih (upd g e.1 e.2) (fun e' he' => hsub e' (List.mem_cons_of_mem _ he')) (fun j hj => ?_)
   have heE := hsub e List.mem_cons_self
   have hst' := hst e heE
   have hb := hboth e heE
   unfold upd
   split
   ·rename_i h2
    rcases h2 with h2 | h2
    ·subst h2
     have h3 := h _ hj
     have h4 := h e.2 (fun hh => hj (hb.2 hh))
     omega
    ·subst h2
     have h3 := h _ hj
     have h4 := h e.1 (fun hh => hj (hb.1 hh))
     omega
   ·exact h j hj
 have hit : ∀ k, ∀ j, f j ≠ m j → m j < swp E k f j := by
  intro k
  induction k with
  | zero => intro j hj; have := hle j; simp only [swp]; omega
  | succ k ih => intro j hj; exact hsw E _ (fun _ h => h) ih j hj
 have := hit N i hi
 rw [hm] at this; omega
theorem one_more {E : List (Nat × Nat)} {n : Nat} (hE : ∀ e, e ∈ E → e.1 < n ∧ e.2 < n) {f m : Nat → Int} {N : Nat} (hm : swp E N f = m) (hst : Stable E m) {i : Nat} (hi : f i ≠ m i) : ∃ k, k < n ∧ f k ≠ m k ∧ sweep E f k = m k := by
 have hle : ∀ i, m i ≤ f i := fun i => by rw [← hm]; exact swp_le E f i N
 have hfold : ∀ (E' : List (Nat × Nat)) (g : Nat → Int), (∀ e, e ∈ E' → e ∈ E) → (∀ j, m j ≤ g j) → ∀ j, m j ≤ sweep E' g j := by
  intro E'
  induction E' with
  | nil => intro g _ h; exact h
  | cons e E' ih =>
   intro g hsub h
   refine ih (upd g e.1 e.2) (fun e' he' => hsub e' (List.mem_cons_of_mem _ he')) (fun j => ?_)
   have hst' := hst e (hsub e List.mem_cons_self)
   have h1 := h e.1
   have h2 := h e.2
   unfold upd
   split
   ·rename_i h3
    rcases h3 with h3 | h3 <;> subst h3 <;> omega
   ·exact h j
 obtain ⟨e, he, hcase⟩ := edge_between hm hst hi
 obtain ⟨E1, E2, rfl⟩ := List.append_of_mem he
 have hst' := hst e he
 have hg1 := hfold E1 f (fun e' h => List.mem_append_left _ h) hle
 have hsplit : ∀ j, sweep (E1 ++ e :: E2) f j = sweep E2 (upd (sweep E1 f) e.1 e.2) j := fun j => by
  simp only [sweep, List.foldl_append, List.foldl_cons]
 have hg2 : ∀ j, m j ≤ upd (sweep E1 f) e.1 e.2 j := fun j => by
  have h1 := hg1 e.1
  have h2 := hg1 e.2
  unfold upd
  split
  ·rename_i h3
   rcases h3 with h3 | h3 <;> subst h3 <;> omega
  ·exact hg1 j
 have hg3 := hfold E2 _ (fun e' h => List.mem_append_right _ (List.mem_cons_of_mem _ h)) hg2
 have hEe := hE e he
 rcases hcase with ⟨h1, h2⟩ | ⟨h1, h2⟩
 ·refine ⟨e.2, hEe.2, h2, ?_⟩
  have h3 := sweep_le E1 f e.1
  have h4 := sweep_le E2 (upd (sweep E1 f) e.1 e.2) e.2
  have h5 := hg3 e.2
  have h6 : upd (sweep E1 f) e.1 e.2 e.2 = min (sweep E1 f e.1) (sweep E1 f e.2) := by unfold upd; rw [if_pos (.inr rfl)]
  rw [hsplit]; omega
 ·refine ⟨e.1, hEe.1, h1, ?_⟩
  have h3 := sweep_le E1 f e.2
  have h4 := sweep_le E2 (upd (sweep E1 f) e.1 e.2) e.1
  have h5 := hg3 e.1
  have h6 : upd (sweep E1 f) e.1 e.2 e.1 = min (sweep E1 f e.1) (sweep E1 f e.2) := by unfold upd; rw [if_pos (.inl rfl)]
  rw [hsplit]; omega
theorem cnt_lt {Q R : Nat → Prop} (k : Nat) : ∀ n, k < n → (∀ i, i < n → Q i → R i) → ¬ Q k → R k → cnt Q n < cnt R n := fun n hk h hq hr => by
 have h1 := cnt_mono n h
 rcases Nat.lt_or_eq_of_le h1 with h2 | h2
 ·exact h2
 ·exact absurd (cnt_eq_sub n h h2 k hk hr) hq
theorem rest_within {E : List (Nat × Nat)} {n : Nat} (hE : ∀ e, e ∈ E → e.1 < n ∧ e.2 < n) (f : Nat → Int) (h0 : ∀ i, 0 ≤ f i) : Stable E (swp E n f) := by
 obtain ⟨N, _, hst⟩ := rest_exists hE (sm f n).toNat f h0 (by omega)
 generalize hm : swp E N f = m at hst
 have main : ∀ (k : Nat) (g : Nat → Int), (∃ M, swp E M g = m) → cnt (fun i => g i ≠ m i) n ≤ k → ∀ i, i < n → swp E k g i = m i := by
  intro k
  induction k with
  | zero =>
   intro g _ hc i hi
   refine Classical.byContradiction fun hne => ?_
   have := cnt_lt (Q := fun _ => False) (R := fun i => g i ≠ m i) i n hi (fun _ _ h => h.elim) id hne
   omega
  | succ k ih =>
   intro g hM hc
   by_cases hall : ∀ i, i < n → g i = m i
   ·intro i hi
    obtain ⟨M, hM⟩ := hM
    -- the rest is equal too
    have hg : Stable E g := fun e he => by rw [hall _ (hE e he).1, hall _ (hE e he).2]; exact hst e he
    rw [swp_stable hg]; exact hall i hi
   ·obtain ⟨i, hi⟩ := Classical.not_forall.1 hall
    have hne : g i ≠ m i := fun h => hi fun _ => h
    obtain ⟨M, hM⟩ := hM
    obtain ⟨j, hj, h1, h2⟩ := one_more hE hM hst hne
    have hle : ∀ i, m i ≤ sweep E g i := fun i => by
     cases M with
     | zero => simp only [swp] at hM; rw [hM, (stable_iff E m).2 hst]; exact Int.le_refl _
     | succ M =>
      rw [show M + 1 = 1 + M by omega, swp_add] at hM
      rw [← hM]; exact swp_le E _ i M
    have hlt := cnt_lt (Q := fun i => sweep E g i ≠ m i) (R := fun i => g i ≠ m i) j n hj (fun i _ h3 h4 => by
     have := hle i; have := sweep_le E g i; omega) (fun h => h h2) h1
    have hM' : ∃ M, swp E M (sweep E g) = m := by
     cases M with
     | zero =>
      refine ⟨0, ?_⟩
      simp only [swp] at hM ⊢
      rw [hM]; exact funext ((stable_iff E m).2 hst)
     | succ M => exact ⟨M, by rw [show M + 1 = 1 + M by omega, swp_add] at hM; exact hM⟩
    have := ih (sweep E g) hM' (by omega)
    intro i hi
    have h := this i hi
    rw [show k + 1 = 1 + k by omega, swp_add]; exact h
 have hfin := main n f ⟨N, hm⟩ (cnt_le _ _)
 intro e he
 rw [hfin _ (hE e he).1, hfin _ (hE e he).2]; exact hst e he
end Go.Proofs.Ytipkciildhghiaa.B.ParT

set_option linter.unusedVariables false
set_option linter.unusedSimpArgs false
namespace Go.Proofs.Ytipkciildhghiaa.B
open Go.RowKit Go.Proofs.YtipkciildhghiaaW.PrintWords
open SimT ParT

def tbl (n : Nat) (f : Nat → Int) : List Int := (List.range n).map f
theorem tbl_len (n : Nat) (f : Nat → Int) : (tbl n f).length = n := by simp [tbl]
theorem tbl_get {n : Nat} {f : Nat → Int} {i : Nat} (h : i < n) : (tbl n f).getD i 0 = f i := by simp [tbl, List.getD_eq_getElem?_getD, h]
theorem tbl_succ (n : Nat) (f : Nat → Int) : tbl (n + 1) f = tbl n f ++ [f n] := by simp [tbl, List.range_succ]
theorem tbl_congr {n : Nat} {f g : Nat → Int} (h : ∀ i, i < n → f i = g i) : tbl n f = tbl n g := List.map_congr_left (fun i hi => h i (List.mem_range.1 hi))
theorem tbl_set {n : Nat} {f : Nat → Int} {a : Nat} (x : Int) : (tbl n f).set a x = tbl n (fun i => if i = a then x else f i) := by
 refine List.ext_getElem (by simp [tbl]) (fun i h1 h2 => ?_)
 simp only [tbl, List.getElem_set, List.getElem_map, List.getElem_range]
 by_cases h : a = i
 ·subst h; simp
 ·rw [if_neg h, if_neg (fun h' => h h'.symm)]
theorem tbl_set2 {n : Nat} {f : Nat → Int} {a b : Nat} : ((tbl n f).set a (min (f a) (f b))).set b (min (f a) (f b)) = tbl n (upd f a b) := by
 rw [tbl_set, tbl_set]
 refine tbl_congr (fun i _ => ?_)
 unfold upd
 by_cases h1 : i = b
 ·rw [if_pos h1, if_pos (.inr h1)]
 ·rw [if_neg h1]
  by_cases h2 : i = a
  ·rw [if_pos h2, if_pos (.inl h2)]
  ·rw [if_neg h2, if_neg (fun h => h.elim h2 h1)]
theorem upd_eq {f : Nat → Int} {a b : Nat} (h : f a = f b) : upd f a b = f := by
 funext i
 unfold upd
 split
 ·rename_i h1
  rcases h1 with h1 | h1 <;> subst h1 <;> omega
 ·rfl
theorem minV (a b : Int) : z90.f a b = some (min a b) := by
 unfold z90.f
 split
 ·rw [show min a b = a by omega]
 ·rw [show min a b = b by omega]
theorem mn_min (a b : Int) : mn a b = min a b := by
 unfold mn
 split <;> omega
def swF : List (Nat × Nat) → (Nat → Int) → Bool → Bool
 | [], _, b => b
 | e :: E, f, b => swF E (upd f e.1 e.2) (b || (f e.1 != f e.2))
theorem swF_true : ∀ (E : List (Nat × Nat)) (f : Nat → Int), swF E f true = true
 | [], _ => rfl
 | e :: E, f => swF_true E _
theorem swF_stable : ∀ (E : List (Nat × Nat)) (f : Nat → Int), swF E f false = false ↔ Stable E f
 | [], f => ⟨fun _ e he => (by cases he), fun _ => rfl⟩
 | e :: E, f => by
  simp only [swF, Bool.false_or]
  by_cases h : f e.1 = f e.2
  ·rw [upd_eq h, show (f e.1 != f e.2) = false by simp [h], swF_stable E f]
   exact ⟨fun h1 e' he => (List.mem_cons.1 he).elim (fun h2 => by subst h2; exact h) (h1 e'), fun h1 e' he => h1 e' (List.mem_cons_of_mem _ he)⟩
  ·rw [show (f e.1 != f e.2) = true by simp [h], swF_true]
   exact ⟨fun h1 => (by cases h1), fun h1 => absurd (h1 e List.mem_cons_self) h⟩
theorem filt_prefix {p : Nat → Bool} {m : Nat} : ∀ n, m ≤ n → (∀ i, i < n → (p i = true ↔ i < m)) → filt p n = tbl m (fun i => (i : Int))
 | 0, h, _ => by
  have : m = 0 := by omega
  subst this; rfl
 | n + 1, h, hp => by
  rw [filt_succ]
  by_cases hm : m = n + 1
  ·subst hm
   rw [filt_prefix (m := n) n (Nat.le_refl _) (fun i hi => ⟨fun _ => hi, fun _ => (hp i (by omega)).2 (by omega)⟩), if_pos ((hp n (by omega)).2 (by omega)), tbl_succ]
  ·rw [filt_prefix n (by omega) (fun i hi => hp i (by omega)), if_neg (fun h1 => by have := (hp n (by omega)).1 h1; omega), List.append_nil]
theorem ones_prefix {C : List (List Int)} (hs : Srt C) (hne : ∀ s ∈ C, 1 ≤ s.length) : ∃ m, m ≤ C.length ∧ ∀ i, i < C.length → ((C.getD i []).length = 1 ↔ i < m) := by
 obtain ⟨m, hm, hl⟩ := least (q := fun j => C.length ≤ j ∨ (C.getD j []).length ≠ 1) ⟨C.length, .inl (Nat.le_refl _)⟩
 have hmC : m ≤ C.length := by
  rcases Nat.lt_or_ge C.length m with h | h
  ·exact absurd (.inl (Nat.le_refl _)) (hl _ h)
  ·exact h
 refine ⟨m, hmC, fun i hi => ⟨fun h1 => ?_, fun h1 => ?_⟩⟩
 ·rcases Nat.lt_or_ge i m with h | h
  ·exact h
  ·have h2 := hm.resolve_left (by omega)
   have h3 := hne _ (getD_mem ([] : List Int) (show m < C.length by omega))
   rcases Nat.lt_or_ge m i with h4 | h4
   ·have h5 := (slt_iff _ _).1 (srt_get hs h4 hi)
    omega
   ·have : m = i := by omega
    subst this; exact absurd h1 h2
 ·have := hl i h1
  exact Classical.byContradiction fun h => this (.inr h)
theorem sweep_comm {n : Nat} {v : Nat → Nat} (hinj : ∀ i j, i < n → j < n → v i = v j → i = j) : ∀ (E : List (Nat × Nat)) (f f' : Nat → Int), (∀ e ∈ E, e.1 < n ∧ e.2 < n) → (∀ i, i < n → f (v i) = f' i) → ∀ i, i < n → sweep (E.map fun e => (v e.1, v e.2)) f (v i) = sweep E f' i
 | [], f, f', _, h, i, hi => h i hi
 | e :: E, f, f', hE, h, i, hi => by
  have he := hE e List.mem_cons_self
  refine sweep_comm hinj E (upd f (v e.1) (v e.2)) (upd f' e.1 e.2) (fun e' h' => hE e' (List.mem_cons_of_mem _ h')) (fun j hj => ?_) i hi
  unfold upd
  rw [h _ he.1, h _ he.2, h _ hj]
  by_cases hc : j = e.1 ∨ j = e.2
  ·rw [if_pos hc, if_pos (hc.imp (fun h => by rw [h]) (fun h => by rw [h]))]
  ·rw [if_neg hc, if_neg (fun h => hc (h.imp (hinj _ _ hj he.1) (hinj _ _ hj he.2)))]
theorem swp_comm {n : Nat} {v : Nat → Nat} (hinj : ∀ i j, i < n → j < n → v i = v j → i = j) {E : List (Nat × Nat)} (hE : ∀ e ∈ E, e.1 < n ∧ e.2 < n) {f f' : Nat → Int} (h : ∀ i, i < n → f (v i) = f' i) : ∀ k i, i < n → swp (E.map fun e => (v e.1, v e.2)) k f (v i) = swp E k f' i
 | 0, i, hi => h i hi
 | k + 1, i, hi => sweep_comm hinj E _ _ hE (fun j hj => swp_comm hinj hE h k j hj) i hi

section
variable {C : List (List Int)} (hl : C.length ≤ 1048576) (hr : ∀ x ∈ C, x.length ≤ 1048576) {J : List Int} {n : Nat} {v : Nat → Nat} {E F : List (Nat × Nat)}
theorem impl_sweep (hJl : J.length ≤ 1048576) (hEl : E.length = J.length) (hE : ∀ j, j < J.length → ∃ q : Nat, J.getD j 0 = (q : Int) ∧ q < C.length ∧ C.getD q [] = [((E.getD j (0, 0)).1 : Int), ((E.getD j (0, 0)).2 : Int)] ∧ (E.getD j (0, 0)).1 < 10 ∧ (E.getD j (0, 0)).2 < 10) :
  ∀ (d j : Nat) (f : Nat → Int) (b : Bool), j + d = J.length → ∀ r, Ev (fun k => z59.l1 k (tbl 10 (sweep (E.drop j) f)) (swF (E.drop j) f b) C) r → Ev (fun k => z59.l2 k (tbl 10 f) b J (J.length : Int) (j : Int) C) r := by
 intro d
 induction d with
 | zero =>
  intro j f b hj r h
  rw [List.drop_of_length_le (by omega)] at h
  refine Ev.step (fun k => z59.l2.eq_2 ..) ?_
  exact ev_neg (by omega) h
 | succ d ih =>
  intro j f b hj r h
  obtain ⟨q, h1, h2, h3, h4, h5⟩ := hE j (by omega)
  have hd : E.drop j = E.getD j (0, 0) :: E.drop (j + 1) := by
   rw [List.drop_eq_getElem_cons (by omega), List.getD_eq_getElem?_getD, List.getElem?_eq_getElem (by omega)]; rfl
  rw [hd] at h
  generalize E.getD j (0, 0) = e at h h3 h4 h5
  obtain ⟨a, c⟩ := e
  dsimp only at h3 h4 h5
  have hstep := ih (j + 1) (upd f a c) (b || (f a != f c)) (by omega) r h
  refine Ev.step (fun k => z59.l2.eq_2 ..) ?_
  rw [rd_nat, h1, rdl_nat, h3, wrap_succ (by omega)]
  have e0 : rd [(a : Int), (c : Int)] 0 = (a : Int) := rfl
  have e1 : rd [(a : Int), (c : Int)] 1 = (c : Int) := rfl
  rw [e0, e1, rd_nat, rd_nat, tbl_get h4, tbl_get h5, tbl_len, mn_min, Int.toNat_natCast, Int.toNat_natCast, tbl_set2]
  refine ev_pos (by omega) (ev_pos (by omega) (ev_pos (by omega) (ev_pos (by omega) (ev_pos (by omega) (ev_pos (by simp) (ev_pos (by simp) (ev_pos (by omega) (ev_pos (by omega) (ev_pos (by omega) (ev_pos (by omega) ?_))))))))))
  by_cases he : f a = f c
  ·refine ev_pos he ?_
   rw [upd_eq he, show (b || (f a != f c)) = b by simp [he]] at hstep
   exact hstep
  ·refine ev_neg he ?_
   rw [show (b || (f a != f c)) = true by simp [he]] at hstep
   exact hstep
include hl hr in
theorem spec_sweep (hJl : J.length ≤ 1048576) (hFl : F.length = J.length) (hn : n ≤ 1048576) (hF : ∀ j, j < J.length → ∃ (q : Nat) (a c : Int), J.getD j 0 = (q : Int) ∧ q < C.length ∧ C.getD q [] = [a, c] ∧ idx C [a] = ((F.getD j (0, 0)).1 : Int) ∧ idx C [c] = ((F.getD j (0, 0)).2 : Int) ∧ (F.getD j (0, 0)).1 < n ∧ (F.getD j (0, 0)).2 < n) :
  ∀ (d j : Nat) (f : Nat → Int) (t : Int), j + d = J.length → ∀ r, Ev (fun k => z57.l1 k (tbl n (sweep (F.drop j) f)) J (wrap64 (t + 1)) C) r → Ev (fun k => z57.l2 k (tbl n f) J t (j : Int) C) r := by
 intro d
 induction d with
 | zero =>
  intro j f t hj r h
  rw [List.drop_of_length_le (by omega)] at h
  refine Ev.step (fun k => z57.l2.eq_2 ..) ?_
  exact ev_neg (by omega) h
 | succ d ih =>
  intro j f t hj r h
  obtain ⟨q, x, y, h1, h2, h3, h4, h5, h6, h7⟩ := hF j (by omega)
  have hd : F.drop j = F.getD j (0, 0) :: F.drop (j + 1) := by
   rw [List.drop_eq_getElem_cons (by omega), List.getD_eq_getElem?_getD, List.getElem?_eq_getElem (by omega)]; rfl
  rw [hd] at h
  generalize F.getD j (0, 0) = e at h h4 h5 h6 h7
  obtain ⟨a, c⟩ := e
  dsimp only at h4 h5 h6 h7
  have hstep := ih (j + 1) (upd f a c) t (by omega) r h
  have hf1 := find_ev C [x] (by omega) (fun z hz => by have := hr z hz; omega)
  have hf2 := find_ev C [y] (by omega) (fun z hz => by have := hr z hz; omega)
  rw [h4] at hf1
  rw [h5] at hf2
  refine Ev.step (fun k => z57.l2.eq_2 ..) ?_
  rw [rd_nat, h1, rdl_nat, h3, wrap_succ (by omega)]
  refine ev_pos (by omega) (ev_pos (by omega) (ev_pos (by omega) (ev_pos (by omega) (ev_pos (by simp) (Ev.bind hf1 (Ev.bind hf2 ?_))))))
  rw [tbl_len, rd_nat, rd_nat, tbl_get h6, tbl_get h7]
  refine ev_pos (by omega) (ev_pos (by omega) (ev_pos (by omega) (ev_pos (by omega) (Ev.bind (ev_const (minV _ _)) ?_))))
  rw [Int.toNat_natCast, Int.toNat_natCast, tbl_set2]
  exact hstep
end
theorem len_two {l : List Int} (h : l.length = 2) : ∃ a c, l = [a, c] := by
 match l, h with
 | [a, c], _ => exact ⟨a, c, rfl⟩
theorem rd_zero (l : List Int) : rd l 0 = l.getD 0 0 := by simp [rd]
theorem rd_one (l : List Int) : rd l 1 = l.getD 1 0 := by simp [rd]
theorem simplex_mem {s : List Int} (h : isSimplex s = true) {x : Int} (hx : x ∈ s) : 0 ≤ x ∧ x ≤ 9 := by
 unfold isSimplex at h
 simp only [Bool.and_eq_true, List.all_eq_true, decide_eq_true_eq] at h
 exact h.2.2 x hx
theorem map_getD {α β : Type} (g : α → β) (l : List α) (z : α) (y : β) {j : Nat} (hj : j < l.length) : (l.map g).getD j y = g (l.getD j z) := by
 simp [List.getD_eq_getElem?_getD, hj]
theorem parts_both {C : List (List Int)} (hl : C.length ≤ 1048576) (hr : ∀ x ∈ C, x.length ≤ 1048576) (ho : okC C = true) : ∃ l : List Int, l.length ≤ 48 ∧ Ev (fun k => z59.f k C) l ∧ Ev (fun k => z57.f k C) l := by
 obtain ⟨h48, hs, hsim, hcl⟩ := okC_iff.1 ho
 obtain ⟨n, hnC, hn⟩ := ones_prefix hs (fun s h => (simplex_len (hsim s h)).1)
 obtain ⟨vf, hvf⟩ : ∃ vf : Nat → Int, ∀ i, vf i = (C.getD i []).getD 0 0 := ⟨_, fun _ => rfl⟩
 obtain ⟨v, hv⟩ : ∃ v : Nat → Nat, ∀ i, v i = (vf i).toNat := ⟨_, fun _ => rfl⟩
 have hone : ∀ i, i < n → C.getD i [] = [vf i] ∧ 0 ≤ vf i ∧ vf i ≤ 9 := by
  intro i hi
  have hm := getD_mem ([] : List Int) (show i < C.length by omega)
  have h1 := (hn i (by omega)).2 hi
  obtain ⟨x, hx⟩ := List.length_eq_one_iff.1 h1
  have he : vf i = x := by rw [hvf, hx]; rfl
  have h2 := simplex_mem (hsim _ hm) (x := x) (by rw [hx]; simp)
  rw [he]
  exact ⟨hx, h2⟩
 have hvi : ∀ i, i < n → ((v i : Nat) : Int) = vf i := fun i hi => by rw [hv]; have := (hone i hi).2.1; omega
 have hv10 : ∀ i, i < n → v i < 10 := fun i hi => by have := hvi i hi; have := (hone i hi).2.2; omega
 have hinj : ∀ i j, i < n → j < n → v i = v j → i = j := by
  intro i j hi hj he
  have e : C.getD i [] = C.getD j [] := by rw [(hone i hi).1, (hone j hj).1, ← hvi i hi, ← hvi j hj, he]
  rcases Nat.lt_trichotomy i j with h | h | h
  ·exact absurd e (slt_ne (srt_get hs h (by omega)))
  ·exact h
  ·exact absurd e.symm (slt_ne (srt_get hs h (by omega)))
 have hidx : ∀ x : Int, [x] ∈ C → ∃ i : Nat, idx C [x] = (i : Int) ∧ i < n ∧ vf i = x := by
  intro x hx
  obtain ⟨i, hi, h1, h2, _⟩ := idx_get hx
  refine ⟨i, h1, (hn i hi).1 (by rw [h2]; rfl), ?_⟩
  rw [hvf, h2]; rfl
 obtain ⟨J, hJ⟩ : ∃ J, J = ofDim C 1 := ⟨_, rfl⟩
 obtain ⟨F, hF⟩ : ∃ F : List (Nat × Nat), F = J.map (fun x => ((idx C [(C.getD x.toNat []).getD 0 0]).toNat, (idx C [(C.getD x.toNat []).getD 1 0]).toNat)) := ⟨_, rfl⟩
 obtain ⟨E, hE⟩ : ∃ E : List (Nat × Nat), E = F.map (fun e => (v e.1, v e.2)) := ⟨_, rfl⟩
 have hJl : J.length ≤ 48 := by rw [hJ]; exact Nat.le_trans (filt_le _ _) h48
 have hFl : F.length = J.length := by rw [hF, List.length_map]
 have hEl : E.length = J.length := by rw [hE, List.length_map, hFl]
 have hedge : ∀ j, j < J.length → ∃ (q : Nat) (a c : Int) (i i2 : Nat), J.getD j 0 = (q : Int) ∧ q < C.length ∧ C.getD q [] = [a, c] ∧ idx C [a] = (i : Int) ∧ idx C [c] = (i2 : Int) ∧ i < n ∧ i2 < n ∧ vf i = a ∧ vf i2 = c ∧ F.getD j (0, 0) = (i, i2) := by
  intro j hj
  have hm : J.getD j 0 ∈ J := getD_mem (0 : Int) hj
  obtain ⟨q, hq, hp, he⟩ := mem_filt.1 (by rw [hJ] at hm; exact hm)
  rw [← hJ] at he
  have hlen : (C.getD q []).length = 2 := by have := of_decide_eq_true hp; omega
  have hqm := getD_mem ([] : List Int) hq
  obtain ⟨a, c, hac⟩ := len_two hlen
  have hc0 := hcl _ hqm (by omega) 0 (by omega)
  have hc1 := hcl _ hqm (by omega) 1 (by omega)
  rw [hac] at hc0 hc1
  obtain ⟨i, h1, h2, h3⟩ := hidx a hc1
  obtain ⟨i2, h4, h5, h6⟩ := hidx c hc0
  refine ⟨q, a, c, i, i2, he, hq, hac, h1, h4, h2, h5, h3, h6, ?_⟩
  rw [hF, map_getD _ J 0 (0, 0) hj, he, Int.toNat_natCast, hac]
  show ((idx C [a]).toNat, (idx C [c]).toNat) = (i, i2)
  rw [h1, h4]; rfl
 have hF1 : ∀ j, j < J.length → ∃ (q : Nat) (a c : Int), J.getD j 0 = (q : Int) ∧ q < C.length ∧ C.getD q [] = [a, c] ∧ idx C [a] = ((F.getD j (0, 0)).1 : Int) ∧ idx C [c] = ((F.getD j (0, 0)).2 : Int) ∧ (F.getD j (0, 0)).1 < n ∧ (F.getD j (0, 0)).2 < n := by
  intro j hj
  obtain ⟨q, a, c, i, i2, h1, h2, h3, h4, h5, h6, h7, _, _, h8⟩ := hedge j hj
  rw [h8]
  exact ⟨q, a, c, h1, h2, h3, h4, h5, h6, h7⟩
 have hE1 : ∀ j, j < J.length → ∃ q : Nat, J.getD j 0 = (q : Int) ∧ q < C.length ∧ C.getD q [] = [((E.getD j (0, 0)).1 : Int), ((E.getD j (0, 0)).2 : Int)] ∧ (E.getD j (0, 0)).1 < 10 ∧ (E.getD j (0, 0)).2 < 10 := by
  intro j hj
  obtain ⟨q, a, c, i, i2, h1, h2, h3, h4, h5, h6, h7, h9, h10, h8⟩ := hedge j hj
  have e : E.getD j (0, 0) = (v i, v i2) := by rw [hE, map_getD _ F (0, 0) (0, 0) (by omega), h8]
  rw [e]
  refine ⟨q, h1, h2, ?_, hv10 i h6, hv10 i2 h7⟩
  rw [h3]
  show [a, c] = [((v i : Nat) : Int), ((v i2 : Nat) : Int)]
  rw [hvi i h6, hvi i2 h7, h9, h10]
 have hmemF : ∀ e ∈ F, e.1 < n ∧ e.2 < n := by
  intro e he
  obtain ⟨j, hj, rfl⟩ := List.getElem_of_mem he
  obtain ⟨q, a, c, i, i2, _, _, _, _, _, h6, h7, _, _, h8⟩ := hedge j (by omega)
  have : F.getD j (0, 0) = F[j] := by rw [List.getD_eq_getElem?_getD, List.getElem?_eq_getElem hj]; rfl
  rw [← this, h8]
  exact ⟨h6, h7⟩
 have hmemE : ∀ e ∈ E, e.1 < 10 ∧ e.2 < 10 := by
  intro e he
  rw [hE] at he
  obtain ⟨e', h1, rfl⟩ := List.mem_map.1 he
  exact ⟨hv10 _ (hmemF e' h1).1, hv10 _ (hmemF e' h1).2⟩
 have hJ1 := simplicesOf_ev (C := C) hl (d := 1) (by omega) (by omega)
 have hJ2 := specOf_ev (C := C) hl (d := 1) (by omega) (by omega)
 have hW := specOf_ev (C := C) hl (d := 0) (by omega) (by omega)
 rw [← hJ] at hJ1 hJ2
 have hW0 : ofDim C 0 = tbl n (fun i => (i : Int)) := filt_prefix C.length hnC (fun i hi => by
  rw [decide_eq_true_eq, ← hn i hi]; omega)
 rw [hW0] at hW
 -- the reference
 have hrounds : ∀ (d t : Nat), t + d = n → Ev (fun k => z57.l1 k (tbl n (swp F t vf)) J (t : Int) C) (tbl n (swp F n vf)) := by
  intro d
  induction d with
  | zero =>
   intro t ht
   have : t = n := by omega
   subst this
   refine Ev.step (fun k => z57.l1.eq_2 ..) ?_
   rw [tbl_len]
   exact ev_neg (by omega) (Ev.now _)
  | succ d ih =>
   intro t ht
   refine Ev.step (fun k => z57.l1.eq_2 ..) ?_
   rw [tbl_len]
   refine ev_pos (by omega) ?_
   have h := ih (t + 1) (by omega)
   rw [← wrap_succ (by omega)] at h
   exact spec_sweep hl hr (n := n) (by omega) hFl (by omega) hF1 J.length 0 (swp F t vf) (t : Int) (by omega) _ h
 have hspec : Ev (fun k => z57.f k C) (tbl n (swp F n vf)) := by
  unfold z57.f
  refine Ev.bind hW ?_
  have main : ∀ (d j : Nat), j + d = n → Ev (fun k => z57.l0 k (tbl n (fun i => (i : Int))) (tbl j vf) (j : Int) C) (tbl n (swp F n vf)) := by
   intro d
   induction d with
   | zero =>
    intro j hj
    have : j = n := by omega
    subst this
    refine Ev.step (fun k => z57.l0.eq_2 ..) ?_
    rw [tbl_len]
    exact ev_neg (by omega) (Ev.bind hJ2 (hrounds j 0 (by omega)))
   | succ d ih =>
    intro j hj
    have h := ih (j + 1) (by omega)
    rw [tbl_succ] at h
    refine Ev.step (fun k => z57.l0.eq_2 ..) ?_
    rw [tbl_len, rd_nat, tbl_get (show j < n by omega), rdl_nat, wrap_succ (by omega), rd_zero, ← hvf, tbl_len]
    refine ev_pos (by omega) (ev_pos (by omega) (ev_pos (by omega) (ev_pos (by omega) (ev_pos ?_ (ev_pos (by omega) h)))))
    rw [(hone j (by omega)).1]; simp
  exact main n 0 (by omega)
 -- the program
 have hverts : Ev (fun k => z112.f k C) (tbl n vf) := by
  unfold z112.f
  have main : ∀ (d j : Nat), j + d = C.length → Ev (fun k => z112.l0 k (tbl (min j n) vf) C (C.length : Int) (j : Int)) (tbl n vf) := by
   intro d
   induction d with
   | zero =>
    intro j hj
    refine Ev.step (fun k => z112.l0.eq_2 ..) ?_
    rw [show min j n = n by omega]
    exact ev_neg (by omega) (Ev.now _)
   | succ d ih =>
    intro j hj
    have h := ih (j + 1) (by omega)
    refine Ev.step (fun k => z112.l0.eq_2 ..) ?_
    rw [rdl_nat, wrap_succ (by omega), rd_zero, ← hvf, tbl_len]
    refine ev_pos (by omega) (ev_pos (by omega) (ev_pos (by omega) ?_))
    by_cases hjn : j < n
    ·have h1 := (hn j (by omega)).2 hjn
     rw [show min (j + 1) n = j + 1 by omega, tbl_succ] at h
     rw [show min j n = j by omega]
     exact ev_pos (by omega) (ev_pos (by omega) (ev_pos (by omega) h))
    ·have h1 : (C.getD j []).length ≠ 1 := fun h2 => hjn ((hn j (by omega)).1 h2)
     rw [show min (j + 1) n = min j n by omega] at h
     exact ev_neg (by omega) h
  have := main C.length 0 (by omega)
  simpa [tbl] using this
 have hlast : ∀ m : Nat → Int, Ev (fun k => z59.l3 k (tbl 10 m) ([] : List Int) (tbl n vf) ((tbl n vf).length : Int) 0) (tbl n (fun i => m (v i))) := by
  intro m
  have main : ∀ (d j : Nat), j + d = n → Ev (fun k => z59.l3 k (tbl 10 m) (tbl j (fun i => m (v i))) (tbl n vf) (n : Int) (j : Int)) (tbl n (fun i => m (v i))) := by
   intro d
   induction d with
   | zero =>
    intro j hj
    have : j = n := by omega
    subst this
    refine Ev.step (fun k => z59.l3.eq_2 ..) ?_
    exact ev_neg (by omega) (Ev.now _)
   | succ d ih =>
    intro j hj
    have h := ih (j + 1) (by omega)
    rw [tbl_succ j] at h
    have h10 := hv10 j (by omega)
    refine Ev.step (fun k => z59.l3.eq_2 ..) ?_
    rw [rd_nat, tbl_get (show j < n by omega), ← hvi j (by omega), rd_nat, tbl_get h10, wrap_succ (by omega), tbl_len, tbl_len, tbl_len]
    exact ev_pos (by omega) (ev_pos (by omega) (ev_pos (by omega) (ev_pos (by omega) (ev_pos (by omega) (ev_pos (by omega) h)))))
  have := main n 0 (by omega)
  rw [tbl_len]
  exact this
 have hrest : ∀ (d : Nat) (f : Nat → Int), Stable E (swp E d f) → ∃ N, Stable E (swp E N f) ∧ Ev (fun k => z59.l1 k (tbl 10 f) true C) (tbl n (fun i => swp E N f (v i))) := by
  intro d
  induction d with
  | zero =>
   intro f hst
   have hst' : Stable E f := hst
   refine ⟨0, hst, ?_⟩
   refine Ev.step (fun k => z59.l1.eq_2 ..) ?_
   refine ev_pos rfl (Ev.bind hJ1 ?_)
   refine impl_sweep (C := C) (by omega) hEl hE1 J.length 0 f false (by omega) _ ?_
   rw [List.drop_zero, (swF_stable E f).2 hst', show sweep E f = f from funext ((stable_iff E f).2 hst')]
   refine Ev.step (fun k => z59.l1.eq_2 ..) ?_
   exact ev_neg (by decide) (Ev.bind hverts (hlast f))
  | succ d ih =>
   intro f hst
   by_cases hst' : Stable E f
   ·refine ⟨0, hst', ?_⟩
    refine Ev.step (fun k => z59.l1.eq_2 ..) ?_
    refine ev_pos rfl (Ev.bind hJ1 ?_)
    refine impl_sweep (C := C) (by omega) hEl hE1 J.length 0 f false (by omega) _ ?_
    rw [List.drop_zero, (swF_stable E f).2 hst', show sweep E f = f from funext ((stable_iff E f).2 hst')]
    refine Ev.step (fun k => z59.l1.eq_2 ..) ?_
    exact ev_neg (by decide) (Ev.bind hverts (hlast f))
   ·rw [Nat.add_comm, swp_add] at hst
    obtain ⟨N, h1, h2⟩ := ih (sweep E f) hst
    refine ⟨1 + N, by rw [swp_add]; exact h1, ?_⟩
    have e : (fun i => swp E (1 + N) f (v i)) = fun i => swp E N (sweep E f) (v i) := by funext i; rw [swp_add]; rfl
    rw [e]
    have hflag : swF E f false = true := by
     cases h : swF E f false with
     | true => rfl
     | false => exact absurd ((swF_stable E f).1 h) hst'
    refine Ev.step (fun k => z59.l1.eq_2 ..) ?_
    refine ev_pos rfl (Ev.bind hJ1 ?_)
    refine impl_sweep (C := C) (by omega) hEl hE1 J.length 0 f false (by omega) _ ?_
    rw [List.drop_zero, hflag]
    exact h2
 obtain ⟨N, hst, himpl⟩ := hrest 10 (fun i => (i : Int)) (rest_within hmemE _ (fun i => by omega))
 have hstF := rest_within hmemF (fun i => if i < n then vf i else 0) (fun i => by
  show 0 ≤ (if i < n then vf i else 0)
  split
  ·rename_i h; exact (hone i h).2.1
  ·omega)
 -- the same
 have hsame : ∀ i, i < n → swp E N (fun i => (i : Int)) (v i) = swp F n vf i := by
  have hid : ∀ k i, i < n → swp F k (fun i => if i < n then vf i else 0) i = swp F k vf i := by
   intro k i hi
   have h := swp_comm (n := n) (v := fun i => i) (fun _ _ _ _ h => h) hmemF (f := fun i => if i < n then vf i else 0) (f' := vf) (fun i hi => if_pos hi) k i hi
   simpa using h
  have hcm : ∀ k i, i < n → swp E k (fun i => (i : Int)) (v i) = swp F k (fun i => if i < n then vf i else 0) i := by
   intro k i hi
   rw [hE]
   exact swp_comm hinj hmemF (fun i hi => by rw [if_pos hi]; exact hvi i hi) k i hi
  intro i hi
  have h1 : swp E (N + n) (fun i => (i : Int)) = swp E N (fun i => (i : Int)) := by rw [swp_add]; exact swp_stable hst n
  have h2 : swp F (n + N) (fun i => if i < n then vf i else 0) = swp F n (fun i => if i < n then vf i else 0) := by rw [swp_add]; exact swp_stable hstF N
  rw [← h1, hcm _ i hi, Nat.add_comm, h2, hid n i hi]
 refine ⟨tbl n (swp F n vf), by rw [tbl_len]; omega, ?_, hspec⟩
 rw [← tbl_congr hsame]
 unfold z59.f
 refine ev_pos (by omega) (Ev.bind (ev_const rfl) ?_)
 have main : ∀ (d j : Nat), j + d = 10 → Ev (fun k => z59.l0 k (tbl 10 (fun i => if i < j then (i : Int) else 0)) (10 : Int) (j : Int) C) (tbl n (fun i => swp E N (fun i => (i : Int)) (v i))) := by
  intro d
  induction d with
  | zero =>
   intro j hj
   have : j = 10 := by omega
   subst this
   refine Ev.step (fun k => z59.l0.eq_2 ..) ?_
   rw [tbl_congr (n := 10) (g := fun i => (i : Int)) (fun i hi => if_pos hi)]
   exact ev_neg (by omega) himpl
  | succ d ih =>
   intro j hj
   have h := ih (j + 1) (by omega)
   refine Ev.step (fun k => z59.l0.eq_2 ..) ?_
   rw [tbl_len, Int.toNat_natCast, tbl_set, wrap_succ (by omega)]
   rw [tbl_congr (n := 10) (g := fun i => if i = j then (j : Int) else if i < j then (i : Int) else 0) (fun i hi => by
    by_cases h1 : i = j
    ·rw [if_pos h1, if_pos (by omega)]; omega
    ·rw [if_neg h1]
     by_cases h2 : i < j
     ·rw [if_pos h2, if_pos (by omega)]
     ·rw [if_neg h2, if_neg (by omega)])] at h
   exact ev_pos (by omega) (ev_pos (by omega) (ev_pos (by omega) h))
 exact main 10 0 (by omega)
theorem PartsOf_both {C : List (List Int)} (hl : C.length ≤ 1048576) (hr : ∀ x ∈ C, x.length ≤ 1048576) : ∃ g : List Int × Int, g.1.length ≤ 48 ∧ Ev (fun k => z18.f k C) g ∧ Ev (fun k => z16.f k C) g := by
 unfold z18.f z16.f
 have h1 := implValid_ev C hl hr
 have h2 := specOk_ev C hl hr
 cases ho : okC C with
 | false =>
  rw [ho] at h1 h2
  exact ⟨([], 1), by simp, Ev.bind h1 (ev_neg (by decide) (Ev.now _)), Ev.bind h2 (ev_neg (by decide) (Ev.now _))⟩
 | true =>
  rw [ho] at h1 h2
  obtain ⟨l, h3, h4, h5⟩ := parts_both hl hr ho
  exact ⟨(l, 0), h3, Ev.bind h1 (ev_pos rfl (Ev.bind h4 (Ev.now _))), Ev.bind h2 (ev_pos rfl (Ev.bind h5 (Ev.now _)))⟩
theorem pure_PartsOf {l0 : List (List Int)} (h0 : WfLL l0) : ∃ k, z3.f k l0 = some true := by
 refine Ev.rounds (g := fun k => z3.f k l0) ?_
 unfold z3.f
 rcases szComplex_ev l0 1048576 h0 (by omega) (by omega) with ⟨t, ht, hn⟩ | ⟨ht, hb⟩
 ·exact Ev.bind ht (ev_pos hn (Ev.now _))
 have htn := total_nonneg l0
 have hrow : ∀ x ∈ l0, x.length ≤ 1048576 := fun x hx => by have := row_le_total l0 x hx; omega
 have hlen : l0.length ≤ 1048576 := by omega
 have hto := toComplex_ev l0 hlen hrow
 have heq := eqComplex_self l0 (by omega) (fun x hx => by have := hrow x hx; omega)
 refine Ev.bind ht (ev_neg (by omega) ?_)
 obtain ⟨⟨g0, g1⟩, hs, him, hsp⟩ := PartsOf_both hlen hrow
 dsimp only at hs
 have heg := eqInt64S_self g0 (by omega)
 have hm1 : laws_markComplex.f l0 1 = some (1 + total l0, markRows l0 1) := mark_val l0 1 (by omega) (by omega)
 have hm2 := markInt64S_mark g0 1 (by omega) (by omega)
 have hh := heldInt64S_ev g0 1 (by omega) (by omega)
 (repeat (first | exact Ev.now _ | refine ev_pos rfl ?_ | refine ev_neg (by simp only []; omega) ?_ | refine ev_neg (by omega) ?_ | refine ev_neg (by simp) ?_ | refine Ev.bind (by assumption) ?_ | refine Ev.bind (ev_const (by assumption)) ?_))
end Go.Proofs.Ytipkciildhghiaa.B

