/- What the functions come to, for the law FnExactConeOf. -/
import Derived.Test.YtipkciildhghiaaKACJNFL0
import Derived.Test.YtipkciildhghiaaKCKDKEJ0
import Derived.Test.YtipkciildhghiaaKEFFBOB0
import Derived.Test.YtipkciildhghiaaKFOPLED0
import Derived.Test.YtipkciildhghiaaKHBMFCL0
import Derived.Test.YtipkciildhghiaaKKGKIJD0
import Derived.Test.YtipkciildhghiaaKLCLAHA0
import Derived.Test.YtipkciildhghiaaKMPLHLC0
import Derived.Test.YtipkciildhghiaaKNAGEJL0
import Derived.Test.YtipkciildhghiaaKNDOBGI0
import Derived.Test.YtipkciildhghiaaKPPIGCD0
import Derived.Test.YtipkciildhghiaaKW0
set_option linter.unusedVariables false
set_option linter.unusedSimpArgs false
namespace Go.Proofs.Ytipkciildhghiaa.B
open Go.RowKit Go.Proofs.YtipkciildhghiaaW.PrintWords
theorem row_le_total : ∀ (l : List (List Int)) (x : List Int), x ∈ l → x.length ≤ total l
 | [], x, h => by cases h
 | y :: l, x, h => by
  simp only [total]
  rcases List.mem_cons.1 h with rfl | h
  ·have := total_nonneg l; omega
  ·have := row_le_total l x h; omega
theorem total_le_of {l : List (List Int)} {m : Nat} (h : ∀ x ∈ l, x.length ≤ m) : total l ≤ l.length * m := by
 induction l with
 | nil => simp [total]
 | cons x l ih =>
  have h1 := h x List.mem_cons_self
  have h2 := ih (fun y hy => h y (List.mem_cons_of_mem _ hy))
  simp only [total, List.length_cons]
  rw [Int.natCast_add, Int.add_mul]
  omega
theorem eqComplex_self (l : List (List Int)) (hl : l.length < 9223372036854775807) (hr : ∀ x ∈ l, x.length < 9223372036854775807) : Ev (fun k => z20.f k l l) true := by
 unfold z20.f
 exact Ev.bind (ev_eq (eqInt64SS_ev l l hl hr) (beq_self_eq_true l)) (ev_pos rfl (Ev.now _))
theorem toComplex_ev (l : List (List Int)) (hl : l.length ≤ 1048576) (hr : ∀ x ∈ l, x.length ≤ 1048576) : Ev (fun k => z17.f k l) l := by
 unfold z17.f
 exact Ev.bind (toInt64SS_ev l hl hr) (Ev.now _)
theorem szComplex_ev (l : List (List Int)) (b : Int) (hw : WfLL l) (h0 : 0 ≤ b) (h1 : b ≤ 9223372036854775807) :
  (∃ t, Ev (fun k => z15.f k l b) t ∧ t < 0) ∨ (Ev (fun k => z15.f k l b) (b - l.length - total l) ∧ l.length + total l ≤ b) := by
 unfold z15.f
 rcases szInt64SS_ev l b hw h0 h1 with ⟨t, ht, hn⟩ | ⟨ht, hb⟩
 ·exact .inl ⟨-1, Ev.bind ht (ev_pos hn (Ev.now _)), by omega⟩
 ·exact .inr ⟨Ev.bind ht (ev_neg (by omega) (Ev.now _)), hb⟩
end Go.Proofs.Ytipkciildhghiaa.B
set_option linter.unusedVariables false
set_option linter.unusedSimpArgs false
namespace Go.Proofs.Ytipkciildhghiaa.B
open Go.RowKit Go.Proofs.YtipkciildhghiaaW.PrintWords
theorem mark_val (l : List (List Int)) (a : Int) (h0 : 0 ≤ a) (h1 : a + total l ≤ 9223372036854775807) : laws_markInt64SS.f l a = some (a + total l, markRows l a) := by
 unfold laws_markInt64SS.f
 rw [if_pos ⟨h0, h1⟩]
theorem markInts_get : ∀ (l : List Int) (a : Int) (i : Nat), i < l.length → (markInts l a).getD i 0 = a + i
 | [], a, i, h => by simp at h
 | x :: l, a, 0, h => by simp [markInts]
 | x :: l, a, i + 1, h => by
  have := markInts_get l (a + 1) i (by simpa using h)
  simp only [markInts, List.getD_cons_succ, this]
  omega
theorem heldInt64S_ev (l : List Int) (a : Int) (h0 : 0 ≤ a) (h1 : a + l.length ≤ 9223372036854775807) : Ev (fun k => z23.f k (markInts l a) a) (a + l.length) := by
 unfold z23.f
 have h := ev_find (r := a + l.length) (fun (i : Nat) k => z23.l0 k (markInts l a) (a + i) (i : Int)) (fun _ => false) l.length 0 (fun j _ hj _ r hr => by
  refine Ev.step (fun k => z23.l0.eq_2 ..) ?_
  rw [rd_nat, markInts_get l a j (by omega), markInts_length, wrap_succ (by omega), wrap_small (by omega) (by omega), show a + (j : Int) + 1 = a + ((j + 1 : Nat) : Int) by omega]
  (repeat (first | refine ev_pos (by omega) ?_ | refine ev_neg (by omega) ?_))
  exact hr) (fun _ _ _ h => by cases h) (fun _ => by
  refine Ev.step (fun k => z23.l0.eq_2 ..) ?_
  rw [markInts_length]
  exact ev_neg (by omega) (ev_eq (Ev.now _) (by omega)))
 simpa using h
theorem markRows_get : ∀ (l : List (List Int)) (a : Int) (i : Nat), i < l.length → (markRows l a).getD i [] = markInts (l.getD i []) (a + total (l.take i))
 | [], a, i, h => by simp at h
 | x :: l, a, 0, h => by simp [markRows, total]
 | x :: l, a, i + 1, h => by
  have := markRows_get l (a + x.length) i (by simpa using h)
  simp only [markRows, List.getD_cons_succ, this, List.take_succ_cons, total]
  congr 1
  omega
theorem total_take_succ' (l0 : List (List Int)) (k : Nat) (hk : k < l0.length) : total (l0.take (k + 1)) = total (l0.take k) + (l0.getD k []).length := by
 have ht : l0.take (k + 1) = l0.take k ++ [l0.getD k []] := by
  rw [List.take_succ_eq_append_getElem hk, List.getD_eq_getElem?_getD, List.getElem?_eq_getElem hk]; rfl
 rw [ht, total_append]; simp [total]
theorem total_take_le' (l0 : List (List Int)) (k : Nat) : total (l0.take k) ≤ total l0 := by
 have h := total_append (l0.take k) (l0.drop k)
 rw [List.take_append_drop] at h
 have := total_nonneg (l0.drop k)
 omega
theorem heldInt64SS_ev (l : List (List Int)) (a : Int) (h0 : 0 ≤ a) (h1 : a + total l ≤ 9223372036854775807) (hl : l.length < 9223372036854775807) : Ev (fun k => z51.f k (markRows l a) a) (a + total l) := by
 unfold z51.f
 have h := ev_find (r := a + total l) (fun (i : Nat) k => z51.l0 k (markRows l a) (a + total (l.take i)) (i : Int)) (fun _ => false) l.length 0 (fun j _ hj _ r hr => by
  have hrd : rI_ (markRows l a) (j : Int) = markInts (l.getD j []) (a + total (l.take j)) := by
   rw [← markRows_get l a j (by omega)]; simp [rI_]
  have e1 := total_take_succ' l j (by omega)
  have e2 := total_take_le' l (j + 1)
  have e3 := total_nonneg (l.take j)
  refine Ev.step (fun k => z51.l0.eq_2 ..) ?_
  rw [hrd, markRows_length, wrap_succ (by omega)]
  (repeat (first | refine ev_pos (by omega) ?_ | refine ev_neg (by omega) ?_))
  refine Ev.bind (heldInt64S_ev _ _ (by omega) (by omega)) (ev_neg (by omega) ?_)
  rw [show a + total (l.take j) + ((l.getD j []).length : Int) = a + total (l.take (j + 1)) by omega]
  exact hr) (fun _ _ _ h => by cases h) (fun _ => by
  refine Ev.step (fun k => z51.l0.eq_2 ..) ?_
  rw [markRows_length]
  refine ev_neg (by omega) (ev_eq (Ev.now _) ?_)
  rw [Nat.zero_add, List.take_length])
 simpa [total] using h
end Go.Proofs.Ytipkciildhghiaa.B
set_option linter.unusedVariables false
set_option linter.unusedSimpArgs false
namespace Go.Proofs.Ytipkciildhghiaa.B
open Go.RowKit Go.Proofs.YtipkciildhghiaaW.PrintWords
open SimT
theorem apart_srt {l : List (List Int)} (h : Srt l) : apart l = true := by
 unfold apart
 rw [List.all_eq_true]
 intro j hj
 rw [List.mem_range] at hj
 have := slt_ne (srt_get h (i := j) (j := j + 1) (by omega) (by omega))
 simpa using fun e => this e.symm
theorem heldComplex_ev (l : List (List Int)) (b : Int) (h0 : 0 ≤ b) (h1 : b + total l ≤ 9223372036854775807) (hl : l.length < 9223372036854775807) : Ev (fun k => z26.f k (markRows l b) b) (b + total l) := by
 unfold z26.f
 have := total_nonneg l
 exact Ev.bind (heldInt64SS_ev l b h0 h1 hl) (ev_neg (by omega) (Ev.now _))
theorem sortS_mem {l : List (List Int)} {x : List Int} : x ∈ sortS l ↔ x ∈ l := by
 unfold sortS
 exact List.mem_mergeSort
theorem sortS_of_nodup {l : List (List Int)} (h : l.Nodup) : Srt (sortS l) := by
 have hn : (sortS l).Nodup := (List.mergeSort_perm l _).nodup_iff.2 h
 have hp : (sortS l).Pairwise (fun a b => (!(slt b a)) = true) := by
  unfold sortS
  refine List.pairwise_mergeSort (fun a b c h1 h2 => ?_) (fun a b => ?_) l
  ·rw [Bool.not_eq_true', ← lt_scmp] at *
   exact swo_scmp.ntrans c b a h2 h1
  ·rcases slt_tri a b with h | h | h
   ·rw [slt_asymm h]; rfl
   ·subst h; rw [slt_irrefl]; rfl
   ·rw [slt_asymm h]; simp
 refine List.Pairwise.imp (fun {a b} h => ?_) (hp.and hn)
 obtain ⟨h1, h2⟩ := h
 rcases slt_tri a b with h | h | h
 ·exact h
 ·exact absurd h h2
 ·rw [h] at h1; cases h1
theorem inOrder_nodup {l : List (List Int)} (h : l.Nodup) (hl : l.length ≤ 1048576) (hr : ∀ x ∈ l, x.length ≤ 1048576) : impl_inOrder.f l = some (sortS l) := by
 unfold impl_inOrder.f
 rw [apart_srt (sortS_of_nodup h), if_pos]
 simp only [Bool.and_true, Bool.and_eq_true, decide_eq_true_eq, List.all_eq_true]
 exact ⟨hl, hr⟩
end Go.Proofs.Ytipkciildhghiaa.B
set_option linter.unusedVariables false
set_option linter.unusedSimpArgs false
namespace Go.Proofs.Ytipkciildhghiaa.B
open Go.RowKit Go.Proofs.YtipkciildhghiaaW.PrintWords
open SimT
theorem incR {l : List Int} (h : rising l = true) : Inc l := by
 unfold rising at h
 rw [List.all_eq_true] at h
 have main : ∀ d i, i + d + 1 < l.length → l.getD i 0 < l.getD (i + d + 1) 0 := by
  intro d
  induction d with
  | zero =>
   intro i hi
   have := h (i + 1) (List.mem_range.2 hi)
   unfold rises at this
   simpa using this
  | succ d ih =>
   intro i hi
   have h1 := ih i (by omega)
   have h2 := h (i + d + 2) (List.mem_range.2 (by omega))
   unfold rises at h2
   have h2 : l.getD (i + d + 1) 0 < l.getD (i + d + 2) 0 := by simpa using h2
   exact Int.lt_trans h1 h2
 refine List.pairwise_iff_getElem.2 (fun i j hi hj hij => ?_)
 have := main (j - i - 1) i (by omega)
 rw [show i + (j - i - 1) + 1 = j by omega] at this
 simpa [List.getD_eq_getElem?_getD, List.getElem?_eq_getElem hj, List.getElem?_eq_getElem hi] using this
theorem risingI {l : List Int} (h : Inc l) : rising l = true := by
 unfold rising
 rw [List.all_eq_true]
 intro i hi
 rw [List.mem_range] at hi
 unfold rises
 rcases Nat.eq_zero_or_pos i with h0 | h0
 ·subst h0; rfl
 ·have := List.pairwise_iff_getElem.1 h (i - 1) i (by omega) hi (by omega)
  have h2 : l.getD (i - 1) 0 < l.getD i 0 := by
   simpa [List.getD_eq_getElem?_getD, List.getElem?_eq_getElem hi, List.getElem?_eq_getElem (show i - 1 < l.length by omega)] using this
  rw [decide_eq_true h2, Bool.or_true]
theorem simplexI {s : List Int} : isSimplex s = true ↔ (1 ≤ s.length ∧ s.length ≤ 4) ∧ Inc s ∧ ∀ v ∈ s, 0 ≤ v ∧ v ≤ 9 := by
 unfold isSimplex
 simp only [Bool.and_eq_true, decide_eq_true_eq, List.all_eq_true]
 exact ⟨fun ⟨h1, h2, h3⟩ => ⟨h1, incR h2, h3⟩, fun ⟨h1, h2, h3⟩ => ⟨h1, risingI h2, h3⟩⟩
def insI (v : Int) : List Int → List Int
 | [] => [v]
 | a :: s => if v < a then v :: a :: s else a :: insI v s
theorem mem_insI {v x : Int} : ∀ {s : List Int}, x ∈ insI v s ↔ x = v ∨ x ∈ s
 | [] => by simp [insI]
 | a :: s => by
  unfold insI
  split
  ·simp
  ·rw [List.mem_cons, mem_insI, List.mem_cons]
   constructor
   ·rintro (h | h | h)
    ·exact .inr (.inl h)
    ·exact .inl h
    ·exact .inr (.inr h)
   ·rintro (h | h | h)
    ·exact .inr (.inl h)
    ·exact .inl h
    ·exact .inr (.inr h)
theorem insI_len (v : Int) : ∀ s : List Int, (insI v s).length = s.length + 1
 | [] => rfl
 | a :: s => by
  unfold insI
  split
  ·rfl
  ·simp [insI_len v s]
theorem inc_insI {v : Int} : ∀ {s : List Int}, Inc s → v ∉ s → Inc (insI v s)
 | [], _, _ => List.pairwise_singleton _ _
 | a :: s, h, hn => by
  have h' := List.pairwise_cons.1 h
  unfold insI
  split
  ·rename_i hlt
   refine List.pairwise_cons.2 ⟨fun x hx => ?_, h⟩
   rcases List.mem_cons.1 hx with rfl | hx
   ·exact hlt
   ·exact Int.lt_trans hlt (h'.1 x hx)
  ·rename_i hlt
   refine List.pairwise_cons.2 ⟨fun x hx => ?_, inc_insI h'.2 (fun hm => hn (List.mem_cons_of_mem _ hm))⟩
   rcases mem_insI.1 hx with rfl | hx
   ·have : x ≠ a := fun e => hn (by rw [e]; exact List.mem_cons_self)
    omega
   ·exact h'.1 x hx
theorem iter_fold {σ α : Type} (G : σ → α → σ) (z : α) (xs : List α) (s : σ) : ∀ n, n ≤ xs.length → iter (fun j s => G s (xs.getD j z)) 0 n s = (xs.take n).foldl G s := by
 intro n
 induction n with
 | zero => intro _; rfl
 | succ n ih =>
  intro hn
  rw [iter_last, ih (by omega), Nat.zero_add, List.take_succ_eq_append_getElem (by omega), List.foldl_append, List.foldl_cons, List.foldl_nil, List.getD_eq_getElem?_getD, List.getElem?_eq_getElem (by omega)]
  rfl
theorem cntF {n : Nat} (h : n ≤ 4) : cntN n ≤ 41 := by
 rcases n with _ | _ | _ | _ | _ | n
 ·decide
 ·decide
 ·decide
 ·decide
 ·decide
 ·omega
theorem put_val {acc : List (List Int)} {s : List Int} (h1 : 1 ≤ s.length) (h4 : s.length ≤ 4) (hl : acc.length ≤ 1000000) (hr : ∀ x ∈ acc, x.length ≤ 1048576) : spec_l05Put.f acc s = some (putN s.length acc s) := by
 have := cntF h4
 unfold spec_l05Put.f
 rw [if_pos]
 simp only [Bool.and_eq_true, decide_eq_true_eq, List.all_eq_true]
 exact ⟨⟨h1, by omega⟩, by omega, hr⟩
end Go.Proofs.Ytipkciildhghiaa.B
set_option linter.unusedVariables false
set_option linter.unusedSimpArgs false
namespace Go.Proofs.Ytipkciildhghiaa.B
open Go.RowKit Go.Proofs.YtipkciildhghiaaW.PrintWords
open SimT
theorem sort_ins {v : Int} {s : List Int} (hs : Inc s) (hn : v ∉ s) : sortI (s ++ [v]) = insI v s := by
 have hnd : (s ++ [v]).Nodup := by
  rw [List.nodup_append]
  refine ⟨List.Pairwise.imp (fun {a b} h => ?_) hs, by simp, fun a ha b hb => ?_⟩
  ·exact Int.ne_of_lt h
  ·rw [List.mem_singleton] at hb; subst hb; exact fun e => hn (e ▸ ha)
 have hp := List.mergeSort_perm (s ++ [v]) (fun x y => decide (x ≤ y))
 have h1 : (sortI (s ++ [v])).Nodup := hp.nodup_iff.2 hnd
 have h2 : (sortI (s ++ [v])).Pairwise (fun a b => decide (a ≤ b) = true) := by
  unfold sortI
  refine List.pairwise_mergeSort (fun a b c h1 h2 => ?_) (fun a b => ?_) _
  ·simp only [decide_eq_true_eq] at *; omega
  ·simp only [Bool.or_eq_true, decide_eq_true_eq]; omega
 refine inc_ext (List.Pairwise.imp (fun {a b} h => ?_) (h2.and h1)) (inc_insI hs hn) (fun x => ?_)
 ·have h3 := of_decide_eq_true h.1
  have h4 := h.2
  omega
 ·rw [mem_insI]
  unfold sortI
  rw [List.mem_mergeSort, List.mem_append, List.mem_singleton]
  exact Or.comm
theorem l00Put_ev {v : Int} {s : List Int} (hl : s.length ≤ 1048576) (hs : Inc s) (hn : v ∉ s) : Ev (fun k => z81.f k s v) (insI v s) := by
 unfold z81.f
 have hdrop : ∀ i, i < s.length → s.drop i = s.getD i 0 :: s.drop (i + 1) := fun i hi => by
  rw [List.drop_eq_getElem_cons hi, List.getD_eq_getElem?_getD, List.getElem?_eq_getElem hi]; rfl
 have hdone : ∀ d i acc, i + d = s.length → acc.length ≤ i + 1 → Ev (fun k => z81.l0 k s v acc true (i : Int)) (acc ++ s.drop i) := by
  intro d
  induction d with
  | zero =>
   intro i acc hi ha
   rw [List.drop_of_length_le (by omega), List.append_nil]
   refine Ev.step (fun k => z81.l0.eq_2 ..) ?_
   exact ev_neg (by omega) (ev_pos rfl (Ev.now _))
  | succ d ih =>
   intro i acc hi ha
   rw [hdrop i (by omega), show acc ++ s.getD i 0 :: s.drop (i + 1) = (acc ++ [s.getD i 0]) ++ s.drop (i + 1) by simp]
   refine Ev.step (fun k => z81.l0.eq_2 ..) ?_
   refine ev_pos (by omega) (ev_pos rfl ?_)
   refine Ev.step (fun k => z81.j1.eq_2 ..) ?_
   rw [rd_nat, wrap_succ (by omega)]
   exact ev_neg (by decide) (ev_pos (by omega) (ev_pos (by omega) (ev_pos (by omega) (ih (i + 1) _ (by omega) (by simp; omega)))))
 have hnot : ∀ d i acc, i + d = s.length → acc.length ≤ i → Ev (fun k => z81.l0 k s v acc false (i : Int)) (acc ++ insI v (s.drop i)) := by
  intro d
  induction d with
  | zero =>
   intro i acc hi ha
   rw [List.drop_of_length_le (by omega)]
   refine Ev.step (fun k => z81.l0.eq_2 ..) ?_
   exact ev_neg (by omega) (ev_neg (by decide) (ev_pos (by omega) (Ev.now _)))
  | succ d ih =>
   intro i acc hi ha
   have hne : v ≠ s.getD i 0 := fun e => hn (by rw [e]; exact getD_mem 0 (by omega))
   rw [hdrop i (by omega)]
   refine Ev.step (fun k => z81.l0.eq_2 ..) ?_
   rw [rd_nat]
   refine ev_pos (by omega) (ev_neg (by decide) (ev_pos (by omega) ?_))
   by_cases hlt : v < s.getD i 0
   ·rw [show insI v (s.getD i 0 :: s.drop (i + 1)) = v :: s.getD i 0 :: s.drop (i + 1) by unfold insI; rw [if_pos hlt], show acc ++ v :: s.getD i 0 :: s.drop (i + 1) = ((acc ++ [v]) ++ [s.getD i 0]) ++ s.drop (i + 1) by simp]
    rw [decide_eq_true (show s.getD i 0 ≥ v by omega)]
    refine Ev.step (fun k => z81.j1.eq_2 ..) ?_
    rw [rd_nat, wrap_succ (by omega)]
    refine ev_pos rfl (ev_pos (by omega) (ev_pos (by omega) (ev_pos (by omega) (ev_pos (by omega) (Ev.bind (Ev.now _) (ev_pos (by simp; omega) (hdone d (i + 1) _ (by omega) (by simp; omega))))))))
   ·rw [show insI v (s.getD i 0 :: s.drop (i + 1)) = s.getD i 0 :: insI v (s.drop (i + 1)) by conv => lhs; unfold insI; rw [if_neg hlt], show acc ++ s.getD i 0 :: insI v (s.drop (i + 1)) = (acc ++ [s.getD i 0]) ++ insI v (s.drop (i + 1)) by simp]
    rw [decide_eq_false (show ¬ s.getD i 0 ≥ v by omega)]
    refine Ev.step (fun k => z81.j1.eq_2 ..) ?_
    rw [rd_nat, wrap_succ (by omega)]
    exact ev_neg (by decide) (ev_pos (by omega) (ev_pos (by omega) (ev_pos (by omega) (ih (i + 1) _ (by omega) (by simp; omega)))))
 have := hnot s.length 0 [] (by omega) (by simp)
 simpa using this
def coneL (C : List (List Int)) (v : Int) : List (List Int) := (C ++ [[v]]) ++ C.map (insI v)
def coneC (C : List (List Int)) (v : Int) : List (List Int) × Int := if okC C = true then (if (decide (0 ≤ v) && decide (v ≤ 9)) = true then (if [v] ∈ C then ([], 4) else (if okC (sortS (coneL C v)) = true then (sortS (coneL C v), 0) else ([], 5))) else ([], 2)) else ([], 1)
section
variable {C : List (List Int)} {v : Int} (ho : okC C = true) (hv : [v] ∉ C)
include ho hv
theorem notIn {s : List Int} (hs : s ∈ C) : v ∉ s := fun hm => hv (closed_mem (okC_iff.1 ho).2.2.2 hs (List.singleton_sublist.2 hm) (by simp))
omit hv in
theorem incC {s : List Int} (hs : s ∈ C) : Inc s := (simplexI.1 ((okC_iff.1 ho).2.2.1 s hs)).2.1
theorem cone_nodup : (coneL C v).Nodup := by
 obtain ⟨_, h2, h3, _⟩ := okC_iff.1 ho
 have hC := srt_nodup h2
 unfold coneL
 rw [List.nodup_append]
 refine ⟨?_, ?_, ?_⟩
 ·rw [List.nodup_append]
  refine ⟨hC, by simp, fun a ha b hb => ?_⟩
  rw [List.mem_singleton] at hb
  subst hb
  exact fun e => hv (e ▸ ha)
 ·refine List.pairwise_map.2 (List.Pairwise.imp_of_mem (R := fun a b => a ≠ b) (fun {a b} ha hb hne e => hne ?_) hC)
  refine inc_ext (incC ho ha) (incC ho hb) (fun x => ?_)
  have h4 : x ∈ insI v a ↔ x ∈ insI v b := by rw [e]
  rw [mem_insI, mem_insI] at h4
  constructor
  ·intro hx
   rcases h4.1 (.inr hx) with rfl | h
   ·exact absurd hx (notIn ho hv ha)
   ·exact h
  ·intro hx
   rcases h4.2 (.inr hx) with rfl | h
   ·exact absurd hx (notIn ho hv hb)
   ·exact h
 ·intro a ha b hb e
  subst e
  obtain ⟨s, hs, rfl⟩ := List.mem_map.1 hb
  have hvm : v ∈ insI v s := mem_insI.2 (.inl rfl)
  rcases List.mem_append.1 ha with ha | ha
  ·exact notIn ho hv ha hvm
  ·rw [List.mem_singleton] at ha
   have h1 := insI_len v s
   rw [ha, List.length_singleton] at h1
   have := (simplex_len (h3 s hs)).1
   omega
omit hv in
theorem cone_len : (coneL C v).length ≤ 97 := by
 have := (okC_iff.1 ho).1
 unfold coneL
 simp
 omega
omit hv in
theorem cone_row {x : List Int} (hx : x ∈ coneL C v) : x.length ≤ 5 := by
 have h3 := (okC_iff.1 ho).2.2.1
 unfold coneL at hx
 rw [List.mem_append, List.mem_append, List.mem_singleton, List.mem_map] at hx
 rcases hx with (h | rfl) | ⟨s, hs, rfl⟩
 ·have := (simplex_len (h3 x h)).2; omega
 ·simp
 ·have := (simplex_len (h3 s hs)).2
  rw [insI_len]; omega
theorem cone_put : ((C.map (insI v)).foldl (fun C s => putN s.length C s) [[v]]) = sortS (coneL C v) := by
 obtain ⟨_, h2, h3, h4⟩ := okC_iff.1 ho
 have hs1 : Srt [[v]] := List.pairwise_singleton _ _
 have hc1 : Closed [[v]] := fun s hs hl => by
  rw [List.mem_singleton] at hs
  subst hs
  simp at hl
 obtain ⟨p1, _, p3⟩ := put_all (C.map (insI v)) (C := [[v]]) (fun s hs e => by
  obtain ⟨t, _, rfl⟩ := List.mem_map.1 hs
  have := insI_len v t
  rw [e] at this
  simp at this) hs1 hc1
 refine srt_ext p1 (sortS_of_nodup (cone_nodup ho hv)) (fun x => ?_)
 rw [p3, sortS_mem]
 unfold coneL
 rw [List.mem_append, List.mem_append, List.mem_map]
 constructor
 ·rintro (h | ⟨⟨s, hs, hx⟩, hne⟩)
  ·exact .inl (.inr h)
  ·obtain ⟨t, ht, rfl⟩ := List.mem_map.1 hs
   have hti := incC ho ht
   have hxi : Inc x := inc_sub hx (inc_insI hti (notIn ho hv ht))
   by_cases hvx : v ∈ x
   ·let y := x.filter fun z => z ≠ v
    have hym : ∀ z, z ∈ y ↔ z ∈ x ∧ z ≠ v := fun z => by
     show z ∈ x.filter _ ↔ _
     rw [List.mem_filter, decide_eq_true_eq]
    have hyi : Inc y := inc_sub List.filter_sublist hxi
    have hyt : y.Sublist t := sub_of_mem hyi hti (fun z hz => by
     obtain ⟨h5, h6⟩ := (hym z).1 hz
     exact (mem_insI.1 (hx.subset h5)).resolve_left h6)
    have hvy : v ∉ y := fun h => ((hym v).1 h).2 rfl
    have hxy : insI v y = x := inc_ext (inc_insI hyi hvy) hxi (fun z => by
     rw [mem_insI, hym]
     constructor
     ·rintro (rfl | h)
      ·exact hvx
      ·exact h.1
     ·intro h
      by_cases e : z = v
      ·exact .inl e
      ·exact .inr ⟨h, e⟩)
    by_cases hy0 : y = []
    ·rw [hy0] at hxy
     exact .inl (.inr (by rw [← hxy]; simp [insI]))
    ·exact .inr ⟨y, closed_mem h4 ht hyt hy0, hxy⟩
   ·refine .inl (.inl (closed_mem h4 ht (sub_of_mem hxi hti (fun z hz => ?_)) hne))
    exact (mem_insI.1 (hx.subset hz)).resolve_left (fun e => hvx (e ▸ hz))
 ·rintro ((h | h) | ⟨s, hs, rfl⟩)
  ·refine .inr ⟨⟨insI v x, List.mem_map.2 ⟨x, h, rfl⟩, ?_⟩, fun e => ?_⟩
   ·exact sub_of_mem (incC ho h) (inc_insI (incC ho h) (notIn ho hv h)) (fun z hz => mem_insI.2 (.inr hz))
   ·have := (simplex_len (h3 x h)).1
    rw [e] at this
    simp at this
  ·exact .inl h
  ·refine .inr ⟨⟨insI v s, List.mem_map.2 ⟨s, hs, rfl⟩, List.Sublist.refl _⟩, fun e => ?_⟩
   have := insI_len v s
   rw [e] at this
   simp at this
theorem cone_ok (h0 : 0 ≤ v) (h9 : v ≤ 9) : okC (sortS (coneL C v)) = true ↔ (∀ s ∈ C, s.length ≤ 3) ∧ (sortS (coneL C v)).length ≤ 48 := by
 obtain ⟨_, h2, h3, h4⟩ := okC_iff.1 ho
 have hmem : ∀ {x : List Int}, x ∈ sortS (coneL C v) ↔ (x ∈ C ∨ x ∈ [[v]]) ∨ ∃ s, s ∈ C ∧ insI v s = x := by
  intro x
  rw [sortS_mem]
  unfold coneL
  rw [List.mem_append, List.mem_append, List.mem_map]
 rw [okC_iff]
 constructor
 ·rintro ⟨q1, _, q3, _⟩
  refine ⟨fun s hs => ?_, q1⟩
  have := (simplex_len (q3 _ (hmem.2 (.inr ⟨s, hs, rfl⟩)))).2
  rw [insI_len] at this
  omega
 ·rintro ⟨q1, q2⟩
  refine ⟨q2, sortS_of_nodup (cone_nodup ho hv), fun x hx => ?_, ?_⟩
  ·rcases hmem.1 hx with (h | h) | ⟨s, hs, rfl⟩
   ·exact h3 x h
   ·rw [List.mem_singleton] at h
    subst h
    exact simplexI.2 ⟨by simp, List.pairwise_singleton _ _, fun z hz => by rw [List.mem_singleton] at hz; omega⟩
   ·obtain ⟨r1, r2, r3⟩ := simplexI.1 (h3 s hs)
    refine simplexI.2 ⟨?_, inc_insI r2 (notIn ho hv hs), fun z hz => ?_⟩
    ·have := q1 s hs
     rw [insI_len]; omega
    ·rcases mem_insI.1 hz with rfl | h
     ·exact ⟨h0, h9⟩
     ·exact r3 z h
  ·rw [← cone_put ho hv]
   exact (put_all (C.map (insI v)) (C := [[v]]) (fun s hs e => by
    obtain ⟨t, _, rfl⟩ := List.mem_map.1 hs
    have := insI_len v t
    rw [e] at this
    simp at this) (List.pairwise_singleton _ _) (fun s hs hl => by
     rw [List.mem_singleton] at hs
     subst hs
     simp at hl)).2.1
end
section
variable {C : List (List Int)} (hl : C.length ≤ 1048576) (hr : ∀ x ∈ C, x.length ≤ 1048576)
include hl hr
theorem implCone_ev (v : Int) : Ev (fun k => z36.f k C v) (coneC C v) := by
 unfold z36.f coneC z83.f
 refine Ev.bind (implValid_ev C hl hr) ?_
 cases ho : okC C with
 | false => exact ev_neg (by decide) (ev_eq (Ev.now _) (by simp))
 | true =>
  refine ev_pos rfl (Ev.bind (a := decide (0 ≤ v) && decide (v ≤ 9)) (Ev.bind (ev_const (within_val _ _ _)) (Ev.now _)) ?_)
  cases hd : decide (0 ≤ v) && decide (v ≤ 9) with
  | false => exact ev_neg (by decide) (ev_eq (Ev.now _) (by simp))
  | true =>
   obtain ⟨h48, hsrt, h3, h4⟩ := okC_iff.1 ho
   refine ev_pos rfl (Ev.bind (indexOf_ev C [v] (by omega) (fun x hx => by have := hr x hx; omega) (by simp) hsrt) ?_)
   by_cases hv : [v] ∈ C
   ·have : ¬ idx C [v] < 0 := fun h => (idx_neg C [v]).1 h hv
    exact ev_eq (ev_pos (by omega) (Ev.now _)) (by simp [hv])
   ·have := (idx_neg C [v]).2 hv
    refine ev_neg (by omega) (Ev.bind (copyListsC_ev C hl hr) (ev_pos (by omega) ?_))
    obtain ⟨h1, h2⟩ := le_iter_inv (fun acc j k => z36.l0 k v acc C (C.length : Int) (j : Int)) (fun j acc => acc ++ [insI v (C.getD j [])]) (fun j acc => acc.length ≤ C.length + 1 + j) C.length 0 (C ++ [[v]]) (by simp) (by
     intro j acc _ hj hI
     have hjC : j < C.length := by omega
     have hm := getD_mem ([] : List Int) hjC
     have hrm := hr _ hm
     have hcl := cloneC_val (C.getD j []) hrm
     have hso : slices_Sort_int64_int64.f (C.getD j [] ++ [v]) = some (insI v (C.getD j [])) := by
      have h4m := (simplex_len (h3 _ hm)).2
      unfold slices_Sort_int64_int64.f
      rw [if_pos, sort_ins (incC ho hm) (notIn ho hv hm)]
      simp only [Bool.and_eq_true, decide_eq_true_eq, List.length_append, List.length_singleton]
      omega
     refine ⟨fun r hr' => ?_, by simp; omega⟩
     refine Ev.step (fun k => z36.l0.eq_2 ..) ?_
     rw [rdl_nat, wrap_succ (by omega)]
     exact ev_pos (by omega) (ev_pos (by omega) (ev_pos (by omega) (Ev.bind (ev_const hcl) (ev_pos (by omega) (Ev.bind (ev_const hso) (ev_pos (by omega) hr')))))))
    have hf : iter (fun j acc => acc ++ [insI v (C.getD j [])]) 0 C.length (C ++ [[v]]) = coneL C v := by
     have h5 := iter_fold (fun acc s => acc ++ [insI v s]) ([] : List Int) C (C ++ [[v]]) C.length (Nat.le_refl _)
     rw [List.take_length] at h5
     rw [h5]
     unfold coneL
     have : ∀ (L : List (List Int)) (acc : List (List Int)), L.foldl (fun acc s => acc ++ [insI v s]) acc = acc ++ L.map (insI v) := by
      intro L
      induction L with
      | nil => intro acc; simp
      | cons a L ih => intro acc; rw [List.foldl_cons, ih]; simp
     exact this _ _
    rw [hf, Nat.zero_add] at h1
    have hlk := cone_len (C := C) (v := v) ho
    refine h1 _ ?_
    refine Ev.step (fun k => z36.l0.eq_2 ..) ?_
    have hsl : (sortS (coneL C v)).length ≤ 97 := by
     unfold sortS
     rw [List.length_mergeSort]
     exact hlk
    refine ev_neg (by omega) (Ev.bind (ev_const (inOrder_nodup (cone_nodup ho hv) (by omega) (fun x hx => by have := cone_row ho hx; omega))) (Ev.bind (implValid_ev _ (by omega) (fun x hx => by have := cone_row ho (sortS_mem.1 hx); omega)) ?_))
    cases hok : okC (sortS (coneL C v)) with
    | true => exact ev_pos rfl (ev_eq (Ev.now _) (by simp [hv]))
    | false => exact ev_neg (by decide) (ev_eq (Ev.now _) (by simp [hv]))
def ahead (C : List (List Int)) (v : Int) (n : Nat) : List (List Int) := (C.take n).foldl (fun acc s => putN (insI v s).length acc (insI v s)) [[v]]
omit hl in
theorem specPut_le (v : Int) (hC : C.length ≤ 48) (ho : okC C = true) (hv : [v] ∉ C) (n : Nat) (hn : n ≤ C.length) (h3 : ∀ j, j < n → (C.getD j []).length ≤ 3) : Le (fun k => z35.l0 k v (n : Int) C (ahead C v n)) (fun k => z35.l0 k v 0 C [[v]]) := by
 obtain ⟨h1, _⟩ := le_iter_inv (fun acc j k => z35.l0 k v (j : Int) C acc) (fun j acc => putN (insI v (C.getD j [])).length acc (insI v (C.getD j []))) (fun j acc => acc.length ≤ 1 + 41 * j ∧ (∀ x ∈ acc, x.length ≤ 4) ∧ Srt acc ∧ Closed acc) n 0 [[v]] ⟨by simp, by simp, List.pairwise_singleton _ _, fun s hs hl => by
   rw [List.mem_singleton] at hs
   subst hs
   simp at hl⟩ (by
  intro j acc _ hj hI
  have hjC : j < C.length := by omega
  have hm := getD_mem ([] : List Int) hjC
  have hrm := hr _ hm
  have hj3 := h3 j (by omega)
  have hlen := insI_len v (C.getD j [])
  obtain ⟨i1, i2, i3, i4⟩ := hI
  have hcn := cntF (n := (insI v (C.getD j [])).length) (by omega)
  have hpl := putN_len (insI v (C.getD j [])).length acc (insI v (C.getD j [])) (Nat.le_refl _)
  obtain ⟨p1, p2, p3⟩ := putN_spec (insI v (C.getD j [])).length (Nat.le_refl _) (fun e => by rw [e] at hlen; simp at hlen) i3 i4
  refine ⟨fun r hr' => ?_, by omega, fun x hx => ?_, p1, p2⟩
  ·have hown : ∀ s : List Int, s.length ≤ 1048576 → z82.f s = some s := by
    intro s hs
    unfold z82.f
    simp
    omega
   refine Ev.step (fun k => z35.l0.eq_2 ..) ?_
   rw [rdl_nat, wrap_succ (by omega)]
   exact ev_pos (by omega) (ev_pos (by omega) (ev_neg (by omega) (Ev.bind (ev_const (hown _ hrm)) (Ev.bind (l00Put_ev (by omega) (incC ho hm) (notIn ho hv hm)) (Ev.bind (ev_const (put_val (by omega) (by omega) (by omega) (fun x hx => by have := i2 x hx; omega))) hr')))))
  ·rcases (p3 x).1 hx with h | ⟨h, _⟩
   ·exact i2 x h
   ·have := h.length_le; omega)
 have hf : iter (fun j acc => putN (insI v (C.getD j [])).length acc (insI v (C.getD j []))) 0 n [[v]] = ahead C v n := iter_fold (fun acc s => putN (insI v s).length acc (insI v s)) ([] : List Int) C [[v]] n hn
 rw [hf, Nat.zero_add] at h1
 exact h1
theorem specCone_ev (v : Int) : Ev (fun k => z35.f k C v) (coneC C v) := by
 unfold z35.f coneC
 refine Ev.bind (specOk_ev C hl hr) ?_
 cases ho : okC C with
 | false => exact ev_neg (by decide) (ev_eq (Ev.now _) (by simp))
 | true =>
  refine ev_pos rfl (Ev.bind (ev_const (in_val _ _ _)) ?_)
  cases hd : decide (0 ≤ v) && decide (v ≤ 9) with
  | false => exact ev_neg (by decide) (ev_eq (Ev.now _) (by simp))
  | true =>
   have hd' : 0 ≤ v ∧ v ≤ 9 := by simpa using hd
   obtain ⟨h48, hsrt, h3, h4⟩ := okC_iff.1 ho
   refine ev_pos rfl (Ev.bind (find_ev C [v] (by omega) (fun x hx => by have := hr x hx; omega)) ?_)
   by_cases hv : [v] ∈ C
   ·have : ¬ idx C [v] < 0 := fun h => (idx_neg C [v]).1 h hv
    exact ev_eq (ev_pos (by omega) (Ev.now _)) (by simp [hv])
   ·have := (idx_neg C [v]).2 hv
    refine ev_neg (by omega) ?_
    have hok := cone_ok ho hv hd'.1 hd'.2
    by_cases hall : ∀ s ∈ C, s.length ≤ 3
    ·refine specPut_le hr v h48 ho hv C.length (Nat.le_refl _) (fun j hj => hall _ (getD_mem ([] : List Int) hj)) _ ?_
     have hf : ahead C v C.length = sortS (coneL C v) := by
      unfold ahead
      rw [List.take_length, ← cone_put ho hv, List.foldl_map]
     rw [hf]
     refine Ev.step (fun k => z35.l0.eq_2 ..) ?_
     refine ev_neg (by omega) ?_
     by_cases h5 : (sortS (coneL C v)).length ≤ 48
     ·exact ev_eq (ev_neg (by omega) (Ev.now _)) (by simp [hv, hok.2 ⟨hall, h5⟩])
     ·exact ev_eq (ev_pos (by omega) (Ev.now _)) (by
       have : ¬ okC (sortS (coneL C v)) = true := fun h => h5 (hok.1 h).2
       simp [hv, this])
    ·have hex : ∃ j, j < C.length ∧ ¬ (C.getD j []).length ≤ 3 := by
      by_cases h : ∃ j, j < C.length ∧ ¬ (C.getD j []).length ≤ 3
      ·exact h
      ·refine absurd (fun s hs => ?_) hall
       obtain ⟨i, hi, e⟩ := List.mem_iff_getElem.1 hs
       by_cases h6 : s.length ≤ 3
       ·exact h6
       ·refine absurd ⟨i, hi, ?_⟩ h
        rw [List.getD_eq_getElem?_getD, List.getElem?_eq_getElem hi, Option.getD_some, e]
        exact h6
     obtain ⟨j, ⟨hj, hj3⟩, hb⟩ := least hex
     refine specPut_le hr v h48 ho hv j (by omega) (fun m hm => by
      by_cases h7 : (C.getD m []).length ≤ 3
      ·exact h7
      ·exact absurd ⟨by omega, h7⟩ (hb m hm)) _ ?_
     refine Ev.step (fun k => z35.l0.eq_2 ..) ?_
     rw [rdl_nat]
     refine ev_pos (by omega) (ev_pos (by omega) (ev_pos (by omega) (ev_eq (Ev.now _) ?_)))
     have : ¬ okC (sortS (coneL C v)) = true := fun h => hall (hok.1 h).1
     simp [hv, this]
omit hl hr in
theorem coneC_small (v : Int) : (coneC C v).1.length ≤ 48 ∧ ∀ x ∈ (coneC C v).1, x.length ≤ 4 := by
 unfold coneC
 split
 ·split
  ·split
   ·simp
   ·split
    ·rename_i h
     obtain ⟨h1, _, h3, _⟩ := okC_iff.1 h
     exact ⟨h1, fun x hx => (simplex_len (h3 x hx)).2⟩
    ·simp
  ·simp
 ·simp
end
theorem pure_ConeOf {l0 : List (List Int)} {a1 : Int} (h0 : WfLL l0) (h1 : Wf a1) : ∃ k, z7.f k l0 a1 = some true := by
 refine Ev.rounds (g := fun k => z7.f k l0 a1) ?_
 unfold z7.f
 rcases szComplex_ev l0 1048576 h0 (by omega) (by omega) with ⟨t, ht, hn⟩ | ⟨ht, hb⟩
 ·exact Ev.bind ht (ev_pos hn (Ev.now _))
 have htn := total_nonneg l0
 have hrow : ∀ x ∈ l0, x.length ≤ 1048576 := fun x hx => by have := row_le_total l0 x hx; omega
 have hlen : l0.length ≤ 1048576 := by omega
 have hto := toComplex_ev l0 hlen hrow
 have heq := eqComplex_self l0 (by omega) (fun x hx => by have := hrow x hx; omega)
 refine Ev.bind ht (ev_neg (by omega) ?_)
 have hsp := specCone_ev hlen hrow a1
 have him := implCone_ev hlen hrow a1
 have hs := coneC_small (C := l0) a1
 generalize coneC l0 a1 = g at hsp him hs
 obtain ⟨g0, g1⟩ := g
 dsimp only at hs
 obtain ⟨hs, hs2⟩ := hs
 have htg := total_le_of (l := g0) (m := 4) hs2
 have htg0 := total_nonneg g0
 have heg := eqComplex_self g0 (by omega) (fun x hx => by have := hs2 x hx; omega)
 have hm1 : laws_markComplex.f l0 1 = some (1 + total l0, markRows l0 1) := mark_val l0 1 (by omega) (by omega)
 have hm2 : laws_markComplex.f g0 1 = some (1 + total g0, markRows g0 1) := mark_val g0 1 (by omega) (by omega)
 have hh := heldComplex_ev g0 1 (by omega) (by omega) (by omega)
 (repeat (first | exact Ev.now _ | refine ev_pos rfl ?_ | refine ev_neg (by simp only []; omega) ?_ | refine ev_neg (by omega) ?_ | refine ev_neg (by simp) ?_ | refine Ev.bind (by assumption) ?_ | refine Ev.bind (ev_const (by assumption)) ?_))
end Go.Proofs.Ytipkciildhghiaa.B
