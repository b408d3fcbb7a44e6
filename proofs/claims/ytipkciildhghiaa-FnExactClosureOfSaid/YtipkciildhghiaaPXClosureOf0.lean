/- What the functions come to, for the law FnExactClosureOf. -/
import Derived.Test.YtipkciildhghiaaKBHGPMJ0
import Derived.Test.YtipkciildhghiaaKDLAMFD0
import Derived.Test.YtipkciildhghiaaKFJPIDL0
import Derived.Test.YtipkciildhghiaaKHCHFOP0
import Derived.Test.YtipkciildhghiaaKIMPFPI0
import Derived.Test.YtipkciildhghiaaKJCGFNJ0
import Derived.Test.YtipkciildhghiaaKJDBJCM0
import Derived.Test.YtipkciildhghiaaKLGGBBN0
import Derived.Test.YtipkciildhghiaaKLLNIJB0
import Derived.Test.YtipkciildhghiaaKMNGDAH0
import Derived.Test.YtipkciildhghiaaKPPIGCD0
import Derived.Test.YtipkciildhghiaaKW0
set_option linter.unusedVariables false
set_option linter.unusedSimpArgs false
namespace Go.Proofs.Ytipkciildhghiaa.B
open Go.RowKit Go.Proofs.YtipkciildhghiaaW.PrintWords
theorem row_le_total : ∀ (l : List (List Int)) (x : List Int), x ∈ l → x.length ≤ total l
 | [], x, h => by cases h
 | y :: l, x, h => by
  simp only [total]
  rcases List.mem_cons.1 h with rfl | h
  ·have := total_nonneg l; omega
  ·have := row_le_total l x h; omega
theorem total_le_of {l : List (List Int)} {m : Nat} (h : ∀ x ∈ l, x.length ≤ m) : total l ≤ l.length * m := by
 induction l with
 | nil => simp [total]
 | cons x l ih =>
  have h1 := h x List.mem_cons_self
  have h2 := ih (fun y hy => h y (List.mem_cons_of_mem _ hy))
  simp only [total, List.length_cons]
  rw [Int.natCast_add, Int.add_mul]
  omega
theorem eqComplex_self (l : List (List Int)) (hl : l.length < 9223372036854775807) (hr : ∀ x ∈ l, x.length < 9223372036854775807) : Ev (fun k => z20.f k l l) true := by
 unfold z20.f
 exact Ev.bind (ev_eq (eqInt64SS_ev l l hl hr) (beq_self_eq_true l)) (ev_pos rfl (Ev.now _))
end Go.Proofs.Ytipkciildhghiaa.B
set_option linter.unusedVariables false
set_option linter.unusedSimpArgs false
namespace Go.Proofs.Ytipkciildhghiaa.B
open Go.RowKit Go.Proofs.YtipkciildhghiaaW.PrintWords
theorem mark_val (l : List (List Int)) (a : Int) (h0 : 0 ≤ a) (h1 : a + total l ≤ 9223372036854775807) : laws_markInt64SS.f l a = some (a + total l, markRows l a) := by
 unfold laws_markInt64SS.f
 rw [if_pos ⟨h0, h1⟩]
theorem markInts_get : ∀ (l : List Int) (a : Int) (i : Nat), i < l.length → (markInts l a).getD i 0 = a + i
 | [], a, i, h => by simp at h
 | x :: l, a, 0, h => by simp [markInts]
 | x :: l, a, i + 1, h => by
  have := markInts_get l (a + 1) i (by simpa using h)
  simp only [markInts, List.getD_cons_succ, this]
  omega
theorem heldInt64S_ev (l : List Int) (a : Int) (h0 : 0 ≤ a) (h1 : a + l.length ≤ 9223372036854775807) : Ev (fun k => z23.f k (markInts l a) a) (a + l.length) := by
 unfold z23.f
 have h := ev_find (r := a + l.length) (fun (i : Nat) k => z23.l0 k (markInts l a) (a + i) (i : Int)) (fun _ => false) l.length 0 (fun j _ hj _ r hr => by
  refine Ev.step (fun k => z23.l0.eq_2 ..) ?_
  rw [rd_nat, markInts_get l a j (by omega), markInts_length, wrap_succ (by omega), wrap_small (by omega) (by omega), show a + (j : Int) + 1 = a + ((j + 1 : Nat) : Int) by omega]
  (repeat (first | refine ev_pos (by omega) ?_ | refine ev_neg (by omega) ?_))
  exact hr) (fun _ _ _ h => by cases h) (fun _ => by
  refine Ev.step (fun k => z23.l0.eq_2 ..) ?_
  rw [markInts_length]
  exact ev_neg (by omega) (ev_eq (Ev.now _) (by omega)))
 simpa using h
theorem markRows_get : ∀ (l : List (List Int)) (a : Int) (i : Nat), i < l.length → (markRows l a).getD i [] = markInts (l.getD i []) (a + total (l.take i))
 | [], a, i, h => by simp at h
 | x :: l, a, 0, h => by simp [markRows, total]
 | x :: l, a, i + 1, h => by
  have := markRows_get l (a + x.length) i (by simpa using h)
  simp only [markRows, List.getD_cons_succ, this, List.take_succ_cons, total]
  congr 1
  omega
theorem total_take_succ' (l0 : List (List Int)) (k : Nat) (hk : k < l0.length) : total (l0.take (k + 1)) = total (l0.take k) + (l0.getD k []).length := by
 have ht : l0.take (k + 1) = l0.take k ++ [l0.getD k []] := by
  rw [List.take_succ_eq_append_getElem hk, List.getD_eq_getElem?_getD, List.getElem?_eq_getElem hk]; rfl
 rw [ht, total_append]; simp [total]
theorem total_take_le' (l0 : List (List Int)) (k : Nat) : total (l0.take k) ≤ total l0 := by
 have h := total_append (l0.take k) (l0.drop k)
 rw [List.take_append_drop] at h
 have := total_nonneg (l0.drop k)
 omega
theorem heldInt64SS_ev (l : List (List Int)) (a : Int) (h0 : 0 ≤ a) (h1 : a + total l ≤ 9223372036854775807) (hl : l.length < 9223372036854775807) : Ev (fun k => z51.f k (markRows l a) a) (a + total l) := by
 unfold z51.f
 have h := ev_find (r := a + total l) (fun (i : Nat) k => z51.l0 k (markRows l a) (a + total (l.take i)) (i : Int)) (fun _ => false) l.length 0 (fun j _ hj _ r hr => by
  have hrd : rI_ (markRows l a) (j : Int) = markInts (l.getD j []) (a + total (l.take j)) := by
   rw [← markRows_get l a j (by omega)]; simp [rI_]
  have e1 := total_take_succ' l j (by omega)
  have e2 := total_take_le' l (j + 1)
  have e3 := total_nonneg (l.take j)
  refine Ev.step (fun k => z51.l0.eq_2 ..) ?_
  rw [hrd, markRows_length, wrap_succ (by omega)]
  (repeat (first | refine ev_pos (by omega) ?_ | refine ev_neg (by omega) ?_))
  refine Ev.bind (heldInt64S_ev _ _ (by omega) (by omega)) (ev_neg (by omega) ?_)
  rw [show a + total (l.take j) + ((l.getD j []).length : Int) = a + total (l.take (j + 1)) by omega]
  exact hr) (fun _ _ _ h => by cases h) (fun _ => by
  refine Ev.step (fun k => z51.l0.eq_2 ..) ?_
  rw [markRows_length]
  refine ev_neg (by omega) (ev_eq (Ev.now _) ?_)
  rw [Nat.zero_add, List.take_length])
 simpa [total] using h
end Go.Proofs.Ytipkciildhghiaa.B
set_option linter.unusedVariables false
set_option linter.unusedSimpArgs false
namespace Go.Proofs.Ytipkciildhghiaa.B
open Go.RowKit Go.Proofs.YtipkciildhghiaaW.PrintWords
open SimT
theorem heldComplex_ev (l : List (List Int)) (b : Int) (h0 : 0 ≤ b) (h1 : b + total l ≤ 9223372036854775807) (hl : l.length < 9223372036854775807) : Ev (fun k => z26.f k (markRows l b) b) (b + total l) := by
 unfold z26.f
 have := total_nonneg l
 exact Ev.bind (heldInt64SS_ev l b h0 h1 hl) (ev_neg (by omega) (Ev.now _))
theorem sortS_mem {l : List (List Int)} {x : List Int} : x ∈ sortS l ↔ x ∈ l := by
 unfold sortS
 exact List.mem_mergeSort
end Go.Proofs.Ytipkciildhghiaa.B
set_option linter.unusedVariables false
set_option linter.unusedSimpArgs false
namespace Go.Proofs.Ytipkciildhghiaa.B
open Go.RowKit Go.Proofs.YtipkciildhghiaaW.PrintWords
open SimT
theorem iter_fold {σ α : Type} (G : σ → α → σ) (z : α) (xs : List α) (s : σ) : ∀ n, n ≤ xs.length → iter (fun j s => G s (xs.getD j z)) 0 n s = (xs.take n).foldl G s := by
 intro n
 induction n with
 | zero => intro _; rfl
 | succ n ih =>
  intro hn
  rw [iter_last, ih (by omega), Nat.zero_add, List.take_succ_eq_append_getElem (by omega), List.foldl_append, List.foldl_cons, List.foldl_nil, List.getD_eq_getElem?_getD, List.getElem?_eq_getElem (by omega)]
  rfl
theorem cntF {n : Nat} (h : n ≤ 4) : cntN n ≤ 41 := by
 rcases n with _ | _ | _ | _ | _ | n
 ·decide
 ·decide
 ·decide
 ·decide
 ·decide
 ·omega
theorem put_val {acc : List (List Int)} {s : List Int} (h1 : 1 ≤ s.length) (h4 : s.length ≤ 4) (hl : acc.length ≤ 1000000) (hr : ∀ x ∈ acc, x.length ≤ 1048576) : spec_l05Put.f acc s = some (putN s.length acc s) := by
 have := cntF h4
 unfold spec_l05Put.f
 rw [if_pos]
 simp only [Bool.and_eq_true, decide_eq_true_eq, List.all_eq_true]
 exact ⟨⟨h1, by omega⟩, by omega, hr⟩
end Go.Proofs.Ytipkciildhghiaa.B
set_option linter.unusedVariables false
set_option linter.unusedSimpArgs false
namespace Go.Proofs.Ytipkciildhghiaa.B
open Go.RowKit Go.Proofs.YtipkciildhghiaaW.PrintWords
open SimT
def closure (l : List (List Int)) : List (List Int) := l.foldl (fun C s => putN s.length C s) []
theorem closure_spec {l : List (List Int)} (h : ∀ s ∈ l, s ≠ []) : Srt (closure l) ∧ Closed (closure l) ∧ ∀ x, x ∈ closure l ↔ (∃ s, s ∈ l ∧ x.Sublist s) ∧ x ≠ [] := by
 obtain ⟨h1, h2, h3⟩ := put_all l (C := []) h List.Pairwise.nil (fun s hs => by cases hs)
 refine ⟨h1, h2, fun x => ?_⟩
 unfold closure
 rw [h3]
 exact ⟨fun h => h.elim (fun h => by cases h) id, .inr⟩
theorem ne_of_len {s : List Int} (h : 1 ≤ s.length) : s ≠ [] := fun e => by rw [e] at h; simp at h
theorem specClosure_ev (l : List (List Int)) (hl : l.length ≤ 1000) (hr : ∀ s ∈ l, 1 ≤ s.length ∧ s.length ≤ 4) : Ev (fun k => z74.f k l) (closure l) := by
 unfold z74.f
 obtain ⟨h1, _⟩ := le_iter_inv (fun acc j k => z74.l0 k l (j : Int) acc) (fun j acc => putN (l.getD j []).length acc (l.getD j [])) (fun j acc => acc.length ≤ 41 * j ∧ (∀ x ∈ acc, x.length ≤ 4) ∧ Srt acc ∧ Closed acc) l.length 0 [] ⟨by simp, by simp, List.Pairwise.nil, fun s hs => by cases hs⟩ (by
  intro j acc _ hj hI
  have hjl : j < l.length := by omega
  obtain ⟨hm1, hm4⟩ := hr _ (getD_mem ([] : List Int) hjl)
  obtain ⟨i1, i2, i3, i4⟩ := hI
  have hcn := cntF (n := (l.getD j []).length) hm4
  have hpl := putN_len (l.getD j []).length acc (l.getD j []) (Nat.le_refl _)
  obtain ⟨p1, p2, p3⟩ := putN_spec (l.getD j []).length (Nat.le_refl _) (ne_of_len hm1) i3 i4
  refine ⟨fun r hr' => ?_, by omega, fun x hx => ?_, p1, p2⟩
  ·refine Ev.step (fun k => z74.l0.eq_2 ..) ?_
   rw [rdl_nat, wrap_succ (by omega)]
   exact ev_pos (by omega) (ev_pos (by omega) (Ev.bind (ev_const (put_val hm1 hm4 (by omega) (fun x hx => by have := i2 x hx; omega))) hr'))
  ·rcases (p3 x).1 hx with h | ⟨h, _⟩
   ·exact i2 x h
   ·have := h.length_le; omega)
 have hf : iter (fun j acc => putN (l.getD j []).length acc (l.getD j [])) 0 l.length [] = closure l := by
  have h5 := iter_fold (fun acc s => putN s.length acc s) ([] : List Int) l [] l.length (Nat.le_refl _)
  rwa [List.take_length] at h5
 rw [hf, Nat.zero_add] at h1
 refine h1 _ ?_
 refine Ev.step (fun k => z74.l0.eq_2 ..) ?_
 exact ev_neg (by omega) (Ev.now _)
theorem closure_row {l : List (List Int)} (hr : ∀ s ∈ l, 1 ≤ s.length ∧ s.length ≤ 4) {x : List Int} (hx : x ∈ closure l) : x.length ≤ 4 := by
 obtain ⟨⟨s, hs, h⟩, _⟩ := ((closure_spec (fun s hs => ne_of_len (hr s hs).1)).2.2 x).1 hx
 have := h.length_le
 have := (hr s hs).2
 omega
end Go.Proofs.Ytipkciildhghiaa.B
set_option linter.unusedVariables false
set_option linter.unusedSimpArgs false
namespace Go.Proofs.Ytipkciildhghiaa.B
open Go.RowKit Go.Proofs.YtipkciildhghiaaW.PrintWords
open SimT
theorem sortS_le (l : List (List Int)) : (sortS l).Pairwise (fun a b => (!(slt b a)) = true) := by
 unfold sortS
 refine List.pairwise_mergeSort (fun a b c h1 h2 => ?_) (fun a b => ?_) l
 ·rw [Bool.not_eq_true', ← lt_scmp] at *
  exact swo_scmp.ntrans c b a h2 h1
 ·rcases slt_tri a b with h | h | h
  ·rw [slt_asymm h]; rfl
  ·subst h; rw [slt_irrefl]; rfl
  ·rw [slt_asymm h]; simp
theorem le_get {l : List (List Int)} (h : l.Pairwise (fun a b => (!(slt b a)) = true)) {i j : Nat} (hij : i ≤ j) (hj : j < l.length) : slt (l.getD j []) (l.getD i []) = false := by
 rcases Nat.lt_or_eq_of_le hij with h1 | rfl
 ·have := List.pairwise_iff_getElem.1 h i j (by omega) hj h1
  simpa [List.getD_eq_getElem?_getD, List.getElem?_eq_getElem hj, List.getElem?_eq_getElem (show i < l.length by omega)] using this
 ·exact slt_irrefl _
theorem dedup_sorted {l : List (List Int)} (h : l.Pairwise (fun a b => (!(slt b a)) = true)) : Srt (dedup l) := by
 unfold dedup
 refine List.pairwise_map.2 ?_
 have hp : (keepIx l).Pairwise (fun i j => i < j) := List.Pairwise.filter _ List.pairwise_lt_range
 refine List.Pairwise.imp_of_mem (fun {i j} hi hj hij => ?_) hp
 obtain ⟨hj1, hj2⟩ := List.mem_filter.1 hj
 rw [List.mem_range] at hj1
 have h1 := le_get h (Nat.le_of_lt hij) hj1
 rcases slt_tri (l.getD i []) (l.getD j []) with h2 | h2 | h2
 ·exact h2
 ·exfalso
  unfold keepAt at hj2
  rw [show (j == 0) = false from beq_eq_false_iff_ne.2 (by omega), Bool.false_or, Bool.not_eq_true', beq_eq_false_iff_ne] at hj2
  have h3 := le_get h (i := i) (j := j - 1) (by omega) (by omega)
  have h4 := le_get h (i := j - 1) (j := j) (by omega) hj1
  rw [h2] at h3
  rcases slt_tri (l.getD (j - 1) []) (l.getD j []) with h5 | h5 | h5
  ·rw [h5] at h3; cases h3
  ·exact hj2 h5.symm
  ·rw [h5] at h4; cases h4
 ·rw [h2] at h1; cases h1
theorem mem_dedup {l : List (List Int)} {x : List Int} : x ∈ dedup l ↔ x ∈ l := by
 unfold dedup
 rw [List.mem_map]
 constructor
 ·rintro ⟨j, hj, rfl⟩
  obtain ⟨hj1, _⟩ := List.mem_filter.1 hj
  exact getD_mem [] (List.mem_range.1 hj1)
 ·intro hx
  have hex : ∃ j, j < l.length ∧ l.getD j [] = x := by
   obtain ⟨i, hi, e⟩ := List.mem_iff_getElem.1 hx
   exact ⟨i, hi, by rw [List.getD_eq_getElem?_getD, List.getElem?_eq_getElem hi]; exact e⟩
  obtain ⟨j, ⟨hj, e⟩, hb⟩ := least hex
  refine ⟨j, List.mem_filter.2 ⟨List.mem_range.2 hj, ?_⟩, e⟩
  unfold keepAt
  rcases Nat.eq_zero_or_pos j with h0 | h0
  ·subst h0; rfl
  ·have h1 : l.getD (j - 1) [] ≠ x := fun e2 => hb (j - 1) (by omega) ⟨by omega, e2⟩
   rw [e, beq_eq_false_iff_ne.2 (fun e2 => h1 e2.symm)]
   simp
def sumC : List (List Int) → Nat
 | [] => 0
 | s :: l => cntN s.length + sumC l
theorem sumC_append : ∀ l m : List (List Int), sumC (l ++ m) = sumC l + sumC m
 | [], m => by simp [sumC]
 | s :: l, m => by simp only [List.cons_append, sumC, sumC_append l m]; omega
theorem sumC_same (n : Nat) : ∀ l : List (List Int), (∀ x ∈ l, x.length = n) → sumC l = l.length * cntN n
 | [], _ => by simp [sumC]
 | s :: l, h => by
  rw [sumC, sumC_same n l (fun x hx => h x (List.mem_cons_of_mem _ hx)), h s List.mem_cons_self, List.length_cons, Nat.add_mul]
  omega
theorem sumC_faces {s : List Int} (h : 1 ≤ s.length) : sumC (faces s) + 1 = cntN s.length := by
 obtain ⟨n, hn⟩ : ∃ n, s.length = n + 1 := ⟨s.length - 1, by omega⟩
 rw [hn]
 by_cases h1 : 1 < s.length
 ·rw [sumC_same n (faces s) (fun x hx => by
   obtain ⟨_, k, hk, rfl⟩ := mem_faces.1 hx
   rw [drp_length hk]; omega)]
  have : (faces s).length = n + 1 := by unfold faces; rw [if_pos h1]; simp [hn]
  rw [this]
  simp only [cntN]
  omega
 ·have : faces s = [] := by unfold faces; rw [if_neg h1]
  have hn0 : n = 0 := by omega
  subst hn0
  rw [this]
  rfl
theorem closeLoop (k0 : Nat) : ∀ (M i : Nat) (acc : List (List Int)), i ≤ acc.length → (∀ x ∈ acc, 1 ≤ x.length ∧ x.length ≤ 4) → sumC (acc.drop i) = M → acc.length ≤ 4 * i + k0 → i + M ≤ 5000 → k0 ≤ 100 → (∀ j, j < i → ∀ f ∈ faces (acc.getD j []), f ∈ acc) →
  ∃ F : List (List Int), (Le (fun k => (impl_inOrder.f F).bind fun t => some t) (fun k => z78.l0 k acc (i : Int))) ∧ (∀ x ∈ acc, x ∈ F) ∧ (∀ x ∈ F, (1 ≤ x.length ∧ x.length ≤ 4) ∧ ∃ y, y ∈ acc ∧ x.Sublist y) ∧ (∀ x ∈ F, ∀ f ∈ faces x, f ∈ F) ∧ F.length ≤ 30000
 | 0, i, acc, hi, hr, hM, hl, hb, hk, hf => by
  have hd : acc.drop i = [] := by
   cases h : acc.drop i with
   | nil => rfl
   | cons s l =>
    have hs : s ∈ acc := List.mem_of_mem_drop (i := i) (by rw [h]; exact List.mem_cons_self)
    rw [h] at hM
    simp only [sumC] at hM
    obtain ⟨n, hn⟩ : ∃ n, s.length = n + 1 := ⟨s.length - 1, by have := (hr s hs).1; omega⟩
    have := cntN_pos n
    rw [← hn] at this
    omega
  have he : acc.length ≤ i := List.drop_eq_nil_iff.1 hd
  refine ⟨acc, fun r hr' => ?_, fun x hx => hx, fun x hx => ⟨hr x hx, x, hx, List.Sublist.refl _⟩, fun x hx f hfx => ?_, by omega⟩
  ·refine Ev.step (fun k => z78.l0.eq_2 ..) ?_
   exact ev_neg (by omega) hr'
  ·obtain ⟨j, hj, e⟩ := List.mem_iff_getElem.1 hx
   refine hf j (by omega) f ?_
   rw [List.getD_eq_getElem?_getD, List.getElem?_eq_getElem hj, Option.getD_some, e]
   exact hfx
 | M + 1, i, acc, hi, hr, hM, hl, hb, hk, hf => by
  have hlt : i < acc.length := by
   rcases Nat.lt_or_ge i acc.length with h | h
   ·exact h
   ·rw [List.drop_of_length_le h] at hM
    simp [sumC] at hM
  have hmem := getD_mem ([] : List Int) hlt
  obtain ⟨h1, h4⟩ := hr _ hmem
  have hd : acc.drop i = acc.getD i [] :: acc.drop (i + 1) := by
   rw [List.drop_eq_getElem_cons hlt, List.getD_eq_getElem?_getD, List.getElem?_eq_getElem hlt]; rfl
  have hfl := faces_len (acc.getD i [])
  have hsf := sumC_faces h1
  have hrow : ∀ x ∈ acc ++ faces (acc.getD i []), 1 ≤ x.length ∧ x.length ≤ 4 := by
   intro x hx
   rcases List.mem_append.1 hx with h | h
   ·exact hr x h
   ·obtain ⟨h5, k, hk2, rfl⟩ := mem_faces.1 h
    rw [drp_length hk2]
    omega
  have hsub : ∀ f ∈ faces (acc.getD i []), f.Sublist (acc.getD i []) := by
   intro f hf2
   obtain ⟨_, k, _, rfl⟩ := mem_faces.1 hf2
   exact drp_sub _ _
  obtain ⟨F, f1, f2, f3, f4, f5⟩ := closeLoop k0 M (i + 1) (acc ++ faces (acc.getD i [])) (by simp; omega) hrow (by
   rw [List.drop_append_of_le_length (by omega), sumC_append]
   rw [hd] at hM
   simp only [sumC] at hM
   omega) (by simp only [List.length_append]; omega) (by omega) hk (by
   intro j hj f hfj
   rw [show (acc ++ faces (acc.getD i [])).getD j [] = acc.getD j [] by
    simp only [List.getD_eq_getElem?_getD, List.getElem?_append_left (show j < acc.length by omega)]] at hfj
   by_cases e : j = i
   ·subst e
    exact List.mem_append.2 (.inr hfj)
   ·exact List.mem_append.2 (.inl (hf j (by omega) f hfj)))
  refine ⟨F, Le.trans f1 (fun r hr' => ?_), fun x hx => f2 x (List.mem_append.2 (.inl hx)), fun x hx => ?_, f4, f5⟩
  ·refine Ev.step (fun k => z78.l0.eq_2 ..) ?_
   rw [rdl_nat, wrap_succ (by omega)]
   exact ev_pos (by omega) (ev_pos (by omega) (Ev.bind (facesOf_ev _ (by omega)) (ev_pos (by omega) hr')))
  ·obtain ⟨h5, y, hy, hxy⟩ := f3 x hx
   refine ⟨h5, ?_⟩
   rcases List.mem_append.1 hy with h | h
   ·exact ⟨y, h, hxy⟩
   ·exact ⟨_, hmem, hxy.trans (hsub y h)⟩
theorem sumC_le : ∀ l : List (List Int), (∀ x ∈ l, x.length ≤ 4) → sumC l ≤ 41 * l.length
 | [], _ => by simp [sumC]
 | s :: l, h => by
  have h1 := cntF (h s List.mem_cons_self)
  have h2 := sumC_le l (fun x hx => h x (List.mem_cons_of_mem _ hx))
  simp only [sumC, List.length_cons]
  omega
theorem implClosure_ev (l : List (List Int)) (hl : l.length ≤ 48) (hr : ∀ s ∈ l, 1 ≤ s.length ∧ s.length ≤ 4) : Ev (fun k => z78.f k l) (closure l) := by
 unfold z78.f
 refine Ev.bind (copyListsC_ev l (by omega) (fun x hx => by have := hr x hx; omega)) ?_
 have hs := sumC_le l (fun x hx => (hr x hx).2)
 obtain ⟨F, f1, f2, f3, f4, f5⟩ := closeLoop 48 (sumC l) 0 l (Nat.zero_le _) hr rfl (by omega) (by omega) (by omega) (fun j hj => absurd hj (Nat.not_lt_zero _))
 refine f1 _ ?_
 have hcl : Closed F := fun s hs h1 k hk => f4 s hs _ (mem_faces.2 ⟨h1, k, hk, rfl⟩)
 have hval : impl_inOrder.f F = some (dedup (sortS F)) := by
  unfold impl_inOrder.f
  rw [if_pos]
  simp only [Bool.and_eq_true, decide_eq_true_eq, List.all_eq_true]
  exact ⟨by omega, fun x hx => by have := (f3 x hx).1; omega⟩
 have heq : dedup (sortS F) = closure l := by
  obtain ⟨c1, _, c3⟩ := closure_spec (l := l) (fun s hs => ne_of_len (hr s hs).1)
  refine srt_ext (dedup_sorted (sortS_le F)) c1 (fun x => ?_)
  rw [mem_dedup, sortS_mem, c3]
  constructor
  ·intro hx
   obtain ⟨h5, y, hy, hxy⟩ := f3 x hx
   exact ⟨⟨y, hy, hxy⟩, ne_of_len h5.1⟩
  ·rintro ⟨⟨s, hs, hxs⟩, hne⟩
   exact closed_mem hcl (f2 s hs) hxs hne
 exact Ev.bind (ev_const hval) (ev_eq (Ev.now _) heq)
def closeC (l : List (List Int)) : List (List Int) × Int := if l.all isSimplex = true then (if 48 < l.length then ([], 5) else (if 48 < (closure l).length then ([], 5) else (closure l, 0))) else ([], 1)
section
variable {l : List (List Int)} (hl : l.length ≤ 1048576) (hr : ∀ x ∈ l, x.length ≤ 1048576)
include hl hr
theorem anyWrong_ev : Ev (fun k => z234.f k l) (l.any fun s => !isSimplex s) := by
 have hw : ∀ s, s ∈ l → Ev (fun k => z76.f k s) (!isSimplex s) := fun s hs => by
  unfold z76.f
  exact Ev.bind (implSimplex_ev s (by have := hr s hs; omega)) (Ev.now _)
 obtain ⟨t, ht, hd⟩ := ev_index_list (l) [] (fun i k => z235.l0 k (l) ((l).length : Int) (i : Int) ) (fun s => !isSimplex s) (fun j hj hp r hr => by
   refine Ev.step (fun k => z235.l0.eq_2 ..) ?_
   refine ev_pos (by omega) (ev_pos (by omega) (ev_pos (by omega) ?_))
   rw [rdl_nat, wrap_succ (by omega)]
   exact Ev.bind (hw _ (getD_mem [] hj)) (ev_neg (by rw [hp]; decide) hr)) (fun j hj hp => by
   refine Ev.step (fun k => z235.l0.eq_2 ..) ?_
   refine ev_pos (by omega) (ev_pos (by omega) (ev_pos (by omega) ?_))
   rw [rdl_nat]
   exact Ev.bind (hw _ (getD_mem [] hj)) (ev_pos hp (Ev.now _))) (by
   refine Ev.step (fun k => z235.l0.eq_2 ..) ?_
   exact ev_neg (by omega) (Ev.now _))
 unfold z234.f z235.f
 refine Ev.bind ht (ev_eq (Ev.now _) hd)
theorem implClose_ev : Ev (fun k => z32.f k l) (closeC l) := by
 unfold z32.f closeC
 refine Ev.bind (anyWrong_ev hl hr) ?_
 rw [List.any_eq_not_all_not, show (l.all fun x => !(!isSimplex x)) = l.all isSimplex by simp]
 cases ho : l.all isSimplex with
 | false => exact ev_pos rfl (ev_eq (Ev.now _) (by simp))
 | true =>
  refine ev_neg (by simp) ?_
  have hs : ∀ s ∈ l, 1 ≤ s.length ∧ s.length ≤ 4 := fun s hs => simplex_len (List.all_eq_true.1 ho s hs)
  by_cases h48 : 48 < l.length
  ·exact ev_pos (by omega) (ev_eq (Ev.now _) (by simp [h48]))
  ·refine ev_neg (by omega) (Ev.bind (implClosure_ev l (by omega) hs) ?_)
   by_cases h5 : 48 < (closure l).length
   ·exact ev_pos (by omega) (ev_eq (Ev.now _) (by simp [h48, h5]))
   ·exact ev_neg (by omega) (ev_eq (Ev.now _) (by simp [h48, h5]))
theorem specClose_ev : Ev (fun k => z30.f k l) (closeC l) := by
 unfold z30.f closeC
 by_cases ho : l.all isSimplex = true
 ·rw [if_pos ho]
  have hs : ∀ s ∈ l, 1 ≤ s.length ∧ s.length ≤ 4 := fun s hs => simplex_len (List.all_eq_true.1 ho s hs)
  have hloop : Le (fun k => z30.l0 k l (l.length : Int)) (fun k => z30.l0 k l 0) := by
   have := le_iter (fun (_ : Unit) j k => z30.l0 k l (j : Int)) (fun _ s => s) l.length 0 () (fun j s _ hj r hr' => by
    have hjl : j < l.length := by omega
    have hm := getD_mem ([] : List Int) hjl
    have hlm := hr _ hm
    refine Ev.step (fun k => z30.l0.eq_2 ..) ?_
    rw [rdl_nat, wrap_succ (by omega)]
    exact ev_pos (by omega) (ev_pos (by omega) (Ev.bind (specSimplex_ev _ (by omega)) (ev_pos (List.all_eq_true.1 ho _ hm) hr'))))
   rwa [Nat.zero_add] at this
  refine hloop _ ?_
  refine Ev.step (fun k => z30.l0.eq_2 ..) ?_
  refine ev_neg (by omega) ?_
  by_cases h48 : 48 < l.length
  ·exact ev_pos (by omega) (ev_eq (Ev.now _) (by simp [h48]))
  ·refine ev_neg (by omega) (Ev.bind (specClosure_ev l (by omega) hs) ?_)
   by_cases h5 : 48 < (closure l).length
   ·exact ev_pos (by omega) (ev_eq (Ev.now _) (by simp [h48, h5]))
   ·exact ev_neg (by omega) (ev_eq (Ev.now _) (by simp [h48, h5]))
 ·rw [if_neg ho]
  have hex : ∃ j, j < l.length ∧ isSimplex (l.getD j []) = false := by
   have h1 : l.all isSimplex = false := by simpa using ho
   rw [List.all_eq_false] at h1
   obtain ⟨s, hs, h2⟩ := h1
   obtain ⟨i, hi, e⟩ := List.mem_iff_getElem.1 hs
   refine ⟨i, hi, ?_⟩
   rw [List.getD_eq_getElem?_getD, List.getElem?_eq_getElem hi, Option.getD_some, e]
   simpa using h2
  obtain ⟨n, ⟨hn, hn2⟩, hb⟩ := least hex
  have hloop : Le (fun k => z30.l0 k l (n : Int)) (fun k => z30.l0 k l 0) := by
   have := le_iter (fun (_ : Unit) j k => z30.l0 k l (j : Int)) (fun _ s => s) n 0 () (fun j s _ hj r hr' => by
    have hjl : j < l.length := by omega
    have hlm := hr _ (getD_mem ([] : List Int) hjl)
    have hok : isSimplex (l.getD j []) = true := by
     cases h : isSimplex (l.getD j []) with
     | true => rfl
     | false => exact absurd ⟨hjl, h⟩ (hb j (by omega))
    refine Ev.step (fun k => z30.l0.eq_2 ..) ?_
    rw [rdl_nat, wrap_succ (by omega)]
    exact ev_pos (by omega) (ev_pos (by omega) (Ev.bind (specSimplex_ev _ (by omega)) (ev_pos hok hr'))))
   rwa [Nat.zero_add] at this
  refine hloop _ ?_
  have hlm := hr _ (getD_mem ([] : List Int) hn)
  refine Ev.step (fun k => z30.l0.eq_2 ..) ?_
  rw [rdl_nat]
  exact ev_pos (by omega) (ev_pos (by omega) (Ev.bind (specSimplex_ev _ (by omega)) (ev_neg (by rw [hn2]; decide) (Ev.now _))))
omit hl hr in
theorem closeC_small : (closeC l).1.length ≤ 48 ∧ ∀ x ∈ (closeC l).1, x.length ≤ 4 := by
 unfold closeC
 split
 ·rename_i ho
  split
  ·simp
  ·split
   ·simp
   ·exact ⟨show (closure l).length ≤ 48 by omega, fun x hx => closure_row (fun s hs => simplex_len (List.all_eq_true.1 ho s hs)) hx⟩
 ·simp
end
theorem pure_ClosureOf {l0 : List (List Int)} (h0 : WfLL l0) : ∃ k, z6.f k l0 = some true := by
 refine Ev.rounds (g := fun k => z6.f k l0) ?_
 unfold z6.f
 rcases szInt64SS_ev l0 1048576 h0 (by omega) (by omega) with ⟨t, ht, hn⟩ | ⟨ht, hb⟩
 ·exact Ev.bind ht (ev_pos hn (Ev.now _))
 have htn := total_nonneg l0
 have hrow : ∀ x ∈ l0, x.length ≤ 1048576 := fun x hx => by have := row_le_total l0 x hx; omega
 have hlen : l0.length ≤ 1048576 := by omega
 have hto := toInt64SS_ev l0 hlen hrow
 have hsp := specClose_ev hlen hrow
 have him := implClose_ev hlen hrow
 have hs := closeC_small (l := l0)
 generalize closeC l0 = g at hsp him hs
 obtain ⟨g0, g1⟩ := g
 dsimp only at hs
 obtain ⟨hs, hs2⟩ := hs
 have htg := total_le_of (l := g0) (m := 4) hs2
 have htg0 := total_nonneg g0
 have heg := eqComplex_self g0 (by omega) (fun x hx => by have := hs2 x hx; omega)
 have heql := ev_eq (eqInt64SS_ev l0 l0 (by omega) (fun x hx => by have := hrow x hx; omega)) (beq_self_eq_true l0)
 have hm1 := mark_val l0 1 (by omega) (by omega)
 have hm2 : laws_markComplex.f g0 1 = some (1 + total g0, markRows g0 1) := mark_val g0 1 (by omega) (by omega)
 have hh := heldComplex_ev g0 1 (by omega) (by omega) (by omega)
 refine Ev.bind ht (ev_neg (by omega) ?_)
 (repeat (first | exact Ev.now _ | refine ev_pos rfl ?_ | refine ev_neg (by simp only []; omega) ?_ | refine ev_neg (by omega) ?_ | refine ev_neg (by simp) ?_ | refine Ev.bind (by assumption) ?_ | refine Ev.bind (ev_const (by assumption)) ?_))
end Go.Proofs.Ytipkciildhghiaa.B
