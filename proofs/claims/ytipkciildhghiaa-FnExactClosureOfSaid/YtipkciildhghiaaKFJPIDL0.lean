/- Printed proofs of functions of the program and of the reference, by a program of this work over the kit's printer. -/
import Derived.Test.YtipkciildhghiaaKHCHFOP0
import Derived.Test.YtipkciildhghiaaKIMPFPI0
import Derived.Test.YtipkciildhghiaaKW0
/- Rows of rows, laid open and closed again (for this claim, by hand). -/
set_option linter.unusedVariables false
set_option linter.unusedSimpArgs false
namespace Go.Proofs.Ytipkciildhghiaa.B
open Go.RowKit Go.Proofs.YtipkciildhghiaaW.PrintWords Go.Proofs.YtipkciildhghiaaW.PrintLast Go.Proofs.YtipkciildhghiaaW.PrintMore
section
variable {α : Type} {d : Kd α} {e base : Nat} {ok : Nat → Prop} {W : World} {v : Value} {C : List α}
theorem S_open (h : Kd.S d e W base ok v C) : ∃ (f : Nat → Nat) (rows : List (List Value)), rows.length = C.length ∧ (Kd.raw d.sz).R e W base (fun k => some k = v.ownBlock) v rows ∧ (∀ k, v.ownBlock = some k → ok k) ∧
    ∀ (j : Nat) (x : α) (c : List Value), C[j]? = some x → rows[j]? = some c → d.M W base (fun k => (ok k ∧ some k ≠ v.ownBlock) ∧ f k = j) x c := by
  obtain ⟨f, h0, inner, ho, hr⟩ := h
  have hr' := Kd.reps_raw hr (fun x c hp => ⟨(Kd.tag f d).K_len ((Kd.tag f d).K_of_M hp), (Kd.tag f d).K_one ((Kd.tag f d).K_of_M hp)⟩)
  refine ⟨f, Kd.chunks d.sz C.zipIdx.length inner, by rw [Kd.chunks_length, List.length_zipIdx], ⟨fun k hk => hk.symm, inner, by rw [Kd.chunks_length]; exact ho, hr'⟩, h0, fun j x c hx hc => ?_⟩
  rw [Kd.chunks_get hc]
  exact hr.2 j (x, j) (Kd.zip_at hx)
theorem S_close {rows : List (List Value)} (f : Nat → Nat) (hl : rows.length = C.length) (hR : (Kd.raw d.sz).R e W base (fun k => some k = v.ownBlock) v rows) (h0 : ∀ k, v.ownBlock = some k → ok k)
    (hM : ∀ (j : Nat) (x : α) (c : List Value), C[j]? = some x → rows[j]? = some c → d.M W base (fun k => (ok k ∧ some k ≠ v.ownBlock) ∧ f k = j) x c) : Kd.S d e W base ok v C := by
  obtain ⟨_, inner, ho, hr⟩ := hR
  refine ⟨f, h0, inner, ?_, ?_, ?_⟩
  · rw [List.length_zipIdx, ← hl]; exact ho
  · have := hr.1
    rw [List.length_zipIdx, ← hl]; exact this
  intro j p hj
  obtain ⟨hj1, hj2⟩ := List.getElem?_eq_some_iff.1 hj
  rw [List.length_zipIdx] at hj1
  have hx : C[j]? = some p.1 ∧ p.2 = j := by
    rw [List.getElem?_zipIdx] at hj
    rw [List.getElem?_eq_getElem hj1] at hj ⊢
    simp only [Option.map_some, Option.some.injEq, Nat.zero_add] at hj
    rw [← hj]; exact ⟨rfl, rfl⟩
  have hrj : rows[j]? = some (rows[j]'(by omega)) := List.getElem?_eq_getElem (by omega)
  have h1 := hr.2 j _ hrj
  have h2 := hM j p.1 _ hx.1 hrj
  show d.M W base (fun k => _ ∧ f k = p.2) p.1 _
  rw [hx.2]
  have e1 : (inner.drop (j * d.sz)).take d.sz = rows[j]'(by omega) := h1.1
  show d.M W base _ p.1 ((inner.drop (j * d.sz)).take d.sz)
  rw [e1]
  exact h2
end
theorem S_insert {et er base B a : Nat} {ok okx : Nat → Prop} {w w' : World} {v v' u : Value} {C : List (List Int)} {s : List Int} {f : Nat → Nat} {rows : List (List Value)}
    (hl : rows.length = C.length) (hM : ∀ (j : Nat) (x : List Int) (c : List Value), C[j]? = some x → rows[j]? = some c → (Kd.slice et (Kd.int .i64)).M w base (fun k => (ok k ∧ some k ≠ v.ownBlock) ∧ f k = j) x c)
    (hB : B = w.heap.size) (hbB : base ≤ B) (hmove : ∀ k, ok k → k < B → w'.heap[k]? = w.heap[k]?)
    (hu : Kd.R (Kd.int .i64) et w' B okx u s) (hok : ∀ k, B ≤ k → ok k) (hne : ∀ k, u.ownBlock = some k → some k ≠ v'.ownBlock)
    (hR : (Kd.raw 1).R er w' base (fun k => some k = v'.ownBlock) v' (rows.take a ++ [u] :: rows.drop a)) (hv' : ∀ k, v'.ownBlock = some k → B ≤ k) (ha : a ≤ C.length) :
    Kd.S (Kd.slice et (Kd.int .i64)) er w' base ok v' (C.take a ++ s :: C.drop a) := by
  have hold : ∀ (j i : Nat) (x : List Int) (c : List Value), C[j]? = some x → rows[j]? = some c → (if j < a then j else j + 1) = i → (Kd.slice et (Kd.int .i64)).M w' base (fun k => (ok k ∧ some k ≠ v'.ownBlock) ∧ (if k < B then (if f k < a then f k else f k + 1) else a) = i) x c := by
    intro j i x c hx hc hi
    have h1 := (Kd.slice et (Kd.int .i64)).M_bound (hM j x c hx hc)
    have h2 := Kd.M_step h1 (w1 := w') (fun k hk hlt => hmove k hk.1.1.1 (by omega))
    refine (Kd.slice et (Kd.int .i64)).M_mono (fun k hk => ⟨⟨hk.1.1.1, fun h => ?_⟩, ?_⟩) h2
    · have := hv' k h.symm
      have := hk.2.2.1
      omega
    have h3 := hk.2.2.1
    rw [if_pos (by omega), hk.1.2]
    exact hi
  refine S_close (fun k => if k < B then (if f k < a then f k else f k + 1) else a) ?_ hR (fun k hk => hok k (hv' k hk)) (fun j x c hx hc => ?_)
  · simp only [List.length_append, List.length_take, List.length_cons, List.length_drop]
    omega
  have la : (C.take a).length = a := by rw [List.length_take]; omega
  have ra : (rows.take a).length = a := by rw [List.length_take]; omega
  rcases Nat.lt_trichotomy j a with h | h | h
  · rw [List.getElem?_append_left (by omega), List.getElem?_take, if_pos h] at hx hc
    exact hold j j x c hx hc (if_pos h)
  · subst h
    rw [List.getElem?_append_right (by omega), la, Nat.sub_self] at hx
    rw [List.getElem?_append_right (by omega), ra, Nat.sub_self] at hc
    simp only [List.getElem?_cons_zero, Option.some.injEq] at hx hc
    subst hx; subst hc
    refine ⟨u, rfl, Kd.R_lower (Kd.R_reok rfl hu (fun k hk => ?_)) hbB⟩
    have hbk : B ≤ k := Kd.R_base hu k hk
    exact ⟨⟨hok k hbk, hne k hk⟩, if_neg (by omega)⟩
  rw [List.getElem?_append_right (by omega), la] at hx
  rw [List.getElem?_append_right (by omega), ra] at hc
  obtain ⟨i, hi⟩ : ∃ i, j - a = i + 1 := ⟨j - a - 1, by omega⟩
  rw [hi, List.getElem?_cons_succ, List.getElem?_drop] at hx hc
  exact hold (a + i) j x c hx hc (by rw [if_neg (by omega)]; omega)
end Go.Proofs.Ytipkciildhghiaa.B
/- slices.Concat comes to the rows behind one another (for this claim, by hand). -/
set_option linter.unusedVariables false
set_option linter.unusedSimpArgs false
namespace Go.Proofs.Ytipkciildhghiaa.B
open Go.RowKit Go.Proofs.YtipkciildhghiaaW.PrintWords
theorem total_take1 (l : List (List Int)) (k : Nat) (hk : k < l.length) : total (l.take (k + 1)) = total (l.take k) + (l.getD k []).length := by
  have ht : l.take (k + 1) = l.take k ++ [l.getD k []] := by
    rw [List.take_succ_eq_append_getElem hk, List.getD_eq_getElem?_getD, List.getElem?_eq_getElem hk]; rfl
  rw [ht, total_append]; simp [total]
theorem total_take_all (l : List (List Int)) (k : Nat) : total (l.take k) ≤ total l := by
  have h := total_append (l.take k) (l.drop k)
  rw [List.take_append_drop] at h
  have := total_nonneg (l.drop k)
  omega
theorem flatten_length : ∀ l : List (List Int), (l.flatten.length : Int) = total l
  | [] => rfl
  | x :: l => by rw [List.flatten_cons, List.length_append]; have := flatten_length l; simp only [total]; omega
theorem flatten_take1 (l : List (List Int)) (k : Nat) (hk : k < l.length) : (l.take (k + 1)).flatten = (l.take k).flatten ++ l.getD k [] := by
  have ht : l.take (k + 1) = l.take k ++ [l.getD k []] := by
    rw [List.take_succ_eq_append_getElem hk, List.getD_eq_getElem?_getD, List.getElem?_eq_getElem hk]; rfl
  rw [ht, List.flatten_append]; simp
theorem concat_ev (l : List (List Int)) (hl : l.length < 9223372036854775807) (ht : total l ≤ 17592186044415) : Ev (fun k => z156.f k l) l.flatten := by
  unfold z156.f
  -- the second loop
  have h1 : Ev (fun k => z156.l1 k ([] : List Int) l (l.length : Int) 0) l.flatten := by
    have := (le_iter_inv (fun (s : List Int) (i : Nat) k => z156.l1 k s l (l.length : Int) (i : Int)) (fun i s => s ++ l.getD i []) (fun i s => s = (l.take i).flatten) l.length 0 [] (by simp) (by
      intro j s _ hj hs
      have hj' : j < l.length := by omega
      refine ⟨fun r hr => ?_, by rw [flatten_take1 l j hj', hs]⟩
      refine Ev.step (fun k => z156.l1.eq_2 ..) ?_
      rw [rdl_nat, wrap_succ (by omega)]
      have e1 := total_take1 l j hj'
      have e2 := total_take_all l (j + 1)
      have e3 := flatten_length (l.take j)
      rw [← hs] at e3
      exact ev_pos (by omega) (ev_pos (by omega) (ev_pos (by omega) (ev_pos (by omega) hr)))))
    refine this.1 _ ?_
    refine Ev.step (fun k => z156.l1.eq_2 ..) ?_
    refine ev_neg (by omega) (ev_eq (Ev.now _) ?_)
    rw [this.2, Nat.zero_add, List.take_length]
  have := (le_iter_inv (fun (s : Int) (i : Nat) k => z156.l0 k l s l (l.length : Int) (i : Int)) (fun i s => s + (l.getD i []).length) (fun i s => s = total (l.take i)) l.length 0 0 (by simp [total]) (by
    intro j s _ hj hs
    have hj' : j < l.length := by omega
    have e1 := total_take1 l j hj'
    have e2 := total_take_all l (j + 1)
    have e3 := total_nonneg (l.take j)
    refine ⟨fun r hr => ?_, by rw [e1, hs]⟩
    refine Ev.step (fun k => z156.l0.eq_2 ..) ?_
    rw [rdl_nat, wrap_succ (by omega), wrap_small (x := s + ((l.getD j []).length : Int)) (by omega) (by omega)]
    exact ev_pos (by omega) (ev_pos (by omega) (ev_pos (by omega) (ev_neg (by omega) hr)))))
  refine this.1 _ ?_
  refine Ev.step (fun k => z156.l0.eq_2 ..) ?_
  have e4 : iter (fun i s => s + ((l.getD i []).length : Int)) 0 l.length 0 = total l := by
    rw [this.2, Nat.zero_add, List.take_length]
  rw [e4]
  have e5 := total_nonneg l
  refine ev_neg (by omega) (Ev.bind (a := []) (ev_const ?_) h1)
  unfold slices_Grow_int64_int64.f
  rw [if_pos ⟨⟨rfl, e5⟩, ht⟩]
end Go.Proofs.Ytipkciildhghiaa.B
/- Simplices: what the program's and the reference's tests come to (for this claim, by hand). -/
set_option linter.unusedVariables false
set_option linter.unusedSimpArgs false
namespace Go.Proofs.Ytipkciildhghiaa.B
open Go.RowKit Go.Proofs.YtipkciildhghiaaW.PrintWords
def rises (l : List Int) (i : Nat) : Bool := i == 0 || decide (l.getD (i - 1) 0 < l.getD i 0)
def rising (l : List Int) : Bool := (List.range l.length).all (rises l)
def isSimplex (l : List Int) : Bool := (decide (1 ≤ l.length) && decide (l.length ≤ 4)) && (rising l && l.all fun v => decide (0 ≤ v) && decide (v ≤ 9))
theorem isRising_ev (l : List Int) (hl : l.length < 9223372036854775807) : Ev (fun k => z125.f k l) (rising l) := by
  unfold z125.f
  rcases Nat.eq_zero_or_pos l.length with h0 | h0
  · have : rising l = true := by unfold rising; rw [h0]; rfl
    rw [this]
    refine Ev.step (fun k => z125.l0.eq_2 ..) ?_
    exact ev_neg (by omega) (Ev.now _)
  refine ev_find (fun (i : Nat) k => z125.l0 k l (i : Int)) (fun i => !rises l i) (l.length - 1) 1 (fun i hi hi2 hp r hr => ?_) (fun i hi hi2 hp _ => ?_) (fun hall => ?_)
  · have hp : rises l i = true := by simpa using hp
    unfold rises at hp
    have e : (i == 0) = false := by simpa using (show i ≠ 0 by omega)
    rw [e, Bool.false_or] at hp
    have hp := of_decide_eq_true hp
    refine Ev.step (fun k => z125.l0.eq_2 ..) ?_
    rw [show wrap64 ((i : Int) - 1) = ((i - 1 : Nat) : Int) by rw [wrap_small (by omega) (by omega)]; omega, rd_nat, rd_nat, wrap_succ (by omega)]
    exact ev_pos (by omega) (ev_pos (by omega) (ev_pos (by omega) (ev_pos (by omega) (ev_neg (by omega) hr))))
  · have hp : rises l i = false := by simpa using hp
    have hf : rising l = false := by
      unfold rising
      rw [Bool.eq_false_iff]
      intro h
      have := List.all_eq_true.1 h i (List.mem_range.2 (by omega))
      rw [hp] at this; cases this
    rw [hf]
    unfold rises at hp
    have e : (i == 0) = false := by simpa using (show i ≠ 0 by omega)
    rw [e, Bool.false_or] at hp
    have hp := of_decide_eq_false hp
    refine Ev.step (fun k => z125.l0.eq_2 ..) ?_
    rw [show wrap64 ((i : Int) - 1) = ((i - 1 : Nat) : Int) by rw [wrap_small (by omega) (by omega)]; omega, rd_nat, rd_nat]
    exact ev_pos (by omega) (ev_pos (by omega) (ev_pos (by omega) (ev_pos (by omega) (ev_pos (by omega) (Ev.now _)))))
  have hf : rising l = true := List.all_eq_true.2 (fun i hi => by
    have hi := List.mem_range.1 hi
    rcases Nat.eq_zero_or_pos i with h | h
    · subst h; rfl
    simpa using hall i h (by omega))
  rw [hf, show 1 + (l.length - 1) = l.length by omega]
  refine Ev.step (fun k => z125.l0.eq_2 ..) ?_
  exact ev_neg (by omega) (Ev.now _)
theorem vertex_val (v : Int) : z127.f v = some (!(decide (0 ≤ v) && decide (v ≤ 9))) := by
  unfold z127.f z83.f
  rw [within_val]; rfl
theorem vertices_ev (l : List Int) (hl : l.length < 9223372036854775807) : Ev (fun k => z225.f k l) (l.any fun v => !(decide (0 ≤ v) && decide (v ≤ 9))) := by
  obtain ⟨t, ht, hd⟩ := ev_index_list (l) 0 (fun i k => z226.l0 k (l) ((l).length : Int) (i : Int) ) (fun v => !(decide (0 ≤ v) && decide (v ≤ 9))) (fun j hj hp r hr => by
      refine Ev.step (fun k => z226.l0.eq_2 ..) ?_
      refine ev_pos (by omega) (ev_pos (by omega) (ev_pos (by omega) ?_))
      rw [rd_nat, wrap_succ (by omega)]
      exact Ev.bind (ev_const (vertex_val _)) (ev_neg (by rw [hp]; decide) hr)) (fun j hj hp => by
      refine Ev.step (fun k => z226.l0.eq_2 ..) ?_
      refine ev_pos (by omega) (ev_pos (by omega) (ev_pos (by omega) ?_))
      rw [rd_nat]
      exact Ev.bind (ev_const (vertex_val _)) (ev_pos hp (Ev.now _))) (by
      refine Ev.step (fun k => z226.l0.eq_2 ..) ?_
      exact ev_neg (by omega) (Ev.now _))
  unfold z225.f z226.f
  refine Ev.bind ht (ev_eq (Ev.now _) hd)
theorem implSimplex_ev (l : List Int) (hl : l.length < 9223372036854775807) : Ev (fun k => z77.f k l) (isSimplex l) := by
  unfold z77.f isSimplex
  by_cases h1 : 1 ≤ l.length
  · rw [decide_eq_true h1, Bool.true_and]
    refine ev_pos (by omega) ?_
    by_cases h4 : l.length ≤ 4
    · rw [decide_eq_true h4, Bool.true_and]
      refine ev_pos (by omega) (Ev.bind (isRising_ev l hl) ?_)
      cases hr : rising l with
      | false => exact ev_neg (by decide) (Ev.now _)
      | true =>
        refine ev_pos rfl (Ev.bind (vertices_ev l hl) (ev_eq (Ev.now _) ?_))
        rw [List.any_eq_not_all_not]; simp
    rw [decide_eq_false h4, Bool.false_and]
    exact ev_neg (by omega) (Ev.now _)
  rw [decide_eq_false h1, Bool.false_and, Bool.false_and]
  exact ev_neg (by omega) (Ev.now _)
theorem specRises_ev (l : List Int) (a b : Int) (hl : l.length < 9223372036854775807) : Ev (fun k => z123.f k l a b) (rising l && l.all fun v => decide (a ≤ v) && decide (v ≤ b)) := by
  have e : (rising l && l.all fun v => decide (a ≤ v) && decide (v ≤ b)) = (List.range l.length).all fun i => (decide (a ≤ l.getD i 0) && decide (l.getD i 0 ≤ b)) && rises l i := by
    rw [← all_range l 0, rising, Bool.eq_iff_iff, Bool.and_eq_true, List.all_eq_true, List.all_eq_true, List.all_eq_true]
    constructor
    · rintro ⟨h1, h2⟩ i hi
      rw [h1 i hi, h2 i hi]; rfl
    intro h
    exact ⟨fun i hi => ((Bool.and_eq_true _ _).mp (h i hi)).2, fun i hi => ((Bool.and_eq_true _ _).mp (h i hi)).1⟩
  rw [e]
  unfold z123.f
  refine ev_all (fun (i : Nat) k => z123.l0 k l a b (i : Int)) _ l.length (fun i hi hp r hr => ?_) (fun i hi hp => ?_) ?_
  · obtain ⟨h1, h2⟩ := (Bool.and_eq_true _ _).mp hp
    refine Ev.step (fun k => z123.l0.eq_2 ..) ?_
    rw [rd_nat, wrap_succ (by omega)]
    refine ev_pos (by omega) (ev_pos (by omega) (Ev.bind (ev_const (in_val _ _ _)) (ev_pos h1 ?_)))
    rcases Nat.eq_zero_or_pos i with h | h
    · exact ev_neg (by omega) hr
    have e : (i == 0) = false := by simpa using (show i ≠ 0 by omega)
    unfold rises at h2
    rw [e, Bool.false_or] at h2
    have h2 := of_decide_eq_true h2
    rw [show wrap64 ((i : Int) - 1) = ((i - 1 : Nat) : Int) by rw [wrap_small (by omega) (by omega)]; omega, rd_nat]
    exact ev_pos (by omega) (ev_pos (by omega) (ev_pos (by omega) (ev_neg (by omega) hr)))
  · refine Ev.step (fun k => z123.l0.eq_2 ..) ?_
    rw [rd_nat]
    refine ev_pos (by omega) (ev_pos (by omega) (Ev.bind (ev_const (in_val _ _ _)) ?_))
    cases h1 : decide (a ≤ l.getD i 0) && decide (l.getD i 0 ≤ b) with
    | false => exact ev_neg (by decide) (Ev.now _)
    | true =>
      rw [h1, Bool.true_and] at hp
      refine ev_pos rfl ?_
      rcases Nat.eq_zero_or_pos i with h | h
      · subst h; cases hp
      have e : (i == 0) = false := by simpa using (show i ≠ 0 by omega)
      unfold rises at hp
      rw [e, Bool.false_or] at hp
      have hp := of_decide_eq_false hp
      rw [show wrap64 ((i : Int) - 1) = ((i - 1 : Nat) : Int) by rw [wrap_small (by omega) (by omega)]; omega, rd_nat]
      exact ev_pos (by omega) (ev_pos (by omega) (ev_pos (by omega) (ev_pos (by omega) (Ev.now _))))
  refine Ev.step (fun k => z123.l0.eq_2 ..) ?_
  exact ev_neg (by omega) (Ev.now _)
theorem specSimplex_ev (l : List Int) (hl : l.length < 9223372036854775807) : Ev (fun k => z73.f k l) (isSimplex l) := by
  unfold z73.f isSimplex
  refine Ev.bind (ev_const (in_val _ _ _)) ?_
  have e : (decide ((1 : Int) ≤ (l.length : Int)) && decide ((l.length : Int) ≤ 4)) = (decide (1 ≤ l.length) && decide (l.length ≤ 4)) := by
    rw [Bool.eq_iff_iff]; simp; omega
  rw [e]
  cases h : decide (1 ≤ l.length) && decide (l.length ≤ 4) with
  | false => exact ev_neg (by decide) (Ev.now _)
  | true => exact ev_pos rfl (Ev.bind (specRises_ev l 0 9 hl) (Ev.now _))
end Go.Proofs.Ytipkciildhghiaa.B
