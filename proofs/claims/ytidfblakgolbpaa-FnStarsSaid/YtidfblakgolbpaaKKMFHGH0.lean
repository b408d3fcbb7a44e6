/- Printed proofs of functions of the program and of the reference, by a program of this work over the kit's printer. -/
import Derived.Test.YtidfblakgolbpaaKFFCAJK0
import Derived.Test.YtidfblakgolbpaaKGBPODH0
import Derived.Test.YtidfblakgolbpaaKGBPODH1
import Derived.Test.YtidfblakgolbpaaKJCCDEM0
import Derived.Test.YtidfblakgolbpaaKLNICDK0
import Derived.Test.YtidfblakgolbpaaKW0
/- Which complexes are valid, by the program and by the reference (for this claim, by hand). -/
set_option linter.unusedVariables false
set_option linter.unusedSimpArgs false
namespace Go.Proofs.Ytidfblakgolbpaa.B
open Go.RowKit Go.Proofs.YtidfblakgolbpaaW.PrintWords
open SimT
/-- The faces of a simplex with one vertex less, in order. -/
def faces (s : List Int) : List (List Int) := if 1 < s.length then (List.range s.length).map (drp s) else []
theorem faces_len (s : List Int) : (faces s).length ≤ s.length := by
  unfold faces
  split <;> simp
theorem faces_row {s x : List Int} (h : x ∈ faces s) : x.length ≤ s.length := by
  unfold faces at h
  split at h
  · obtain ⟨i, hi, rfl⟩ := List.mem_map.1 h
    exact (drp_sub s i).length_le
  · cases h
theorem mem_faces {s x : List Int} : x ∈ faces s ↔ 1 < s.length ∧ ∃ k, k < s.length ∧ drp s k = x := by
  unfold faces
  split
  · rename_i h
    rw [List.mem_map]
    exact ⟨fun ⟨k, hk, e⟩ => ⟨h, k, List.mem_range.1 hk, e⟩, fun ⟨_, k, hk, e⟩ => ⟨k, List.mem_range.2 hk, e⟩⟩
  · rename_i h
    exact ⟨fun hx => (by cases hx), fun hx => absurd hx.1 h⟩
theorem faces_get {s : List Int} (h : 1 < s.length) {i : Nat} (hi : i < s.length) : (faces s).getD i [] = drp s i := by
  unfold faces
  rw [if_pos h]
  simp [List.getD_eq_getElem?_getD, hi]
theorem faces_slt {s x : List Int} (h : x ∈ faces s) : slt x s = true := by
  obtain ⟨_, k, hk, rfl⟩ := mem_faces.1 h
  exact drp_slt hk
theorem facesOf_ev (s : List Int) (hs : s.length ≤ 1000000000000) : Ev (fun k => z31.f k s) (faces s) := by
  unfold z31.f
  by_cases h1 : 1 < s.length
  · have := ev_map (fun (a : List (List Int)) (i : Nat) k => z31.l0 k s a (s.length : Int) (i : Int)) (drp s) s.length (fun j a hj ha r hr => by
      refine Ev.step (fun k => z31.l0.eq_2 ..) ?_
      have hal : a.length = j := by rw [ha]; simp
      rw [wrap_succ (by omega), Int.toNat_natCast, Int.toNat_natCast]
      refine ev_pos (by omega) (ev_pos (by omega) (ev_pos (by omega) (ev_pos (by omega) (ev_pos (by omega) (ev_pos (by omega) (Ev.bind (concat_ev _ (by simp) ?_) (ev_pos (by omega) ?_)))))))
      · have h2 : (s.take j).length ≤ s.length := (List.take_sublist j s).length_le
        have h3 : (s.drop (j + 1)).length ≤ s.length := (List.drop_sublist (j + 1) s).length_le
        simp only [total]; omega
      · have e : [s.take j, s.drop (j + 1)].flatten = drp s j := by simp [drp]
        rw [e]; exact hr)
    have e : faces s = (List.range s.length).map (drp s) := by unfold faces; rw [if_pos h1]
    rw [e]
    refine this _ ?_
    refine Ev.step (fun k => z31.l0.eq_2 ..) ?_
    exact ev_neg (by omega) (Ev.now _)
  · have e : faces s = [] := by unfold faces; rw [if_neg h1]
    rw [e]
    refine ev_find (fun (i : Nat) k => z31.l0 k s ([] : List (List Int)) (s.length : Int) (i : Int)) (fun _ => false) s.length 0 (fun j _ hj _ r hr => ?_) (fun _ _ _ h => by cases h) (fun _ => ?_)
    · refine Ev.step (fun k => z31.l0.eq_2 ..) ?_
      rw [wrap_succ (by omega)]
      exact ev_pos (by omega) (ev_neg (by omega) hr)
    · refine Ev.step (fun k => z31.l0.eq_2 ..) ?_
      rw [Nat.zero_add]
      exact ev_neg (by omega) (Ev.now _)
theorem drop_val (s : List Int) (i : Nat) (hi : i < s.length) (hs : s.length ≤ 1000000000000) : z45.f s (i : Int) = some (drp s i) := by
  unfold z45.f z67.f
  have h2 : (s.take i).length ≤ s.length := (List.take_sublist i s).length_le
  have h3 : (s.drop (i + 1)).length ≤ s.length := (List.drop_sublist (i + 1) s).length_le
  rw [wrap_succ (by omega), Int.toNat_natCast, Int.toNat_natCast, if_pos (by omega), if_pos (by omega)]
  simp only [Option.bind_some, List.nil_append, List.length_nil, Nat.zero_add]
  rw [if_pos (by omega)]
  simp only [Option.bind_some]
  rw [if_pos (by omega), if_pos (by omega), if_pos (by omega)]
  rfl
/-! The tests -/
def okAt (C : List (List Int)) (D : List (List Int)) (i : Nat) : Bool := (isSimplex (C.getD i []) && (i == 0 || slt (C.getD (i - 1) []) (C.getD i []))) && (faces (C.getD i [])).all fun f => decide (f ∈ D)
def okC (C : List (List Int)) : Bool := decide (C.length ≤ 48) && (List.range C.length).all (okAt C C)
theorem okAt_iff {C D : List (List Int)} {i : Nat} : okAt C D i = true ↔ isSimplex (C.getD i []) = true ∧ (i = 0 ∨ slt (C.getD (i - 1) []) (C.getD i []) = true) ∧ ∀ f, f ∈ faces (C.getD i []) → f ∈ D := by
  unfold okAt
  rw [Bool.and_eq_true, Bool.and_eq_true, Bool.or_eq_true, List.all_eq_true, beq_iff_eq]
  simp only [decide_eq_true_eq]
  exact ⟨fun ⟨⟨a, b⟩, c⟩ => ⟨a, b, c⟩, fun ⟨a, b, c⟩ => ⟨⟨a, b⟩, c⟩⟩
theorem srt_upto {C D : Nat → List (List Int)} {L : List (List Int)} (n : Nat) (hn : n ≤ L.length) (h : ∀ m, m < n → okAt L (D m) m = true) : Srt (L.take n) := by
  refine srt_of_get (fun i hi => ?_)
  rw [List.length_take] at hi
  have hi' : i + 1 < n := by omega
  obtain ⟨_, h2, _⟩ := okAt_iff.1 (h (i + 1) hi')
  have e1 : (L.take n).getD i [] = L.getD i [] := by
    rw [List.getD_eq_getElem?_getD, List.getD_eq_getElem?_getD, List.getElem?_take, if_pos (by omega)]
  have e2 : (L.take n).getD (i + 1) [] = L.getD (i + 1) [] := by
    rw [List.getD_eq_getElem?_getD, List.getD_eq_getElem?_getD, List.getElem?_take, if_pos hi']
  rw [e1, e2]
  rcases h2 with h2 | h2
  · omega
  · exact h2
theorem okC_iff {C : List (List Int)} : okC C = true ↔ C.length ≤ 48 ∧ Srt C ∧ (∀ s, s ∈ C → isSimplex s = true) ∧ Closed C := by
  unfold okC
  rw [Bool.and_eq_true, decide_eq_true_iff, List.all_eq_true]
  constructor
  · rintro ⟨h1, h2⟩
    have h2' : ∀ m, m < C.length → okAt C C m = true := fun m hm => h2 m (List.mem_range.2 hm)
    have hs := srt_upto (C := fun _ => C) (D := fun _ => C) C.length (Nat.le_refl _) h2'
    rw [List.take_length] at hs
    refine ⟨h1, hs, fun s hs => ?_, fun s hs hl k hk => ?_⟩
    · obtain ⟨i, hi, e⟩ := List.mem_iff_getElem.1 hs
      have := (okAt_iff.1 (h2' i hi)).1
      rw [List.getD_eq_getElem?_getD, List.getElem?_eq_getElem hi] at this
      simpa [e] using this
    · obtain ⟨i, hi, e⟩ := List.mem_iff_getElem.1 hs
      have := (okAt_iff.1 (h2' i hi)).2.2
      rw [List.getD_eq_getElem?_getD, List.getElem?_eq_getElem hi] at this
      simp only [Option.getD_some, e] at this
      exact this _ (mem_faces.2 ⟨hl, k, hk, rfl⟩)
  · rintro ⟨h1, h2, h3, h4⟩
    refine ⟨h1, fun i hi => okAt_iff.2 ⟨h3 _ (getD_mem [] (List.mem_range.1 hi)), ?_, fun f hf => ?_⟩⟩
    · rcases Nat.eq_zero_or_pos i with h | h
      · exact .inl h
      · exact .inr (srt_get h2 (by omega) (List.mem_range.1 hi))
    · obtain ⟨hl, k, hk, rfl⟩ := mem_faces.1 hf
      exact h4 _ (getD_mem [] (List.mem_range.1 hi)) hl k hk
theorem simplex_len {s : List Int} (h : isSimplex s = true) : 1 ≤ s.length ∧ s.length ≤ 4 := by
  unfold isSimplex at h
  rw [Bool.and_eq_true, Bool.and_eq_true, decide_eq_true_iff, decide_eq_true_iff] at h
  exact h.1
/-- What the program tests at each place, all ahead of it being in order, is what the reference tests. -/
theorem okAt_take {C : List (List Int)} (hs : Srt C) {i : Nat} (hi : i < C.length) : okAt C (C.take i) i = okAt C C i := by
  rw [Bool.eq_iff_iff, okAt_iff, okAt_iff]
  refine and_congr Iff.rfl (and_congr Iff.rfl ⟨fun h f hf => List.mem_of_mem_take (h f hf), fun h f hf => ?_⟩)
  obtain ⟨j, hj, e⟩ := List.mem_iff_getElem.1 (h f hf)
  have hlt := faces_slt hf
  have ej : C.getD j [] = f := by rw [List.getD_eq_getElem?_getD, List.getElem?_eq_getElem hj]; exact e
  rcases Nat.lt_or_ge j i with hl | hg
  · rw [List.mem_iff_getElem]
    exact ⟨j, by rw [List.length_take]; omega, by rw [List.getElem_take]; exact e⟩
  · rcases Nat.eq_or_lt_of_le hg with rfl | hl
    · rw [ej, slt_irrefl] at hlt; cases hlt
    · have := srt_get hs hl hj
      rw [ej] at this
      rw [slt_asymm this] at hlt; cases hlt
theorem ok_same (C : List (List Int)) : ((List.range C.length).all (fun i => okAt C (C.take i) i) && decide (C.length ≤ 48)) = okC C := by
  unfold okC
  rw [Bool.and_comm]
  congr 1
  rw [Bool.eq_iff_iff, List.all_eq_true, List.all_eq_true]
  constructor
  · intro h
    have hs := srt_upto (C := fun _ => C) (D := fun m => C.take m) (L := C) C.length (Nat.le_refl _) (fun m hm => h m (List.mem_range.2 hm))
    rw [List.take_length] at hs
    intro i hi
    rw [← okAt_take hs (List.mem_range.1 hi)]; exact h i hi
  · intro h
    have hs := srt_upto (C := fun _ => C) (D := fun _ => C) (L := C) C.length (Nat.le_refl _) (fun m hm => h m (List.mem_range.2 hm))
    rw [List.take_length] at hs
    intro i hi
    rw [okAt_take hs (List.mem_range.1 hi)]; exact h i hi
/-! The program's -/
theorem missing_ev (C : List (List Int)) (i : Nat) (hi : i ≤ C.length) (hl : C.length < 4611686018427387904) (hr : ∀ x ∈ C, x.length < 9223372036854775807) (hs : Srt (C.take i)) (f : List Int) (hf : f.length < 9223372036854775807) :
    Ev (fun k => z48.f k f C (i : Int)) (!decide (f ∈ C.take i)) := by
  unfold z48.f
  rw [Int.toNat_natCast]
  have hlt : (C.take i).length ≤ C.length := (List.take_sublist i C).length_le
  refine ev_pos (by omega) (ev_pos (by omega) (Ev.bind (indexOf_ev (C.take i) f (by omega) (fun x hx => hr x (List.mem_of_mem_take hx)) hf hs) (ev_eq (Ev.now _) ?_)))
  rw [Bool.eq_iff_iff, decide_eq_true_iff, idx_neg]; simp
theorem anyMissing_ev (C : List (List Int)) (n0 : Nat) (hi : n0 ≤ C.length) (hl : C.length < 4611686018427387904) (hrr : ∀ x ∈ C, x.length < 9223372036854775807) (hs : Srt (C.take n0)) (l : List (List Int)) (hll : l.length < 9223372036854775807) (hf : ∀ x ∈ l, x.length < 9223372036854775807) :
    Ev (fun k => z108.f k l C (n0 : Int)) (l.any fun f => !decide (f ∈ C.take n0)) := by
  obtain ⟨t, ht, hd⟩ := ev_index_list (l) [] (fun i k => z112.l0 k (l) ((l).length : Int) (i : Int) C (n0 : Int)) (fun f => !decide (f ∈ C.take n0)) (fun j hj hp r hr => by
      refine Ev.step (fun k => z112.l0.eq_2 ..) ?_
      refine ev_pos (by omega) (ev_pos (by omega) (ev_pos (by omega) ?_))
      rw [rdl_nat, wrap_succ (by omega)]
      exact Ev.bind (missing_ev C n0 hi hl hrr hs _ (hf _ (getD_mem [] hj))) (ev_neg (by rw [hp]; decide) hr)) (fun j hj hp => by
      refine Ev.step (fun k => z112.l0.eq_2 ..) ?_
      refine ev_pos (by omega) (ev_pos (by omega) (ev_pos (by omega) ?_))
      rw [rdl_nat]
      exact Ev.bind (missing_ev C n0 hi hl hrr hs _ (hf _ (getD_mem [] hj))) (ev_pos hp (Ev.now _))) (by
      refine Ev.step (fun k => z112.l0.eq_2 ..) ?_
      exact ev_neg (by omega) (Ev.now _))
  unfold z108.f z112.f
  refine Ev.bind ht (ev_eq (Ev.now _) hd)
theorem implValid_ev (C : List (List Int)) (hl : C.length ≤ 1048576) (hr : ∀ x ∈ C, x.length ≤ 1048576) : Ev (fun k => z21.f k C) (okC C) := by
  rw [← ok_same]
  unfold z21.f
  have hr' : ∀ x ∈ C, x.length < 9223372036854775807 := fun x hx => by have := hr x hx; omega
  -- the rest of a round
  have hrest : ∀ (j : Nat) (b : Bool), j < C.length → Srt (C.take j) → ∀ v, (b = false → ((faces (C.getD j [])).all fun f => decide (f ∈ C.take j)) = true → Ev (fun k => z21.l0 k C (C.length : Int) ((j + 1 : Nat) : Int) C) v) → (b = true ∨ ((faces (C.getD j [])).all fun f => decide (f ∈ C.take j)) = false → v = false) →
      Ev (fun k => z21.j1 k (C.getD j []) C (C.length : Int) (j : Int) b C (j : Int)) v := by
    intro j b hj hs v h1 h2
    have hrow := hr _ (getD_mem ([] : List Int) hj)
    refine Ev.step (fun k => z21.j1.eq_2 ..) ?_
    cases b with
    | true => rw [h2 (.inl rfl)]; exact ev_pos rfl (Ev.now _)
    | false =>
      refine ev_neg (by decide) (Ev.bind (facesOf_ev _ (by omega)) (Ev.bind (anyMissing_ev C j (by omega) (by omega) hr' hs _ (by have := faces_len (C.getD j []); omega) (fun x hx => by have := faces_row hx; omega)) ?_))
      cases ha : (faces (C.getD j [])).all fun f => decide (f ∈ C.take j) with
      | true =>
        refine ev_neg ?_ ?_
        · rw [List.any_eq_not_all_not]; simp only [Bool.not_not, ha]; decide
        · rw [wrap_succ (by omega)]; exact h1 rfl ha
      | false =>
        rw [h2 (.inr ha)]
        refine ev_pos ?_ (Ev.now _)
        rw [List.any_eq_not_all_not]; simp only [Bool.not_not, ha]; rfl
  have hround : ∀ (j : Nat), j < C.length → (∀ m, m < j → okAt C (C.take m) m = true) → ∀ v, (okAt C (C.take j) j = true → Ev (fun k => z21.l0 k C (C.length : Int) ((j + 1 : Nat) : Int) C) v) → (okAt C (C.take j) j = false → v = false) →
      Ev (fun k => z21.l0 k C (C.length : Int) (j : Int) C) v := by
    intro j hj hall v h1 h2
    have hs : Srt (C.take j) := srt_upto (C := fun _ => C) (D := fun m => C.take m) j (by omega) hall
    have hrow := hr _ (getD_mem ([] : List Int) hj)
    have key := hrest j
    refine Ev.step (fun k => z21.l0.eq_2 ..) ?_
    rw [rdl_nat]
    refine ev_pos (by omega) (ev_pos (by omega) (ev_pos (by omega) (Ev.bind (implSimplex_ev _ (by omega)) ?_)))
    unfold okAt at h1 h2
    cases hi : isSimplex (C.getD j []) with
    | false =>
      rw [hi] at h1 h2
      refine ev_neg (by decide) (key true hj hs v (fun h => by cases h) (fun _ => h2 rfl))
    | true =>
      rw [hi] at h1 h2
      refine ev_pos rfl ?_
      rcases Nat.eq_zero_or_pos j with h0 | h0
      · have e : (j == 0) = true := by simpa using h0
        rw [e] at h1 h2
        simp only [Bool.true_or, Bool.true_and] at h1 h2
        exact ev_neg (by omega) (key false hj hs v (fun _ ha => h1 ha) (fun h => h2 (h.elim (fun h => by cases h) id)))
      · have e : (j == 0) = false := by simpa using (show j ≠ 0 by omega)
        rw [e] at h1 h2
        simp only [Bool.false_or, Bool.true_and] at h1 h2
        rw [show wrap64 ((j : Int) - 1) = ((j - 1 : Nat) : Int) by rw [wrap_small (by omega) (by omega)]; omega, rdl_nat]
        have hrow2 := hr _ (getD_mem ([] : List Int) (show j - 1 < C.length by omega))
        refine ev_pos (by omega) (ev_pos (by omega) (ev_pos (by omega) (Ev.bind (compareS_ev _ _ (by omega) (by omega)) ?_)))
        cases hc : slt (C.getD (j - 1) []) (C.getD j []) with
        | true =>
          have e2 : decide (scmp (C.getD (j - 1) []) (C.getD j []) ≥ 0) = false := decide_eq_false (by have := (scmp_neg _ _).2 hc; omega)
          rw [e2]
          rw [hc] at h1 h2
          simp only [Bool.true_and] at h1 h2
          exact key false hj hs v (fun _ ha => h1 ha) (fun h => h2 (h.elim (fun h => by cases h) id))
        | false =>
          have e2 : decide (scmp (C.getD (j - 1) []) (C.getD j []) ≥ 0) = true := decide_eq_true (by
            have : ¬ scmp (C.getD (j - 1) []) (C.getD j []) < 0 := fun h => by rw [(scmp_neg _ _).1 h] at hc; cases hc
            omega)
          rw [e2]
          rw [hc] at h2
          exact key true hj hs v (fun h => by cases h) (fun _ => h2 rfl)
  refine ev_all_then (fun (i : Nat) k => z21.l0 k C (C.length : Int) (i : Int) C) (fun i => okAt C (C.take i) i) (decide (C.length ≤ 48)) C.length (fun j hj hall hp r hr' => ?_) (fun j hj hall hp => ?_) (fun _ => ?_)
  · exact hround j hj hall r (fun _ => hr') (fun h => by rw [hp] at h; cases h)
  · exact hround j hj hall false (fun h => by rw [hp] at h; cases h) (fun _ => rfl)
  · refine Ev.step (fun k => z21.l0.eq_2 ..) ?_
    exact ev_neg (by omega) (ev_eq (Ev.now _) (by rw [Bool.eq_iff_iff, decide_eq_true_iff, decide_eq_true_iff]; omega))
/-! The reference's -/
theorem specOk_ev (C : List (List Int)) (hl : C.length ≤ 1048576) (hr : ∀ x ∈ C, x.length ≤ 1048576) : Ev (fun k => z20.f k C) (okC C) := by
  unfold z20.f okC
  have hr' : ∀ x ∈ C, x.length < 9223372036854775807 := fun x hx => by have := hr x hx; omega
  by_cases h48 : C.length ≤ 48
  · rw [decide_eq_true h48, Bool.true_and]
    refine ev_neg (by omega) ?_
    -- the faces
    have hfaces : ∀ (j : Nat), j < C.length → ∀ v, (((faces (C.getD j [])).all fun f => decide (f ∈ C)) = true → Ev (fun k => z20.l0 k ((j + 1 : Nat) : Int) C) v) → (((faces (C.getD j [])).all fun f => decide (f ∈ C)) = false → v = false) →
        Ev (fun k => z20.l1 k (j : Int) (C.getD j []) 0 C) v := by
      intro j hj v h1 h2
      have hrow := hr _ (getD_mem ([] : List Int) hj)
      by_cases hlen : 1 < (C.getD j []).length
      · have hstep : ∀ (m : Nat), m < (C.getD j []).length → ∀ u, (drp (C.getD j []) m ∈ C → Ev (fun k => z20.l1 k (j : Int) (C.getD j []) ((m + 1 : Nat) : Int) C) u) → (drp (C.getD j []) m ∉ C → u = false) → Ev (fun k => z20.l1 k (j : Int) (C.getD j []) (m : Int) C) u := by
          intro m hm u g1 g2
          refine Ev.step (fun k => z20.l1.eq_2 ..) ?_
          refine ev_pos (by omega) ?_
          refine Ev.step (fun k => z20.j3.eq_2 ..) ?_
          refine ev_pos (decide_eq_true (by omega)) (Ev.bind (ev_const (drop_val _ m hm (by omega))) (Ev.bind (find_ev C _ (by omega) hr') ?_))
          by_cases hin : drp (C.getD j []) m ∈ C
          · rw [wrap_succ (by omega)]
            exact ev_neg (fun h => (idx_neg C _).1 h hin) (g1 hin)
          · rw [g2 hin]
            exact ev_pos ((idx_neg C _).2 hin) (Ev.now _)
        have hall := ev_all_then (fun (m : Nat) k => (z20.l1 k (j : Int) (C.getD j []) (m : Int) C).map fun b => b) (fun m => decide (drp (C.getD j []) m ∈ C)) v (C.getD j []).length ?_ ?_ ?_
        · have e : ((List.range (C.getD j []).length).all (fun m => decide (drp (C.getD j []) m ∈ C)) && v) = v := by
            cases v with
            | false => simp
            | true =>
              have : ((faces (C.getD j [])).all fun f => decide (f ∈ C)) = true := by
                cases hc : (faces (C.getD j [])).all fun f => decide (f ∈ C) with
                | true => rfl
                | false => have := h2 hc; cases this
              unfold faces at this
              rw [if_pos hlen, List.all_map] at this
              rw [Bool.and_true]; exact this
          rw [e] at hall
          simpa using hall
        · intro m hm _ hp u hu
          simp only [Option.map_id'] at hu ⊢
          exact hstep m hm u (fun _ => hu) (fun h => absurd (of_decide_eq_true hp) h)
        · intro m hm _ hp
          simp only [Option.map_id']
          exact hstep m hm false (fun h => absurd h (of_decide_eq_false hp)) (fun _ => rfl)
        · intro hall
          simp only [Option.map_id']
          have hfa : ((faces (C.getD j [])).all fun f => decide (f ∈ C)) = true := by
            unfold faces
            rw [if_pos hlen, List.all_map, List.all_eq_true]
            exact fun m hm => hall m (List.mem_range.1 hm)
          refine Ev.step (fun k => z20.l1.eq_2 ..) ?_
          refine ev_neg (by omega) ?_
          refine Ev.step (fun k => z20.j3.eq_2 ..) ?_
          rw [wrap_succ (i := j) (by omega)]
          exact ev_neg (by decide) (h1 hfa)
      · have hfa : ((faces (C.getD j [])).all fun f => decide (f ∈ C)) = true := by
          unfold faces; rw [if_neg hlen]; rfl
        refine Ev.step (fun k => z20.l1.eq_2 ..) ?_
        by_cases h0 : 0 < (C.getD j []).length
        · refine ev_pos (by omega) ?_
          refine Ev.step (fun k => z20.j3.eq_2 ..) ?_
          rw [wrap_succ (i := j) (by omega)]
          exact ev_neg (by rw [decide_eq_false (by omega)]; decide) (h1 hfa)
        · refine ev_neg (by omega) ?_
          refine Ev.step (fun k => z20.j3.eq_2 ..) ?_
          rw [wrap_succ (i := j) (by omega)]
          exact ev_neg (by decide) (h1 hfa)
    have hround : ∀ (j : Nat), j < C.length → ∀ v, (okAt C C j = true → Ev (fun k => z20.l0 k ((j + 1 : Nat) : Int) C) v) → (okAt C C j = false → v = false) → Ev (fun k => z20.l0 k (j : Int) C) v := by
      intro j hj v h1 h2
      have hrow := hr _ (getD_mem ([] : List Int) hj)
      have key := hfaces j hj v
      have stop : v = false → Ev (fun k => z20.j1 k (j : Int) (C.getD j []) true C) v := fun e => by
        refine Ev.step (fun k => z20.j1.eq_2 ..) ?_
        rw [e]; exact ev_pos rfl (Ev.now _)
      have go : Ev (fun k => z20.l1 k (j : Int) (C.getD j []) 0 C) v → Ev (fun k => z20.j1 k (j : Int) (C.getD j []) false C) v := fun e => by
        refine Ev.step (fun k => z20.j1.eq_2 ..) ?_
        exact ev_neg (by decide) e
      refine Ev.step (fun k => z20.l0.eq_2 ..) ?_
      rw [rdl_nat]
      refine ev_pos (by omega) (ev_pos (by omega) (Ev.bind (specSimplex_ev _ (by omega)) ?_))
      unfold okAt at h1 h2
      cases hi : isSimplex (C.getD j []) with
      | false => rw [hi] at h2; exact ev_neg (by decide) (stop (h2 rfl))
      | true =>
        rw [hi] at h1 h2
        refine ev_pos rfl ?_
        rcases Nat.eq_zero_or_pos j with h0 | h0
        · have e : (j == 0) = true := by simpa using h0
          rw [e] at h1 h2
          simp only [Bool.true_or, Bool.true_and] at h1 h2
          exact ev_neg (by omega) (go (key h1 h2))
        · have e : (j == 0) = false := by simpa using (show j ≠ 0 by omega)
          rw [e] at h1 h2
          simp only [Bool.false_or, Bool.true_and] at h1 h2
          have hrow2 := hr _ (getD_mem ([] : List Int) (show j - 1 < C.length by omega))
          rw [show wrap64 ((j : Int) - 1) = ((j - 1 : Nat) : Int) by rw [wrap_small (by omega) (by omega)]; omega, rdl_nat]
          refine ev_pos (by omega) (ev_pos (by omega) (ev_pos (by omega) (Ev.bind (before_ev _ _ (by omega)) ?_)))
          cases hc : slt (C.getD (j - 1) []) (C.getD j []) with
          | true =>
            rw [hc] at h1 h2
            simp only [Bool.true_and] at h1 h2
            exact go (key h1 h2)
          | false => rw [hc] at h2; exact stop (h2 rfl)
    refine ev_all (fun (i : Nat) k => z20.l0 k (i : Int) C) (okAt C C) C.length (fun j hj hp r hr' => ?_) (fun j hj hp => ?_) ?_
    · exact hround j hj r (fun _ => hr') (fun h => by rw [hp] at h; cases h)
    · exact hround j hj false (fun h => by rw [hp] at h; cases h) (fun _ => rfl)
    · refine Ev.step (fun k => z20.l0.eq_2 ..) ?_
      exact ev_neg (by omega) (Ev.now _)
  · rw [decide_eq_false h48, Bool.false_and]
    exact ev_pos (by omega) (Ev.now _)
end Go.Proofs.Ytidfblakgolbpaa.B
