/- Printed proofs of functions of the program and of the reference, by a program of this work over the kit's printer. -/
import Derived.Test.YtkgajpngeglkmaaKLBBOAD0
import Derived.Test.YtkgajpngeglkmaaKW0
/- Small tools for what the printed functions come to: pure Lean, no program in sight (for this claim, by hand). -/
set_option linter.unusedVariables false
set_option linter.unusedSimpArgs false
namespace Go.Proofs.Ytkgajpngeglkmaa.B
open Go.RowKit Go.Proofs.YtkgajpngeglkmaaW.PrintWords
theorem qAh {α : Type} {c : Prop} [Decidable c] {t f : Nat → Option α} {r : α} (h : c) (e : Ev t r) : Ev (fun k => if c then t k else f k) r := by
  simp only [if_pos h]; exact e
theorem qAs {α : Type} {c : Prop} [Decidable c] {t f : Nat → Option α} {r : α} (h : ¬ c) (e : Ev f r) : Ev (fun k => if c then t k else f k) r := by
  simp only [if_neg h]; exact e
theorem qAz {α : Type} {x : Option α} {r : α} (h : x = some r) : Ev (fun _ => x) r := ⟨0, fun _ _ => h⟩
theorem qBp {α : Type} {g : Nat → Option α} {r r' : α} (h : Ev g r) (e : r = r') : Ev g r' := e ▸ h
def Le {α : Type} (g f : Nat → Option α) : Prop := ∀ r, Ev g r → Ev f r
theorem Le.refl {α : Type} (g : Nat → Option α) : Le g g := fun _ h => h
theorem Le.trans {α : Type} {g f e : Nat → Option α} (h : Le g f) (h' : Le f e) : Le g e := fun r hr => h' r (h r hr)
def iter {σ : Type} (F : Nat → σ → σ) : Nat → Nat → σ → σ
  | _, 0, s => s
  | i, d + 1, s => iter F (i + 1) d (F i s)
theorem qLz {σ β : Type} (L : σ → Nat → Nat → Option β) (F : Nat → σ → σ) : ∀ (d i : Nat) (s : σ), (∀ j s, i ≤ j → j < i + d → Le (L (F j s) (j + 1)) (L s j)) → Le (L (iter F i d s) (i + d)) (L s i)
  | 0, i, s, _ => Le.refl _
  | d + 1, i, s, h => by
    have ih := qLz L F d (i + 1) (F i s) (fun j s h1 h2 => h j s (by omega) (by omega))
    rw [show i + 1 + d = i + (d + 1) by omega] at ih
    exact ih.trans (h i s (Nat.le_refl _) (by omega))
theorem qEr {σ β : Type} (L : σ → Nat → Nat → Option β) (F : Nat → σ → σ) (I : Nat → σ → Prop) : ∀ (d i : Nat) (s : σ), I i s → (∀ j s, i ≤ j → j < i + d → I j s → Le (L (F j s) (j + 1)) (L s j) ∧ I (j + 1) (F j s)) → Le (L (iter F i d s) (i + d)) (L s i) ∧ I (i + d) (iter F i d s)
  | 0, i, s, hI, _ => ⟨Le.refl _, hI⟩
  | d + 1, i, s, hI, h => by
    obtain ⟨h0, hI1⟩ := h i s (Nat.le_refl _) (by omega) hI
    have ih := qEr L F I d (i + 1) (F i s) hI1 (fun j s h1 h2 => h j s (by omega) (by omega))
    rw [show i + 1 + d = i + (d + 1) by omega] at ih
    exact ⟨ih.1.trans h0, ih.2⟩
theorem qH9 {σ : Type} (F : Nat → σ → σ) (I : Nat → σ → Prop) : ∀ (d i : Nat) (s : σ), I i s → (∀ j s, i ≤ j → j < i + d → I j s → I (j + 1) (F j s)) → I (i + d) (iter F i d s)
  | 0, i, s, hI, _ => hI
  | d + 1, i, s, hI, h => by
    have ih := qH9 F I d (i + 1) (F i s) (h i s (Nat.le_refl _) (by omega) hI) (fun j s h1 h2 => h j s (by omega) (by omega))
    rw [show i + 1 + d = i + (d + 1) by omega] at ih
    exact ih
theorem qIq {σ : Type} {F G : Nat → σ → σ} : ∀ (d i : Nat) (s : σ), (∀ j s, i ≤ j → j < i + d → F j s = G j s) → iter F i d s = iter G i d s
  | 0, i, s, _ => rfl
  | d + 1, i, s, h => by
    simp only [iter]
    rw [h i s (Nat.le_refl _) (by omega)]
    exact qIq d (i + 1) _ (fun j s h1 h2 => h j s (by omega) (by omega))
theorem qIa {σ : Type} (F : Nat → σ → σ) : ∀ (d e i : Nat) (s : σ), iter F i (d + e) s = iter F (i + d) e (iter F i d s)
  | 0, e, i, s => by simp [iter]
  | d + 1, e, i, s => by
    rw [show d + 1 + e = d + e + 1 by omega]
    simp only [iter]
    rw [qIa F d e (i + 1) (F i s), show i + 1 + d = i + (d + 1) by omega]
theorem qJi {σ : Type} (F : Nat → σ → σ) (d i : Nat) (s : σ) : iter F i (d + 1) s = F (i + d) (iter F i d s) := by
  rw [qIa F d 1 i s]; rfl
theorem qF5 {β : Type} {r : β} (L : Nat → Nat → Option β) (p : Nat → Bool) : ∀ (d i : Nat), (∀ j, i ≤ j → j < i + d → p j = false → Le (L (j + 1)) (L j)) →
    (∀ j, i ≤ j → j < i + d → p j = true → (∀ m, i ≤ m → m < j → p m = false) → Ev (L j) r) → ((∀ m, i ≤ m → m < i + d → p m = false) → Ev (L (i + d)) r) → Ev (L i) r
  | 0, i, _, _, he => he (fun m h1 h2 => by omega)
  | d + 1, i, h0, h1, he => by
    cases hp : p i with
    | true => exact h1 i (Nat.le_refl _) (by omega) hp (fun m h1 h2 => by omega)
    | false =>
      refine h0 i (Nat.le_refl _) (by omega) hp r (qF5 L p d (i + 1) (fun j a b => h0 j (by omega) (by omega)) (fun j a b c e => h1 j (by omega) (by omega) c (fun m u v => ?_)) (fun e => ?_))
      · rcases Nat.eq_or_lt_of_le u with rfl | u
        · exact hp
        exact e m u v
      rw [show i + 1 + d = i + (d + 1) by omega]
      refine he (fun m u v => ?_)
      rcases Nat.eq_or_lt_of_le u with rfl | u
      · exact hp
      exact e m u (by omega)
theorem qDu {α : Type} (xs : List α) (z : α) (p : α → Bool) : (List.range xs.length).all (fun i => p (xs.getD i z)) = xs.all p := by
  rw [Bool.eq_iff_iff, List.all_eq_true, List.all_eq_true]
  constructor
  · intro h x hx
    obtain ⟨i, hi, rfl⟩ := List.mem_iff_getElem.1 hx
    have := h i (List.mem_range.2 hi)
    rwa [List.getD_eq_getElem?_getD, List.getElem?_eq_getElem hi] at this
  intro h i hi
  have hi := List.mem_range.1 hi
  rw [List.getD_eq_getElem?_getD, List.getElem?_eq_getElem hi]
  exact h _ (List.getElem_mem hi)
theorem qG0 (L : Nat → Nat → Option Bool) (p : Nat → Bool) (n : Nat) (h1 : ∀ j, j < n → p j = true → Le (L (j + 1)) (L j)) (h0 : ∀ j, j < n → p j = false → Ev (L j) false) (he : Ev (L n) true) : Ev (L 0) ((List.range n).all p) := by
  refine qF5 L (fun j => !p j) n 0 (fun j _ hj hp => h1 j (by omega) (by simpa using hp)) (fun j _ hj hp _ => ?_) (fun h => ?_)
  · have hp' : p j = false := by simpa using hp
    have : (List.range n).all p = false := by
      rw [Bool.eq_false_iff]
      intro h
      have := List.all_eq_true.1 h j (List.mem_range.2 (by omega))
      rw [hp'] at this; cases this
    rw [this]
    exact h0 j (by omega) hp'
  have : (List.range n).all p = true := List.all_eq_true.2 (fun j hj => by simpa using h j (Nat.zero_le _) (by have := List.mem_range.1 hj; omega))
  rw [this, Nat.zero_add]
  exact he
theorem qEx {α : Type} (xs : List α) (z : α) (L : Nat → Nat → Option Bool) (p : α → Bool) (h1 : ∀ j, j < xs.length → p (xs.getD j z) = true → Le (L (j + 1)) (L j)) (h0 : ∀ j, j < xs.length → p (xs.getD j z) = false → Ev (L j) false) (he : Ev (L xs.length) true) : Ev (L 0) (xs.all p) := by
  rw [← qDu xs z]
  exact qG0 L (fun j => p (xs.getD j z)) xs.length h1 h0 he
theorem least {q : Nat → Prop} (h : ∃ j, q j) : ∃ j, q j ∧ ∀ m, m < j → ¬ q m := by
  obtain ⟨j, hj⟩ := h
  induction j using Nat.strongRecOn with
  | _ j ih =>
    by_cases hm : ∃ m, m < j ∧ q m
    · obtain ⟨m, h1, h2⟩ := hm
      exact ih m h1 h2
    exact ⟨j, hj, fun m h1 h2 => hm ⟨m, h1, h2⟩⟩
theorem qK0 (L : Nat → Nat → Option Int) (p : Nat → Bool) (n : Nat) (h0 : ∀ j, j < n → p j = false → Le (L (j + 1)) (L j)) (h1 : ∀ j, j < n → p j = true → Ev (L j) (j : Int)) (he : Ev (L n) (-1)) : ∃ t : Int, Ev (L 0) t ∧ decide (t ≥ 0) = (List.range n).any p := by
  by_cases h : ∃ j, j < n ∧ p j = true
  · obtain ⟨j, ⟨hj, hp⟩, hmin⟩ : ∃ j, (j < n ∧ p j = true) ∧ ∀ m, m < j → ¬ (m < n ∧ p m = true) := by
      exact least h
    refine ⟨j, ?_, ?_⟩
    · refine qF5 L p n 0 (fun i _ hi hpi => h0 i (by omega) hpi) (fun i _ hi hpi hbef => ?_) (fun hall => ?_)
      · have : i = j := by
          rcases Nat.lt_trichotomy i j with hlt | he | hlt
          · exact absurd ⟨by omega, hpi⟩ (hmin i hlt)
          · exact he
          have := hbef j (Nat.zero_le _) hlt; rw [hp] at this; cases this
        subst this
        exact h1 i hj hp
      have := hall j (Nat.zero_le _) (by omega); rw [hp] at this; cases this
    have : (List.range n).any p = true := List.any_eq_true.2 ⟨j, List.mem_range.2 hj, hp⟩
    rw [this]; simp
  have hno : ∀ j, j < n → p j = false := fun j hj => by
    cases hp : p j with
    | true => exact absurd ⟨j, hj, hp⟩ h
    | false => rfl
  refine ⟨-1, ?_, ?_⟩
  · refine qF5 L p n 0 (fun i _ hi hpi => h0 i (by omega) hpi) (fun i _ hi hpi hbef => ?_) (fun _ => by rw [Nat.zero_add]; exact he)
    have := hno i (by omega); rw [hpi] at this; cases this
  have : (List.range n).any p = false := by
    rw [Bool.eq_false_iff]
    intro hc
    obtain ⟨j, hj, hp⟩ := List.any_eq_true.1 hc
    have := hno j (List.mem_range.1 hj); rw [hp] at this; cases this
  rw [this]; rfl
theorem qJ8 {α : Type} (xs : List α) (z : α) (p : α → Bool) : (List.range xs.length).any (fun i => p (xs.getD i z)) = xs.any p := by
  have h := qDu xs z (fun x => !p x)
  rw [List.any_eq_not_all_not, List.any_eq_not_all_not, h]
theorem qB9 {α : Type} (xs : List α) (z : α) (L : Nat → Nat → Option Int) (p : α → Bool) (h0 : ∀ j, j < xs.length → p (xs.getD j z) = false → Le (L (j + 1)) (L j)) (h1 : ∀ j, j < xs.length → p (xs.getD j z) = true → Ev (L j) (j : Int)) (he : Ev (L xs.length) (-1)) : ∃ t : Int, Ev (L 0) t ∧ decide (t ≥ 0) = xs.any p := by
  rw [← qJ8 xs z]
  exact qK0 L (fun j => p (xs.getD j z)) xs.length h0 h1 he
theorem qAt {x : Int} (h0 : -9223372036854775808 ≤ x) (h1 : x ≤ 9223372036854775807) : wrap64 x = x := by
  unfold wrap64; omega
theorem qAw {i : Nat} (h : i < 9223372036854775807) : wrap64 ((i : Int) + 1) = ((i + 1 : Nat) : Int) := by
  unfold wrap64; omega
theorem qA9 (xs : List Int) (i : Nat) : rd xs (i : Int) = xs.getD i 0 := by simp [rd]
theorem rdOf_nat {α : Type} (z : α) (xs : List α) (i : Nat) : rdOf z xs (i : Int) = xs.getD i z := by simp [rdOf]
theorem set_prefix {α : Type} (l : List α) (i : Nat) (z : α) (hi : i < l.length) (y : α) (hy : y = l.getD i z) : (l.take i ++ List.replicate (l.length - i) z).set i y = l.take (i + 1) ++ List.replicate (l.length - (i + 1)) z := by
  have h1 : (l.take i).length = i := by rw [List.length_take]; omega
  rw [List.set_append_right _ _ (by omega), h1, Nat.sub_self, show l.length - i = (l.length - (i + 1)) + 1 by omega, List.replicate_succ, List.set_cons_zero, List.take_succ_eq_append_getElem hi, List.append_assoc]
  subst hy
  simp [List.getElem?_eq_getElem hi]
def qB6 : List Int → Int → List Int
  | [], _ => []
  | _ :: l, a => a :: qB6 l (a + 1)
def qCg : List (List Int) → Int → List (List Int)
  | [], _ => []
  | l :: ls, a => qB6 l a :: qCg ls (a + l.length)
def total : List (List Int) → Int
  | [] => 0
  | l :: ls => l.length + total ls
theorem qGm : ∀ ls, 0 ≤ total ls
  | [] => Int.le_refl _
  | l :: ls => by have := qGm ls; simp only [total]; omega
theorem qGn : ∀ l m : List (List Int), total (l ++ m) = total l + total m
  | [], m => by simp [total]
  | x :: l, m => by simp only [List.cons_append, total, qGn l m]; omega
theorem qEp : ∀ (l : List Int) (a : Int), (qB6 l a).length = l.length
  | [], _ => rfl
  | _ :: l, a => by simp [qB6, qEp l]
theorem qEn : ∀ (l : List (List Int)) (a : Int), (qCg l a).length = l.length
  | [], _ => rfl
  | _ :: l, a => by simp [qCg, qEn l]
theorem qEq : ∀ (l m : List Int) (a : Int), qB6 (l ++ m) a = qB6 l a ++ qB6 m (a + l.length)
  | [], m, a => by simp [qB6]
  | _ :: l, m, a => by simp only [List.cons_append, qB6, qEq l m, List.length_cons]; congr 3; push_cast; omega
theorem qEo : ∀ (l m : List (List Int)) (a : Int), qCg (l ++ m) a = qCg l a ++ qCg m (a + total l)
  | [], m, a => by simp [qCg, total]
  | x :: l, m, a => by simp only [List.cons_append, qCg, qEo l m, total]; congr 3; omega
end Go.Proofs.Ytkgajpngeglkmaa.B
