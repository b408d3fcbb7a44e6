/- Printed proofs of functions of the program and of the reference, by a program of this work over the kit's printer. -/
import Derived.Test.YtipkciildhghiaaKIMPFPI0
import Derived.Test.YtipkciildhghiaaKW0
set_option maxHeartbeats 8000000
set_option maxRecDepth 100000
namespace Go.Proofs.Ytipkciildhghiaa.B
open Go.RowKit Go.Proofs.YtipkciildhghiaaW.PrintWords Go.Proofs.YtipkciildhghiaaW.PrintLast Go.Proofs.YtipkciildhghiaaW.PrintMore
attribute [local go_sem] max2_int min2_int max_two min_two max_three min_three max_four min_four
set_option linter.unusedVariables false
set_option linter.unusedSimpArgs false
def z23.l0 : Nat → List Int → Int → Int → Option (Int)
 | 0, _, _, _ => none
 | k + 1, x0, x1, x5 => if x5 < (x0.length : Int) then (if 0 ≤ x5 then (if (rd x0 x5) = x1 then (z23.l0 k x0 (wrap64 (x1 + 1)) (wrap64 (x5 + 1))) else (some (-1))) else (none)) else (some x1)
def z23.f (k : Nat) (l0 : List Int) (a1 : Int) : Option (Int) := z23.l0 k l0 a1 0
theorem z23.calls (k : Nat) (A0 : Option Addr) (c0 : Nat) (l0 : List Int) (a1 : Int) (r : Int) (w : World) (hr0 : Kd.C (Kd.int .i64) w A0 l0.length l0) (hc0 : l0.length ≤ c0) (h : z23.f k l0 a1 = some r) :
  Calls Try.prog 23 #[.slice A0 l0.length c0, .int .i64 a1] w fun e w' => e = .returned (.int .i64 r) ∧ Dz w w' := by
 have HR0 := Zz.mk hr0
 have HC0 := Zz.mk hc0
 clear hr0 hc0
 have H : (z23.l0 k l0 a1 0) = some r := h
 clear h
 have H' := Zz.mk H
 clear H
 go_enter Try.func23, Try.ntmps23
 go_wp2
 go_loopg [1, 5] k (fun kq v1 v5 w' => ∃ (x1_1 : Int) (x5_1 : Int), v1 = .int .i64 x1_1 ∧ v5 = .int .i64 x5_1 ∧ Zz (z23.l0 kq l0 x1_1 x5_1 = some r) ∧ Zz (kq ≤ k) ∧ Dz w w')
 case atStart => exact ⟨(a1), (0), E_, E_, H', ⟨Nat.le_refl _⟩, by repeat (first | exact Dz.refl _ | apply Dz.step)⟩
 case round =>
  clear H'
  obtain ⟨x1_1, x5_1, rfl, rfl, HA, HK1, ⟨m1, rfl⟩⟩ := hrel
  cases gk with
  | zero => exact absurd HA.out (by simp [z23.l0])
  | succ k1 =>
   have H := HA.out
   clear HA
   simp only [z23.l0] at H
   by_cases c3 : x5_1 < (l0.length : Int)
   ·rw [if_pos c3] at H
    have c3b0 : decide (x5_1 < (l0.length : Int)) = true := decide_eq_true c3
    clear c3
    have c4b0 := O3_ H
    replace H := O2_ H
    by_cases c5 : (rd l0 x5_1) = x1_1
    ·rw [if_pos c5] at H
     have c5b0 : ((rd l0 x5_1) == x1_1) = true := beq_iff_eq.mpr c5
     have c5b1 : ((rd l0 x5_1) != x1_1) = false := bne_eq_false_iff_eq.mpr c5
     clear c5
     have H' := Zz.mk H
     clear H
     have p101 : 0 ≤ (x5_1 : Int) := D_
     have q101 : x5_1 < (l0.length : Int) := D_
     obtain ⟨ad101, e101, hx101_0⟩ := Kd.at_int HR0.out x5_1 p101 q101
     cases e101
     replace p101 := eq_true p101
     replace q101 := eq_true q101
     go_wp2
     go_roundg k1
     case measure => exact Q1_ HK1
     case rel => exact ⟨(wrap64 (x1_1 + 1)), (wrap64 (x5_1 + 1)), E_, E_, H', ⟨Q1_ HK1⟩, by repeat (first | exact Dz.refl _ | apply Dz.step)⟩
    rw [if_neg c5] at H
    have c5b0 : ((rd l0 x5_1) == x1_1) = false := beq_eq_false_iff_ne.mpr c5
    have c5b1 : ((rd l0 x5_1) != x1_1) = true := bne_iff_ne.mpr c5
    obtain rfl := OI_ H
    have p101 : 0 ≤ (x5_1 : Int) := D_
    have q101 : x5_1 < (l0.length : Int) := D_
    obtain ⟨ad101, e101, hx101_0⟩ := Kd.at_int HR0.out x5_1 p101 q101
    cases e101
    replace p101 := eq_true p101
    replace q101 := eq_true q101
    go_wp2
    go_ret
    exact eD_
   rw [if_neg c3] at H
   have c3b0 : decide (x5_1 < (l0.length : Int)) = false := decide_eq_false c3
   clear c3
   obtain rfl := OI_ H
   go_wp2
   go_ret
   exact eD_
def z22.l0 : Nat → List Int → Int → Int → Option (Int × List Int)
 | 0, _, _, _ => none
 | k + 1, x0, x1, x5 => if x5 < (x0.length : Int) then (if 0 ≤ x5 then (z22.l0 k (x0.set (x5 : Int).toNat x1) (wrap64 (x1 + 1)) (wrap64 (x5 + 1))) else (none)) else (some (x1, x0))
def z22.f (k : Nat) (l0 : List Int) (a1 : Int) : Option (Int × List Int) := z22.l0 k l0 a1 0
theorem z22.calls (k : Nat) (P0_ : Nat → Prop) (u9000_ : Value) (l0 : List Int) (a1 : Int) (r1 : Int) (r2 : List Int) (w0 w : World) (hB : Below w0.heap.size w0 w) (ho0 : Kd.R (Kd.int .i64) 2 w w0.heap.size P0_ u9000_ l0) (h : z22.f k l0 a1 = some (r1, r2)) :
  Calls Try.prog 22 #[u9000_, .int .i64 a1] w fun e w' => e = .returned (.int .i64 r1) ∧ Kd.R (Kd.int .i64) 2 w' w0.heap.size (fun k_ => (P0_ k_ ∨ w.heap.size ≤ k_)) u9000_ r2 ∧ Below w0.heap.size w0 w' ∧ Kept w w' (fun k_ => P0_ k_) := by
 have HO0 := Zz.mk (show Kd.R (Kd.int .i64) 2 w w0.heap.size (fun k_ => (P0_ k_ ∨ w.heap.size ≤ k_)) u9000_ l0 from Kd.R_mono ho0 (fun k_ hk => (.inl hk)))
 have HK := Zz.mk (Kept.refl w (fun k_ => P0_ k_))
 have HW0 := Zz.mk hB.size
 have HB := Zz.mk hB
 clear hB
 have H : (z22.l0 k l0 a1 0) = some (r1, r2) := h
 clear h
 have H' := Zz.mk H
 clear H
 go_enter Try.func22, Try.ntmps22
 go_wp2
 go_loopg [1, 5] k (fun kq v1 v5 w' => ∃ (x0_1 : List Int) (x1_1 : Int) (x5_1 : Int), v1 = .int .i64 x1_1 ∧ v5 = .int .i64 x5_1 ∧ Zz (z22.l0 kq x0_1 x1_1 x5_1 = some (r1, r2)) ∧ Zz (kq ≤ k) ∧ Zz (Kd.R (Kd.int .i64) 2 w' w0.heap.size (fun k_ => (P0_ k_ ∨ w.heap.size ≤ k_)) u9000_ x0_1) ∧ Zz (Kept w w' (fun k_ => P0_ k_)) ∧ Zz (Below w0.heap.size w0 w'))
 case atStart => exact ⟨(l0), (a1), (0), E_, E_, H', ⟨Nat.le_refl _⟩, ⟨KR_ HO0.out⟩, ⟨by repeat (first | (with_reducible first | exact HK.out | apply Kept.alloc | apply Kept.drewN | apply Kept.drew) | exact HK.out)⟩, ⟨B_ HB.out⟩⟩
 case round =>
  clear H'
  obtain ⟨x0_1, x1_1, x5_1, rfl, rfl, HA, HK1, HO_0, HK, HB⟩ := hrel
  cases gk with
  | zero => exact absurd HA.out (by simp [z22.l0])
  | succ k1 =>
   have H := HA.out
   clear HA
   simp only [z22.l0] at H
   by_cases c3 : x5_1 < (x0_1.length : Int)
   ·rw [if_pos c3] at H
    have c3b0 : decide (x5_1 < (x0_1.length : Int)) = true := decide_eq_true c3
    clear c3
    have c4b0 := O3_ H
    replace H := O2_ H
    obtain ⟨y101, hy101⟩ : ∃ y_ : List Int, y_ = (x0_1.set (x5_1 : Int).toNat x1_1) := ⟨_, rfl⟩
    replace H : (z22.l0 k1 y101 (wrap64 (x1_1 + 1)) (wrap64 (x5_1 + 1))) = some (r1, r2) := Y_ hy101 H
    have Ny101 := Zz.mk hy101
    clear hy101
    have H' := Zz.mk H
    clear H
    obtain ⟨Ao6, co6, eo6⟩ := Kd.R_slice HO_0.out
    subst eo6
    have p5 : 0 ≤ (x5_1 : Int) := D_
    have q5 : (x5_1 : Int) < ((x0_1.length : Int) : Int) := D_
    obtain ⟨go5, co5, eo5, gb5, gl5, cl5, HG5⟩ := Kd.R_form HO_0.out (by omega)
    (first | cases eo5 | (injection eo5 with ea_ en_ ec_; (first | subst ea_ | (injection ea_ with ea_; subst ea_)); subst ec_; clear en_))
    have GB5 := Zz.mk gb5
    have GG5 := Zz.mk HG5
    clear gb5 gl5 HG5
    have HMgo5 := Zz.mk (show (P0_ go5 ∨ w.heap.size ≤ go5) from (HO_0.out.1 _ rfl))
    obtain ⟨hx5_0, hf5_0⟩ := Kd.R_celln 0 HO_0.out (x5_1 : Int) p5 q5
    replace p5 := eq_true p5
    replace q5 := eq_true q5
    have HP7 := Kd.R_putg HO_0.out (x5_1 : Int) x1_1
    go_wp2_with (first | ((with_reducible refine gate_store (t := 2) (p := 15) rfl ?_); refine store_event (t := 2) (p := 15) (v := ?vo_w8) (w1 := (wr.setCell ⟨go5, (x5_1 : Int).toNat, none⟩ (.int .i64 x1_1))) ?hg ?ho ?hn ?hr ?_; (case ho => rfl); (case hg => rfl); (case hn => rfl); (case hr => first | (go_simp; done) | (go_simp; rfl)); intro w8 hw; have hg : wr.grownBy w8 (some go5) := (by rw [hw]; exact HP7.2); have hp_ : Kd.R (Kd.int .i64) 2 w8 w0.heap.size (fun k_ => (P0_ k_ ∨ w.heap.size ≤ k_)) (.slice (some ⟨go5, 0, none⟩) x0_1.length co6) y101 := (by rw [hw, Ny101.out]; exact HP7.1); clear HP7; replace HB := Zz.mk ((by rw [hw]; exact below_set (HB.out) GB5.out : Below w0.heap.size w0 w8)); replace HK := Zz.mk (Kept.of_grown (S := (fun k_ => P0_ k_)) hg (by repeat (first | (with_reducible first | exact HK.out | apply Kept.alloc | apply Kept.drewN | apply Kept.drew) | exact HK.out)) (fun k_ e_ => (HO_0.out.1 k_ e_))); replace HO_0 := Zz.mk (hp_); clear hg hw hp_))
    go_roundg k1
    case measure => exact Q1_ HK1
    case rel => exact ⟨(y101), (wrap64 (x1_1 + 1)), (wrap64 (x5_1 + 1)), E_, E_, H', ⟨Q1_ HK1⟩, ⟨KR_ HO_0.out⟩, ⟨by repeat (first | (with_reducible first | exact HK.out | apply Kept.alloc | apply Kept.drewN | apply Kept.drew) | exact HK.out)⟩, ⟨B_ HB.out⟩⟩
   rw [if_neg c3] at H
   have c3b0 : decide (x5_1 < (x0_1.length : Int)) = false := decide_eq_false c3
   clear c3
   simp only [Option.some.injEq, Prod.mk.injEq] at H
   obtain ⟨rfl, rfl⟩ := H
   obtain ⟨Ao9, co9, eo9⟩ := Kd.R_slice HO_0.out
   subst eo9
   go_wp2
   go_ret
   exact ⟨F_, KR_ HO_0.out, B_ HB.out, by repeat (first | (with_reducible first | exact HK.out | apply Kept.alloc | apply Kept.drewN | apply Kept.drew) | exact HK.out)⟩
end Go.Proofs.Ytipkciildhghiaa.B
/- Small tools for what the printed functions come to: pure Lean, no program in sight (for this claim, by hand). -/
set_option linter.unusedVariables false
set_option linter.unusedSimpArgs false
namespace Go.Proofs.Ytipkciildhghiaa.B
open Go.RowKit Go.Proofs.YtipkciildhghiaaW.PrintWords
theorem ev_pos {α : Type} {c : Prop} [Decidable c] {t f : Nat → Option α} {r : α} (h : c) (e : Ev t r) : Ev (fun k => if c then t k else f k) r := by
  simp only [if_pos h]; exact e
theorem ev_neg {α : Type} {c : Prop} [Decidable c] {t f : Nat → Option α} {r : α} (h : ¬ c) (e : Ev f r) : Ev (fun k => if c then t k else f k) r := by
  simp only [if_neg h]; exact e
theorem ev_const {α : Type} {x : Option α} {r : α} (h : x = some r) : Ev (fun _ => x) r := ⟨0, fun _ _ => h⟩
theorem ev_eq {α : Type} {g : Nat → Option α} {r r' : α} (h : Ev g r) (e : r = r') : Ev g r' := e ▸ h
def Le {α : Type} (g f : Nat → Option α) : Prop := ∀ r, Ev g r → Ev f r
theorem Le.refl {α : Type} (g : Nat → Option α) : Le g g := fun _ h => h
theorem Le.trans {α : Type} {g f e : Nat → Option α} (h : Le g f) (h' : Le f e) : Le g e := fun r hr => h' r (h r hr)
def iter {σ : Type} (F : Nat → σ → σ) : Nat → Nat → σ → σ
  | _, 0, s => s
  | i, d + 1, s => iter F (i + 1) d (F i s)
theorem le_iter {σ β : Type} (L : σ → Nat → Nat → Option β) (F : Nat → σ → σ) : ∀ (d i : Nat) (s : σ), (∀ j s, i ≤ j → j < i + d → Le (L (F j s) (j + 1)) (L s j)) → Le (L (iter F i d s) (i + d)) (L s i)
  | 0, i, s, _ => Le.refl _
  | d + 1, i, s, h => by
    have ih := le_iter L F d (i + 1) (F i s) (fun j s h1 h2 => h j s (by omega) (by omega))
    rw [show i + 1 + d = i + (d + 1) by omega] at ih
    exact ih.trans (h i s (Nat.le_refl _) (by omega))
theorem le_iter_inv {σ β : Type} (L : σ → Nat → Nat → Option β) (F : Nat → σ → σ) (I : Nat → σ → Prop) : ∀ (d i : Nat) (s : σ), I i s → (∀ j s, i ≤ j → j < i + d → I j s → Le (L (F j s) (j + 1)) (L s j) ∧ I (j + 1) (F j s)) → Le (L (iter F i d s) (i + d)) (L s i) ∧ I (i + d) (iter F i d s)
  | 0, i, s, hI, _ => ⟨Le.refl _, hI⟩
  | d + 1, i, s, hI, h => by
    obtain ⟨h0, hI1⟩ := h i s (Nat.le_refl _) (by omega) hI
    have ih := le_iter_inv L F I d (i + 1) (F i s) hI1 (fun j s h1 h2 => h j s (by omega) (by omega))
    rw [show i + 1 + d = i + (d + 1) by omega] at ih
    exact ⟨ih.1.trans h0, ih.2⟩
theorem iter_inv {σ : Type} (F : Nat → σ → σ) (I : Nat → σ → Prop) : ∀ (d i : Nat) (s : σ), I i s → (∀ j s, i ≤ j → j < i + d → I j s → I (j + 1) (F j s)) → I (i + d) (iter F i d s)
  | 0, i, s, hI, _ => hI
  | d + 1, i, s, hI, h => by
    have ih := iter_inv F I d (i + 1) (F i s) (h i s (Nat.le_refl _) (by omega) hI) (fun j s h1 h2 => h j s (by omega) (by omega))
    rw [show i + 1 + d = i + (d + 1) by omega] at ih
    exact ih
theorem iter_congr {σ : Type} {F G : Nat → σ → σ} : ∀ (d i : Nat) (s : σ), (∀ j s, i ≤ j → j < i + d → F j s = G j s) → iter F i d s = iter G i d s
  | 0, i, s, _ => rfl
  | d + 1, i, s, h => by
    simp only [iter]
    rw [h i s (Nat.le_refl _) (by omega)]
    exact iter_congr d (i + 1) _ (fun j s h1 h2 => h j s (by omega) (by omega))
theorem iter_add {σ : Type} (F : Nat → σ → σ) : ∀ (d e i : Nat) (s : σ), iter F i (d + e) s = iter F (i + d) e (iter F i d s)
  | 0, e, i, s => by simp [iter]
  | d + 1, e, i, s => by
    rw [show d + 1 + e = d + e + 1 by omega]
    simp only [iter]
    rw [iter_add F d e (i + 1) (F i s), show i + 1 + d = i + (d + 1) by omega]
theorem iter_last {σ : Type} (F : Nat → σ → σ) (d i : Nat) (s : σ) : iter F i (d + 1) s = F (i + d) (iter F i d s) := by
  rw [iter_add F d 1 i s]; rfl
theorem ev_find {β : Type} {r : β} (L : Nat → Nat → Option β) (p : Nat → Bool) : ∀ (d i : Nat), (∀ j, i ≤ j → j < i + d → p j = false → Le (L (j + 1)) (L j)) →
    (∀ j, i ≤ j → j < i + d → p j = true → (∀ m, i ≤ m → m < j → p m = false) → Ev (L j) r) → ((∀ m, i ≤ m → m < i + d → p m = false) → Ev (L (i + d)) r) → Ev (L i) r
  | 0, i, _, _, he => he (fun m h1 h2 => by omega)
  | d + 1, i, h0, h1, he => by
    cases hp : p i with
    | true => exact h1 i (Nat.le_refl _) (by omega) hp (fun m h1 h2 => by omega)
    | false =>
      refine h0 i (Nat.le_refl _) (by omega) hp r (ev_find L p d (i + 1) (fun j a b => h0 j (by omega) (by omega)) (fun j a b c e => h1 j (by omega) (by omega) c (fun m u v => ?_)) (fun e => ?_))
      · rcases Nat.eq_or_lt_of_le u with rfl | u
        · exact hp
        exact e m u v
      rw [show i + 1 + d = i + (d + 1) by omega]
      refine he (fun m u v => ?_)
      rcases Nat.eq_or_lt_of_le u with rfl | u
      · exact hp
      exact e m u (by omega)
theorem all_range {α : Type} (xs : List α) (z : α) (p : α → Bool) : (List.range xs.length).all (fun i => p (xs.getD i z)) = xs.all p := by
  rw [Bool.eq_iff_iff, List.all_eq_true, List.all_eq_true]
  constructor
  · intro h x hx
    obtain ⟨i, hi, rfl⟩ := List.mem_iff_getElem.1 hx
    have := h i (List.mem_range.2 hi)
    rwa [List.getD_eq_getElem?_getD, List.getElem?_eq_getElem hi] at this
  intro h i hi
  have hi := List.mem_range.1 hi
  rw [List.getD_eq_getElem?_getD, List.getElem?_eq_getElem hi]
  exact h _ (List.getElem_mem hi)
theorem ev_all (L : Nat → Nat → Option Bool) (p : Nat → Bool) (n : Nat) (h1 : ∀ j, j < n → p j = true → Le (L (j + 1)) (L j)) (h0 : ∀ j, j < n → p j = false → Ev (L j) false) (he : Ev (L n) true) : Ev (L 0) ((List.range n).all p) := by
  refine ev_find L (fun j => !p j) n 0 (fun j _ hj hp => h1 j (by omega) (by simpa using hp)) (fun j _ hj hp _ => ?_) (fun h => ?_)
  · have hp' : p j = false := by simpa using hp
    have : (List.range n).all p = false := by
      rw [Bool.eq_false_iff]
      intro h
      have := List.all_eq_true.1 h j (List.mem_range.2 (by omega))
      rw [hp'] at this; cases this
    rw [this]
    exact h0 j (by omega) hp'
  have : (List.range n).all p = true := List.all_eq_true.2 (fun j hj => by simpa using h j (Nat.zero_le _) (by have := List.mem_range.1 hj; omega))
  rw [this, Nat.zero_add]
  exact he
theorem ev_all_list {α : Type} (xs : List α) (z : α) (L : Nat → Nat → Option Bool) (p : α → Bool) (h1 : ∀ j, j < xs.length → p (xs.getD j z) = true → Le (L (j + 1)) (L j)) (h0 : ∀ j, j < xs.length → p (xs.getD j z) = false → Ev (L j) false) (he : Ev (L xs.length) true) : Ev (L 0) (xs.all p) := by
  rw [← all_range xs z]
  exact ev_all L (fun j => p (xs.getD j z)) xs.length h1 h0 he
theorem least {q : Nat → Prop} (h : ∃ j, q j) : ∃ j, q j ∧ ∀ m, m < j → ¬ q m := by
  obtain ⟨j, hj⟩ := h
  induction j using Nat.strongRecOn with
  | _ j ih =>
    by_cases hm : ∃ m, m < j ∧ q m
    · obtain ⟨m, h1, h2⟩ := hm
      exact ih m h1 h2
    exact ⟨j, hj, fun m h1 h2 => hm ⟨m, h1, h2⟩⟩
theorem ev_index (L : Nat → Nat → Option Int) (p : Nat → Bool) (n : Nat) (h0 : ∀ j, j < n → p j = false → Le (L (j + 1)) (L j)) (h1 : ∀ j, j < n → p j = true → Ev (L j) (j : Int)) (he : Ev (L n) (-1)) : ∃ t : Int, Ev (L 0) t ∧ decide (t ≥ 0) = (List.range n).any p := by
  by_cases h : ∃ j, j < n ∧ p j = true
  · obtain ⟨j, ⟨hj, hp⟩, hmin⟩ : ∃ j, (j < n ∧ p j = true) ∧ ∀ m, m < j → ¬ (m < n ∧ p m = true) := by
      exact least h
    refine ⟨j, ?_, ?_⟩
    · refine ev_find L p n 0 (fun i _ hi hpi => h0 i (by omega) hpi) (fun i _ hi hpi hbef => ?_) (fun hall => ?_)
      · have : i = j := by
          rcases Nat.lt_trichotomy i j with hlt | he | hlt
          · exact absurd ⟨by omega, hpi⟩ (hmin i hlt)
          · exact he
          have := hbef j (Nat.zero_le _) hlt; rw [hp] at this; cases this
        subst this
        exact h1 i hj hp
      have := hall j (Nat.zero_le _) (by omega); rw [hp] at this; cases this
    have : (List.range n).any p = true := List.any_eq_true.2 ⟨j, List.mem_range.2 hj, hp⟩
    rw [this]; simp
  have hno : ∀ j, j < n → p j = false := fun j hj => by
    cases hp : p j with
    | true => exact absurd ⟨j, hj, hp⟩ h
    | false => rfl
  refine ⟨-1, ?_, ?_⟩
  · refine ev_find L p n 0 (fun i _ hi hpi => h0 i (by omega) hpi) (fun i _ hi hpi hbef => ?_) (fun _ => by rw [Nat.zero_add]; exact he)
    have := hno i (by omega); rw [hpi] at this; cases this
  have : (List.range n).any p = false := by
    rw [Bool.eq_false_iff]
    intro hc
    obtain ⟨j, hj, hp⟩ := List.any_eq_true.1 hc
    have := hno j (List.mem_range.1 hj); rw [hp] at this; cases this
  rw [this]; rfl
theorem any_range {α : Type} (xs : List α) (z : α) (p : α → Bool) : (List.range xs.length).any (fun i => p (xs.getD i z)) = xs.any p := by
  have h := all_range xs z (fun x => !p x)
  rw [List.any_eq_not_all_not, List.any_eq_not_all_not, h]
theorem ev_index_list {α : Type} (xs : List α) (z : α) (L : Nat → Nat → Option Int) (p : α → Bool) (h0 : ∀ j, j < xs.length → p (xs.getD j z) = false → Le (L (j + 1)) (L j)) (h1 : ∀ j, j < xs.length → p (xs.getD j z) = true → Ev (L j) (j : Int)) (he : Ev (L xs.length) (-1)) : ∃ t : Int, Ev (L 0) t ∧ decide (t ≥ 0) = xs.any p := by
  rw [← any_range xs z]
  exact ev_index L (fun j => p (xs.getD j z)) xs.length h0 h1 he
theorem wrap_small {x : Int} (h0 : -9223372036854775808 ≤ x) (h1 : x ≤ 9223372036854775807) : wrap64 x = x := by
  unfold wrap64; omega
theorem wrap_succ {i : Nat} (h : i < 9223372036854775807) : wrap64 ((i : Int) + 1) = ((i + 1 : Nat) : Int) := by
  unfold wrap64; omega
theorem rd_nat (xs : List Int) (i : Nat) : rd xs (i : Int) = xs.getD i 0 := by simp [rd]
theorem rdOf_nat {α : Type} (z : α) (xs : List α) (i : Nat) : rdOf z xs (i : Int) = xs.getD i z := by simp [rdOf]
theorem set_prefix {α : Type} (l : List α) (i : Nat) (z : α) (hi : i < l.length) (y : α) (hy : y = l.getD i z) : (l.take i ++ List.replicate (l.length - i) z).set i y = l.take (i + 1) ++ List.replicate (l.length - (i + 1)) z := by
  have h1 : (l.take i).length = i := by rw [List.length_take]; omega
  rw [List.set_append_right _ _ (by omega), h1, Nat.sub_self, show l.length - i = (l.length - (i + 1)) + 1 by omega, List.replicate_succ, List.set_cons_zero, List.take_succ_eq_append_getElem hi, List.append_assoc]
  subst hy
  simp [List.getElem?_eq_getElem hi]
def markInts : List Int → Int → List Int
  | [], _ => []
  | _ :: l, a => a :: markInts l (a + 1)
def markRows : List (List Int) → Int → List (List Int)
  | [], _ => []
  | l :: ls, a => markInts l a :: markRows ls (a + l.length)
def total : List (List Int) → Int
  | [] => 0
  | l :: ls => l.length + total ls
theorem total_nonneg : ∀ ls, 0 ≤ total ls
  | [] => Int.le_refl _
  | l :: ls => by have := total_nonneg ls; simp only [total]; omega
theorem total_append : ∀ l m : List (List Int), total (l ++ m) = total l + total m
  | [], m => by simp [total]
  | x :: l, m => by simp only [List.cons_append, total, total_append l m]; omega
theorem markInts_length : ∀ (l : List Int) (a : Int), (markInts l a).length = l.length
  | [], _ => rfl
  | _ :: l, a => by simp [markInts, markInts_length l]
theorem markRows_length : ∀ (l : List (List Int)) (a : Int), (markRows l a).length = l.length
  | [], _ => rfl
  | _ :: l, a => by simp [markRows, markRows_length l]
theorem markInts_append : ∀ (l m : List Int) (a : Int), markInts (l ++ m) a = markInts l a ++ markInts m (a + l.length)
  | [], m, a => by simp [markInts]
  | _ :: l, m, a => by simp only [List.cons_append, markInts, markInts_append l m, List.length_cons]; congr 3; push_cast; omega
theorem markRows_append : ∀ (l m : List (List Int)) (a : Int), markRows (l ++ m) a = markRows l a ++ markRows m (a + total l)
  | [], m, a => by simp [markRows, total]
  | x :: l, m, a => by simp only [List.cons_append, markRows, markRows_append l m, total]; congr 3; omega
end Go.Proofs.Ytipkciildhghiaa.B
/- The marks that the exact laws write into a row of rows: proved by hand (the printer takes flat rows alone). -/
set_option linter.unusedVariables false
set_option linter.unusedSimpArgs false
namespace Go.Proofs.Ytipkciildhghiaa.B
open Go.RowKit Go.Proofs.YtipkciildhghiaaW.PrintWords Go.Proofs.YtipkciildhghiaaW.PrintLast Go.Proofs.YtipkciildhghiaaW.PrintMore
theorem markInt64S_ev : ∀ (d : Nat) (xs : List Int) (pre post : List Int) (a : Int), post.length = d → xs = pre ++ post → 0 ≤ a → a + d ≤ 9223372036854775807 → (xs.length : Int) ≤ 9223372036854775807 →
    Ev (fun k => z22.l0 k xs a (pre.length : Int)) (a + d, pre ++ markInts post a)
  | 0, xs, pre, post, a, hd, hx, h0, h1, hl => by
    have hp : post = [] := List.eq_nil_of_length_eq_zero hd
    subst hp
    refine Ev.step (f := fun _ => some (a, xs)) (fun k => ?_) ?_
    · simp only [z22.l0]
      rw [if_neg (by subst hx; simp)]
    subst hx
    simpa [markInts] using Ev.now (a, pre ++ ([] : List Int))
  | d + 1, xs, pre, post, a, hd, hx, h0, h1, hl => by
    obtain ⟨y, post, rfl⟩ : ∃ y p, post = y :: p := by cases post with | nil => simp at hd | cons y p => exact ⟨y, p, rfl⟩
    have ih := markInt64S_ev d (xs.set pre.length a) (pre ++ [a]) post (a + 1) (by simpa using hd) (by subst hx; simp) (by omega) (by omega) (by simpa using hl)
    refine Ev.step (f := fun k => z22.l0 k (xs.set pre.length a) (a + 1) ((pre ++ [a]).length : Int)) (fun k => ?_) ?_
    · simp only [z22.l0]
      have hlen : (xs.length : Int) = pre.length + (post.length + 1) := by subst hx; simp
      rw [if_pos (by omega), if_pos (by omega)]
      congr 1
      · unfold wrap64; omega
      simp only [List.length_append, List.length_singleton]; unfold wrap64; omega
    have e : (a + ((d : Nat) + 1 : Nat) : Int) = a + 1 + d := by omega
    rw [e]
    simpa [markInts] using ih
theorem markInt64S_all (l : List Int) (a : Int) (h0 : 0 ≤ a) (h1 : a + l.length ≤ 9223372036854775807) : ∃ k, z22.f k l a = some (a + l.length, markInts l a) := by
  have := (markInt64S_ev l.length l [] l a rfl rfl h0 h1 (by omega)).rounds
  simpa [z22.f] using this
def laws_markInt64SS.f (l0 : List (List Int)) (a1 : Int) : Option (Int × List (List Int)) :=
  if 0 ≤ a1 ∧ a1 + total l0 ≤ 9223372036854775807 then some (a1 + total l0, markRows l0 a1) else none
theorem laws_markInt64SS.inv {l0 : List (List Int)} {a1 r1 : Int} {r2 : List (List Int)} (h : laws_markInt64SS.f l0 a1 = some (r1, r2)) : 0 ≤ a1 ∧ a1 + total l0 ≤ 9223372036854775807 ∧ a1 + total l0 = r1 ∧ markRows l0 a1 = r2 := by
  unfold laws_markInt64SS.f at h
  split at h
  · rename_i hc
    simp only [Option.some.injEq, Prod.mk.injEq] at h
    exact ⟨hc.1, hc.2, h.1, h.2⟩
  cases h
def partM (l0 : List (List Int)) (a1 : Int) (k : Nat) : List (List Int) := markRows (l0.take k) a1 ++ l0.drop k
theorem partM_length (l0 : List (List Int)) (a1 : Int) (k : Nat) : (partM l0 a1 k).length = l0.length := by simp [partM, markRows_length]; omega
theorem partM_get (l0 : List (List Int)) (a1 : Int) (k : Nat) (hk : k < l0.length) : (partM l0 a1 k).getD k [] = l0.getD k [] := by
  have hl : (markRows (l0.take k) a1).length = k := by rw [markRows_length, List.length_take]; omega
  simp only [partM, List.getD_eq_getElem?_getD]
  rw [List.getElem?_append_right (by omega), hl, Nat.sub_self, List.getElem?_drop, Nat.add_zero]
theorem partM_set (l0 : List (List Int)) (a1 : Int) (k : Nat) (hk : k < l0.length) : (partM l0 a1 k).set k (markInts (l0.getD k []) (a1 + total (l0.take k))) = partM l0 a1 (k + 1) := by
  have hl : (markRows (l0.take k) a1).length = k := by rw [markRows_length, List.length_take]; omega
  have hd : l0.drop k = l0.getD k [] :: l0.drop (k + 1) := by
    rw [List.drop_eq_getElem_cons hk, List.getD_eq_getElem?_getD, List.getElem?_eq_getElem hk]; rfl
  have ht : l0.take (k + 1) = l0.take k ++ [l0.getD k []] := by
    rw [List.take_succ_eq_append_getElem hk, List.getD_eq_getElem?_getD, List.getElem?_eq_getElem hk]; rfl
  simp only [partM]
  rw [List.set_append_right _ _ (by omega), hl, Nat.sub_self, hd, List.set_cons_zero, ht, markRows_append]
  simp [markRows]
theorem total_take_succ (l0 : List (List Int)) (k : Nat) (hk : k < l0.length) : total (l0.take (k + 1)) = total (l0.take k) + (l0.getD k []).length := by
  have ht : l0.take (k + 1) = l0.take k ++ [l0.getD k []] := by
    rw [List.take_succ_eq_append_getElem hk, List.getD_eq_getElem?_getD, List.getElem?_eq_getElem hk]; rfl
  rw [ht, total_append]; simp [total]
theorem total_take_le (l0 : List (List Int)) (k : Nat) : total (l0.take k) ≤ total l0 := by
  have h := total_append (l0.take k) (l0.drop k)
  rw [List.take_append_drop] at h
  have := total_nonneg (l0.drop k)
  omega
theorem laws_markInt64SS.calls (P0_ : Nat → Prop) (u : Value) (l0 : List (List Int)) (a1 : Int) (r1 : Int) (r2 : List (List Int)) (w0 w : World) (hB : Below w0.heap.size w0 w) (ho0 : Kd.S (Kd.slice 2 (Kd.int .i64)) 26 w w0.heap.size P0_ u l0) (h : laws_markInt64SS.f l0 a1 = some (r1, r2)) :
    Calls Try.prog 34 #[u, .int .i64 a1] w fun e w' => e = .returned (.int .i64 r1) ∧ Kd.S (Kd.slice 2 (Kd.int .i64)) 26 w' w0.heap.size P0_ u r2 ∧ Below w0.heap.size w0 w' ∧ Kept w w' P0_ := by
  obtain ⟨ha, hb, rfl, rfl⟩ := laws_markInt64SS.inv h
  obtain ⟨A, c, rfl⟩ := Kd.S_slice ho0
  have hlen : l0.length ≤ 9223372036854775807 := (Kd.S_reads' ho0).2.2.2.1
  have HS := Zz.mk ho0
  have HB := Zz.mk hB
  clear ho0 hB h
  go_enter Try.func34, Try.ntmps34
  go_wp2
  go_loopg [1, 5] l0.length (fun gg v1 v5 wr => ∃ kk : Nat, kk ≤ l0.length ∧ l0.length - kk ≤ gg ∧ v5 = .int .i64 kk ∧ v1 = .int .i64 (a1 + total (l0.take kk)) ∧ Zz (Kd.S (Kd.slice 2 (Kd.int .i64)) 26 wr w0.heap.size P0_ (.slice A l0.length c) (partM l0 a1 kk)) ∧ Zz (Below w0.heap.size w0 wr) ∧ Zz (Kept w wr P0_))
  case atStart => exact ⟨0, Nat.zero_le _, by omega, rfl, by simp [total], by simpa [partM, markRows] using HS, HB, ⟨Kept.refl _ _⟩⟩
  case round =>
    obtain ⟨kk, hkk, hg, rfl, rfl, HS1, HB1, HK1⟩ := hrel
    clear HS HB
    by_cases hlt : kk < l0.length
    · have hltz : (kk : Int) < (l0.length : Int) := by omega
      obtain ⟨g, cap, he, _⟩ := Kd.S_form HS1.out (by rw [partM_length]; omega)
      injection he with he1 he2 he3
      subst he1; subst he3
      clear he2
      obtain ⟨oki, cc, hcl, hM, hcc, hoki, hH⟩ := Kd.S_lend HS1.out ([] : List Int) (kk : Int) (by omega) (by omega)
      obtain ⟨v, rfl, hR⟩ := hM
      rw [Int.toNat_natCast, partM_get l0 a1 kk hlt] at hR
      obtain ⟨A1, c1, rfl⟩ := Kd.R_slice hR
      have hcell := hcc 0 _ rfl
      simp only [Int.toNat_natCast, Nat.add_zero, Nat.mul_one] at hcell
      have hcell2 : wr.cell? ⟨g, kk, none⟩ = some (.slice A1 (l0.getD kk []).length c1) := by simpa [show (Kd.slice 2 (Kd.int .i64)).sz = 1 from rfl] using hcell
      clear hcell hcc
      have hts := total_take_succ l0 kk hlt
      have htl := total_take_le l0 (kk + 1)
      have htn := total_nonneg (l0.take kk)
      obtain ⟨K, hk⟩ := markInt64S_all (l0.getD kk []) (a1 + total (l0.take kk)) (by omega) (by omega)
      have hcall := z22.calls K oki _ _ _ _ _ w0 wr HB1.out hR hk
      have HR1 := Zz.mk hR.1
      have HH := Zz.mk hH
      have HO := Zz.mk hoki
      have HT := Zz.mk hts
      clear hH hoki hts htl htn hR hk
      generalize hx : (l0.getD kk []).length = m at hcall hcell2
      have HX := Zz.mk hx
      clear hx
      go_wp2_with (go_at_call 22; refine hcall.mono ?_; rintro e w' ⟨rfl, hR2, hB2, hK2⟩)
      go_roundg (l0.length - (kk + 1))
      case measure => omega
      case rel =>
        have hx := HX.out
        subst hx
        refine ⟨kk + 1, by omega, by omega, by go_num, ?_, ?_, ⟨hB2⟩, ⟨?_⟩⟩
        · rw [HT.out, ← Int.add_assoc]
        · refine ⟨?_⟩
          have h1 := Kd.H_step HH.out (w1 := w') (fun k hk hnk hlt => hK2.2 k hlt hnk)
          have h2 := Kd.H_back h1 (x' := markInts (l0.getD kk []) (a1 + total (l0.take kk))) (okp := oki) ⟨_, rfl, Kd.R_reok rfl hR2 (fun k e => ?_)⟩ (fun _ hk => hk)
          · rw [Int.toNat_natCast, partM_set l0 a1 kk hlt] at h2
            exact h2
          exact HR1.out k e
        exact Kept.then_ HK1.out hK2 (fun k hk => .inl (HO.out k hk).1)
    have hltz : ¬ (kk : Int) < (l0.length : Int) := by omega
    have : kk = l0.length := by omega
    subst this
    go_wp2
    go_ret
    refine ⟨rfl, ?_, HB1.out, HK1.out⟩
    simpa [partM] using HS1.out
end Go.Proofs.Ytipkciildhghiaa.B
/- markComplex: by hand, over the marks of a row of rows. -/
set_option linter.unusedVariables false
namespace Go.Proofs.Ytipkciildhghiaa.B
open Go.RowKit Go.Proofs.YtipkciildhghiaaW.PrintWords Go.Proofs.YtipkciildhghiaaW.PrintLast Go.Proofs.YtipkciildhghiaaW.PrintMore
def laws_markComplex.f (l0_0 : List (List Int)) (a1 : Int) : Option (Int × List (List Int)) := laws_markInt64SS.f l0_0 a1
theorem laws_markComplex.calls (P0_ : Nat → Prop) (u : Value) (l0_0 : List (List Int)) (a1 : Int) (r1 : Int) (r2 : List (List Int)) (w0 w : World) (hB : Below w0.heap.size w0 w) (ho0 : Kd.S (Kd.slice 2 (Kd.int .i64)) 26 w w0.heap.size P0_ u l0_0) (h : laws_markComplex.f l0_0 a1 = some (r1, r2)) :
    Calls Try.prog 21 #[.agg #[u], .int .i64 a1] w fun e w' => e = .returned (.int .i64 r1) ∧ Kd.S (Kd.slice 2 (Kd.int .i64)) 26 w' w0.heap.size P0_ u r2 ∧ Below w0.heap.size w0 w' ∧ Kept w w' P0_ := by
  obtain ⟨A, c, rfl⟩ := Kd.S_slice ho0
  have h1 := laws_markInt64SS.calls P0_ _ l0_0 a1 r1 r2 w0 (w.alloc (.cells #[.slice A l0_0.length c] 29)) (hB.alloc hB.size _) (Kd.S_alloc ho0 _) h
  have hu := Try.underlying29
  clear ho0 hB h
  go_enter Try.func21, Try.ntmps21
  go_wp2_with (go_at_call 34; refine h1.mono ?_; rintro e w' ⟨rfl, hS, hB2, hK⟩)
  go_ret
  exact ⟨rfl, hS, hB2, Kept.then_ (Kept.alloc (Kept.refl _ _) _) hK (fun k hk => .inl hk)⟩
end Go.Proofs.Ytipkciildhghiaa.B
