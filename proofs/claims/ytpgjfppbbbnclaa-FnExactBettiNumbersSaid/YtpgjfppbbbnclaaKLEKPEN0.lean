/- Printed proofs of functions of the program and of the reference, by a program of this work over the kit's printer. -/
import Derived.Test.YtpgjfppbbbnclaaKW0
import Derived.ArgAppend
import Derived.Below
import Derived.BigQuiet
import Derived.Deep.AppendLies
import Derived.Deep.CutBlock
import Derived.Deep.DeepCutAuto
import Derived.Deep.Draws
import Derived.Deep.LoopGhost
import Derived.Deep.OwnRows
import Derived.Deep.QuietTactic
import Derived.Deep.RegionHeld3
import Derived.KernelRfl
import Derived.Laws.BitsLemmas
import Derived.Laws.BytesArg
import Derived.Laws.IdiomCopy
import Derived.Laws.MakeOwn
import Derived.Laws.OwnMore
import Derived.Laws.Rows
import Derived.Laws.Slices
import Derived.Lib.AppendStr
import Derived.Lib.ConvBytes
import Derived.Lib.SliceRun
import Derived.Maps.AppendAt
import Derived.OrdersHeld
import Derived.OwnWalk
import Derived.RowKit
import Derived.RowKit3
import Derived.Tactics
import Derived.Test.YtpgjfppbbbnclaaProg
import Derived.WalkKit
import Derived.WideLaws
set_option maxHeartbeats 8000000
set_option maxRecDepth 100000
/- Words of our own: rows told by the heap's size. -/
namespace Go.Proofs.YtpgjfppbbbnclaaW.PrintWords.Kd
open Go.RowKit
section
variable {α : Type} {d : Kd α} {e base n B g t : Nat} {ok : Nat → Prop} {W w1 : World} {u v : Value} {xs : List α}
theorem size_letter {w0 : World} (_ : Below W.heap.size w0 w1) : ∃ n : Nat, n = W.heap.size := ⟨_, rfl⟩
theorem S_oldN (h : S d e W base ok u xs) (hb : Below W.heap.size W w1) (hn : n = W.heap.size) : S d e w1 base (fun k => ok k ∧ k < n) u xs := by subst hn; exact S_old h hb
theorem R_oldN (h : d.R e W base ok u xs) (hb : Below W.heap.size W w1) (hn : n = W.heap.size) : d.R e w1 base (fun k => ok k ∧ k < n) u xs := by subst hn; exact R_mono (R_below (qBy h) hb) (fun _ hk => ⟨hk.1, hk.2.2.1⟩)
theorem S_baseN (h : S d e w1 B ok v xs) (hn : n = B) : ∀ k, v.ownBlock = some k → n ≤ k := by subst hn; exact S_base h
theorem R_baseN (h : d.R e w1 B ok v xs) (hn : n = B) : ∀ k, v.ownBlock = some k → n ≤ k := by subst hn; exact R_base h
theorem S_geN (h : S d e w1 B ok v xs) (hn : n = B) : S d e w1 B (fun k => ok k ∧ n ≤ k) v xs := by subst hn; exact S_mono (S_bound h) (fun _ hk => ⟨hk.1, hk.2.1⟩)
theorem R_geN (h : d.R e w1 B ok v xs) (hn : n = B) : d.R e w1 B (fun k => ok k ∧ n ≤ k) v xs := by subst hn; exact R_mono (qBy h) (fun _ hk => ⟨hk.1, hk.2.1⟩)
theorem S_pin (h : S d e W base ok v xs) : S d e W base (fun k => ok k ∧ ∃ q, q ∈ e :: d.E ∧ ∃ cells, W.heap[k]? = some (.cells cells q (0, 0))) v xs := S_mono (S_bound h) (fun _ hk => ⟨hk.1, hk.2.2.2⟩)
theorem typed_ne {E : List Nat} {cs : Array Value} {fr : Nat × Nat} (hb : W.heap[g]? = some (.cells cs t fr)) (hs : ∃ q, q ∈ E ∧ ∃ cells, W.heap[g]? = some (.cells cells q (0, 0))) (ht : ∀ q, q ∈ E → q ≠ t) : False := by
  obtain ⟨q, hq, cells, hc⟩ := hs
  rw [hb] at hc
  injection hc with hc
  injection hc with _ hc
  exact ht q hq hc.symm
end
end Go.Proofs.YtpgjfppbbbnclaaW.PrintWords.Kd
namespace Go.Proofs.Ytpgjfppbbbnclaa.B
open Go.RowKit Go.Proofs.YtpgjfppbbbnclaaW.PrintWords Go.Proofs.YtpgjfppbbbnclaaW.PrintLast Go.Proofs.YtpgjfppbbbnclaaW.PrintMore
attribute [local go_sem] qAh qAf qAl qAk qAc qAb qAg qAe
set_option linter.unusedVariables false
set_option linter.unusedSimpArgs false
def errW : Option Int → Value
 | none => .nilIface
 | some c => .iface 0 (.int .i64 c)
theorem qBv : errW none = .nilIface := rfl
theorem qBu (c : Int) : errW (some c) = .iface 0 (.int .i64 c) := rfl
theorem E_ {p : Prop} (h : p := by first | rfl | (simp; done) | (simp [*]; done)) : p := h
theorem F_ {p : Prop} (h : p := by first | rfl | (simp [qBv, qBu] <;> rfl) | (simp [*, qBv, qBu] <;> rfl)) : p := h
theorem D_ {c : Prop} [Decidable c] (h : decide c = true := by first | (with_reducible assumption) | assumption) : c := of_decide_eq_true h
theorem B_ {p q : Prop} (x : q) (h : q → p := by intro hx_; repeat (first | (with_reducible first | exact hx_ | apply qAx | apply qAt | apply qAq) | exact hx_)) : p := h x
theorem B1_ {p q g1 : Prop} (x : q) (y1 : g1) (h : q → g1 → p := by intro hx_ hy_; repeat (first | (with_reducible first | exact hx_ | apply qAx | apply qAt | apply qAq | refine qAz ?_ hy_) | exact hx_)) : p := h x y1
theorem B2_ {p q g1 g2 : Prop} (x : q) (y1 : g1) (y2 : g2) (h : q → g1 → g2 → p := by intro hx_ hy_ hz_; repeat (first | (with_reducible first | exact hx_ | apply qAx | apply qAt | apply qAq | refine qAz ?_ hy_ | refine qAz ?_ hz_) | exact hx_)) : p := h x y1 y2
theorem B3_ {p q g1 g2 g3 : Prop} (x : q) (y1 : g1) (y2 : g2) (y3 : g3) (h : q → g1 → g2 → g3 → p := by intro hx_ hy_ hz_ hu_; repeat (first | (with_reducible first | exact hx_ | apply qAx | apply qAt | apply qAq | refine qAz ?_ hy_ | refine qAz ?_ hz_ | refine qAz ?_ hu_) | exact hx_)) : p := h x y1 y2 y3
theorem KS_ {p q : Prop} (x : q) (h : q → p := by intro hx_; (with_reducible repeat (first | apply Kd.S_alloc | apply Kd.S_drewN | apply Kd.S_drew)); exact hx_) : p := h x
theorem KR_ {p q : Prop} (x : q) (h : q → p := by intro hx_; (with_reducible repeat (first | apply Kd.R_alloc | apply Kd.R_drewN | apply Kd.R_drew)); exact hx_) : p := h x
theorem KN_ {p q : Prop} (x : q) (h : q → p := by intro hx_; (with_reducible repeat (first | apply Kd.N_alloc | apply Kd.N_drewN | apply Kd.N_drew)); exact hx_) : p := h x
theorem KB_ {p q : Prop} (x : q) (h : q → p := by intro hx_; (with_reducible repeat (first | refine bN_ ?_ _ | refine bD_ ?_ | refine bA_ ?_ _)); exact hx_) : p := h x
theorem KC_ {p q : Prop} (x : q) (h : q → p := by intro hx_; repeat (first | (with_reducible exact hx_) | (with_reducible refine Kd.C_alloc ?_ _) | (with_reducible refine Kd.C_drewN ?_ _) | (with_reducible refine Kd.C_drew ?_) | exact hx_)) : p := h x
theorem Z1f_ {w : World} {g : Nat} {t : TypeId} {v0 : Value} (h : w.heap[g]? = some (.cells #[v0] t (0, 0))) : w.cell? ⟨g, 0, none⟩ = some v0 ∧ w.frozen? ⟨g, 0, none⟩ = false := ⟨(bC_ h 0).trans rfl, bF_ h 0⟩
theorem Z3_ {w : World} {g : Nat} {t : TypeId} {v0 v1 v2 : Value} (h : w.heap[g]? = some (.cells #[v0, v1, v2] t (0, 0))) : w.cell? ⟨g, 0, none⟩ = some v0 ∧ w.cell? ⟨g, 1, none⟩ = some v1 ∧ w.cell? ⟨g, 2, none⟩ = some v2 := ⟨(bC_ h 0).trans rfl, (bC_ h 1).trans rfl, (bC_ h 2).trans rfl⟩
theorem Z3f_ {w : World} {g : Nat} {t : TypeId} {v0 v1 v2 : Value} (h : w.heap[g]? = some (.cells #[v0, v1, v2] t (0, 0))) : w.cell? ⟨g, 0, none⟩ = some v0 ∧ w.cell? ⟨g, 1, none⟩ = some v1 ∧ w.cell? ⟨g, 2, none⟩ = some v2 ∧ w.frozen? ⟨g, 0, none⟩ = false ∧ w.frozen? ⟨g, 1, none⟩ = false ∧ w.frozen? ⟨g, 2, none⟩ = false := ⟨(bC_ h 0).trans rfl, (bC_ h 1).trans rfl, (bC_ h 2).trans rfl, bF_ h 0, bF_ h 1, bF_ h 2⟩
theorem Z4_ {w : World} {g : Nat} {t : TypeId} {v0 v1 v2 v3 : Value} (h : w.heap[g]? = some (.cells #[v0, v1, v2, v3] t (0, 0))) : w.cell? ⟨g, 0, none⟩ = some v0 ∧ w.cell? ⟨g, 1, none⟩ = some v1 ∧ w.cell? ⟨g, 2, none⟩ = some v2 ∧ w.cell? ⟨g, 3, none⟩ = some v3 := ⟨(bC_ h 0).trans rfl, (bC_ h 1).trans rfl, (bC_ h 2).trans rfl, (bC_ h 3).trans rfl⟩
theorem Z4f_ {w : World} {g : Nat} {t : TypeId} {v0 v1 v2 v3 : Value} (h : w.heap[g]? = some (.cells #[v0, v1, v2, v3] t (0, 0))) : w.cell? ⟨g, 0, none⟩ = some v0 ∧ w.cell? ⟨g, 1, none⟩ = some v1 ∧ w.cell? ⟨g, 2, none⟩ = some v2 ∧ w.cell? ⟨g, 3, none⟩ = some v3 ∧ w.frozen? ⟨g, 0, none⟩ = false ∧ w.frozen? ⟨g, 1, none⟩ = false ∧ w.frozen? ⟨g, 2, none⟩ = false ∧ w.frozen? ⟨g, 3, none⟩ = false := ⟨(bC_ h 0).trans rfl, (bC_ h 1).trans rfl, (bC_ h 2).trans rfl, (bC_ h 3).trans rfl, bF_ h 0, bF_ h 1, bF_ h 2, bF_ h 3⟩
theorem BW_ {p q : Prop} (x : q) (h : q → p := by intro hx_; (with_reducible repeat (first | refine bN_ ?_ _ | refine bD_ ?_ | refine bA_ ?_ _)); exact hx_) : p := h x
theorem RW_ {p q : Prop} (x : q) (h : q → p := by intro hx_; (with_reducible repeat (first | apply Kd.R_alloc | apply Kd.R_drewN | apply Kd.R_drew)); exact hx_) : p := h x
theorem SW_ {p q : Prop} (x : q) (h : q → p := by intro hx_; (with_reducible repeat (first | apply Kd.S_alloc | apply Kd.S_drewN | apply Kd.S_drew)); exact hx_) : p := h x
theorem NW_ {p q : Prop} (x : q) (h : q → p := by intro hx_; (with_reducible repeat (first | apply Kd.N_alloc | apply Kd.N_drewN | apply Kd.N_drew)); exact hx_) : p := h x
theorem VW_ {p q : Prop} (x : q) (h : q → p := by intro hx_; (with_reducible repeat (first | apply Kd.V_alloc | apply Kd.V_drewN | apply Kd.V_drew)); exact hx_) : p := h x
theorem OB_ {α β : Type} {o : Option α} {f : α → Option β} {b : β} (h : o.bind f = some b) : ∃ a, o = some a ∧ f a = some b := Option.bind_eq_some_iff.mp h
theorem OI_ {α : Type} {a b : α} (h : some a = some b) : a = b := Option.some.inj h
theorem ya_.{u} {α : Type u} {l : List α} {i : Nat} {a : α} : l.getD i a = l[i]?.getD a := List.getD_eq_getElem?_getD
theorem yb_.{u} {α : Type u} {l : List α} {i : Nat} (h : i < l.length) : l[i]? = some l[i] := List.getElem?_eq_getElem h
theorem yc_ {m n : Nat} : m ∈ List.range n ↔ m < n := List.mem_range
theorem yd_ (n : Nat) : (n : Int).toNat = n := Int.toNat_natCast n
theorem ye_ (a b : Bool) : ((a && b) = true) = (a = true ∧ b = true) := Bool.and_eq_true a b
theorem yf_ {p : Prop} [inst : Decidable p] : decide p = true ↔ p := decide_eq_true_iff
theorem yg_.{u} {α : Type u} {l k : List α} : (l ++ k).length = l.length + k.length := List.length_append
theorem yh_ (a b : Nat) : a < b ∨ a = b ∨ b < a := Nat.lt_trichotomy a b
theorem yi_ (n m : Nat) : ((n * m : Nat) : Int) = (n : Int) * (m : Int) := Int.natCast_mul n m
theorem yj_ {p q m n : Nat} (h₁ : p ≤ m) (h₂ : q ≤ n) : p * q ≤ m * n := Nat.mul_le_mul h₁ h₂
theorem yk_.{u} {α : Type u} {n : Nat} {a : α} : (List.replicate n a).length = n := List.length_replicate
theorem yl_.{u} {α : Type u} {i : Nat} {l : List α} : (List.take i l).length = min i l.length := List.length_take
theorem ym_.{u} {α : Type u} {l : List α} {i : Nat} {a : α} : (l.set i a).length = l.length := List.length_set
theorem yn_ (n : Int) : n ∣ 0 := Int.dvd_zero n
theorem yo_.{u} {α : Type u} {p : α → Bool} {l : List α} : l.all p = true ↔ ∀ x, x ∈ l → p x = true := List.all_eq_true
theorem yp_.{u} {α : Type u} {l : List α} {n : Nat} (h : n < l.length) : l[n] ∈ l := List.getElem_mem h
theorem yq_ {a b c : Int} : a ∣ b → a ∣ c → a ∣ b + c := Int.dvd_add
theorem yr_ {a b c : Int} : a ∣ b → a ∣ c → a ∣ b - c := Int.dvd_sub
theorem ys_.{u, v} {α : Type u} {β : Type v} {b : β} {f : α → β} {l : List α} : b ∈ List.map f l ↔ ∃ a, a ∈ l ∧ f a = b := List.mem_map
theorem yt_.{u, v} {α : Type u} {β : Type v} {f : α → β} {l k : List α} : List.map f (l ++ k) = List.map f l ++ List.map f k := List.map_append
theorem yu_.{u} {α : Type u} {i : Nat} {l : List α} : l.length ≤ i → List.drop i l = [] := List.drop_of_length_le
theorem oM_ {p : Prop} (h : p := by omega) : p := h
theorem O1_ {α : Type} {c : Prop} {i : Decidable c} {t : Option α} {r : α} (h : (@ite _ c i t none) = some r) : c := by
 by_cases hc : c
 ·exact hc
 rw [if_neg hc] at h; cases h
theorem O2_ {α : Type} {c : Prop} {i : Decidable c} {t : Option α} {r : α} (h : (@ite _ c i t none) = some r) : t = some r := by
 by_cases hc : c
 ·rw [if_pos hc] at h; exact h
 rw [if_neg hc] at h; cases h
theorem T_ {α : Type} {i : Decidable (true = true)} {t f x : α} (h : (@ite _ (true = true) i t f) = x) : t = x := by rw [if_pos rfl] at h; exact h
theorem N_ {α : Type} {i : Decidable (false = true)} {t f x : α} (h : (@ite _ (false = true) i t f) = x) : f = x := by rw [if_neg Bool.false_ne_true] at h; exact h
theorem X_ {α : Type} {r : α} {p : Prop} (h : (none : Option α) = some r) : p := by cases h
theorem Y_ {a b e : Prop} (x : e) (y : a) (h : e → a → b := by intro hy_ H; first | (rw [hy_]; with_reducible exact H) | (have H2_ := (Option.bind_some _ _).symm.trans H; rw [hy_]; with_reducible exact H2_) | (have H2_ := (Option.bind_some _ _).symm.trans H; with_reducible exact H2_) | with_reducible exact H | (rw [hy_]; exact H) | exact H) : b := h x y
theorem Q1_ {p a : Prop} (x : Zz a) (h : a → p := by intros; omega) : p := h x.out
theorem Q2_ {p a b : Prop} (x : Zz a) (y : Zz b) (h : a → b → p := by intros; omega) : p := h x.out y.out
theorem Q3_ {p a b c : Prop} (x : Zz a) (y : Zz b) (z : Zz c) (h : a → b → c → p := by intros; omega) : p := h x.out y.out z.out
theorem Q4_ {p a b c d : Prop} (x : Zz a) (y : Zz b) (z : Zz c) (u : Zz d) (h : a → b → c → d → p := by intros; omega) : p := h x.out y.out z.out u.out
theorem Q5_ {p a b c d e : Prop} (x : Zz a) (y : Zz b) (z : Zz c) (u : Zz d) (v : Zz e) (h : a → b → c → d → e → p := by intros; omega) : p := h x.out y.out z.out u.out v.out
theorem L1_ {p a : Prop} (x : a) (h : a → p := by intro h1_; repeat' first | (with_reducible apply h1_) | (with_reducible exact LeO.refl _) | (with_reducible exact LeO.none _) | (with_reducible refine LeO.ite ?_ ?_) | (with_reducible refine LeO.bind ?_ (fun _ => ?_)) | exact LeO.none _ | refine LeO.ite ?_ ?_ | refine LeO.bind ?_ (fun _ => ?_)) : p := h x
def tbl_ : Nat → Nat → List Bool
 | 0, _ => []
 | n + 1, m => (m % 2 == 1) :: tbl_ n (m / 2)
def tb_ (n m : Nat) : Array Bool := (tbl_ n m).toArray
section
open Go.RowKit
variable {P : Program} {md : Region.Mode} {ops : Array Oper} {ds : List Nat} {Q : Exit → Act → World → Prop} {S : World → Prop} {T : Bool × List (List Nat × List Nat)} {B : List Nat}
theorem O3_ {c : Prop} [Decidable c] {α : Type} {x : Option α} {y : α} (h : (if c then x else none) = some y) : decide c = true := decide_eq_true (O1_ h)
theorem OZ_ {α β : Type} {o : Option α} {f : α → Option β} {b : β} (h : o.bind f = some b) : ∃ a, Zz (o = some a) ∧ f a = some b := (Option.bind_eq_some_iff.mp h).imp fun _ h => ⟨Zz.mk h.1, h.2⟩
theorem bx_ {P : Program} {ops : Array Oper} {o : Oper} {rest : List Oper} {a : Act} {Q : Exit → Act → World → Prop} {W : World} (N : Tmp) (cs : Array Value) (t : TypeId) (h : ∀ g, g = W.heap.size → ∀ w1, w1.heap[g]? = some (.cells cs t (0, 0)) → Below W.heap.size W w1 → wpList P ops Q rest (a.put o.dst (.pointer (some ⟨g, 0, none⟩))) w1) (hgd : o.guard = none := by rfl) (_hd : o.dst = some N := by rfl) (hrun : (execOp a.eval o).run P W = .ok (.value (.pointer (some ⟨W.heap.size, 0, none⟩))) (W.alloc (.cells cs t (0, 0))) := by first | (go_simp; done) | (go_simp; rfl)) : wpList P ops Q (o :: rest) a W := qMu hgd _hd hrun h
theorem by_ {P : Program} {ops : Array Oper} {o : Oper} {a : Act} {Q : Exit → Act → World → Prop} {Kc : Act → World → Prop} {W : World} (N : Tmp) (cs : Array Value) (t : TypeId) (h : ∀ g, g = W.heap.size → ∀ w1, w1.heap[g]? = some (.cells cs t (0, 0)) → Below W.heap.size W w1 → Kc (a.put o.dst (.pointer (some ⟨g, 0, none⟩))) w1) (hw : Region.wanted o (yielded ops a.tmps) = true := by rfl) (_hd : o.dst = some N := by rfl) (hrun : (execOp a.eval o).run P W = .ok (.value (.pointer (some ⟨W.heap.size, 0, none⟩))) (W.alloc (.cells cs t (0, 0))) := by first | (go_simp; done) | (go_simp; rfl)) : if Region.wanted o (yielded ops a.tmps) = true then Oper.wp P o a W Kc Q else Kc (a.put o.dst undef) W := qNy hw _hd hrun h
theorem eD_ {p q : Prop} (h : p := by first | rfl | (simp; done) | (simp [*]; done)) (h2 : q := by repeat (first | exact Dz.refl _ | apply Dz.step)) : p ∧ q := ⟨h, h2⟩
theorem gw_ {g : Nat} {w w1 : World} (hg : g = w1.heap.size) (h : Below w.heap.size w w1) : w.heap.size ≤ g := by rw [hg]; exact bS_ h
theorem kb_ {g : Nat} {o : Obj} {w w1 w2 : World} (h : w.heap[g]? = some o) (hb : Below w1.heap.size w1 w2) (hw : w.heap[g]? = some o → w1.heap[g]? = some o := by intro hx_; (with_reducible repeat (first | refine bN_ ?_ _ | refine bD_ ?_ | refine bA_ ?_ _)); exact hx_) : w2.heap[g]? = some o := bB_ (hw h) hb
theorem nb_ {g g' : Nat} {o : Obj} {w w1 : World} (h : w.heap[g]? = some o) (hg : g' = w1.heap.size) (hw : w.heap[g]? = some o → w1.heap[g]? = some o := by intro hx_; (with_reducible repeat (first | refine bN_ ?_ _ | refine bD_ ?_ | refine bA_ ?_ _)); exact hx_) : g ≠ g' := by rw [hg]; exact Nat.ne_of_lt (qE4 (hw h))
theorem pj_ {P Q : Prop} (p : P) (h : P → Q := by intro h_; (try dsimp only at h_); (try dsimp only); simp only [h_, ne_eq, not_false_eq_true, and_self, true_and, and_true]) : Q := h p
theorem sl_ {A A' : Option Addr} {n n' c c' : Nat} (h : Value.slice A n c = Value.slice A' n' c') : A' = A ∧ c' = c := by injection h with h1 h2 h3; exact ⟨h1.symm, h3.symm⟩
theorem tl_ {α β : Type} {d : Kd α} {d' : Kd β} {e e' n base : Nat} {ok ok' : Nat → Prop} {W W' w1 : World} {u v : Value} {xs : List α} {ys : List β} (h : Kd.S d e W' base ok u xs) (hb : Below W.heap.size W w1) (hn : n = W.heap.size) (ho : Kd.S d' e' w1 W.heap.size ok' v ys) (hw : Kd.S d e W' base ok u xs → Kd.S d e W base ok u xs := by intro hx_; (with_reducible repeat (first | apply Kd.S_alloc | apply Kd.S_drewN | apply Kd.S_drew)); exact hx_) : Kd.S d e w1 base (fun k => (ok k ∧ some k ≠ v.ownBlock) ∧ k < n) u xs := Kd.S_told (Kd.S_oldN (hw h) hb hn) (Kd.S_baseN ho hn)
theorem PV_ {i : Nat} {N : Option Tmp} {oi : Oper} {v : Value} {fuel : Nat} {l : Array Bool} {a a' : Act} {w : World} (l' : Array Bool) (HT : Zz (rtab md ops = T)) (hi : ops[i]? = some oi) (hN : oi.dst = N) (hc : anyT T l.toList l'.toList i = true := by kernel_rfl)
  (hQ : ∀ c a w, Q (.panic c) (a.put oi.dst v) w → Q (.panic c) a w := by exact fun _ _ _ h => h) (h1 : Region.wanted oi (yielded ops a.tmps) = true := by rfl) (h2 : ∀ w, (execOp a.eval oi).run P w = .ok (.value v) w := by intro w'; go_simp; with_reducible rfl) (ha : a.put N v = a' := by simp only [Act.put, List.setIfInBounds_toArray, List.set_cons_zero, List.set_cons_succ, qA6, qBh]; rfl)
  (h : qAo P md ops Q S ds fuel l' a' w) : qAo P md ops Q S ds (fuel + 1) l a w := qFt l' hi hN (qKy HT.out hc) hQ (Or.inl ⟨h1, h2⟩) ha h
theorem PU_ {i : Nat} {N : Option Tmp} {oi : Oper} {fuel : Nat} {l : Array Bool} {a a' : Act} {w : World} (l' : Array Bool) (HT : Zz (rtab md ops = T)) (hi : ops[i]? = some oi) (hN : oi.dst = N) (hc : anyT T l.toList l'.toList i = true := by kernel_rfl)
  (hQ : ∀ c a w, Q (.panic c) (a.put oi.dst undef) w → Q (.panic c) a w := by exact fun _ _ _ h => h) (h1 : Region.wanted oi (yielded ops a.tmps) = false := by rfl) (ha : a.put N undef = a' := by simp only [Act.put, List.setIfInBounds_toArray, List.set_cons_zero, List.set_cons_succ, qA6, qBh]; rfl)
  (h : qAo P md ops Q S ds fuel l' a' w) : qAo P md ops Q S ds (fuel + 1) l a w := qFt l' hi hN (qKy HT.out hc) hQ (Or.inr ⟨h1, rfl⟩) ha h
theorem PX_ {oi : Oper} {v : Value} {fuel : Nat} {l : Array Bool} {a a' : Act} {w : World} (i : Nat) (n : Tmp) (l' : Array Bool) (HT : Zz (rtab md ops = T)) (hi : ops[i]? = some oi) (hN : oi.dst = some n) (h : qAo P md ops Q S ds fuel l' a' w) (hc : anyT T l.toList l'.toList i = true := by kernel_rfl)
  (hQ : ∀ c a w, Q (.panic c) (a.put oi.dst v) w → Q (.panic c) a w := by exact fun _ _ _ h => h) (h1 : Region.wanted oi (yielded ops a.tmps) = true := by rfl) (h2 : ∀ w, (execOp a.eval oi).run P w = .ok (.value v) w := by intro w'; go_simp; with_reducible rfl) (ha : a.put (some n) v = a' := by simp only [Act.put, List.setIfInBounds_toArray, List.set_cons_zero, List.set_cons_succ, qA6, qBh]; rfl)
  : qAo P md ops Q S ds (fuel + 1) l a w := qFt l' hi hN (qKy HT.out hc) hQ (Or.inl ⟨h1, h2⟩) ha h
theorem PY_ {oi : Oper} {fuel : Nat} {l : Array Bool} {a a' : Act} {w : World} (i : Nat) (n : Tmp) (l' : Array Bool) (HT : Zz (rtab md ops = T)) (hi : ops[i]? = some oi) (hN : oi.dst = some n) (h : qAo P md ops Q S ds fuel l' a' w) (hc : anyT T l.toList l'.toList i = true := by kernel_rfl)
  (hQ : ∀ c a w, Q (.panic c) (a.put oi.dst undef) w → Q (.panic c) a w := by exact fun _ _ _ h => h) (h1 : Region.wanted oi (yielded ops a.tmps) = false := by rfl) (ha : a.put (some n) undef = a' := by simp only [Act.put, List.setIfInBounds_toArray, List.set_cons_zero, List.set_cons_succ, qA6, qBh]; rfl)
  : qAo P md ops Q S ds (fuel + 1) l a w := qFt l' hi hN (qKy HT.out hc) hQ (Or.inr ⟨h1, rfl⟩) ha h
theorem TV_ {i : Nat} {N : Option Tmp} {oi : Oper} {v : Value} {fuel : Nat} {l : Array Bool} {a a' : Act} {w : World} (l' : Array Bool) (HT : Zz (rtab md ops = T)) (HW : Zz (qBe T.2 B = true)) (hi : ops[i]? = some oi) (hN : oi.dst = N) (hS : S w) (h2 : ∀ w, S w → (execOp a.eval oi).run P w = .ok (.value v) w) (hc : qM9 T B ds l.toList l'.toList i = true := by kernel_rfl)
  (hQ : ∀ c a w, Q (.panic c) (a.put oi.dst v) w → Q (.panic c) a w := by exact fun _ _ _ h => h) (h1 : Region.wanted oi (yielded ops a.tmps) = true := by rfl) (ha : a.put N v = a' := by simp only [Act.put, List.setIfInBounds_toArray, List.set_cons_zero, List.set_cons_succ, qA6, qBh]; rfl)
  (h : qAo P md ops Q S ds fuel l' a' w) : qAo P md ops Q S ds (fuel + 1) l a w := take_ l' hi hN (qCz HT.out HW.out hc) hQ (Or.inl ⟨h1, h2⟩) hS ha h
theorem TX_ {oi : Oper} {v : Value} {fuel : Nat} {l : Array Bool} {a a' : Act} {w : World} (i : Nat) (n : Tmp) (l' : Array Bool) (HT : Zz (rtab md ops = T)) (HW : Zz (qBe T.2 B = true)) (hi : ops[i]? = some oi) (hN : oi.dst = some n) (hS : S w) (h : qAo P md ops Q S ds fuel l' a' w) (h2 : ∀ w, S w → (execOp a.eval oi).run P w = .ok (.value v) w := by rintro w' ⟨s0, s1, s2⟩; go_simp; with_reducible rfl) (hc : qM9 T B ds l.toList l'.toList i = true := by kernel_rfl)
  (hQ : ∀ c a w, Q (.panic c) (a.put oi.dst v) w → Q (.panic c) a w := by exact fun _ _ _ h => h) (h1 : Region.wanted oi (yielded ops a.tmps) = true := by rfl) (ha : a.put (some n) v = a' := by simp only [Act.put, List.setIfInBounds_toArray, List.set_cons_zero, List.set_cons_succ, qA6, qBh]; rfl)
  : qAo P md ops Q S ds (fuel + 1) l a w := take_ l' hi hN (qCz HT.out HW.out hc) hQ (Or.inl ⟨h1, h2⟩) hS ha h
theorem GO_ {oi : Oper} {N : Option Tmp} {a : Act} {w : World} {K : Act → World → Prop} {f : FuncId} {fn : Func} {as_ : Array Operand} {ts : Array TypeId} (hf : P.funcs[f]? = some fn) (args : Array Value) (hname : (fn.name == "runtime.NumGoroutine") = false := by kernel_rfl) (hb : fn.body.isSome = true := by exact rfl)
  (hw : Region.wanted oi (yielded ops a.tmps) = true := by rfl) (hN : oi.dst = N := by exact rfl) (hop : oi.op = .call { callee := .value (.func f), args := as_, argTypes := ts } := by exact rfl) (hargs : as_.map a.eval = args := by (try simp only [List.map_toArray, List.map_cons, List.map_nil]); first | done | rfl | (simp only [List.length_drop, List.length_take]; rfl))
  (h : Calls P f args w fun e w' => ∃ v, e = .returned v ∧ K (a.put N v) w') : if Region.wanted oi (yielded ops a.tmps) = true then Oper.wp P oi a w K Q else K (a.put N undef) w := goes_ hf hname hb args hw hN hop hargs h
theorem GL_ {rest : List Oper} {oi : Oper} {a : Act} {w : World} (N : Option Tmp) {f : FuncId} {fn : Func} {as_ : Array Operand} {ts : Array TypeId} (hd : oi.dst = N) (hg : oi.guard = none) (hf : P.funcs[f]? = some fn) (args : Array Value) (hop : oi.op = .call { callee := .value (.func f), args := as_, argTypes := ts }) (hname : (fn.name == "runtime.NumGoroutine") = false := by kernel_rfl) (hb : fn.body.isSome = true := by exact rfl)
  (hargs : as_.map a.eval = args := by (try simp only [List.map_toArray, List.map_cons, List.map_nil]); first | done | rfl | (simp only [List.length_drop, List.length_take]; rfl))
  (h : Calls P f args w fun e w' => ∃ v, e = .returned v ∧ wpList P ops Q rest (a.put N v) w') : wpList P ops Q (oi :: rest) a w := qJc N hd hg hf hname hb args hop hargs h
theorem NM_ {N : Option Tmp} {v : Value} {fuel : Nat} {l : Array Bool} {a a' : Act} {w : World} (ha : a.put N v = a' := by simp only [Act.put, List.setIfInBounds_toArray, List.set_cons_zero, List.set_cons_succ, qA6, qBh]; rfl)
  (h : qAo P md ops Q S ds fuel l a' w) : qAo P md ops Q S ds fuel l (a.put N v) w := qGn ha h
end
theorem qB9 : (Try.prog.info? 2).map (fun i => (i.zero, i.size, i.bytes)) = some (some (.int .i64 0), 1, 8) := by kernel_rfl
theorem info3 : (Try.prog.info? 3).map (fun i => (i.zero, i.size, i.bytes)) = some (some (.int .i64 0), 1, 8) := by kernel_rfl
theorem qDm : (Try.prog.info? 26).map (fun i => (i.zero, i.size, i.bytes)) = some (some (.slice none 0 0), 1, 24) := by kernel_rfl
def rI_ (xs : List (List Int)) (i : Int) : (List Int) := xs.getD i.toNat ([] : List Int)
theorem qAp {w : World} {A : Option Addr} {n : Nat} {xs : List (List Int)} (h : Kd.C (Kd.slice 2 (Kd.int .i64)) w A n xs) (i : Int) (h0 : 0 ≤ i) (h1 : i < n) : ∃ ad A0 c0, A = some ad ∧ w.cell? (ad.add i.toNat) = some (.slice A0 (rI_ xs i).length c0) ∧ (rI_ xs i).length ≤ c0 ∧ (Kd.int .i64).C w A0 (rI_ xs i).length (rI_ xs i) := by
 obtain ⟨ad, c, e, _, hK, hc0⟩ := Kd.C_get h ([] : List Int) i h0 h1
 have hc : ∀ j u, c[j]? = some u → w.cell? (ad.add (i.toNat * 1 + j)) = some u := hc0
 obtain ⟨A0, c0, rfl, l0, g0⟩ := hK
 exact ⟨ad, A0, c0, e, by have hq := hc 0 _ rfl; rwa [Nat.mul_one, Nat.add_zero] at hq, l0, g0⟩
def qCc (xs : List (List (List Int))) (i : Int) : (List (List Int)) := xs.getD i.toNat ([] : List (List Int))
theorem qM6 {w : World} {A : Option Addr} {n : Nat} {xs : List (List (List Int))} (h : Kd.C (Kd.slice 26 (Kd.slice 2 (Kd.int .i64))) w A n xs) (i : Int) (h0 : 0 ≤ i) (h1 : i < n) : ∃ ad A0 c0, A = some ad ∧ w.cell? (ad.add i.toNat) = some (.slice A0 (qCc xs i).length c0) ∧ (qCc xs i).length ≤ c0 ∧ (Kd.slice 2 (Kd.int .i64)).C w A0 (qCc xs i).length (qCc xs i) := by
 obtain ⟨ad, c, e, _, hK, hc0⟩ := Kd.C_get h ([] : List (List Int)) i h0 h1
 have hc : ∀ j u, c[j]? = some u → w.cell? (ad.add (i.toNat * 1 + j)) = some u := hc0
 obtain ⟨A0, c0, rfl, l0, g0⟩ := hK
 exact ⟨ad, A0, c0, e, by have hq := hc 0 _ rfl; rwa [Nat.mul_one, Nat.add_zero] at hq, l0, g0⟩
end Go.Proofs.Ytpgjfppbbbnclaa.B
namespace Go.Proofs.Ytpgjfppbbbnclaa.B
open Go.RowKit Go.Proofs.YtpgjfppbbbnclaaW.PrintWords Go.Proofs.YtpgjfppbbbnclaaW.PrintLast Go.Proofs.YtpgjfppbbbnclaaW.PrintMore
attribute [local go_sem] qAh qAf qAl qAk qAc qAb qAg qAe
set_option linter.unusedVariables false
set_option linter.unusedSimpArgs false
def z57.f (a0 : Int) (a1 : Int) (a2 : Int) : Option (Bool) := if a0 ≥ a1 then (some (decide (a0 ≤ a2))) else (some false)
theorem z57.calls (a0 : Int) (a1 : Int) (a2 : Int) (r : Bool) (w : World) (h : z57.f a0 a1 a2 = some r) :
  Calls Try.prog 57 #[.int .i64 a0, .int .i64 a1, .int .i64 a2] w fun e w' => e = .returned (.bool r) ∧ Dz w w' := by
 have H : (if a0 ≥ a1 then (some (decide (a0 ≤ a2))) else (some false)) = some r := h
 clear h
 by_cases c4 : a0 ≥ a1
 ·rw [if_pos c4] at H
  have c4b0 : decide (a1 ≤ a0) = true := decide_eq_true c4
  clear c4
  obtain rfl := OI_ H
  go_enter Try.func57, Try.ntmps57
  go_wp2
  go_ret
  exact eD_
 rw [if_neg c4] at H
 have c4b0 : decide (a1 ≤ a0) = false := decide_eq_false c4
 clear c4
 obtain rfl := OI_ H
 go_enter Try.func57, Try.ntmps57
 go_wp2
 go_ret
 exact eD_
def z37.f (a0 : Int) : Option (Bool) := (z57.f a0 0 3).bind fun t101 => (some t101)
theorem z37.calls (a0 : Int) (r : Bool) (w : World) (h : z37.f a0 = some r) :
  Calls Try.prog 37 #[.int .i64 a0] w fun e w' => e = .returned (.bool r) ∧ Dz w w' := by
 have H : ((z57.f a0 0 3).bind fun t101 => (some t101)) = some r := h
 clear h
 replace H := OZ_ H
 obtain ⟨t101, A2, H⟩ := H
 obtain rfl := OI_ H
 go_enter Try.func37, Try.ntmps37
 go_wp2_with (first | ((with_reducible refine gC_ (f := 57) rfl ?_); refine GL_ (some 4) rfl rfl Try.func57 #[.int .i64 a0, .int .i64 0, .int .i64 3] rfl (h := ?_); (with_reducible refine (z57.calls a0 0 3 t101 _ A2.out).mono ?_); rintro e w' ⟨rfl, ⟨nd, rfl⟩⟩; refine ⟨_, rfl, ?_⟩))
 go_ret
 exact eD_
def z58.f (l0 : List Int) : Option (Int) := some (l0.length : Int)
theorem z58.calls (A0 : Option Addr) (c0 : Nat) (l0 : List Int) (r : Int) (w : World) (hr0 : Kd.C (Kd.int .i64) w A0 l0.length l0) (hc0 : l0.length ≤ c0) (h : z58.f l0 = some r) :
  Calls Try.prog 58 #[.slice A0 l0.length c0] w fun e w' => e = .returned (.int .i64 r) ∧ Dz w w' := by
 have HR0 := Zz.mk hr0
 have HC0 := Zz.mk hc0
 clear hr0 hc0
 have H : (some (l0.length : Int)) = some r := h
 clear h
 obtain rfl := OI_ H
 go_enter Try.func58, Try.ntmps58
 go_wp2
 go_ret
 exact eD_
def z38.l0 : Nat → Int → List Int → List (List Int) → Int → Int → Option (List Int)
 | 0, _, _, _, _, _ => none
 | k + 1, x1, x5, x9, x10, x11 => if x11 < x10 then (if 0 ≤ x11 then (if x11 < (x9.length : Int) then ((z58.f (rI_ x9 x11)).bind fun t103 => (if t103 = (wrap64 (x1 + 1)) then (if x5.length < 17592186044416 then (z38.l0 k x1 (x5 ++ [x11]) x9 x10 (wrap64 (x11 + 1))) else (none)) else (z38.l0 k x1 x5 x9 x10 (wrap64 (x11 + 1))))) else (none)) else (none)) else (some x5)
def z38.f (k : Nat) (l0_0 : List (List Int)) (a1 : Int) : Option (List Int) := z38.l0 k a1 ([] : List Int) l0_0 (l0_0.length : Int) 0
theorem z38.calls (k : Nat) (A0_0 : Option Addr) (c0_0 : Nat) (l0_0 : List (List Int)) (a1 : Int) (r : List Int) (w : World) (hr0_0 : Kd.C (Kd.slice 2 (Kd.int .i64)) w A0_0 l0_0.length l0_0) (hc0_0 : l0_0.length ≤ c0_0) (h : z38.f k l0_0 a1 = some r) :
  Calls Try.prog 38 #[.agg #[.slice A0_0 l0_0.length c0_0], .int .i64 a1] w fun e w' => ∃ v0_ : Value, e = .returned (v0_) ∧ Kd.R (Kd.int .i64) 2 w' w.heap.size (fun _ => True) v0_ r ∧ Below w.heap.size w w' := by
 have hu29 := Try.underlying29
 have HR0_0 := Zz.mk hr0_0
 have HC0_0 := Zz.mk hc0_0
 clear hr0_0 hc0_0
 have HB := Zz.mk (Below.refl w.heap.size w)
 have H : (z38.l0 k a1 ([] : List Int) l0_0 (l0_0.length : Int) 0) = some r := h
 clear h
 have H' := Zz.mk H
 clear H
 go_enter Try.func38, Try.ntmps38
 go_wp2_with (first | ((with_reducible refine qAm (N := 2) rfl ?_); refine bx_ 2 #[.slice A0_0 l0_0.length c0_0] 29 ?_; intro gb101 hg w3 hbox hb; have BK101 := Zz.mk (hbox); have GW101 := Zz.mk ((gw_ hg (B_ HB.out))); have GE101 := GW101; replace HB := Zz.mk (bT_ (B_ HB.out) hb); clear hb hbox hg; obtain ⟨hcz4_0, hfz4_0⟩ := Z1f_ BK101.out))
 go_loopg [5, 11] k (fun kq v5 v11 w' => ∃ (x5_1 : List Int) (x11_1 : Int), v11 = .int .i64 x11_1 ∧ Zz (z38.l0 kq a1 x5_1 l0_0 (l0_0.length : Int) x11_1 = some r) ∧ Zz (kq ≤ k) ∧ Zz (Kd.R (Kd.int .i64) 2 w' w.heap.size (fun _ => True) v5 x5_1) ∧ Zz (w'.heap[gb101]? = some (.cells #[(.slice A0_0 l0_0.length c0_0)] 29 (0, 0))) ∧ Zz (Below w.heap.size w w'))
 case atStart => exact ⟨(([] : List Int)), (0), E_, H', ⟨Nat.le_refl _⟩, ⟨by first | exact Kd.R_nil _ _ _ _ _ | exact Kd.N_nil _ _ _ _ _ | exact Kd.V_nil _ _ _ _ _ | exact Kd.Q_nil _ _ _ _ _ | exact Kd.S_nil _ _ _ _ _⟩, ⟨KB_ BK101.out⟩, ⟨B1_ HB.out GE101.out⟩⟩
 case round =>
  clear H'
  (try clear hcz4_0);(try clear hfz4_0)
  obtain ⟨x5_1, x11_1, rfl, HA, HK1, HO_5, BK101, HB⟩ := hrel
  cases gk with
  | zero => exact absurd HA.out (by simp [z38.l0])
  | succ k1 =>
   have H := HA.out
   clear HA
   simp only [z38.l0] at H
   by_cases c5 : x11_1 < (l0_0.length : Int)
   ·rw [if_pos c5] at H
    have c5b0 : decide (x11_1 < (l0_0.length : Int)) = true := decide_eq_true c5
    clear c5
    have c6b0 := O3_ H
    replace H := O2_ H
    have c7b0 := O3_ H
    replace H := O2_ H
    replace H := OZ_ H
    obtain ⟨t103, A8, H⟩ := H
    by_cases c9 : t103 = (wrap64 (a1 + 1))
    ·rw [if_pos c9] at H
     have c9b0 : (t103 == (wrap64 (a1 + 1))) = true := beq_iff_eq.mpr c9
     have c9b1 : (t103 != (wrap64 (a1 + 1))) = false := bne_eq_false_iff_eq.mpr c9
     clear c9
     have c10 := O1_ H
     replace H := O2_ H
     have LMc10 := Zz.mk c10
     clear c10
     obtain ⟨y104, hy104⟩ : ∃ y_ : List Int, y_ = (x5_1 ++ [x11_1]) := ⟨_, rfl⟩
     replace H : (z38.l0 k1 a1 y104 l0_0 (l0_0.length : Int) (wrap64 (x11_1 + 1))) = some r := Y_ hy104 H
     have Ny104 := Zz.mk hy104
     clear hy104
     have H' := Zz.mk H
     clear H
     have p102 : 0 ≤ (x11_1 : Int) := D_
     have q102 : x11_1 < (l0_0.length : Int) := D_
     obtain ⟨ad102, A102_0, c102_0, e102, hx102_0, hl102_0, hi102_0⟩ := qAp HR0_0.out x11_1 p102 q102
     cases e102
     replace hx102_0 := (HB.out.cell (World.block_lt_of_cell? w _ hx102_0)).trans hx102_0
     have HR102_0 := Zz.mk hi102_0
     have HC102_0 := Zz.mk hl102_0
     clear hi102_0 hl102_0
     replace p102 := eq_true p102
     replace q102 := eq_true q102
     go_wp2_with (first | ((with_reducible refine gC_ (f := 58) rfl ?_); refine GL_ (some 17) rfl rfl Try.func58 #[.slice A102_0 (rI_ l0_0 x11_1).length c102_0] rfl (h := ?_); (with_reducible refine (z58.calls _ _ (rI_ l0_0 x11_1) t103 _ ?side1 ?side2 A8.out).mono ?_); (case side1 => exact KC_ (Kd.C_below HR102_0.out HB.out)); (case side2 => exact HC102_0.out); rintro e w' ⟨rfl, ⟨nd, rfl⟩⟩; refine ⟨_, rfl, ?_⟩) | ((with_reducible refine qAv (b := .append) (xs := #[.tmp 21, .tmp 23]) rfl ?_); at_builtin; refine Kd.R_append (Kd.int .i64) (w0 := w) w.heap.size rfl (.tmp 21) (.tmp 23) 26 2 (.int .i64 0) 8 rfl Try.underlying26 qB9 rfl (by decide) (by omega) u5 x5_1 x11_1 [.int .i64 x11_1] (fun _ => True) (fun _ => False) rfl rfl ?aP (fun _ hk => hk.elim) ?aF ?aO ?aB ?aS ?aL ?_; (case aP => exact rfl); (case aB => exact (B1_ HB.out GE101.out)); (case aF => exact (fun _ _ => trivial)); (case aO => exact (KR_ HO_5.out)); (case aS => exact (bS_ (B1_ HB.out GE101.out))); (case aL => have := LMc10.out; omega); intro v105 w11 ho hb hg hat; rw [← Ny104.out] at ho; replace BK101 := Zz.mk (qAy (g := gb101) (o := .cells #[.slice (some ad102) l0_0.length c0_0] 29 (0, 0)) (KB_ BK101.out) hg (Kd.R_ne HO_5.out BK101.out (by decide))); replace HB := Zz.mk (hb); have HO106 := Zz.mk (ho); clear HO_5; clear ho hb hg hat))
     go_roundg k1
     case measure => exact Q1_ HK1
     case rel => exact ⟨(y104), (wrap64 (x11_1 + 1)), E_, H', ⟨Q1_ HK1⟩, ⟨KR_ HO106.out⟩, ⟨KB_ BK101.out⟩, ⟨B1_ HB.out GE101.out⟩⟩
    rw [if_neg c9] at H
    have c9b0 : (t103 == (wrap64 (a1 + 1))) = false := beq_eq_false_iff_ne.mpr c9
    have c9b1 : (t103 != (wrap64 (a1 + 1))) = true := bne_iff_ne.mpr c9
    have H' := Zz.mk H
    clear H
    have p102 : 0 ≤ (x11_1 : Int) := D_
    have q102 : x11_1 < (l0_0.length : Int) := D_
    obtain ⟨ad102, A102_0, c102_0, e102, hx102_0, hl102_0, hi102_0⟩ := qAp HR0_0.out x11_1 p102 q102
    cases e102
    replace hx102_0 := (HB.out.cell (World.block_lt_of_cell? w _ hx102_0)).trans hx102_0
    have HR102_0 := Zz.mk hi102_0
    have HC102_0 := Zz.mk hl102_0
    clear hi102_0 hl102_0
    replace p102 := eq_true p102
    replace q102 := eq_true q102
    go_wp2_with (first | ((with_reducible refine gC_ (f := 58) rfl ?_); refine GL_ (some 17) rfl rfl Try.func58 #[.slice A102_0 (rI_ l0_0 x11_1).length c102_0] rfl (h := ?_); (with_reducible refine (z58.calls _ _ (rI_ l0_0 x11_1) t103 _ ?side1 ?side2 A8.out).mono ?_); (case side1 => exact KC_ (Kd.C_below HR102_0.out HB.out)); (case side2 => exact HC102_0.out); rintro e w' ⟨rfl, ⟨nd, rfl⟩⟩; refine ⟨_, rfl, ?_⟩))
    go_roundg k1
    case measure => exact Q1_ HK1
    case rel => exact ⟨(x5_1), (wrap64 (x11_1 + 1)), E_, H', ⟨Q1_ HK1⟩, ⟨KR_ HO_5.out⟩, ⟨KB_ BK101.out⟩, ⟨B1_ HB.out GE101.out⟩⟩
   rw [if_neg c5] at H
   have c5b0 : decide (x11_1 < (l0_0.length : Int)) = false := decide_eq_false c5
   clear c5
   obtain rfl := OI_ H
   go_wp2
   go_ret
   exact ⟨_, F_, KR_ HO_5.out, B1_ HB.out GE101.out⟩
def z93.f (a0 : Int) : Option (Bool) := some (a0 != a0)
theorem z93.calls (a0 : Int) (r : Bool) (w : World) (h : z93.f a0 = some r) :
  Calls Try.prog 93 #[.int .i64 a0] w fun e w' => e = .returned (.bool r) ∧ Dz w w' := by
 have H : (some (a0 != a0)) = some r := h
 clear h
 obtain rfl := OI_ H
 go_enter Try.func93, Try.ntmps93
 go_wp2
 go_ret
 exact eD_
def z78.f (a0 : Int) (a1 : Int) : Option (Int) := (z93.f a0).bind fun t101 => ((z93.f a1).bind fun t102 => (if t101 = true then (if t102 = true then (some 0) else (some (-1))) else (if t102 = true then (some 1) else (if a0 < a1 then (some (-1)) else (if a0 > a1 then (some 1) else (some 0))))))
theorem z78.calls (a0 : Int) (a1 : Int) (r : Int) (w : World) (h : z78.f a0 a1 = some r) :
  Calls Try.prog 78 #[.int .i64 a0, .int .i64 a1] w fun e w' => e = .returned (.int .i64 r) ∧ Dz w w' := by
 have H : ((z93.f a0).bind fun t101 => ((z93.f a1).bind fun t102 => (if t101 = true then (if t102 = true then (some 0) else (some (-1))) else (if t102 = true then (some 1) else (if a0 < a1 then (some (-1)) else (if a0 > a1 then (some 1) else (some 0))))))) = some r := h
 clear h
 replace H := OZ_ H
 obtain ⟨t101, A3, H⟩ := H
 replace H := OZ_ H
 obtain ⟨t102, A4, H⟩ := H
 by_cases c5 : t101 = true
 ·subst c5
  replace H := T_ H
  by_cases c6 : t102 = true
  ·subst c6
   replace H := T_ H
   obtain rfl := OI_ H
   go_enter Try.func78, Try.ntmps78
   go_wp2_with (first | ((with_reducible refine gC_ (f := 93) rfl ?_); refine GL_ (some 8) rfl rfl Try.func93 #[.int .i64 a0] rfl (h := ?_); (with_reducible refine (z93.calls a0 true _ A3.out).mono ?_); rintro e w' ⟨rfl, ⟨nd, rfl⟩⟩; refine ⟨_, rfl, ?_⟩) | ((with_reducible refine gC_ (f := 93) rfl ?_); refine GL_ (some 10) rfl rfl Try.func93 #[.int .i64 a1] rfl (h := ?_); (with_reducible refine (z93.calls a1 true _ A4.out).mono ?_); rintro e w' ⟨rfl, ⟨nd, rfl⟩⟩; refine ⟨_, rfl, ?_⟩))
   go_ret
   exact eD_
  replace c6 := Bool.eq_false_iff.mpr c6
  subst c6
  replace H := N_ H
  obtain rfl := OI_ H
  go_enter Try.func78, Try.ntmps78
  go_wp2_with (first | ((with_reducible refine gC_ (f := 93) rfl ?_); refine GL_ (some 8) rfl rfl Try.func93 #[.int .i64 a0] rfl (h := ?_); (with_reducible refine (z93.calls a0 true _ A3.out).mono ?_); rintro e w' ⟨rfl, ⟨nd, rfl⟩⟩; refine ⟨_, rfl, ?_⟩) | ((with_reducible refine gC_ (f := 93) rfl ?_); refine GL_ (some 10) rfl rfl Try.func93 #[.int .i64 a1] rfl (h := ?_); (with_reducible refine (z93.calls a1 false _ A4.out).mono ?_); rintro e w' ⟨rfl, ⟨nd, rfl⟩⟩; refine ⟨_, rfl, ?_⟩))
  go_ret
  exact eD_
 replace c5 := Bool.eq_false_iff.mpr c5
 subst c5
 replace H := N_ H
 by_cases c7 : t102 = true
 ·subst c7
  replace H := T_ H
  obtain rfl := OI_ H
  go_enter Try.func78, Try.ntmps78
  go_wp2_with (first | ((with_reducible refine gC_ (f := 93) rfl ?_); refine GL_ (some 8) rfl rfl Try.func93 #[.int .i64 a0] rfl (h := ?_); (with_reducible refine (z93.calls a0 false _ A3.out).mono ?_); rintro e w' ⟨rfl, ⟨nd, rfl⟩⟩; refine ⟨_, rfl, ?_⟩) | ((with_reducible refine gC_ (f := 93) rfl ?_); refine GL_ (some 10) rfl rfl Try.func93 #[.int .i64 a1] rfl (h := ?_); (with_reducible refine (z93.calls a1 true _ A4.out).mono ?_); rintro e w' ⟨rfl, ⟨nd, rfl⟩⟩; refine ⟨_, rfl, ?_⟩))
  go_ret
  exact eD_
 replace c7 := Bool.eq_false_iff.mpr c7
 subst c7
 replace H := N_ H
 by_cases c8 : a0 < a1
 ·rw [if_pos c8] at H
  have c8b0 : decide (a0 < a1) = true := decide_eq_true c8
  clear c8
  obtain rfl := OI_ H
  go_enter Try.func78, Try.ntmps78
  go_wp2_with (first | ((with_reducible refine gC_ (f := 93) rfl ?_); refine GL_ (some 8) rfl rfl Try.func93 #[.int .i64 a0] rfl (h := ?_); (with_reducible refine (z93.calls a0 false _ A3.out).mono ?_); rintro e w' ⟨rfl, ⟨nd, rfl⟩⟩; refine ⟨_, rfl, ?_⟩) | ((with_reducible refine gC_ (f := 93) rfl ?_); refine GL_ (some 10) rfl rfl Try.func93 #[.int .i64 a1] rfl (h := ?_); (with_reducible refine (z93.calls a1 false _ A4.out).mono ?_); rintro e w' ⟨rfl, ⟨nd, rfl⟩⟩; refine ⟨_, rfl, ?_⟩))
  go_ret
  exact eD_
 rw [if_neg c8] at H
 have c8b0 : decide (a0 < a1) = false := decide_eq_false c8
 clear c8
 by_cases c9 : a0 > a1
 ·rw [if_pos c9] at H
  have c9b0 : decide (a1 < a0) = true := decide_eq_true c9
  clear c9
  obtain rfl := OI_ H
  go_enter Try.func78, Try.ntmps78
  go_wp2_with (first | ((with_reducible refine gC_ (f := 93) rfl ?_); refine GL_ (some 8) rfl rfl Try.func93 #[.int .i64 a0] rfl (h := ?_); (with_reducible refine (z93.calls a0 false _ A3.out).mono ?_); rintro e w' ⟨rfl, ⟨nd, rfl⟩⟩; refine ⟨_, rfl, ?_⟩) | ((with_reducible refine gC_ (f := 93) rfl ?_); refine GL_ (some 10) rfl rfl Try.func93 #[.int .i64 a1] rfl (h := ?_); (with_reducible refine (z93.calls a1 false _ A4.out).mono ?_); rintro e w' ⟨rfl, ⟨nd, rfl⟩⟩; refine ⟨_, rfl, ?_⟩))
  go_ret
  exact eD_
 rw [if_neg c9] at H
 have c9b0 : decide (a1 < a0) = false := decide_eq_false c9
 clear c9
 obtain rfl := OI_ H
 go_enter Try.func78, Try.ntmps78
 go_wp2_with (first | ((with_reducible refine gC_ (f := 93) rfl ?_); refine GL_ (some 8) rfl rfl Try.func93 #[.int .i64 a0] rfl (h := ?_); (with_reducible refine (z93.calls a0 false _ A3.out).mono ?_); rintro e w' ⟨rfl, ⟨nd, rfl⟩⟩; refine ⟨_, rfl, ?_⟩) | ((with_reducible refine gC_ (f := 93) rfl ?_); refine GL_ (some 10) rfl rfl Try.func93 #[.int .i64 a1] rfl (h := ?_); (with_reducible refine (z93.calls a1 false _ A4.out).mono ?_); rintro e w' ⟨rfl, ⟨nd, rfl⟩⟩; refine ⟨_, rfl, ?_⟩))
 go_ret
 exact eD_
def z77.l0 : Nat → Int → List Int → Int → Int → Option (Int)
 | 0, _, _, _, _ => none
 | k + 1, x3, x6, x7, x8 => if x8 < x7 then (if 0 ≤ x8 then (if x8 < (x6.length : Int) then (if (rd x6 x8) = x3 then (z77.l0 k x3 x6 x7 (wrap64 (x8 + 1))) else (some (rd x6 x8))) else (none)) else (none)) else (some x3)
def z77.f (k : Nat) (l0 : List Int) : Option (Int) := z77.l0 k 0 l0 (l0.length : Int) 0
theorem z77.calls (k : Nat) (A0 : Option Addr) (c0 : Nat) (l0 : List Int) (r : Int) (w : World) (hr0 : Kd.C (Kd.int .i64) w A0 l0.length l0) (hc0 : l0.length ≤ c0) (h : z77.f k l0 = some r) :
  Calls Try.prog 77 #[.slice A0 l0.length c0] w fun e w' => e = .returned (.int .i64 r) ∧ Dz w w' := by
 have HR0 := Zz.mk hr0
 have HC0 := Zz.mk hc0
 clear hr0 hc0
 have H : (z77.l0 k 0 l0 (l0.length : Int) 0) = some r := h
 clear h
 have H' := Zz.mk H
 clear H
 go_enter Try.func77, Try.ntmps77
 go_wp2
 go_loopg [8] k (fun kq v8 w' => ∃ (x8_1 : Int), v8 = .int .i64 x8_1 ∧ Zz (z77.l0 kq 0 l0 (l0.length : Int) x8_1 = some r) ∧ Zz (kq ≤ k) ∧ Dz w w')
 case atStart => exact ⟨(0), E_, H', ⟨Nat.le_refl _⟩, by repeat (first | exact Dz.refl _ | apply Dz.step)⟩
 case round =>
  clear H'
  obtain ⟨x8_1, rfl, HA, HK1, ⟨m1, rfl⟩⟩ := hrel
  cases gk with
  | zero => exact absurd HA.out (by simp [z77.l0])
  | succ k1 =>
   have H := HA.out
   clear HA
   simp only [z77.l0] at H
   by_cases c2 : x8_1 < (l0.length : Int)
   ·rw [if_pos c2] at H
    have c2b0 : decide (x8_1 < (l0.length : Int)) = true := decide_eq_true c2
    clear c2
    have c3b0 := O3_ H
    replace H := O2_ H
    have c4b0 := O3_ H
    replace H := O2_ H
    by_cases c5 : (rd l0 x8_1) = 0
    ·rw [if_pos c5] at H
     have c5b0 : ((rd l0 x8_1) == 0) = true := beq_iff_eq.mpr c5
     have c5b1 : ((rd l0 x8_1) != 0) = false := bne_eq_false_iff_eq.mpr c5
     clear c5
     have H' := Zz.mk H
     clear H
     have p101 : 0 ≤ (x8_1 : Int) := D_
     have q101 : x8_1 < (l0.length : Int) := D_
     obtain ⟨ad101, e101, hx101_0⟩ := Kd.at_int HR0.out x8_1 p101 q101
     cases e101
     replace p101 := eq_true p101
     replace q101 := eq_true q101
     go_wp2
     go_roundg k1
     case measure => exact Q1_ HK1
     case rel => exact ⟨(wrap64 (x8_1 + 1)), E_, H', ⟨Q1_ HK1⟩, by repeat (first | exact Dz.refl _ | apply Dz.step)⟩
    rw [if_neg c5] at H
    have c5b0 : ((rd l0 x8_1) == 0) = false := beq_eq_false_iff_ne.mpr c5
    have c5b1 : ((rd l0 x8_1) != 0) = true := bne_iff_ne.mpr c5
    obtain rfl := OI_ H
    have p101 : 0 ≤ (x8_1 : Int) := D_
    have q101 : x8_1 < (l0.length : Int) := D_
    obtain ⟨ad101, e101, hx101_0⟩ := Kd.at_int HR0.out x8_1 p101 q101
    cases e101
    replace p101 := eq_true p101
    replace q101 := eq_true q101
    go_wp2
    go_ret
    exact eD_
   rw [if_neg c2] at H
   have c2b0 : decide (x8_1 < (l0.length : Int)) = false := decide_eq_false c2
   clear c2
   obtain rfl := OI_ H
   go_wp2
   go_ret
   exact eD_
def z101.f (a0 : Int) : Option (Bool) := some (a0 != a0)
theorem z101.calls (a0 : Int) (r : Bool) (w : World) (h : z101.f a0 = some r) :
  Calls Try.prog 101 #[.int .i64 a0] w fun e w' => e = .returned (.bool r) ∧ Dz w w' := by
 have H : (some (a0 != a0)) = some r := h
 clear h
 obtain rfl := OI_ H
 go_enter Try.func101, Try.ntmps101
 go_wp2
 go_ret
 exact eD_
def z94.f (a0 : Int) (a1 : Int) : Option (Int) := (z101.f a0).bind fun t101 => ((z101.f a1).bind fun t102 => (if t101 = true then (if t102 = true then (some 0) else (some (-1))) else (if t102 = true then (some 1) else (if a0 < a1 then (some (-1)) else (if a0 > a1 then (some 1) else (some 0))))))
theorem z94.calls (a0 : Int) (a1 : Int) (r : Int) (w : World) (h : z94.f a0 a1 = some r) :
  Calls Try.prog 94 #[.int .i64 a0, .int .i64 a1] w fun e w' => e = .returned (.int .i64 r) ∧ Dz w w' := by
 have H : ((z101.f a0).bind fun t101 => ((z101.f a1).bind fun t102 => (if t101 = true then (if t102 = true then (some 0) else (some (-1))) else (if t102 = true then (some 1) else (if a0 < a1 then (some (-1)) else (if a0 > a1 then (some 1) else (some 0))))))) = some r := h
 clear h
 replace H := OZ_ H
 obtain ⟨t101, A3, H⟩ := H
 replace H := OZ_ H
 obtain ⟨t102, A4, H⟩ := H
 by_cases c5 : t101 = true
 ·subst c5
  replace H := T_ H
  by_cases c6 : t102 = true
  ·subst c6
   replace H := T_ H
   obtain rfl := OI_ H
   go_enter Try.func94, Try.ntmps94
   go_wp2_with (first | ((with_reducible refine gC_ (f := 101) rfl ?_); refine GL_ (some 8) rfl rfl Try.func101 #[.int .i64 a0] rfl (h := ?_); (with_reducible refine (z101.calls a0 true _ A3.out).mono ?_); rintro e w' ⟨rfl, ⟨nd, rfl⟩⟩; refine ⟨_, rfl, ?_⟩) | ((with_reducible refine gC_ (f := 101) rfl ?_); refine GL_ (some 10) rfl rfl Try.func101 #[.int .i64 a1] rfl (h := ?_); (with_reducible refine (z101.calls a1 true _ A4.out).mono ?_); rintro e w' ⟨rfl, ⟨nd, rfl⟩⟩; refine ⟨_, rfl, ?_⟩))
   go_ret
   exact eD_
  replace c6 := Bool.eq_false_iff.mpr c6
  subst c6
  replace H := N_ H
  obtain rfl := OI_ H
  go_enter Try.func94, Try.ntmps94
  go_wp2_with (first | ((with_reducible refine gC_ (f := 101) rfl ?_); refine GL_ (some 8) rfl rfl Try.func101 #[.int .i64 a0] rfl (h := ?_); (with_reducible refine (z101.calls a0 true _ A3.out).mono ?_); rintro e w' ⟨rfl, ⟨nd, rfl⟩⟩; refine ⟨_, rfl, ?_⟩) | ((with_reducible refine gC_ (f := 101) rfl ?_); refine GL_ (some 10) rfl rfl Try.func101 #[.int .i64 a1] rfl (h := ?_); (with_reducible refine (z101.calls a1 false _ A4.out).mono ?_); rintro e w' ⟨rfl, ⟨nd, rfl⟩⟩; refine ⟨_, rfl, ?_⟩))
  go_ret
  exact eD_
 replace c5 := Bool.eq_false_iff.mpr c5
 subst c5
 replace H := N_ H
 by_cases c7 : t102 = true
 ·subst c7
  replace H := T_ H
  obtain rfl := OI_ H
  go_enter Try.func94, Try.ntmps94
  go_wp2_with (first | ((with_reducible refine gC_ (f := 101) rfl ?_); refine GL_ (some 8) rfl rfl Try.func101 #[.int .i64 a0] rfl (h := ?_); (with_reducible refine (z101.calls a0 false _ A3.out).mono ?_); rintro e w' ⟨rfl, ⟨nd, rfl⟩⟩; refine ⟨_, rfl, ?_⟩) | ((with_reducible refine gC_ (f := 101) rfl ?_); refine GL_ (some 10) rfl rfl Try.func101 #[.int .i64 a1] rfl (h := ?_); (with_reducible refine (z101.calls a1 true _ A4.out).mono ?_); rintro e w' ⟨rfl, ⟨nd, rfl⟩⟩; refine ⟨_, rfl, ?_⟩))
  go_ret
  exact eD_
 replace c7 := Bool.eq_false_iff.mpr c7
 subst c7
 replace H := N_ H
 by_cases c8 : a0 < a1
 ·rw [if_pos c8] at H
  have c8b0 : decide (a0 < a1) = true := decide_eq_true c8
  clear c8
  obtain rfl := OI_ H
  go_enter Try.func94, Try.ntmps94
  go_wp2_with (first | ((with_reducible refine gC_ (f := 101) rfl ?_); refine GL_ (some 8) rfl rfl Try.func101 #[.int .i64 a0] rfl (h := ?_); (with_reducible refine (z101.calls a0 false _ A3.out).mono ?_); rintro e w' ⟨rfl, ⟨nd, rfl⟩⟩; refine ⟨_, rfl, ?_⟩) | ((with_reducible refine gC_ (f := 101) rfl ?_); refine GL_ (some 10) rfl rfl Try.func101 #[.int .i64 a1] rfl (h := ?_); (with_reducible refine (z101.calls a1 false _ A4.out).mono ?_); rintro e w' ⟨rfl, ⟨nd, rfl⟩⟩; refine ⟨_, rfl, ?_⟩))
  go_ret
  exact eD_
 rw [if_neg c8] at H
 have c8b0 : decide (a0 < a1) = false := decide_eq_false c8
 clear c8
 by_cases c9 : a0 > a1
 ·rw [if_pos c9] at H
  have c9b0 : decide (a1 < a0) = true := decide_eq_true c9
  clear c9
  obtain rfl := OI_ H
  go_enter Try.func94, Try.ntmps94
  go_wp2_with (first | ((with_reducible refine gC_ (f := 101) rfl ?_); refine GL_ (some 8) rfl rfl Try.func101 #[.int .i64 a0] rfl (h := ?_); (with_reducible refine (z101.calls a0 false _ A3.out).mono ?_); rintro e w' ⟨rfl, ⟨nd, rfl⟩⟩; refine ⟨_, rfl, ?_⟩) | ((with_reducible refine gC_ (f := 101) rfl ?_); refine GL_ (some 10) rfl rfl Try.func101 #[.int .i64 a1] rfl (h := ?_); (with_reducible refine (z101.calls a1 false _ A4.out).mono ?_); rintro e w' ⟨rfl, ⟨nd, rfl⟩⟩; refine ⟨_, rfl, ?_⟩))
  go_ret
  exact eD_
 rw [if_neg c9] at H
 have c9b0 : decide (a1 < a0) = false := decide_eq_false c9
 clear c9
 obtain rfl := OI_ H
 go_enter Try.func94, Try.ntmps94
 go_wp2_with (first | ((with_reducible refine gC_ (f := 101) rfl ?_); refine GL_ (some 8) rfl rfl Try.func101 #[.int .i64 a0] rfl (h := ?_); (with_reducible refine (z101.calls a0 false _ A3.out).mono ?_); rintro e w' ⟨rfl, ⟨nd, rfl⟩⟩; refine ⟨_, rfl, ?_⟩) | ((with_reducible refine gC_ (f := 101) rfl ?_); refine GL_ (some 10) rfl rfl Try.func101 #[.int .i64 a1] rfl (h := ?_); (with_reducible refine (z101.calls a1 false _ A4.out).mono ?_); rintro e w' ⟨rfl, ⟨nd, rfl⟩⟩; refine ⟨_, rfl, ?_⟩))
 go_ret
 exact eD_
def z79.l0 : Nat → List Int → List Int → List Int → Int → Int → Option (Int)
 | 0, _, _, _, _, _ => none
 | k + 1, x0, x1, x9, x10, x11 => if x11 < x10 then (if 0 ≤ x11 then (if x11 < (x9.length : Int) then (if x11 ≥ (x1.length : Int) then (some 1) else (if x11 < (x1.length : Int) then ((z94.f (rd x9 x11) (rd x1 x11)).bind fun t103 => (if t103 = 0 then (z79.l0 k x0 x1 x9 x10 (wrap64 (x11 + 1))) else (some t103))) else (none))) else (none)) else (none)) else (if (x0.length : Int) < (x1.length : Int) then (some (-1)) else (some 0))
def z79.f (k : Nat) (l0 : List Int) (l1 : List Int) : Option (Int) := z79.l0 k l0 l1 l0 (l0.length : Int) 0
theorem z79.calls (k : Nat) (A0 : Option Addr) (c0 : Nat) (l0 : List Int) (A1 : Option Addr) (c1 : Nat) (l1 : List Int) (r : Int) (w : World) (hr0 : Kd.C (Kd.int .i64) w A0 l0.length l0) (hc0 : l0.length ≤ c0) (hr1 : Kd.C (Kd.int .i64) w A1 l1.length l1) (hc1 : l1.length ≤ c1) (h : z79.f k l0 l1 = some r) :
  Calls Try.prog 79 #[.slice A0 l0.length c0, .slice A1 l1.length c1] w fun e w' => e = .returned (.int .i64 r) ∧ Dz w w' := by
 have HR0 := Zz.mk hr0
 have HC0 := Zz.mk hc0
 clear hr0 hc0
 have HR1 := Zz.mk hr1
 have HC1 := Zz.mk hc1
 clear hr1 hc1
 have H : (z79.l0 k l0 l1 l0 (l0.length : Int) 0) = some r := h
 clear h
 have H' := Zz.mk H
 clear H
 go_enter Try.func79, Try.ntmps79
 go_wp2
 go_loopg [11] k (fun kq v11 w' => ∃ (x11_1 : Int), v11 = .int .i64 x11_1 ∧ Zz (z79.l0 kq l0 l1 l0 (l0.length : Int) x11_1 = some r) ∧ Zz (kq ≤ k) ∧ Dz w w')
 case atStart => exact ⟨(0), E_, H', ⟨Nat.le_refl _⟩, by repeat (first | exact Dz.refl _ | apply Dz.step)⟩
 case round =>
  clear H'
  (try clear c1)
  obtain ⟨x11_1, rfl, HA, HK1, ⟨m1, rfl⟩⟩ := hrel
  cases gk with
  | zero => exact absurd HA.out (by simp [z79.l0])
  | succ k1 =>
   have H := HA.out
   clear HA
   simp only [z79.l0] at H
   by_cases c3 : x11_1 < (l0.length : Int)
   ·rw [if_pos c3] at H
    have c3b0 : decide (x11_1 < (l0.length : Int)) = true := decide_eq_true c3
    clear c3
    have c4b0 := O3_ H
    replace H := O2_ H
    have c5b0 := O3_ H
    replace H := O2_ H
    by_cases c6 : x11_1 ≥ (l1.length : Int)
    ·rw [if_pos c6] at H
     have c6b0 : decide ((l1.length : Int) ≤ x11_1) = true := decide_eq_true c6
     clear c6
     obtain rfl := OI_ H
     have p101 : 0 ≤ (x11_1 : Int) := D_
     have q101 : x11_1 < (l0.length : Int) := D_
     obtain ⟨ad101, e101, hx101_0⟩ := Kd.at_int HR0.out x11_1 p101 q101
     cases e101
     replace p101 := eq_true p101
     replace q101 := eq_true q101
     go_wp2
     go_ret
     exact eD_
    rw [if_neg c6] at H
    have c6b0 : decide ((l1.length : Int) ≤ x11_1) = false := decide_eq_false c6
    clear c6
    have c7b0 := O3_ H
    replace H := O2_ H
    replace H := OZ_ H
    obtain ⟨t103, A8, H⟩ := H
    by_cases c9 : t103 = 0
    ·rw [if_pos c9] at H
     have c9b0 : (t103 == 0) = true := beq_iff_eq.mpr c9
     have c9b1 : (t103 != 0) = false := bne_eq_false_iff_eq.mpr c9
     clear c9
     have H' := Zz.mk H
     clear H
     have p101 : 0 ≤ (x11_1 : Int) := D_
     have q101 : x11_1 < (l0.length : Int) := D_
     obtain ⟨ad101, e101, hx101_0⟩ := Kd.at_int HR0.out x11_1 p101 q101
     cases e101
     replace p101 := eq_true p101
     replace q101 := eq_true q101
     have p102 : 0 ≤ (x11_1 : Int) := D_
     have q102 : x11_1 < (l1.length : Int) := D_
     obtain ⟨ad102, e102, hx102_0⟩ := Kd.at_int HR1.out x11_1 p102 q102
     cases e102
     replace p102 := eq_true p102
     replace q102 := eq_true q102
     go_wp2_with (first | ((with_reducible refine gC_ (f := 94) rfl ?_); refine GL_ (some 26) rfl rfl Try.func94 #[.int .i64 (rd l0 x11_1), .int .i64 (rd l1 x11_1)] rfl (h := ?_); (with_reducible refine (z94.calls (rd l0 x11_1) (rd l1 x11_1) t103 _ A8.out).mono ?_); rintro e w' ⟨rfl, ⟨nd, rfl⟩⟩; refine ⟨_, rfl, ?_⟩))
     go_roundg k1
     case measure => exact Q1_ HK1
     case rel => exact ⟨(wrap64 (x11_1 + 1)), E_, H', ⟨Q1_ HK1⟩, by repeat (first | exact Dz.refl _ | apply Dz.step)⟩
    rw [if_neg c9] at H
    have c9b0 : (t103 == 0) = false := beq_eq_false_iff_ne.mpr c9
    have c9b1 : (t103 != 0) = true := bne_iff_ne.mpr c9
    obtain rfl := OI_ H
    have p101 : 0 ≤ (x11_1 : Int) := D_
    have q101 : x11_1 < (l0.length : Int) := D_
    obtain ⟨ad101, e101, hx101_0⟩ := Kd.at_int HR0.out x11_1 p101 q101
    cases e101
    replace p101 := eq_true p101
    replace q101 := eq_true q101
    have p102 : 0 ≤ (x11_1 : Int) := D_
    have q102 : x11_1 < (l1.length : Int) := D_
    obtain ⟨ad102, e102, hx102_0⟩ := Kd.at_int HR1.out x11_1 p102 q102
    cases e102
    replace p102 := eq_true p102
    replace q102 := eq_true q102
    go_wp2_with (first | ((with_reducible refine gC_ (f := 94) rfl ?_); refine GL_ (some 26) rfl rfl Try.func94 #[.int .i64 (rd l0 x11_1), .int .i64 (rd l1 x11_1)] rfl (h := ?_); (with_reducible refine (z94.calls (rd l0 x11_1) (rd l1 x11_1) t103 _ A8.out).mono ?_); rintro e w' ⟨rfl, ⟨nd, rfl⟩⟩; refine ⟨_, rfl, ?_⟩))
    go_ret
    exact eD_
   rw [if_neg c3] at H
   have c3b0 : decide (x11_1 < (l0.length : Int)) = false := decide_eq_false c3
   clear c3
   by_cases c10 : (l0.length : Int) < (l1.length : Int)
   ·rw [if_pos c10] at H
    have c10b0 : decide ((l0.length : Int) < (l1.length : Int)) = true := decide_eq_true c10
    have c10b1 : decide (l0.length < l1.length) = true := decide_eq_true (Int.ofNat_lt.mp c10)
    clear c10
    obtain rfl := OI_ H
    go_wp2
    go_ret
    exact eD_
   rw [if_neg c10] at H
   have c10b0 : decide ((l0.length : Int) < (l1.length : Int)) = false := decide_eq_false c10
   have c10b1 : decide (l0.length < l1.length) = false := decide_eq_false (fun h => c10 (Int.ofNat_lt.mpr h))
   clear c10
   obtain rfl := OI_ H
   go_wp2
   go_ret
   exact eD_
def z52.f (k : Nat) (l0 : List Int) (l1 : List Int) : Option (Int) := (z78.f (l0.length : Int) (l1.length : Int)).bind fun t101 => ((z79.f k l0 l1).bind fun t102 => ((z77.f k (([t101, t102] : List Int))).bind fun t106 => (some t106)))
theorem z52.calls (k : Nat) (A0 : Option Addr) (c0 : Nat) (l0 : List Int) (A1 : Option Addr) (c1 : Nat) (l1 : List Int) (r : Int) (w : World) (hr0 : Kd.C (Kd.int .i64) w A0 l0.length l0) (hc0 : l0.length ≤ c0) (hr1 : Kd.C (Kd.int .i64) w A1 l1.length l1) (hc1 : l1.length ≤ c1) (h : z52.f k l0 l1 = some r) :
  Calls Try.prog 52 #[.slice A0 l0.length c0, .slice A1 l1.length c1] w fun e w' => e = .returned (.int .i64 r) ∧ Below w.heap.size w w' := by
 have HR0 := Zz.mk hr0
 have HC0 := Zz.mk hc0
 clear hr0 hc0
 have HR1 := Zz.mk hr1
 have HC1 := Zz.mk hc1
 clear hr1 hc1
 have HB := Zz.mk (Below.refl w.heap.size w)
 have H : ((z78.f (l0.length : Int) (l1.length : Int)).bind fun t101 => ((z79.f k l0 l1).bind fun t102 => ((z77.f k (([t101, t102] : List Int))).bind fun t106 => (some t106)))) = some r := h
 clear h
 replace H := OZ_ H
 obtain ⟨t101, A3, H⟩ := H
 replace H := OZ_ H
 obtain ⟨t102, A4, H⟩ := H
 obtain ⟨y103, hy103⟩ : ∃ y_ : List Int, y_ = (([t101, t102] : List Int)) := ⟨_, rfl⟩
 replace H : ((z77.f k y103).bind fun t106 => (some t106)) = some r := Y_ hy103 H
 have Ny103 := Zz.mk hy103
 clear hy103
 replace H := OZ_ H
 obtain ⟨t106, A5, H⟩ := H
 obtain rfl := OI_ H
 go_enter Try.func52, Try.ntmps52
 go_wp2_with (first | ((with_reducible refine gC_ (f := 78) rfl ?_); refine GL_ (some 9) rfl rfl Try.func78 #[.int .i64 (l0.length : Int), .int .i64 (l1.length : Int)] rfl (h := ?_); (with_reducible refine (z78.calls (l0.length : Int) (l1.length : Int) t101 _ A3.out).mono ?_); rintro e w' ⟨rfl, ⟨nd, rfl⟩⟩; refine ⟨_, rfl, ?_⟩) | ((with_reducible refine gC_ (f := 79) rfl ?_); refine GL_ (some 12) rfl rfl Try.func79 #[.slice A0 l0.length c0, .slice A1 l1.length c1] rfl (h := ?_); (with_reducible refine (z79.calls k _ _ l0 _ _ l1 t102 _ ?side1 ?side2 ?side3 ?side4 A4.out).mono ?_); (case side1 => exact KC_ HR0.out); (case side2 => exact HC0.out); (case side3 => exact KC_ HR1.out); (case side4 => exact HC1.out); rintro e w' ⟨rfl, ⟨nd, rfl⟩⟩; refine ⟨_, rfl, ?_⟩) | ((with_reducible refine qAm (N := 13) rfl ?_); refine Kd.R_lit (Kd.int .i64) _ 3 ?hg (N := 13) ?hd (xs := ([t101, t102] : List Int)) (inner := [.int .i64 t101, .int .i64 t102]) (ok := fun _ => True) (okp := fun _ => True) ?hr ?hp (fun _ hk => hk) trivial (Below.refl _ _) (Nat.le_refl _) (by simp) ?_; (case hd => rfl); (case hg => rfl); (case hr => first | (go_simp; done) | (go_simp; rfl)); (case hp => exact (Reps.one (show Kd.M (Kd.int .i64) _ _ _ t101 [.int .i64 t101] from rfl) (Reps.one (show Kd.M (Kd.int .i64) _ _ _ t102 [.int .i64 t102] from rfl) (Reps.none _ _)))); intro v104 w6 ho7 hb hg_ hnew_; clear hg_ hnew_; (first | rw [← Ny103.out] at ho7 | (simp only [Int.reduceToNat] at ho7; rw [← Ny103.out] at ho7)); have HO105 := Zz.mk (Kd.R_lower ho7 (bS_ (B_ HB.out))); replace HB := Zz.mk (bT_ (B_ HB.out) hb); clear hb ho7; obtain ⟨Ao8, co8, eo8⟩ := Kd.R_slice HO105.out; subst eo8) | ((with_reducible refine gC_ (f := 77) rfl ?_); refine GL_ (some 14) rfl rfl Try.func77 #[.slice Ao8 y103.length co8] rfl (h := ?_); (with_reducible refine (z77.calls k _ _ y103 t106 _ ?side1 ?side2 A5.out).mono ?_); (case side1 => exact KC_ (Kd.R_reads' HO105.out).2.2); (case side2 => exact (Kd.R_reads' HO105.out).2.1); rintro e w' ⟨rfl, ⟨nd, rfl⟩⟩; refine ⟨_, rfl, ?_⟩))
 go_ret
 exact ⟨F_, B_ HB.out⟩
end Go.Proofs.Ytpgjfppbbbnclaa.B
/- slices.Grow (of nil) of whole numbers: walked by hand. -/
set_option linter.unusedVariables false
set_option linter.unusedSimpArgs false
namespace Go.Proofs.Ytpgjfppbbbnclaa.B
open Go.RowKit Go.Proofs.YtpgjfppbbbnclaaW.PrintWords Go.Proofs.YtpgjfppbbbnclaaW.PrintLast Go.Proofs.YtpgjfppbbbnclaaW.PrintMore
def slices_Grow_int64_int64.f (l0 : List Int) (a1 : Int) : Option (List Int) := if (l0 = [] ∧ 0 ≤ a1) ∧ a1 ≤ 17592186044415 then some [] else none
theorem slices_Grow_int64_int64.calls (A0 : Option Addr) (c0 : Nat) (l0 : List Int) (a1 : Int) (r : List Int) (w : World) (hr0 : Kd.C (Kd.int .i64) w A0 l0.length l0) (hc0 : l0.length ≤ c0) (h : slices_Grow_int64_int64.f l0 a1 = some r) (hA : A0 = none := by rfl) (hC : c0 = 0 := by rfl) :
    Calls Try.prog 95 #[.slice A0 l0.length c0, .int .i64 a1] w fun e w' => ∃ v0_ : Value, e = .returned (v0_) ∧ Kd.R (Kd.int .i64) 2 w' w.heap.size (fun _ => True) v0_ r ∧ Below w.heap.size w w' := by
  unfold slices_Grow_int64_int64.f at h
  have hc := O1_ h
  obtain rfl := Option.some.inj (O2_ h)
  obtain ⟨⟨rfl, h0⟩, hm⟩ := hc
  subst hA; subst hC
  clear h hr0 hc0
  have hw3 : wrap64 a1 = a1 := by unfold wrap64; omega
  have d0 : decide (a1 < 0) = false := decide_eq_false (by omega)
  by_cases hz : a1 = 0
  · subst hz
    clear hw3
    go_enter Try.func95, Try.ntmps95
    go_wp2
    go_ret
    exact ⟨_, rfl, Kd.R_nil _ _ _ _ _, Below.refl _ _⟩
  have d1 : decide (0 < wrap64 a1) = true := decide_eq_true (by omega)
  have HM := Zz.mk (show wrap64 a1 ≤ 17592186044415 by omega)
  have H0 := Zz.mk (show 0 ≤ wrap64 a1 by omega)
  clear hz hm h0 hw3
  go_enter Try.func95, Try.ntmps95
  go_wp2_with ((with_reducible refine qAv (b := .append) (xs := #[.tmp 20, .tmp 21]) rfl ?_); at_builtin; refine Kd.R_append_zeros (Kd.int .i64) (w0 := w) w.heap.size rfl (.tmp 20) (.tmp 21) 26 3 2 (.int .i64 0) 8 rfl Try.underlying26 Try.underlying3 qB9 rfl (by decide) (by omega) (.slice none 0 0) ([] : List Int) 0 (wrap64 a1) (fun _ => True) rfl rfl rfl (fun _ _ => trivial) (Kd.R_nil _ _ _ _ _) H0.out (Below.refl _ _) (Nat.le_refl _) (by have := HM.out; have := H0.out; simp only [List.length_nil]; omega) ?_; intro v1 w1 ho hb hg hat; obtain ⟨A1, cc, rfl⟩ := Kd.R_slice ho; have HO := Zz.mk (Kd.R_take ho (Nat.zero_le _)); have HB := Zz.mk hb; clear ho hb hg hat)
  go_ret
  exact ⟨_, rfl, by simpa using HO.out, HB.out⟩
end Go.Proofs.Ytpgjfppbbbnclaa.B
namespace Go.Proofs.Ytpgjfppbbbnclaa.B
open Go.RowKit Go.Proofs.YtpgjfppbbbnclaaW.PrintWords Go.Proofs.YtpgjfppbbbnclaaW.PrintLast Go.Proofs.YtpgjfppbbbnclaaW.PrintMore
attribute [local go_sem] qAh qAf qAl qAk qAc qAb qAg qAe
set_option linter.unusedVariables false
set_option linter.unusedSimpArgs false
mutual
def z81.l0 : Nat → List (List Int) → Int → List (List Int) → Int → Int → Option (List Int)
 | 0, _, _, _, _, _ => none
 | k + 1, x0, x3, x9, x10, x11 => if x11 < x10 then (if 0 ≤ x11 then (if x11 < (x9.length : Int) then (if (wrap64 (x3 + ((rI_ x9 x11).length : Int))) < 0 then (none) else (z81.l0 k x0 (wrap64 (x3 + ((rI_ x9 x11).length : Int))) x9 x10 (wrap64 (x11 + 1)))) else (none)) else (none)) else ((slices_Grow_int64_int64.f ([] : List Int) x3).bind fun t102 => (z81.l1 k t102 x0 (x0.length : Int) 0))
def z81.l1 : Nat → List Int → List (List Int) → Int → Int → Option (List Int)
 | 0, _, _, _, _ => none
 | k + 1, x6, x25, x26, x27 => if x27 < x26 then (if 0 ≤ x27 then (if x27 < (x25.length : Int) then (if x6.length + (rI_ x25 x27).length < 17592186044416 then (z81.l1 k (x6 ++ (rI_ x25 x27)) x25 x26 (wrap64 (x27 + 1))) else (none)) else (none)) else (none)) else (some x6)
end
def z81.f (k : Nat) (l0 : List (List Int)) : Option (List Int) := z81.l0 k l0 0 l0 (l0.length : Int) 0
theorem z81.calls (k : Nat) (A0 : Option Addr) (c0 : Nat) (l0 : List (List Int)) (r : List Int) (w : World) (hr0 : Kd.C (Kd.slice 2 (Kd.int .i64)) w A0 l0.length l0) (hc0 : l0.length ≤ c0) (h : z81.f k l0 = some r) :
  Calls Try.prog 81 #[.slice A0 l0.length c0] w fun e w' => ∃ v0_ : Value, e = .returned (v0_) ∧ Kd.R (Kd.int .i64) 2 w' w.heap.size (fun _ => True) v0_ r ∧ Below w.heap.size w w' := by
 have HR0 := Zz.mk hr0
 have HC0 := Zz.mk hc0
 clear hr0 hc0
 have HB := Zz.mk (Below.refl w.heap.size w)
 have H : (z81.l0 k l0 0 l0 (l0.length : Int) 0) = some r := h
 clear h
 have H' := Zz.mk H
 clear H
 go_enter Try.func81, Try.ntmps81
 go_wp2
 go_loopg [3, 11] k (fun kq v3 v11 w' => ∃ (x3_1 : Int) (x11_1 : Int), v3 = .int .i64 x3_1 ∧ v11 = .int .i64 x11_1 ∧ Zz (z81.l0 kq l0 x3_1 l0 (l0.length : Int) x11_1 = some r) ∧ Zz (kq ≤ k) ∧ Zz (Below w.heap.size w w'))
 case atStart => exact ⟨(0), (0), E_, E_, H', ⟨Nat.le_refl _⟩, ⟨B_ HB.out⟩⟩
 case round =>
  clear H'
  obtain ⟨x3_1, x11_1, rfl, rfl, HA, HK1, HB⟩ := hrel
  cases gk with
  | zero => exact absurd HA.out (by simp [z81.l0])
  | succ k1 =>
   have H := HA.out
   clear HA
   simp only [z81.l0] at H
   by_cases c2 : x11_1 < (l0.length : Int)
   ·rw [if_pos c2] at H
    have c2b0 : decide (x11_1 < (l0.length : Int)) = true := decide_eq_true c2
    clear c2
    have c3b0 := O3_ H
    replace H := O2_ H
    have c4b0 := O3_ H
    replace H := O2_ H
    by_cases c5 : (wrap64 (x3_1 + ((rI_ l0 x11_1).length : Int))) < 0
    ·rw [if_pos c5] at H
     exact X_ H
    rw [if_neg c5] at H
    have c5b0 : decide ((wrap64 (x3_1 + ((rI_ l0 x11_1).length : Int))) < 0) = false := decide_eq_false c5
    clear c5
    have H' := Zz.mk H
    clear H
    have p101 : 0 ≤ (x11_1 : Int) := D_
    have q101 : x11_1 < (l0.length : Int) := D_
    obtain ⟨ad101, A101_0, c101_0, e101, hx101_0, hl101_0, hi101_0⟩ := qAp HR0.out x11_1 p101 q101
    cases e101
    replace hx101_0 := (HB.out.cell (World.block_lt_of_cell? w _ hx101_0)).trans hx101_0
    have HR101_0 := Zz.mk hi101_0
    have HC101_0 := Zz.mk hl101_0
    clear hi101_0 hl101_0
    replace p101 := eq_true p101
    replace q101 := eq_true q101
    go_wp2
    go_roundg k1
    case measure => exact Q1_ HK1
    case rel => exact ⟨(wrap64 (x3_1 + ((rI_ l0 x11_1).length : Int))), (wrap64 (x11_1 + 1)), E_, E_, H', ⟨Q1_ HK1⟩, ⟨B_ HB.out⟩⟩
   rw [if_neg c2] at H
   have c2b0 : decide (x11_1 < (l0.length : Int)) = false := decide_eq_false c2
   clear c2
   replace H := OZ_ H
   obtain ⟨t102, A6, H⟩ := H
   have H' := Zz.mk H
   clear H
   go_wp2_with (first | ((with_reducible refine gC_ (f := 95) rfl ?_); refine GL_ (some 24) rfl rfl Try.func95 #[.slice none 0 0, .int .i64 x3_1] rfl (h := ?_); (refine (slices_Grow_int64_int64.calls _ _ ([] : List Int) x3_1 t102 _ ?side1 ?side2 A6.out).mono ?_); (case side1 => exact Kd.C_nil _ _); (case side2 => exact Nat.le_refl _); rintro e w7 ⟨v103, rfl, ho0, hb⟩; refine ⟨_, rfl, ?_⟩; have HO104 := Zz.mk (Kd.R_lower ho0 (bS_ (B_ HB.out))); replace HB := Zz.mk (bT_ (B_ HB.out) hb); (try clear hb); (try clear ho0)))
   go_loopg [6, 27] k1 (fun kq v6 v27 w' => ∃ (x6_2 : List Int) (x27_2 : Int), v27 = .int .i64 x27_2 ∧ Zz (z81.l1 kq x6_2 l0 (l0.length : Int) x27_2 = some r) ∧ Zz (kq ≤ k1) ∧ Zz (Kd.R (Kd.int .i64) 2 w' w.heap.size (fun _ => True) v6 x6_2) ∧ Zz (Below w.heap.size w w'))
   case atStart => exact ⟨(t102), (0), E_, H', ⟨Nat.le_refl _⟩, ⟨KR_ HO104.out⟩, ⟨B_ HB.out⟩⟩
   case round =>
    clear H'
    (try clear c2);(try clear c2b0)
    obtain ⟨x6_2, x27_2, rfl, HA, HK2, HO_6, HB⟩ := hrel
    cases gk with
    | zero => exact absurd HA.out (by simp [z81.l1])
    | succ k2 =>
     have H := HA.out
     clear HA
     simp only [z81.l1] at H
     by_cases c8 : x27_2 < (l0.length : Int)
     ·rw [if_pos c8] at H
      have c8b0 : decide (x27_2 < (l0.length : Int)) = true := decide_eq_true c8
      clear c8
      have c9b0 := O3_ H
      replace H := O2_ H
      have c10b0 := O3_ H
      replace H := O2_ H
      have c11 := O1_ H
      replace H := O2_ H
      have LMc11 := Zz.mk c11
      clear c11
      obtain ⟨y106, hy106⟩ : ∃ y_ : List Int, y_ = (x6_2 ++ (rI_ l0 x27_2)) := ⟨_, rfl⟩
      replace H : (z81.l1 k2 y106 l0 (l0.length : Int) (wrap64 (x27_2 + 1))) = some r := Y_ hy106 H
      have Ny106 := Zz.mk hy106
      clear hy106
      have H' := Zz.mk H
      clear H
      have p105 : 0 ≤ (x27_2 : Int) := D_
      have q105 : x27_2 < (l0.length : Int) := D_
      obtain ⟨ad105, A105_0, c105_0, e105, hx105_0, hl105_0, hi105_0⟩ := qAp HR0.out x27_2 p105 q105
      cases e105
      replace hx105_0 := (HB.out.cell (World.block_lt_of_cell? w _ hx105_0)).trans hx105_0
      have HR105_0 := Zz.mk hi105_0
      have HC105_0 := Zz.mk hl105_0
      clear hi105_0 hl105_0
      replace p105 := eq_true p105
      replace q105 := eq_true q105
      go_wp2_with (first | ((with_reducible refine qAv (b := .append) (xs := #[.tmp 31, .tmp 32]) rfl ?_); at_builtin; refine Kd.R_append_rows (Kd.int .i64) (w0 := w) w.heap.size rfl (.tmp 31) (.tmp 32) 26 2 (.int .i64 0) 8 rfl Try.underlying26 qB9 rfl (by decide) (by omega) u6 x6_2 (rI_ l0 x27_2) _ _ _ (fun _ => True) (fun _ => False) rfl rfl ?aO ?aR (fun _ _ h => h) (fun _ h => h.elim) ?aF ?aB ?aS ?aL ?_; (case aR => exact KC_ (Kd.C_below HR105_0.out HB.out)); (case aB => exact (B_ HB.out)); (case aF => exact (fun _ _ => trivial)); (case aO => exact (KR_ HO_6.out)); (case aS => exact (bS_ (B_ HB.out))); (case aL => have := LMc11.out; omega); intro v107 w12 ho hb hg hat; rw [← Ny106.out] at ho; replace HB := Zz.mk (hb); have HO108 := Zz.mk (ho); clear HO_6; clear ho hb hg hat))
      go_roundg k2
      case measure => exact Q2_ HK1 HK2
      case rel => exact ⟨(y106), (wrap64 (x27_2 + 1)), E_, H', ⟨Q2_ HK1 HK2⟩, ⟨KR_ HO108.out⟩, ⟨B_ HB.out⟩⟩
     rw [if_neg c8] at H
     have c8b0 : decide (x27_2 < (l0.length : Int)) = false := decide_eq_false c8
     clear c8
     obtain rfl := OI_ H
     go_wp2
     go_ret
     exact ⟨_, F_, KR_ HO_6.out, B_ HB.out⟩
def z73.l0 : Nat → List Int → Int → Option (Bool)
 | 0, _, _ => none
 | k + 1, x0, x3 => if x3 < (x0.length : Int) then (if 0 ≤ (wrap64 (x3 - 1)) then (if (wrap64 (x3 - 1)) < (x0.length : Int) then (if 0 ≤ x3 then (if (rd x0 (wrap64 (x3 - 1))) ≥ (rd x0 x3) then (some false) else (z73.l0 k x0 (wrap64 (x3 + 1)))) else (none)) else (none)) else (none)) else (some true)
def z73.f (k : Nat) (l0 : List Int) : Option (Bool) := z73.l0 k l0 1
theorem z73.calls (k : Nat) (A0 : Option Addr) (c0 : Nat) (l0 : List Int) (r : Bool) (w : World) (hr0 : Kd.C (Kd.int .i64) w A0 l0.length l0) (hc0 : l0.length ≤ c0) (h : z73.f k l0 = some r) :
  Calls Try.prog 73 #[.slice A0 l0.length c0] w fun e w' => e = .returned (.bool r) ∧ Dz w w' := by
 have HR0 := Zz.mk hr0
 have HC0 := Zz.mk hc0
 clear hr0 hc0
 have H : (z73.l0 k l0 1) = some r := h
 clear h
 have H' := Zz.mk H
 clear H
 go_enter Try.func73, Try.ntmps73
 go_wp2
 repeat (go_quiet (fail); try go_wp2)
 go_loopg [3] k (fun kq v3 w' => ∃ (x3_1 : Int), v3 = .int .i64 x3_1 ∧ Zz (z73.l0 kq l0 x3_1 = some r) ∧ Zz (kq ≤ k) ∧ Dz w w')
 case atStart => exact ⟨(1), E_, H', ⟨Nat.le_refl _⟩, by repeat (first | exact Dz.refl _ | apply Dz.step)⟩
 case round =>
  clear H'
  obtain ⟨x3_1, rfl, HA, HK1, ⟨m1, rfl⟩⟩ := hrel
  cases gk with
  | zero => exact absurd HA.out (by simp [z73.l0])
  | succ k1 =>
   have H := HA.out
   clear HA
   simp only [z73.l0] at H
   by_cases c2 : x3_1 < (l0.length : Int)
   ·rw [if_pos c2] at H
    have c2b0 : decide (x3_1 < (l0.length : Int)) = true := decide_eq_true c2
    clear c2
    obtain ⟨ji3, hji3⟩ : ∃ j_ : Int, (wrap64 (x3_1 - 1)) = j_ := ⟨_, rfl⟩
    replace H : (if 0 ≤ (ji3) then (if (ji3) < (l0.length : Int) then (if 0 ≤ x3_1 then (if (rd l0 (ji3)) ≥ (rd l0 x3_1) then (some false) else (z73.l0 k1 l0 (wrap64 (x3_1 + 1)))) else (none)) else (none)) else (none)) = some r := by first | (rw [hji3] at H; exact H) | (simp only [hji3] at H ⊢; exact H)
    have hji3w : (IntKind.i64.wrap (x3_1 - 1)) = ji3 := (qA6 _).trans hji3
    have c4b0 := O3_ H
    replace H := O2_ H
    have c5b0 := O3_ H
    replace H := O2_ H
    have c6b0 := O3_ H
    replace H := O2_ H
    by_cases c7 : (rd l0 (ji3)) ≥ (rd l0 x3_1)
    ·rw [if_pos c7] at H
     have c7b0 : decide ((rd l0 x3_1) ≤ (rd l0 (ji3))) = true := decide_eq_true c7
     clear c7
     obtain rfl := OI_ H
     have p101 : 0 ≤ ((ji3) : Int) := D_
     have q101 : (ji3) < (l0.length : Int) := D_
     obtain ⟨ad101, e101, hx101_0⟩ := Kd.at_int HR0.out (ji3) p101 q101
     cases e101
     replace p101 := eq_true p101
     replace q101 := eq_true q101
     have p102 : 0 ≤ (x3_1 : Int) := D_
     have q102 : x3_1 < (l0.length : Int) := D_
     obtain ⟨ad102, e102, hx102_0⟩ := Kd.at_int HR0.out x3_1 p102 q102
     obtain rfl : ad101 = ad102 := (by injection e102)
     replace p102 := eq_true p102
     replace q102 := eq_true q102
     go_wp2
     repeat (go_quiet (fail); try go_wp2)
     go_ret
     exact ⟨by first | rfl | (simp; done) | (simp only [← hji3] <;> (first | rfl | simp)) | (simp [*]; done), by repeat (first | exact Dz.refl _ | apply Dz.step)⟩
    rw [if_neg c7] at H
    have c7b0 : decide ((rd l0 x3_1) ≤ (rd l0 (ji3))) = false := decide_eq_false c7
    clear c7
    have H' := Zz.mk H
    clear H
    have p101 : 0 ≤ ((ji3) : Int) := D_
    have q101 : (ji3) < (l0.length : Int) := D_
    obtain ⟨ad101, e101, hx101_0⟩ := Kd.at_int HR0.out (ji3) p101 q101
    cases e101
    replace p101 := eq_true p101
    replace q101 := eq_true q101
    have p102 : 0 ≤ (x3_1 : Int) := D_
    have q102 : x3_1 < (l0.length : Int) := D_
    obtain ⟨ad102, e102, hx102_0⟩ := Kd.at_int HR0.out x3_1 p102 q102
    obtain rfl : ad101 = ad102 := (by injection e102)
    replace p102 := eq_true p102
    replace q102 := eq_true q102
    go_wp2
    repeat (go_quiet (fail); try go_wp2)
    go_roundg k1
    case measure => exact Q1_ HK1
    case rel => exact ⟨(wrap64 (x3_1 + 1)), E_, H', ⟨Q1_ HK1⟩, by repeat (first | exact Dz.refl _ | apply Dz.step)⟩
   rw [if_neg c2] at H
   have c2b0 : decide (x3_1 < (l0.length : Int)) = false := decide_eq_false c2
   clear c2
   obtain rfl := OI_ H
   go_wp2
   repeat (go_quiet (fail); try go_wp2)
   go_ret
   exact eD_
def z76.f (a0 : Int) : Option (Bool) := (z57.f a0 0 9).bind fun t101 => (some t101)
theorem z76.calls (a0 : Int) (r : Bool) (w : World) (h : z76.f a0 = some r) :
  Calls Try.prog 76 #[.int .i64 a0] w fun e w' => e = .returned (.bool r) ∧ Dz w w' := by
 have H : ((z57.f a0 0 9).bind fun t101 => (some t101)) = some r := h
 clear h
 replace H := OZ_ H
 obtain ⟨t101, A2, H⟩ := H
 obtain rfl := OI_ H
 go_enter Try.func76, Try.ntmps76
 go_wp2_with (first | ((with_reducible refine gC_ (f := 57) rfl ?_); refine GL_ (some 4) rfl rfl Try.func57 #[.int .i64 a0, .int .i64 0, .int .i64 9] rfl (h := ?_); (with_reducible refine (z57.calls a0 0 9 t101 _ A2.out).mono ?_); rintro e w' ⟨rfl, ⟨nd, rfl⟩⟩; refine ⟨_, rfl, ?_⟩))
 go_ret
 exact eD_
def z75.f (a0 : Int) : Option (Bool) := (z76.f a0).bind fun t101 => (some (!t101))
theorem z75.calls (a0 : Int) (r : Bool) (w : World) (h : z75.f a0 = some r) :
  Calls Try.prog 75 #[.int .i64 a0] w fun e w' => e = .returned (.bool r) ∧ Dz w w' := by
 have H : ((z76.f a0).bind fun t101 => (some (!t101))) = some r := h
 clear h
 replace H := OZ_ H
 obtain ⟨t101, A2, H⟩ := H
 obtain rfl := OI_ H
 go_enter Try.func75, Try.ntmps75
 go_wp2_with (first | ((with_reducible refine gC_ (f := 76) rfl ?_); refine GL_ (some 4) rfl rfl Try.func76 #[.int .i64 a0] rfl (h := ?_); (with_reducible refine (z76.calls a0 t101 _ A2.out).mono ?_); rintro e w' ⟨rfl, ⟨nd, rfl⟩⟩; refine ⟨_, rfl, ?_⟩))
 go_ret
 exact eD_
def z122.l0 : Nat → List Int → Int → Int → Option (Int)
 | 0, _, _, _ => none
 | k + 1, x0, x7, x8 => if x8 < x7 then (if 0 ≤ x8 then (if x8 < (x0.length : Int) then ((z75.f (rd x0 x8)).bind fun t102 => (if t102 = true then (some x8) else (z122.l0 k x0 x7 (wrap64 (x8 + 1))))) else (none)) else (none)) else (some (-1))
def z122.f (k : Nat) (l0 : List Int)  : Option (Int) := z122.l0 k l0 (l0.length : Int) 0
theorem z122.calls (k : Nat) (A0 : Option Addr) (c0 : Nat) (l0 : List Int)  (r : Int) (w : World) (hr0 : Kd.C (Kd.int .i64) w A0 l0.length l0) (hc0 : l0.length ≤ c0) (h : z122.f k l0 = some r) :
  Calls Try.prog 92 #[.slice A0 l0.length c0, .func (.func 75) #[] #[]] w fun e w' => e = .returned (.int .i64 r) ∧ Below w.heap.size w w' := by
 have HR0 := Zz.mk hr0
 have HC0 := Zz.mk hc0
 clear hr0 hc0
 have HB := Zz.mk (Below.refl w.heap.size w)
 have H : (z122.l0 k l0 (l0.length : Int) 0) = some r := h
 clear h
 have H' := Zz.mk H
 clear H
 go_enter Try.func92, Try.ntmps92
 go_wp2
 go_loopg [8] k (fun kq v8 w' => ∃ (x8_1 : Int), v8 = .int .i64 x8_1 ∧ Zz (z122.l0 kq l0 (l0.length : Int) x8_1 = some r) ∧ Zz (kq ≤ k) ∧ Zz (Below w.heap.size w w'))
 case atStart => exact ⟨(0), E_, H', ⟨Nat.le_refl _⟩, ⟨B_ HB.out⟩⟩
 case round =>
  clear H'
  obtain ⟨x8_1, rfl, HA, HK1, HB⟩ := hrel
  cases gk with
  | zero => exact absurd HA.out (by simp [z122.l0])
  | succ k1 =>
   have H := HA.out
   clear HA
   simp only [z122.l0] at H
   by_cases c3 : x8_1 < (l0.length : Int)
   ·rw [if_pos c3] at H
    have c3b0 : decide (x8_1 < (l0.length : Int)) = true := decide_eq_true c3
    clear c3
    have c4b0 := O3_ H
    replace H := O2_ H
    have c5b0 := O3_ H
    replace H := O2_ H
    replace H := OZ_ H
    obtain ⟨t102, A6, H⟩ := H
    by_cases c7 : t102 = true
    ·subst c7
     replace H := T_ H
     obtain rfl := OI_ H
     have p101 : 0 ≤ (x8_1 : Int) := D_
     have q101 : x8_1 < (l0.length : Int) := D_
     obtain ⟨ad101, e101, hx101_0⟩ := Kd.at_int HR0.out x8_1 p101 q101
     cases e101
     replace hx101_0 := (HB.out.cell (World.block_lt_of_cell? w _ hx101_0)).trans hx101_0
     replace p101 := eq_true p101
     replace q101 := eq_true q101
     go_wp2_with (first | (go_at_call 75; (with_reducible refine (z75.calls (rd l0 x8_1) true _ A6.out).mono ?_); rintro e w' ⟨rfl, ⟨nd, rfl⟩⟩))
     go_ret
     exact ⟨F_, B_ HB.out⟩
    replace c7 := Bool.eq_false_iff.mpr c7
    subst c7
    replace H := N_ H
    have H' := Zz.mk H
    clear H
    have p101 : 0 ≤ (x8_1 : Int) := D_
    have q101 : x8_1 < (l0.length : Int) := D_
    obtain ⟨ad101, e101, hx101_0⟩ := Kd.at_int HR0.out x8_1 p101 q101
    cases e101
    replace hx101_0 := (HB.out.cell (World.block_lt_of_cell? w _ hx101_0)).trans hx101_0
    replace p101 := eq_true p101
    replace q101 := eq_true q101
    go_wp2_with (first | (go_at_call 75; (with_reducible refine (z75.calls (rd l0 x8_1) false _ A6.out).mono ?_); rintro e w' ⟨rfl, ⟨nd, rfl⟩⟩))
    go_roundg k1
    case measure => exact Q1_ HK1
    case rel => exact ⟨(wrap64 (x8_1 + 1)), E_, H', ⟨Q1_ HK1⟩, ⟨B_ HB.out⟩⟩
   rw [if_neg c3] at H
   have c3b0 : decide (x8_1 < (l0.length : Int)) = false := decide_eq_false c3
   clear c3
   obtain rfl := OI_ H
   go_wp2
   go_ret
   exact ⟨F_, B_ HB.out⟩
def z121.f (k : Nat) (l0 : List Int)  : Option (Bool) := (z122.f k l0).bind fun t101 => (some (decide (t101 ≥ 0)))
theorem z121.calls (k : Nat) (A0 : Option Addr) (c0 : Nat) (l0 : List Int)  (r : Bool) (w : World) (hr0 : Kd.C (Kd.int .i64) w A0 l0.length l0) (hc0 : l0.length ≤ c0) (h : z121.f k l0 = some r) :
  Calls Try.prog 74 #[.slice A0 l0.length c0, .func (.func 75) #[] #[]] w fun e w' => e = .returned (.bool r) ∧ Below w.heap.size w w' := by
 have HR0 := Zz.mk hr0
 have HC0 := Zz.mk hc0
 clear hr0 hc0
 have HB := Zz.mk (Below.refl w.heap.size w)
 have H : ((z122.f k l0).bind fun t101 => (some (decide (t101 ≥ 0)))) = some r := h
 clear h
 replace H := OZ_ H
 obtain ⟨t101, A3, H⟩ := H
 obtain rfl := OI_ H
 go_enter Try.func74, Try.ntmps74
 go_wp2_with (first | ((with_reducible refine gC_ (f := 92) rfl ?_); refine GL_ (some 7) rfl rfl Try.func92 #[.slice A0 l0.length c0, .func (.func 75) #[] #[]] rfl (h := ?_); (with_reducible refine (z122.calls k _ _ l0  t101 _ ?side1 ?side2 A3.out).mono ?_); (case side1 => exact KC_ HR0.out); (case side2 => exact HC0.out); rintro e w4 ⟨rfl, hb⟩; refine ⟨_, rfl, ?_⟩; replace HB := Zz.mk (bT_ (B_ HB.out) hb); (try clear hb)))
 go_ret
 exact ⟨F_, B_ HB.out⟩
def z51.f (k : Nat) (l0 : List Int) : Option (Bool) := if (l0.length : Int) ≥ 1 then (if (l0.length : Int) ≤ 4 then ((z73.f k l0).bind fun t101 => (if t101 = true then ((z121.f k l0).bind fun t102 => (some (!t102))) else (some false))) else (some false)) else (some false)
theorem z51.calls (k : Nat) (A0 : Option Addr) (c0 : Nat) (l0 : List Int) (r : Bool) (w : World) (hr0 : Kd.C (Kd.int .i64) w A0 l0.length l0) (hc0 : l0.length ≤ c0) (h : z51.f k l0 = some r) :
  Calls Try.prog 51 #[.slice A0 l0.length c0] w fun e w' => e = .returned (.bool r) ∧ Below w.heap.size w w' := by
 have HR0 := Zz.mk hr0
 have HC0 := Zz.mk hc0
 clear hr0 hc0
 have HB := Zz.mk (Below.refl w.heap.size w)
 have H : (if (l0.length : Int) ≥ 1 then (if (l0.length : Int) ≤ 4 then ((z73.f k l0).bind fun t101 => (if t101 = true then ((z121.f k l0).bind fun t102 => (some (!t102))) else (some false))) else (some false)) else (some false)) = some r := h
 clear h
 by_cases c2 : (l0.length : Int) ≥ 1
 ·rw [if_pos c2] at H
  have c2b0 : decide (1 ≤ (l0.length : Int)) = true := decide_eq_true c2
  have c2b1 : decide (1 ≤ l0.length) = true := decide_eq_true (by omega)
  clear c2
  by_cases c3 : (l0.length : Int) ≤ 4
  ·rw [if_pos c3] at H
   have c3b0 : decide ((l0.length : Int) ≤ 4) = true := decide_eq_true c3
   have c3b1 : decide (l0.length ≤ 4) = true := decide_eq_true (by omega)
   clear c3
   replace H := OZ_ H
   obtain ⟨t101, A4, H⟩ := H
   by_cases c5 : t101 = true
   ·subst c5
    replace H := T_ H
    replace H := OZ_ H
    obtain ⟨t102, A6, H⟩ := H
    obtain rfl := OI_ H
    go_enter Try.func51, Try.ntmps51
    go_wp2_with (first | (go_at_call 73; (with_reducible refine (z73.calls k _ _ l0 true _ ?side1 ?side2 A4.out).mono ?_); (case side1 => exact KC_ HR0.out); (case side2 => exact HC0.out); rintro e w' ⟨rfl, ⟨nd, rfl⟩⟩) | (go_at_call 74; (with_reducible refine (z121.calls k _ _ l0  t102 _ ?side1 ?side2 A6.out).mono ?_); (case side1 => exact KC_ HR0.out); (case side2 => exact HC0.out); rintro e w7 ⟨rfl, hb⟩; replace HB := Zz.mk (bT_ (B_ HB.out) hb); (try clear hb)))
    go_ret
    exact ⟨F_, B_ HB.out⟩
   replace c5 := Bool.eq_false_iff.mpr c5
   subst c5
   replace H := N_ H
   obtain rfl := OI_ H
   go_enter Try.func51, Try.ntmps51
   go_wp2_with (first | (go_at_call 73; (with_reducible refine (z73.calls k _ _ l0 false _ ?side1 ?side2 A4.out).mono ?_); (case side1 => exact KC_ HR0.out); (case side2 => exact HC0.out); rintro e w' ⟨rfl, ⟨nd, rfl⟩⟩))
   go_ret
   exact ⟨F_, B_ HB.out⟩
  rw [if_neg c3] at H
  have c3b0 : decide ((l0.length : Int) ≤ 4) = false := decide_eq_false c3
  have c3b1 : decide (l0.length ≤ 4) = false := decide_eq_false (by omega)
  clear c3
  obtain rfl := OI_ H
  go_enter Try.func51, Try.ntmps51
  go_wp2
  go_ret
  exact ⟨F_, B_ HB.out⟩
 rw [if_neg c2] at H
 have c2b0 : decide (1 ≤ (l0.length : Int)) = false := decide_eq_false c2
 have c2b1 : decide (1 ≤ l0.length) = false := decide_eq_false (by omega)
 clear c2
 obtain rfl := OI_ H
 go_enter Try.func51, Try.ntmps51
 go_wp2
 go_ret
 exact ⟨F_, B_ HB.out⟩
def z123.l0 : Nat → List (List Int) → List Int → Int → Int → Int → Option (Int × Bool)
 | 0, _, _, _, _, _ => none
 | k + 1, x0, x1, x8, x9, x10 => if x9 < x10 then (if 0 ≤ (wrap64 ((IntKind.u64.wrap (wrap64 (x9 + x10))) / 2)) then (if (wrap64 ((IntKind.u64.wrap (wrap64 (x9 + x10))) / 2)) < (x0.length : Int) then ((z52.f k (rI_ x0 (wrap64 ((IntKind.u64.wrap (wrap64 (x9 + x10))) / 2))) x1).bind fun t102 => (if t102 < 0 then (z123.l0 k x0 x1 x8 (wrap64 ((wrap64 ((IntKind.u64.wrap (wrap64 (x9 + x10))) / 2)) + 1)) x10) else (z123.l0 k x0 x1 x8 x9 (wrap64 ((IntKind.u64.wrap (wrap64 (x9 + x10))) / 2))))) else (none)) else (none)) else (if x9 < x8 then (if 0 ≤ x9 then (if x9 < (x0.length : Int) then ((z52.f k (rI_ x0 x9) x1).bind fun t104 => (some (x9, (t104 == 0)))) else (none)) else (none)) else (some (x9, false)))
def z123.f (k : Nat) (l0 : List (List Int)) (l1 : List Int)  : Option (Int × Bool) := z123.l0 k l0 l1 (l0.length : Int) 0 (l0.length : Int)
theorem z123.calls (k : Nat) (A0 : Option Addr) (c0 : Nat) (l0 : List (List Int)) (A1 : Option Addr) (c1 : Nat) (l1 : List Int)  (r1 : Int) (r2 : Bool) (w : World) (hr0 : Kd.C (Kd.slice 2 (Kd.int .i64)) w A0 l0.length l0) (hc0 : l0.length ≤ c0) (hr1 : Kd.C (Kd.int .i64) w A1 l1.length l1) (hc1 : l1.length ≤ c1) (h : z123.f k l0 l1 = some (r1, r2)) :
  Calls Try.prog 82 #[.slice A0 l0.length c0, .slice A1 l1.length c1, .func (.func 52) #[] #[]] w fun e w' => e = .returned (.tuple #[.int .i64 r1, .bool r2]) ∧ Below w.heap.size w w' := by
 have HR0 := Zz.mk hr0
 have HC0 := Zz.mk hc0
 clear hr0 hc0
 have HR1 := Zz.mk hr1
 have HC1 := Zz.mk hc1
 clear hr1 hc1
 have HB := Zz.mk (Below.refl w.heap.size w)
 have H : (z123.l0 k l0 l1 (l0.length : Int) 0 (l0.length : Int)) = some (r1, r2) := h
 clear h
 have H' := Zz.mk H
 clear H
 go_enter Try.func82, Try.ntmps82
 go_wp2
 go_loopg [9, 10] k (fun kq v9 v10 w' => ∃ (x9_1 : Int) (x10_1 : Int), v9 = .int .i64 x9_1 ∧ v10 = .int .i64 x10_1 ∧ Zz (z123.l0 kq l0 l1 (l0.length : Int) x9_1 x10_1 = some (r1, r2)) ∧ Zz (kq ≤ k) ∧ Zz (Below w.heap.size w w'))
 case atStart => exact ⟨(0), ((l0.length : Int)), E_, E_, H', ⟨Nat.le_refl _⟩, ⟨B_ HB.out⟩⟩
 case round =>
  clear H'
  (try clear c1)
  obtain ⟨x9_1, x10_1, rfl, rfl, HA, HK1, HB⟩ := hrel
  cases gk with
  | zero => exact absurd HA.out (by simp [z123.l0])
  | succ k1 =>
   have H := HA.out
   clear HA
   simp only [z123.l0] at H
   by_cases c4 : x9_1 < x10_1
   ·rw [if_pos c4] at H
    have c4b0 : decide (x9_1 < x10_1) = true := decide_eq_true c4
    clear c4
    obtain ⟨ji5, hji5⟩ : ∃ j_ : Int, (wrap64 ((IntKind.u64.wrap (wrap64 (x9_1 + x10_1))) / 2)) = j_ := ⟨_, rfl⟩
    replace H : (if 0 ≤ (ji5) then (if (ji5) < (l0.length : Int) then ((z52.f k1 (rI_ l0 (ji5)) l1).bind fun t102 => (if t102 < 0 then (z123.l0 k1 l0 l1 (l0.length : Int) (wrap64 ((ji5) + 1)) x10_1) else (z123.l0 k1 l0 l1 (l0.length : Int) x9_1 ji5))) else (none)) else (none)) = some (r1, r2) := by first | (rw [hji5] at H; exact H) | (simp only [hji5] at H ⊢; exact H)
    have hji5w : (IntKind.i64.wrap ((IntKind.u64.wrap (wrap64 (x9_1 + x10_1))) / 2)) = ji5 := (qA6 _).trans hji5
    have c6b0 := O3_ H
    replace H := O2_ H
    have c7b0 := O3_ H
    replace H := O2_ H
    replace H := OB_ H
    obtain ⟨t102, A80, H⟩ := H
    replace H : (if t102 < 0 then (z123.l0 k1 l0 l1 (l0.length : Int) (wrap64 ((ji5) + 1)) x10_1) else (z123.l0 k1 l0 l1 (l0.length : Int) x9_1 ji5)) = some (r1, r2) := H
    have A8 := Zz.mk A80
    clear A80
    by_cases c9 : t102 < 0
    ·rw [if_pos c9] at H
     have c9b0 : decide (t102 < 0) = true := decide_eq_true c9
     clear c9
     have H' := Zz.mk H
     clear H
     have p101 : 0 ≤ ((ji5) : Int) := D_
     have q101 : (ji5) < (l0.length : Int) := D_
     obtain ⟨ad101, A101_0, c101_0, e101, hx101_0, hl101_0, hi101_0⟩ := qAp HR0.out (ji5) p101 q101
     cases e101
     replace hx101_0 := (HB.out.cell (World.block_lt_of_cell? w _ hx101_0)).trans hx101_0
     have HR101_0 := Zz.mk hi101_0
     have HC101_0 := Zz.mk hl101_0
     clear hi101_0 hl101_0
     replace p101 := eq_true p101
     replace q101 := eq_true q101
     go_wp2_with (first | (go_at_call 52; (with_reducible refine (z52.calls k1 _ _ (rI_ l0 (ji5)) _ _ l1 t102 _ ?side1 ?side2 ?side3 ?side4 A8.out).mono ?_); (case side1 => exact KC_ (Kd.C_below HR101_0.out HB.out)); (case side2 => exact HC101_0.out); (case side3 => exact KC_ (Kd.C_below HR1.out HB.out)); (case side4 => exact HC1.out); rintro e w10 ⟨rfl, hb⟩; replace HB := Zz.mk (bT_ (B_ HB.out) hb); (try clear hb)))
     go_roundg k1
     case measure => exact Q1_ HK1
     case rel => exact ⟨(wrap64 ((ji5) + 1)), (x10_1), (by first | rfl | (simp; done) | (simp only [← hji5] <;> (first | rfl | simp)) | (simp [*]; done)), E_, H', ⟨Q1_ HK1⟩, ⟨B_ HB.out⟩⟩
    rw [if_neg c9] at H
    have c9b0 : decide (t102 < 0) = false := decide_eq_false c9
    clear c9
    have H' := Zz.mk H
    clear H
    have p101 : 0 ≤ ((ji5) : Int) := D_
    have q101 : (ji5) < (l0.length : Int) := D_
    obtain ⟨ad101, A101_0, c101_0, e101, hx101_0, hl101_0, hi101_0⟩ := qAp HR0.out (ji5) p101 q101
    cases e101
    replace hx101_0 := (HB.out.cell (World.block_lt_of_cell? w _ hx101_0)).trans hx101_0
    have HR101_0 := Zz.mk hi101_0
    have HC101_0 := Zz.mk hl101_0
    clear hi101_0 hl101_0
    replace p101 := eq_true p101
    replace q101 := eq_true q101
    go_wp2_with (first | (go_at_call 52; (with_reducible refine (z52.calls k1 _ _ (rI_ l0 (ji5)) _ _ l1 t102 _ ?side1 ?side2 ?side3 ?side4 A8.out).mono ?_); (case side1 => exact KC_ (Kd.C_below HR101_0.out HB.out)); (case side2 => exact HC101_0.out); (case side3 => exact KC_ (Kd.C_below HR1.out HB.out)); (case side4 => exact HC1.out); rintro e w11 ⟨rfl, hb⟩; replace HB := Zz.mk (bT_ (B_ HB.out) hb); (try clear hb)))
    go_roundg k1
    case measure => exact Q1_ HK1
    case rel => exact ⟨(x9_1), (ji5), E_, (by first | rfl | (simp; done) | (simp only [← hji5] <;> (first | rfl | simp)) | (simp [*]; done)), H', ⟨Q1_ HK1⟩, ⟨B_ HB.out⟩⟩
   rw [if_neg c4] at H
   have c4b0 : decide (x9_1 < x10_1) = false := decide_eq_false c4
   clear c4
   by_cases c12 : x9_1 < (l0.length : Int)
   ·rw [if_pos c12] at H
    have c12b0 : decide (x9_1 < (l0.length : Int)) = true := decide_eq_true c12
    clear c12
    have c13b0 := O3_ H
    replace H := O2_ H
    have c14b0 := O3_ H
    replace H := O2_ H
    replace H := OB_ H
    obtain ⟨t104, A150, H⟩ := H
    replace H : (some (x9_1, (t104 == 0))) = some (r1, r2) := H
    have A15 := Zz.mk A150
    clear A150
    simp only [Option.some.injEq, Prod.mk.injEq] at H
    obtain ⟨rfl, rfl⟩ := H
    have p103 : 0 ≤ (x9_1 : Int) := D_
    have q103 : x9_1 < (l0.length : Int) := D_
    obtain ⟨ad103, A103_0, c103_0, e103, hx103_0, hl103_0, hi103_0⟩ := qAp HR0.out x9_1 p103 q103
    cases e103
    replace hx103_0 := (HB.out.cell (World.block_lt_of_cell? w _ hx103_0)).trans hx103_0
    have HR103_0 := Zz.mk hi103_0
    have HC103_0 := Zz.mk hl103_0
    clear hi103_0 hl103_0
    replace p103 := eq_true p103
    replace q103 := eq_true q103
    go_wp2_with (first | (go_at_call 52; (with_reducible refine (z52.calls k1 _ _ (rI_ l0 x9_1) _ _ l1 t104 _ ?side1 ?side2 ?side3 ?side4 A15.out).mono ?_); (case side1 => exact KC_ (Kd.C_below HR103_0.out HB.out)); (case side2 => exact HC103_0.out); (case side3 => exact KC_ (Kd.C_below HR1.out HB.out)); (case side4 => exact HC1.out); rintro e w16 ⟨rfl, hb⟩; replace HB := Zz.mk (bT_ (B_ HB.out) hb); (try clear hb)))
    go_ret2
    exact ⟨F_, B_ HB.out⟩
   rw [if_neg c12] at H
   have c12b0 : decide (x9_1 < (l0.length : Int)) = false := decide_eq_false c12
   clear c12
   simp only [Option.some.injEq, Prod.mk.injEq] at H
   obtain ⟨rfl, rfl⟩ := H
   go_wp2
   go_ret2
   exact ⟨F_, B_ HB.out⟩
def z56.f (k : Nat) (l0_0 : List (List Int)) (l1 : List Int) : Option (Int) := (z123.f k l0_0 l1).bind fun bt102 => (if bt102.2 = true then (some bt102.1) else (some (-1)))
theorem z56.calls (k : Nat) (A0_0 : Option Addr) (c0_0 : Nat) (l0_0 : List (List Int)) (A1 : Option Addr) (c1 : Nat) (l1 : List Int) (r : Int) (w : World) (hr0_0 : Kd.C (Kd.slice 2 (Kd.int .i64)) w A0_0 l0_0.length l0_0) (hc0_0 : l0_0.length ≤ c0_0) (hr1 : Kd.C (Kd.int .i64) w A1 l1.length l1) (hc1 : l1.length ≤ c1) (h : z56.f k l0_0 l1 = some r) :
  Calls Try.prog 56 #[.agg #[.slice A0_0 l0_0.length c0_0], .slice A1 l1.length c1] w fun e w' => e = .returned (.int .i64 r) ∧ Below w.heap.size w w' := by
 have hu29 := Try.underlying29
 have HR0_0 := Zz.mk hr0_0
 have HC0_0 := Zz.mk hc0_0
 clear hr0_0 hc0_0
 have HR1 := Zz.mk hr1
 have HC1 := Zz.mk hc1
 clear hr1 hc1
 have HB := Zz.mk (Below.refl w.heap.size w)
 have H : ((z123.f k l0_0 l1).bind fun bt102 => (if bt102.2 = true then (some bt102.1) else (some (-1)))) = some r := h
 clear h
 replace H := OB_ H
 obtain ⟨⟨t102, t103⟩, A30, H⟩ := H
 try dsimp only at H
 have A3 := Zz.mk A30
 clear A30
 by_cases c4 : t103 = true
 ·subst c4
  replace H := T_ H
  obtain rfl := OI_ H
  go_enter Try.func56, Try.ntmps56
  go_wp2_with (first | ((with_reducible refine qAm (N := 2) rfl ?_); refine bx_ 2 #[.slice A0_0 l0_0.length c0_0] 29 ?_; intro gb101 hg w5 hbox hb; have BK101 := Zz.mk (hbox); have GW101 := Zz.mk ((gw_ hg (B_ HB.out))); have GE101 := GW101; replace HB := Zz.mk (bT_ (B_ HB.out) hb); clear hb hbox hg; obtain ⟨hcz6_0, hfz6_0⟩ := Z1f_ BK101.out) | ((with_reducible refine gC_ (f := 82) rfl ?_); refine GL_ (some 11) rfl rfl Try.func82 #[.slice A0_0 l0_0.length c0_0, .slice A1 l1.length c1, .func (.func 52) #[] #[]] rfl (h := ?_); (with_reducible refine (z123.calls k _ _ l0_0 _ _ l1  t102 true _ ?side1 ?side2 ?side3 ?side4 A3.out).mono ?_); (case side1 => exact KC_ (Kd.C_below HR0_0.out HB.out)); (case side2 => exact HC0_0.out); (case side3 => exact KC_ (Kd.C_below HR1.out HB.out)); (case side4 => exact HC1.out); rintro e w7 ⟨rfl, hb⟩; refine ⟨_, rfl, ?_⟩; replace BK101 := Zz.mk (kb_ BK101.out hb); replace HB := Zz.mk (bT_ (B1_ HB.out GE101.out) hb); (try clear hb)))
  go_ret
  exact ⟨F_, B1_ HB.out GE101.out⟩
 replace c4 := Bool.eq_false_iff.mpr c4
 subst c4
 replace H := N_ H
 obtain rfl := OI_ H
 go_enter Try.func56, Try.ntmps56
 go_wp2_with (first | ((with_reducible refine qAm (N := 2) rfl ?_); refine bx_ 2 #[.slice A0_0 l0_0.length c0_0] 29 ?_; intro gb101 hg w8 hbox hb; have BK101 := Zz.mk (hbox); have GW101 := Zz.mk ((gw_ hg (B_ HB.out))); have GE101 := GW101; replace HB := Zz.mk (bT_ (B_ HB.out) hb); clear hb hbox hg; obtain ⟨hcz9_0, hfz9_0⟩ := Z1f_ BK101.out) | ((with_reducible refine gC_ (f := 82) rfl ?_); refine GL_ (some 11) rfl rfl Try.func82 #[.slice A0_0 l0_0.length c0_0, .slice A1 l1.length c1, .func (.func 52) #[] #[]] rfl (h := ?_); (with_reducible refine (z123.calls k _ _ l0_0 _ _ l1  t102 false _ ?side1 ?side2 ?side3 ?side4 A3.out).mono ?_); (case side1 => exact KC_ (Kd.C_below HR0_0.out HB.out)); (case side2 => exact HC0_0.out); (case side3 => exact KC_ (Kd.C_below HR1.out HB.out)); (case side4 => exact HC1.out); rintro e w10 ⟨rfl, hb⟩; refine ⟨_, rfl, ?_⟩; replace BK101 := Zz.mk (kb_ BK101.out hb); replace HB := Zz.mk (bT_ (B1_ HB.out GE101.out) hb); (try clear hb)))
 go_ret
 exact ⟨F_, B1_ HB.out GE101.out⟩
def z55.f (k : Nat) (l0 : List Int) (l1_0 : List (List Int)) (a2_0 : Int) : Option (Bool) := if 0 ≤ a2_0 then (if a2_0 ≤ (l1_0.length : Int) then ((z56.f k (l1_0.take (a2_0 : Int).toNat) l0).bind fun t105 => (some (decide (t105 < 0)))) else (none)) else (none)
theorem z55.calls (k : Nat) (A0 : Option Addr) (c0 : Nat) (l0 : List Int) (gp1 : Nat) (A1_0 : Option Addr) (c1_0 : Nat) (l1_0 : List (List Int)) (gp2 : Nat) (a2_0 : Int) (r : Bool) (w : World) (hbp1 : w.heap[gp1]? = some (.cells #[.slice A1_0 l1_0.length c1_0] 29 (0, 0))) (hbp2 : w.heap[gp2]? = some (.cells #[.int .i64 a2_0] 3 (0, 0))) (hr0 : Kd.C (Kd.int .i64) w A0 l0.length l0) (hc0 : l0.length ≤ c0) (hr1_0 : Kd.C (Kd.slice 2 (Kd.int .i64)) w A1_0 l1_0.length l1_0) (hc1_0 : l1_0.length ≤ c1_0) (h : z55.f k l0 l1_0 a2_0 = some r) :
  Calls Try.prog 55 #[.slice A0 l0.length c0, .pointer (some ⟨gp1, 0, none⟩), .pointer (some ⟨gp2, 0, none⟩)] w fun e w' => e = .returned (.bool r) ∧ Below w.heap.size w w' := by
 have hu29 := Try.underlying29
 have HR0 := Zz.mk hr0
 have HC0 := Zz.mk hc0
 clear hr0 hc0
 have HR1_0 := Zz.mk hr1_0
 have HC1_0 := Zz.mk hc1_0
 clear hr1_0 hc1_0
 have BK51 := Zz.mk hbp1
 clear hbp1
 have BK52 := Zz.mk hbp2
 clear hbp2
 have HB := Zz.mk (Below.refl w.heap.size w)
 have H : (if 0 ≤ a2_0 then (if a2_0 ≤ (l1_0.length : Int) then ((z56.f k (l1_0.take (a2_0 : Int).toNat) l0).bind fun t105 => (some (decide (t105 < 0)))) else (none)) else (none)) = some r := h
 clear h
 have c4 := O1_ H
 replace H := O2_ H
 have c4b0 := eq_true c4
 have c4b1 : decide (0 ≤ a2_0) = true := decide_eq_true c4
 clear c4
 have c5 := O1_ H
 replace H := O2_ H
 have c5b0 := eq_true c5
 have c5b1 : decide (a2_0 ≤ (l1_0.length : Int)) = true := decide_eq_true c5
 clear c5
 obtain ⟨y101, hy101⟩ : ∃ y_ : List (List Int), y_ = (l1_0.take (a2_0 : Int).toNat) := ⟨_, rfl⟩
 replace H : ((z56.f k y101 l0).bind fun t105 => (some (decide (t105 < 0)))) = some r := Y_ hy101 H
 have Ny101 := Zz.mk hy101
 clear hy101
 replace H := OZ_ H
 obtain ⟨t105, A6, H⟩ := H
 obtain rfl := OI_ H
 obtain ⟨hcz7_0, hfz7_0⟩ := Z1f_ BK51.out
 obtain ⟨hcz8_0, hfz8_0⟩ := Z1f_ BK52.out
 have q9 : (a2_0 : Int) ≤ ((l1_0.length : Int) : Int) := D_
 obtain ⟨i09, hi09, _, hsz9, _⟩ := info_parts qDm
 have hroom9 : l1_0.length ≤ c1_0 := HC1_0.out
 have hC9 : Kd.C (Kd.slice 2 (Kd.int .i64)) _ A1_0 l1_0.length l1_0 := HR1_0.out
 have hcut9 := qMk (P := Try.prog) 22 26 .i64 Try.underlying22 hi09 A1_0 l1_0.length c1_0 a2_0 (D_) q9 hroom9
 have hr9 := Kd.C_take (m := (a2_0 : Int).toNat) hC9 (by omega)
 have hy9 : y101.length = (a2_0 : Int).toNat := (by rw [Ny101.out, List.length_take]; omega)
 rw [← Ny101.out] at hr9
 rw [← hy9] at hcut9
 have HR104 := Zz.mk hr9
 have HC104 := Zz.mk (show y101.length ≤ c1_0 from by omega)
 clear hr9 hC9 hroom9 hi09 hsz9
 have KY9 := Zz.mk hy9
 clear hy9
 replace q9 := eq_true q9
 go_enter Try.func55, Try.ntmps55
 go_wp2_with (first | ((with_reducible refine gC_ (f := 56) rfl ?_); refine GL_ (some 11) rfl rfl Try.func56 #[.agg #[.slice A1_0 y101.length c1_0], .slice A0 l0.length c0] rfl (h := ?_); (with_reducible refine (z56.calls k _ _ y101 _ _ l0 t105 _ ?side1 ?side2 ?side3 ?side4 A6.out).mono ?_); (case side1 => exact KC_ HR104.out); (case side2 => exact HC104.out); (case side3 => exact KC_ HR0.out); (case side4 => exact HC0.out); rintro e w10 ⟨rfl, hb⟩; refine ⟨_, rfl, ?_⟩; replace BK51 := Zz.mk (kb_ BK51.out hb); replace BK52 := Zz.mk (kb_ BK52.out hb); replace HB := Zz.mk (bT_ (B_ HB.out) hb); (try clear hb)))
 go_ret
 exact ⟨F_, B_ HB.out⟩
def z124.l0 : Nat → List (List Int) → Int → Int → List (List Int) → Int → Option (Int)
 | 0, _, _, _, _, _ => none
 | k + 1, x0, x7, x8, x69000, x70000 => if x8 < x7 then (if 0 ≤ x8 then (if x8 < (x0.length : Int) then ((z55.f k (rI_ x0 x8) x69000 x70000).bind fun t102 => (if t102 = true then (some x8) else (z124.l0 k x0 x7 (wrap64 (x8 + 1)) x69000 x70000))) else (none)) else (none)) else (some (-1))
def z124.f (k : Nat) (l0 : List (List Int)) (l1_0 : List (List Int)) (a1_1 : Int) : Option (Int) := z124.l0 k l0 (l0.length : Int) 0 l1_0 a1_1
theorem z124.calls (k : Nat) (A0 : Option Addr) (c0 : Nat) (l0 : List (List Int)) (gp1_0 : Nat) (gp1_1 : Nat) (A1_0 : Option Addr) (c1_0 : Nat) (l1_0 : List (List Int)) (a1_1 : Int) (r : Int) (w : World) (hbp1_0 : w.heap[gp1_0]? = some (.cells #[.slice A1_0 l1_0.length c1_0] 29 (0, 0))) (hbp1_1 : w.heap[gp1_1]? = some (.cells #[.int .i64 a1_1] 3 (0, 0))) (hr0 : Kd.C (Kd.slice 2 (Kd.int .i64)) w A0 l0.length l0) (hc0 : l0.length ≤ c0) (hr1_0 : Kd.C (Kd.slice 2 (Kd.int .i64)) w A1_0 l1_0.length l1_0) (hc1_0 : l1_0.length ≤ c1_0) (h : z124.f k l0 l1_0 a1_1 = some r) :
  Calls Try.prog 80 #[.slice A0 l0.length c0, .func (.func 55) #[] #[.pointer (some ⟨gp1_0, 0, none⟩), .pointer (some ⟨gp1_1, 0, none⟩)]] w fun e w' => e = .returned (.int .i64 r) ∧ Below w.heap.size w w' := by
 have HR0 := Zz.mk hr0
 have HC0 := Zz.mk hc0
 clear hr0 hc0
 have HR1_0 := Zz.mk hr1_0
 have HC1_0 := Zz.mk hc1_0
 clear hr1_0 hc1_0
 have BK68 := Zz.mk hbp1_0
 clear hbp1_0
 have BK69 := Zz.mk hbp1_1
 clear hbp1_1
 have HB := Zz.mk (Below.refl w.heap.size w)
 have H : (z124.l0 k l0 (l0.length : Int) 0 l1_0 a1_1) = some r := h
 clear h
 have H' := Zz.mk H
 clear H
 go_enter Try.func80, Try.ntmps80
 go_wp2
 go_loopg [8] k (fun kq v8 w' => ∃ (x8_1 : Int), v8 = .int .i64 x8_1 ∧ Zz (z124.l0 kq l0 (l0.length : Int) x8_1 l1_0 a1_1 = some r) ∧ Zz (kq ≤ k) ∧ Zz (w'.heap[gp1_0]? = some (.cells #[(.slice A1_0 l1_0.length c1_0)] 29 (0, 0))) ∧ Zz (w'.heap[gp1_1]? = some (.cells #[.int .i64 a1_1] 3 (0, 0))) ∧ Zz (Below w.heap.size w w'))
 case atStart => exact ⟨(0), E_, H', ⟨Nat.le_refl _⟩, ⟨KB_ BK68.out⟩, ⟨KB_ BK69.out⟩, ⟨B_ HB.out⟩⟩
 case round =>
  clear H'
  obtain ⟨x8_1, rfl, HA, HK1, BK68, BK69, HB⟩ := hrel
  cases gk with
  | zero => exact absurd HA.out (by simp [z124.l0])
  | succ k1 =>
   have H := HA.out
   clear HA
   simp only [z124.l0] at H
   by_cases c3 : x8_1 < (l0.length : Int)
   ·rw [if_pos c3] at H
    have c3b0 : decide (x8_1 < (l0.length : Int)) = true := decide_eq_true c3
    clear c3
    have c4b0 := O3_ H
    replace H := O2_ H
    have c5b0 := O3_ H
    replace H := O2_ H
    replace H := OZ_ H
    obtain ⟨t102, A6, H⟩ := H
    by_cases c7 : t102 = true
    ·subst c7
     replace H := T_ H
     obtain rfl := OI_ H
     have p101 : 0 ≤ (x8_1 : Int) := D_
     have q101 : x8_1 < (l0.length : Int) := D_
     obtain ⟨ad101, A101_0, c101_0, e101, hx101_0, hl101_0, hi101_0⟩ := qAp HR0.out x8_1 p101 q101
     cases e101
     replace hx101_0 := (HB.out.cell (World.block_lt_of_cell? w _ hx101_0)).trans hx101_0
     have HR101_0 := Zz.mk hi101_0
     have HC101_0 := Zz.mk hl101_0
     clear hi101_0 hl101_0
     replace p101 := eq_true p101
     replace q101 := eq_true q101
     go_wp2_with (first | (go_at_call 55; (with_reducible refine (z55.calls k1 _ _ (rI_ l0 x8_1) gp1_0 A1_0 c1_0 l1_0 gp1_1 a1_1 true _ ?side1 ?side2 ?side3 ?side4 ?side5 ?side6 A6.out).mono ?_); (case side1 => refine BW_ ?_; exact BK68.out); (case side2 => refine BW_ ?_; exact BK69.out); (case side3 => exact KC_ (Kd.C_below HR101_0.out HB.out)); (case side4 => exact HC101_0.out); (case side5 => exact KC_ (Kd.C_below HR1_0.out HB.out)); (case side6 => exact HC1_0.out); rintro e w8 ⟨rfl, hb⟩; replace BK68 := Zz.mk (kb_ BK68.out hb); replace BK69 := Zz.mk (kb_ BK69.out hb); replace HB := Zz.mk (bT_ (B_ HB.out) hb); (try clear hb)))
     go_ret
     exact ⟨F_, B_ HB.out⟩
    replace c7 := Bool.eq_false_iff.mpr c7
    subst c7
    replace H := N_ H
    have H' := Zz.mk H
    clear H
    have p101 : 0 ≤ (x8_1 : Int) := D_
    have q101 : x8_1 < (l0.length : Int) := D_
    obtain ⟨ad101, A101_0, c101_0, e101, hx101_0, hl101_0, hi101_0⟩ := qAp HR0.out x8_1 p101 q101
    cases e101
    replace hx101_0 := (HB.out.cell (World.block_lt_of_cell? w _ hx101_0)).trans hx101_0
    have HR101_0 := Zz.mk hi101_0
    have HC101_0 := Zz.mk hl101_0
    clear hi101_0 hl101_0
    replace p101 := eq_true p101
    replace q101 := eq_true q101
    go_wp2_with (first | (go_at_call 55; (with_reducible refine (z55.calls k1 _ _ (rI_ l0 x8_1) gp1_0 A1_0 c1_0 l1_0 gp1_1 a1_1 false _ ?side1 ?side2 ?side3 ?side4 ?side5 ?side6 A6.out).mono ?_); (case side1 => refine BW_ ?_; exact BK68.out); (case side2 => refine BW_ ?_; exact BK69.out); (case side3 => exact KC_ (Kd.C_below HR101_0.out HB.out)); (case side4 => exact HC101_0.out); (case side5 => exact KC_ (Kd.C_below HR1_0.out HB.out)); (case side6 => exact HC1_0.out); rintro e w9 ⟨rfl, hb⟩; replace BK68 := Zz.mk (kb_ BK68.out hb); replace BK69 := Zz.mk (kb_ BK69.out hb); replace HB := Zz.mk (bT_ (B_ HB.out) hb); (try clear hb)))
    go_roundg k1
    case measure => exact Q1_ HK1
    case rel => exact ⟨(wrap64 (x8_1 + 1)), E_, H', ⟨Q1_ HK1⟩, ⟨KB_ BK68.out⟩, ⟨KB_ BK69.out⟩, ⟨B_ HB.out⟩⟩
   rw [if_neg c3] at H
   have c3b0 : decide (x8_1 < (l0.length : Int)) = false := decide_eq_false c3
   clear c3
   obtain rfl := OI_ H
   go_wp2
   go_ret
   exact ⟨F_, B_ HB.out⟩
def z120.f (k : Nat) (l0 : List (List Int)) (l1_0 : List (List Int)) (a1_1 : Int) : Option (Bool) := (z124.f k l0 l1_0 a1_1).bind fun t101 => (some (decide (t101 ≥ 0)))
theorem z120.calls (k : Nat) (A0 : Option Addr) (c0 : Nat) (l0 : List (List Int)) (gp1_0 : Nat) (gp1_1 : Nat) (A1_0 : Option Addr) (c1_0 : Nat) (l1_0 : List (List Int)) (a1_1 : Int) (r : Bool) (w : World) (hbp1_0 : w.heap[gp1_0]? = some (.cells #[.slice A1_0 l1_0.length c1_0] 29 (0, 0))) (hbp1_1 : w.heap[gp1_1]? = some (.cells #[.int .i64 a1_1] 3 (0, 0))) (hr0 : Kd.C (Kd.slice 2 (Kd.int .i64)) w A0 l0.length l0) (hc0 : l0.length ≤ c0) (hr1_0 : Kd.C (Kd.slice 2 (Kd.int .i64)) w A1_0 l1_0.length l1_0) (hc1_0 : l1_0.length ≤ c1_0) (h : z120.f k l0 l1_0 a1_1 = some r) :
  Calls Try.prog 53 #[.slice A0 l0.length c0, .func (.func 55) #[] #[.pointer (some ⟨gp1_0, 0, none⟩), .pointer (some ⟨gp1_1, 0, none⟩)]] w fun e w' => e = .returned (.bool r) ∧ Below w.heap.size w w' := by
 have HR0 := Zz.mk hr0
 have HC0 := Zz.mk hc0
 clear hr0 hc0
 have HR1_0 := Zz.mk hr1_0
 have HC1_0 := Zz.mk hc1_0
 clear hr1_0 hc1_0
 have BK68 := Zz.mk hbp1_0
 clear hbp1_0
 have BK69 := Zz.mk hbp1_1
 clear hbp1_1
 have HB := Zz.mk (Below.refl w.heap.size w)
 have H : ((z124.f k l0 l1_0 a1_1).bind fun t101 => (some (decide (t101 ≥ 0)))) = some r := h
 clear h
 replace H := OZ_ H
 obtain ⟨t101, A3, H⟩ := H
 obtain rfl := OI_ H
 go_enter Try.func53, Try.ntmps53
 go_wp2_with (first | ((with_reducible refine gC_ (f := 80) rfl ?_); refine GL_ (some 7) rfl rfl Try.func80 #[.slice A0 l0.length c0, .func (.func 55) #[] #[.pointer (some ⟨gp1_0, 0, none⟩), .pointer (some ⟨gp1_1, 0, none⟩)]] rfl (h := ?_); (with_reducible refine (z124.calls k _ _ l0 gp1_0 gp1_1 A1_0 c1_0 l1_0 a1_1 t101 _ ?side1 ?side2 ?side3 ?side4 ?side5 ?side6 A3.out).mono ?_); (case side1 => refine BW_ ?_; exact BK68.out); (case side2 => refine BW_ ?_; exact BK69.out); (case side3 => exact KC_ HR0.out); (case side4 => exact HC0.out); (case side5 => exact KC_ HR1_0.out); (case side6 => exact HC1_0.out); rintro e w4 ⟨rfl, hb⟩; refine ⟨_, rfl, ?_⟩; replace BK68 := Zz.mk (kb_ BK68.out hb); replace BK69 := Zz.mk (kb_ BK69.out hb); replace HB := Zz.mk (bT_ (B_ HB.out) hb); (try clear hb)))
 go_ret
 exact ⟨F_, B_ HB.out⟩
def z36.l0 : Nat → Int → Int → Option (Bool)
 | 0, _, _ => none
 | k + 1, x0, x3 => if (wrap64 (x3 * x3)) ≤ x0 then (if x3 = 0 then (none) else (if (Int.tmod x0 x3) = 0 then (some false) else (z36.l0 k x0 (wrap64 (x3 + 1))))) else (some true)
def z36.f (k : Nat) (a0 : Int) : Option (Bool) := (z57.f a0 2 251).bind fun t101 => (if t101 = true then (z36.l0 k a0 2) else (some false))
theorem z36.calls (k : Nat) (a0 : Int) (r : Bool) (w : World) (h : z36.f k a0 = some r) :
  Calls Try.prog 36 #[.int .i64 a0] w fun e w' => e = .returned (.bool r) ∧ Dz w w' := by
 have H : ((z57.f a0 2 251).bind fun t101 => (if t101 = true then (z36.l0 k a0 2) else (some false))) = some r := h
 clear h
 replace H := OZ_ H
 obtain ⟨t101, A2, H⟩ := H
 by_cases c3 : t101 = true
 ·subst c3
  replace H := T_ H
  have H' := Zz.mk H
  clear H
  go_enter Try.func36, Try.ntmps36
  go_wp2_with (first | ((with_reducible refine gC_ (f := 57) rfl ?_); refine GL_ (some 5) rfl rfl Try.func57 #[.int .i64 a0, .int .i64 2, .int .i64 251] rfl (h := ?_); (with_reducible refine (z57.calls a0 2 251 true _ A2.out).mono ?_); rintro e w' ⟨rfl, ⟨nd, rfl⟩⟩; refine ⟨_, rfl, ?_⟩))
  go_loopg [3] k (fun kq v3 w' => ∃ (x3_1 : Int), v3 = .int .i64 x3_1 ∧ Zz (z36.l0 kq a0 x3_1 = some r) ∧ Zz (kq ≤ k) ∧ Dz w w')
  case atStart => exact ⟨(2), E_, H', ⟨Nat.le_refl _⟩, by repeat (first | exact Dz.refl _ | apply Dz.step)⟩
  case round =>
   clear H'
   (try clear c3)
   obtain ⟨x3_1, rfl, HA, HK1, ⟨m1, rfl⟩⟩ := hrel
   cases gk with
   | zero => exact absurd HA.out (by simp [z36.l0])
   | succ k1 =>
    have H := HA.out
    clear HA
    simp only [z36.l0] at H
    by_cases c4 : (wrap64 (x3_1 * x3_1)) ≤ a0
    ·rw [if_pos c4] at H
     have c4b0 : decide ((wrap64 (x3_1 * x3_1)) ≤ a0) = true := decide_eq_true c4
     clear c4
     by_cases c5 : x3_1 = 0
     ·rw [if_pos c5] at H
      exact X_ H
     rw [if_neg c5] at H
     have c5b0 : (x3_1 == 0) = false := beq_eq_false_iff_ne.mpr c5
     have c5b1 : (x3_1 != 0) = true := bne_iff_ne.mpr c5
     by_cases c6 : (Int.tmod a0 x3_1) = 0
     ·rw [if_pos c6] at H
      have c6b0 : ((Int.tmod a0 x3_1) == 0) = true := beq_iff_eq.mpr c6
      have c6b1 : ((Int.tmod a0 x3_1) != 0) = false := bne_eq_false_iff_eq.mpr c6
      clear c6
      obtain rfl := OI_ H
      go_wp2
      go_ret
      exact eD_
     rw [if_neg c6] at H
     have c6b0 : ((Int.tmod a0 x3_1) == 0) = false := beq_eq_false_iff_ne.mpr c6
     have c6b1 : ((Int.tmod a0 x3_1) != 0) = true := bne_iff_ne.mpr c6
     have H' := Zz.mk H
     clear H
     go_wp2
     go_roundg k1
     case measure => exact Q1_ HK1
     case rel => exact ⟨(wrap64 (x3_1 + 1)), E_, H', ⟨Q1_ HK1⟩, by repeat (first | exact Dz.refl _ | apply Dz.step)⟩
    rw [if_neg c4] at H
    have c4b0 : decide ((wrap64 (x3_1 * x3_1)) ≤ a0) = false := decide_eq_false c4
    clear c4
    obtain rfl := OI_ H
    go_wp2
    go_ret
    exact eD_
 replace c3 := Bool.eq_false_iff.mpr c3
 subst c3
 replace H := N_ H
 obtain rfl := OI_ H
 go_enter Try.func36, Try.ntmps36
 go_wp2_with (first | ((with_reducible refine gC_ (f := 57) rfl ?_); refine GL_ (some 5) rfl rfl Try.func57 #[.int .i64 a0, .int .i64 2, .int .i64 251] rfl (h := ?_); (with_reducible refine (z57.calls a0 2 251 false _ A2.out).mono ?_); rintro e w' ⟨rfl, ⟨nd, rfl⟩⟩; refine ⟨_, rfl, ?_⟩))
 go_ret
 exact eD_
def z70.f (a0 : Int) (a1 : Int) : Option (Int) := if (Int.tmod a0 2) = 0 then (some 1) else (some (wrap64 (a1 - 1)))
theorem z70.calls (a0 : Int) (a1 : Int) (r : Int) (w : World) (h : z70.f a0 a1 = some r) :
  Calls Try.prog 70 #[.int .i64 a0, .int .i64 a1] w fun e w' => e = .returned (.int .i64 r) ∧ Dz w w' := by
 have H : (if (Int.tmod a0 2) = 0 then (some 1) else (some (wrap64 (a1 - 1)))) = some r := h
 clear h
 by_cases c3 : (Int.tmod a0 2) = 0
 ·rw [if_pos c3] at H
  have c3b0 : ((Int.tmod a0 2) == 0) = true := beq_iff_eq.mpr c3
  have c3b1 : ((Int.tmod a0 2) != 0) = false := bne_eq_false_iff_eq.mpr c3
  clear c3
  obtain rfl := OI_ H
  go_enter Try.func70, Try.ntmps70
  go_wp2
  go_ret
  exact eD_
 rw [if_neg c3] at H
 have c3b0 : ((Int.tmod a0 2) == 0) = false := beq_eq_false_iff_ne.mpr c3
 have c3b1 : ((Int.tmod a0 2) != 0) = true := bne_iff_ne.mpr c3
 obtain rfl := OI_ H
 go_enter Try.func70, Try.ntmps70
 go_wp2
 go_ret
 exact eD_
end Go.Proofs.Ytpgjfppbbbnclaa.B
/- A call of a function value in a region, by its contract. -/
set_option linter.unusedVariables false
set_option linter.unusedSimpArgs false
namespace Go.Proofs.Ytpgjfppbbbnclaa.B
open Go.RowKit Go.Proofs.YtpgjfppbbbnclaaW.PrintWords Go.Proofs.YtpgjfppbbbnclaaW.PrintLast Go.Proofs.YtpgjfppbbbnclaaW.PrintMore
section
variable {P : Program} {ops : Array Oper} {Q : Exit → Act → World → Prop}
theorem GOF_ {oi : Oper} {N : Option Tmp} {a : Act} {w : World} {K : Act → World → Prop} {f : FuncId} {fn : Func} {as_ : Array Operand} {ts : Array TypeId} {op : Operand} {caps : Array Value} (hf : P.funcs[f]? = some fn) (args : Array Value) (hname : (fn.name == "runtime.NumGoroutine") = false := by kernel_rfl) (hb : fn.body.isSome = true := by exact rfl)
  (hw : Region.wanted oi (yielded ops a.tmps) = true := by rfl) (hN : oi.dst = N := by exact rfl) (hop : oi.op = .call { callee := .value op, args := as_, argTypes := ts } := by exact rfl) (heval : a.eval op = .func (.func f) #[] caps := by exact rfl) (hargs : as_.map a.eval ++ caps = args := by (try simp only [List.map_toArray, List.map_cons, List.map_nil]); first | done | rfl | (simp only [List.length_drop, List.length_take]; rfl))
  (h : Calls P f args w fun e w' => ∃ v, e = .returned v ∧ K (a.put N v) w') : if Region.wanted oi (yielded ops a.tmps) = true then Oper.wp P oi a w K Q else K (a.put N undef) w := by
  refine call_ f args hw hN ?_ h
  have he := qJ9 hf hname hb args w
  unfold execOp
  simp [hop, resolve, Deferred.ofValue, invoke, heval, hargs, he]
end
end Go.Proofs.Ytpgjfppbbbnclaa.B
namespace Go.Proofs.Ytpgjfppbbbnclaa.B
open Go.RowKit Go.Proofs.YtpgjfppbbbnclaaW.PrintWords Go.Proofs.YtpgjfppbbbnclaaW.PrintLast Go.Proofs.YtpgjfppbbbnclaaW.PrintMore
attribute [local go_sem] qAh qAf qAl qAk qAc qAb qAg qAe
set_option linter.unusedVariables false
set_option linter.unusedSimpArgs false
def z91.f (a0 : Int) (a1 : Int) : Option (Int) := some 0
theorem z91.calls (a0 : Int) (a1 : Int) (r : Int) (w : World) (h : z91.f a0 a1 = some r) :
  Calls Try.prog 91 #[.int .i64 a0, .int .i64 a1] w fun e w' => e = .returned (.int .i64 r) ∧ Dz w w' := by
 have H : (some 0) = some r := h
 clear h
 obtain rfl := OI_ H
 go_enter Try.func91, Try.ntmps91
 go_wp2
 go_ret
 exact eD_
def z69.l0 : Nat → List Int → Int → Int → Int → Option (Int)
 | 0, _, _, _, _ => none
 | k + 1, x0, x1, x7, x8 => if x8 < x7 then (if 0 ≤ x8 then (if x8 < (x0.length : Int) then (if x1 = (rd x0 x8) then (some x8) else (z69.l0 k x0 x1 x7 (wrap64 (x8 + 1)))) else (none)) else (none)) else (some (-1))
def z69.f (k : Nat) (l0 : List Int) (a1 : Int) : Option (Int) := z69.l0 k l0 a1 (l0.length : Int) 0
theorem z69.calls (k : Nat) (A0 : Option Addr) (c0 : Nat) (l0 : List Int) (a1 : Int) (r : Int) (w : World) (hr0 : Kd.C (Kd.int .i64) w A0 l0.length l0) (hc0 : l0.length ≤ c0) (h : z69.f k l0 a1 = some r) :
  Calls Try.prog 69 #[.slice A0 l0.length c0, .int .i64 a1] w fun e w' => e = .returned (.int .i64 r) ∧ Dz w w' := by
 have HR0 := Zz.mk hr0
 have HC0 := Zz.mk hc0
 clear hr0 hc0
 have H : (z69.l0 k l0 a1 (l0.length : Int) 0) = some r := h
 clear h
 have H' := Zz.mk H
 clear H
 go_enter Try.func69, Try.ntmps69
 go_wp2
 go_loopg [8] k (fun kq v8 w' => ∃ (x8_1 : Int), v8 = .int .i64 x8_1 ∧ Zz (z69.l0 kq l0 a1 (l0.length : Int) x8_1 = some r) ∧ Zz (kq ≤ k) ∧ Dz w w')
 case atStart => exact ⟨(0), E_, H', ⟨Nat.le_refl _⟩, by repeat (first | exact Dz.refl _ | apply Dz.step)⟩
 case round =>
  clear H'
  obtain ⟨x8_1, rfl, HA, HK1, ⟨m1, rfl⟩⟩ := hrel
  cases gk with
  | zero => exact absurd HA.out (by simp [z69.l0])
  | succ k1 =>
   have H := HA.out
   clear HA
   simp only [z69.l0] at H
   by_cases c3 : x8_1 < (l0.length : Int)
   ·rw [if_pos c3] at H
    have c3b0 : decide (x8_1 < (l0.length : Int)) = true := decide_eq_true c3
    clear c3
    have c4b0 := O3_ H
    replace H := O2_ H
    have c5b0 := O3_ H
    replace H := O2_ H
    by_cases c6 : a1 = (rd l0 x8_1)
    ·rw [if_pos c6] at H
     have c6b0 : (a1 == (rd l0 x8_1)) = true := beq_iff_eq.mpr c6
     have c6b1 : (a1 != (rd l0 x8_1)) = false := bne_eq_false_iff_eq.mpr c6
     clear c6
     obtain rfl := OI_ H
     have p101 : 0 ≤ (x8_1 : Int) := D_
     have q101 : x8_1 < (l0.length : Int) := D_
     obtain ⟨ad101, e101, hx101_0⟩ := Kd.at_int HR0.out x8_1 p101 q101
     cases e101
     replace p101 := eq_true p101
     replace q101 := eq_true q101
     go_wp2
     go_ret
     exact eD_
    rw [if_neg c6] at H
    have c6b0 : (a1 == (rd l0 x8_1)) = false := beq_eq_false_iff_ne.mpr c6
    have c6b1 : (a1 != (rd l0 x8_1)) = true := bne_iff_ne.mpr c6
    have H' := Zz.mk H
    clear H
    have p101 : 0 ≤ (x8_1 : Int) := D_
    have q101 : x8_1 < (l0.length : Int) := D_
    obtain ⟨ad101, e101, hx101_0⟩ := Kd.at_int HR0.out x8_1 p101 q101
    cases e101
    replace p101 := eq_true p101
    replace q101 := eq_true q101
    go_wp2
    go_roundg k1
    case measure => exact Q1_ HK1
    case rel => exact ⟨(wrap64 (x8_1 + 1)), E_, H', ⟨Q1_ HK1⟩, by repeat (first | exact Dz.refl _ | apply Dz.step)⟩
   rw [if_neg c3] at H
   have c3b0 : decide (x8_1 < (l0.length : Int)) = false := decide_eq_false c3
   clear c3
   obtain rfl := OI_ H
   go_wp2
   go_ret
   exact eD_
end Go.Proofs.Ytpgjfppbbbnclaa.B
/- slices.Clone of whole numbers: walked by hand. -/
set_option linter.unusedVariables false
set_option linter.unusedSimpArgs false
namespace Go.Proofs.Ytpgjfppbbbnclaa.B
open Go.RowKit Go.Proofs.YtpgjfppbbbnclaaW.PrintWords Go.Proofs.YtpgjfppbbbnclaaW.PrintLast Go.Proofs.YtpgjfppbbbnclaaW.PrintMore
def slices_Clone_int64_int64.f (l0 : List Int) : Option (List Int) := if l0.length < 17592186044416 then some l0 else none
theorem slices_Clone_int64_int64.calls (A0 : Option Addr) (c0 : Nat) (l0 : List Int) (r : List Int) (w : World) (hr0 : Kd.C (Kd.int .i64) w A0 l0.length l0) (hc0 : l0.length ≤ c0) (h : slices_Clone_int64_int64.f l0 = some r) :
    Calls Try.prog 84 #[.slice A0 l0.length c0] w fun e w' => ∃ v0_ : Value, e = .returned (v0_) ∧ Kd.R (Kd.int .i64) 2 w' w.heap.size (fun _ => True) v0_ r ∧ Below w.heap.size w w' := by
  unfold slices_Clone_int64_int64.f at h
  have hl := O1_ h
  obtain rfl := Option.some.inj (O2_ h)
  clear h
  have LM := Zz.mk hl
  have HR0 := Zz.mk hr0
  have q22 : ∀ (w : World) (a : Option Addr) (n c n' c' : Nat), (binOp .eql 26 (.slice a n c) (.slice none n' c')).run Try.prog w = .ok (.bool a.isNone) w := fun w a n c n' c' => Lib.run_eql_slice_nil w _ _ a n c n' c' Try.underlying26
  cases A0 with
  | none =>
    have h0 : l0 = [] := by
      rcases Nat.eq_zero_or_pos l0.length with h | h
      · exact List.eq_nil_of_length_eq_zero h
      obtain ⟨ad, he, _⟩ := hr0.2.2 h
      cases he
    subst h0
    clear hr0 HR0
    go_enter Try.func84, Try.ntmps84
    go_wp2
    go_ret
    exact ⟨_, rfl, Kd.R_nil _ _ _ _ _, Below.refl _ _⟩
  | some ad =>
    have HB := Zz.mk (Below.refl w.heap.size w)
    clear hr0
    obtain ⟨y101, hy101⟩ : ∃ y_ : List Int, y_ = ([] : List Int) := ⟨_, rfl⟩
    have Ny101 := Zz.mk hy101
    have hy2 := hy101
    clear hy101
    go_enter Try.func84, Try.ntmps84
    go_wp2_with (first | ((with_reducible refine qAm (N := 5) rfl ?_); refine Kd.R_lit (Kd.int .i64) _ 2 ?hg (N := 5) ?hd (xs := ([] : List Int)) (inner := []) (ok := fun _ => True) (okp := fun _ => True) ?hr ?hp (fun _ hk => hk) trivial (Below.refl _ _) (Nat.le_refl _) (by simp) ?_; (case hd => rfl); (case hg => rfl); (case hr => first | (go_simp; done) | (go_simp; rfl)); (case hp => exact (Reps.none _ _)); intro v102 w3 ho4 hb hg_ hnew_; clear hg_ hnew_; rw [← Ny101.out] at ho4; have HO103 := Zz.mk (Kd.R_lower ho4 (bS_ (B_ HB.out))); replace HB := Zz.mk (bT_ (B_ HB.out) hb); clear hb ho4) | ((with_reducible refine qAv (b := .append) (xs := #[.tmp 5, .tmp 6]) rfl ?_); at_builtin; refine Kd.R_append_rows (Kd.int .i64) (w0 := w) w.heap.size rfl (.tmp 5) (.tmp 6) 26 2 (.int .i64 0) 8 rfl Try.underlying26 qB9 rfl (by decide) (by omega) v102 y101 l0 _ _ _ (fun _ => True) (fun _ => False) rfl rfl ?aO ?aR (fun _ _ h => h) (fun _ h => h.elim) ?aF ?aB ?aS ?aL ?_; (case aR => exact KC_ (Kd.C_below HR0.out HB.out)); (case aB => exact (B_ HB.out)); (case aF => exact (fun _ _ => trivial)); (case aO => exact (KR_ HO103.out)); (case aS => exact (bS_ (B_ HB.out))); (case aL => rw [Ny101.out]; have := LM.out; simp only [List.length_nil]; omega); intro v105 w5 ho hb hg hat; replace HB := Zz.mk (hb); have HO106 := Zz.mk (ho); clear HO103; clear ho hb hg hat))
    go_ret
    subst hy2
    exact ⟨_, rfl, KR_ HO106.out, B_ HB.out⟩
end Go.Proofs.Ytpgjfppbbbnclaa.B
/- A matrix's row, handed back as a part of the matrix's own cells: walked by hand. -/
set_option linter.unusedVariables false
set_option linter.unusedSimpArgs false
namespace Go.Proofs.Ytpgjfppbbbnclaa.B
open Go.RowKit Go.Proofs.YtpgjfppbbbnclaaW.PrintWords Go.Proofs.YtpgjfppbbbnclaaW.PrintLast Go.Proofs.YtpgjfppbbbnclaaW.PrintMore
def impl_Matrix_row.f (a0_0 : Int) (a0_1 : Int) (a0_2 : Int) (l0_3 : List Int) (a1 : Int) : Option (List Int) :=
  if (0 ≤ wrap64 (a1 * a0_2) ∧ wrap64 (a1 * a0_2) ≤ wrap64 (wrap64 (a1 + 1) * a0_2)) ∧ wrap64 (wrap64 (a1 + 1) * a0_2) ≤ (l0_3.length : Int) then some ((l0_3.take (wrap64 (wrap64 (a1 + 1) * a0_2)).toNat).drop (wrap64 (a1 * a0_2)).toNat) else none
theorem impl_Matrix_row.calls (a0_0 : Int) (a0_1 : Int) (a0_2 : Int) (P0_3_ : Nat → Prop) (A0_3 : Option Addr) (c0_3 : Nat) (l0_3 : List Int) (a1 : Int) (r : List Int) (w : World) (hs0_3 : Kd.V (Kd.int .i64) 2 w w.heap.size (fun k_ => P0_3_ k_) (.slice A0_3 l0_3.length c0_3) l0_3) (h : impl_Matrix_row.f a0_0 a0_1 a0_2 l0_3 a1 = some r) :
    Calls Try.prog 86 #[.agg #[.int .i64 a0_0, .int .i64 a0_1, .int .i64 a0_2, .slice A0_3 l0_3.length c0_3], .int .i64 a1] w fun e w' => ∃ v0_ : Value, e = .returned (v0_) ∧ Kd.V (Kd.int .i64) 2 w' w.heap.size (fun k_ => (P0_3_ k_ ∨ w.heap.size ≤ k_)) v0_ r ∧ Below w.heap.size w w' := by
  unfold impl_Matrix_row.f at h
  obtain ⟨⟨h0, h1⟩, h2⟩ := O1_ h
  obtain rfl := Option.some.inj (O2_ h)
  clear h
  obtain ⟨_, hc, hF⟩ := Kd.V_at hs0_3
  have hu59 := Try.underlying51
  generalize hlo : wrap64 (a1 * a0_2) = lo at h0 h1 ⊢
  generalize hhi : wrap64 (wrap64 (a1 + 1) * a0_2) = hi at h1 h2 ⊢
  have hlow : IntKind.i64.wrap (a1 * a0_2) = lo := (qA6 _).trans hlo
  have hhiw : IntKind.i64.wrap (wrap64 (a1 + 1) * a0_2) = hi := (qA6 _).trans hhi
  have HF := Zz.mk hF
  have HB := Zz.mk (Below.refl w.heap.size w)
  obtain ⟨i0, hi0, _, hsz0, _⟩ := info_parts qB9
  obtain ⟨A', hcut, hA', hC'⟩ := qI1 (P := Try.prog) (Value.int .i64) 0 26 2 .i64 .i64 Try.underlying26 hi0 hsz0 A0_3 c0_3 l0_3 lo hi h0 h1 h2 hc
  have HV := Zz.mk (Kd.V_mk (d := Kd.int .i64) (e := 2) (W := w) (base := w.heap.size) hC' (Kd.F_imp hF (fun W hC => Kd.C_of_reads (h1 := fun _ => rfl) (hA' _ (Kd.reads_of_C hC)))))
  clear hs0_3 hF hA' hC' hi0 hsz0 HF
  have d0 := decide_eq_true h0
  have d1 := decide_eq_true h1
  go_enter Try.func86, Try.ntmps86
  go_wp2_with (first | ((with_reducible refine qAm (N := 2) rfl ?_); refine bx_ 2 #[.int .i64 a0_0, .int .i64 a0_1, .int .i64 a0_2, .slice A0_3 l0_3.length c0_3] 51 ?_; intro gb101 hg w7 hbox hb; have n0_ := Zz.mk (bT_ (B_ HB.out) hb); have n1_ := Zz.mk (hbox); have HV2 := Zz.mk (Kd.V_below HV.out hb); clear HV; clear HB; have HB := n0_; have BK101 := n1_; clear n0_ n1_; clear hb hbox hg; obtain ⟨hcz8_0, hcz8_1, hcz8_2, hcz8_3⟩ := Z4_ BK101.out))
  go_ret
  have hlen : ((l0_3.take hi.toNat).drop lo.toNat).length = hi.toNat - lo.toNat := by
    rw [List.length_drop, List.length_take]; omega
  have hv := HV2.out
  rw [hlen] at hv
  exact ⟨_, rfl, Kd.V_mono hv (fun _ hk => .inl hk), HB.out⟩
end Go.Proofs.Ytpgjfppbbbnclaa.B
namespace Go.Proofs.Ytpgjfppbbbnclaa.B
open Go.RowKit Go.Proofs.YtpgjfppbbbnclaaW.PrintWords Go.Proofs.YtpgjfppbbbnclaaW.PrintLast Go.Proofs.YtpgjfppbbbnclaaW.PrintMore
attribute [local go_sem] qAh qAf qAl qAk qAc qAb qAg qAe
set_option linter.unusedVariables false
set_option linter.unusedSimpArgs false
def z63.l0 : Nat → List (List Int) → Int → Int → Int → Int → Int → List Int → Option ((List (List Int)))
 | 0, _, _, _, _, _, _, _ => none
 | k + 1, x3, x6, x7, x102000, x102001, x102002, x102003 => if x7 < x6 then ((impl_Matrix_row.f x102000 x102001 x102002 x102003 x7).bind fun t102 => ((slices_Clone_int64_int64.f t102).bind fun t105 => (if x3.length < 5864062014805 then (z63.l0 k (x3 ++ [t105]) x6 (wrap64 (x7 + 1)) x102000 x102001 x102002 x102003) else (none)))) else (some x3)
def z63.f (k : Nat) (a0_0 : Int) (a0_1 : Int) (a0_2 : Int) (l0_3 : List Int) : Option ((List (List Int))) := z63.l0 k ([] : List (List Int)) a0_1 0 a0_0 a0_1 a0_2 l0_3
theorem z63.calls (k : Nat) (a0_0 : Int) (a0_1 : Int) (a0_2 : Int) (A0_3 : Option Addr) (c0_3 : Nat) (l0_3 : List Int) (r : List (List Int)) (w : World) (hr0_3 : Kd.C (Kd.int .i64) w A0_3 l0_3.length l0_3) (hc0_3 : l0_3.length ≤ c0_3) (h : z63.f k a0_0 a0_1 a0_2 l0_3 = some r) :
  Calls Try.prog 63 #[.agg #[.int .i64 a0_0, .int .i64 a0_1, .int .i64 a0_2, .slice A0_3 l0_3.length c0_3]] w fun e w' => ∃ v0_ : Value, e = .returned (v0_) ∧ Kd.S (Kd.slice 2 (Kd.int .i64)) 26 w' w.heap.size (fun _ => True) v0_ r ∧ Below w.heap.size w w' := by
 have hu51 := Try.underlying51
 have HR0_3 := Zz.mk hr0_3
 have HC0_3 := Zz.mk hc0_3
 clear hr0_3 hc0_3
 have HB := Zz.mk (Below.refl w.heap.size w)
 have H : (z63.l0 k ([] : List (List Int)) a0_1 0 a0_0 a0_1 a0_2 l0_3) = some r := h
 clear h
 have H' := Zz.mk H
 clear H
 go_enter Try.func63, Try.ntmps63
 go_wp2_with (first | ((with_reducible refine qAm (N := 1) rfl ?_); refine bx_ 1 #[.int .i64 a0_0, .int .i64 a0_1, .int .i64 a0_2, .slice A0_3 l0_3.length c0_3] 51 ?_; intro gb101 hg w2 hbox hb; have BK101 := Zz.mk (hbox); have GW101 := Zz.mk ((gw_ hg (B_ HB.out))); have GE101 := GW101; replace HB := Zz.mk (bT_ (B_ HB.out) hb); clear hb hbox hg; obtain ⟨hcz3_0, hcz3_1, hcz3_2, hcz3_3, hfz3_0, hfz3_1, hfz3_2, hfz3_3⟩ := Z4f_ BK101.out))
 go_loopg [3, 7] k (fun kq v3 v7 w' => ∃ (x3_1 : List (List Int)) (x7_1 : Int), v7 = .int .i64 x7_1 ∧ Zz (z63.l0 kq x3_1 a0_1 x7_1 a0_0 a0_1 a0_2 l0_3 = some r) ∧ Zz (kq ≤ k) ∧ Zz (Kd.S (Kd.slice 2 (Kd.int .i64)) 26 w' w.heap.size (fun _ => True) v3 x3_1) ∧ Zz (w'.heap[gb101]? = some (.cells #[.int .i64 a0_0, .int .i64 a0_1, .int .i64 a0_2, (.slice A0_3 l0_3.length c0_3)] 51 (0, 0))) ∧ Zz (Below w.heap.size w w'))
 case atStart => exact ⟨(([] : List (List Int))), (0), E_, H', ⟨Nat.le_refl _⟩, ⟨by first | exact Kd.S_nil _ _ _ _ _ | exact Kd.N_nil _ _ _ _ _ | exact Kd.V_nil _ _ _ _ _ | exact Kd.Q_nil _ _ _ _ _ | exact Kd.R_nil _ _ _ _ _⟩, ⟨KB_ BK101.out⟩, ⟨B1_ HB.out GE101.out⟩⟩
 case round =>
  clear H'
  (try clear hcz3_0);(try clear hcz3_1);(try clear hcz3_2);(try clear hcz3_3);(try clear hfz3_0);(try clear hfz3_1);(try clear hfz3_2);(try clear hfz3_3)
  obtain ⟨x3_1, x7_1, rfl, HA, HK1, HO_3, BK101, HB⟩ := hrel
  cases gk with
  | zero => exact absurd HA.out (by simp [z63.l0])
  | succ k1 =>
   have H := HA.out
   clear HA
   simp only [z63.l0] at H
   by_cases c4 : x7_1 < a0_1
   ·rw [if_pos c4] at H
    have c4b0 : decide (x7_1 < a0_1) = true := decide_eq_true c4
    clear c4
    replace H := OZ_ H
    obtain ⟨t102, A5, H⟩ := H
    replace H := OZ_ H
    obtain ⟨t105, A6, H⟩ := H
    have c7 := O1_ H
    replace H := O2_ H
    have LMc7 := Zz.mk c7
    clear c7
    obtain ⟨y108, hy108⟩ : ∃ y_ : List (List Int), y_ = (x3_1 ++ [t105]) := ⟨_, rfl⟩
    replace H : (z63.l0 k1 y108 a0_1 (wrap64 (x7_1 + 1)) a0_0 a0_1 a0_2 l0_3) = some r := Y_ hy108 H
    have Ny108 := Zz.mk hy108
    clear hy108
    have H' := Zz.mk H
    clear H
    obtain ⟨hcz8_0, hcz8_1, hcz8_2, hcz8_3, hfz8_0, hfz8_1, hfz8_2, hfz8_3⟩ := Z4f_ BK101.out
    go_wp2_with (first | ((with_reducible refine gC_ (f := 86) rfl ?_); refine GL_ (some 13) rfl rfl Try.func86 #[.agg #[.int .i64 a0_0, .int .i64 a0_1, .int .i64 a0_2, .slice A0_3 l0_3.length c0_3], .int .i64 x7_1] rfl (h := ?_); (with_reducible refine (impl_Matrix_row.calls a0_0 a0_1 a0_2 (fun k_ => k_ < w.heap.size) _ _ l0_3 x7_1 t102 _ ?side1 A5.out).mono ?_); (case side1 => exact Kd.V_mk HC0_3.out (Kd.F_below (Kd.C_F (Kd.heap_int .i64) HR0_3.out) (B1_ HB.out GE101.out))); rintro e w9 ⟨v103, rfl, ho0, hb⟩; refine ⟨_, rfl, ?_⟩; have HO104 := Zz.mk (Kd.V_lower (Kd.V_mono (ok' := fun k_ => some k_ ≠ (u3 : Value).ownBlock ∧ k_ ≠ gb101) ho0 (fun k_ hk_ => ⟨Or.elim hk_ (fun hs_ => fun e_ => Nat.not_le.2 hs_ (Kd.S_base HO_3.out k_ e_.symm)) (fun hn_ => (Kd.fresh' (Kd.S_lt (KS_ HO_3.out)) k_ hn_)), Or.elim hk_ (fun hs_ => fun e_ => Nat.not_le.2 hs_ (by rw [e_]; exact GW101.out)) (fun hn_ => (Kd.freshB (g := gb101) (o := .cells #[.int .i64 a0_0, .int .i64 a0_1, .int .i64 a0_2, .slice A0_3 l0_3.length c0_3] 51 (0, 0)) (KB_ BK101.out) k_ hn_))⟩)) (bS_ (B1_ HB.out GE101.out))); replace HO_3 := Zz.mk (Kd.S_below (KS_ HO_3.out) hb); replace BK101 := Zz.mk (kb_ BK101.out hb); replace HB := Zz.mk (bT_ (B1_ HB.out GE101.out) hb); (try clear hb); (try clear ho0); obtain ⟨Ao10, co10, eo10⟩ := Kd.V_slice HO104.out; subst eo10) | ((with_reducible refine gC_ (f := 84) rfl ?_); refine GL_ (some 14) rfl rfl Try.func84 #[.slice Ao10 t102.length co10] rfl (h := ?_); (with_reducible refine (slices_Clone_int64_int64.calls _ _ t102 t105 _ ?side1 ?side2 A6.out).mono ?_); (case side1 => exact KC_ (Kd.V_reads' HO104.out).2.2); (case side2 => exact (Kd.V_reads' HO104.out).2.1); rintro e w11 ⟨v106, rfl, ho0, hb⟩; refine ⟨_, rfl, ?_⟩; replace HO_3 := Zz.mk (Kd.S_elder' (KS_ HO_3.out) (Kd.R_base ho0) hb); replace HO104 := Zz.mk (Kd.V_elder' (by refine VW_ ?_; exact HO104.out) (Kd.R_base ho0) hb); have HO107 := Zz.mk (Kd.R_lower ho0 (bS_ (B1_ HB.out GE101.out))); replace BK101 := Zz.mk (kb_ BK101.out hb); replace HB := Zz.mk (bT_ (B1_ HB.out GE101.out) hb); (try clear hb); (try clear ho0); obtain ⟨Ao13, co13, eo13⟩ := Kd.R_slice HO107.out; subst eo13) | ((with_reducible refine qAv (b := .append) (xs := #[.tmp 10, .tmp 15]) rfl ?_); at_builtin; refine Kd.S_append (Kd.slice 2 (Kd.int .i64)) (w0 := w) w.heap.size rfl (.tmp 10) (.tmp 15) 22 26 (.slice none 0 0) 24 rfl Try.underlying22 qDm rfl (by decide) (by omega) u3 x3_1 t105 [.slice Ao13 t105.length co13] (fun _ => True) (fun k_ => some k_ = (.slice Ao13 t105.length co13 : Value).ownBlock) rfl rfl ?aP (fun k_ hk_ => ((Kd.R_mono (ok' := fun k_ => ((fun _ => True)) k_ ∧ some k_ ≠ (u3 : Value).ownBlock) (Kd.R_apart' (HO107.out) (Kd.S_typed HO_3.out) (by decide)) (fun k_ hk => ⟨trivial, hk.2⟩))).1 k_ hk_.symm) ?aF ?aO ?aB ?aS ?aL ?_; (case aP => exact Kd.M_row (Kd.R_mono (Kd.R_tight rfl (Kd.R_mono (ok' := fun k_ => ((fun _ => True)) k_ ∧ some k_ ≠ (u3 : Value).ownBlock) (Kd.R_apart' (HO107.out) (Kd.S_typed HO_3.out) (by decide)) (fun k_ hk => ⟨trivial, hk.2⟩))) (fun _ h_ => h_))); (case aB => exact (B1_ HB.out GE101.out)); (case aF => exact (fun _ _ => trivial)); (case aO => exact (by refine SW_ ?_; exact Kd.S_mono HO_3.out (fun k_ hk => ⟨trivial, fun e_ => hk.2 e_⟩))); (case aS => exact (bS_ (B1_ HB.out GE101.out))); (case aL => have := LMc7.out; omega); intro v109 w12 ho hb hg hat; rw [← Ny108.out] at ho; replace BK101 := Zz.mk (qAy (g := gb101) (o := .cells #[.int .i64 a0_0, .int .i64 a0_1, .int .i64 a0_2, .slice A0_3 l0_3.length c0_3] 51 (0, 0)) (KB_ BK101.out) hg (Kd.S_ne HO_3.out BK101.out (by decide))); replace HO104 := Zz.mk (Kd.V_afterv (ok := (fun k_ => some k_ ≠ (.slice Ao13 t105.length co13 : Value).ownBlock ∧ k_ ≠ gb101)) (by refine VW_ ?_; exact Kd.V_mono HO104.out (fun _ hk => ⟨⟨hk.2, hk.1.2⟩, hk.1.1⟩)) hg hat); replace HB := Zz.mk (hb); have HO110 := Zz.mk (ho); clear HO_3; clear HO107; clear ho hb hg hat))
    go_roundg k1
    case measure => exact Q1_ HK1
    case rel => exact ⟨(y108), (wrap64 (x7_1 + 1)), E_, H', ⟨Q1_ HK1⟩, ⟨KS_ HO110.out⟩, ⟨KB_ BK101.out⟩, ⟨B1_ HB.out GE101.out⟩⟩
   rw [if_neg c4] at H
   have c4b0 : decide (x7_1 < a0_1) = false := decide_eq_false c4
   clear c4
   obtain rfl := OI_ H
   go_wp2
   go_ret
   exact ⟨_, F_, KS_ HO_3.out, B1_ HB.out GE101.out⟩
def z99.f (a0_0 : Int) (a0_1 : Int) (a0_2 : Int) (l0_3 : List Int) (a1 : Int) (a2 : Int) : Option (Int) := if 0 ≤ (wrap64 ((wrap64 (a1 * a0_2)) + a2)) then (if (wrap64 ((wrap64 (a1 * a0_2)) + a2)) < (l0_3.length : Int) then (some (rd l0_3 (wrap64 ((wrap64 (a1 * a0_2)) + a2)))) else (none)) else (none)
theorem z99.calls (a0_0 : Int) (a0_1 : Int) (a0_2 : Int) (A0_3 : Option Addr) (c0_3 : Nat) (l0_3 : List Int) (a1 : Int) (a2 : Int) (r : Int) (w : World) (hr0_3 : Kd.C (Kd.int .i64) w A0_3 l0_3.length l0_3) (hc0_3 : l0_3.length ≤ c0_3) (h : z99.f a0_0 a0_1 a0_2 l0_3 a1 a2 = some r) :
  Calls Try.prog 99 #[.agg #[.int .i64 a0_0, .int .i64 a0_1, .int .i64 a0_2, .slice A0_3 l0_3.length c0_3], .int .i64 a1, .int .i64 a2] w fun e w' => e = .returned (.int .i64 r) ∧ Below w.heap.size w w' := by
 have hu51 := Try.underlying51
 have HR0_3 := Zz.mk hr0_3
 have HC0_3 := Zz.mk hc0_3
 clear hr0_3 hc0_3
 have HB := Zz.mk (Below.refl w.heap.size w)
 have H : (if 0 ≤ (wrap64 ((wrap64 (a1 * a0_2)) + a2)) then (if (wrap64 ((wrap64 (a1 * a0_2)) + a2)) < (l0_3.length : Int) then (some (rd l0_3 (wrap64 ((wrap64 (a1 * a0_2)) + a2)))) else (none)) else (none)) = some r := h
 clear h
 obtain ⟨ji4, hji4⟩ : ∃ j_ : Int, (wrap64 ((wrap64 (a1 * a0_2)) + a2)) = j_ := ⟨_, rfl⟩
 replace H : (if 0 ≤ (ji4) then (if (ji4) < (l0_3.length : Int) then (some (rd l0_3 (ji4))) else (none)) else (none)) = some r := by first | (rw [hji4] at H; exact H) | (simp only [hji4] at H ⊢; exact H)
 have hji4w : (IntKind.i64.wrap ((wrap64 (a1 * a0_2)) + a2)) = ji4 := (qA6 _).trans hji4
 have c5b0 := O3_ H
 replace H := O2_ H
 have c6b0 := O3_ H
 replace H := O2_ H
 obtain rfl := OI_ H
 go_enter Try.func99, Try.ntmps99
 go_wp2_with (first | ((with_reducible refine qAm (N := 3) rfl ?_); refine bx_ 3 #[.int .i64 a0_0, .int .i64 a0_1, .int .i64 a0_2, .slice A0_3 l0_3.length c0_3] 51 ?_; intro gb101 hg w7 hbox hb; have BK101 := Zz.mk (hbox); have GW101 := Zz.mk ((gw_ hg (B_ HB.out))); have GE101 := GW101; replace HB := Zz.mk (bT_ (B_ HB.out) hb); clear hb hbox hg; obtain ⟨hcz8_0, hcz8_1, hcz8_2, hcz8_3, hfz8_0, hfz8_1, hfz8_2, hfz8_3⟩ := Z4f_ BK101.out; have p102 : 0 ≤ ((ji4) : Int) := D_; have q102 : (ji4) < (l0_3.length : Int) := D_; obtain ⟨ad102, e102, hx102_0⟩ := Kd.at_int HR0_3.out (ji4) p102 q102; cases e102; replace hx102_0 := (HB.out.cell (World.block_lt_of_cell? w _ hx102_0)).trans hx102_0; replace p102 := eq_true p102; replace q102 := eq_true q102))
 go_ret
 exact ⟨by first | rfl | (simp [qBv, qBu] <;> rfl) | (simp only [← hji4]; first | rfl | (simp [qBv, qBu] <;> rfl)) | (simp [*, qBv, qBu] <;> rfl), B1_ HB.out GE101.out⟩
def z98.f (a0 : Int) (a1 : Int) (a2_0 : Int) (a2_1 : Int) (a2_2 : Int) (l2_3 : List Int) : Option (Int) := (z99.f a2_0 a2_1 a2_2 l2_3 a1 a0).bind fun t101 => (some t101)
theorem z98.calls (a0 : Int) (a1 : Int) (gp2 : Nat) (a2_0 : Int) (a2_1 : Int) (a2_2 : Int) (A2_3 : Option Addr) (c2_3 : Nat) (l2_3 : List Int) (r : Int) (w : World) (hbp2 : w.heap[gp2]? = some (.cells #[.int .i64 a2_0, .int .i64 a2_1, .int .i64 a2_2, .slice A2_3 l2_3.length c2_3] 51 (0, 0))) (hr2_3 : Kd.C (Kd.int .i64) w A2_3 l2_3.length l2_3) (hc2_3 : l2_3.length ≤ c2_3) (h : z98.f a0 a1 a2_0 a2_1 a2_2 l2_3 = some r) :
  Calls Try.prog 98 #[.int .i64 a0, .int .i64 a1, .pointer (some ⟨gp2, 0, none⟩)] w fun e w' => e = .returned (.int .i64 r) ∧ Below w.heap.size w w' := by
 have hu51 := Try.underlying51
 have HR2_3 := Zz.mk hr2_3
 have HC2_3 := Zz.mk hc2_3
 clear hr2_3 hc2_3
 have BK52 := Zz.mk hbp2
 clear hbp2
 have HB := Zz.mk (Below.refl w.heap.size w)
 have H : ((z99.f a2_0 a2_1 a2_2 l2_3 a1 a0).bind fun t101 => (some t101)) = some r := h
 clear h
 replace H := OZ_ H
 obtain ⟨t101, A4, H⟩ := H
 obtain rfl := OI_ H
 obtain ⟨hcz5_0, hcz5_1, hcz5_2, hcz5_3, hfz5_0, hfz5_1, hfz5_2, hfz5_3⟩ := Z4f_ BK52.out
 go_enter Try.func98, Try.ntmps98
 go_wp2_with (first | ((with_reducible refine gC_ (f := 99) rfl ?_); refine GL_ (some 9) rfl rfl Try.func99 #[.agg #[.int .i64 a2_0, .int .i64 a2_1, .int .i64 a2_2, .slice A2_3 l2_3.length c2_3], .int .i64 a1, .int .i64 a0] rfl (h := ?_); (with_reducible refine (z99.calls a2_0 a2_1 a2_2 _ _ l2_3 a1 a0 t101 _ ?side1 ?side2 A4.out).mono ?_); (case side1 => exact KC_ HR2_3.out); (case side2 => exact HC2_3.out); rintro e w6 ⟨rfl, hb⟩; refine ⟨_, rfl, ?_⟩; replace BK52 := Zz.mk (kb_ BK52.out hb); replace HB := Zz.mk (bT_ (B_ HB.out) hb); (try clear hb)))
 go_ret
 exact ⟨F_, B_ HB.out⟩
def z61.l0 : Nat → List (List Int) → List (List Int) → Int → Int → Option ((List (List Int)))
 | 0, _, _, _, _ => none
 | k + 1, x3, x6, x7, x8 => if x8 < x7 then (if 0 ≤ x8 then (if x8 < (x6.length : Int) then ((slices_Clone_int64_int64.f (rI_ x6 x8)).bind fun t102 => (if x3.length < 5864062014805 then (z61.l0 k (x3 ++ [t102]) x6 x7 (wrap64 (x8 + 1))) else (none))) else (none)) else (none)) else (some x3)
def z61.f (k : Nat) (l0 : List (List Int)) : Option ((List (List Int))) := z61.l0 k ([] : List (List Int)) l0 (l0.length : Int) 0
theorem z61.calls (k : Nat) (A0 : Option Addr) (c0 : Nat) (l0 : List (List Int)) (r : List (List Int)) (w : World) (hr0 : Kd.C (Kd.slice 2 (Kd.int .i64)) w A0 l0.length l0) (hc0 : l0.length ≤ c0) (h : z61.f k l0 = some r) :
  Calls Try.prog 61 #[.slice A0 l0.length c0] w fun e w' => ∃ v0_ : Value, e = .returned (v0_) ∧ Kd.S (Kd.slice 2 (Kd.int .i64)) 26 w' w.heap.size (fun _ => True) v0_ r ∧ Below w.heap.size w w' := by
 have HR0 := Zz.mk hr0
 have HC0 := Zz.mk hc0
 clear hr0 hc0
 have HB := Zz.mk (Below.refl w.heap.size w)
 have H : (z61.l0 k ([] : List (List Int)) l0 (l0.length : Int) 0) = some r := h
 clear h
 have H' := Zz.mk H
 clear H
 go_enter Try.func61, Try.ntmps61
 go_wp2
 go_loopg [3, 8] k (fun kq v3 v8 w' => ∃ (x3_1 : List (List Int)) (x8_1 : Int), v8 = .int .i64 x8_1 ∧ Zz (z61.l0 kq x3_1 l0 (l0.length : Int) x8_1 = some r) ∧ Zz (kq ≤ k) ∧ Zz (Kd.S (Kd.slice 2 (Kd.int .i64)) 26 w' w.heap.size (fun _ => True) v3 x3_1) ∧ Zz (Below w.heap.size w w'))
 case atStart => exact ⟨(([] : List (List Int))), (0), E_, H', ⟨Nat.le_refl _⟩, ⟨by first | exact Kd.S_nil _ _ _ _ _ | exact Kd.N_nil _ _ _ _ _ | exact Kd.V_nil _ _ _ _ _ | exact Kd.Q_nil _ _ _ _ _ | exact Kd.R_nil _ _ _ _ _⟩, ⟨B_ HB.out⟩⟩
 case round =>
  clear H'
  obtain ⟨x3_1, x8_1, rfl, HA, HK1, HO_3, HB⟩ := hrel
  cases gk with
  | zero => exact absurd HA.out (by simp [z61.l0])
  | succ k1 =>
   have H := HA.out
   clear HA
   simp only [z61.l0] at H
   by_cases c2 : x8_1 < (l0.length : Int)
   ·rw [if_pos c2] at H
    have c2b0 : decide (x8_1 < (l0.length : Int)) = true := decide_eq_true c2
    clear c2
    have c3b0 := O3_ H
    replace H := O2_ H
    have c4b0 := O3_ H
    replace H := O2_ H
    replace H := OZ_ H
    obtain ⟨t102, A5, H⟩ := H
    have c6 := O1_ H
    replace H := O2_ H
    have LMc6 := Zz.mk c6
    clear c6
    obtain ⟨y105, hy105⟩ : ∃ y_ : List (List Int), y_ = (x3_1 ++ [t102]) := ⟨_, rfl⟩
    replace H : (z61.l0 k1 y105 l0 (l0.length : Int) (wrap64 (x8_1 + 1))) = some r := Y_ hy105 H
    have Ny105 := Zz.mk hy105
    clear hy105
    have H' := Zz.mk H
    clear H
    have p101 : 0 ≤ (x8_1 : Int) := D_
    have q101 : x8_1 < (l0.length : Int) := D_
    obtain ⟨ad101, A101_0, c101_0, e101, hx101_0, hl101_0, hi101_0⟩ := qAp HR0.out x8_1 p101 q101
    cases e101
    replace hx101_0 := (HB.out.cell (World.block_lt_of_cell? w _ hx101_0)).trans hx101_0
    have HR101_0 := Zz.mk hi101_0
    have HC101_0 := Zz.mk hl101_0
    clear hi101_0 hl101_0
    replace p101 := eq_true p101
    replace q101 := eq_true q101
    go_wp2_with (first | ((with_reducible refine gC_ (f := 84) rfl ?_); refine GL_ (some 14) rfl rfl Try.func84 #[.slice A101_0 (rI_ l0 x8_1).length c101_0] rfl (h := ?_); (with_reducible refine (slices_Clone_int64_int64.calls _ _ (rI_ l0 x8_1) t102 _ ?side1 ?side2 A5.out).mono ?_); (case side1 => exact KC_ (Kd.C_below HR101_0.out HB.out)); (case side2 => exact HC101_0.out); rintro e w7 ⟨v103, rfl, ho0, hb⟩; refine ⟨_, rfl, ?_⟩; replace HO_3 := Zz.mk (Kd.S_elder' (KS_ HO_3.out) (Kd.R_base ho0) hb); have HO104 := Zz.mk (Kd.R_lower ho0 (bS_ (B_ HB.out))); replace HB := Zz.mk (bT_ (B_ HB.out) hb); (try clear hb); (try clear ho0); obtain ⟨Ao9, co9, eo9⟩ := Kd.R_slice HO104.out; subst eo9) | ((with_reducible refine qAv (b := .append) (xs := #[.tmp 12, .tmp 15]) rfl ?_); at_builtin; refine Kd.S_append (Kd.slice 2 (Kd.int .i64)) (w0 := w) w.heap.size rfl (.tmp 12) (.tmp 15) 22 26 (.slice none 0 0) 24 rfl Try.underlying22 qDm rfl (by decide) (by omega) u3 x3_1 t102 [.slice Ao9 t102.length co9] (fun _ => True) (fun k_ => some k_ = (.slice Ao9 t102.length co9 : Value).ownBlock) rfl rfl ?aP (fun k_ hk_ => ((Kd.R_mono (ok' := fun k_ => ((fun _ => True)) k_ ∧ some k_ ≠ (u3 : Value).ownBlock) (Kd.R_apart' (HO104.out) (Kd.S_typed HO_3.out) (by decide)) (fun k_ hk => ⟨trivial, hk.2⟩))).1 k_ hk_.symm) ?aF ?aO ?aB ?aS ?aL ?_; (case aP => exact Kd.M_row (Kd.R_mono (Kd.R_tight rfl (Kd.R_mono (ok' := fun k_ => ((fun _ => True)) k_ ∧ some k_ ≠ (u3 : Value).ownBlock) (Kd.R_apart' (HO104.out) (Kd.S_typed HO_3.out) (by decide)) (fun k_ hk => ⟨trivial, hk.2⟩))) (fun _ h_ => h_))); (case aB => exact (B_ HB.out)); (case aF => exact (fun _ _ => trivial)); (case aO => exact (by refine SW_ ?_; exact Kd.S_mono HO_3.out (fun k_ hk => ⟨trivial, fun e_ => hk.2 e_⟩))); (case aS => exact (bS_ (B_ HB.out))); (case aL => have := LMc6.out; omega); intro v106 w8 ho hb hg hat; rw [← Ny105.out] at ho; replace HB := Zz.mk (hb); have HO107 := Zz.mk (ho); clear HO_3; clear HO104; clear ho hb hg hat))
    go_roundg k1
    case measure => exact Q1_ HK1
    case rel => exact ⟨(y105), (wrap64 (x8_1 + 1)), E_, H', ⟨Q1_ HK1⟩, ⟨KS_ HO107.out⟩, ⟨B_ HB.out⟩⟩
   rw [if_neg c2] at H
   have c2b0 : decide (x8_1 < (l0.length : Int)) = false := decide_eq_false c2
   clear c2
   obtain rfl := OI_ H
   go_wp2
   go_ret
   exact ⟨_, F_, KS_ HO_3.out, B_ HB.out⟩
end Go.Proofs.Ytpgjfppbbbnclaa.B
/- More words of this work's own for the printed proofs. -/
namespace Go.Proofs.YtpgjfppbbbnclaaW.PrintWords.Kd
open Go.RowKit
section
variable {α : Type} {d : Kd α} {e base n B g t : Nat} {ok : Nat → Prop} {W w1 : World} {u v : Value} {xs : List α}
theorem S_typesT (h : S d e W base ok v xs) {t : Nat} {v' : Value} (hb : ∀ k, v'.ownBlock = some k → ∃ cells, W.heap[k]? = some (.cells cells t (0, 0))) (hv : v'.ownBlock = some g) (ht : ∀ q, q ∈ e :: d.E → q ≠ t) : S d e W base (fun k => ok k ∧ k ≠ g) v xs := by
  obtain ⟨_, h'⟩ := hb g hv; exact S_types h h' ht
theorem R_typesT (h : d.R e W base ok v xs) {t : Nat} {v' : Value} (hb : ∀ k, v'.ownBlock = some k → ∃ cells, W.heap[k]? = some (.cells cells t (0, 0))) (hv : v'.ownBlock = some g) (ht : ∀ q, q ∈ e :: d.E → q ≠ t) : d.R e W base (fun k => ok k ∧ k ≠ g) v xs := by
  obtain ⟨_, h'⟩ := hb g hv; exact R_types h h' ht
end
end Go.Proofs.YtpgjfppbbbnclaaW.PrintWords.Kd
namespace Go.Proofs.Ytpgjfppbbbnclaa.B
open Go.RowKit Go.Proofs.YtpgjfppbbbnclaaW.PrintWords Go.Proofs.YtpgjfppbbbnclaaW.PrintLast Go.Proofs.YtpgjfppbbbnclaaW.PrintMore
attribute [local go_sem] qAh qAf qAl qAk qAc qAb qAg qAe
set_option linter.unusedVariables false
set_option linter.unusedSimpArgs false
def z88.l0 : Nat → List Int → List Int → Int → Int → List Int → Int → Int → Option (List Int)
 | 0, _, _, _, _, _, _, _ => none
 | k + 1, x0, x1, x2, x3, x9, x12, x13 => if x13 < x12 then (if 0 ≤ x13 then (if x13 < (x0.length : Int) then (if x13 < (x1.length : Int) then (if x3 = 0 then (none) else (if x9.length < 17592186044416 then (z88.l0 k x0 x1 x2 x3 (x9 ++ [Int.tmod (wrap64 ((rd x0 x13) + (wrap64 (x2 * (rd x1 x13))))) x3]) x12 (wrap64 (x13 + 1))) else (none))) else (none)) else (none)) else (none)) else (some x9)
def z88.f (k : Nat) (l0 : List Int) (l1 : List Int) (a2 : Int) (a3 : Int) : Option (List Int) := z88.l0 k l0 l1 a2 a3 ([] : List Int) (l0.length : Int) 0
def z88.T5 : Bool × List (List Nat × List Nat) := (true, [([], []), ([], []), ([], []), ([1, 2], [1, 2]), ([3], [3]), ([], []), ([], []), ([], []), ([6, 7], [6, 7]), ([8], [8]), ([5, 9], [5, 9]), ([4, 10], [4, 10]), ([], []), ([11, 12], [11, 12]), ([13], [13]), ([0, 14], [0, 14]), ([15, 15, 0, 1, 2, 3, 4, 5, 6, 7, 8, 9, 10, 11, 12, 13, 14, 15], [0, 15])])
def z88.B5 : List Nat := [0, 0, 0, 6, 14, 0, 0, 0, 192, 448, 992, 2046, 0, 8190, 16382, 32767, 65535]
theorem z88.tab5 : rtab .any (qC4 Try.f88 5) = z88.T5 := by kernel_rfl
theorem z88.bits5 : qBe z88.T5.2 z88.B5 = true := by kernel_rfl
theorem z88.calls (k : Nat) (A0 : Option Addr) (c0 : Nat) (l0 : List Int) (A1 : Option Addr) (c1 : Nat) (l1 : List Int) (a2 : Int) (a3 : Int) (r : List Int) (w : World) (hr0 : Kd.C (Kd.int .i64) w A0 l0.length l0) (hc0 : l0.length ≤ c0) (hr1 : Kd.C (Kd.int .i64) w A1 l1.length l1) (hc1 : l1.length ≤ c1) (h : z88.f k l0 l1 a2 a3 = some r) :
  Calls Try.prog 88 #[.slice A0 l0.length c0, .slice A1 l1.length c1, .int .i64 a2, .int .i64 a3] w fun e w' => ∃ v0_ : Value, e = .returned (v0_) ∧ Kd.R (Kd.int .i64) 2 w' w.heap.size (fun _ => True) v0_ r ∧ Below w.heap.size w w' := by
 have HR0 := Zz.mk hr0
 have HC0 := Zz.mk hc0
 clear hr0 hc0
 have HR1 := Zz.mk hr1
 have HC1 := Zz.mk hc1
 clear hr1 hc1
 have HB := Zz.mk (Below.refl w.heap.size w)
 have H : (z88.l0 k l0 l1 a2 a3 ([] : List Int) (l0.length : Int) 0) = some r := h
 clear h
 have H' := Zz.mk H
 clear H
 go_enter Try.func88, Try.ntmps88
 go_wp2
 go_loopg [9, 13] k (fun kq v9 v13 w' => ∃ (x9_1 : List Int) (x13_1 : Int), v13 = .int .i64 x13_1 ∧ Zz (z88.l0 kq l0 l1 a2 a3 x9_1 (l0.length : Int) x13_1 = some r) ∧ Zz (kq ≤ k) ∧ Zz (Kd.R (Kd.int .i64) 2 w' w.heap.size (fun _ => True) v9 x9_1) ∧ Zz (Below w.heap.size w w'))
 case atStart => exact ⟨(([] : List Int)), (0), E_, H', ⟨Nat.le_refl _⟩, ⟨by first | exact Kd.R_nil _ _ _ _ _ | exact Kd.N_nil _ _ _ _ _ | exact Kd.V_nil _ _ _ _ _ | exact Kd.Q_nil _ _ _ _ _ | exact Kd.S_nil _ _ _ _ _⟩, ⟨B_ HB.out⟩⟩
 case round =>
  clear H'
  (try clear c1)
  obtain ⟨x9_1, x13_1, rfl, HA, HK1, HO_9, HB⟩ := hrel
  cases gk with
  | zero => exact absurd HA.out (by simp [z88.l0])
  | succ k1 =>
   have H := HA.out
   clear HA
   simp only [z88.l0] at H
   by_cases c5 : x13_1 < (l0.length : Int)
   ·rw [if_pos c5] at H
    have c5b0 : decide (x13_1 < (l0.length : Int)) = true := decide_eq_true c5
    clear c5
    have c6b0 := O3_ H
    replace H := O2_ H
    have c7b0 := O3_ H
    replace H := O2_ H
    have c8b0 := O3_ H
    replace H := O2_ H
    by_cases c9 : a3 = 0
    ·rw [if_pos c9] at H
     exact X_ H
    rw [if_neg c9] at H
    have c9b0 : (a3 == 0) = false := beq_eq_false_iff_ne.mpr c9
    have c9b1 : (a3 != 0) = true := bne_iff_ne.mpr c9
    have c10 := O1_ H
    replace H := O2_ H
    have LMc10 := Zz.mk c10
    clear c10
    obtain ⟨y103, hy103⟩ : ∃ y_ : List Int, y_ = (x9_1 ++ [Int.tmod (wrap64 ((rd l0 x13_1) + (wrap64 (a2 * (rd l1 x13_1))))) a3]) := ⟨_, rfl⟩
    replace H : (z88.l0 k1 l0 l1 a2 a3 y103 (l0.length : Int) (wrap64 (x13_1 + 1))) = some r := Y_ hy103 H
    have Ny103 := Zz.mk hy103
    clear hy103
    have H' := Zz.mk H
    clear H
    try go_wp2
    replace HO_9 := Zz.mk (Kd.R_drew HO_9.out)
    replace HB := Zz.mk (qAq HB.out)
    have p101 : 0 ≤ (x13_1 : Int) := D_
    have q101 : x13_1 < (l0.length : Int) := D_
    obtain ⟨ad101, e101, hx101_0⟩ := Kd.at_int HR0.out x13_1 p101 q101
    have hw101_0 := hx101_0
    cases e101
    replace hx101_0 := (HB.out.cell (World.block_lt_of_cell? w _ hx101_0)).trans hx101_0
    replace p101 := eq_true p101
    replace q101 := eq_true q101
    have p102 : 0 ≤ (x13_1 : Int) := D_
    have q102 : x13_1 < (l1.length : Int) := D_
    obtain ⟨ad102, e102, hx102_0⟩ := Kd.at_int HR1.out x13_1 p102 q102
    have hw102_0 := hx102_0
    cases e102
    replace hx102_0 := (HB.out.cell (World.block_lt_of_cell? w _ hx102_0)).trans hx102_0
    replace p102 := eq_true p102
    replace q102 := eq_true q102
    refine qBx (n := 17) (S := fun w' => w'.cell? (ad101.add (x13_1).toNat) = some (.int .i64 (rd l0 x13_1)) ∧ w'.cell? (ad102.add (x13_1).toNat) = some (.int .i64 (rd l1 x13_1))) (ds := []) (tb_ 17 0) (by kernel_rfl) rfl rfl ⟨((HB.out.cell (World.block_lt_of_cell? w _ hw101_0)).trans hw101_0), ((HB.out.cell (World.block_lt_of_cell? w _ hw102_0)).trans hw102_0)⟩ (fun hHeld => ?_); refine qA7 z88.tab5 z88.bits5 (fun HT_ HW_ => ?_)
    generalize wr.drew = w11 at HO_9 HB hx101_0 hx102_0 hHeld ⊢
    refine PX_ 0 16 (tb_ 17 1) HT_ rfl rfl ?_
    refine PX_ 1 17 (tb_ 17 3) HT_ rfl rfl ?_
    refine PX_ 2 18 (tb_ 17 7) HT_ rfl rfl ?_
    refine PX_ 3 19 (tb_ 17 15) HT_ rfl rfl ?_
    refine PX_ 5 21 (tb_ 17 47) HT_ rfl rfl ?_
    refine PX_ 6 22 (tb_ 17 111) HT_ rfl rfl ?_
    refine PX_ 7 23 (tb_ 17 239) HT_ rfl rfl ?_
    refine PX_ 8 24 (tb_ 17 495) HT_ rfl rfl ?_
    refine PX_ 12 28 (tb_ 17 4591) HT_ rfl rfl ?_
    refine TV_ (i := 4) (N := some 20) (tb_ 17 4607) HT_ HW_ rfl rfl hHeld (by rintro w' ⟨s0, s1⟩; go_simp; with_reducible rfl) (h := ?_)
    refine TV_ (i := 9) (N := some 25) (tb_ 17 5119) HT_ HW_ rfl rfl hHeld (by rintro w' ⟨s0, s1⟩; go_simp; with_reducible rfl) (h := ?_)
    refine PX_ 10 26 (tb_ 17 6143) HT_ rfl rfl ?_
    refine PX_ 11 27 (tb_ 17 8191) HT_ rfl rfl ?_
    refine PX_ 13 29 (tb_ 17 16383) HT_ rfl rfl ?_
    refine one_ (i := 14) (N := some 30) (tb_ 17 32767) rfl rfl (qA5 HT_.out (by kernel_rfl)) (by decide) (fun K hK => ?_)
    refine qKh (w1 := ?_) (v := ?_) (by rfl) rfl ?_ ?_
    rotate_left 2
    ·go_simp
     constructor
     ·rfl
     rfl
    refine hK.out _ _ ⟨(World.cell?_alloc_lt _ _ _ (World.block_lt_of_cell? _ _ (((HB.out.cell (World.block_lt_of_cell? w _ hw101_0)).trans hw101_0)))).trans (((HB.out.cell (World.block_lt_of_cell? w _ hw101_0)).trans hw101_0)), (World.cell?_alloc_lt _ _ _ (World.block_lt_of_cell? _ _ (((HB.out.cell (World.block_lt_of_cell? w _ hw102_0)).trans hw102_0)))).trans (((HB.out.cell (World.block_lt_of_cell? w _ hw102_0)).trans hw102_0))⟩ (fun hHeld => ?_)
    clear hK K
    refine NM_ (N := (some 30)) (h := ?_)
    refine one_ (i := 15) (N := some 31) (tb_ 17 65535) rfl rfl (qA5 HT_.out (by kernel_rfl)) (by decide) (fun K hK => ?_)
    refine Kd.R_append_step (Kd.int .i64) (w0 := w) w.heap.size (by rfl) (.tmp 16) (.tmp 30) 26 2 (.int .i64 0) 8 rfl Try.underlying26 qB9 rfl (by decide) (by omega) u9 x9_1 (Int.tmod (wrap64 ((rd l0 x13_1) + (wrap64 (a2 * (rd l1 x13_1))))) a3) [.int .i64 (Int.tmod (wrap64 ((rd l0 x13_1) + (wrap64 (a2 * (rd l1 x13_1))))) a3)] (fun _ => True) (fun _ => False) rfl rfl ?aP (fun _ hk => hk.elim) ?aF ?aO ?aB ?aS ?aL ?_
    (case aP => exact rfl)
    (case aB => exact (B_ HB.out))
    (case aF => exact (fun _ _ => trivial))
    (case aO => exact (KR_ HO_9.out))
    (case aS => exact (bS_ (B_ HB.out)))
    (case aL => have := LMc10.out; omega)
    intro v104 w12 ho hb hg hat
    rw [← Ny103.out] at ho
    replace HB := Zz.mk (hb)
    have HO105 := Zz.mk (ho)
    clear HO_9
    clear ho hb hg hat
    refine hK.out _ _ ⟨((HB.out.cell (World.block_lt_of_cell? w _ hw101_0)).trans hw101_0), ((HB.out.cell (World.block_lt_of_cell? w _ hw102_0)).trans hw102_0)⟩ (fun hHeld => ?_)
    clear hK K
    refine NM_ (N := (some 31)) (h := ?_)
    refine PX_ 16 9 (tb_ 17 131071) HT_ rfl rfl ?_
    refine qCp (qBq HT_.out (by kernel_rfl)) ?_
    try go_wp2
    go_roundg k1
    case measure => exact Q1_ HK1
    case rel => exact ⟨(y103), (wrap64 (x13_1 + 1)), E_, H', ⟨Q1_ HK1⟩, ⟨KR_ HO105.out⟩, ⟨B_ HB.out⟩⟩
   rw [if_neg c5] at H
   have c5b0 : decide (x13_1 < (l0.length : Int)) = false := decide_eq_false c5
   clear c5
   obtain rfl := OI_ H
   go_wp2
   go_ret
   exact ⟨_, F_, KR_ HO_9.out, B_ HB.out⟩
def z100.l0 : Nat → Int → Int → Int → Int → Option (Int)
 | 0, _, _, _, _ => none
 | k + 1, x0, x1, x2, x7 => if x1 > 0 then (if (Int.tmod x1 2) = 1 then (if x2 = 0 then (none) else (z100.l0 k (Int.tmod (wrap64 (x0 * x0)) x2) (wrap64 (Int.tdiv x1 2)) x2 (Int.tmod (wrap64 (x7 * x0)) x2))) else (if x2 = 0 then (none) else (z100.l0 k (Int.tmod (wrap64 (x0 * x0)) x2) (wrap64 (Int.tdiv x1 2)) x2 x7))) else (some x7)
def z100.f (k : Nat) (a0 : Int) (a1 : Int) (a2 : Int) : Option (Int) := z100.l0 k a0 a1 a2 1
theorem z100.calls (k : Nat) (a0 : Int) (a1 : Int) (a2 : Int) (r : Int) (w : World) (h : z100.f k a0 a1 a2 = some r) :
  Calls Try.prog 100 #[.int .i64 a0, .int .i64 a1, .int .i64 a2] w fun e w' => e = .returned (.int .i64 r) ∧ Dz w w' := by
 have H : (z100.l0 k a0 a1 a2 1) = some r := h
 clear h
 have H' := Zz.mk H
 clear H
 go_enter Try.func100, Try.ntmps100
 go_wp2
 go_loopg [0, 1, 7] k (fun kq v0 v1 v7 w' => ∃ (x0_1 : Int) (x1_1 : Int) (x7_1 : Int), v0 = .int .i64 x0_1 ∧ v1 = .int .i64 x1_1 ∧ v7 = .int .i64 x7_1 ∧ Zz (z100.l0 kq x0_1 x1_1 a2 x7_1 = some r) ∧ Zz (kq ≤ k) ∧ Dz w w')
 case atStart => exact ⟨(a0), (a1), (1), E_, E_, E_, H', ⟨Nat.le_refl _⟩, by repeat (first | exact Dz.refl _ | apply Dz.step)⟩
 case round =>
  clear H'
  obtain ⟨x0_1, x1_1, x7_1, rfl, rfl, rfl, HA, HK1, ⟨m1, rfl⟩⟩ := hrel
  cases gk with
  | zero => exact absurd HA.out (by simp [z100.l0])
  | succ k1 =>
   have H := HA.out
   clear HA
   simp only [z100.l0] at H
   by_cases c4 : x1_1 > 0
   ·rw [if_pos c4] at H
    have c4b0 : decide (0 < x1_1) = true := decide_eq_true c4
    clear c4
    by_cases c5 : (Int.tmod x1_1 2) = 1
    ·rw [if_pos c5] at H
     have c5b0 : ((Int.tmod x1_1 2) == 1) = true := beq_iff_eq.mpr c5
     have c5b1 : ((Int.tmod x1_1 2) != 1) = false := bne_eq_false_iff_eq.mpr c5
     clear c5
     by_cases c6 : a2 = 0
     ·rw [if_pos c6] at H
      exact X_ H
     rw [if_neg c6] at H
     have c6b0 : (a2 == 0) = false := beq_eq_false_iff_ne.mpr c6
     have c6b1 : (a2 != 0) = true := bne_iff_ne.mpr c6
     have H' := Zz.mk H
     clear H
     go_wp2
     go_roundg k1
     case measure => exact Q1_ HK1
     case rel => exact ⟨(Int.tmod (wrap64 (x0_1 * x0_1)) a2), (wrap64 (Int.tdiv x1_1 2)), (Int.tmod (wrap64 (x7_1 * x0_1)) a2), E_, E_, E_, H', ⟨Q1_ HK1⟩, by repeat (first | exact Dz.refl _ | apply Dz.step)⟩
    rw [if_neg c5] at H
    have c5b0 : ((Int.tmod x1_1 2) == 1) = false := beq_eq_false_iff_ne.mpr c5
    have c5b1 : ((Int.tmod x1_1 2) != 1) = true := bne_iff_ne.mpr c5
    by_cases c7 : a2 = 0
    ·rw [if_pos c7] at H
     exact X_ H
    rw [if_neg c7] at H
    have c7b0 : (a2 == 0) = false := beq_eq_false_iff_ne.mpr c7
    have c7b1 : (a2 != 0) = true := bne_iff_ne.mpr c7
    have H' := Zz.mk H
    clear H
    go_wp2
    go_roundg k1
    case measure => exact Q1_ HK1
    case rel => exact ⟨(Int.tmod (wrap64 (x0_1 * x0_1)) a2), (wrap64 (Int.tdiv x1_1 2)), (x7_1), E_, E_, E_, H', ⟨Q1_ HK1⟩, by repeat (first | exact Dz.refl _ | apply Dz.step)⟩
   rw [if_neg c4] at H
   have c4b0 : decide (0 < x1_1) = false := decide_eq_false c4
   clear c4
   obtain rfl := OI_ H
   go_wp2
   go_ret
   exact eD_
def z89.f (k : Nat) (a0 : Int) (a1 : Int) : Option (Int) := (z100.f k a0 (wrap64 (a1 - 2)) a1).bind fun t101 => (some t101)
theorem z89.calls (k : Nat) (a0 : Int) (a1 : Int) (r : Int) (w : World) (h : z89.f k a0 a1 = some r) :
  Calls Try.prog 89 #[.int .i64 a0, .int .i64 a1] w fun e w' => e = .returned (.int .i64 r) ∧ Dz w w' := by
 have H : ((z100.f k a0 (wrap64 (a1 - 2)) a1).bind fun t101 => (some t101)) = some r := h
 clear h
 replace H := OZ_ H
 obtain ⟨t101, A3, H⟩ := H
 obtain rfl := OI_ H
 go_enter Try.func89, Try.ntmps89
 go_wp2_with (first | ((with_reducible refine gC_ (f := 100) rfl ?_); refine GL_ (some 9) rfl rfl Try.func100 #[.int .i64 a0, .int .i64 (wrap64 (a1 - 2)), .int .i64 a1] rfl (h := ?_); (with_reducible refine (z100.calls k a0 (wrap64 (a1 - 2)) a1 t101 _ A3.out).mono ?_); rintro e w' ⟨rfl, ⟨nd, rfl⟩⟩; refine ⟨_, rfl, ?_⟩))
 go_ret
 exact eD_
def z66.f (a0 : Int) (a1 : Int) : Option (Int) := if a1 = 0 then (none) else (some (Int.tmod (wrap64 ((Int.tmod a0 a1) + a1)) a1))
theorem z66.calls (a0 : Int) (a1 : Int) (r : Int) (w : World) (h : z66.f a0 a1 = some r) :
  Calls Try.prog 66 #[.int .i64 a0, .int .i64 a1] w fun e w' => e = .returned (.int .i64 r) ∧ Dz w w' := by
 have H : (if a1 = 0 then (none) else (some (Int.tmod (wrap64 ((Int.tmod a0 a1) + a1)) a1))) = some r := h
 clear h
 by_cases c3 : a1 = 0
 ·rw [if_pos c3] at H
  exact X_ H
 rw [if_neg c3] at H
 have c3b0 : (a1 == 0) = false := beq_eq_false_iff_ne.mpr c3
 have c3b1 : (a1 != 0) = true := bne_iff_ne.mpr c3
 obtain rfl := OI_ H
 go_enter Try.func66, Try.ntmps66
 go_wp2
 go_ret
 exact eD_
def z87.f (l0 : List Int) (a1_0 : Int) : Option (Bool) := if 0 ≤ a1_0 then (if a1_0 < (l0.length : Int) then (some ((rd l0 a1_0) != 0)) else (none)) else (none)
theorem z87.calls (A0 : Option Addr) (c0 : Nat) (l0 : List Int) (gp1 : Nat) (a1_0 : Int) (r : Bool) (w : World) (hbp1 : w.heap[gp1]? = some (.cells #[.int .i64 a1_0] 2 (0, 0))) (hr0 : Kd.C (Kd.int .i64) w A0 l0.length l0) (hc0 : l0.length ≤ c0) (h : z87.f l0 a1_0 = some r) :
  Calls Try.prog 87 #[.slice A0 l0.length c0, .pointer (some ⟨gp1, 0, none⟩)] w fun e w' => e = .returned (.bool r) ∧ Dz w w' := by
 have HR0 := Zz.mk hr0
 have HC0 := Zz.mk hc0
 clear hr0 hc0
 have BK51 := Zz.mk hbp1
 clear hbp1
 have H : (if 0 ≤ a1_0 then (if a1_0 < (l0.length : Int) then (some ((rd l0 a1_0) != 0)) else (none)) else (none)) = some r := h
 clear h
 have c3b0 := O3_ H
 replace H := O2_ H
 have c4b0 := O3_ H
 replace H := O2_ H
 obtain rfl := OI_ H
 obtain ⟨hcz5_0, hfz5_0⟩ := Z1f_ BK51.out
 have p101 : 0 ≤ (a1_0 : Int) := D_
 have q101 : a1_0 < (l0.length : Int) := D_
 obtain ⟨ad101, e101, hx101_0⟩ := Kd.at_int HR0.out a1_0 p101 q101
 cases e101
 replace p101 := eq_true p101
 replace q101 := eq_true q101
 go_enter Try.func87, Try.ntmps87
 go_wp2
 go_ret
 exact eD_
def z127.l0 : Nat → List (List Int) → Int → Int → Int → Option (Int)
 | 0, _, _, _, _ => none
 | k + 1, x0, x7, x8, x69000 => if x8 < x7 then (if 0 ≤ x8 then (if x8 < (x0.length : Int) then ((z87.f (rI_ x0 x8) x69000).bind fun t102 => (if t102 = true then (some x8) else (z127.l0 k x0 x7 (wrap64 (x8 + 1)) x69000))) else (none)) else (none)) else (some (-1))
def z127.f (k : Nat) (l0 : List (List Int)) (a1_0 : Int) : Option (Int) := z127.l0 k l0 (l0.length : Int) 0 a1_0
theorem z127.calls (k : Nat) (A0 : Option Addr) (c0 : Nat) (l0 : List (List Int)) (gp1_0 : Nat) (a1_0 : Int) (r : Int) (w : World) (hbp1_0 : w.heap[gp1_0]? = some (.cells #[.int .i64 a1_0] 2 (0, 0))) (hr0 : Kd.C (Kd.slice 2 (Kd.int .i64)) w A0 l0.length l0) (hc0 : l0.length ≤ c0) (h : z127.f k l0 a1_0 = some r) :
  Calls Try.prog 80 #[.slice A0 l0.length c0, .func (.func 87) #[] #[.pointer (some ⟨gp1_0, 0, none⟩)]] w fun e w' => e = .returned (.int .i64 r) ∧ Below w.heap.size w w' := by
 have HR0 := Zz.mk hr0
 have HC0 := Zz.mk hc0
 clear hr0 hc0
 have BK68 := Zz.mk hbp1_0
 clear hbp1_0
 have HB := Zz.mk (Below.refl w.heap.size w)
 have H : (z127.l0 k l0 (l0.length : Int) 0 a1_0) = some r := h
 clear h
 have H' := Zz.mk H
 clear H
 go_enter Try.func80, Try.ntmps80
 go_wp2
 go_loopg [8] k (fun kq v8 w' => ∃ (x8_1 : Int), v8 = .int .i64 x8_1 ∧ Zz (z127.l0 kq l0 (l0.length : Int) x8_1 a1_0 = some r) ∧ Zz (kq ≤ k) ∧ Zz (w'.heap[gp1_0]? = some (.cells #[.int .i64 a1_0] 2 (0, 0))) ∧ Zz (Below w.heap.size w w'))
 case atStart => exact ⟨(0), E_, H', ⟨Nat.le_refl _⟩, ⟨KB_ BK68.out⟩, ⟨B_ HB.out⟩⟩
 case round =>
  clear H'
  obtain ⟨x8_1, rfl, HA, HK1, BK68, HB⟩ := hrel
  cases gk with
  | zero => exact absurd HA.out (by simp [z127.l0])
  | succ k1 =>
   have H := HA.out
   clear HA
   simp only [z127.l0] at H
   by_cases c3 : x8_1 < (l0.length : Int)
   ·rw [if_pos c3] at H
    have c3b0 : decide (x8_1 < (l0.length : Int)) = true := decide_eq_true c3
    clear c3
    have c4b0 := O3_ H
    replace H := O2_ H
    have c5b0 := O3_ H
    replace H := O2_ H
    replace H := OZ_ H
    obtain ⟨t102, A6, H⟩ := H
    by_cases c7 : t102 = true
    ·subst c7
     replace H := T_ H
     obtain rfl := OI_ H
     have p101 : 0 ≤ (x8_1 : Int) := D_
     have q101 : x8_1 < (l0.length : Int) := D_
     obtain ⟨ad101, A101_0, c101_0, e101, hx101_0, hl101_0, hi101_0⟩ := qAp HR0.out x8_1 p101 q101
     cases e101
     replace hx101_0 := (HB.out.cell (World.block_lt_of_cell? w _ hx101_0)).trans hx101_0
     have HR101_0 := Zz.mk hi101_0
     have HC101_0 := Zz.mk hl101_0
     clear hi101_0 hl101_0
     replace p101 := eq_true p101
     replace q101 := eq_true q101
     go_wp2_with (first | (go_at_call 87; (with_reducible refine (z87.calls _ _ (rI_ l0 x8_1) gp1_0 a1_0 true _ ?side1 ?side2 ?side3 A6.out).mono ?_); (case side1 => refine BW_ ?_; exact BK68.out); (case side2 => exact KC_ (Kd.C_below HR101_0.out HB.out)); (case side3 => exact HC101_0.out); rintro e w' ⟨rfl, ⟨nd, rfl⟩⟩))
     go_ret
     exact ⟨F_, B_ HB.out⟩
    replace c7 := Bool.eq_false_iff.mpr c7
    subst c7
    replace H := N_ H
    have H' := Zz.mk H
    clear H
    have p101 : 0 ≤ (x8_1 : Int) := D_
    have q101 : x8_1 < (l0.length : Int) := D_
    obtain ⟨ad101, A101_0, c101_0, e101, hx101_0, hl101_0, hi101_0⟩ := qAp HR0.out x8_1 p101 q101
    cases e101
    replace hx101_0 := (HB.out.cell (World.block_lt_of_cell? w _ hx101_0)).trans hx101_0
    have HR101_0 := Zz.mk hi101_0
    have HC101_0 := Zz.mk hl101_0
    clear hi101_0 hl101_0
    replace p101 := eq_true p101
    replace q101 := eq_true q101
    go_wp2_with (first | (go_at_call 87; (with_reducible refine (z87.calls _ _ (rI_ l0 x8_1) gp1_0 a1_0 false _ ?side1 ?side2 ?side3 A6.out).mono ?_); (case side1 => refine BW_ ?_; exact BK68.out); (case side2 => exact KC_ (Kd.C_below HR101_0.out HB.out)); (case side3 => exact HC101_0.out); rintro e w' ⟨rfl, ⟨nd, rfl⟩⟩))
    go_roundg k1
    case measure => exact Q1_ HK1
    case rel => exact ⟨(wrap64 (x8_1 + 1)), E_, H', ⟨Q1_ HK1⟩, ⟨KB_ BK68.out⟩, ⟨B_ HB.out⟩⟩
   rw [if_neg c3] at H
   have c3b0 : decide (x8_1 < (l0.length : Int)) = false := decide_eq_false c3
   clear c3
   obtain rfl := OI_ H
   go_wp2
   go_ret
   exact ⟨F_, B_ HB.out⟩
def z103.f (a0 : Int) : Option (Bool) := some (a0 != 0)
theorem z103.calls (a0 : Int) (r : Bool) (w : World) (h : z103.f a0 = some r) :
  Calls Try.prog 103 #[.int .i64 a0] w fun e w' => e = .returned (.bool r) ∧ Dz w w' := by
 have H : (some (a0 != 0)) = some r := h
 clear h
 obtain rfl := OI_ H
 go_enter Try.func103, Try.ntmps103
 go_wp2
 go_ret
 exact eD_
def z130.l0 : Nat → List Int → Int → Int → Option (Int)
 | 0, _, _, _ => none
 | k + 1, x0, x7, x8 => if x8 < x7 then (if 0 ≤ x8 then (if x8 < (x0.length : Int) then ((z103.f (rd x0 x8)).bind fun t102 => (if t102 = true then (some x8) else (z130.l0 k x0 x7 (wrap64 (x8 + 1))))) else (none)) else (none)) else (some (-1))
def z130.f (k : Nat) (l0 : List Int)  : Option (Int) := z130.l0 k l0 (l0.length : Int) 0
theorem z130.calls (k : Nat) (A0 : Option Addr) (c0 : Nat) (l0 : List Int)  (r : Int) (w : World) (hr0 : Kd.C (Kd.int .i64) w A0 l0.length l0) (hc0 : l0.length ≤ c0) (h : z130.f k l0 = some r) :
  Calls Try.prog 92 #[.slice A0 l0.length c0, .func (.func 103) #[] #[]] w fun e w' => e = .returned (.int .i64 r) ∧ Below w.heap.size w w' := by
 have HR0 := Zz.mk hr0
 have HC0 := Zz.mk hc0
 clear hr0 hc0
 have HB := Zz.mk (Below.refl w.heap.size w)
 have H : (z130.l0 k l0 (l0.length : Int) 0) = some r := h
 clear h
 have H' := Zz.mk H
 clear H
 go_enter Try.func92, Try.ntmps92
 go_wp2
 go_loopg [8] k (fun kq v8 w' => ∃ (x8_1 : Int), v8 = .int .i64 x8_1 ∧ Zz (z130.l0 kq l0 (l0.length : Int) x8_1 = some r) ∧ Zz (kq ≤ k) ∧ Zz (Below w.heap.size w w'))
 case atStart => exact ⟨(0), E_, H', ⟨Nat.le_refl _⟩, ⟨B_ HB.out⟩⟩
 case round =>
  clear H'
  obtain ⟨x8_1, rfl, HA, HK1, HB⟩ := hrel
  cases gk with
  | zero => exact absurd HA.out (by simp [z130.l0])
  | succ k1 =>
   have H := HA.out
   clear HA
   simp only [z130.l0] at H
   by_cases c3 : x8_1 < (l0.length : Int)
   ·rw [if_pos c3] at H
    have c3b0 : decide (x8_1 < (l0.length : Int)) = true := decide_eq_true c3
    clear c3
    have c4b0 := O3_ H
    replace H := O2_ H
    have c5b0 := O3_ H
    replace H := O2_ H
    replace H := OZ_ H
    obtain ⟨t102, A6, H⟩ := H
    by_cases c7 : t102 = true
    ·subst c7
     replace H := T_ H
     obtain rfl := OI_ H
     have p101 : 0 ≤ (x8_1 : Int) := D_
     have q101 : x8_1 < (l0.length : Int) := D_
     obtain ⟨ad101, e101, hx101_0⟩ := Kd.at_int HR0.out x8_1 p101 q101
     cases e101
     replace hx101_0 := (HB.out.cell (World.block_lt_of_cell? w _ hx101_0)).trans hx101_0
     replace p101 := eq_true p101
     replace q101 := eq_true q101
     go_wp2_with (first | (go_at_call 103; (with_reducible refine (z103.calls (rd l0 x8_1) true _ A6.out).mono ?_); rintro e w' ⟨rfl, ⟨nd, rfl⟩⟩))
     go_ret
     exact ⟨F_, B_ HB.out⟩
    replace c7 := Bool.eq_false_iff.mpr c7
    subst c7
    replace H := N_ H
    have H' := Zz.mk H
    clear H
    have p101 : 0 ≤ (x8_1 : Int) := D_
    have q101 : x8_1 < (l0.length : Int) := D_
    obtain ⟨ad101, e101, hx101_0⟩ := Kd.at_int HR0.out x8_1 p101 q101
    cases e101
    replace hx101_0 := (HB.out.cell (World.block_lt_of_cell? w _ hx101_0)).trans hx101_0
    replace p101 := eq_true p101
    replace q101 := eq_true q101
    go_wp2_with (first | (go_at_call 103; (with_reducible refine (z103.calls (rd l0 x8_1) false _ A6.out).mono ?_); rintro e w' ⟨rfl, ⟨nd, rfl⟩⟩))
    go_roundg k1
    case measure => exact Q1_ HK1
    case rel => exact ⟨(wrap64 (x8_1 + 1)), E_, H', ⟨Q1_ HK1⟩, ⟨B_ HB.out⟩⟩
   rw [if_neg c3] at H
   have c3b0 : decide (x8_1 < (l0.length : Int)) = false := decide_eq_false c3
   clear c3
   obtain rfl := OI_ H
   go_wp2
   go_ret
   exact ⟨F_, B_ HB.out⟩
def z129.f (k : Nat) (l0 : List Int)  : Option (Bool) := (z130.f k l0).bind fun t101 => (some (decide (t101 ≥ 0)))
theorem z129.calls (k : Nat) (A0 : Option Addr) (c0 : Nat) (l0 : List Int)  (r : Bool) (w : World) (hr0 : Kd.C (Kd.int .i64) w A0 l0.length l0) (hc0 : l0.length ≤ c0) (h : z129.f k l0 = some r) :
  Calls Try.prog 74 #[.slice A0 l0.length c0, .func (.func 103) #[] #[]] w fun e w' => e = .returned (.bool r) ∧ Below w.heap.size w w' := by
 have HR0 := Zz.mk hr0
 have HC0 := Zz.mk hc0
 clear hr0 hc0
 have HB := Zz.mk (Below.refl w.heap.size w)
 have H : ((z130.f k l0).bind fun t101 => (some (decide (t101 ≥ 0)))) = some r := h
 clear h
 replace H := OZ_ H
 obtain ⟨t101, A3, H⟩ := H
 obtain rfl := OI_ H
 go_enter Try.func74, Try.ntmps74
 go_wp2_with (first | ((with_reducible refine gC_ (f := 92) rfl ?_); refine GL_ (some 7) rfl rfl Try.func92 #[.slice A0 l0.length c0, .func (.func 103) #[] #[]] rfl (h := ?_); (with_reducible refine (z130.calls k _ _ l0  t101 _ ?side1 ?side2 A3.out).mono ?_); (case side1 => exact KC_ HR0.out); (case side2 => exact HC0.out); rintro e w4 ⟨rfl, hb⟩; refine ⟨_, rfl, ?_⟩; replace HB := Zz.mk (bT_ (B_ HB.out) hb); (try clear hb)))
 go_ret
 exact ⟨F_, B_ HB.out⟩
def z97.f (k : Nat) (l0 : List Int) : Option (Bool) := (z129.f k l0).bind fun t101 => (some (!t101))
theorem z97.calls (k : Nat) (A0 : Option Addr) (c0 : Nat) (l0 : List Int) (r : Bool) (w : World) (hr0 : Kd.C (Kd.int .i64) w A0 l0.length l0) (hc0 : l0.length ≤ c0) (h : z97.f k l0 = some r) :
  Calls Try.prog 97 #[.slice A0 l0.length c0] w fun e w' => e = .returned (.bool r) ∧ Below w.heap.size w w' := by
 have HR0 := Zz.mk hr0
 have HC0 := Zz.mk hc0
 clear hr0 hc0
 have HB := Zz.mk (Below.refl w.heap.size w)
 have H : ((z129.f k l0).bind fun t101 => (some (!t101))) = some r := h
 clear h
 replace H := OZ_ H
 obtain ⟨t101, A2, H⟩ := H
 obtain rfl := OI_ H
 go_enter Try.func97, Try.ntmps97
 go_wp2_with (first | ((with_reducible refine gC_ (f := 74) rfl ?_); refine GL_ (some 4) rfl rfl Try.func74 #[.slice A0 l0.length c0, .func (.func 103) #[] #[]] rfl (h := ?_); (with_reducible refine (z129.calls k _ _ l0  t101 _ ?side1 ?side2 A2.out).mono ?_); (case side1 => exact KC_ HR0.out); (case side2 => exact HC0.out); rintro e w3 ⟨rfl, hb⟩; refine ⟨_, rfl, ?_⟩; replace HB := Zz.mk (bT_ (B_ HB.out) hb); (try clear hb)))
 go_ret
 exact ⟨F_, B_ HB.out⟩
def z102.f (a0 : Int) : Option (Bool) := some (a0 != 0)
theorem z102.calls (a0 : Int) (r : Bool) (w : World) (h : z102.f a0 = some r) :
  Calls Try.prog 102 #[.int .i64 a0] w fun e w' => e = .returned (.bool r) ∧ Dz w w' := by
 have H : (some (a0 != 0)) = some r := h
 clear h
 obtain rfl := OI_ H
 go_enter Try.func102, Try.ntmps102
 go_wp2
 go_ret
 exact eD_
def z128.l0 : Nat → List Int → Int → Int → Option (Int)
 | 0, _, _, _ => none
 | k + 1, x0, x7, x8 => if x8 < x7 then (if 0 ≤ x8 then (if x8 < (x0.length : Int) then ((z102.f (rd x0 x8)).bind fun t102 => (if t102 = true then (some x8) else (z128.l0 k x0 x7 (wrap64 (x8 + 1))))) else (none)) else (none)) else (some (-1))
def z128.f (k : Nat) (l0 : List Int)  : Option (Int) := z128.l0 k l0 (l0.length : Int) 0
theorem z128.calls (k : Nat) (A0 : Option Addr) (c0 : Nat) (l0 : List Int)  (r : Int) (w : World) (hr0 : Kd.C (Kd.int .i64) w A0 l0.length l0) (hc0 : l0.length ≤ c0) (h : z128.f k l0 = some r) :
  Calls Try.prog 92 #[.slice A0 l0.length c0, .func (.func 102) #[] #[]] w fun e w' => e = .returned (.int .i64 r) ∧ Below w.heap.size w w' := by
 have HR0 := Zz.mk hr0
 have HC0 := Zz.mk hc0
 clear hr0 hc0
 have HB := Zz.mk (Below.refl w.heap.size w)
 have H : (z128.l0 k l0 (l0.length : Int) 0) = some r := h
 clear h
 have H' := Zz.mk H
 clear H
 go_enter Try.func92, Try.ntmps92
 go_wp2
 go_loopg [8] k (fun kq v8 w' => ∃ (x8_1 : Int), v8 = .int .i64 x8_1 ∧ Zz (z128.l0 kq l0 (l0.length : Int) x8_1 = some r) ∧ Zz (kq ≤ k) ∧ Zz (Below w.heap.size w w'))
 case atStart => exact ⟨(0), E_, H', ⟨Nat.le_refl _⟩, ⟨B_ HB.out⟩⟩
 case round =>
  clear H'
  obtain ⟨x8_1, rfl, HA, HK1, HB⟩ := hrel
  cases gk with
  | zero => exact absurd HA.out (by simp [z128.l0])
  | succ k1 =>
   have H := HA.out
   clear HA
   simp only [z128.l0] at H
   by_cases c3 : x8_1 < (l0.length : Int)
   ·rw [if_pos c3] at H
    have c3b0 : decide (x8_1 < (l0.length : Int)) = true := decide_eq_true c3
    clear c3
    have c4b0 := O3_ H
    replace H := O2_ H
    have c5b0 := O3_ H
    replace H := O2_ H
    replace H := OZ_ H
    obtain ⟨t102, A6, H⟩ := H
    by_cases c7 : t102 = true
    ·subst c7
     replace H := T_ H
     obtain rfl := OI_ H
     have p101 : 0 ≤ (x8_1 : Int) := D_
     have q101 : x8_1 < (l0.length : Int) := D_
     obtain ⟨ad101, e101, hx101_0⟩ := Kd.at_int HR0.out x8_1 p101 q101
     cases e101
     replace hx101_0 := (HB.out.cell (World.block_lt_of_cell? w _ hx101_0)).trans hx101_0
     replace p101 := eq_true p101
     replace q101 := eq_true q101
     go_wp2_with (first | (go_at_call 102; (with_reducible refine (z102.calls (rd l0 x8_1) true _ A6.out).mono ?_); rintro e w' ⟨rfl, ⟨nd, rfl⟩⟩))
     go_ret
     exact ⟨F_, B_ HB.out⟩
    replace c7 := Bool.eq_false_iff.mpr c7
    subst c7
    replace H := N_ H
    have H' := Zz.mk H
    clear H
    have p101 : 0 ≤ (x8_1 : Int) := D_
    have q101 : x8_1 < (l0.length : Int) := D_
    obtain ⟨ad101, e101, hx101_0⟩ := Kd.at_int HR0.out x8_1 p101 q101
    cases e101
    replace hx101_0 := (HB.out.cell (World.block_lt_of_cell? w _ hx101_0)).trans hx101_0
    replace p101 := eq_true p101
    replace q101 := eq_true q101
    go_wp2_with (first | (go_at_call 102; (with_reducible refine (z102.calls (rd l0 x8_1) false _ A6.out).mono ?_); rintro e w' ⟨rfl, ⟨nd, rfl⟩⟩))
    go_roundg k1
    case measure => exact Q1_ HK1
    case rel => exact ⟨(wrap64 (x8_1 + 1)), E_, H', ⟨Q1_ HK1⟩, ⟨B_ HB.out⟩⟩
   rw [if_neg c3] at H
   have c3b0 : decide (x8_1 < (l0.length : Int)) = false := decide_eq_false c3
   clear c3
   obtain rfl := OI_ H
   go_wp2
   go_ret
   exact ⟨F_, B_ HB.out⟩
def z96.l0 : Nat → List Int → List (List Int) → Int → Int → Option (List Int)
 | 0, _, _, _, _ => none
 | k + 1, x3, x7, x8, x9 => if x9 < x8 then (if 0 ≤ x9 then (if x9 < (x7.length : Int) then ((z128.f k (rI_ x7 x9)).bind fun t103 => (if x3.length < 17592186044416 then (z96.l0 k (x3 ++ [t103]) x7 x8 (wrap64 (x9 + 1))) else (none))) else (none)) else (none)) else (some x3)
def z96.f (k : Nat) (a0_0 : Int) (a0_1 : Int) (l0_2 : List (List Int)) : Option (List Int) := z96.l0 k ([] : List Int) l0_2 (l0_2.length : Int) 0
theorem z96.calls (k : Nat) (a0_0 : Int) (a0_1 : Int) (A0_2 : Option Addr) (c0_2 : Nat) (l0_2 : List (List Int)) (r : List Int) (w : World) (hr0_2 : Kd.C (Kd.slice 2 (Kd.int .i64)) w A0_2 l0_2.length l0_2) (hc0_2 : l0_2.length ≤ c0_2) (h : z96.f k a0_0 a0_1 l0_2 = some r) :
  Calls Try.prog 96 #[.agg #[.int .i64 a0_0, .int .i64 a0_1, .slice A0_2 l0_2.length c0_2]] w fun e w' => ∃ v0_ : Value, e = .returned (v0_) ∧ Kd.R (Kd.int .i64) 3 w' w.heap.size (fun _ => True) v0_ r ∧ Below w.heap.size w w' := by
 have hu60 := Try.underlying60
 have HR0_2 := Zz.mk hr0_2
 have HC0_2 := Zz.mk hc0_2
 clear hr0_2 hc0_2
 have HB := Zz.mk (Below.refl w.heap.size w)
 have H : (z96.l0 k ([] : List Int) l0_2 (l0_2.length : Int) 0) = some r := h
 clear h
 have H' := Zz.mk H
 clear H
 go_enter Try.func96, Try.ntmps96
 go_wp2_with (first | ((with_reducible refine qAm (N := 1) rfl ?_); refine bx_ 1 #[.int .i64 a0_0, .int .i64 a0_1, .slice A0_2 l0_2.length c0_2] 60 ?_; intro gb101 hg w2 hbox hb; have BK101 := Zz.mk (hbox); have GW101 := Zz.mk ((gw_ hg (B_ HB.out))); have GE101 := GW101; replace HB := Zz.mk (bT_ (B_ HB.out) hb); clear hb hbox hg; obtain ⟨hcz3_0, hcz3_1, hcz3_2, hfz3_0, hfz3_1, hfz3_2⟩ := Z3f_ BK101.out))
 go_loopg [3, 9] k (fun kq v3 v9 w' => ∃ (x3_1 : List Int) (x9_1 : Int), v9 = .int .i64 x9_1 ∧ Zz (z96.l0 kq x3_1 l0_2 (l0_2.length : Int) x9_1 = some r) ∧ Zz (kq ≤ k) ∧ Zz (Kd.R (Kd.int .i64) 3 w' w.heap.size (fun _ => True) v3 x3_1) ∧ Zz (w'.heap[gb101]? = some (.cells #[.int .i64 a0_0, .int .i64 a0_1, (.slice A0_2 l0_2.length c0_2)] 60 (0, 0))) ∧ Zz (Below w.heap.size w w'))
 case atStart => exact ⟨(([] : List Int)), (0), E_, H', ⟨Nat.le_refl _⟩, ⟨by first | exact Kd.R_nil _ _ _ _ _ | exact Kd.N_nil _ _ _ _ _ | exact Kd.V_nil _ _ _ _ _ | exact Kd.Q_nil _ _ _ _ _ | exact Kd.S_nil _ _ _ _ _⟩, ⟨KB_ BK101.out⟩, ⟨B1_ HB.out GE101.out⟩⟩
 case round =>
  clear H'
  (try clear hcz3_0);(try clear hcz3_1);(try clear hcz3_2);(try clear hfz3_0);(try clear hfz3_1);(try clear hfz3_2)
  obtain ⟨x3_1, x9_1, rfl, HA, HK1, HO_3, BK101, HB⟩ := hrel
  cases gk with
  | zero => exact absurd HA.out (by simp [z96.l0])
  | succ k1 =>
   have H := HA.out
   clear HA
   simp only [z96.l0] at H
   by_cases c4 : x9_1 < (l0_2.length : Int)
   ·rw [if_pos c4] at H
    have c4b0 : decide (x9_1 < (l0_2.length : Int)) = true := decide_eq_true c4
    clear c4
    have c5b0 := O3_ H
    replace H := O2_ H
    have c6b0 := O3_ H
    replace H := O2_ H
    replace H := OZ_ H
    obtain ⟨t103, A7, H⟩ := H
    have c8 := O1_ H
    replace H := O2_ H
    have LMc8 := Zz.mk c8
    clear c8
    obtain ⟨y104, hy104⟩ : ∃ y_ : List Int, y_ = (x3_1 ++ [t103]) := ⟨_, rfl⟩
    replace H : (z96.l0 k1 y104 l0_2 (l0_2.length : Int) (wrap64 (x9_1 + 1))) = some r := Y_ hy104 H
    have Ny104 := Zz.mk hy104
    clear hy104
    have H' := Zz.mk H
    clear H
    have p102 : 0 ≤ (x9_1 : Int) := D_
    have q102 : x9_1 < (l0_2.length : Int) := D_
    obtain ⟨ad102, A102_0, c102_0, e102, hx102_0, hl102_0, hi102_0⟩ := qAp HR0_2.out x9_1 p102 q102
    cases e102
    replace hx102_0 := (HB.out.cell (World.block_lt_of_cell? w _ hx102_0)).trans hx102_0
    have HR102_0 := Zz.mk hi102_0
    have HC102_0 := Zz.mk hl102_0
    clear hi102_0 hl102_0
    replace p102 := eq_true p102
    replace q102 := eq_true q102
    go_wp2_with (first | ((with_reducible refine gC_ (f := 92) rfl ?_); refine GL_ (some 15) rfl rfl Try.func92 #[.slice A102_0 (rI_ l0_2 x9_1).length c102_0, .func (.func 102) #[] #[]] rfl (h := ?_); (with_reducible refine (z128.calls k1 _ _ (rI_ l0_2 x9_1)  t103 _ ?side1 ?side2 A7.out).mono ?_); (case side1 => exact KC_ (Kd.C_below HR102_0.out HB.out)); (case side2 => exact HC102_0.out); rintro e w9 ⟨rfl, hb⟩; refine ⟨_, rfl, ?_⟩; replace HO_3 := Zz.mk (Kd.R_below (KR_ HO_3.out) hb); replace BK101 := Zz.mk (kb_ BK101.out hb); replace HB := Zz.mk (bT_ (B1_ HB.out GE101.out) hb); (try clear hb)) | ((with_reducible refine qAv (b := .append) (xs := #[.tmp 13, .tmp 16]) rfl ?_); at_builtin; refine Kd.R_append (Kd.int .i64) (w0 := w) w.heap.size rfl (.tmp 13) (.tmp 16) 95 3 (.int .i64 0) 8 rfl Try.underlying95 info3 rfl (by decide) (by omega) u3 x3_1 t103 [.int .i64 t103] (fun _ => True) (fun _ => False) rfl rfl ?aP (fun _ hk => hk.elim) ?aF ?aO ?aB ?aS ?aL ?_; (case aP => exact rfl); (case aB => exact (B1_ HB.out GE101.out)); (case aF => exact (fun _ _ => trivial)); (case aO => exact (KR_ HO_3.out)); (case aS => exact (bS_ (B1_ HB.out GE101.out))); (case aL => have := LMc8.out; omega); intro v105 w10 ho hb hg hat; rw [← Ny104.out] at ho; replace BK101 := Zz.mk (qAy (g := gb101) (o := .cells #[.int .i64 a0_0, .int .i64 a0_1, .slice (some ad102) l0_2.length c0_2] 60 (0, 0)) (KB_ BK101.out) hg (Kd.R_ne HO_3.out BK101.out (by decide))); replace HB := Zz.mk (hb); have HO106 := Zz.mk (ho); clear HO_3; clear ho hb hg hat))
    go_roundg k1
    case measure => exact Q1_ HK1
    case rel => exact ⟨(y104), (wrap64 (x9_1 + 1)), E_, H', ⟨Q1_ HK1⟩, ⟨KR_ HO106.out⟩, ⟨KB_ BK101.out⟩, ⟨B1_ HB.out GE101.out⟩⟩
   rw [if_neg c4] at H
   have c4b0 : decide (x9_1 < (l0_2.length : Int)) = false := decide_eq_false c4
   clear c4
   obtain rfl := OI_ H
   go_wp2
   go_ret
   exact ⟨_, F_, KR_ HO_3.out, B1_ HB.out GE101.out⟩
def z65.f (k : Nat) (l0 : List Int) (a1 : Int) : Option (Bool) := (z69.f k l0 a1).bind fun t101 => (some (decide (t101 ≥ 0)))
theorem z65.calls (k : Nat) (A0 : Option Addr) (c0 : Nat) (l0 : List Int) (a1 : Int) (r : Bool) (w : World) (hr0 : Kd.C (Kd.int .i64) w A0 l0.length l0) (hc0 : l0.length ≤ c0) (h : z65.f k l0 a1 = some r) :
  Calls Try.prog 65 #[.slice A0 l0.length c0, .int .i64 a1] w fun e w' => e = .returned (.bool r) ∧ Dz w w' := by
 have HR0 := Zz.mk hr0
 have HC0 := Zz.mk hc0
 clear hr0 hc0
 have H : ((z69.f k l0 a1).bind fun t101 => (some (decide (t101 ≥ 0)))) = some r := h
 clear h
 replace H := OZ_ H
 obtain ⟨t101, A3, H⟩ := H
 obtain rfl := OI_ H
 go_enter Try.func65, Try.ntmps65
 go_wp2_with (first | ((with_reducible refine gC_ (f := 69) rfl ?_); refine GL_ (some 7) rfl rfl Try.func69 #[.slice A0 l0.length c0, .int .i64 a1] rfl (h := ?_); (with_reducible refine (z69.calls k _ _ l0 a1 t101 _ ?side1 ?side2 A3.out).mono ?_); (case side1 => exact KC_ HR0.out); (case side2 => exact HC0.out); rintro e w' ⟨rfl, ⟨nd, rfl⟩⟩; refine ⟨_, rfl, ?_⟩))
 go_ret
 exact eD_
def z20.f (l0 : List (List Int)) : Option (Int) := some (l0.length : Int)
theorem z20.calls (A0 : Option Addr) (c0 : Nat) (l0 : List (List Int)) (r : Int) (w : World) (hr0 : Kd.C (Kd.slice 2 (Kd.int .i64)) w A0 l0.length l0) (hc0 : l0.length ≤ c0) (h : z20.f l0 = some r) :
  Calls Try.prog 20 #[.slice A0 l0.length c0] w fun e w' => e = .returned (.int .i64 r) ∧ Dz w w' := by
 have HR0 := Zz.mk hr0
 have HC0 := Zz.mk hc0
 clear hr0 hc0
 have H : (some (l0.length : Int)) = some r := h
 clear h
 obtain rfl := OI_ H
 go_enter Try.func20, Try.ntmps20
 go_wp2
 go_ret
 exact eD_
def z8.l0 : Nat → List Int → List Int → Int → Option (Bool)
 | 0, _, _, _ => none
 | k + 1, x0, x1, x5 => if x5 < (x0.length : Int) then (if 0 ≤ x5 then (if x5 < (x1.length : Int) then (if (rd x0 x5) = (rd x1 x5) then (z8.l0 k x0 x1 (wrap64 (x5 + 1))) else (some false)) else (none)) else (none)) else (some true)
def z8.f (k : Nat) (l0 : List Int) (l1 : List Int) : Option (Bool) := if (l0.length : Int) = (l1.length : Int) then (z8.l0 k l0 l1 0) else (some false)
theorem z8.calls (k : Nat) (A0 : Option Addr) (c0 : Nat) (l0 : List Int) (A1 : Option Addr) (c1 : Nat) (l1 : List Int) (r : Bool) (w : World) (hr0 : Kd.C (Kd.int .i64) w A0 l0.length l0) (hc0 : l0.length ≤ c0) (hr1 : Kd.C (Kd.int .i64) w A1 l1.length l1) (hc1 : l1.length ≤ c1) (h : z8.f k l0 l1 = some r) :
  Calls Try.prog 8 #[.slice A0 l0.length c0, .slice A1 l1.length c1] w fun e w' => e = .returned (.bool r) ∧ Dz w w' := by
 have HR0 := Zz.mk hr0
 have HC0 := Zz.mk hc0
 clear hr0 hc0
 have HR1 := Zz.mk hr1
 have HC1 := Zz.mk hc1
 clear hr1 hc1
 have H : (if (l0.length : Int) = (l1.length : Int) then (z8.l0 k l0 l1 0) else (some false)) = some r := h
 clear h
 by_cases c3 : (l0.length : Int) = (l1.length : Int)
 ·rw [if_pos c3] at H
  have c3b0 : ((l0.length : Int) == (l1.length : Int)) = true := beq_iff_eq.mpr c3
  have c3b1 : ((l0.length : Int) != (l1.length : Int)) = false := bne_eq_false_iff_eq.mpr c3
  have c3b2 : (l0.length == l1.length) = true := by first | simpa using c3 | (simp at c3 ⊢; omega)
  clear c3
  have H' := Zz.mk H
  clear H
  go_enter Try.func8, Try.ntmps8
  go_wp2
  repeat (go_quiet (fail); try go_wp2)
  go_loopg [5] k (fun kq v5 w' => ∃ (x5_1 : Int), v5 = .int .i64 x5_1 ∧ Zz (z8.l0 kq l0 l1 x5_1 = some r) ∧ Zz (kq ≤ k) ∧ Dz w w')
  case atStart => exact ⟨(0), E_, H', ⟨Nat.le_refl _⟩, by repeat (first | exact Dz.refl _ | apply Dz.step)⟩
  case round =>
   clear H'
   (try clear c1);(try clear c3);(try clear c3b0);(try clear c3b1);(try clear c3b2)
   obtain ⟨x5_1, rfl, HA, HK1, ⟨m1, rfl⟩⟩ := hrel
   cases gk with
   | zero => exact absurd HA.out (by simp [z8.l0])
   | succ k1 =>
    have H := HA.out
    clear HA
    simp only [z8.l0] at H
    by_cases c4 : x5_1 < (l0.length : Int)
    ·rw [if_pos c4] at H
     have c4b0 : decide (x5_1 < (l0.length : Int)) = true := decide_eq_true c4
     clear c4
     have c5b0 := O3_ H
     replace H := O2_ H
     have c6b0 := O3_ H
     replace H := O2_ H
     by_cases c7 : (rd l0 x5_1) = (rd l1 x5_1)
     ·rw [if_pos c7] at H
      have c7b0 : ((rd l0 x5_1) == (rd l1 x5_1)) = true := beq_iff_eq.mpr c7
      have c7b1 : ((rd l0 x5_1) != (rd l1 x5_1)) = false := bne_eq_false_iff_eq.mpr c7
      clear c7
      have H' := Zz.mk H
      clear H
      have p101 : 0 ≤ (x5_1 : Int) := D_
      have q101 : x5_1 < (l0.length : Int) := D_
      obtain ⟨ad101, e101, hx101_0⟩ := Kd.at_int HR0.out x5_1 p101 q101
      cases e101
      replace p101 := eq_true p101
      replace q101 := eq_true q101
      have p102 : 0 ≤ (x5_1 : Int) := D_
      have q102 : x5_1 < (l1.length : Int) := D_
      obtain ⟨ad102, e102, hx102_0⟩ := Kd.at_int HR1.out x5_1 p102 q102
      cases e102
      replace p102 := eq_true p102
      replace q102 := eq_true q102
      go_wp2
      repeat (go_quiet (fail); try go_wp2)
      go_roundg k1
      case measure => exact Q1_ HK1
      case rel => exact ⟨(wrap64 (x5_1 + 1)), E_, H', ⟨Q1_ HK1⟩, by repeat (first | exact Dz.refl _ | apply Dz.step)⟩
     rw [if_neg c7] at H
     have c7b0 : ((rd l0 x5_1) == (rd l1 x5_1)) = false := beq_eq_false_iff_ne.mpr c7
     have c7b1 : ((rd l0 x5_1) != (rd l1 x5_1)) = true := bne_iff_ne.mpr c7
     obtain rfl := OI_ H
     have p101 : 0 ≤ (x5_1 : Int) := D_
     have q101 : x5_1 < (l0.length : Int) := D_
     obtain ⟨ad101, e101, hx101_0⟩ := Kd.at_int HR0.out x5_1 p101 q101
     cases e101
     replace p101 := eq_true p101
     replace q101 := eq_true q101
     have p102 : 0 ≤ (x5_1 : Int) := D_
     have q102 : x5_1 < (l1.length : Int) := D_
     obtain ⟨ad102, e102, hx102_0⟩ := Kd.at_int HR1.out x5_1 p102 q102
     cases e102
     replace p102 := eq_true p102
     replace q102 := eq_true q102
     go_wp2
     repeat (go_quiet (fail); try go_wp2)
     go_ret
     exact eD_
    rw [if_neg c4] at H
    have c4b0 : decide (x5_1 < (l0.length : Int)) = false := decide_eq_false c4
    clear c4
    obtain rfl := OI_ H
    go_wp2
    repeat (go_quiet (fail); try go_wp2)
    go_ret
    exact eD_
 rw [if_neg c3] at H
 have c3b0 : ((l0.length : Int) == (l1.length : Int)) = false := beq_eq_false_iff_ne.mpr c3
 have c3b1 : ((l0.length : Int) != (l1.length : Int)) = true := bne_iff_ne.mpr c3
 have c3b2 : (l0.length == l1.length) = false := by first | simpa using c3 | (simp at c3 ⊢; omega)
 obtain rfl := OI_ H
 go_enter Try.func8, Try.ntmps8
 go_wp2
 repeat (go_quiet (fail); try go_wp2)
 go_ret
 exact eD_
def z22.l0 : Nat → List (List Int) → List (List Int) → Int → Option (Bool)
 | 0, _, _, _ => none
 | k + 1, x0, x1, x5 => if x5 < (x0.length : Int) then (if 0 ≤ x5 then (if x5 < (x1.length : Int) then ((z8.f k (rI_ x0 x5) (rI_ x1 x5)).bind fun t103 => (if t103 = true then (z22.l0 k x0 x1 (wrap64 (x5 + 1))) else (some false))) else (none)) else (none)) else (some true)
def z22.f (k : Nat) (l0 : List (List Int)) (l1 : List (List Int)) : Option (Bool) := if (l0.length : Int) = (l1.length : Int) then (z22.l0 k l0 l1 0) else (some false)
theorem z22.calls (k : Nat) (A0 : Option Addr) (c0 : Nat) (l0 : List (List Int)) (A1 : Option Addr) (c1 : Nat) (l1 : List (List Int)) (r : Bool) (w : World) (hr0 : Kd.C (Kd.slice 2 (Kd.int .i64)) w A0 l0.length l0) (hc0 : l0.length ≤ c0) (hr1 : Kd.C (Kd.slice 2 (Kd.int .i64)) w A1 l1.length l1) (hc1 : l1.length ≤ c1) (h : z22.f k l0 l1 = some r) :
  Calls Try.prog 22 #[.slice A0 l0.length c0, .slice A1 l1.length c1] w fun e w' => e = .returned (.bool r) ∧ Dz w w' := by
 have HR0 := Zz.mk hr0
 have HC0 := Zz.mk hc0
 clear hr0 hc0
 have HR1 := Zz.mk hr1
 have HC1 := Zz.mk hc1
 clear hr1 hc1
 have H : (if (l0.length : Int) = (l1.length : Int) then (z22.l0 k l0 l1 0) else (some false)) = some r := h
 clear h
 by_cases c3 : (l0.length : Int) = (l1.length : Int)
 ·rw [if_pos c3] at H
  have c3b0 : ((l0.length : Int) == (l1.length : Int)) = true := beq_iff_eq.mpr c3
  have c3b1 : ((l0.length : Int) != (l1.length : Int)) = false := bne_eq_false_iff_eq.mpr c3
  have c3b2 : (l0.length == l1.length) = true := by first | simpa using c3 | (simp at c3 ⊢; omega)
  clear c3
  have H' := Zz.mk H
  clear H
  go_enter Try.func22, Try.ntmps22
  go_wp2
  repeat (go_quiet (fail); try go_wp2)
  go_loopg [5] k (fun kq v5 w' => ∃ (x5_1 : Int), v5 = .int .i64 x5_1 ∧ Zz (z22.l0 kq l0 l1 x5_1 = some r) ∧ Zz (kq ≤ k) ∧ Dz w w')
  case atStart => exact ⟨(0), E_, H', ⟨Nat.le_refl _⟩, by repeat (first | exact Dz.refl _ | apply Dz.step)⟩
  case round =>
   clear H'
   (try clear c1);(try clear c3);(try clear c3b0);(try clear c3b1);(try clear c3b2)
   obtain ⟨x5_1, rfl, HA, HK1, ⟨m1, rfl⟩⟩ := hrel
   cases gk with
   | zero => exact absurd HA.out (by simp [z22.l0])
   | succ k1 =>
    have H := HA.out
    clear HA
    simp only [z22.l0] at H
    by_cases c4 : x5_1 < (l0.length : Int)
    ·rw [if_pos c4] at H
     have c4b0 : decide (x5_1 < (l0.length : Int)) = true := decide_eq_true c4
     clear c4
     have c5b0 := O3_ H
     replace H := O2_ H
     have c6b0 := O3_ H
     replace H := O2_ H
     replace H := OZ_ H
     obtain ⟨t103, A7, H⟩ := H
     by_cases c8 : t103 = true
     ·subst c8
      replace H := T_ H
      have H' := Zz.mk H
      clear H
      have p101 : 0 ≤ (x5_1 : Int) := D_
      have q101 : x5_1 < (l0.length : Int) := D_
      obtain ⟨ad101, A101_0, c101_0, e101, hx101_0, hl101_0, hi101_0⟩ := qAp HR0.out x5_1 p101 q101
      cases e101
      have HR101_0 := Zz.mk hi101_0
      have HC101_0 := Zz.mk hl101_0
      clear hi101_0 hl101_0
      replace p101 := eq_true p101
      replace q101 := eq_true q101
      have p102 : 0 ≤ (x5_1 : Int) := D_
      have q102 : x5_1 < (l1.length : Int) := D_
      obtain ⟨ad102, A102_0, c102_0, e102, hx102_0, hl102_0, hi102_0⟩ := qAp HR1.out x5_1 p102 q102
      cases e102
      have HR102_0 := Zz.mk hi102_0
      have HC102_0 := Zz.mk hl102_0
      clear hi102_0 hl102_0
      replace p102 := eq_true p102
      replace q102 := eq_true q102
      go_wp2_with (first | (go_at_call 8; (with_reducible refine (z8.calls k1 _ _ (rI_ l0 x5_1) _ _ (rI_ l1 x5_1) true _ ?side1 ?side2 ?side3 ?side4 A7.out).mono ?_); (case side1 => exact KC_ HR101_0.out); (case side2 => exact HC101_0.out); (case side3 => exact KC_ HR102_0.out); (case side4 => exact HC102_0.out); rintro e w' ⟨rfl, ⟨nd, rfl⟩⟩; (try first | exact ⟨rfl, _, World.drewN_drewN _ _ _⟩ | exact ⟨rfl, _, Eq.trans (World.drewN_drewN _ _ _) (congrArg (World.drewN _) (Nat.add_assoc _ _ _))⟩)))
      repeat (go_quiet (first | (go_at_call 8; (with_reducible refine (z8.calls k1 _ _ (rI_ l0 x5_1) _ _ (rI_ l1 x5_1) true _ ?side1 ?side2 ?side3 ?side4 A7.out).mono ?_); (case side1 => exact KC_ HR101_0.out); (case side2 => exact HC101_0.out); (case side3 => exact KC_ HR102_0.out); (case side4 => exact HC102_0.out); rintro e w' ⟨rfl, ⟨nd, rfl⟩⟩; (try first | exact ⟨rfl, _, World.drewN_drewN _ _ _⟩ | exact ⟨rfl, _, Eq.trans (World.drewN_drewN _ _ _) (congrArg (World.drewN _) (Nat.add_assoc _ _ _))⟩))); try go_wp2_with (first | (go_at_call 8; (with_reducible refine (z8.calls k1 _ _ (rI_ l0 x5_1) _ _ (rI_ l1 x5_1) true _ ?side1 ?side2 ?side3 ?side4 A7.out).mono ?_); (case side1 => exact KC_ HR101_0.out); (case side2 => exact HC101_0.out); (case side3 => exact KC_ HR102_0.out); (case side4 => exact HC102_0.out); rintro e w' ⟨rfl, ⟨nd, rfl⟩⟩; (try first | exact ⟨rfl, _, World.drewN_drewN _ _ _⟩ | exact ⟨rfl, _, Eq.trans (World.drewN_drewN _ _ _) (congrArg (World.drewN _) (Nat.add_assoc _ _ _))⟩))))
      go_roundg k1
      case measure => exact Q1_ HK1
      case rel => exact ⟨(wrap64 (x5_1 + 1)), E_, H', ⟨Q1_ HK1⟩, by repeat (first | exact Dz.refl _ | apply Dz.step)⟩
     replace c8 := Bool.eq_false_iff.mpr c8
     subst c8
     replace H := N_ H
     obtain rfl := OI_ H
     have p101 : 0 ≤ (x5_1 : Int) := D_
     have q101 : x5_1 < (l0.length : Int) := D_
     obtain ⟨ad101, A101_0, c101_0, e101, hx101_0, hl101_0, hi101_0⟩ := qAp HR0.out x5_1 p101 q101
     cases e101
     have HR101_0 := Zz.mk hi101_0
     have HC101_0 := Zz.mk hl101_0
     clear hi101_0 hl101_0
     replace p101 := eq_true p101
     replace q101 := eq_true q101
     have p102 : 0 ≤ (x5_1 : Int) := D_
     have q102 : x5_1 < (l1.length : Int) := D_
     obtain ⟨ad102, A102_0, c102_0, e102, hx102_0, hl102_0, hi102_0⟩ := qAp HR1.out x5_1 p102 q102
     cases e102
     have HR102_0 := Zz.mk hi102_0
     have HC102_0 := Zz.mk hl102_0
     clear hi102_0 hl102_0
     replace p102 := eq_true p102
     replace q102 := eq_true q102
     go_wp2_with (first | (go_at_call 8; (with_reducible refine (z8.calls k1 _ _ (rI_ l0 x5_1) _ _ (rI_ l1 x5_1) false _ ?side1 ?side2 ?side3 ?side4 A7.out).mono ?_); (case side1 => exact KC_ HR101_0.out); (case side2 => exact HC101_0.out); (case side3 => exact KC_ HR102_0.out); (case side4 => exact HC102_0.out); rintro e w' ⟨rfl, ⟨nd, rfl⟩⟩; (try first | exact ⟨rfl, _, World.drewN_drewN _ _ _⟩ | exact ⟨rfl, _, Eq.trans (World.drewN_drewN _ _ _) (congrArg (World.drewN _) (Nat.add_assoc _ _ _))⟩)))
     repeat (go_quiet (first | (go_at_call 8; (with_reducible refine (z8.calls k1 _ _ (rI_ l0 x5_1) _ _ (rI_ l1 x5_1) false _ ?side1 ?side2 ?side3 ?side4 A7.out).mono ?_); (case side1 => exact KC_ HR101_0.out); (case side2 => exact HC101_0.out); (case side3 => exact KC_ HR102_0.out); (case side4 => exact HC102_0.out); rintro e w' ⟨rfl, ⟨nd, rfl⟩⟩; (try first | exact ⟨rfl, _, World.drewN_drewN _ _ _⟩ | exact ⟨rfl, _, Eq.trans (World.drewN_drewN _ _ _) (congrArg (World.drewN _) (Nat.add_assoc _ _ _))⟩))); try go_wp2_with (first | (go_at_call 8; (with_reducible refine (z8.calls k1 _ _ (rI_ l0 x5_1) _ _ (rI_ l1 x5_1) false _ ?side1 ?side2 ?side3 ?side4 A7.out).mono ?_); (case side1 => exact KC_ HR101_0.out); (case side2 => exact HC101_0.out); (case side3 => exact KC_ HR102_0.out); (case side4 => exact HC102_0.out); rintro e w' ⟨rfl, ⟨nd, rfl⟩⟩; (try first | exact ⟨rfl, _, World.drewN_drewN _ _ _⟩ | exact ⟨rfl, _, Eq.trans (World.drewN_drewN _ _ _) (congrArg (World.drewN _) (Nat.add_assoc _ _ _))⟩))))
     go_ret
     exact eD_
    rw [if_neg c4] at H
    have c4b0 : decide (x5_1 < (l0.length : Int)) = false := decide_eq_false c4
    clear c4
    obtain rfl := OI_ H
    go_wp2
    repeat (go_quiet (fail); try go_wp2)
    go_ret
    exact eD_
 rw [if_neg c3] at H
 have c3b0 : ((l0.length : Int) == (l1.length : Int)) = false := beq_eq_false_iff_ne.mpr c3
 have c3b1 : ((l0.length : Int) != (l1.length : Int)) = true := bne_iff_ne.mpr c3
 have c3b2 : (l0.length == l1.length) = false := by first | simpa using c3 | (simp at c3 ⊢; omega)
 obtain rfl := OI_ H
 go_enter Try.func22, Try.ntmps22
 go_wp2
 repeat (go_quiet (fail); try go_wp2)
 go_ret
 exact eD_
def z9.f (k : Nat) (l0_0 : List (List Int)) (l1_0 : List (List Int)) : Option (Bool) := (z22.f k l0_0 l1_0).bind fun t103 => (if t103 = true then (some true) else (some false))
theorem z9.calls (k : Nat) (A0_0 : Option Addr) (c0_0 : Nat) (l0_0 : List (List Int)) (A1_0 : Option Addr) (c1_0 : Nat) (l1_0 : List (List Int)) (r : Bool) (w : World) (hr0_0 : Kd.C (Kd.slice 2 (Kd.int .i64)) w A0_0 l0_0.length l0_0) (hc0_0 : l0_0.length ≤ c0_0) (hr1_0 : Kd.C (Kd.slice 2 (Kd.int .i64)) w A1_0 l1_0.length l1_0) (hc1_0 : l1_0.length ≤ c1_0) (h : z9.f k l0_0 l1_0 = some r) :
  Calls Try.prog 9 #[.agg #[.slice A0_0 l0_0.length c0_0], .agg #[.slice A1_0 l1_0.length c1_0]] w fun e w' => e = .returned (.bool r) ∧ Below w.heap.size w w' := by
 have hu29 := Try.underlying29
 have HR0_0 := Zz.mk hr0_0
 have HC0_0 := Zz.mk hc0_0
 clear hr0_0 hc0_0
 have HR1_0 := Zz.mk hr1_0
 have HC1_0 := Zz.mk hc1_0
 clear hr1_0 hc1_0
 have HB := Zz.mk (Below.refl w.heap.size w)
 have H : ((z22.f k l0_0 l1_0).bind fun t103 => (if t103 = true then (some true) else (some false))) = some r := h
 clear h
 replace H := OZ_ H
 obtain ⟨t103, A3, H⟩ := H
 by_cases c4 : t103 = true
 ·subst c4
  replace H := T_ H
  obtain rfl := OI_ H
  go_enter Try.func9, Try.ntmps9
  go_wp2_with (first | ((with_reducible refine qAm (N := 2) rfl ?_); refine bx_ 2 #[.slice A0_0 l0_0.length c0_0] 29 ?_; intro gb101 hg w5 hbox hb; have BK101 := Zz.mk (hbox); have GW101 := Zz.mk ((gw_ hg (B_ HB.out))); have GE101 := GW101; replace HB := Zz.mk (bT_ (B_ HB.out) hb); clear hb hbox hg) | ((with_reducible refine qAm (N := 3) rfl ?_); refine bx_ 3 #[.slice A1_0 l1_0.length c1_0] 29 ?_; intro gb102 hg w6 hbox hb; have BK102 := Zz.mk (hbox); have GW102 := Zz.mk ((gw_ hg (B1_ HB.out GE101.out))); have GE102 := GW102; have NB101_102 := Zz.mk ((nb_ BK101.out hg)); have NB102_101 := Zz.mk NB101_102.out.symm; replace BK101 := Zz.mk (kb_ BK101.out hb); replace HB := Zz.mk (bT_ (B1_ HB.out GE101.out) hb); clear hb hbox hg; have hnb7 := NB101_102.out; have hnc7 := NB102_101.out; obtain ⟨hcz8_0, hfz8_0⟩ := Z1f_ BK101.out; obtain ⟨hcz9_0, hfz9_0⟩ := Z1f_ BK102.out) | ((with_reducible refine gC_ (f := 22) rfl ?_); refine GL_ (some 9) rfl rfl Try.func22 #[.slice A0_0 l0_0.length c0_0, .slice A1_0 l1_0.length c1_0] rfl (h := ?_); (with_reducible refine (z22.calls k _ _ l0_0 _ _ l1_0 true _ ?side1 ?side2 ?side3 ?side4 A3.out).mono ?_); (case side1 => exact KC_ (Kd.C_below HR0_0.out HB.out)); (case side2 => exact HC0_0.out); (case side3 => exact KC_ (Kd.C_below HR1_0.out HB.out)); (case side4 => exact HC1_0.out); rintro e w' ⟨rfl, ⟨nd, rfl⟩⟩; refine ⟨_, rfl, ?_⟩))
  go_ret
  exact ⟨F_, B2_ HB.out GE101.out GE102.out⟩
 replace c4 := Bool.eq_false_iff.mpr c4
 subst c4
 replace H := N_ H
 obtain rfl := OI_ H
 go_enter Try.func9, Try.ntmps9
 go_wp2_with (first | ((with_reducible refine qAm (N := 2) rfl ?_); refine bx_ 2 #[.slice A0_0 l0_0.length c0_0] 29 ?_; intro gb101 hg w10 hbox hb; have BK101 := Zz.mk (hbox); have GW101 := Zz.mk ((gw_ hg (B_ HB.out))); have GE101 := GW101; replace HB := Zz.mk (bT_ (B_ HB.out) hb); clear hb hbox hg) | ((with_reducible refine qAm (N := 3) rfl ?_); refine bx_ 3 #[.slice A1_0 l1_0.length c1_0] 29 ?_; intro gb102 hg w11 hbox hb; have BK102 := Zz.mk (hbox); have GW102 := Zz.mk ((gw_ hg (B1_ HB.out GE101.out))); have GE102 := GW102; have NB101_102 := Zz.mk ((nb_ BK101.out hg)); have NB102_101 := Zz.mk NB101_102.out.symm; replace BK101 := Zz.mk (kb_ BK101.out hb); replace HB := Zz.mk (bT_ (B1_ HB.out GE101.out) hb); clear hb hbox hg; have hnb12 := NB101_102.out; have hnc12 := NB102_101.out; obtain ⟨hcz13_0, hfz13_0⟩ := Z1f_ BK101.out; obtain ⟨hcz14_0, hfz14_0⟩ := Z1f_ BK102.out) | ((with_reducible refine gC_ (f := 22) rfl ?_); refine GL_ (some 9) rfl rfl Try.func22 #[.slice A0_0 l0_0.length c0_0, .slice A1_0 l1_0.length c1_0] rfl (h := ?_); (with_reducible refine (z22.calls k _ _ l0_0 _ _ l1_0 false _ ?side1 ?side2 ?side3 ?side4 A3.out).mono ?_); (case side1 => exact KC_ (Kd.C_below HR0_0.out HB.out)); (case side2 => exact HC0_0.out); (case side3 => exact KC_ (Kd.C_below HR1_0.out HB.out)); (case side4 => exact HC1_0.out); rintro e w' ⟨rfl, ⟨nd, rfl⟩⟩; refine ⟨_, rfl, ?_⟩))
 go_ret
 exact ⟨F_, B2_ HB.out GE101.out GE102.out⟩
def z12.l0 : Nat → List Int → Int → Int → Option (Int)
 | 0, _, _, _ => none
 | k + 1, x0, x1, x5 => if x5 < (x0.length : Int) then (if 0 ≤ x5 then (if (rd x0 x5) = x1 then (z12.l0 k x0 (wrap64 (x1 + 1)) (wrap64 (x5 + 1))) else (some (-1))) else (none)) else (some x1)
def z12.f (k : Nat) (l0 : List Int) (a1 : Int) : Option (Int) := z12.l0 k l0 a1 0
theorem z12.calls (k : Nat) (A0 : Option Addr) (c0 : Nat) (l0 : List Int) (a1 : Int) (r : Int) (w : World) (hr0 : Kd.C (Kd.int .i64) w A0 l0.length l0) (hc0 : l0.length ≤ c0) (h : z12.f k l0 a1 = some r) :
  Calls Try.prog 12 #[.slice A0 l0.length c0, .int .i64 a1] w fun e w' => e = .returned (.int .i64 r) ∧ Dz w w' := by
 have HR0 := Zz.mk hr0
 have HC0 := Zz.mk hc0
 clear hr0 hc0
 have H : (z12.l0 k l0 a1 0) = some r := h
 clear h
 have H' := Zz.mk H
 clear H
 go_enter Try.func12, Try.ntmps12
 go_wp2
 go_loopg [1, 5] k (fun kq v1 v5 w' => ∃ (x1_1 : Int) (x5_1 : Int), v1 = .int .i64 x1_1 ∧ v5 = .int .i64 x5_1 ∧ Zz (z12.l0 kq l0 x1_1 x5_1 = some r) ∧ Zz (kq ≤ k) ∧ Dz w w')
 case atStart => exact ⟨(a1), (0), E_, E_, H', ⟨Nat.le_refl _⟩, by repeat (first | exact Dz.refl _ | apply Dz.step)⟩
 case round =>
  clear H'
  obtain ⟨x1_1, x5_1, rfl, rfl, HA, HK1, ⟨m1, rfl⟩⟩ := hrel
  cases gk with
  | zero => exact absurd HA.out (by simp [z12.l0])
  | succ k1 =>
   have H := HA.out
   clear HA
   simp only [z12.l0] at H
   by_cases c3 : x5_1 < (l0.length : Int)
   ·rw [if_pos c3] at H
    have c3b0 : decide (x5_1 < (l0.length : Int)) = true := decide_eq_true c3
    clear c3
    have c4b0 := O3_ H
    replace H := O2_ H
    by_cases c5 : (rd l0 x5_1) = x1_1
    ·rw [if_pos c5] at H
     have c5b0 : ((rd l0 x5_1) == x1_1) = true := beq_iff_eq.mpr c5
     have c5b1 : ((rd l0 x5_1) != x1_1) = false := bne_eq_false_iff_eq.mpr c5
     clear c5
     have H' := Zz.mk H
     clear H
     have p101 : 0 ≤ (x5_1 : Int) := D_
     have q101 : x5_1 < (l0.length : Int) := D_
     obtain ⟨ad101, e101, hx101_0⟩ := Kd.at_int HR0.out x5_1 p101 q101
     cases e101
     replace p101 := eq_true p101
     replace q101 := eq_true q101
     go_wp2
     go_roundg k1
     case measure => exact Q1_ HK1
     case rel => exact ⟨(wrap64 (x1_1 + 1)), (wrap64 (x5_1 + 1)), E_, E_, H', ⟨Q1_ HK1⟩, by repeat (first | exact Dz.refl _ | apply Dz.step)⟩
    rw [if_neg c5] at H
    have c5b0 : ((rd l0 x5_1) == x1_1) = false := beq_eq_false_iff_ne.mpr c5
    have c5b1 : ((rd l0 x5_1) != x1_1) = true := bne_iff_ne.mpr c5
    obtain rfl := OI_ H
    have p101 : 0 ≤ (x5_1 : Int) := D_
    have q101 : x5_1 < (l0.length : Int) := D_
    obtain ⟨ad101, e101, hx101_0⟩ := Kd.at_int HR0.out x5_1 p101 q101
    cases e101
    replace p101 := eq_true p101
    replace q101 := eq_true q101
    go_wp2
    go_ret
    exact eD_
   rw [if_neg c3] at H
   have c3b0 : decide (x5_1 < (l0.length : Int)) = false := decide_eq_false c3
   clear c3
   obtain rfl := OI_ H
   go_wp2
   go_ret
   exact eD_
def z11.l0 : Nat → List Int → Int → Int → Option (Int × List Int)
 | 0, _, _, _ => none
 | k + 1, x0, x1, x5 => if x5 < (x0.length : Int) then (if 0 ≤ x5 then (z11.l0 k (x0.set (x5 : Int).toNat x1) (wrap64 (x1 + 1)) (wrap64 (x5 + 1))) else (none)) else (some (x1, x0))
def z11.f (k : Nat) (l0 : List Int) (a1 : Int) : Option (Int × List Int) := z11.l0 k l0 a1 0
theorem z11.calls (k : Nat) (P0_ : Nat → Prop) (u9000_ : Value) (l0 : List Int) (a1 : Int) (r1 : Int) (r2 : List Int) (w0 w : World) (hB : Below w0.heap.size w0 w) (ho0 : Kd.R (Kd.int .i64) 2 w w0.heap.size P0_ u9000_ l0) (h : z11.f k l0 a1 = some (r1, r2)) :
  Calls Try.prog 11 #[u9000_, .int .i64 a1] w fun e w' => e = .returned (.int .i64 r1) ∧ Kd.R (Kd.int .i64) 2 w' w0.heap.size (fun k_ => (P0_ k_ ∨ w.heap.size ≤ k_)) u9000_ r2 ∧ Below w0.heap.size w0 w' ∧ Kept w w' (fun k_ => P0_ k_) := by
 have HO0 := Zz.mk (show Kd.R (Kd.int .i64) 2 w w0.heap.size (fun k_ => (P0_ k_ ∨ w.heap.size ≤ k_)) u9000_ l0 from Kd.R_mono ho0 (fun k_ hk => (.inl hk)))
 have HK := Zz.mk (Kept.refl w (fun k_ => P0_ k_))
 have HW0 := Zz.mk hB.size
 have HB := Zz.mk hB
 clear hB
 have H : (z11.l0 k l0 a1 0) = some (r1, r2) := h
 clear h
 have H' := Zz.mk H
 clear H
 go_enter Try.func11, Try.ntmps11
 go_wp2
 go_loopg [1, 5] k (fun kq v1 v5 w' => ∃ (x0_1 : List Int) (x1_1 : Int) (x5_1 : Int), v1 = .int .i64 x1_1 ∧ v5 = .int .i64 x5_1 ∧ Zz (z11.l0 kq x0_1 x1_1 x5_1 = some (r1, r2)) ∧ Zz (kq ≤ k) ∧ Zz (Kd.R (Kd.int .i64) 2 w' w0.heap.size (fun k_ => (P0_ k_ ∨ w.heap.size ≤ k_)) u9000_ x0_1) ∧ Zz (Kept w w' (fun k_ => P0_ k_)) ∧ Zz (Below w0.heap.size w0 w'))
 case atStart => exact ⟨(l0), (a1), (0), E_, E_, H', ⟨Nat.le_refl _⟩, ⟨KR_ HO0.out⟩, ⟨by repeat (first | (with_reducible first | exact HK.out | apply Kept.alloc | apply Kept.drewN | apply Kept.drew) | exact HK.out)⟩, ⟨B_ HB.out⟩⟩
 case round =>
  clear H'
  obtain ⟨x0_1, x1_1, x5_1, rfl, rfl, HA, HK1, HO_0, HK, HB⟩ := hrel
  cases gk with
  | zero => exact absurd HA.out (by simp [z11.l0])
  | succ k1 =>
   have H := HA.out
   clear HA
   simp only [z11.l0] at H
   by_cases c3 : x5_1 < (x0_1.length : Int)
   ·rw [if_pos c3] at H
    have c3b0 : decide (x5_1 < (x0_1.length : Int)) = true := decide_eq_true c3
    clear c3
    have c4b0 := O3_ H
    replace H := O2_ H
    obtain ⟨y101, hy101⟩ : ∃ y_ : List Int, y_ = (x0_1.set (x5_1 : Int).toNat x1_1) := ⟨_, rfl⟩
    replace H : (z11.l0 k1 y101 (wrap64 (x1_1 + 1)) (wrap64 (x5_1 + 1))) = some (r1, r2) := Y_ hy101 H
    have Ny101 := Zz.mk hy101
    clear hy101
    have H' := Zz.mk H
    clear H
    obtain ⟨Ao6, co6, eo6⟩ := Kd.R_slice HO_0.out
    subst eo6
    have p5 : 0 ≤ (x5_1 : Int) := D_
    have q5 : (x5_1 : Int) < ((x0_1.length : Int) : Int) := D_
    obtain ⟨go5, co5, eo5, gb5, gl5, cl5, HG5⟩ := Kd.R_form HO_0.out (by omega)
    (first | cases eo5 | (injection eo5 with ea_ en_ ec_; (first | subst ea_ | (injection ea_ with ea_; subst ea_)); subst ec_; clear en_))
    have GB5 := Zz.mk gb5
    have GG5 := Zz.mk HG5
    clear gb5 gl5 HG5
    have HMgo5 := Zz.mk (show (P0_ go5 ∨ w.heap.size ≤ go5) from (HO_0.out.1 _ rfl))
    obtain ⟨hx5_0, hf5_0⟩ := Kd.R_celln 0 HO_0.out (x5_1 : Int) p5 q5
    replace p5 := eq_true p5
    replace q5 := eq_true q5
    have HP7 := Kd.R_putg HO_0.out (x5_1 : Int) x1_1
    go_wp2_with (first | ((with_reducible refine qCa (t := 2) (p := 15) rfl ?_); refine qB0 (t := 2) (p := 15) (v := ?vo_w8) (w1 := (wr.setCell ⟨go5, (x5_1 : Int).toNat, none⟩ (.int .i64 x1_1))) ?hg ?ho ?hn ?hr ?_; (case ho => rfl); (case hg => rfl); (case hn => rfl); (case hr => first | (go_simp; done) | (go_simp; rfl)); intro w8 hw; have hg : wr.grownBy w8 (some go5) := (by rw [hw]; exact HP7.2); have hp_ : Kd.R (Kd.int .i64) 2 w8 w0.heap.size (fun k_ => (P0_ k_ ∨ w.heap.size ≤ k_)) (.slice (some ⟨go5, 0, none⟩) x0_1.length co6) y101 := (by rw [hw, Ny101.out]; exact HP7.1); clear HP7; replace HB := Zz.mk ((by rw [hw]; exact qAz (HB.out) GB5.out : Below w0.heap.size w0 w8)); replace HK := Zz.mk (Kept.of_grown (S := (fun k_ => P0_ k_)) hg (by repeat (first | (with_reducible first | exact HK.out | apply Kept.alloc | apply Kept.drewN | apply Kept.drew) | exact HK.out)) (fun k_ e_ => (HO_0.out.1 k_ e_))); replace HO_0 := Zz.mk (hp_); clear hg hw hp_))
    go_roundg k1
    case measure => exact Q1_ HK1
    case rel => exact ⟨(y101), (wrap64 (x1_1 + 1)), (wrap64 (x5_1 + 1)), E_, E_, H', ⟨Q1_ HK1⟩, ⟨KR_ HO_0.out⟩, ⟨by repeat (first | (with_reducible first | exact HK.out | apply Kept.alloc | apply Kept.drewN | apply Kept.drew) | exact HK.out)⟩, ⟨B_ HB.out⟩⟩
   rw [if_neg c3] at H
   have c3b0 : decide (x5_1 < (x0_1.length : Int)) = false := decide_eq_false c3
   clear c3
   simp only [Option.some.injEq, Prod.mk.injEq] at H
   obtain ⟨rfl, rfl⟩ := H
   obtain ⟨Ao9, co9, eo9⟩ := Kd.R_slice HO_0.out
   subst eo9
   go_wp2
   go_ret
   exact ⟨F_, KR_ HO_0.out, B_ HB.out, by repeat (first | (with_reducible first | exact HK.out | apply Kept.alloc | apply Kept.drewN | apply Kept.drew) | exact HK.out)⟩
def z24.f (l0 : List Int) (a1 : Int) : Option (Int) := if (wrap64 (a1 - (l0.length : Int))) < 0 then (some (-1)) else (some (wrap64 (a1 - (l0.length : Int))))
theorem z24.calls (A0 : Option Addr) (c0 : Nat) (l0 : List Int) (a1 : Int) (r : Int) (w : World) (hr0 : Kd.C (Kd.int .i64) w A0 l0.length l0) (hc0 : l0.length ≤ c0) (h : z24.f l0 a1 = some r) :
  Calls Try.prog 24 #[.slice A0 l0.length c0, .int .i64 a1] w fun e w' => e = .returned (.int .i64 r) ∧ Dz w w' := by
 have HR0 := Zz.mk hr0
 have HC0 := Zz.mk hc0
 clear hr0 hc0
 have H : (if (wrap64 (a1 - (l0.length : Int))) < 0 then (some (-1)) else (some (wrap64 (a1 - (l0.length : Int))))) = some r := h
 clear h
 by_cases c3 : (wrap64 (a1 - (l0.length : Int))) < 0
 ·rw [if_pos c3] at H
  have c3b0 : decide ((wrap64 (a1 - (l0.length : Int))) < 0) = true := decide_eq_true c3
  clear c3
  obtain rfl := OI_ H
  go_enter Try.func24, Try.ntmps24
  go_wp2
  go_ret
  exact eD_
 rw [if_neg c3] at H
 have c3b0 : decide ((wrap64 (a1 - (l0.length : Int))) < 0) = false := decide_eq_false c3
 clear c3
 obtain rfl := OI_ H
 go_enter Try.func24, Try.ntmps24
 go_wp2
 go_ret
 exact eD_
def z13.l0 : Nat → List (List Int) → Int → Int → Option (Int)
 | 0, _, _, _ => none
 | k + 1, x0, x1, x5 => if x5 < (x0.length : Int) then (if 0 ≤ x5 then ((z24.f (rI_ x0 x5) x1).bind fun t102 => (if t102 < 0 then (some (-1)) else (z13.l0 k x0 t102 (wrap64 (x5 + 1))))) else (none)) else (some x1)
def z13.f (k : Nat) (l0 : List (List Int)) (a1 : Int) : Option (Int) := if (wrap64 (a1 - (l0.length : Int))) < 0 then (some (-1)) else (z13.l0 k l0 (wrap64 (a1 - (l0.length : Int))) 0)
theorem z13.calls (k : Nat) (A0 : Option Addr) (c0 : Nat) (l0 : List (List Int)) (a1 : Int) (r : Int) (w : World) (hr0 : Kd.C (Kd.slice 2 (Kd.int .i64)) w A0 l0.length l0) (hc0 : l0.length ≤ c0) (h : z13.f k l0 a1 = some r) :
  Calls Try.prog 13 #[.slice A0 l0.length c0, .int .i64 a1] w fun e w' => e = .returned (.int .i64 r) ∧ Dz w w' := by
 have HR0 := Zz.mk hr0
 have HC0 := Zz.mk hc0
 clear hr0 hc0
 have H : (if (wrap64 (a1 - (l0.length : Int))) < 0 then (some (-1)) else (z13.l0 k l0 (wrap64 (a1 - (l0.length : Int))) 0)) = some r := h
 clear h
 by_cases c3 : (wrap64 (a1 - (l0.length : Int))) < 0
 ·rw [if_pos c3] at H
  have c3b0 : decide ((wrap64 (a1 - (l0.length : Int))) < 0) = true := decide_eq_true c3
  clear c3
  obtain rfl := OI_ H
  go_enter Try.func13, Try.ntmps13
  go_wp2
  go_ret
  exact eD_
 rw [if_neg c3] at H
 have c3b0 : decide ((wrap64 (a1 - (l0.length : Int))) < 0) = false := decide_eq_false c3
 clear c3
 have H' := Zz.mk H
 clear H
 go_enter Try.func13, Try.ntmps13
 go_wp2
 go_loopg [1, 5] k (fun kq v1 v5 w' => ∃ (x1_1 : Int) (x5_1 : Int), v1 = .int .i64 x1_1 ∧ v5 = .int .i64 x5_1 ∧ Zz (z13.l0 kq l0 x1_1 x5_1 = some r) ∧ Zz (kq ≤ k) ∧ Dz w w')
 case atStart => exact ⟨(wrap64 (a1 - (l0.length : Int))), (0), E_, E_, H', ⟨Nat.le_refl _⟩, by repeat (first | exact Dz.refl _ | apply Dz.step)⟩
 case round =>
  clear H'
  (try clear c3);(try clear c3b0)
  obtain ⟨x1_1, x5_1, rfl, rfl, HA, HK1, ⟨m1, rfl⟩⟩ := hrel
  cases gk with
  | zero => exact absurd HA.out (by simp [z13.l0])
  | succ k1 =>
   have H := HA.out
   clear HA
   simp only [z13.l0] at H
   by_cases c4 : x5_1 < (l0.length : Int)
   ·rw [if_pos c4] at H
    have c4b0 : decide (x5_1 < (l0.length : Int)) = true := decide_eq_true c4
    clear c4
    have c5b0 := O3_ H
    replace H := O2_ H
    replace H := OZ_ H
    obtain ⟨t102, A6, H⟩ := H
    by_cases c7 : t102 < 0
    ·rw [if_pos c7] at H
     have c7b0 : decide (t102 < 0) = true := decide_eq_true c7
     clear c7
     obtain rfl := OI_ H
     have p101 : 0 ≤ (x5_1 : Int) := D_
     have q101 : x5_1 < (l0.length : Int) := D_
     obtain ⟨ad101, A101_0, c101_0, e101, hx101_0, hl101_0, hi101_0⟩ := qAp HR0.out x5_1 p101 q101
     cases e101
     have HR101_0 := Zz.mk hi101_0
     have HC101_0 := Zz.mk hl101_0
     clear hi101_0 hl101_0
     replace p101 := eq_true p101
     replace q101 := eq_true q101
     go_wp2_with (first | ((with_reducible refine gC_ (f := 24) rfl ?_); refine GL_ (some 23) rfl rfl Try.func24 #[.slice A101_0 (rI_ l0 x5_1).length c101_0, .int .i64 x1_1] rfl (h := ?_); (with_reducible refine (z24.calls _ _ (rI_ l0 x5_1) x1_1 t102 _ ?side1 ?side2 A6.out).mono ?_); (case side1 => exact KC_ HR101_0.out); (case side2 => exact HC101_0.out); rintro e w' ⟨rfl, ⟨nd, rfl⟩⟩; refine ⟨_, rfl, ?_⟩))
     go_ret
     exact eD_
    rw [if_neg c7] at H
    have c7b0 : decide (t102 < 0) = false := decide_eq_false c7
    clear c7
    have H' := Zz.mk H
    clear H
    have p101 : 0 ≤ (x5_1 : Int) := D_
    have q101 : x5_1 < (l0.length : Int) := D_
    obtain ⟨ad101, A101_0, c101_0, e101, hx101_0, hl101_0, hi101_0⟩ := qAp HR0.out x5_1 p101 q101
    cases e101
    have HR101_0 := Zz.mk hi101_0
    have HC101_0 := Zz.mk hl101_0
    clear hi101_0 hl101_0
    replace p101 := eq_true p101
    replace q101 := eq_true q101
    go_wp2_with (first | ((with_reducible refine gC_ (f := 24) rfl ?_); refine GL_ (some 23) rfl rfl Try.func24 #[.slice A101_0 (rI_ l0 x5_1).length c101_0, .int .i64 x1_1] rfl (h := ?_); (with_reducible refine (z24.calls _ _ (rI_ l0 x5_1) x1_1 t102 _ ?side1 ?side2 A6.out).mono ?_); (case side1 => exact KC_ HR101_0.out); (case side2 => exact HC101_0.out); rintro e w' ⟨rfl, ⟨nd, rfl⟩⟩; refine ⟨_, rfl, ?_⟩))
    go_roundg k1
    case measure => exact Q1_ HK1
    case rel => exact ⟨(t102), (wrap64 (x5_1 + 1)), E_, E_, H', ⟨Q1_ HK1⟩, by repeat (first | exact Dz.refl _ | apply Dz.step)⟩
   rw [if_neg c4] at H
   have c4b0 : decide (x5_1 < (l0.length : Int)) = false := decide_eq_false c4
   clear c4
   obtain rfl := OI_ H
   go_wp2
   go_ret
   exact eD_
def z4.f (k : Nat) (l0_0 : List (List Int)) (a1 : Int) : Option (Int) := (z13.f k l0_0 a1).bind fun t102 => (if t102 < 0 then (some (-1)) else (some t102))
theorem z4.calls (k : Nat) (A0_0 : Option Addr) (c0_0 : Nat) (l0_0 : List (List Int)) (a1 : Int) (r : Int) (w : World) (hr0_0 : Kd.C (Kd.slice 2 (Kd.int .i64)) w A0_0 l0_0.length l0_0) (hc0_0 : l0_0.length ≤ c0_0) (h : z4.f k l0_0 a1 = some r) :
  Calls Try.prog 4 #[.agg #[.slice A0_0 l0_0.length c0_0], .int .i64 a1] w fun e w' => e = .returned (.int .i64 r) ∧ Below w.heap.size w w' := by
 have hu24 := Try.underlying24
 have HR0_0 := Zz.mk hr0_0
 have HC0_0 := Zz.mk hc0_0
 clear hr0_0 hc0_0
 have HB := Zz.mk (Below.refl w.heap.size w)
 have H : ((z13.f k l0_0 a1).bind fun t102 => (if t102 < 0 then (some (-1)) else (some t102))) = some r := h
 clear h
 replace H := OZ_ H
 obtain ⟨t102, A3, H⟩ := H
 by_cases c4 : t102 < 0
 ·rw [if_pos c4] at H
  have c4b0 : decide (t102 < 0) = true := decide_eq_true c4
  clear c4
  obtain rfl := OI_ H
  go_enter Try.func4, Try.ntmps4
  go_wp2_with (first | ((with_reducible refine qAm (N := 2) rfl ?_); refine bx_ 2 #[.slice A0_0 l0_0.length c0_0] 24 ?_; intro gb101 hg w5 hbox hb; have BK101 := Zz.mk (hbox); have GW101 := Zz.mk ((gw_ hg (B_ HB.out))); have GE101 := GW101; replace HB := Zz.mk (bT_ (B_ HB.out) hb); clear hb hbox hg; obtain ⟨hcz6_0, hfz6_0⟩ := Z1f_ BK101.out) | ((with_reducible refine gC_ (f := 13) rfl ?_); refine GL_ (some 8) rfl rfl Try.func13 #[.slice A0_0 l0_0.length c0_0, .int .i64 a1] rfl (h := ?_); (with_reducible refine (z13.calls k _ _ l0_0 a1 t102 _ ?side1 ?side2 A3.out).mono ?_); (case side1 => exact KC_ (Kd.C_below HR0_0.out HB.out)); (case side2 => exact HC0_0.out); rintro e w' ⟨rfl, ⟨nd, rfl⟩⟩; refine ⟨_, rfl, ?_⟩))
  go_ret
  exact ⟨F_, B1_ HB.out GE101.out⟩
 rw [if_neg c4] at H
 have c4b0 : decide (t102 < 0) = false := decide_eq_false c4
 clear c4
 obtain rfl := OI_ H
 go_enter Try.func4, Try.ntmps4
 go_wp2_with (first | ((with_reducible refine qAm (N := 2) rfl ?_); refine bx_ 2 #[.slice A0_0 l0_0.length c0_0] 24 ?_; intro gb101 hg w7 hbox hb; have BK101 := Zz.mk (hbox); have GW101 := Zz.mk ((gw_ hg (B_ HB.out))); have GE101 := GW101; replace HB := Zz.mk (bT_ (B_ HB.out) hb); clear hb hbox hg; obtain ⟨hcz8_0, hfz8_0⟩ := Z1f_ BK101.out) | ((with_reducible refine gC_ (f := 13) rfl ?_); refine GL_ (some 8) rfl rfl Try.func13 #[.slice A0_0 l0_0.length c0_0, .int .i64 a1] rfl (h := ?_); (with_reducible refine (z13.calls k _ _ l0_0 a1 t102 _ ?side1 ?side2 A3.out).mono ?_); (case side1 => exact KC_ (Kd.C_below HR0_0.out HB.out)); (case side2 => exact HC0_0.out); rintro e w' ⟨rfl, ⟨nd, rfl⟩⟩; refine ⟨_, rfl, ?_⟩))
 go_ret
 exact ⟨F_, B1_ HB.out GE101.out⟩
end Go.Proofs.Ytpgjfppbbbnclaa.B
