/- Printed proofs of functions of the program and of the reference, by a program of this work over the kit's printer. -/
import Derived.Test.YtipkciildhghiaaKW0
import Derived.ArgAppend
import Derived.Below
import Derived.BigQuiet
import Derived.Deep.AppendLies
import Derived.Deep.CutBlock
import Derived.Deep.DeepCutAuto
import Derived.Deep.Draws
import Derived.Deep.LoopGhost
import Derived.Deep.OwnRows
import Derived.Deep.QuietTactic
import Derived.Deep.RegionHeld3
import Derived.KernelRfl
import Derived.Laws.BitsLemmas
import Derived.Laws.BytesArg
import Derived.Laws.IdiomCopy
import Derived.Laws.MakeOwn
import Derived.Laws.OwnMore
import Derived.Laws.Rows
import Derived.Laws.Slices
import Derived.Lib.AppendStr
import Derived.Lib.ConvBytes
import Derived.Lib.SliceRun
import Derived.Maps.AppendAt
import Derived.OrdersHeld
import Derived.OwnWalk
import Derived.RowKit
import Derived.RowKit3
import Derived.Tactics
import Derived.Test.YtipkciildhghiaaProg
import Derived.WalkKit
import Derived.WideLaws
set_option maxHeartbeats 8000000
set_option maxRecDepth 100000
/- Words of our own: rows told by the heap's size. -/
namespace Go.Proofs.YtipkciildhghiaaW.PrintWords.Kd
open Go.RowKit
section
variable {α : Type} {d : Kd α} {e base n B g t : Nat} {ok : Nat → Prop} {W w1 : World} {u v : Value} {xs : List α}
theorem size_letter {w0 : World} (_ : Below W.heap.size w0 w1) : ∃ n : Nat, n = W.heap.size := ⟨_, rfl⟩
theorem S_oldN (h : S d e W base ok u xs) (hb : Below W.heap.size W w1) (hn : n = W.heap.size) : S d e w1 base (fun k => ok k ∧ k < n) u xs := by subst hn; exact S_old h hb
theorem R_oldN (h : d.R e W base ok u xs) (hb : Below W.heap.size W w1) (hn : n = W.heap.size) : d.R e w1 base (fun k => ok k ∧ k < n) u xs := by subst hn; exact R_mono (R_below (R_bound h) hb) (fun _ hk => ⟨hk.1, hk.2.2.1⟩)
theorem S_baseN (h : S d e w1 B ok v xs) (hn : n = B) : ∀ k, v.ownBlock = some k → n ≤ k := by subst hn; exact S_base h
theorem R_baseN (h : d.R e w1 B ok v xs) (hn : n = B) : ∀ k, v.ownBlock = some k → n ≤ k := by subst hn; exact R_base h
theorem S_geN (h : S d e w1 B ok v xs) (hn : n = B) : S d e w1 B (fun k => ok k ∧ n ≤ k) v xs := by subst hn; exact S_mono (S_bound h) (fun _ hk => ⟨hk.1, hk.2.1⟩)
theorem R_geN (h : d.R e w1 B ok v xs) (hn : n = B) : d.R e w1 B (fun k => ok k ∧ n ≤ k) v xs := by subst hn; exact R_mono (R_bound h) (fun _ hk => ⟨hk.1, hk.2.1⟩)
theorem S_pin (h : S d e W base ok v xs) : S d e W base (fun k => ok k ∧ ∃ q, q ∈ e :: d.E ∧ ∃ cells, W.heap[k]? = some (.cells cells q (0, 0))) v xs := S_mono (S_bound h) (fun _ hk => ⟨hk.1, hk.2.2.2⟩)
theorem typed_ne {E : List Nat} {cs : Array Value} {fr : Nat × Nat} (hb : W.heap[g]? = some (.cells cs t fr)) (hs : ∃ q, q ∈ E ∧ ∃ cells, W.heap[g]? = some (.cells cells q (0, 0))) (ht : ∀ q, q ∈ E → q ≠ t) : False := by
  obtain ⟨q, hq, cells, hc⟩ := hs
  rw [hb] at hc
  injection hc with hc
  injection hc with _ hc
  exact ht q hq hc.symm
end
end Go.Proofs.YtipkciildhghiaaW.PrintWords.Kd
namespace Go.Proofs.Ytipkciildhghiaa.B
open Go.RowKit Go.Proofs.YtipkciildhghiaaW.PrintWords Go.Proofs.YtipkciildhghiaaW.PrintLast Go.Proofs.YtipkciildhghiaaW.PrintMore
attribute [local go_sem] max2_int min2_int max_two min_two max_three min_three max_four min_four
set_option linter.unusedVariables false
set_option linter.unusedSimpArgs false
def errW : Option Int → Value
 | none => .nilIface
 | some c => .iface 0 (.int .i64 c)
theorem errW_none : errW none = .nilIface := rfl
theorem errW_some (c : Int) : errW (some c) = .iface 0 (.int .i64 c) := rfl
theorem E_ {p : Prop} (h : p := by first | rfl | (simp; done) | (simp [*]; done)) : p := h
theorem F_ {p : Prop} (h : p := by first | rfl | (simp [errW_none, errW_some] <;> rfl) | (simp [*, errW_none, errW_some] <;> rfl)) : p := h
theorem D_ {c : Prop} [Decidable c] (h : decide c = true := by first | (with_reducible assumption) | assumption) : c := of_decide_eq_true h
theorem B_ {p q : Prop} (x : q) (h : q → p := by intro hx_; repeat (first | (with_reducible first | exact hx_ | apply below_alloc | apply pw_below_drewN | apply below_drew1) | exact hx_)) : p := h x
theorem B1_ {p q g1 : Prop} (x : q) (y1 : g1) (h : q → g1 → p := by intro hx_ hy_; repeat (first | (with_reducible first | exact hx_ | apply below_alloc | apply pw_below_drewN | apply below_drew1 | refine below_set ?_ hy_) | exact hx_)) : p := h x y1
theorem B2_ {p q g1 g2 : Prop} (x : q) (y1 : g1) (y2 : g2) (h : q → g1 → g2 → p := by intro hx_ hy_ hz_; repeat (first | (with_reducible first | exact hx_ | apply below_alloc | apply pw_below_drewN | apply below_drew1 | refine below_set ?_ hy_ | refine below_set ?_ hz_) | exact hx_)) : p := h x y1 y2
theorem B3_ {p q g1 g2 g3 : Prop} (x : q) (y1 : g1) (y2 : g2) (y3 : g3) (h : q → g1 → g2 → g3 → p := by intro hx_ hy_ hz_ hu_; repeat (first | (with_reducible first | exact hx_ | apply below_alloc | apply pw_below_drewN | apply below_drew1 | refine below_set ?_ hy_ | refine below_set ?_ hz_ | refine below_set ?_ hu_) | exact hx_)) : p := h x y1 y2 y3
theorem KS_ {p q : Prop} (x : q) (h : q → p := by intro hx_; (with_reducible repeat (first | apply Kd.S_alloc | apply Kd.S_drewN | apply Kd.S_drew)); exact hx_) : p := h x
theorem KR_ {p q : Prop} (x : q) (h : q → p := by intro hx_; (with_reducible repeat (first | apply Kd.R_alloc | apply Kd.R_drewN | apply Kd.R_drew)); exact hx_) : p := h x
theorem KN_ {p q : Prop} (x : q) (h : q → p := by intro hx_; (with_reducible repeat (first | apply Kd.N_alloc | apply Kd.N_drewN | apply Kd.N_drew)); exact hx_) : p := h x
theorem KB_ {p q : Prop} (x : q) (h : q → p := by intro hx_; (with_reducible repeat (first | refine bN_ ?_ _ | refine bD_ ?_ | refine bA_ ?_ _)); exact hx_) : p := h x
theorem KC_ {p q : Prop} (x : q) (h : q → p := by intro hx_; repeat (first | (with_reducible exact hx_) | (with_reducible refine Kd.C_alloc ?_ _) | (with_reducible refine Kd.C_drewN ?_ _) | (with_reducible refine Kd.C_drew ?_) | exact hx_)) : p := h x
theorem Bw2_ {p q g0 g1 : Prop} (x : q) (y0 : g0) (y1 : g1) (h : q → g0 → g1 → p := by intro hx_ hy0 hy1; repeat (first | (with_reducible first | exact hx_ | apply below_alloc | apply pw_below_drewN | apply below_drew1 | refine below_set ?_ hy0 | refine below_set ?_ hy1) | exact hx_)) : p := h x y0 y1
theorem Bw3_ {p q g0 g1 g2 : Prop} (x : q) (y0 : g0) (y1 : g1) (y2 : g2) (h : q → g0 → g1 → g2 → p := by intro hx_ hy0 hy1 hy2; repeat (first | (with_reducible first | exact hx_ | apply below_alloc | apply pw_below_drewN | apply below_drew1 | refine below_set ?_ hy0 | refine below_set ?_ hy1 | refine below_set ?_ hy2) | exact hx_)) : p := h x y0 y1 y2
theorem Bw4_ {p q g0 g1 g2 g3 : Prop} (x : q) (y0 : g0) (y1 : g1) (y2 : g2) (y3 : g3) (h : q → g0 → g1 → g2 → g3 → p := by intro hx_ hy0 hy1 hy2 hy3; repeat (first | (with_reducible first | exact hx_ | apply below_alloc | apply pw_below_drewN | apply below_drew1 | refine below_set ?_ hy0 | refine below_set ?_ hy1 | refine below_set ?_ hy2 | refine below_set ?_ hy3) | exact hx_)) : p := h x y0 y1 y2 y3
theorem Bw5_ {p q g0 g1 g2 g3 g4 : Prop} (x : q) (y0 : g0) (y1 : g1) (y2 : g2) (y3 : g3) (y4 : g4) (h : q → g0 → g1 → g2 → g3 → g4 → p := by intro hx_ hy0 hy1 hy2 hy3 hy4; repeat (first | (with_reducible first | exact hx_ | apply below_alloc | apply pw_below_drewN | apply below_drew1 | refine below_set ?_ hy0 | refine below_set ?_ hy1 | refine below_set ?_ hy2 | refine below_set ?_ hy3 | refine below_set ?_ hy4) | exact hx_)) : p := h x y0 y1 y2 y3 y4
theorem Bw6_ {p q g0 g1 g2 g3 g4 g5 : Prop} (x : q) (y0 : g0) (y1 : g1) (y2 : g2) (y3 : g3) (y4 : g4) (y5 : g5) (h : q → g0 → g1 → g2 → g3 → g4 → g5 → p := by intro hx_ hy0 hy1 hy2 hy3 hy4 hy5; repeat (first | (with_reducible first | exact hx_ | apply below_alloc | apply pw_below_drewN | apply below_drew1 | refine below_set ?_ hy0 | refine below_set ?_ hy1 | refine below_set ?_ hy2 | refine below_set ?_ hy3 | refine below_set ?_ hy4 | refine below_set ?_ hy5) | exact hx_)) : p := h x y0 y1 y2 y3 y4 y5
theorem Bw7_ {p q g0 g1 g2 g3 g4 g5 g6 : Prop} (x : q) (y0 : g0) (y1 : g1) (y2 : g2) (y3 : g3) (y4 : g4) (y5 : g5) (y6 : g6) (h : q → g0 → g1 → g2 → g3 → g4 → g5 → g6 → p := by intro hx_ hy0 hy1 hy2 hy3 hy4 hy5 hy6; repeat (first | (with_reducible first | exact hx_ | apply below_alloc | apply pw_below_drewN | apply below_drew1 | refine below_set ?_ hy0 | refine below_set ?_ hy1 | refine below_set ?_ hy2 | refine below_set ?_ hy3 | refine below_set ?_ hy4 | refine below_set ?_ hy5 | refine below_set ?_ hy6) | exact hx_)) : p := h x y0 y1 y2 y3 y4 y5 y6
theorem Z1_ {w : World} {g : Nat} {t : TypeId} {v0 : Value} (h : w.heap[g]? = some (.cells #[v0] t (0, 0))) : w.cell? ⟨g, 0, none⟩ = some v0 := (bC_ h 0).trans rfl
theorem Z1f_ {w : World} {g : Nat} {t : TypeId} {v0 : Value} (h : w.heap[g]? = some (.cells #[v0] t (0, 0))) : w.cell? ⟨g, 0, none⟩ = some v0 ∧ w.frozen? ⟨g, 0, none⟩ = false := ⟨(bC_ h 0).trans rfl, bF_ h 0⟩
theorem Z3f_ {w : World} {g : Nat} {t : TypeId} {v0 v1 v2 : Value} (h : w.heap[g]? = some (.cells #[v0, v1, v2] t (0, 0))) : w.cell? ⟨g, 0, none⟩ = some v0 ∧ w.cell? ⟨g, 1, none⟩ = some v1 ∧ w.cell? ⟨g, 2, none⟩ = some v2 ∧ w.frozen? ⟨g, 0, none⟩ = false ∧ w.frozen? ⟨g, 1, none⟩ = false ∧ w.frozen? ⟨g, 2, none⟩ = false := ⟨(bC_ h 0).trans rfl, (bC_ h 1).trans rfl, (bC_ h 2).trans rfl, bF_ h 0, bF_ h 1, bF_ h 2⟩
theorem Z4a_ {w : World} {g : Nat} {t : TypeId} {v0 v1 v2 v3 : Value} (h : w.heap[g]? = some (.cells #[v0, v1, v2, v3] t (0, 0))) {q : Prop} (r : q) : w.cell? ⟨g, 0, none⟩ = some v0 ∧ w.cell? ⟨g, 1, none⟩ = some v1 ∧ w.cell? ⟨g, 2, none⟩ = some v2 ∧ w.cell? ⟨g, 3, none⟩ = some v3 ∧ q := ⟨(bC_ h 0).trans rfl, (bC_ h 1).trans rfl, (bC_ h 2).trans rfl, (bC_ h 3).trans rfl, r⟩
theorem Z4_ {w : World} {g : Nat} {t : TypeId} {v0 v1 v2 v3 : Value} (h : w.heap[g]? = some (.cells #[v0, v1, v2, v3] t (0, 0))) : w.cell? ⟨g, 0, none⟩ = some v0 ∧ w.cell? ⟨g, 1, none⟩ = some v1 ∧ w.cell? ⟨g, 2, none⟩ = some v2 ∧ w.cell? ⟨g, 3, none⟩ = some v3 := ⟨(bC_ h 0).trans rfl, (bC_ h 1).trans rfl, (bC_ h 2).trans rfl, (bC_ h 3).trans rfl⟩
theorem Z4f_ {w : World} {g : Nat} {t : TypeId} {v0 v1 v2 v3 : Value} (h : w.heap[g]? = some (.cells #[v0, v1, v2, v3] t (0, 0))) : w.cell? ⟨g, 0, none⟩ = some v0 ∧ w.cell? ⟨g, 1, none⟩ = some v1 ∧ w.cell? ⟨g, 2, none⟩ = some v2 ∧ w.cell? ⟨g, 3, none⟩ = some v3 ∧ w.frozen? ⟨g, 0, none⟩ = false ∧ w.frozen? ⟨g, 1, none⟩ = false ∧ w.frozen? ⟨g, 2, none⟩ = false ∧ w.frozen? ⟨g, 3, none⟩ = false := ⟨(bC_ h 0).trans rfl, (bC_ h 1).trans rfl, (bC_ h 2).trans rfl, (bC_ h 3).trans rfl, bF_ h 0, bF_ h 1, bF_ h 2, bF_ h 3⟩
theorem BW_ {p q : Prop} (x : q) (h : q → p := by intro hx_; (with_reducible repeat (first | refine bN_ ?_ _ | refine bD_ ?_ | refine bA_ ?_ _)); exact hx_) : p := h x
theorem RW_ {p q : Prop} (x : q) (h : q → p := by intro hx_; (with_reducible repeat (first | apply Kd.R_alloc | apply Kd.R_drewN | apply Kd.R_drew)); exact hx_) : p := h x
theorem SW_ {p q : Prop} (x : q) (h : q → p := by intro hx_; (with_reducible repeat (first | apply Kd.S_alloc | apply Kd.S_drewN | apply Kd.S_drew)); exact hx_) : p := h x
theorem NW_ {p q : Prop} (x : q) (h : q → p := by intro hx_; (with_reducible repeat (first | apply Kd.N_alloc | apply Kd.N_drewN | apply Kd.N_drew)); exact hx_) : p := h x
theorem VW_ {p q : Prop} (x : q) (h : q → p := by intro hx_; (with_reducible repeat (first | apply Kd.V_alloc | apply Kd.V_drewN | apply Kd.V_drew)); exact hx_) : p := h x
theorem OB_ {α β : Type} {o : Option α} {f : α → Option β} {b : β} (h : o.bind f = some b) : ∃ a, o = some a ∧ f a = some b := Option.bind_eq_some_iff.mp h
theorem OI_ {α : Type} {a b : α} (h : some a = some b) : a = b := Option.some.inj h
theorem O1_ {α : Type} {c : Prop} {i : Decidable c} {t : Option α} {r : α} (h : (@ite _ c i t none) = some r) : c := by
 by_cases hc : c
 ·exact hc
 rw [if_neg hc] at h; cases h
theorem O2_ {α : Type} {c : Prop} {i : Decidable c} {t : Option α} {r : α} (h : (@ite _ c i t none) = some r) : t = some r := by
 by_cases hc : c
 ·rw [if_pos hc] at h; exact h
 rw [if_neg hc] at h; cases h
theorem T_ {α : Type} {i : Decidable (true = true)} {t f x : α} (h : (@ite _ (true = true) i t f) = x) : t = x := by rw [if_pos rfl] at h; exact h
theorem N_ {α : Type} {i : Decidable (false = true)} {t f x : α} (h : (@ite _ (false = true) i t f) = x) : f = x := by rw [if_neg Bool.false_ne_true] at h; exact h
theorem X_ {α : Type} {r : α} {p : Prop} (h : (none : Option α) = some r) : p := by cases h
theorem Y_ {a b e : Prop} (x : e) (y : a) (h : e → a → b := by intro hy_ H; first | (rw [hy_]; with_reducible exact H) | (have H2_ := (Option.bind_some _ _).symm.trans H; rw [hy_]; with_reducible exact H2_) | (have H2_ := (Option.bind_some _ _).symm.trans H; with_reducible exact H2_) | with_reducible exact H | (rw [hy_]; exact H) | exact H) : b := h x y
theorem Q1_ {p a : Prop} (x : Zz a) (h : a → p := by intros; omega) : p := h x.out
theorem Q2_ {p a b : Prop} (x : Zz a) (y : Zz b) (h : a → b → p := by intros; omega) : p := h x.out y.out
theorem Q3_ {p a b c : Prop} (x : Zz a) (y : Zz b) (z : Zz c) (h : a → b → c → p := by intros; omega) : p := h x.out y.out z.out
theorem Q4_ {p a b c d : Prop} (x : Zz a) (y : Zz b) (z : Zz c) (u : Zz d) (h : a → b → c → d → p := by intros; omega) : p := h x.out y.out z.out u.out
theorem Q5_ {p a b c d e : Prop} (x : Zz a) (y : Zz b) (z : Zz c) (u : Zz d) (v : Zz e) (h : a → b → c → d → e → p := by intros; omega) : p := h x.out y.out z.out u.out v.out
theorem L1_ {p a : Prop} (x : a) (h : a → p := by intro h1_; repeat' first | (with_reducible apply h1_) | (with_reducible exact LeO.refl _) | (with_reducible exact LeO.none _) | (with_reducible refine LeO.ite ?_ ?_) | (with_reducible refine LeO.bind ?_ (fun _ => ?_)) | exact LeO.none _ | refine LeO.ite ?_ ?_ | refine LeO.bind ?_ (fun _ => ?_)) : p := h x
def tbl_ : Nat → Nat → List Bool
 | 0, _ => []
 | n + 1, m => (m % 2 == 1) :: tbl_ n (m / 2)
def tb_ (n m : Nat) : Array Bool := (tbl_ n m).toArray
section
open Go.RowKit
variable {P : Program} {md : Region.Mode} {ops : Array Oper} {ds : List Nat} {Q : Exit → Act → World → Prop} {S : World → Prop} {T : Bool × List (List Nat × List Nat)} {B : List Nat}
theorem O3_ {c : Prop} [Decidable c] {α : Type} {x : Option α} {y : α} (h : (if c then x else none) = some y) : decide c = true := decide_eq_true (O1_ h)
theorem OZ_ {α β : Type} {o : Option α} {f : α → Option β} {b : β} (h : o.bind f = some b) : ∃ a, Zz (o = some a) ∧ f a = some b := (Option.bind_eq_some_iff.mp h).imp fun _ h => ⟨Zz.mk h.1, h.2⟩
theorem kb_ {g : Nat} {o : Obj} {w w1 w2 : World} (h : w.heap[g]? = some o) (hb : Below w1.heap.size w1 w2) (hw : w.heap[g]? = some o → w1.heap[g]? = some o := by intro hx_; (with_reducible repeat (first | refine bN_ ?_ _ | refine bD_ ?_ | refine bA_ ?_ _)); exact hx_) : w2.heap[g]? = some o := bB_ (hw h) hb
theorem nb_ {g g' : Nat} {o : Obj} {w w1 : World} (h : w.heap[g]? = some o) (hg : g' = w1.heap.size) (hw : w.heap[g]? = some o → w1.heap[g]? = some o := by intro hx_; (with_reducible repeat (first | refine bN_ ?_ _ | refine bD_ ?_ | refine bA_ ?_ _)); exact hx_) : g ≠ g' := by rw [hg]; exact Nat.ne_of_lt (blk_lt (hw h))
theorem gw_ {g : Nat} {w w1 : World} (hg : g = w1.heap.size) (h : Below w.heap.size w w1) : w.heap.size ≤ g := by rw [hg]; exact bS_ h
theorem pj_ {P Q : Prop} (p : P) (h : P → Q := by intro h_; (try dsimp only at h_); (try dsimp only); simp only [h_, ne_eq, not_false_eq_true, and_self, true_and, and_true]) : Q := h p
theorem S3_ {α : Type} {d : Kd α} {e : TypeId} {w : World} {base : Nat} {ok : Nat → Prop} {v : Value} {xs : List α} (h : Kd.S d e w base ok v xs) {g t : Nat} {cells : Array Value} (hb : w.heap[g]? = some (.cells cells t (0, 0))) (a b c : Value) (ht : ∀ q, q ∈ e :: d.E → q ≠ t := by decide) : Kd.S d e (((w.setCell ⟨g, 0, none⟩ a).setCell ⟨g, 1, none⟩ b).setCell ⟨g, 2, none⟩ c) base ok v xs := Kd.S_mono (Kd.S_far (p := ⟨g, 2, none⟩) (Kd.S_far (p := ⟨g, 1, none⟩) (Kd.S_far (p := ⟨g, 0, none⟩) (Kd.S_types h hb ht) (fun _ hk => hk.2) a) (fun _ hk => hk.2) b) (fun _ hk => hk.2) c) (fun _ h_ => h_.1)
theorem bx_ {P : Program} {ops : Array Oper} {o : Oper} {rest : List Oper} {a : Act} {Q : Exit → Act → World → Prop} {W : World} (N : Tmp) (cs : Array Value) (t : TypeId) (h : ∀ g, g = W.heap.size → ∀ w1, w1.heap[g]? = some (.cells cs t (0, 0)) → Below W.heap.size W w1 → wpList P ops Q rest (a.put o.dst (.pointer (some ⟨g, 0, none⟩))) w1) (hgd : o.guard = none := by rfl) (_hd : o.dst = some N := by rfl) (hrun : (execOp a.eval o).run P W = .ok (.value (.pointer (some ⟨W.heap.size, 0, none⟩))) (W.alloc (.cells cs t (0, 0))) := by first | (go_simp; done) | (go_simp; rfl)) : wpList P ops Q (o :: rest) a W := box_event hgd _hd hrun h
theorem by_ {P : Program} {ops : Array Oper} {o : Oper} {a : Act} {Q : Exit → Act → World → Prop} {Kc : Act → World → Prop} {W : World} (N : Tmp) (cs : Array Value) (t : TypeId) (h : ∀ g, g = W.heap.size → ∀ w1, w1.heap[g]? = some (.cells cs t (0, 0)) → Below W.heap.size W w1 → Kc (a.put o.dst (.pointer (some ⟨g, 0, none⟩))) w1) (hw : Region.wanted o (yielded ops a.tmps) = true := by rfl) (_hd : o.dst = some N := by rfl) (hrun : (execOp a.eval o).run P W = .ok (.value (.pointer (some ⟨W.heap.size, 0, none⟩))) (W.alloc (.cells cs t (0, 0))) := by first | (go_simp; done) | (go_simp; rfl)) : if Region.wanted o (yielded ops a.tmps) = true then Oper.wp P o a W Kc Q else Kc (a.put o.dst undef) W := box_step hw _hd hrun h
theorem tl_ {α β : Type} {d : Kd α} {d' : Kd β} {e e' n base : Nat} {ok ok' : Nat → Prop} {W W' w1 : World} {u v : Value} {xs : List α} {ys : List β} (h : Kd.S d e W' base ok u xs) (hb : Below W.heap.size W w1) (hn : n = W.heap.size) (ho : Kd.S d' e' w1 W.heap.size ok' v ys) (hw : Kd.S d e W' base ok u xs → Kd.S d e W base ok u xs := by intro hx_; (with_reducible repeat (first | apply Kd.S_alloc | apply Kd.S_drewN | apply Kd.S_drew)); exact hx_) : Kd.S d e w1 base (fun k => (ok k ∧ some k ≠ v.ownBlock) ∧ k < n) u xs := Kd.S_told (Kd.S_oldN (hw h) hb hn) (Kd.S_baseN ho hn)
theorem sl_ {A A' : Option Addr} {n n' c c' : Nat} (h : Value.slice A n c = Value.slice A' n' c') : A' = A ∧ c' = c := by injection h with h1 h2 h3; exact ⟨h1.symm, h3.symm⟩
theorem eD_ {p q : Prop} (h : p := by first | rfl | (simp; done) | (simp [*]; done)) (h2 : q := by repeat (first | exact Dz.refl _ | apply Dz.step)) : p ∧ q := ⟨h, h2⟩
theorem PV_ {i : Nat} {N : Option Tmp} {oi : Oper} {v : Value} {fuel : Nat} {l : Array Bool} {a a' : Act} {w : World} (l' : Array Bool) (HT : Zz (rtab md ops = T)) (hi : ops[i]? = some oi) (hN : oi.dst = N) (hc : anyT T l.toList l'.toList i = true := by kernel_rfl)
  (hQ : ∀ c a w, Q (.panic c) (a.put oi.dst v) w → Q (.panic c) a w := by exact fun _ _ _ h => h) (h1 : Region.wanted oi (yielded ops a.tmps) = true := by rfl) (h2 : ∀ w, (execOp a.eval oi).run P w = .ok (.value v) w := by intro w'; go_simp; with_reducible rfl) (ha : a.put N v = a' := by simp only [Act.put, List.setIfInBounds_toArray, List.set_cons_zero, List.set_cons_succ, i64_w, i32_w]; rfl)
  (h : wpAnyLast P md ops Q S ds fuel l' a' w) : wpAnyLast P md ops Q S ds (fuel + 1) l a w := pure_ l' hi hN (any_of HT.out hc) hQ (Or.inl ⟨h1, h2⟩) ha h
theorem PU_ {i : Nat} {N : Option Tmp} {oi : Oper} {fuel : Nat} {l : Array Bool} {a a' : Act} {w : World} (l' : Array Bool) (HT : Zz (rtab md ops = T)) (hi : ops[i]? = some oi) (hN : oi.dst = N) (hc : anyT T l.toList l'.toList i = true := by kernel_rfl)
  (hQ : ∀ c a w, Q (.panic c) (a.put oi.dst undef) w → Q (.panic c) a w := by exact fun _ _ _ h => h) (h1 : Region.wanted oi (yielded ops a.tmps) = false := by rfl) (ha : a.put N undef = a' := by simp only [Act.put, List.setIfInBounds_toArray, List.set_cons_zero, List.set_cons_succ, i64_w, i32_w]; rfl)
  (h : wpAnyLast P md ops Q S ds fuel l' a' w) : wpAnyLast P md ops Q S ds (fuel + 1) l a w := pure_ l' hi hN (any_of HT.out hc) hQ (Or.inr ⟨h1, rfl⟩) ha h
theorem PX_ {oi : Oper} {v : Value} {fuel : Nat} {l : Array Bool} {a a' : Act} {w : World} (i : Nat) (n : Tmp) (l' : Array Bool) (HT : Zz (rtab md ops = T)) (hi : ops[i]? = some oi) (hN : oi.dst = some n) (h : wpAnyLast P md ops Q S ds fuel l' a' w) (hc : anyT T l.toList l'.toList i = true := by kernel_rfl)
  (hQ : ∀ c a w, Q (.panic c) (a.put oi.dst v) w → Q (.panic c) a w := by exact fun _ _ _ h => h) (h1 : Region.wanted oi (yielded ops a.tmps) = true := by rfl) (h2 : ∀ w, (execOp a.eval oi).run P w = .ok (.value v) w := by intro w'; go_simp; with_reducible rfl) (ha : a.put (some n) v = a' := by simp only [Act.put, List.setIfInBounds_toArray, List.set_cons_zero, List.set_cons_succ, i64_w, i32_w]; rfl)
  : wpAnyLast P md ops Q S ds (fuel + 1) l a w := pure_ l' hi hN (any_of HT.out hc) hQ (Or.inl ⟨h1, h2⟩) ha h
theorem PY_ {oi : Oper} {fuel : Nat} {l : Array Bool} {a a' : Act} {w : World} (i : Nat) (n : Tmp) (l' : Array Bool) (HT : Zz (rtab md ops = T)) (hi : ops[i]? = some oi) (hN : oi.dst = some n) (h : wpAnyLast P md ops Q S ds fuel l' a' w) (hc : anyT T l.toList l'.toList i = true := by kernel_rfl)
  (hQ : ∀ c a w, Q (.panic c) (a.put oi.dst undef) w → Q (.panic c) a w := by exact fun _ _ _ h => h) (h1 : Region.wanted oi (yielded ops a.tmps) = false := by rfl) (ha : a.put (some n) undef = a' := by simp only [Act.put, List.setIfInBounds_toArray, List.set_cons_zero, List.set_cons_succ, i64_w, i32_w]; rfl)
  : wpAnyLast P md ops Q S ds (fuel + 1) l a w := pure_ l' hi hN (any_of HT.out hc) hQ (Or.inr ⟨h1, rfl⟩) ha h
theorem TV_ {i : Nat} {N : Option Tmp} {oi : Oper} {v : Value} {fuel : Nat} {l : Array Bool} {a a' : Act} {w : World} (l' : Array Bool) (HT : Zz (rtab md ops = T)) (HW : Zz (waitsOk T.2 B = true)) (hi : ops[i]? = some oi) (hN : oi.dst = N) (hS : S w) (h2 : ∀ w, S w → (execOp a.eval oi).run P w = .ok (.value v) w) (hc : takeW T B ds l.toList l'.toList i = true := by kernel_rfl)
  (hQ : ∀ c a w, Q (.panic c) (a.put oi.dst v) w → Q (.panic c) a w := by exact fun _ _ _ h => h) (h1 : Region.wanted oi (yielded ops a.tmps) = true := by rfl) (ha : a.put N v = a' := by simp only [Act.put, List.setIfInBounds_toArray, List.set_cons_zero, List.set_cons_succ, i64_w, i32_w]; rfl)
  (h : wpAnyLast P md ops Q S ds fuel l' a' w) : wpAnyLast P md ops Q S ds (fuel + 1) l a w := take_ l' hi hN (take_ofW HT.out HW.out hc) hQ (Or.inl ⟨h1, h2⟩) hS ha h
theorem TX_ {oi : Oper} {v : Value} {fuel : Nat} {l : Array Bool} {a a' : Act} {w : World} (i : Nat) (n : Tmp) (l' : Array Bool) (HT : Zz (rtab md ops = T)) (HW : Zz (waitsOk T.2 B = true)) (hi : ops[i]? = some oi) (hN : oi.dst = some n) (hS : S w) (h : wpAnyLast P md ops Q S ds fuel l' a' w) (h2 : ∀ w, S w → (execOp a.eval oi).run P w = .ok (.value v) w := by rintro w' ⟨s0, s1, s2⟩; go_simp; with_reducible rfl) (hc : takeW T B ds l.toList l'.toList i = true := by kernel_rfl)
  (hQ : ∀ c a w, Q (.panic c) (a.put oi.dst v) w → Q (.panic c) a w := by exact fun _ _ _ h => h) (h1 : Region.wanted oi (yielded ops a.tmps) = true := by rfl) (ha : a.put (some n) v = a' := by simp only [Act.put, List.setIfInBounds_toArray, List.set_cons_zero, List.set_cons_succ, i64_w, i32_w]; rfl)
  : wpAnyLast P md ops Q S ds (fuel + 1) l a w := take_ l' hi hN (take_ofW HT.out HW.out hc) hQ (Or.inl ⟨h1, h2⟩) hS ha h
theorem GO_ {oi : Oper} {N : Option Tmp} {a : Act} {w : World} {K : Act → World → Prop} {f : FuncId} {fn : Func} {as_ : Array Operand} {ts : Array TypeId} (hf : P.funcs[f]? = some fn) (args : Array Value) (hname : (fn.name == "runtime.NumGoroutine") = false := by kernel_rfl) (hb : fn.body.isSome = true := by exact rfl)
  (hw : Region.wanted oi (yielded ops a.tmps) = true := by rfl) (hN : oi.dst = N := by exact rfl) (hop : oi.op = .call { callee := .value (.func f), args := as_, argTypes := ts } := by exact rfl) (hargs : as_.map a.eval = args := by (try simp only [List.map_toArray, List.map_cons, List.map_nil]); first | done | rfl | (simp only [List.length_drop, List.length_take]; rfl))
  (h : Calls P f args w fun e w' => ∃ v, e = .returned v ∧ K (a.put N v) w') : if Region.wanted oi (yielded ops a.tmps) = true then Oper.wp P oi a w K Q else K (a.put N undef) w := goes_ hf hname hb args hw hN hop hargs h
theorem GL_ {rest : List Oper} {oi : Oper} {a : Act} {w : World} (N : Option Tmp) {f : FuncId} {fn : Func} {as_ : Array Operand} {ts : Array TypeId} (hd : oi.dst = N) (hg : oi.guard = none) (hf : P.funcs[f]? = some fn) (args : Array Value) (hop : oi.op = .call { callee := .value (.func f), args := as_, argTypes := ts }) (hname : (fn.name == "runtime.NumGoroutine") = false := by kernel_rfl) (hb : fn.body.isSome = true := by exact rfl)
  (hargs : as_.map a.eval = args := by (try simp only [List.map_toArray, List.map_cons, List.map_nil]); first | done | rfl | (simp only [List.length_drop, List.length_take]; rfl))
  (h : Calls P f args w fun e w' => ∃ v, e = .returned v ∧ wpList P ops Q rest (a.put N v) w') : wpList P ops Q (oi :: rest) a w := goesL_ N hd hg hf hname hb args hop hargs h
theorem NM_ {N : Option Tmp} {v : Value} {fuel : Nat} {l : Array Bool} {a a' : Act} {w : World} (ha : a.put N v = a' := by simp only [Act.put, List.setIfInBounds_toArray, List.set_cons_zero, List.set_cons_succ, i64_w, i32_w]; rfl)
  (h : wpAnyLast P md ops Q S ds fuel l a' w) : wpAnyLast P md ops Q S ds fuel l (a.put N v) w := norm_ ha h
end
theorem info2 : (Try.prog.info? 2).map (fun i => (i.zero, i.size, i.bytes)) = some (some (.int .i64 0), 1, 8) := by kernel_rfl
theorem info3 : (Try.prog.info? 3).map (fun i => (i.zero, i.size, i.bytes)) = some (some (.int .i64 0), 1, 8) := by kernel_rfl
theorem info26 : (Try.prog.info? 26).map (fun i => (i.zero, i.size, i.bytes)) = some (some (.slice none 0 0), 1, 24) := by kernel_rfl
def rI_ (xs : List (List Int)) (i : Int) : (List Int) := xs.getD i.toNat ([] : List Int)
theorem at_ListInt {w : World} {A : Option Addr} {n : Nat} {xs : List (List Int)} (h : Kd.C (Kd.slice 2 (Kd.int .i64)) w A n xs) (i : Int) (h0 : 0 ≤ i) (h1 : i < n) : ∃ ad A0 c0, A = some ad ∧ w.cell? (ad.add i.toNat) = some (.slice A0 (rI_ xs i).length c0) ∧ (rI_ xs i).length ≤ c0 ∧ (Kd.int .i64).C w A0 (rI_ xs i).length (rI_ xs i) := by
 obtain ⟨ad, c, e, _, hK, hc0⟩ := Kd.C_get h ([] : List Int) i h0 h1
 have hc : ∀ j u, c[j]? = some u → w.cell? (ad.add (i.toNat * 1 + j)) = some u := hc0
 obtain ⟨A0, c0, rfl, l0, g0⟩ := hK
 exact ⟨ad, A0, c0, e, by have hq := hc 0 _ rfl; rwa [Nat.mul_one, Nat.add_zero] at hq, l0, g0⟩
def rd_ListListInt (xs : List (List (List Int))) (i : Int) : (List (List Int)) := xs.getD i.toNat ([] : List (List Int))
theorem at_ListListInt {w : World} {A : Option Addr} {n : Nat} {xs : List (List (List Int))} (h : Kd.C (Kd.slice 26 (Kd.slice 2 (Kd.int .i64))) w A n xs) (i : Int) (h0 : 0 ≤ i) (h1 : i < n) : ∃ ad A0 c0, A = some ad ∧ w.cell? (ad.add i.toNat) = some (.slice A0 (rd_ListListInt xs i).length c0) ∧ (rd_ListListInt xs i).length ≤ c0 ∧ (Kd.slice 2 (Kd.int .i64)).C w A0 (rd_ListListInt xs i).length (rd_ListListInt xs i) := by
 obtain ⟨ad, c, e, _, hK, hc0⟩ := Kd.C_get h ([] : List (List Int)) i h0 h1
 have hc : ∀ j u, c[j]? = some u → w.cell? (ad.add (i.toNat * 1 + j)) = some u := hc0
 obtain ⟨A0, c0, rfl, l0, g0⟩ := hK
 exact ⟨ad, A0, c0, e, by have hq := hc 0 _ rfl; rwa [Nat.mul_one, Nat.add_zero] at hq, l0, g0⟩
end Go.Proofs.Ytipkciildhghiaa.B
/- slices.Clone and slices.Grow (of nil) of whole numbers: walked by hand. -/
set_option linter.unusedVariables false
set_option linter.unusedSimpArgs false
namespace Go.Proofs.Ytipkciildhghiaa.B
open Go.RowKit Go.Proofs.YtipkciildhghiaaW.PrintWords Go.Proofs.YtipkciildhghiaaW.PrintLast Go.Proofs.YtipkciildhghiaaW.PrintMore
def slices_Clone_int64_int64.f (l0 : List Int) : Option (List Int) := if l0.length < 17592186044416 then some l0 else none
theorem slices_Clone_int64_int64.calls (A0 : Option Addr) (c0 : Nat) (l0 : List Int) (r : List Int) (w : World) (hr0 : Kd.C (Kd.int .i64) w A0 l0.length l0) (hc0 : l0.length ≤ c0) (h : slices_Clone_int64_int64.f l0 = some r) :
    Calls Try.prog 86 #[.slice A0 l0.length c0] w fun e w' => ∃ v0_ : Value, e = .returned (v0_) ∧ Kd.R (Kd.int .i64) 2 w' w.heap.size (fun _ => True) v0_ r ∧ Below w.heap.size w w' := by
  unfold slices_Clone_int64_int64.f at h
  have hl := O1_ h
  obtain rfl := Option.some.inj (O2_ h)
  clear h
  have LM := Zz.mk hl
  have HR0 := Zz.mk hr0
  have q22 : ∀ (w : World) (a : Option Addr) (n c n' c' : Nat), (binOp .eql 26 (.slice a n c) (.slice none n' c')).run Try.prog w = .ok (.bool a.isNone) w := fun w a n c n' c' => Lib.run_eql_slice_nil w _ _ a n c n' c' Try.underlying26
  cases A0 with
  | none =>
    have h0 : l0 = [] := by
      rcases Nat.eq_zero_or_pos l0.length with h | h
      · exact List.eq_nil_of_length_eq_zero h
      obtain ⟨ad, he, _⟩ := hr0.2.2 h
      cases he
    subst h0
    clear hr0 HR0
    go_enter Try.func86, Try.ntmps86
    go_wp2
    go_ret
    exact ⟨_, rfl, Kd.R_nil _ _ _ _ _, Below.refl _ _⟩
  | some ad =>
    have HB := Zz.mk (Below.refl w.heap.size w)
    clear hr0
    obtain ⟨y101, hy101⟩ : ∃ y_ : List Int, y_ = ([] : List Int) := ⟨_, rfl⟩
    have Ny101 := Zz.mk hy101
    have hy2 := hy101
    clear hy101
    go_enter Try.func86, Try.ntmps86
    go_wp2_with (first | ((with_reducible refine gate_dst (N := 5) rfl ?_); refine Kd.R_lit (Kd.int .i64) _ 2 ?hg (N := 5) ?hd (xs := ([] : List Int)) (inner := []) (ok := fun _ => True) (okp := fun _ => True) ?hr ?hp (fun _ hk => hk) trivial (Below.refl _ _) (Nat.le_refl _) (by simp) ?_; (case hd => rfl); (case hg => rfl); (case hr => first | (go_simp; done) | (go_simp; rfl)); (case hp => exact (Reps.none _ _)); intro v102 w3 ho4 hb hg_ hnew_; clear hg_ hnew_; rw [← Ny101.out] at ho4; have HO103 := Zz.mk (Kd.R_lower ho4 (bS_ (B_ HB.out))); replace HB := Zz.mk (bT_ (B_ HB.out) hb); clear hb ho4) | ((with_reducible refine gate_builtin (b := .append) (xs := #[.tmp 5, .tmp 6]) rfl ?_); at_builtin; refine Kd.R_append_rows (Kd.int .i64) (w0 := w) w.heap.size rfl (.tmp 5) (.tmp 6) 26 2 (.int .i64 0) 8 rfl Try.underlying26 info2 rfl (by decide) (by omega) v102 y101 l0 _ _ _ (fun _ => True) (fun _ => False) rfl rfl ?aO ?aR (fun _ _ h => h) (fun _ h => h.elim) ?aF ?aB ?aS ?aL ?_; (case aR => exact KC_ (Kd.C_below HR0.out HB.out)); (case aB => exact (B_ HB.out)); (case aF => exact (fun _ _ => trivial)); (case aO => exact (KR_ HO103.out)); (case aS => exact (bS_ (B_ HB.out))); (case aL => rw [Ny101.out]; have := LM.out; simp only [List.length_nil]; omega); intro v105 w5 ho hb hg hat; replace HB := Zz.mk (hb); have HO106 := Zz.mk (ho); clear HO103; clear ho hb hg hat))
    go_ret
    subst hy2
    exact ⟨_, rfl, KR_ HO106.out, B_ HB.out⟩
def slices_Grow_int64_int64.f (l0 : List Int) (a1 : Int) : Option (List Int) := if (l0 = [] ∧ 0 ≤ a1) ∧ a1 ≤ 17592186044415 then some [] else none
theorem slices_Grow_int64_int64.calls (A0 : Option Addr) (c0 : Nat) (l0 : List Int) (a1 : Int) (r : List Int) (w : World) (hr0 : Kd.C (Kd.int .i64) w A0 l0.length l0) (hc0 : l0.length ≤ c0) (h : slices_Grow_int64_int64.f l0 a1 = some r) (hA : A0 = none := by rfl) (hC : c0 = 0 := by rfl) :
    Calls Try.prog 183 #[.slice A0 l0.length c0, .int .i64 a1] w fun e w' => ∃ v0_ : Value, e = .returned (v0_) ∧ Kd.R (Kd.int .i64) 2 w' w.heap.size (fun _ => True) v0_ r ∧ Below w.heap.size w w' := by
  unfold slices_Grow_int64_int64.f at h
  have hc := O1_ h
  obtain rfl := Option.some.inj (O2_ h)
  obtain ⟨⟨rfl, h0⟩, hm⟩ := hc
  subst hA; subst hC
  clear h hr0 hc0
  have hw3 : wrap64 a1 = a1 := by unfold wrap64; omega
  have d0 : decide (a1 < 0) = false := decide_eq_false (by omega)
  by_cases hz : a1 = 0
  · subst hz
    clear hw3
    go_enter Try.func183, Try.ntmps183
    go_wp2
    go_ret
    exact ⟨_, rfl, Kd.R_nil _ _ _ _ _, Below.refl _ _⟩
  have d1 : decide (0 < wrap64 a1) = true := decide_eq_true (by omega)
  have HM := Zz.mk (show wrap64 a1 ≤ 17592186044415 by omega)
  have H0 := Zz.mk (show 0 ≤ wrap64 a1 by omega)
  clear hz hm h0 hw3
  go_enter Try.func183, Try.ntmps183
  go_wp2_with ((with_reducible refine gate_builtin (b := .append) (xs := #[.tmp 20, .tmp 21]) rfl ?_); at_builtin; refine Kd.R_append_zeros (Kd.int .i64) (w0 := w) w.heap.size rfl (.tmp 20) (.tmp 21) 26 3 2 (.int .i64 0) 8 rfl Try.underlying26 Try.underlying3 info2 rfl (by decide) (by omega) (.slice none 0 0) ([] : List Int) 0 (wrap64 a1) (fun _ => True) rfl rfl rfl (fun _ _ => trivial) (Kd.R_nil _ _ _ _ _) H0.out (Below.refl _ _) (Nat.le_refl _) (by have := HM.out; have := H0.out; simp only [List.length_nil]; omega) ?_; intro v1 w1 ho hb hg hat; obtain ⟨A1, cc, rfl⟩ := Kd.R_slice ho; have HO := Zz.mk (Kd.R_take ho (Nat.zero_le _)); have HB := Zz.mk hb; clear ho hb hg hat)
  go_ret
  exact ⟨_, rfl, by simpa using HO.out, HB.out⟩
end Go.Proofs.Ytipkciildhghiaa.B
namespace Go.Proofs.Ytipkciildhghiaa.B
open Go.RowKit Go.Proofs.YtipkciildhghiaaW.PrintWords Go.Proofs.YtipkciildhghiaaW.PrintLast Go.Proofs.YtipkciildhghiaaW.PrintMore
attribute [local go_sem] max2_int min2_int max_two min_two max_three min_three max_four min_four
set_option linter.unusedVariables false
set_option linter.unusedSimpArgs false
mutual
def z156.l0 : Nat → List (List Int) → Int → List (List Int) → Int → Int → Option (List Int)
 | 0, _, _, _, _, _ => none
 | k + 1, x0, x3, x9, x10, x11 => if x11 < x10 then (if 0 ≤ x11 then (if x11 < (x9.length : Int) then (if (wrap64 (x3 + ((rI_ x9 x11).length : Int))) < 0 then (none) else (z156.l0 k x0 (wrap64 (x3 + ((rI_ x9 x11).length : Int))) x9 x10 (wrap64 (x11 + 1)))) else (none)) else (none)) else ((slices_Grow_int64_int64.f ([] : List Int) x3).bind fun t102 => (z156.l1 k t102 x0 (x0.length : Int) 0))
def z156.l1 : Nat → List Int → List (List Int) → Int → Int → Option (List Int)
 | 0, _, _, _, _ => none
 | k + 1, x6, x25, x26, x27 => if x27 < x26 then (if 0 ≤ x27 then (if x27 < (x25.length : Int) then (if x6.length + (rI_ x25 x27).length < 17592186044416 then (z156.l1 k (x6 ++ (rI_ x25 x27)) x25 x26 (wrap64 (x27 + 1))) else (none)) else (none)) else (none)) else (some x6)
end
def z156.f (k : Nat) (l0 : List (List Int)) : Option (List Int) := z156.l0 k l0 0 l0 (l0.length : Int) 0
theorem z156.calls (k : Nat) (A0 : Option Addr) (c0 : Nat) (l0 : List (List Int)) (r : List Int) (w : World) (hr0 : Kd.C (Kd.slice 2 (Kd.int .i64)) w A0 l0.length l0) (hc0 : l0.length ≤ c0) (h : z156.f k l0 = some r) :
  Calls Try.prog 156 #[.slice A0 l0.length c0] w fun e w' => ∃ v0_ : Value, e = .returned (v0_) ∧ Kd.R (Kd.int .i64) 2 w' w.heap.size (fun _ => True) v0_ r ∧ Below w.heap.size w w' := by
 have HR0 := Zz.mk hr0
 have HC0 := Zz.mk hc0
 clear hr0 hc0
 have HB := Zz.mk (Below.refl w.heap.size w)
 have H : (z156.l0 k l0 0 l0 (l0.length : Int) 0) = some r := h
 clear h
 have H' := Zz.mk H
 clear H
 go_enter Try.func156, Try.ntmps156
 go_wp2
 go_loopg [3, 11] k (fun kq v3 v11 w' => ∃ (x3_1 : Int) (x11_1 : Int), v3 = .int .i64 x3_1 ∧ v11 = .int .i64 x11_1 ∧ Zz (z156.l0 kq l0 x3_1 l0 (l0.length : Int) x11_1 = some r) ∧ Zz (kq ≤ k) ∧ Zz (Below w.heap.size w w'))
 case atStart => exact ⟨(0), (0), E_, E_, H', ⟨Nat.le_refl _⟩, ⟨B_ HB.out⟩⟩
 case round =>
  clear H'
  obtain ⟨x3_1, x11_1, rfl, rfl, HA, HK1, HB⟩ := hrel
  cases gk with
  | zero => exact absurd HA.out (by simp [z156.l0])
  | succ k1 =>
   have H := HA.out
   clear HA
   simp only [z156.l0] at H
   by_cases c2 : x11_1 < (l0.length : Int)
   ·rw [if_pos c2] at H
    have c2b0 : decide (x11_1 < (l0.length : Int)) = true := decide_eq_true c2
    clear c2
    have c3b0 := O3_ H
    replace H := O2_ H
    have c4b0 := O3_ H
    replace H := O2_ H
    by_cases c5 : (wrap64 (x3_1 + ((rI_ l0 x11_1).length : Int))) < 0
    ·rw [if_pos c5] at H
     exact X_ H
    rw [if_neg c5] at H
    have c5b0 : decide ((wrap64 (x3_1 + ((rI_ l0 x11_1).length : Int))) < 0) = false := decide_eq_false c5
    clear c5
    have H' := Zz.mk H
    clear H
    have p101 : 0 ≤ (x11_1 : Int) := D_
    have q101 : x11_1 < (l0.length : Int) := D_
    obtain ⟨ad101, A101_0, c101_0, e101, hx101_0, hl101_0, hi101_0⟩ := at_ListInt HR0.out x11_1 p101 q101
    cases e101
    replace hx101_0 := (HB.out.cell (World.block_lt_of_cell? w _ hx101_0)).trans hx101_0
    have HR101_0 := Zz.mk hi101_0
    have HC101_0 := Zz.mk hl101_0
    clear hi101_0 hl101_0
    replace p101 := eq_true p101
    replace q101 := eq_true q101
    go_wp2
    go_roundg k1
    case measure => exact Q1_ HK1
    case rel => exact ⟨(wrap64 (x3_1 + ((rI_ l0 x11_1).length : Int))), (wrap64 (x11_1 + 1)), E_, E_, H', ⟨Q1_ HK1⟩, ⟨B_ HB.out⟩⟩
   rw [if_neg c2] at H
   have c2b0 : decide (x11_1 < (l0.length : Int)) = false := decide_eq_false c2
   clear c2
   replace H := OZ_ H
   obtain ⟨t102, A6, H⟩ := H
   have H' := Zz.mk H
   clear H
   go_wp2_with (first | ((with_reducible refine gC_ (f := 183) rfl ?_); refine GL_ (some 24) rfl rfl Try.func183 #[.slice none 0 0, .int .i64 x3_1] rfl (h := ?_); (refine (slices_Grow_int64_int64.calls _ _ ([] : List Int) x3_1 t102 _ ?side1 ?side2 A6.out).mono ?_); (case side1 => exact Kd.C_nil _ _); (case side2 => exact Nat.le_refl _); rintro e w7 ⟨v103, rfl, ho0, hb⟩; refine ⟨_, rfl, ?_⟩; have HO104 := Zz.mk (Kd.R_lower ho0 (bS_ (B_ HB.out))); replace HB := Zz.mk (bT_ (B_ HB.out) hb); (try clear hb); (try clear ho0)))
   go_loopg [6, 27] k1 (fun kq v6 v27 w' => ∃ (x6_2 : List Int) (x27_2 : Int), v27 = .int .i64 x27_2 ∧ Zz (z156.l1 kq x6_2 l0 (l0.length : Int) x27_2 = some r) ∧ Zz (kq ≤ k1) ∧ Zz (Kd.R (Kd.int .i64) 2 w' w.heap.size (fun _ => True) v6 x6_2) ∧ Zz (Below w.heap.size w w'))
   case atStart => exact ⟨(t102), (0), E_, H', ⟨Nat.le_refl _⟩, ⟨KR_ HO104.out⟩, ⟨B_ HB.out⟩⟩
   case round =>
    clear H'
    (try clear c2);(try clear c2b0)
    obtain ⟨x6_2, x27_2, rfl, HA, HK2, HO_6, HB⟩ := hrel
    cases gk with
    | zero => exact absurd HA.out (by simp [z156.l1])
    | succ k2 =>
     have H := HA.out
     clear HA
     simp only [z156.l1] at H
     by_cases c8 : x27_2 < (l0.length : Int)
     ·rw [if_pos c8] at H
      have c8b0 : decide (x27_2 < (l0.length : Int)) = true := decide_eq_true c8
      clear c8
      have c9b0 := O3_ H
      replace H := O2_ H
      have c10b0 := O3_ H
      replace H := O2_ H
      have c11 := O1_ H
      replace H := O2_ H
      have LMc11 := Zz.mk c11
      clear c11
      obtain ⟨y106, hy106⟩ : ∃ y_ : List Int, y_ = (x6_2 ++ (rI_ l0 x27_2)) := ⟨_, rfl⟩
      replace H : (z156.l1 k2 y106 l0 (l0.length : Int) (wrap64 (x27_2 + 1))) = some r := Y_ hy106 H
      have Ny106 := Zz.mk hy106
      clear hy106
      have H' := Zz.mk H
      clear H
      have p105 : 0 ≤ (x27_2 : Int) := D_
      have q105 : x27_2 < (l0.length : Int) := D_
      obtain ⟨ad105, A105_0, c105_0, e105, hx105_0, hl105_0, hi105_0⟩ := at_ListInt HR0.out x27_2 p105 q105
      cases e105
      replace hx105_0 := (HB.out.cell (World.block_lt_of_cell? w _ hx105_0)).trans hx105_0
      have HR105_0 := Zz.mk hi105_0
      have HC105_0 := Zz.mk hl105_0
      clear hi105_0 hl105_0
      replace p105 := eq_true p105
      replace q105 := eq_true q105
      go_wp2_with (first | ((with_reducible refine gate_builtin (b := .append) (xs := #[.tmp 31, .tmp 32]) rfl ?_); at_builtin; refine Kd.R_append_rows (Kd.int .i64) (w0 := w) w.heap.size rfl (.tmp 31) (.tmp 32) 26 2 (.int .i64 0) 8 rfl Try.underlying26 info2 rfl (by decide) (by omega) u6 x6_2 (rI_ l0 x27_2) _ _ _ (fun _ => True) (fun _ => False) rfl rfl ?aO ?aR (fun _ _ h => h) (fun _ h => h.elim) ?aF ?aB ?aS ?aL ?_; (case aR => exact KC_ (Kd.C_below HR105_0.out HB.out)); (case aB => exact (B_ HB.out)); (case aF => exact (fun _ _ => trivial)); (case aO => exact (KR_ HO_6.out)); (case aS => exact (bS_ (B_ HB.out))); (case aL => have := LMc11.out; omega); intro v107 w12 ho hb hg hat; rw [← Ny106.out] at ho; replace HB := Zz.mk (hb); have HO108 := Zz.mk (ho); clear HO_6; clear ho hb hg hat))
      go_roundg k2
      case measure => exact Q2_ HK1 HK2
      case rel => exact ⟨(y106), (wrap64 (x27_2 + 1)), E_, H', ⟨Q2_ HK1 HK2⟩, ⟨KR_ HO108.out⟩, ⟨B_ HB.out⟩⟩
     rw [if_neg c8] at H
     have c8b0 : decide (x27_2 < (l0.length : Int)) = false := decide_eq_false c8
     clear c8
     obtain rfl := OI_ H
     go_wp2
     go_ret
     exact ⟨_, F_, KR_ HO_6.out, B_ HB.out⟩
def z181.f (a0 : Int) : Option (Bool) := some (a0 != a0)
theorem z181.calls (a0 : Int) (r : Bool) (w : World) (h : z181.f a0 = some r) :
  Calls Try.prog 181 #[.int .i64 a0] w fun e w' => e = .returned (.bool r) ∧ Dz w w' := by
 have H : (some (a0 != a0)) = some r := h
 clear h
 obtain rfl := OI_ H
 go_enter Try.func181, Try.ntmps181
 go_wp2
 go_ret
 exact eD_
def z154.f (a0 : Int) (a1 : Int) : Option (Int) := (z181.f a0).bind fun t101 => ((z181.f a1).bind fun t102 => (if t101 = true then (if t102 = true then (some 0) else (some (-1))) else (if t102 = true then (some 1) else (if a0 < a1 then (some (-1)) else (if a0 > a1 then (some 1) else (some 0))))))
theorem z154.calls (a0 : Int) (a1 : Int) (r : Int) (w : World) (h : z154.f a0 a1 = some r) :
  Calls Try.prog 154 #[.int .i64 a0, .int .i64 a1] w fun e w' => e = .returned (.int .i64 r) ∧ Dz w w' := by
 have H : ((z181.f a0).bind fun t101 => ((z181.f a1).bind fun t102 => (if t101 = true then (if t102 = true then (some 0) else (some (-1))) else (if t102 = true then (some 1) else (if a0 < a1 then (some (-1)) else (if a0 > a1 then (some 1) else (some 0))))))) = some r := h
 clear h
 replace H := OZ_ H
 obtain ⟨t101, A3, H⟩ := H
 replace H := OZ_ H
 obtain ⟨t102, A4, H⟩ := H
 by_cases c5 : t101 = true
 ·subst c5
  replace H := T_ H
  by_cases c6 : t102 = true
  ·subst c6
   replace H := T_ H
   obtain rfl := OI_ H
   go_enter Try.func154, Try.ntmps154
   go_wp2_with (first | ((with_reducible refine gC_ (f := 181) rfl ?_); refine GL_ (some 8) rfl rfl Try.func181 #[.int .i64 a0] rfl (h := ?_); (with_reducible refine (z181.calls a0 true _ A3.out).mono ?_); rintro e w' ⟨rfl, ⟨nd, rfl⟩⟩; refine ⟨_, rfl, ?_⟩) | ((with_reducible refine gC_ (f := 181) rfl ?_); refine GL_ (some 10) rfl rfl Try.func181 #[.int .i64 a1] rfl (h := ?_); (with_reducible refine (z181.calls a1 true _ A4.out).mono ?_); rintro e w' ⟨rfl, ⟨nd, rfl⟩⟩; refine ⟨_, rfl, ?_⟩))
   go_ret
   exact eD_
  replace c6 := Bool.eq_false_iff.mpr c6
  subst c6
  replace H := N_ H
  obtain rfl := OI_ H
  go_enter Try.func154, Try.ntmps154
  go_wp2_with (first | ((with_reducible refine gC_ (f := 181) rfl ?_); refine GL_ (some 8) rfl rfl Try.func181 #[.int .i64 a0] rfl (h := ?_); (with_reducible refine (z181.calls a0 true _ A3.out).mono ?_); rintro e w' ⟨rfl, ⟨nd, rfl⟩⟩; refine ⟨_, rfl, ?_⟩) | ((with_reducible refine gC_ (f := 181) rfl ?_); refine GL_ (some 10) rfl rfl Try.func181 #[.int .i64 a1] rfl (h := ?_); (with_reducible refine (z181.calls a1 false _ A4.out).mono ?_); rintro e w' ⟨rfl, ⟨nd, rfl⟩⟩; refine ⟨_, rfl, ?_⟩))
  go_ret
  exact eD_
 replace c5 := Bool.eq_false_iff.mpr c5
 subst c5
 replace H := N_ H
 by_cases c7 : t102 = true
 ·subst c7
  replace H := T_ H
  obtain rfl := OI_ H
  go_enter Try.func154, Try.ntmps154
  go_wp2_with (first | ((with_reducible refine gC_ (f := 181) rfl ?_); refine GL_ (some 8) rfl rfl Try.func181 #[.int .i64 a0] rfl (h := ?_); (with_reducible refine (z181.calls a0 false _ A3.out).mono ?_); rintro e w' ⟨rfl, ⟨nd, rfl⟩⟩; refine ⟨_, rfl, ?_⟩) | ((with_reducible refine gC_ (f := 181) rfl ?_); refine GL_ (some 10) rfl rfl Try.func181 #[.int .i64 a1] rfl (h := ?_); (with_reducible refine (z181.calls a1 true _ A4.out).mono ?_); rintro e w' ⟨rfl, ⟨nd, rfl⟩⟩; refine ⟨_, rfl, ?_⟩))
  go_ret
  exact eD_
 replace c7 := Bool.eq_false_iff.mpr c7
 subst c7
 replace H := N_ H
 by_cases c8 : a0 < a1
 ·rw [if_pos c8] at H
  have c8b0 : decide (a0 < a1) = true := decide_eq_true c8
  clear c8
  obtain rfl := OI_ H
  go_enter Try.func154, Try.ntmps154
  go_wp2_with (first | ((with_reducible refine gC_ (f := 181) rfl ?_); refine GL_ (some 8) rfl rfl Try.func181 #[.int .i64 a0] rfl (h := ?_); (with_reducible refine (z181.calls a0 false _ A3.out).mono ?_); rintro e w' ⟨rfl, ⟨nd, rfl⟩⟩; refine ⟨_, rfl, ?_⟩) | ((with_reducible refine gC_ (f := 181) rfl ?_); refine GL_ (some 10) rfl rfl Try.func181 #[.int .i64 a1] rfl (h := ?_); (with_reducible refine (z181.calls a1 false _ A4.out).mono ?_); rintro e w' ⟨rfl, ⟨nd, rfl⟩⟩; refine ⟨_, rfl, ?_⟩))
  go_ret
  exact eD_
 rw [if_neg c8] at H
 have c8b0 : decide (a0 < a1) = false := decide_eq_false c8
 clear c8
 by_cases c9 : a0 > a1
 ·rw [if_pos c9] at H
  have c9b0 : decide (a1 < a0) = true := decide_eq_true c9
  clear c9
  obtain rfl := OI_ H
  go_enter Try.func154, Try.ntmps154
  go_wp2_with (first | ((with_reducible refine gC_ (f := 181) rfl ?_); refine GL_ (some 8) rfl rfl Try.func181 #[.int .i64 a0] rfl (h := ?_); (with_reducible refine (z181.calls a0 false _ A3.out).mono ?_); rintro e w' ⟨rfl, ⟨nd, rfl⟩⟩; refine ⟨_, rfl, ?_⟩) | ((with_reducible refine gC_ (f := 181) rfl ?_); refine GL_ (some 10) rfl rfl Try.func181 #[.int .i64 a1] rfl (h := ?_); (with_reducible refine (z181.calls a1 false _ A4.out).mono ?_); rintro e w' ⟨rfl, ⟨nd, rfl⟩⟩; refine ⟨_, rfl, ?_⟩))
  go_ret
  exact eD_
 rw [if_neg c9] at H
 have c9b0 : decide (a1 < a0) = false := decide_eq_false c9
 clear c9
 obtain rfl := OI_ H
 go_enter Try.func154, Try.ntmps154
 go_wp2_with (first | ((with_reducible refine gC_ (f := 181) rfl ?_); refine GL_ (some 8) rfl rfl Try.func181 #[.int .i64 a0] rfl (h := ?_); (with_reducible refine (z181.calls a0 false _ A3.out).mono ?_); rintro e w' ⟨rfl, ⟨nd, rfl⟩⟩; refine ⟨_, rfl, ?_⟩) | ((with_reducible refine gC_ (f := 181) rfl ?_); refine GL_ (some 10) rfl rfl Try.func181 #[.int .i64 a1] rfl (h := ?_); (with_reducible refine (z181.calls a1 false _ A4.out).mono ?_); rintro e w' ⟨rfl, ⟨nd, rfl⟩⟩; refine ⟨_, rfl, ?_⟩))
 go_ret
 exact eD_
def z153.l0 : Nat → Int → List Int → Int → Int → Option (Int)
 | 0, _, _, _, _ => none
 | k + 1, x3, x6, x7, x8 => if x8 < x7 then (if 0 ≤ x8 then (if x8 < (x6.length : Int) then (if (rd x6 x8) = x3 then (z153.l0 k x3 x6 x7 (wrap64 (x8 + 1))) else (some (rd x6 x8))) else (none)) else (none)) else (some x3)
def z153.f (k : Nat) (l0 : List Int) : Option (Int) := z153.l0 k 0 l0 (l0.length : Int) 0
theorem z153.calls (k : Nat) (A0 : Option Addr) (c0 : Nat) (l0 : List Int) (r : Int) (w : World) (hr0 : Kd.C (Kd.int .i64) w A0 l0.length l0) (hc0 : l0.length ≤ c0) (h : z153.f k l0 = some r) :
  Calls Try.prog 153 #[.slice A0 l0.length c0] w fun e w' => e = .returned (.int .i64 r) ∧ Dz w w' := by
 have HR0 := Zz.mk hr0
 have HC0 := Zz.mk hc0
 clear hr0 hc0
 have H : (z153.l0 k 0 l0 (l0.length : Int) 0) = some r := h
 clear h
 have H' := Zz.mk H
 clear H
 go_enter Try.func153, Try.ntmps153
 go_wp2
 go_loopg [8] k (fun kq v8 w' => ∃ (x8_1 : Int), v8 = .int .i64 x8_1 ∧ Zz (z153.l0 kq 0 l0 (l0.length : Int) x8_1 = some r) ∧ Zz (kq ≤ k) ∧ Dz w w')
 case atStart => exact ⟨(0), E_, H', ⟨Nat.le_refl _⟩, by repeat (first | exact Dz.refl _ | apply Dz.step)⟩
 case round =>
  clear H'
  obtain ⟨x8_1, rfl, HA, HK1, ⟨m1, rfl⟩⟩ := hrel
  cases gk with
  | zero => exact absurd HA.out (by simp [z153.l0])
  | succ k1 =>
   have H := HA.out
   clear HA
   simp only [z153.l0] at H
   by_cases c2 : x8_1 < (l0.length : Int)
   ·rw [if_pos c2] at H
    have c2b0 : decide (x8_1 < (l0.length : Int)) = true := decide_eq_true c2
    clear c2
    have c3b0 := O3_ H
    replace H := O2_ H
    have c4b0 := O3_ H
    replace H := O2_ H
    by_cases c5 : (rd l0 x8_1) = 0
    ·rw [if_pos c5] at H
     have c5b0 : ((rd l0 x8_1) == 0) = true := beq_iff_eq.mpr c5
     have c5b1 : ((rd l0 x8_1) != 0) = false := bne_eq_false_iff_eq.mpr c5
     clear c5
     have H' := Zz.mk H
     clear H
     have p101 : 0 ≤ (x8_1 : Int) := D_
     have q101 : x8_1 < (l0.length : Int) := D_
     obtain ⟨ad101, e101, hx101_0⟩ := Kd.at_int HR0.out x8_1 p101 q101
     cases e101
     replace p101 := eq_true p101
     replace q101 := eq_true q101
     go_wp2
     go_roundg k1
     case measure => exact Q1_ HK1
     case rel => exact ⟨(wrap64 (x8_1 + 1)), E_, H', ⟨Q1_ HK1⟩, by repeat (first | exact Dz.refl _ | apply Dz.step)⟩
    rw [if_neg c5] at H
    have c5b0 : ((rd l0 x8_1) == 0) = false := beq_eq_false_iff_ne.mpr c5
    have c5b1 : ((rd l0 x8_1) != 0) = true := bne_iff_ne.mpr c5
    obtain rfl := OI_ H
    have p101 : 0 ≤ (x8_1 : Int) := D_
    have q101 : x8_1 < (l0.length : Int) := D_
    obtain ⟨ad101, e101, hx101_0⟩ := Kd.at_int HR0.out x8_1 p101 q101
    cases e101
    replace p101 := eq_true p101
    replace q101 := eq_true q101
    go_wp2
    go_ret
    exact eD_
   rw [if_neg c2] at H
   have c2b0 : decide (x8_1 < (l0.length : Int)) = false := decide_eq_false c2
   clear c2
   obtain rfl := OI_ H
   go_wp2
   go_ret
   exact eD_
def z197.f (a0 : Int) : Option (Bool) := some (a0 != a0)
theorem z197.calls (a0 : Int) (r : Bool) (w : World) (h : z197.f a0 = some r) :
  Calls Try.prog 197 #[.int .i64 a0] w fun e w' => e = .returned (.bool r) ∧ Dz w w' := by
 have H : (some (a0 != a0)) = some r := h
 clear h
 obtain rfl := OI_ H
 go_enter Try.func197, Try.ntmps197
 go_wp2
 go_ret
 exact eD_
def z182.f (a0 : Int) (a1 : Int) : Option (Int) := (z197.f a0).bind fun t101 => ((z197.f a1).bind fun t102 => (if t101 = true then (if t102 = true then (some 0) else (some (-1))) else (if t102 = true then (some 1) else (if a0 < a1 then (some (-1)) else (if a0 > a1 then (some 1) else (some 0))))))
theorem z182.calls (a0 : Int) (a1 : Int) (r : Int) (w : World) (h : z182.f a0 a1 = some r) :
  Calls Try.prog 182 #[.int .i64 a0, .int .i64 a1] w fun e w' => e = .returned (.int .i64 r) ∧ Dz w w' := by
 have H : ((z197.f a0).bind fun t101 => ((z197.f a1).bind fun t102 => (if t101 = true then (if t102 = true then (some 0) else (some (-1))) else (if t102 = true then (some 1) else (if a0 < a1 then (some (-1)) else (if a0 > a1 then (some 1) else (some 0))))))) = some r := h
 clear h
 replace H := OZ_ H
 obtain ⟨t101, A3, H⟩ := H
 replace H := OZ_ H
 obtain ⟨t102, A4, H⟩ := H
 by_cases c5 : t101 = true
 ·subst c5
  replace H := T_ H
  by_cases c6 : t102 = true
  ·subst c6
   replace H := T_ H
   obtain rfl := OI_ H
   go_enter Try.func182, Try.ntmps182
   go_wp2_with (first | ((with_reducible refine gC_ (f := 197) rfl ?_); refine GL_ (some 8) rfl rfl Try.func197 #[.int .i64 a0] rfl (h := ?_); (with_reducible refine (z197.calls a0 true _ A3.out).mono ?_); rintro e w' ⟨rfl, ⟨nd, rfl⟩⟩; refine ⟨_, rfl, ?_⟩) | ((with_reducible refine gC_ (f := 197) rfl ?_); refine GL_ (some 10) rfl rfl Try.func197 #[.int .i64 a1] rfl (h := ?_); (with_reducible refine (z197.calls a1 true _ A4.out).mono ?_); rintro e w' ⟨rfl, ⟨nd, rfl⟩⟩; refine ⟨_, rfl, ?_⟩))
   go_ret
   exact eD_
  replace c6 := Bool.eq_false_iff.mpr c6
  subst c6
  replace H := N_ H
  obtain rfl := OI_ H
  go_enter Try.func182, Try.ntmps182
  go_wp2_with (first | ((with_reducible refine gC_ (f := 197) rfl ?_); refine GL_ (some 8) rfl rfl Try.func197 #[.int .i64 a0] rfl (h := ?_); (with_reducible refine (z197.calls a0 true _ A3.out).mono ?_); rintro e w' ⟨rfl, ⟨nd, rfl⟩⟩; refine ⟨_, rfl, ?_⟩) | ((with_reducible refine gC_ (f := 197) rfl ?_); refine GL_ (some 10) rfl rfl Try.func197 #[.int .i64 a1] rfl (h := ?_); (with_reducible refine (z197.calls a1 false _ A4.out).mono ?_); rintro e w' ⟨rfl, ⟨nd, rfl⟩⟩; refine ⟨_, rfl, ?_⟩))
  go_ret
  exact eD_
 replace c5 := Bool.eq_false_iff.mpr c5
 subst c5
 replace H := N_ H
 by_cases c7 : t102 = true
 ·subst c7
  replace H := T_ H
  obtain rfl := OI_ H
  go_enter Try.func182, Try.ntmps182
  go_wp2_with (first | ((with_reducible refine gC_ (f := 197) rfl ?_); refine GL_ (some 8) rfl rfl Try.func197 #[.int .i64 a0] rfl (h := ?_); (with_reducible refine (z197.calls a0 false _ A3.out).mono ?_); rintro e w' ⟨rfl, ⟨nd, rfl⟩⟩; refine ⟨_, rfl, ?_⟩) | ((with_reducible refine gC_ (f := 197) rfl ?_); refine GL_ (some 10) rfl rfl Try.func197 #[.int .i64 a1] rfl (h := ?_); (with_reducible refine (z197.calls a1 true _ A4.out).mono ?_); rintro e w' ⟨rfl, ⟨nd, rfl⟩⟩; refine ⟨_, rfl, ?_⟩))
  go_ret
  exact eD_
 replace c7 := Bool.eq_false_iff.mpr c7
 subst c7
 replace H := N_ H
 by_cases c8 : a0 < a1
 ·rw [if_pos c8] at H
  have c8b0 : decide (a0 < a1) = true := decide_eq_true c8
  clear c8
  obtain rfl := OI_ H
  go_enter Try.func182, Try.ntmps182
  go_wp2_with (first | ((with_reducible refine gC_ (f := 197) rfl ?_); refine GL_ (some 8) rfl rfl Try.func197 #[.int .i64 a0] rfl (h := ?_); (with_reducible refine (z197.calls a0 false _ A3.out).mono ?_); rintro e w' ⟨rfl, ⟨nd, rfl⟩⟩; refine ⟨_, rfl, ?_⟩) | ((with_reducible refine gC_ (f := 197) rfl ?_); refine GL_ (some 10) rfl rfl Try.func197 #[.int .i64 a1] rfl (h := ?_); (with_reducible refine (z197.calls a1 false _ A4.out).mono ?_); rintro e w' ⟨rfl, ⟨nd, rfl⟩⟩; refine ⟨_, rfl, ?_⟩))
  go_ret
  exact eD_
 rw [if_neg c8] at H
 have c8b0 : decide (a0 < a1) = false := decide_eq_false c8
 clear c8
 by_cases c9 : a0 > a1
 ·rw [if_pos c9] at H
  have c9b0 : decide (a1 < a0) = true := decide_eq_true c9
  clear c9
  obtain rfl := OI_ H
  go_enter Try.func182, Try.ntmps182
  go_wp2_with (first | ((with_reducible refine gC_ (f := 197) rfl ?_); refine GL_ (some 8) rfl rfl Try.func197 #[.int .i64 a0] rfl (h := ?_); (with_reducible refine (z197.calls a0 false _ A3.out).mono ?_); rintro e w' ⟨rfl, ⟨nd, rfl⟩⟩; refine ⟨_, rfl, ?_⟩) | ((with_reducible refine gC_ (f := 197) rfl ?_); refine GL_ (some 10) rfl rfl Try.func197 #[.int .i64 a1] rfl (h := ?_); (with_reducible refine (z197.calls a1 false _ A4.out).mono ?_); rintro e w' ⟨rfl, ⟨nd, rfl⟩⟩; refine ⟨_, rfl, ?_⟩))
  go_ret
  exact eD_
 rw [if_neg c9] at H
 have c9b0 : decide (a1 < a0) = false := decide_eq_false c9
 clear c9
 obtain rfl := OI_ H
 go_enter Try.func182, Try.ntmps182
 go_wp2_with (first | ((with_reducible refine gC_ (f := 197) rfl ?_); refine GL_ (some 8) rfl rfl Try.func197 #[.int .i64 a0] rfl (h := ?_); (with_reducible refine (z197.calls a0 false _ A3.out).mono ?_); rintro e w' ⟨rfl, ⟨nd, rfl⟩⟩; refine ⟨_, rfl, ?_⟩) | ((with_reducible refine gC_ (f := 197) rfl ?_); refine GL_ (some 10) rfl rfl Try.func197 #[.int .i64 a1] rfl (h := ?_); (with_reducible refine (z197.calls a1 false _ A4.out).mono ?_); rintro e w' ⟨rfl, ⟨nd, rfl⟩⟩; refine ⟨_, rfl, ?_⟩))
 go_ret
 exact eD_
def z155.l0 : Nat → List Int → List Int → List Int → Int → Int → Option (Int)
 | 0, _, _, _, _, _ => none
 | k + 1, x0, x1, x9, x10, x11 => if x11 < x10 then (if 0 ≤ x11 then (if x11 < (x9.length : Int) then (if x11 ≥ (x1.length : Int) then (some 1) else (if x11 < (x1.length : Int) then ((z182.f (rd x9 x11) (rd x1 x11)).bind fun t103 => (if t103 = 0 then (z155.l0 k x0 x1 x9 x10 (wrap64 (x11 + 1))) else (some t103))) else (none))) else (none)) else (none)) else (if (x0.length : Int) < (x1.length : Int) then (some (-1)) else (some 0))
def z155.f (k : Nat) (l0 : List Int) (l1 : List Int) : Option (Int) := z155.l0 k l0 l1 l0 (l0.length : Int) 0
theorem z155.calls (k : Nat) (A0 : Option Addr) (c0 : Nat) (l0 : List Int) (A1 : Option Addr) (c1 : Nat) (l1 : List Int) (r : Int) (w : World) (hr0 : Kd.C (Kd.int .i64) w A0 l0.length l0) (hc0 : l0.length ≤ c0) (hr1 : Kd.C (Kd.int .i64) w A1 l1.length l1) (hc1 : l1.length ≤ c1) (h : z155.f k l0 l1 = some r) :
  Calls Try.prog 155 #[.slice A0 l0.length c0, .slice A1 l1.length c1] w fun e w' => e = .returned (.int .i64 r) ∧ Dz w w' := by
 have HR0 := Zz.mk hr0
 have HC0 := Zz.mk hc0
 clear hr0 hc0
 have HR1 := Zz.mk hr1
 have HC1 := Zz.mk hc1
 clear hr1 hc1
 have H : (z155.l0 k l0 l1 l0 (l0.length : Int) 0) = some r := h
 clear h
 have H' := Zz.mk H
 clear H
 go_enter Try.func155, Try.ntmps155
 go_wp2
 go_loopg [11] k (fun kq v11 w' => ∃ (x11_1 : Int), v11 = .int .i64 x11_1 ∧ Zz (z155.l0 kq l0 l1 l0 (l0.length : Int) x11_1 = some r) ∧ Zz (kq ≤ k) ∧ Dz w w')
 case atStart => exact ⟨(0), E_, H', ⟨Nat.le_refl _⟩, by repeat (first | exact Dz.refl _ | apply Dz.step)⟩
 case round =>
  clear H'
  (try clear c1)
  obtain ⟨x11_1, rfl, HA, HK1, ⟨m1, rfl⟩⟩ := hrel
  cases gk with
  | zero => exact absurd HA.out (by simp [z155.l0])
  | succ k1 =>
   have H := HA.out
   clear HA
   simp only [z155.l0] at H
   by_cases c3 : x11_1 < (l0.length : Int)
   ·rw [if_pos c3] at H
    have c3b0 : decide (x11_1 < (l0.length : Int)) = true := decide_eq_true c3
    clear c3
    have c4b0 := O3_ H
    replace H := O2_ H
    have c5b0 := O3_ H
    replace H := O2_ H
    by_cases c6 : x11_1 ≥ (l1.length : Int)
    ·rw [if_pos c6] at H
     have c6b0 : decide ((l1.length : Int) ≤ x11_1) = true := decide_eq_true c6
     clear c6
     obtain rfl := OI_ H
     have p101 : 0 ≤ (x11_1 : Int) := D_
     have q101 : x11_1 < (l0.length : Int) := D_
     obtain ⟨ad101, e101, hx101_0⟩ := Kd.at_int HR0.out x11_1 p101 q101
     cases e101
     replace p101 := eq_true p101
     replace q101 := eq_true q101
     go_wp2
     go_ret
     exact eD_
    rw [if_neg c6] at H
    have c6b0 : decide ((l1.length : Int) ≤ x11_1) = false := decide_eq_false c6
    clear c6
    have c7b0 := O3_ H
    replace H := O2_ H
    replace H := OZ_ H
    obtain ⟨t103, A8, H⟩ := H
    by_cases c9 : t103 = 0
    ·rw [if_pos c9] at H
     have c9b0 : (t103 == 0) = true := beq_iff_eq.mpr c9
     have c9b1 : (t103 != 0) = false := bne_eq_false_iff_eq.mpr c9
     clear c9
     have H' := Zz.mk H
     clear H
     have p101 : 0 ≤ (x11_1 : Int) := D_
     have q101 : x11_1 < (l0.length : Int) := D_
     obtain ⟨ad101, e101, hx101_0⟩ := Kd.at_int HR0.out x11_1 p101 q101
     cases e101
     replace p101 := eq_true p101
     replace q101 := eq_true q101
     have p102 : 0 ≤ (x11_1 : Int) := D_
     have q102 : x11_1 < (l1.length : Int) := D_
     obtain ⟨ad102, e102, hx102_0⟩ := Kd.at_int HR1.out x11_1 p102 q102
     cases e102
     replace p102 := eq_true p102
     replace q102 := eq_true q102
     go_wp2_with (first | ((with_reducible refine gC_ (f := 182) rfl ?_); refine GL_ (some 26) rfl rfl Try.func182 #[.int .i64 (rd l0 x11_1), .int .i64 (rd l1 x11_1)] rfl (h := ?_); (with_reducible refine (z182.calls (rd l0 x11_1) (rd l1 x11_1) t103 _ A8.out).mono ?_); rintro e w' ⟨rfl, ⟨nd, rfl⟩⟩; refine ⟨_, rfl, ?_⟩))
     go_roundg k1
     case measure => exact Q1_ HK1
     case rel => exact ⟨(wrap64 (x11_1 + 1)), E_, H', ⟨Q1_ HK1⟩, by repeat (first | exact Dz.refl _ | apply Dz.step)⟩
    rw [if_neg c9] at H
    have c9b0 : (t103 == 0) = false := beq_eq_false_iff_ne.mpr c9
    have c9b1 : (t103 != 0) = true := bne_iff_ne.mpr c9
    obtain rfl := OI_ H
    have p101 : 0 ≤ (x11_1 : Int) := D_
    have q101 : x11_1 < (l0.length : Int) := D_
    obtain ⟨ad101, e101, hx101_0⟩ := Kd.at_int HR0.out x11_1 p101 q101
    cases e101
    replace p101 := eq_true p101
    replace q101 := eq_true q101
    have p102 : 0 ≤ (x11_1 : Int) := D_
    have q102 : x11_1 < (l1.length : Int) := D_
    obtain ⟨ad102, e102, hx102_0⟩ := Kd.at_int HR1.out x11_1 p102 q102
    cases e102
    replace p102 := eq_true p102
    replace q102 := eq_true q102
    go_wp2_with (first | ((with_reducible refine gC_ (f := 182) rfl ?_); refine GL_ (some 26) rfl rfl Try.func182 #[.int .i64 (rd l0 x11_1), .int .i64 (rd l1 x11_1)] rfl (h := ?_); (with_reducible refine (z182.calls (rd l0 x11_1) (rd l1 x11_1) t103 _ A8.out).mono ?_); rintro e w' ⟨rfl, ⟨nd, rfl⟩⟩; refine ⟨_, rfl, ?_⟩))
    go_ret
    exact eD_
   rw [if_neg c3] at H
   have c3b0 : decide (x11_1 < (l0.length : Int)) = false := decide_eq_false c3
   clear c3
   by_cases c10 : (l0.length : Int) < (l1.length : Int)
   ·rw [if_pos c10] at H
    have c10b0 : decide ((l0.length : Int) < (l1.length : Int)) = true := decide_eq_true c10
    have c10b1 : decide (l0.length < l1.length) = true := decide_eq_true (Int.ofNat_lt.mp c10)
    clear c10
    obtain rfl := OI_ H
    go_wp2
    go_ret
    exact eD_
   rw [if_neg c10] at H
   have c10b0 : decide ((l0.length : Int) < (l1.length : Int)) = false := decide_eq_false c10
   have c10b1 : decide (l0.length < l1.length) = false := decide_eq_false (fun h => c10 (Int.ofNat_lt.mpr h))
   clear c10
   obtain rfl := OI_ H
   go_wp2
   go_ret
   exact eD_
def z109.f (k : Nat) (l0 : List Int) (l1 : List Int) : Option (Int) := (z154.f (l0.length : Int) (l1.length : Int)).bind fun t101 => ((z155.f k l0 l1).bind fun t102 => ((z153.f k (([t101, t102] : List Int))).bind fun t106 => (some t106)))
theorem z109.calls (k : Nat) (A0 : Option Addr) (c0 : Nat) (l0 : List Int) (A1 : Option Addr) (c1 : Nat) (l1 : List Int) (r : Int) (w : World) (hr0 : Kd.C (Kd.int .i64) w A0 l0.length l0) (hc0 : l0.length ≤ c0) (hr1 : Kd.C (Kd.int .i64) w A1 l1.length l1) (hc1 : l1.length ≤ c1) (h : z109.f k l0 l1 = some r) :
  Calls Try.prog 109 #[.slice A0 l0.length c0, .slice A1 l1.length c1] w fun e w' => e = .returned (.int .i64 r) ∧ Below w.heap.size w w' := by
 have HR0 := Zz.mk hr0
 have HC0 := Zz.mk hc0
 clear hr0 hc0
 have HR1 := Zz.mk hr1
 have HC1 := Zz.mk hc1
 clear hr1 hc1
 have HB := Zz.mk (Below.refl w.heap.size w)
 have H : ((z154.f (l0.length : Int) (l1.length : Int)).bind fun t101 => ((z155.f k l0 l1).bind fun t102 => ((z153.f k (([t101, t102] : List Int))).bind fun t106 => (some t106)))) = some r := h
 clear h
 replace H := OZ_ H
 obtain ⟨t101, A3, H⟩ := H
 replace H := OZ_ H
 obtain ⟨t102, A4, H⟩ := H
 obtain ⟨y103, hy103⟩ : ∃ y_ : List Int, y_ = (([t101, t102] : List Int)) := ⟨_, rfl⟩
 replace H : ((z153.f k y103).bind fun t106 => (some t106)) = some r := Y_ hy103 H
 have Ny103 := Zz.mk hy103
 clear hy103
 replace H := OZ_ H
 obtain ⟨t106, A5, H⟩ := H
 obtain rfl := OI_ H
 go_enter Try.func109, Try.ntmps109
 go_wp2_with (first | ((with_reducible refine gC_ (f := 154) rfl ?_); refine GL_ (some 9) rfl rfl Try.func154 #[.int .i64 (l0.length : Int), .int .i64 (l1.length : Int)] rfl (h := ?_); (with_reducible refine (z154.calls (l0.length : Int) (l1.length : Int) t101 _ A3.out).mono ?_); rintro e w' ⟨rfl, ⟨nd, rfl⟩⟩; refine ⟨_, rfl, ?_⟩) | ((with_reducible refine gC_ (f := 155) rfl ?_); refine GL_ (some 12) rfl rfl Try.func155 #[.slice A0 l0.length c0, .slice A1 l1.length c1] rfl (h := ?_); (with_reducible refine (z155.calls k _ _ l0 _ _ l1 t102 _ ?side1 ?side2 ?side3 ?side4 A4.out).mono ?_); (case side1 => exact KC_ HR0.out); (case side2 => exact HC0.out); (case side3 => exact KC_ HR1.out); (case side4 => exact HC1.out); rintro e w' ⟨rfl, ⟨nd, rfl⟩⟩; refine ⟨_, rfl, ?_⟩) | ((with_reducible refine gate_dst (N := 13) rfl ?_); refine Kd.R_lit (Kd.int .i64) _ 3 ?hg (N := 13) ?hd (xs := ([t101, t102] : List Int)) (inner := [.int .i64 t101, .int .i64 t102]) (ok := fun _ => True) (okp := fun _ => True) ?hr ?hp (fun _ hk => hk) trivial (Below.refl _ _) (Nat.le_refl _) (by simp) ?_; (case hd => rfl); (case hg => rfl); (case hr => first | (go_simp; done) | (go_simp; rfl)); (case hp => exact (Reps.one (show Kd.M (Kd.int .i64) _ _ _ t101 [.int .i64 t101] from rfl) (Reps.one (show Kd.M (Kd.int .i64) _ _ _ t102 [.int .i64 t102] from rfl) (Reps.none _ _)))); intro v104 w6 ho7 hb hg_ hnew_; clear hg_ hnew_; (first | rw [← Ny103.out] at ho7 | (simp only [Int.reduceToNat] at ho7; rw [← Ny103.out] at ho7)); have HO105 := Zz.mk (Kd.R_lower ho7 (bS_ (B_ HB.out))); replace HB := Zz.mk (bT_ (B_ HB.out) hb); clear hb ho7; obtain ⟨Ao8, co8, eo8⟩ := Kd.R_slice HO105.out; subst eo8) | ((with_reducible refine gC_ (f := 153) rfl ?_); refine GL_ (some 14) rfl rfl Try.func153 #[.slice Ao8 y103.length co8] rfl (h := ?_); (with_reducible refine (z153.calls k _ _ y103 t106 _ ?side1 ?side2 A5.out).mono ?_); (case side1 => exact KC_ (Kd.R_reads' HO105.out).2.2); (case side2 => exact (Kd.R_reads' HO105.out).2.1); rintro e w' ⟨rfl, ⟨nd, rfl⟩⟩; refine ⟨_, rfl, ?_⟩))
 go_ret
 exact ⟨F_, B_ HB.out⟩
def z227.l0 : Nat → List (List Int) → List Int → Int → Int → Int → Option (Int × Bool)
 | 0, _, _, _, _, _ => none
 | k + 1, x0, x1, x8, x9, x10 => if x9 < x10 then (if 0 ≤ (wrap64 ((IntKind.u64.wrap (wrap64 (x9 + x10))) / 2)) then (if (wrap64 ((IntKind.u64.wrap (wrap64 (x9 + x10))) / 2)) < (x0.length : Int) then ((z109.f k (rI_ x0 (wrap64 ((IntKind.u64.wrap (wrap64 (x9 + x10))) / 2))) x1).bind fun t102 => (if t102 < 0 then (z227.l0 k x0 x1 x8 (wrap64 ((wrap64 ((IntKind.u64.wrap (wrap64 (x9 + x10))) / 2)) + 1)) x10) else (z227.l0 k x0 x1 x8 x9 (wrap64 ((IntKind.u64.wrap (wrap64 (x9 + x10))) / 2))))) else (none)) else (none)) else (if x9 < x8 then (if 0 ≤ x9 then (if x9 < (x0.length : Int) then ((z109.f k (rI_ x0 x9) x1).bind fun t104 => (some (x9, (t104 == 0)))) else (none)) else (none)) else (some (x9, false)))
def z227.f (k : Nat) (l0 : List (List Int)) (l1 : List Int)  : Option (Int × Bool) := z227.l0 k l0 l1 (l0.length : Int) 0 (l0.length : Int)
theorem z227.calls (k : Nat) (A0 : Option Addr) (c0 : Nat) (l0 : List (List Int)) (A1 : Option Addr) (c1 : Nat) (l1 : List Int)  (r1 : Int) (r2 : Bool) (w : World) (hr0 : Kd.C (Kd.slice 2 (Kd.int .i64)) w A0 l0.length l0) (hc0 : l0.length ≤ c0) (hr1 : Kd.C (Kd.int .i64) w A1 l1.length l1) (hc1 : l1.length ≤ c1) (h : z227.f k l0 l1 = some (r1, r2)) :
  Calls Try.prog 129 #[.slice A0 l0.length c0, .slice A1 l1.length c1, .func (.func 109) #[] #[]] w fun e w' => e = .returned (.tuple #[.int .i64 r1, .bool r2]) ∧ Below w.heap.size w w' := by
 have HR0 := Zz.mk hr0
 have HC0 := Zz.mk hc0
 clear hr0 hc0
 have HR1 := Zz.mk hr1
 have HC1 := Zz.mk hc1
 clear hr1 hc1
 have HB := Zz.mk (Below.refl w.heap.size w)
 have H : (z227.l0 k l0 l1 (l0.length : Int) 0 (l0.length : Int)) = some (r1, r2) := h
 clear h
 have H' := Zz.mk H
 clear H
 go_enter Try.func129, Try.ntmps129
 go_wp2
 go_loopg [9, 10] k (fun kq v9 v10 w' => ∃ (x9_1 : Int) (x10_1 : Int), v9 = .int .i64 x9_1 ∧ v10 = .int .i64 x10_1 ∧ Zz (z227.l0 kq l0 l1 (l0.length : Int) x9_1 x10_1 = some (r1, r2)) ∧ Zz (kq ≤ k) ∧ Zz (Below w.heap.size w w'))
 case atStart => exact ⟨(0), ((l0.length : Int)), E_, E_, H', ⟨Nat.le_refl _⟩, ⟨B_ HB.out⟩⟩
 case round =>
  clear H'
  (try clear c1)
  obtain ⟨x9_1, x10_1, rfl, rfl, HA, HK1, HB⟩ := hrel
  cases gk with
  | zero => exact absurd HA.out (by simp [z227.l0])
  | succ k1 =>
   have H := HA.out
   clear HA
   simp only [z227.l0] at H
   by_cases c4 : x9_1 < x10_1
   ·rw [if_pos c4] at H
    have c4b0 : decide (x9_1 < x10_1) = true := decide_eq_true c4
    clear c4
    obtain ⟨ji5, hji5⟩ : ∃ j_ : Int, (wrap64 ((IntKind.u64.wrap (wrap64 (x9_1 + x10_1))) / 2)) = j_ := ⟨_, rfl⟩
    replace H : (if 0 ≤ (ji5) then (if (ji5) < (l0.length : Int) then ((z109.f k1 (rI_ l0 (ji5)) l1).bind fun t102 => (if t102 < 0 then (z227.l0 k1 l0 l1 (l0.length : Int) (wrap64 ((ji5) + 1)) x10_1) else (z227.l0 k1 l0 l1 (l0.length : Int) x9_1 ji5))) else (none)) else (none)) = some (r1, r2) := by first | (rw [hji5] at H; exact H) | (simp only [hji5] at H ⊢; exact H)
    have hji5w : (IntKind.i64.wrap ((IntKind.u64.wrap (wrap64 (x9_1 + x10_1))) / 2)) = ji5 := (i64_w _).trans hji5
    have c6b0 := O3_ H
    replace H := O2_ H
    have c7b0 := O3_ H
    replace H := O2_ H
    replace H := OB_ H
    obtain ⟨t102, A80, H⟩ := H
    replace H : (if t102 < 0 then (z227.l0 k1 l0 l1 (l0.length : Int) (wrap64 ((ji5) + 1)) x10_1) else (z227.l0 k1 l0 l1 (l0.length : Int) x9_1 ji5)) = some (r1, r2) := H
    have A8 := Zz.mk A80
    clear A80
    by_cases c9 : t102 < 0
    ·rw [if_pos c9] at H
     have c9b0 : decide (t102 < 0) = true := decide_eq_true c9
     clear c9
     have H' := Zz.mk H
     clear H
     have p101 : 0 ≤ ((ji5) : Int) := D_
     have q101 : (ji5) < (l0.length : Int) := D_
     obtain ⟨ad101, A101_0, c101_0, e101, hx101_0, hl101_0, hi101_0⟩ := at_ListInt HR0.out (ji5) p101 q101
     cases e101
     replace hx101_0 := (HB.out.cell (World.block_lt_of_cell? w _ hx101_0)).trans hx101_0
     have HR101_0 := Zz.mk hi101_0
     have HC101_0 := Zz.mk hl101_0
     clear hi101_0 hl101_0
     replace p101 := eq_true p101
     replace q101 := eq_true q101
     go_wp2_with (first | (go_at_call 109; (with_reducible refine (z109.calls k1 _ _ (rI_ l0 (ji5)) _ _ l1 t102 _ ?side1 ?side2 ?side3 ?side4 A8.out).mono ?_); (case side1 => exact KC_ (Kd.C_below HR101_0.out HB.out)); (case side2 => exact HC101_0.out); (case side3 => exact KC_ (Kd.C_below HR1.out HB.out)); (case side4 => exact HC1.out); rintro e w10 ⟨rfl, hb⟩; replace HB := Zz.mk (bT_ (B_ HB.out) hb); (try clear hb)))
     go_roundg k1
     case measure => exact Q1_ HK1
     case rel => exact ⟨(wrap64 ((ji5) + 1)), (x10_1), (by first | rfl | (simp; done) | (simp only [← hji5] <;> (first | rfl | simp)) | (simp [*]; done)), E_, H', ⟨Q1_ HK1⟩, ⟨B_ HB.out⟩⟩
    rw [if_neg c9] at H
    have c9b0 : decide (t102 < 0) = false := decide_eq_false c9
    clear c9
    have H' := Zz.mk H
    clear H
    have p101 : 0 ≤ ((ji5) : Int) := D_
    have q101 : (ji5) < (l0.length : Int) := D_
    obtain ⟨ad101, A101_0, c101_0, e101, hx101_0, hl101_0, hi101_0⟩ := at_ListInt HR0.out (ji5) p101 q101
    cases e101
    replace hx101_0 := (HB.out.cell (World.block_lt_of_cell? w _ hx101_0)).trans hx101_0
    have HR101_0 := Zz.mk hi101_0
    have HC101_0 := Zz.mk hl101_0
    clear hi101_0 hl101_0
    replace p101 := eq_true p101
    replace q101 := eq_true q101
    go_wp2_with (first | (go_at_call 109; (with_reducible refine (z109.calls k1 _ _ (rI_ l0 (ji5)) _ _ l1 t102 _ ?side1 ?side2 ?side3 ?side4 A8.out).mono ?_); (case side1 => exact KC_ (Kd.C_below HR101_0.out HB.out)); (case side2 => exact HC101_0.out); (case side3 => exact KC_ (Kd.C_below HR1.out HB.out)); (case side4 => exact HC1.out); rintro e w11 ⟨rfl, hb⟩; replace HB := Zz.mk (bT_ (B_ HB.out) hb); (try clear hb)))
    go_roundg k1
    case measure => exact Q1_ HK1
    case rel => exact ⟨(x9_1), (ji5), E_, (by first | rfl | (simp; done) | (simp only [← hji5] <;> (first | rfl | simp)) | (simp [*]; done)), H', ⟨Q1_ HK1⟩, ⟨B_ HB.out⟩⟩
   rw [if_neg c4] at H
   have c4b0 : decide (x9_1 < x10_1) = false := decide_eq_false c4
   clear c4
   by_cases c12 : x9_1 < (l0.length : Int)
   ·rw [if_pos c12] at H
    have c12b0 : decide (x9_1 < (l0.length : Int)) = true := decide_eq_true c12
    clear c12
    have c13b0 := O3_ H
    replace H := O2_ H
    have c14b0 := O3_ H
    replace H := O2_ H
    replace H := OB_ H
    obtain ⟨t104, A150, H⟩ := H
    replace H : (some (x9_1, (t104 == 0))) = some (r1, r2) := H
    have A15 := Zz.mk A150
    clear A150
    simp only [Option.some.injEq, Prod.mk.injEq] at H
    obtain ⟨rfl, rfl⟩ := H
    have p103 : 0 ≤ (x9_1 : Int) := D_
    have q103 : x9_1 < (l0.length : Int) := D_
    obtain ⟨ad103, A103_0, c103_0, e103, hx103_0, hl103_0, hi103_0⟩ := at_ListInt HR0.out x9_1 p103 q103
    cases e103
    replace hx103_0 := (HB.out.cell (World.block_lt_of_cell? w _ hx103_0)).trans hx103_0
    have HR103_0 := Zz.mk hi103_0
    have HC103_0 := Zz.mk hl103_0
    clear hi103_0 hl103_0
    replace p103 := eq_true p103
    replace q103 := eq_true q103
    go_wp2_with (first | (go_at_call 109; (with_reducible refine (z109.calls k1 _ _ (rI_ l0 x9_1) _ _ l1 t104 _ ?side1 ?side2 ?side3 ?side4 A15.out).mono ?_); (case side1 => exact KC_ (Kd.C_below HR103_0.out HB.out)); (case side2 => exact HC103_0.out); (case side3 => exact KC_ (Kd.C_below HR1.out HB.out)); (case side4 => exact HC1.out); rintro e w16 ⟨rfl, hb⟩; replace HB := Zz.mk (bT_ (B_ HB.out) hb); (try clear hb)))
    go_ret2
    exact ⟨F_, B_ HB.out⟩
   rw [if_neg c12] at H
   have c12b0 : decide (x9_1 < (l0.length : Int)) = false := decide_eq_false c12
   clear c12
   simp only [Option.some.injEq, Prod.mk.injEq] at H
   obtain ⟨rfl, rfl⟩ := H
   go_wp2
   go_ret2
   exact ⟨F_, B_ HB.out⟩
def z84.f (k : Nat) (l0_0 : List (List Int)) (l1 : List Int) : Option (Int) := (z227.f k l0_0 l1).bind fun bt102 => (if bt102.2 = true then (some bt102.1) else (some (-1)))
theorem z84.calls (k : Nat) (A0_0 : Option Addr) (c0_0 : Nat) (l0_0 : List (List Int)) (A1 : Option Addr) (c1 : Nat) (l1 : List Int) (r : Int) (w : World) (hr0_0 : Kd.C (Kd.slice 2 (Kd.int .i64)) w A0_0 l0_0.length l0_0) (hc0_0 : l0_0.length ≤ c0_0) (hr1 : Kd.C (Kd.int .i64) w A1 l1.length l1) (hc1 : l1.length ≤ c1) (h : z84.f k l0_0 l1 = some r) :
  Calls Try.prog 84 #[.agg #[.slice A0_0 l0_0.length c0_0], .slice A1 l1.length c1] w fun e w' => e = .returned (.int .i64 r) ∧ Below w.heap.size w w' := by
 have hu29 := Try.underlying29
 have HR0_0 := Zz.mk hr0_0
 have HC0_0 := Zz.mk hc0_0
 clear hr0_0 hc0_0
 have HR1 := Zz.mk hr1
 have HC1 := Zz.mk hc1
 clear hr1 hc1
 have HB := Zz.mk (Below.refl w.heap.size w)
 have H : ((z227.f k l0_0 l1).bind fun bt102 => (if bt102.2 = true then (some bt102.1) else (some (-1)))) = some r := h
 clear h
 replace H := OB_ H
 obtain ⟨⟨t102, t103⟩, A30, H⟩ := H
 try dsimp only at H
 have A3 := Zz.mk A30
 clear A30
 by_cases c4 : t103 = true
 ·subst c4
  replace H := T_ H
  obtain rfl := OI_ H
  go_enter Try.func84, Try.ntmps84
  go_wp2_with (first | ((with_reducible refine gate_dst (N := 2) rfl ?_); refine bx_ 2 #[.slice A0_0 l0_0.length c0_0] 29 ?_; intro gb101 hg w5 hbox hb; have BK101 := Zz.mk (hbox); have GW101 := Zz.mk ((gw_ hg (B_ HB.out))); have GE101 := GW101; replace HB := Zz.mk (bT_ (B_ HB.out) hb); clear hb hbox hg; obtain ⟨hcz6_0, hfz6_0⟩ := Z1f_ BK101.out) | ((with_reducible refine gC_ (f := 129) rfl ?_); refine GL_ (some 11) rfl rfl Try.func129 #[.slice A0_0 l0_0.length c0_0, .slice A1 l1.length c1, .func (.func 109) #[] #[]] rfl (h := ?_); (with_reducible refine (z227.calls k _ _ l0_0 _ _ l1  t102 true _ ?side1 ?side2 ?side3 ?side4 A3.out).mono ?_); (case side1 => exact KC_ (Kd.C_below HR0_0.out HB.out)); (case side2 => exact HC0_0.out); (case side3 => exact KC_ (Kd.C_below HR1.out HB.out)); (case side4 => exact HC1.out); rintro e w7 ⟨rfl, hb⟩; refine ⟨_, rfl, ?_⟩; replace BK101 := Zz.mk (kb_ BK101.out hb); replace HB := Zz.mk (bT_ (B1_ HB.out GE101.out) hb); (try clear hb)))
  go_ret
  exact ⟨F_, B1_ HB.out GE101.out⟩
 replace c4 := Bool.eq_false_iff.mpr c4
 subst c4
 replace H := N_ H
 obtain rfl := OI_ H
 go_enter Try.func84, Try.ntmps84
 go_wp2_with (first | ((with_reducible refine gate_dst (N := 2) rfl ?_); refine bx_ 2 #[.slice A0_0 l0_0.length c0_0] 29 ?_; intro gb101 hg w8 hbox hb; have BK101 := Zz.mk (hbox); have GW101 := Zz.mk ((gw_ hg (B_ HB.out))); have GE101 := GW101; replace HB := Zz.mk (bT_ (B_ HB.out) hb); clear hb hbox hg; obtain ⟨hcz9_0, hfz9_0⟩ := Z1f_ BK101.out) | ((with_reducible refine gC_ (f := 129) rfl ?_); refine GL_ (some 11) rfl rfl Try.func129 #[.slice A0_0 l0_0.length c0_0, .slice A1 l1.length c1, .func (.func 109) #[] #[]] rfl (h := ?_); (with_reducible refine (z227.calls k _ _ l0_0 _ _ l1  t102 false _ ?side1 ?side2 ?side3 ?side4 A3.out).mono ?_); (case side1 => exact KC_ (Kd.C_below HR0_0.out HB.out)); (case side2 => exact HC0_0.out); (case side3 => exact KC_ (Kd.C_below HR1.out HB.out)); (case side4 => exact HC1.out); rintro e w10 ⟨rfl, hb⟩; refine ⟨_, rfl, ?_⟩; replace BK101 := Zz.mk (kb_ BK101.out hb); replace HB := Zz.mk (bT_ (B1_ HB.out GE101.out) hb); (try clear hb)))
 go_ret
 exact ⟨F_, B1_ HB.out GE101.out⟩
def z113.f (a0 : Int) (a1 : Int) (a2 : Int) : Option (Bool) := if a0 ≥ a1 then (some (decide (a0 ≤ a2))) else (some false)
theorem z113.calls (a0 : Int) (a1 : Int) (a2 : Int) (r : Bool) (w : World) (h : z113.f a0 a1 a2 = some r) :
  Calls Try.prog 113 #[.int .i64 a0, .int .i64 a1, .int .i64 a2] w fun e w' => e = .returned (.bool r) ∧ Dz w w' := by
 have H : (if a0 ≥ a1 then (some (decide (a0 ≤ a2))) else (some false)) = some r := h
 clear h
 by_cases c4 : a0 ≥ a1
 ·rw [if_pos c4] at H
  have c4b0 : decide (a1 ≤ a0) = true := decide_eq_true c4
  clear c4
  obtain rfl := OI_ H
  go_enter Try.func113, Try.ntmps113
  go_wp2
  go_ret
  exact eD_
 rw [if_neg c4] at H
 have c4b0 : decide (a1 ≤ a0) = false := decide_eq_false c4
 clear c4
 obtain rfl := OI_ H
 go_enter Try.func113, Try.ntmps113
 go_wp2
 go_ret
 exact eD_
def z125.l0 : Nat → List Int → Int → Option (Bool)
 | 0, _, _ => none
 | k + 1, x0, x3 => if x3 < (x0.length : Int) then (if 0 ≤ (wrap64 (x3 - 1)) then (if (wrap64 (x3 - 1)) < (x0.length : Int) then (if 0 ≤ x3 then (if (rd x0 (wrap64 (x3 - 1))) ≥ (rd x0 x3) then (some false) else (z125.l0 k x0 (wrap64 (x3 + 1)))) else (none)) else (none)) else (none)) else (some true)
def z125.f (k : Nat) (l0 : List Int) : Option (Bool) := z125.l0 k l0 1
theorem z125.calls (k : Nat) (A0 : Option Addr) (c0 : Nat) (l0 : List Int) (r : Bool) (w : World) (hr0 : Kd.C (Kd.int .i64) w A0 l0.length l0) (hc0 : l0.length ≤ c0) (h : z125.f k l0 = some r) :
  Calls Try.prog 125 #[.slice A0 l0.length c0] w fun e w' => e = .returned (.bool r) ∧ Dz w w' := by
 have HR0 := Zz.mk hr0
 have HC0 := Zz.mk hc0
 clear hr0 hc0
 have H : (z125.l0 k l0 1) = some r := h
 clear h
 have H' := Zz.mk H
 clear H
 go_enter Try.func125, Try.ntmps125
 go_wp2
 repeat (go_quiet (fail); try go_wp2)
 go_loopg [3] k (fun kq v3 w' => ∃ (x3_1 : Int), v3 = .int .i64 x3_1 ∧ Zz (z125.l0 kq l0 x3_1 = some r) ∧ Zz (kq ≤ k) ∧ Dz w w')
 case atStart => exact ⟨(1), E_, H', ⟨Nat.le_refl _⟩, by repeat (first | exact Dz.refl _ | apply Dz.step)⟩
 case round =>
  clear H'
  obtain ⟨x3_1, rfl, HA, HK1, ⟨m1, rfl⟩⟩ := hrel
  cases gk with
  | zero => exact absurd HA.out (by simp [z125.l0])
  | succ k1 =>
   have H := HA.out
   clear HA
   simp only [z125.l0] at H
   by_cases c2 : x3_1 < (l0.length : Int)
   ·rw [if_pos c2] at H
    have c2b0 : decide (x3_1 < (l0.length : Int)) = true := decide_eq_true c2
    clear c2
    obtain ⟨ji3, hji3⟩ : ∃ j_ : Int, (wrap64 (x3_1 - 1)) = j_ := ⟨_, rfl⟩
    replace H : (if 0 ≤ (ji3) then (if (ji3) < (l0.length : Int) then (if 0 ≤ x3_1 then (if (rd l0 (ji3)) ≥ (rd l0 x3_1) then (some false) else (z125.l0 k1 l0 (wrap64 (x3_1 + 1)))) else (none)) else (none)) else (none)) = some r := by first | (rw [hji3] at H; exact H) | (simp only [hji3] at H ⊢; exact H)
    have hji3w : (IntKind.i64.wrap (x3_1 - 1)) = ji3 := (i64_w _).trans hji3
    have c4b0 := O3_ H
    replace H := O2_ H
    have c5b0 := O3_ H
    replace H := O2_ H
    have c6b0 := O3_ H
    replace H := O2_ H
    by_cases c7 : (rd l0 (ji3)) ≥ (rd l0 x3_1)
    ·rw [if_pos c7] at H
     have c7b0 : decide ((rd l0 x3_1) ≤ (rd l0 (ji3))) = true := decide_eq_true c7
     clear c7
     obtain rfl := OI_ H
     have p101 : 0 ≤ ((ji3) : Int) := D_
     have q101 : (ji3) < (l0.length : Int) := D_
     obtain ⟨ad101, e101, hx101_0⟩ := Kd.at_int HR0.out (ji3) p101 q101
     cases e101
     replace p101 := eq_true p101
     replace q101 := eq_true q101
     have p102 : 0 ≤ (x3_1 : Int) := D_
     have q102 : x3_1 < (l0.length : Int) := D_
     obtain ⟨ad102, e102, hx102_0⟩ := Kd.at_int HR0.out x3_1 p102 q102
     obtain rfl : ad101 = ad102 := (by injection e102)
     replace p102 := eq_true p102
     replace q102 := eq_true q102
     go_wp2
     repeat (go_quiet (fail); try go_wp2)
     go_ret
     exact ⟨by first | rfl | (simp; done) | (simp only [← hji3] <;> (first | rfl | simp)) | (simp [*]; done), by repeat (first | exact Dz.refl _ | apply Dz.step)⟩
    rw [if_neg c7] at H
    have c7b0 : decide ((rd l0 x3_1) ≤ (rd l0 (ji3))) = false := decide_eq_false c7
    clear c7
    have H' := Zz.mk H
    clear H
    have p101 : 0 ≤ ((ji3) : Int) := D_
    have q101 : (ji3) < (l0.length : Int) := D_
    obtain ⟨ad101, e101, hx101_0⟩ := Kd.at_int HR0.out (ji3) p101 q101
    cases e101
    replace p101 := eq_true p101
    replace q101 := eq_true q101
    have p102 : 0 ≤ (x3_1 : Int) := D_
    have q102 : x3_1 < (l0.length : Int) := D_
    obtain ⟨ad102, e102, hx102_0⟩ := Kd.at_int HR0.out x3_1 p102 q102
    obtain rfl : ad101 = ad102 := (by injection e102)
    replace p102 := eq_true p102
    replace q102 := eq_true q102
    go_wp2
    repeat (go_quiet (fail); try go_wp2)
    go_roundg k1
    case measure => exact Q1_ HK1
    case rel => exact ⟨(wrap64 (x3_1 + 1)), E_, H', ⟨Q1_ HK1⟩, by repeat (first | exact Dz.refl _ | apply Dz.step)⟩
   rw [if_neg c2] at H
   have c2b0 : decide (x3_1 < (l0.length : Int)) = false := decide_eq_false c2
   clear c2
   obtain rfl := OI_ H
   go_wp2
   repeat (go_quiet (fail); try go_wp2)
   go_ret
   exact eD_
def z83.f (a0 : Int) : Option (Bool) := (z113.f a0 0 9).bind fun t101 => (some t101)
theorem z83.calls (a0 : Int) (r : Bool) (w : World) (h : z83.f a0 = some r) :
  Calls Try.prog 83 #[.int .i64 a0] w fun e w' => e = .returned (.bool r) ∧ Dz w w' := by
 have H : ((z113.f a0 0 9).bind fun t101 => (some t101)) = some r := h
 clear h
 replace H := OZ_ H
 obtain ⟨t101, A2, H⟩ := H
 obtain rfl := OI_ H
 go_enter Try.func83, Try.ntmps83
 go_wp2_with (first | ((with_reducible refine gC_ (f := 113) rfl ?_); refine GL_ (some 4) rfl rfl Try.func113 #[.int .i64 a0, .int .i64 0, .int .i64 9] rfl (h := ?_); (with_reducible refine (z113.calls a0 0 9 t101 _ A2.out).mono ?_); rintro e w' ⟨rfl, ⟨nd, rfl⟩⟩; refine ⟨_, rfl, ?_⟩))
 go_ret
 exact eD_
def z127.f (a0 : Int) : Option (Bool) := (z83.f a0).bind fun t101 => (some (!t101))
theorem z127.calls (a0 : Int) (r : Bool) (w : World) (h : z127.f a0 = some r) :
  Calls Try.prog 127 #[.int .i64 a0] w fun e w' => e = .returned (.bool r) ∧ Dz w w' := by
 have H : ((z83.f a0).bind fun t101 => (some (!t101))) = some r := h
 clear h
 replace H := OZ_ H
 obtain ⟨t101, A2, H⟩ := H
 obtain rfl := OI_ H
 go_enter Try.func127, Try.ntmps127
 go_wp2_with (first | ((with_reducible refine gC_ (f := 83) rfl ?_); refine GL_ (some 4) rfl rfl Try.func83 #[.int .i64 a0] rfl (h := ?_); (with_reducible refine (z83.calls a0 t101 _ A2.out).mono ?_); rintro e w' ⟨rfl, ⟨nd, rfl⟩⟩; refine ⟨_, rfl, ?_⟩))
 go_ret
 exact eD_
def z226.l0 : Nat → List Int → Int → Int → Option (Int)
 | 0, _, _, _ => none
 | k + 1, x0, x7, x8 => if x8 < x7 then (if 0 ≤ x8 then (if x8 < (x0.length : Int) then ((z127.f (rd x0 x8)).bind fun t102 => (if t102 = true then (some x8) else (z226.l0 k x0 x7 (wrap64 (x8 + 1))))) else (none)) else (none)) else (some (-1))
def z226.f (k : Nat) (l0 : List Int)  : Option (Int) := z226.l0 k l0 (l0.length : Int) 0
theorem z226.calls (k : Nat) (A0 : Option Addr) (c0 : Nat) (l0 : List Int)  (r : Int) (w : World) (hr0 : Kd.C (Kd.int .i64) w A0 l0.length l0) (hc0 : l0.length ≤ c0) (h : z226.f k l0 = some r) :
  Calls Try.prog 159 #[.slice A0 l0.length c0, .func (.func 127) #[] #[]] w fun e w' => e = .returned (.int .i64 r) ∧ Below w.heap.size w w' := by
 have HR0 := Zz.mk hr0
 have HC0 := Zz.mk hc0
 clear hr0 hc0
 have HB := Zz.mk (Below.refl w.heap.size w)
 have H : (z226.l0 k l0 (l0.length : Int) 0) = some r := h
 clear h
 have H' := Zz.mk H
 clear H
 go_enter Try.func159, Try.ntmps159
 go_wp2
 go_loopg [8] k (fun kq v8 w' => ∃ (x8_1 : Int), v8 = .int .i64 x8_1 ∧ Zz (z226.l0 kq l0 (l0.length : Int) x8_1 = some r) ∧ Zz (kq ≤ k) ∧ Zz (Below w.heap.size w w'))
 case atStart => exact ⟨(0), E_, H', ⟨Nat.le_refl _⟩, ⟨B_ HB.out⟩⟩
 case round =>
  clear H'
  obtain ⟨x8_1, rfl, HA, HK1, HB⟩ := hrel
  cases gk with
  | zero => exact absurd HA.out (by simp [z226.l0])
  | succ k1 =>
   have H := HA.out
   clear HA
   simp only [z226.l0] at H
   by_cases c3 : x8_1 < (l0.length : Int)
   ·rw [if_pos c3] at H
    have c3b0 : decide (x8_1 < (l0.length : Int)) = true := decide_eq_true c3
    clear c3
    have c4b0 := O3_ H
    replace H := O2_ H
    have c5b0 := O3_ H
    replace H := O2_ H
    replace H := OZ_ H
    obtain ⟨t102, A6, H⟩ := H
    by_cases c7 : t102 = true
    ·subst c7
     replace H := T_ H
     obtain rfl := OI_ H
     have p101 : 0 ≤ (x8_1 : Int) := D_
     have q101 : x8_1 < (l0.length : Int) := D_
     obtain ⟨ad101, e101, hx101_0⟩ := Kd.at_int HR0.out x8_1 p101 q101
     cases e101
     replace hx101_0 := (HB.out.cell (World.block_lt_of_cell? w _ hx101_0)).trans hx101_0
     replace p101 := eq_true p101
     replace q101 := eq_true q101
     go_wp2_with (first | (go_at_call 127; (with_reducible refine (z127.calls (rd l0 x8_1) true _ A6.out).mono ?_); rintro e w' ⟨rfl, ⟨nd, rfl⟩⟩))
     go_ret
     exact ⟨F_, B_ HB.out⟩
    replace c7 := Bool.eq_false_iff.mpr c7
    subst c7
    replace H := N_ H
    have H' := Zz.mk H
    clear H
    have p101 : 0 ≤ (x8_1 : Int) := D_
    have q101 : x8_1 < (l0.length : Int) := D_
    obtain ⟨ad101, e101, hx101_0⟩ := Kd.at_int HR0.out x8_1 p101 q101
    cases e101
    replace hx101_0 := (HB.out.cell (World.block_lt_of_cell? w _ hx101_0)).trans hx101_0
    replace p101 := eq_true p101
    replace q101 := eq_true q101
    go_wp2_with (first | (go_at_call 127; (with_reducible refine (z127.calls (rd l0 x8_1) false _ A6.out).mono ?_); rintro e w' ⟨rfl, ⟨nd, rfl⟩⟩))
    go_roundg k1
    case measure => exact Q1_ HK1
    case rel => exact ⟨(wrap64 (x8_1 + 1)), E_, H', ⟨Q1_ HK1⟩, ⟨B_ HB.out⟩⟩
   rw [if_neg c3] at H
   have c3b0 : decide (x8_1 < (l0.length : Int)) = false := decide_eq_false c3
   clear c3
   obtain rfl := OI_ H
   go_wp2
   go_ret
   exact ⟨F_, B_ HB.out⟩
def z225.f (k : Nat) (l0 : List Int)  : Option (Bool) := (z226.f k l0).bind fun t101 => (some (decide (t101 ≥ 0)))
theorem z225.calls (k : Nat) (A0 : Option Addr) (c0 : Nat) (l0 : List Int)  (r : Bool) (w : World) (hr0 : Kd.C (Kd.int .i64) w A0 l0.length l0) (hc0 : l0.length ≤ c0) (h : z225.f k l0 = some r) :
  Calls Try.prog 126 #[.slice A0 l0.length c0, .func (.func 127) #[] #[]] w fun e w' => e = .returned (.bool r) ∧ Below w.heap.size w w' := by
 have HR0 := Zz.mk hr0
 have HC0 := Zz.mk hc0
 clear hr0 hc0
 have HB := Zz.mk (Below.refl w.heap.size w)
 have H : ((z226.f k l0).bind fun t101 => (some (decide (t101 ≥ 0)))) = some r := h
 clear h
 replace H := OZ_ H
 obtain ⟨t101, A3, H⟩ := H
 obtain rfl := OI_ H
 go_enter Try.func126, Try.ntmps126
 go_wp2_with (first | ((with_reducible refine gC_ (f := 159) rfl ?_); refine GL_ (some 7) rfl rfl Try.func159 #[.slice A0 l0.length c0, .func (.func 127) #[] #[]] rfl (h := ?_); (with_reducible refine (z226.calls k _ _ l0  t101 _ ?side1 ?side2 A3.out).mono ?_); (case side1 => exact KC_ HR0.out); (case side2 => exact HC0.out); rintro e w4 ⟨rfl, hb⟩; refine ⟨_, rfl, ?_⟩; replace HB := Zz.mk (bT_ (B_ HB.out) hb); (try clear hb)))
 go_ret
 exact ⟨F_, B_ HB.out⟩
def z77.f (k : Nat) (l0 : List Int) : Option (Bool) := if (l0.length : Int) ≥ 1 then (if (l0.length : Int) ≤ 4 then ((z125.f k l0).bind fun t101 => (if t101 = true then ((z225.f k l0).bind fun t102 => (some (!t102))) else (some false))) else (some false)) else (some false)
theorem z77.calls (k : Nat) (A0 : Option Addr) (c0 : Nat) (l0 : List Int) (r : Bool) (w : World) (hr0 : Kd.C (Kd.int .i64) w A0 l0.length l0) (hc0 : l0.length ≤ c0) (h : z77.f k l0 = some r) :
  Calls Try.prog 77 #[.slice A0 l0.length c0] w fun e w' => e = .returned (.bool r) ∧ Below w.heap.size w w' := by
 have HR0 := Zz.mk hr0
 have HC0 := Zz.mk hc0
 clear hr0 hc0
 have HB := Zz.mk (Below.refl w.heap.size w)
 have H : (if (l0.length : Int) ≥ 1 then (if (l0.length : Int) ≤ 4 then ((z125.f k l0).bind fun t101 => (if t101 = true then ((z225.f k l0).bind fun t102 => (some (!t102))) else (some false))) else (some false)) else (some false)) = some r := h
 clear h
 by_cases c2 : (l0.length : Int) ≥ 1
 ·rw [if_pos c2] at H
  have c2b0 : decide (1 ≤ (l0.length : Int)) = true := decide_eq_true c2
  have c2b1 : decide (1 ≤ l0.length) = true := decide_eq_true (by omega)
  clear c2
  by_cases c3 : (l0.length : Int) ≤ 4
  ·rw [if_pos c3] at H
   have c3b0 : decide ((l0.length : Int) ≤ 4) = true := decide_eq_true c3
   have c3b1 : decide (l0.length ≤ 4) = true := decide_eq_true (by omega)
   clear c3
   replace H := OZ_ H
   obtain ⟨t101, A4, H⟩ := H
   by_cases c5 : t101 = true
   ·subst c5
    replace H := T_ H
    replace H := OZ_ H
    obtain ⟨t102, A6, H⟩ := H
    obtain rfl := OI_ H
    go_enter Try.func77, Try.ntmps77
    go_wp2_with (first | (go_at_call 125; (with_reducible refine (z125.calls k _ _ l0 true _ ?side1 ?side2 A4.out).mono ?_); (case side1 => exact KC_ HR0.out); (case side2 => exact HC0.out); rintro e w' ⟨rfl, ⟨nd, rfl⟩⟩) | (go_at_call 126; (with_reducible refine (z225.calls k _ _ l0  t102 _ ?side1 ?side2 A6.out).mono ?_); (case side1 => exact KC_ HR0.out); (case side2 => exact HC0.out); rintro e w7 ⟨rfl, hb⟩; replace HB := Zz.mk (bT_ (B_ HB.out) hb); (try clear hb)))
    go_ret
    exact ⟨F_, B_ HB.out⟩
   replace c5 := Bool.eq_false_iff.mpr c5
   subst c5
   replace H := N_ H
   obtain rfl := OI_ H
   go_enter Try.func77, Try.ntmps77
   go_wp2_with (first | (go_at_call 125; (with_reducible refine (z125.calls k _ _ l0 false _ ?side1 ?side2 A4.out).mono ?_); (case side1 => exact KC_ HR0.out); (case side2 => exact HC0.out); rintro e w' ⟨rfl, ⟨nd, rfl⟩⟩))
   go_ret
   exact ⟨F_, B_ HB.out⟩
  rw [if_neg c3] at H
  have c3b0 : decide ((l0.length : Int) ≤ 4) = false := decide_eq_false c3
  have c3b1 : decide (l0.length ≤ 4) = false := decide_eq_false (by omega)
  clear c3
  obtain rfl := OI_ H
  go_enter Try.func77, Try.ntmps77
  go_wp2
  go_ret
  exact ⟨F_, B_ HB.out⟩
 rw [if_neg c2] at H
 have c2b0 : decide (1 ≤ (l0.length : Int)) = false := decide_eq_false c2
 have c2b1 : decide (1 ≤ l0.length) = false := decide_eq_false (by omega)
 clear c2
 obtain rfl := OI_ H
 go_enter Try.func77, Try.ntmps77
 go_wp2
 go_ret
 exact ⟨F_, B_ HB.out⟩
def z111.f (k : Nat) (l0 : List Int) (l1_0 : List (List Int)) (a2_0 : Int) : Option (Bool) := if 0 ≤ a2_0 then (if a2_0 ≤ (l1_0.length : Int) then ((z84.f k (l1_0.take (a2_0 : Int).toNat) l0).bind fun t105 => (some (decide (t105 < 0)))) else (none)) else (none)
theorem z111.calls (k : Nat) (A0 : Option Addr) (c0 : Nat) (l0 : List Int) (gp1 : Nat) (A1_0 : Option Addr) (c1_0 : Nat) (l1_0 : List (List Int)) (gp2 : Nat) (a2_0 : Int) (r : Bool) (w : World) (hbp1 : w.heap[gp1]? = some (.cells #[.slice A1_0 l1_0.length c1_0] 29 (0, 0))) (hbp2 : w.heap[gp2]? = some (.cells #[.int .i64 a2_0] 3 (0, 0))) (hr0 : Kd.C (Kd.int .i64) w A0 l0.length l0) (hc0 : l0.length ≤ c0) (hr1_0 : Kd.C (Kd.slice 2 (Kd.int .i64)) w A1_0 l1_0.length l1_0) (hc1_0 : l1_0.length ≤ c1_0) (h : z111.f k l0 l1_0 a2_0 = some r) :
  Calls Try.prog 111 #[.slice A0 l0.length c0, .pointer (some ⟨gp1, 0, none⟩), .pointer (some ⟨gp2, 0, none⟩)] w fun e w' => e = .returned (.bool r) ∧ Below w.heap.size w w' := by
 have hu29 := Try.underlying29
 have HR0 := Zz.mk hr0
 have HC0 := Zz.mk hc0
 clear hr0 hc0
 have HR1_0 := Zz.mk hr1_0
 have HC1_0 := Zz.mk hc1_0
 clear hr1_0 hc1_0
 have BK51 := Zz.mk hbp1
 clear hbp1
 have BK52 := Zz.mk hbp2
 clear hbp2
 have HB := Zz.mk (Below.refl w.heap.size w)
 have H : (if 0 ≤ a2_0 then (if a2_0 ≤ (l1_0.length : Int) then ((z84.f k (l1_0.take (a2_0 : Int).toNat) l0).bind fun t105 => (some (decide (t105 < 0)))) else (none)) else (none)) = some r := h
 clear h
 have c4 := O1_ H
 replace H := O2_ H
 have c4b0 := eq_true c4
 have c4b1 : decide (0 ≤ a2_0) = true := decide_eq_true c4
 clear c4
 have c5 := O1_ H
 replace H := O2_ H
 have c5b0 := eq_true c5
 have c5b1 : decide (a2_0 ≤ (l1_0.length : Int)) = true := decide_eq_true c5
 clear c5
 obtain ⟨y101, hy101⟩ : ∃ y_ : List (List Int), y_ = (l1_0.take (a2_0 : Int).toNat) := ⟨_, rfl⟩
 replace H : ((z84.f k y101 l0).bind fun t105 => (some (decide (t105 < 0)))) = some r := Y_ hy101 H
 have Ny101 := Zz.mk hy101
 clear hy101
 replace H := OZ_ H
 obtain ⟨t105, A6, H⟩ := H
 obtain rfl := OI_ H
 obtain ⟨hcz7_0, hfz7_0⟩ := Z1f_ BK51.out
 obtain ⟨hcz8_0, hfz8_0⟩ := Z1f_ BK52.out
 have q9 : (a2_0 : Int) ≤ ((l1_0.length : Int) : Int) := D_
 obtain ⟨i09, hi09, _, hsz9, _⟩ := info_parts info26
 have hroom9 : l1_0.length ≤ c1_0 := HC1_0.out
 have hC9 : Kd.C (Kd.slice 2 (Kd.int .i64)) _ A1_0 l1_0.length l1_0 := HR1_0.out
 have hcut9 := cut_to (P := Try.prog) 22 26 .i64 Try.underlying22 hi09 A1_0 l1_0.length c1_0 a2_0 (D_) q9 hroom9
 have hr9 := Kd.C_take (m := (a2_0 : Int).toNat) hC9 (by omega)
 have hy9 : y101.length = (a2_0 : Int).toNat := (by rw [Ny101.out, List.length_take]; omega)
 rw [← Ny101.out] at hr9
 rw [← hy9] at hcut9
 have HR104 := Zz.mk hr9
 have HC104 := Zz.mk (show y101.length ≤ c1_0 from by omega)
 clear hr9 hC9 hroom9 hi09 hsz9
 have KY9 := Zz.mk hy9
 clear hy9
 replace q9 := eq_true q9
 go_enter Try.func111, Try.ntmps111
 go_wp2_with (first | ((with_reducible refine gC_ (f := 84) rfl ?_); refine GL_ (some 11) rfl rfl Try.func84 #[.agg #[.slice A1_0 y101.length c1_0], .slice A0 l0.length c0] rfl (h := ?_); (with_reducible refine (z84.calls k _ _ y101 _ _ l0 t105 _ ?side1 ?side2 ?side3 ?side4 A6.out).mono ?_); (case side1 => exact KC_ HR104.out); (case side2 => exact HC104.out); (case side3 => exact KC_ HR0.out); (case side4 => exact HC0.out); rintro e w10 ⟨rfl, hb⟩; refine ⟨_, rfl, ?_⟩; replace BK51 := Zz.mk (kb_ BK51.out hb); replace BK52 := Zz.mk (kb_ BK52.out hb); replace HB := Zz.mk (bT_ (B_ HB.out) hb); (try clear hb)))
 go_ret
 exact ⟨F_, B_ HB.out⟩
def z228.l0 : Nat → List (List Int) → Int → Int → List (List Int) → Int → Option (Int)
 | 0, _, _, _, _, _ => none
 | k + 1, x0, x7, x8, x69000, x70000 => if x8 < x7 then (if 0 ≤ x8 then (if x8 < (x0.length : Int) then ((z111.f k (rI_ x0 x8) x69000 x70000).bind fun t102 => (if t102 = true then (some x8) else (z228.l0 k x0 x7 (wrap64 (x8 + 1)) x69000 x70000))) else (none)) else (none)) else (some (-1))
def z228.f (k : Nat) (l0 : List (List Int)) (l1_0 : List (List Int)) (a1_1 : Int) : Option (Int) := z228.l0 k l0 (l0.length : Int) 0 l1_0 a1_1
theorem z228.calls (k : Nat) (A0 : Option Addr) (c0 : Nat) (l0 : List (List Int)) (gp1_0 : Nat) (gp1_1 : Nat) (A1_0 : Option Addr) (c1_0 : Nat) (l1_0 : List (List Int)) (a1_1 : Int) (r : Int) (w : World) (hbp1_0 : w.heap[gp1_0]? = some (.cells #[.slice A1_0 l1_0.length c1_0] 29 (0, 0))) (hbp1_1 : w.heap[gp1_1]? = some (.cells #[.int .i64 a1_1] 3 (0, 0))) (hr0 : Kd.C (Kd.slice 2 (Kd.int .i64)) w A0 l0.length l0) (hc0 : l0.length ≤ c0) (hr1_0 : Kd.C (Kd.slice 2 (Kd.int .i64)) w A1_0 l1_0.length l1_0) (hc1_0 : l1_0.length ≤ c1_0) (h : z228.f k l0 l1_0 a1_1 = some r) :
  Calls Try.prog 124 #[.slice A0 l0.length c0, .func (.func 111) #[] #[.pointer (some ⟨gp1_0, 0, none⟩), .pointer (some ⟨gp1_1, 0, none⟩)]] w fun e w' => e = .returned (.int .i64 r) ∧ Below w.heap.size w w' := by
 have HR0 := Zz.mk hr0
 have HC0 := Zz.mk hc0
 clear hr0 hc0
 have HR1_0 := Zz.mk hr1_0
 have HC1_0 := Zz.mk hc1_0
 clear hr1_0 hc1_0
 have BK68 := Zz.mk hbp1_0
 clear hbp1_0
 have BK69 := Zz.mk hbp1_1
 clear hbp1_1
 have HB := Zz.mk (Below.refl w.heap.size w)
 have H : (z228.l0 k l0 (l0.length : Int) 0 l1_0 a1_1) = some r := h
 clear h
 have H' := Zz.mk H
 clear H
 go_enter Try.func124, Try.ntmps124
 go_wp2
 go_loopg [8] k (fun kq v8 w' => ∃ (x8_1 : Int), v8 = .int .i64 x8_1 ∧ Zz (z228.l0 kq l0 (l0.length : Int) x8_1 l1_0 a1_1 = some r) ∧ Zz (kq ≤ k) ∧ Zz (w'.heap[gp1_0]? = some (.cells #[(.slice A1_0 l1_0.length c1_0)] 29 (0, 0))) ∧ Zz (w'.heap[gp1_1]? = some (.cells #[.int .i64 a1_1] 3 (0, 0))) ∧ Zz (Below w.heap.size w w'))
 case atStart => exact ⟨(0), E_, H', ⟨Nat.le_refl _⟩, ⟨KB_ BK68.out⟩, ⟨KB_ BK69.out⟩, ⟨B_ HB.out⟩⟩
 case round =>
  clear H'
  obtain ⟨x8_1, rfl, HA, HK1, BK68, BK69, HB⟩ := hrel
  cases gk with
  | zero => exact absurd HA.out (by simp [z228.l0])
  | succ k1 =>
   have H := HA.out
   clear HA
   simp only [z228.l0] at H
   by_cases c3 : x8_1 < (l0.length : Int)
   ·rw [if_pos c3] at H
    have c3b0 : decide (x8_1 < (l0.length : Int)) = true := decide_eq_true c3
    clear c3
    have c4b0 := O3_ H
    replace H := O2_ H
    have c5b0 := O3_ H
    replace H := O2_ H
    replace H := OZ_ H
    obtain ⟨t102, A6, H⟩ := H
    by_cases c7 : t102 = true
    ·subst c7
     replace H := T_ H
     obtain rfl := OI_ H
     have p101 : 0 ≤ (x8_1 : Int) := D_
     have q101 : x8_1 < (l0.length : Int) := D_
     obtain ⟨ad101, A101_0, c101_0, e101, hx101_0, hl101_0, hi101_0⟩ := at_ListInt HR0.out x8_1 p101 q101
     cases e101
     replace hx101_0 := (HB.out.cell (World.block_lt_of_cell? w _ hx101_0)).trans hx101_0
     have HR101_0 := Zz.mk hi101_0
     have HC101_0 := Zz.mk hl101_0
     clear hi101_0 hl101_0
     replace p101 := eq_true p101
     replace q101 := eq_true q101
     go_wp2_with (first | (go_at_call 111; (with_reducible refine (z111.calls k1 _ _ (rI_ l0 x8_1) gp1_0 A1_0 c1_0 l1_0 gp1_1 a1_1 true _ ?side1 ?side2 ?side3 ?side4 ?side5 ?side6 A6.out).mono ?_); (case side1 => refine BW_ ?_; exact BK68.out); (case side2 => refine BW_ ?_; exact BK69.out); (case side3 => exact KC_ (Kd.C_below HR101_0.out HB.out)); (case side4 => exact HC101_0.out); (case side5 => exact KC_ (Kd.C_below HR1_0.out HB.out)); (case side6 => exact HC1_0.out); rintro e w8 ⟨rfl, hb⟩; replace BK68 := Zz.mk (kb_ BK68.out hb); replace BK69 := Zz.mk (kb_ BK69.out hb); replace HB := Zz.mk (bT_ (B_ HB.out) hb); (try clear hb)))
     go_ret
     exact ⟨F_, B_ HB.out⟩
    replace c7 := Bool.eq_false_iff.mpr c7
    subst c7
    replace H := N_ H
    have H' := Zz.mk H
    clear H
    have p101 : 0 ≤ (x8_1 : Int) := D_
    have q101 : x8_1 < (l0.length : Int) := D_
    obtain ⟨ad101, A101_0, c101_0, e101, hx101_0, hl101_0, hi101_0⟩ := at_ListInt HR0.out x8_1 p101 q101
    cases e101
    replace hx101_0 := (HB.out.cell (World.block_lt_of_cell? w _ hx101_0)).trans hx101_0
    have HR101_0 := Zz.mk hi101_0
    have HC101_0 := Zz.mk hl101_0
    clear hi101_0 hl101_0
    replace p101 := eq_true p101
    replace q101 := eq_true q101
    go_wp2_with (first | (go_at_call 111; (with_reducible refine (z111.calls k1 _ _ (rI_ l0 x8_1) gp1_0 A1_0 c1_0 l1_0 gp1_1 a1_1 false _ ?side1 ?side2 ?side3 ?side4 ?side5 ?side6 A6.out).mono ?_); (case side1 => refine BW_ ?_; exact BK68.out); (case side2 => refine BW_ ?_; exact BK69.out); (case side3 => exact KC_ (Kd.C_below HR101_0.out HB.out)); (case side4 => exact HC101_0.out); (case side5 => exact KC_ (Kd.C_below HR1_0.out HB.out)); (case side6 => exact HC1_0.out); rintro e w9 ⟨rfl, hb⟩; replace BK68 := Zz.mk (kb_ BK68.out hb); replace BK69 := Zz.mk (kb_ BK69.out hb); replace HB := Zz.mk (bT_ (B_ HB.out) hb); (try clear hb)))
    go_roundg k1
    case measure => exact Q1_ HK1
    case rel => exact ⟨(wrap64 (x8_1 + 1)), E_, H', ⟨Q1_ HK1⟩, ⟨KB_ BK68.out⟩, ⟨KB_ BK69.out⟩, ⟨B_ HB.out⟩⟩
   rw [if_neg c3] at H
   have c3b0 : decide (x8_1 < (l0.length : Int)) = false := decide_eq_false c3
   clear c3
   obtain rfl := OI_ H
   go_wp2
   go_ret
   exact ⟨F_, B_ HB.out⟩
def z224.f (k : Nat) (l0 : List (List Int)) (l1_0 : List (List Int)) (a1_1 : Int) : Option (Bool) := (z228.f k l0 l1_0 a1_1).bind fun t101 => (some (decide (t101 ≥ 0)))
theorem z224.calls (k : Nat) (A0 : Option Addr) (c0 : Nat) (l0 : List (List Int)) (gp1_0 : Nat) (gp1_1 : Nat) (A1_0 : Option Addr) (c1_0 : Nat) (l1_0 : List (List Int)) (a1_1 : Int) (r : Bool) (w : World) (hbp1_0 : w.heap[gp1_0]? = some (.cells #[.slice A1_0 l1_0.length c1_0] 29 (0, 0))) (hbp1_1 : w.heap[gp1_1]? = some (.cells #[.int .i64 a1_1] 3 (0, 0))) (hr0 : Kd.C (Kd.slice 2 (Kd.int .i64)) w A0 l0.length l0) (hc0 : l0.length ≤ c0) (hr1_0 : Kd.C (Kd.slice 2 (Kd.int .i64)) w A1_0 l1_0.length l1_0) (hc1_0 : l1_0.length ≤ c1_0) (h : z224.f k l0 l1_0 a1_1 = some r) :
  Calls Try.prog 75 #[.slice A0 l0.length c0, .func (.func 111) #[] #[.pointer (some ⟨gp1_0, 0, none⟩), .pointer (some ⟨gp1_1, 0, none⟩)]] w fun e w' => e = .returned (.bool r) ∧ Below w.heap.size w w' := by
 have HR0 := Zz.mk hr0
 have HC0 := Zz.mk hc0
 clear hr0 hc0
 have HR1_0 := Zz.mk hr1_0
 have HC1_0 := Zz.mk hc1_0
 clear hr1_0 hc1_0
 have BK68 := Zz.mk hbp1_0
 clear hbp1_0
 have BK69 := Zz.mk hbp1_1
 clear hbp1_1
 have HB := Zz.mk (Below.refl w.heap.size w)
 have H : ((z228.f k l0 l1_0 a1_1).bind fun t101 => (some (decide (t101 ≥ 0)))) = some r := h
 clear h
 replace H := OZ_ H
 obtain ⟨t101, A3, H⟩ := H
 obtain rfl := OI_ H
 go_enter Try.func75, Try.ntmps75
 go_wp2_with (first | ((with_reducible refine gC_ (f := 124) rfl ?_); refine GL_ (some 7) rfl rfl Try.func124 #[.slice A0 l0.length c0, .func (.func 111) #[] #[.pointer (some ⟨gp1_0, 0, none⟩), .pointer (some ⟨gp1_1, 0, none⟩)]] rfl (h := ?_); (with_reducible refine (z228.calls k _ _ l0 gp1_0 gp1_1 A1_0 c1_0 l1_0 a1_1 t101 _ ?side1 ?side2 ?side3 ?side4 ?side5 ?side6 A3.out).mono ?_); (case side1 => refine BW_ ?_; exact BK68.out); (case side2 => refine BW_ ?_; exact BK69.out); (case side3 => exact KC_ HR0.out); (case side4 => exact HC0.out); (case side5 => exact KC_ HR1_0.out); (case side6 => exact HC1_0.out); rintro e w4 ⟨rfl, hb⟩; refine ⟨_, rfl, ?_⟩; replace BK68 := Zz.mk (kb_ BK68.out hb); replace BK69 := Zz.mk (kb_ BK69.out hb); replace HB := Zz.mk (bT_ (B_ HB.out) hb); (try clear hb)))
 go_ret
 exact ⟨F_, B_ HB.out⟩
def z19.l0 : Nat → List Int → List Int → Int → Option (Bool)
 | 0, _, _, _ => none
 | k + 1, x0, x1, x5 => if x5 < (x0.length : Int) then (if 0 ≤ x5 then (if x5 < (x1.length : Int) then (if (rd x0 x5) = (rd x1 x5) then (z19.l0 k x0 x1 (wrap64 (x5 + 1))) else (some false)) else (none)) else (none)) else (some true)
def z19.f (k : Nat) (l0 : List Int) (l1 : List Int) : Option (Bool) := if (l0.length : Int) = (l1.length : Int) then (z19.l0 k l0 l1 0) else (some false)
theorem z19.calls (k : Nat) (A0 : Option Addr) (c0 : Nat) (l0 : List Int) (A1 : Option Addr) (c1 : Nat) (l1 : List Int) (r : Bool) (w : World) (hr0 : Kd.C (Kd.int .i64) w A0 l0.length l0) (hc0 : l0.length ≤ c0) (hr1 : Kd.C (Kd.int .i64) w A1 l1.length l1) (hc1 : l1.length ≤ c1) (h : z19.f k l0 l1 = some r) :
  Calls Try.prog 19 #[.slice A0 l0.length c0, .slice A1 l1.length c1] w fun e w' => e = .returned (.bool r) ∧ Dz w w' := by
 have HR0 := Zz.mk hr0
 have HC0 := Zz.mk hc0
 clear hr0 hc0
 have HR1 := Zz.mk hr1
 have HC1 := Zz.mk hc1
 clear hr1 hc1
 have H : (if (l0.length : Int) = (l1.length : Int) then (z19.l0 k l0 l1 0) else (some false)) = some r := h
 clear h
 by_cases c3 : (l0.length : Int) = (l1.length : Int)
 ·rw [if_pos c3] at H
  have c3b0 : ((l0.length : Int) == (l1.length : Int)) = true := beq_iff_eq.mpr c3
  have c3b1 : ((l0.length : Int) != (l1.length : Int)) = false := bne_eq_false_iff_eq.mpr c3
  have c3b2 : (l0.length == l1.length) = true := by first | simpa using c3 | (simp at c3 ⊢; omega)
  clear c3
  have H' := Zz.mk H
  clear H
  go_enter Try.func19, Try.ntmps19
  go_wp2
  repeat (go_quiet (fail); try go_wp2)
  go_loopg [5] k (fun kq v5 w' => ∃ (x5_1 : Int), v5 = .int .i64 x5_1 ∧ Zz (z19.l0 kq l0 l1 x5_1 = some r) ∧ Zz (kq ≤ k) ∧ Dz w w')
  case atStart => exact ⟨(0), E_, H', ⟨Nat.le_refl _⟩, by repeat (first | exact Dz.refl _ | apply Dz.step)⟩
  case round =>
   clear H'
   (try clear c1);(try clear c3);(try clear c3b0);(try clear c3b1);(try clear c3b2)
   obtain ⟨x5_1, rfl, HA, HK1, ⟨m1, rfl⟩⟩ := hrel
   cases gk with
   | zero => exact absurd HA.out (by simp [z19.l0])
   | succ k1 =>
    have H := HA.out
    clear HA
    simp only [z19.l0] at H
    by_cases c4 : x5_1 < (l0.length : Int)
    ·rw [if_pos c4] at H
     have c4b0 : decide (x5_1 < (l0.length : Int)) = true := decide_eq_true c4
     clear c4
     have c5b0 := O3_ H
     replace H := O2_ H
     have c6b0 := O3_ H
     replace H := O2_ H
     by_cases c7 : (rd l0 x5_1) = (rd l1 x5_1)
     ·rw [if_pos c7] at H
      have c7b0 : ((rd l0 x5_1) == (rd l1 x5_1)) = true := beq_iff_eq.mpr c7
      have c7b1 : ((rd l0 x5_1) != (rd l1 x5_1)) = false := bne_eq_false_iff_eq.mpr c7
      clear c7
      have H' := Zz.mk H
      clear H
      have p101 : 0 ≤ (x5_1 : Int) := D_
      have q101 : x5_1 < (l0.length : Int) := D_
      obtain ⟨ad101, e101, hx101_0⟩ := Kd.at_int HR0.out x5_1 p101 q101
      cases e101
      replace p101 := eq_true p101
      replace q101 := eq_true q101
      have p102 : 0 ≤ (x5_1 : Int) := D_
      have q102 : x5_1 < (l1.length : Int) := D_
      obtain ⟨ad102, e102, hx102_0⟩ := Kd.at_int HR1.out x5_1 p102 q102
      cases e102
      replace p102 := eq_true p102
      replace q102 := eq_true q102
      go_wp2
      repeat (go_quiet (fail); try go_wp2)
      go_roundg k1
      case measure => exact Q1_ HK1
      case rel => exact ⟨(wrap64 (x5_1 + 1)), E_, H', ⟨Q1_ HK1⟩, by repeat (first | exact Dz.refl _ | apply Dz.step)⟩
     rw [if_neg c7] at H
     have c7b0 : ((rd l0 x5_1) == (rd l1 x5_1)) = false := beq_eq_false_iff_ne.mpr c7
     have c7b1 : ((rd l0 x5_1) != (rd l1 x5_1)) = true := bne_iff_ne.mpr c7
     obtain rfl := OI_ H
     have p101 : 0 ≤ (x5_1 : Int) := D_
     have q101 : x5_1 < (l0.length : Int) := D_
     obtain ⟨ad101, e101, hx101_0⟩ := Kd.at_int HR0.out x5_1 p101 q101
     cases e101
     replace p101 := eq_true p101
     replace q101 := eq_true q101
     have p102 : 0 ≤ (x5_1 : Int) := D_
     have q102 : x5_1 < (l1.length : Int) := D_
     obtain ⟨ad102, e102, hx102_0⟩ := Kd.at_int HR1.out x5_1 p102 q102
     cases e102
     replace p102 := eq_true p102
     replace q102 := eq_true q102
     go_wp2
     repeat (go_quiet (fail); try go_wp2)
     go_ret
     exact eD_
    rw [if_neg c4] at H
    have c4b0 : decide (x5_1 < (l0.length : Int)) = false := decide_eq_false c4
    clear c4
    obtain rfl := OI_ H
    go_wp2
    repeat (go_quiet (fail); try go_wp2)
    go_ret
    exact eD_
 rw [if_neg c3] at H
 have c3b0 : ((l0.length : Int) == (l1.length : Int)) = false := beq_eq_false_iff_ne.mpr c3
 have c3b1 : ((l0.length : Int) != (l1.length : Int)) = true := bne_iff_ne.mpr c3
 have c3b2 : (l0.length == l1.length) = false := by first | simpa using c3 | (simp at c3 ⊢; omega)
 obtain rfl := OI_ H
 go_enter Try.func19, Try.ntmps19
 go_wp2
 repeat (go_quiet (fail); try go_wp2)
 go_ret
 exact eD_
def z33.l0 : Nat → List (List Int) → List (List Int) → Int → Option (Bool)
 | 0, _, _, _ => none
 | k + 1, x0, x1, x5 => if x5 < (x0.length : Int) then (if 0 ≤ x5 then (if x5 < (x1.length : Int) then ((z19.f k (rI_ x0 x5) (rI_ x1 x5)).bind fun t103 => (if t103 = true then (z33.l0 k x0 x1 (wrap64 (x5 + 1))) else (some false))) else (none)) else (none)) else (some true)
def z33.f (k : Nat) (l0 : List (List Int)) (l1 : List (List Int)) : Option (Bool) := if (l0.length : Int) = (l1.length : Int) then (z33.l0 k l0 l1 0) else (some false)
theorem z33.calls (k : Nat) (A0 : Option Addr) (c0 : Nat) (l0 : List (List Int)) (A1 : Option Addr) (c1 : Nat) (l1 : List (List Int)) (r : Bool) (w : World) (hr0 : Kd.C (Kd.slice 2 (Kd.int .i64)) w A0 l0.length l0) (hc0 : l0.length ≤ c0) (hr1 : Kd.C (Kd.slice 2 (Kd.int .i64)) w A1 l1.length l1) (hc1 : l1.length ≤ c1) (h : z33.f k l0 l1 = some r) :
  Calls Try.prog 33 #[.slice A0 l0.length c0, .slice A1 l1.length c1] w fun e w' => e = .returned (.bool r) ∧ Dz w w' := by
 have HR0 := Zz.mk hr0
 have HC0 := Zz.mk hc0
 clear hr0 hc0
 have HR1 := Zz.mk hr1
 have HC1 := Zz.mk hc1
 clear hr1 hc1
 have H : (if (l0.length : Int) = (l1.length : Int) then (z33.l0 k l0 l1 0) else (some false)) = some r := h
 clear h
 by_cases c3 : (l0.length : Int) = (l1.length : Int)
 ·rw [if_pos c3] at H
  have c3b0 : ((l0.length : Int) == (l1.length : Int)) = true := beq_iff_eq.mpr c3
  have c3b1 : ((l0.length : Int) != (l1.length : Int)) = false := bne_eq_false_iff_eq.mpr c3
  have c3b2 : (l0.length == l1.length) = true := by first | simpa using c3 | (simp at c3 ⊢; omega)
  clear c3
  have H' := Zz.mk H
  clear H
  go_enter Try.func33, Try.ntmps33
  go_wp2
  repeat (go_quiet (fail); try go_wp2)
  go_loopg [5] k (fun kq v5 w' => ∃ (x5_1 : Int), v5 = .int .i64 x5_1 ∧ Zz (z33.l0 kq l0 l1 x5_1 = some r) ∧ Zz (kq ≤ k) ∧ Dz w w')
  case atStart => exact ⟨(0), E_, H', ⟨Nat.le_refl _⟩, by repeat (first | exact Dz.refl _ | apply Dz.step)⟩
  case round =>
   clear H'
   (try clear c1);(try clear c3);(try clear c3b0);(try clear c3b1);(try clear c3b2)
   obtain ⟨x5_1, rfl, HA, HK1, ⟨m1, rfl⟩⟩ := hrel
   cases gk with
   | zero => exact absurd HA.out (by simp [z33.l0])
   | succ k1 =>
    have H := HA.out
    clear HA
    simp only [z33.l0] at H
    by_cases c4 : x5_1 < (l0.length : Int)
    ·rw [if_pos c4] at H
     have c4b0 : decide (x5_1 < (l0.length : Int)) = true := decide_eq_true c4
     clear c4
     have c5b0 := O3_ H
     replace H := O2_ H
     have c6b0 := O3_ H
     replace H := O2_ H
     replace H := OZ_ H
     obtain ⟨t103, A7, H⟩ := H
     by_cases c8 : t103 = true
     ·subst c8
      replace H := T_ H
      have H' := Zz.mk H
      clear H
      have p101 : 0 ≤ (x5_1 : Int) := D_
      have q101 : x5_1 < (l0.length : Int) := D_
      obtain ⟨ad101, A101_0, c101_0, e101, hx101_0, hl101_0, hi101_0⟩ := at_ListInt HR0.out x5_1 p101 q101
      cases e101
      have HR101_0 := Zz.mk hi101_0
      have HC101_0 := Zz.mk hl101_0
      clear hi101_0 hl101_0
      replace p101 := eq_true p101
      replace q101 := eq_true q101
      have p102 : 0 ≤ (x5_1 : Int) := D_
      have q102 : x5_1 < (l1.length : Int) := D_
      obtain ⟨ad102, A102_0, c102_0, e102, hx102_0, hl102_0, hi102_0⟩ := at_ListInt HR1.out x5_1 p102 q102
      cases e102
      have HR102_0 := Zz.mk hi102_0
      have HC102_0 := Zz.mk hl102_0
      clear hi102_0 hl102_0
      replace p102 := eq_true p102
      replace q102 := eq_true q102
      go_wp2_with (first | (go_at_call 19; (with_reducible refine (z19.calls k1 _ _ (rI_ l0 x5_1) _ _ (rI_ l1 x5_1) true _ ?side1 ?side2 ?side3 ?side4 A7.out).mono ?_); (case side1 => exact KC_ HR101_0.out); (case side2 => exact HC101_0.out); (case side3 => exact KC_ HR102_0.out); (case side4 => exact HC102_0.out); rintro e w' ⟨rfl, ⟨nd, rfl⟩⟩; (try first | exact ⟨rfl, _, World.drewN_drewN _ _ _⟩ | exact ⟨rfl, _, Eq.trans (World.drewN_drewN _ _ _) (congrArg (World.drewN _) (Nat.add_assoc _ _ _))⟩)))
      repeat (go_quiet (first | (go_at_call 19; (with_reducible refine (z19.calls k1 _ _ (rI_ l0 x5_1) _ _ (rI_ l1 x5_1) true _ ?side1 ?side2 ?side3 ?side4 A7.out).mono ?_); (case side1 => exact KC_ HR101_0.out); (case side2 => exact HC101_0.out); (case side3 => exact KC_ HR102_0.out); (case side4 => exact HC102_0.out); rintro e w' ⟨rfl, ⟨nd, rfl⟩⟩; (try first | exact ⟨rfl, _, World.drewN_drewN _ _ _⟩ | exact ⟨rfl, _, Eq.trans (World.drewN_drewN _ _ _) (congrArg (World.drewN _) (Nat.add_assoc _ _ _))⟩))); try go_wp2_with (first | (go_at_call 19; (with_reducible refine (z19.calls k1 _ _ (rI_ l0 x5_1) _ _ (rI_ l1 x5_1) true _ ?side1 ?side2 ?side3 ?side4 A7.out).mono ?_); (case side1 => exact KC_ HR101_0.out); (case side2 => exact HC101_0.out); (case side3 => exact KC_ HR102_0.out); (case side4 => exact HC102_0.out); rintro e w' ⟨rfl, ⟨nd, rfl⟩⟩; (try first | exact ⟨rfl, _, World.drewN_drewN _ _ _⟩ | exact ⟨rfl, _, Eq.trans (World.drewN_drewN _ _ _) (congrArg (World.drewN _) (Nat.add_assoc _ _ _))⟩))))
      go_roundg k1
      case measure => exact Q1_ HK1
      case rel => exact ⟨(wrap64 (x5_1 + 1)), E_, H', ⟨Q1_ HK1⟩, by repeat (first | exact Dz.refl _ | apply Dz.step)⟩
     replace c8 := Bool.eq_false_iff.mpr c8
     subst c8
     replace H := N_ H
     obtain rfl := OI_ H
     have p101 : 0 ≤ (x5_1 : Int) := D_
     have q101 : x5_1 < (l0.length : Int) := D_
     obtain ⟨ad101, A101_0, c101_0, e101, hx101_0, hl101_0, hi101_0⟩ := at_ListInt HR0.out x5_1 p101 q101
     cases e101
     have HR101_0 := Zz.mk hi101_0
     have HC101_0 := Zz.mk hl101_0
     clear hi101_0 hl101_0
     replace p101 := eq_true p101
     replace q101 := eq_true q101
     have p102 : 0 ≤ (x5_1 : Int) := D_
     have q102 : x5_1 < (l1.length : Int) := D_
     obtain ⟨ad102, A102_0, c102_0, e102, hx102_0, hl102_0, hi102_0⟩ := at_ListInt HR1.out x5_1 p102 q102
     cases e102
     have HR102_0 := Zz.mk hi102_0
     have HC102_0 := Zz.mk hl102_0
     clear hi102_0 hl102_0
     replace p102 := eq_true p102
     replace q102 := eq_true q102
     go_wp2_with (first | (go_at_call 19; (with_reducible refine (z19.calls k1 _ _ (rI_ l0 x5_1) _ _ (rI_ l1 x5_1) false _ ?side1 ?side2 ?side3 ?side4 A7.out).mono ?_); (case side1 => exact KC_ HR101_0.out); (case side2 => exact HC101_0.out); (case side3 => exact KC_ HR102_0.out); (case side4 => exact HC102_0.out); rintro e w' ⟨rfl, ⟨nd, rfl⟩⟩; (try first | exact ⟨rfl, _, World.drewN_drewN _ _ _⟩ | exact ⟨rfl, _, Eq.trans (World.drewN_drewN _ _ _) (congrArg (World.drewN _) (Nat.add_assoc _ _ _))⟩)))
     repeat (go_quiet (first | (go_at_call 19; (with_reducible refine (z19.calls k1 _ _ (rI_ l0 x5_1) _ _ (rI_ l1 x5_1) false _ ?side1 ?side2 ?side3 ?side4 A7.out).mono ?_); (case side1 => exact KC_ HR101_0.out); (case side2 => exact HC101_0.out); (case side3 => exact KC_ HR102_0.out); (case side4 => exact HC102_0.out); rintro e w' ⟨rfl, ⟨nd, rfl⟩⟩; (try first | exact ⟨rfl, _, World.drewN_drewN _ _ _⟩ | exact ⟨rfl, _, Eq.trans (World.drewN_drewN _ _ _) (congrArg (World.drewN _) (Nat.add_assoc _ _ _))⟩))); try go_wp2_with (first | (go_at_call 19; (with_reducible refine (z19.calls k1 _ _ (rI_ l0 x5_1) _ _ (rI_ l1 x5_1) false _ ?side1 ?side2 ?side3 ?side4 A7.out).mono ?_); (case side1 => exact KC_ HR101_0.out); (case side2 => exact HC101_0.out); (case side3 => exact KC_ HR102_0.out); (case side4 => exact HC102_0.out); rintro e w' ⟨rfl, ⟨nd, rfl⟩⟩; (try first | exact ⟨rfl, _, World.drewN_drewN _ _ _⟩ | exact ⟨rfl, _, Eq.trans (World.drewN_drewN _ _ _) (congrArg (World.drewN _) (Nat.add_assoc _ _ _))⟩))))
     go_ret
     exact eD_
    rw [if_neg c4] at H
    have c4b0 : decide (x5_1 < (l0.length : Int)) = false := decide_eq_false c4
    clear c4
    obtain rfl := OI_ H
    go_wp2
    repeat (go_quiet (fail); try go_wp2)
    go_ret
    exact eD_
 rw [if_neg c3] at H
 have c3b0 : ((l0.length : Int) == (l1.length : Int)) = false := beq_eq_false_iff_ne.mpr c3
 have c3b1 : ((l0.length : Int) != (l1.length : Int)) = true := bne_iff_ne.mpr c3
 have c3b2 : (l0.length == l1.length) = false := by first | simpa using c3 | (simp at c3 ⊢; omega)
 obtain rfl := OI_ H
 go_enter Try.func33, Try.ntmps33
 go_wp2
 repeat (go_quiet (fail); try go_wp2)
 go_ret
 exact eD_
def z20.f (k : Nat) (l0_0 : List (List Int)) (l1_0 : List (List Int)) : Option (Bool) := (z33.f k l0_0 l1_0).bind fun t103 => (if t103 = true then (some true) else (some false))
theorem z20.calls (k : Nat) (A0_0 : Option Addr) (c0_0 : Nat) (l0_0 : List (List Int)) (A1_0 : Option Addr) (c1_0 : Nat) (l1_0 : List (List Int)) (r : Bool) (w : World) (hr0_0 : Kd.C (Kd.slice 2 (Kd.int .i64)) w A0_0 l0_0.length l0_0) (hc0_0 : l0_0.length ≤ c0_0) (hr1_0 : Kd.C (Kd.slice 2 (Kd.int .i64)) w A1_0 l1_0.length l1_0) (hc1_0 : l1_0.length ≤ c1_0) (h : z20.f k l0_0 l1_0 = some r) :
  Calls Try.prog 20 #[.agg #[.slice A0_0 l0_0.length c0_0], .agg #[.slice A1_0 l1_0.length c1_0]] w fun e w' => e = .returned (.bool r) ∧ Below w.heap.size w w' := by
 have hu29 := Try.underlying29
 have HR0_0 := Zz.mk hr0_0
 have HC0_0 := Zz.mk hc0_0
 clear hr0_0 hc0_0
 have HR1_0 := Zz.mk hr1_0
 have HC1_0 := Zz.mk hc1_0
 clear hr1_0 hc1_0
 have HB := Zz.mk (Below.refl w.heap.size w)
 have H : ((z33.f k l0_0 l1_0).bind fun t103 => (if t103 = true then (some true) else (some false))) = some r := h
 clear h
 replace H := OZ_ H
 obtain ⟨t103, A3, H⟩ := H
 by_cases c4 : t103 = true
 ·subst c4
  replace H := T_ H
  obtain rfl := OI_ H
  go_enter Try.func20, Try.ntmps20
  go_wp2_with (first | ((with_reducible refine gate_dst (N := 2) rfl ?_); refine bx_ 2 #[.slice A0_0 l0_0.length c0_0] 29 ?_; intro gb101 hg w5 hbox hb; have BK101 := Zz.mk (hbox); have GW101 := Zz.mk ((gw_ hg (B_ HB.out))); have GE101 := GW101; replace HB := Zz.mk (bT_ (B_ HB.out) hb); clear hb hbox hg) | ((with_reducible refine gate_dst (N := 3) rfl ?_); refine bx_ 3 #[.slice A1_0 l1_0.length c1_0] 29 ?_; intro gb102 hg w6 hbox hb; have BK102 := Zz.mk (hbox); have GW102 := Zz.mk ((gw_ hg (B1_ HB.out GE101.out))); have GE102 := GW102; have NB101_102 := Zz.mk ((nb_ BK101.out hg)); have NB102_101 := Zz.mk NB101_102.out.symm; replace BK101 := Zz.mk (kb_ BK101.out hb); replace HB := Zz.mk (bT_ (B1_ HB.out GE101.out) hb); clear hb hbox hg; have hnb7 := NB101_102.out; have hnc7 := NB102_101.out; obtain ⟨hcz8_0, hfz8_0⟩ := Z1f_ BK101.out; obtain ⟨hcz9_0, hfz9_0⟩ := Z1f_ BK102.out) | ((with_reducible refine gC_ (f := 33) rfl ?_); refine GL_ (some 9) rfl rfl Try.func33 #[.slice A0_0 l0_0.length c0_0, .slice A1_0 l1_0.length c1_0] rfl (h := ?_); (with_reducible refine (z33.calls k _ _ l0_0 _ _ l1_0 true _ ?side1 ?side2 ?side3 ?side4 A3.out).mono ?_); (case side1 => exact KC_ (Kd.C_below HR0_0.out HB.out)); (case side2 => exact HC0_0.out); (case side3 => exact KC_ (Kd.C_below HR1_0.out HB.out)); (case side4 => exact HC1_0.out); rintro e w' ⟨rfl, ⟨nd, rfl⟩⟩; refine ⟨_, rfl, ?_⟩))
  go_ret
  exact ⟨F_, B2_ HB.out GE101.out GE102.out⟩
 replace c4 := Bool.eq_false_iff.mpr c4
 subst c4
 replace H := N_ H
 obtain rfl := OI_ H
 go_enter Try.func20, Try.ntmps20
 go_wp2_with (first | ((with_reducible refine gate_dst (N := 2) rfl ?_); refine bx_ 2 #[.slice A0_0 l0_0.length c0_0] 29 ?_; intro gb101 hg w10 hbox hb; have BK101 := Zz.mk (hbox); have GW101 := Zz.mk ((gw_ hg (B_ HB.out))); have GE101 := GW101; replace HB := Zz.mk (bT_ (B_ HB.out) hb); clear hb hbox hg) | ((with_reducible refine gate_dst (N := 3) rfl ?_); refine bx_ 3 #[.slice A1_0 l1_0.length c1_0] 29 ?_; intro gb102 hg w11 hbox hb; have BK102 := Zz.mk (hbox); have GW102 := Zz.mk ((gw_ hg (B1_ HB.out GE101.out))); have GE102 := GW102; have NB101_102 := Zz.mk ((nb_ BK101.out hg)); have NB102_101 := Zz.mk NB101_102.out.symm; replace BK101 := Zz.mk (kb_ BK101.out hb); replace HB := Zz.mk (bT_ (B1_ HB.out GE101.out) hb); clear hb hbox hg; have hnb12 := NB101_102.out; have hnc12 := NB102_101.out; obtain ⟨hcz13_0, hfz13_0⟩ := Z1f_ BK101.out; obtain ⟨hcz14_0, hfz14_0⟩ := Z1f_ BK102.out) | ((with_reducible refine gC_ (f := 33) rfl ?_); refine GL_ (some 9) rfl rfl Try.func33 #[.slice A0_0 l0_0.length c0_0, .slice A1_0 l1_0.length c1_0] rfl (h := ?_); (with_reducible refine (z33.calls k _ _ l0_0 _ _ l1_0 false _ ?side1 ?side2 ?side3 ?side4 A3.out).mono ?_); (case side1 => exact KC_ (Kd.C_below HR0_0.out HB.out)); (case side2 => exact HC0_0.out); (case side3 => exact KC_ (Kd.C_below HR1_0.out HB.out)); (case side4 => exact HC1_0.out); rintro e w' ⟨rfl, ⟨nd, rfl⟩⟩; refine ⟨_, rfl, ?_⟩))
 go_ret
 exact ⟨F_, B2_ HB.out GE101.out GE102.out⟩
def z72.f (l0 : List Int) (a1 : Int) : Option (Int) := if (wrap64 (a1 - (l0.length : Int))) < 0 then (some (-1)) else (some (wrap64 (a1 - (l0.length : Int))))
theorem z72.calls (A0 : Option Addr) (c0 : Nat) (l0 : List Int) (a1 : Int) (r : Int) (w : World) (hr0 : Kd.C (Kd.int .i64) w A0 l0.length l0) (hc0 : l0.length ≤ c0) (h : z72.f l0 a1 = some r) :
  Calls Try.prog 72 #[.slice A0 l0.length c0, .int .i64 a1] w fun e w' => e = .returned (.int .i64 r) ∧ Dz w w' := by
 have HR0 := Zz.mk hr0
 have HC0 := Zz.mk hc0
 clear hr0 hc0
 have H : (if (wrap64 (a1 - (l0.length : Int))) < 0 then (some (-1)) else (some (wrap64 (a1 - (l0.length : Int))))) = some r := h
 clear h
 by_cases c3 : (wrap64 (a1 - (l0.length : Int))) < 0
 ·rw [if_pos c3] at H
  have c3b0 : decide ((wrap64 (a1 - (l0.length : Int))) < 0) = true := decide_eq_true c3
  clear c3
  obtain rfl := OI_ H
  go_enter Try.func72, Try.ntmps72
  go_wp2
  go_ret
  exact eD_
 rw [if_neg c3] at H
 have c3b0 : decide ((wrap64 (a1 - (l0.length : Int))) < 0) = false := decide_eq_false c3
 clear c3
 obtain rfl := OI_ H
 go_enter Try.func72, Try.ntmps72
 go_wp2
 go_ret
 exact eD_
def z29.l0 : Nat → List (List Int) → Int → Int → Option (Int)
 | 0, _, _, _ => none
 | k + 1, x0, x1, x5 => if x5 < (x0.length : Int) then (if 0 ≤ x5 then ((z72.f (rI_ x0 x5) x1).bind fun t102 => (if t102 < 0 then (some (-1)) else (z29.l0 k x0 t102 (wrap64 (x5 + 1))))) else (none)) else (some x1)
def z29.f (k : Nat) (l0 : List (List Int)) (a1 : Int) : Option (Int) := if (wrap64 (a1 - (l0.length : Int))) < 0 then (some (-1)) else (z29.l0 k l0 (wrap64 (a1 - (l0.length : Int))) 0)
theorem z29.calls (k : Nat) (A0 : Option Addr) (c0 : Nat) (l0 : List (List Int)) (a1 : Int) (r : Int) (w : World) (hr0 : Kd.C (Kd.slice 2 (Kd.int .i64)) w A0 l0.length l0) (hc0 : l0.length ≤ c0) (h : z29.f k l0 a1 = some r) :
  Calls Try.prog 29 #[.slice A0 l0.length c0, .int .i64 a1] w fun e w' => e = .returned (.int .i64 r) ∧ Dz w w' := by
 have HR0 := Zz.mk hr0
 have HC0 := Zz.mk hc0
 clear hr0 hc0
 have H : (if (wrap64 (a1 - (l0.length : Int))) < 0 then (some (-1)) else (z29.l0 k l0 (wrap64 (a1 - (l0.length : Int))) 0)) = some r := h
 clear h
 by_cases c3 : (wrap64 (a1 - (l0.length : Int))) < 0
 ·rw [if_pos c3] at H
  have c3b0 : decide ((wrap64 (a1 - (l0.length : Int))) < 0) = true := decide_eq_true c3
  clear c3
  obtain rfl := OI_ H
  go_enter Try.func29, Try.ntmps29
  go_wp2
  go_ret
  exact eD_
 rw [if_neg c3] at H
 have c3b0 : decide ((wrap64 (a1 - (l0.length : Int))) < 0) = false := decide_eq_false c3
 clear c3
 have H' := Zz.mk H
 clear H
 go_enter Try.func29, Try.ntmps29
 go_wp2
 go_loopg [1, 5] k (fun kq v1 v5 w' => ∃ (x1_1 : Int) (x5_1 : Int), v1 = .int .i64 x1_1 ∧ v5 = .int .i64 x5_1 ∧ Zz (z29.l0 kq l0 x1_1 x5_1 = some r) ∧ Zz (kq ≤ k) ∧ Dz w w')
 case atStart => exact ⟨(wrap64 (a1 - (l0.length : Int))), (0), E_, E_, H', ⟨Nat.le_refl _⟩, by repeat (first | exact Dz.refl _ | apply Dz.step)⟩
 case round =>
  clear H'
  (try clear c3);(try clear c3b0)
  obtain ⟨x1_1, x5_1, rfl, rfl, HA, HK1, ⟨m1, rfl⟩⟩ := hrel
  cases gk with
  | zero => exact absurd HA.out (by simp [z29.l0])
  | succ k1 =>
   have H := HA.out
   clear HA
   simp only [z29.l0] at H
   by_cases c4 : x5_1 < (l0.length : Int)
   ·rw [if_pos c4] at H
    have c4b0 : decide (x5_1 < (l0.length : Int)) = true := decide_eq_true c4
    clear c4
    have c5b0 := O3_ H
    replace H := O2_ H
    replace H := OZ_ H
    obtain ⟨t102, A6, H⟩ := H
    by_cases c7 : t102 < 0
    ·rw [if_pos c7] at H
     have c7b0 : decide (t102 < 0) = true := decide_eq_true c7
     clear c7
     obtain rfl := OI_ H
     have p101 : 0 ≤ (x5_1 : Int) := D_
     have q101 : x5_1 < (l0.length : Int) := D_
     obtain ⟨ad101, A101_0, c101_0, e101, hx101_0, hl101_0, hi101_0⟩ := at_ListInt HR0.out x5_1 p101 q101
     cases e101
     have HR101_0 := Zz.mk hi101_0
     have HC101_0 := Zz.mk hl101_0
     clear hi101_0 hl101_0
     replace p101 := eq_true p101
     replace q101 := eq_true q101
     go_wp2_with (first | ((with_reducible refine gC_ (f := 72) rfl ?_); refine GL_ (some 23) rfl rfl Try.func72 #[.slice A101_0 (rI_ l0 x5_1).length c101_0, .int .i64 x1_1] rfl (h := ?_); (with_reducible refine (z72.calls _ _ (rI_ l0 x5_1) x1_1 t102 _ ?side1 ?side2 A6.out).mono ?_); (case side1 => exact KC_ HR101_0.out); (case side2 => exact HC101_0.out); rintro e w' ⟨rfl, ⟨nd, rfl⟩⟩; refine ⟨_, rfl, ?_⟩))
     go_ret
     exact eD_
    rw [if_neg c7] at H
    have c7b0 : decide (t102 < 0) = false := decide_eq_false c7
    clear c7
    have H' := Zz.mk H
    clear H
    have p101 : 0 ≤ (x5_1 : Int) := D_
    have q101 : x5_1 < (l0.length : Int) := D_
    obtain ⟨ad101, A101_0, c101_0, e101, hx101_0, hl101_0, hi101_0⟩ := at_ListInt HR0.out x5_1 p101 q101
    cases e101
    have HR101_0 := Zz.mk hi101_0
    have HC101_0 := Zz.mk hl101_0
    clear hi101_0 hl101_0
    replace p101 := eq_true p101
    replace q101 := eq_true q101
    go_wp2_with (first | ((with_reducible refine gC_ (f := 72) rfl ?_); refine GL_ (some 23) rfl rfl Try.func72 #[.slice A101_0 (rI_ l0 x5_1).length c101_0, .int .i64 x1_1] rfl (h := ?_); (with_reducible refine (z72.calls _ _ (rI_ l0 x5_1) x1_1 t102 _ ?side1 ?side2 A6.out).mono ?_); (case side1 => exact KC_ HR101_0.out); (case side2 => exact HC101_0.out); rintro e w' ⟨rfl, ⟨nd, rfl⟩⟩; refine ⟨_, rfl, ?_⟩))
    go_roundg k1
    case measure => exact Q1_ HK1
    case rel => exact ⟨(t102), (wrap64 (x5_1 + 1)), E_, E_, H', ⟨Q1_ HK1⟩, by repeat (first | exact Dz.refl _ | apply Dz.step)⟩
   rw [if_neg c4] at H
   have c4b0 : decide (x5_1 < (l0.length : Int)) = false := decide_eq_false c4
   clear c4
   obtain rfl := OI_ H
   go_wp2
   go_ret
   exact eD_
def z38.l0 : Nat → List Int → List Int → Int → Option (List Int)
 | 0, _, _, _ => none
 | k + 1, x0, x3, x4 => if x4 < (x0.length : Int) then (if 0 ≤ x4 then (if x4 < (x3.length : Int) then (z38.l0 k x0 (x3.set (x4 : Int).toNat (rd x0 x4)) (wrap64 (x4 + 1))) else (none)) else (none)) else (some x3)
def z38.f (k : Nat) (l0 : List Int) : Option (List Int) := if 0 ≤ (l0.length : Int) then (if ((l0.length : Int) : Int).toNat ≤ 35184372088832 then (z38.l0 k l0 (List.replicate ((l0.length : Int) : Int).toNat 0) 0) else (none)) else (none)
theorem z38.calls (k : Nat) (A0 : Option Addr) (c0 : Nat) (l0 : List Int) (r : List Int) (w : World) (hr0 : Kd.C (Kd.int .i64) w A0 l0.length l0) (hc0 : l0.length ≤ c0) (h : z38.f k l0 = some r) :
  Calls Try.prog 38 #[.slice A0 l0.length c0] w fun e w' => ∃ v0_ : Value, e = .returned (v0_) ∧ Kd.R (Kd.int .i64) 2 w' w.heap.size (fun _ => True) v0_ r ∧ Below w.heap.size w w' := by
 have HR0 := Zz.mk hr0
 have HC0 := Zz.mk hc0
 clear hr0 hc0
 have HB := Zz.mk (Below.refl w.heap.size w)
 have H : (if 0 ≤ (l0.length : Int) then (if ((l0.length : Int) : Int).toNat ≤ 35184372088832 then (z38.l0 k l0 (List.replicate ((l0.length : Int) : Int).toNat 0) 0) else (none)) else (none)) = some r := h
 clear h
 have c2 := O1_ H
 replace H := O2_ H
 have c2b0 := eq_true c2
 have c2b1 : decide (0 ≤ (l0.length : Int)) = true := decide_eq_true c2
 clear c2
 have c3 := O1_ H
 replace H := O2_ H
 have c3b0 := eq_true c3
 have c3b1 : decide (((l0.length : Int) : Int).toNat ≤ 35184372088832) = true := decide_eq_true c3
 clear c3
 obtain ⟨y101, hy101⟩ : ∃ y_ : List Int, y_ = (List.replicate ((l0.length : Int) : Int).toNat 0) := ⟨_, rfl⟩
 replace H : (z38.l0 k l0 y101 0) = some r := Y_ hy101 H
 have Ny101 := Zz.mk hy101
 clear hy101
 have H' := Zz.mk H
 clear H
 go_enter Try.func38, Try.ntmps38
 go_wp2_with (first | ((with_reducible refine gate_dst (N := 7) rfl ?_); refine Kd.R_make (Kd.int .i64) _ 2 rfl (N := 7) rfl 26 _ _ rfl (l0.length : Int) rfl rfl Try.underlying26 (.int .i64 0) 8 info2 rfl (by decide) (by omega) 0 (ok := fun _ => True) (okp := fun _ => True) rfl (fun _ hk => hk) trivial (D_) (Nat.le_trans (Nat.mul_le_mul_right _ (D_ : (l0.length : Int).toNat ≤ 35184372088832)) (by omega)) (Below.refl _ _) (Nat.le_refl _) ?_; intro v102 w4 ho5 hb hg_ hnew_; clear hg_ hnew_; (first | rw [← Ny101.out] at ho5 | (simp only [Int.reduceToNat] at ho5; rw [← Ny101.out] at ho5)); have HO103 := Zz.mk (Kd.R_lower ho5 (bS_ (B_ HB.out))); replace HB := Zz.mk (bT_ (B_ HB.out) hb); clear hb ho5))
 go_loopg [4] k (fun kq v4 w' => ∃ (x3_1 : List Int) (x4_1 : Int), v4 = .int .i64 x4_1 ∧ Zz (z38.l0 kq l0 x3_1 x4_1 = some r) ∧ Zz (kq ≤ k) ∧ Zz (Kd.R (Kd.int .i64) 2 w' w.heap.size (fun _ => True) v102 x3_1) ∧ Zz (Below w.heap.size w w'))
 case atStart => exact ⟨(y101), (0), E_, H', ⟨Nat.le_refl _⟩, ⟨KR_ HO103.out⟩, ⟨B_ HB.out⟩⟩
 case round =>
  clear H'
  (try clear c2);(try clear c2b0);(try clear c2b1);(try clear c3);(try clear c3b0);(try clear c3b1)
  obtain ⟨x3_1, x4_1, rfl, HA, HK1, HO_3, HB⟩ := hrel
  cases gk with
  | zero => exact absurd HA.out (by simp [z38.l0])
  | succ k1 =>
   have H := HA.out
   clear HA
   simp only [z38.l0] at H
   by_cases c6 : x4_1 < (l0.length : Int)
   ·rw [if_pos c6] at H
    have c6b0 : decide (x4_1 < (l0.length : Int)) = true := decide_eq_true c6
    clear c6
    have c7b0 := O3_ H
    replace H := O2_ H
    have c8b0 := O3_ H
    replace H := O2_ H
    obtain ⟨y105, hy105⟩ : ∃ y_ : List Int, y_ = (x3_1.set (x4_1 : Int).toNat (rd l0 x4_1)) := ⟨_, rfl⟩
    replace H : (z38.l0 k1 l0 y105 (wrap64 (x4_1 + 1))) = some r := Y_ hy105 H
    have Ny105 := Zz.mk hy105
    clear hy105
    have H' := Zz.mk H
    clear H
    have p104 : 0 ≤ (x4_1 : Int) := D_
    have q104 : x4_1 < (l0.length : Int) := D_
    obtain ⟨ad104, e104, hx104_0⟩ := Kd.at_int HR0.out x4_1 p104 q104
    cases e104
    replace hx104_0 := (HB.out.cell (World.block_lt_of_cell? w _ hx104_0)).trans hx104_0
    replace p104 := eq_true p104
    replace q104 := eq_true q104
    have p9 : 0 ≤ (x4_1 : Int) := D_
    have q9 : (x4_1 : Int) < ((x3_1.length : Int) : Int) := D_
    obtain ⟨go9, co9, eo9, gb9, gl9, cl9, HG9⟩ := Kd.R_form HO_3.out (by omega)
    (first | cases eo9 | (injection eo9 with ea_ en_ ec_; (first | subst ea_ | (injection ea_ with ea_; subst ea_)); subst ec_; clear en_))
    have GB9 := Zz.mk gb9
    have GG9 := Zz.mk HG9
    clear gb9 gl9 HG9
    obtain ⟨hx9_0, hf9_0⟩ := Kd.R_celln 0 HO_3.out (x4_1 : Int) p9 q9
    replace p9 := eq_true p9
    replace q9 := eq_true q9
    have HP10 := Kd.R_putg HO_3.out (x4_1 : Int) (rd l0 x4_1)
    go_wp2_with (first | ((with_reducible refine gate_store (t := 2) (p := 20) rfl ?_); refine store_event (t := 2) (p := 20) (v := ?vo_w11) (w1 := (wr.setCell ⟨go9, (x4_1 : Int).toNat, none⟩ (.int .i64 (rd l0 x4_1)))) ?hg ?ho ?hn ?hr ?_; (case ho => rfl); (case hg => rfl); (case hn => rfl); (case hr => first | (go_simp; done) | (go_simp; rfl)); intro w11 hw; have hg : wr.grownBy w11 (some go9) := (by rw [hw]; exact HP10.2); have hp_ : Kd.R (Kd.int .i64) 2 w11 w.heap.size (fun _ => True) (.slice (some ⟨go9, 0, none⟩) x3_1.length co9) y105 := (by rw [hw, Ny105.out]; exact HP10.1); clear HP10; replace HO_3 := Zz.mk (hp_); replace HB := Zz.mk ((by rw [hw]; exact below_set (HB.out) GB9.out : Below w.heap.size w w11)); clear hg hw hp_))
    go_roundg k1
    case measure => exact Q1_ HK1
    case rel => exact ⟨(y105), (wrap64 (x4_1 + 1)), E_, H', ⟨Q1_ HK1⟩, ⟨KR_ HO_3.out⟩, ⟨B_ HB.out⟩⟩
   rw [if_neg c6] at H
   have c6b0 : decide (x4_1 < (l0.length : Int)) = false := decide_eq_false c6
   clear c6
   obtain rfl := OI_ H
   go_wp2
   go_ret
   exact ⟨_, F_, KR_ HO_3.out, B_ HB.out⟩
def z31.l0 : Nat → List (List Int) → List (List Int) → Int → Option ((List (List Int)))
 | 0, _, _, _ => none
 | k + 1, x0, x3, x4 => if x4 < (x0.length : Int) then (if 0 ≤ x4 then ((z38.f k (rI_ x0 x4)).bind fun t105 => (if x4 < (x3.length : Int) then (z31.l0 k x0 (x3.set (x4 : Int).toNat t105) (wrap64 (x4 + 1))) else (none))) else (none)) else (some x3)
def z31.f (k : Nat) (l0 : List (List Int)) : Option ((List (List Int))) := if 0 ≤ (l0.length : Int) then (if ((l0.length : Int) : Int).toNat ≤ 11728124029610 then (z31.l0 k l0 (List.replicate ((l0.length : Int) : Int).toNat []) 0) else (none)) else (none)
theorem z31.calls (k : Nat) (A0 : Option Addr) (c0 : Nat) (l0 : List (List Int)) (r : List (List Int)) (w : World) (hr0 : Kd.C (Kd.slice 2 (Kd.int .i64)) w A0 l0.length l0) (hc0 : l0.length ≤ c0) (h : z31.f k l0 = some r) :
  Calls Try.prog 31 #[.slice A0 l0.length c0] w fun e w' => ∃ v0_ : Value, e = .returned (v0_) ∧ Kd.S (Kd.slice 2 (Kd.int .i64)) 26 w' w.heap.size (fun _ => True) v0_ r ∧ Below w.heap.size w w' := by
 have HR0 := Zz.mk hr0
 have HC0 := Zz.mk hc0
 clear hr0 hc0
 have HB := Zz.mk (Below.refl w.heap.size w)
 have H : (if 0 ≤ (l0.length : Int) then (if ((l0.length : Int) : Int).toNat ≤ 11728124029610 then (z31.l0 k l0 (List.replicate ((l0.length : Int) : Int).toNat []) 0) else (none)) else (none)) = some r := h
 clear h
 have c2 := O1_ H
 replace H := O2_ H
 have c2b0 := eq_true c2
 have c2b1 : decide (0 ≤ (l0.length : Int)) = true := decide_eq_true c2
 clear c2
 have c3 := O1_ H
 replace H := O2_ H
 have c3b0 := eq_true c3
 have c3b1 : decide (((l0.length : Int) : Int).toNat ≤ 11728124029610) = true := decide_eq_true c3
 clear c3
 obtain ⟨y101, hy101⟩ : ∃ y_ : List (List Int), y_ = (List.replicate ((l0.length : Int) : Int).toNat []) := ⟨_, rfl⟩
 replace H : (z31.l0 k l0 y101 0) = some r := Y_ hy101 H
 have Ny101 := Zz.mk hy101
 clear hy101
 have H' := Zz.mk H
 clear H
 go_enter Try.func31, Try.ntmps31
 go_wp2_with (first | ((with_reducible refine gate_dst (N := 7) rfl ?_); refine Kd.S_make (Kd.slice 2 (Kd.int .i64)) _ 26 rfl (N := 7) rfl 22 _ _ rfl (l0.length : Int) rfl rfl Try.underlying22 (.slice none 0 0) 24 info26 rfl (by decide) (by omega) [] (ok := fun _ => True) (okp := fun _ => True) ⟨_, rfl, Kd.R_nil _ _ _ _ _⟩ (fun _ hk => hk) trivial (D_) (Nat.le_trans (Nat.mul_le_mul_right _ (D_ : (l0.length : Int).toNat ≤ 11728124029610)) (by omega)) (Below.refl _ _) (Nat.le_refl _) ?_; intro v102 w4 ho5 hb hg_ hnew_; clear hg_ hnew_; (first | rw [← Ny101.out] at ho5 | (simp only [Int.reduceToNat] at ho5; rw [← Ny101.out] at ho5)); have HO103 := Zz.mk (Kd.S_lower ho5 (bS_ (B_ HB.out))); replace HB := Zz.mk (bT_ (B_ HB.out) hb); clear hb ho5))
 go_loopg [4] k (fun kq v4 w' => ∃ (x3_1 : List (List Int)) (x4_1 : Int), v4 = .int .i64 x4_1 ∧ Zz (z31.l0 kq l0 x3_1 x4_1 = some r) ∧ Zz (kq ≤ k) ∧ Zz (Kd.S (Kd.slice 2 (Kd.int .i64)) 26 w' w.heap.size (fun _ => True) v102 x3_1) ∧ Zz (Below w.heap.size w w'))
 case atStart => exact ⟨(y101), (0), E_, H', ⟨Nat.le_refl _⟩, ⟨KS_ HO103.out⟩, ⟨B_ HB.out⟩⟩
 case round =>
  clear H'
  (try clear c2);(try clear c2b0);(try clear c2b1);(try clear c3);(try clear c3b0);(try clear c3b1)
  obtain ⟨x3_1, x4_1, rfl, HA, HK1, HO_3, HB⟩ := hrel
  cases gk with
  | zero => exact absurd HA.out (by simp [z31.l0])
  | succ k1 =>
   have H := HA.out
   clear HA
   simp only [z31.l0] at H
   by_cases c6 : x4_1 < (l0.length : Int)
   ·rw [if_pos c6] at H
    have c6b0 : decide (x4_1 < (l0.length : Int)) = true := decide_eq_true c6
    clear c6
    have c7b0 := O3_ H
    replace H := O2_ H
    replace H := OZ_ H
    obtain ⟨t105, A8, H⟩ := H
    have c9b0 := O3_ H
    replace H := O2_ H
    obtain ⟨y108, hy108⟩ : ∃ y_ : List (List Int), y_ = (x3_1.set (x4_1 : Int).toNat t105) := ⟨_, rfl⟩
    replace H : (z31.l0 k1 l0 y108 (wrap64 (x4_1 + 1))) = some r := Y_ hy108 H
    have Ny108 := Zz.mk hy108
    clear hy108
    have H' := Zz.mk H
    clear H
    have p104 : 0 ≤ (x4_1 : Int) := D_
    have q104 : x4_1 < (l0.length : Int) := D_
    obtain ⟨ad104, A104_0, c104_0, e104, hx104_0, hl104_0, hi104_0⟩ := at_ListInt HR0.out x4_1 p104 q104
    cases e104
    replace hx104_0 := (HB.out.cell (World.block_lt_of_cell? w _ hx104_0)).trans hx104_0
    have HR104_0 := Zz.mk hi104_0
    have HC104_0 := Zz.mk hl104_0
    clear hi104_0 hl104_0
    replace p104 := eq_true p104
    replace q104 := eq_true q104
    go_wp2_with (first | ((with_reducible refine gC_ (f := 38) rfl ?_); refine GL_ (some 20) rfl rfl Try.func38 #[.slice A104_0 (rI_ l0 x4_1).length c104_0] rfl (h := ?_); (with_reducible refine (z38.calls k1 _ _ (rI_ l0 x4_1) t105 _ ?side1 ?side2 A8.out).mono ?_); (case side1 => exact KC_ (Kd.C_below HR104_0.out HB.out)); (case side2 => exact HC104_0.out); rintro e w11 ⟨v106, rfl, ho0, hb⟩; refine ⟨_, rfl, ?_⟩; replace HO_3 := Zz.mk (Kd.S_elder' (KS_ HO_3.out) (Kd.R_base ho0) hb); have HO107 := Zz.mk (Kd.R_lower ho0 (bS_ (B_ HB.out))); replace HB := Zz.mk (bT_ (B_ HB.out) hb); (try clear hb); (try clear ho0); have p10 : 0 ≤ (x4_1 : Int) := D_; have q10 : (x4_1 : Int) < ((x3_1.length : Int) : Int) := D_; obtain ⟨go10, co10, eo10, gb10, gl10, cl10, HG10⟩ := Kd.S_form HO_3.out (by omega); (first | cases eo10 | (injection eo10 with ea_ en_ ec_; (first | subst ea_ | (injection ea_ with ea_; subst ea_)); subst ec_; clear en_)); have GB10 := Zz.mk gb10; have GG10 := Zz.mk HG10; clear gb10 gl10 HG10; obtain ⟨_, ce10, hcl10, hM10, hcc10, hfr10, _, _⟩ := Kd.S_elem HO_3.out [] (x4_1 : Int) p10 q10; obtain ⟨ve10_0, rfl, ge10_0⟩ := hM10; have hx10_0 := hcc10 0 _ rfl; have hf10_0 := hfr10 0; (try simp only [show ((Kd.slice 2 (Kd.int .i64))).sz = 1 from rfl, Nat.mul_one, Nat.add_zero] at hx10_0); (try simp only [show ((Kd.slice 2 (Kd.int .i64))).sz = 1 from rfl, Nat.mul_one, Nat.add_zero] at hf10_0); clear hcl10 hcc10 hfr10; (try clear hM10); replace p10 := eq_true p10; replace q10 := eq_true q10; obtain ⟨Ao14, co14, eo14⟩ := Kd.R_slice HO107.out; subst eo14; have n_ := Zz.mk (Kd.S_mono (ok' := (fun k_ => some k_ ≠ (.slice Ao14 t105.length co14 : Value).ownBlock)) HO_3.out (fun k_ hk => hk.2)); clear HO_3; have HO_3 := n_; clear n_; have HX12 := Zz.mk (show Kd.S (Kd.slice 2 (Kd.int .i64)) 26 w11 w.heap.size (fun k_ => ((fun _ => True)) k_ ∧ ¬ ((fun k_ => some k_ = (.slice Ao14 t105.length co14 : Value).ownBlock)) k_) (.slice (some ⟨go10, 0, none⟩) x3_1.length co10) x3_1 from (by refine SW_ ?_; exact Kd.S_mono HO_3.out (fun k_ hk => ⟨trivial, fun e_ => hk e_⟩))); obtain ⟨oki12, ce12, hcl12, hM12, hcc12, hfr12, hoki12, hH12⟩ := Kd.S_elem HX12.out [] (x4_1 : Int) (D_) (by have h_ : (x4_1 : Int) < ((x3_1.length : Int) : Int) := D_; first | exact h_ | (have e_ := (Kd.S_reads' HO_3.out).1; omega) | simpa using h_); obtain ⟨ve12_0, rfl, ge12_0⟩ := hM12; have HP12 := Kd.S_seg hH12 (D_) (by have h_ : (x4_1 : Int) < ((x3_1.length : Int) : Int) := D_; first | exact h_ | (have e_ := (Kd.S_reads' HO_3.out).1; omega) | simpa using h_) (seg := [.slice Ao14 t105.length co14]) (j := 0) (show 1 ≤ 1 from by decide) (x' := t105) (Kd.M_row (Kd.R_mono (Kd.R_tight rfl (Kd.R_mono (ok' := fun k_ => ((fun _ => True)) k_ ∧ k_ ≠ go10) (Kd.R_apart' (HO107.out) (Kd.S_typed HO_3.out) (by decide)) (fun k_ hk => ⟨trivial, fun e_ => (hk.2) (by rw [e_]; rfl)⟩))) (fun _ h_ => Or.inr (h_)))) (fun _ hk => hk) (fun k_ hk_ => ((Kd.R_mono (ok' := fun k_ => ((fun _ => True)) k_ ∧ k_ ≠ go10) (Kd.R_apart' (HO107.out) (Kd.S_typed HO_3.out) (by decide)) (fun k_ hk => ⟨trivial, fun e_ => (hk.2) (by rw [e_]; rfl)⟩))).1 k_ hk_.symm); have hx12_0 := hcc12 0 _ rfl; (try simp only [show ((Kd.slice 2 (Kd.int .i64))).sz = 1 from rfl, Nat.mul_one, Nat.add_zero] at hx12_0); have hf12_0 := hfr12 0; (try simp only [show ((Kd.slice 2 (Kd.int .i64))).sz = 1 from rfl, Nat.mul_one, Nat.add_zero] at hf12_0); clear hcl12 hcc12 hfr12 hoki12 hH12; (try clear hM12); (try simp only [show ((Kd.slice 2 (Kd.int .i64))).sz = 1 from rfl, Nat.mul_one, Nat.add_zero] at HP12)) | ((with_reducible refine gate_store (t := 26) (p := 21) rfl ?_); refine store_event (t := 26) (p := 21) (v := ?vo_w13) (w1 := (w11.setCell ⟨go10, (x4_1 : Int).toNat, none⟩ (.slice Ao14 t105.length co14))) ?hg ?ho ?hn ?hr ?_; (case ho => rfl); (case hg => rfl); (case hn => rfl); (case hr => first | (go_simp; done) | (go_simp; rfl)); intro w13 hw; have hg : w11.grownBy w13 (some go10) := (by rw [hw]; exact HP12.2); have hp_ : Kd.S (Kd.slice 2 (Kd.int .i64)) 26 w13 w.heap.size (fun _ => True) (.slice (some ⟨go10, 0, none⟩) x3_1.length co10) y108 := (by rw [hw, Ny108.out]; exact HP12.1); clear HP12; replace HO_3 := Zz.mk (hp_); replace HB := Zz.mk ((by rw [hw]; exact below_set (HB.out) GB10.out : Below w.heap.size w w13)); clear HO107; clear hg hw hp_))
    go_roundg k1
    case measure => exact Q1_ HK1
    case rel => exact ⟨(y108), (wrap64 (x4_1 + 1)), E_, H', ⟨Q1_ HK1⟩, ⟨KS_ HO_3.out⟩, ⟨B_ HB.out⟩⟩
   rw [if_neg c6] at H
   have c6b0 : decide (x4_1 < (l0.length : Int)) = false := decide_eq_false c6
   clear c6
   obtain rfl := OI_ H
   go_wp2
   go_ret
   exact ⟨_, F_, KS_ HO_3.out, B_ HB.out⟩
def z79.f (a0 : Int) (a1 : Int) (a2 : Int) : Option (Bool) := if a0 ≥ a1 then (some (decide (a0 ≤ a2))) else (some false)
theorem z79.calls (a0 : Int) (a1 : Int) (a2 : Int) (r : Bool) (w : World) (h : z79.f a0 a1 a2 = some r) :
  Calls Try.prog 79 #[.int .i64 a0, .int .i64 a1, .int .i64 a2] w fun e w' => e = .returned (.bool r) ∧ Dz w w' := by
 have H : (if a0 ≥ a1 then (some (decide (a0 ≤ a2))) else (some false)) = some r := h
 clear h
 by_cases c4 : a0 ≥ a1
 ·rw [if_pos c4] at H
  have c4b0 : decide (a1 ≤ a0) = true := decide_eq_true c4
  clear c4
  obtain rfl := OI_ H
  go_enter Try.func79, Try.ntmps79
  go_wp2
  go_ret
  exact eD_
 rw [if_neg c4] at H
 have c4b0 : decide (a1 ≤ a0) = false := decide_eq_false c4
 clear c4
 obtain rfl := OI_ H
 go_enter Try.func79, Try.ntmps79
 go_wp2
 go_ret
 exact eD_
def z107.l0 : Nat → List Int → List Int → Int → Option (Bool)
 | 0, _, _, _ => none
 | k + 1, x0, x1, x5 => if x5 < (x0.length : Int) then (if 0 ≤ x5 then (if x5 < (x1.length : Int) then (if (rd x0 x5) = (rd x1 x5) then (z107.l0 k x0 x1 (wrap64 (x5 + 1))) else (some (decide ((rd x0 x5) < (rd x1 x5))))) else (none)) else (none)) else (some false)
def z107.f (k : Nat) (l0 : List Int) (l1 : List Int) : Option (Bool) := if (l0.length : Int) = (l1.length : Int) then (z107.l0 k l0 l1 0) else (some (decide ((l0.length : Int) < (l1.length : Int))))
theorem z107.calls (k : Nat) (A0 : Option Addr) (c0 : Nat) (l0 : List Int) (A1 : Option Addr) (c1 : Nat) (l1 : List Int) (r : Bool) (w : World) (hr0 : Kd.C (Kd.int .i64) w A0 l0.length l0) (hc0 : l0.length ≤ c0) (hr1 : Kd.C (Kd.int .i64) w A1 l1.length l1) (hc1 : l1.length ≤ c1) (h : z107.f k l0 l1 = some r) :
  Calls Try.prog 107 #[.slice A0 l0.length c0, .slice A1 l1.length c1] w fun e w' => e = .returned (.bool r) ∧ Dz w w' := by
 have HR0 := Zz.mk hr0
 have HC0 := Zz.mk hc0
 clear hr0 hc0
 have HR1 := Zz.mk hr1
 have HC1 := Zz.mk hc1
 clear hr1 hc1
 have H : (if (l0.length : Int) = (l1.length : Int) then (z107.l0 k l0 l1 0) else (some (decide ((l0.length : Int) < (l1.length : Int))))) = some r := h
 clear h
 by_cases c3 : (l0.length : Int) = (l1.length : Int)
 ·rw [if_pos c3] at H
  have c3b0 : ((l0.length : Int) == (l1.length : Int)) = true := beq_iff_eq.mpr c3
  have c3b1 : ((l0.length : Int) != (l1.length : Int)) = false := bne_eq_false_iff_eq.mpr c3
  have c3b2 : (l0.length == l1.length) = true := by first | simpa using c3 | (simp at c3 ⊢; omega)
  clear c3
  have H' := Zz.mk H
  clear H
  go_enter Try.func107, Try.ntmps107
  go_wp2
  repeat (go_quiet (fail); try go_wp2)
  go_loopg [5] k (fun kq v5 w' => ∃ (x5_1 : Int), v5 = .int .i64 x5_1 ∧ Zz (z107.l0 kq l0 l1 x5_1 = some r) ∧ Zz (kq ≤ k) ∧ Dz w w')
  case atStart => exact ⟨(0), E_, H', ⟨Nat.le_refl _⟩, by repeat (first | exact Dz.refl _ | apply Dz.step)⟩
  case round =>
   clear H'
   (try clear c1);(try clear c3);(try clear c3b0);(try clear c3b1);(try clear c3b2)
   obtain ⟨x5_1, rfl, HA, HK1, ⟨m1, rfl⟩⟩ := hrel
   cases gk with
   | zero => exact absurd HA.out (by simp [z107.l0])
   | succ k1 =>
    have H := HA.out
    clear HA
    simp only [z107.l0] at H
    by_cases c4 : x5_1 < (l0.length : Int)
    ·rw [if_pos c4] at H
     have c4b0 : decide (x5_1 < (l0.length : Int)) = true := decide_eq_true c4
     clear c4
     have c5b0 := O3_ H
     replace H := O2_ H
     have c6b0 := O3_ H
     replace H := O2_ H
     by_cases c7 : (rd l0 x5_1) = (rd l1 x5_1)
     ·rw [if_pos c7] at H
      have c7b0 : ((rd l0 x5_1) == (rd l1 x5_1)) = true := beq_iff_eq.mpr c7
      have c7b1 : ((rd l0 x5_1) != (rd l1 x5_1)) = false := bne_eq_false_iff_eq.mpr c7
      clear c7
      have H' := Zz.mk H
      clear H
      have p101 : 0 ≤ (x5_1 : Int) := D_
      have q101 : x5_1 < (l0.length : Int) := D_
      obtain ⟨ad101, e101, hx101_0⟩ := Kd.at_int HR0.out x5_1 p101 q101
      cases e101
      replace p101 := eq_true p101
      replace q101 := eq_true q101
      have p102 : 0 ≤ (x5_1 : Int) := D_
      have q102 : x5_1 < (l1.length : Int) := D_
      obtain ⟨ad102, e102, hx102_0⟩ := Kd.at_int HR1.out x5_1 p102 q102
      cases e102
      replace p102 := eq_true p102
      replace q102 := eq_true q102
      go_wp2
      repeat (go_quiet (fail); try go_wp2)
      go_roundg k1
      case measure => exact Q1_ HK1
      case rel => exact ⟨(wrap64 (x5_1 + 1)), E_, H', ⟨Q1_ HK1⟩, by repeat (first | exact Dz.refl _ | apply Dz.step)⟩
     rw [if_neg c7] at H
     have c7b0 : ((rd l0 x5_1) == (rd l1 x5_1)) = false := beq_eq_false_iff_ne.mpr c7
     have c7b1 : ((rd l0 x5_1) != (rd l1 x5_1)) = true := bne_iff_ne.mpr c7
     obtain rfl := OI_ H
     have p101 : 0 ≤ (x5_1 : Int) := D_
     have q101 : x5_1 < (l0.length : Int) := D_
     obtain ⟨ad101, e101, hx101_0⟩ := Kd.at_int HR0.out x5_1 p101 q101
     cases e101
     replace p101 := eq_true p101
     replace q101 := eq_true q101
     have p102 : 0 ≤ (x5_1 : Int) := D_
     have q102 : x5_1 < (l1.length : Int) := D_
     obtain ⟨ad102, e102, hx102_0⟩ := Kd.at_int HR1.out x5_1 p102 q102
     cases e102
     replace p102 := eq_true p102
     replace q102 := eq_true q102
     have p103 : 0 ≤ (x5_1 : Int) := D_
     have q103 : x5_1 < (l0.length : Int) := D_
     obtain ⟨ad103, e103, hx103_0⟩ := Kd.at_int HR0.out x5_1 p103 q103
     obtain rfl : ad101 = ad103 := (by injection e103)
     replace p103 := eq_true p103
     replace q103 := eq_true q103
     have p104 : 0 ≤ (x5_1 : Int) := D_
     have q104 : x5_1 < (l1.length : Int) := D_
     obtain ⟨ad104, e104, hx104_0⟩ := Kd.at_int HR1.out x5_1 p104 q104
     obtain rfl : ad102 = ad104 := (by injection e104)
     replace p104 := eq_true p104
     replace q104 := eq_true q104
     go_wp2
     repeat (go_quiet (fail); try go_wp2)
     go_ret
     exact eD_
    rw [if_neg c4] at H
    have c4b0 : decide (x5_1 < (l0.length : Int)) = false := decide_eq_false c4
    clear c4
    obtain rfl := OI_ H
    go_wp2
    repeat (go_quiet (fail); try go_wp2)
    go_ret
    exact eD_
 rw [if_neg c3] at H
 have c3b0 : ((l0.length : Int) == (l1.length : Int)) = false := beq_eq_false_iff_ne.mpr c3
 have c3b1 : ((l0.length : Int) != (l1.length : Int)) = true := bne_iff_ne.mpr c3
 have c3b2 : (l0.length == l1.length) = false := by first | simpa using c3 | (simp at c3 ⊢; omega)
 obtain rfl := OI_ H
 go_enter Try.func107, Try.ntmps107
 go_wp2
 repeat (go_quiet (fail); try go_wp2)
 go_ret
 exact eD_
def z82.f (l0 : List Int) : Option (List Int) := (some (([] : List Int) : List Int)).bind fun y101 => (if y101.length + l0.length < 17592186044416 then (some (y101 ++ l0)) else (none))
theorem z82.calls (A0 : Option Addr) (c0 : Nat) (l0 : List Int) (r : List Int) (w : World) (hr0 : Kd.C (Kd.int .i64) w A0 l0.length l0) (hc0 : l0.length ≤ c0) (h : z82.f l0 = some r) :
  Calls Try.prog 82 #[.slice A0 l0.length c0] w fun e w' => ∃ v0_ : Value, e = .returned (v0_) ∧ Kd.R (Kd.int .i64) 2 w' w.heap.size (fun _ => True) v0_ r ∧ Below w.heap.size w w' := by
 have HR0 := Zz.mk hr0
 have HC0 := Zz.mk hc0
 clear hr0 hc0
 have HB := Zz.mk (Below.refl w.heap.size w)
 have H : ((some (([] : List Int) : List Int)).bind fun y101 => (if y101.length + l0.length < 17592186044416 then (some (y101 ++ l0)) else (none))) = some r := h
 clear h
 obtain ⟨y101, hy101⟩ : ∃ y_ : List Int, y_ = (([] : List Int)) := ⟨_, rfl⟩
 replace H : (if y101.length + l0.length < 17592186044416 then (some (y101 ++ l0)) else (none)) = some r := Y_ hy101 H
 have Ny101 := Zz.mk hy101
 clear hy101
 have c2 := O1_ H
 replace H := O2_ H
 have LMc2 := Zz.mk c2
 clear c2
 obtain ⟨y104, hy104⟩ : ∃ y_ : List Int, y_ = (y101 ++ l0) := ⟨_, rfl⟩
 replace H : (some y104) = some r := Y_ hy104 H
 have Ny104 := Zz.mk hy104
 clear hy104
 obtain rfl := OI_ H
 go_enter Try.func82, Try.ntmps82
 go_wp2_with (first | ((with_reducible refine gate_dst (N := 3) rfl ?_); refine Kd.R_lit (Kd.int .i64) _ 2 ?hg (N := 3) ?hd (xs := ([] : List Int)) (inner := []) (ok := fun _ => True) (okp := fun _ => True) ?hr ?hp (fun _ hk => hk) trivial (Below.refl _ _) (Nat.le_refl _) (by simp) ?_; (case hd => rfl); (case hg => rfl); (case hr => first | (go_simp; done) | (go_simp; rfl)); (case hp => exact (Reps.none _ _)); intro v102 w3 ho4 hb hg_ hnew_; clear hg_ hnew_; (first | rw [← Ny101.out] at ho4 | (simp only [Int.reduceToNat] at ho4; rw [← Ny101.out] at ho4)); have HO103 := Zz.mk (Kd.R_lower ho4 (bS_ (B_ HB.out))); replace HB := Zz.mk (bT_ (B_ HB.out) hb); clear hb ho4) | ((with_reducible refine gate_builtin (b := .append) (xs := #[.tmp 3, .tmp 4]) rfl ?_); at_builtin; refine Kd.R_append_rows (Kd.int .i64) (w0 := w) w.heap.size rfl (.tmp 3) (.tmp 4) 26 2 (.int .i64 0) 8 rfl Try.underlying26 info2 rfl (by decide) (by omega) v102 y101 l0 _ _ _ (fun _ => True) (fun _ => False) rfl rfl ?aO ?aR (fun _ _ h => h) (fun _ h => h.elim) ?aF ?aB ?aS ?aL ?_; (case aR => exact KC_ (Kd.C_below HR0.out HB.out)); (case aB => exact (B_ HB.out)); (case aF => exact (fun _ _ => trivial)); (case aO => exact (KR_ HO103.out)); (case aS => exact (bS_ (B_ HB.out))); (case aL => have := LMc2.out; omega); intro v105 w5 ho hb hg hat; rw [← Ny104.out] at ho; replace HB := Zz.mk (hb); have HO106 := Zz.mk (ho); clear HO103; clear ho hb hg hat))
 go_ret
 exact ⟨_, F_, KR_ HO106.out, B_ HB.out⟩
def z108.f (l0 : List Int) (a1 : Int) : Option (List Int) := if 0 ≤ a1 then (if a1 ≤ (l0.length : Int) then ((z82.f (l0.take (a1 : Int).toNat)).bind fun t102 => (if 0 ≤ (wrap64 (a1 + 1)) then (if (wrap64 (a1 + 1)) ≤ (l0.length : Int) then (if t102.length + (l0.drop ((wrap64 (a1 + 1)) : Int).toNat).length < 17592186044416 then (some (t102 ++ (l0.drop ((wrap64 (a1 + 1)) : Int).toNat))) else (none)) else (none)) else (none))) else (none)) else (none)
theorem z108.calls (A0 : Option Addr) (c0 : Nat) (l0 : List Int) (a1 : Int) (r : List Int) (w : World) (hr0 : Kd.C (Kd.int .i64) w A0 l0.length l0) (hc0 : l0.length ≤ c0) (h : z108.f l0 a1 = some r) :
  Calls Try.prog 108 #[.slice A0 l0.length c0, .int .i64 a1] w fun e w' => ∃ v0_ : Value, e = .returned (v0_) ∧ Kd.R (Kd.int .i64) 2 w' w.heap.size (fun _ => True) v0_ r ∧ Below w.heap.size w w' := by
 have HR0 := Zz.mk hr0
 have HC0 := Zz.mk hc0
 clear hr0 hc0
 have HB := Zz.mk (Below.refl w.heap.size w)
 have H : (if 0 ≤ a1 then (if a1 ≤ (l0.length : Int) then ((z82.f (l0.take (a1 : Int).toNat)).bind fun t102 => (if 0 ≤ (wrap64 (a1 + 1)) then (if (wrap64 (a1 + 1)) ≤ (l0.length : Int) then (if t102.length + (l0.drop ((wrap64 (a1 + 1)) : Int).toNat).length < 17592186044416 then (some (t102 ++ (l0.drop ((wrap64 (a1 + 1)) : Int).toNat))) else (none)) else (none)) else (none))) else (none)) else (none)) = some r := h
 clear h
 have c3 := O1_ H
 replace H := O2_ H
 have c3b0 := eq_true c3
 have c3b1 : decide (0 ≤ a1) = true := decide_eq_true c3
 clear c3
 have c4 := O1_ H
 replace H := O2_ H
 have c4b0 := eq_true c4
 have c4b1 : decide (a1 ≤ (l0.length : Int)) = true := decide_eq_true c4
 clear c4
 replace H := OZ_ H
 obtain ⟨t102, A5, H⟩ := H
 obtain ⟨ji6, hji6⟩ : ∃ j_ : Int, (wrap64 (a1 + 1)) = j_ := ⟨_, rfl⟩
 replace H : (if 0 ≤ (ji6) then (if (ji6) ≤ (l0.length : Int) then (if t102.length + (l0.drop ((ji6) : Int).toNat).length < 17592186044416 then (some (t102 ++ (l0.drop ((ji6) : Int).toNat))) else (none)) else (none)) else (none)) = some r := by first | (rw [hji6] at H; exact H) | (simp only [hji6] at H ⊢; exact H)
 (try rw [hji6] at A5)
 have hji6w : (IntKind.i64.wrap (a1 + 1)) = ji6 := (i64_w _).trans hji6
 have c7 := O1_ H
 replace H := O2_ H
 have c7b0 := eq_true c7
 have c7b1 : decide (0 ≤ (ji6)) = true := decide_eq_true c7
 clear c7
 have c8 := O1_ H
 replace H := O2_ H
 have c8b0 := eq_true c8
 have c8b1 : decide ((ji6) ≤ (l0.length : Int)) = true := decide_eq_true c8
 clear c8
 have c9 := O1_ H
 replace H := O2_ H
 have LMc9 := Zz.mk c9
 clear c9
 obtain ⟨y106, hy106⟩ : ∃ y_ : List Int, y_ = (t102 ++ (l0.drop ((ji6) : Int).toNat)) := ⟨_, rfl⟩
 replace H : (some y106) = some r := Y_ hy106 H
 have Ny106 := Zz.mk hy106
 clear hy106
 obtain rfl := OI_ H
 obtain ⟨i010, hi010, _, hsz10, _⟩ := info_parts info2
 obtain ⟨hcut10, hA10, hC10⟩ := print_take_of (P := Try.prog) (Value.int .i64) 0 26 2 .i64 Try.underlying26 hi010 hsz10 A0 c0 l0 a1 (D_) (D_) HC0.out
 have HR101 := Zz.mk (Kd.C_of_reads (h1 := fun _ => rfl) (hA10 _ (Kd.reads_of_C HR0.out)))
 have HC101 := Zz.mk hC10
 clear hA10 hC10 hi010 hsz10
 go_enter Try.func108, Try.ntmps108
 go_wp2_with (first | ((with_reducible refine gC_ (f := 82) rfl ?_); refine goesL_ (some 9) rfl rfl Try.func82 (by kernel_rfl) rfl #[.slice A0 (l0.take (a1 : Int).toNat).length c0] rfl (by (try simp only [List.map_toArray, List.map_cons, List.map_nil]); first | done | (rw [show (l0.take (a1 : Int).toNat).length = a1.toNat from (by rw [List.length_take]; have h_ : (a1 : Int) ≤ (l0.length : Int) := D_; omega)] <;> rfl) | rfl | (simp only [List.length_drop, List.length_take]; rfl)) ?_; (with_reducible refine (z82.calls _ _ (l0.take (a1 : Int).toNat) t102 _ ?side1 ?side2 A5.out).mono ?_); (case side1 => exact KC_ HR101.out); (case side2 => exact HC101.out); rintro e w11 ⟨v103, rfl, ho0, hb⟩; refine ⟨_, rfl, ?_⟩; have HO104 := Zz.mk (Kd.R_lower ho0 (bS_ (B_ HB.out))); replace HB := Zz.mk (bT_ (B_ HB.out) hb); (try clear hb); (try clear ho0); obtain ⟨i012, hi012, _, hsz12, _⟩ := info_parts info2; obtain ⟨A12, hcut12, hA12, hC12⟩ := print_drop_of (P := Try.prog) (Value.int .i64) 0 26 2 .i64 Try.underlying26 hi012 hsz12 A0 c0 l0 (ji6) (D_) (D_) HC0.out; have HR105 := Zz.mk (Kd.C_of_reads (h1 := fun _ => rfl) (hA12 _ (Kd.reads_of_C HR0.out))); have HC105 := Zz.mk hC12; clear hA12 hC12 hi012 hsz12) | ((with_reducible refine gate_builtin (b := .append) (xs := #[.tmp 10, .tmp 14]) rfl ?_); at_builtin; refine Kd.R_append_rows (Kd.int .i64) (w0 := w) w.heap.size rfl (.tmp 10) (.tmp 14) 26 2 (.int .i64 0) 8 rfl Try.underlying26 info2 rfl (by decide) (by omega) v103 t102 (l0.drop ((ji6) : Int).toNat) _ _ _ (fun _ => True) (fun _ => False) rfl rfl ?aO ?aR (fun _ _ h => h) (fun _ h => h.elim) ?aF ?aB ?aS ?aL ?_; (case aR => first | (rw [← show (l0.drop ((ji6) : Int).toNat).length = (l0.length - (ji6).toNat) from List.length_drop]; repeat (first | exact (Kd.C_below HR105.out HB.out) | (with_reducible refine Kd.C_alloc ?_ _) | (with_reducible refine Kd.C_drewN ?_ _) | (with_reducible refine Kd.C_drew ?_))) | (repeat (first | exact (Kd.C_below HR105.out HB.out) | (with_reducible refine Kd.C_alloc ?_ _) | (with_reducible refine Kd.C_drewN ?_ _) | (with_reducible refine Kd.C_drew ?_)))); (case aB => exact (B_ HB.out)); (case aF => exact (fun _ _ => trivial)); (case aO => exact (KR_ HO104.out)); (case aS => exact (bS_ (B_ HB.out))); (case aL => have := LMc9.out; have hlx_ := (show (l0.drop ((ji6) : Int).toNat).length = (l0.length - (ji6).toNat) from List.length_drop); omega); intro v107 w13 ho hb hg hat; rw [← Ny106.out] at ho; replace HB := Zz.mk (hb); have HO108 := Zz.mk (ho); clear HO104; clear ho hb hg hat))
 go_ret
 exact ⟨_, by first | rfl | (simp [errW_none, errW_some] <;> rfl) | (simp only [← hji6]; first | rfl | (simp [errW_none, errW_some] <;> rfl)) | (simp [*, errW_none, errW_some] <;> rfl), KR_ HO108.out, B_ HB.out⟩
def z128.l0 : Nat → List Int → List Int → Int → Option (Bool)
 | 0, _, _, _ => none
 | k + 1, x0, x1, x5 => if x5 < (x0.length : Int) then (if 0 ≤ x5 then (if x5 < (x1.length : Int) then (if (rd x0 x5) = (rd x1 x5) then (z128.l0 k x0 x1 (wrap64 (x5 + 1))) else (some false)) else (none)) else (none)) else (some true)
def z128.f (k : Nat) (l0 : List Int) (l1 : List Int) : Option (Bool) := if (l0.length : Int) = (l1.length : Int) then (z128.l0 k l0 l1 0) else (some false)
theorem z128.calls (k : Nat) (A0 : Option Addr) (c0 : Nat) (l0 : List Int) (A1 : Option Addr) (c1 : Nat) (l1 : List Int) (r : Bool) (w : World) (hr0 : Kd.C (Kd.int .i64) w A0 l0.length l0) (hc0 : l0.length ≤ c0) (hr1 : Kd.C (Kd.int .i64) w A1 l1.length l1) (hc1 : l1.length ≤ c1) (h : z128.f k l0 l1 = some r) :
  Calls Try.prog 128 #[.slice A0 l0.length c0, .slice A1 l1.length c1] w fun e w' => e = .returned (.bool r) ∧ Dz w w' := by
 have HR0 := Zz.mk hr0
 have HC0 := Zz.mk hc0
 clear hr0 hc0
 have HR1 := Zz.mk hr1
 have HC1 := Zz.mk hc1
 clear hr1 hc1
 have H : (if (l0.length : Int) = (l1.length : Int) then (z128.l0 k l0 l1 0) else (some false)) = some r := h
 clear h
 by_cases c3 : (l0.length : Int) = (l1.length : Int)
 ·rw [if_pos c3] at H
  have c3b0 : ((l0.length : Int) == (l1.length : Int)) = true := beq_iff_eq.mpr c3
  have c3b1 : ((l0.length : Int) != (l1.length : Int)) = false := bne_eq_false_iff_eq.mpr c3
  have c3b2 : (l0.length == l1.length) = true := by first | simpa using c3 | (simp at c3 ⊢; omega)
  clear c3
  have H' := Zz.mk H
  clear H
  go_enter Try.func128, Try.ntmps128
  go_wp2
  repeat (go_quiet (fail); try go_wp2)
  go_loopg [5] k (fun kq v5 w' => ∃ (x5_1 : Int), v5 = .int .i64 x5_1 ∧ Zz (z128.l0 kq l0 l1 x5_1 = some r) ∧ Zz (kq ≤ k) ∧ Dz w w')
  case atStart => exact ⟨(0), E_, H', ⟨Nat.le_refl _⟩, by repeat (first | exact Dz.refl _ | apply Dz.step)⟩
  case round =>
   clear H'
   (try clear c1);(try clear c3);(try clear c3b0);(try clear c3b1);(try clear c3b2)
   obtain ⟨x5_1, rfl, HA, HK1, ⟨m1, rfl⟩⟩ := hrel
   cases gk with
   | zero => exact absurd HA.out (by simp [z128.l0])
   | succ k1 =>
    have H := HA.out
    clear HA
    simp only [z128.l0] at H
    by_cases c4 : x5_1 < (l0.length : Int)
    ·rw [if_pos c4] at H
     have c4b0 : decide (x5_1 < (l0.length : Int)) = true := decide_eq_true c4
     clear c4
     have c5b0 := O3_ H
     replace H := O2_ H
     have c6b0 := O3_ H
     replace H := O2_ H
     by_cases c7 : (rd l0 x5_1) = (rd l1 x5_1)
     ·rw [if_pos c7] at H
      have c7b0 : ((rd l0 x5_1) == (rd l1 x5_1)) = true := beq_iff_eq.mpr c7
      have c7b1 : ((rd l0 x5_1) != (rd l1 x5_1)) = false := bne_eq_false_iff_eq.mpr c7
      clear c7
      have H' := Zz.mk H
      clear H
      have p101 : 0 ≤ (x5_1 : Int) := D_
      have q101 : x5_1 < (l0.length : Int) := D_
      obtain ⟨ad101, e101, hx101_0⟩ := Kd.at_int HR0.out x5_1 p101 q101
      cases e101
      replace p101 := eq_true p101
      replace q101 := eq_true q101
      have p102 : 0 ≤ (x5_1 : Int) := D_
      have q102 : x5_1 < (l1.length : Int) := D_
      obtain ⟨ad102, e102, hx102_0⟩ := Kd.at_int HR1.out x5_1 p102 q102
      cases e102
      replace p102 := eq_true p102
      replace q102 := eq_true q102
      go_wp2
      repeat (go_quiet (fail); try go_wp2)
      go_roundg k1
      case measure => exact Q1_ HK1
      case rel => exact ⟨(wrap64 (x5_1 + 1)), E_, H', ⟨Q1_ HK1⟩, by repeat (first | exact Dz.refl _ | apply Dz.step)⟩
     rw [if_neg c7] at H
     have c7b0 : ((rd l0 x5_1) == (rd l1 x5_1)) = false := beq_eq_false_iff_ne.mpr c7
     have c7b1 : ((rd l0 x5_1) != (rd l1 x5_1)) = true := bne_iff_ne.mpr c7
     obtain rfl := OI_ H
     have p101 : 0 ≤ (x5_1 : Int) := D_
     have q101 : x5_1 < (l0.length : Int) := D_
     obtain ⟨ad101, e101, hx101_0⟩ := Kd.at_int HR0.out x5_1 p101 q101
     cases e101
     replace p101 := eq_true p101
     replace q101 := eq_true q101
     have p102 : 0 ≤ (x5_1 : Int) := D_
     have q102 : x5_1 < (l1.length : Int) := D_
     obtain ⟨ad102, e102, hx102_0⟩ := Kd.at_int HR1.out x5_1 p102 q102
     cases e102
     replace p102 := eq_true p102
     replace q102 := eq_true q102
     go_wp2
     repeat (go_quiet (fail); try go_wp2)
     go_ret
     exact eD_
    rw [if_neg c4] at H
    have c4b0 : decide (x5_1 < (l0.length : Int)) = false := decide_eq_false c4
    clear c4
    obtain rfl := OI_ H
    go_wp2
    repeat (go_quiet (fail); try go_wp2)
    go_ret
    exact eD_
 rw [if_neg c3] at H
 have c3b0 : ((l0.length : Int) == (l1.length : Int)) = false := beq_eq_false_iff_ne.mpr c3
 have c3b1 : ((l0.length : Int) != (l1.length : Int)) = true := bne_iff_ne.mpr c3
 have c3b2 : (l0.length == l1.length) = false := by first | simpa using c3 | (simp at c3 ⊢; omega)
 obtain rfl := OI_ H
 go_enter Try.func128, Try.ntmps128
 go_wp2
 repeat (go_quiet (fail); try go_wp2)
 go_ret
 exact eD_
def z80.l0 : Nat → List Int → Int → List (List Int) → Option (Int)
 | 0, _, _, _ => none
 | k + 1, x1, x5, x51000 => if x5 < (x51000.length : Int) then (if 0 ≤ x5 then ((z128.f k (rI_ x51000 x5) x1).bind fun t102 => (if t102 = true then (some x5) else (z80.l0 k x1 (wrap64 (x5 + 1)) x51000))) else (none)) else (some (-1))
def z80.f (k : Nat) (l0_0 : List (List Int)) (l1 : List Int) : Option (Int) := z80.l0 k l1 0 l0_0
theorem z80.calls (k : Nat) (gp0 : Nat) (A0_0 : Option Addr) (c0_0 : Nat) (l0_0 : List (List Int)) (A1 : Option Addr) (c1 : Nat) (l1 : List Int) (r : Int) (w : World) (hbp0 : w.heap[gp0]? = some (.cells #[.slice A0_0 l0_0.length c0_0] 29 (0, 0))) (hr0_0 : Kd.C (Kd.slice 2 (Kd.int .i64)) w A0_0 l0_0.length l0_0) (hc0_0 : l0_0.length ≤ c0_0) (hr1 : Kd.C (Kd.int .i64) w A1 l1.length l1) (hc1 : l1.length ≤ c1) (h : z80.f k l0_0 l1 = some r) :
  Calls Try.prog 80 #[.pointer (some ⟨gp0, 0, none⟩), .slice A1 l1.length c1] w fun e w' => e = .returned (.int .i64 r) ∧ Dz w w' := by
 have HR0_0 := Zz.mk hr0_0
 have HC0_0 := Zz.mk hc0_0
 clear hr0_0 hc0_0
 have HR1 := Zz.mk hr1
 have HC1 := Zz.mk hc1
 clear hr1 hc1
 have BK50 := Zz.mk hbp0
 clear hbp0
 have H : (z80.l0 k l1 0 l0_0) = some r := h
 clear h
 have H' := Zz.mk H
 clear H
 go_enter Try.func80, Try.ntmps80
 go_wp2
 go_loopg [5] k (fun kq v5 w' => ∃ (x5_1 : Int), v5 = .int .i64 x5_1 ∧ Zz (z80.l0 kq l1 x5_1 l0_0 = some r) ∧ Zz (kq ≤ k) ∧ Zz (w'.heap[gp0]? = some (.cells #[(.slice A0_0 l0_0.length c0_0)] 29 (0, 0))) ∧ Dz w w')
 case atStart => exact ⟨(0), E_, H', ⟨Nat.le_refl _⟩, ⟨KB_ BK50.out⟩, by repeat (first | exact Dz.refl _ | apply Dz.step)⟩
 case round =>
  clear H'
  (try clear c1)
  obtain ⟨x5_1, rfl, HA, HK1, BK50, ⟨m1, rfl⟩⟩ := hrel
  cases gk with
  | zero => exact absurd HA.out (by simp [z80.l0])
  | succ k1 =>
   have H := HA.out
   clear HA
   simp only [z80.l0] at H
   by_cases c3 : x5_1 < (l0_0.length : Int)
   ·rw [if_pos c3] at H
    have c3b0 : decide (x5_1 < (l0_0.length : Int)) = true := decide_eq_true c3
    clear c3
    have c4b0 := O3_ H
    replace H := O2_ H
    replace H := OZ_ H
    obtain ⟨t102, A5, H⟩ := H
    by_cases c6 : t102 = true
    ·subst c6
     replace H := T_ H
     obtain rfl := OI_ H
     obtain ⟨hcz7_0, hfz7_0⟩ := Z1f_ BK50.out
     have p101 : 0 ≤ (x5_1 : Int) := D_
     have q101 : x5_1 < (l0_0.length : Int) := D_
     obtain ⟨ad101, A101_0, c101_0, e101, hx101_0, hl101_0, hi101_0⟩ := at_ListInt HR0_0.out x5_1 p101 q101
     cases e101
     have HR101_0 := Zz.mk hi101_0
     have HC101_0 := Zz.mk hl101_0
     clear hi101_0 hl101_0
     replace p101 := eq_true p101
     replace q101 := eq_true q101
     go_wp2_with (first | ((with_reducible refine gC_ (f := 128) rfl ?_); refine GL_ (some 23) rfl rfl Try.func128 #[.slice A101_0 (rI_ l0_0 x5_1).length c101_0, .slice A1 l1.length c1] rfl (h := ?_); (with_reducible refine (z128.calls k1 _ _ (rI_ l0_0 x5_1) _ _ l1 true _ ?side1 ?side2 ?side3 ?side4 A5.out).mono ?_); (case side1 => exact KC_ HR101_0.out); (case side2 => exact HC101_0.out); (case side3 => exact KC_ HR1.out); (case side4 => exact HC1.out); rintro e w' ⟨rfl, ⟨nd, rfl⟩⟩; refine ⟨_, rfl, ?_⟩))
     go_ret
     exact eD_
    replace c6 := Bool.eq_false_iff.mpr c6
    subst c6
    replace H := N_ H
    have H' := Zz.mk H
    clear H
    obtain ⟨hcz8_0, hfz8_0⟩ := Z1f_ BK50.out
    have p101 : 0 ≤ (x5_1 : Int) := D_
    have q101 : x5_1 < (l0_0.length : Int) := D_
    obtain ⟨ad101, A101_0, c101_0, e101, hx101_0, hl101_0, hi101_0⟩ := at_ListInt HR0_0.out x5_1 p101 q101
    cases e101
    have HR101_0 := Zz.mk hi101_0
    have HC101_0 := Zz.mk hl101_0
    clear hi101_0 hl101_0
    replace p101 := eq_true p101
    replace q101 := eq_true q101
    go_wp2_with (first | ((with_reducible refine gC_ (f := 128) rfl ?_); refine GL_ (some 23) rfl rfl Try.func128 #[.slice A101_0 (rI_ l0_0 x5_1).length c101_0, .slice A1 l1.length c1] rfl (h := ?_); (with_reducible refine (z128.calls k1 _ _ (rI_ l0_0 x5_1) _ _ l1 false _ ?side1 ?side2 ?side3 ?side4 A5.out).mono ?_); (case side1 => exact KC_ HR101_0.out); (case side2 => exact HC101_0.out); (case side3 => exact KC_ HR1.out); (case side4 => exact HC1.out); rintro e w' ⟨rfl, ⟨nd, rfl⟩⟩; refine ⟨_, rfl, ?_⟩))
    go_roundg k1
    case measure => exact Q1_ HK1
    case rel => exact ⟨(wrap64 (x5_1 + 1)), E_, H', ⟨Q1_ HK1⟩, ⟨KB_ BK50.out⟩, by repeat (first | exact Dz.refl _ | apply Dz.step)⟩
   rw [if_neg c3] at H
   have c3b0 : decide (x5_1 < (l0_0.length : Int)) = false := decide_eq_false c3
   clear c3
   obtain rfl := OI_ H
   obtain ⟨hcz9_0, hfz9_0⟩ := Z1f_ BK50.out
   go_wp2
   go_ret
   exact eD_
def z123.l0 : Nat → List Int → Int → Int → Int → Option (Bool)
 | 0, _, _, _, _ => none
 | k + 1, x0, x1, x2, x7 => if x7 < (x0.length : Int) then (if 0 ≤ x7 then ((z79.f (rd x0 x7) x1 x2).bind fun t102 => (if t102 = true then (if x7 > 0 then (if 0 ≤ (wrap64 (x7 - 1)) then (if (wrap64 (x7 - 1)) < (x0.length : Int) then (if (rd x0 (wrap64 (x7 - 1))) ≥ (rd x0 x7) then (some false) else (z123.l0 k x0 x1 x2 (wrap64 (x7 + 1)))) else (none)) else (none)) else (z123.l0 k x0 x1 x2 (wrap64 (x7 + 1)))) else (some false))) else (none)) else (some true)
def z123.f (k : Nat) (l0 : List Int) (a1 : Int) (a2 : Int) : Option (Bool) := z123.l0 k l0 a1 a2 0
theorem z123.calls (k : Nat) (A0 : Option Addr) (c0 : Nat) (l0 : List Int) (a1 : Int) (a2 : Int) (r : Bool) (w : World) (hr0 : Kd.C (Kd.int .i64) w A0 l0.length l0) (hc0 : l0.length ≤ c0) (h : z123.f k l0 a1 a2 = some r) :
  Calls Try.prog 123 #[.slice A0 l0.length c0, .int .i64 a1, .int .i64 a2] w fun e w' => e = .returned (.bool r) ∧ Dz w w' := by
 have HR0 := Zz.mk hr0
 have HC0 := Zz.mk hc0
 clear hr0 hc0
 have H : (z123.l0 k l0 a1 a2 0) = some r := h
 clear h
 have H' := Zz.mk H
 clear H
 go_enter Try.func123, Try.ntmps123
 go_wp2
 repeat (go_quiet (fail); try go_wp2)
 go_loopg [7] k (fun kq v7 w' => ∃ (x7_1 : Int), v7 = .int .i64 x7_1 ∧ Zz (z123.l0 kq l0 a1 a2 x7_1 = some r) ∧ Zz (kq ≤ k) ∧ Dz w w')
 case atStart => exact ⟨(0), E_, H', ⟨Nat.le_refl _⟩, by repeat (first | exact Dz.refl _ | apply Dz.step)⟩
 case round =>
  clear H'
  obtain ⟨x7_1, rfl, HA, HK1, ⟨m1, rfl⟩⟩ := hrel
  cases gk with
  | zero => exact absurd HA.out (by simp [z123.l0])
  | succ k1 =>
   have H := HA.out
   clear HA
   simp only [z123.l0] at H
   by_cases c4 : x7_1 < (l0.length : Int)
   ·rw [if_pos c4] at H
    have c4b0 : decide (x7_1 < (l0.length : Int)) = true := decide_eq_true c4
    clear c4
    have c5b0 := O3_ H
    replace H := O2_ H
    replace H := OZ_ H
    obtain ⟨t102, A6, H⟩ := H
    by_cases c7 : t102 = true
    ·subst c7
     replace H := T_ H
     by_cases c8 : x7_1 > 0
     ·rw [if_pos c8] at H
      have c8b0 : decide (0 < x7_1) = true := decide_eq_true c8
      clear c8
      obtain ⟨ji9, hji9⟩ : ∃ j_ : Int, (wrap64 (x7_1 - 1)) = j_ := ⟨_, rfl⟩
      replace H : (if 0 ≤ (ji9) then (if (ji9) < (l0.length : Int) then (if (rd l0 (ji9)) ≥ (rd l0 x7_1) then (some false) else (z123.l0 k1 l0 a1 a2 (wrap64 (x7_1 + 1)))) else (none)) else (none)) = some r := by first | (rw [hji9] at H; exact H) | (simp only [hji9] at H ⊢; exact H)
      (try rw [hji9] at A6)
      have hji9w : (IntKind.i64.wrap (x7_1 - 1)) = ji9 := (i64_w _).trans hji9
      have c10b0 := O3_ H
      replace H := O2_ H
      have c11b0 := O3_ H
      replace H := O2_ H
      by_cases c12 : (rd l0 (ji9)) ≥ (rd l0 x7_1)
      ·rw [if_pos c12] at H
       have c12b0 : decide ((rd l0 x7_1) ≤ (rd l0 (ji9))) = true := decide_eq_true c12
       clear c12
       obtain rfl := OI_ H
       have p101 : 0 ≤ (x7_1 : Int) := D_
       have q101 : x7_1 < (l0.length : Int) := D_
       obtain ⟨ad101, e101, hx101_0⟩ := Kd.at_int HR0.out x7_1 p101 q101
       cases e101
       replace p101 := eq_true p101
       replace q101 := eq_true q101
       go_wp2_with (first | (go_at_call 79; (with_reducible refine (z79.calls (rd l0 x7_1) a1 a2 true _ A6.out).mono ?_); rintro e w' ⟨rfl, ⟨nd, rfl⟩⟩; (try first | exact ⟨rfl, _, World.drewN_drewN _ _ _⟩ | exact ⟨rfl, _, Eq.trans (World.drewN_drewN _ _ _) (congrArg (World.drewN _) (Nat.add_assoc _ _ _))⟩); have p103 : 0 ≤ ((ji9) : Int) := D_; have q103 : (ji9) < (l0.length : Int) := D_; obtain ⟨ad103, e103, hx103_0⟩ := Kd.at_int HR0.out (ji9) p103 q103; obtain rfl : ad101 = ad103 := (by injection e103); replace p103 := eq_true p103; replace q103 := eq_true q103; have p104 : 0 ≤ (x7_1 : Int) := D_; have q104 : x7_1 < (l0.length : Int) := D_; obtain ⟨ad104, e104, hx104_0⟩ := Kd.at_int HR0.out x7_1 p104 q104; obtain rfl : ad101 = ad104 := (by injection e104); replace p104 := eq_true p104; replace q104 := eq_true q104))
       repeat (go_quiet (first | (go_at_call 79; (with_reducible refine (z79.calls (rd l0 x7_1) a1 a2 true _ A6.out).mono ?_); rintro e w' ⟨rfl, ⟨nd, rfl⟩⟩; (try first | exact ⟨rfl, _, World.drewN_drewN _ _ _⟩ | exact ⟨rfl, _, Eq.trans (World.drewN_drewN _ _ _) (congrArg (World.drewN _) (Nat.add_assoc _ _ _))⟩); have p103 : 0 ≤ ((ji9) : Int) := D_; have q103 : (ji9) < (l0.length : Int) := D_; obtain ⟨ad103, e103, hx103_0⟩ := Kd.at_int HR0.out (ji9) p103 q103; obtain rfl : ad101 = ad103 := (by injection e103); replace p103 := eq_true p103; replace q103 := eq_true q103; have p104 : 0 ≤ (x7_1 : Int) := D_; have q104 : x7_1 < (l0.length : Int) := D_; obtain ⟨ad104, e104, hx104_0⟩ := Kd.at_int HR0.out x7_1 p104 q104; obtain rfl : ad101 = ad104 := (by injection e104); replace p104 := eq_true p104; replace q104 := eq_true q104)); try go_wp2_with (first | (go_at_call 79; (with_reducible refine (z79.calls (rd l0 x7_1) a1 a2 true _ A6.out).mono ?_); rintro e w' ⟨rfl, ⟨nd, rfl⟩⟩; (try first | exact ⟨rfl, _, World.drewN_drewN _ _ _⟩ | exact ⟨rfl, _, Eq.trans (World.drewN_drewN _ _ _) (congrArg (World.drewN _) (Nat.add_assoc _ _ _))⟩); have p103 : 0 ≤ ((ji9) : Int) := D_; have q103 : (ji9) < (l0.length : Int) := D_; obtain ⟨ad103, e103, hx103_0⟩ := Kd.at_int HR0.out (ji9) p103 q103; obtain rfl : ad101 = ad103 := (by injection e103); replace p103 := eq_true p103; replace q103 := eq_true q103; have p104 : 0 ≤ (x7_1 : Int) := D_; have q104 : x7_1 < (l0.length : Int) := D_; obtain ⟨ad104, e104, hx104_0⟩ := Kd.at_int HR0.out x7_1 p104 q104; obtain rfl : ad101 = ad104 := (by injection e104); replace p104 := eq_true p104; replace q104 := eq_true q104)))
       go_ret
       exact ⟨by first | rfl | (simp; done) | (simp only [← hji9] <;> (first | rfl | simp)) | (simp [*]; done), by repeat (first | exact Dz.refl _ | apply Dz.step)⟩
      rw [if_neg c12] at H
      have c12b0 : decide ((rd l0 x7_1) ≤ (rd l0 (ji9))) = false := decide_eq_false c12
      clear c12
      have H' := Zz.mk H
      clear H
      have p101 : 0 ≤ (x7_1 : Int) := D_
      have q101 : x7_1 < (l0.length : Int) := D_
      obtain ⟨ad101, e101, hx101_0⟩ := Kd.at_int HR0.out x7_1 p101 q101
      cases e101
      replace p101 := eq_true p101
      replace q101 := eq_true q101
      go_wp2_with (first | (go_at_call 79; (with_reducible refine (z79.calls (rd l0 x7_1) a1 a2 true _ A6.out).mono ?_); rintro e w' ⟨rfl, ⟨nd, rfl⟩⟩; (try first | exact ⟨rfl, _, World.drewN_drewN _ _ _⟩ | exact ⟨rfl, _, Eq.trans (World.drewN_drewN _ _ _) (congrArg (World.drewN _) (Nat.add_assoc _ _ _))⟩); have p103 : 0 ≤ ((ji9) : Int) := D_; have q103 : (ji9) < (l0.length : Int) := D_; obtain ⟨ad103, e103, hx103_0⟩ := Kd.at_int HR0.out (ji9) p103 q103; obtain rfl : ad101 = ad103 := (by injection e103); replace p103 := eq_true p103; replace q103 := eq_true q103; have p104 : 0 ≤ (x7_1 : Int) := D_; have q104 : x7_1 < (l0.length : Int) := D_; obtain ⟨ad104, e104, hx104_0⟩ := Kd.at_int HR0.out x7_1 p104 q104; obtain rfl : ad101 = ad104 := (by injection e104); replace p104 := eq_true p104; replace q104 := eq_true q104))
      repeat (go_quiet (first | (go_at_call 79; (with_reducible refine (z79.calls (rd l0 x7_1) a1 a2 true _ A6.out).mono ?_); rintro e w' ⟨rfl, ⟨nd, rfl⟩⟩; (try first | exact ⟨rfl, _, World.drewN_drewN _ _ _⟩ | exact ⟨rfl, _, Eq.trans (World.drewN_drewN _ _ _) (congrArg (World.drewN _) (Nat.add_assoc _ _ _))⟩); have p103 : 0 ≤ ((ji9) : Int) := D_; have q103 : (ji9) < (l0.length : Int) := D_; obtain ⟨ad103, e103, hx103_0⟩ := Kd.at_int HR0.out (ji9) p103 q103; obtain rfl : ad101 = ad103 := (by injection e103); replace p103 := eq_true p103; replace q103 := eq_true q103; have p104 : 0 ≤ (x7_1 : Int) := D_; have q104 : x7_1 < (l0.length : Int) := D_; obtain ⟨ad104, e104, hx104_0⟩ := Kd.at_int HR0.out x7_1 p104 q104; obtain rfl : ad101 = ad104 := (by injection e104); replace p104 := eq_true p104; replace q104 := eq_true q104)); try go_wp2_with (first | (go_at_call 79; (with_reducible refine (z79.calls (rd l0 x7_1) a1 a2 true _ A6.out).mono ?_); rintro e w' ⟨rfl, ⟨nd, rfl⟩⟩; (try first | exact ⟨rfl, _, World.drewN_drewN _ _ _⟩ | exact ⟨rfl, _, Eq.trans (World.drewN_drewN _ _ _) (congrArg (World.drewN _) (Nat.add_assoc _ _ _))⟩); have p103 : 0 ≤ ((ji9) : Int) := D_; have q103 : (ji9) < (l0.length : Int) := D_; obtain ⟨ad103, e103, hx103_0⟩ := Kd.at_int HR0.out (ji9) p103 q103; obtain rfl : ad101 = ad103 := (by injection e103); replace p103 := eq_true p103; replace q103 := eq_true q103; have p104 : 0 ≤ (x7_1 : Int) := D_; have q104 : x7_1 < (l0.length : Int) := D_; obtain ⟨ad104, e104, hx104_0⟩ := Kd.at_int HR0.out x7_1 p104 q104; obtain rfl : ad101 = ad104 := (by injection e104); replace p104 := eq_true p104; replace q104 := eq_true q104)))
      go_roundg k1
      case measure => exact Q1_ HK1
      case rel => exact ⟨(wrap64 (x7_1 + 1)), E_, H', ⟨Q1_ HK1⟩, by repeat (first | exact Dz.refl _ | apply Dz.step)⟩
     rw [if_neg c8] at H
     have c8b0 : decide (0 < x7_1) = false := decide_eq_false c8
     clear c8
     have H' := Zz.mk H
     clear H
     have p101 : 0 ≤ (x7_1 : Int) := D_
     have q101 : x7_1 < (l0.length : Int) := D_
     obtain ⟨ad101, e101, hx101_0⟩ := Kd.at_int HR0.out x7_1 p101 q101
     cases e101
     replace p101 := eq_true p101
     replace q101 := eq_true q101
     go_wp2_with (first | (go_at_call 79; (with_reducible refine (z79.calls (rd l0 x7_1) a1 a2 true _ A6.out).mono ?_); rintro e w' ⟨rfl, ⟨nd, rfl⟩⟩; (try first | exact ⟨rfl, _, World.drewN_drewN _ _ _⟩ | exact ⟨rfl, _, Eq.trans (World.drewN_drewN _ _ _) (congrArg (World.drewN _) (Nat.add_assoc _ _ _))⟩)))
     repeat (go_quiet (first | (go_at_call 79; (with_reducible refine (z79.calls (rd l0 x7_1) a1 a2 true _ A6.out).mono ?_); rintro e w' ⟨rfl, ⟨nd, rfl⟩⟩; (try first | exact ⟨rfl, _, World.drewN_drewN _ _ _⟩ | exact ⟨rfl, _, Eq.trans (World.drewN_drewN _ _ _) (congrArg (World.drewN _) (Nat.add_assoc _ _ _))⟩))); try go_wp2_with (first | (go_at_call 79; (with_reducible refine (z79.calls (rd l0 x7_1) a1 a2 true _ A6.out).mono ?_); rintro e w' ⟨rfl, ⟨nd, rfl⟩⟩; (try first | exact ⟨rfl, _, World.drewN_drewN _ _ _⟩ | exact ⟨rfl, _, Eq.trans (World.drewN_drewN _ _ _) (congrArg (World.drewN _) (Nat.add_assoc _ _ _))⟩))))
     go_roundg k1
     case measure => exact Q1_ HK1
     case rel => exact ⟨(wrap64 (x7_1 + 1)), E_, H', ⟨Q1_ HK1⟩, by repeat (first | exact Dz.refl _ | apply Dz.step)⟩
    replace c7 := Bool.eq_false_iff.mpr c7
    subst c7
    replace H := N_ H
    obtain rfl := OI_ H
    have p101 : 0 ≤ (x7_1 : Int) := D_
    have q101 : x7_1 < (l0.length : Int) := D_
    obtain ⟨ad101, e101, hx101_0⟩ := Kd.at_int HR0.out x7_1 p101 q101
    cases e101
    replace p101 := eq_true p101
    replace q101 := eq_true q101
    go_wp2_with (first | (go_at_call 79; (with_reducible refine (z79.calls (rd l0 x7_1) a1 a2 false _ A6.out).mono ?_); rintro e w' ⟨rfl, ⟨nd, rfl⟩⟩; (try first | exact ⟨rfl, _, World.drewN_drewN _ _ _⟩ | exact ⟨rfl, _, Eq.trans (World.drewN_drewN _ _ _) (congrArg (World.drewN _) (Nat.add_assoc _ _ _))⟩)))
    repeat (go_quiet (first | (go_at_call 79; (with_reducible refine (z79.calls (rd l0 x7_1) a1 a2 false _ A6.out).mono ?_); rintro e w' ⟨rfl, ⟨nd, rfl⟩⟩; (try first | exact ⟨rfl, _, World.drewN_drewN _ _ _⟩ | exact ⟨rfl, _, Eq.trans (World.drewN_drewN _ _ _) (congrArg (World.drewN _) (Nat.add_assoc _ _ _))⟩))); try go_wp2_with (first | (go_at_call 79; (with_reducible refine (z79.calls (rd l0 x7_1) a1 a2 false _ A6.out).mono ?_); rintro e w' ⟨rfl, ⟨nd, rfl⟩⟩; (try first | exact ⟨rfl, _, World.drewN_drewN _ _ _⟩ | exact ⟨rfl, _, Eq.trans (World.drewN_drewN _ _ _) (congrArg (World.drewN _) (Nat.add_assoc _ _ _))⟩))))
    go_ret
    exact eD_
   rw [if_neg c4] at H
   have c4b0 : decide (x7_1 < (l0.length : Int)) = false := decide_eq_false c4
   clear c4
   obtain rfl := OI_ H
   go_wp2
   repeat (go_quiet (fail); try go_wp2)
   go_ret
   exact eD_
def z73.f (k : Nat) (l0 : List Int) : Option (Bool) := (z79.f (l0.length : Int) 1 4).bind fun t101 => (if t101 = true then ((z123.f k l0 0 9).bind fun t102 => (some t102)) else (some false))
theorem z73.calls (k : Nat) (A0 : Option Addr) (c0 : Nat) (l0 : List Int) (r : Bool) (w : World) (hr0 : Kd.C (Kd.int .i64) w A0 l0.length l0) (hc0 : l0.length ≤ c0) (h : z73.f k l0 = some r) :
  Calls Try.prog 73 #[.slice A0 l0.length c0] w fun e w' => e = .returned (.bool r) ∧ Dz w w' := by
 have HR0 := Zz.mk hr0
 have HC0 := Zz.mk hc0
 clear hr0 hc0
 have H : ((z79.f (l0.length : Int) 1 4).bind fun t101 => (if t101 = true then ((z123.f k l0 0 9).bind fun t102 => (some t102)) else (some false))) = some r := h
 clear h
 replace H := OZ_ H
 obtain ⟨t101, A2, H⟩ := H
 by_cases c3 : t101 = true
 ·subst c3
  replace H := T_ H
  replace H := OZ_ H
  obtain ⟨t102, A4, H⟩ := H
  obtain rfl := OI_ H
  go_enter Try.func73, Try.ntmps73
  go_wp2_with (first | ((with_reducible refine gC_ (f := 79) rfl ?_); refine GL_ (some 5) rfl rfl Try.func79 #[.int .i64 (l0.length : Int), .int .i64 1, .int .i64 4] rfl (h := ?_); (with_reducible refine (z79.calls (l0.length : Int) 1 4 true _ A2.out).mono ?_); rintro e w' ⟨rfl, ⟨nd, rfl⟩⟩; refine ⟨_, rfl, ?_⟩) | (go_at_call 123; (with_reducible refine (z123.calls k _ _ l0 0 9 t102 _ ?side1 ?side2 A4.out).mono ?_); (case side1 => exact KC_ HR0.out); (case side2 => exact HC0.out); rintro e w' ⟨rfl, ⟨nd, rfl⟩⟩))
  go_ret
  exact eD_
 replace c3 := Bool.eq_false_iff.mpr c3
 subst c3
 replace H := N_ H
 obtain rfl := OI_ H
 go_enter Try.func73, Try.ntmps73
 go_wp2_with (first | ((with_reducible refine gC_ (f := 79) rfl ?_); refine GL_ (some 5) rfl rfl Try.func79 #[.int .i64 (l0.length : Int), .int .i64 1, .int .i64 4] rfl (h := ?_); (with_reducible refine (z79.calls (l0.length : Int) 1 4 false _ A2.out).mono ?_); rintro e w' ⟨rfl, ⟨nd, rfl⟩⟩; refine ⟨_, rfl, ?_⟩))
 go_ret
 exact eD_
end Go.Proofs.Ytipkciildhghiaa.B
