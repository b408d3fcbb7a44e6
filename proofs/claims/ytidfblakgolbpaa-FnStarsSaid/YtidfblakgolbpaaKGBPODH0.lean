/- Printed proofs of functions of the program and of the reference, by a program of this work over the kit's printer. -/
import Derived.Test.YtidfblakgolbpaaKW0
import Derived.ArgAppend
import Derived.Below
import Derived.BigQuiet
import Derived.ChangeOld
import Derived.Deep.AppendLies
import Derived.Deep.CutBlock
import Derived.Deep.DeepCutAuto
import Derived.Deep.Draws
import Derived.Deep.LoopGhost
import Derived.Deep.Matrix
import Derived.Deep.OwnRows
import Derived.Deep.QuietTactic
import Derived.Deep.RegionHeld3
import Derived.KernelRfl
import Derived.Laws.BitsLemmas
import Derived.Laws.BytesArg
import Derived.Laws.IdiomCopy
import Derived.Laws.MakeOwn
import Derived.Laws.OwnMore
import Derived.Laws.Rows
import Derived.Laws.Slices
import Derived.Lib.AppendStr
import Derived.Lib.ConvBytes
import Derived.Lib.SliceRun
import Derived.Lib.SmallJoins
import Derived.Maps.AppendAt
import Derived.OpenShut
import Derived.OrdersHeld
import Derived.OwnWalk
import Derived.ProofKit
import Derived.RowKit
import Derived.RowKit3
import Derived.Shelf.SlSortCmp.NoneTotal
import Derived.Shelf.SlicesE.DeleteFunc
import Derived.ShutString
import Derived.SizedLaws
import Derived.Sort.Grow
import Derived.Tactics
import Derived.Test.YtidfblakgolbpaaProg
import Derived.WalkKit
import Derived.WideLaws
/- Words of our own: rows told by the heap's size. -/
namespace Go.Proofs.YtidfblakgolbpaaW.PrintWords.Kd
open Go.RowKit
section
variable {α : Type} {d : Kd α} {e base n B g t : Nat} {ok : Nat → Prop} {W w1 : World} {u v : Value} {xs : List α}
theorem size_letter {w0 : World} (_ : Below W.heap.size w0 w1) : ∃ n : Nat, n = W.heap.size := ⟨_, rfl⟩
theorem S_oldN (h : S d e W base ok u xs) (hb : Below W.heap.size W w1) (hn : n = W.heap.size) : S d e w1 base (fun k => ok k ∧ k < n) u xs := by subst hn; exact S_old h hb
theorem R_oldN (h : d.R e W base ok u xs) (hb : Below W.heap.size W w1) (hn : n = W.heap.size) : d.R e w1 base (fun k => ok k ∧ k < n) u xs := by subst hn; exact R_mono (R_below (R_bound h) hb) (fun _ hk => ⟨hk.1, hk.2.2.1⟩)
theorem S_baseN (h : S d e w1 B ok v xs) (hn : n = B) : ∀ k, v.ownBlock = some k → n ≤ k := by subst hn; exact S_base h
theorem R_baseN (h : d.R e w1 B ok v xs) (hn : n = B) : ∀ k, v.ownBlock = some k → n ≤ k := by subst hn; exact R_base h
theorem S_geN (h : S d e w1 B ok v xs) (hn : n = B) : S d e w1 B (fun k => ok k ∧ n ≤ k) v xs := by subst hn; exact S_mono (S_bound h) (fun _ hk => ⟨hk.1, hk.2.1⟩)
theorem R_geN (h : d.R e w1 B ok v xs) (hn : n = B) : d.R e w1 B (fun k => ok k ∧ n ≤ k) v xs := by subst hn; exact R_mono (R_bound h) (fun _ hk => ⟨hk.1, hk.2.1⟩)
theorem S_pin (h : S d e W base ok v xs) : S d e W base (fun k => ok k ∧ ∃ q, q ∈ e :: d.E ∧ ∃ cells, W.heap[k]? = some (.cells cells q (0, 0))) v xs := S_mono (S_bound h) (fun _ hk => ⟨hk.1, hk.2.2.2⟩)
theorem typed_ne {E : List Nat} {cs : Array Value} {fr : Nat × Nat} (hb : W.heap[g]? = some (.cells cs t fr)) (hs : ∃ q, q ∈ E ∧ ∃ cells, W.heap[g]? = some (.cells cells q (0, 0))) (ht : ∀ q, q ∈ E → q ≠ t) : False := by
  obtain ⟨q, hq, cells, hc⟩ := hs
  rw [hb] at hc
  injection hc with hc
  injection hc with _ hc
  exact ht q hq hc.symm
end
end Go.Proofs.YtidfblakgolbpaaW.PrintWords.Kd
namespace Go.Proofs.Ytidfblakgolbpaa.B
open Go.RowKit Go.Proofs.YtidfblakgolbpaaW.PrintWords Go.Proofs.YtidfblakgolbpaaW.PrintLast Go.Proofs.YtidfblakgolbpaaW.PrintMore
attribute [local go_sem] max2_int min2_int max_two min_two max_three min_three max_four min_four
set_option linter.unusedVariables false
set_option linter.unusedSimpArgs false
def errW : Option Int → Value
 | none => .nilIface
 | some c => .iface 0 (.int .i64 c)
theorem errW_none : errW none = .nilIface := rfl
theorem errW_some (c : Int) : errW (some c) = .iface 0 (.int .i64 c) := rfl
/-! words that make the printed proofs shorter -/
theorem E_ {p : Prop} (h : p := by first | rfl | (simp; done) | (simp [*]; done)) : p := h
theorem F_ {p : Prop} (h : p := by first | rfl | (simp [errW_none, errW_some] <;> rfl) | (simp [*, errW_none, errW_some] <;> rfl)) : p := h
theorem D_ {c : Prop} [Decidable c] (h : decide c = true := by first | (with_reducible assumption) | assumption) : c := of_decide_eq_true h
theorem B_ {p q : Prop} (x : q) (h : q → p := by intro hx_; repeat (first | (with_reducible first | exact hx_ | apply below_alloc | apply pw_below_drewN | apply below_drew1) | exact hx_)) : p := h x
theorem B1_ {p q g1 : Prop} (x : q) (y1 : g1) (h : q → g1 → p := by intro hx_ hy_; repeat (first | (with_reducible first | exact hx_ | apply below_alloc | apply pw_below_drewN | apply below_drew1 | refine below_set ?_ hy_) | exact hx_)) : p := h x y1
theorem B2_ {p q g1 g2 : Prop} (x : q) (y1 : g1) (y2 : g2) (h : q → g1 → g2 → p := by intro hx_ hy_ hz_; repeat (first | (with_reducible first | exact hx_ | apply below_alloc | apply pw_below_drewN | apply below_drew1 | refine below_set ?_ hy_ | refine below_set ?_ hz_) | exact hx_)) : p := h x y1 y2
theorem B3_ {p q g1 g2 g3 : Prop} (x : q) (y1 : g1) (y2 : g2) (y3 : g3) (h : q → g1 → g2 → g3 → p := by intro hx_ hy_ hz_ hu_; repeat (first | (with_reducible first | exact hx_ | apply below_alloc | apply pw_below_drewN | apply below_drew1 | refine below_set ?_ hy_ | refine below_set ?_ hz_ | refine below_set ?_ hu_) | exact hx_)) : p := h x y1 y2 y3
theorem KS_ {p q : Prop} (x : q) (h : q → p := by intro hx_; (with_reducible repeat (first | apply Kd.S_alloc | apply Kd.S_drewN | apply Kd.S_drew)); exact hx_) : p := h x
theorem KR_ {p q : Prop} (x : q) (h : q → p := by intro hx_; (with_reducible repeat (first | apply Kd.R_alloc | apply Kd.R_drewN | apply Kd.R_drew)); exact hx_) : p := h x
theorem KN_ {p q : Prop} (x : q) (h : q → p := by intro hx_; (with_reducible repeat (first | apply Kd.N_alloc | apply Kd.N_drewN | apply Kd.N_drew)); exact hx_) : p := h x
theorem KB_ {p q : Prop} (x : q) (h : q → p := by intro hx_; (with_reducible repeat (first | refine blk_drewN ?_ _ | refine blk_drew ?_ | refine blk_alloc ?_ _)); exact hx_) : p := h x
theorem KC_ {p q : Prop} (x : q) (h : q → p := by intro hx_; repeat (first | (with_reducible exact hx_) | (with_reducible refine Kd.C_alloc ?_ _) | (with_reducible refine Kd.C_drewN ?_ _) | (with_reducible refine Kd.C_drew ?_) | exact hx_)) : p := h x
theorem O1_ {α : Type} {c : Prop} {i : Decidable c} {t : Option α} {r : α} (h : (@ite _ c i t none) = some r) : c := by
 by_cases hc : c
 ·exact hc
 ·rw [if_neg hc] at h; cases h
theorem O2_ {α : Type} {c : Prop} {i : Decidable c} {t : Option α} {r : α} (h : (@ite _ c i t none) = some r) : t = some r := by
 by_cases hc : c
 ·rw [if_pos hc] at h; exact h
 ·rw [if_neg hc] at h; cases h
theorem T_ {α : Type} {i : Decidable (true = true)} {t f x : α} (h : (@ite _ (true = true) i t f) = x) : t = x := by rw [if_pos rfl] at h; exact h
theorem N_ {α : Type} {i : Decidable (false = true)} {t f x : α} (h : (@ite _ (false = true) i t f) = x) : f = x := by rw [if_neg Bool.false_ne_true] at h; exact h
theorem X_ {α : Type} {r : α} {p : Prop} (h : (none : Option α) = some r) : p := by cases h
theorem Y_ {a b e : Prop} (x : e) (y : a) (h : e → a → b := by intro hy_ H; first | (rw [hy_]; with_reducible exact H) | (have H2_ := (Option.bind_some _ _).symm.trans H; rw [hy_]; with_reducible exact H2_) | (have H2_ := (Option.bind_some _ _).symm.trans H; with_reducible exact H2_) | with_reducible exact H | (rw [hy_]; exact H) | exact H) : b := h x y
theorem Q1_ {p a : Prop} (x : Aside0 a) (h : a → p := by intros; omega) : p := h x.out
theorem Q2_ {p a b : Prop} (x : Aside0 a) (y : Aside0 b) (h : a → b → p := by intros; omega) : p := h x.out y.out
theorem Q3_ {p a b c : Prop} (x : Aside0 a) (y : Aside0 b) (z : Aside0 c) (h : a → b → c → p := by intros; omega) : p := h x.out y.out z.out
theorem Q4_ {p a b c d : Prop} (x : Aside0 a) (y : Aside0 b) (z : Aside0 c) (u : Aside0 d) (h : a → b → c → d → p := by intros; omega) : p := h x.out y.out z.out u.out
theorem Q5_ {p a b c d e : Prop} (x : Aside0 a) (y : Aside0 b) (z : Aside0 c) (u : Aside0 d) (v : Aside0 e) (h : a → b → c → d → e → p := by intros; omega) : p := h x.out y.out z.out u.out v.out
theorem L1_ {p a : Prop} (x : a) (h : a → p := by intro h1_; repeat' first | (with_reducible apply h1_) | (with_reducible exact LeO.refl _) | (with_reducible exact LeO.none _) | (with_reducible refine LeO.ite ?_ ?_) | (with_reducible refine LeO.bind ?_ (fun _ => ?_)) | exact LeO.none _ | refine LeO.ite ?_ ?_ | refine LeO.bind ?_ (fun _ => ?_)) : p := h x
def tbl_ : Nat → Nat → List Bool
 | 0, _ => []
 | n + 1, m => (m % 2 == 1) :: tbl_ n (m / 2)
def tb_ (n m : Nat) : Array Bool := (tbl_ n m).toArray
section
open Go.RowKit
variable {P : Program} {md : Region.Mode} {ops : Array Oper} {ds : List Nat} {Q : Exit → Act → World → Prop} {S : World → Prop} {T : Bool × List (List Nat × List Nat)} {B : List Nat}
theorem PV_ {i : Nat} {N : Option Tmp} {oi : Oper} {v : Value} {fuel : Nat} {l : Array Bool} {a a' : Act} {w : World} (l' : Array Bool) (HT : Aside0 (rtab md ops = T)) (hi : ops[i]? = some oi) (hN : oi.dst = N) (hc : anyT T l.toList l'.toList i = true := by kernel_rfl)
  (hQ : ∀ c a w, Q (.panic c) (a.put oi.dst v) w → Q (.panic c) a w := by exact fun _ _ _ h => h) (h1 : Region.wanted oi (yielded ops a.tmps) = true := by rfl) (h2 : ∀ w, (execOp a.eval oi).run P w = .ok (.value v) w := by intro w'; go_simp; with_reducible rfl) (ha : a.put N v = a' := by simp only [Act.put, List.setIfInBounds_toArray, List.set_cons_zero, List.set_cons_succ, i64_w, i32_w]; rfl)
  (h : wpAnyLast P md ops Q S ds fuel l' a' w) : wpAnyLast P md ops Q S ds (fuel + 1) l a w := pure_ l' hi hN (any_of HT.out hc) hQ (Or.inl ⟨h1, h2⟩) ha h
theorem PU_ {i : Nat} {N : Option Tmp} {oi : Oper} {fuel : Nat} {l : Array Bool} {a a' : Act} {w : World} (l' : Array Bool) (HT : Aside0 (rtab md ops = T)) (hi : ops[i]? = some oi) (hN : oi.dst = N) (hc : anyT T l.toList l'.toList i = true := by kernel_rfl)
  (hQ : ∀ c a w, Q (.panic c) (a.put oi.dst undef) w → Q (.panic c) a w := by exact fun _ _ _ h => h) (h1 : Region.wanted oi (yielded ops a.tmps) = false := by rfl) (ha : a.put N undef = a' := by simp only [Act.put, List.setIfInBounds_toArray, List.set_cons_zero, List.set_cons_succ, i64_w, i32_w]; rfl)
  (h : wpAnyLast P md ops Q S ds fuel l' a' w) : wpAnyLast P md ops Q S ds (fuel + 1) l a w := pure_ l' hi hN (any_of HT.out hc) hQ (Or.inr ⟨h1, rfl⟩) ha h
theorem TV_ {i : Nat} {N : Option Tmp} {oi : Oper} {v : Value} {fuel : Nat} {l : Array Bool} {a a' : Act} {w : World} (l' : Array Bool) (HT : Aside0 (rtab md ops = T)) (HW : Aside0 (waitsOk T.2 B = true)) (hi : ops[i]? = some oi) (hN : oi.dst = N) (hS : S w) (h2 : ∀ w, S w → (execOp a.eval oi).run P w = .ok (.value v) w) (hc : takeW T B ds l.toList l'.toList i = true := by kernel_rfl)
  (hQ : ∀ c a w, Q (.panic c) (a.put oi.dst v) w → Q (.panic c) a w := by exact fun _ _ _ h => h) (h1 : Region.wanted oi (yielded ops a.tmps) = true := by rfl) (ha : a.put N v = a' := by simp only [Act.put, List.setIfInBounds_toArray, List.set_cons_zero, List.set_cons_succ, i64_w, i32_w]; rfl)
  (h : wpAnyLast P md ops Q S ds fuel l' a' w) : wpAnyLast P md ops Q S ds (fuel + 1) l a w := take_ l' hi hN (take_ofW HT.out HW.out hc) hQ (Or.inl ⟨h1, h2⟩) hS ha h
theorem GO_ {oi : Oper} {N : Option Tmp} {a : Act} {w : World} {K : Act → World → Prop} {f : FuncId} {fn : Func} {as_ : Array Operand} {ts : Array TypeId} (hf : P.funcs[f]? = some fn) (args : Array Value) (hname : (fn.name == "runtime.NumGoroutine") = false := by kernel_rfl) (hb : fn.body.isSome = true := by exact rfl)
  (hw : Region.wanted oi (yielded ops a.tmps) = true := by rfl) (hN : oi.dst = N := by exact rfl) (hop : oi.op = .call { callee := .value (.func f), args := as_, argTypes := ts } := by exact rfl) (hargs : as_.map a.eval = args := by (try simp only [List.map_toArray, List.map_cons, List.map_nil]); first | done | rfl | (simp only [List.length_drop, List.length_take]; rfl))
  (h : Calls P f args w fun e w' => ∃ v, e = .returned v ∧ K (a.put N v) w') : if Region.wanted oi (yielded ops a.tmps) = true then Oper.wp P oi a w K Q else K (a.put N undef) w := goes_ hf hname hb args hw hN hop hargs h
theorem GL_ {rest : List Oper} {oi : Oper} {a : Act} {w : World} (N : Option Tmp) {f : FuncId} {fn : Func} {as_ : Array Operand} {ts : Array TypeId} (hd : oi.dst = N) (hg : oi.guard = none) (hf : P.funcs[f]? = some fn) (args : Array Value) (hop : oi.op = .call { callee := .value (.func f), args := as_, argTypes := ts }) (hname : (fn.name == "runtime.NumGoroutine") = false := by kernel_rfl) (hb : fn.body.isSome = true := by exact rfl)
  (hargs : as_.map a.eval = args := by (try simp only [List.map_toArray, List.map_cons, List.map_nil]); first | done | rfl | (simp only [List.length_drop, List.length_take]; rfl))
  (h : Calls P f args w fun e w' => ∃ v, e = .returned v ∧ wpList P ops Q rest (a.put N v) w') : wpList P ops Q (oi :: rest) a w := goesL_ N hd hg hf hname hb args hop hargs h
theorem NM_ {N : Option Tmp} {v : Value} {fuel : Nat} {l : Array Bool} {a a' : Act} {w : World} (ha : a.put N v = a' := by simp only [Act.put, List.setIfInBounds_toArray, List.set_cons_zero, List.set_cons_succ, i64_w, i32_w]; rfl)
  (h : wpAnyLast P md ops Q S ds fuel l a' w) : wpAnyLast P md ops Q S ds fuel l (a.put N v) w := norm_ ha h
end
theorem info2 : (Try.prog.info? 2).map (fun i => (i.zero, i.size, i.bytes)) = some (some (.int .i64 0), 1, 8) := by kernel_rfl
theorem info3 : (Try.prog.info? 3).map (fun i => (i.zero, i.size, i.bytes)) = some (some (.int .i64 0), 1, 8) := by kernel_rfl
theorem info29 : (Try.prog.info? 29).map (fun i => (i.zero, i.size, i.bytes)) = some (some (.slice none 0 0), 1, 24) := by kernel_rfl
def rd_ListInt (xs : List (List Int)) (i : Int) : (List Int) := xs.getD i.toNat ([] : List Int)
theorem at_ListInt {w : World} {A : Option Addr} {n : Nat} {xs : List (List Int)} (h : Kd.C (Kd.slice 2 (Kd.int .i64)) w A n xs) (i : Int) (h0 : 0 ≤ i) (h1 : i < n) : ∃ ad A0 c0, A = some ad ∧ w.cell? (ad.add i.toNat) = some (.slice A0 (rd_ListInt xs i).length c0) ∧ (rd_ListInt xs i).length ≤ c0 ∧ (Kd.int .i64).C w A0 (rd_ListInt xs i).length (rd_ListInt xs i) := by
 obtain ⟨ad, c, e, _, hK, hc0⟩ := Kd.C_get h ([] : List Int) i h0 h1
 have hc : ∀ j u, c[j]? = some u → w.cell? (ad.add (i.toNat * 1 + j)) = some u := hc0
 obtain ⟨A0, c0, rfl, l0, g0⟩ := hK
 exact ⟨ad, A0, c0, e, by have hq := hc 0 _ rfl; rwa [Nat.mul_one, Nat.add_zero] at hq, l0, g0⟩
def rd_ListListInt (xs : List (List (List Int))) (i : Int) : (List (List Int)) := xs.getD i.toNat ([] : List (List Int))
theorem at_ListListInt {w : World} {A : Option Addr} {n : Nat} {xs : List (List (List Int))} (h : Kd.C (Kd.slice 29 (Kd.slice 2 (Kd.int .i64))) w A n xs) (i : Int) (h0 : 0 ≤ i) (h1 : i < n) : ∃ ad A0 c0, A = some ad ∧ w.cell? (ad.add i.toNat) = some (.slice A0 (rd_ListListInt xs i).length c0) ∧ (rd_ListListInt xs i).length ≤ c0 ∧ (Kd.slice 2 (Kd.int .i64)).C w A0 (rd_ListListInt xs i).length (rd_ListListInt xs i) := by
 obtain ⟨ad, c, e, _, hK, hc0⟩ := Kd.C_get h ([] : List (List Int)) i h0 h1
 have hc : ∀ j u, c[j]? = some u → w.cell? (ad.add (i.toNat * 1 + j)) = some u := hc0
 obtain ⟨A0, c0, rfl, l0, g0⟩ := hK
 exact ⟨ad, A0, c0, e, by have hq := hc 0 _ rfl; rwa [Nat.mul_one, Nat.add_zero] at hq, l0, g0⟩
end Go.Proofs.Ytidfblakgolbpaa.B
/- slices.Grow (of nil) of whole numbers: walked by hand. -/
set_option linter.unusedVariables false
set_option linter.unusedSimpArgs false
namespace Go.Proofs.Ytidfblakgolbpaa.B
open Go.RowKit Go.Proofs.YtidfblakgolbpaaW.PrintWords Go.Proofs.YtidfblakgolbpaaW.PrintLast Go.Proofs.YtidfblakgolbpaaW.PrintMore
def slices_Grow_int64_int64.f (l0 : List Int) (a1 : Int) : Option (List Int) := if (l0 = [] ∧ 0 ≤ a1) ∧ a1 ≤ 17592186044415 then some [] else none
set_option maxHeartbeats 2000000 in
theorem slices_Grow_int64_int64.calls (A0 : Option Addr) (c0 : Nat) (l0 : List Int) (a1 : Int) (r : List Int) (w : World) (hr0 : Kd.C (Kd.int .i64) w A0 l0.length l0) (hc0 : l0.length ≤ c0) (h : slices_Grow_int64_int64.f l0 a1 = some r) (hA : A0 = none := by rfl) (hC : c0 = 0 := by rfl) :
    Calls Try.prog 72 #[.slice A0 l0.length c0, .int .i64 a1] w fun e w' => ∃ v0_ : Value, e = .returned (v0_) ∧ Kd.R (Kd.int .i64) 2 w' w.heap.size (fun _ => True) v0_ r ∧ Below w.heap.size w w' := by
  unfold slices_Grow_int64_int64.f at h
  have hc := O1_ h
  obtain rfl := Option.some.inj (O2_ h)
  obtain ⟨⟨rfl, h0⟩, hm⟩ := hc
  subst hA; subst hC
  clear h hr0 hc0
  have hw3 : wrap64 a1 = a1 := by unfold wrap64; omega
  have d0 : decide (a1 < 0) = false := decide_eq_false (by omega)
  by_cases hz : a1 = 0
  · subst hz
    clear hw3
    go_enter Try.func72, Try.ntmps72
    go_wp2
    go_ret
    exact ⟨_, rfl, Kd.R_nil _ _ _ _ _, Below.refl _ _⟩
  · have d1 : decide (0 < wrap64 a1) = true := decide_eq_true (by omega)
    have HM := Aside0.mk (show wrap64 a1 ≤ 17592186044415 by omega)
    have H0 := Aside0.mk (show 0 ≤ wrap64 a1 by omega)
    clear hz hm h0 hw3
    go_enter Try.func72, Try.ntmps72
    go_wp2_with ((with_reducible refine gate_builtin (b := .append) (xs := #[.tmp 20, .tmp 21]) rfl ?_); at_builtin; refine Kd.R_append_zeros (Kd.int .i64) (w0 := w) w.heap.size rfl (.tmp 20) (.tmp 21) 29 3 2 (.int .i64 0) 8 rfl Try.underlying29 Try.underlying3 info2 rfl (by decide) (by omega) (.slice none 0 0) ([] : List Int) 0 (wrap64 a1) (fun _ => True) rfl rfl rfl (fun _ _ => trivial) (Kd.R_nil _ _ _ _ _) H0.out (Below.refl _ _) (Nat.le_refl _) (by have := HM.out; have := H0.out; simp only [List.length_nil]; omega) ?_; intro v1 w1 ho hb hg hat; obtain ⟨A1, cc, rfl⟩ := Kd.R_slice ho; have HO := Aside0.mk (Kd.R_take ho (Nat.zero_le _)); have HB := Aside0.mk hb; clear ho hb hg hat)
    go_ret
    exact ⟨_, rfl, by simpa using HO.out, HB.out⟩
end Go.Proofs.Ytidfblakgolbpaa.B
namespace Go.Proofs.Ytidfblakgolbpaa.B
open Go.RowKit Go.Proofs.YtidfblakgolbpaaW.PrintWords Go.Proofs.YtidfblakgolbpaaW.PrintLast Go.Proofs.YtidfblakgolbpaaW.PrintMore
attribute [local go_sem] max2_int min2_int max_two min_two max_three min_three max_four min_four
set_option linter.unusedVariables false
set_option linter.unusedSimpArgs false
mutual
def z55.l0 : Nat → List (List Int) → Int → List (List Int) → Int → Int → Option (List Int)
 | 0, _, _, _, _, _ => none
 | k + 1, x0, x3, x9, x10, x11 => if x11 < x10 then (if 0 ≤ x11 then (if x11 < (x9.length : Int) then (if (wrap64 (x3 + ((rd_ListInt x9 x11).length : Int))) < 0 then (none) else (z55.l0 k x0 (wrap64 (x3 + ((rd_ListInt x9 x11).length : Int))) x9 x10 (wrap64 (x11 + 1)))) else (none)) else (none)) else ((slices_Grow_int64_int64.f ([] : List Int) x3).bind fun t102 => (z55.l1 k t102 x0 (x0.length : Int) 0))
def z55.l1 : Nat → List Int → List (List Int) → Int → Int → Option (List Int)
 | 0, _, _, _, _ => none
 | k + 1, x6, x25, x26, x27 => if x27 < x26 then (if 0 ≤ x27 then (if x27 < (x25.length : Int) then (if x6.length + (rd_ListInt x25 x27).length < 17592186044416 then (z55.l1 k (x6 ++ (rd_ListInt x25 x27)) x25 x26 (wrap64 (x27 + 1))) else (none)) else (none)) else (none)) else (some x6)
end
def z55.f (k : Nat) (l0 : List (List Int)) : Option (List Int) := z55.l0 k l0 0 l0 (l0.length : Int) 0
set_option maxHeartbeats 8000000 in
set_option maxRecDepth 100000 in
theorem z55.calls (k : Nat) (A0 : Option Addr) (c0 : Nat) (l0 : List (List Int)) (r : List Int) (w : World) (hr0 : Kd.C (Kd.slice 2 (Kd.int .i64)) w A0 l0.length l0) (hc0 : l0.length ≤ c0) (h : z55.f k l0 = some r) :
  Calls Try.prog 55 #[.slice A0 l0.length c0] w fun e w' => ∃ v0_ : Value, e = .returned (v0_) ∧ Kd.R (Kd.int .i64) 2 w' w.heap.size (fun _ => True) v0_ r ∧ Below w.heap.size w w' := by
 have HR0 := Aside0.mk hr0
 have HC0 := Aside0.mk hc0
 clear hr0 hc0
 have HB := Aside0.mk (Below.refl w.heap.size w)
 have H : (z55.l0 k l0 0 l0 (l0.length : Int) 0) = some r := h
 clear h
 have H' := Aside0.mk H
 clear H
 go_enter Try.func55, Try.ntmps55
 go_wp2
 go_loopg [3, 11] k (fun kq v3 v11 w' => ∃ (x3_1 : Int) (x11_1 : Int), v3 = .int .i64 x3_1 ∧ v11 = .int .i64 x11_1 ∧ Aside0 (z55.l0 kq l0 x3_1 l0 (l0.length : Int) x11_1 = some r) ∧ Aside0 (kq ≤ k) ∧ Aside0 (Below w.heap.size w w'))
 case atStart => exact ⟨(0), (0), E_, E_, H', ⟨Nat.le_refl _⟩, ⟨B_ HB.out⟩⟩
 case round =>
  clear H'
  obtain ⟨x3_1, x11_1, rfl, rfl, HA, HK1, HB⟩ := hrel
  cases gk with
  | zero => exact absurd HA.out (by simp [z55.l0])
  | succ k1 =>
   have H := HA.out
   clear HA
   simp only [z55.l0] at H
   by_cases c2 : x11_1 < (l0.length : Int)
   ·rw [if_pos c2] at H
    have c2b0 : decide (x11_1 < (l0.length : Int)) = true := decide_eq_true c2
    clear c2
    have c3 := O1_ H
    replace H := O2_ H
    have c3b0 := decide_eq_true c3
    clear c3
    have c4 := O1_ H
    replace H := O2_ H
    have c4b0 := decide_eq_true c4
    clear c4
    by_cases c5 : (wrap64 (x3_1 + ((rd_ListInt l0 x11_1).length : Int))) < 0
    ·rw [if_pos c5] at H
     exact X_ H
    ·rw [if_neg c5] at H
     have c5b0 : decide ((wrap64 (x3_1 + ((rd_ListInt l0 x11_1).length : Int))) < 0) = false := decide_eq_false c5
     clear c5
     have H' := Aside0.mk H
     clear H
     have p101 : 0 ≤ (x11_1 : Int) := D_
     have q101 : x11_1 < (l0.length : Int) := D_
     obtain ⟨ad101, A101_0, c101_0, e101, hx101_0, hl101_0, hi101_0⟩ := at_ListInt HR0.out x11_1 p101 q101
     cases e101
     replace hx101_0 := (HB.out.cell (World.block_lt_of_cell? w _ hx101_0)).trans hx101_0
     have HR101_0 := Aside0.mk hi101_0
     have HC101_0 := Aside0.mk hl101_0
     clear hi101_0 hl101_0
     replace p101 := eq_true p101
     replace q101 := eq_true q101
     go_wp2
     go_roundg k1
     case measure => exact Q1_ HK1
     case rel => exact ⟨(wrap64 (x3_1 + ((rd_ListInt l0 x11_1).length : Int))), (wrap64 (x11_1 + 1)), E_, E_, H', ⟨Q1_ HK1⟩, ⟨B_ HB.out⟩⟩
   ·rw [if_neg c2] at H
    have c2b0 : decide (x11_1 < (l0.length : Int)) = false := decide_eq_false c2
    clear c2
    replace H := Option.bind_eq_some_iff.mp H
    obtain ⟨t102, A60, H⟩ := H
    have A6 := Aside0.mk A60
    clear A60
    have H' := Aside0.mk H
    clear H
    go_wp2_with (first | ((with_reducible refine gate_callee (f := 72) rfl ?_); refine goesL_ (some 24) rfl rfl Try.func72 (by kernel_rfl) rfl #[.slice none 0 0, .int .i64 x3_1] rfl (by (try simp only [List.map_toArray, List.map_cons, List.map_nil]); first | done | rfl | (simp only [List.length_drop, List.length_take]; rfl)) ?_; (refine (slices_Grow_int64_int64.calls _ _ ([] : List Int) x3_1 t102 _ ?side1 ?side2 A6.out).mono ?_); (case side1 => exact Kd.C_nil _ _); (case side2 => exact Nat.le_refl _); rintro e w7 ⟨v103, rfl, ho0, hb⟩; refine ⟨_, rfl, ?_⟩; have HO104 := Aside0.mk (Kd.R_lower ho0 (below_size (B_ HB.out))); replace HB := Aside0.mk (below_step (B_ HB.out) hb); (try clear hb); (try clear hb2); (try clear hk); (try clear hi); (try clear ho0)))
    go_loopg [6, 27] k1 (fun kq v6 v27 w' => ∃ (x6_2 : List Int) (x27_2 : Int), v27 = .int .i64 x27_2 ∧ Aside0 (z55.l1 kq x6_2 l0 (l0.length : Int) x27_2 = some r) ∧ Aside0 (kq ≤ k1) ∧ Aside0 (Kd.R (Kd.int .i64) 2 w' w.heap.size (fun _ => True) v6 x6_2) ∧ Aside0 (Below w.heap.size w w'))
    case atStart => exact ⟨(t102), (0), E_, H', ⟨Nat.le_refl _⟩, ⟨KR_ HO104.out⟩, ⟨B_ HB.out⟩⟩
    case round =>
     clear H'
     (try clear c1);(try clear p1);(try clear q1);(try clear hx1);(try clear c2);(try clear c2b0);(try clear p2);(try clear c3);(try clear c3b0);(try clear c4);(try clear c4b0);(try clear c5);(try clear c5b0);(try clear p6);(try clear c7);(try clear hx101_0);(try clear p101);(try clear q101)
     obtain ⟨x6_2, x27_2, rfl, HA, HK2, HO_6, HB⟩ := hrel
     cases gk with
     | zero => exact absurd HA.out (by simp [z55.l1])
     | succ k2 =>
      have H := HA.out
      clear HA
      simp only [z55.l1] at H
      by_cases c8 : x27_2 < (l0.length : Int)
      ·rw [if_pos c8] at H
       have c8b0 : decide (x27_2 < (l0.length : Int)) = true := decide_eq_true c8
       clear c8
       have c9 := O1_ H
       replace H := O2_ H
       have c9b0 := decide_eq_true c9
       clear c9
       have c10 := O1_ H
       replace H := O2_ H
       have c10b0 := decide_eq_true c10
       clear c10
       have c11 := O1_ H
       replace H := O2_ H
       have LMc11 := Aside0.mk c11
       clear c11
       obtain ⟨y106, hy106⟩ : ∃ y_ : List Int, y_ = (x6_2 ++ (rd_ListInt l0 x27_2)) := ⟨_, rfl⟩
       replace H : (z55.l1 k2 y106 l0 (l0.length : Int) (wrap64 (x27_2 + 1))) = some r := Y_ hy106 H
       have Ny106 := Aside0.mk hy106
       clear hy106
       have H' := Aside0.mk H
       clear H
       have p105 : 0 ≤ (x27_2 : Int) := D_
       have q105 : x27_2 < (l0.length : Int) := D_
       obtain ⟨ad105, A105_0, c105_0, e105, hx105_0, hl105_0, hi105_0⟩ := at_ListInt HR0.out x27_2 p105 q105
       cases e105
       replace hx105_0 := (HB.out.cell (World.block_lt_of_cell? w _ hx105_0)).trans hx105_0
       have HR105_0 := Aside0.mk hi105_0
       have HC105_0 := Aside0.mk hl105_0
       clear hi105_0 hl105_0
       replace p105 := eq_true p105
       replace q105 := eq_true q105
       go_wp2_with (first | ((with_reducible refine gate_builtin (b := .append) (xs := #[.tmp 31, .tmp 32]) rfl ?_); at_builtin; refine Kd.R_append_rows (Kd.int .i64) (w0 := w) w.heap.size rfl (.tmp 31) (.tmp 32) 29 2 (.int .i64 0) 8 rfl Try.underlying29 info2 rfl (by decide) (by omega) u6 x6_2 (rd_ListInt l0 x27_2) _ _ _ (fun _ => True) (fun _ => False) rfl rfl ?aO ?aR (fun _ _ h => h) (fun _ h => h.elim) ?aF ?aB ?aS ?aL ?_; (case aR => exact KC_ (Kd.C_below HR105_0.out HB.out)); (case aB => exact (B_ HB.out)); (case aF => exact (fun _ _ => trivial)); (case aO => exact (KR_ HO_6.out)); (case aS => exact (below_size (B_ HB.out))); (case aL => have := LMc11.out; omega); intro v107 w12 ho hb hg hat; rw [← Ny106.out] at ho; replace HB := Aside0.mk (hb); have HO108 := Aside0.mk (ho); clear HO_6; clear ho hb hg hat))
       go_roundg k2
       case measure => exact Q2_ HK1 HK2
       case rel => exact ⟨(y106), (wrap64 (x27_2 + 1)), E_, H', ⟨Q2_ HK1 HK2⟩, ⟨KR_ HO108.out⟩, ⟨B_ HB.out⟩⟩
      ·rw [if_neg c8] at H
       have c8b0 : decide (x27_2 < (l0.length : Int)) = false := decide_eq_false c8
       clear c8
       obtain rfl := Option.some.inj H
       go_wp2
       go_ret
       exact ⟨_, F_, KR_ HO_6.out, B_ HB.out⟩
def z83.f (a0 : Int) : Option (Bool) := some (a0 != a0)
set_option maxHeartbeats 8000000 in
set_option maxRecDepth 100000 in
theorem z83.calls (a0 : Int) (r : Bool) (w : World) (h : z83.f a0 = some r) :
  Calls Try.prog 83 #[.int .i64 a0] w fun e w' => e = .returned (.bool r) ∧ Drawn0 w w' := by
 have H : (some (a0 != a0)) = some r := h
 clear h
 obtain rfl := Option.some.inj H
 go_enter Try.func83, Try.ntmps83
 go_wp2
 go_ret
 exact ⟨by first | rfl | (simp; done) | (simp [*]; done), by repeat (first | exact Drawn0.refl _ | apply Drawn0.step)⟩
def z62.f (a0 : Int) (a1 : Int) : Option (Int) := (z83.f a0).bind fun t101 => ((z83.f a1).bind fun t102 => (if t101 = true then (if t102 = true then (some 0) else (some (-1))) else (if t102 = true then (some 1) else (if a0 < a1 then (some (-1)) else (if a0 > a1 then (some 1) else (some 0))))))
set_option maxHeartbeats 8000000 in
set_option maxRecDepth 100000 in
theorem z62.calls (a0 : Int) (a1 : Int) (r : Int) (w : World) (h : z62.f a0 a1 = some r) :
  Calls Try.prog 62 #[.int .i64 a0, .int .i64 a1] w fun e w' => e = .returned (.int .i64 r) ∧ Drawn0 w w' := by
 have H : ((z83.f a0).bind fun t101 => ((z83.f a1).bind fun t102 => (if t101 = true then (if t102 = true then (some 0) else (some (-1))) else (if t102 = true then (some 1) else (if a0 < a1 then (some (-1)) else (if a0 > a1 then (some 1) else (some 0))))))) = some r := h
 clear h
 replace H := Option.bind_eq_some_iff.mp H
 obtain ⟨t101, A30, H⟩ := H
 have A3 := Aside0.mk A30
 clear A30
 replace H := Option.bind_eq_some_iff.mp H
 obtain ⟨t102, A40, H⟩ := H
 have A4 := Aside0.mk A40
 clear A40
 by_cases c5 : t101 = true
 ·subst c5
  replace H := T_ H
  by_cases c6 : t102 = true
  ·subst c6
   replace H := T_ H
   obtain rfl := Option.some.inj H
   go_enter Try.func62, Try.ntmps62
   go_wp2_with (first | ((with_reducible refine gate_callee (f := 83) rfl ?_); refine goesL_ (some 8) rfl rfl Try.func83 (by kernel_rfl) rfl #[.int .i64 a0] rfl (by (try simp only [List.map_toArray, List.map_cons, List.map_nil]); first | done | rfl | (simp only [List.length_drop, List.length_take]; rfl)) ?_; (with_reducible refine (z83.calls a0 true _ A3.out).mono ?_); rintro e w' ⟨rfl, ⟨nd, rfl⟩⟩; refine ⟨_, rfl, ?_⟩) | ((with_reducible refine gate_callee (f := 83) rfl ?_); refine goesL_ (some 10) rfl rfl Try.func83 (by kernel_rfl) rfl #[.int .i64 a1] rfl (by (try simp only [List.map_toArray, List.map_cons, List.map_nil]); first | done | rfl | (simp only [List.length_drop, List.length_take]; rfl)) ?_; (with_reducible refine (z83.calls a1 true _ A4.out).mono ?_); rintro e w' ⟨rfl, ⟨nd, rfl⟩⟩; refine ⟨_, rfl, ?_⟩))
   go_ret
   exact ⟨by first | rfl | (simp; done) | (simp [*]; done), by repeat (first | exact Drawn0.refl _ | apply Drawn0.step)⟩
  ·replace c6 := Bool.eq_false_iff.mpr c6
   subst c6
   replace H := N_ H
   obtain rfl := Option.some.inj H
   go_enter Try.func62, Try.ntmps62
   go_wp2_with (first | ((with_reducible refine gate_callee (f := 83) rfl ?_); refine goesL_ (some 8) rfl rfl Try.func83 (by kernel_rfl) rfl #[.int .i64 a0] rfl (by (try simp only [List.map_toArray, List.map_cons, List.map_nil]); first | done | rfl | (simp only [List.length_drop, List.length_take]; rfl)) ?_; (with_reducible refine (z83.calls a0 true _ A3.out).mono ?_); rintro e w' ⟨rfl, ⟨nd, rfl⟩⟩; refine ⟨_, rfl, ?_⟩) | ((with_reducible refine gate_callee (f := 83) rfl ?_); refine goesL_ (some 10) rfl rfl Try.func83 (by kernel_rfl) rfl #[.int .i64 a1] rfl (by (try simp only [List.map_toArray, List.map_cons, List.map_nil]); first | done | rfl | (simp only [List.length_drop, List.length_take]; rfl)) ?_; (with_reducible refine (z83.calls a1 false _ A4.out).mono ?_); rintro e w' ⟨rfl, ⟨nd, rfl⟩⟩; refine ⟨_, rfl, ?_⟩))
   go_ret
   exact ⟨by first | rfl | (simp; done) | (simp [*]; done), by repeat (first | exact Drawn0.refl _ | apply Drawn0.step)⟩
 ·replace c5 := Bool.eq_false_iff.mpr c5
  subst c5
  replace H := N_ H
  by_cases c7 : t102 = true
  ·subst c7
   replace H := T_ H
   obtain rfl := Option.some.inj H
   go_enter Try.func62, Try.ntmps62
   go_wp2_with (first | ((with_reducible refine gate_callee (f := 83) rfl ?_); refine goesL_ (some 8) rfl rfl Try.func83 (by kernel_rfl) rfl #[.int .i64 a0] rfl (by (try simp only [List.map_toArray, List.map_cons, List.map_nil]); first | done | rfl | (simp only [List.length_drop, List.length_take]; rfl)) ?_; (with_reducible refine (z83.calls a0 false _ A3.out).mono ?_); rintro e w' ⟨rfl, ⟨nd, rfl⟩⟩; refine ⟨_, rfl, ?_⟩) | ((with_reducible refine gate_callee (f := 83) rfl ?_); refine goesL_ (some 10) rfl rfl Try.func83 (by kernel_rfl) rfl #[.int .i64 a1] rfl (by (try simp only [List.map_toArray, List.map_cons, List.map_nil]); first | done | rfl | (simp only [List.length_drop, List.length_take]; rfl)) ?_; (with_reducible refine (z83.calls a1 true _ A4.out).mono ?_); rintro e w' ⟨rfl, ⟨nd, rfl⟩⟩; refine ⟨_, rfl, ?_⟩))
   go_ret
   exact ⟨by first | rfl | (simp; done) | (simp [*]; done), by repeat (first | exact Drawn0.refl _ | apply Drawn0.step)⟩
  ·replace c7 := Bool.eq_false_iff.mpr c7
   subst c7
   replace H := N_ H
   by_cases c8 : a0 < a1
   ·rw [if_pos c8] at H
    have c8b0 : decide (a0 < a1) = true := decide_eq_true c8
    clear c8
    obtain rfl := Option.some.inj H
    go_enter Try.func62, Try.ntmps62
    go_wp2_with (first | ((with_reducible refine gate_callee (f := 83) rfl ?_); refine goesL_ (some 8) rfl rfl Try.func83 (by kernel_rfl) rfl #[.int .i64 a0] rfl (by (try simp only [List.map_toArray, List.map_cons, List.map_nil]); first | done | rfl | (simp only [List.length_drop, List.length_take]; rfl)) ?_; (with_reducible refine (z83.calls a0 false _ A3.out).mono ?_); rintro e w' ⟨rfl, ⟨nd, rfl⟩⟩; refine ⟨_, rfl, ?_⟩) | ((with_reducible refine gate_callee (f := 83) rfl ?_); refine goesL_ (some 10) rfl rfl Try.func83 (by kernel_rfl) rfl #[.int .i64 a1] rfl (by (try simp only [List.map_toArray, List.map_cons, List.map_nil]); first | done | rfl | (simp only [List.length_drop, List.length_take]; rfl)) ?_; (with_reducible refine (z83.calls a1 false _ A4.out).mono ?_); rintro e w' ⟨rfl, ⟨nd, rfl⟩⟩; refine ⟨_, rfl, ?_⟩))
    go_ret
    exact ⟨by first | rfl | (simp; done) | (simp [*]; done), by repeat (first | exact Drawn0.refl _ | apply Drawn0.step)⟩
   ·rw [if_neg c8] at H
    have c8b0 : decide (a0 < a1) = false := decide_eq_false c8
    clear c8
    by_cases c9 : a0 > a1
    ·rw [if_pos c9] at H
     have c9b0 : decide (a1 < a0) = true := decide_eq_true c9
     clear c9
     obtain rfl := Option.some.inj H
     go_enter Try.func62, Try.ntmps62
     go_wp2_with (first | ((with_reducible refine gate_callee (f := 83) rfl ?_); refine goesL_ (some 8) rfl rfl Try.func83 (by kernel_rfl) rfl #[.int .i64 a0] rfl (by (try simp only [List.map_toArray, List.map_cons, List.map_nil]); first | done | rfl | (simp only [List.length_drop, List.length_take]; rfl)) ?_; (with_reducible refine (z83.calls a0 false _ A3.out).mono ?_); rintro e w' ⟨rfl, ⟨nd, rfl⟩⟩; refine ⟨_, rfl, ?_⟩) | ((with_reducible refine gate_callee (f := 83) rfl ?_); refine goesL_ (some 10) rfl rfl Try.func83 (by kernel_rfl) rfl #[.int .i64 a1] rfl (by (try simp only [List.map_toArray, List.map_cons, List.map_nil]); first | done | rfl | (simp only [List.length_drop, List.length_take]; rfl)) ?_; (with_reducible refine (z83.calls a1 false _ A4.out).mono ?_); rintro e w' ⟨rfl, ⟨nd, rfl⟩⟩; refine ⟨_, rfl, ?_⟩))
     go_ret
     exact ⟨by first | rfl | (simp; done) | (simp [*]; done), by repeat (first | exact Drawn0.refl _ | apply Drawn0.step)⟩
    ·rw [if_neg c9] at H
     have c9b0 : decide (a1 < a0) = false := decide_eq_false c9
     clear c9
     obtain rfl := Option.some.inj H
     go_enter Try.func62, Try.ntmps62
     go_wp2_with (first | ((with_reducible refine gate_callee (f := 83) rfl ?_); refine goesL_ (some 8) rfl rfl Try.func83 (by kernel_rfl) rfl #[.int .i64 a0] rfl (by (try simp only [List.map_toArray, List.map_cons, List.map_nil]); first | done | rfl | (simp only [List.length_drop, List.length_take]; rfl)) ?_; (with_reducible refine (z83.calls a0 false _ A3.out).mono ?_); rintro e w' ⟨rfl, ⟨nd, rfl⟩⟩; refine ⟨_, rfl, ?_⟩) | ((with_reducible refine gate_callee (f := 83) rfl ?_); refine goesL_ (some 10) rfl rfl Try.func83 (by kernel_rfl) rfl #[.int .i64 a1] rfl (by (try simp only [List.map_toArray, List.map_cons, List.map_nil]); first | done | rfl | (simp only [List.length_drop, List.length_take]; rfl)) ?_; (with_reducible refine (z83.calls a1 false _ A4.out).mono ?_); rintro e w' ⟨rfl, ⟨nd, rfl⟩⟩; refine ⟨_, rfl, ?_⟩))
     go_ret
     exact ⟨by first | rfl | (simp; done) | (simp [*]; done), by repeat (first | exact Drawn0.refl _ | apply Drawn0.step)⟩
def z61.l0 : Nat → Int → List Int → Int → Int → Option (Int)
 | 0, _, _, _, _ => none
 | k + 1, x3, x6, x7, x8 => if x8 < x7 then (if 0 ≤ x8 then (if x8 < (x6.length : Int) then (if (rd x6 x8) = x3 then (z61.l0 k x3 x6 x7 (wrap64 (x8 + 1))) else (some (rd x6 x8))) else (none)) else (none)) else (some x3)
def z61.f (k : Nat) (l0 : List Int) : Option (Int) := z61.l0 k 0 l0 (l0.length : Int) 0
set_option maxHeartbeats 8000000 in
set_option maxRecDepth 100000 in
theorem z61.calls (k : Nat) (A0 : Option Addr) (c0 : Nat) (l0 : List Int) (r : Int) (w : World) (hr0 : Kd.C (Kd.int .i64) w A0 l0.length l0) (hc0 : l0.length ≤ c0) (h : z61.f k l0 = some r) :
  Calls Try.prog 61 #[.slice A0 l0.length c0] w fun e w' => e = .returned (.int .i64 r) ∧ Drawn0 w w' := by
 have HR0 := Aside0.mk hr0
 have HC0 := Aside0.mk hc0
 clear hr0 hc0
 have H : (z61.l0 k 0 l0 (l0.length : Int) 0) = some r := h
 clear h
 have H' := Aside0.mk H
 clear H
 go_enter Try.func61, Try.ntmps61
 go_wp2
 go_loopg [8] k (fun kq v8 w' => ∃ (x8_1 : Int), v8 = .int .i64 x8_1 ∧ Aside0 (z61.l0 kq 0 l0 (l0.length : Int) x8_1 = some r) ∧ Aside0 (kq ≤ k) ∧ Drawn0 w w')
 case atStart => exact ⟨(0), E_, H', ⟨Nat.le_refl _⟩, by repeat (first | exact Drawn0.refl _ | apply Drawn0.step)⟩
 case round =>
  clear H'
  obtain ⟨x8_1, rfl, HA, HK1, ⟨m1, rfl⟩⟩ := hrel
  cases gk with
  | zero => exact absurd HA.out (by simp [z61.l0])
  | succ k1 =>
   have H := HA.out
   clear HA
   simp only [z61.l0] at H
   by_cases c2 : x8_1 < (l0.length : Int)
   ·rw [if_pos c2] at H
    have c2b0 : decide (x8_1 < (l0.length : Int)) = true := decide_eq_true c2
    clear c2
    have c3 := O1_ H
    replace H := O2_ H
    have c3b0 := decide_eq_true c3
    clear c3
    have c4 := O1_ H
    replace H := O2_ H
    have c4b0 := decide_eq_true c4
    clear c4
    by_cases c5 : (rd l0 x8_1) = 0
    ·rw [if_pos c5] at H
     have c5b0 : ((rd l0 x8_1) == 0) = true := beq_iff_eq.mpr c5
     have c5b1 : ((rd l0 x8_1) != 0) = false := bne_eq_false_iff_eq.mpr c5
     clear c5
     have H' := Aside0.mk H
     clear H
     have p101 : 0 ≤ (x8_1 : Int) := D_
     have q101 : x8_1 < (l0.length : Int) := D_
     obtain ⟨ad101, e101, hx101_0⟩ := Kd.at_int HR0.out x8_1 p101 q101
     cases e101
     replace p101 := eq_true p101
     replace q101 := eq_true q101
     go_wp2
     go_roundg k1
     case measure => exact Q1_ HK1
     case rel => exact ⟨(wrap64 (x8_1 + 1)), E_, H', ⟨Q1_ HK1⟩, by repeat (first | exact Drawn0.refl _ | apply Drawn0.step)⟩
    ·rw [if_neg c5] at H
     have c5b0 : ((rd l0 x8_1) == 0) = false := beq_eq_false_iff_ne.mpr c5
     have c5b1 : ((rd l0 x8_1) != 0) = true := bne_iff_ne.mpr c5
     obtain rfl := Option.some.inj H
     have p101 : 0 ≤ (x8_1 : Int) := D_
     have q101 : x8_1 < (l0.length : Int) := D_
     obtain ⟨ad101, e101, hx101_0⟩ := Kd.at_int HR0.out x8_1 p101 q101
     cases e101
     replace p101 := eq_true p101
     replace q101 := eq_true q101
     go_wp2
     go_ret
     exact ⟨by first | rfl | (simp; done) | (simp [*]; done), by repeat (first | exact Drawn0.refl _ | apply Drawn0.step)⟩
   ·rw [if_neg c2] at H
    have c2b0 : decide (x8_1 < (l0.length : Int)) = false := decide_eq_false c2
    clear c2
    obtain rfl := Option.some.inj H
    go_wp2
    go_ret
    exact ⟨by first | rfl | (simp; done) | (simp [*]; done), by repeat (first | exact Drawn0.refl _ | apply Drawn0.step)⟩
def z90.f (a0 : Int) : Option (Bool) := some (a0 != a0)
set_option maxHeartbeats 8000000 in
set_option maxRecDepth 100000 in
theorem z90.calls (a0 : Int) (r : Bool) (w : World) (h : z90.f a0 = some r) :
  Calls Try.prog 90 #[.int .i64 a0] w fun e w' => e = .returned (.bool r) ∧ Drawn0 w w' := by
 have H : (some (a0 != a0)) = some r := h
 clear h
 obtain rfl := Option.some.inj H
 go_enter Try.func90, Try.ntmps90
 go_wp2
 go_ret
 exact ⟨by first | rfl | (simp; done) | (simp [*]; done), by repeat (first | exact Drawn0.refl _ | apply Drawn0.step)⟩
def z84.f (a0 : Int) (a1 : Int) : Option (Int) := (z90.f a0).bind fun t101 => ((z90.f a1).bind fun t102 => (if t101 = true then (if t102 = true then (some 0) else (some (-1))) else (if t102 = true then (some 1) else (if a0 < a1 then (some (-1)) else (if a0 > a1 then (some 1) else (some 0))))))
set_option maxHeartbeats 8000000 in
set_option maxRecDepth 100000 in
theorem z84.calls (a0 : Int) (a1 : Int) (r : Int) (w : World) (h : z84.f a0 a1 = some r) :
  Calls Try.prog 84 #[.int .i64 a0, .int .i64 a1] w fun e w' => e = .returned (.int .i64 r) ∧ Drawn0 w w' := by
 have H : ((z90.f a0).bind fun t101 => ((z90.f a1).bind fun t102 => (if t101 = true then (if t102 = true then (some 0) else (some (-1))) else (if t102 = true then (some 1) else (if a0 < a1 then (some (-1)) else (if a0 > a1 then (some 1) else (some 0))))))) = some r := h
 clear h
 replace H := Option.bind_eq_some_iff.mp H
 obtain ⟨t101, A30, H⟩ := H
 have A3 := Aside0.mk A30
 clear A30
 replace H := Option.bind_eq_some_iff.mp H
 obtain ⟨t102, A40, H⟩ := H
 have A4 := Aside0.mk A40
 clear A40
 by_cases c5 : t101 = true
 ·subst c5
  replace H := T_ H
  by_cases c6 : t102 = true
  ·subst c6
   replace H := T_ H
   obtain rfl := Option.some.inj H
   go_enter Try.func84, Try.ntmps84
   go_wp2_with (first | ((with_reducible refine gate_callee (f := 90) rfl ?_); refine goesL_ (some 8) rfl rfl Try.func90 (by kernel_rfl) rfl #[.int .i64 a0] rfl (by (try simp only [List.map_toArray, List.map_cons, List.map_nil]); first | done | rfl | (simp only [List.length_drop, List.length_take]; rfl)) ?_; (with_reducible refine (z90.calls a0 true _ A3.out).mono ?_); rintro e w' ⟨rfl, ⟨nd, rfl⟩⟩; refine ⟨_, rfl, ?_⟩) | ((with_reducible refine gate_callee (f := 90) rfl ?_); refine goesL_ (some 10) rfl rfl Try.func90 (by kernel_rfl) rfl #[.int .i64 a1] rfl (by (try simp only [List.map_toArray, List.map_cons, List.map_nil]); first | done | rfl | (simp only [List.length_drop, List.length_take]; rfl)) ?_; (with_reducible refine (z90.calls a1 true _ A4.out).mono ?_); rintro e w' ⟨rfl, ⟨nd, rfl⟩⟩; refine ⟨_, rfl, ?_⟩))
   go_ret
   exact ⟨by first | rfl | (simp; done) | (simp [*]; done), by repeat (first | exact Drawn0.refl _ | apply Drawn0.step)⟩
  ·replace c6 := Bool.eq_false_iff.mpr c6
   subst c6
   replace H := N_ H
   obtain rfl := Option.some.inj H
   go_enter Try.func84, Try.ntmps84
   go_wp2_with (first | ((with_reducible refine gate_callee (f := 90) rfl ?_); refine goesL_ (some 8) rfl rfl Try.func90 (by kernel_rfl) rfl #[.int .i64 a0] rfl (by (try simp only [List.map_toArray, List.map_cons, List.map_nil]); first | done | rfl | (simp only [List.length_drop, List.length_take]; rfl)) ?_; (with_reducible refine (z90.calls a0 true _ A3.out).mono ?_); rintro e w' ⟨rfl, ⟨nd, rfl⟩⟩; refine ⟨_, rfl, ?_⟩) | ((with_reducible refine gate_callee (f := 90) rfl ?_); refine goesL_ (some 10) rfl rfl Try.func90 (by kernel_rfl) rfl #[.int .i64 a1] rfl (by (try simp only [List.map_toArray, List.map_cons, List.map_nil]); first | done | rfl | (simp only [List.length_drop, List.length_take]; rfl)) ?_; (with_reducible refine (z90.calls a1 false _ A4.out).mono ?_); rintro e w' ⟨rfl, ⟨nd, rfl⟩⟩; refine ⟨_, rfl, ?_⟩))
   go_ret
   exact ⟨by first | rfl | (simp; done) | (simp [*]; done), by repeat (first | exact Drawn0.refl _ | apply Drawn0.step)⟩
 ·replace c5 := Bool.eq_false_iff.mpr c5
  subst c5
  replace H := N_ H
  by_cases c7 : t102 = true
  ·subst c7
   replace H := T_ H
   obtain rfl := Option.some.inj H
   go_enter Try.func84, Try.ntmps84
   go_wp2_with (first | ((with_reducible refine gate_callee (f := 90) rfl ?_); refine goesL_ (some 8) rfl rfl Try.func90 (by kernel_rfl) rfl #[.int .i64 a0] rfl (by (try simp only [List.map_toArray, List.map_cons, List.map_nil]); first | done | rfl | (simp only [List.length_drop, List.length_take]; rfl)) ?_; (with_reducible refine (z90.calls a0 false _ A3.out).mono ?_); rintro e w' ⟨rfl, ⟨nd, rfl⟩⟩; refine ⟨_, rfl, ?_⟩) | ((with_reducible refine gate_callee (f := 90) rfl ?_); refine goesL_ (some 10) rfl rfl Try.func90 (by kernel_rfl) rfl #[.int .i64 a1] rfl (by (try simp only [List.map_toArray, List.map_cons, List.map_nil]); first | done | rfl | (simp only [List.length_drop, List.length_take]; rfl)) ?_; (with_reducible refine (z90.calls a1 true _ A4.out).mono ?_); rintro e w' ⟨rfl, ⟨nd, rfl⟩⟩; refine ⟨_, rfl, ?_⟩))
   go_ret
   exact ⟨by first | rfl | (simp; done) | (simp [*]; done), by repeat (first | exact Drawn0.refl _ | apply Drawn0.step)⟩
  ·replace c7 := Bool.eq_false_iff.mpr c7
   subst c7
   replace H := N_ H
   by_cases c8 : a0 < a1
   ·rw [if_pos c8] at H
    have c8b0 : decide (a0 < a1) = true := decide_eq_true c8
    clear c8
    obtain rfl := Option.some.inj H
    go_enter Try.func84, Try.ntmps84
    go_wp2_with (first | ((with_reducible refine gate_callee (f := 90) rfl ?_); refine goesL_ (some 8) rfl rfl Try.func90 (by kernel_rfl) rfl #[.int .i64 a0] rfl (by (try simp only [List.map_toArray, List.map_cons, List.map_nil]); first | done | rfl | (simp only [List.length_drop, List.length_take]; rfl)) ?_; (with_reducible refine (z90.calls a0 false _ A3.out).mono ?_); rintro e w' ⟨rfl, ⟨nd, rfl⟩⟩; refine ⟨_, rfl, ?_⟩) | ((with_reducible refine gate_callee (f := 90) rfl ?_); refine goesL_ (some 10) rfl rfl Try.func90 (by kernel_rfl) rfl #[.int .i64 a1] rfl (by (try simp only [List.map_toArray, List.map_cons, List.map_nil]); first | done | rfl | (simp only [List.length_drop, List.length_take]; rfl)) ?_; (with_reducible refine (z90.calls a1 false _ A4.out).mono ?_); rintro e w' ⟨rfl, ⟨nd, rfl⟩⟩; refine ⟨_, rfl, ?_⟩))
    go_ret
    exact ⟨by first | rfl | (simp; done) | (simp [*]; done), by repeat (first | exact Drawn0.refl _ | apply Drawn0.step)⟩
   ·rw [if_neg c8] at H
    have c8b0 : decide (a0 < a1) = false := decide_eq_false c8
    clear c8
    by_cases c9 : a0 > a1
    ·rw [if_pos c9] at H
     have c9b0 : decide (a1 < a0) = true := decide_eq_true c9
     clear c9
     obtain rfl := Option.some.inj H
     go_enter Try.func84, Try.ntmps84
     go_wp2_with (first | ((with_reducible refine gate_callee (f := 90) rfl ?_); refine goesL_ (some 8) rfl rfl Try.func90 (by kernel_rfl) rfl #[.int .i64 a0] rfl (by (try simp only [List.map_toArray, List.map_cons, List.map_nil]); first | done | rfl | (simp only [List.length_drop, List.length_take]; rfl)) ?_; (with_reducible refine (z90.calls a0 false _ A3.out).mono ?_); rintro e w' ⟨rfl, ⟨nd, rfl⟩⟩; refine ⟨_, rfl, ?_⟩) | ((with_reducible refine gate_callee (f := 90) rfl ?_); refine goesL_ (some 10) rfl rfl Try.func90 (by kernel_rfl) rfl #[.int .i64 a1] rfl (by (try simp only [List.map_toArray, List.map_cons, List.map_nil]); first | done | rfl | (simp only [List.length_drop, List.length_take]; rfl)) ?_; (with_reducible refine (z90.calls a1 false _ A4.out).mono ?_); rintro e w' ⟨rfl, ⟨nd, rfl⟩⟩; refine ⟨_, rfl, ?_⟩))
     go_ret
     exact ⟨by first | rfl | (simp; done) | (simp [*]; done), by repeat (first | exact Drawn0.refl _ | apply Drawn0.step)⟩
    ·rw [if_neg c9] at H
     have c9b0 : decide (a1 < a0) = false := decide_eq_false c9
     clear c9
     obtain rfl := Option.some.inj H
     go_enter Try.func84, Try.ntmps84
     go_wp2_with (first | ((with_reducible refine gate_callee (f := 90) rfl ?_); refine goesL_ (some 8) rfl rfl Try.func90 (by kernel_rfl) rfl #[.int .i64 a0] rfl (by (try simp only [List.map_toArray, List.map_cons, List.map_nil]); first | done | rfl | (simp only [List.length_drop, List.length_take]; rfl)) ?_; (with_reducible refine (z90.calls a0 false _ A3.out).mono ?_); rintro e w' ⟨rfl, ⟨nd, rfl⟩⟩; refine ⟨_, rfl, ?_⟩) | ((with_reducible refine gate_callee (f := 90) rfl ?_); refine goesL_ (some 10) rfl rfl Try.func90 (by kernel_rfl) rfl #[.int .i64 a1] rfl (by (try simp only [List.map_toArray, List.map_cons, List.map_nil]); first | done | rfl | (simp only [List.length_drop, List.length_take]; rfl)) ?_; (with_reducible refine (z90.calls a1 false _ A4.out).mono ?_); rintro e w' ⟨rfl, ⟨nd, rfl⟩⟩; refine ⟨_, rfl, ?_⟩))
     go_ret
     exact ⟨by first | rfl | (simp; done) | (simp [*]; done), by repeat (first | exact Drawn0.refl _ | apply Drawn0.step)⟩
def z63.l0 : Nat → List Int → List Int → List Int → Int → Int → Option (Int)
 | 0, _, _, _, _, _ => none
 | k + 1, x0, x1, x9, x10, x11 => if x11 < x10 then (if 0 ≤ x11 then (if x11 < (x9.length : Int) then (if x11 ≥ (x1.length : Int) then (some 1) else (if x11 < (x1.length : Int) then ((z84.f (rd x9 x11) (rd x1 x11)).bind fun t103 => (if t103 = 0 then (z63.l0 k x0 x1 x9 x10 (wrap64 (x11 + 1))) else (some t103))) else (none))) else (none)) else (none)) else (if (x0.length : Int) < (x1.length : Int) then (some (-1)) else (some 0))
def z63.f (k : Nat) (l0 : List Int) (l1 : List Int) : Option (Int) := z63.l0 k l0 l1 l0 (l0.length : Int) 0
set_option maxHeartbeats 8000000 in
set_option maxRecDepth 100000 in
theorem z63.calls (k : Nat) (A0 : Option Addr) (c0 : Nat) (l0 : List Int) (A1 : Option Addr) (c1 : Nat) (l1 : List Int) (r : Int) (w : World) (hr0 : Kd.C (Kd.int .i64) w A0 l0.length l0) (hc0 : l0.length ≤ c0) (hr1 : Kd.C (Kd.int .i64) w A1 l1.length l1) (hc1 : l1.length ≤ c1) (h : z63.f k l0 l1 = some r) :
  Calls Try.prog 63 #[.slice A0 l0.length c0, .slice A1 l1.length c1] w fun e w' => e = .returned (.int .i64 r) ∧ Drawn0 w w' := by
 have HR0 := Aside0.mk hr0
 have HC0 := Aside0.mk hc0
 clear hr0 hc0
 have HR1 := Aside0.mk hr1
 have HC1 := Aside0.mk hc1
 clear hr1 hc1
 have H : (z63.l0 k l0 l1 l0 (l0.length : Int) 0) = some r := h
 clear h
 have H' := Aside0.mk H
 clear H
 go_enter Try.func63, Try.ntmps63
 go_wp2
 go_loopg [11] k (fun kq v11 w' => ∃ (x11_1 : Int), v11 = .int .i64 x11_1 ∧ Aside0 (z63.l0 kq l0 l1 l0 (l0.length : Int) x11_1 = some r) ∧ Aside0 (kq ≤ k) ∧ Drawn0 w w')
 case atStart => exact ⟨(0), E_, H', ⟨Nat.le_refl _⟩, by repeat (first | exact Drawn0.refl _ | apply Drawn0.step)⟩
 case round =>
  clear H'
  (try clear c1);(try clear p2)
  obtain ⟨x11_1, rfl, HA, HK1, ⟨m1, rfl⟩⟩ := hrel
  cases gk with
  | zero => exact absurd HA.out (by simp [z63.l0])
  | succ k1 =>
   have H := HA.out
   clear HA
   simp only [z63.l0] at H
   by_cases c3 : x11_1 < (l0.length : Int)
   ·rw [if_pos c3] at H
    have c3b0 : decide (x11_1 < (l0.length : Int)) = true := decide_eq_true c3
    clear c3
    have c4 := O1_ H
    replace H := O2_ H
    have c4b0 := decide_eq_true c4
    clear c4
    have c5 := O1_ H
    replace H := O2_ H
    have c5b0 := decide_eq_true c5
    clear c5
    by_cases c6 : x11_1 ≥ (l1.length : Int)
    ·rw [if_pos c6] at H
     have c6b0 : decide ((l1.length : Int) ≤ x11_1) = true := decide_eq_true c6
     clear c6
     obtain rfl := Option.some.inj H
     have p101 : 0 ≤ (x11_1 : Int) := D_
     have q101 : x11_1 < (l0.length : Int) := D_
     obtain ⟨ad101, e101, hx101_0⟩ := Kd.at_int HR0.out x11_1 p101 q101
     cases e101
     replace p101 := eq_true p101
     replace q101 := eq_true q101
     go_wp2
     go_ret
     exact ⟨by first | rfl | (simp; done) | (simp [*]; done), by repeat (first | exact Drawn0.refl _ | apply Drawn0.step)⟩
    ·rw [if_neg c6] at H
     have c6b0 : decide ((l1.length : Int) ≤ x11_1) = false := decide_eq_false c6
     clear c6
     have c7 := O1_ H
     replace H := O2_ H
     have c7b0 := decide_eq_true c7
     clear c7
     replace H := Option.bind_eq_some_iff.mp H
     obtain ⟨t103, A80, H⟩ := H
     have A8 := Aside0.mk A80
     clear A80
     by_cases c9 : t103 = 0
     ·rw [if_pos c9] at H
      have c9b0 : (t103 == 0) = true := beq_iff_eq.mpr c9
      have c9b1 : (t103 != 0) = false := bne_eq_false_iff_eq.mpr c9
      clear c9
      have H' := Aside0.mk H
      clear H
      have p101 : 0 ≤ (x11_1 : Int) := D_
      have q101 : x11_1 < (l0.length : Int) := D_
      obtain ⟨ad101, e101, hx101_0⟩ := Kd.at_int HR0.out x11_1 p101 q101
      cases e101
      replace p101 := eq_true p101
      replace q101 := eq_true q101
      have p102 : 0 ≤ (x11_1 : Int) := D_
      have q102 : x11_1 < (l1.length : Int) := D_
      obtain ⟨ad102, e102, hx102_0⟩ := Kd.at_int HR1.out x11_1 p102 q102
      cases e102
      replace p102 := eq_true p102
      replace q102 := eq_true q102
      go_wp2_with (first | ((with_reducible refine gate_callee (f := 84) rfl ?_); refine goesL_ (some 26) rfl rfl Try.func84 (by kernel_rfl) rfl #[.int .i64 (rd l0 x11_1), .int .i64 (rd l1 x11_1)] rfl (by (try simp only [List.map_toArray, List.map_cons, List.map_nil]); first | done | rfl | (simp only [List.length_drop, List.length_take]; rfl)) ?_; (with_reducible refine (z84.calls (rd l0 x11_1) (rd l1 x11_1) t103 _ A8.out).mono ?_); rintro e w' ⟨rfl, ⟨nd, rfl⟩⟩; refine ⟨_, rfl, ?_⟩))
      go_roundg k1
      case measure => exact Q1_ HK1
      case rel => exact ⟨(wrap64 (x11_1 + 1)), E_, H', ⟨Q1_ HK1⟩, by repeat (first | exact Drawn0.refl _ | apply Drawn0.step)⟩
     ·rw [if_neg c9] at H
      have c9b0 : (t103 == 0) = false := beq_eq_false_iff_ne.mpr c9
      have c9b1 : (t103 != 0) = true := bne_iff_ne.mpr c9
      obtain rfl := Option.some.inj H
      have p101 : 0 ≤ (x11_1 : Int) := D_
      have q101 : x11_1 < (l0.length : Int) := D_
      obtain ⟨ad101, e101, hx101_0⟩ := Kd.at_int HR0.out x11_1 p101 q101
      cases e101
      replace p101 := eq_true p101
      replace q101 := eq_true q101
      have p102 : 0 ≤ (x11_1 : Int) := D_
      have q102 : x11_1 < (l1.length : Int) := D_
      obtain ⟨ad102, e102, hx102_0⟩ := Kd.at_int HR1.out x11_1 p102 q102
      cases e102
      replace p102 := eq_true p102
      replace q102 := eq_true q102
      go_wp2_with (first | ((with_reducible refine gate_callee (f := 84) rfl ?_); refine goesL_ (some 26) rfl rfl Try.func84 (by kernel_rfl) rfl #[.int .i64 (rd l0 x11_1), .int .i64 (rd l1 x11_1)] rfl (by (try simp only [List.map_toArray, List.map_cons, List.map_nil]); first | done | rfl | (simp only [List.length_drop, List.length_take]; rfl)) ?_; (with_reducible refine (z84.calls (rd l0 x11_1) (rd l1 x11_1) t103 _ A8.out).mono ?_); rintro e w' ⟨rfl, ⟨nd, rfl⟩⟩; refine ⟨_, rfl, ?_⟩))
      go_ret
      exact ⟨by first | rfl | (simp; done) | (simp [*]; done), by repeat (first | exact Drawn0.refl _ | apply Drawn0.step)⟩
   ·rw [if_neg c3] at H
    have c3b0 : decide (x11_1 < (l0.length : Int)) = false := decide_eq_false c3
    clear c3
    by_cases c10 : (l0.length : Int) < (l1.length : Int)
    ·rw [if_pos c10] at H
     have c10b0 : decide ((l0.length : Int) < (l1.length : Int)) = true := decide_eq_true c10
     have c10b1 : decide (l0.length < l1.length) = true := decide_eq_true (Int.ofNat_lt.mp c10)
     clear c10
     obtain rfl := Option.some.inj H
     go_wp2
     go_ret
     exact ⟨by first | rfl | (simp; done) | (simp [*]; done), by repeat (first | exact Drawn0.refl _ | apply Drawn0.step)⟩
    ·rw [if_neg c10] at H
     have c10b0 : decide ((l0.length : Int) < (l1.length : Int)) = false := decide_eq_false c10
     have c10b1 : decide (l0.length < l1.length) = false := decide_eq_false (fun h => c10 (Int.ofNat_lt.mpr h))
     clear c10
     obtain rfl := Option.some.inj H
     go_wp2
     go_ret
     exact ⟨by first | rfl | (simp; done) | (simp [*]; done), by repeat (first | exact Drawn0.refl _ | apply Drawn0.step)⟩
def z39.f (k : Nat) (l0 : List Int) (l1 : List Int) : Option (Int) := (z62.f (l0.length : Int) (l1.length : Int)).bind fun t101 => ((z63.f k l0 l1).bind fun t102 => ((z61.f k (([t101, t102] : List Int))).bind fun t106 => (some t106)))
set_option maxHeartbeats 8000000 in
set_option maxRecDepth 100000 in
theorem z39.calls (k : Nat) (A0 : Option Addr) (c0 : Nat) (l0 : List Int) (A1 : Option Addr) (c1 : Nat) (l1 : List Int) (r : Int) (w : World) (hr0 : Kd.C (Kd.int .i64) w A0 l0.length l0) (hc0 : l0.length ≤ c0) (hr1 : Kd.C (Kd.int .i64) w A1 l1.length l1) (hc1 : l1.length ≤ c1) (h : z39.f k l0 l1 = some r) :
  Calls Try.prog 39 #[.slice A0 l0.length c0, .slice A1 l1.length c1] w fun e w' => e = .returned (.int .i64 r) ∧ Below w.heap.size w w' := by
 have HR0 := Aside0.mk hr0
 have HC0 := Aside0.mk hc0
 clear hr0 hc0
 have HR1 := Aside0.mk hr1
 have HC1 := Aside0.mk hc1
 clear hr1 hc1
 have HB := Aside0.mk (Below.refl w.heap.size w)
 have H : ((z62.f (l0.length : Int) (l1.length : Int)).bind fun t101 => ((z63.f k l0 l1).bind fun t102 => ((z61.f k (([t101, t102] : List Int))).bind fun t106 => (some t106)))) = some r := h
 clear h
 replace H := Option.bind_eq_some_iff.mp H
 obtain ⟨t101, A30, H⟩ := H
 have A3 := Aside0.mk A30
 clear A30
 replace H := Option.bind_eq_some_iff.mp H
 obtain ⟨t102, A40, H⟩ := H
 have A4 := Aside0.mk A40
 clear A40
 obtain ⟨y103, hy103⟩ : ∃ y_ : List Int, y_ = (([t101, t102] : List Int)) := ⟨_, rfl⟩
 replace H : ((z61.f k y103).bind fun t106 => (some t106)) = some r := Y_ hy103 H
 have Ny103 := Aside0.mk hy103
 clear hy103
 replace H := Option.bind_eq_some_iff.mp H
 obtain ⟨t106, A50, H⟩ := H
 have A5 := Aside0.mk A50
 clear A50
 obtain rfl := Option.some.inj H
 go_enter Try.func39, Try.ntmps39
 go_wp2_with (first | ((with_reducible refine gate_callee (f := 62) rfl ?_); refine goesL_ (some 9) rfl rfl Try.func62 (by kernel_rfl) rfl #[.int .i64 (l0.length : Int), .int .i64 (l1.length : Int)] rfl (by (try simp only [List.map_toArray, List.map_cons, List.map_nil]); first | done | rfl | (simp only [List.length_drop, List.length_take]; rfl)) ?_; (with_reducible refine (z62.calls (l0.length : Int) (l1.length : Int) t101 _ A3.out).mono ?_); rintro e w' ⟨rfl, ⟨nd, rfl⟩⟩; refine ⟨_, rfl, ?_⟩) | ((with_reducible refine gate_callee (f := 63) rfl ?_); refine goesL_ (some 12) rfl rfl Try.func63 (by kernel_rfl) rfl #[.slice A0 l0.length c0, .slice A1 l1.length c1] rfl (by (try simp only [List.map_toArray, List.map_cons, List.map_nil]); first | done | rfl | (simp only [List.length_drop, List.length_take]; rfl)) ?_; (with_reducible refine (z63.calls k _ _ l0 _ _ l1 t102 _ ?side1 ?side2 ?side3 ?side4 A4.out).mono ?_); (case side1 => exact KC_ HR0.out); (case side2 => exact HC0.out); (case side3 => exact KC_ HR1.out); (case side4 => exact HC1.out); rintro e w' ⟨rfl, ⟨nd, rfl⟩⟩; refine ⟨_, rfl, ?_⟩) | ((with_reducible refine gate_dst (N := 13) rfl ?_); refine Kd.R_lit (Kd.int .i64) _ 3 ?hg (N := 13) ?hd (xs := ([t101, t102] : List Int)) (inner := [.int .i64 t101, .int .i64 t102]) (ok := fun _ => True) (okp := fun _ => True) ?hr ?hp (fun _ hk => hk) trivial (Below.refl _ _) (Nat.le_refl _) (by simp) ?_; (case hd => rfl); (case hg => rfl); (case hr => first | (go_simp; done) | (go_simp; rfl)); (case hp => exact (Reps.one (show Kd.M (Kd.int .i64) _ _ _ t101 [.int .i64 t101] from rfl) (Reps.one (show Kd.M (Kd.int .i64) _ _ _ t102 [.int .i64 t102] from rfl) (Reps.none _ _)))); intro v104 w6 ho7 hb hg_ hnew_; clear hg_ hnew_; (first | rw [← Ny103.out] at ho7 | (simp only [Int.reduceToNat] at ho7; rw [← Ny103.out] at ho7)); have HO105 := Aside0.mk (Kd.R_lower ho7 (below_size (B_ HB.out))); replace HB := Aside0.mk (below_step (B_ HB.out) hb); clear hb ho7; obtain ⟨Ao8, co8, eo8⟩ := Kd.R_slice HO105.out; subst eo8) | ((with_reducible refine gate_callee (f := 61) rfl ?_); refine goesL_ (some 14) rfl rfl Try.func61 (by kernel_rfl) rfl #[.slice Ao8 y103.length co8] rfl (by (try simp only [List.map_toArray, List.map_cons, List.map_nil]); first | done | rfl | (simp only [List.length_drop, List.length_take]; rfl)) ?_; (with_reducible refine (z61.calls k _ _ y103 t106 _ ?side1 ?side2 A5.out).mono ?_); (case side1 => exact KC_ (Kd.R_reads' HO105.out).2.2); (case side2 => exact (Kd.R_reads' HO105.out).2.1); rintro e w' ⟨rfl, ⟨nd, rfl⟩⟩; refine ⟨_, rfl, ?_⟩))
 go_ret
 exact ⟨F_, B_ HB.out⟩
def z111.l0 : Nat → List (List Int) → List Int → Int → Int → Int → Option (Int × Bool)
 | 0, _, _, _, _, _ => none
 | k + 1, x0, x1, x8, x9, x10 => if x9 < x10 then (if 0 ≤ (wrap64 ((IntKind.u64.wrap (wrap64 (x9 + x10))) / 2)) then (if (wrap64 ((IntKind.u64.wrap (wrap64 (x9 + x10))) / 2)) < (x0.length : Int) then ((z39.f k (rd_ListInt x0 (wrap64 ((IntKind.u64.wrap (wrap64 (x9 + x10))) / 2))) x1).bind fun t102 => (if t102 < 0 then (z111.l0 k x0 x1 x8 (wrap64 ((wrap64 ((IntKind.u64.wrap (wrap64 (x9 + x10))) / 2)) + 1)) x10) else (z111.l0 k x0 x1 x8 x9 (wrap64 ((IntKind.u64.wrap (wrap64 (x9 + x10))) / 2))))) else (none)) else (none)) else (if x9 < x8 then (if 0 ≤ x9 then (if x9 < (x0.length : Int) then ((z39.f k (rd_ListInt x0 x9) x1).bind fun t104 => (some (x9, (t104 == 0)))) else (none)) else (none)) else (some (x9, false)))
def z111.f (k : Nat) (l0 : List (List Int)) (l1 : List Int)  : Option (Int × Bool) := z111.l0 k l0 l1 (l0.length : Int) 0 (l0.length : Int)
set_option maxHeartbeats 8000000 in
set_option maxRecDepth 100000 in
theorem z111.calls (k : Nat) (A0 : Option Addr) (c0 : Nat) (l0 : List (List Int)) (A1 : Option Addr) (c1 : Nat) (l1 : List Int)  (r1 : Int) (r2 : Bool) (w : World) (hr0 : Kd.C (Kd.slice 2 (Kd.int .i64)) w A0 l0.length l0) (hc0 : l0.length ≤ c0) (hr1 : Kd.C (Kd.int .i64) w A1 l1.length l1) (hc1 : l1.length ≤ c1) (h : z111.f k l0 l1 = some (r1, r2)) :
  Calls Try.prog 56 #[.slice A0 l0.length c0, .slice A1 l1.length c1, .func (.func 39) #[] #[]] w fun e w' => e = .returned (.tuple #[.int .i64 r1, .bool r2]) ∧ Below w.heap.size w w' := by
 have HR0 := Aside0.mk hr0
 have HC0 := Aside0.mk hc0
 clear hr0 hc0
 have HR1 := Aside0.mk hr1
 have HC1 := Aside0.mk hc1
 clear hr1 hc1
 have HB := Aside0.mk (Below.refl w.heap.size w)
 have H : (z111.l0 k l0 l1 (l0.length : Int) 0 (l0.length : Int)) = some (r1, r2) := h
 clear h
 have H' := Aside0.mk H
 clear H
 go_enter Try.func56, Try.ntmps56
 go_wp2
 go_loopg [9, 10] k (fun kq v9 v10 w' => ∃ (x9_1 : Int) (x10_1 : Int), v9 = .int .i64 x9_1 ∧ v10 = .int .i64 x10_1 ∧ Aside0 (z111.l0 kq l0 l1 (l0.length : Int) x9_1 x10_1 = some (r1, r2)) ∧ Aside0 (kq ≤ k) ∧ Aside0 (Below w.heap.size w w'))
 case atStart => exact ⟨(0), ((l0.length : Int)), E_, E_, H', ⟨Nat.le_refl _⟩, ⟨B_ HB.out⟩⟩
 case round =>
  clear H'
  (try clear c1);(try clear p2)
  obtain ⟨x9_1, x10_1, rfl, rfl, HA, HK1, HB⟩ := hrel
  cases gk with
  | zero => exact absurd HA.out (by simp [z111.l0])
  | succ k1 =>
   have H := HA.out
   clear HA
   simp only [z111.l0] at H
   by_cases c4 : x9_1 < x10_1
   ·rw [if_pos c4] at H
    have c4b0 : decide (x9_1 < x10_1) = true := decide_eq_true c4
    clear c4
    obtain ⟨ji5, hji5⟩ : ∃ j_ : Int, (wrap64 ((IntKind.u64.wrap (wrap64 (x9_1 + x10_1))) / 2)) = j_ := ⟨_, rfl⟩
    replace H : (if 0 ≤ (ji5) then (if (ji5) < (l0.length : Int) then ((z39.f k1 (rd_ListInt l0 (ji5)) l1).bind fun t102 => (if t102 < 0 then (z111.l0 k1 l0 l1 (l0.length : Int) (wrap64 ((ji5) + 1)) x10_1) else (z111.l0 k1 l0 l1 (l0.length : Int) x9_1 ji5))) else (none)) else (none)) = some (r1, r2) := by first | (rw [hji5] at H; exact H) | (simp only [hji5] at H ⊢; exact H)
    have hji5w : (IntKind.i64.wrap ((IntKind.u64.wrap (wrap64 (x9_1 + x10_1))) / 2)) = ji5 := (i64_w _).trans hji5
    have c6 := O1_ H
    replace H := O2_ H
    have c6b0 := decide_eq_true c6
    clear c6
    have c7 := O1_ H
    replace H := O2_ H
    have c7b0 := decide_eq_true c7
    clear c7
    replace H := Option.bind_eq_some_iff.mp H
    obtain ⟨t102, A80, H⟩ := H
    replace H : (if t102 < 0 then (z111.l0 k1 l0 l1 (l0.length : Int) (wrap64 ((ji5) + 1)) x10_1) else (z111.l0 k1 l0 l1 (l0.length : Int) x9_1 ji5)) = some (r1, r2) := H
    have A8 := Aside0.mk A80
    clear A80
    by_cases c9 : t102 < 0
    ·rw [if_pos c9] at H
     have c9b0 : decide (t102 < 0) = true := decide_eq_true c9
     clear c9
     have H' := Aside0.mk H
     clear H
     have p101 : 0 ≤ ((ji5) : Int) := D_
     have q101 : (ji5) < (l0.length : Int) := D_
     obtain ⟨ad101, A101_0, c101_0, e101, hx101_0, hl101_0, hi101_0⟩ := at_ListInt HR0.out (ji5) p101 q101
     cases e101
     replace hx101_0 := (HB.out.cell (World.block_lt_of_cell? w _ hx101_0)).trans hx101_0
     have HR101_0 := Aside0.mk hi101_0
     have HC101_0 := Aside0.mk hl101_0
     clear hi101_0 hl101_0
     replace p101 := eq_true p101
     replace q101 := eq_true q101
     go_wp2_with (first | (go_at_call 39; (with_reducible refine (z39.calls k1 _ _ (rd_ListInt l0 (ji5)) _ _ l1 t102 _ ?side1 ?side2 ?side3 ?side4 A8.out).mono ?_); (case side1 => exact KC_ (Kd.C_below HR101_0.out HB.out)); (case side2 => exact HC101_0.out); (case side3 => exact KC_ (Kd.C_below HR1.out HB.out)); (case side4 => exact HC1.out); rintro e w10 ⟨rfl, hb⟩; replace HB := Aside0.mk (below_step (B_ HB.out) hb); (try clear hb); (try clear hb2); (try clear hk); (try clear hi)))
     go_roundg k1
     case measure => exact Q1_ HK1
     case rel => exact ⟨(wrap64 ((ji5) + 1)), (x10_1), (by first | rfl | (simp; done) | (simp only [← hji5] <;> (first | rfl | simp)) | (simp [*]; done)), E_, H', ⟨Q1_ HK1⟩, ⟨B_ HB.out⟩⟩
    ·rw [if_neg c9] at H
     have c9b0 : decide (t102 < 0) = false := decide_eq_false c9
     clear c9
     have H' := Aside0.mk H
     clear H
     have p101 : 0 ≤ ((ji5) : Int) := D_
     have q101 : (ji5) < (l0.length : Int) := D_
     obtain ⟨ad101, A101_0, c101_0, e101, hx101_0, hl101_0, hi101_0⟩ := at_ListInt HR0.out (ji5) p101 q101
     cases e101
     replace hx101_0 := (HB.out.cell (World.block_lt_of_cell? w _ hx101_0)).trans hx101_0
     have HR101_0 := Aside0.mk hi101_0
     have HC101_0 := Aside0.mk hl101_0
     clear hi101_0 hl101_0
     replace p101 := eq_true p101
     replace q101 := eq_true q101
     go_wp2_with (first | (go_at_call 39; (with_reducible refine (z39.calls k1 _ _ (rd_ListInt l0 (ji5)) _ _ l1 t102 _ ?side1 ?side2 ?side3 ?side4 A8.out).mono ?_); (case side1 => exact KC_ (Kd.C_below HR101_0.out HB.out)); (case side2 => exact HC101_0.out); (case side3 => exact KC_ (Kd.C_below HR1.out HB.out)); (case side4 => exact HC1.out); rintro e w11 ⟨rfl, hb⟩; replace HB := Aside0.mk (below_step (B_ HB.out) hb); (try clear hb); (try clear hb2); (try clear hk); (try clear hi)))
     go_roundg k1
     case measure => exact Q1_ HK1
     case rel => exact ⟨(x9_1), (ji5), E_, (by first | rfl | (simp; done) | (simp only [← hji5] <;> (first | rfl | simp)) | (simp [*]; done)), H', ⟨Q1_ HK1⟩, ⟨B_ HB.out⟩⟩
   ·rw [if_neg c4] at H
    have c4b0 : decide (x9_1 < x10_1) = false := decide_eq_false c4
    clear c4
    by_cases c12 : x9_1 < (l0.length : Int)
    ·rw [if_pos c12] at H
     have c12b0 : decide (x9_1 < (l0.length : Int)) = true := decide_eq_true c12
     clear c12
     have c13 := O1_ H
     replace H := O2_ H
     have c13b0 := decide_eq_true c13
     clear c13
     have c14 := O1_ H
     replace H := O2_ H
     have c14b0 := decide_eq_true c14
     clear c14
     replace H := Option.bind_eq_some_iff.mp H
     obtain ⟨t104, A150, H⟩ := H
     replace H : (some (x9_1, (t104 == 0))) = some (r1, r2) := H
     have A15 := Aside0.mk A150
     clear A150
     simp only [Option.some.injEq, Prod.mk.injEq] at H
     obtain ⟨rfl, rfl⟩ := H
     have p103 : 0 ≤ (x9_1 : Int) := D_
     have q103 : x9_1 < (l0.length : Int) := D_
     obtain ⟨ad103, A103_0, c103_0, e103, hx103_0, hl103_0, hi103_0⟩ := at_ListInt HR0.out x9_1 p103 q103
     cases e103
     replace hx103_0 := (HB.out.cell (World.block_lt_of_cell? w _ hx103_0)).trans hx103_0
     have HR103_0 := Aside0.mk hi103_0
     have HC103_0 := Aside0.mk hl103_0
     clear hi103_0 hl103_0
     replace p103 := eq_true p103
     replace q103 := eq_true q103
     go_wp2_with (first | (go_at_call 39; (with_reducible refine (z39.calls k1 _ _ (rd_ListInt l0 x9_1) _ _ l1 t104 _ ?side1 ?side2 ?side3 ?side4 A15.out).mono ?_); (case side1 => exact KC_ (Kd.C_below HR103_0.out HB.out)); (case side2 => exact HC103_0.out); (case side3 => exact KC_ (Kd.C_below HR1.out HB.out)); (case side4 => exact HC1.out); rintro e w16 ⟨rfl, hb⟩; replace HB := Aside0.mk (below_step (B_ HB.out) hb); (try clear hb); (try clear hb2); (try clear hk); (try clear hi)))
     go_ret2
     exact ⟨F_, B_ HB.out⟩
    ·rw [if_neg c12] at H
     have c12b0 : decide (x9_1 < (l0.length : Int)) = false := decide_eq_false c12
     clear c12
     simp only [Option.some.injEq, Prod.mk.injEq] at H
     obtain ⟨rfl, rfl⟩ := H
     go_wp2
     go_ret2
     exact ⟨F_, B_ HB.out⟩
def z32.f (k : Nat) (l0_0 : List (List Int)) (l1 : List Int) : Option (Int) := (z111.f k l0_0 l1).bind fun bt102 => (if bt102.2 = true then (some bt102.1) else (some (-1)))
set_option maxHeartbeats 8000000 in
set_option maxRecDepth 100000 in
theorem z32.calls (k : Nat) (A0_0 : Option Addr) (c0_0 : Nat) (l0_0 : List (List Int)) (A1 : Option Addr) (c1 : Nat) (l1 : List Int) (r : Int) (w : World) (hr0_0 : Kd.C (Kd.slice 2 (Kd.int .i64)) w A0_0 l0_0.length l0_0) (hc0_0 : l0_0.length ≤ c0_0) (hr1 : Kd.C (Kd.int .i64) w A1 l1.length l1) (hc1 : l1.length ≤ c1) (h : z32.f k l0_0 l1 = some r) :
  Calls Try.prog 32 #[.agg #[.slice A0_0 l0_0.length c0_0], .slice A1 l1.length c1] w fun e w' => e = .returned (.int .i64 r) ∧ Below w.heap.size w w' := by
 have hu26 := Try.underlying26
 have HR0_0 := Aside0.mk hr0_0
 have HC0_0 := Aside0.mk hc0_0
 clear hr0_0 hc0_0
 have HR1 := Aside0.mk hr1
 have HC1 := Aside0.mk hc1
 clear hr1 hc1
 have HB := Aside0.mk (Below.refl w.heap.size w)
 have H : ((z111.f k l0_0 l1).bind fun bt102 => (if bt102.2 = true then (some bt102.1) else (some (-1)))) = some r := h
 clear h
 replace H := Option.bind_eq_some_iff.mp H
 obtain ⟨⟨t102, t103⟩, A30, H⟩ := H
 try dsimp only at H
 have A3 := Aside0.mk A30
 clear A30
 by_cases c4 : t103 = true
 ·subst c4
  replace H := T_ H
  obtain rfl := Option.some.inj H
  go_enter Try.func32, Try.ntmps32
  go_wp2_with (first | ((with_reducible refine gate_dst (N := 2) rfl ?_); refine box_event ?hg (N := 2) ?hd (cs := #[.slice A0_0 l0_0.length c0_0]) (t := 26) ?hr ?_; (case hd => rfl); (case hg => rfl); (case hr => first | (go_simp; done) | (go_simp; rfl)); intro gb101 hg w5 hbox hb; have n0_ := Aside0.mk (below_step (B_ HB.out) hb); have n1_ := Aside0.mk (hbox); have n2_ := Aside0.mk ((by rw [hg]; exact (below_size (B_ HB.out)) : w.heap.size ≤ gb101)); have n3_ := Aside0.mk ((by rw [hg]; exact (below_size (B_ HB.out)) : w.heap.size ≤ gb101)); clear HB; have HB := n0_; have BK101 := n1_; have GW101 := n2_; have GE101 := n3_; clear n0_ n1_ n2_ n3_; clear hb hbox hg; have hcz6_0 : w5.cell? ⟨gb101, 0, none⟩ = some (.slice A0_0 l0_0.length c0_0) := (blk_cell BK101.out 0).trans rfl; have hfz6_0 := blk_frozen BK101.out 0) | ((with_reducible refine gate_callee (f := 56) rfl ?_); refine goesL_ (some 11) rfl rfl Try.func56 (by kernel_rfl) rfl #[.slice A0_0 l0_0.length c0_0, .slice A1 l1.length c1, .func (.func 39) #[] #[]] rfl (by (try simp only [List.map_toArray, List.map_cons, List.map_nil]); first | done | rfl | (simp only [List.length_drop, List.length_take]; rfl)) ?_; (with_reducible refine (z111.calls k _ _ l0_0 _ _ l1  t102 true _ ?side1 ?side2 ?side3 ?side4 A3.out).mono ?_); (case side1 => exact KC_ (Kd.C_below HR0_0.out HB.out)); (case side2 => exact HC0_0.out); (case side3 => exact KC_ (Kd.C_below HR1.out HB.out)); (case side4 => exact HC1.out); rintro e w7 ⟨rfl, hb⟩; refine ⟨_, rfl, ?_⟩; replace BK101 := Aside0.mk (blk_below (g := gb101) (o := .cells #[.slice A0_0 l0_0.length c0_0] 26 (0, 0)) (KB_ BK101.out) hb); replace HB := Aside0.mk (below_step (B1_ HB.out GE101.out) hb); (try clear hb); (try clear hb2); (try clear hk); (try clear hi)))
  go_ret
  exact ⟨F_, B1_ HB.out GE101.out⟩
 ·replace c4 := Bool.eq_false_iff.mpr c4
  subst c4
  replace H := N_ H
  obtain rfl := Option.some.inj H
  go_enter Try.func32, Try.ntmps32
  go_wp2_with (first | ((with_reducible refine gate_dst (N := 2) rfl ?_); refine box_event ?hg (N := 2) ?hd (cs := #[.slice A0_0 l0_0.length c0_0]) (t := 26) ?hr ?_; (case hd => rfl); (case hg => rfl); (case hr => first | (go_simp; done) | (go_simp; rfl)); intro gb101 hg w8 hbox hb; have n0_ := Aside0.mk (below_step (B_ HB.out) hb); have n1_ := Aside0.mk (hbox); have n2_ := Aside0.mk ((by rw [hg]; exact (below_size (B_ HB.out)) : w.heap.size ≤ gb101)); have n3_ := Aside0.mk ((by rw [hg]; exact (below_size (B_ HB.out)) : w.heap.size ≤ gb101)); clear HB; have HB := n0_; have BK101 := n1_; have GW101 := n2_; have GE101 := n3_; clear n0_ n1_ n2_ n3_; clear hb hbox hg; have hcz9_0 : w8.cell? ⟨gb101, 0, none⟩ = some (.slice A0_0 l0_0.length c0_0) := (blk_cell BK101.out 0).trans rfl; have hfz9_0 := blk_frozen BK101.out 0) | ((with_reducible refine gate_callee (f := 56) rfl ?_); refine goesL_ (some 11) rfl rfl Try.func56 (by kernel_rfl) rfl #[.slice A0_0 l0_0.length c0_0, .slice A1 l1.length c1, .func (.func 39) #[] #[]] rfl (by (try simp only [List.map_toArray, List.map_cons, List.map_nil]); first | done | rfl | (simp only [List.length_drop, List.length_take]; rfl)) ?_; (with_reducible refine (z111.calls k _ _ l0_0 _ _ l1  t102 false _ ?side1 ?side2 ?side3 ?side4 A3.out).mono ?_); (case side1 => exact KC_ (Kd.C_below HR0_0.out HB.out)); (case side2 => exact HC0_0.out); (case side3 => exact KC_ (Kd.C_below HR1.out HB.out)); (case side4 => exact HC1.out); rintro e w10 ⟨rfl, hb⟩; refine ⟨_, rfl, ?_⟩; replace BK101 := Aside0.mk (blk_below (g := gb101) (o := .cells #[.slice A0_0 l0_0.length c0_0] 26 (0, 0)) (KB_ BK101.out) hb); replace HB := Aside0.mk (below_step (B1_ HB.out GE101.out) hb); (try clear hb); (try clear hb2); (try clear hk); (try clear hi)))
  go_ret
  exact ⟨F_, B1_ HB.out GE101.out⟩
def z29.f (l0 : List (List Int)) : Option (Int) := some (l0.length : Int)
set_option maxHeartbeats 8000000 in
set_option maxRecDepth 100000 in
theorem z29.calls (A0 : Option Addr) (c0 : Nat) (l0 : List (List Int)) (r : Int) (w : World) (hr0 : Kd.C (Kd.slice 2 (Kd.int .i64)) w A0 l0.length l0) (hc0 : l0.length ≤ c0) (h : z29.f l0 = some r) :
  Calls Try.prog 29 #[.slice A0 l0.length c0] w fun e w' => e = .returned (.int .i64 r) ∧ Drawn0 w w' := by
 have HR0 := Aside0.mk hr0
 have HC0 := Aside0.mk hc0
 clear hr0 hc0
 have H : (some (l0.length : Int)) = some r := h
 clear h
 obtain rfl := Option.some.inj H
 go_enter Try.func29, Try.ntmps29
 go_wp2
 go_ret
 exact ⟨by first | rfl | (simp; done) | (simp [*]; done), by repeat (first | exact Drawn0.refl _ | apply Drawn0.step)⟩
def z68.l0 : Nat → List Int → Int → Option (Bool)
 | 0, _, _ => none
 | k + 1, x0, x3 => if x3 < (x0.length : Int) then (if 0 ≤ (wrap64 (x3 - 1)) then (if (wrap64 (x3 - 1)) < (x0.length : Int) then (if 0 ≤ x3 then (if (rd x0 (wrap64 (x3 - 1))) ≥ (rd x0 x3) then (some false) else (z68.l0 k x0 (wrap64 (x3 + 1)))) else (none)) else (none)) else (none)) else (some true)
def z68.f (k : Nat) (l0 : List Int) : Option (Bool) := z68.l0 k l0 1
set_option maxHeartbeats 8000000 in
set_option maxRecDepth 100000 in
theorem z68.calls (k : Nat) (A0 : Option Addr) (c0 : Nat) (l0 : List Int) (r : Bool) (w : World) (hr0 : Kd.C (Kd.int .i64) w A0 l0.length l0) (hc0 : l0.length ≤ c0) (h : z68.f k l0 = some r) :
  Calls Try.prog 68 #[.slice A0 l0.length c0] w fun e w' => e = .returned (.bool r) ∧ Drawn0 w w' := by
 have HR0 := Aside0.mk hr0
 have HC0 := Aside0.mk hc0
 clear hr0 hc0
 have H : (z68.l0 k l0 1) = some r := h
 clear h
 have H' := Aside0.mk H
 clear H
 go_enter Try.func68, Try.ntmps68
 go_wp2
 repeat (go_quiet (fail); try go_wp2)
 go_loopg [3] k (fun kq v3 w' => ∃ (x3_1 : Int), v3 = .int .i64 x3_1 ∧ Aside0 (z68.l0 kq l0 x3_1 = some r) ∧ Aside0 (kq ≤ k) ∧ Drawn0 w w')
 case atStart => exact ⟨(1), E_, H', ⟨Nat.le_refl _⟩, by repeat (first | exact Drawn0.refl _ | apply Drawn0.step)⟩
 case round =>
  clear H'
  obtain ⟨x3_1, rfl, HA, HK1, ⟨m1, rfl⟩⟩ := hrel
  cases gk with
  | zero => exact absurd HA.out (by simp [z68.l0])
  | succ k1 =>
   have H := HA.out
   clear HA
   simp only [z68.l0] at H
   by_cases c2 : x3_1 < (l0.length : Int)
   ·rw [if_pos c2] at H
    have c2b0 : decide (x3_1 < (l0.length : Int)) = true := decide_eq_true c2
    clear c2
    obtain ⟨ji3, hji3⟩ : ∃ j_ : Int, (wrap64 (x3_1 - 1)) = j_ := ⟨_, rfl⟩
    replace H : (if 0 ≤ (ji3) then (if (ji3) < (l0.length : Int) then (if 0 ≤ x3_1 then (if (rd l0 (ji3)) ≥ (rd l0 x3_1) then (some false) else (z68.l0 k1 l0 (wrap64 (x3_1 + 1)))) else (none)) else (none)) else (none)) = some r := by first | (rw [hji3] at H; exact H) | (simp only [hji3] at H ⊢; exact H)
    have hji3w : (IntKind.i64.wrap (x3_1 - 1)) = ji3 := (i64_w _).trans hji3
    have c4 := O1_ H
    replace H := O2_ H
    have c4b0 := decide_eq_true c4
    clear c4
    have c5 := O1_ H
    replace H := O2_ H
    have c5b0 := decide_eq_true c5
    clear c5
    have c6 := O1_ H
    replace H := O2_ H
    have c6b0 := decide_eq_true c6
    clear c6
    by_cases c7 : (rd l0 (ji3)) ≥ (rd l0 x3_1)
    ·rw [if_pos c7] at H
     have c7b0 : decide ((rd l0 x3_1) ≤ (rd l0 (ji3))) = true := decide_eq_true c7
     clear c7
     obtain rfl := Option.some.inj H
     have p101 : 0 ≤ ((ji3) : Int) := D_
     have q101 : (ji3) < (l0.length : Int) := D_
     obtain ⟨ad101, e101, hx101_0⟩ := Kd.at_int HR0.out (ji3) p101 q101
     cases e101
     replace p101 := eq_true p101
     replace q101 := eq_true q101
     have p102 : 0 ≤ (x3_1 : Int) := D_
     have q102 : x3_1 < (l0.length : Int) := D_
     obtain ⟨ad102, e102, hx102_0⟩ := Kd.at_int HR0.out x3_1 p102 q102
     obtain rfl : ad101 = ad102 := (by injection e102)
     replace p102 := eq_true p102
     replace q102 := eq_true q102
     go_wp2
     repeat (go_quiet (fail); try go_wp2)
     go_ret
     exact ⟨by first | rfl | (simp; done) | (simp only [← hji3] <;> (first | rfl | simp)) | (simp [*]; done), by repeat (first | exact Drawn0.refl _ | apply Drawn0.step)⟩
    ·rw [if_neg c7] at H
     have c7b0 : decide ((rd l0 x3_1) ≤ (rd l0 (ji3))) = false := decide_eq_false c7
     clear c7
     have H' := Aside0.mk H
     clear H
     have p101 : 0 ≤ ((ji3) : Int) := D_
     have q101 : (ji3) < (l0.length : Int) := D_
     obtain ⟨ad101, e101, hx101_0⟩ := Kd.at_int HR0.out (ji3) p101 q101
     cases e101
     replace p101 := eq_true p101
     replace q101 := eq_true q101
     have p102 : 0 ≤ (x3_1 : Int) := D_
     have q102 : x3_1 < (l0.length : Int) := D_
     obtain ⟨ad102, e102, hx102_0⟩ := Kd.at_int HR0.out x3_1 p102 q102
     obtain rfl : ad101 = ad102 := (by injection e102)
     replace p102 := eq_true p102
     replace q102 := eq_true q102
     go_wp2
     repeat (go_quiet (fail); try go_wp2)
     go_roundg k1
     case measure => exact Q1_ HK1
     case rel => exact ⟨(wrap64 (x3_1 + 1)), E_, H', ⟨Q1_ HK1⟩, by repeat (first | exact Drawn0.refl _ | apply Drawn0.step)⟩
   ·rw [if_neg c2] at H
    have c2b0 : decide (x3_1 < (l0.length : Int)) = false := decide_eq_false c2
    clear c2
    obtain rfl := Option.some.inj H
    go_wp2
    repeat (go_quiet (fail); try go_wp2)
    go_ret
    exact ⟨by first | rfl | (simp; done) | (simp [*]; done), by repeat (first | exact Drawn0.refl _ | apply Drawn0.step)⟩
def z28.f (a0 : Int) (a1 : Int) (a2 : Int) : Option (Bool) := if a0 ≥ a1 then (some (decide (a0 ≤ a2))) else (some false)
set_option maxHeartbeats 8000000 in
set_option maxRecDepth 100000 in
theorem z28.calls (a0 : Int) (a1 : Int) (a2 : Int) (r : Bool) (w : World) (h : z28.f a0 a1 a2 = some r) :
  Calls Try.prog 28 #[.int .i64 a0, .int .i64 a1, .int .i64 a2] w fun e w' => e = .returned (.bool r) ∧ Drawn0 w w' := by
 have H : (if a0 ≥ a1 then (some (decide (a0 ≤ a2))) else (some false)) = some r := h
 clear h
 by_cases c4 : a0 ≥ a1
 ·rw [if_pos c4] at H
  have c4b0 : decide (a1 ≤ a0) = true := decide_eq_true c4
  clear c4
  obtain rfl := Option.some.inj H
  go_enter Try.func28, Try.ntmps28
  go_wp2
  go_ret
  exact ⟨by first | rfl | (simp; done) | (simp [*]; done), by repeat (first | exact Drawn0.refl _ | apply Drawn0.step)⟩
 ·rw [if_neg c4] at H
  have c4b0 : decide (a1 ≤ a0) = false := decide_eq_false c4
  clear c4
  obtain rfl := Option.some.inj H
  go_enter Try.func28, Try.ntmps28
  go_wp2
  go_ret
  exact ⟨by first | rfl | (simp; done) | (simp [*]; done), by repeat (first | exact Drawn0.refl _ | apply Drawn0.step)⟩
def z70.f (a0 : Int) : Option (Bool) := (z28.f a0 0 9).bind fun t101 => (some t101)
set_option maxHeartbeats 8000000 in
set_option maxRecDepth 100000 in
theorem z70.calls (a0 : Int) (r : Bool) (w : World) (h : z70.f a0 = some r) :
  Calls Try.prog 70 #[.int .i64 a0] w fun e w' => e = .returned (.bool r) ∧ Drawn0 w w' := by
 have H : ((z28.f a0 0 9).bind fun t101 => (some t101)) = some r := h
 clear h
 replace H := Option.bind_eq_some_iff.mp H
 obtain ⟨t101, A20, H⟩ := H
 have A2 := Aside0.mk A20
 clear A20
 obtain rfl := Option.some.inj H
 go_enter Try.func70, Try.ntmps70
 go_wp2_with (first | ((with_reducible refine gate_callee (f := 28) rfl ?_); refine goesL_ (some 4) rfl rfl Try.func28 (by kernel_rfl) rfl #[.int .i64 a0, .int .i64 0, .int .i64 9] rfl (by (try simp only [List.map_toArray, List.map_cons, List.map_nil]); first | done | rfl | (simp only [List.length_drop, List.length_take]; rfl)) ?_; (with_reducible refine (z28.calls a0 0 9 t101 _ A2.out).mono ?_); rintro e w' ⟨rfl, ⟨nd, rfl⟩⟩; refine ⟨_, rfl, ?_⟩))
 go_ret
 exact ⟨by first | rfl | (simp; done) | (simp [*]; done), by repeat (first | exact Drawn0.refl _ | apply Drawn0.step)⟩
def z69.f (a0 : Int) : Option (Bool) := (z70.f a0).bind fun t101 => (some (!t101))
set_option maxHeartbeats 8000000 in
set_option maxRecDepth 100000 in
theorem z69.calls (a0 : Int) (r : Bool) (w : World) (h : z69.f a0 = some r) :
  Calls Try.prog 69 #[.int .i64 a0] w fun e w' => e = .returned (.bool r) ∧ Drawn0 w w' := by
 have H : ((z70.f a0).bind fun t101 => (some (!t101))) = some r := h
 clear h
 replace H := Option.bind_eq_some_iff.mp H
 obtain ⟨t101, A20, H⟩ := H
 have A2 := Aside0.mk A20
 clear A20
 obtain rfl := Option.some.inj H
 go_enter Try.func69, Try.ntmps69
 go_wp2_with (first | ((with_reducible refine gate_callee (f := 70) rfl ?_); refine goesL_ (some 4) rfl rfl Try.func70 (by kernel_rfl) rfl #[.int .i64 a0] rfl (by (try simp only [List.map_toArray, List.map_cons, List.map_nil]); first | done | rfl | (simp only [List.length_drop, List.length_take]; rfl)) ?_; (with_reducible refine (z70.calls a0 t101 _ A2.out).mono ?_); rintro e w' ⟨rfl, ⟨nd, rfl⟩⟩; refine ⟨_, rfl, ?_⟩))
 go_ret
 exact ⟨by first | rfl | (simp; done) | (simp [*]; done), by repeat (first | exact Drawn0.refl _ | apply Drawn0.step)⟩
def z110.l0 : Nat → List Int → Int → Int → Option (Int)
 | 0, _, _, _ => none
 | k + 1, x0, x7, x8 => if x8 < x7 then (if 0 ≤ x8 then (if x8 < (x0.length : Int) then ((z69.f (rd x0 x8)).bind fun t102 => (if t102 = true then (some x8) else (z110.l0 k x0 x7 (wrap64 (x8 + 1))))) else (none)) else (none)) else (some (-1))
def z110.f (k : Nat) (l0 : List Int)  : Option (Int) := z110.l0 k l0 (l0.length : Int) 0
set_option maxHeartbeats 8000000 in
set_option maxRecDepth 100000 in
theorem z110.calls (k : Nat) (A0 : Option Addr) (c0 : Nat) (l0 : List Int)  (r : Int) (w : World) (hr0 : Kd.C (Kd.int .i64) w A0 l0.length l0) (hc0 : l0.length ≤ c0) (h : z110.f k l0 = some r) :
  Calls Try.prog 57 #[.slice A0 l0.length c0, .func (.func 69) #[] #[]] w fun e w' => e = .returned (.int .i64 r) ∧ Below w.heap.size w w' := by
 have HR0 := Aside0.mk hr0
 have HC0 := Aside0.mk hc0
 clear hr0 hc0
 have HB := Aside0.mk (Below.refl w.heap.size w)
 have H : (z110.l0 k l0 (l0.length : Int) 0) = some r := h
 clear h
 have H' := Aside0.mk H
 clear H
 go_enter Try.func57, Try.ntmps57
 go_wp2
 go_loopg [8] k (fun kq v8 w' => ∃ (x8_1 : Int), v8 = .int .i64 x8_1 ∧ Aside0 (z110.l0 kq l0 (l0.length : Int) x8_1 = some r) ∧ Aside0 (kq ≤ k) ∧ Aside0 (Below w.heap.size w w'))
 case atStart => exact ⟨(0), E_, H', ⟨Nat.le_refl _⟩, ⟨B_ HB.out⟩⟩
 case round =>
  clear H'
  (try clear p2)
  obtain ⟨x8_1, rfl, HA, HK1, HB⟩ := hrel
  cases gk with
  | zero => exact absurd HA.out (by simp [z110.l0])
  | succ k1 =>
   have H := HA.out
   clear HA
   simp only [z110.l0] at H
   by_cases c3 : x8_1 < (l0.length : Int)
   ·rw [if_pos c3] at H
    have c3b0 : decide (x8_1 < (l0.length : Int)) = true := decide_eq_true c3
    clear c3
    have c4 := O1_ H
    replace H := O2_ H
    have c4b0 := decide_eq_true c4
    clear c4
    have c5 := O1_ H
    replace H := O2_ H
    have c5b0 := decide_eq_true c5
    clear c5
    replace H := Option.bind_eq_some_iff.mp H
    obtain ⟨t102, A60, H⟩ := H
    have A6 := Aside0.mk A60
    clear A60
    by_cases c7 : t102 = true
    ·subst c7
     replace H := T_ H
     obtain rfl := Option.some.inj H
     have p101 : 0 ≤ (x8_1 : Int) := D_
     have q101 : x8_1 < (l0.length : Int) := D_
     obtain ⟨ad101, e101, hx101_0⟩ := Kd.at_int HR0.out x8_1 p101 q101
     cases e101
     replace hx101_0 := (HB.out.cell (World.block_lt_of_cell? w _ hx101_0)).trans hx101_0
     replace p101 := eq_true p101
     replace q101 := eq_true q101
     go_wp2_with (first | (go_at_call 69; (with_reducible refine (z69.calls (rd l0 x8_1) true _ A6.out).mono ?_); rintro e w' ⟨rfl, ⟨nd, rfl⟩⟩))
     go_ret
     exact ⟨F_, B_ HB.out⟩
    ·replace c7 := Bool.eq_false_iff.mpr c7
     subst c7
     replace H := N_ H
     have H' := Aside0.mk H
     clear H
     have p101 : 0 ≤ (x8_1 : Int) := D_
     have q101 : x8_1 < (l0.length : Int) := D_
     obtain ⟨ad101, e101, hx101_0⟩ := Kd.at_int HR0.out x8_1 p101 q101
     cases e101
     replace hx101_0 := (HB.out.cell (World.block_lt_of_cell? w _ hx101_0)).trans hx101_0
     replace p101 := eq_true p101
     replace q101 := eq_true q101
     go_wp2_with (first | (go_at_call 69; (with_reducible refine (z69.calls (rd l0 x8_1) false _ A6.out).mono ?_); rintro e w' ⟨rfl, ⟨nd, rfl⟩⟩))
     go_roundg k1
     case measure => exact Q1_ HK1
     case rel => exact ⟨(wrap64 (x8_1 + 1)), E_, H', ⟨Q1_ HK1⟩, ⟨B_ HB.out⟩⟩
   ·rw [if_neg c3] at H
    have c3b0 : decide (x8_1 < (l0.length : Int)) = false := decide_eq_false c3
    clear c3
    obtain rfl := Option.some.inj H
    go_wp2
    go_ret
    exact ⟨F_, B_ HB.out⟩
def z109.f (k : Nat) (l0 : List Int)  : Option (Bool) := (z110.f k l0).bind fun t101 => (some (decide (t101 ≥ 0)))
set_option maxHeartbeats 8000000 in
set_option maxRecDepth 100000 in
theorem z109.calls (k : Nat) (A0 : Option Addr) (c0 : Nat) (l0 : List Int)  (r : Bool) (w : World) (hr0 : Kd.C (Kd.int .i64) w A0 l0.length l0) (hc0 : l0.length ≤ c0) (h : z109.f k l0 = some r) :
  Calls Try.prog 53 #[.slice A0 l0.length c0, .func (.func 69) #[] #[]] w fun e w' => e = .returned (.bool r) ∧ Below w.heap.size w w' := by
 have HR0 := Aside0.mk hr0
 have HC0 := Aside0.mk hc0
 clear hr0 hc0
 have HB := Aside0.mk (Below.refl w.heap.size w)
 have H : ((z110.f k l0).bind fun t101 => (some (decide (t101 ≥ 0)))) = some r := h
 clear h
 replace H := Option.bind_eq_some_iff.mp H
 obtain ⟨t101, A30, H⟩ := H
 have A3 := Aside0.mk A30
 clear A30
 obtain rfl := Option.some.inj H
 go_enter Try.func53, Try.ntmps53
 go_wp2_with (first | ((with_reducible refine gate_callee (f := 57) rfl ?_); refine goesL_ (some 7) rfl rfl Try.func57 (by kernel_rfl) rfl #[.slice A0 l0.length c0, .func (.func 69) #[] #[]] rfl (by (try simp only [List.map_toArray, List.map_cons, List.map_nil]); first | done | rfl | (simp only [List.length_drop, List.length_take]; rfl)) ?_; (with_reducible refine (z110.calls k _ _ l0  t101 _ ?side1 ?side2 A3.out).mono ?_); (case side1 => exact KC_ HR0.out); (case side2 => exact HC0.out); rintro e w4 ⟨rfl, hb⟩; refine ⟨_, rfl, ?_⟩; replace HB := Aside0.mk (below_step (B_ HB.out) hb); (try clear hb); (try clear hb2); (try clear hk); (try clear hi)))
 go_ret
 exact ⟨F_, B_ HB.out⟩
def z46.f (k : Nat) (l0 : List Int) : Option (Bool) := if (l0.length : Int) ≥ 1 then (if (l0.length : Int) ≤ 4 then ((z68.f k l0).bind fun t101 => (if t101 = true then ((z109.f k l0).bind fun t102 => (some (!t102))) else (some false))) else (some false)) else (some false)
set_option maxHeartbeats 8000000 in
set_option maxRecDepth 100000 in
theorem z46.calls (k : Nat) (A0 : Option Addr) (c0 : Nat) (l0 : List Int) (r : Bool) (w : World) (hr0 : Kd.C (Kd.int .i64) w A0 l0.length l0) (hc0 : l0.length ≤ c0) (h : z46.f k l0 = some r) :
  Calls Try.prog 46 #[.slice A0 l0.length c0] w fun e w' => e = .returned (.bool r) ∧ Below w.heap.size w w' := by
 have HR0 := Aside0.mk hr0
 have HC0 := Aside0.mk hc0
 clear hr0 hc0
 have HB := Aside0.mk (Below.refl w.heap.size w)
 have H : (if (l0.length : Int) ≥ 1 then (if (l0.length : Int) ≤ 4 then ((z68.f k l0).bind fun t101 => (if t101 = true then ((z109.f k l0).bind fun t102 => (some (!t102))) else (some false))) else (some false)) else (some false)) = some r := h
 clear h
 by_cases c2 : (l0.length : Int) ≥ 1
 ·rw [if_pos c2] at H
  have c2b0 : decide (1 ≤ (l0.length : Int)) = true := decide_eq_true c2
  have c2b1 : decide (1 ≤ l0.length) = true := decide_eq_true (by omega)
  clear c2
  by_cases c3 : (l0.length : Int) ≤ 4
  ·rw [if_pos c3] at H
   have c3b0 : decide ((l0.length : Int) ≤ 4) = true := decide_eq_true c3
   have c3b1 : decide (l0.length ≤ 4) = true := decide_eq_true (by omega)
   clear c3
   replace H := Option.bind_eq_some_iff.mp H
   obtain ⟨t101, A40, H⟩ := H
   have A4 := Aside0.mk A40
   clear A40
   by_cases c5 : t101 = true
   ·subst c5
    replace H := T_ H
    replace H := Option.bind_eq_some_iff.mp H
    obtain ⟨t102, A60, H⟩ := H
    have A6 := Aside0.mk A60
    clear A60
    obtain rfl := Option.some.inj H
    go_enter Try.func46, Try.ntmps46
    go_wp2_with (first | (go_at_call 68; (with_reducible refine (z68.calls k _ _ l0 true _ ?side1 ?side2 A4.out).mono ?_); (case side1 => exact KC_ HR0.out); (case side2 => exact HC0.out); rintro e w' ⟨rfl, ⟨nd, rfl⟩⟩) | (go_at_call 53; (with_reducible refine (z109.calls k _ _ l0  t102 _ ?side1 ?side2 A6.out).mono ?_); (case side1 => exact KC_ HR0.out); (case side2 => exact HC0.out); rintro e w7 ⟨rfl, hb⟩; replace HB := Aside0.mk (below_step (B_ HB.out) hb); (try clear hb); (try clear hb2); (try clear hk); (try clear hi)))
    go_ret
    exact ⟨F_, B_ HB.out⟩
   ·replace c5 := Bool.eq_false_iff.mpr c5
    subst c5
    replace H := N_ H
    obtain rfl := Option.some.inj H
    go_enter Try.func46, Try.ntmps46
    go_wp2_with (first | (go_at_call 68; (with_reducible refine (z68.calls k _ _ l0 false _ ?side1 ?side2 A4.out).mono ?_); (case side1 => exact KC_ HR0.out); (case side2 => exact HC0.out); rintro e w' ⟨rfl, ⟨nd, rfl⟩⟩))
    go_ret
    exact ⟨F_, B_ HB.out⟩
  ·rw [if_neg c3] at H
   have c3b0 : decide ((l0.length : Int) ≤ 4) = false := decide_eq_false c3
   have c3b1 : decide (l0.length ≤ 4) = false := decide_eq_false (by omega)
   clear c3
   obtain rfl := Option.some.inj H
   go_enter Try.func46, Try.ntmps46
   go_wp2
   go_ret
   exact ⟨F_, B_ HB.out⟩
 ·rw [if_neg c2] at H
  have c2b0 : decide (1 ≤ (l0.length : Int)) = false := decide_eq_false c2
  have c2b1 : decide (1 ≤ l0.length) = false := decide_eq_false (by omega)
  clear c2
  obtain rfl := Option.some.inj H
  go_enter Try.func46, Try.ntmps46
  go_wp2
  go_ret
  exact ⟨F_, B_ HB.out⟩
def z48.f (k : Nat) (l0 : List Int) (l1_0 : List (List Int)) (a2_0 : Int) : Option (Bool) := if 0 ≤ a2_0 then (if a2_0 ≤ (l1_0.length : Int) then ((z32.f k (l1_0.take (a2_0 : Int).toNat) l0).bind fun t105 => (some (decide (t105 < 0)))) else (none)) else (none)
set_option maxHeartbeats 8000000 in
set_option maxRecDepth 100000 in
theorem z48.calls (k : Nat) (A0 : Option Addr) (c0 : Nat) (l0 : List Int) (gp1 : Nat) (A1_0 : Option Addr) (c1_0 : Nat) (l1_0 : List (List Int)) (gp2 : Nat) (a2_0 : Int) (r : Bool) (w : World) (hbp1 : w.heap[gp1]? = some (.cells #[.slice A1_0 l1_0.length c1_0] 26 (0, 0))) (hbp2 : w.heap[gp2]? = some (.cells #[.int .i64 a2_0] 3 (0, 0))) (hr0 : Kd.C (Kd.int .i64) w A0 l0.length l0) (hc0 : l0.length ≤ c0) (hr1_0 : Kd.C (Kd.slice 2 (Kd.int .i64)) w A1_0 l1_0.length l1_0) (hc1_0 : l1_0.length ≤ c1_0) (h : z48.f k l0 l1_0 a2_0 = some r) :
  Calls Try.prog 48 #[.slice A0 l0.length c0, .pointer (some ⟨gp1, 0, none⟩), .pointer (some ⟨gp2, 0, none⟩)] w fun e w' => e = .returned (.bool r) ∧ Below w.heap.size w w' := by
 have hu26 := Try.underlying26
 have HR0 := Aside0.mk hr0
 have HC0 := Aside0.mk hc0
 clear hr0 hc0
 have HR1_0 := Aside0.mk hr1_0
 have HC1_0 := Aside0.mk hc1_0
 clear hr1_0 hc1_0
 have BK51 := Aside0.mk hbp1
 clear hbp1
 have BK52 := Aside0.mk hbp2
 clear hbp2
 have HB := Aside0.mk (Below.refl w.heap.size w)
 have H : (if 0 ≤ a2_0 then (if a2_0 ≤ (l1_0.length : Int) then ((z32.f k (l1_0.take (a2_0 : Int).toNat) l0).bind fun t105 => (some (decide (t105 < 0)))) else (none)) else (none)) = some r := h
 clear h
 have c4 := O1_ H
 replace H := O2_ H
 have c4b0 := eq_true c4
 have c4b1 : decide (0 ≤ a2_0) = true := decide_eq_true c4
 clear c4
 have c5 := O1_ H
 replace H := O2_ H
 have c5b0 := eq_true c5
 have c5b1 : decide (a2_0 ≤ (l1_0.length : Int)) = true := decide_eq_true c5
 clear c5
 obtain ⟨y101, hy101⟩ : ∃ y_ : List (List Int), y_ = (l1_0.take (a2_0 : Int).toNat) := ⟨_, rfl⟩
 replace H : ((z32.f k y101 l0).bind fun t105 => (some (decide (t105 < 0)))) = some r := Y_ hy101 H
 have Ny101 := Aside0.mk hy101
 clear hy101
 replace H := Option.bind_eq_some_iff.mp H
 obtain ⟨t105, A60, H⟩ := H
 have A6 := Aside0.mk A60
 clear A60
 obtain rfl := Option.some.inj H
 have hcz7_0 : w.cell? ⟨gp1, 0, none⟩ = some (.slice A1_0 l1_0.length c1_0) := (blk_cell BK51.out 0).trans rfl
 have hfz7_0 := blk_frozen BK51.out 0
 have hcz8_0 : w.cell? ⟨gp2, 0, none⟩ = some (.int .i64 a2_0) := (blk_cell BK52.out 0).trans rfl
 have hfz8_0 := blk_frozen BK52.out 0
 have q9 : (a2_0 : Int) ≤ ((l1_0.length : Int) : Int) := D_
 obtain ⟨i09, hi09, _, hsz9, _⟩ := info_parts info29
 have hroom9 : l1_0.length ≤ c1_0 := HC1_0.out
 have hC9 : Kd.C (Kd.slice 2 (Kd.int .i64)) _ A1_0 l1_0.length l1_0 := HR1_0.out
 have hcut9 := cut_to (P := Try.prog) 24 29 .i64 Try.underlying24 hi09 A1_0 l1_0.length c1_0 a2_0 (D_) q9 hroom9
 have hr9 := Kd.C_take (m := (a2_0 : Int).toNat) hC9 (by omega)
 have hy9 : y101.length = (a2_0 : Int).toNat := (by rw [Ny101.out, List.length_take]; omega)
 rw [← Ny101.out] at hr9
 rw [← hy9] at hcut9
 have HR104 := Aside0.mk hr9
 have HC104 := Aside0.mk (show y101.length ≤ c1_0 from by omega)
 clear hr9 hC9 hroom9 hi09 hsz9
 have KY9 := Aside0.mk hy9
 clear hy9
 replace q9 := eq_true q9
 go_enter Try.func48, Try.ntmps48
 go_wp2_with (first | ((with_reducible refine gate_callee (f := 32) rfl ?_); refine goesL_ (some 11) rfl rfl Try.func32 (by kernel_rfl) rfl #[.agg #[.slice A1_0 y101.length c1_0], .slice A0 l0.length c0] rfl (by (try simp only [List.map_toArray, List.map_cons, List.map_nil]); first | done | rfl | (simp only [List.length_drop, List.length_take]; rfl)) ?_; (with_reducible refine (z32.calls k _ _ y101 _ _ l0 t105 _ ?side1 ?side2 ?side3 ?side4 A6.out).mono ?_); (case side1 => exact KC_ HR104.out); (case side2 => exact HC104.out); (case side3 => exact KC_ HR0.out); (case side4 => exact HC0.out); rintro e w10 ⟨rfl, hb⟩; refine ⟨_, rfl, ?_⟩; replace BK51 := Aside0.mk (blk_below (g := gp1) (o := .cells #[.slice A1_0 l1_0.length c1_0] 26 (0, 0)) (KB_ BK51.out) hb); replace BK52 := Aside0.mk (blk_below (g := gp2) (o := .cells #[.int .i64 a2_0] 3 (0, 0)) (KB_ BK52.out) hb); replace HB := Aside0.mk (below_step (B_ HB.out) hb); (try clear hb); (try clear hb2); (try clear hk); (try clear hi)))
 go_ret
 exact ⟨F_, B_ HB.out⟩
def z112.l0 : Nat → List (List Int) → Int → Int → List (List Int) → Int → Option (Int)
 | 0, _, _, _, _, _ => none
 | k + 1, x0, x7, x8, x69000, x70000 => if x8 < x7 then (if 0 ≤ x8 then (if x8 < (x0.length : Int) then ((z48.f k (rd_ListInt x0 x8) x69000 x70000).bind fun t102 => (if t102 = true then (some x8) else (z112.l0 k x0 x7 (wrap64 (x8 + 1)) x69000 x70000))) else (none)) else (none)) else (some (-1))
def z112.f (k : Nat) (l0 : List (List Int)) (l1_0 : List (List Int)) (a1_1 : Int) : Option (Int) := z112.l0 k l0 (l0.length : Int) 0 l1_0 a1_1
set_option maxHeartbeats 8000000 in
set_option maxRecDepth 100000 in
theorem z112.calls (k : Nat) (A0 : Option Addr) (c0 : Nat) (l0 : List (List Int)) (gp1_0 : Nat) (gp1_1 : Nat) (A1_0 : Option Addr) (c1_0 : Nat) (l1_0 : List (List Int)) (a1_1 : Int) (r : Int) (w : World) (hbp1_0 : w.heap[gp1_0]? = some (.cells #[.slice A1_0 l1_0.length c1_0] 26 (0, 0))) (hbp1_1 : w.heap[gp1_1]? = some (.cells #[.int .i64 a1_1] 3 (0, 0))) (hr0 : Kd.C (Kd.slice 2 (Kd.int .i64)) w A0 l0.length l0) (hc0 : l0.length ≤ c0) (hr1_0 : Kd.C (Kd.slice 2 (Kd.int .i64)) w A1_0 l1_0.length l1_0) (hc1_0 : l1_0.length ≤ c1_0) (h : z112.f k l0 l1_0 a1_1 = some r) :
  Calls Try.prog 71 #[.slice A0 l0.length c0, .func (.func 48) #[] #[.pointer (some ⟨gp1_0, 0, none⟩), .pointer (some ⟨gp1_1, 0, none⟩)]] w fun e w' => e = .returned (.int .i64 r) ∧ Below w.heap.size w w' := by
 have HR0 := Aside0.mk hr0
 have HC0 := Aside0.mk hc0
 clear hr0 hc0
 have HR1_0 := Aside0.mk hr1_0
 have HC1_0 := Aside0.mk hc1_0
 clear hr1_0 hc1_0
 have BK68 := Aside0.mk hbp1_0
 clear hbp1_0
 have BK69 := Aside0.mk hbp1_1
 clear hbp1_1
 have HB := Aside0.mk (Below.refl w.heap.size w)
 have H : (z112.l0 k l0 (l0.length : Int) 0 l1_0 a1_1) = some r := h
 clear h
 have H' := Aside0.mk H
 clear H
 go_enter Try.func71, Try.ntmps71
 go_wp2
 go_loopg [8] k (fun kq v8 w' => ∃ (x8_1 : Int), v8 = .int .i64 x8_1 ∧ Aside0 (z112.l0 kq l0 (l0.length : Int) x8_1 l1_0 a1_1 = some r) ∧ Aside0 (kq ≤ k) ∧ Aside0 (w'.heap[gp1_0]? = some (.cells #[(.slice A1_0 l1_0.length c1_0)] 26 (0, 0))) ∧ Aside0 (w'.heap[gp1_1]? = some (.cells #[.int .i64 a1_1] 3 (0, 0))) ∧ Aside0 (Below w.heap.size w w'))
 case atStart => exact ⟨(0), E_, H', ⟨Nat.le_refl _⟩, ⟨KB_ BK68.out⟩, ⟨KB_ BK69.out⟩, ⟨B_ HB.out⟩⟩
 case round =>
  clear H'
  (try clear c1);(try clear p1);(try clear p2)
  obtain ⟨x8_1, rfl, HA, HK1, BK68, BK69, HB⟩ := hrel
  cases gk with
  | zero => exact absurd HA.out (by simp [z112.l0])
  | succ k1 =>
   have H := HA.out
   clear HA
   simp only [z112.l0] at H
   by_cases c3 : x8_1 < (l0.length : Int)
   ·rw [if_pos c3] at H
    have c3b0 : decide (x8_1 < (l0.length : Int)) = true := decide_eq_true c3
    clear c3
    have c4 := O1_ H
    replace H := O2_ H
    have c4b0 := decide_eq_true c4
    clear c4
    have c5 := O1_ H
    replace H := O2_ H
    have c5b0 := decide_eq_true c5
    clear c5
    replace H := Option.bind_eq_some_iff.mp H
    obtain ⟨t102, A60, H⟩ := H
    have A6 := Aside0.mk A60
    clear A60
    by_cases c7 : t102 = true
    ·subst c7
     replace H := T_ H
     obtain rfl := Option.some.inj H
     have p101 : 0 ≤ (x8_1 : Int) := D_
     have q101 : x8_1 < (l0.length : Int) := D_
     obtain ⟨ad101, A101_0, c101_0, e101, hx101_0, hl101_0, hi101_0⟩ := at_ListInt HR0.out x8_1 p101 q101
     cases e101
     replace hx101_0 := (HB.out.cell (World.block_lt_of_cell? w _ hx101_0)).trans hx101_0
     have HR101_0 := Aside0.mk hi101_0
     have HC101_0 := Aside0.mk hl101_0
     clear hi101_0 hl101_0
     replace p101 := eq_true p101
     replace q101 := eq_true q101
     go_wp2_with (first | (go_at_call 48; (with_reducible refine (z48.calls k1 _ _ (rd_ListInt l0 x8_1) gp1_0 A1_0 c1_0 l1_0 gp1_1 a1_1 true _ ?side1 ?side2 ?side3 ?side4 ?side5 ?side6 A6.out).mono ?_); (case side1 => (with_reducible repeat (first | refine blk_drewN ?_ _ | refine blk_drew ?_ | refine blk_alloc ?_ _)); exact BK68.out); (case side2 => (with_reducible repeat (first | refine blk_drewN ?_ _ | refine blk_drew ?_ | refine blk_alloc ?_ _)); exact BK69.out); (case side3 => exact KC_ (Kd.C_below HR101_0.out HB.out)); (case side4 => exact HC101_0.out); (case side5 => exact KC_ (Kd.C_below HR1_0.out HB.out)); (case side6 => exact HC1_0.out); rintro e w8 ⟨rfl, hb⟩; replace BK68 := Aside0.mk (blk_below (g := gp1_0) (o := .cells #[.slice A1_0 l1_0.length c1_0] 26 (0, 0)) (KB_ BK68.out) hb); replace BK69 := Aside0.mk (blk_below (g := gp1_1) (o := .cells #[.int .i64 a1_1] 3 (0, 0)) (KB_ BK69.out) hb); replace HB := Aside0.mk (below_step (B_ HB.out) hb); (try clear hb); (try clear hb2); (try clear hk); (try clear hi)))
     go_ret
     exact ⟨F_, B_ HB.out⟩
    ·replace c7 := Bool.eq_false_iff.mpr c7
     subst c7
     replace H := N_ H
     have H' := Aside0.mk H
     clear H
     have p101 : 0 ≤ (x8_1 : Int) := D_
     have q101 : x8_1 < (l0.length : Int) := D_
     obtain ⟨ad101, A101_0, c101_0, e101, hx101_0, hl101_0, hi101_0⟩ := at_ListInt HR0.out x8_1 p101 q101
     cases e101
     replace hx101_0 := (HB.out.cell (World.block_lt_of_cell? w _ hx101_0)).trans hx101_0
     have HR101_0 := Aside0.mk hi101_0
     have HC101_0 := Aside0.mk hl101_0
     clear hi101_0 hl101_0
     replace p101 := eq_true p101
     replace q101 := eq_true q101
     go_wp2_with (first | (go_at_call 48; (with_reducible refine (z48.calls k1 _ _ (rd_ListInt l0 x8_1) gp1_0 A1_0 c1_0 l1_0 gp1_1 a1_1 false _ ?side1 ?side2 ?side3 ?side4 ?side5 ?side6 A6.out).mono ?_); (case side1 => (with_reducible repeat (first | refine blk_drewN ?_ _ | refine blk_drew ?_ | refine blk_alloc ?_ _)); exact BK68.out); (case side2 => (with_reducible repeat (first | refine blk_drewN ?_ _ | refine blk_drew ?_ | refine blk_alloc ?_ _)); exact BK69.out); (case side3 => exact KC_ (Kd.C_below HR101_0.out HB.out)); (case side4 => exact HC101_0.out); (case side5 => exact KC_ (Kd.C_below HR1_0.out HB.out)); (case side6 => exact HC1_0.out); rintro e w9 ⟨rfl, hb⟩; replace BK68 := Aside0.mk (blk_below (g := gp1_0) (o := .cells #[.slice A1_0 l1_0.length c1_0] 26 (0, 0)) (KB_ BK68.out) hb); replace BK69 := Aside0.mk (blk_below (g := gp1_1) (o := .cells #[.int .i64 a1_1] 3 (0, 0)) (KB_ BK69.out) hb); replace HB := Aside0.mk (below_step (B_ HB.out) hb); (try clear hb); (try clear hb2); (try clear hk); (try clear hi)))
     go_roundg k1
     case measure => exact Q1_ HK1
     case rel => exact ⟨(wrap64 (x8_1 + 1)), E_, H', ⟨Q1_ HK1⟩, ⟨KB_ BK68.out⟩, ⟨KB_ BK69.out⟩, ⟨B_ HB.out⟩⟩
   ·rw [if_neg c3] at H
    have c3b0 : decide (x8_1 < (l0.length : Int)) = false := decide_eq_false c3
    clear c3
    obtain rfl := Option.some.inj H
    go_wp2
    go_ret
    exact ⟨F_, B_ HB.out⟩
def z108.f (k : Nat) (l0 : List (List Int)) (l1_0 : List (List Int)) (a1_1 : Int) : Option (Bool) := (z112.f k l0 l1_0 a1_1).bind fun t101 => (some (decide (t101 ≥ 0)))
set_option maxHeartbeats 8000000 in
set_option maxRecDepth 100000 in
theorem z108.calls (k : Nat) (A0 : Option Addr) (c0 : Nat) (l0 : List (List Int)) (gp1_0 : Nat) (gp1_1 : Nat) (A1_0 : Option Addr) (c1_0 : Nat) (l1_0 : List (List Int)) (a1_1 : Int) (r : Bool) (w : World) (hbp1_0 : w.heap[gp1_0]? = some (.cells #[.slice A1_0 l1_0.length c1_0] 26 (0, 0))) (hbp1_1 : w.heap[gp1_1]? = some (.cells #[.int .i64 a1_1] 3 (0, 0))) (hr0 : Kd.C (Kd.slice 2 (Kd.int .i64)) w A0 l0.length l0) (hc0 : l0.length ≤ c0) (hr1_0 : Kd.C (Kd.slice 2 (Kd.int .i64)) w A1_0 l1_0.length l1_0) (hc1_0 : l1_0.length ≤ c1_0) (h : z108.f k l0 l1_0 a1_1 = some r) :
  Calls Try.prog 47 #[.slice A0 l0.length c0, .func (.func 48) #[] #[.pointer (some ⟨gp1_0, 0, none⟩), .pointer (some ⟨gp1_1, 0, none⟩)]] w fun e w' => e = .returned (.bool r) ∧ Below w.heap.size w w' := by
 have HR0 := Aside0.mk hr0
 have HC0 := Aside0.mk hc0
 clear hr0 hc0
 have HR1_0 := Aside0.mk hr1_0
 have HC1_0 := Aside0.mk hc1_0
 clear hr1_0 hc1_0
 have BK68 := Aside0.mk hbp1_0
 clear hbp1_0
 have BK69 := Aside0.mk hbp1_1
 clear hbp1_1
 have HB := Aside0.mk (Below.refl w.heap.size w)
 have H : ((z112.f k l0 l1_0 a1_1).bind fun t101 => (some (decide (t101 ≥ 0)))) = some r := h
 clear h
 replace H := Option.bind_eq_some_iff.mp H
 obtain ⟨t101, A30, H⟩ := H
 have A3 := Aside0.mk A30
 clear A30
 obtain rfl := Option.some.inj H
 go_enter Try.func47, Try.ntmps47
 go_wp2_with (first | ((with_reducible refine gate_callee (f := 71) rfl ?_); refine goesL_ (some 7) rfl rfl Try.func71 (by kernel_rfl) rfl #[.slice A0 l0.length c0, .func (.func 48) #[] #[.pointer (some ⟨gp1_0, 0, none⟩), .pointer (some ⟨gp1_1, 0, none⟩)]] rfl (by (try simp only [List.map_toArray, List.map_cons, List.map_nil]); first | done | rfl | (simp only [List.length_drop, List.length_take]; rfl)) ?_; (with_reducible refine (z112.calls k _ _ l0 gp1_0 gp1_1 A1_0 c1_0 l1_0 a1_1 t101 _ ?side1 ?side2 ?side3 ?side4 ?side5 ?side6 A3.out).mono ?_); (case side1 => (with_reducible repeat (first | refine blk_drewN ?_ _ | refine blk_drew ?_ | refine blk_alloc ?_ _)); exact BK68.out); (case side2 => (with_reducible repeat (first | refine blk_drewN ?_ _ | refine blk_drew ?_ | refine blk_alloc ?_ _)); exact BK69.out); (case side3 => exact KC_ HR0.out); (case side4 => exact HC0.out); (case side5 => exact KC_ HR1_0.out); (case side6 => exact HC1_0.out); rintro e w4 ⟨rfl, hb⟩; refine ⟨_, rfl, ?_⟩; replace BK68 := Aside0.mk (blk_below (g := gp1_0) (o := .cells #[.slice A1_0 l1_0.length c1_0] 26 (0, 0)) (KB_ BK68.out) hb); replace BK69 := Aside0.mk (blk_below (g := gp1_1) (o := .cells #[.int .i64 a1_1] 3 (0, 0)) (KB_ BK69.out) hb); replace HB := Aside0.mk (below_step (B_ HB.out) hb); (try clear hb); (try clear hb2); (try clear hk); (try clear hi)))
 go_ret
 exact ⟨F_, B_ HB.out⟩
def z58.l0 : Nat → List Int → Int → Int → Int → Option (Int)
 | 0, _, _, _, _ => none
 | k + 1, x0, x1, x7, x8 => if x8 < x7 then (if 0 ≤ x8 then (if x8 < (x0.length : Int) then (if x1 = (rd x0 x8) then (some x8) else (z58.l0 k x0 x1 x7 (wrap64 (x8 + 1)))) else (none)) else (none)) else (some (-1))
def z58.f (k : Nat) (l0 : List Int) (a1 : Int) : Option (Int) := z58.l0 k l0 a1 (l0.length : Int) 0
set_option maxHeartbeats 8000000 in
set_option maxRecDepth 100000 in
theorem z58.calls (k : Nat) (A0 : Option Addr) (c0 : Nat) (l0 : List Int) (a1 : Int) (r : Int) (w : World) (hr0 : Kd.C (Kd.int .i64) w A0 l0.length l0) (hc0 : l0.length ≤ c0) (h : z58.f k l0 a1 = some r) :
  Calls Try.prog 58 #[.slice A0 l0.length c0, .int .i64 a1] w fun e w' => e = .returned (.int .i64 r) ∧ Drawn0 w w' := by
 have HR0 := Aside0.mk hr0
 have HC0 := Aside0.mk hc0
 clear hr0 hc0
 have H : (z58.l0 k l0 a1 (l0.length : Int) 0) = some r := h
 clear h
 have H' := Aside0.mk H
 clear H
 go_enter Try.func58, Try.ntmps58
 go_wp2
 go_loopg [8] k (fun kq v8 w' => ∃ (x8_1 : Int), v8 = .int .i64 x8_1 ∧ Aside0 (z58.l0 kq l0 a1 (l0.length : Int) x8_1 = some r) ∧ Aside0 (kq ≤ k) ∧ Drawn0 w w')
 case atStart => exact ⟨(0), E_, H', ⟨Nat.le_refl _⟩, by repeat (first | exact Drawn0.refl _ | apply Drawn0.step)⟩
 case round =>
  clear H'
  (try clear p2)
  obtain ⟨x8_1, rfl, HA, HK1, ⟨m1, rfl⟩⟩ := hrel
  cases gk with
  | zero => exact absurd HA.out (by simp [z58.l0])
  | succ k1 =>
   have H := HA.out
   clear HA
   simp only [z58.l0] at H
   by_cases c3 : x8_1 < (l0.length : Int)
   ·rw [if_pos c3] at H
    have c3b0 : decide (x8_1 < (l0.length : Int)) = true := decide_eq_true c3
    clear c3
    have c4 := O1_ H
    replace H := O2_ H
    have c4b0 := decide_eq_true c4
    clear c4
    have c5 := O1_ H
    replace H := O2_ H
    have c5b0 := decide_eq_true c5
    clear c5
    by_cases c6 : a1 = (rd l0 x8_1)
    ·rw [if_pos c6] at H
     have c6b0 : (a1 == (rd l0 x8_1)) = true := beq_iff_eq.mpr c6
     have c6b1 : (a1 != (rd l0 x8_1)) = false := bne_eq_false_iff_eq.mpr c6
     clear c6
     obtain rfl := Option.some.inj H
     have p101 : 0 ≤ (x8_1 : Int) := D_
     have q101 : x8_1 < (l0.length : Int) := D_
     obtain ⟨ad101, e101, hx101_0⟩ := Kd.at_int HR0.out x8_1 p101 q101
     cases e101
     replace p101 := eq_true p101
     replace q101 := eq_true q101
     go_wp2
     go_ret
     exact ⟨by first | rfl | (simp; done) | (simp [*]; done), by repeat (first | exact Drawn0.refl _ | apply Drawn0.step)⟩
    ·rw [if_neg c6] at H
     have c6b0 : (a1 == (rd l0 x8_1)) = false := beq_eq_false_iff_ne.mpr c6
     have c6b1 : (a1 != (rd l0 x8_1)) = true := bne_iff_ne.mpr c6
     have H' := Aside0.mk H
     clear H
     have p101 : 0 ≤ (x8_1 : Int) := D_
     have q101 : x8_1 < (l0.length : Int) := D_
     obtain ⟨ad101, e101, hx101_0⟩ := Kd.at_int HR0.out x8_1 p101 q101
     cases e101
     replace p101 := eq_true p101
     replace q101 := eq_true q101
     go_wp2
     go_roundg k1
     case measure => exact Q1_ HK1
     case rel => exact ⟨(wrap64 (x8_1 + 1)), E_, H', ⟨Q1_ HK1⟩, by repeat (first | exact Drawn0.refl _ | apply Drawn0.step)⟩
   ·rw [if_neg c3] at H
    have c3b0 : decide (x8_1 < (l0.length : Int)) = false := decide_eq_false c3
    clear c3
    obtain rfl := Option.some.inj H
    go_wp2
    go_ret
    exact ⟨by first | rfl | (simp; done) | (simp [*]; done), by repeat (first | exact Drawn0.refl _ | apply Drawn0.step)⟩
def z36.f (k : Nat) (l0 : List Int) (a1 : Int) : Option (Bool) := (z58.f k l0 a1).bind fun t101 => (some (decide (t101 ≥ 0)))
set_option maxHeartbeats 8000000 in
set_option maxRecDepth 100000 in
theorem z36.calls (k : Nat) (A0 : Option Addr) (c0 : Nat) (l0 : List Int) (a1 : Int) (r : Bool) (w : World) (hr0 : Kd.C (Kd.int .i64) w A0 l0.length l0) (hc0 : l0.length ≤ c0) (h : z36.f k l0 a1 = some r) :
  Calls Try.prog 36 #[.slice A0 l0.length c0, .int .i64 a1] w fun e w' => e = .returned (.bool r) ∧ Drawn0 w w' := by
 have HR0 := Aside0.mk hr0
 have HC0 := Aside0.mk hc0
 clear hr0 hc0
 have H : ((z58.f k l0 a1).bind fun t101 => (some (decide (t101 ≥ 0)))) = some r := h
 clear h
 replace H := Option.bind_eq_some_iff.mp H
 obtain ⟨t101, A30, H⟩ := H
 have A3 := Aside0.mk A30
 clear A30
 obtain rfl := Option.some.inj H
 go_enter Try.func36, Try.ntmps36
 go_wp2_with (first | ((with_reducible refine gate_callee (f := 58) rfl ?_); refine goesL_ (some 7) rfl rfl Try.func58 (by kernel_rfl) rfl #[.slice A0 l0.length c0, .int .i64 a1] rfl (by (try simp only [List.map_toArray, List.map_cons, List.map_nil]); first | done | rfl | (simp only [List.length_drop, List.length_take]; rfl)) ?_; (with_reducible refine (z58.calls k _ _ l0 a1 t101 _ ?side1 ?side2 A3.out).mono ?_); (case side1 => exact KC_ HR0.out); (case side2 => exact HC0.out); rintro e w' ⟨rfl, ⟨nd, rfl⟩⟩; refine ⟨_, rfl, ?_⟩))
 go_ret
 exact ⟨by first | rfl | (simp; done) | (simp [*]; done), by repeat (first | exact Drawn0.refl _ | apply Drawn0.step)⟩
def z54.f (k : Nat) (a0 : Int) (l1_0 : List Int) : Option (Bool) := (z36.f k l1_0 a0).bind fun t101 => (some (!t101))
set_option maxHeartbeats 8000000 in
set_option maxRecDepth 100000 in
theorem z54.calls (k : Nat) (a0 : Int) (gp1 : Nat) (A1_0 : Option Addr) (c1_0 : Nat) (l1_0 : List Int) (r : Bool) (w : World) (hbp1 : w.heap[gp1]? = some (.cells #[.slice A1_0 l1_0.length c1_0] 29 (0, 0))) (hr1_0 : Kd.C (Kd.int .i64) w A1_0 l1_0.length l1_0) (hc1_0 : l1_0.length ≤ c1_0) (h : z54.f k a0 l1_0 = some r) :
  Calls Try.prog 54 #[.int .i64 a0, .pointer (some ⟨gp1, 0, none⟩)] w fun e w' => e = .returned (.bool r) ∧ Drawn0 w w' := by
 have HR1_0 := Aside0.mk hr1_0
 have HC1_0 := Aside0.mk hc1_0
 clear hr1_0 hc1_0
 have BK51 := Aside0.mk hbp1
 clear hbp1
 have H : ((z36.f k l1_0 a0).bind fun t101 => (some (!t101))) = some r := h
 clear h
 replace H := Option.bind_eq_some_iff.mp H
 obtain ⟨t101, A30, H⟩ := H
 have A3 := Aside0.mk A30
 clear A30
 obtain rfl := Option.some.inj H
 have hcz4_0 : w.cell? ⟨gp1, 0, none⟩ = some (.slice A1_0 l1_0.length c1_0) := (blk_cell BK51.out 0).trans rfl
 have hfz4_0 := blk_frozen BK51.out 0
 go_enter Try.func54, Try.ntmps54
 go_wp2_with (first | ((with_reducible refine gate_callee (f := 36) rfl ?_); refine goesL_ (some 6) rfl rfl Try.func36 (by kernel_rfl) rfl #[.slice A1_0 l1_0.length c1_0, .int .i64 a0] rfl (by (try simp only [List.map_toArray, List.map_cons, List.map_nil]); first | done | rfl | (simp only [List.length_drop, List.length_take]; rfl)) ?_; (with_reducible refine (z36.calls k _ _ l1_0 a0 t101 _ ?side1 ?side2 A3.out).mono ?_); (case side1 => exact KC_ HR1_0.out); (case side2 => exact HC1_0.out); rintro e w' ⟨rfl, ⟨nd, rfl⟩⟩; refine ⟨_, rfl, ?_⟩))
 go_ret
 exact ⟨by first | rfl | (simp; done) | (simp [*]; done), by repeat (first | exact Drawn0.refl _ | apply Drawn0.step)⟩
def z114.l0 : Nat → List Int → Int → Int → List Int → Option (Int)
 | 0, _, _, _, _ => none
 | k + 1, x0, x7, x8, x69000 => if x8 < x7 then (if 0 ≤ x8 then (if x8 < (x0.length : Int) then ((z54.f k (rd x0 x8) x69000).bind fun t102 => (if t102 = true then (some x8) else (z114.l0 k x0 x7 (wrap64 (x8 + 1)) x69000))) else (none)) else (none)) else (some (-1))
def z114.f (k : Nat) (l0 : List Int) (l1_0 : List Int) : Option (Int) := z114.l0 k l0 (l0.length : Int) 0 l1_0
set_option maxHeartbeats 8000000 in
set_option maxRecDepth 100000 in
theorem z114.calls (k : Nat) (A0 : Option Addr) (c0 : Nat) (l0 : List Int) (gp1_0 : Nat) (A1_0 : Option Addr) (c1_0 : Nat) (l1_0 : List Int) (r : Int) (w : World) (hbp1_0 : w.heap[gp1_0]? = some (.cells #[.slice A1_0 l1_0.length c1_0] 29 (0, 0))) (hr0 : Kd.C (Kd.int .i64) w A0 l0.length l0) (hc0 : l0.length ≤ c0) (hr1_0 : Kd.C (Kd.int .i64) w A1_0 l1_0.length l1_0) (hc1_0 : l1_0.length ≤ c1_0) (h : z114.f k l0 l1_0 = some r) :
  Calls Try.prog 57 #[.slice A0 l0.length c0, .func (.func 54) #[] #[.pointer (some ⟨gp1_0, 0, none⟩)]] w fun e w' => e = .returned (.int .i64 r) ∧ Below w.heap.size w w' := by
 have HR0 := Aside0.mk hr0
 have HC0 := Aside0.mk hc0
 clear hr0 hc0
 have HR1_0 := Aside0.mk hr1_0
 have HC1_0 := Aside0.mk hc1_0
 clear hr1_0 hc1_0
 have BK68 := Aside0.mk hbp1_0
 clear hbp1_0
 have HB := Aside0.mk (Below.refl w.heap.size w)
 have H : (z114.l0 k l0 (l0.length : Int) 0 l1_0) = some r := h
 clear h
 have H' := Aside0.mk H
 clear H
 go_enter Try.func57, Try.ntmps57
 go_wp2
 go_loopg [8] k (fun kq v8 w' => ∃ (x8_1 : Int), v8 = .int .i64 x8_1 ∧ Aside0 (z114.l0 kq l0 (l0.length : Int) x8_1 l1_0 = some r) ∧ Aside0 (kq ≤ k) ∧ Aside0 (w'.heap[gp1_0]? = some (.cells #[(.slice A1_0 l1_0.length c1_0)] 29 (0, 0))) ∧ Aside0 (Below w.heap.size w w'))
 case atStart => exact ⟨(0), E_, H', ⟨Nat.le_refl _⟩, ⟨KB_ BK68.out⟩, ⟨B_ HB.out⟩⟩
 case round =>
  clear H'
  (try clear c1);(try clear p1);(try clear p2)
  obtain ⟨x8_1, rfl, HA, HK1, BK68, HB⟩ := hrel
  cases gk with
  | zero => exact absurd HA.out (by simp [z114.l0])
  | succ k1 =>
   have H := HA.out
   clear HA
   simp only [z114.l0] at H
   by_cases c3 : x8_1 < (l0.length : Int)
   ·rw [if_pos c3] at H
    have c3b0 : decide (x8_1 < (l0.length : Int)) = true := decide_eq_true c3
    clear c3
    have c4 := O1_ H
    replace H := O2_ H
    have c4b0 := decide_eq_true c4
    clear c4
    have c5 := O1_ H
    replace H := O2_ H
    have c5b0 := decide_eq_true c5
    clear c5
    replace H := Option.bind_eq_some_iff.mp H
    obtain ⟨t102, A60, H⟩ := H
    have A6 := Aside0.mk A60
    clear A60
    by_cases c7 : t102 = true
    ·subst c7
     replace H := T_ H
     obtain rfl := Option.some.inj H
     have p101 : 0 ≤ (x8_1 : Int) := D_
     have q101 : x8_1 < (l0.length : Int) := D_
     obtain ⟨ad101, e101, hx101_0⟩ := Kd.at_int HR0.out x8_1 p101 q101
     cases e101
     replace hx101_0 := (HB.out.cell (World.block_lt_of_cell? w _ hx101_0)).trans hx101_0
     replace p101 := eq_true p101
     replace q101 := eq_true q101
     go_wp2_with (first | (go_at_call 54; (with_reducible refine (z54.calls k1 (rd l0 x8_1) gp1_0 A1_0 c1_0 l1_0 true _ ?side1 ?side2 ?side3 A6.out).mono ?_); (case side1 => (with_reducible repeat (first | refine blk_drewN ?_ _ | refine blk_drew ?_ | refine blk_alloc ?_ _)); exact BK68.out); (case side2 => exact KC_ (Kd.C_below HR1_0.out HB.out)); (case side3 => exact HC1_0.out); rintro e w' ⟨rfl, ⟨nd, rfl⟩⟩))
     go_ret
     exact ⟨F_, B_ HB.out⟩
    ·replace c7 := Bool.eq_false_iff.mpr c7
     subst c7
     replace H := N_ H
     have H' := Aside0.mk H
     clear H
     have p101 : 0 ≤ (x8_1 : Int) := D_
     have q101 : x8_1 < (l0.length : Int) := D_
     obtain ⟨ad101, e101, hx101_0⟩ := Kd.at_int HR0.out x8_1 p101 q101
     cases e101
     replace hx101_0 := (HB.out.cell (World.block_lt_of_cell? w _ hx101_0)).trans hx101_0
     replace p101 := eq_true p101
     replace q101 := eq_true q101
     go_wp2_with (first | (go_at_call 54; (with_reducible refine (z54.calls k1 (rd l0 x8_1) gp1_0 A1_0 c1_0 l1_0 false _ ?side1 ?side2 ?side3 A6.out).mono ?_); (case side1 => (with_reducible repeat (first | refine blk_drewN ?_ _ | refine blk_drew ?_ | refine blk_alloc ?_ _)); exact BK68.out); (case side2 => exact KC_ (Kd.C_below HR1_0.out HB.out)); (case side3 => exact HC1_0.out); rintro e w' ⟨rfl, ⟨nd, rfl⟩⟩))
     go_roundg k1
     case measure => exact Q1_ HK1
     case rel => exact ⟨(wrap64 (x8_1 + 1)), E_, H', ⟨Q1_ HK1⟩, ⟨KB_ BK68.out⟩, ⟨B_ HB.out⟩⟩
   ·rw [if_neg c3] at H
    have c3b0 : decide (x8_1 < (l0.length : Int)) = false := decide_eq_false c3
    clear c3
    obtain rfl := Option.some.inj H
    go_wp2
    go_ret
    exact ⟨F_, B_ HB.out⟩
def z113.f (k : Nat) (l0 : List Int) (l1_0 : List Int) : Option (Bool) := (z114.f k l0 l1_0).bind fun t101 => (some (decide (t101 ≥ 0)))
set_option maxHeartbeats 8000000 in
set_option maxRecDepth 100000 in
theorem z113.calls (k : Nat) (A0 : Option Addr) (c0 : Nat) (l0 : List Int) (gp1_0 : Nat) (A1_0 : Option Addr) (c1_0 : Nat) (l1_0 : List Int) (r : Bool) (w : World) (hbp1_0 : w.heap[gp1_0]? = some (.cells #[.slice A1_0 l1_0.length c1_0] 29 (0, 0))) (hr0 : Kd.C (Kd.int .i64) w A0 l0.length l0) (hc0 : l0.length ≤ c0) (hr1_0 : Kd.C (Kd.int .i64) w A1_0 l1_0.length l1_0) (hc1_0 : l1_0.length ≤ c1_0) (h : z113.f k l0 l1_0 = some r) :
  Calls Try.prog 53 #[.slice A0 l0.length c0, .func (.func 54) #[] #[.pointer (some ⟨gp1_0, 0, none⟩)]] w fun e w' => e = .returned (.bool r) ∧ Below w.heap.size w w' := by
 have HR0 := Aside0.mk hr0
 have HC0 := Aside0.mk hc0
 clear hr0 hc0
 have HR1_0 := Aside0.mk hr1_0
 have HC1_0 := Aside0.mk hc1_0
 clear hr1_0 hc1_0
 have BK68 := Aside0.mk hbp1_0
 clear hbp1_0
 have HB := Aside0.mk (Below.refl w.heap.size w)
 have H : ((z114.f k l0 l1_0).bind fun t101 => (some (decide (t101 ≥ 0)))) = some r := h
 clear h
 replace H := Option.bind_eq_some_iff.mp H
 obtain ⟨t101, A30, H⟩ := H
 have A3 := Aside0.mk A30
 clear A30
 obtain rfl := Option.some.inj H
 go_enter Try.func53, Try.ntmps53
 go_wp2_with (first | ((with_reducible refine gate_callee (f := 57) rfl ?_); refine goesL_ (some 7) rfl rfl Try.func57 (by kernel_rfl) rfl #[.slice A0 l0.length c0, .func (.func 54) #[] #[.pointer (some ⟨gp1_0, 0, none⟩)]] rfl (by (try simp only [List.map_toArray, List.map_cons, List.map_nil]); first | done | rfl | (simp only [List.length_drop, List.length_take]; rfl)) ?_; (with_reducible refine (z114.calls k _ _ l0 gp1_0 A1_0 c1_0 l1_0 t101 _ ?side1 ?side2 ?side3 ?side4 ?side5 A3.out).mono ?_); (case side1 => (with_reducible repeat (first | refine blk_drewN ?_ _ | refine blk_drew ?_ | refine blk_alloc ?_ _)); exact BK68.out); (case side2 => exact KC_ HR0.out); (case side3 => exact HC0.out); (case side4 => exact KC_ HR1_0.out); (case side5 => exact HC1_0.out); rintro e w4 ⟨rfl, hb⟩; refine ⟨_, rfl, ?_⟩; replace BK68 := Aside0.mk (blk_below (g := gp1_0) (o := .cells #[.slice A1_0 l1_0.length c1_0] 29 (0, 0)) (KB_ BK68.out) hb); replace HB := Aside0.mk (below_step (B_ HB.out) hb); (try clear hb); (try clear hb2); (try clear hk); (try clear hi)))
 go_ret
 exact ⟨F_, B_ HB.out⟩
def z30.f (k : Nat) (l0 : List Int) (l1 : List Int) : Option (Bool) := (z113.f k l0 l1).bind fun t102 => (some (!t102))
set_option maxHeartbeats 8000000 in
set_option maxRecDepth 100000 in
theorem z30.calls (k : Nat) (A0 : Option Addr) (c0 : Nat) (l0 : List Int) (A1 : Option Addr) (c1 : Nat) (l1 : List Int) (r : Bool) (w : World) (hr0 : Kd.C (Kd.int .i64) w A0 l0.length l0) (hc0 : l0.length ≤ c0) (hr1 : Kd.C (Kd.int .i64) w A1 l1.length l1) (hc1 : l1.length ≤ c1) (h : z30.f k l0 l1 = some r) :
  Calls Try.prog 30 #[.slice A0 l0.length c0, .slice A1 l1.length c1] w fun e w' => e = .returned (.bool r) ∧ Below w.heap.size w w' := by
 have HR0 := Aside0.mk hr0
 have HC0 := Aside0.mk hc0
 clear hr0 hc0
 have HR1 := Aside0.mk hr1
 have HC1 := Aside0.mk hc1
 clear hr1 hc1
 have HB := Aside0.mk (Below.refl w.heap.size w)
 have H : ((z113.f k l0 l1).bind fun t102 => (some (!t102))) = some r := h
 clear h
 replace H := Option.bind_eq_some_iff.mp H
 obtain ⟨t102, A30, H⟩ := H
 have A3 := Aside0.mk A30
 clear A30
 obtain rfl := Option.some.inj H
 go_enter Try.func30, Try.ntmps30
 go_wp2_with (first | ((with_reducible refine gate_dst (N := 3) rfl ?_); refine box_event ?hg (N := 3) ?hd (cs := #[.slice A1 l1.length c1]) (t := 29) ?hr ?_; (case hd => rfl); (case hg => rfl); (case hr => first | (go_simp; done) | (go_simp; rfl)); intro gb101 hg w4 hbox hb; have n0_ := Aside0.mk (below_step (B_ HB.out) hb); have n1_ := Aside0.mk (hbox); have n2_ := Aside0.mk ((by rw [hg]; exact (below_size (B_ HB.out)) : w.heap.size ≤ gb101)); have n3_ := Aside0.mk ((by rw [hg]; exact (below_size (B_ HB.out)) : w.heap.size ≤ gb101)); clear HB; have HB := n0_; have BK101 := n1_; have GW101 := n2_; have GE101 := n3_; clear n0_ n1_ n2_ n3_; clear hb hbox hg) | ((with_reducible refine gate_callee (f := 53) rfl ?_); refine goesL_ (some 7) rfl rfl Try.func53 (by kernel_rfl) rfl #[.slice A0 l0.length c0, .func (.func 54) #[] #[.pointer (some ⟨gb101, 0, none⟩)]] rfl (by (try simp only [List.map_toArray, List.map_cons, List.map_nil]); first | done | rfl | (simp only [List.length_drop, List.length_take]; rfl)) ?_; (with_reducible refine (z113.calls k _ _ l0 gb101 A1 c1 l1 t102 _ ?side1 ?side2 ?side3 ?side4 ?side5 A3.out).mono ?_); (case side1 => (with_reducible repeat (first | refine blk_drewN ?_ _ | refine blk_drew ?_ | refine blk_alloc ?_ _)); exact BK101.out); (case side2 => exact KC_ (Kd.C_below HR0.out HB.out)); (case side3 => exact HC0.out); (case side4 => exact KC_ (Kd.C_below HR1.out HB.out)); (case side5 => exact HC1.out); rintro e w5 ⟨rfl, hb⟩; refine ⟨_, rfl, ?_⟩; replace BK101 := Aside0.mk (blk_below (g := gb101) (o := .cells #[.slice A1 l1.length c1] 29 (0, 0)) (KB_ BK101.out) hb); replace HB := Aside0.mk (below_step (B1_ HB.out GE101.out) hb); (try clear hb); (try clear hb2); (try clear hk); (try clear hi)))
 go_ret
 exact ⟨F_, B1_ HB.out GE101.out⟩
def z16.l0 : Nat → Int → List Int → List (List Int) → Int → Int → List (List Int) → Option (List Int)
 | 0, _, _, _, _, _, _ => none
 | k + 1, x1, x5, x9, x10, x11, x102000 => if x11 < x10 then (if 0 ≤ x11 then (if x11 < (x9.length : Int) then (if 0 ≤ x1 then (if x1 < (x102000.length : Int) then ((z30.f k (rd_ListInt x102000 x1) (rd_ListInt x9 x11)).bind fun t104 => (if t104 = true then (if x5.length < 17592186044416 then (z16.l0 k x1 (x5 ++ [x11]) x9 x10 (wrap64 (x11 + 1)) x102000) else (none)) else (z16.l0 k x1 x5 x9 x10 (wrap64 (x11 + 1)) x102000))) else (none)) else (none)) else (none)) else (none)) else (some x5)
def z16.f (k : Nat) (l0_0 : List (List Int)) (a1 : Int) : Option (List Int) := z16.l0 k a1 ([] : List Int) l0_0 (l0_0.length : Int) 0 l0_0
set_option maxHeartbeats 8000000 in
set_option maxRecDepth 100000 in
theorem z16.calls (k : Nat) (A0_0 : Option Addr) (c0_0 : Nat) (l0_0 : List (List Int)) (a1 : Int) (r : List Int) (w : World) (hr0_0 : Kd.C (Kd.slice 2 (Kd.int .i64)) w A0_0 l0_0.length l0_0) (hc0_0 : l0_0.length ≤ c0_0) (h : z16.f k l0_0 a1 = some r) :
  Calls Try.prog 16 #[.agg #[.slice A0_0 l0_0.length c0_0], .int .i64 a1] w fun e w' => ∃ v0_ : Value, e = .returned (v0_) ∧ Kd.R (Kd.int .i64) 2 w' w.heap.size (fun _ => True) v0_ r ∧ Below w.heap.size w w' := by
 have hu26 := Try.underlying26
 have HR0_0 := Aside0.mk hr0_0
 have HC0_0 := Aside0.mk hc0_0
 clear hr0_0 hc0_0
 have HB := Aside0.mk (Below.refl w.heap.size w)
 have H : (z16.l0 k a1 ([] : List Int) l0_0 (l0_0.length : Int) 0 l0_0) = some r := h
 clear h
 have H' := Aside0.mk H
 clear H
 go_enter Try.func16, Try.ntmps16
 go_wp2_with (first | ((with_reducible refine gate_dst (N := 2) rfl ?_); refine box_event ?hg (N := 2) ?hd (cs := #[.slice A0_0 l0_0.length c0_0]) (t := 26) ?hr ?_; (case hd => rfl); (case hg => rfl); (case hr => first | (go_simp; done) | (go_simp; rfl)); intro gb101 hg w3 hbox hb; have n0_ := Aside0.mk (below_step (B_ HB.out) hb); have n1_ := Aside0.mk (hbox); have n2_ := Aside0.mk ((by rw [hg]; exact (below_size (B_ HB.out)) : w.heap.size ≤ gb101)); have n3_ := Aside0.mk ((by rw [hg]; exact (below_size (B_ HB.out)) : w.heap.size ≤ gb101)); clear HB; have HB := n0_; have BK101 := n1_; have GW101 := n2_; have GE101 := n3_; clear n0_ n1_ n2_ n3_; clear hb hbox hg; have hcz4_0 : w3.cell? ⟨gb101, 0, none⟩ = some (.slice A0_0 l0_0.length c0_0) := (blk_cell BK101.out 0).trans rfl; have hfz4_0 := blk_frozen BK101.out 0))
 go_loopg [5, 11] k (fun kq v5 v11 w' => ∃ (x5_1 : List Int) (x11_1 : Int), v11 = .int .i64 x11_1 ∧ Aside0 (z16.l0 kq a1 x5_1 l0_0 (l0_0.length : Int) x11_1 l0_0 = some r) ∧ Aside0 (kq ≤ k) ∧ Aside0 (Kd.R (Kd.int .i64) 2 w' w.heap.size (fun _ => True) v5 x5_1) ∧ Aside0 (w'.heap[gb101]? = some (.cells #[(.slice A0_0 l0_0.length c0_0)] 26 (0, 0))) ∧ Aside0 (Below w.heap.size w w'))
 case atStart => exact ⟨(([] : List Int)), (0), E_, H', ⟨Nat.le_refl _⟩, ⟨by first | exact Kd.R_nil _ _ _ _ _ | exact Kd.N_nil _ _ _ _ _ | exact Kd.V_nil _ _ _ _ _ | exact Kd.Q_nil _ _ _ _ _ | exact Kd.S_nil _ _ _ _ _⟩, ⟨KB_ BK101.out⟩, ⟨B1_ HB.out GE101.out⟩⟩
 case round =>
  clear H'
  (try clear c1);(try clear p2);(try clear hcz4_0);(try clear hfz4_0)
  obtain ⟨x5_1, x11_1, rfl, HA, HK1, HO_5, BK101, HB⟩ := hrel
  cases gk with
  | zero => exact absurd HA.out (by simp [z16.l0])
  | succ k1 =>
   have H := HA.out
   clear HA
   simp only [z16.l0] at H
   by_cases c5 : x11_1 < (l0_0.length : Int)
   ·rw [if_pos c5] at H
    have c5b0 : decide (x11_1 < (l0_0.length : Int)) = true := decide_eq_true c5
    clear c5
    have c6 := O1_ H
    replace H := O2_ H
    have c6b0 := decide_eq_true c6
    clear c6
    have c7 := O1_ H
    replace H := O2_ H
    have c7b0 := decide_eq_true c7
    clear c7
    have c8 := O1_ H
    replace H := O2_ H
    have c8b0 := decide_eq_true c8
    clear c8
    have c9 := O1_ H
    replace H := O2_ H
    have c9b0 := decide_eq_true c9
    clear c9
    replace H := Option.bind_eq_some_iff.mp H
    obtain ⟨t104, A100, H⟩ := H
    have A10 := Aside0.mk A100
    clear A100
    by_cases c11 : t104 = true
    ·subst c11
     replace H := T_ H
     have c12 := O1_ H
     replace H := O2_ H
     have LMc12 := Aside0.mk c12
     clear c12
     obtain ⟨y105, hy105⟩ : ∃ y_ : List Int, y_ = (x5_1 ++ [x11_1]) := ⟨_, rfl⟩
     replace H : (z16.l0 k1 a1 y105 l0_0 (l0_0.length : Int) (wrap64 (x11_1 + 1)) l0_0) = some r := Y_ hy105 H
     have Ny105 := Aside0.mk hy105
     clear hy105
     have H' := Aside0.mk H
     clear H
     have p102 : 0 ≤ (x11_1 : Int) := D_
     have q102 : x11_1 < (l0_0.length : Int) := D_
     obtain ⟨ad102, A102_0, c102_0, e102, hx102_0, hl102_0, hi102_0⟩ := at_ListInt HR0_0.out x11_1 p102 q102
     cases e102
     replace hx102_0 := (HB.out.cell (World.block_lt_of_cell? w _ hx102_0)).trans hx102_0
     have HR102_0 := Aside0.mk hi102_0
     have HC102_0 := Aside0.mk hl102_0
     clear hi102_0 hl102_0
     replace p102 := eq_true p102
     replace q102 := eq_true q102
     have hcz13_0 : wr.cell? ⟨gb101, 0, none⟩ = some (.slice (some ad102) l0_0.length c0_0) := (blk_cell BK101.out 0).trans rfl
     have hfz13_0 := blk_frozen BK101.out 0
     have p103 : 0 ≤ (a1 : Int) := D_
     have q103 : a1 < (l0_0.length : Int) := D_
     obtain ⟨ad103, A103_0, c103_0, e103, hx103_0, hl103_0, hi103_0⟩ := at_ListInt HR0_0.out a1 p103 q103
     obtain rfl : ad102 = ad103 := (by injection e103)
     replace hx103_0 := (HB.out.cell (World.block_lt_of_cell? w _ hx103_0)).trans hx103_0
     have HR103_0 := Aside0.mk hi103_0
     have HC103_0 := Aside0.mk hl103_0
     clear hi103_0 hl103_0
     replace p103 := eq_true p103
     replace q103 := eq_true q103
     go_wp2_with (first | ((with_reducible refine gate_callee (f := 30) rfl ?_); refine goesL_ (some 22) rfl rfl Try.func30 (by kernel_rfl) rfl #[.slice A103_0 (rd_ListInt l0_0 a1).length c103_0, .slice A102_0 (rd_ListInt l0_0 x11_1).length c102_0] rfl (by (try simp only [List.map_toArray, List.map_cons, List.map_nil]); first | done | rfl | (simp only [List.length_drop, List.length_take]; rfl)) ?_; (with_reducible refine (z30.calls k1 _ _ (rd_ListInt l0_0 a1) _ _ (rd_ListInt l0_0 x11_1) true _ ?side1 ?side2 ?side3 ?side4 A10.out).mono ?_); (case side1 => exact KC_ (Kd.C_below HR103_0.out HB.out)); (case side2 => exact HC103_0.out); (case side3 => exact KC_ (Kd.C_below HR102_0.out HB.out)); (case side4 => exact HC102_0.out); rintro e w14 ⟨rfl, hb⟩; refine ⟨_, rfl, ?_⟩; replace HO_5 := Aside0.mk (Kd.R_below (KR_ HO_5.out) hb); replace BK101 := Aside0.mk (blk_below (g := gb101) (o := .cells #[.slice (some ad102) l0_0.length c0_0] 26 (0, 0)) (KB_ BK101.out) hb); replace HB := Aside0.mk (below_step (B1_ HB.out GE101.out) hb); (try clear hb); (try clear hb2); (try clear hk); (try clear hi)) | ((with_reducible refine gate_builtin (b := .append) (xs := #[.tmp 23, .tmp 25]) rfl ?_); at_builtin; refine Kd.R_append (Kd.int .i64) (w0 := w) w.heap.size rfl (.tmp 23) (.tmp 25) 29 2 (.int .i64 0) 8 rfl Try.underlying29 info2 rfl (by decide) (by omega) u5 x5_1 x11_1 [.int .i64 x11_1] (fun _ => True) (fun _ => False) rfl rfl ?aP (fun _ hk => hk.elim) ?aF ?aO ?aB ?aS ?aL ?_; (case aP => exact rfl); (case aB => exact (B1_ HB.out GE101.out)); (case aF => exact (fun _ _ => trivial)); (case aO => exact (KR_ HO_5.out)); (case aS => exact (below_size (B1_ HB.out GE101.out))); (case aL => have := LMc12.out; omega); intro v106 w15 ho hb hg hat; rw [← Ny105.out] at ho; replace BK101 := Aside0.mk (blk_grown (g := gb101) (o := .cells #[.slice (some ad102) l0_0.length c0_0] 26 (0, 0)) (KB_ BK101.out) hg (Kd.R_ne HO_5.out BK101.out (by decide))); replace HB := Aside0.mk (hb); have HO107 := Aside0.mk (ho); clear HO_5; clear ho hb hg hat))
     go_roundg k1
     case measure => exact Q1_ HK1
     case rel => exact ⟨(y105), (wrap64 (x11_1 + 1)), E_, H', ⟨Q1_ HK1⟩, ⟨KR_ HO107.out⟩, ⟨KB_ BK101.out⟩, ⟨B1_ HB.out GE101.out⟩⟩
    ·replace c11 := Bool.eq_false_iff.mpr c11
     subst c11
     replace H := N_ H
     have H' := Aside0.mk H
     clear H
     have p102 : 0 ≤ (x11_1 : Int) := D_
     have q102 : x11_1 < (l0_0.length : Int) := D_
     obtain ⟨ad102, A102_0, c102_0, e102, hx102_0, hl102_0, hi102_0⟩ := at_ListInt HR0_0.out x11_1 p102 q102
     cases e102
     replace hx102_0 := (HB.out.cell (World.block_lt_of_cell? w _ hx102_0)).trans hx102_0
     have HR102_0 := Aside0.mk hi102_0
     have HC102_0 := Aside0.mk hl102_0
     clear hi102_0 hl102_0
     replace p102 := eq_true p102
     replace q102 := eq_true q102
     have hcz16_0 : wr.cell? ⟨gb101, 0, none⟩ = some (.slice (some ad102) l0_0.length c0_0) := (blk_cell BK101.out 0).trans rfl
     have hfz16_0 := blk_frozen BK101.out 0
     have p103 : 0 ≤ (a1 : Int) := D_
     have q103 : a1 < (l0_0.length : Int) := D_
     obtain ⟨ad103, A103_0, c103_0, e103, hx103_0, hl103_0, hi103_0⟩ := at_ListInt HR0_0.out a1 p103 q103
     obtain rfl : ad102 = ad103 := (by injection e103)
     replace hx103_0 := (HB.out.cell (World.block_lt_of_cell? w _ hx103_0)).trans hx103_0
     have HR103_0 := Aside0.mk hi103_0
     have HC103_0 := Aside0.mk hl103_0
     clear hi103_0 hl103_0
     replace p103 := eq_true p103
     replace q103 := eq_true q103
     go_wp2_with (first | ((with_reducible refine gate_callee (f := 30) rfl ?_); refine goesL_ (some 22) rfl rfl Try.func30 (by kernel_rfl) rfl #[.slice A103_0 (rd_ListInt l0_0 a1).length c103_0, .slice A102_0 (rd_ListInt l0_0 x11_1).length c102_0] rfl (by (try simp only [List.map_toArray, List.map_cons, List.map_nil]); first | done | rfl | (simp only [List.length_drop, List.length_take]; rfl)) ?_; (with_reducible refine (z30.calls k1 _ _ (rd_ListInt l0_0 a1) _ _ (rd_ListInt l0_0 x11_1) false _ ?side1 ?side2 ?side3 ?side4 A10.out).mono ?_); (case side1 => exact KC_ (Kd.C_below HR103_0.out HB.out)); (case side2 => exact HC103_0.out); (case side3 => exact KC_ (Kd.C_below HR102_0.out HB.out)); (case side4 => exact HC102_0.out); rintro e w17 ⟨rfl, hb⟩; refine ⟨_, rfl, ?_⟩; replace HO_5 := Aside0.mk (Kd.R_below (KR_ HO_5.out) hb); replace BK101 := Aside0.mk (blk_below (g := gb101) (o := .cells #[.slice (some ad102) l0_0.length c0_0] 26 (0, 0)) (KB_ BK101.out) hb); replace HB := Aside0.mk (below_step (B1_ HB.out GE101.out) hb); (try clear hb); (try clear hb2); (try clear hk); (try clear hi)))
     go_roundg k1
     case measure => exact Q1_ HK1
     case rel => exact ⟨(x5_1), (wrap64 (x11_1 + 1)), E_, H', ⟨Q1_ HK1⟩, ⟨KR_ HO_5.out⟩, ⟨KB_ BK101.out⟩, ⟨B1_ HB.out GE101.out⟩⟩
   ·rw [if_neg c5] at H
    have c5b0 : decide (x11_1 < (l0_0.length : Int)) = false := decide_eq_false c5
    clear c5
    obtain rfl := Option.some.inj H
    go_wp2
    go_ret
    exact ⟨_, F_, KR_ HO_5.out, B1_ HB.out GE101.out⟩
end Go.Proofs.Ytidfblakgolbpaa.B
/- slices.SortFunc at a row of rows of the call's own: the library's contract in the words of the printed proofs (for this claim, by hand). -/
set_option linter.unusedVariables false
set_option linter.unusedSimpArgs false
namespace Go.Proofs.Ytidfblakgolbpaa.B
open Go.RowKit Go.Shelf Go.Proofs.YtidfblakgolbpaaW.PrintWords Go.Proofs.YtidfblakgolbpaaW.PrintLast Go.Proofs.YtidfblakgolbpaaW.PrintMore
open Go.Sort (Holds SWO SortedIn PermIn grow putRow mapBlock putCells onCells)
section
variable {α : Type} [Inhabited α]
theorem sw_heap (enc : α → Value) (w : World) (g off m : Nat) (dk : Array α) (os : Array Obj) (k : Nat) (hk : k < w.heap.size) (hne : k ≠ g) : (sortWorld enc w g off m dk os).heap[k]? = w.heap[k]? := by
  unfold sortWorld
  rw [Go.Sort.heap_grow_old _ _ (by rw [Go.Sort.size_putRow]; exact hk)]
  simp [putRow, mapBlock, Array.getElem?_modify, Ne.symm hne, Go.Sort.ahead]
theorem sw_at (enc : α → Value) (w : World) (g off m : Nat) (dk : Array α) (os : Array Obj) {cur : Array Value} {e : TypeId} {fr : Nat × Nat} (hg : w.heap[g]? = some (.cells cur e fr)) : (sortWorld enc w g off m dk os).heap[g]? = some (.cells (putCells enc off dk cur) e fr) := by
  have hk : g < w.heap.size := (Array.getElem?_eq_some_iff.1 hg).1
  unfold sortWorld
  rw [Go.Sort.heap_grow_old _ _ (by rw [Go.Sort.size_putRow]; exact hk)]
  simp [putRow, mapBlock, Array.getElem?_modify, hg, onCells, Go.Sort.ahead]
theorem sw_size (enc : α → Value) (w : World) (g off m : Nat) (dk : Array α) (os : Array Obj) : w.heap.size ≤ (sortWorld enc w g off m dk os).heap.size := by
  unfold sortWorld
  rw [Go.Sort.size_grow, Go.Sort.size_putRow]
  exact Nat.le_add_right _ _
theorem sw_below (enc : α → Value) (w0 w : World) (g off m : Nat) (dk : Array α) (os : Array Obj) (hb : Below w0.heap.size w0 w) (hg : w0.heap.size ≤ g) : Below w0.heap.size w0 (sortWorld enc w g off m dk os) :=
  ⟨hb.os, hb.tape, hb.output, Nat.le_trans hb.size (sw_size _ _ _ _ _ _ _), fun k hk => (sw_heap enc w g off m dk os k (Nat.lt_of_lt_of_le hk hb.size) (by omega)).trans (hb.block k hk)⟩
end
theorem sort_rows {P : Program} {ρ : Ren} (L : SlLaysF.n6 P ρ) (et er : Nat) (cf : List Int → List Int → Int) (gf : Nat) (hO : SWO (ltOf cf)) (hT : ∀ x y, ltOf cf x y = false → ltOf cf y x = false → x = y)
    (eg : ∀ args w, (callFunc gf args).run P w = .ok (.enter gf args) w)
    (hcmp : ∀ (W : World) (A A' : Option Addr) (c c' : Nat) (x y : List Int), Kd.C (Kd.int .i64) W A x.length x → x.length ≤ c → Kd.C (Kd.int .i64) W A' y.length y → y.length ≤ c' → x.length < 4611686018427387904 → y.length < 4611686018427387904 →
      Calls P gf #[.slice A x.length c, .slice A' y.length c'] W fun e w' => e = .returned (.int .i64 (cf x y)) ∧ ∃ q os, w' = grow (W.drewN q) os)
    (P0_ : Nat → Prop) (u : Value) (l0 : List (List Int)) (w0 w : World) (hB : Below w0.heap.size w0 w) (ho0 : Kd.S (Kd.slice et (Kd.int .i64)) er w w0.heap.size P0_ u l0) (hs : l0.length < 4611686018427387904) (hl : ∀ x ∈ l0, x.length < 4611686018427387904) :
    Calls P (ρ.f 6) #[u, .func (.func gf) #[] #[]] w fun e w' => e = .returned (.tuple #[]) ∧ Kd.S (Kd.slice et (Kd.int .i64)) er w' w0.heap.size P0_ u (l0.mergeSort fun x y => !(ltOf cf) y x) ∧ Below w0.heap.size w0 w' ∧ Kept w w' P0_ := by
  have hsv := ho0
  obtain ⟨f, h0, inner, ⟨hil, hcase⟩, hr⟩ := ho0
  rw [List.length_zipIdx] at hil hcase
  rcases Nat.eq_zero_or_pos l0.length with hz | hp
  · have hz' : l0 = [] := List.eq_nil_of_length_eq_zero hz
    subst hz'
    have hu : ∃ A c, u = .slice A 0 c := by
      rcases hcase with ⟨rfl, _⟩ | ⟨g, cap, cur, rfl, _⟩
      · exact ⟨_, _, rfl⟩
      · exact ⟨_, _, rfl⟩
    obtain ⟨A, c, rfl⟩ := hu
    refine (AnyF.slices_SortFunc_none (P := P) (ρ := ρ) { L with } A c _ w).mono ?_
    rintro e w' ⟨rfl, rfl⟩
    exact ⟨rfl, by simpa using hsv, hB, Kept.refl _ _⟩
  rcases hcase with ⟨rfl, hn⟩ | ⟨g, cap, cur, rfl, hg, hh, hnc, hcm, hcs, hct⟩
  · omega
  obtain ⟨m, hm⟩ : ∃ m, l0.length = m + 1 := ⟨l0.length - 1, by omega⟩
  have hsz1 : (Kd.tag f (Kd.slice et (Kd.int .i64))).sz = 1 := rfl
  rw [hsz1, Nat.mul_one] at hil hcs hct
  -- each element's cell
  have hin : ∀ j, j < m + 1 → ∃ v, inner[j]? = some v ∧ ∃ A c, v = .slice A (l0.getD j []).length c := by
    intro j hj
    have hj' : j < l0.length := by omega
    have h1 := hr.2 j (l0[j], j) (Kd.zip_at (List.getElem?_eq_getElem hj'))
    rw [hsz1, Nat.mul_one] at h1
    obtain ⟨v, hv, hR⟩ := h1
    obtain ⟨A, c, he⟩ := Kd.R_slice hR
    have h2 : inner[j]? = some v := by
      have := congrArg (fun l => l[0]?) hv
      simpa [List.getElem?_take, List.getElem?_drop] using this
    refine ⟨v, h2, A, c, ?_⟩
    rw [he, List.getD_eq_getElem?_getD, List.getElem?_eq_getElem hj']; rfl
  let enc : Fin (m + 1) → Value := fun i => inner.getD i.val (.slice none 0 0)
  have henc : ∀ i : Fin (m + 1), inner[i.val]? = some (enc i) := by
    intro i
    obtain ⟨v, hv, _⟩ := hin i.val i.isLt
    show _ = some (inner.getD i.val _)
    rw [List.getD_eq_getElem?_getD, hv]; rfl
  have hone : OneCell enc := by
    intro i
    obtain ⟨v, hv, A, c, rfl⟩ := hin i.val i.isLt
    have := henc i
    rw [hv] at this
    injection this with this
    rw [← this]; rfl
  have hM : ∀ i : Fin (m + 1), (Kd.slice et (Kd.int .i64)).M w w0.heap.size (fun k => (P0_ k ∧ some k ≠ some g) ∧ f k = i.val) (l0.getD i.val []) [enc i] := by
    intro i
    have hj' : i.val < l0.length := by omega
    have h1 := hr.2 i.val (l0[i.val], i.val) (Kd.zip_at (List.getElem?_eq_getElem hj'))
    rw [hsz1, Nat.mul_one] at h1
    have h2 : (inner.drop i.val).take 1 = [enc i] := by
      have := henc i
      rw [List.getElem?_eq_some_iff] at this
      obtain ⟨h3, h4⟩ := this
      rw [List.drop_eq_getElem_cons h3, h4]; rfl
    rw [h2] at h1
    have h5 : l0.getD i.val [] = l0[i.val] := by rw [List.getD_eq_getElem?_getD, List.getElem?_eq_getElem hj']; rfl
    rw [h5]
    exact h1
  let d : Array (Fin (m + 1)) := (List.finRange (m + 1)).toArray
  have hds : d.size = m + 1 := by simp [d]
  have hdj : ∀ (j : Nat) (hj : j < m + 1), d[j]! = ⟨j, hj⟩ := by
    intro j hj
    rw [getElem!_pos d j (by omega)]
    simp [d]
  have hgs : g < w.heap.size := (Array.getElem?_eq_some_iff.1 hh).1
  have hcur : ∀ j, j < m + 1 → cur[j]? = inner[j]? := by
    intro j hj
    rw [← hct, List.getElem?_take, if_pos (by omega), Array.getElem?_toList]
  have hH : Holds enc w g 0 d := by
    intro j hj
    rw [hds] at hj
    rw [hdj j hj, Nat.zero_add]
    constructor
    · show (match w.heap[g]? with | some (.cells c _ _) => _ | _ => none) = _
      rw [hh]
      show cur[j]? = _
      rw [hcur j hj]
      exact henc ⟨j, hj⟩
    · simp [World.frozen?, hh]
  let cfi : Fin (m + 1) → Fin (m + 1) → Int := fun i j => cf (l0.getD i.val []) (l0.getD j.val [])
  have hOi : SWO (ltOf cfi) := ⟨fun x => hO.irrefl _, fun x y z => hO.trans _ _ _, fun x y z => hO.ntrans _ _ _⟩
  have hmem : ∀ i : Fin (m + 1), l0.getD i.val [] ∈ l0 := by
    intro i
    have hj' : i.val < l0.length := by omega
    rw [List.getD_eq_getElem?_getD, List.getElem?_eq_getElem hj']
    exact List.getElem_mem _
  have hMW : ∀ (q : Nat) (dk : Array (Fin (m + 1))) (os : Array Obj) (i : Fin (m + 1)), (Kd.slice et (Kd.int .i64)).M (sortWorld enc w g 0 q dk os) w0.heap.size (fun k => (P0_ k ∧ some k ≠ some g) ∧ f k = i.val) (l0.getD i.val []) [enc i] := fun q dk os i =>
    Kd.M_step (hM i) (fun k hk hlt => sw_heap enc w g 0 q dk os k hlt (fun h => hk.1.2 (by rw [h])))
  have hcl : CmpLays1 P gf #[] enc cfi g 0 d.size w := by
    intro q os dk hdk x y
    obtain ⟨A, c, he, hlc, hC⟩ := (Kd.slice et (Kd.int .i64)).K_of_M (hMW q dk os x)
    obtain ⟨A', c', he', hlc', hC'⟩ := (Kd.slice et (Kd.int .i64)).K_of_M (hMW q dk os y)
    injection he with he _
    injection he' with he' _
    have := hcmp (sortWorld enc w g 0 q dk os) A A' c c' _ _ hC hlc hC' hlc' (hl _ (hmem x)) (hl _ (hmem y))
    rw [he, he']
    exact this
  have hS := Any.slices_SortFunc L enc hone cfi hOi gf #[] g 0 cap d w eg hcl hH hgs (by rw [hds]; omega)
  rw [hds] at hS
  rw [hm]
  refine hS.mono ?_
  rintro e w' ⟨rfl, d', q, os, hP, hSo, rfl⟩
  obtain ⟨hdz, -, hperm⟩ := hP
  rw [hds] at hdz
  have e1 := Array.extract_size (xs := d')
  have e2 := Array.extract_size (xs := d)
  rw [hdz] at e1
  rw [hds] at e2
  rw [e1, e2] at hperm
  have hD : d'.toList.Perm (List.finRange (m + 1)) := hperm
  have hnd : d'.toList.Nodup := hD.nodup_iff.2 (List.nodup_finRange _)
  have hDl : d'.toList.length = m + 1 := by simpa using hdz
  have hres : (l0.mergeSort fun x y => !(ltOf cf) y x) = d'.toList.map (fun i => l0.getD i.val []) := by
    refine (List.Perm.eq_of_pairwise (le := fun x y => (!(ltOf cf) y x) = true) ?_ ?_ ?_ ?_).symm
    · intro a b _ _ h1 h2
      simp only [Bool.not_eq_true'] at h1 h2
      exact hT a b h2 h1
    · rw [List.pairwise_map, List.pairwise_iff_getElem]
      intro i j hi hj hij
      have hi' : i < d'.size := by simpa using hi
      have hj' : j < d'.size := by simpa using hj
      have := hSo i j (Nat.zero_le _) hij (by omega)
      rw [getElem!_pos d' j hj', getElem!_pos d' i hi'] at this
      simpa [cfi, ltOf] using this
    · refine List.pairwise_mergeSort ?_ ?_ _
      · intro a b c h1 h2
        simp only [Bool.not_eq_true'] at h1 h2 ⊢
        exact hO.ntrans c b a h2 h1
      · intro a b
        cases h : ltOf cf b a with
        | false => simp
        | true =>
          have : ltOf cf a b = false := by
            cases h2 : ltOf cf a b with
            | false => rfl
            | true => exact absurd (hO.trans _ _ _ h h2) (by rw [hO.irrefl]; simp)
          simp [this]
    · refine List.Perm.trans (hD.map _) (List.Perm.trans (List.Perm.of_eq ?_) (List.mergeSort_perm _ _).symm)
      refine List.ext_getElem (by simp [hm]) (fun j h1 h2 => ?_)
      rw [List.getElem_map, List.getElem_finRange, List.getD_eq_getElem?_getD]
      simp [h2]
  obtain ⟨f', hf'⟩ : ∃ f' : Nat → Nat, ∀ (k j : Nat) (hj : j < d'.toList.length), (d'.toList[j]).val = f k → f' k = j := by
    classical
    refine ⟨fun k => if h : ∃ j, ∃ hj : j < d'.toList.length, (d'.toList[j]).val = f k then h.choose else 0, fun k j hj he => ?_⟩
    have hx : ∃ j, ∃ hj : j < d'.toList.length, (d'.toList[j]).val = f k := ⟨j, hj, he⟩
    show (if h : ∃ j, ∃ hj : j < d'.toList.length, (d'.toList[j]).val = f k then h.choose else 0) = j
    rw [dif_pos hx]
    obtain ⟨hj2, he2⟩ := hx.choose_spec
    have h3 : d'.toList[hx.choose] = d'.toList[j] := Fin.ext (he2.trans he.symm)
    have hpw := List.pairwise_iff_getElem.1 hnd
    rcases Nat.lt_trichotomy hx.choose j with h4 | h4 | h4
    · exact absurd h3 (hpw _ _ hj2 hj h4)
    · exact h4
    · exact absurd h3.symm (hpw _ _ hj hj2 h4)
  refine ⟨rfl, ?_, sw_below enc w0 w g 0 q d' os hB hg, sw_size _ _ _ _ _ _ _, fun k hk hnk => sw_heap enc w g 0 q d' os k hk (fun h => hnk (by subst h; exact h0 _ rfl))⟩
  rw [hres]
  refine ⟨f', ?_, d'.toList.map enc, ⟨?_, .inr ⟨g, cap, putCells enc 0 d' cur, ?_, hg, sw_at enc w g 0 q d' os hh, ?_, hcm, ?_, ?_⟩⟩, ?_, ?_⟩
  · exact h0
  · rw [show (Kd.tag f' (Kd.slice et (Kd.int .i64))).sz = 1 from rfl, Nat.mul_one]; simp
  · simp [hdz]
  · simp [hdz]; omega
  · rw [show (Kd.tag f' (Kd.slice et (Kd.int .i64))).sz = 1 from rfl, Nat.mul_one]; simp [putCells, hcs]
  · rw [show (Kd.tag f' (Kd.slice et (Kd.int .i64))).sz = 1 from rfl, Nat.mul_one]
    refine List.ext_getElem? (fun j => ?_)
    by_cases hj : j < m + 1
    · rw [List.getElem?_take, if_pos (by simpa [hdz] using hj), Array.getElem?_toList]
      have hjc : j < cur.size := by omega
      simp [putCells, hdz, hj, hjc]
    · rw [List.getElem?_eq_none (by simp; omega), List.getElem?_eq_none (by simp; omega)]
  · rw [show (Kd.tag f' (Kd.slice et (Kd.int .i64))).sz = 1 from rfl, Nat.mul_one]; simp
  · intro j p hj
    rw [show (Kd.tag f' (Kd.slice et (Kd.int .i64))).sz = 1 from rfl, Nat.mul_one]
    have hjl : j < d'.toList.length := by
      have := (List.getElem?_eq_some_iff.1 hj).1
      simpa using this
    have hp' : p = (l0.getD (d'.toList[j]).val [], j) := by
      rw [Kd.zip_at (p := l0.getD (d'.toList[j]).val []) (by rw [List.getElem?_map, List.getElem?_eq_getElem hjl]; rfl)] at hj
      injection hj with hj
      exact hj.symm
    subst hp'
    have h2 : ((d'.toList.map enc).drop j).take 1 = [enc d'.toList[j]] := by
      rw [List.drop_eq_getElem_cons (by simpa using hjl), List.getElem_map]; rfl
    rw [h2]
    exact (Kd.slice et (Kd.int .i64)).M_mono (ok' := fun k => (P0_ k ∧ some k ≠ some g) ∧ f' k = j) (fun k hk => ⟨hk.1, hf' k j hjl hk.2.symm⟩) (hMW q d' os d'.toList[j])
end Go.Proofs.Ytidfblakgolbpaa.B
/- impl.compareSimplices: what it does to the world, as an equation (for this claim, by hand). -/
set_option linter.unusedVariables false
set_option linter.unusedSimpArgs false
namespace Go.Proofs.Ytidfblakgolbpaa.B
open Go.RowKit Go.Proofs.YtidfblakgolbpaaW.PrintWords Go.Proofs.YtidfblakgolbpaaW.PrintLast Go.Proofs.YtidfblakgolbpaaW.PrintMore
open Go.Sort (grow)
/-- The world has drawn, and has some more blocks: no more. -/
structure GW (w w' : World) : Prop where mk :: (out : ∃ q os, w' = grow (w.drewN q) os)
theorem GW.refl (w : World) : GW w w := ⟨⟨0, #[], by rw [Go.Sort.grow_empty]; rfl⟩⟩
theorem GW.drewN {w w' : World} (h : GW w w') (n : Nat) : GW w (w'.drewN n) := by
  obtain ⟨q, os, rfl⟩ := h.out
  exact ⟨⟨q + n, os, by rw [← World.drewN_drewN]; rfl⟩⟩
theorem GW.drew {w w' : World} (h : GW w w') : GW w w'.drew := h.drewN 1
theorem GW.alloc {w w' : World} (h : GW w w') (o : Obj) : GW w (w'.alloc o) := by
  obtain ⟨q, os, rfl⟩ := h.out
  exact ⟨⟨q, os ++ #[o], by rw [Go.Sort.alloc_eq_grow, Go.Sort.grow_grow]⟩⟩
section
variable {P : Program} {ops : Array Oper} {rest : List Oper} {o : Oper} {a : Act} {Q : Exit → Act → World → Prop}
/-- A literal of whole numbers: the new world is told as the old one with a block more. -/
theorem litG {W : World} (e : Nat) (hgd : o.guard = none) (xs : List Int)
    (hrun : (execOp a.eval o).run P W = .ok (.value (.slice (some ⟨W.heap.size, 0, none⟩) xs.length xs.length)) (W.alloc (.cells (xs.map (Value.int .i64)).toArray e)))
    (hm : xs.length ≤ 9223372036854775807)
    (h : ∀ A w1, Kd.C (Kd.int .i64) w1 A xs.length xs → (∃ ob, w1 = W.alloc ob) → wpList P ops Q rest (a.put o.dst (.slice A xs.length xs.length)) w1) : wpList P ops Q (o :: rest) a W := by
  have hr : Reps ((Kd.int .i64).M (W.alloc (.cells (xs.map (Value.int .i64)).toArray e)) W.heap.size (fun _ => True)) 1 xs (xs.map (Value.int .i64)) := by
    refine ⟨by simp, fun j p hj => ?_⟩
    show _ = [Value.int .i64 p]
    rw [Nat.mul_one]
    have h1 : (xs.map (Value.int .i64))[j]? = some (Value.int .i64 p) := by rw [List.getElem?_map, hj]; rfl
    obtain ⟨h2, h3⟩ := List.getElem?_eq_some_iff.1 h1
    rw [List.drop_eq_getElem_cons h2, h3]; rfl
  have hR : Kd.R (Kd.int .i64) e (W.alloc (.cells (xs.map (Value.int .i64)).toArray e)) W.heap.size (fun _ => True) (.slice (some ⟨W.heap.size, 0, none⟩) xs.length xs.length) xs :=
    ⟨fun _ _ => trivial, OwnRow.lit W W.heap.size hr (Nat.le_refl _) hm⟩
  obtain ⟨A, c, he, _, hC⟩ := Kd.R_reads hR
  injection he with he _ _
  refine Kd.event_run hgd hrun ?_
  rw [he]
  exact h A _ hC ⟨_, rfl⟩
end
set_option maxHeartbeats 8000000 in
set_option maxRecDepth 100000 in
theorem compareSimplices_grows (k : Nat) (A0 : Option Addr) (c0 : Nat) (l0 : List Int) (A1 : Option Addr) (c1 : Nat) (l1 : List Int) (r : Int) (w : World) (hr0 : Kd.C (Kd.int .i64) w A0 l0.length l0) (hc0 : l0.length ≤ c0) (hr1 : Kd.C (Kd.int .i64) w A1 l1.length l1) (hc1 : l1.length ≤ c1) (h : z39.f k l0 l1 = some r) :
    Calls Try.prog 39 #[.slice A0 l0.length c0, .slice A1 l1.length c1] w fun e w' => e = .returned (.int .i64 r) ∧ GW w w' := by
  have HR0 := Aside0.mk hr0
  have HC0 := Aside0.mk hc0
  clear hr0 hc0
  have HR1 := Aside0.mk hr1
  have HC1 := Aside0.mk hc1
  clear hr1 hc1
  have H : ((z62.f (l0.length : Int) (l1.length : Int)).bind fun t101 => ((z63.f k l0 l1).bind fun t102 => ((z61.f k (([t101, t102] : List Int))).bind fun t106 => (some t106)))) = some r := h
  clear h
  replace H := Option.bind_eq_some_iff.mp H
  obtain ⟨t101, A30, H⟩ := H
  have A3 := Aside0.mk A30
  clear A30
  replace H := Option.bind_eq_some_iff.mp H
  obtain ⟨t102, A40, H⟩ := H
  have A4 := Aside0.mk A40
  clear A40
  replace H := Option.bind_eq_some_iff.mp H
  obtain ⟨t106, A50, H⟩ := H
  have A5 := Aside0.mk A50
  clear A50
  obtain rfl := Option.some.inj H
  clear H
  go_enter Try.func39, Try.ntmps39
  go_wp2_with (first | (go_at_call 62; refine (z62.calls (l0.length : Int) (l1.length : Int) t101 _ A3.out).mono ?_; rintro e w' ⟨rfl, ⟨nd, rfl⟩⟩) | (go_at_call 63; refine (z63.calls k _ _ l0 _ _ l1 t102 _ (KC_ HR0.out) HC0.out (KC_ HR1.out) HC1.out A4.out).mono ?_; rintro e w' ⟨rfl, ⟨nd, rfl⟩⟩) | ((with_reducible refine gate_dst (N := 13) rfl ?_); refine litG 3 rfl [t101, t102] (by first | (go_simp; done) | (go_simp; rfl)) (by simp) ?_; rintro AA w6 hC6 ⟨ob, hw6⟩; have HC6 := Aside0.mk hC6; have HW6 := Aside0.mk hw6; clear hC6 hw6) | (go_at_call 61; refine (z61.calls k _ _ [t101, t102] t106 _ (KC_ HC6.out) (Nat.le_refl _) A5.out).mono ?_; rintro e w' ⟨rfl, ⟨nd, rfl⟩⟩))
  go_ret
  refine ⟨rfl, ?_⟩
  have hw6 := HW6.out
  subst hw6
  repeat (first | exact GW.refl _ | apply GW.drewN | apply GW.drew | apply GW.alloc)
end Go.Proofs.Ytidfblakgolbpaa.B
/- Small tools for what the printed functions come to: pure Lean, no program in sight (for this claim, by hand). -/
set_option linter.unusedVariables false
set_option linter.unusedSimpArgs false
namespace Go.Proofs.Ytidfblakgolbpaa.B
open Go.RowKit Go.Proofs.YtidfblakgolbpaaW.PrintWords
theorem ev_pos {α : Type} {c : Prop} [Decidable c] {t f : Nat → Option α} {r : α} (h : c) (e : Ev t r) : Ev (fun k => if c then t k else f k) r := by
  simp only [if_pos h]; exact e
theorem ev_neg {α : Type} {c : Prop} [Decidable c] {t f : Nat → Option α} {r : α} (h : ¬ c) (e : Ev f r) : Ev (fun k => if c then t k else f k) r := by
  simp only [if_neg h]; exact e
theorem ev_const {α : Type} {x : Option α} {r : α} (h : x = some r) : Ev (fun _ => x) r := ⟨0, fun _ _ => h⟩
theorem ev_eq {α : Type} {g : Nat → Option α} {r r' : α} (h : Ev g r) (e : r = r') : Ev g r' := e ▸ h
/-- What g comes to, f comes to. -/
def Le {α : Type} (g f : Nat → Option α) : Prop := ∀ r, Ev g r → Ev f r
theorem Le.refl {α : Type} (g : Nat → Option α) : Le g g := fun _ h => h
theorem Le.trans {α : Type} {g f e : Nat → Option α} (h : Le g f) (h' : Le f e) : Le g e := fun r hr => h' r (h r hr)
/-- A loop over i, i + 1, .., d rounds of it. -/
def iter {σ : Type} (F : Nat → σ → σ) : Nat → Nat → σ → σ
  | _, 0, s => s
  | i, d + 1, s => iter F (i + 1) d (F i s)
theorem le_iter {σ β : Type} (L : σ → Nat → Nat → Option β) (F : Nat → σ → σ) : ∀ (d i : Nat) (s : σ), (∀ j s, i ≤ j → j < i + d → Le (L (F j s) (j + 1)) (L s j)) → Le (L (iter F i d s) (i + d)) (L s i)
  | 0, i, s, _ => Le.refl _
  | d + 1, i, s, h => by
    have ih := le_iter L F d (i + 1) (F i s) (fun j s h1 h2 => h j s (by omega) (by omega))
    rw [show i + 1 + d = i + (d + 1) by omega] at ih
    exact ih.trans (h i s (Nat.le_refl _) (by omega))
/-- The same where something holds in every round. -/
theorem le_iter_inv {σ β : Type} (L : σ → Nat → Nat → Option β) (F : Nat → σ → σ) (I : Nat → σ → Prop) : ∀ (d i : Nat) (s : σ), I i s → (∀ j s, i ≤ j → j < i + d → I j s → Le (L (F j s) (j + 1)) (L s j) ∧ I (j + 1) (F j s)) → Le (L (iter F i d s) (i + d)) (L s i) ∧ I (i + d) (iter F i d s)
  | 0, i, s, hI, _ => ⟨Le.refl _, hI⟩
  | d + 1, i, s, hI, h => by
    obtain ⟨h0, hI1⟩ := h i s (Nat.le_refl _) (by omega) hI
    have ih := le_iter_inv L F I d (i + 1) (F i s) hI1 (fun j s h1 h2 => h j s (by omega) (by omega))
    rw [show i + 1 + d = i + (d + 1) by omega] at ih
    exact ⟨ih.1.trans h0, ih.2⟩
theorem iter_inv {σ : Type} (F : Nat → σ → σ) (I : Nat → σ → Prop) : ∀ (d i : Nat) (s : σ), I i s → (∀ j s, i ≤ j → j < i + d → I j s → I (j + 1) (F j s)) → I (i + d) (iter F i d s)
  | 0, i, s, hI, _ => hI
  | d + 1, i, s, hI, h => by
    have ih := iter_inv F I d (i + 1) (F i s) (h i s (Nat.le_refl _) (by omega) hI) (fun j s h1 h2 => h j s (by omega) (by omega))
    rw [show i + 1 + d = i + (d + 1) by omega] at ih
    exact ih
theorem iter_congr {σ : Type} {F G : Nat → σ → σ} : ∀ (d i : Nat) (s : σ), (∀ j s, i ≤ j → j < i + d → F j s = G j s) → iter F i d s = iter G i d s
  | 0, i, s, _ => rfl
  | d + 1, i, s, h => by
    simp only [iter]
    rw [h i s (Nat.le_refl _) (by omega)]
    exact iter_congr d (i + 1) _ (fun j s h1 h2 => h j s (by omega) (by omega))
theorem iter_add {σ : Type} (F : Nat → σ → σ) : ∀ (d e i : Nat) (s : σ), iter F i (d + e) s = iter F (i + d) e (iter F i d s)
  | 0, e, i, s => by simp [iter]
  | d + 1, e, i, s => by
    rw [show d + 1 + e = d + e + 1 by omega]
    simp only [iter]
    rw [iter_add F d e (i + 1) (F i s), show i + 1 + d = i + (d + 1) by omega]
theorem iter_last {σ : Type} (F : Nat → σ → σ) (d i : Nat) (s : σ) : iter F i (d + 1) s = F (i + d) (iter F i d s) := by
  rw [iter_add F d 1 i s]; rfl
/-- A loop that looks for the first i with p. -/
theorem ev_find {β : Type} {r : β} (L : Nat → Nat → Option β) (p : Nat → Bool) : ∀ (d i : Nat), (∀ j, i ≤ j → j < i + d → p j = false → Le (L (j + 1)) (L j)) →
    (∀ j, i ≤ j → j < i + d → p j = true → (∀ m, i ≤ m → m < j → p m = false) → Ev (L j) r) → ((∀ m, i ≤ m → m < i + d → p m = false) → Ev (L (i + d)) r) → Ev (L i) r
  | 0, i, _, _, he => he (fun m h1 h2 => by omega)
  | d + 1, i, h0, h1, he => by
    cases hp : p i with
    | true => exact h1 i (Nat.le_refl _) (by omega) hp (fun m h1 h2 => by omega)
    | false =>
      refine h0 i (Nat.le_refl _) (by omega) hp r (ev_find L p d (i + 1) (fun j a b => h0 j (by omega) (by omega)) (fun j a b c e => h1 j (by omega) (by omega) c (fun m u v => ?_)) (fun e => ?_))
      · rcases Nat.eq_or_lt_of_le u with rfl | u
        · exact hp
        · exact e m u v
      · rw [show i + 1 + d = i + (d + 1) by omega]
        refine he (fun m u v => ?_)
        rcases Nat.eq_or_lt_of_le u with rfl | u
        · exact hp
        · exact e m u (by omega)
theorem all_range {α : Type} (xs : List α) (z : α) (p : α → Bool) : (List.range xs.length).all (fun i => p (xs.getD i z)) = xs.all p := by
  rw [Bool.eq_iff_iff, List.all_eq_true, List.all_eq_true]
  constructor
  · intro h x hx
    obtain ⟨i, hi, rfl⟩ := List.mem_iff_getElem.1 hx
    have := h i (List.mem_range.2 hi)
    rwa [List.getD_eq_getElem?_getD, List.getElem?_eq_getElem hi] at this
  · intro h i hi
    have hi := List.mem_range.1 hi
    rw [List.getD_eq_getElem?_getD, List.getElem?_eq_getElem hi]
    exact h _ (List.getElem_mem hi)
/-- A loop that ends with false where p fails, and with true behind all. -/
theorem ev_all (L : Nat → Nat → Option Bool) (p : Nat → Bool) (n : Nat) (h1 : ∀ j, j < n → p j = true → Le (L (j + 1)) (L j)) (h0 : ∀ j, j < n → p j = false → Ev (L j) false) (he : Ev (L n) true) : Ev (L 0) ((List.range n).all p) := by
  refine ev_find L (fun j => !p j) n 0 (fun j _ hj hp => h1 j (by omega) (by simpa using hp)) (fun j _ hj hp _ => ?_) (fun h => ?_)
  · have hp' : p j = false := by simpa using hp
    have : (List.range n).all p = false := by
      rw [Bool.eq_false_iff]
      intro h
      have := List.all_eq_true.1 h j (List.mem_range.2 (by omega))
      rw [hp'] at this; cases this
    rw [this]
    exact h0 j (by omega) hp'
  · have : (List.range n).all p = true := List.all_eq_true.2 (fun j hj => by simpa using h j (Nat.zero_le _) (by have := List.mem_range.1 hj; omega))
    rw [this, Nat.zero_add]
    exact he
theorem ev_all_list {α : Type} (xs : List α) (z : α) (L : Nat → Nat → Option Bool) (p : α → Bool) (h1 : ∀ j, j < xs.length → p (xs.getD j z) = true → Le (L (j + 1)) (L j)) (h0 : ∀ j, j < xs.length → p (xs.getD j z) = false → Ev (L j) false) (he : Ev (L xs.length) true) : Ev (L 0) (xs.all p) := by
  rw [← all_range xs z]
  exact ev_all L (fun j => p (xs.getD j z)) xs.length h1 h0 he
theorem least {q : Nat → Prop} (h : ∃ j, q j) : ∃ j, q j ∧ ∀ m, m < j → ¬ q m := by
  obtain ⟨j, hj⟩ := h
  induction j using Nat.strongRecOn with
  | _ j ih =>
    by_cases hm : ∃ m, m < j ∧ q m
    · obtain ⟨m, h1, h2⟩ := hm
      exact ih m h1 h2
    · exact ⟨j, hj, fun m h1 h2 => hm ⟨m, h1, h2⟩⟩
/-- A loop that gives the first i with p, or -1. -/
theorem ev_index (L : Nat → Nat → Option Int) (p : Nat → Bool) (n : Nat) (h0 : ∀ j, j < n → p j = false → Le (L (j + 1)) (L j)) (h1 : ∀ j, j < n → p j = true → Ev (L j) (j : Int)) (he : Ev (L n) (-1)) : ∃ t : Int, Ev (L 0) t ∧ decide (t ≥ 0) = (List.range n).any p := by
  by_cases h : ∃ j, j < n ∧ p j = true
  · obtain ⟨j, ⟨hj, hp⟩, hmin⟩ : ∃ j, (j < n ∧ p j = true) ∧ ∀ m, m < j → ¬ (m < n ∧ p m = true) := by
      exact least h
    refine ⟨j, ?_, ?_⟩
    · refine ev_find L p n 0 (fun i _ hi hpi => h0 i (by omega) hpi) (fun i _ hi hpi hbef => ?_) (fun hall => ?_)
      · have : i = j := by
          rcases Nat.lt_trichotomy i j with hlt | he | hlt
          · exact absurd ⟨by omega, hpi⟩ (hmin i hlt)
          · exact he
          · have := hbef j (Nat.zero_le _) hlt; rw [hp] at this; cases this
        subst this
        exact h1 i hj hp
      · have := hall j (Nat.zero_le _) (by omega); rw [hp] at this; cases this
    · have : (List.range n).any p = true := List.any_eq_true.2 ⟨j, List.mem_range.2 hj, hp⟩
      rw [this]; simp
  · have hno : ∀ j, j < n → p j = false := fun j hj => by
      cases hp : p j with
      | true => exact absurd ⟨j, hj, hp⟩ h
      | false => rfl
    refine ⟨-1, ?_, ?_⟩
    · refine ev_find L p n 0 (fun i _ hi hpi => h0 i (by omega) hpi) (fun i _ hi hpi hbef => ?_) (fun _ => by rw [Nat.zero_add]; exact he)
      have := hno i (by omega); rw [hpi] at this; cases this
    · have : (List.range n).any p = false := by
        rw [Bool.eq_false_iff]
        intro hc
        obtain ⟨j, hj, hp⟩ := List.any_eq_true.1 hc
        have := hno j (List.mem_range.1 hj); rw [hp] at this; cases this
      rw [this]; rfl
theorem any_range {α : Type} (xs : List α) (z : α) (p : α → Bool) : (List.range xs.length).any (fun i => p (xs.getD i z)) = xs.any p := by
  have h := all_range xs z (fun x => !p x)
  rw [List.any_eq_not_all_not, List.any_eq_not_all_not, h]
theorem ev_index_list {α : Type} (xs : List α) (z : α) (L : Nat → Nat → Option Int) (p : α → Bool) (h0 : ∀ j, j < xs.length → p (xs.getD j z) = false → Le (L (j + 1)) (L j)) (h1 : ∀ j, j < xs.length → p (xs.getD j z) = true → Ev (L j) (j : Int)) (he : Ev (L xs.length) (-1)) : ∃ t : Int, Ev (L 0) t ∧ decide (t ≥ 0) = xs.any p := by
  rw [← any_range xs z]
  exact ev_index L (fun j => p (xs.getD j z)) xs.length h0 h1 he
theorem wrap_small {x : Int} (h0 : -9223372036854775808 ≤ x) (h1 : x ≤ 9223372036854775807) : wrap64 x = x := by
  unfold wrap64; omega
theorem wrap_succ {i : Nat} (h : i < 9223372036854775807) : wrap64 ((i : Int) + 1) = ((i + 1 : Nat) : Int) := by
  unfold wrap64; omega
theorem rd_nat (xs : List Int) (i : Nat) : rd xs (i : Int) = xs.getD i 0 := by simp [rd]
theorem rdOf_nat {α : Type} (z : α) (xs : List α) (i : Nat) : rdOf z xs (i : Int) = xs.getD i z := by simp [rdOf]
theorem set_prefix {α : Type} (l : List α) (i : Nat) (z : α) (hi : i < l.length) (y : α) (hy : y = l.getD i z) : (l.take i ++ List.replicate (l.length - i) z).set i y = l.take (i + 1) ++ List.replicate (l.length - (i + 1)) z := by
  have h1 : (l.take i).length = i := by rw [List.length_take]; omega
  rw [List.set_append_right _ _ (by omega), h1, Nat.sub_self, show l.length - i = (l.length - (i + 1)) + 1 by omega, List.replicate_succ, List.set_cons_zero, List.take_succ_eq_append_getElem hi, List.append_assoc]
  subst hy
  simp [List.getElem?_eq_getElem hi]
/-! The laws' own numbers: how much a row of rows has, its marks -/
def markInts : List Int → Int → List Int
  | [], _ => []
  | _ :: l, a => a :: markInts l (a + 1)
def markRows : List (List Int) → Int → List (List Int)
  | [], _ => []
  | l :: ls, a => markInts l a :: markRows ls (a + l.length)
def total : List (List Int) → Int
  | [] => 0
  | l :: ls => l.length + total ls
theorem total_nonneg : ∀ ls, 0 ≤ total ls
  | [] => Int.le_refl _
  | l :: ls => by have := total_nonneg ls; simp only [total]; omega
theorem total_append : ∀ l m : List (List Int), total (l ++ m) = total l + total m
  | [], m => by simp [total]
  | x :: l, m => by simp only [List.cons_append, total, total_append l m]; omega
theorem markInts_length : ∀ (l : List Int) (a : Int), (markInts l a).length = l.length
  | [], _ => rfl
  | _ :: l, a => by simp [markInts, markInts_length l]
theorem markRows_length : ∀ (l : List (List Int)) (a : Int), (markRows l a).length = l.length
  | [], _ => rfl
  | _ :: l, a => by simp [markRows, markRows_length l]
theorem markInts_append : ∀ (l m : List Int) (a : Int), markInts (l ++ m) a = markInts l a ++ markInts m (a + l.length)
  | [], m, a => by simp [markInts]
  | _ :: l, m, a => by simp only [List.cons_append, markInts, markInts_append l m, List.length_cons]; congr 3; push_cast; omega
theorem markRows_append : ∀ (l m : List (List Int)) (a : Int), markRows (l ++ m) a = markRows l a ++ markRows m (a + total l)
  | [], m, a => by simp [markRows, total]
  | x :: l, m, a => by simp only [List.cons_append, markRows, markRows_append l m, total]; congr 3; omega
end Go.Proofs.Ytidfblakgolbpaa.B
/- What comes in, opened for the laws' walks: whole numbers, rows, rows of rows, structs (for this claim, by hand). -/
set_option linter.unusedVariables false
set_option linter.unusedSimpArgs false
namespace Go.Proofs.Ytidfblakgolbpaa.B
open Go.RowKit Go.ChangeShapes Go.WideShapes Go.Deep Go.Proofs.YtidfblakgolbpaaW.PrintWords
/-- Whole numbers that came in: each is one of its kind. -/
def Wf (n : Int) : Prop := -9223372036854775808 ≤ n ∧ n ≤ 9223372036854775807
def WfL (l : List Int) : Prop := l.length ≤ 9223372036854775807 ∧ ∀ n ∈ l, Wf n
def WfLL (l : List (List Int)) : Prop := l.length ≤ 9223372036854775807 ∧ ∀ r ∈ l, WfL r
theorem wf_of {n : Int} (h : (Lit.int .i64 n).wf = true) : Wf n := by
  unfold Wf
  simp [Lit.wf, IntKind.min, IntKind.max, IntKind.bits, IntKind.signed] at h
  omega
section
variable {H : Type} {enc : TypeId × Value → H} {P : Program} {w : World} {base : Nat} {held : Bool} {fuel : Nat}
theorem opened_int {t : TypeId} {v : Value} {x : DataW H × List MemPlace} (ht : P.underlying t = some (.int .i64)) (h : DataW.trod enc P w base (fun _ => true) held fuel t [v] = some x) : ∃ n, v = .int .i64 n ∧ Wf n := by
  obtain ⟨n, he, _, hw⟩ := DataW.trod_int ht h
  exact ⟨n, by simpa using he, wf_of hw⟩
theorem opened_ints {t e : TypeId} {v : Value} {x : DataW H × List MemPlace} (ht : P.underlying t = some (.slice e)) (he : P.underlying e = some (.int .i64)) (hc : P.cellsOf e = 1) (h : DataW.trod enc P w base (fun _ => true) held fuel t [v] = some x) :
    ∃ A l c, v = .slice A l.length c ∧ (Kd.int .i64).C w A l.length l ∧ l.length ≤ c ∧ WfL l := by
  rcases open_ints ht he hc h with ⟨hcs, _⟩ | ⟨a, l, c, zs, hcs, _, hl, hm, hz, _, hcell, hwz⟩
  · refine ⟨none, [], 0, by simpa using hcs, ⟨rfl, by simp, fun h => by simp at h⟩, by simp, by simp [WfL]⟩
  · simp only [if_true] at hz
    have hlen : (zs.take l).length = l := by rw [List.length_take]; omega
    refine ⟨some a, zs.take l, c, by rw [hlen]; simpa using hcs, ⟨rfl, by rw [hlen]; simp only [maxLen] at hm; omega, fun _ => ⟨a, rfl, fun j p hj => ?_⟩⟩, by omega, ?_, fun n hn => wf_of (hwz n (List.mem_of_mem_take hn))⟩
    · have hjl : j < l := by have := (List.getElem?_eq_some_iff.1 hj).1; omega
      refine ⟨[.int .i64 p], rfl, rfl, fun i u hu => ?_⟩
      cases i with
      | zero =>
        simp only [List.getElem?_cons_zero, Option.some.injEq] at hu
        subst hu
        rw [Nat.add_zero, show j * (Kd.int .i64).sz = j from Nat.mul_one j, hcell j (by omega)]
        rw [List.getElem?_take, if_pos hjl] at hj
        rw [List.getD_eq_getElem?_getD, hj]; rfl
      | succ i => simp at hu
    · rw [hlen]; simp only [maxLen] at hm; omega
theorem opened_rows {t e q : TypeId} {v : Value} {x : DataW H × List MemPlace} (ht : P.underlying t = some (.slice e)) (he : P.underlying e = some (.slice q)) (hq : P.underlying q = some (.int .i64)) (ce : P.cellsOf e = 1) (cq : P.cellsOf q = 1) (h : DataW.trod enc P w base (fun _ => true) held fuel t [v] = some x) :
    ∃ A l c, v = .slice A l.length c ∧ (Kd.slice 2 (Kd.int .i64)).C w A l.length l ∧ l.length ≤ c ∧ WfLL l := by
  rcases open_slice1 ht ce h with ⟨hcs, _⟩ | ⟨a, l, c, m, n, V, D, Pl, hcs, _, hl, hm, hmm, _, hx⟩
  · refine ⟨none, [], 0, by simpa using hcs, ⟨rfl, by simp, fun h => by simp at h⟩, by simp, by simp [WfLL]⟩
  · simp only [if_true] at hmm
    subst hmm
    have each : ∀ r, r < m → ∃ y : Option Addr × List Int × Nat, V r = .slice y.1 y.2.1.length y.2.2 ∧ (Kd.int .i64).C w y.1 y.2.1.length y.2.1 ∧ y.2.1.length ≤ y.2.2 ∧ WfL y.2.1 := by
      intro r hr
      obtain ⟨A, l, c, h1, h2, h3, h4⟩ := opened_ints he hq cq (hx r hr).2
      exact ⟨(A, l, c), h1, h2, h3, h4⟩
    obtain ⟨y, hy⟩ := choose_lt each
    have hlen : ((List.range l).map fun r => (y r).2.1).length = l := by simp
    refine ⟨some a, (List.range l).map fun r => (y r).2.1, m, by rw [hlen]; simpa using hcs, ⟨rfl, by rw [hlen]; simp only [maxLen] at hm; omega, fun _ => ⟨a, rfl, fun j p hj => ?_⟩⟩, by omega, ?_, ?_⟩
    · have hjl : j < l := by have := (List.getElem?_eq_some_iff.1 hj).1; omega
      rw [List.getElem?_map, List.getElem?_range hjl] at hj
      simp only [Option.map_some, Option.some.injEq] at hj
      subst hj
      obtain ⟨h1, h2, h3, h4⟩ := hy j (by omega)
      refine ⟨[.slice (y j).1 (y j).2.1.length (y j).2.2], rfl, ⟨_, _, rfl, h3, h2⟩, fun i u hu => ?_⟩
      cases i with
      | zero =>
        simp only [List.getElem?_cons_zero, Option.some.injEq] at hu
        subst hu
        rw [Nat.add_zero, show j * (Kd.slice 2 (Kd.int .i64)).sz = j from Nat.mul_one j, (hx j (by omega)).1, h1]
      | succ i => simp at hu
    · rw [hlen]; simp only [maxLen] at hm; omega
    · intro r hr
      simp only [List.mem_map, List.mem_range] at hr
      obtain ⟨j, hj, rfl⟩ := hr
      exact (hy j (by omega)).2.2.2
/-- A struct of one field of one cell. -/
theorem open_agg1 {r : Reach} {b0 : Nat} {t : TypeId} {f0 : Field} {v : Value} {d : DataW H} {p : List MemPlace} (hs : P.underlying t = some (.struct #[f0])) (hone : oneCellFields P #[f0] = true) (hC : P.cellsOf t = 1)
    (hv : Value.okWide P w r b0 t v) (h : DataW.Trod enc P w base (fun _ => true) held t v d p) :
    ∃ (v0 : Value) (y0 : DataW H × List MemPlace) (n : Nat), v = .agg #[v0] ∧ DataW.trod enc P w base (fun _ => true) held n f0.type [v0] = some y0 := by
  obtain ⟨cs, rfl, hsz⟩ := okWide_struct hs hv
  obtain ⟨c0, rfl⟩ : ∃ c0, cs = #[c0] := by
    have h1 : cs.size = 1 := hsz.trans hC
    match cs, h1 with | ⟨[c0]⟩, _ => exact ⟨c0, rfl⟩
  obtain ⟨fuel, hf⟩ := h
  obtain ⟨y0, n, hx, _, h0⟩ := trod_struct1 hs hf
  obtain ⟨o0, k0⟩ := hone_of hone 0 f0 rfl
  exact ⟨c0, y0, n, rfl, by simpa [Value.cells, o0, k0] using h0⟩
end
theorem own : ownKnob Try.prog.godebug = none := by kernel_rfl
theorem laidOut : laidOutB Try.prog = true := by kernel_rfl
end Go.Proofs.Ytidfblakgolbpaa.B
/- What the laws' own helpers come to: sizes, copies, comparisons, marks (for this claim, by hand). -/
set_option linter.unusedVariables false
set_option linter.unusedSimpArgs false
namespace Go.Proofs.Ytidfblakgolbpaa.B
open Go.RowKit Go.Proofs.YtidfblakgolbpaaW.PrintWords
/-! sizes -/
/-! copies -/
/-! comparisons -/
theorem list_eq_range {α : Type} [BEq α] [LawfulBEq α] (l m : List α) (z : α) (h : l.length = m.length) : (List.range l.length).all (fun i => l.getD i z == m.getD i z) = (l == m) := by
  rw [Bool.eq_iff_iff, List.all_eq_true, beq_iff_eq]
  constructor
  · intro e
    apply List.ext_getElem h
    intro i h1 h2
    have := e i (List.mem_range.2 h1)
    simpa [List.getD_eq_getElem?_getD, List.getElem?_eq_getElem h1, List.getElem?_eq_getElem h2] using this
  · rintro rfl i _
    exact beq_self_eq_true _
theorem len_ne_beq {α : Type} [BEq α] [LawfulBEq α] {l m : List α} (h : l.length ≠ m.length) : (l == m) = false := by
  rw [Bool.eq_false_iff]; intro e; exact h (by rw [eq_of_beq e])
end Go.Proofs.Ytidfblakgolbpaa.B
namespace Go.Proofs.Ytidfblakgolbpaa.B
open Go.RowKit Go.Proofs.YtidfblakgolbpaaW.PrintWords Go.Proofs.YtidfblakgolbpaaW.PrintLast Go.Proofs.YtidfblakgolbpaaW.PrintMore
attribute [local go_sem] max2_int min2_int max_two min_two max_three min_three max_four min_four
set_option linter.unusedVariables false
set_option linter.unusedSimpArgs false
def z64.f (a0 : Int) (a1 : Int) (a2 : Int) : Option (Bool) := if a0 ≥ a1 then (some (decide (a0 ≤ a2))) else (some false)
set_option maxHeartbeats 8000000 in
set_option maxRecDepth 100000 in
theorem z64.calls (a0 : Int) (a1 : Int) (a2 : Int) (r : Bool) (w : World) (h : z64.f a0 a1 a2 = some r) :
  Calls Try.prog 64 #[.int .i64 a0, .int .i64 a1, .int .i64 a2] w fun e w' => e = .returned (.bool r) ∧ Drawn0 w w' := by
 have H : (if a0 ≥ a1 then (some (decide (a0 ≤ a2))) else (some false)) = some r := h
 clear h
 by_cases c4 : a0 ≥ a1
 ·rw [if_pos c4] at H
  have c4b0 : decide (a1 ≤ a0) = true := decide_eq_true c4
  clear c4
  obtain rfl := Option.some.inj H
  go_enter Try.func64, Try.ntmps64
  go_wp2
  go_ret
  exact ⟨by first | rfl | (simp; done) | (simp [*]; done), by repeat (first | exact Drawn0.refl _ | apply Drawn0.step)⟩
 ·rw [if_neg c4] at H
  have c4b0 : decide (a1 ≤ a0) = false := decide_eq_false c4
  clear c4
  obtain rfl := Option.some.inj H
  go_enter Try.func64, Try.ntmps64
  go_wp2
  go_ret
  exact ⟨by first | rfl | (simp; done) | (simp [*]; done), by repeat (first | exact Drawn0.refl _ | apply Drawn0.step)⟩
end Go.Proofs.Ytidfblakgolbpaa.B
/- Ranges and elements (for this claim, by hand). -/
set_option linter.unusedVariables false
set_option linter.unusedSimpArgs false
namespace Go.Proofs.Ytidfblakgolbpaa.B
open Go.RowKit Go.Proofs.YtidfblakgolbpaaW.PrintWords
theorem within_val (a b c : Int) : z28.f a b c = some (decide (b ≤ a) && decide (a ≤ c)) := by
  unfold z28.f
  by_cases h : a ≥ b
  · rw [if_pos h]; simp [h]
  · rw [if_neg h]; simp; omega
theorem in_val (a b c : Int) : z64.f a b c = some (decide (b ≤ a) && decide (a ≤ c)) := by
  unfold z64.f
  by_cases h : a ≥ b
  · rw [if_pos h]; simp [h]
  · rw [if_neg h]; simp; omega
theorem getD_mem {α : Type} {l : List α} {i : Nat} (z : α) (h : i < l.length) : l.getD i z ∈ l := by
  rw [List.getD_eq_getElem?_getD, List.getElem?_eq_getElem h]; exact List.getElem_mem h
theorem rdl_nat (l : List (List Int)) (i : Nat) : rd_ListInt l (i : Int) = l.getD i [] := by simp [rd_ListInt]
end Go.Proofs.Ytidfblakgolbpaa.B
namespace Go.Proofs.Ytidfblakgolbpaa.B
open Go.RowKit Go.Proofs.YtidfblakgolbpaaW.PrintWords Go.Proofs.YtidfblakgolbpaaW.PrintLast Go.Proofs.YtidfblakgolbpaaW.PrintMore
attribute [local go_sem] max2_int min2_int max_two min_two max_three min_three max_four min_four
set_option linter.unusedVariables false
set_option linter.unusedSimpArgs false
def z41.l0 : Nat → List Int → List Int → Int → Int → Option (Bool)
 | 0, _, _, _, _ => none
 | k + 1, x0, x1, x12, x13 => if x13 < x12 then (if 0 ≤ x13 then (if x13 < (x0.length : Int) then (if x13 < (x1.length : Int) then (if (rd x0 x13) = (rd x1 x13) then (z41.l0 k x0 x1 x12 (wrap64 (x13 + 1))) else (some false)) else (none)) else (none)) else (none)) else (some true)
def z41.f (k : Nat) (l0 : List Int) (l1 : List Int) : Option (Bool) := if (l0.length : Int) = (l1.length : Int) then (z41.l0 k l0 l1 (l0.length : Int) 0) else (some false)
set_option maxHeartbeats 8000000 in
set_option maxRecDepth 100000 in
theorem z41.calls (k : Nat) (A0 : Option Addr) (c0 : Nat) (l0 : List Int) (A1 : Option Addr) (c1 : Nat) (l1 : List Int) (r : Bool) (w : World) (hr0 : Kd.C (Kd.int .i64) w A0 l0.length l0) (hc0 : l0.length ≤ c0) (hr1 : Kd.C (Kd.int .i64) w A1 l1.length l1) (hc1 : l1.length ≤ c1) (h : z41.f k l0 l1 = some r) :
  Calls Try.prog 41 #[.slice A0 l0.length c0, .slice A1 l1.length c1] w fun e w' => e = .returned (.bool r) ∧ Drawn0 w w' := by
 have HR0 := Aside0.mk hr0
 have HC0 := Aside0.mk hc0
 clear hr0 hc0
 have HR1 := Aside0.mk hr1
 have HC1 := Aside0.mk hc1
 clear hr1 hc1
 have H : (if (l0.length : Int) = (l1.length : Int) then (z41.l0 k l0 l1 (l0.length : Int) 0) else (some false)) = some r := h
 clear h
 by_cases c3 : (l0.length : Int) = (l1.length : Int)
 ·rw [if_pos c3] at H
  have c3b0 : ((l0.length : Int) == (l1.length : Int)) = true := beq_iff_eq.mpr c3
  have c3b1 : ((l0.length : Int) != (l1.length : Int)) = false := bne_eq_false_iff_eq.mpr c3
  have c3b2 : (l0.length == l1.length) = true := by first | simpa using c3 | (simp at c3 ⊢; omega)
  clear c3
  have H' := Aside0.mk H
  clear H
  go_enter Try.func41, Try.ntmps41
  go_wp2
  repeat (go_quiet (fail); try go_wp2)
  go_loopg [13] k (fun kq v13 w' => ∃ (x13_1 : Int), v13 = .int .i64 x13_1 ∧ Aside0 (z41.l0 kq l0 l1 (l0.length : Int) x13_1 = some r) ∧ Aside0 (kq ≤ k) ∧ Drawn0 w w')
  case atStart => exact ⟨(0), E_, H', ⟨Nat.le_refl _⟩, by repeat (first | exact Drawn0.refl _ | apply Drawn0.step)⟩
  case round =>
   clear H'
   (try clear c1);(try clear p2);(try clear c3);(try clear c3b0);(try clear c3b1);(try clear c3b2)
   obtain ⟨x13_1, rfl, HA, HK1, ⟨m1, rfl⟩⟩ := hrel
   cases gk with
   | zero => exact absurd HA.out (by simp [z41.l0])
   | succ k1 =>
    have H := HA.out
    clear HA
    simp only [z41.l0] at H
    by_cases c4 : x13_1 < (l0.length : Int)
    ·rw [if_pos c4] at H
     have c4b0 : decide (x13_1 < (l0.length : Int)) = true := decide_eq_true c4
     clear c4
     have c5 := O1_ H
     replace H := O2_ H
     have c5b0 := decide_eq_true c5
     clear c5
     have c6 := O1_ H
     replace H := O2_ H
     have c6b0 := decide_eq_true c6
     clear c6
     have c7 := O1_ H
     replace H := O2_ H
     have c7b0 := decide_eq_true c7
     clear c7
     by_cases c8 : (rd l0 x13_1) = (rd l1 x13_1)
     ·rw [if_pos c8] at H
      have c8b0 : ((rd l0 x13_1) == (rd l1 x13_1)) = true := beq_iff_eq.mpr c8
      have c8b1 : ((rd l0 x13_1) != (rd l1 x13_1)) = false := bne_eq_false_iff_eq.mpr c8
      clear c8
      have H' := Aside0.mk H
      clear H
      have p101 : 0 ≤ (x13_1 : Int) := D_
      have q101 : x13_1 < (l0.length : Int) := D_
      obtain ⟨ad101, e101, hx101_0⟩ := Kd.at_int HR0.out x13_1 p101 q101
      cases e101
      replace p101 := eq_true p101
      replace q101 := eq_true q101
      have p102 : 0 ≤ (x13_1 : Int) := D_
      have q102 : x13_1 < (l1.length : Int) := D_
      obtain ⟨ad102, e102, hx102_0⟩ := Kd.at_int HR1.out x13_1 p102 q102
      cases e102
      replace p102 := eq_true p102
      replace q102 := eq_true q102
      go_wp2
      repeat (go_quiet (fail); try go_wp2)
      go_roundg k1
      case measure => exact Q1_ HK1
      case rel => exact ⟨(wrap64 (x13_1 + 1)), E_, H', ⟨Q1_ HK1⟩, by repeat (first | exact Drawn0.refl _ | apply Drawn0.step)⟩
     ·rw [if_neg c8] at H
      have c8b0 : ((rd l0 x13_1) == (rd l1 x13_1)) = false := beq_eq_false_iff_ne.mpr c8
      have c8b1 : ((rd l0 x13_1) != (rd l1 x13_1)) = true := bne_iff_ne.mpr c8
      obtain rfl := Option.some.inj H
      have p101 : 0 ≤ (x13_1 : Int) := D_
      have q101 : x13_1 < (l0.length : Int) := D_
      obtain ⟨ad101, e101, hx101_0⟩ := Kd.at_int HR0.out x13_1 p101 q101
      cases e101
      replace p101 := eq_true p101
      replace q101 := eq_true q101
      have p102 : 0 ≤ (x13_1 : Int) := D_
      have q102 : x13_1 < (l1.length : Int) := D_
      obtain ⟨ad102, e102, hx102_0⟩ := Kd.at_int HR1.out x13_1 p102 q102
      cases e102
      replace p102 := eq_true p102
      replace q102 := eq_true q102
      go_wp2
      repeat (go_quiet (fail); try go_wp2)
      go_ret
      exact ⟨by first | rfl | (simp; done) | (simp [*]; done), by repeat (first | exact Drawn0.refl _ | apply Drawn0.step)⟩
    ·rw [if_neg c4] at H
     have c4b0 : decide (x13_1 < (l0.length : Int)) = false := decide_eq_false c4
     clear c4
     obtain rfl := Option.some.inj H
     go_wp2
     repeat (go_quiet (fail); try go_wp2)
     go_ret
     exact ⟨by first | rfl | (simp; done) | (simp [*]; done), by repeat (first | exact Drawn0.refl _ | apply Drawn0.step)⟩
 ·rw [if_neg c3] at H
  have c3b0 : ((l0.length : Int) == (l1.length : Int)) = false := beq_eq_false_iff_ne.mpr c3
  have c3b1 : ((l0.length : Int) != (l1.length : Int)) = true := bne_iff_ne.mpr c3
  have c3b2 : (l0.length == l1.length) = false := by first | simpa using c3 | (simp at c3 ⊢; omega)
  obtain rfl := Option.some.inj H
  go_enter Try.func41, Try.ntmps41
  go_wp2
  repeat (go_quiet (fail); try go_wp2)
  go_ret
  exact ⟨by first | rfl | (simp; done) | (simp [*]; done), by repeat (first | exact Drawn0.refl _ | apply Drawn0.step)⟩
def z66.l0 : Nat → List Int → List Int → Int → Option (Bool)
 | 0, _, _, _ => none
 | k + 1, x0, x1, x5 => if x5 < (x0.length : Int) then (if 0 ≤ x5 then (if x5 < (x1.length : Int) then (if (rd x0 x5) = (rd x1 x5) then (z66.l0 k x0 x1 (wrap64 (x5 + 1))) else (some false)) else (none)) else (none)) else (some true)
def z66.f (k : Nat) (l0 : List Int) (l1 : List Int) : Option (Bool) := if (l0.length : Int) = (l1.length : Int) then (z66.l0 k l0 l1 0) else (some false)
set_option maxHeartbeats 8000000 in
set_option maxRecDepth 100000 in
theorem z66.calls (k : Nat) (A0 : Option Addr) (c0 : Nat) (l0 : List Int) (A1 : Option Addr) (c1 : Nat) (l1 : List Int) (r : Bool) (w : World) (hr0 : Kd.C (Kd.int .i64) w A0 l0.length l0) (hc0 : l0.length ≤ c0) (hr1 : Kd.C (Kd.int .i64) w A1 l1.length l1) (hc1 : l1.length ≤ c1) (h : z66.f k l0 l1 = some r) :
  Calls Try.prog 66 #[.slice A0 l0.length c0, .slice A1 l1.length c1] w fun e w' => e = .returned (.bool r) ∧ Drawn0 w w' := by
 have HR0 := Aside0.mk hr0
 have HC0 := Aside0.mk hc0
 clear hr0 hc0
 have HR1 := Aside0.mk hr1
 have HC1 := Aside0.mk hc1
 clear hr1 hc1
 have H : (if (l0.length : Int) = (l1.length : Int) then (z66.l0 k l0 l1 0) else (some false)) = some r := h
 clear h
 by_cases c3 : (l0.length : Int) = (l1.length : Int)
 ·rw [if_pos c3] at H
  have c3b0 : ((l0.length : Int) == (l1.length : Int)) = true := beq_iff_eq.mpr c3
  have c3b1 : ((l0.length : Int) != (l1.length : Int)) = false := bne_eq_false_iff_eq.mpr c3
  have c3b2 : (l0.length == l1.length) = true := by first | simpa using c3 | (simp at c3 ⊢; omega)
  clear c3
  have H' := Aside0.mk H
  clear H
  go_enter Try.func66, Try.ntmps66
  go_wp2
  repeat (go_quiet (fail); try go_wp2)
  go_loopg [5] k (fun kq v5 w' => ∃ (x5_1 : Int), v5 = .int .i64 x5_1 ∧ Aside0 (z66.l0 kq l0 l1 x5_1 = some r) ∧ Aside0 (kq ≤ k) ∧ Drawn0 w w')
  case atStart => exact ⟨(0), E_, H', ⟨Nat.le_refl _⟩, by repeat (first | exact Drawn0.refl _ | apply Drawn0.step)⟩
  case round =>
   clear H'
   (try clear c1);(try clear p2);(try clear c3);(try clear c3b0);(try clear c3b1);(try clear c3b2)
   obtain ⟨x5_1, rfl, HA, HK1, ⟨m1, rfl⟩⟩ := hrel
   cases gk with
   | zero => exact absurd HA.out (by simp [z66.l0])
   | succ k1 =>
    have H := HA.out
    clear HA
    simp only [z66.l0] at H
    by_cases c4 : x5_1 < (l0.length : Int)
    ·rw [if_pos c4] at H
     have c4b0 : decide (x5_1 < (l0.length : Int)) = true := decide_eq_true c4
     clear c4
     have c5 := O1_ H
     replace H := O2_ H
     have c5b0 := decide_eq_true c5
     clear c5
     have c6 := O1_ H
     replace H := O2_ H
     have c6b0 := decide_eq_true c6
     clear c6
     by_cases c7 : (rd l0 x5_1) = (rd l1 x5_1)
     ·rw [if_pos c7] at H
      have c7b0 : ((rd l0 x5_1) == (rd l1 x5_1)) = true := beq_iff_eq.mpr c7
      have c7b1 : ((rd l0 x5_1) != (rd l1 x5_1)) = false := bne_eq_false_iff_eq.mpr c7
      clear c7
      have H' := Aside0.mk H
      clear H
      have p101 : 0 ≤ (x5_1 : Int) := D_
      have q101 : x5_1 < (l0.length : Int) := D_
      obtain ⟨ad101, e101, hx101_0⟩ := Kd.at_int HR0.out x5_1 p101 q101
      cases e101
      replace p101 := eq_true p101
      replace q101 := eq_true q101
      have p102 : 0 ≤ (x5_1 : Int) := D_
      have q102 : x5_1 < (l1.length : Int) := D_
      obtain ⟨ad102, e102, hx102_0⟩ := Kd.at_int HR1.out x5_1 p102 q102
      cases e102
      replace p102 := eq_true p102
      replace q102 := eq_true q102
      go_wp2
      repeat (go_quiet (fail); try go_wp2)
      go_roundg k1
      case measure => exact Q1_ HK1
      case rel => exact ⟨(wrap64 (x5_1 + 1)), E_, H', ⟨Q1_ HK1⟩, by repeat (first | exact Drawn0.refl _ | apply Drawn0.step)⟩
     ·rw [if_neg c7] at H
      have c7b0 : ((rd l0 x5_1) == (rd l1 x5_1)) = false := beq_eq_false_iff_ne.mpr c7
      have c7b1 : ((rd l0 x5_1) != (rd l1 x5_1)) = true := bne_iff_ne.mpr c7
      obtain rfl := Option.some.inj H
      have p101 : 0 ≤ (x5_1 : Int) := D_
      have q101 : x5_1 < (l0.length : Int) := D_
      obtain ⟨ad101, e101, hx101_0⟩ := Kd.at_int HR0.out x5_1 p101 q101
      cases e101
      replace p101 := eq_true p101
      replace q101 := eq_true q101
      have p102 : 0 ≤ (x5_1 : Int) := D_
      have q102 : x5_1 < (l1.length : Int) := D_
      obtain ⟨ad102, e102, hx102_0⟩ := Kd.at_int HR1.out x5_1 p102 q102
      cases e102
      replace p102 := eq_true p102
      replace q102 := eq_true q102
      go_wp2
      repeat (go_quiet (fail); try go_wp2)
      go_ret
      exact ⟨by first | rfl | (simp; done) | (simp [*]; done), by repeat (first | exact Drawn0.refl _ | apply Drawn0.step)⟩
    ·rw [if_neg c4] at H
     have c4b0 : decide (x5_1 < (l0.length : Int)) = false := decide_eq_false c4
     clear c4
     obtain rfl := Option.some.inj H
     go_wp2
     repeat (go_quiet (fail); try go_wp2)
     go_ret
     exact ⟨by first | rfl | (simp; done) | (simp [*]; done), by repeat (first | exact Drawn0.refl _ | apply Drawn0.step)⟩
 ·rw [if_neg c3] at H
  have c3b0 : ((l0.length : Int) == (l1.length : Int)) = false := beq_eq_false_iff_ne.mpr c3
  have c3b1 : ((l0.length : Int) != (l1.length : Int)) = true := bne_iff_ne.mpr c3
  have c3b2 : (l0.length == l1.length) = false := by first | simpa using c3 | (simp at c3 ⊢; omega)
  obtain rfl := Option.some.inj H
  go_enter Try.func66, Try.ntmps66
  go_wp2
  repeat (go_quiet (fail); try go_wp2)
  go_ret
  exact ⟨by first | rfl | (simp; done) | (simp [*]; done), by repeat (first | exact Drawn0.refl _ | apply Drawn0.step)⟩
end Go.Proofs.Ytidfblakgolbpaa.B
/- Lists of numbers are compared (for this claim, by hand). -/
set_option linter.unusedVariables false
set_option linter.unusedSimpArgs false
namespace Go.Proofs.Ytidfblakgolbpaa.B
open Go.RowKit Go.Proofs.YtidfblakgolbpaaW.PrintWords
/-! equal rows -/
theorem slicesEqual_ev (l m : List Int) (hl : l.length < 9223372036854775807) : Ev (fun k => z41.f k l m) (l == m) := by
  unfold z41.f
  by_cases h : l.length = m.length
  · refine ev_pos (by omega) ?_
    rw [← list_eq_range l m 0 h]
    refine ev_all (fun (i : Nat) k => z41.l0 k l m (l.length : Int) (i : Int)) _ l.length (fun j hj hp r hr => ?_) (fun j hj hp => ?_) ?_
    · refine Ev.step (fun k => z41.l0.eq_2 ..) ?_
      refine ev_pos (by omega) (ev_pos (by omega) (ev_pos (by omega) (ev_pos (by omega) (ev_pos ?_ ?_))))
      · rw [rd_nat, rd_nat]; exact eq_of_beq hp
      · rw [wrap_succ (by omega)]; exact hr
    · refine Ev.step (fun k => z41.l0.eq_2 ..) ?_
      refine ev_pos (by omega) (ev_pos (by omega) (ev_pos (by omega) (ev_pos (by omega) (ev_neg ?_ (Ev.now _)))))
      rw [rd_nat, rd_nat]; exact ne_of_beq_false hp
    · refine Ev.step (fun k => z41.l0.eq_2 ..) ?_
      exact ev_neg (by omega) (Ev.now _)
  · rw [len_ne_beq h]
    exact ev_neg (by omega) (Ev.now _)
theorem same_ev (l m : List Int) (hl : l.length < 9223372036854775807) : Ev (fun k => z66.f k l m) (l == m) := by
  unfold z66.f
  by_cases h : l.length = m.length
  · refine ev_pos (by omega) ?_
    rw [← list_eq_range l m 0 h]
    refine ev_all (fun (i : Nat) k => z66.l0 k l m (i : Int)) _ l.length (fun j hj hp r hr => ?_) (fun j hj hp => ?_) ?_
    · refine Ev.step (fun k => z66.l0.eq_2 ..) ?_
      refine ev_pos (by omega) (ev_pos (by omega) (ev_pos (by omega) (ev_pos ?_ ?_)))
      · rw [rd_nat, rd_nat]; exact eq_of_beq hp
      · rw [wrap_succ (by omega)]; exact hr
    · refine Ev.step (fun k => z66.l0.eq_2 ..) ?_
      refine ev_pos (by omega) (ev_pos (by omega) (ev_pos (by omega) (ev_neg ?_ (Ev.now _))))
      rw [rd_nat, rd_nat]; exact ne_of_beq_false hp
    · refine Ev.step (fun k => z66.l0.eq_2 ..) ?_
      exact ev_neg (by omega) (Ev.now _)
  · rw [len_ne_beq h]
    exact ev_neg (by omega) (Ev.now _)
end Go.Proofs.Ytidfblakgolbpaa.B
/- The library's contracts laid at this program (a tool of the kit has written it). -/
namespace Go.Proofs.Ytidfblakgolbpaa.B
open Go.Shelf
def sortL_ren : Go.Shelf.Ren := ⟨fun | 6 => 38 | 15 => 60 | 14 => 59 | 28 => 81 | 29 => 82 | 20 => 73 | 21 => 74 | 22 => 75 | 23 => 76 | 24 => 77 | 25 => 78 | 26 => 79 | 27 => 80 | 46 => 85 | 47 => 86 | 48 => 87 | 49 => 88 | 50 => 89 | 57 => 91 | n => n, fun | 22 => 24 | 24 => 29 | 25 => 60 | 3 => 3 | 39 => 78 | 0 => 0 | 53 => 91 | 55 => 46 | 4 => 4 | 46 => 85 | 45 => 84 | 50 => 72 | 5 => 5 | 9 => 9 | 66 => 96 | 70 => 100 | 76 => 102 | 77 => 103 | n => n, fun | n => n⟩
theorem sortL : Go.Proofs.SlLaysF.n6 Try.prog sortL_ren := {
  mixed := by kernel_rfl
  f6 := ⟨Try.f38.name, by decide, Try.func38.trans (congrArg some (by kernel_rfl))⟩
  f14 := ⟨Try.f59.name, by decide, Try.func59.trans (congrArg some (by kernel_rfl))⟩
  f15 := Try.func60.trans (congrArg some (by kernel_rfl))
  f20 := ⟨Try.f73.name, by decide, Try.func73.trans (congrArg some (by kernel_rfl))⟩
  f21 := ⟨Try.f74.name, by decide, Try.func74.trans (congrArg some (by kernel_rfl))⟩
  f22 := ⟨Try.f75.name, by decide, Try.func75.trans (congrArg some (by kernel_rfl))⟩
  f23 := ⟨Try.f76.name, by decide, Try.func76.trans (congrArg some (by kernel_rfl))⟩
  f24 := ⟨Try.f77.name, by decide, Try.func77.trans (congrArg some (by kernel_rfl))⟩
  f25 := ⟨Try.f78.name, by decide, Try.func78.trans (congrArg some (by kernel_rfl))⟩
  f26 := ⟨Try.f79.name, by decide, Try.func79.trans (congrArg some (by kernel_rfl))⟩
  f27 := ⟨Try.f80.name, by decide, Try.func80.trans (congrArg some (by kernel_rfl))⟩
  f28 := Try.func81.trans (congrArg some (by kernel_rfl))
  f29 := Try.func82.trans (congrArg some (by kernel_rfl))
  f46 := ⟨Try.f85.name, by decide, Try.func85.trans (congrArg some (by kernel_rfl))⟩
  f47 := Try.func86.trans (congrArg some (by kernel_rfl))
  f48 := Try.func87.trans (congrArg some (by kernel_rfl))
  f49 := ⟨Try.f88.name, by decide, Try.func88.trans (congrArg some (by kernel_rfl))⟩
  f50 := ⟨Try.f89.name, by decide, Try.func89.trans (congrArg some (by kernel_rfl))⟩
  f57 := ⟨Try.f91.name, by decide, Try.func91.trans (congrArg some (by kernel_rfl))⟩
  t0 := Try.underlying0
  a0 := Try.isAgg0
  z0 := Try.sizeOf0
  v0 := Try.zeroValue0
  t3 := Try.underlying3
  a3 := Try.isAgg3
  z3 := Try.sizeOf3
  v3 := Try.zeroValue3
  t4 := Try.underlying4
  a4 := Try.isAgg4
  z4 := Try.sizeOf4
  v4 := Try.zeroValue4
  t5 := Try.underlying5
  a5 := Try.isAgg5
  z5 := Try.sizeOf5
  v5 := Try.zeroValue5
  t9 := Try.underlying9
  a9 := Try.isAgg9
  z9 := Try.sizeOf9
  v9 := Try.zeroValue9
  t22 := Try.underlying24
  a22 := Try.isAgg24
  z22 := Try.sizeOf24
  v22 := Try.zeroValue24
  a24 := Try.isAgg29
  z24 := Try.sizeOf29
  t25 := Try.underlying60
  a25 := Try.isAgg60
  z25 := Try.sizeOf60
  v25 := Try.zeroValue60
  t39 := Try.underlying78
  a39 := Try.isAgg78
  z39 := Try.sizeOf78
  v39 := Try.zeroValue78
  t45 := Try.underlying84
  a45 := Try.isAgg84
  z45 := Try.sizeOf84
  v45 := Try.zeroValue84
  t46 := Try.underlying85
  a46 := Try.isAgg85
  z46 := Try.sizeOf85
  v46 := Try.zeroValue85
  t50 := Try.underlying72
  a50 := Try.isAgg72
  z50 := Try.sizeOf72
  v50 := Try.zeroValue72
  t53 := Try.underlying91
  a53 := Try.isAgg91
  z53 := Try.sizeOf91
  v53 := Try.zeroValue91
  t55 := Try.underlying46
  a55 := Try.isAgg46
  z55 := Try.sizeOf46
  v55 := Try.zeroValue46
  t66 := Try.underlying96
  a66 := Try.isAgg96
  z66 := Try.sizeOf96
  v66 := Try.zeroValue96
  t70 := Try.underlying100
  a70 := Try.isAgg100
  z70 := Try.sizeOf100
  v70 := Try.zeroValue100
  t76 := Try.underlying102
  a76 := Try.isAgg102
  z76 := Try.sizeOf102
  v76 := Try.zeroValue102
  t77 := Try.underlying103
  a77 := Try.isAgg103
  z77 := Try.sizeOf103
  v77 := Try.zeroValue103 }
end Go.Proofs.Ytidfblakgolbpaa.B
/- More loops: those that gather (for this claim, by hand). -/
set_option linter.unusedVariables false
set_option linter.unusedSimpArgs false
namespace Go.Proofs.Ytidfblakgolbpaa.B
open Go.RowKit Go.Proofs.YtidfblakgolbpaaW.PrintWords
/-- The numbers below n with p. -/
def filt (p : Nat → Bool) (n : Nat) : List Int := ((List.range n).filter p).map fun i : Nat => (i : Int)
theorem filt_succ (p : Nat → Bool) (n : Nat) : filt p (n + 1) = filt p n ++ if p n then [(n : Int)] else [] := by
  unfold filt
  rw [List.range_succ, List.filter_append, List.map_append]
  congr 1
  cases h : p n <;> simp [List.filter_cons, h]
theorem filt_le (p : Nat → Bool) : ∀ n, (filt p n).length ≤ n
  | 0 => Nat.le_refl _
  | n + 1 => by
    have := filt_le p n
    rw [filt_succ, List.length_append]
    split <;> simp <;> omega
theorem filt_congr {p q : Nat → Bool} : ∀ n, (∀ i, i < n → p i = q i) → filt p n = filt q n
  | 0, _ => rfl
  | n + 1, h => by rw [filt_succ, filt_succ, filt_congr n (fun i hi => h i (by omega)), h n (by omega)]
theorem mem_filt {p : Nat → Bool} {n : Nat} {x : Int} : x ∈ filt p n ↔ ∃ i, i < n ∧ p i = true ∧ x = (i : Int) := by
  unfold filt
  rw [List.mem_map]
  constructor
  · rintro ⟨i, hi, rfl⟩
    obtain ⟨h1, h2⟩ := List.mem_filter.1 hi
    exact ⟨i, List.mem_range.1 h1, h2, rfl⟩
  · rintro ⟨i, hi, hp, rfl⟩
    exact ⟨i, List.mem_filter.2 ⟨List.mem_range.2 hi, hp⟩, rfl⟩
theorem ev_filt {β : Type} (L : List Int → Nat → Nat → Option β) (p : Nat → Bool) : ∀ (n : Nat), (∀ j s, j < n → s.length ≤ j → p j = true → Le (L (s ++ [(j : Int)]) (j + 1)) (L s j)) → (∀ j s, j < n → s.length ≤ j → p j = false → Le (L s (j + 1)) (L s j)) → Le (L (filt p n) n) (L [] 0)
  | 0, _, _ => Le.refl _
  | n + 1, h1, h0 => by
    have ih := ev_filt L p n (fun j s hj => h1 j s (by omega)) (fun j s hj => h0 j s (by omega))
    refine Le.trans ?_ ih
    rw [filt_succ]
    cases hp : p n with
    | true => exact h1 n _ (by omega) (filt_le p n) hp
    | false => simpa using h0 n _ (by omega) (filt_le p n) hp
theorem ev_map {α β : Type} (L : List α → Nat → Nat → Option β) (g : Nat → α) : ∀ (n : Nat), (∀ j s, j < n → s = (List.range j).map g → Le (L (s ++ [g j]) (j + 1)) (L s j)) → Le (L ((List.range n).map g) n) (L [] 0)
  | 0, _ => Le.refl _
  | n + 1, h => by
    have ih := ev_map L g n (fun j s hj => h j s (by omega))
    refine Le.trans ?_ ih
    rw [List.range_succ, List.map_append]
    exact h n _ (by omega) rfl
/-- A loop that ends with false where p fails, p being asked where it held before. -/
theorem ev_all_then (L : Nat → Nat → Option Bool) (p : Nat → Bool) (b : Bool) : ∀ (n : Nat), (∀ j, j < n → (∀ m, m < j → p m = true) → p j = true → Le (L (j + 1)) (L j)) → (∀ j, j < n → (∀ m, m < j → p m = true) → p j = false → Ev (L j) false) → ((∀ m, m < n → p m = true) → Ev (L n) b) → Ev (L 0) ((List.range n).all p && b) := by
  intro n h1 h0 he
  have main : ∀ (d i : Nat), i + d = n → (∀ m, m < i → p m = true) → Ev (L i) ((List.range n).all p && b) := by
    intro d
    induction d with
    | zero =>
      intro i hi hall
      have : i = n := by omega
      subst this
      have e : (List.range i).all p = true := List.all_eq_true.2 (fun j hj => hall j (List.mem_range.1 hj))
      rw [e, Bool.true_and]; exact he hall
    | succ d ih =>
      intro i hi hall
      cases hp : p i with
      | true =>
        refine h1 i (by omega) hall hp _ (ih (i + 1) (by omega) (fun m hm => ?_))
        rcases Nat.lt_or_ge m i with hl | hg
        · exact hall m hl
        · have : m = i := by omega
          subst this; exact hp
      | false =>
        have e : (List.range n).all p = false := by
          rw [Bool.eq_false_iff]
          intro h
          have := List.all_eq_true.1 h i (List.mem_range.2 (by omega))
          rw [hp] at this; cases this
        rw [e, Bool.false_and]
        exact h0 i (by omega) hall hp
  exact main n 0 (by omega) (fun m hm => by omega)
theorem map_range {α β : Type} (z : α) (g : α → β) (l : List α) : l.map g = (List.range l.length).map fun j => g (l.getD j z) := by
  apply List.ext_getElem
  · simp
  · intro n h1 h2
    simp only [List.getElem_map, List.getElem_range, List.getD_eq_getElem?_getD]
    have : n < l.length := by simpa using h1
    simp [List.getElem?_eq_getElem this]
end Go.Proofs.Ytidfblakgolbpaa.B
/- slices.Clone of whole numbers: walked by hand. -/
set_option linter.unusedVariables false
set_option linter.unusedSimpArgs false
namespace Go.Proofs.Ytidfblakgolbpaa.B
open Go.RowKit Go.Proofs.YtidfblakgolbpaaW.PrintWords Go.Proofs.YtidfblakgolbpaaW.PrintLast Go.Proofs.YtidfblakgolbpaaW.PrintMore
def slices_Clone_int64_int64.f (l0 : List Int) : Option (List Int) := if l0.length < 17592186044416 then some l0 else none
set_option maxHeartbeats 2000000 in
theorem slices_Clone_int64_int64.calls (A0 : Option Addr) (c0 : Nat) (l0 : List Int) (r : List Int) (w : World) (hr0 : Kd.C (Kd.int .i64) w A0 l0.length l0) (hc0 : l0.length ≤ c0) (h : slices_Clone_int64_int64.f l0 = some r) :
    Calls Try.prog 34 #[.slice A0 l0.length c0] w fun e w' => ∃ v0_ : Value, e = .returned (v0_) ∧ Kd.R (Kd.int .i64) 2 w' w.heap.size (fun _ => True) v0_ r ∧ Below w.heap.size w w' := by
  unfold slices_Clone_int64_int64.f at h
  have hl := O1_ h
  obtain rfl := Option.some.inj (O2_ h)
  clear h
  have LM := Aside0.mk hl
  have HR0 := Aside0.mk hr0
  have q22 : ∀ (w : World) (a : Option Addr) (n c n' c' : Nat), (binOp .eql 29 (.slice a n c) (.slice none n' c')).run Try.prog w = .ok (.bool a.isNone) w := fun w a n c n' c' => Lib.run_eql_slice_nil w _ _ a n c n' c' Try.underlying29
  cases A0 with
  | none =>
    have h0 : l0 = [] := by
      rcases Nat.eq_zero_or_pos l0.length with h | h
      · exact List.eq_nil_of_length_eq_zero h
      · obtain ⟨ad, he, _⟩ := hr0.2.2 h
        cases he
    subst h0
    clear hr0 HR0
    go_enter Try.func34, Try.ntmps34
    go_wp2
    go_ret
    exact ⟨_, rfl, Kd.R_nil _ _ _ _ _, Below.refl _ _⟩
  | some ad =>
    have HB := Aside0.mk (Below.refl w.heap.size w)
    clear hr0
    obtain ⟨y101, hy101⟩ : ∃ y_ : List Int, y_ = ([] : List Int) := ⟨_, rfl⟩
    have Ny101 := Aside0.mk hy101
    have hy2 := hy101
    clear hy101
    go_enter Try.func34, Try.ntmps34
    go_wp2_with (first | ((with_reducible refine gate_dst (N := 5) rfl ?_); refine Kd.R_lit (Kd.int .i64) _ 2 ?hg (N := 5) ?hd (xs := ([] : List Int)) (inner := []) (ok := fun _ => True) (okp := fun _ => True) ?hr ?hp (fun _ hk => hk) trivial (Below.refl _ _) (Nat.le_refl _) (by simp) ?_; (case hd => rfl); (case hg => rfl); (case hr => first | (go_simp; done) | (go_simp; rfl)); (case hp => exact (Reps.none _ _)); intro v102 w3 ho4 hb hg_ hnew_; clear hg_ hnew_; rw [← Ny101.out] at ho4; have HO103 := Aside0.mk (Kd.R_lower ho4 (below_size (B_ HB.out))); replace HB := Aside0.mk (below_step (B_ HB.out) hb); clear hb ho4) | ((with_reducible refine gate_builtin (b := .append) (xs := #[.tmp 5, .tmp 6]) rfl ?_); at_builtin; refine Kd.R_append_rows (Kd.int .i64) (w0 := w) w.heap.size rfl (.tmp 5) (.tmp 6) 29 2 (.int .i64 0) 8 rfl Try.underlying29 info2 rfl (by decide) (by omega) v102 y101 l0 _ _ _ (fun _ => True) (fun _ => False) rfl rfl ?aO ?aR (fun _ _ h => h) (fun _ h => h.elim) ?aF ?aB ?aS ?aL ?_; (case aR => exact KC_ (Kd.C_below HR0.out HB.out)); (case aB => exact (B_ HB.out)); (case aF => exact (fun _ _ => trivial)); (case aO => exact (KR_ HO103.out)); (case aS => exact (below_size (B_ HB.out))); (case aL => rw [Ny101.out]; have := LM.out; simp only [List.length_nil]; omega); intro v105 w5 ho hb hg hat; replace HB := Aside0.mk (hb); have HO106 := Aside0.mk (ho); clear HO103; clear ho hb hg hat))
    go_ret
    subst hy2
    exact ⟨_, rfl, KR_ HO106.out, B_ HB.out⟩
end Go.Proofs.Ytidfblakgolbpaa.B
namespace Go.Proofs.Ytidfblakgolbpaa.B
open Go.RowKit Go.Proofs.YtidfblakgolbpaaW.PrintWords Go.Proofs.YtidfblakgolbpaaW.PrintLast Go.Proofs.YtidfblakgolbpaaW.PrintMore
attribute [local go_sem] max2_int min2_int max_two min_two max_three min_three max_four min_four
set_option linter.unusedVariables false
set_option linter.unusedSimpArgs false
def z37.l0 : Nat → List (List Int) → List (List Int) → Int → Int → Option ((List (List Int)))
 | 0, _, _, _, _ => none
 | k + 1, x3, x6, x7, x8 => if x8 < x7 then (if 0 ≤ x8 then (if x8 < (x6.length : Int) then ((slices_Clone_int64_int64.f (rd_ListInt x6 x8)).bind fun t102 => (if x3.length < 5864062014805 then (z37.l0 k (x3 ++ [t102]) x6 x7 (wrap64 (x8 + 1))) else (none))) else (none)) else (none)) else (some x3)
def z37.f (k : Nat) (l0 : List (List Int)) : Option ((List (List Int))) := z37.l0 k ([] : List (List Int)) l0 (l0.length : Int) 0
set_option maxHeartbeats 8000000 in
set_option maxRecDepth 100000 in
theorem z37.calls (k : Nat) (A0 : Option Addr) (c0 : Nat) (l0 : List (List Int)) (r : List (List Int)) (w : World) (hr0 : Kd.C (Kd.slice 2 (Kd.int .i64)) w A0 l0.length l0) (hc0 : l0.length ≤ c0) (h : z37.f k l0 = some r) :
  Calls Try.prog 37 #[.slice A0 l0.length c0] w fun e w' => ∃ v0_ : Value, e = .returned (v0_) ∧ Kd.S (Kd.slice 2 (Kd.int .i64)) 29 w' w.heap.size (fun _ => True) v0_ r ∧ Below w.heap.size w w' := by
 have HR0 := Aside0.mk hr0
 have HC0 := Aside0.mk hc0
 clear hr0 hc0
 have HB := Aside0.mk (Below.refl w.heap.size w)
 have H : (z37.l0 k ([] : List (List Int)) l0 (l0.length : Int) 0) = some r := h
 clear h
 have H' := Aside0.mk H
 clear H
 go_enter Try.func37, Try.ntmps37
 go_wp2
 go_loopg [3, 8] k (fun kq v3 v8 w' => ∃ (x3_1 : List (List Int)) (x8_1 : Int), v8 = .int .i64 x8_1 ∧ Aside0 (z37.l0 kq x3_1 l0 (l0.length : Int) x8_1 = some r) ∧ Aside0 (kq ≤ k) ∧ Aside0 (Kd.S (Kd.slice 2 (Kd.int .i64)) 29 w' w.heap.size (fun _ => True) v3 x3_1) ∧ Aside0 (Below w.heap.size w w'))
 case atStart => exact ⟨(([] : List (List Int))), (0), E_, H', ⟨Nat.le_refl _⟩, ⟨by first | exact Kd.S_nil _ _ _ _ _ | exact Kd.N_nil _ _ _ _ _ | exact Kd.V_nil _ _ _ _ _ | exact Kd.Q_nil _ _ _ _ _ | exact Kd.R_nil _ _ _ _ _⟩, ⟨B_ HB.out⟩⟩
 case round =>
  clear H'
  obtain ⟨x3_1, x8_1, rfl, HA, HK1, HO_3, HB⟩ := hrel
  cases gk with
  | zero => exact absurd HA.out (by simp [z37.l0])
  | succ k1 =>
   have H := HA.out
   clear HA
   simp only [z37.l0] at H
   by_cases c2 : x8_1 < (l0.length : Int)
   ·rw [if_pos c2] at H
    have c2b0 : decide (x8_1 < (l0.length : Int)) = true := decide_eq_true c2
    clear c2
    have c3 := O1_ H
    replace H := O2_ H
    have c3b0 := decide_eq_true c3
    clear c3
    have c4 := O1_ H
    replace H := O2_ H
    have c4b0 := decide_eq_true c4
    clear c4
    replace H := Option.bind_eq_some_iff.mp H
    obtain ⟨t102, A50, H⟩ := H
    have A5 := Aside0.mk A50
    clear A50
    have c6 := O1_ H
    replace H := O2_ H
    have LMc6 := Aside0.mk c6
    clear c6
    obtain ⟨y105, hy105⟩ : ∃ y_ : List (List Int), y_ = (x3_1 ++ [t102]) := ⟨_, rfl⟩
    replace H : (z37.l0 k1 y105 l0 (l0.length : Int) (wrap64 (x8_1 + 1))) = some r := Y_ hy105 H
    have Ny105 := Aside0.mk hy105
    clear hy105
    have H' := Aside0.mk H
    clear H
    have p101 : 0 ≤ (x8_1 : Int) := D_
    have q101 : x8_1 < (l0.length : Int) := D_
    obtain ⟨ad101, A101_0, c101_0, e101, hx101_0, hl101_0, hi101_0⟩ := at_ListInt HR0.out x8_1 p101 q101
    cases e101
    replace hx101_0 := (HB.out.cell (World.block_lt_of_cell? w _ hx101_0)).trans hx101_0
    have HR101_0 := Aside0.mk hi101_0
    have HC101_0 := Aside0.mk hl101_0
    clear hi101_0 hl101_0
    replace p101 := eq_true p101
    replace q101 := eq_true q101
    go_wp2_with (first | ((with_reducible refine gate_callee (f := 34) rfl ?_); refine goesL_ (some 14) rfl rfl Try.func34 (by kernel_rfl) rfl #[.slice A101_0 (rd_ListInt l0 x8_1).length c101_0] rfl (by (try simp only [List.map_toArray, List.map_cons, List.map_nil]); first | done | rfl | (simp only [List.length_drop, List.length_take]; rfl)) ?_; (with_reducible refine (slices_Clone_int64_int64.calls _ _ (rd_ListInt l0 x8_1) t102 _ ?side1 ?side2 A5.out).mono ?_); (case side1 => exact KC_ (Kd.C_below HR101_0.out HB.out)); (case side2 => exact HC101_0.out); rintro e w7 ⟨v103, rfl, ho0, hb⟩; refine ⟨_, rfl, ?_⟩; replace HO_3 := Aside0.mk (Kd.S_elder' (KS_ HO_3.out) (Kd.R_base ho0) hb); have HO104 := Aside0.mk (Kd.R_lower ho0 (below_size (B_ HB.out))); replace HB := Aside0.mk (below_step (B_ HB.out) hb); (try clear hb); (try clear hb2); (try clear hk); (try clear hi); (try clear ho0); obtain ⟨Ao9, co9, eo9⟩ := Kd.R_slice HO104.out; subst eo9) | ((with_reducible refine gate_builtin (b := .append) (xs := #[.tmp 12, .tmp 15]) rfl ?_); at_builtin; refine Kd.S_append (Kd.slice 2 (Kd.int .i64)) (w0 := w) w.heap.size rfl (.tmp 12) (.tmp 15) 24 29 (.slice none 0 0) 24 rfl Try.underlying24 info29 rfl (by decide) (by omega) u3 x3_1 t102 [.slice Ao9 t102.length co9] (fun _ => True) (fun k_ => some k_ = (.slice Ao9 t102.length co9 : Value).ownBlock) rfl rfl ?aP (fun k_ hk_ => ((Kd.R_mono (ok' := fun k_ => ((fun _ => True)) k_ ∧ some k_ ≠ (u3 : Value).ownBlock) (Kd.R_apart' (HO104.out) (Kd.S_typed HO_3.out) (by decide)) (fun k_ hk => ⟨trivial, hk.2⟩))).1 k_ hk_.symm) ?aF ?aO ?aB ?aS ?aL ?_; (case aP => exact Kd.M_row (Kd.R_mono (Kd.R_tight rfl (Kd.R_mono (ok' := fun k_ => ((fun _ => True)) k_ ∧ some k_ ≠ (u3 : Value).ownBlock) (Kd.R_apart' (HO104.out) (Kd.S_typed HO_3.out) (by decide)) (fun k_ hk => ⟨trivial, hk.2⟩))) (fun _ h_ => h_))); (case aB => exact (B_ HB.out)); (case aF => exact (fun _ _ => trivial)); (case aO => exact (by (with_reducible repeat (first | apply Kd.S_alloc | apply Kd.S_drewN | apply Kd.S_drew)); exact Kd.S_mono HO_3.out (fun k_ hk => ⟨trivial, fun e_ => hk.2 e_⟩))); (case aS => exact (below_size (B_ HB.out))); (case aL => have := LMc6.out; omega); intro v106 w8 ho hb hg hat; rw [← Ny105.out] at ho; replace HB := Aside0.mk (hb); have HO107 := Aside0.mk (ho); clear HO_3; clear HO104; clear ho hb hg hat))
    go_roundg k1
    case measure => exact Q1_ HK1
    case rel => exact ⟨(y105), (wrap64 (x8_1 + 1)), E_, H', ⟨Q1_ HK1⟩, ⟨KS_ HO107.out⟩, ⟨B_ HB.out⟩⟩
   ·rw [if_neg c2] at H
    have c2b0 : decide (x8_1 < (l0.length : Int)) = false := decide_eq_false c2
    clear c2
    obtain rfl := Option.some.inj H
    go_wp2
    go_ret
    exact ⟨_, F_, KS_ HO_3.out, B_ HB.out⟩
end Go.Proofs.Ytidfblakgolbpaa.B
/- impl.copyLists (for this claim, by hand). -/
set_option linter.unusedVariables false
set_option linter.unusedSimpArgs false
namespace Go.Proofs.Ytidfblakgolbpaa.B
open Go.RowKit Go.Proofs.YtidfblakgolbpaaW.PrintWords
theorem cloneC_val (l : List Int) (hl : l.length ≤ 1048576) : slices_Clone_int64_int64.f l = some l := by
  unfold slices_Clone_int64_int64.f
  simp
  omega
theorem copyListsC_ev (l : List (List Int)) (hl : l.length ≤ 1048576) (hr : ∀ x ∈ l, x.length ≤ 1048576) : Ev (fun k => z37.f k l) l := by
  unfold z37.f
  have e : l = (List.range l.length).map fun j => id (l.getD j []) := by
    have := map_range ([] : List Int) id l
    rwa [List.map_id] at this
  refine ev_eq ?_ e.symm
  refine ev_map (fun s i k => z37.l0 k s l (l.length : Int) (i : Int)) (fun j => id (l.getD j [])) l.length (fun j s hj hs r hr' => ?_) _ ?_
  · have hsl : s.length = j := by rw [hs]; simp
    have := hr _ (getD_mem ([] : List Int) hj)
    refine Ev.step (fun k => z37.l0.eq_2 ..) ?_
    rw [rdl_nat]
    refine ev_pos (by omega) (ev_pos (by omega) (ev_pos (by omega) (Ev.bind (ev_const (cloneC_val _ this)) (ev_pos (by omega) ?_))))
    rw [wrap_succ (by omega)]; exact hr'
  · refine Ev.step (fun k => z37.l0.eq_2 ..) ?_
    exact ev_neg (by omega) (Ev.now _)
end Go.Proofs.Ytidfblakgolbpaa.B
/- The order of simplices, faces, closed sets of them: plain lists (for this claim, by hand). -/
set_option linter.unusedVariables false
set_option linter.unusedSimpArgs false
namespace Go.Proofs.Ytidfblakgolbpaa.B.SimT
/-! The order of simplices -/
def lexlt : List Int → List Int → Bool
  | [], [] => false
  | [], _ :: _ => true
  | _ :: _, [] => false
  | a :: l, b :: m => if a < b then true else if b < a then false else lexlt l m
theorem lexlt_irrefl : ∀ l, lexlt l l = false
  | [] => rfl
  | a :: l => by simp [lexlt, lexlt_irrefl l]
theorem lexlt_trans : ∀ {a b c : List Int}, lexlt a b = true → lexlt b c = true → lexlt a c = true
  | [], [], _, h, _ => by cases h
  | [], _ :: _, [], _, h => by cases h
  | [], _ :: _, _ :: _, _, _ => rfl
  | _ :: _, [], _, h, _ => by cases h
  | _ :: _, _ :: _, [], _, h => by cases h
  | a :: l, b :: m, c :: o, h, h' => by
    simp only [lexlt] at h h' ⊢
    by_cases h1 : a < b
    · by_cases h2 : b < c
      · rw [if_pos (by omega)]
      · rw [if_neg h2] at h'
        by_cases h3 : c < b
        · rw [if_pos h3] at h'; cases h'
        · rw [if_pos (by omega)]
    · rw [if_neg h1] at h
      by_cases h2 : b < a
      · rw [if_pos h2] at h; cases h
      · rw [if_neg h2] at h
        have e : a = b := by omega
        subst e
        by_cases h3 : a < c
        · rw [if_pos h3]
        · rw [if_neg h3] at h' ⊢
          by_cases h4 : c < a
          · rw [if_pos h4] at h'; cases h'
          · rw [if_neg h4] at h' ⊢
            exact lexlt_trans h h'
theorem lexlt_tri : ∀ a b : List Int, lexlt a b = true ∨ a = b ∨ lexlt b a = true
  | [], [] => .inr (.inl rfl)
  | [], _ :: _ => .inl rfl
  | _ :: _, [] => .inr (.inr rfl)
  | a :: l, b :: m => by
    simp only [lexlt]
    rcases Int.lt_trichotomy a b with h | h | h
    · rw [if_pos h]; exact .inl rfl
    · subst h
      rw [if_neg (by omega), if_neg (by omega)]
      rcases lexlt_tri l m with h | h | h
      · exact .inl h
      · subst h; exact .inr (.inl rfl)
      · rw [if_neg (by omega), if_neg (by omega)]; exact .inr (.inr h)
    · rw [if_neg (by omega : ¬ a < b), if_pos h]
      rw [if_pos h]; exact .inr (.inr rfl)
def slt (a b : List Int) : Bool := decide (a.length < b.length) || (decide (a.length = b.length) && lexlt a b)
theorem slt_iff (a b : List Int) : slt a b = true ↔ a.length < b.length ∨ (a.length = b.length ∧ lexlt a b = true) := by simp [slt]
theorem slt_irrefl (a : List Int) : slt a a = false := by simp [slt, lexlt_irrefl]
theorem slt_trans {a b c : List Int} (h : slt a b = true) (h' : slt b c = true) : slt a c = true := by
  rw [slt_iff] at *
  rcases h with h | ⟨h1, h2⟩ <;> rcases h' with h' | ⟨h1', h2'⟩
  · exact .inl (by omega)
  · exact .inl (by omega)
  · exact .inl (by omega)
  · exact .inr ⟨by omega, lexlt_trans h2 h2'⟩
theorem slt_tri (a b : List Int) : slt a b = true ∨ a = b ∨ slt b a = true := by
  rw [slt_iff, slt_iff]
  rcases Nat.lt_trichotomy a.length b.length with h | h | h
  · exact .inl (.inl h)
  · rcases lexlt_tri a b with h1 | h1 | h1
    · exact .inl (.inr ⟨h, h1⟩)
    · exact .inr (.inl h1)
    · exact .inr (.inr (.inr ⟨h.symm, h1⟩))
  · exact .inr (.inr (.inl h))
theorem slt_asymm {a b : List Int} (h : slt a b = true) : slt b a = false := by
  cases h' : slt b a with
  | false => rfl
  | true => have := slt_trans h h'; rw [slt_irrefl] at this; cases this
theorem slt_ne {a b : List Int} (h : slt a b = true) : a ≠ b := fun e => by subst e; rw [slt_irrefl] at h; cases h
/-! Lists in order -/
def Srt (l : List (List Int)) : Prop := l.Pairwise fun a b => slt a b = true
theorem srt_ext : ∀ {l m : List (List Int)}, Srt l → Srt m → (∀ x, x ∈ l ↔ x ∈ m) → l = m
  | [], [], _, _, _ => rfl
  | [], b :: m, _, _, h => by have := (h b).2 List.mem_cons_self; cases this
  | a :: l, [], _, _, h => by have := (h a).1 List.mem_cons_self; cases this
  | a :: l, b :: m, hl, hm, h => by
    have hl' := List.pairwise_cons.1 hl
    have hm' := List.pairwise_cons.1 hm
    have e : a = b := by
      rcases List.mem_cons.1 ((h a).1 List.mem_cons_self) with h1 | h1
      · exact h1
      · rcases List.mem_cons.1 ((h b).2 List.mem_cons_self) with h2 | h2
        · exact h2.symm
        · have h3 := hm'.1 a h1
          have h4 := hl'.1 b h2
          rw [slt_asymm h3] at h4; cases h4
    subst e
    congr 1
    refine srt_ext hl'.2 hm'.2 (fun x => ⟨fun hx => ?_, fun hx => ?_⟩)
    · rcases List.mem_cons.1 ((h x).1 (List.mem_cons_of_mem _ hx)) with h1 | h1
      · subst h1; have := hl'.1 _ hx; rw [slt_irrefl] at this; cases this
      · exact h1
    · rcases List.mem_cons.1 ((h x).2 (List.mem_cons_of_mem _ hx)) with h1 | h1
      · subst h1; have := hm'.1 _ hx; rw [slt_irrefl] at this; cases this
      · exact h1
theorem srt_get {l : List (List Int)} (h : Srt l) {i j : Nat} (hij : i < j) (hj : j < l.length) : slt (l.getD i []) (l.getD j []) = true := by
  have := List.pairwise_iff_getElem.1 h i j (by omega) hj hij
  simpa [List.getD_eq_getElem?_getD, List.getElem?_eq_getElem hj, List.getElem?_eq_getElem (show i < l.length by omega)] using this
theorem srt_of_get {l : List (List Int)} (h : ∀ i, i + 1 < l.length → slt (l.getD i []) (l.getD (i + 1) []) = true) : Srt l := by
  have main : ∀ d i, i + d + 1 < l.length → slt (l.getD i []) (l.getD (i + d + 1) []) = true := by
    intro d
    induction d with
    | zero => exact h
    | succ d ih =>
      intro i hi
      have h1 := ih i (by omega)
      have h2 := h (i + d + 1) (by omega)
      exact slt_trans h1 h2
  refine List.pairwise_iff_getElem.2 (fun i j hi hj hij => ?_)
  have := main (j - i - 1) i (by omega)
  rw [show i + (j - i - 1) + 1 = j by omega] at this
  simpa [List.getD_eq_getElem?_getD, List.getElem?_eq_getElem hj, List.getElem?_eq_getElem hi] using this
theorem srt_nodup {l : List (List Int)} (h : Srt l) : l.Nodup := h.imp fun h => slt_ne h
/-! Faces -/
/-- A list without the number at a place. -/
def drp (s : List Int) (k : Nat) : List Int := s.take k ++ s.drop (k + 1)
theorem drp_eq : ∀ (s : List Int) (k : Nat), drp s k = s.eraseIdx k
  | [], k => by cases k <;> rfl
  | a :: s, 0 => by simp [drp]
  | a :: s, k + 1 => by
    have := drp_eq s k
    simp only [drp] at this
    simp [drp, this]
theorem drp_length {s : List Int} {k : Nat} (h : k < s.length) : (drp s k).length = s.length - 1 := by
  rw [drp_eq, List.length_eraseIdx, if_pos h]
theorem drp_sub (s : List Int) (k : Nat) : (drp s k).Sublist s := by rw [drp_eq]; exact List.eraseIdx_sublist ..
theorem drp_slt {s : List Int} {k : Nat} (h : k < s.length) : slt (drp s k) s = true := by
  rw [slt_iff, drp_length h]; exact .inl (by omega)
def Inc (s : List Int) : Prop := s.Pairwise fun a b => a < b
theorem sub_drp : ∀ {t s : List Int}, t.Sublist s → t.length < s.length → ∃ k, k < s.length ∧ t.Sublist (drp s k)
  | _, _, .slnil, h => by simp at h
  | _, _, @List.Sublist.cons _ t s a h, hl => ⟨0, by simp, by simpa [drp] using h⟩
  | _, _, @List.Sublist.cons_cons _ t s a h, hl => by
    obtain ⟨k, hk, hs⟩ := sub_drp h (by simpa using hl)
    exact ⟨k + 1, by simpa using hk, by simpa [drp] using hs.cons_cons a⟩
/-- A complex has the faces of what it has. -/
def Closed (C : List (List Int)) : Prop := ∀ s, s ∈ C → 1 < s.length → ∀ k, k < s.length → drp s k ∈ C
theorem closed_sub {C : List (List Int)} (h : Closed C) : ∀ (d : Nat) {t s : List Int}, s ∈ C → t.Sublist s → t ≠ [] → s.length = t.length + d → t ∈ C
  | 0, t, s, hs, hts, _, hl => by have := hts.eq_of_length (by omega); subst this; exact hs
  | d + 1, t, s, hs, hts, hne, hl => by
    obtain ⟨k, hk, hk2⟩ := sub_drp hts (by omega)
    have htp : 0 < t.length := by cases t with | nil => exact absurd rfl hne | cons a t => simp
    exact closed_sub h d (h s hs (by omega) k hk) hk2 hne (by rw [drp_length hk]; omega)
theorem closed_mem {C : List (List Int)} (h : Closed C) {t s : List Int} (hs : s ∈ C) (hts : t.Sublist s) (hne : t ≠ []) : t ∈ C :=
  closed_sub h (s.length - t.length) hs hts hne (by have := hts.length_le; omega)
theorem inc_sub {t s : List Int} (h : t.Sublist s) (hs : Inc s) : Inc t := List.Pairwise.sublist h hs
/-- In rising lists having all the numbers is being a part. -/
theorem sub_of_mem : ∀ {t s : List Int}, Inc t → Inc s → (∀ x, x ∈ t → x ∈ s) → t.Sublist s
  | [], s, _, _, _ => List.nil_sublist s
  | a :: t, [], _, _, h => by have := h a List.mem_cons_self; cases this
  | a :: t, b :: s, ht, hs, h => by
    have ht' := List.pairwise_cons.1 ht
    have hs' := List.pairwise_cons.1 hs
    by_cases e : a = b
    · subst e
      refine List.Sublist.cons_cons a (sub_of_mem ht'.2 hs'.2 (fun x hx => ?_))
      rcases List.mem_cons.1 (h x (List.mem_cons_of_mem _ hx)) with h1 | h1
      · subst h1; have := ht'.1 _ hx; omega
      · exact h1
    · refine List.Sublist.cons b (sub_of_mem ht hs'.2 (fun x hx => ?_))
      rcases List.mem_cons.1 (h x hx) with h1 | h1
      · subst h1
        rcases List.mem_cons.1 hx with h2 | h2
        · exact absurd h2.symm e
        · rcases List.mem_cons.1 (h a List.mem_cons_self) with h3 | h3
          · exact absurd h3 e
          · have := ht'.1 _ h2; have := hs'.1 _ h3; omega
      · exact h1
theorem inc_ext {t s : List Int} (ht : Inc t) (hs : Inc s) (h : ∀ x, x ∈ t ↔ x ∈ s) : t = s := by
  have h1 := sub_of_mem ht hs (fun x => (h x).1)
  have h2 := sub_of_mem hs ht (fun x => (h x).2)
  exact h1.eq_of_length (Nat.le_antisymm h1.length_le h2.length_le)
/-! A simplex is put to its place -/
def ins (C : List (List Int)) (s : List Int) : List (List Int) := (C.takeWhile fun x => slt x s) ++ s :: (C.dropWhile fun x => slt x s)
theorem mem_ins {C : List (List Int)} {s x : List Int} : x ∈ ins C s ↔ x = s ∨ x ∈ C := by
  unfold ins
  have h : x ∈ C ↔ x ∈ (C.takeWhile fun x => slt x s) ∨ x ∈ (C.dropWhile fun x => slt x s) := by
    rw [← List.mem_append, List.takeWhile_append_dropWhile]
  rw [h, List.mem_append, List.mem_cons]
  constructor
  · rintro (h | h | h)
    · exact .inr (.inl h)
    · exact .inl h
    · exact .inr (.inr h)
  · rintro (h | h | h)
    · exact .inr (.inl h)
    · exact .inl h
    · exact .inr (.inr h)
theorem ins_srt : ∀ {C : List (List Int)} {s : List Int}, Srt C → s ∉ C → Srt (ins C s)
  | [], s, _, _ => List.pairwise_singleton _ _
  | a :: C, s, h, hn => by
    have h' := List.pairwise_cons.1 h
    have hne : s ≠ a := fun e => hn (by rw [e]; exact List.mem_cons_self)
    have hnC : s ∉ C := fun hm => hn (List.mem_cons_of_mem _ hm)
    unfold ins
    by_cases hlt : slt a s = true
    · have e1 : (a :: C).takeWhile (fun x => slt x s) = a :: C.takeWhile (fun x => slt x s) := by simp [List.takeWhile_cons, hlt]
      have e2 : (a :: C).dropWhile (fun x => slt x s) = C.dropWhile (fun x => slt x s) := by simp [List.dropWhile_cons, hlt]
      rw [e1, e2, List.cons_append]
      refine List.pairwise_cons.2 ⟨fun x hx => ?_, ins_srt h'.2 hnC⟩
      rcases (mem_ins (C := C)).1 hx with rfl | hx
      · exact hlt
      · exact h'.1 x hx
    · have hf : slt a s = false := by simpa using hlt
      have e1 : (a :: C).takeWhile (fun x => slt x s) = [] := by simp [List.takeWhile_cons, hf]
      have e2 : (a :: C).dropWhile (fun x => slt x s) = a :: C := by simp [List.dropWhile_cons, hf]
      rw [e1, e2, List.nil_append]
      have hsa : slt s a = true := by
        rcases slt_tri a s with h1 | h1 | h1
        · exact absurd h1 hlt
        · exact absurd h1.symm hne
        · exact h1
      refine List.pairwise_cons.2 ⟨fun x hx => ?_, h⟩
      rcases List.mem_cons.1 hx with rfl | hx
      · exact hsa
      · exact slt_trans hsa (h'.1 x hx)
def putN : Nat → List (List Int) → List Int → List (List Int)
  | 0, C, _ => C
  | n + 1, C, s => if s ∈ C then C else ins ((List.range s.length).foldl (fun C k => if 1 < s.length then putN n C (drp s k) else C) C) s
theorem sub_cases {x s : List Int} : x.Sublist s ↔ x = s ∨ ∃ k, k < s.length ∧ x.Sublist (drp s k) := by
  constructor
  · intro h
    rcases Nat.lt_or_ge x.length s.length with hl | hg
    · exact .inr (sub_drp h hl)
    · exact .inl (h.eq_of_length (Nat.le_antisymm h.length_le hg))
  · rintro (rfl | ⟨k, _, h⟩)
    · exact List.Sublist.refl _
    · exact h.trans (drp_sub s k)
theorem putN_spec : ∀ (n : Nat) {C : List (List Int)} {s : List Int}, s.length ≤ n → s ≠ [] → Srt C → Closed C →
    Srt (putN n C s) ∧ Closed (putN n C s) ∧ ∀ x, x ∈ putN n C s ↔ x ∈ C ∨ (x.Sublist s ∧ x ≠ [])
  | 0, C, s, hl, hne, _, _ => by
    cases s with
    | nil => exact absurd rfl hne
    | cons a s => simp at hl
  | n + 1, C, s, hl, hne, hs, hc => by
    simp only [putN]
    by_cases hm : s ∈ C
    · rw [if_pos hm]
      refine ⟨hs, hc, fun x => ⟨.inl, ?_⟩⟩
      rintro (h | ⟨h1, h2⟩)
      · exact h
      · exact closed_mem hc hm h1 h2
    · rw [if_neg hm]
      by_cases h1 : 1 < s.length
      · simp only [if_pos h1]
        have hfold : ∀ (m : Nat), m ≤ s.length → Srt ((List.range m).foldl (fun C k => putN n C (drp s k)) C) ∧ Closed ((List.range m).foldl (fun C k => putN n C (drp s k)) C) ∧
            ∀ x, x ∈ (List.range m).foldl (fun C k => putN n C (drp s k)) C ↔ x ∈ C ∨ ((∃ k, k < m ∧ x.Sublist (drp s k)) ∧ x ≠ []) := by
          intro m
          induction m with
          | zero => intro _; exact ⟨hs, hc, fun x => ⟨.inl, fun h => h.elim id (fun ⟨⟨k, hk, _⟩, _⟩ => by omega)⟩⟩
          | succ m ih =>
            intro hm
            obtain ⟨i1, i2, i3⟩ := ih (by omega)
            rw [List.range_succ, List.foldl_append, List.foldl_cons, List.foldl_nil]
            have hdl : (drp s m).length = s.length - 1 := drp_length (by omega)
            obtain ⟨j1, j2, j3⟩ := putN_spec n (s := drp s m) (by omega) (fun e => by rw [e] at hdl; simp at hdl; omega) i1 i2
            refine ⟨j1, j2, fun x => ?_⟩
            rw [j3, i3]
            constructor
            · rintro ((h | ⟨⟨k, hk, hx⟩, hne⟩) | ⟨hx, hne⟩)
              · exact .inl h
              · exact .inr ⟨⟨k, by omega, hx⟩, hne⟩
              · exact .inr ⟨⟨m, by omega, hx⟩, hne⟩
            · rintro (h | ⟨⟨k, hk, hx⟩, hne⟩)
              · exact .inl (.inl h)
              · rcases Nat.lt_or_ge k m with hkm | hkm
                · exact .inl (.inr ⟨⟨k, hkm, hx⟩, hne⟩)
                · have : k = m := by omega
                  subst this; exact .inr ⟨hx, hne⟩
        obtain ⟨i1, i2, i3⟩ := hfold s.length (Nat.le_refl _)
        generalize (List.range s.length).foldl (fun C k => putN n C (drp s k)) C = C' at i1 i2 i3
        have hsC : s ∉ C' := fun hm' => by
          rcases (i3 s).1 hm' with h | ⟨⟨k, hk, hx⟩, _⟩
          · exact hm h
          · have := hx.length_le
            rw [drp_length hk] at this; omega
        refine ⟨ins_srt i1 hsC, fun t ht htl k hk => ?_, fun x => ?_⟩
        · rw [mem_ins] at ht ⊢
          right
          rcases ht with rfl | ht
          · refine (i3 _).2 (.inr ⟨⟨k, hk, List.Sublist.refl _⟩, fun e => ?_⟩)
            have := drp_length hk
            rw [e] at this; simp at this; omega
          · exact i2 t ht htl k hk
        · rw [mem_ins, i3, sub_cases (x := x) (s := s)]
          constructor
          · rintro (rfl | h | ⟨h, hne⟩)
            · exact .inr ⟨.inl rfl, hne⟩
            · exact .inl h
            · exact .inr ⟨.inr h, hne⟩
          · rintro (h | ⟨h | h, hne⟩)
            · exact .inr (.inl h)
            · exact .inl h
            · exact .inr (.inr ⟨h, hne⟩)
      · simp only [if_neg h1]
        have hfold : ∀ (l : List Nat), l.foldl (fun (C : List (List Int)) (_ : Nat) => C) C = C := by
          intro l; induction l with
          | nil => rfl
          | cons a l ih => simpa using ih
        rw [hfold]
        refine ⟨ins_srt hs hm, fun t ht htl k hk => ?_, fun x => ?_⟩
        · rw [mem_ins] at ht ⊢
          rcases ht with rfl | ht
          · omega
          · exact .inr (hc t ht htl k hk)
        · rw [mem_ins, sub_cases (x := x) (s := s)]
          constructor
          · rintro (rfl | h)
            · exact .inr ⟨.inl rfl, hne⟩
            · exact .inl h
          · rintro (h | ⟨h | ⟨k, hk, hx⟩, hx2⟩)
            · exact .inr h
            · exact .inl h
            · have h3 := hx.length_le
              rw [drp_length hk] at h3
              cases x with
              | nil => exact absurd rfl hx2
              | cons a x => simp at h3; omega
/-- The complex of some simplices and all their faces. -/
theorem put_all : ∀ (L : List (List Int)) {C : List (List Int)}, (∀ s, s ∈ L → s ≠ []) → Srt C → Closed C →
    Srt (L.foldl (fun C s => putN s.length C s) C) ∧ Closed (L.foldl (fun C s => putN s.length C s) C) ∧ ∀ x, x ∈ L.foldl (fun C s => putN s.length C s) C ↔ x ∈ C ∨ ((∃ s, s ∈ L ∧ x.Sublist s) ∧ x ≠ [])
  | [], C, _, hs, hc => ⟨hs, hc, fun x => ⟨.inl, fun h => h.elim id (fun ⟨⟨s, h, _⟩, _⟩ => by cases h)⟩⟩
  | s :: L, C, hne, hs, hc => by
    obtain ⟨i1, i2, i3⟩ := putN_spec s.length (Nat.le_refl _) (hne s List.mem_cons_self) hs hc
    obtain ⟨j1, j2, j3⟩ := put_all L (fun t ht => hne t (List.mem_cons_of_mem _ ht)) i1 i2
    refine ⟨j1, j2, fun x => ?_⟩
    rw [List.foldl_cons, j3, i3]
    constructor
    · rintro ((h | ⟨h, hx⟩) | ⟨⟨t, ht, h⟩, hx⟩)
      · exact .inl h
      · exact .inr ⟨⟨s, List.mem_cons_self, h⟩, hx⟩
      · exact .inr ⟨⟨t, List.mem_cons_of_mem _ ht, h⟩, hx⟩
    · rintro (h | ⟨⟨t, ht, h⟩, hx⟩)
      · exact .inl (.inl h)
      · rcases List.mem_cons.1 ht with rfl | ht
        · exact .inl (.inr ⟨h, hx⟩)
        · exact .inr ⟨⟨t, ht, h⟩, hx⟩
end Go.Proofs.Ytidfblakgolbpaa.B.SimT
namespace Go.Proofs.Ytidfblakgolbpaa.B
open Go.RowKit Go.Proofs.YtidfblakgolbpaaW.PrintWords Go.Proofs.YtidfblakgolbpaaW.PrintLast Go.Proofs.YtidfblakgolbpaaW.PrintMore
attribute [local go_sem] max2_int min2_int max_two min_two max_three min_three max_four min_four
set_option linter.unusedVariables false
set_option linter.unusedSimpArgs false
def z43.l0 : Nat → List Int → List Int → Int → Option (Bool)
 | 0, _, _, _ => none
 | k + 1, x0, x1, x5 => if x5 < (x0.length : Int) then (if 0 ≤ x5 then (if x5 < (x1.length : Int) then (if (rd x0 x5) = (rd x1 x5) then (z43.l0 k x0 x1 (wrap64 (x5 + 1))) else (some (decide ((rd x0 x5) < (rd x1 x5))))) else (none)) else (none)) else (some false)
def z43.f (k : Nat) (l0 : List Int) (l1 : List Int) : Option (Bool) := if (l0.length : Int) = (l1.length : Int) then (z43.l0 k l0 l1 0) else (some (decide ((l0.length : Int) < (l1.length : Int))))
set_option maxHeartbeats 8000000 in
set_option maxRecDepth 100000 in
theorem z43.calls (k : Nat) (A0 : Option Addr) (c0 : Nat) (l0 : List Int) (A1 : Option Addr) (c1 : Nat) (l1 : List Int) (r : Bool) (w : World) (hr0 : Kd.C (Kd.int .i64) w A0 l0.length l0) (hc0 : l0.length ≤ c0) (hr1 : Kd.C (Kd.int .i64) w A1 l1.length l1) (hc1 : l1.length ≤ c1) (h : z43.f k l0 l1 = some r) :
  Calls Try.prog 43 #[.slice A0 l0.length c0, .slice A1 l1.length c1] w fun e w' => e = .returned (.bool r) ∧ Drawn0 w w' := by
 have HR0 := Aside0.mk hr0
 have HC0 := Aside0.mk hc0
 clear hr0 hc0
 have HR1 := Aside0.mk hr1
 have HC1 := Aside0.mk hc1
 clear hr1 hc1
 have H : (if (l0.length : Int) = (l1.length : Int) then (z43.l0 k l0 l1 0) else (some (decide ((l0.length : Int) < (l1.length : Int))))) = some r := h
 clear h
 by_cases c3 : (l0.length : Int) = (l1.length : Int)
 ·rw [if_pos c3] at H
  have c3b0 : ((l0.length : Int) == (l1.length : Int)) = true := beq_iff_eq.mpr c3
  have c3b1 : ((l0.length : Int) != (l1.length : Int)) = false := bne_eq_false_iff_eq.mpr c3
  have c3b2 : (l0.length == l1.length) = true := by first | simpa using c3 | (simp at c3 ⊢; omega)
  clear c3
  have H' := Aside0.mk H
  clear H
  go_enter Try.func43, Try.ntmps43
  go_wp2
  repeat (go_quiet (fail); try go_wp2)
  go_loopg [5] k (fun kq v5 w' => ∃ (x5_1 : Int), v5 = .int .i64 x5_1 ∧ Aside0 (z43.l0 kq l0 l1 x5_1 = some r) ∧ Aside0 (kq ≤ k) ∧ Drawn0 w w')
  case atStart => exact ⟨(0), E_, H', ⟨Nat.le_refl _⟩, by repeat (first | exact Drawn0.refl _ | apply Drawn0.step)⟩
  case round =>
   clear H'
   (try clear c1);(try clear p2);(try clear c3);(try clear c3b0);(try clear c3b1);(try clear c3b2)
   obtain ⟨x5_1, rfl, HA, HK1, ⟨m1, rfl⟩⟩ := hrel
   cases gk with
   | zero => exact absurd HA.out (by simp [z43.l0])
   | succ k1 =>
    have H := HA.out
    clear HA
    simp only [z43.l0] at H
    by_cases c4 : x5_1 < (l0.length : Int)
    ·rw [if_pos c4] at H
     have c4b0 : decide (x5_1 < (l0.length : Int)) = true := decide_eq_true c4
     clear c4
     have c5 := O1_ H
     replace H := O2_ H
     have c5b0 := decide_eq_true c5
     clear c5
     have c6 := O1_ H
     replace H := O2_ H
     have c6b0 := decide_eq_true c6
     clear c6
     by_cases c7 : (rd l0 x5_1) = (rd l1 x5_1)
     ·rw [if_pos c7] at H
      have c7b0 : ((rd l0 x5_1) == (rd l1 x5_1)) = true := beq_iff_eq.mpr c7
      have c7b1 : ((rd l0 x5_1) != (rd l1 x5_1)) = false := bne_eq_false_iff_eq.mpr c7
      clear c7
      have H' := Aside0.mk H
      clear H
      have p101 : 0 ≤ (x5_1 : Int) := D_
      have q101 : x5_1 < (l0.length : Int) := D_
      obtain ⟨ad101, e101, hx101_0⟩ := Kd.at_int HR0.out x5_1 p101 q101
      cases e101
      replace p101 := eq_true p101
      replace q101 := eq_true q101
      have p102 : 0 ≤ (x5_1 : Int) := D_
      have q102 : x5_1 < (l1.length : Int) := D_
      obtain ⟨ad102, e102, hx102_0⟩ := Kd.at_int HR1.out x5_1 p102 q102
      cases e102
      replace p102 := eq_true p102
      replace q102 := eq_true q102
      go_wp2
      repeat (go_quiet (fail); try go_wp2)
      go_roundg k1
      case measure => exact Q1_ HK1
      case rel => exact ⟨(wrap64 (x5_1 + 1)), E_, H', ⟨Q1_ HK1⟩, by repeat (first | exact Drawn0.refl _ | apply Drawn0.step)⟩
     ·rw [if_neg c7] at H
      have c7b0 : ((rd l0 x5_1) == (rd l1 x5_1)) = false := beq_eq_false_iff_ne.mpr c7
      have c7b1 : ((rd l0 x5_1) != (rd l1 x5_1)) = true := bne_iff_ne.mpr c7
      obtain rfl := Option.some.inj H
      have p101 : 0 ≤ (x5_1 : Int) := D_
      have q101 : x5_1 < (l0.length : Int) := D_
      obtain ⟨ad101, e101, hx101_0⟩ := Kd.at_int HR0.out x5_1 p101 q101
      cases e101
      replace p101 := eq_true p101
      replace q101 := eq_true q101
      have p102 : 0 ≤ (x5_1 : Int) := D_
      have q102 : x5_1 < (l1.length : Int) := D_
      obtain ⟨ad102, e102, hx102_0⟩ := Kd.at_int HR1.out x5_1 p102 q102
      cases e102
      replace p102 := eq_true p102
      replace q102 := eq_true q102
      have p103 : 0 ≤ (x5_1 : Int) := D_
      have q103 : x5_1 < (l0.length : Int) := D_
      obtain ⟨ad103, e103, hx103_0⟩ := Kd.at_int HR0.out x5_1 p103 q103
      obtain rfl : ad101 = ad103 := (by injection e103)
      replace p103 := eq_true p103
      replace q103 := eq_true q103
      have p104 : 0 ≤ (x5_1 : Int) := D_
      have q104 : x5_1 < (l1.length : Int) := D_
      obtain ⟨ad104, e104, hx104_0⟩ := Kd.at_int HR1.out x5_1 p104 q104
      obtain rfl : ad102 = ad104 := (by injection e104)
      replace p104 := eq_true p104
      replace q104 := eq_true q104
      go_wp2
      repeat (go_quiet (fail); try go_wp2)
      go_ret
      exact ⟨by first | rfl | (simp; done) | (simp [*]; done), by repeat (first | exact Drawn0.refl _ | apply Drawn0.step)⟩
    ·rw [if_neg c4] at H
     have c4b0 : decide (x5_1 < (l0.length : Int)) = false := decide_eq_false c4
     clear c4
     obtain rfl := Option.some.inj H
     go_wp2
     repeat (go_quiet (fail); try go_wp2)
     go_ret
     exact ⟨by first | rfl | (simp; done) | (simp [*]; done), by repeat (first | exact Drawn0.refl _ | apply Drawn0.step)⟩
 ·rw [if_neg c3] at H
  have c3b0 : ((l0.length : Int) == (l1.length : Int)) = false := beq_eq_false_iff_ne.mpr c3
  have c3b1 : ((l0.length : Int) != (l1.length : Int)) = true := bne_iff_ne.mpr c3
  have c3b2 : (l0.length == l1.length) = false := by first | simpa using c3 | (simp at c3 ⊢; omega)
  obtain rfl := Option.some.inj H
  go_enter Try.func43, Try.ntmps43
  go_wp2
  repeat (go_quiet (fail); try go_wp2)
  go_ret
  exact ⟨by first | rfl | (simp; done) | (simp [*]; done), by repeat (first | exact Drawn0.refl _ | apply Drawn0.step)⟩
def z44.l0 : Nat → List Int → Int → List (List Int) → Option (Int)
 | 0, _, _, _ => none
 | k + 1, x1, x5, x51000 => if x5 < (x51000.length : Int) then (if 0 ≤ x5 then ((z66.f k (rd_ListInt x51000 x5) x1).bind fun t102 => (if t102 = true then (some x5) else (z44.l0 k x1 (wrap64 (x5 + 1)) x51000))) else (none)) else (some (-1))
def z44.f (k : Nat) (l0_0 : List (List Int)) (l1 : List Int) : Option (Int) := z44.l0 k l1 0 l0_0
set_option maxHeartbeats 8000000 in
set_option maxRecDepth 100000 in
theorem z44.calls (k : Nat) (gp0 : Nat) (A0_0 : Option Addr) (c0_0 : Nat) (l0_0 : List (List Int)) (A1 : Option Addr) (c1 : Nat) (l1 : List Int) (r : Int) (w : World) (hbp0 : w.heap[gp0]? = some (.cells #[.slice A0_0 l0_0.length c0_0] 26 (0, 0))) (hr0_0 : Kd.C (Kd.slice 2 (Kd.int .i64)) w A0_0 l0_0.length l0_0) (hc0_0 : l0_0.length ≤ c0_0) (hr1 : Kd.C (Kd.int .i64) w A1 l1.length l1) (hc1 : l1.length ≤ c1) (h : z44.f k l0_0 l1 = some r) :
  Calls Try.prog 44 #[.pointer (some ⟨gp0, 0, none⟩), .slice A1 l1.length c1] w fun e w' => e = .returned (.int .i64 r) ∧ Drawn0 w w' := by
 have HR0_0 := Aside0.mk hr0_0
 have HC0_0 := Aside0.mk hc0_0
 clear hr0_0 hc0_0
 have HR1 := Aside0.mk hr1
 have HC1 := Aside0.mk hc1
 clear hr1 hc1
 have BK50 := Aside0.mk hbp0
 clear hbp0
 have H : (z44.l0 k l1 0 l0_0) = some r := h
 clear h
 have H' := Aside0.mk H
 clear H
 go_enter Try.func44, Try.ntmps44
 go_wp2
 go_loopg [5] k (fun kq v5 w' => ∃ (x5_1 : Int), v5 = .int .i64 x5_1 ∧ Aside0 (z44.l0 kq l1 x5_1 l0_0 = some r) ∧ Aside0 (kq ≤ k) ∧ Aside0 (w'.heap[gp0]? = some (.cells #[(.slice A0_0 l0_0.length c0_0)] 26 (0, 0))) ∧ Drawn0 w w')
 case atStart => exact ⟨(0), E_, H', ⟨Nat.le_refl _⟩, ⟨KB_ BK50.out⟩, by repeat (first | exact Drawn0.refl _ | apply Drawn0.step)⟩
 case round =>
  clear H'
  (try clear c1);(try clear p2)
  obtain ⟨x5_1, rfl, HA, HK1, BK50, ⟨m1, rfl⟩⟩ := hrel
  cases gk with
  | zero => exact absurd HA.out (by simp [z44.l0])
  | succ k1 =>
   have H := HA.out
   clear HA
   simp only [z44.l0] at H
   by_cases c3 : x5_1 < (l0_0.length : Int)
   ·rw [if_pos c3] at H
    have c3b0 : decide (x5_1 < (l0_0.length : Int)) = true := decide_eq_true c3
    clear c3
    have c4 := O1_ H
    replace H := O2_ H
    have c4b0 := decide_eq_true c4
    clear c4
    replace H := Option.bind_eq_some_iff.mp H
    obtain ⟨t102, A50, H⟩ := H
    have A5 := Aside0.mk A50
    clear A50
    by_cases c6 : t102 = true
    ·subst c6
     replace H := T_ H
     obtain rfl := Option.some.inj H
     have hcz7_0 : w.cell? ⟨gp0, 0, none⟩ = some (.slice A0_0 l0_0.length c0_0) := (blk_cell BK50.out 0).trans rfl
     have hfz7_0 := blk_frozen BK50.out 0
     have p101 : 0 ≤ (x5_1 : Int) := D_
     have q101 : x5_1 < (l0_0.length : Int) := D_
     obtain ⟨ad101, A101_0, c101_0, e101, hx101_0, hl101_0, hi101_0⟩ := at_ListInt HR0_0.out x5_1 p101 q101
     cases e101
     have HR101_0 := Aside0.mk hi101_0
     have HC101_0 := Aside0.mk hl101_0
     clear hi101_0 hl101_0
     replace p101 := eq_true p101
     replace q101 := eq_true q101
     go_wp2_with (first | ((with_reducible refine gate_callee (f := 66) rfl ?_); refine goesL_ (some 23) rfl rfl Try.func66 (by kernel_rfl) rfl #[.slice A101_0 (rd_ListInt l0_0 x5_1).length c101_0, .slice A1 l1.length c1] rfl (by (try simp only [List.map_toArray, List.map_cons, List.map_nil]); first | done | rfl | (simp only [List.length_drop, List.length_take]; rfl)) ?_; (with_reducible refine (z66.calls k1 _ _ (rd_ListInt l0_0 x5_1) _ _ l1 true _ ?side1 ?side2 ?side3 ?side4 A5.out).mono ?_); (case side1 => exact KC_ HR101_0.out); (case side2 => exact HC101_0.out); (case side3 => exact KC_ HR1.out); (case side4 => exact HC1.out); rintro e w' ⟨rfl, ⟨nd, rfl⟩⟩; refine ⟨_, rfl, ?_⟩))
     go_ret
     exact ⟨by first | rfl | (simp; done) | (simp [*]; done), by repeat (first | exact Drawn0.refl _ | apply Drawn0.step)⟩
    ·replace c6 := Bool.eq_false_iff.mpr c6
     subst c6
     replace H := N_ H
     have H' := Aside0.mk H
     clear H
     have hcz8_0 : w.cell? ⟨gp0, 0, none⟩ = some (.slice A0_0 l0_0.length c0_0) := (blk_cell BK50.out 0).trans rfl
     have hfz8_0 := blk_frozen BK50.out 0
     have p101 : 0 ≤ (x5_1 : Int) := D_
     have q101 : x5_1 < (l0_0.length : Int) := D_
     obtain ⟨ad101, A101_0, c101_0, e101, hx101_0, hl101_0, hi101_0⟩ := at_ListInt HR0_0.out x5_1 p101 q101
     cases e101
     have HR101_0 := Aside0.mk hi101_0
     have HC101_0 := Aside0.mk hl101_0
     clear hi101_0 hl101_0
     replace p101 := eq_true p101
     replace q101 := eq_true q101
     go_wp2_with (first | ((with_reducible refine gate_callee (f := 66) rfl ?_); refine goesL_ (some 23) rfl rfl Try.func66 (by kernel_rfl) rfl #[.slice A101_0 (rd_ListInt l0_0 x5_1).length c101_0, .slice A1 l1.length c1] rfl (by (try simp only [List.map_toArray, List.map_cons, List.map_nil]); first | done | rfl | (simp only [List.length_drop, List.length_take]; rfl)) ?_; (with_reducible refine (z66.calls k1 _ _ (rd_ListInt l0_0 x5_1) _ _ l1 false _ ?side1 ?side2 ?side3 ?side4 A5.out).mono ?_); (case side1 => exact KC_ HR101_0.out); (case side2 => exact HC101_0.out); (case side3 => exact KC_ HR1.out); (case side4 => exact HC1.out); rintro e w' ⟨rfl, ⟨nd, rfl⟩⟩; refine ⟨_, rfl, ?_⟩))
     go_roundg k1
     case measure => exact Q1_ HK1
     case rel => exact ⟨(wrap64 (x5_1 + 1)), E_, H', ⟨Q1_ HK1⟩, ⟨KB_ BK50.out⟩, by repeat (first | exact Drawn0.refl _ | apply Drawn0.step)⟩
   ·rw [if_neg c3] at H
    have c3b0 : decide (x5_1 < (l0_0.length : Int)) = false := decide_eq_false c3
    clear c3
    obtain rfl := Option.some.inj H
    have hcz9_0 : w.cell? ⟨gp0, 0, none⟩ = some (.slice A0_0 l0_0.length c0_0) := (blk_cell BK50.out 0).trans rfl
    have hfz9_0 := blk_frozen BK50.out 0
    go_wp2
    go_ret
    exact ⟨by first | rfl | (simp; done) | (simp [*]; done), by repeat (first | exact Drawn0.refl _ | apply Drawn0.step)⟩
end Go.Proofs.Ytidfblakgolbpaa.B
/- What the program's and the reference's orders of simplices come to (for this claim, by hand). -/
set_option linter.unusedVariables false
set_option linter.unusedSimpArgs false
namespace Go.Proofs.Ytidfblakgolbpaa.B
open Go.RowKit Go.Proofs.YtidfblakgolbpaaW.PrintWords
open SimT
def lexcmp : List Int → List Int → Int
  | [], [] => 0
  | [], _ :: _ => -1
  | _ :: _, [] => 1
  | a :: l, b :: m => if a < b then -1 else if a > b then 1 else lexcmp l m
theorem lexcmp_neg : ∀ l m, lexcmp l m < 0 ↔ lexlt l m = true
  | [], [] => by simp [lexcmp, lexlt]
  | [], _ :: _ => by simp [lexcmp, lexlt]
  | _ :: _, [] => by simp [lexcmp, lexlt]
  | a :: l, b :: m => by
    simp only [lexcmp, lexlt]
    by_cases h1 : a < b
    · rw [if_pos h1, if_pos h1]; simp
    · rw [if_neg h1, if_neg h1]
      by_cases h2 : b < a
      · rw [if_pos h2, if_pos h2]; simp
      · rw [if_neg h2, if_neg h2]; exact lexcmp_neg l m
theorem lexcmp_zero : ∀ l m, lexcmp l m = 0 ↔ l = m
  | [], [] => by simp [lexcmp]
  | [], _ :: _ => by simp [lexcmp]
  | _ :: _, [] => by simp [lexcmp]
  | a :: l, b :: m => by
    simp only [lexcmp]
    by_cases h1 : a < b
    · rw [if_pos h1]
      refine ⟨fun h => by omega, fun h => ?_⟩
      injection h with h _; omega
    · rw [if_neg h1]
      by_cases h2 : a > b
      · rw [if_pos h2]
        refine ⟨fun h => by omega, fun h => ?_⟩
        injection h with h _; omega
      · rw [if_neg h2, lexcmp_zero l m]
        have : a = b := by omega
        subst this
        exact ⟨fun h => by rw [h], fun h => by injection h⟩
def icmp (a b : Int) : Int := if a < b then -1 else if a > b then 1 else 0
theorem cmpInt_val (a b : Int) : z62.f a b = some (icmp a b) := by
  unfold z62.f z83.f icmp
  simp only [bne_self_eq_false, Option.bind_some, Bool.false_eq_true, if_false]
  split
  · rfl
  · split <;> rfl
theorem cmpInt64_val (a b : Int) : z84.f a b = some (icmp a b) := by
  unfold z84.f z90.f icmp
  simp only [bne_self_eq_false, Option.bind_some, Bool.false_eq_true, if_false]
  split
  · rfl
  · split <;> rfl
theorem drop_cons {l : List Int} {i : Nat} (h : i < l.length) : l.drop i = l.getD i 0 :: l.drop (i + 1) := by
  rw [List.drop_eq_getElem_cons h, List.getD_eq_getElem?_getD, List.getElem?_eq_getElem h]; rfl
theorem slicesCompare_ev (l m : List Int) (hl : l.length < 9223372036854775807) (hm : m.length < 9223372036854775807) : Ev (fun k => z63.f k l m) (lexcmp l m) := by
  have main : ∀ (d i : Nat), i + d = l.length → i ≤ m.length → Ev (fun k => z63.l0 k l m l (l.length : Int) (i : Int)) (lexcmp (l.drop i) (m.drop i)) := by
    intro d
    induction d with
    | zero =>
      intro i hi him
      rw [List.drop_of_length_le (show l.length ≤ i by omega)]
      refine Ev.step (fun k => z63.l0.eq_2 ..) ?_
      refine ev_neg (by omega) ?_
      by_cases h : i < m.length
      · rw [drop_cons h]
        exact ev_pos (by omega) (Ev.now _)
      · rw [List.drop_of_length_le (show m.length ≤ i by omega)]
        exact ev_neg (by omega) (Ev.now _)
    | succ d ih =>
      intro i hi him
      rw [drop_cons (show i < l.length by omega)]
      refine Ev.step (fun k => z63.l0.eq_2 ..) ?_
      refine ev_pos (by omega) (ev_pos (by omega) (ev_pos (by omega) ?_))
      by_cases h : i < m.length
      · rw [drop_cons h, rd_nat, rd_nat, wrap_succ (by omega)]
        refine ev_neg (by omega) (ev_pos (by omega) (Ev.bind (ev_const (cmpInt64_val _ _)) ?_))
        simp only [lexcmp]
        unfold icmp
        by_cases h1 : l.getD i 0 < m.getD i 0
        · rw [if_pos h1, if_pos h1]; exact ev_neg (by omega) (Ev.now _)
        · rw [if_neg h1, if_neg h1]
          by_cases h2 : l.getD i 0 > m.getD i 0
          · rw [if_pos h2, if_pos h2]; exact ev_neg (by omega) (Ev.now _)
          · rw [if_neg h2, if_neg h2]; exact ev_pos rfl (ih (i + 1) (by omega) (by omega))
      · rw [List.drop_of_length_le (show m.length ≤ i by omega)]
        exact ev_pos (by omega) (Ev.now _)
  have := main l.length 0 (by omega) (by omega)
  simpa [z63.f] using this
def scmp (a b : List Int) : Int := if icmp (a.length : Int) (b.length : Int) = 0 then lexcmp a b else icmp (a.length : Int) (b.length : Int)
theorem scmp_neg (a b : List Int) : scmp a b < 0 ↔ slt a b = true := by
  rw [slt_iff]
  unfold scmp icmp
  rcases Nat.lt_trichotomy a.length b.length with h | h | h
  · rw [if_pos (show (a.length : Int) < b.length by omega)]; simp [h]
  · rw [if_neg (show ¬ (a.length : Int) < b.length by omega), if_neg (show ¬ (a.length : Int) > b.length by omega), if_pos rfl, lexcmp_neg]
    constructor
    · exact fun h' => .inr ⟨h, h'⟩
    · rintro (h' | h')
      · omega
      · exact h'.2
  · rw [if_neg (show ¬ (a.length : Int) < b.length by omega), if_pos (show (a.length : Int) > b.length by omega)]
    simp
    omega
theorem scmp_zero (a b : List Int) : scmp a b = 0 ↔ a = b := by
  unfold scmp icmp
  rcases Nat.lt_trichotomy a.length b.length with h | h | h
  · rw [if_pos (show (a.length : Int) < b.length by omega)]
    simp
    intro e; subst e; omega
  · rw [if_neg (show ¬ (a.length : Int) < b.length by omega), if_neg (show ¬ (a.length : Int) > b.length by omega), if_pos rfl, lexcmp_zero]
  · rw [if_neg (show ¬ (a.length : Int) < b.length by omega), if_pos (show (a.length : Int) > b.length by omega)]
    simp
    intro e; subst e; omega
theorem cmpOr_ev (a b : Int) : Ev (fun k => z61.f k [a, b]) (if a = 0 then b else a) := by
  unfold z61.f
  refine Ev.step (fun k => z61.l0.eq_2 ..) ?_
  refine ev_pos (by simp) (ev_pos (by omega) (ev_pos (by simp) ?_))
  simp only [rd, Int.toNat_zero, List.getD_cons_zero]
  by_cases h : a = 0
  · rw [if_pos h]
    refine ev_pos h ?_
    refine Ev.step (fun k => z61.l0.eq_2 ..) ?_
    simp only [show wrap64 (0 + 1) = 1 by unfold wrap64; omega]
    refine ev_pos (by simp) (ev_pos (by omega) (ev_pos (by simp) ?_))
    simp only [rd, show Int.toNat 1 = 1 from rfl, List.getD_cons_succ, List.getD_cons_zero]
    by_cases h2 : b = 0
    · refine ev_pos h2 ?_
      refine Ev.step (fun k => z61.l0.eq_2 ..) ?_
      simp only [show wrap64 (1 + 1) = 2 by unfold wrap64; omega]
      refine ev_neg (by simp) (ev_eq (Ev.now _) h2.symm)
    · exact ev_neg h2 (Ev.now _)
  · rw [if_neg h]
    exact ev_neg h (Ev.now _)
theorem compareS_ev (a b : List Int) (ha : a.length < 9223372036854775807) (hb : b.length < 9223372036854775807) : Ev (fun k => z39.f k a b) (scmp a b) := by
  unfold z39.f
  refine Ev.bind (ev_const (cmpInt_val _ _)) (Ev.bind (slicesCompare_ev a b ha hb) (Ev.bind (cmpOr_ev _ _) ?_))
  exact Ev.now _
theorem before_ev (a b : List Int) (ha : a.length < 9223372036854775807) : Ev (fun k => z43.f k a b) (slt a b) := by
  unfold z43.f
  by_cases hab : a.length = b.length
  · refine ev_pos (by omega) ?_
    have e : slt a b = lexlt a b := by simp [slt, hab]
    rw [e]
    have main : ∀ (d i : Nat), i + d = a.length → Ev (fun k => z43.l0 k a b (i : Int)) (lexlt (a.drop i) (b.drop i)) := by
      intro d
      induction d with
      | zero =>
        intro i hi
        rw [List.drop_of_length_le (show a.length ≤ i by omega), List.drop_of_length_le (show b.length ≤ i by omega)]
        refine Ev.step (fun k => z43.l0.eq_2 ..) ?_
        exact ev_neg (by omega) (Ev.now _)
      | succ d ih =>
        intro i hi
        rw [drop_cons (show i < a.length by omega), drop_cons (show i < b.length by omega)]
        refine Ev.step (fun k => z43.l0.eq_2 ..) ?_
        refine ev_pos (by omega) (ev_pos (by omega) (ev_pos (by omega) ?_))
        rw [rd_nat, rd_nat, wrap_succ (by omega)]
        simp only [lexlt]
        by_cases h : a.getD i 0 = b.getD i 0
        · refine ev_pos h ?_
          rw [if_neg (by omega), if_neg (by omega)]
          exact ih (i + 1) (by omega)
        · refine ev_neg h ?_
          by_cases h1 : a.getD i 0 < b.getD i 0
          · rw [if_pos h1]; exact ev_eq (Ev.now _) (decide_eq_true h1)
          · rw [if_neg h1, if_pos (by omega)]; exact ev_eq (Ev.now _) (decide_eq_false h1)
    have := main a.length 0 (by omega)
    simpa using this
  · refine ev_neg (by omega) (ev_eq (Ev.now _) ?_)
    rw [Bool.eq_iff_iff, slt_iff, decide_eq_true_iff]
    constructor
    · exact fun h => .inl (by omega)
    · rintro (h | h)
      · omega
      · exact absurd h.1 hab
/-! Where a simplex stands -/
def idx (l : List (List Int)) (s : List Int) : Int := if s ∈ l then ((l.idxOf s : Nat) : Int) else -1
theorem idx_neg (l : List (List Int)) (s : List Int) : idx l s < 0 ↔ s ∉ l := by
  unfold idx
  by_cases h : s ∈ l
  · rw [if_pos h]
    exact ⟨fun h' => by omega, fun h' => absurd h h'⟩
  · rw [if_neg h]
    exact ⟨fun _ => h, fun _ => by omega⟩
theorem idx_get {l : List (List Int)} {s : List Int} (h : s ∈ l) : ∃ i, i < l.length ∧ idx l s = (i : Int) ∧ l.getD i [] = s ∧ ∀ j, j < i → l.getD j [] ≠ s := by
  refine ⟨l.idxOf s, List.idxOf_lt_length_of_mem h, by unfold idx; rw [if_pos h], ?_, fun j hj e => ?_⟩
  · have hl := List.idxOf_lt_length_of_mem h
    rw [List.getD_eq_getElem?_getD, List.getElem?_eq_getElem hl]
    exact List.getElem_idxOf hl
  · have hl := List.idxOf_lt_length_of_mem h
    have := List.not_of_lt_findIdx (p := fun x => x == s) (xs := l) (i := j) hj
    have hjl : j < l.length := by omega
    rw [List.getD_eq_getElem?_getD, List.getElem?_eq_getElem hjl] at e
    simp at e this
    exact this e
theorem idx_of {l : List (List Int)} {s : List Int} {i : Nat} (hi : i < l.length) (he : l.getD i [] = s) (hb : ∀ j, j < i → l.getD j [] ≠ s) : idx l s = (i : Int) := by
  have hm : s ∈ l := he ▸ getD_mem [] hi
  obtain ⟨j, hj, e1, e2, e3⟩ := idx_get hm
  rw [e1]
  rcases Nat.lt_trichotomy i j with h | h | h
  · exact absurd he (e3 i h)
  · rw [h]
  · exact absurd e2 (hb j h)
theorem find_ev (l : List (List Int)) (s : List Int) (hl : l.length < 9223372036854775807) (hr : ∀ x ∈ l, x.length < 9223372036854775807) : Ev (fun k => z44.f k l s) (idx l s) := by
  unfold z44.f
  refine ev_find (fun (i : Nat) k => z44.l0 k s (i : Int) l) (fun i => l.getD i [] == s) l.length 0 (fun j _ hj hp r hr' => ?_) (fun j _ hj hp hb => ?_) (fun hall => ?_)
  · refine Ev.step (fun k => z44.l0.eq_2 ..) ?_
    refine ev_pos (by omega) (ev_pos (by omega) ?_)
    rw [rdl_nat, wrap_succ (by omega)]
    exact Ev.bind (same_ev _ _ (hr _ (getD_mem [] (by omega)))) (ev_neg (by rw [hp]; decide) hr')
  · have e : idx l s = (j : Int) := idx_of (by omega) (eq_of_beq hp) (fun m hm he => by have := hb m (Nat.zero_le _) hm; rw [he] at this; simp at this)
    rw [e]
    refine Ev.step (fun k => z44.l0.eq_2 ..) ?_
    refine ev_pos (by omega) (ev_pos (by omega) ?_)
    rw [rdl_nat]
    exact Ev.bind (same_ev _ _ (hr _ (getD_mem [] (by omega)))) (ev_pos hp (Ev.now _))
  · have e : idx l s = -1 := by
      unfold idx
      rw [if_neg]
      intro hm
      obtain ⟨i, hi, _, e2, _⟩ := idx_get hm
      have := hall i (Nat.zero_le _) (by omega)
      rw [e2] at this; simp at this
    rw [e]
    refine Ev.step (fun k => z44.l0.eq_2 ..) ?_
    exact ev_neg (by omega) (Ev.now _)
theorem srt_take {l : List (List Int)} (h : Srt l) (k : Nat) : Srt (l.take k) := List.Pairwise.sublist (List.take_sublist k l) h
theorem search_ev (l : List (List Int)) (s : List Int) (hl : l.length < 4611686018427387904) (hr : ∀ x ∈ l, x.length < 9223372036854775807) (hs : s.length < 9223372036854775807) (hsrt : Srt l) :
    ∃ t, Ev (fun k => z111.f k l s) t ∧ (if t.2 = true then t.1 else -1) = idx l s := by
  have lo_of : ∀ i, i < l.length → slt (l.getD i []) s = true → ∀ j, j ≤ i → slt (l.getD j []) s = true := fun i hi h j hj => by
    rcases Nat.eq_or_lt_of_le hj with rfl | hlt
    · exact h
    · exact slt_trans (srt_get hsrt hlt hi) h
  have hi_of : ∀ i, i < l.length → slt (l.getD i []) s = false → ∀ j, i ≤ j → j < l.length → slt (l.getD j []) s = false := fun i hi h j hj hjl => by
    cases hh : slt (l.getD j []) s with
    | false => rfl
    | true => rw [lo_of j hjl hh i hj] at h; cases h
  have main : ∀ (d lo hi : Nat), lo ≤ hi → hi - lo ≤ d → hi ≤ l.length → (∀ j, j < lo → slt (l.getD j []) s = true) → (∀ j, hi ≤ j → j < l.length → slt (l.getD j []) s = false) →
      ∃ t, Ev (fun k => z111.l0 k l s (l.length : Int) (lo : Int) (hi : Int)) t ∧ (if t.2 = true then t.1 else -1) = idx l s := by
    intro d
    induction d with
    | zero =>
      intro lo hi h1 h2 h3 hlo hhi
      have : lo = hi := by omega
      subst this
      by_cases hn : lo < l.length
      · refine ⟨((lo : Int), (scmp (l.getD lo []) s == 0)), ?_, ?_⟩
        · refine Ev.step (fun k => z111.l0.eq_2 ..) ?_
          refine ev_neg (by omega) (ev_pos (by omega) (ev_pos (by omega) (ev_pos (by omega) ?_)))
          rw [rdl_nat]
          exact Ev.bind (compareS_ev _ _ (hr _ (getD_mem [] hn)) hs) (Ev.now _)
        · by_cases he : l.getD lo [] = s
          · have : (scmp (l.getD lo []) s == 0) = true := by rw [beq_iff_eq, scmp_zero]; exact he
            simp only [this, if_true]
            exact (idx_of hn he (fun j hj e => by have := hlo j hj; rw [e, slt_irrefl] at this; cases this)).symm
          · have : (scmp (l.getD lo []) s == 0) = false := by rw [beq_eq_false_iff_ne]; exact fun h => he ((scmp_zero _ _).1 h)
            simp only [this, Bool.false_eq_true, if_false]
            have hnm : s ∉ l := fun hm => by
              obtain ⟨i, hi, _, e2, _⟩ := idx_get hm
              rcases Nat.lt_trichotomy i lo with h | h | h
              · have := hlo i h; rw [e2, slt_irrefl] at this; cases this
              · subst h; exact he e2
              · have h5 := srt_get hsrt h hi
                rw [e2] at h5
                have := hhi lo (Nat.le_refl _) hn
                rw [h5] at this; cases this
            unfold idx; rw [if_neg hnm]
      · refine ⟨((lo : Int), false), ?_, ?_⟩
        · refine Ev.step (fun k => z111.l0.eq_2 ..) ?_
          exact ev_neg (by omega) (ev_neg (by omega) (Ev.now _))
        · simp only [Bool.false_eq_true, if_false]
          have hnm : s ∉ l := fun hm => by
            obtain ⟨i, hi, _, e2, _⟩ := idx_get hm
            have := hlo i (by omega); rw [e2, slt_irrefl] at this; cases this
          unfold idx; rw [if_neg hnm]
    | succ d ih =>
      intro lo hi h1 h2 h3 hlo hhi
      by_cases hlt : lo < hi
      · have em : wrap64 (IntKind.u64.wrap (wrap64 ((lo : Int) + (hi : Int))) / 2) = (((lo + hi) / 2 : Nat) : Int) := by
          have e1 : wrap64 ((lo : Int) + (hi : Int)) = (lo : Int) + (hi : Int) := wrap_small (by omega) (by omega)
          have e2 : IntKind.u64.wrap ((lo : Int) + (hi : Int)) = (lo : Int) + (hi : Int) := by
            simp [IntKind.wrap, IntKind.bits, IntKind.signed]; omega
          rw [e1, e2, wrap_small (by omega) (by omega)]; omega
        have hm : (lo + hi) / 2 < l.length := by omega
        have hmr := hr _ (getD_mem ([] : List Int) hm)
        cases hc : slt (l.getD ((lo + hi) / 2) []) s with
        | true =>
          obtain ⟨t, ht, hv⟩ := ih ((lo + hi) / 2 + 1) hi (by omega) (by omega) h3 (fun j hj => lo_of _ hm hc j (by omega)) hhi
          refine ⟨t, ?_, hv⟩
          refine Ev.step (fun k => z111.l0.eq_2 ..) ?_
          rw [em, rdl_nat, wrap_succ (by omega)]
          refine ev_pos (by omega) (ev_pos (by omega) (ev_pos (by omega) (Ev.bind (compareS_ev _ _ hmr hs) (ev_pos ((scmp_neg _ _).2 hc) ht))))
        | false =>
          obtain ⟨t, ht, hv⟩ := ih lo ((lo + hi) / 2) (by omega) (by omega) (by omega) hlo (fun j hj hjl => hi_of _ hm hc j hj hjl)
          refine ⟨t, ?_, hv⟩
          refine Ev.step (fun k => z111.l0.eq_2 ..) ?_
          rw [em, rdl_nat, wrap_succ (by omega)]
          refine ev_pos (by omega) (ev_pos (by omega) (ev_pos (by omega) (Ev.bind (compareS_ev _ _ hmr hs) (ev_neg (fun h => ?_) ht))))
          have := (scmp_neg _ _).1 h
          rw [hc] at this; cases this
      · exact ih lo hi h1 (by omega) h3 hlo hhi
  exact main l.length 0 l.length (by omega) (by omega) (Nat.le_refl _) (fun j hj => by omega) (fun j h1 h2 => by omega)
theorem indexOf_ev (l : List (List Int)) (s : List Int) (hl : l.length < 4611686018427387904) (hr : ∀ x ∈ l, x.length < 9223372036854775807) (hs : s.length < 9223372036854775807) (hsrt : Srt l) : Ev (fun k => z32.f k l s) (idx l s) := by
  obtain ⟨t, ht, hv⟩ := search_ev l s hl hr hs hsrt
  unfold z32.f
  refine Ev.bind ht ?_
  rw [← hv]
  cases h : t.2 with
  | true => exact ev_pos rfl (ev_eq (Ev.now _) (by simp))
  | false => exact ev_neg (by simp) (ev_eq (Ev.now _) (by simp))
end Go.Proofs.Ytidfblakgolbpaa.B
/- The library's contracts laid at this program (a tool of the kit has written it). -/
namespace Go.Proofs.Ytidfblakgolbpaa.B
open Go.Shelf
def delL_ren : Go.Shelf.Ren := ⟨fun | 10 => 33 | 6 => 57 | n => n, fun | 22 => 29 | 23 => 2 | 25 => 45 | 3 => 3 | 4 => 4 | 0 => 0 | n => n, fun | n => n⟩
theorem delL : Go.Proofs.SlLaysH.n10 Try.prog delL_ren := {
  mixed := by kernel_rfl
  f6 := ⟨Try.f57.name, by decide, Try.func57.trans (congrArg some (by kernel_rfl))⟩
  f10 := ⟨Try.f33.name, by decide, Try.func33.trans (congrArg some (by kernel_rfl))⟩
  t0 := Try.underlying0
  a0 := Try.isAgg0
  z0 := Try.sizeOf0
  v0 := Try.zeroValue0
  t3 := Try.underlying3
  a3 := Try.isAgg3
  z3 := Try.sizeOf3
  v3 := Try.zeroValue3
  t4 := Try.underlying4
  a4 := Try.isAgg4
  z4 := Try.sizeOf4
  v4 := Try.zeroValue4
  t22 := Try.underlying29
  a22 := Try.isAgg29
  z22 := Try.sizeOf29
  v22 := Try.zeroValue29
  a23 := Try.isAgg2
  z23 := Try.sizeOf2
  t25 := Try.underlying45
  a25 := Try.isAgg45
  z25 := Try.sizeOf45
  v25 := Try.zeroValue45 }
end Go.Proofs.Ytidfblakgolbpaa.B
/- Which numbers are in a list, by the program and by the reference (for this claim, by hand). -/
set_option linter.unusedVariables false
set_option linter.unusedSimpArgs false
namespace Go.Proofs.Ytidfblakgolbpaa.B
open Go.RowKit Go.Proofs.YtidfblakgolbpaaW.PrintWords
def has (s : List Int) (x : Int) : Bool := s.any (fun z => z == x)
theorem contains_ev (s : List Int) (x : Int) (hl : s.length < 9223372036854775807) : Ev (fun k => z36.f k s x) (has s x) := by
  obtain ⟨t, ht, hd⟩ := ev_index_list s 0 (fun i k => z58.l0 k s x (s.length : Int) (i : Int)) (fun z => z == x) (fun j hj hp r hr => by
    refine Ev.step (fun k => z58.l0.eq_2 ..) ?_
    rw [rd_nat, wrap_succ (by omega)]
    exact ev_pos (by omega) (ev_pos (by omega) (ev_pos (by omega) (ev_neg (by intro e; rw [← e] at hp; simp at hp) hr)))) (fun j hj hp => by
    refine Ev.step (fun k => z58.l0.eq_2 ..) ?_
    rw [rd_nat]
    exact ev_pos (by omega) (ev_pos (by omega) (ev_pos (by omega) (ev_pos (eq_of_beq hp).symm (Ev.now _))))) (by
    refine Ev.step (fun k => z58.l0.eq_2 ..) ?_
    exact ev_neg (by omega) (Ev.now _))
  unfold z36.f z58.f
  exact Ev.bind ht (ev_eq (Ev.now _) hd)
theorem has_iff {s : List Int} {x : Int} : has s x = true ↔ x ∈ s := by
  unfold has
  rw [List.any_eq_true]
  exact ⟨fun ⟨y, hy, e⟩ => (eq_of_beq e) ▸ hy, fun h => ⟨x, h, beq_self_eq_true x⟩⟩
end Go.Proofs.Ytidfblakgolbpaa.B
namespace Go.Proofs.Ytidfblakgolbpaa.B
open Go.RowKit Go.Proofs.YtidfblakgolbpaaW.PrintWords Go.Proofs.YtidfblakgolbpaaW.PrintLast Go.Proofs.YtidfblakgolbpaaW.PrintMore
attribute [local go_sem] max2_int min2_int max_two min_two max_three min_three max_four min_four
set_option linter.unusedVariables false
set_option linter.unusedSimpArgs false
def z35.f (k : Nat) (a0 : Int) (l1_0 : List Int) : Option (Bool) := (z36.f k l1_0 a0).bind fun t101 => (some t101)
set_option maxHeartbeats 8000000 in
set_option maxRecDepth 100000 in
theorem z35.calls (k : Nat) (a0 : Int) (gp1 : Nat) (A1_0 : Option Addr) (c1_0 : Nat) (l1_0 : List Int) (r : Bool) (w : World) (hbp1 : w.heap[gp1]? = some (.cells #[.slice A1_0 l1_0.length c1_0] 29 (0, 0))) (hr1_0 : Kd.C (Kd.int .i64) w A1_0 l1_0.length l1_0) (hc1_0 : l1_0.length ≤ c1_0) (h : z35.f k a0 l1_0 = some r) :
  Calls Try.prog 35 #[.int .i64 a0, .pointer (some ⟨gp1, 0, none⟩)] w fun e w' => e = .returned (.bool r) ∧ Drawn0 w w' := by
 have HR1_0 := Aside0.mk hr1_0
 have HC1_0 := Aside0.mk hc1_0
 clear hr1_0 hc1_0
 have BK51 := Aside0.mk hbp1
 clear hbp1
 have H : ((z36.f k l1_0 a0).bind fun t101 => (some t101)) = some r := h
 clear h
 replace H := Option.bind_eq_some_iff.mp H
 obtain ⟨t101, A30, H⟩ := H
 have A3 := Aside0.mk A30
 clear A30
 obtain rfl := Option.some.inj H
 have hcz4_0 : w.cell? ⟨gp1, 0, none⟩ = some (.slice A1_0 l1_0.length c1_0) := (blk_cell BK51.out 0).trans rfl
 have hfz4_0 := blk_frozen BK51.out 0
 go_enter Try.func35, Try.ntmps35
 go_wp2_with (first | ((with_reducible refine gate_callee (f := 36) rfl ?_); refine goesL_ (some 6) rfl rfl Try.func36 (by kernel_rfl) rfl #[.slice A1_0 l1_0.length c1_0, .int .i64 a0] rfl (by (try simp only [List.map_toArray, List.map_cons, List.map_nil]); first | done | rfl | (simp only [List.length_drop, List.length_take]; rfl)) ?_; (with_reducible refine (z36.calls k _ _ l1_0 a0 t101 _ ?side1 ?side2 A3.out).mono ?_); (case side1 => exact KC_ HR1_0.out); (case side2 => exact HC1_0.out); rintro e w' ⟨rfl, ⟨nd, rfl⟩⟩; refine ⟨_, rfl, ?_⟩))
 go_ret
 exact ⟨by first | rfl | (simp; done) | (simp [*]; done), by repeat (first | exact Drawn0.refl _ | apply Drawn0.step)⟩
end Go.Proofs.Ytidfblakgolbpaa.B
