/- Printed proofs of functions of the program and of the reference, by a program of this work over the kit's printer. -/
import Derived.Test.YtipkciildhghiaaKHGNPLP0
import Derived.Test.YtipkciildhghiaaKOJIGNG0
import Derived.Test.YtipkciildhghiaaKPFOJIL0
import Derived.Test.YtipkciildhghiaaKW0
namespace Go.Proofs.Ytipkciildhghiaa.B
open Go.RowKit Go.Proofs.YtipkciildhghiaaW.PrintWords Go.Proofs.YtipkciildhghiaaW.PrintLast Go.Proofs.YtipkciildhghiaaW.PrintMore
attribute [local go_sem] max2_int min2_int max_two min_two max_three min_three max_four min_four
set_option linter.unusedVariables false
set_option linter.unusedSimpArgs false
mutual
def z59.l0 : Nat → List Int → Int → Int → List (List Int) → Option (List Int)
 | 0, _, _, _, _ => none
 | k + 1, x3, x16, x17, x102000 => if x17 < x16 then (if 0 ≤ x17 then (if x17 < (x3.length : Int) then (z59.l0 k (x3.set (x17 : Int).toNat x17) x16 (wrap64 (x17 + 1)) x102000) else (none)) else (none)) else (z59.l1 k x3 true x102000)
def z59.l1 : Nat → List Int → Bool → List (List Int) → Option (List Int)
 | 0, _, _, _ => none
 | k + 1, x3, x5, x102000 => if x5 = true then ((z93.f k x102000 1).bind fun t106 => (z59.l2 k x3 false t106 (t106.length : Int) 0 x102000)) else ((z112.f k x102000).bind fun t120 => (z59.l3 k x3 ([] : List Int) t120 (t120.length : Int) 0))
def z59.l2 : Nat → List Int → Bool → List Int → Int → Int → List (List Int) → Option (List Int)
 | 0, _, _, _, _, _, _ => none
 | k + 1, x3, x5, x27, x28, x29, x102000 => if x29 < x28 then (if 0 ≤ x29 then (if x29 < (x27.length : Int) then (if 0 ≤ (rd x27 x29) then (if (rd x27 x29) < (x102000.length : Int) then (if 0 < ((rd_ListInt x102000 (rd x27 x29)).length : Int) then (if 1 < ((rd_ListInt x102000 (rd x27 x29)).length : Int) then (if 0 ≤ (rd (rd_ListInt x102000 (rd x27 x29)) 0) then (if (rd (rd_ListInt x102000 (rd x27 x29)) 0) < (x3.length : Int) then (if 0 ≤ (rd (rd_ListInt x102000 (rd x27 x29)) 1) then (if (rd (rd_ListInt x102000 (rd x27 x29)) 1) < (x3.length : Int) then (if (rd x3 (rd (rd_ListInt x102000 (rd x27 x29)) 0)) = (rd x3 (rd (rd_ListInt x102000 (rd x27 x29)) 1)) then (z59.l2 k x3 x5 x27 x28 (wrap64 (x29 + 1)) x102000) else (z59.l2 k ((x3.set ((rd (rd_ListInt x102000 (rd x27 x29)) 0) : Int).toNat (mn (rd x3 (rd (rd_ListInt x102000 (rd x27 x29)) 0)) (rd x3 (rd (rd_ListInt x102000 (rd x27 x29)) 1)))).set ((rd (rd_ListInt x102000 (rd x27 x29)) 1) : Int).toNat (mn (rd x3 (rd (rd_ListInt x102000 (rd x27 x29)) 0)) (rd x3 (rd (rd_ListInt x102000 (rd x27 x29)) 1)))) true x27 x28 (wrap64 (x29 + 1)) x102000)) else (none)) else (none)) else (none)) else (none)) else (none)) else (none)) else (none)) else (none)) else (none)) else (none)) else (z59.l1 k x3 x5 x102000)
def z59.l3 : Nat → List Int → List Int → List Int → Int → Int → Option (List Int)
 | 0, _, _, _, _, _ => none
 | k + 1, x3, x11, x75, x76, x77 => if x77 < x76 then (if 0 ≤ x77 then (if x77 < (x75.length : Int) then (if 0 ≤ (rd x75 x77) then (if (rd x75 x77) < (x3.length : Int) then (if x11.length < 17592186044416 then (z59.l3 k x3 (x11 ++ [rd x3 (rd x75 x77)]) x75 x76 (wrap64 (x77 + 1))) else (none)) else (none)) else (none)) else (none)) else (none)) else (some x11)
end
def z59.f (k : Nat) (l0_0 : List (List Int)) : Option (List Int) := if 10 ≤ 35184372088832 then ((some (List.replicate 10 0 : List Int)).bind fun y102 => (z59.l0 k y102 (y102.length : Int) 0 l0_0)) else (none)
set_option maxHeartbeats 8000000 in
set_option maxRecDepth 100000 in
theorem z59.calls (k : Nat) (A0_0 : Option Addr) (c0_0 : Nat) (l0_0 : List (List Int)) (r : List Int) (w : World) (hr0_0 : Kd.C (Kd.slice 2 (Kd.int .i64)) w A0_0 l0_0.length l0_0) (hc0_0 : l0_0.length ≤ c0_0) (h : z59.f k l0_0 = some r) :
  Calls Try.prog 59 #[.agg #[.slice A0_0 l0_0.length c0_0]] w fun e w' => ∃ v0_ : Value, e = .returned (v0_) ∧ Kd.R (Kd.int .i64) 2 w' w.heap.size (fun _ => True) v0_ r ∧ Below w.heap.size w w' := by
 have hu29 := Try.underlying29
 have HR0_0 := Aside0.mk hr0_0
 have HC0_0 := Aside0.mk hc0_0
 clear hr0_0 hc0_0
 have HB := Aside0.mk (Below.refl w.heap.size w)
 have H : (if 10 ≤ 35184372088832 then ((some (List.replicate 10 0 : List Int)).bind fun y102 => (z59.l0 k y102 (y102.length : Int) 0 l0_0)) else (none)) = some r := h
 clear h
 have c2 := O1_ H
 replace H := O2_ H
 have c2b0 := eq_true c2
 have c2b1 : decide (10 ≤ 35184372088832) = true := decide_eq_true c2
 clear c2
 obtain ⟨y102, hy102⟩ : ∃ y_ : List Int, y_ = (List.replicate 10 0) := ⟨_, rfl⟩
 replace H : (z59.l0 k y102 (y102.length : Int) 0 l0_0) = some r := Y_ hy102 H
 have Ny102 := Aside0.mk hy102
 clear hy102
 have H' := Aside0.mk H
 clear H
 go_enter Try.func59, Try.ntmps59
 go_wp2_with (first | ((with_reducible refine gate_dst (N := 1) rfl ?_); refine box_event ?hg (N := 1) ?hd (cs := #[.slice A0_0 l0_0.length c0_0]) (t := 29) ?hr ?_; (case hd => rfl); (case hg => rfl); (case hr => first | (go_simp; done) | (go_simp; rfl)); intro gb101 hg w3 hbox hb; have n0_ := Aside0.mk (below_step (B_ HB.out) hb); have n1_ := Aside0.mk (hbox); have n2_ := Aside0.mk ((by rw [hg]; exact (below_size (B_ HB.out)) : w.heap.size ≤ gb101)); have n3_ := Aside0.mk ((by rw [hg]; exact (below_size (B_ HB.out)) : w.heap.size ≤ gb101)); clear HB; have HB := n0_; have BK101 := n1_; have GW101 := n2_; have GE101 := n3_; clear n0_ n1_ n2_ n3_; clear hb hbox hg) | ((with_reducible refine gate_dst (N := 14) rfl ?_); refine Kd.R_make (Kd.int .i64) _ 2 rfl (N := 14) rfl 26 _ _ rfl 10 rfl rfl Try.underlying26 (.int .i64 0) 8 info2 rfl (by decide) (by omega) 0 (ok := fun _ => True) (okp := fun _ => True) rfl (fun _ hk => hk) trivial (by omega) (by omega) (Below.refl _ _) (Nat.le_refl _) ?_; intro v103 w4 ho5 hb hg_ hnew_; clear hg_ hnew_; (first | rw [← Ny102.out] at ho5 | (simp only [Int.reduceToNat] at ho5; rw [← Ny102.out] at ho5)); have HO104 := Aside0.mk (Kd.R_lower ho5 (below_size (B1_ HB.out GE101.out))); replace BK101 := Aside0.mk (blk_below (g := gb101) (o := .cells #[.slice A0_0 l0_0.length c0_0] 29 (0, 0)) (KB_ BK101.out) hb); replace HB := Aside0.mk (below_step (B1_ HB.out GE101.out) hb); clear hb ho5; obtain ⟨Ao6, co6, eo6⟩ := Kd.R_slice HO104.out; subst eo6))
 repeat (go_quiet (first | ((with_reducible refine gate_dst (N := 1) rfl ?_); refine box_event ?hg (N := 1) ?hd (cs := #[.slice A0_0 l0_0.length c0_0]) (t := 29) ?hr ?_; (case hd => rfl); (case hg => rfl); (case hr => first | (go_simp; done) | (go_simp; rfl)); intro gb101 hg w3 hbox hb; have n0_ := Aside0.mk (below_step (B_ HB.out) hb); have n1_ := Aside0.mk (hbox); have n2_ := Aside0.mk ((by rw [hg]; exact (below_size (B_ HB.out)) : w.heap.size ≤ gb101)); have n3_ := Aside0.mk ((by rw [hg]; exact (below_size (B_ HB.out)) : w.heap.size ≤ gb101)); clear HB; have HB := n0_; have BK101 := n1_; have GW101 := n2_; have GE101 := n3_; clear n0_ n1_ n2_ n3_; clear hb hbox hg) | ((with_reducible refine gate_dst (N := 14) rfl ?_); refine Kd.R_make (Kd.int .i64) _ 2 rfl (N := 14) rfl 26 _ _ rfl 10 rfl rfl Try.underlying26 (.int .i64 0) 8 info2 rfl (by decide) (by omega) 0 (ok := fun _ => True) (okp := fun _ => True) rfl (fun _ hk => hk) trivial (by omega) (by omega) (Below.refl _ _) (Nat.le_refl _) ?_; intro v103 w4 ho5 hb hg_ hnew_; clear hg_ hnew_; (first | rw [← Ny102.out] at ho5 | (simp only [Int.reduceToNat] at ho5; rw [← Ny102.out] at ho5)); have HO104 := Aside0.mk (Kd.R_lower ho5 (below_size (B1_ HB.out GE101.out))); replace BK101 := Aside0.mk (blk_below (g := gb101) (o := .cells #[.slice A0_0 l0_0.length c0_0] 29 (0, 0)) (KB_ BK101.out) hb); replace HB := Aside0.mk (below_step (B1_ HB.out GE101.out) hb); clear hb ho5; obtain ⟨Ao6, co6, eo6⟩ := Kd.R_slice HO104.out; subst eo6)); try go_wp2_with (first | ((with_reducible refine gate_dst (N := 1) rfl ?_); refine box_event ?hg (N := 1) ?hd (cs := #[.slice A0_0 l0_0.length c0_0]) (t := 29) ?hr ?_; (case hd => rfl); (case hg => rfl); (case hr => first | (go_simp; done) | (go_simp; rfl)); intro gb101 hg w3 hbox hb; have n0_ := Aside0.mk (below_step (B_ HB.out) hb); have n1_ := Aside0.mk (hbox); have n2_ := Aside0.mk ((by rw [hg]; exact (below_size (B_ HB.out)) : w.heap.size ≤ gb101)); have n3_ := Aside0.mk ((by rw [hg]; exact (below_size (B_ HB.out)) : w.heap.size ≤ gb101)); clear HB; have HB := n0_; have BK101 := n1_; have GW101 := n2_; have GE101 := n3_; clear n0_ n1_ n2_ n3_; clear hb hbox hg) | ((with_reducible refine gate_dst (N := 14) rfl ?_); refine Kd.R_make (Kd.int .i64) _ 2 rfl (N := 14) rfl 26 _ _ rfl 10 rfl rfl Try.underlying26 (.int .i64 0) 8 info2 rfl (by decide) (by omega) 0 (ok := fun _ => True) (okp := fun _ => True) rfl (fun _ hk => hk) trivial (by omega) (by omega) (Below.refl _ _) (Nat.le_refl _) ?_; intro v103 w4 ho5 hb hg_ hnew_; clear hg_ hnew_; (first | rw [← Ny102.out] at ho5 | (simp only [Int.reduceToNat] at ho5; rw [← Ny102.out] at ho5)); have HO104 := Aside0.mk (Kd.R_lower ho5 (below_size (B1_ HB.out GE101.out))); replace BK101 := Aside0.mk (blk_below (g := gb101) (o := .cells #[.slice A0_0 l0_0.length c0_0] 29 (0, 0)) (KB_ BK101.out) hb); replace HB := Aside0.mk (below_step (B1_ HB.out GE101.out) hb); clear hb ho5; obtain ⟨Ao6, co6, eo6⟩ := Kd.R_slice HO104.out; subst eo6)))
 go_loopg [17] k (fun kq v17 w' => ∃ (x3_1 : List Int) (x17_1 : Int), v17 = .int .i64 x17_1 ∧ Aside0 (z59.l0 kq x3_1 (y102.length : Int) x17_1 l0_0 = some r) ∧ Aside0 (kq ≤ k) ∧ Aside0 (Kd.R (Kd.int .i64) 2 w' w.heap.size (fun _ => True) (.slice Ao6 y102.length co6) x3_1) ∧ Aside0 (w'.heap[gb101]? = some (.cells #[(.slice A0_0 l0_0.length c0_0)] 29 (0, 0))) ∧ Aside0 (Below w.heap.size w w'))
 case atStart => exact ⟨(y102), (0), E_, H', ⟨Nat.le_refl _⟩, ⟨KR_ HO104.out⟩, ⟨KB_ BK101.out⟩, ⟨B1_ HB.out GE101.out⟩⟩
 case round =>
  clear H'
  (try clear c2);(try clear c2b0);(try clear c2b1);(try clear p2);(try clear c5)
  obtain ⟨x3_1, x17_1, rfl, HA, HK1, HO_3, BK101, HB⟩ := hrel
  have hl3_1 := (Kd.R_reads' HO_3.out).1
  rw [hl3_1] at HO_3
  (try simp only [hl3_1])
  (try simp only [hl3_1] at BK101)
  cases gk with
  | zero => exact absurd HA.out (by simp [z59.l0])
  | succ k1 =>
   have H := HA.out
   clear HA
   simp only [z59.l0] at H
   by_cases c7 : x17_1 < (y102.length : Int)
   ·rw [if_pos c7] at H
    have c7b0 : decide (x17_1 < (y102.length : Int)) = true := decide_eq_true c7
    (try rw [hl3_1] at c7b0)
    clear c7
    have c8 := O1_ H
    replace H := O2_ H
    have c8b0 := decide_eq_true c8
    (try rw [hl3_1] at c8b0)
    clear c8
    have c9 := O1_ H
    replace H := O2_ H
    have c9b0 := decide_eq_true c9
    (try rw [hl3_1] at c9b0)
    clear c9
    obtain ⟨y105, hy105⟩ : ∃ y_ : List Int, y_ = (x3_1.set (x17_1 : Int).toNat x17_1) := ⟨_, rfl⟩
    replace H : (z59.l0 k1 y105 (y102.length : Int) (wrap64 (x17_1 + 1)) l0_0) = some r := Y_ hy105 H
    have Ny105 := Aside0.mk hy105
    clear hy105
    have H' := Aside0.mk H
    clear H
    have p10 : 0 ≤ (x17_1 : Int) := D_
    have q10 : (x17_1 : Int) < ((x3_1.length : Int) : Int) := D_
    obtain ⟨go10, co10, eo10, gb10, gl10, cl10, HG10⟩ := Kd.R_form HO_3.out (by omega)
    (first | cases eo10 | (injection eo10 with ea_ en_ ec_; (first | subst ea_ | (injection ea_ with ea_; subst ea_)); subst ec_; clear en_))
    have GB10 := Aside0.mk gb10
    have GG10 := Aside0.mk HG10
    clear gb10 gl10 HG10
    obtain ⟨hx10_0, hf10_0⟩ := Kd.R_celln 0 HO_3.out (x17_1 : Int) p10 q10
    replace p10 := eq_true p10
    replace q10 := eq_true q10
    have HP11 := Kd.R_putg HO_3.out (x17_1 : Int) x17_1
    go_wp2_with (first | ((with_reducible refine gate_store (t := 2) (p := 23) rfl ?_); (try (rw [drewN_self wr]; generalize hq_ : World.drewN wr _ = wr; have n0_ := Aside0.mk (Kd.R_at hq_ HO_3.out); have n1_ := Aside0.mk (blk_at hq_ BK101.out); have n2_ := Aside0.mk (below_at hq_ HB.out); clear hq_ HO_3 BK101 HB; have HO_3 := n0_; have BK101 := n1_; have HB := n2_; clear n0_ n1_ n2_; (try (have HP11 := Kd.R_putg HO_3.out (x17_1 : Int) x17_1)))); refine store_event (t := 2) (p := 23) (v := ?vo_w12) (w1 := (wr.setCell ⟨go10, (x17_1 : Int).toNat, none⟩ (.int .i64 x17_1))) ?hg ?ho ?hn ?hr ?_; (case ho => rfl); (case hg => rfl); (case hn => rfl); (case hr => first | (go_simp; done) | (go_simp; rfl)); intro w12 hw; have hg : wr.grownBy w12 (some go10) := (by rw [hw]; exact HP11.2); have hp_ : Kd.R (Kd.int .i64) 2 w12 w.heap.size (fun _ => True) (.slice (some ⟨go10, 0, none⟩) x3_1.length co6) y105 := (by rw [hw, Ny105.out]; exact HP11.1); clear HP11; have n0_ := Aside0.mk (hp_); have n1_ := Aside0.mk (blk_grown (g := gb101) (o := .cells #[.slice A0_0 l0_0.length c0_0] 29 (0, 0)) (KB_ BK101.out) hg (Kd.R_ne HO_3.out BK101.out (by decide))); have n2_ := Aside0.mk ((by rw [hw]; exact below_set (HB.out) GB10.out : Below w.heap.size w w12)); clear HO_3; clear BK101; clear HB; have HO_3 := n0_; have BK101 := n1_; have HB := n2_; clear n0_ n1_ n2_; clear hg hw hp_))
    repeat (go_quiet (first | ((with_reducible refine gate_store (t := 2) (p := 23) rfl ?_); (try (rw [drewN_self wr]; generalize hq_ : World.drewN wr _ = wr; have n0_ := Aside0.mk (Kd.R_at hq_ HO_3.out); have n1_ := Aside0.mk (blk_at hq_ BK101.out); have n2_ := Aside0.mk (below_at hq_ HB.out); clear hq_ HO_3 BK101 HB; have HO_3 := n0_; have BK101 := n1_; have HB := n2_; clear n0_ n1_ n2_; (try (have HP11 := Kd.R_putg HO_3.out (x17_1 : Int) x17_1)))); refine store_event (t := 2) (p := 23) (v := ?vo_w12) (w1 := (wr.setCell ⟨go10, (x17_1 : Int).toNat, none⟩ (.int .i64 x17_1))) ?hg ?ho ?hn ?hr ?_; (case ho => rfl); (case hg => rfl); (case hn => rfl); (case hr => first | (go_simp; done) | (go_simp; rfl)); intro w12 hw; have hg : wr.grownBy w12 (some go10) := (by rw [hw]; exact HP11.2); have hp_ : Kd.R (Kd.int .i64) 2 w12 w.heap.size (fun _ => True) (.slice (some ⟨go10, 0, none⟩) x3_1.length co6) y105 := (by rw [hw, Ny105.out]; exact HP11.1); clear HP11; have n0_ := Aside0.mk (hp_); have n1_ := Aside0.mk (blk_grown (g := gb101) (o := .cells #[.slice A0_0 l0_0.length c0_0] 29 (0, 0)) (KB_ BK101.out) hg (Kd.R_ne HO_3.out BK101.out (by decide))); have n2_ := Aside0.mk ((by rw [hw]; exact below_set (HB.out) GB10.out : Below w.heap.size w w12)); clear HO_3; clear BK101; clear HB; have HO_3 := n0_; have BK101 := n1_; have HB := n2_; clear n0_ n1_ n2_; clear hg hw hp_)); try go_wp2_with (first | ((with_reducible refine gate_store (t := 2) (p := 23) rfl ?_); (try (rw [drewN_self wr]; generalize hq_ : World.drewN wr _ = wr; have n0_ := Aside0.mk (Kd.R_at hq_ HO_3.out); have n1_ := Aside0.mk (blk_at hq_ BK101.out); have n2_ := Aside0.mk (below_at hq_ HB.out); clear hq_ HO_3 BK101 HB; have HO_3 := n0_; have BK101 := n1_; have HB := n2_; clear n0_ n1_ n2_; (try (have HP11 := Kd.R_putg HO_3.out (x17_1 : Int) x17_1)))); refine store_event (t := 2) (p := 23) (v := ?vo_w12) (w1 := (wr.setCell ⟨go10, (x17_1 : Int).toNat, none⟩ (.int .i64 x17_1))) ?hg ?ho ?hn ?hr ?_; (case ho => rfl); (case hg => rfl); (case hn => rfl); (case hr => first | (go_simp; done) | (go_simp; rfl)); intro w12 hw; have hg : wr.grownBy w12 (some go10) := (by rw [hw]; exact HP11.2); have hp_ : Kd.R (Kd.int .i64) 2 w12 w.heap.size (fun _ => True) (.slice (some ⟨go10, 0, none⟩) x3_1.length co6) y105 := (by rw [hw, Ny105.out]; exact HP11.1); clear HP11; have n0_ := Aside0.mk (hp_); have n1_ := Aside0.mk (blk_grown (g := gb101) (o := .cells #[.slice A0_0 l0_0.length c0_0] 29 (0, 0)) (KB_ BK101.out) hg (Kd.R_ne HO_3.out BK101.out (by decide))); have n2_ := Aside0.mk ((by rw [hw]; exact below_set (HB.out) GB10.out : Below w.heap.size w w12)); clear HO_3; clear BK101; clear HB; have HO_3 := n0_; have BK101 := n1_; have HB := n2_; clear n0_ n1_ n2_; clear hg hw hp_)))
    (try simp only [← hl3_1])
    go_roundg k1
    case measure => exact Q1_ HK1
    case rel => exact ⟨(y105), (wrap64 (x17_1 + 1)), E_, H', ⟨Q1_ HK1⟩, ⟨by (try simp only [hl3_1]); (with_reducible repeat (first | apply Kd.R_alloc | apply Kd.R_drewN | apply Kd.R_drew)); exact HO_3.out⟩, ⟨by (try simp only [hl3_1]); (with_reducible repeat (first | refine blk_drewN ?_ _ | refine blk_drew ?_ | refine blk_alloc ?_ _)); exact BK101.out⟩, ⟨B1_ HB.out GE101.out⟩⟩
   ·rw [if_neg c7] at H
    have c7b0 : decide (x17_1 < (y102.length : Int)) = false := decide_eq_false c7
    (try rw [hl3_1] at c7b0)
    clear c7
    have H' := Aside0.mk H
    clear H
    go_wp2
    repeat (go_quiet (fail); try go_wp2)
    go_loopg [5] k1 (fun kq v5 w' => ∃ (x3_2 : List Int) (x5_2 : Bool), v5 = .bool x5_2 ∧ Aside0 (z59.l1 kq x3_2 x5_2 l0_0 = some r) ∧ Aside0 (kq ≤ k1) ∧ Aside0 (Kd.R (Kd.int .i64) 2 w' w.heap.size (fun _ => True) (.slice Ao6 x3_1.length co6) x3_2) ∧ Aside0 (w'.heap[gb101]? = some (.cells #[(.slice A0_0 l0_0.length c0_0)] 29 (0, 0))) ∧ Aside0 (Below w.heap.size w w'))
    case atStart => exact ⟨(x3_1), (true), E_, H', ⟨Nat.le_refl _⟩, ⟨by (try simp only [hl3_1]); (with_reducible repeat (first | apply Kd.R_alloc | apply Kd.R_drewN | apply Kd.R_drew)); exact HO_3.out⟩, ⟨by (try simp only [hl3_1]); (with_reducible repeat (first | refine blk_drewN ?_ _ | refine blk_drew ?_ | refine blk_alloc ?_ _)); exact BK101.out⟩, ⟨B1_ HB.out GE101.out⟩⟩
    case round =>
     clear H'
     (try clear p1);(try clear q1);(try clear hx1);(try clear hf1);(try clear c2);(try clear c2b0);(try clear c2b1);(try clear p2);(try clear c5);(try clear p6);(try clear c7);(try clear c7b0);(try clear c8);(try clear c8b0);(try clear c9);(try clear c9b0);(try clear p10);(try clear q10);(try clear hx10);(try clear hf10);(try clear hx10_0);(try clear p10);(try clear p2);(try clear q10)
     obtain ⟨x3_2, x5_2, rfl, HA, HK2, HO_3, BK101, HB⟩ := hrel
     have hl3_2 := (Kd.R_reads' HO_3.out).1
     rw [hl3_2] at HO_3
     (try simp only [hl3_2])
     (try simp only [hl3_2] at BK101)
     cases gk with
     | zero => exact absurd HA.out (by simp [z59.l1])
     | succ k2 =>
      have H := HA.out
      clear HA
      simp only [z59.l1] at H
      by_cases c13 : x5_2 = true
      ·subst c13
       replace H := T_ H
       replace H := Option.bind_eq_some_iff.mp H
       obtain ⟨t106, A140, H⟩ := H
       have A14 := Aside0.mk A140
       clear A140
       have H' := Aside0.mk H
       clear H
       have hcz15_0 : wr.cell? ⟨gb101, 0, none⟩ = some (.slice A0_0 l0_0.length c0_0) := (blk_cell BK101.out 0).trans rfl
       have hfz15_0 := blk_frozen BK101.out 0
       go_wp2_with (first | (go_at_call 93; (with_reducible refine (z93.calls k2 _ _ l0_0 1 t106 _ ?side1 ?side2 A14.out).mono ?_); (case side1 => exact KC_ (Kd.C_below HR0_0.out HB.out)); (case side2 => exact HC0_0.out); rintro e w16 ⟨v107, rfl, ho0, hb⟩; have n0_ := Aside0.mk (Kd.R_elder' (KR_ HO_3.out) (Kd.R_base ho0) hb); have n1_ := Aside0.mk (Kd.R_lower (Kd.R_new' ho0 (Kd.R_lt (KR_ HO_3.out))) (below_size (B1_ HB.out GE101.out))); have n2_ := Aside0.mk (blk_below (g := gb101) (o := .cells #[.slice A0_0 l0_0.length c0_0] 29 (0, 0)) (KB_ BK101.out) hb); have n3_ := Aside0.mk (below_step (B1_ HB.out GE101.out) hb); clear HO_3; clear BK101; clear HB; have HO_3 := n0_; have HO108 := n1_; have BK101 := n2_; have HB := n3_; clear n0_ n1_ n2_ n3_; (try clear hb); (try clear hb2); (try clear hk); (try clear hi); (try clear ho0); obtain ⟨Ao17, co17, eo17⟩ := Kd.R_slice HO108.out; subst eo17))
       repeat (go_quiet (first | (go_at_call 93; (with_reducible refine (z93.calls k2 _ _ l0_0 1 t106 _ ?side1 ?side2 A14.out).mono ?_); (case side1 => exact KC_ (Kd.C_below HR0_0.out HB.out)); (case side2 => exact HC0_0.out); rintro e w16 ⟨v107, rfl, ho0, hb⟩; have n0_ := Aside0.mk (Kd.R_elder' (KR_ HO_3.out) (Kd.R_base ho0) hb); have n1_ := Aside0.mk (Kd.R_lower (Kd.R_new' ho0 (Kd.R_lt (KR_ HO_3.out))) (below_size (B1_ HB.out GE101.out))); have n2_ := Aside0.mk (blk_below (g := gb101) (o := .cells #[.slice A0_0 l0_0.length c0_0] 29 (0, 0)) (KB_ BK101.out) hb); have n3_ := Aside0.mk (below_step (B1_ HB.out GE101.out) hb); clear HO_3; clear BK101; clear HB; have HO_3 := n0_; have HO108 := n1_; have BK101 := n2_; have HB := n3_; clear n0_ n1_ n2_ n3_; (try clear hb); (try clear hb2); (try clear hk); (try clear hi); (try clear ho0); obtain ⟨Ao17, co17, eo17⟩ := Kd.R_slice HO108.out; subst eo17)); try go_wp2_with (first | (go_at_call 93; (with_reducible refine (z93.calls k2 _ _ l0_0 1 t106 _ ?side1 ?side2 A14.out).mono ?_); (case side1 => exact KC_ (Kd.C_below HR0_0.out HB.out)); (case side2 => exact HC0_0.out); rintro e w16 ⟨v107, rfl, ho0, hb⟩; have n0_ := Aside0.mk (Kd.R_elder' (KR_ HO_3.out) (Kd.R_base ho0) hb); have n1_ := Aside0.mk (Kd.R_lower (Kd.R_new' ho0 (Kd.R_lt (KR_ HO_3.out))) (below_size (B1_ HB.out GE101.out))); have n2_ := Aside0.mk (blk_below (g := gb101) (o := .cells #[.slice A0_0 l0_0.length c0_0] 29 (0, 0)) (KB_ BK101.out) hb); have n3_ := Aside0.mk (below_step (B1_ HB.out GE101.out) hb); clear HO_3; clear BK101; clear HB; have HO_3 := n0_; have HO108 := n1_; have BK101 := n2_; have HB := n3_; clear n0_ n1_ n2_ n3_; (try clear hb); (try clear hb2); (try clear hk); (try clear hi); (try clear ho0); obtain ⟨Ao17, co17, eo17⟩ := Kd.R_slice HO108.out; subst eo17)))
       go_loopg [5, 29] k2 (fun kq v5 v29 w' => ∃ (x3_3 : List Int) (x5_3 : Bool) (x29_3 : Int), v5 = .bool x5_3 ∧ v29 = .int .i64 x29_3 ∧ Aside0 (z59.l2 kq x3_3 x5_3 t106 (t106.length : Int) x29_3 l0_0 = some r) ∧ Aside0 (kq ≤ k2) ∧ Aside0 (Kd.R (Kd.int .i64) 2 w' w.heap.size (fun k_ => some k_ ≠ ((.slice Ao17 t106.length co17) : Value).ownBlock) (.slice Ao6 x3_2.length co6) x3_3) ∧ Aside0 (Kd.R (Kd.int .i64) 2 w' w.heap.size (fun k_ => some k_ ≠ ((.slice Ao6 x3_2.length co6) : Value).ownBlock) (.slice Ao17 t106.length co17) t106) ∧ Aside0 (w'.heap[gb101]? = some (.cells #[(.slice A0_0 l0_0.length c0_0)] 29 (0, 0))) ∧ Aside0 (Below w.heap.size w w'))
       case atStart => exact ⟨(x3_2), (false), (0), E_, E_, H', ⟨Nat.le_refl _⟩, ⟨by (try simp only [hl3_1]); (try simp only [hl3_2]); (with_reducible repeat (first | apply Kd.R_alloc | apply Kd.R_drewN | apply Kd.R_drew)); exact Kd.R_mono HO_3.out (fun _ hk => hk.2)⟩, ⟨by (try simp only [hl3_1]); (try simp only [hl3_2]); (with_reducible repeat (first | apply Kd.R_alloc | apply Kd.R_drewN | apply Kd.R_drew)); exact Kd.R_mono HO108.out (fun _ hk => hk.2)⟩, ⟨by (try simp only [hl3_1]); (try simp only [hl3_2]); (with_reducible repeat (first | refine blk_drewN ?_ _ | refine blk_drew ?_ | refine blk_alloc ?_ _)); exact BK101.out⟩, ⟨B1_ HB.out GE101.out⟩⟩
       case round =>
        clear H'
        (try clear c1);(try clear p1);(try clear q1);(try clear hx1);(try clear hf1);(try clear c2);(try clear c2b0);(try clear c2b1);(try clear p2);(try clear c5);(try clear p6);(try clear c7);(try clear c7b0);(try clear c8);(try clear c8b0);(try clear c9);(try clear c9b0);(try clear p10);(try clear q10);(try clear hx10);(try clear hf10);(try clear c13);(try clear hcz15_0);(try clear hfz15_0);(try clear hx10_0);(try clear p1);(try clear p10);(try clear p2);(try clear p6);(try clear q1);(try clear q10)
        obtain ⟨x3_3, x5_3, x29_3, rfl, rfl, HA, HK3, HO_3, HO_27, BK101, HB⟩ := hrel
        have hl3_3 := (Kd.R_reads' HO_3.out).1
        rw [hl3_3] at HO_3
        (try simp only [hl3_3])
        (try simp only [hl3_3] at BK101)
        (try simp only [hl3_3] at HO_27)
        cases gk with
        | zero => exact absurd HA.out (by simp [z59.l2])
        | succ k3 =>
         have H := HA.out
         clear HA
         simp only [z59.l2] at H
         by_cases c18 : x29_3 < (t106.length : Int)
         ·rw [if_pos c18] at H
          have c18b0 : decide (x29_3 < (t106.length : Int)) = true := decide_eq_true c18
          (try rw [hl3_1] at c18b0)
          (try rw [hl3_2] at c18b0)
          (try rw [hl3_3] at c18b0)
          clear c18
          have c19 := O1_ H
          replace H := O2_ H
          have c19b0 := decide_eq_true c19
          (try rw [hl3_1] at c19b0)
          (try rw [hl3_2] at c19b0)
          (try rw [hl3_3] at c19b0)
          clear c19
          have c20 := O1_ H
          replace H := O2_ H
          have c20b0 := decide_eq_true c20
          (try rw [hl3_1] at c20b0)
          (try rw [hl3_2] at c20b0)
          (try rw [hl3_3] at c20b0)
          clear c20
          have c21 := O1_ H
          replace H := O2_ H
          have c21b0 := decide_eq_true c21
          (try rw [hl3_1] at c21b0)
          (try rw [hl3_2] at c21b0)
          (try rw [hl3_3] at c21b0)
          clear c21
          have c22 := O1_ H
          replace H := O2_ H
          have c22b0 := decide_eq_true c22
          (try rw [hl3_1] at c22b0)
          (try rw [hl3_2] at c22b0)
          (try rw [hl3_3] at c22b0)
          clear c22
          have c23 := O1_ H
          replace H := O2_ H
          have c23b0 := decide_eq_true c23
          have c23b1 : decide (0 < (rd_ListInt l0_0 (rd t106 x29_3)).length) = true := decide_eq_true (by omega)
          (try rw [hl3_1] at c23b0)
          (try rw [hl3_1] at c23b1)
          (try rw [hl3_2] at c23b0)
          (try rw [hl3_2] at c23b1)
          (try rw [hl3_3] at c23b0)
          (try rw [hl3_3] at c23b1)
          clear c23
          have c24 := O1_ H
          replace H := O2_ H
          have c24b0 := decide_eq_true c24
          have c24b1 : decide (1 < (rd_ListInt l0_0 (rd t106 x29_3)).length) = true := decide_eq_true (by omega)
          (try rw [hl3_1] at c24b0)
          (try rw [hl3_1] at c24b1)
          (try rw [hl3_2] at c24b0)
          (try rw [hl3_2] at c24b1)
          (try rw [hl3_3] at c24b0)
          (try rw [hl3_3] at c24b1)
          clear c24
          have c25 := O1_ H
          replace H := O2_ H
          have c25b0 := decide_eq_true c25
          (try rw [hl3_1] at c25b0)
          (try rw [hl3_2] at c25b0)
          (try rw [hl3_3] at c25b0)
          clear c25
          have c26 := O1_ H
          replace H := O2_ H
          have c26b0 := decide_eq_true c26
          (try rw [hl3_1] at c26b0)
          (try rw [hl3_2] at c26b0)
          (try rw [hl3_3] at c26b0)
          clear c26
          have c27 := O1_ H
          replace H := O2_ H
          have c27b0 := decide_eq_true c27
          (try rw [hl3_1] at c27b0)
          (try rw [hl3_2] at c27b0)
          (try rw [hl3_3] at c27b0)
          clear c27
          have c28 := O1_ H
          replace H := O2_ H
          have c28b0 := decide_eq_true c28
          (try rw [hl3_1] at c28b0)
          (try rw [hl3_2] at c28b0)
          (try rw [hl3_3] at c28b0)
          clear c28
          obtain ⟨ji29, hji29⟩ : ∃ j_ : Int, (mn (rd x3_3 (rd (rd_ListInt l0_0 (rd t106 x29_3)) 0)) (rd x3_3 (rd (rd_ListInt l0_0 (rd t106 x29_3)) 1))) = j_ := ⟨_, rfl⟩
          replace H : (if (rd x3_3 (rd (rd_ListInt l0_0 (rd t106 x29_3)) 0)) = (rd x3_3 (rd (rd_ListInt l0_0 (rd t106 x29_3)) 1)) then (z59.l2 k3 x3_3 x5_3 t106 (t106.length : Int) (wrap64 (x29_3 + 1)) l0_0) else (z59.l2 k3 ((x3_3.set ((rd (rd_ListInt l0_0 (rd t106 x29_3)) 0) : Int).toNat (ji29)).set ((rd (rd_ListInt l0_0 (rd t106 x29_3)) 1) : Int).toNat (ji29)) true t106 (t106.length : Int) (wrap64 (x29_3 + 1)) l0_0)) = some r := by first | (rw [hji29] at H; exact H) | (simp only [hji29] at H ⊢; exact H)
          have hji29_ : (if (rd x3_3 (rd (rd_ListInt l0_0 (rd t106 x29_3)) 1)) < (rd x3_3 (rd (rd_ListInt l0_0 (rd t106 x29_3)) 0)) then (rd x3_3 (rd (rd_ListInt l0_0 (rd t106 x29_3)) 1)) else (rd x3_3 (rd (rd_ListInt l0_0 (rd t106 x29_3)) 0))) = ji29 := hji29
          by_cases c30 : (rd x3_3 (rd (rd_ListInt l0_0 (rd t106 x29_3)) 0)) = (rd x3_3 (rd (rd_ListInt l0_0 (rd t106 x29_3)) 1))
          ·rw [if_pos c30] at H
           have c30b0 : ((rd x3_3 (rd (rd_ListInt l0_0 (rd t106 x29_3)) 0)) == (rd x3_3 (rd (rd_ListInt l0_0 (rd t106 x29_3)) 1))) = true := beq_iff_eq.mpr c30
           have c30b1 : ((rd x3_3 (rd (rd_ListInt l0_0 (rd t106 x29_3)) 0)) != (rd x3_3 (rd (rd_ListInt l0_0 (rd t106 x29_3)) 1))) = false := bne_eq_false_iff_eq.mpr c30
           (try rw [hl3_1] at c30b0)
           (try rw [hl3_1] at c30b1)
           (try rw [hl3_2] at c30b0)
           (try rw [hl3_2] at c30b1)
           (try rw [hl3_3] at c30b0)
           (try rw [hl3_3] at c30b1)
           clear c30
           have H' := Aside0.mk H
           clear H
           have p109 : 0 ≤ (x29_3 : Int) := D_
           have q109 : x29_3 < (t106.length : Int) := D_
           obtain ⟨ad109, e109, hx109_0⟩ := Kd.at_int (Kd.R_reads' HO_27.out).2.2 x29_3 p109 q109
           cases e109
           replace p109 := eq_true p109
           replace q109 := eq_true q109
           have hcz31_0 : wr.cell? ⟨gb101, 0, none⟩ = some (.slice A0_0 l0_0.length c0_0) := (blk_cell BK101.out 0).trans rfl
           have hfz31_0 := blk_frozen BK101.out 0
           have p110 : 0 ≤ ((rd t106 x29_3) : Int) := D_
           have q110 : (rd t106 x29_3) < (l0_0.length : Int) := D_
           obtain ⟨ad110, A110_0, c110_0, e110, hx110_0, hl110_0, hi110_0⟩ := at_ListInt HR0_0.out (rd t106 x29_3) p110 q110
           cases e110
           replace hx110_0 := (HB.out.cell (World.block_lt_of_cell? w _ hx110_0)).trans hx110_0
           have HR110_0 := Aside0.mk hi110_0
           have HC110_0 := Aside0.mk hl110_0
           clear hi110_0 hl110_0
           replace p110 := eq_true p110
           replace q110 := eq_true q110
           have p111 : 0 ≤ (0 : Int) := (by omega)
           have q111 : 0 < ((rd_ListInt l0_0 (rd t106 x29_3)).length : Int) := D_
           obtain ⟨ad111, e111, hx111_0⟩ := Kd.at_int HR110_0.out 0 p111 q111
           cases e111
           have qi111 : (0 < (rd_ListInt l0_0 (rd t106 x29_3)).length) = True := eq_true (by omega)
           (try rw [show ((0 : Int)).toNat = 0 from rfl] at hx111_0)
           (try rw [Addr.add_zero'] at hx111_0)
           replace hx111_0 := (HB.out.cell (World.block_lt_of_cell? w _ hx111_0)).trans hx111_0
           replace p111 := eq_true p111
           replace q111 := eq_true q111
           have p112 : 0 ≤ ((rd t106 x29_3) : Int) := D_
           have q112 : (rd t106 x29_3) < (l0_0.length : Int) := D_
           obtain ⟨ad112, A112_0, c112_0, e112, hx112_0, hl112_0, hi112_0⟩ := at_ListInt HR0_0.out (rd t106 x29_3) p112 q112
           obtain rfl : ad110 = ad112 := (by injection e112)
           replace hx112_0 := (HB.out.cell (World.block_lt_of_cell? w _ hx112_0)).trans hx112_0
           have HR112_0 := Aside0.mk hi112_0
           have HC112_0 := Aside0.mk hl112_0
           clear hi112_0 hl112_0
           replace p112 := eq_true p112
           replace q112 := eq_true q112
           have ea_ := Option.some.inj (hx110_0.symm.trans hx112_0)
           injection ea_ with ea_ en_ ec_
           subst ea_
           subst ec_
           clear en_
           have p113 : 0 ≤ (1 : Int) := (by omega)
           have q113 : 1 < ((rd_ListInt l0_0 (rd t106 x29_3)).length : Int) := D_
           obtain ⟨ad113, e113, hx113_0⟩ := Kd.at_int HR112_0.out 1 p113 q113
           cases e113
           (try simp only [show (1 : Int).toNat = 1 from rfl, Nat.reduceMul, Nat.reduceEqDiff, Go.Addr.add, ↓reduceIte] at hx113_0)
           have qi113 : (1 < (rd_ListInt l0_0 (rd t106 x29_3)).length) = True := eq_true (by omega)
           (try rw [show ((1 : Int)).toNat = 1 from rfl] at hx113_0)
           replace hx113_0 := (HB.out.cell (World.block_lt_of_cell? w _ hx113_0)).trans hx113_0
           replace p113 := eq_true p113
           replace q113 := eq_true q113
           have p114 : 0 ≤ ((rd (rd_ListInt l0_0 (rd t106 x29_3)) 0) : Int) := D_
           have q114 : (rd (rd_ListInt l0_0 (rd t106 x29_3)) 0) < (x3_3.length : Int) := D_
           obtain ⟨ad114, e114, hx114_0⟩ := Kd.at_int (Kd.R_reads' HO_3.out).2.2 (rd (rd_ListInt l0_0 (rd t106 x29_3)) 0) p114 q114
           cases e114
           replace p114 := eq_true p114
           replace q114 := eq_true q114
           have p115 : 0 ≤ ((rd (rd_ListInt l0_0 (rd t106 x29_3)) 1) : Int) := D_
           have q115 : (rd (rd_ListInt l0_0 (rd t106 x29_3)) 1) < (x3_3.length : Int) := D_
           obtain ⟨ad115, e115, hx115_0⟩ := Kd.at_int (Kd.R_reads' HO_3.out).2.2 (rd (rd_ListInt l0_0 (rd t106 x29_3)) 1) p115 q115
           obtain rfl : ad114 = ad115 := (by injection e115)
           replace p115 := eq_true p115
           replace q115 := eq_true q115
           have p116 : 0 ≤ ((rd (rd_ListInt l0_0 (rd t106 x29_3)) 0) : Int) := D_
           have q116 : (rd (rd_ListInt l0_0 (rd t106 x29_3)) 0) < (x3_3.length : Int) := D_
           obtain ⟨ad116, e116, hx116_0⟩ := Kd.at_int (Kd.R_reads' HO_3.out).2.2 (rd (rd_ListInt l0_0 (rd t106 x29_3)) 0) p116 q116
           obtain rfl : ad114 = ad116 := (by injection e116)
           replace p116 := eq_true p116
           replace q116 := eq_true q116
           have p117 : 0 ≤ ((rd (rd_ListInt l0_0 (rd t106 x29_3)) 1) : Int) := D_
           have q117 : (rd (rd_ListInt l0_0 (rd t106 x29_3)) 1) < (x3_3.length : Int) := D_
           obtain ⟨ad117, e117, hx117_0⟩ := Kd.at_int (Kd.R_reads' HO_3.out).2.2 (rd (rd_ListInt l0_0 (rd t106 x29_3)) 1) p117 q117
           obtain rfl : ad114 = ad117 := (by injection e117)
           replace p117 := eq_true p117
           replace q117 := eq_true q117
           go_wp2
           repeat (go_quiet (fail); try go_wp2)
           (try simp only [← hl3_3])
           go_roundg k3
           case measure => exact Q3_ HK1 HK2 HK3
           case rel => exact ⟨(x3_3), (x5_3), (wrap64 (x29_3 + 1)), E_, E_, H', ⟨Q3_ HK1 HK2 HK3⟩, ⟨by (try simp only [hl3_1]); (try simp only [hl3_2]); (try simp only [hl3_3]); (with_reducible repeat (first | apply Kd.R_alloc | apply Kd.R_drewN | apply Kd.R_drew)); exact HO_3.out⟩, ⟨by (try simp only [hl3_1]); (try simp only [hl3_2]); (try simp only [hl3_3]); (with_reducible repeat (first | apply Kd.R_alloc | apply Kd.R_drewN | apply Kd.R_drew)); exact HO_27.out⟩, ⟨by (try simp only [hl3_1]); (try simp only [hl3_2]); (try simp only [hl3_3]); (with_reducible repeat (first | refine blk_drewN ?_ _ | refine blk_drew ?_ | refine blk_alloc ?_ _)); exact BK101.out⟩, ⟨B1_ HB.out GE101.out⟩⟩
          ·rw [if_neg c30] at H
           have c30b0 : ((rd x3_3 (rd (rd_ListInt l0_0 (rd t106 x29_3)) 0)) == (rd x3_3 (rd (rd_ListInt l0_0 (rd t106 x29_3)) 1))) = false := beq_eq_false_iff_ne.mpr c30
           have c30b1 : ((rd x3_3 (rd (rd_ListInt l0_0 (rd t106 x29_3)) 0)) != (rd x3_3 (rd (rd_ListInt l0_0 (rd t106 x29_3)) 1))) = true := bne_iff_ne.mpr c30
           (try rw [hl3_1] at c30b0)
           (try rw [hl3_1] at c30b1)
           (try rw [hl3_2] at c30b0)
           (try rw [hl3_2] at c30b1)
           (try rw [hl3_3] at c30b0)
           (try rw [hl3_3] at c30b1)
           obtain ⟨y118, hy118⟩ : ∃ y_ : List Int, y_ = (x3_3.set ((rd (rd_ListInt l0_0 (rd t106 x29_3)) 0) : Int).toNat (ji29)) := ⟨_, rfl⟩
           replace H : (z59.l2 k3 (y118.set ((rd (rd_ListInt l0_0 (rd t106 x29_3)) 1) : Int).toNat (ji29)) true t106 (t106.length : Int) (wrap64 (x29_3 + 1)) l0_0) = some r := Y_ hy118 H
           have Ny118 := Aside0.mk hy118
           clear hy118
           obtain ⟨y119, hy119⟩ : ∃ y_ : List Int, y_ = (y118.set ((rd (rd_ListInt l0_0 (rd t106 x29_3)) 1) : Int).toNat (ji29)) := ⟨_, rfl⟩
           replace H : (z59.l2 k3 y119 true t106 (t106.length : Int) (wrap64 (x29_3 + 1)) l0_0) = some r := Y_ hy119 H
           have Ny119 := Aside0.mk hy119
           clear hy119
           have H' := Aside0.mk H
           clear H
           have p109 : 0 ≤ (x29_3 : Int) := D_
           have q109 : x29_3 < (t106.length : Int) := D_
           obtain ⟨ad109, e109, hx109_0⟩ := Kd.at_int (Kd.R_reads' HO_27.out).2.2 x29_3 p109 q109
           cases e109
           replace p109 := eq_true p109
           replace q109 := eq_true q109
           have hcz34_0 : wr.cell? ⟨gb101, 0, none⟩ = some (.slice A0_0 l0_0.length c0_0) := (blk_cell BK101.out 0).trans rfl
           have hfz34_0 := blk_frozen BK101.out 0
           have p110 : 0 ≤ ((rd t106 x29_3) : Int) := D_
           have q110 : (rd t106 x29_3) < (l0_0.length : Int) := D_
           obtain ⟨ad110, A110_0, c110_0, e110, hx110_0, hl110_0, hi110_0⟩ := at_ListInt HR0_0.out (rd t106 x29_3) p110 q110
           cases e110
           replace hx110_0 := (HB.out.cell (World.block_lt_of_cell? w _ hx110_0)).trans hx110_0
           have HR110_0 := Aside0.mk hi110_0
           have HC110_0 := Aside0.mk hl110_0
           clear hi110_0 hl110_0
           replace p110 := eq_true p110
           replace q110 := eq_true q110
           have p111 : 0 ≤ (0 : Int) := (by omega)
           have q111 : 0 < ((rd_ListInt l0_0 (rd t106 x29_3)).length : Int) := D_
           obtain ⟨ad111, e111, hx111_0⟩ := Kd.at_int HR110_0.out 0 p111 q111
           cases e111
           have qi111 : (0 < (rd_ListInt l0_0 (rd t106 x29_3)).length) = True := eq_true (by omega)
           (try rw [show ((0 : Int)).toNat = 0 from rfl] at hx111_0)
           (try rw [Addr.add_zero'] at hx111_0)
           replace hx111_0 := (HB.out.cell (World.block_lt_of_cell? w _ hx111_0)).trans hx111_0
           replace p111 := eq_true p111
           replace q111 := eq_true q111
           have p112 : 0 ≤ ((rd t106 x29_3) : Int) := D_
           have q112 : (rd t106 x29_3) < (l0_0.length : Int) := D_
           obtain ⟨ad112, A112_0, c112_0, e112, hx112_0, hl112_0, hi112_0⟩ := at_ListInt HR0_0.out (rd t106 x29_3) p112 q112
           obtain rfl : ad110 = ad112 := (by injection e112)
           replace hx112_0 := (HB.out.cell (World.block_lt_of_cell? w _ hx112_0)).trans hx112_0
           have HR112_0 := Aside0.mk hi112_0
           have HC112_0 := Aside0.mk hl112_0
           clear hi112_0 hl112_0
           replace p112 := eq_true p112
           replace q112 := eq_true q112
           have ea_ := Option.some.inj (hx110_0.symm.trans hx112_0)
           injection ea_ with ea_ en_ ec_
           subst ea_
           subst ec_
           clear en_
           have p113 : 0 ≤ (1 : Int) := (by omega)
           have q113 : 1 < ((rd_ListInt l0_0 (rd t106 x29_3)).length : Int) := D_
           obtain ⟨ad113, e113, hx113_0⟩ := Kd.at_int HR112_0.out 1 p113 q113
           cases e113
           (try simp only [show (1 : Int).toNat = 1 from rfl, Nat.reduceMul, Nat.reduceEqDiff, Go.Addr.add, ↓reduceIte] at hx113_0)
           have qi113 : (1 < (rd_ListInt l0_0 (rd t106 x29_3)).length) = True := eq_true (by omega)
           (try rw [show ((1 : Int)).toNat = 1 from rfl] at hx113_0)
           replace hx113_0 := (HB.out.cell (World.block_lt_of_cell? w _ hx113_0)).trans hx113_0
           replace p113 := eq_true p113
           replace q113 := eq_true q113
           have p114 : 0 ≤ ((rd (rd_ListInt l0_0 (rd t106 x29_3)) 0) : Int) := D_
           have q114 : (rd (rd_ListInt l0_0 (rd t106 x29_3)) 0) < (x3_3.length : Int) := D_
           obtain ⟨ad114, e114, hx114_0⟩ := Kd.at_int (Kd.R_reads' HO_3.out).2.2 (rd (rd_ListInt l0_0 (rd t106 x29_3)) 0) p114 q114
           cases e114
           replace p114 := eq_true p114
           replace q114 := eq_true q114
           have p115 : 0 ≤ ((rd (rd_ListInt l0_0 (rd t106 x29_3)) 1) : Int) := D_
           have q115 : (rd (rd_ListInt l0_0 (rd t106 x29_3)) 1) < (x3_3.length : Int) := D_
           obtain ⟨ad115, e115, hx115_0⟩ := Kd.at_int (Kd.R_reads' HO_3.out).2.2 (rd (rd_ListInt l0_0 (rd t106 x29_3)) 1) p115 q115
           obtain rfl : ad114 = ad115 := (by injection e115)
           replace p115 := eq_true p115
           replace q115 := eq_true q115
           have p116 : 0 ≤ ((rd (rd_ListInt l0_0 (rd t106 x29_3)) 0) : Int) := D_
           have q116 : (rd (rd_ListInt l0_0 (rd t106 x29_3)) 0) < (x3_3.length : Int) := D_
           obtain ⟨ad116, e116, hx116_0⟩ := Kd.at_int (Kd.R_reads' HO_3.out).2.2 (rd (rd_ListInt l0_0 (rd t106 x29_3)) 0) p116 q116
           obtain rfl : ad114 = ad116 := (by injection e116)
           replace p116 := eq_true p116
           replace q116 := eq_true q116
           have p117 : 0 ≤ ((rd (rd_ListInt l0_0 (rd t106 x29_3)) 1) : Int) := D_
           have q117 : (rd (rd_ListInt l0_0 (rd t106 x29_3)) 1) < (x3_3.length : Int) := D_
           obtain ⟨ad117, e117, hx117_0⟩ := Kd.at_int (Kd.R_reads' HO_3.out).2.2 (rd (rd_ListInt l0_0 (rd t106 x29_3)) 1) p117 q117
           obtain rfl : ad114 = ad117 := (by injection e117)
           replace p117 := eq_true p117
           replace q117 := eq_true q117
           have p32 : 0 ≤ ((rd (rd_ListInt l0_0 (rd t106 x29_3)) 0) : Int) := D_
           have q32 : ((rd (rd_ListInt l0_0 (rd t106 x29_3)) 0) : Int) < ((x3_3.length : Int) : Int) := D_
           obtain ⟨go32, co32, eo32, gb32, gl32, cl32, HG32⟩ := Kd.R_form HO_3.out (by omega)
           (first | cases eo32 | (injection eo32 with ea_ en_ ec_; (first | subst ea_ | (injection ea_ with ea_; subst ea_)); subst ec_; clear en_))
           have GB32 := Aside0.mk gb32
           have GG32 := Aside0.mk HG32
           clear gb32 gl32 HG32
           (first | simp only [add_plain] at hx114_0 | skip)
           (first | simp only [add_plain] at hx115_0 | skip)
           (first | simp only [add_plain] at hx116_0 | skip)
           (first | simp only [add_plain] at hx117_0 | skip)
           obtain ⟨hx32_0, hf32_0⟩ := Kd.R_celln 0 HO_3.out ((rd (rd_ListInt l0_0 (rd t106 x29_3)) 0) : Int) p32 q32
           replace p32 := eq_true p32
           replace q32 := eq_true q32
           have HP35 := Kd.R_putg HO_3.out ((rd (rd_ListInt l0_0 (rd t106 x29_3)) 0) : Int) ji29
           go_wp2_with (first | ((with_reducible refine gate_store (t := 2) (p := 71) rfl ?_); (try (rw [drewN_self wr]; generalize hq_ : World.drewN wr _ = wr; have n0_ := Aside0.mk (Kd.R_at hq_ HO_3.out); have n1_ := Aside0.mk (Kd.R_at hq_ HO_27.out); have n2_ := Aside0.mk (blk_at hq_ BK101.out); have n3_ := Aside0.mk (below_at hq_ HB.out); clear hq_ HO_3 HO_27 BK101 HB; have HO_3 := n0_; have HO_27 := n1_; have BK101 := n2_; have HB := n3_; clear n0_ n1_ n2_ n3_; (try (have HP35 := Kd.R_putg HO_3.out ((rd (rd_ListInt l0_0 (rd t106 x29_3)) 0) : Int) ji29)); (try (obtain ⟨hv35_, hw35_⟩ := Kd.R_celln 0 HO_3.out ((rd (rd_ListInt l0_0 (rd t106 x29_3)) 0) : Int) (D_) (D_))))); refine store_event (t := 2) (p := 71) (v := ?vo_w36) (w1 := (wr.setCell ⟨go32, ((rd (rd_ListInt l0_0 (rd t106 x29_3)) 0) : Int).toNat, none⟩ (.int .i64 ji29))) ?hg ?ho ?hn ?hr ?_; (case ho => rfl); (case hg => rfl); (case hn => rfl); (case hr => first | (go_simp; done) | (go_simp; rfl)); intro w36 hw; have hg : wr.grownBy w36 (some go32) := (by rw [hw]; exact HP35.2); have hp_ : Kd.R (Kd.int .i64) 2 w36 w.heap.size (fun k_ => some k_ ≠ (.slice (some ad109) t106.length co17 : Value).ownBlock) (.slice (some ⟨go32, 0, none⟩) x3_3.length co6) y118 := (by rw [hw, Ny118.out]; exact HP35.1); clear HP35; have n0_ := Aside0.mk (hp_); have n1_ := Aside0.mk (Kd.R_after (v := (.slice (some ⟨go32, 0, none⟩) x3_3.length co6)) (v1 := (.slice (some ⟨go32, 0, none⟩) x3_3.length co6)) (ok := (fun _ => True)) (by (with_reducible repeat (first | apply Kd.R_alloc | apply Kd.R_drewN | apply Kd.R_drew)); exact Kd.R_mono HO_27.out (fun _ hk => ⟨trivial, hk⟩)) hg (.inl rfl)); have n2_ := Aside0.mk (blk_grown (g := gb101) (o := .cells #[.slice (some ad110) l0_0.length c0_0] 29 (0, 0)) (KB_ BK101.out) hg (Kd.R_ne HO_3.out BK101.out (by decide))); have n3_ := Aside0.mk ((by rw [hw]; exact below_set (HB.out) GB32.out : Below w.heap.size w w36)); clear HO_3; clear HO_27; clear BK101; clear HB; have HO_3 := n0_; have HO_27 := n1_; have BK101 := n2_; have HB := n3_; clear n0_ n1_ n2_ n3_; clear hg hw hp_; have p33 : 0 ≤ ((rd (rd_ListInt l0_0 (rd t106 x29_3)) 1) : Int) := D_; have q33 : ((rd (rd_ListInt l0_0 (rd t106 x29_3)) 1) : Int) < ((x3_3.length : Int) : Int) := D_; obtain ⟨hx33_0, hf33_0⟩ := Kd.R_celln 0 HO_3.out ((rd (rd_ListInt l0_0 (rd t106 x29_3)) 1) : Int) p33 q33; replace p33 := eq_true p33; replace q33 := eq_true q33; obtain ⟨hy37_, hz37_⟩ := Kd.R_celln 0 HO_3.out ((rd (rd_ListInt l0_0 (rd t106 x29_3)) 1) : Int) (D_) (D_); have HP37 := Kd.R_putg HO_3.out ((rd (rd_ListInt l0_0 (rd t106 x29_3)) 1) : Int) ji29) | ((with_reducible refine gate_store (t := 2) (p := 72) rfl ?_); (try (rw [drewN_self w36]; generalize hq_ : World.drewN w36 _ = w36; have n0_ := Aside0.mk (Kd.R_at hq_ HO_3.out); have n1_ := Aside0.mk (Kd.R_at hq_ HO_27.out); have n2_ := Aside0.mk (blk_at hq_ BK101.out); have n3_ := Aside0.mk (below_at hq_ HB.out); clear hq_ HO_3 HO_27 BK101 HB; have HO_3 := n0_; have HO_27 := n1_; have BK101 := n2_; have HB := n3_; clear n0_ n1_ n2_ n3_; (try (obtain ⟨hy37_, hz37_⟩ := Kd.R_celln 0 HO_3.out ((rd (rd_ListInt l0_0 (rd t106 x29_3)) 1) : Int) (D_) (D_))); (try (have HP37 := Kd.R_putg HO_3.out ((rd (rd_ListInt l0_0 (rd t106 x29_3)) 1) : Int) ji29)))); refine store_event (t := 2) (p := 72) (v := ?vo_w38) (w1 := (w36.setCell ⟨go32, ((rd (rd_ListInt l0_0 (rd t106 x29_3)) 1) : Int).toNat, none⟩ (.int .i64 ji29))) ?hg ?ho ?hn ?hr ?_; (case ho => rfl); (case hg => rfl); (case hn => rfl); (case hr => first | (go_simp; done) | (go_simp; rfl)); intro w38 hw; have hg : w36.grownBy w38 (some go32) := (by rw [hw]; exact HP37.2); have hp_ : Kd.R (Kd.int .i64) 2 w38 w.heap.size (fun k_ => some k_ ≠ (.slice (some ad109) t106.length co17 : Value).ownBlock) (.slice (some ⟨go32, 0, none⟩) x3_3.length co6) y119 := (by rw [hw, Ny119.out]; exact HP37.1); clear HP37; have n0_ := Aside0.mk (hp_); have n1_ := Aside0.mk (Kd.R_after (v := (.slice (some ⟨go32, 0, none⟩) x3_3.length co6)) (v1 := (.slice (some ⟨go32, 0, none⟩) x3_3.length co6)) (ok := (fun _ => True)) (KR_ HO_27.out) hg (.inl rfl)); have n2_ := Aside0.mk (blk_grown (g := gb101) (o := .cells #[.slice (some ad110) l0_0.length c0_0] 29 (0, 0)) (KB_ BK101.out) hg (Kd.R_ne HO_3.out BK101.out (by decide))); have n3_ := Aside0.mk ((by rw [hw]; exact below_set (HB.out) GB32.out : Below w.heap.size w w38)); clear HO_3; clear HO_27; clear BK101; clear HB; have HO_3 := n0_; have HO_27 := n1_; have BK101 := n2_; have HB := n3_; clear n0_ n1_ n2_ n3_; clear hg hw hp_))
           repeat (go_quiet (first | ((with_reducible refine gate_store (t := 2) (p := 71) rfl ?_); (try (rw [drewN_self wr]; generalize hq_ : World.drewN wr _ = wr; have n0_ := Aside0.mk (Kd.R_at hq_ HO_3.out); have n1_ := Aside0.mk (Kd.R_at hq_ HO_27.out); have n2_ := Aside0.mk (blk_at hq_ BK101.out); have n3_ := Aside0.mk (below_at hq_ HB.out); clear hq_ HO_3 HO_27 BK101 HB; have HO_3 := n0_; have HO_27 := n1_; have BK101 := n2_; have HB := n3_; clear n0_ n1_ n2_ n3_; (try (have HP35 := Kd.R_putg HO_3.out ((rd (rd_ListInt l0_0 (rd t106 x29_3)) 0) : Int) ji29)); (try (obtain ⟨hv35_, hw35_⟩ := Kd.R_celln 0 HO_3.out ((rd (rd_ListInt l0_0 (rd t106 x29_3)) 0) : Int) (D_) (D_))))); refine store_event (t := 2) (p := 71) (v := ?vo_w36) (w1 := (wr.setCell ⟨go32, ((rd (rd_ListInt l0_0 (rd t106 x29_3)) 0) : Int).toNat, none⟩ (.int .i64 ji29))) ?hg ?ho ?hn ?hr ?_; (case ho => rfl); (case hg => rfl); (case hn => rfl); (case hr => first | (go_simp; done) | (go_simp; rfl)); intro w36 hw; have hg : wr.grownBy w36 (some go32) := (by rw [hw]; exact HP35.2); have hp_ : Kd.R (Kd.int .i64) 2 w36 w.heap.size (fun k_ => some k_ ≠ (.slice (some ad109) t106.length co17 : Value).ownBlock) (.slice (some ⟨go32, 0, none⟩) x3_3.length co6) y118 := (by rw [hw, Ny118.out]; exact HP35.1); clear HP35; have n0_ := Aside0.mk (hp_); have n1_ := Aside0.mk (Kd.R_after (v := (.slice (some ⟨go32, 0, none⟩) x3_3.length co6)) (v1 := (.slice (some ⟨go32, 0, none⟩) x3_3.length co6)) (ok := (fun _ => True)) (by (with_reducible repeat (first | apply Kd.R_alloc | apply Kd.R_drewN | apply Kd.R_drew)); exact Kd.R_mono HO_27.out (fun _ hk => ⟨trivial, hk⟩)) hg (.inl rfl)); have n2_ := Aside0.mk (blk_grown (g := gb101) (o := .cells #[.slice (some ad110) l0_0.length c0_0] 29 (0, 0)) (KB_ BK101.out) hg (Kd.R_ne HO_3.out BK101.out (by decide))); have n3_ := Aside0.mk ((by rw [hw]; exact below_set (HB.out) GB32.out : Below w.heap.size w w36)); clear HO_3; clear HO_27; clear BK101; clear HB; have HO_3 := n0_; have HO_27 := n1_; have BK101 := n2_; have HB := n3_; clear n0_ n1_ n2_ n3_; clear hg hw hp_; have p33 : 0 ≤ ((rd (rd_ListInt l0_0 (rd t106 x29_3)) 1) : Int) := D_; have q33 : ((rd (rd_ListInt l0_0 (rd t106 x29_3)) 1) : Int) < ((x3_3.length : Int) : Int) := D_; obtain ⟨hx33_0, hf33_0⟩ := Kd.R_celln 0 HO_3.out ((rd (rd_ListInt l0_0 (rd t106 x29_3)) 1) : Int) p33 q33; replace p33 := eq_true p33; replace q33 := eq_true q33; obtain ⟨hy37_, hz37_⟩ := Kd.R_celln 0 HO_3.out ((rd (rd_ListInt l0_0 (rd t106 x29_3)) 1) : Int) (D_) (D_); have HP37 := Kd.R_putg HO_3.out ((rd (rd_ListInt l0_0 (rd t106 x29_3)) 1) : Int) ji29) | ((with_reducible refine gate_store (t := 2) (p := 72) rfl ?_); (try (rw [drewN_self w36]; generalize hq_ : World.drewN w36 _ = w36; have n0_ := Aside0.mk (Kd.R_at hq_ HO_3.out); have n1_ := Aside0.mk (Kd.R_at hq_ HO_27.out); have n2_ := Aside0.mk (blk_at hq_ BK101.out); have n3_ := Aside0.mk (below_at hq_ HB.out); clear hq_ HO_3 HO_27 BK101 HB; have HO_3 := n0_; have HO_27 := n1_; have BK101 := n2_; have HB := n3_; clear n0_ n1_ n2_ n3_; (try (obtain ⟨hy37_, hz37_⟩ := Kd.R_celln 0 HO_3.out ((rd (rd_ListInt l0_0 (rd t106 x29_3)) 1) : Int) (D_) (D_))); (try (have HP37 := Kd.R_putg HO_3.out ((rd (rd_ListInt l0_0 (rd t106 x29_3)) 1) : Int) ji29)))); refine store_event (t := 2) (p := 72) (v := ?vo_w38) (w1 := (w36.setCell ⟨go32, ((rd (rd_ListInt l0_0 (rd t106 x29_3)) 1) : Int).toNat, none⟩ (.int .i64 ji29))) ?hg ?ho ?hn ?hr ?_; (case ho => rfl); (case hg => rfl); (case hn => rfl); (case hr => first | (go_simp; done) | (go_simp; rfl)); intro w38 hw; have hg : w36.grownBy w38 (some go32) := (by rw [hw]; exact HP37.2); have hp_ : Kd.R (Kd.int .i64) 2 w38 w.heap.size (fun k_ => some k_ ≠ (.slice (some ad109) t106.length co17 : Value).ownBlock) (.slice (some ⟨go32, 0, none⟩) x3_3.length co6) y119 := (by rw [hw, Ny119.out]; exact HP37.1); clear HP37; have n0_ := Aside0.mk (hp_); have n1_ := Aside0.mk (Kd.R_after (v := (.slice (some ⟨go32, 0, none⟩) x3_3.length co6)) (v1 := (.slice (some ⟨go32, 0, none⟩) x3_3.length co6)) (ok := (fun _ => True)) (KR_ HO_27.out) hg (.inl rfl)); have n2_ := Aside0.mk (blk_grown (g := gb101) (o := .cells #[.slice (some ad110) l0_0.length c0_0] 29 (0, 0)) (KB_ BK101.out) hg (Kd.R_ne HO_3.out BK101.out (by decide))); have n3_ := Aside0.mk ((by rw [hw]; exact below_set (HB.out) GB32.out : Below w.heap.size w w38)); clear HO_3; clear HO_27; clear BK101; clear HB; have HO_3 := n0_; have HO_27 := n1_; have BK101 := n2_; have HB := n3_; clear n0_ n1_ n2_ n3_; clear hg hw hp_)); try go_wp2_with (first | ((with_reducible refine gate_store (t := 2) (p := 71) rfl ?_); (try (rw [drewN_self wr]; generalize hq_ : World.drewN wr _ = wr; have n0_ := Aside0.mk (Kd.R_at hq_ HO_3.out); have n1_ := Aside0.mk (Kd.R_at hq_ HO_27.out); have n2_ := Aside0.mk (blk_at hq_ BK101.out); have n3_ := Aside0.mk (below_at hq_ HB.out); clear hq_ HO_3 HO_27 BK101 HB; have HO_3 := n0_; have HO_27 := n1_; have BK101 := n2_; have HB := n3_; clear n0_ n1_ n2_ n3_; (try (have HP35 := Kd.R_putg HO_3.out ((rd (rd_ListInt l0_0 (rd t106 x29_3)) 0) : Int) ji29)); (try (obtain ⟨hv35_, hw35_⟩ := Kd.R_celln 0 HO_3.out ((rd (rd_ListInt l0_0 (rd t106 x29_3)) 0) : Int) (D_) (D_))))); refine store_event (t := 2) (p := 71) (v := ?vo_w36) (w1 := (wr.setCell ⟨go32, ((rd (rd_ListInt l0_0 (rd t106 x29_3)) 0) : Int).toNat, none⟩ (.int .i64 ji29))) ?hg ?ho ?hn ?hr ?_; (case ho => rfl); (case hg => rfl); (case hn => rfl); (case hr => first | (go_simp; done) | (go_simp; rfl)); intro w36 hw; have hg : wr.grownBy w36 (some go32) := (by rw [hw]; exact HP35.2); have hp_ : Kd.R (Kd.int .i64) 2 w36 w.heap.size (fun k_ => some k_ ≠ (.slice (some ad109) t106.length co17 : Value).ownBlock) (.slice (some ⟨go32, 0, none⟩) x3_3.length co6) y118 := (by rw [hw, Ny118.out]; exact HP35.1); clear HP35; have n0_ := Aside0.mk (hp_); have n1_ := Aside0.mk (Kd.R_after (v := (.slice (some ⟨go32, 0, none⟩) x3_3.length co6)) (v1 := (.slice (some ⟨go32, 0, none⟩) x3_3.length co6)) (ok := (fun _ => True)) (by (with_reducible repeat (first | apply Kd.R_alloc | apply Kd.R_drewN | apply Kd.R_drew)); exact Kd.R_mono HO_27.out (fun _ hk => ⟨trivial, hk⟩)) hg (.inl rfl)); have n2_ := Aside0.mk (blk_grown (g := gb101) (o := .cells #[.slice (some ad110) l0_0.length c0_0] 29 (0, 0)) (KB_ BK101.out) hg (Kd.R_ne HO_3.out BK101.out (by decide))); have n3_ := Aside0.mk ((by rw [hw]; exact below_set (HB.out) GB32.out : Below w.heap.size w w36)); clear HO_3; clear HO_27; clear BK101; clear HB; have HO_3 := n0_; have HO_27 := n1_; have BK101 := n2_; have HB := n3_; clear n0_ n1_ n2_ n3_; clear hg hw hp_; have p33 : 0 ≤ ((rd (rd_ListInt l0_0 (rd t106 x29_3)) 1) : Int) := D_; have q33 : ((rd (rd_ListInt l0_0 (rd t106 x29_3)) 1) : Int) < ((x3_3.length : Int) : Int) := D_; obtain ⟨hx33_0, hf33_0⟩ := Kd.R_celln 0 HO_3.out ((rd (rd_ListInt l0_0 (rd t106 x29_3)) 1) : Int) p33 q33; replace p33 := eq_true p33; replace q33 := eq_true q33; obtain ⟨hy37_, hz37_⟩ := Kd.R_celln 0 HO_3.out ((rd (rd_ListInt l0_0 (rd t106 x29_3)) 1) : Int) (D_) (D_); have HP37 := Kd.R_putg HO_3.out ((rd (rd_ListInt l0_0 (rd t106 x29_3)) 1) : Int) ji29) | ((with_reducible refine gate_store (t := 2) (p := 72) rfl ?_); (try (rw [drewN_self w36]; generalize hq_ : World.drewN w36 _ = w36; have n0_ := Aside0.mk (Kd.R_at hq_ HO_3.out); have n1_ := Aside0.mk (Kd.R_at hq_ HO_27.out); have n2_ := Aside0.mk (blk_at hq_ BK101.out); have n3_ := Aside0.mk (below_at hq_ HB.out); clear hq_ HO_3 HO_27 BK101 HB; have HO_3 := n0_; have HO_27 := n1_; have BK101 := n2_; have HB := n3_; clear n0_ n1_ n2_ n3_; (try (obtain ⟨hy37_, hz37_⟩ := Kd.R_celln 0 HO_3.out ((rd (rd_ListInt l0_0 (rd t106 x29_3)) 1) : Int) (D_) (D_))); (try (have HP37 := Kd.R_putg HO_3.out ((rd (rd_ListInt l0_0 (rd t106 x29_3)) 1) : Int) ji29)))); refine store_event (t := 2) (p := 72) (v := ?vo_w38) (w1 := (w36.setCell ⟨go32, ((rd (rd_ListInt l0_0 (rd t106 x29_3)) 1) : Int).toNat, none⟩ (.int .i64 ji29))) ?hg ?ho ?hn ?hr ?_; (case ho => rfl); (case hg => rfl); (case hn => rfl); (case hr => first | (go_simp; done) | (go_simp; rfl)); intro w38 hw; have hg : w36.grownBy w38 (some go32) := (by rw [hw]; exact HP37.2); have hp_ : Kd.R (Kd.int .i64) 2 w38 w.heap.size (fun k_ => some k_ ≠ (.slice (some ad109) t106.length co17 : Value).ownBlock) (.slice (some ⟨go32, 0, none⟩) x3_3.length co6) y119 := (by rw [hw, Ny119.out]; exact HP37.1); clear HP37; have n0_ := Aside0.mk (hp_); have n1_ := Aside0.mk (Kd.R_after (v := (.slice (some ⟨go32, 0, none⟩) x3_3.length co6)) (v1 := (.slice (some ⟨go32, 0, none⟩) x3_3.length co6)) (ok := (fun _ => True)) (KR_ HO_27.out) hg (.inl rfl)); have n2_ := Aside0.mk (blk_grown (g := gb101) (o := .cells #[.slice (some ad110) l0_0.length c0_0] 29 (0, 0)) (KB_ BK101.out) hg (Kd.R_ne HO_3.out BK101.out (by decide))); have n3_ := Aside0.mk ((by rw [hw]; exact below_set (HB.out) GB32.out : Below w.heap.size w w38)); clear HO_3; clear HO_27; clear BK101; clear HB; have HO_3 := n0_; have HO_27 := n1_; have BK101 := n2_; have HB := n3_; clear n0_ n1_ n2_ n3_; clear hg hw hp_)))
           (try simp only [← hl3_3])
           go_roundg k3
           case measure => exact Q3_ HK1 HK2 HK3
           case rel => exact ⟨(y119), (true), (wrap64 (x29_3 + 1)), E_, E_, H', ⟨Q3_ HK1 HK2 HK3⟩, ⟨by (try simp only [hl3_1]); (try simp only [hl3_2]); (try simp only [hl3_3]); (with_reducible repeat (first | apply Kd.R_alloc | apply Kd.R_drewN | apply Kd.R_drew)); exact HO_3.out⟩, ⟨by (try simp only [hl3_1]); (try simp only [hl3_2]); (try simp only [hl3_3]); (with_reducible repeat (first | apply Kd.R_alloc | apply Kd.R_drewN | apply Kd.R_drew)); exact Kd.R_mono HO_27.out (fun _ hk => hk.2)⟩, ⟨by (try simp only [hl3_1]); (try simp only [hl3_2]); (try simp only [hl3_3]); (with_reducible repeat (first | refine blk_drewN ?_ _ | refine blk_drew ?_ | refine blk_alloc ?_ _)); exact BK101.out⟩, ⟨B1_ HB.out GE101.out⟩⟩
         ·rw [if_neg c18] at H
          have c18b0 : decide (x29_3 < (t106.length : Int)) = false := decide_eq_false c18
          (try rw [hl3_1] at c18b0)
          (try rw [hl3_2] at c18b0)
          (try rw [hl3_3] at c18b0)
          clear c18
          have H' := Aside0.mk H
          clear H
          go_wp2
          repeat (go_quiet (fail); try go_wp2)
          (try simp only [← hl3_2, ← hl3_3])
          go_roundg k3
          case measure => exact Q3_ HK1 HK2 HK3
          case rel => exact ⟨(x3_3), (x5_3), E_, H', ⟨Q3_ HK1 HK2 HK3⟩, ⟨by (try simp only [hl3_1]); (try simp only [hl3_2]); (try simp only [hl3_3]); (with_reducible repeat (first | apply Kd.R_alloc | apply Kd.R_drewN | apply Kd.R_drew)); exact Kd.R_mono HO_3.out (fun _ hk => trivial)⟩, ⟨by (try simp only [hl3_1]); (try simp only [hl3_2]); (try simp only [hl3_3]); (with_reducible repeat (first | refine blk_drewN ?_ _ | refine blk_drew ?_ | refine blk_alloc ?_ _)); exact BK101.out⟩, ⟨B1_ HB.out GE101.out⟩⟩
      ·replace c13 := Bool.eq_false_iff.mpr c13
       subst c13
       replace H := N_ H
       replace H := Option.bind_eq_some_iff.mp H
       obtain ⟨t120, A390, H⟩ := H
       have A39 := Aside0.mk A390
       clear A390
       have H' := Aside0.mk H
       clear H
       have hcz40_0 : wr.cell? ⟨gb101, 0, none⟩ = some (.slice A0_0 l0_0.length c0_0) := (blk_cell BK101.out 0).trans rfl
       have hfz40_0 := blk_frozen BK101.out 0
       go_wp2_with (first | (go_at_call 112; (with_reducible refine (z112.calls k2 _ _ l0_0 t120 _ ?side1 ?side2 A39.out).mono ?_); (case side1 => exact KC_ (Kd.C_below HR0_0.out HB.out)); (case side2 => exact HC0_0.out); rintro e w41 ⟨v121, rfl, ho0, hb⟩; have n0_ := Aside0.mk (Kd.R_elder' (KR_ HO_3.out) (Kd.R_base ho0) hb); have n1_ := Aside0.mk (Kd.R_lower (Kd.R_new' ho0 (Kd.R_lt (KR_ HO_3.out))) (below_size (B1_ HB.out GE101.out))); have n2_ := Aside0.mk (blk_below (g := gb101) (o := .cells #[.slice A0_0 l0_0.length c0_0] 29 (0, 0)) (KB_ BK101.out) hb); have n3_ := Aside0.mk (below_step (B1_ HB.out GE101.out) hb); clear HO_3; clear BK101; clear HB; have HO_3 := n0_; have HO122 := n1_; have BK101 := n2_; have HB := n3_; clear n0_ n1_ n2_ n3_; (try clear hb); (try clear hb2); (try clear hk); (try clear hi); (try clear ho0); obtain ⟨Ao42, co42, eo42⟩ := Kd.R_slice HO122.out; subst eo42))
       repeat (go_quiet (first | (go_at_call 112; (with_reducible refine (z112.calls k2 _ _ l0_0 t120 _ ?side1 ?side2 A39.out).mono ?_); (case side1 => exact KC_ (Kd.C_below HR0_0.out HB.out)); (case side2 => exact HC0_0.out); rintro e w41 ⟨v121, rfl, ho0, hb⟩; have n0_ := Aside0.mk (Kd.R_elder' (KR_ HO_3.out) (Kd.R_base ho0) hb); have n1_ := Aside0.mk (Kd.R_lower (Kd.R_new' ho0 (Kd.R_lt (KR_ HO_3.out))) (below_size (B1_ HB.out GE101.out))); have n2_ := Aside0.mk (blk_below (g := gb101) (o := .cells #[.slice A0_0 l0_0.length c0_0] 29 (0, 0)) (KB_ BK101.out) hb); have n3_ := Aside0.mk (below_step (B1_ HB.out GE101.out) hb); clear HO_3; clear BK101; clear HB; have HO_3 := n0_; have HO122 := n1_; have BK101 := n2_; have HB := n3_; clear n0_ n1_ n2_ n3_; (try clear hb); (try clear hb2); (try clear hk); (try clear hi); (try clear ho0); obtain ⟨Ao42, co42, eo42⟩ := Kd.R_slice HO122.out; subst eo42)); try go_wp2_with (first | (go_at_call 112; (with_reducible refine (z112.calls k2 _ _ l0_0 t120 _ ?side1 ?side2 A39.out).mono ?_); (case side1 => exact KC_ (Kd.C_below HR0_0.out HB.out)); (case side2 => exact HC0_0.out); rintro e w41 ⟨v121, rfl, ho0, hb⟩; have n0_ := Aside0.mk (Kd.R_elder' (KR_ HO_3.out) (Kd.R_base ho0) hb); have n1_ := Aside0.mk (Kd.R_lower (Kd.R_new' ho0 (Kd.R_lt (KR_ HO_3.out))) (below_size (B1_ HB.out GE101.out))); have n2_ := Aside0.mk (blk_below (g := gb101) (o := .cells #[.slice A0_0 l0_0.length c0_0] 29 (0, 0)) (KB_ BK101.out) hb); have n3_ := Aside0.mk (below_step (B1_ HB.out GE101.out) hb); clear HO_3; clear BK101; clear HB; have HO_3 := n0_; have HO122 := n1_; have BK101 := n2_; have HB := n3_; clear n0_ n1_ n2_ n3_; (try clear hb); (try clear hb2); (try clear hk); (try clear hi); (try clear ho0); obtain ⟨Ao42, co42, eo42⟩ := Kd.R_slice HO122.out; subst eo42)))
       go_loopg [11, 77] k2 (fun kq v11 v77 w' => ∃ (x11_3 : List Int) (x77_3 : Int), v77 = .int .i64 x77_3 ∧ Aside0 (z59.l3 kq x3_2 x11_3 t120 (t120.length : Int) x77_3 = some r) ∧ Aside0 (kq ≤ k2) ∧ Aside0 (Kd.R (Kd.int .i64) 2 w' w.heap.size (fun k_ => some k_ ≠ (v11 : Value).ownBlock ∧ some k_ ≠ ((.slice Ao42 t120.length co42) : Value).ownBlock) (.slice Ao6 x3_2.length co6) x3_2) ∧ Aside0 (Kd.R (Kd.int .i64) 2 w' w.heap.size (fun k_ => some k_ ≠ ((.slice Ao6 x3_2.length co6) : Value).ownBlock ∧ some k_ ≠ ((.slice Ao42 t120.length co42) : Value).ownBlock) v11 x11_3) ∧ Aside0 (Kd.R (Kd.int .i64) 2 w' w.heap.size (fun k_ => some k_ ≠ ((.slice Ao6 x3_2.length co6) : Value).ownBlock ∧ some k_ ≠ (v11 : Value).ownBlock) (.slice Ao42 t120.length co42) t120) ∧ Aside0 (w'.heap[gb101]? = some (.cells #[(.slice A0_0 l0_0.length c0_0)] 29 (0, 0))) ∧ Aside0 (Below w.heap.size w w'))
       case atStart => exact ⟨(([] : List Int)), (0), E_, H', ⟨Nat.le_refl _⟩, ⟨by (try simp only [hl3_1]); (try simp only [hl3_2]); (with_reducible repeat (first | apply Kd.R_alloc | apply Kd.R_drewN | apply Kd.R_drew)); exact Kd.R_mono HO_3.out (fun _ hk => ⟨(by simp [Value.ownBlock]), hk.2⟩)⟩, ⟨by (try simp only [hl3_1]); (try simp only [hl3_2]); first | exact Kd.R_nil _ _ _ _ _ | exact Kd.N_nil _ _ _ _ _ | exact Kd.V_nil _ _ _ _ _ | exact Kd.Q_nil _ _ _ _ _ | exact Kd.S_nil _ _ _ _ _⟩, ⟨by (try simp only [hl3_1]); (try simp only [hl3_2]); (with_reducible repeat (first | apply Kd.R_alloc | apply Kd.R_drewN | apply Kd.R_drew)); exact Kd.R_mono HO122.out (fun _ hk => ⟨hk.2, (by simp [Value.ownBlock])⟩)⟩, ⟨by (try simp only [hl3_1]); (try simp only [hl3_2]); (with_reducible repeat (first | refine blk_drewN ?_ _ | refine blk_drew ?_ | refine blk_alloc ?_ _)); exact BK101.out⟩, ⟨B1_ HB.out GE101.out⟩⟩
       case round =>
        clear H'
        (try clear c1);(try clear p1);(try clear q1);(try clear hx1);(try clear qi1);(try clear hf1);(try clear c2);(try clear c2b0);(try clear c2b1);(try clear p2);(try clear c3);(try clear p3);(try clear q3);(try clear hx3);(try clear hf3);(try clear c5);(try clear p6);(try clear c7);(try clear c7b0);(try clear c8);(try clear c8b0);(try clear c9);(try clear c9b0);(try clear p10);(try clear q10);(try clear hx10);(try clear hf10);(try clear c11);(try clear p11);(try clear q11);(try clear hx11);(try clear qi11);(try clear c13);(try clear c18);(try clear c18b0);(try clear c19);(try clear c19b0);(try clear c20);(try clear c20b0);(try clear c21);(try clear c21b0);(try clear c22);(try clear c22b0);(try clear c23);(try clear c23b0);(try clear c23b1);(try clear c24);(try clear c24b0);(try clear c24b1);(try clear c25);(try clear c25b0);(try clear c26);(try clear c26b0);(try clear c27);(try clear c27b0);(try clear c28)
        (try clear c28b0);(try clear c30);(try clear c30b0);(try clear c30b1);(try clear p32);(try clear q32);(try clear hx32);(try clear hf32);(try clear p33);(try clear q33);(try clear hx33);(try clear hf33);(try clear hcz15_0);(try clear hcz31_0);(try clear hcz34_0);(try clear hcz40_0);(try clear hfz15_0);(try clear hfz31_0);(try clear hfz34_0);(try clear hfz40_0);(try clear hx109_0);(try clear hx10_0);(try clear hx110_0);(try clear hx111_0);(try clear hx112_0);(try clear hx113_0);(try clear hx114_0);(try clear hx115_0);(try clear hx116_0);(try clear hx117_0);(try clear hx32_0);(try clear hx33_0);(try clear p1);(try clear p10);(try clear p109);(try clear p110);(try clear p111);(try clear p112);(try clear p113);(try clear p114);(try clear p115);(try clear p116);(try clear p117);(try clear p2);(try clear p32);(try clear p33);(try clear p6);(try clear q1);(try clear q10);(try clear q109);(try clear q110)
        (try clear q111);(try clear q112);(try clear q113);(try clear q114);(try clear q115);(try clear q116);(try clear q117);(try clear q32);(try clear q33)
        obtain ⟨x11_3, x77_3, rfl, HA, HK3, HO_3, HO_11, HO_75, BK101, HB⟩ := hrel
        cases gk with
        | zero => exact absurd HA.out (by simp [z59.l3])
        | succ k3 =>
         have H := HA.out
         clear HA
         simp only [z59.l3] at H
         by_cases c43 : x77_3 < (t120.length : Int)
         ·rw [if_pos c43] at H
          have c43b0 : decide (x77_3 < (t120.length : Int)) = true := decide_eq_true c43
          (try rw [hl3_1] at c43b0)
          (try rw [hl3_2] at c43b0)
          clear c43
          have c44 := O1_ H
          replace H := O2_ H
          have c44b0 := decide_eq_true c44
          (try rw [hl3_1] at c44b0)
          (try rw [hl3_2] at c44b0)
          clear c44
          have c45 := O1_ H
          replace H := O2_ H
          have c45b0 := decide_eq_true c45
          (try rw [hl3_1] at c45b0)
          (try rw [hl3_2] at c45b0)
          clear c45
          have c46 := O1_ H
          replace H := O2_ H
          have c46b0 := decide_eq_true c46
          (try rw [hl3_1] at c46b0)
          (try rw [hl3_2] at c46b0)
          clear c46
          have c47 := O1_ H
          replace H := O2_ H
          have c47b0 := decide_eq_true c47
          (try rw [hl3_1] at c47b0)
          (try rw [hl3_2] at c47b0)
          clear c47
          have c48 := O1_ H
          replace H := O2_ H
          have LMc48 := Aside0.mk c48
          clear c48
          obtain ⟨y125, hy125⟩ : ∃ y_ : List Int, y_ = (x11_3 ++ [rd x3_2 (rd t120 x77_3)]) := ⟨_, rfl⟩
          replace H : (z59.l3 k3 x3_2 y125 t120 (t120.length : Int) (wrap64 (x77_3 + 1))) = some r := Y_ hy125 H
          have Ny125 := Aside0.mk hy125
          clear hy125
          have H' := Aside0.mk H
          clear H
          have p123 : 0 ≤ (x77_3 : Int) := D_
          have q123 : x77_3 < (t120.length : Int) := D_
          obtain ⟨ad123, e123, hx123_0⟩ := Kd.at_int (Kd.R_reads' HO_75.out).2.2 x77_3 p123 q123
          cases e123
          replace p123 := eq_true p123
          replace q123 := eq_true q123
          have p124 : 0 ≤ ((rd t120 x77_3) : Int) := D_
          have q124 : (rd t120 x77_3) < (x3_2.length : Int) := D_
          obtain ⟨ad124, e124, hx124_0⟩ := Kd.at_int (Kd.R_reads' HO_3.out).2.2 (rd t120 x77_3) p124 q124
          cases e124
          replace p124 := eq_true p124
          replace q124 := eq_true q124
          go_wp2_with (first | ((with_reducible refine gate_builtin (b := .append) (xs := #[.tmp 81, .tmp 86]) rfl ?_); at_builtin; refine Kd.R_append (Kd.int .i64) (w0 := w) w.heap.size rfl (.tmp 81) (.tmp 86) 26 2 (.int .i64 0) 8 rfl Try.underlying26 info2 rfl (by decide) (by omega) u11 x11_3 (rd x3_2 (rd t120 x77_3)) [.int .i64 (rd x3_2 (rd t120 x77_3))] (fun k_ => some k_ ≠ (.slice (some ad124) x3_2.length co6 : Value).ownBlock ∧ some k_ ≠ (.slice (some ad123) t120.length co42 : Value).ownBlock) (fun _ => False) rfl rfl ?aP (fun _ hk => hk.elim) ?aF ?aO ?aB ?aS ?aL ?_; (case aP => exact rfl); (case aB => exact (B1_ HB.out GE101.out)); (case aF => exact (fun k_ hk => ⟨Kd.fresh' (Kd.R_lt (KR_ HO_3.out)) k_ hk, Kd.fresh' (Kd.R_lt (KR_ HO_75.out)) k_ hk⟩)); (case aO => exact (KR_ HO_11.out)); (case aS => exact (below_size (B1_ HB.out GE101.out))); (case aL => have := LMc48.out; omega); intro v126 w49 ho hb hg hat; rw [← Ny125.out] at ho; replace HO_3 := Aside0.mk (Kd.R_after (ok := (fun k_ => some k_ ≠ (.slice (some ad123) t120.length co42 : Value).ownBlock)) (by (with_reducible repeat (first | apply Kd.R_alloc | apply Kd.R_drewN | apply Kd.R_drew)); exact Kd.R_mono HO_3.out (fun _ hk => ⟨hk.2, hk.1⟩)) hg hat); replace HO_75 := Aside0.mk (Kd.R_after (ok := (fun k_ => some k_ ≠ (.slice (some ad124) x3_2.length co6 : Value).ownBlock)) (KR_ HO_75.out) hg hat); replace BK101 := Aside0.mk (blk_grown (g := gb101) (o := .cells #[.slice A0_0 l0_0.length c0_0] 29 (0, 0)) (KB_ BK101.out) hg (Kd.R_ne HO_11.out BK101.out (by decide))); replace HB := Aside0.mk (hb); have HO127 := Aside0.mk (ho); clear HO_11; clear ho hb hg hat))
          repeat (go_quiet (first | ((with_reducible refine gate_builtin (b := .append) (xs := #[.tmp 81, .tmp 86]) rfl ?_); at_builtin; refine Kd.R_append (Kd.int .i64) (w0 := w) w.heap.size rfl (.tmp 81) (.tmp 86) 26 2 (.int .i64 0) 8 rfl Try.underlying26 info2 rfl (by decide) (by omega) u11 x11_3 (rd x3_2 (rd t120 x77_3)) [.int .i64 (rd x3_2 (rd t120 x77_3))] (fun k_ => some k_ ≠ (.slice (some ad124) x3_2.length co6 : Value).ownBlock ∧ some k_ ≠ (.slice (some ad123) t120.length co42 : Value).ownBlock) (fun _ => False) rfl rfl ?aP (fun _ hk => hk.elim) ?aF ?aO ?aB ?aS ?aL ?_; (case aP => exact rfl); (case aB => exact (B1_ HB.out GE101.out)); (case aF => exact (fun k_ hk => ⟨Kd.fresh' (Kd.R_lt (KR_ HO_3.out)) k_ hk, Kd.fresh' (Kd.R_lt (KR_ HO_75.out)) k_ hk⟩)); (case aO => exact (KR_ HO_11.out)); (case aS => exact (below_size (B1_ HB.out GE101.out))); (case aL => have := LMc48.out; omega); intro v126 w49 ho hb hg hat; rw [← Ny125.out] at ho; replace HO_3 := Aside0.mk (Kd.R_after (ok := (fun k_ => some k_ ≠ (.slice (some ad123) t120.length co42 : Value).ownBlock)) (by (with_reducible repeat (first | apply Kd.R_alloc | apply Kd.R_drewN | apply Kd.R_drew)); exact Kd.R_mono HO_3.out (fun _ hk => ⟨hk.2, hk.1⟩)) hg hat); replace HO_75 := Aside0.mk (Kd.R_after (ok := (fun k_ => some k_ ≠ (.slice (some ad124) x3_2.length co6 : Value).ownBlock)) (KR_ HO_75.out) hg hat); replace BK101 := Aside0.mk (blk_grown (g := gb101) (o := .cells #[.slice A0_0 l0_0.length c0_0] 29 (0, 0)) (KB_ BK101.out) hg (Kd.R_ne HO_11.out BK101.out (by decide))); replace HB := Aside0.mk (hb); have HO127 := Aside0.mk (ho); clear HO_11; clear ho hb hg hat)); try go_wp2_with (first | ((with_reducible refine gate_builtin (b := .append) (xs := #[.tmp 81, .tmp 86]) rfl ?_); at_builtin; refine Kd.R_append (Kd.int .i64) (w0 := w) w.heap.size rfl (.tmp 81) (.tmp 86) 26 2 (.int .i64 0) 8 rfl Try.underlying26 info2 rfl (by decide) (by omega) u11 x11_3 (rd x3_2 (rd t120 x77_3)) [.int .i64 (rd x3_2 (rd t120 x77_3))] (fun k_ => some k_ ≠ (.slice (some ad124) x3_2.length co6 : Value).ownBlock ∧ some k_ ≠ (.slice (some ad123) t120.length co42 : Value).ownBlock) (fun _ => False) rfl rfl ?aP (fun _ hk => hk.elim) ?aF ?aO ?aB ?aS ?aL ?_; (case aP => exact rfl); (case aB => exact (B1_ HB.out GE101.out)); (case aF => exact (fun k_ hk => ⟨Kd.fresh' (Kd.R_lt (KR_ HO_3.out)) k_ hk, Kd.fresh' (Kd.R_lt (KR_ HO_75.out)) k_ hk⟩)); (case aO => exact (KR_ HO_11.out)); (case aS => exact (below_size (B1_ HB.out GE101.out))); (case aL => have := LMc48.out; omega); intro v126 w49 ho hb hg hat; rw [← Ny125.out] at ho; replace HO_3 := Aside0.mk (Kd.R_after (ok := (fun k_ => some k_ ≠ (.slice (some ad123) t120.length co42 : Value).ownBlock)) (by (with_reducible repeat (first | apply Kd.R_alloc | apply Kd.R_drewN | apply Kd.R_drew)); exact Kd.R_mono HO_3.out (fun _ hk => ⟨hk.2, hk.1⟩)) hg hat); replace HO_75 := Aside0.mk (Kd.R_after (ok := (fun k_ => some k_ ≠ (.slice (some ad124) x3_2.length co6 : Value).ownBlock)) (KR_ HO_75.out) hg hat); replace BK101 := Aside0.mk (blk_grown (g := gb101) (o := .cells #[.slice A0_0 l0_0.length c0_0] 29 (0, 0)) (KB_ BK101.out) hg (Kd.R_ne HO_11.out BK101.out (by decide))); replace HB := Aside0.mk (hb); have HO127 := Aside0.mk (ho); clear HO_11; clear ho hb hg hat)))
          go_roundg k3
          case measure => exact Q3_ HK1 HK2 HK3
          case rel => exact ⟨(y125), (wrap64 (x77_3 + 1)), E_, H', ⟨Q3_ HK1 HK2 HK3⟩, ⟨by (try simp only [hl3_1]); (try simp only [hl3_2]); (with_reducible repeat (first | apply Kd.R_alloc | apply Kd.R_drewN | apply Kd.R_drew)); exact Kd.R_mono HO_3.out (fun _ hk => ⟨hk.2, hk.1⟩)⟩, ⟨by (try simp only [hl3_1]); (try simp only [hl3_2]); (with_reducible repeat (first | apply Kd.R_alloc | apply Kd.R_drewN | apply Kd.R_drew)); exact HO127.out⟩, ⟨by (try simp only [hl3_1]); (try simp only [hl3_2]); (with_reducible repeat (first | apply Kd.R_alloc | apply Kd.R_drewN | apply Kd.R_drew)); exact HO_75.out⟩, ⟨by (try simp only [hl3_1]); (try simp only [hl3_2]); (with_reducible repeat (first | refine blk_drewN ?_ _ | refine blk_drew ?_ | refine blk_alloc ?_ _)); exact BK101.out⟩, ⟨B1_ HB.out GE101.out⟩⟩
         ·rw [if_neg c43] at H
          have c43b0 : decide (x77_3 < (t120.length : Int)) = false := decide_eq_false c43
          (try rw [hl3_1] at c43b0)
          (try rw [hl3_2] at c43b0)
          clear c43
          obtain rfl := Option.some.inj H
          go_wp2
          repeat (go_quiet (fail); try go_wp2)
          go_ret
          exact ⟨_, F_, by (with_reducible repeat (first | apply Kd.R_alloc | apply Kd.R_drewN | apply Kd.R_drew)); exact Kd.R_mono HO_11.out (fun _ hk => trivial), B1_ HB.out GE101.out⟩
end Go.Proofs.Ytipkciildhghiaa.B
