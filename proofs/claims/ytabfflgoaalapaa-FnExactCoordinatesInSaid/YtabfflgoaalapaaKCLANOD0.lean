/- Printed proofs of functions of the program and of the reference, by a program of this work over the kit's printer. -/
import Derived.Test.YtabfflgoaalapaaKEGJFJO0
import Derived.Test.YtabfflgoaalapaaKENHNJJ0
import Derived.Test.YtabfflgoaalapaaKJBDJJO0
import Derived.Test.YtabfflgoaalapaaKW0
namespace Go.Proofs.Ytabfflgoaalapaa.B
open Go.RowKit Go.Proofs.YtabfflgoaalapaaW.PrintWords Go.Proofs.YtabfflgoaalapaaW.PrintLast Go.Proofs.YtabfflgoaalapaaW.PrintMore
attribute [local go_sem] max2_int min2_int max_two min_two max_three min_three max_four min_four
set_option linter.unusedVariables false
set_option linter.unusedSimpArgs false
def z12.l0 : Nat → List Int → List Int → Int → Int → Int → List (List Int) → Option (List Int × Int)
 | 0, _, _, _, _, _, _ => none
 | k + 1, x1, x6, x7, x102000, x102001, x102002 => if x7 < (x102002.length : Int) then (if 0 ≤ x7 then ((z56.f k (rI_ x102002 x7)).bind fun t109 => (if 0 ≤ t109 then (if t109 < (x1.length : Int) then (if x6.length < 17592186044416 then (z12.l0 k x1 (x6 ++ [rd x1 t109]) (wrap64 (x7 + 1)) x102000 x102001 x102002) else (none)) else (none)) else (none))) else (none)) else (some (x6, 0))
def z12.f (k : Nat) (a0_0 : Int) (a0_1 : Int) (l0_2 : List (List Int)) (l1 : List Int) : Option (List Int × Int) := (z53.f k a0_0 a0_1 l0_2).bind fun t102 => (if t102 = true then ((z54.f k a0_0 a0_1 l1).bind fun t103 => (if t103 = true then ((z55.f k a0_0 a0_1 l0_2 l1).bind fun t104 => (if t104 = true then (z12.l0 k l1 (([] : List Int)) 0 a0_0 a0_1 l0_2) else (some (([] : List Int), 3)))) else (some (([] : List Int), 2)))) else (some (([] : List Int), 1)))
set_option maxHeartbeats 8000000 in
set_option maxRecDepth 100000 in
theorem z12.calls (k : Nat) (a0_0 : Int) (a0_1 : Int) (A0_2 : Option Addr) (c0_2 : Nat) (l0_2 : List (List Int)) (A1 : Option Addr) (c1 : Nat) (l1 : List Int) (r1 : List Int) (r2 : Int) (w : World) (hr0_2 : Kd.C (Kd.slice 2 (Kd.int .i64)) w A0_2 l0_2.length l0_2) (hc0_2 : l0_2.length ≤ c0_2) (hr1 : Kd.C (Kd.int .i64) w A1 l1.length l1) (hc1 : l1.length ≤ c1) (h : z12.f k a0_0 a0_1 l0_2 l1 = some (r1, r2)) :
  Calls Try.prog 12 #[.agg #[.int .i64 a0_0, .int .i64 a0_1, .slice A0_2 l0_2.length c0_2], .slice A1 l1.length c1] w fun e w' => ∃ v0_ : Value, e = .returned (.tuple #[v0_, .int .i64 r2]) ∧ Kd.R (Kd.int .i64) 2 w' w.heap.size (fun _ => True) v0_ r1 ∧ Below w.heap.size w w' := by
 have hu29 := Try.underlying29
 have HR0_2 := Zz.mk hr0_2
 have HC0_2 := Zz.mk hc0_2
 clear hr0_2 hc0_2
 have HR1 := Zz.mk hr1
 have HC1 := Zz.mk hc1
 clear hr1 hc1
 have HB := Zz.mk (Below.refl w.heap.size w)
 have H : ((z53.f k a0_0 a0_1 l0_2).bind fun t102 => (if t102 = true then ((z54.f k a0_0 a0_1 l1).bind fun t103 => (if t103 = true then ((z55.f k a0_0 a0_1 l0_2 l1).bind fun t104 => (if t104 = true then (z12.l0 k l1 (([] : List Int)) 0 a0_0 a0_1 l0_2) else (some (([] : List Int), 3)))) else (some (([] : List Int), 2)))) else (some (([] : List Int), 1)))) = some (r1, r2) := h
 clear h
 replace H := OB_ H
 obtain ⟨t102, A30, H⟩ := H
 replace H : (if t102 = true then ((z54.f k a0_0 a0_1 l1).bind fun t103 => (if t103 = true then ((z55.f k a0_0 a0_1 l0_2 l1).bind fun t104 => (if t104 = true then (z12.l0 k l1 (([] : List Int)) 0 a0_0 a0_1 l0_2) else (some (([] : List Int), 3)))) else (some (([] : List Int), 2)))) else (some (([] : List Int), 1))) = some (r1, r2) := H
 have A3 := Zz.mk A30
 clear A30
 by_cases c4 : t102 = true
 ·subst c4
  have H1 : ((z54.f k a0_0 a0_1 l1).bind fun t103 => (if t103 = true then ((z55.f k a0_0 a0_1 l0_2 l1).bind fun t104 => (if t104 = true then (z12.l0 k l1 (([] : List Int)) 0 a0_0 a0_1 l0_2) else (some (([] : List Int), 3)))) else (some (([] : List Int), 2)))) = some (r1, r2) := by rw [if_pos rfl] at H; exact H
  clear H
  have H := H1
  clear H1
  replace H := OB_ H
  obtain ⟨t103, A50, H⟩ := H
  replace H : (if t103 = true then ((z55.f k a0_0 a0_1 l0_2 l1).bind fun t104 => (if t104 = true then (z12.l0 k l1 (([] : List Int)) 0 a0_0 a0_1 l0_2) else (some (([] : List Int), 3)))) else (some (([] : List Int), 2))) = some (r1, r2) := H
  have A5 := Zz.mk A50
  clear A50
  by_cases c6 : t103 = true
  ·subst c6
   have H1 : ((z55.f k a0_0 a0_1 l0_2 l1).bind fun t104 => (if t104 = true then (z12.l0 k l1 (([] : List Int)) 0 a0_0 a0_1 l0_2) else (some (([] : List Int), 3)))) = some (r1, r2) := by rw [if_pos rfl] at H; exact H
   clear H
   have H := H1
   clear H1
   replace H := OB_ H
   obtain ⟨t104, A70, H⟩ := H
   replace H : (if t104 = true then (z12.l0 k l1 (([] : List Int)) 0 a0_0 a0_1 l0_2) else (some (([] : List Int), 3))) = some (r1, r2) := H
   have A7 := Zz.mk A70
   clear A70
   by_cases c8 : t104 = true
   ·subst c8
    have H1 : (z12.l0 k l1 (([] : List Int)) 0 a0_0 a0_1 l0_2) = some (r1, r2) := by rw [if_pos rfl] at H; exact H
    clear H
    have H := H1
    clear H1
    obtain ⟨y105, hy105⟩ : ∃ y_ : List Int, y_ = (([] : List Int)) := ⟨_, rfl⟩
    replace H : (z12.l0 k l1 y105 0 a0_0 a0_1 l0_2) = some (r1, r2) := Y_ hy105 H
    have Ny105 := Zz.mk hy105
    clear hy105
    have H' := Zz.mk H
    clear H
    go_enter Try.func12, Try.ntmps12
    go_wp2_with (first | ((with_reducible refine gate_dst (N := 2) rfl ?_); refine box_event ?hg (N := 2) ?hd (cs := #[.int .i64 a0_0, .int .i64 a0_1, .slice A0_2 l0_2.length c0_2]) (t := 29) ?hr ?_; (case hd => rfl); (case hg => rfl); (case hr => first | (go_simp; done) | (go_simp; rfl)); intro gb101 hg w9 hbox hb; have BK101 := Zz.mk (hbox); have GW101 := Zz.mk ((by rw [hg]; exact (bS_ (B_ HB.out)) : w.heap.size ≤ gb101)); have GE101 := GW101; replace HB := Zz.mk (bT_ (B_ HB.out) hb); clear hb hbox hg) | ((with_reducible refine gC_ (f := 53) rfl ?_); refine GL_ (some 8) rfl rfl Try.func53 #[.pointer (some ⟨gb101, 0, none⟩)] rfl (h := ?_); (with_reducible refine (z53.calls k gb101 a0_0 a0_1 A0_2 c0_2 l0_2 true _ ?side1 ?side2 ?side3 A3.out).mono ?_); (case side1 => refine BW_ ?_; exact BK101.out); (case side2 => exact KC_ (Kd.C_below HR0_2.out HB.out)); (case side3 => exact HC0_2.out); rintro e w10 ⟨rfl, hb⟩; refine ⟨_, rfl, ?_⟩; replace BK101 := Zz.mk (bB_ (g := gb101) (o := .cells #[.int .i64 a0_0, .int .i64 a0_1, .slice A0_2 l0_2.length c0_2] 29 (0, 0)) (KB_ BK101.out) hb); replace HB := Zz.mk (bT_ (B1_ HB.out GE101.out) hb); (try clear hb); (try clear hb2); (try clear hk); (try clear hi); obtain ⟨hcz11_0, hcz11_1, hcz11_2, hfz11_0, hfz11_1, hfz11_2⟩ := Z3f_ BK101.out) | ((with_reducible refine gC_ (f := 54) rfl ?_); refine GL_ (some 15) rfl rfl Try.func54 #[.int .i64 a0_0, .int .i64 a0_1, .slice A1 l1.length c1] rfl (h := ?_); (with_reducible refine (z54.calls k a0_0 a0_1 _ _ l1 true _ ?side1 ?side2 A5.out).mono ?_); (case side1 => exact KC_ (Kd.C_below HR1.out HB.out)); (case side2 => exact HC1.out); rintro e w' ⟨rfl, ⟨nd, rfl⟩⟩; refine ⟨_, rfl, ?_⟩) | ((with_reducible refine gC_ (f := 55) rfl ?_); refine GL_ (some 18) rfl rfl Try.func55 #[.pointer (some ⟨gb101, 0, none⟩), .slice A1 l1.length c1] rfl (h := ?_); (with_reducible refine (z55.calls k gb101 a0_0 a0_1 (fun k_ => k_ < w.heap.size) A0_2 c0_2 l0_2 (fun k_ => k_ < w.heap.size) _ _ l1 true _ ?side1 ?side2 ?side3 A7.out).mono ?_); (case side1 => refine BW_ ?_; exact BK101.out); (case side2 => exact Kd.V_mk HC0_2.out (Kd.F_below (Kd.C_F (Kd.heap_slice 2 (Kd.heap_int .i64)) HR0_2.out) (B1_ HB.out GE101.out))); (case side3 => exact Kd.V_mk HC1.out (Kd.F_below (Kd.C_F (Kd.heap_int .i64) HR1.out) (B1_ HB.out GE101.out))); rintro e w12 ⟨rfl, hb⟩; refine ⟨_, rfl, ?_⟩; replace BK101 := Zz.mk (bB_ (g := gb101) (o := .cells #[.int .i64 a0_0, .int .i64 a0_1, .slice A0_2 l0_2.length c0_2] 29 (0, 0)) (KB_ BK101.out) hb); replace HB := Zz.mk (bT_ (B1_ HB.out GE101.out) hb); (try clear hb); (try clear hb2); (try clear hk); (try clear hi)) | ((with_reducible refine gate_dst (N := 20) rfl ?_); refine Kd.R_lit (Kd.int .i64) _ 2 ?hg (N := 20) ?hd (xs := ([] : List Int)) (inner := []) (ok := fun _ => True) (okp := fun _ => True) ?hr ?hp (fun _ hk => hk) trivial (Below.refl _ _) (Nat.le_refl _) (by simp) ?_; (case hd => rfl); (case hg => rfl); (case hr => first | (go_simp; done) | (go_simp; rfl)); (case hp => exact (Reps.none _ _)); intro v106 w13 ho14 hb hg_ hnew_; clear hg_ hnew_; (first | rw [← Ny105.out] at ho14 | (simp only [Int.reduceToNat] at ho14; rw [← Ny105.out] at ho14)); have HO107 := Zz.mk (Kd.R_lower ho14 (bS_ (B1_ HB.out GE101.out))); replace BK101 := Zz.mk (bB_ (g := gb101) (o := .cells #[.int .i64 a0_0, .int .i64 a0_1, .slice A0_2 l0_2.length c0_2] 29 (0, 0)) (KB_ BK101.out) hb); replace HB := Zz.mk (bT_ (B1_ HB.out GE101.out) hb); clear hb ho14))
    go_loopg [6, 7] k (fun kq v6 v7 w' => ∃ (x6_1 : List Int) (x7_1 : Int), v7 = .int .i64 x7_1 ∧ Zz (z12.l0 kq l1 x6_1 x7_1 a0_0 a0_1 l0_2 = some (r1, r2)) ∧ Zz (kq ≤ k) ∧ Zz (Kd.R (Kd.int .i64) 2 w' w.heap.size (fun _ => True) v6 x6_1) ∧ Zz (w'.heap[gb101]? = some (.cells #[.int .i64 a0_0, .int .i64 a0_1, (.slice A0_2 l0_2.length c0_2)] 29 (0, 0))) ∧ Zz (Below w.heap.size w w'))
    case atStart => exact ⟨(y105), (0), E_, H', ⟨Nat.le_refl _⟩, ⟨KR_ HO107.out⟩, ⟨KB_ BK101.out⟩, ⟨B1_ HB.out GE101.out⟩⟩
    case round =>
     clear H'
     (try clear c1);(try clear c4);(try clear c6);(try clear c8);(try clear hcz11_0);(try clear hcz11_1);(try clear hcz11_2);(try clear hfz11_0);(try clear hfz11_1);(try clear hfz11_2)
     obtain ⟨x6_1, x7_1, rfl, HA, HK1, HO_6, BK101, HB⟩ := hrel
     cases gk with
     | zero => exact absurd HA.out (by simp [z12.l0])
     | succ k1 =>
      have H := HA.out
      clear HA
      simp only [z12.l0] at H
      by_cases c15 : x7_1 < (l0_2.length : Int)
      ·rw [if_pos c15] at H
       have c15b0 : decide (x7_1 < (l0_2.length : Int)) = true := decide_eq_true c15
       clear c15
       have c16b0 := O3_ H
       replace H := O2_ H
       replace H := OB_ H
       obtain ⟨t109, A170, H⟩ := H
       replace H : (if 0 ≤ t109 then (if t109 < (l1.length : Int) then (if x6_1.length < 17592186044416 then (z12.l0 k1 l1 (x6_1 ++ [rd l1 t109]) (wrap64 (x7_1 + 1)) a0_0 a0_1 l0_2) else (none)) else (none)) else (none)) = some (r1, r2) := H
       have A17 := Zz.mk A170
       clear A170
       have c18b0 := O3_ H
       replace H := O2_ H
       have c19b0 := O3_ H
       replace H := O2_ H
       have c20 := O1_ H
       replace H := O2_ H
       have LMc20 := Zz.mk c20
       clear c20
       obtain ⟨y111, hy111⟩ : ∃ y_ : List Int, y_ = (x6_1 ++ [rd l1 t109]) := ⟨_, rfl⟩
       replace H : (z12.l0 k1 l1 y111 (wrap64 (x7_1 + 1)) a0_0 a0_1 l0_2) = some (r1, r2) := Y_ hy111 H
       have Ny111 := Zz.mk hy111
       clear hy111
       have H' := Zz.mk H
       clear H
       obtain ⟨hcz21_0, hcz21_1, hcz21_2, hfz21_0, hfz21_1, hfz21_2⟩ := Z3f_ BK101.out
       have p108 : 0 ≤ (x7_1 : Int) := D_
       have q108 : x7_1 < (l0_2.length : Int) := D_
       obtain ⟨ad108, A108_0, c108_0, e108, hx108_0, hl108_0, hi108_0⟩ := at_ListInt HR0_2.out x7_1 p108 q108
       cases e108
       replace hx108_0 := (HB.out.cell (World.block_lt_of_cell? w _ hx108_0)).trans hx108_0
       have HR108_0 := Zz.mk hi108_0
       have HC108_0 := Zz.mk hl108_0
       clear hi108_0 hl108_0
       replace p108 := eq_true p108
       replace q108 := eq_true q108
       go_wp2_with (first | ((with_reducible refine gC_ (f := 56) rfl ?_); refine GL_ (some 35) rfl rfl Try.func56 #[.slice A108_0 (rI_ l0_2 x7_1).length c108_0] rfl (h := ?_); (with_reducible refine (z56.calls k1 _ _ (rI_ l0_2 x7_1) t109 _ ?side1 ?side2 A17.out).mono ?_); (case side1 => exact KC_ (Kd.C_below HR108_0.out HB.out)); (case side2 => exact HC108_0.out); rintro e w' ⟨rfl, ⟨nd, rfl⟩⟩; refine ⟨_, rfl, ?_⟩; have p110 : 0 ≤ (t109 : Int) := D_; have q110 : t109 < (l1.length : Int) := D_; obtain ⟨ad110, e110, hx110_0⟩ := Kd.at_int HR1.out t109 p110 q110; cases e110; replace hx110_0 := (HB.out.cell (World.block_lt_of_cell? w _ hx110_0)).trans hx110_0; replace p110 := eq_true p110; replace q110 := eq_true q110) | ((with_reducible refine gate_builtin (b := .append) (xs := #[.tmp 28, .tmp 38]) rfl ?_); at_builtin; refine Kd.R_append (Kd.int .i64) (w0 := w) w.heap.size rfl (.tmp 28) (.tmp 38) 25 2 (.int .i64 0) 8 rfl Try.underlying25 info2 rfl (by decide) (by omega) u6 x6_1 (rd l1 t109) [.int .i64 (rd l1 t109)] (fun _ => True) (fun _ => False) rfl rfl ?aP (fun _ hk => hk.elim) ?aF ?aO ?aB ?aS ?aL ?_; (case aP => exact rfl); (case aB => exact (B1_ HB.out GE101.out)); (case aF => exact (fun _ _ => trivial)); (case aO => exact (KR_ HO_6.out)); (case aS => exact (bS_ (B1_ HB.out GE101.out))); (case aL => have := LMc20.out; omega); intro v112 w22 ho hb hg hat; rw [← Ny111.out] at ho; replace BK101 := Zz.mk (blk_grown (g := gb101) (o := .cells #[.int .i64 a0_0, .int .i64 a0_1, .slice (some ad108) l0_2.length c0_2] 29 (0, 0)) (KB_ BK101.out) hg (Kd.R_ne HO_6.out BK101.out (by decide))); replace HB := Zz.mk (hb); have HO113 := Zz.mk (ho); clear HO_6; clear ho hb hg hat))
       go_roundg k1
       case measure => exact Q1_ HK1
       case rel => exact ⟨(y111), (wrap64 (x7_1 + 1)), E_, H', ⟨Q1_ HK1⟩, ⟨KR_ HO113.out⟩, ⟨KB_ BK101.out⟩, ⟨B1_ HB.out GE101.out⟩⟩
      rw [if_neg c15] at H
      have c15b0 : decide (x7_1 < (l0_2.length : Int)) = false := decide_eq_false c15
      clear c15
      simp only [Option.some.injEq, Prod.mk.injEq] at H
      obtain ⟨rfl, rfl⟩ := H
      obtain ⟨hcz23_0, hcz23_1, hcz23_2, hfz23_0, hfz23_1, hfz23_2⟩ := Z3f_ BK101.out
      go_wp2
      go_ret2
      exact ⟨_, F_, KR_ HO_6.out, B1_ HB.out GE101.out⟩
   replace c8 := Bool.eq_false_iff.mpr c8
   subst c8
   have H1 : (some (([] : List Int), 3)) = some (r1, r2) := by rw [if_neg (show ¬ (false = true) by decide)] at H; exact H
   clear H
   have H := H1
   clear H1
   simp only [Option.some.injEq, Prod.mk.injEq] at H
   obtain ⟨rfl, rfl⟩ := H
   go_enter Try.func12, Try.ntmps12
   go_wp2_with (first | ((with_reducible refine gate_dst (N := 2) rfl ?_); refine box_event ?hg (N := 2) ?hd (cs := #[.int .i64 a0_0, .int .i64 a0_1, .slice A0_2 l0_2.length c0_2]) (t := 29) ?hr ?_; (case hd => rfl); (case hg => rfl); (case hr => first | (go_simp; done) | (go_simp; rfl)); intro gb101 hg w24 hbox hb; have BK101 := Zz.mk (hbox); have GW101 := Zz.mk ((by rw [hg]; exact (bS_ (B_ HB.out)) : w.heap.size ≤ gb101)); have GE101 := GW101; replace HB := Zz.mk (bT_ (B_ HB.out) hb); clear hb hbox hg) | ((with_reducible refine gC_ (f := 53) rfl ?_); refine GL_ (some 8) rfl rfl Try.func53 #[.pointer (some ⟨gb101, 0, none⟩)] rfl (h := ?_); (with_reducible refine (z53.calls k gb101 a0_0 a0_1 A0_2 c0_2 l0_2 true _ ?side1 ?side2 ?side3 A3.out).mono ?_); (case side1 => refine BW_ ?_; exact BK101.out); (case side2 => exact KC_ (Kd.C_below HR0_2.out HB.out)); (case side3 => exact HC0_2.out); rintro e w25 ⟨rfl, hb⟩; refine ⟨_, rfl, ?_⟩; replace BK101 := Zz.mk (bB_ (g := gb101) (o := .cells #[.int .i64 a0_0, .int .i64 a0_1, .slice A0_2 l0_2.length c0_2] 29 (0, 0)) (KB_ BK101.out) hb); replace HB := Zz.mk (bT_ (B1_ HB.out GE101.out) hb); (try clear hb); (try clear hb2); (try clear hk); (try clear hi); obtain ⟨hcz26_0, hcz26_1, hcz26_2, hfz26_0, hfz26_1, hfz26_2⟩ := Z3f_ BK101.out) | ((with_reducible refine gC_ (f := 54) rfl ?_); refine GL_ (some 15) rfl rfl Try.func54 #[.int .i64 a0_0, .int .i64 a0_1, .slice A1 l1.length c1] rfl (h := ?_); (with_reducible refine (z54.calls k a0_0 a0_1 _ _ l1 true _ ?side1 ?side2 A5.out).mono ?_); (case side1 => exact KC_ (Kd.C_below HR1.out HB.out)); (case side2 => exact HC1.out); rintro e w' ⟨rfl, ⟨nd, rfl⟩⟩; refine ⟨_, rfl, ?_⟩) | ((with_reducible refine gC_ (f := 55) rfl ?_); refine GL_ (some 18) rfl rfl Try.func55 #[.pointer (some ⟨gb101, 0, none⟩), .slice A1 l1.length c1] rfl (h := ?_); (with_reducible refine (z55.calls k gb101 a0_0 a0_1 (fun k_ => k_ < w.heap.size) A0_2 c0_2 l0_2 (fun k_ => k_ < w.heap.size) _ _ l1 false _ ?side1 ?side2 ?side3 A7.out).mono ?_); (case side1 => refine BW_ ?_; exact BK101.out); (case side2 => exact Kd.V_mk HC0_2.out (Kd.F_below (Kd.C_F (Kd.heap_slice 2 (Kd.heap_int .i64)) HR0_2.out) (B1_ HB.out GE101.out))); (case side3 => exact Kd.V_mk HC1.out (Kd.F_below (Kd.C_F (Kd.heap_int .i64) HR1.out) (B1_ HB.out GE101.out))); rintro e w27 ⟨rfl, hb⟩; refine ⟨_, rfl, ?_⟩; replace BK101 := Zz.mk (bB_ (g := gb101) (o := .cells #[.int .i64 a0_0, .int .i64 a0_1, .slice A0_2 l0_2.length c0_2] 29 (0, 0)) (KB_ BK101.out) hb); replace HB := Zz.mk (bT_ (B1_ HB.out GE101.out) hb); (try clear hb); (try clear hb2); (try clear hk); (try clear hi)))
   go_ret2
   exact ⟨_, F_, by first | exact Kd.R_nil _ _ _ _ _ | exact Kd.N_nil _ _ _ _ _ | exact Kd.V_nil _ _ _ _ _ | exact Kd.Q_nil _ _ _ _ _ | exact Kd.S_nil _ _ _ _ _, B1_ HB.out GE101.out⟩
  replace c6 := Bool.eq_false_iff.mpr c6
  subst c6
  have H1 : (some (([] : List Int), 2)) = some (r1, r2) := by rw [if_neg (show ¬ (false = true) by decide)] at H; exact H
  clear H
  have H := H1
  clear H1
  simp only [Option.some.injEq, Prod.mk.injEq] at H
  obtain ⟨rfl, rfl⟩ := H
  go_enter Try.func12, Try.ntmps12
  go_wp2_with (first | ((with_reducible refine gate_dst (N := 2) rfl ?_); refine box_event ?hg (N := 2) ?hd (cs := #[.int .i64 a0_0, .int .i64 a0_1, .slice A0_2 l0_2.length c0_2]) (t := 29) ?hr ?_; (case hd => rfl); (case hg => rfl); (case hr => first | (go_simp; done) | (go_simp; rfl)); intro gb101 hg w28 hbox hb; have BK101 := Zz.mk (hbox); have GW101 := Zz.mk ((by rw [hg]; exact (bS_ (B_ HB.out)) : w.heap.size ≤ gb101)); have GE101 := GW101; replace HB := Zz.mk (bT_ (B_ HB.out) hb); clear hb hbox hg) | ((with_reducible refine gC_ (f := 53) rfl ?_); refine GL_ (some 8) rfl rfl Try.func53 #[.pointer (some ⟨gb101, 0, none⟩)] rfl (h := ?_); (with_reducible refine (z53.calls k gb101 a0_0 a0_1 A0_2 c0_2 l0_2 true _ ?side1 ?side2 ?side3 A3.out).mono ?_); (case side1 => refine BW_ ?_; exact BK101.out); (case side2 => exact KC_ (Kd.C_below HR0_2.out HB.out)); (case side3 => exact HC0_2.out); rintro e w29 ⟨rfl, hb⟩; refine ⟨_, rfl, ?_⟩; replace BK101 := Zz.mk (bB_ (g := gb101) (o := .cells #[.int .i64 a0_0, .int .i64 a0_1, .slice A0_2 l0_2.length c0_2] 29 (0, 0)) (KB_ BK101.out) hb); replace HB := Zz.mk (bT_ (B1_ HB.out GE101.out) hb); (try clear hb); (try clear hb2); (try clear hk); (try clear hi); obtain ⟨hcz30_0, hcz30_1, hcz30_2, hfz30_0, hfz30_1, hfz30_2⟩ := Z3f_ BK101.out) | ((with_reducible refine gC_ (f := 54) rfl ?_); refine GL_ (some 15) rfl rfl Try.func54 #[.int .i64 a0_0, .int .i64 a0_1, .slice A1 l1.length c1] rfl (h := ?_); (with_reducible refine (z54.calls k a0_0 a0_1 _ _ l1 false _ ?side1 ?side2 A5.out).mono ?_); (case side1 => exact KC_ (Kd.C_below HR1.out HB.out)); (case side2 => exact HC1.out); rintro e w' ⟨rfl, ⟨nd, rfl⟩⟩; refine ⟨_, rfl, ?_⟩))
  go_ret2
  exact ⟨_, F_, by first | exact Kd.R_nil _ _ _ _ _ | exact Kd.N_nil _ _ _ _ _ | exact Kd.V_nil _ _ _ _ _ | exact Kd.Q_nil _ _ _ _ _ | exact Kd.S_nil _ _ _ _ _, B1_ HB.out GE101.out⟩
 replace c4 := Bool.eq_false_iff.mpr c4
 subst c4
 have H1 : (some (([] : List Int), 1)) = some (r1, r2) := by rw [if_neg (show ¬ (false = true) by decide)] at H; exact H
 clear H
 have H := H1
 clear H1
 simp only [Option.some.injEq, Prod.mk.injEq] at H
 obtain ⟨rfl, rfl⟩ := H
 go_enter Try.func12, Try.ntmps12
 go_wp2_with (first | ((with_reducible refine gate_dst (N := 2) rfl ?_); refine box_event ?hg (N := 2) ?hd (cs := #[.int .i64 a0_0, .int .i64 a0_1, .slice A0_2 l0_2.length c0_2]) (t := 29) ?hr ?_; (case hd => rfl); (case hg => rfl); (case hr => first | (go_simp; done) | (go_simp; rfl)); intro gb101 hg w31 hbox hb; have BK101 := Zz.mk (hbox); have GW101 := Zz.mk ((by rw [hg]; exact (bS_ (B_ HB.out)) : w.heap.size ≤ gb101)); have GE101 := GW101; replace HB := Zz.mk (bT_ (B_ HB.out) hb); clear hb hbox hg) | ((with_reducible refine gC_ (f := 53) rfl ?_); refine GL_ (some 8) rfl rfl Try.func53 #[.pointer (some ⟨gb101, 0, none⟩)] rfl (h := ?_); (with_reducible refine (z53.calls k gb101 a0_0 a0_1 A0_2 c0_2 l0_2 false _ ?side1 ?side2 ?side3 A3.out).mono ?_); (case side1 => refine BW_ ?_; exact BK101.out); (case side2 => exact KC_ (Kd.C_below HR0_2.out HB.out)); (case side3 => exact HC0_2.out); rintro e w32 ⟨rfl, hb⟩; refine ⟨_, rfl, ?_⟩; replace BK101 := Zz.mk (bB_ (g := gb101) (o := .cells #[.int .i64 a0_0, .int .i64 a0_1, .slice A0_2 l0_2.length c0_2] 29 (0, 0)) (KB_ BK101.out) hb); replace HB := Zz.mk (bT_ (B1_ HB.out GE101.out) hb); (try clear hb); (try clear hb2); (try clear hk); (try clear hi)))
 go_ret2
 exact ⟨_, F_, by first | exact Kd.R_nil _ _ _ _ _ | exact Kd.N_nil _ _ _ _ _ | exact Kd.V_nil _ _ _ _ _ | exact Kd.Q_nil _ _ _ _ _ | exact Kd.S_nil _ _ _ _ _, B1_ HB.out GE101.out⟩
end Go.Proofs.Ytabfflgoaalapaa.B
