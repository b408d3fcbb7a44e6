/- Printed proofs of functions of the program and of the reference, by a program of this work over the kit's printer. -/
import Derived.Test.YtipkciildhghiaaKBMHBFH0
import Derived.Test.YtipkciildhghiaaKMPLHLC0
import Derived.Test.YtipkciildhghiaaKNDOBGI0
import Derived.Test.YtipkciildhghiaaKPPIGCD0
import Derived.Test.YtipkciildhghiaaKW0
namespace Go.Proofs.Ytipkciildhghiaa.B
open Go.RowKit Go.Proofs.YtipkciildhghiaaW.PrintWords Go.Proofs.YtipkciildhghiaaW.PrintLast Go.Proofs.YtipkciildhghiaaW.PrintMore
attribute [local go_sem] max2_int min2_int max_two min_two max_three min_three max_four min_four
set_option linter.unusedVariables false
set_option linter.unusedSimpArgs false
def z36.l0 : Nat → Int → List (List Int) → List (List Int) → Int → Int → Option ((List (List Int)) × Int)
 | 0, _, _, _, _, _ => none
 | k + 1, x1, x6, x36, x37, x38 => if x38 < x37 then (if 0 ≤ x38 then (if x38 < (x36.length : Int) then ((slices_Clone_int64_int64.f (rI_ x36 x38)).bind fun t119 => (if t119.length < 17592186044416 then ((slices_Sort_int64_int64.f (t119 ++ [x1])).bind fun t125 => (if x6.length < 5864062014805 then (z36.l0 k x1 (x6 ++ [t125]) x36 x37 (wrap64 (x38 + 1))) else (none))) else (none))) else (none)) else (none)) else ((impl_inOrder.f x6).bind fun t129 => ((z58.f k t129).bind fun t133 => (if t133 = true then (some (t129, 0)) else (some (([] : List (List Int)), 5)))))
def z36.f (k : Nat) (l0_0 : List (List Int)) (a1 : Int) : Option ((List (List Int)) × Int) := (z58.f k l0_0).bind fun t103 => (if t103 = true then ((z83.f a1).bind fun t104 => (if t104 = true then ((z84.f k l0_0 (([a1] : List Int))).bind fun t108 => (if t108 ≥ 0 then (some (([] : List (List Int)), 4)) else ((z85.f k l0_0).bind fun t109 => (if t109.length < 5864062014805 then (z36.l0 k a1 (t109 ++ [(([a1] : List Int))]) l0_0 (l0_0.length : Int) 0) else (none))))) else (some (([] : List (List Int)), 2)))) else (some (([] : List (List Int)), 1)))
set_option maxHeartbeats 8000000 in
set_option maxRecDepth 100000 in
theorem z36.calls (k : Nat) (A0_0 : Option Addr) (c0_0 : Nat) (l0_0 : List (List Int)) (a1 : Int) (r1 : List (List Int)) (r2 : Int) (w : World) (hr0_0 : Kd.C (Kd.slice 2 (Kd.int .i64)) w A0_0 l0_0.length l0_0) (hc0_0 : l0_0.length ≤ c0_0) (h : z36.f k l0_0 a1 = some (r1, r2)) :
  Calls Try.prog 36 #[.agg #[.slice A0_0 l0_0.length c0_0], .int .i64 a1] w fun e w' => ∃ v0_ : Value, e = .returned (.tuple #[.agg #[v0_], .int .i64 r2]) ∧ Kd.S (Kd.slice 2 (Kd.int .i64)) 26 w' w.heap.size (fun _ => True) v0_ r1 ∧ Below w.heap.size w w' := by
 have hu29 := Try.underlying29
 have HR0_0 := Zz.mk hr0_0
 have HC0_0 := Zz.mk hc0_0
 clear hr0_0 hc0_0
 have HB := Zz.mk (Below.refl w.heap.size w)
 have H : ((z58.f k l0_0).bind fun t103 => (if t103 = true then ((z83.f a1).bind fun t104 => (if t104 = true then ((z84.f k l0_0 (([a1] : List Int))).bind fun t108 => (if t108 ≥ 0 then (some (([] : List (List Int)), 4)) else ((z85.f k l0_0).bind fun t109 => (if t109.length < 5864062014805 then (z36.l0 k a1 (t109 ++ [(([a1] : List Int))]) l0_0 (l0_0.length : Int) 0) else (none))))) else (some (([] : List (List Int)), 2)))) else (some (([] : List (List Int)), 1)))) = some (r1, r2) := h
 clear h
 replace H := OB_ H
 obtain ⟨t103, A30, H⟩ := H
 replace H : (if t103 = true then ((z83.f a1).bind fun t104 => (if t104 = true then ((z84.f k l0_0 (([a1] : List Int))).bind fun t108 => (if t108 ≥ 0 then (some (([] : List (List Int)), 4)) else ((z85.f k l0_0).bind fun t109 => (if t109.length < 5864062014805 then (z36.l0 k a1 (t109 ++ [(([a1] : List Int))]) l0_0 (l0_0.length : Int) 0) else (none))))) else (some (([] : List (List Int)), 2)))) else (some (([] : List (List Int)), 1))) = some (r1, r2) := H
 have A3 := Zz.mk A30
 clear A30
 by_cases c4 : t103 = true
 ·subst c4
  have H1 : ((z83.f a1).bind fun t104 => (if t104 = true then ((z84.f k l0_0 (([a1] : List Int))).bind fun t108 => (if t108 ≥ 0 then (some (([] : List (List Int)), 4)) else ((z85.f k l0_0).bind fun t109 => (if t109.length < 5864062014805 then (z36.l0 k a1 (t109 ++ [(([a1] : List Int))]) l0_0 (l0_0.length : Int) 0) else (none))))) else (some (([] : List (List Int)), 2)))) = some (r1, r2) := by rw [if_pos rfl] at H; exact H
  clear H
  have H := H1
  clear H1
  replace H := OB_ H
  obtain ⟨t104, A50, H⟩ := H
  replace H : (if t104 = true then ((z84.f k l0_0 (([a1] : List Int))).bind fun t108 => (if t108 ≥ 0 then (some (([] : List (List Int)), 4)) else ((z85.f k l0_0).bind fun t109 => (if t109.length < 5864062014805 then (z36.l0 k a1 (t109 ++ [(([a1] : List Int))]) l0_0 (l0_0.length : Int) 0) else (none))))) else (some (([] : List (List Int)), 2))) = some (r1, r2) := H
  have A5 := Zz.mk A50
  clear A50
  by_cases c6 : t104 = true
  ·subst c6
   have H1 : ((z84.f k l0_0 (([a1] : List Int))).bind fun t108 => (if t108 ≥ 0 then (some (([] : List (List Int)), 4)) else ((z85.f k l0_0).bind fun t109 => (if t109.length < 5864062014805 then (z36.l0 k a1 (t109 ++ [(([a1] : List Int))]) l0_0 (l0_0.length : Int) 0) else (none))))) = some (r1, r2) := by rw [if_pos rfl] at H; exact H
   clear H
   have H := H1
   clear H1
   obtain ⟨y105, hy105⟩ : ∃ y_ : List Int, y_ = (([a1] : List Int)) := ⟨_, rfl⟩
   replace H : ((z84.f k l0_0 y105).bind fun t108 => (if t108 ≥ 0 then (some (([] : List (List Int)), 4)) else ((z85.f k l0_0).bind fun t109 => (if t109.length < 5864062014805 then (z36.l0 k a1 (t109 ++ [(([a1] : List Int))]) l0_0 (l0_0.length : Int) 0) else (none))))) = some (r1, r2) := Y_ hy105 H
   have Ny105 := Zz.mk hy105
   clear hy105
   replace H := OB_ H
   obtain ⟨t108, A70, H⟩ := H
   replace H : (if t108 ≥ 0 then (some (([] : List (List Int)), 4)) else ((z85.f k l0_0).bind fun t109 => (if t109.length < 5864062014805 then (z36.l0 k a1 (t109 ++ [(([a1] : List Int))]) l0_0 (l0_0.length : Int) 0) else (none)))) = some (r1, r2) := H
   have A7 := Zz.mk A70
   clear A70
   by_cases c8 : t108 ≥ 0
   ·rw [if_pos c8] at H
    have c8b0 : decide (0 ≤ t108) = true := decide_eq_true c8
    clear c8
    simp only [Option.some.injEq, Prod.mk.injEq] at H
    obtain ⟨rfl, rfl⟩ := H
    go_enter Try.func36, Try.ntmps36
    go_wp2_with (first | ((with_reducible refine gate_dst (N := 2) rfl ?_); refine bx_ 2 #[.slice A0_0 l0_0.length c0_0] 29 ?_; intro gb101 hg w9 hbox hb; have BK101 := Zz.mk (hbox); have GW101 := Zz.mk ((gw_ hg (B_ HB.out))); have GE101 := GW101; replace HB := Zz.mk (bT_ (B_ HB.out) hb); clear hb hbox hg) | ((with_reducible refine gate_dst (N := 4) rfl ?_); refine bx_ 4 #[.slice none 0 0] 29 ?_; intro gb102 hg w10 hbox hb; have BK102 := Zz.mk (hbox); have GW102 := Zz.mk ((gw_ hg (B1_ HB.out GE101.out))); have GE102 := GW102; have NB101_102 := Zz.mk ((nb_ BK101.out hg)); have NB102_101 := Zz.mk NB101_102.out.symm; replace BK101 := Zz.mk (kb_ BK101.out hb); replace HB := Zz.mk (bT_ (B1_ HB.out GE101.out) hb); clear hb hbox hg; have hnb11 := NB101_102.out; have hnc11 := NB102_101.out; obtain ⟨hcz12_0, hfz12_0⟩ := Z1f_ BK101.out) | ((with_reducible refine gC_ (f := 58) rfl ?_); refine GL_ (some 13) rfl rfl Try.func58 #[.agg #[.slice A0_0 l0_0.length c0_0]] rfl (h := ?_); (with_reducible refine (z58.calls k _ _ l0_0 true _ ?side1 ?side2 A3.out).mono ?_); (case side1 => exact KC_ (Kd.C_below HR0_0.out HB.out)); (case side2 => exact HC0_0.out); rintro e w13 ⟨rfl, hb⟩; refine ⟨_, rfl, ?_⟩; replace BK101 := Zz.mk (kb_ BK101.out hb); replace BK102 := Zz.mk (kb_ BK102.out hb); replace HB := Zz.mk (bT_ (B2_ HB.out GE101.out GE102.out) hb); (try clear hb)) | ((with_reducible refine gC_ (f := 83) rfl ?_); refine GL_ (some 18) rfl rfl Try.func83 #[.int .i64 a1] rfl (h := ?_); (with_reducible refine (z83.calls a1 true _ A5.out).mono ?_); rintro e w' ⟨rfl, ⟨nd, rfl⟩⟩; refine ⟨_, rfl, ?_⟩; (try (rw [drewN_self w13]; generalize hq_ : World.drewN w13 _ = w13; replace BK101 : Zz (w13.heap[gb101]? = some (.cells #[.slice A0_0 l0_0.length c0_0] 29 (0, 0))) := ⟨by rw [← hq_]; exact (KB_ BK101.out)⟩; replace BK102 : Zz (w13.heap[gb102]? = some (.cells #[.slice none 0 0] 29 (0, 0))) := ⟨by rw [← hq_]; exact (KB_ BK102.out)⟩; replace HB : Zz (Below w.heap.size w w13) := ⟨by rw [← hq_]; exact (B2_ HB.out GE101.out GE102.out)⟩; (try clear hq_))); obtain ⟨hcz14_0, hfz14_0⟩ := Z1f_ BK101.out) | ((with_reducible refine gate_dst (N := 24) rfl ?_); refine Kd.R_lit (Kd.int .i64) _ 2 ?hg (N := 24) ?hd (xs := ([a1] : List Int)) (inner := [.int .i64 a1]) (ok := fun _ => True) (okp := fun _ => True) ?hr ?hp (fun _ hk => hk) trivial (Below.refl _ _) (Nat.le_refl _) (by simp) ?_; (case hd => rfl); (case hg => rfl); (case hr => first | (go_simp; done) | (go_simp; rfl)); (case hp => exact (Reps.one (show Kd.M (Kd.int .i64) _ _ _ a1 [.int .i64 a1] from rfl) (Reps.none _ _))); intro v106 w15 ho16 hb hg_ hnew_; clear hg_ hnew_; (first | rw [← Ny105.out] at ho16 | (simp only [Int.reduceToNat] at ho16; rw [← Ny105.out] at ho16)); have HO107 := Zz.mk (Kd.R_lower ho16 (bS_ (B2_ HB.out GE101.out GE102.out))); replace BK101 := Zz.mk (kb_ BK101.out hb); replace BK102 := Zz.mk (kb_ BK102.out hb); replace HB := Zz.mk (bT_ (B2_ HB.out GE101.out GE102.out) hb); clear hb ho16; obtain ⟨Ao17, co17, eo17⟩ := Kd.R_slice HO107.out; subst eo17) | ((with_reducible refine gC_ (f := 84) rfl ?_); refine GL_ (some 25) rfl rfl Try.func84 #[.agg #[.slice A0_0 l0_0.length c0_0], .slice Ao17 y105.length co17] rfl (h := ?_); (with_reducible refine (z84.calls k _ _ l0_0 _ _ y105 t108 _ ?side1 ?side2 ?side3 ?side4 A7.out).mono ?_); (case side1 => exact KC_ (Kd.C_below HR0_0.out HB.out)); (case side2 => exact HC0_0.out); (case side3 => exact KC_ (Kd.R_reads' HO107.out).2.2); (case side4 => exact (Kd.R_reads' HO107.out).2.1); rintro e w18 ⟨rfl, hb⟩; refine ⟨_, rfl, ?_⟩; replace HO107 := Zz.mk (Kd.R_below (KR_ HO107.out) hb); replace BK101 := Zz.mk (kb_ BK101.out hb); replace BK102 := Zz.mk (kb_ BK102.out hb); replace HB := Zz.mk (bT_ (B2_ HB.out GE101.out GE102.out) hb); (try clear hb); obtain ⟨hcz19_0, hfz19_0⟩ := Z1f_ BK102.out))
    refine bodyPost_ret (results_ct rfl _ _ gb102 29 #[.slice none 0 0] (0, 0) _ rfl (by refine BW_ ?_; refine bP_ (cs := #[.slice none 0 0]) ?_ 0 _ rfl; refine BW_ ?_; exact BK102.out) Try.underlying29 rfl (by kernel_rfl)) rfl ?_
    exact ⟨_, F_, by first | exact Kd.S_nil _ _ _ _ _ | exact Kd.N_nil _ _ _ _ _ | exact Kd.V_nil _ _ _ _ _ | exact Kd.Q_nil _ _ _ _ _ | exact Kd.R_nil _ _ _ _ _, B2_ HB.out GE101.out GE102.out⟩
   rw [if_neg c8] at H
   have c8b0 : decide (0 ≤ t108) = false := decide_eq_false c8
   clear c8
   replace H := OB_ H
   obtain ⟨t109, A200, H⟩ := H
   replace H : (if t109.length < 5864062014805 then (z36.l0 k a1 (t109 ++ [(([a1] : List Int))]) l0_0 (l0_0.length : Int) 0) else (none)) = some (r1, r2) := H
   have A20 := Zz.mk A200
   clear A200
   obtain ⟨y112, hy112⟩ : ∃ y_ : List Int, y_ = (([a1] : List Int)) := ⟨_, rfl⟩
   replace H : (if t109.length < 5864062014805 then (z36.l0 k a1 (t109 ++ [y112]) l0_0 (l0_0.length : Int) 0) else (none)) = some (r1, r2) := Y_ hy112 H
   have Ny112 := Zz.mk hy112
   clear hy112
   have c21 := O1_ H
   replace H := O2_ H
   have LMc21 := Zz.mk c21
   clear c21
   obtain ⟨y115, hy115⟩ : ∃ y_ : List (List Int), y_ = (t109 ++ [y112]) := ⟨_, rfl⟩
   replace H : (z36.l0 k a1 y115 l0_0 (l0_0.length : Int) 0) = some (r1, r2) := Y_ hy115 H
   have Ny115 := Zz.mk hy115
   clear hy115
   have H' := Zz.mk H
   clear H
   go_enter Try.func36, Try.ntmps36
   go_wp2_with (first | ((with_reducible refine gate_dst (N := 2) rfl ?_); refine bx_ 2 #[.slice A0_0 l0_0.length c0_0] 29 ?_; intro gb101 hg w22 hbox hb; have BK101 := Zz.mk (hbox); have GW101 := Zz.mk ((gw_ hg (B_ HB.out))); have GE101 := GW101; replace HB := Zz.mk (bT_ (B_ HB.out) hb); clear hb hbox hg) | ((with_reducible refine gate_dst (N := 4) rfl ?_); refine bx_ 4 #[.slice none 0 0] 29 ?_; intro gb102 hg w23 hbox hb; have BK102 := Zz.mk (hbox); have GW102 := Zz.mk ((gw_ hg (B1_ HB.out GE101.out))); have GE102 := GW102; have NB101_102 := Zz.mk ((nb_ BK101.out hg)); have NB102_101 := Zz.mk NB101_102.out.symm; replace BK101 := Zz.mk (kb_ BK101.out hb); replace HB := Zz.mk (bT_ (B1_ HB.out GE101.out) hb); clear hb hbox hg; have hnb24 := NB101_102.out; have hnc24 := NB102_101.out; obtain ⟨hcz25_0, hfz25_0⟩ := Z1f_ BK101.out) | ((with_reducible refine gC_ (f := 58) rfl ?_); refine GL_ (some 13) rfl rfl Try.func58 #[.agg #[.slice A0_0 l0_0.length c0_0]] rfl (h := ?_); (with_reducible refine (z58.calls k _ _ l0_0 true _ ?side1 ?side2 A3.out).mono ?_); (case side1 => exact KC_ (Kd.C_below HR0_0.out HB.out)); (case side2 => exact HC0_0.out); rintro e w26 ⟨rfl, hb⟩; refine ⟨_, rfl, ?_⟩; replace BK101 := Zz.mk (kb_ BK101.out hb); replace BK102 := Zz.mk (kb_ BK102.out hb); replace HB := Zz.mk (bT_ (B2_ HB.out GE101.out GE102.out) hb); (try clear hb)) | ((with_reducible refine gC_ (f := 83) rfl ?_); refine GL_ (some 18) rfl rfl Try.func83 #[.int .i64 a1] rfl (h := ?_); (with_reducible refine (z83.calls a1 true _ A5.out).mono ?_); rintro e w' ⟨rfl, ⟨nd, rfl⟩⟩; refine ⟨_, rfl, ?_⟩; obtain ⟨hcz27_0, hfz27_0⟩ := Z1f_ BK101.out) | ((with_reducible refine gate_dst (N := 24) rfl ?_); refine Kd.R_lit (Kd.int .i64) _ 2 ?hg (N := 24) ?hd (xs := ([a1] : List Int)) (inner := [.int .i64 a1]) (ok := fun _ => True) (okp := fun _ => True) ?hr ?hp (fun _ hk => hk) trivial (Below.refl _ _) (Nat.le_refl _) (by simp) ?_; (case hd => rfl); (case hg => rfl); (case hr => first | (go_simp; done) | (go_simp; rfl)); (case hp => exact (Reps.one (show Kd.M (Kd.int .i64) _ _ _ a1 [.int .i64 a1] from rfl) (Reps.none _ _))); intro v106 w28 ho29 hb hg_ hnew_; clear hg_ hnew_; (first | rw [← Ny105.out] at ho29 | (simp only [Int.reduceToNat] at ho29; rw [← Ny105.out] at ho29)); have HO107 := Zz.mk (Kd.R_lower ho29 (bS_ (B2_ HB.out GE101.out GE102.out))); replace BK101 := Zz.mk (kb_ BK101.out hb); replace BK102 := Zz.mk (kb_ BK102.out hb); replace HB := Zz.mk (bT_ (B2_ HB.out GE101.out GE102.out) hb); clear hb ho29; obtain ⟨Ao30, co30, eo30⟩ := Kd.R_slice HO107.out; subst eo30) | ((with_reducible refine gC_ (f := 84) rfl ?_); refine GL_ (some 25) rfl rfl Try.func84 #[.agg #[.slice A0_0 l0_0.length c0_0], .slice Ao30 y105.length co30] rfl (h := ?_); (with_reducible refine (z84.calls k _ _ l0_0 _ _ y105 t108 _ ?side1 ?side2 ?side3 ?side4 A7.out).mono ?_); (case side1 => exact KC_ (Kd.C_below HR0_0.out HB.out)); (case side2 => exact HC0_0.out); (case side3 => exact KC_ (Kd.R_reads' HO107.out).2.2); (case side4 => exact (Kd.R_reads' HO107.out).2.1); rintro e w31 ⟨rfl, hb⟩; refine ⟨_, rfl, ?_⟩; replace HO107 := Zz.mk (Kd.R_below (KR_ HO107.out) hb); replace BK101 := Zz.mk (kb_ BK101.out hb); replace BK102 := Zz.mk (kb_ BK102.out hb); replace HB := Zz.mk (bT_ (B2_ HB.out GE101.out GE102.out) hb); (try clear hb); obtain ⟨hcz32_0, hfz32_0⟩ := Z1f_ BK101.out) | ((with_reducible refine gC_ (f := 85) rfl ?_); refine GL_ (some 30) rfl rfl Try.func85 #[.slice A0_0 l0_0.length c0_0] rfl (h := ?_); (with_reducible refine (z85.calls k _ _ l0_0 t109 _ ?side1 ?side2 A20.out).mono ?_); (case side1 => exact KC_ (Kd.C_below HR0_0.out HB.out)); (case side2 => exact HC0_0.out); rintro e w33 ⟨v110, rfl, ho0, hb⟩; refine ⟨_, rfl, ?_⟩; have HO111 := Zz.mk (Kd.S_lower (Kd.S_new' ho0 (Kd.R_lt (KR_ HO107.out))) (bS_ (B2_ HB.out GE101.out GE102.out))); replace HO107 := Zz.mk (Kd.R_below (KR_ HO107.out) hb); replace BK101 := Zz.mk (kb_ BK101.out hb); replace BK102 := Zz.mk (kb_ BK102.out hb); replace HB := Zz.mk (bT_ (B2_ HB.out GE101.out GE102.out) hb); (try clear hb); (try clear ho0)) | ((with_reducible refine gate_dst (N := 32) rfl ?_); refine Kd.R_lit (Kd.int .i64) _ 2 ?hg (N := 32) ?hd (xs := ([a1] : List Int)) (inner := [.int .i64 a1]) (ok := fun _ => True) (okp := fun _ => True) ?hr ?hp (fun _ hk => hk) trivial (Below.refl _ _) (Nat.le_refl _) (by simp) ?_; (case hd => rfl); (case hg => rfl); (case hr => first | (go_simp; done) | (go_simp; rfl)); (case hp => exact (Reps.one (show Kd.M (Kd.int .i64) _ _ _ a1 [.int .i64 a1] from rfl) (Reps.none _ _))); intro v113 w34 ho35 hb hg_ hnew_; clear hg_ hnew_; (first | rw [← Ny112.out] at ho35 | (simp only [Int.reduceToNat] at ho35; rw [← Ny112.out] at ho35)); have HO114 := Zz.mk (Kd.R_lower (Kd.R_new' ho35 (Kd.R_lt (KR_ HO107.out))) (bS_ (B2_ HB.out GE101.out GE102.out))); replace HO107 := Zz.mk (Kd.R_elder' (KR_ HO107.out) (Kd.R_base ho35) hb); replace HO111 := Zz.mk (Kd.S_elder' (KS_ HO111.out) (Kd.R_base ho35) hb); replace BK101 := Zz.mk (kb_ BK101.out hb); replace BK102 := Zz.mk (kb_ BK102.out hb); replace HB := Zz.mk (bT_ (B2_ HB.out GE101.out GE102.out) hb); clear hb ho35; obtain ⟨Ao37, co37, eo37⟩ := Kd.R_slice HO114.out; subst eo37) | ((with_reducible refine gate_builtin (b := .append) (xs := #[.tmp 30, .tmp 33]) rfl ?_); at_builtin; refine Kd.S_append (Kd.slice 2 (Kd.int .i64)) (w0 := w) w.heap.size rfl (.tmp 30) (.tmp 33) 22 26 (.slice none 0 0) 24 rfl Try.underlying22 info26 rfl (by decide) (by omega) v110 t109 y112 [.slice Ao37 y112.length co37] (fun k_ => some k_ ≠ (.slice Ao30 y105.length co30 : Value).ownBlock) (fun k_ => some k_ = (.slice Ao37 y112.length co37 : Value).ownBlock) rfl rfl ?aP (fun k_ hk_ => ((Kd.R_mono (ok' := fun k_ => ((fun k_ => some k_ ≠ (.slice Ao30 y105.length co30 : Value).ownBlock)) k_ ∧ some k_ ≠ (v110 : Value).ownBlock) (Kd.R_apart' (HO114.out) (Kd.S_typed HO111.out) (by decide)) (fun k_ hk => ⟨hk.1.2, hk.2⟩))).1 k_ hk_.symm) ?aF ?aO ?aB ?aS ?aL ?_; (case aP => exact Kd.M_row (Kd.R_mono (Kd.R_tight rfl (Kd.R_mono (ok' := fun k_ => ((fun k_ => some k_ ≠ (.slice Ao30 y105.length co30 : Value).ownBlock)) k_ ∧ some k_ ≠ (v110 : Value).ownBlock) (Kd.R_apart' (HO114.out) (Kd.S_typed HO111.out) (by decide)) (fun k_ hk => ⟨hk.1.2, hk.2⟩))) (fun _ h_ => h_))); (case aB => exact (B2_ HB.out GE101.out GE102.out)); (case aF => exact (fun k_ hk => Kd.fresh' (Kd.R_lt (KR_ HO107.out)) k_ hk)); (case aO => exact (by refine SW_ ?_; exact Kd.S_mono HO111.out (fun k_ hk => ⟨hk.1.2, fun e_ => hk.2 e_⟩))); (case aS => exact (bS_ (B2_ HB.out GE101.out GE102.out))); (case aL => have := LMc21.out; omega); intro v116 w36 ho hb hg hat; rw [← Ny115.out] at ho; replace BK101 := Zz.mk (blk_grown (g := gb101) (o := .cells #[.slice A0_0 l0_0.length c0_0] 29 (0, 0)) (KB_ BK101.out) hg (Kd.S_ne HO111.out BK101.out (by decide))); replace BK102 := Zz.mk (blk_grown (g := gb102) (o := .cells #[.slice none 0 0] 29 (0, 0)) (KB_ BK102.out) hg (Kd.S_ne HO111.out BK102.out (by decide))); replace HO107 := Zz.mk (Kd.R_over' (KR_ HO107.out) (Kd.S_typed (KS_ HO111.out)) (by decide) hg); replace HB := Zz.mk (hb); have HO117 := Zz.mk (ho); clear HO111; clear HO114; clear ho hb hg hat; obtain ⟨hcz38_0, hfz38_0⟩ := Z1f_ BK101.out))
   go_loopg [6, 38] k (fun kq v6 v38 w' => ∃ (x6_1 : List (List Int)) (x38_1 : Int), v38 = .int .i64 x38_1 ∧ Zz (z36.l0 kq a1 x6_1 l0_0 (l0_0.length : Int) x38_1 = some (r1, r2)) ∧ Zz (kq ≤ k) ∧ Zz (Kd.S (Kd.slice 2 (Kd.int .i64)) 26 w' w.heap.size (fun _ => True) v6 x6_1) ∧ Zz (w'.heap[gb101]? = some (.cells #[(.slice A0_0 l0_0.length c0_0)] 29 (0, 0))) ∧ Zz (w'.heap[gb102]? = some (.cells #[(.slice none 0 0)] 29 (0, 0))) ∧ Zz (Below w.heap.size w w'))
   case atStart => exact ⟨(y115), (0), E_, H', ⟨Nat.le_refl _⟩, ⟨by refine SW_ ?_; exact Kd.S_mono HO117.out (fun _ hk => trivial)⟩, ⟨KB_ BK101.out⟩, ⟨KB_ BK102.out⟩, ⟨B2_ HB.out GE101.out GE102.out⟩⟩
   case round =>
    clear H'
    (try clear c4);(try clear c6);(try clear c8);(try clear c8b0);(try clear c21);(try clear hcz25_0);(try clear hcz27_0);(try clear hcz32_0);(try clear hcz38_0);(try clear hfz25_0);(try clear hfz27_0);(try clear hfz32_0);(try clear hfz38_0)
    obtain ⟨x6_1, x38_1, rfl, HA, HK1, HO_6, BK101, BK102, HB⟩ := hrel
    cases gk with
    | zero => exact absurd HA.out (by simp [z36.l0])
    | succ k1 =>
     have H := HA.out
     clear HA
     simp only [z36.l0] at H
     by_cases c39 : x38_1 < (l0_0.length : Int)
     ·rw [if_pos c39] at H
      have c39b0 : decide (x38_1 < (l0_0.length : Int)) = true := decide_eq_true c39
      clear c39
      have c40b0 := O3_ H
      replace H := O2_ H
      have c41b0 := O3_ H
      replace H := O2_ H
      replace H := OB_ H
      obtain ⟨t119, A420, H⟩ := H
      replace H : (if t119.length < 17592186044416 then ((slices_Sort_int64_int64.f (t119 ++ [a1])).bind fun t125 => (if x6_1.length < 5864062014805 then (z36.l0 k1 a1 (x6_1 ++ [t125]) l0_0 (l0_0.length : Int) (wrap64 (x38_1 + 1))) else (none))) else (none)) = some (r1, r2) := H
      have A42 := Zz.mk A420
      clear A420
      have c43 := O1_ H
      replace H := O2_ H
      have LMc43 := Zz.mk c43
      clear c43
      obtain ⟨y122, hy122⟩ : ∃ y_ : List Int, y_ = (t119 ++ [a1]) := ⟨_, rfl⟩
      replace H : ((slices_Sort_int64_int64.f y122).bind fun t125 => (if x6_1.length < 5864062014805 then (z36.l0 k1 a1 (x6_1 ++ [t125]) l0_0 (l0_0.length : Int) (wrap64 (x38_1 + 1))) else (none))) = some (r1, r2) := Y_ hy122 H
      have Ny122 := Zz.mk hy122
      clear hy122
      replace H := OB_ H
      obtain ⟨t125, A440, H⟩ := H
      replace H : (if x6_1.length < 5864062014805 then (z36.l0 k1 a1 (x6_1 ++ [t125]) l0_0 (l0_0.length : Int) (wrap64 (x38_1 + 1))) else (none)) = some (r1, r2) := H
      have A44 := Zz.mk A440
      clear A440
      have c45 := O1_ H
      replace H := O2_ H
      have LMc45 := Zz.mk c45
      clear c45
      obtain ⟨y126, hy126⟩ : ∃ y_ : List (List Int), y_ = (x6_1 ++ [t125]) := ⟨_, rfl⟩
      replace H : (z36.l0 k1 a1 y126 l0_0 (l0_0.length : Int) (wrap64 (x38_1 + 1))) = some (r1, r2) := Y_ hy126 H
      have Ny126 := Zz.mk hy126
      clear hy126
      have H' := Zz.mk H
      clear H
      have p118 : 0 ≤ (x38_1 : Int) := D_
      have q118 : x38_1 < (l0_0.length : Int) := D_
      obtain ⟨ad118, A118_0, c118_0, e118, hx118_0, hl118_0, hi118_0⟩ := at_ListInt HR0_0.out x38_1 p118 q118
      cases e118
      replace hx118_0 := (HB.out.cell (World.block_lt_of_cell? w _ hx118_0)).trans hx118_0
      have HR118_0 := Zz.mk hi118_0
      have HC118_0 := Zz.mk hl118_0
      clear hi118_0 hl118_0
      replace p118 := eq_true p118
      replace q118 := eq_true q118
      go_wp2_with (first | ((with_reducible refine gC_ (f := 86) rfl ?_); refine GL_ (some 43) rfl rfl Try.func86 #[.slice A118_0 (rI_ l0_0 x38_1).length c118_0] rfl (h := ?_); (with_reducible refine (slices_Clone_int64_int64.calls _ _ (rI_ l0_0 x38_1) t119 _ ?side1 ?side2 A42.out).mono ?_); (case side1 => exact KC_ (Kd.C_below HR118_0.out HB.out)); (case side2 => exact HC118_0.out); rintro e w46 ⟨v120, rfl, ho0, hb⟩; refine ⟨_, rfl, ?_⟩; replace HO_6 := Zz.mk (Kd.S_elder' (KS_ HO_6.out) (Kd.R_base ho0) hb); have HO121 := Zz.mk (Kd.R_lower ho0 (bS_ (B2_ HB.out GE101.out GE102.out))); replace BK101 := Zz.mk (kb_ BK101.out hb); replace BK102 := Zz.mk (kb_ BK102.out hb); replace HB := Zz.mk (bT_ (B2_ HB.out GE101.out GE102.out) hb); (try clear hb); (try clear ho0)) | ((with_reducible refine gate_builtin (b := .append) (xs := #[.tmp 43, .tmp 45]) rfl ?_); at_builtin; refine Kd.R_append (Kd.int .i64) (w0 := w) w.heap.size rfl (.tmp 43) (.tmp 45) 26 2 (.int .i64 0) 8 rfl Try.underlying26 info2 rfl (by decide) (by omega) v120 t119 a1 [.int .i64 a1] (fun _ => True) (fun _ => False) rfl rfl ?aP (fun _ hk => hk.elim) ?aF ?aO ?aB ?aS ?aL ?_; (case aP => exact rfl); (case aB => exact (B2_ HB.out GE101.out GE102.out)); (case aF => exact (fun _ _ => trivial)); (case aO => exact (KR_ HO121.out)); (case aS => exact (bS_ (B2_ HB.out GE101.out GE102.out))); (case aL => have := LMc43.out; omega); intro v123 w47 ho hb hg hat; rw [← Ny122.out] at ho; replace HO_6 := Zz.mk (Kd.S_after (ok := (fun _ => True)) (KS_ HO_6.out) hg hat); replace BK101 := Zz.mk (blk_grown (g := gb101) (o := .cells #[.slice (some ad118) l0_0.length c0_0] 29 (0, 0)) (KB_ BK101.out) hg (Kd.R_ne HO121.out BK101.out (by decide))); replace BK102 := Zz.mk (blk_grown (g := gb102) (o := .cells #[.slice none 0 0] 29 (0, 0)) (KB_ BK102.out) hg (Kd.R_ne HO121.out BK102.out (by decide))); replace HB := Zz.mk (hb); have HO124 := Zz.mk (ho); clear HO121; clear ho hb hg hat; obtain ⟨Ao48, co48, eo48⟩ := Kd.R_slice HO124.out; subst eo48) | ((with_reducible refine gC_ (f := 87) rfl ?_); refine GL_ (some 48) rfl rfl Try.func87 #[.slice Ao48 y122.length co48] rfl (h := ?_); (with_reducible refine (slices_Sort_int64_int64.calls (fun k_ => some k_ = (.slice Ao48 y122.length co48 : Value).ownBlock) (.slice Ao48 y122.length co48) y122 t125 w _ ?side1 ?side2 A44.out).mono ?_); (case side1 => repeat (first | (with_reducible first | exact HB.out | apply below_alloc | apply pw_below_drewN | apply below_drew1 | refine below_set ?_ GE101.out | refine below_set ?_ GE102.out) | exact HB.out)); (case side2 => exact Kd.R_tight rfl HO124.out); rintro e w49 ⟨rfl, hy0, hb, hkp⟩; refine ⟨_, rfl, ?_⟩; replace HO_6 := Zz.mk (Kd.S_mono (ok' := fun k_ => some k_ ≠ (.slice Ao48 y122.length co48 : Value).ownBlock) (Kd.S_keptB (HO_6.out) hkp (fun k_ hk_ hs_ => (hk_.2) hs_)) (fun k_ hk_ => hk_.1.2)); replace BK101 := Zz.mk (blk_kept (KB_ BK101.out) hkp (fun hs_ => (fun e_ => (Kd.R_ne HO124.out BK101.out (by decide)) e_) hs_)); replace BK102 := Zz.mk (blk_kept (KB_ BK102.out) hkp (fun hs_ => (fun e_ => (Kd.R_ne HO124.out BK102.out (by decide)) e_) hs_)); replace HO124 := Zz.mk (Kd.R_reok rfl hy0 (fun k_ e_ => HO124.out.1 k_ e_)); replace HB := Zz.mk (hb); (try clear hb); (try clear hkp); (try clear hy0)) | ((with_reducible refine gate_builtin (b := .append) (xs := #[.tmp 49, .tmp 51]) rfl ?_); at_builtin; refine Kd.S_append (Kd.slice 2 (Kd.int .i64)) (w0 := w) w.heap.size rfl (.tmp 49) (.tmp 51) 22 26 (.slice none 0 0) 24 rfl Try.underlying22 info26 rfl (by decide) (by omega) u6 x6_1 t125 [.slice Ao48 y122.length co48] (fun _ => True) (fun k_ => some k_ = (.slice Ao48 y122.length co48 : Value).ownBlock) rfl rfl ?aP (fun k_ hk_ => ((Kd.R_mono (ok' := fun k_ => ((fun _ => True)) k_ ∧ some k_ ≠ (u6 : Value).ownBlock) (Kd.R_apart' (HO124.out) (Kd.S_typed HO_6.out) (by decide)) (fun k_ hk => ⟨trivial, hk.2⟩))).1 k_ hk_.symm) ?aF ?aO ?aB ?aS ?aL ?_; (case aP => exact Kd.M_row (Kd.R_mono (Kd.R_tight rfl (Kd.R_mono (ok' := fun k_ => ((fun _ => True)) k_ ∧ some k_ ≠ (u6 : Value).ownBlock) (Kd.R_apart' (HO124.out) (Kd.S_typed HO_6.out) (by decide)) (fun k_ hk => ⟨trivial, hk.2⟩))) (fun _ h_ => h_))); (case aB => exact (B2_ HB.out GE101.out GE102.out)); (case aF => exact (fun _ _ => trivial)); (case aO => exact (by refine SW_ ?_; exact Kd.S_mono HO_6.out (fun k_ hk => ⟨trivial, fun e_ => hk e_⟩))); (case aS => exact (bS_ (B2_ HB.out GE101.out GE102.out))); (case aL => have := LMc45.out; omega); intro v127 w50 ho hb hg hat; rw [← Ny126.out] at ho; replace BK101 := Zz.mk (blk_grown (g := gb101) (o := .cells #[.slice (some ad118) l0_0.length c0_0] 29 (0, 0)) (KB_ BK101.out) hg (Kd.S_ne HO_6.out BK101.out (by decide))); replace BK102 := Zz.mk (blk_grown (g := gb102) (o := .cells #[.slice none 0 0] 29 (0, 0)) (KB_ BK102.out) hg (Kd.S_ne HO_6.out BK102.out (by decide))); replace HB := Zz.mk (hb); have HO128 := Zz.mk (ho); clear HO_6; clear HO124; clear ho hb hg hat))
      go_roundg k1
      case measure => exact Q1_ HK1
      case rel => exact ⟨(y126), (wrap64 (x38_1 + 1)), E_, H', ⟨Q1_ HK1⟩, ⟨KS_ HO128.out⟩, ⟨KB_ BK101.out⟩, ⟨KB_ BK102.out⟩, ⟨B2_ HB.out GE101.out GE102.out⟩⟩
     rw [if_neg c39] at H
     have c39b0 : decide (x38_1 < (l0_0.length : Int)) = false := decide_eq_false c39
     clear c39
     replace H := OB_ H
     obtain ⟨t129, A510, H⟩ := H
     replace H : ((z58.f k1 t129).bind fun t133 => (if t133 = true then (some (t129, 0)) else (some (([] : List (List Int)), 5)))) = some (r1, r2) := H
     have A51 := Zz.mk A510
     clear A510
     replace H := OB_ H
     obtain ⟨t133, A520, H⟩ := H
     replace H : (if t133 = true then (some (t129, 0)) else (some (([] : List (List Int)), 5))) = some (r1, r2) := H
     have A52 := Zz.mk A520
     clear A520
     by_cases c53 : t133 = true
     ·subst c53
      have H1 : (some (t129, 0)) = some (r1, r2) := by rw [if_pos rfl] at H; exact H
      clear H
      have H := H1
      clear H1
      simp only [Option.some.injEq, Prod.mk.injEq] at H
      obtain ⟨rfl, rfl⟩ := H
      obtain ⟨Ao54, co54, eo54⟩ := Kd.S_slice HO_6.out
      subst eo54
      go_wp2_with (first | ((with_reducible refine gC_ (f := 64) rfl ?_); refine GL_ (some 55) rfl rfl Try.func64 #[.slice Ao54 x6_1.length co54] rfl (h := ?_); (with_reducible refine (impl_inOrder.calls _ _ x6_1 t129 _ ?side1 ?side2 A51.out).mono ?_); (case side1 => exact KC_ (Kd.S_reads' HO_6.out).2.2); (case side2 => exact (Kd.S_reads' HO_6.out).2.1); rintro e w55 ⟨v130, rfl, ho0, hb⟩; refine ⟨_, rfl, ?_⟩; have HO131 := Zz.mk (Kd.S_lower (Kd.S_new' ho0 (Kd.S_lt (KS_ HO_6.out))) (bS_ (B2_ HB.out GE101.out GE102.out))); replace HO_6 := Zz.mk (Kd.S_elder' (KS_ HO_6.out) (Kd.S_base ho0) hb); replace BK101 := Zz.mk (kb_ BK101.out hb); replace BK102 := Zz.mk (kb_ BK102.out hb); replace HB := Zz.mk (bT_ (B2_ HB.out GE101.out GE102.out) hb); (try clear hb); (try clear ho0)) | ((with_reducible refine gate_dst (N := 10) rfl ?_); refine bx_ 10 #[.slice none 0 0] 29 ?_; intro gb132 hg w56 hbox hb; have BK132 := Zz.mk (hbox); have GW132 := Zz.mk ((gw_ hg (B2_ HB.out GE101.out GE102.out))); have GE132 := GW132; have NB101_132 := Zz.mk ((nb_ BK101.out hg)); have NB132_101 := Zz.mk NB101_132.out.symm; have NB102_132 := Zz.mk ((nb_ BK102.out hg)); have NB132_102 := Zz.mk NB102_132.out.symm; replace HO_6 := Zz.mk (Kd.S_below (KS_ HO_6.out) hb); replace HO131 := Zz.mk (Kd.S_below (KS_ HO131.out) hb); replace BK101 := Zz.mk (kb_ BK101.out hb); replace BK102 := Zz.mk (kb_ BK102.out hb); replace HB := Zz.mk (bT_ (B2_ HB.out GE101.out GE102.out) hb); clear hb hbox hg; obtain ⟨Ao57, co57, eo57⟩ := Kd.S_slice HO131.out; subst eo57; have hnb58 := NB132_101.out; have hnc58 := NB101_132.out; have hnb59 := NB132_102.out; have hnc59 := NB102_132.out; obtain ⟨hcz60_0, hfz60_0⟩ := Z1f_ BK132.out) | ((with_reducible refine gC_ (f := 58) rfl ?_); refine GL_ (some 57) rfl rfl Try.func58 #[.agg #[.slice Ao57 t129.length co57]] rfl (h := ?_); (with_reducible refine (z58.calls k1 _ _ t129 true _ ?side1 ?side2 A52.out).mono ?_); (case side1 => refine (Kd.S_reads' (e := 26) (base := w.heap.size) (ok := fun k_ => (True ∧ some k_ ≠ (.slice Ao54 x6_1.length co54 : Value).ownBlock)) (n := t129.length) (c := co57) ?_).2.2; exact (by refine SW_ ?_; exact (Kd.S_mono (Kd.S_far (p := ⟨gb132, 0, none⟩) (Kd.S_types HO131.out BK132.out (by decide)) (fun _ hk => hk.2) (.slice Ao57 t129.length co57)) (fun _ h_ => h_.1)))); (case side2 => exact (Kd.S_reads' HO131.out).2.1); rintro e w61 ⟨rfl, hb⟩; refine ⟨_, rfl, ?_⟩; replace HO_6 := Zz.mk (Kd.S_below (by refine SW_ ?_; exact (Kd.S_mono (Kd.S_far (p := ⟨gb132, 0, none⟩) (Kd.S_types HO_6.out BK132.out (by decide)) (fun _ hk => hk.2) (.slice Ao57 t129.length co57)) (fun _ h_ => h_.1))) hb); replace HO131 := Zz.mk (Kd.S_below (by refine SW_ ?_; exact (Kd.S_mono (Kd.S_far (p := ⟨gb132, 0, none⟩) (Kd.S_types HO131.out BK132.out (by decide)) (fun _ hk => hk.2) (.slice Ao57 t129.length co57)) (fun _ h_ => h_.1))) hb); replace BK101 := Zz.mk (bB_ (g := gb101) (o := .cells #[.slice A0_0 l0_0.length c0_0] 29 (0, 0)) (by refine BW_ ?_; refine bR_ ?_ NB101_132.out _; refine BW_ ?_; exact BK101.out) hb); replace BK102 := Zz.mk (bB_ (g := gb102) (o := .cells #[.slice none 0 0] 29 (0, 0)) (by refine BW_ ?_; refine bR_ ?_ NB102_132.out _; refine BW_ ?_; exact BK102.out) hb); replace BK132 := Zz.mk (bB_ (g := gb132) (o := .cells #[.slice Ao57 t129.length co57] 29 (0, 0)) (by refine BW_ ?_; refine bP_ (cs := #[.slice none 0 0]) ?_ 0 _ rfl; refine BW_ ?_; exact BK132.out) hb); replace HB := Zz.mk (bT_ (B3_ HB.out GE101.out GE102.out GE132.out) hb); (try clear hb); obtain ⟨hcz62_0, hfz62_0⟩ := Z1f_ BK132.out; have hnb63 := NB102_101.out; have hnc63 := NB101_102.out; obtain ⟨hcz64_0, hfz64_0⟩ := Z1f_ BK102.out))
      refine bodyPost_ret (results_ct rfl _ _ gb102 29 #[.slice Ao57 t129.length co57] (0, 0) _ rfl (by refine BW_ ?_; refine bP_ (cs := #[.slice none 0 0]) ?_ 0 _ rfl; refine BW_ ?_; exact BK102.out) Try.underlying29 rfl (by kernel_rfl)) rfl ?_
      exact ⟨_, F_, by refine SW_ ?_; exact Kd.S_mono (Kd.S_far (p := ⟨gb102, 0, none⟩) (Kd.S_types HO131.out BK102.out (by decide)) (fun _ hk => hk.2) (.slice Ao57 t129.length co57)) (fun _ hk => trivial), B3_ HB.out GE101.out GE102.out GE132.out⟩
     replace c53 := Bool.eq_false_iff.mpr c53
     subst c53
     have H1 : (some (([] : List (List Int)), 5)) = some (r1, r2) := by rw [if_neg (show ¬ (false = true) by decide)] at H; exact H
     clear H
     have H := H1
     clear H1
     simp only [Option.some.injEq, Prod.mk.injEq] at H
     obtain ⟨rfl, rfl⟩ := H
     obtain ⟨Ao65, co65, eo65⟩ := Kd.S_slice HO_6.out
     subst eo65
     go_wp2_with (first | ((with_reducible refine gC_ (f := 64) rfl ?_); refine GL_ (some 55) rfl rfl Try.func64 #[.slice Ao65 x6_1.length co65] rfl (h := ?_); (with_reducible refine (impl_inOrder.calls _ _ x6_1 t129 _ ?side1 ?side2 A51.out).mono ?_); (case side1 => exact KC_ (Kd.S_reads' HO_6.out).2.2); (case side2 => exact (Kd.S_reads' HO_6.out).2.1); rintro e w66 ⟨v130, rfl, ho0, hb⟩; refine ⟨_, rfl, ?_⟩; have HO131 := Zz.mk (Kd.S_lower (Kd.S_new' ho0 (Kd.S_lt (KS_ HO_6.out))) (bS_ (B2_ HB.out GE101.out GE102.out))); replace HO_6 := Zz.mk (Kd.S_elder' (KS_ HO_6.out) (Kd.S_base ho0) hb); replace BK101 := Zz.mk (kb_ BK101.out hb); replace BK102 := Zz.mk (kb_ BK102.out hb); replace HB := Zz.mk (bT_ (B2_ HB.out GE101.out GE102.out) hb); (try clear hb); (try clear ho0)) | ((with_reducible refine gate_dst (N := 10) rfl ?_); refine bx_ 10 #[.slice none 0 0] 29 ?_; intro gb132 hg w67 hbox hb; have BK132 := Zz.mk (hbox); have GW132 := Zz.mk ((gw_ hg (B2_ HB.out GE101.out GE102.out))); have GE132 := GW132; have NB101_132 := Zz.mk ((nb_ BK101.out hg)); have NB132_101 := Zz.mk NB101_132.out.symm; have NB102_132 := Zz.mk ((nb_ BK102.out hg)); have NB132_102 := Zz.mk NB102_132.out.symm; replace HO_6 := Zz.mk (Kd.S_below (KS_ HO_6.out) hb); replace HO131 := Zz.mk (Kd.S_below (KS_ HO131.out) hb); replace BK101 := Zz.mk (kb_ BK101.out hb); replace BK102 := Zz.mk (kb_ BK102.out hb); replace HB := Zz.mk (bT_ (B2_ HB.out GE101.out GE102.out) hb); clear hb hbox hg; obtain ⟨Ao68, co68, eo68⟩ := Kd.S_slice HO131.out; subst eo68; have hnb69 := NB132_101.out; have hnc69 := NB101_132.out; have hnb70 := NB132_102.out; have hnc70 := NB102_132.out; obtain ⟨hcz71_0, hfz71_0⟩ := Z1f_ BK132.out) | ((with_reducible refine gC_ (f := 58) rfl ?_); refine GL_ (some 57) rfl rfl Try.func58 #[.agg #[.slice Ao68 t129.length co68]] rfl (h := ?_); (with_reducible refine (z58.calls k1 _ _ t129 false _ ?side1 ?side2 A52.out).mono ?_); (case side1 => refine (Kd.S_reads' (e := 26) (base := w.heap.size) (ok := fun k_ => (True ∧ some k_ ≠ (.slice Ao65 x6_1.length co65 : Value).ownBlock)) (n := t129.length) (c := co68) ?_).2.2; exact (by refine SW_ ?_; exact (Kd.S_mono (Kd.S_far (p := ⟨gb132, 0, none⟩) (Kd.S_types HO131.out BK132.out (by decide)) (fun _ hk => hk.2) (.slice Ao68 t129.length co68)) (fun _ h_ => h_.1)))); (case side2 => exact (Kd.S_reads' HO131.out).2.1); rintro e w72 ⟨rfl, hb⟩; refine ⟨_, rfl, ?_⟩; replace HO_6 := Zz.mk (Kd.S_below (by refine SW_ ?_; exact (Kd.S_mono (Kd.S_far (p := ⟨gb132, 0, none⟩) (Kd.S_types HO_6.out BK132.out (by decide)) (fun _ hk => hk.2) (.slice Ao68 t129.length co68)) (fun _ h_ => h_.1))) hb); replace HO131 := Zz.mk (Kd.S_below (by refine SW_ ?_; exact (Kd.S_mono (Kd.S_far (p := ⟨gb132, 0, none⟩) (Kd.S_types HO131.out BK132.out (by decide)) (fun _ hk => hk.2) (.slice Ao68 t129.length co68)) (fun _ h_ => h_.1))) hb); replace BK101 := Zz.mk (bB_ (g := gb101) (o := .cells #[.slice A0_0 l0_0.length c0_0] 29 (0, 0)) (by refine BW_ ?_; refine bR_ ?_ NB101_132.out _; refine BW_ ?_; exact BK101.out) hb); replace BK102 := Zz.mk (bB_ (g := gb102) (o := .cells #[.slice none 0 0] 29 (0, 0)) (by refine BW_ ?_; refine bR_ ?_ NB102_132.out _; refine BW_ ?_; exact BK102.out) hb); replace BK132 := Zz.mk (bB_ (g := gb132) (o := .cells #[.slice Ao68 t129.length co68] 29 (0, 0)) (by refine BW_ ?_; refine bP_ (cs := #[.slice none 0 0]) ?_ 0 _ rfl; refine BW_ ?_; exact BK132.out) hb); replace HB := Zz.mk (bT_ (B3_ HB.out GE101.out GE102.out GE132.out) hb); (try clear hb); have hnb73 := NB102_101.out; have hnc73 := NB101_102.out; obtain ⟨hcz74_0, hfz74_0⟩ := Z1f_ BK102.out))
     refine bodyPost_ret (results_ct rfl _ _ gb102 29 #[.slice none 0 0] (0, 0) _ rfl (by refine BW_ ?_; refine bP_ (cs := #[.slice none 0 0]) ?_ 0 _ rfl; refine BW_ ?_; exact BK102.out) Try.underlying29 rfl (by kernel_rfl)) rfl ?_
     exact ⟨_, F_, by first | exact Kd.S_nil _ _ _ _ _ | exact Kd.N_nil _ _ _ _ _ | exact Kd.V_nil _ _ _ _ _ | exact Kd.Q_nil _ _ _ _ _ | exact Kd.R_nil _ _ _ _ _, B3_ HB.out GE101.out GE102.out GE132.out⟩
  replace c6 := Bool.eq_false_iff.mpr c6
  subst c6
  have H1 : (some (([] : List (List Int)), 2)) = some (r1, r2) := by rw [if_neg (show ¬ (false = true) by decide)] at H; exact H
  clear H
  have H := H1
  clear H1
  simp only [Option.some.injEq, Prod.mk.injEq] at H
  obtain ⟨rfl, rfl⟩ := H
  go_enter Try.func36, Try.ntmps36
  go_wp2_with (first | ((with_reducible refine gate_dst (N := 2) rfl ?_); refine bx_ 2 #[.slice A0_0 l0_0.length c0_0] 29 ?_; intro gb101 hg w75 hbox hb; have BK101 := Zz.mk (hbox); have GW101 := Zz.mk ((gw_ hg (B_ HB.out))); have GE101 := GW101; replace HB := Zz.mk (bT_ (B_ HB.out) hb); clear hb hbox hg) | ((with_reducible refine gate_dst (N := 4) rfl ?_); refine bx_ 4 #[.slice none 0 0] 29 ?_; intro gb102 hg w76 hbox hb; have BK102 := Zz.mk (hbox); have GW102 := Zz.mk ((gw_ hg (B1_ HB.out GE101.out))); have GE102 := GW102; have NB101_102 := Zz.mk ((nb_ BK101.out hg)); have NB102_101 := Zz.mk NB101_102.out.symm; replace BK101 := Zz.mk (kb_ BK101.out hb); replace HB := Zz.mk (bT_ (B1_ HB.out GE101.out) hb); clear hb hbox hg; have hnb77 := NB101_102.out; have hnc77 := NB102_101.out; obtain ⟨hcz78_0, hfz78_0⟩ := Z1f_ BK101.out) | ((with_reducible refine gC_ (f := 58) rfl ?_); refine GL_ (some 13) rfl rfl Try.func58 #[.agg #[.slice A0_0 l0_0.length c0_0]] rfl (h := ?_); (with_reducible refine (z58.calls k _ _ l0_0 true _ ?side1 ?side2 A3.out).mono ?_); (case side1 => exact KC_ (Kd.C_below HR0_0.out HB.out)); (case side2 => exact HC0_0.out); rintro e w79 ⟨rfl, hb⟩; refine ⟨_, rfl, ?_⟩; replace BK101 := Zz.mk (kb_ BK101.out hb); replace BK102 := Zz.mk (kb_ BK102.out hb); replace HB := Zz.mk (bT_ (B2_ HB.out GE101.out GE102.out) hb); (try clear hb)) | ((with_reducible refine gC_ (f := 83) rfl ?_); refine GL_ (some 18) rfl rfl Try.func83 #[.int .i64 a1] rfl (h := ?_); (with_reducible refine (z83.calls a1 false _ A5.out).mono ?_); rintro e w' ⟨rfl, ⟨nd, rfl⟩⟩; refine ⟨_, rfl, ?_⟩; (try (rw [drewN_self w79]; generalize hq_ : World.drewN w79 _ = w79; replace BK101 : Zz (w79.heap[gb101]? = some (.cells #[.slice A0_0 l0_0.length c0_0] 29 (0, 0))) := ⟨by rw [← hq_]; exact (KB_ BK101.out)⟩; replace BK102 : Zz (w79.heap[gb102]? = some (.cells #[.slice none 0 0] 29 (0, 0))) := ⟨by rw [← hq_]; exact (KB_ BK102.out)⟩; replace HB : Zz (Below w.heap.size w w79) := ⟨by rw [← hq_]; exact (B2_ HB.out GE101.out GE102.out)⟩; (try clear hq_))); obtain ⟨hcz80_0, hfz80_0⟩ := Z1f_ BK102.out))
  refine bodyPost_ret (results_ct rfl _ _ gb102 29 #[.slice none 0 0] (0, 0) _ rfl (by refine BW_ ?_; refine bP_ (cs := #[.slice none 0 0]) ?_ 0 _ rfl; refine BW_ ?_; exact BK102.out) Try.underlying29 rfl (by kernel_rfl)) rfl ?_
  exact ⟨_, F_, by first | exact Kd.S_nil _ _ _ _ _ | exact Kd.N_nil _ _ _ _ _ | exact Kd.V_nil _ _ _ _ _ | exact Kd.Q_nil _ _ _ _ _ | exact Kd.R_nil _ _ _ _ _, B2_ HB.out GE101.out GE102.out⟩
 replace c4 := Bool.eq_false_iff.mpr c4
 subst c4
 have H1 : (some (([] : List (List Int)), 1)) = some (r1, r2) := by rw [if_neg (show ¬ (false = true) by decide)] at H; exact H
 clear H
 have H := H1
 clear H1
 simp only [Option.some.injEq, Prod.mk.injEq] at H
 obtain ⟨rfl, rfl⟩ := H
 go_enter Try.func36, Try.ntmps36
 go_wp2_with (first | ((with_reducible refine gate_dst (N := 2) rfl ?_); refine bx_ 2 #[.slice A0_0 l0_0.length c0_0] 29 ?_; intro gb101 hg w81 hbox hb; have BK101 := Zz.mk (hbox); have GW101 := Zz.mk ((gw_ hg (B_ HB.out))); have GE101 := GW101; replace HB := Zz.mk (bT_ (B_ HB.out) hb); clear hb hbox hg) | ((with_reducible refine gate_dst (N := 4) rfl ?_); refine bx_ 4 #[.slice none 0 0] 29 ?_; intro gb102 hg w82 hbox hb; have BK102 := Zz.mk (hbox); have GW102 := Zz.mk ((gw_ hg (B1_ HB.out GE101.out))); have GE102 := GW102; have NB101_102 := Zz.mk ((nb_ BK101.out hg)); have NB102_101 := Zz.mk NB101_102.out.symm; replace BK101 := Zz.mk (kb_ BK101.out hb); replace HB := Zz.mk (bT_ (B1_ HB.out GE101.out) hb); clear hb hbox hg; have hnb83 := NB101_102.out; have hnc83 := NB102_101.out; obtain ⟨hcz84_0, hfz84_0⟩ := Z1f_ BK101.out) | ((with_reducible refine gC_ (f := 58) rfl ?_); refine GL_ (some 13) rfl rfl Try.func58 #[.agg #[.slice A0_0 l0_0.length c0_0]] rfl (h := ?_); (with_reducible refine (z58.calls k _ _ l0_0 false _ ?side1 ?side2 A3.out).mono ?_); (case side1 => exact KC_ (Kd.C_below HR0_0.out HB.out)); (case side2 => exact HC0_0.out); rintro e w85 ⟨rfl, hb⟩; refine ⟨_, rfl, ?_⟩; replace BK101 := Zz.mk (kb_ BK101.out hb); replace BK102 := Zz.mk (kb_ BK102.out hb); replace HB := Zz.mk (bT_ (B2_ HB.out GE101.out GE102.out) hb); (try clear hb); obtain ⟨hcz86_0, hfz86_0⟩ := Z1f_ BK102.out))
 refine bodyPost_ret (results_ct rfl _ _ gb102 29 #[.slice none 0 0] (0, 0) _ rfl (by refine BW_ ?_; refine bP_ (cs := #[.slice none 0 0]) ?_ 0 _ rfl; refine BW_ ?_; exact BK102.out) Try.underlying29 rfl (by kernel_rfl)) rfl ?_
 exact ⟨_, F_, by first | exact Kd.S_nil _ _ _ _ _ | exact Kd.N_nil _ _ _ _ _ | exact Kd.V_nil _ _ _ _ _ | exact Kd.Q_nil _ _ _ _ _ | exact Kd.R_nil _ _ _ _ _, B2_ HB.out GE101.out GE102.out⟩
end Go.Proofs.Ytipkciildhghiaa.B
