/- Printed proofs of functions of the program and of the reference, by a program of this work over the kit's printer. -/
import Derived.Test.YtkgajpngeglkmaaKKGJHIO0
import Derived.Test.YtkgajpngeglkmaaKLBBOAD0
import Derived.Test.YtkgajpngeglkmaaKMCIMDJ0
import Derived.Test.YtkgajpngeglkmaaKW0
namespace Go.Proofs.Ytkgajpngeglkmaa.B
open Go.RowKit Go.Proofs.YtkgajpngeglkmaaW.PrintWords Go.Proofs.YtkgajpngeglkmaaW.PrintLast Go.Proofs.YtkgajpngeglkmaaW.PrintMore
attribute [local go_sem] qAh qAf qAn qAm qAc qAb qAg qAe
set_option linter.unusedVariables false
set_option linter.unusedSimpArgs false
def z10.f (k : Nat) (a0_0 : Int) (a0_1 : Int) (l0_2 : List (List Int)) (a1_0 : Int) (a1_1 : Int) (l1_2 : List (List Int)) : Option ((List (List Int)) × Int) := (z42.f k a0_0 a0_1 l0_2 a1_0 a1_1 l1_2).bind fun t103 => (if t103 = 0 then ((z157.f k l1_2 a0_0 a0_1 l0_2).bind fun t104 => (if t104 = true then (some (([] : List (List Int)), 6)) else ((z46.f k a0_0 a0_1 l0_2 a1_0 a1_1 l1_2).bind fun t105 => (some (t105, 0))))) else (some (([] : List (List Int)), t103)))
set_option maxHeartbeats 8000000 in
set_option maxRecDepth 100000 in
theorem z10.calls (k : Nat) (a0_0 : Int) (a0_1 : Int) (A0_2 : Option Addr) (c0_2 : Nat) (l0_2 : List (List Int)) (a1_0 : Int) (a1_1 : Int) (A1_2 : Option Addr) (c1_2 : Nat) (l1_2 : List (List Int)) (r1 : List (List Int)) (r2 : Int) (w : World) (hr0_2 : Kd.C (Kd.slice 2 (Kd.int .i64)) w A0_2 l0_2.length l0_2) (hc0_2 : l0_2.length ≤ c0_2) (hr1_2 : Kd.C (Kd.slice 2 (Kd.int .i64)) w A1_2 l1_2.length l1_2) (hc1_2 : l1_2.length ≤ c1_2) (h : z10.f k a0_0 a0_1 l0_2 a1_0 a1_1 l1_2 = some (r1, r2)) :
  Calls Try.prog 10 #[.agg #[.int .i64 a0_0, .int .i64 a0_1, .slice A0_2 l0_2.length c0_2], .agg #[.int .i64 a1_0, .int .i64 a1_1, .slice A1_2 l1_2.length c1_2]] w fun e w' => ∃ v0_ : Value, e = .returned (.tuple #[v0_, .int .i64 r2]) ∧ Kd.S (Kd.slice 2 (Kd.int .i64)) 40 w' w.heap.size (fun _ => True) v0_ r1 ∧ Below w.heap.size w w' := by
 have hu28 := Try.underlying28
 have HR0_2 := Zz.mk hr0_2
 have HC0_2 := Zz.mk hc0_2
 clear hr0_2 hc0_2
 have HR1_2 := Zz.mk hr1_2
 have HC1_2 := Zz.mk hc1_2
 clear hr1_2 hc1_2
 have HB := Zz.mk (Below.refl w.heap.size w)
 have H : ((z42.f k a0_0 a0_1 l0_2 a1_0 a1_1 l1_2).bind fun t103 => (if t103 = 0 then ((z157.f k l1_2 a0_0 a0_1 l0_2).bind fun t104 => (if t104 = true then (some (([] : List (List Int)), 6)) else ((z46.f k a0_0 a0_1 l0_2 a1_0 a1_1 l1_2).bind fun t105 => (some (t105, 0))))) else (some (([] : List (List Int)), t103)))) = some (r1, r2) := h
 clear h
 replace H := OB_ H
 obtain ⟨t103, A30, H⟩ := H
 replace H : (if t103 = 0 then ((z157.f k l1_2 a0_0 a0_1 l0_2).bind fun t104 => (if t104 = true then (some (([] : List (List Int)), 6)) else ((z46.f k a0_0 a0_1 l0_2 a1_0 a1_1 l1_2).bind fun t105 => (some (t105, 0))))) else (some (([] : List (List Int)), t103))) = some (r1, r2) := H
 have A3 := Zz.mk A30
 clear A30
 by_cases c4 : t103 = 0
 ·rw [if_pos c4] at H
  have c4b0 : (t103 == 0) = true := beq_iff_eq.mpr c4
  have c4b1 : (t103 != 0) = false := bne_eq_false_iff_eq.mpr c4
  clear c4
  replace H := OB_ H
  obtain ⟨t104, A50, H⟩ := H
  replace H : (if t104 = true then (some (([] : List (List Int)), 6)) else ((z46.f k a0_0 a0_1 l0_2 a1_0 a1_1 l1_2).bind fun t105 => (some (t105, 0)))) = some (r1, r2) := H
  have A5 := Zz.mk A50
  clear A50
  by_cases c6 : t104 = true
  ·subst c6
   have H1 : (some (([] : List (List Int)), 6)) = some (r1, r2) := by rw [if_pos rfl] at H; exact H
   clear H
   have H := H1
   clear H1
   simp only [Option.some.injEq, Prod.mk.injEq] at H
   obtain ⟨rfl, rfl⟩ := H
   go_enter Try.func10, Try.ntmps10
   go_wp2_with (first | ((with_reducible refine qAi (N := 2) rfl ?_); refine bx_ 2 #[.int .i64 a0_0, .int .i64 a0_1, .slice A0_2 l0_2.length c0_2] 28 ?_; intro gb101 hg w7 hbox hb; have BK101 := Zz.mk (hbox); have GW101 := Zz.mk ((gw_ hg (B_ HB.out))); have GE101 := GW101; replace HB := Zz.mk (bT_ (B_ HB.out) hb); clear hb hbox hg) | ((with_reducible refine qAi (N := 3) rfl ?_); refine bx_ 3 #[.int .i64 a1_0, .int .i64 a1_1, .slice A1_2 l1_2.length c1_2] 28 ?_; intro gb102 hg w8 hbox hb; have BK102 := Zz.mk (hbox); have GW102 := Zz.mk ((gw_ hg (B1_ HB.out GE101.out))); have GE102 := GW102; have NB101_102 := Zz.mk ((nb_ BK101.out hg)); have NB102_101 := Zz.mk NB101_102.out.symm; replace BK101 := Zz.mk (kb_ BK101.out hb); replace HB := Zz.mk (bT_ (B1_ HB.out GE101.out) hb); clear hb hbox hg; have hnb9 := NB101_102.out; have hnc9 := NB102_101.out; obtain ⟨hcz10_0, hcz10_1, hcz10_2, hfz10_0, hfz10_1, hfz10_2⟩ := Z3f_ BK101.out; obtain ⟨hcz11_0, hcz11_1, hcz11_2, hfz11_0, hfz11_1, hfz11_2⟩ := Z3f_ BK102.out) | ((with_reducible refine gC_ (f := 42) rfl ?_); refine GL_ (some 9) rfl rfl Try.func42 #[.agg #[.int .i64 a0_0, .int .i64 a0_1, .slice A0_2 l0_2.length c0_2], .agg #[.int .i64 a1_0, .int .i64 a1_1, .slice A1_2 l1_2.length c1_2]] rfl (h := ?_); (with_reducible refine (z42.calls k a0_0 a0_1 _ _ l0_2 a1_0 a1_1 _ _ l1_2 t103 _ ?side1 ?side2 ?side3 ?side4 A3.out).mono ?_); (case side1 => exact KC_ (Kd.C_below HR0_2.out HB.out)); (case side2 => exact HC0_2.out); (case side3 => exact KC_ (Kd.C_below HR1_2.out HB.out)); (case side4 => exact HC1_2.out); rintro e w12 ⟨rfl, hb⟩; refine ⟨_, rfl, ?_⟩; replace BK101 := Zz.mk (kb_ BK101.out hb); replace BK102 := Zz.mk (kb_ BK102.out hb); replace HB := Zz.mk (bT_ (B2_ HB.out GE101.out GE102.out) hb); (try clear hb); obtain ⟨hcz13_0, hcz13_1, hcz13_2, hfz13_0, hfz13_1, hfz13_2⟩ := Z3f_ BK102.out) | ((with_reducible refine gC_ (f := 43) rfl ?_); refine GL_ (some 16) rfl rfl Try.func43 #[.slice A1_2 l1_2.length c1_2, .func (.func 44) #[] #[.pointer (some ⟨gb101, 0, none⟩)]] rfl (h := ?_); (with_reducible refine (z157.calls k _ _ l1_2 gb101 a0_0 a0_1 A0_2 c0_2 l0_2 true _ ?side1 ?side2 ?side3 ?side4 ?side5 A5.out).mono ?_); (case side1 => refine BW_ ?_; exact BK101.out); (case side2 => exact KC_ (Kd.C_below HR1_2.out HB.out)); (case side3 => exact HC1_2.out); (case side4 => exact KC_ (Kd.C_below HR0_2.out HB.out)); (case side5 => exact HC0_2.out); rintro e w14 ⟨rfl, hb⟩; refine ⟨_, rfl, ?_⟩; replace BK101 := Zz.mk (kb_ BK101.out hb); replace BK102 := Zz.mk (kb_ BK102.out hb); replace HB := Zz.mk (bT_ (B2_ HB.out GE101.out GE102.out) hb); (try clear hb)))
   go_ret2
   exact ⟨_, F_, by first | exact Kd.S_nil _ _ _ _ _ | exact Kd.N_nil _ _ _ _ _ | exact Kd.V_nil _ _ _ _ _ | exact Kd.Q_nil _ _ _ _ _ | exact Kd.R_nil _ _ _ _ _, B2_ HB.out GE101.out GE102.out⟩
  replace c6 := Bool.eq_false_iff.mpr c6
  subst c6
  have H1 : ((z46.f k a0_0 a0_1 l0_2 a1_0 a1_1 l1_2).bind fun t105 => (some (t105, 0))) = some (r1, r2) := by rw [if_neg (show ¬ (false = true) by decide)] at H; exact H
  clear H
  have H := H1
  clear H1
  replace H := OB_ H
  obtain ⟨t105, A150, H⟩ := H
  replace H : (some (t105, 0)) = some (r1, r2) := H
  have A15 := Zz.mk A150
  clear A150
  simp only [Option.some.injEq, Prod.mk.injEq] at H
  obtain ⟨rfl, rfl⟩ := H
  go_enter Try.func10, Try.ntmps10
  go_wp2_with (first | ((with_reducible refine qAi (N := 2) rfl ?_); refine bx_ 2 #[.int .i64 a0_0, .int .i64 a0_1, .slice A0_2 l0_2.length c0_2] 28 ?_; intro gb101 hg w16 hbox hb; have BK101 := Zz.mk (hbox); have GW101 := Zz.mk ((gw_ hg (B_ HB.out))); have GE101 := GW101; replace HB := Zz.mk (bT_ (B_ HB.out) hb); clear hb hbox hg) | ((with_reducible refine qAi (N := 3) rfl ?_); refine bx_ 3 #[.int .i64 a1_0, .int .i64 a1_1, .slice A1_2 l1_2.length c1_2] 28 ?_; intro gb102 hg w17 hbox hb; have BK102 := Zz.mk (hbox); have GW102 := Zz.mk ((gw_ hg (B1_ HB.out GE101.out))); have GE102 := GW102; have NB101_102 := Zz.mk ((nb_ BK101.out hg)); have NB102_101 := Zz.mk NB101_102.out.symm; replace BK101 := Zz.mk (kb_ BK101.out hb); replace HB := Zz.mk (bT_ (B1_ HB.out GE101.out) hb); clear hb hbox hg; have hnb18 := NB101_102.out; have hnc18 := NB102_101.out; obtain ⟨hcz19_0, hcz19_1, hcz19_2, hfz19_0, hfz19_1, hfz19_2⟩ := Z3f_ BK101.out; obtain ⟨hcz20_0, hcz20_1, hcz20_2, hfz20_0, hfz20_1, hfz20_2⟩ := Z3f_ BK102.out) | ((with_reducible refine gC_ (f := 42) rfl ?_); refine GL_ (some 9) rfl rfl Try.func42 #[.agg #[.int .i64 a0_0, .int .i64 a0_1, .slice A0_2 l0_2.length c0_2], .agg #[.int .i64 a1_0, .int .i64 a1_1, .slice A1_2 l1_2.length c1_2]] rfl (h := ?_); (with_reducible refine (z42.calls k a0_0 a0_1 _ _ l0_2 a1_0 a1_1 _ _ l1_2 t103 _ ?side1 ?side2 ?side3 ?side4 A3.out).mono ?_); (case side1 => exact KC_ (Kd.C_below HR0_2.out HB.out)); (case side2 => exact HC0_2.out); (case side3 => exact KC_ (Kd.C_below HR1_2.out HB.out)); (case side4 => exact HC1_2.out); rintro e w21 ⟨rfl, hb⟩; refine ⟨_, rfl, ?_⟩; replace BK101 := Zz.mk (kb_ BK101.out hb); replace BK102 := Zz.mk (kb_ BK102.out hb); replace HB := Zz.mk (bT_ (B2_ HB.out GE101.out GE102.out) hb); (try clear hb); obtain ⟨hcz22_0, hcz22_1, hcz22_2, hfz22_0, hfz22_1, hfz22_2⟩ := Z3f_ BK102.out) | ((with_reducible refine gC_ (f := 43) rfl ?_); refine GL_ (some 16) rfl rfl Try.func43 #[.slice A1_2 l1_2.length c1_2, .func (.func 44) #[] #[.pointer (some ⟨gb101, 0, none⟩)]] rfl (h := ?_); (with_reducible refine (z157.calls k _ _ l1_2 gb101 a0_0 a0_1 A0_2 c0_2 l0_2 false _ ?side1 ?side2 ?side3 ?side4 ?side5 A5.out).mono ?_); (case side1 => refine BW_ ?_; exact BK101.out); (case side2 => exact KC_ (Kd.C_below HR1_2.out HB.out)); (case side3 => exact HC1_2.out); (case side4 => exact KC_ (Kd.C_below HR0_2.out HB.out)); (case side5 => exact HC0_2.out); rintro e w23 ⟨rfl, hb⟩; refine ⟨_, rfl, ?_⟩; replace BK101 := Zz.mk (kb_ BK101.out hb); replace BK102 := Zz.mk (kb_ BK102.out hb); replace HB := Zz.mk (bT_ (B2_ HB.out GE101.out GE102.out) hb); (try clear hb); obtain ⟨hcz24_0, hcz24_1, hcz24_2, hfz24_0, hfz24_1, hfz24_2⟩ := Z3f_ BK101.out; obtain ⟨hcz25_0, hcz25_1, hcz25_2, hfz25_0, hfz25_1, hfz25_2⟩ := Z3f_ BK102.out) | ((with_reducible refine gC_ (f := 46) rfl ?_); refine GL_ (some 19) rfl rfl Try.func46 #[.agg #[.int .i64 a0_0, .int .i64 a0_1, .slice A0_2 l0_2.length c0_2], .agg #[.int .i64 a1_0, .int .i64 a1_1, .slice A1_2 l1_2.length c1_2]] rfl (h := ?_); (with_reducible refine (z46.calls k a0_0 a0_1 (fun k_ => k_ < w.heap.size) _ _ l0_2 a1_0 a1_1 (fun k_ => k_ < w.heap.size) _ _ l1_2 t105 _ ?side1 ?side2 A15.out).mono ?_); (case side1 => exact Kd.V_mk HC0_2.out (Kd.F_below (Kd.C_F (Kd.heap_slice 2 (Kd.heap_int .i64)) HR0_2.out) (B2_ HB.out GE101.out GE102.out))); (case side2 => exact Kd.V_mk HC1_2.out (Kd.F_below (Kd.C_F (Kd.heap_slice 2 (Kd.heap_int .i64)) HR1_2.out) (B2_ HB.out GE101.out GE102.out))); rintro e w26 ⟨v106, rfl, ho0, hb⟩; refine ⟨_, rfl, ?_⟩; have HO107 := Zz.mk (Kd.S_lower (Kd.S_mono (ok' := fun k_ => True) ho0 (fun _ hk_ => trivial)) (bS_ (B2_ HB.out GE101.out GE102.out))); replace BK101 := Zz.mk (kb_ BK101.out hb); replace BK102 := Zz.mk (kb_ BK102.out hb); replace HB := Zz.mk (bT_ (B2_ HB.out GE101.out GE102.out) hb); (try clear hb); (try clear ho0)))
  go_ret2
  exact ⟨_, F_, KS_ HO107.out, B2_ HB.out GE101.out GE102.out⟩
 rw [if_neg c4] at H
 have c4b0 : (t103 == 0) = false := beq_eq_false_iff_ne.mpr c4
 have c4b1 : (t103 != 0) = true := bne_iff_ne.mpr c4
 simp only [Option.some.injEq, Prod.mk.injEq] at H
 obtain ⟨rfl, rfl⟩ := H
 go_enter Try.func10, Try.ntmps10
 go_wp2_with (first | ((with_reducible refine qAi (N := 2) rfl ?_); refine bx_ 2 #[.int .i64 a0_0, .int .i64 a0_1, .slice A0_2 l0_2.length c0_2] 28 ?_; intro gb101 hg w27 hbox hb; have BK101 := Zz.mk (hbox); have GW101 := Zz.mk ((gw_ hg (B_ HB.out))); have GE101 := GW101; replace HB := Zz.mk (bT_ (B_ HB.out) hb); clear hb hbox hg) | ((with_reducible refine qAi (N := 3) rfl ?_); refine bx_ 3 #[.int .i64 a1_0, .int .i64 a1_1, .slice A1_2 l1_2.length c1_2] 28 ?_; intro gb102 hg w28 hbox hb; have BK102 := Zz.mk (hbox); have GW102 := Zz.mk ((gw_ hg (B1_ HB.out GE101.out))); have GE102 := GW102; have NB101_102 := Zz.mk ((nb_ BK101.out hg)); have NB102_101 := Zz.mk NB101_102.out.symm; replace BK101 := Zz.mk (kb_ BK101.out hb); replace HB := Zz.mk (bT_ (B1_ HB.out GE101.out) hb); clear hb hbox hg; have hnb29 := NB101_102.out; have hnc29 := NB102_101.out; obtain ⟨hcz30_0, hcz30_1, hcz30_2, hfz30_0, hfz30_1, hfz30_2⟩ := Z3f_ BK101.out; obtain ⟨hcz31_0, hcz31_1, hcz31_2, hfz31_0, hfz31_1, hfz31_2⟩ := Z3f_ BK102.out) | ((with_reducible refine gC_ (f := 42) rfl ?_); refine GL_ (some 9) rfl rfl Try.func42 #[.agg #[.int .i64 a0_0, .int .i64 a0_1, .slice A0_2 l0_2.length c0_2], .agg #[.int .i64 a1_0, .int .i64 a1_1, .slice A1_2 l1_2.length c1_2]] rfl (h := ?_); (with_reducible refine (z42.calls k a0_0 a0_1 _ _ l0_2 a1_0 a1_1 _ _ l1_2 t103 _ ?side1 ?side2 ?side3 ?side4 A3.out).mono ?_); (case side1 => exact KC_ (Kd.C_below HR0_2.out HB.out)); (case side2 => exact HC0_2.out); (case side3 => exact KC_ (Kd.C_below HR1_2.out HB.out)); (case side4 => exact HC1_2.out); rintro e w32 ⟨rfl, hb⟩; refine ⟨_, rfl, ?_⟩; replace BK101 := Zz.mk (kb_ BK101.out hb); replace BK102 := Zz.mk (kb_ BK102.out hb); replace HB := Zz.mk (bT_ (B2_ HB.out GE101.out GE102.out) hb); (try clear hb)))
 go_ret2
 exact ⟨_, F_, by first | exact Kd.S_nil _ _ _ _ _ | exact Kd.N_nil _ _ _ _ _ | exact Kd.V_nil _ _ _ _ _ | exact Kd.Q_nil _ _ _ _ _ | exact Kd.R_nil _ _ _ _ _, B2_ HB.out GE101.out GE102.out⟩
end Go.Proofs.Ytkgajpngeglkmaa.B
