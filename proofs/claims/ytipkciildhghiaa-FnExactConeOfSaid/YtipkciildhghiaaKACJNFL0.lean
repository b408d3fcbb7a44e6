/- Printed proofs of functions of the program and of the reference, by a program of this work over the kit's printer. -/
import Derived.Test.YtipkciildhghiaaKFOPLED0
import Derived.Test.YtipkciildhghiaaKHBMFCL0
import Derived.Test.YtipkciildhghiaaKNAGEJL0
import Derived.Test.YtipkciildhghiaaKNDOBGI0
import Derived.Test.YtipkciildhghiaaKPPIGCD0
import Derived.Test.YtipkciildhghiaaKW0
namespace Go.Proofs.Ytipkciildhghiaa.B
open Go.RowKit Go.Proofs.YtipkciildhghiaaW.PrintWords Go.Proofs.YtipkciildhghiaaW.PrintLast Go.Proofs.YtipkciildhghiaaW.PrintMore
attribute [local go_sem] max2_int min2_int max_two min_two max_three min_three max_four min_four
set_option linter.unusedVariables false
set_option linter.unusedSimpArgs false
def z7.f (k : Nat) (l0_0 : List (List Int)) (a1 : Int) : Option (Bool) := (z15.f k l0_0 1048576).bind fun t102 => (if t102 < 0 then (some true) else ((z17.f k l0_0).bind fun t103 => ((z35.f k t103 a1).bind fun bt106 => ((z17.f k l0_0).bind fun t111 => ((z36.f k t111 a1).bind fun bt115 => ((z20.f k bt115.1 bt106.1).bind fun t120 => (if t120 = true then (if bt115.2 = bt106.2 then ((z17.f k l0_0).bind fun t121 => ((z20.f k t111 t121).bind fun t124 => (if t124 = true then ((laws_markComplex.f t111 1).bind fun bt125 => (if bt125.1 < 0 then (some false) else ((z20.f k bt115.1 bt106.1).bind fun t127 => (if t127 = true then ((laws_markComplex.f bt115.1 1).bind fun bt128 => ((z26.f k bt128.2 1).bind fun t130 => (if t130 < 0 then (some false) else (if t130 = bt128.1 then ((z17.f k l0_0).bind fun t131 => ((z36.f k t131 a1).bind fun bt134 => ((z20.f k bt134.1 bt106.1).bind fun t139 => (if t139 = true then (if bt134.2 = bt106.2 then ((z26.f k bt128.2 1).bind fun t140 => (if t140 < 0 then (some false) else (if t140 = bt128.1 then (some true) else (some false)))) else (some false)) else (some false))))) else (some false))))) else (some false))))) else (some false)))) else (some false)) else (some false))))))))
set_option maxHeartbeats 8000000 in
set_option maxRecDepth 100000 in
theorem z7.calls (k : Nat) (A0_0 : Option Addr) (c0_0 : Nat) (l0_0 : List (List Int)) (a1 : Int) (r : Bool) (w : World) (hr0_0 : Kd.C (Kd.slice 2 (Kd.int .i64)) w A0_0 l0_0.length l0_0) (hc0_0 : l0_0.length ≤ c0_0) (h : z7.f k l0_0 a1 = some r) (ht_ : r = true) :
  Calls Try.prog 7 #[.agg #[.slice A0_0 l0_0.length c0_0], .int .i64 a1] w fun e w' => e = .returned (.bool r) ∧ Below w.heap.size w w' := by
 have hu24 := Try.underlying24
 have hu29 := Try.underlying29
 have HR0_0 := Zz.mk hr0_0
 have HC0_0 := Zz.mk hc0_0
 clear hr0_0 hc0_0
 have HB := Zz.mk (Below.refl w.heap.size w)
 have H : ((z15.f k l0_0 1048576).bind fun t102 => (if t102 < 0 then (some true) else ((z17.f k l0_0).bind fun t103 => ((z35.f k t103 a1).bind fun bt106 => ((z17.f k l0_0).bind fun t111 => ((z36.f k t111 a1).bind fun bt115 => ((z20.f k bt115.1 bt106.1).bind fun t120 => (if t120 = true then (if bt115.2 = bt106.2 then ((z17.f k l0_0).bind fun t121 => ((z20.f k t111 t121).bind fun t124 => (if t124 = true then ((laws_markComplex.f t111 1).bind fun bt125 => (if bt125.1 < 0 then (some false) else ((z20.f k bt115.1 bt106.1).bind fun t127 => (if t127 = true then ((laws_markComplex.f bt115.1 1).bind fun bt128 => ((z26.f k bt128.2 1).bind fun t130 => (if t130 < 0 then (some false) else (if t130 = bt128.1 then ((z17.f k l0_0).bind fun t131 => ((z36.f k t131 a1).bind fun bt134 => ((z20.f k bt134.1 bt106.1).bind fun t139 => (if t139 = true then (if bt134.2 = bt106.2 then ((z26.f k bt128.2 1).bind fun t140 => (if t140 < 0 then (some false) else (if t140 = bt128.1 then (some true) else (some false)))) else (some false)) else (some false))))) else (some false))))) else (some false))))) else (some false)))) else (some false)) else (some false))))))))) = some r := h
 clear h
 replace H := OZ_ H
 obtain ⟨t102, A3, H⟩ := H
 by_cases c4 : t102 < 0
 ·rw [if_pos c4] at H
  have c4b0 : decide (t102 < 0) = true := decide_eq_true c4
  clear c4
  obtain rfl := OI_ H
  go_enter Try.func7, Try.ntmps7
  go_wp2_with (first | ((with_reducible refine gate_dst (N := 2) rfl ?_); refine bx_ 2 #[.slice A0_0 l0_0.length c0_0] 24 ?_; intro gb101 hg w5 hbox hb; have BK101 := Zz.mk (hbox); have GW101 := Zz.mk ((gw_ hg (B_ HB.out))); have GE101 := GW101; replace HB := Zz.mk (bT_ (B_ HB.out) hb); clear hb hbox hg; obtain ⟨hcz6_0, hfz6_0⟩ := Z1f_ BK101.out) | ((with_reducible refine gC_ (f := 15) rfl ?_); refine GL_ (some 18) rfl rfl Try.func15 #[.agg #[.slice A0_0 l0_0.length c0_0], .int .i64 1048576] rfl (h := ?_); (with_reducible refine (z15.calls k _ _ l0_0 1048576 t102 _ ?side1 ?side2 A3.out).mono ?_); (case side1 => exact KC_ (Kd.C_below HR0_0.out HB.out)); (case side2 => exact HC0_0.out); rintro e w7 ⟨rfl, hb⟩; refine ⟨_, rfl, ?_⟩; replace BK101 := Zz.mk (kb_ BK101.out hb); replace HB := Zz.mk (bT_ (B1_ HB.out GE101.out) hb); (try clear hb)))
  go_ret
  exact ⟨F_, B1_ HB.out GE101.out⟩
 rw [if_neg c4] at H
 have c4b0 : decide (t102 < 0) = false := decide_eq_false c4
 clear c4
 replace H := OZ_ H
 obtain ⟨t103, A8, H⟩ := H
 replace H := OB_ H
 obtain ⟨⟨t106, t109⟩, A90, H⟩ := H
 try dsimp only at H
 have A9 := Zz.mk A90
 clear A90
 replace H := OZ_ H
 obtain ⟨t111, A10, H⟩ := H
 replace H := OB_ H
 obtain ⟨⟨t115, t118⟩, A110, H⟩ := H
 try dsimp only at H
 have A11 := Zz.mk A110
 clear A110
 replace H := OZ_ H
 obtain ⟨t120, A12, H⟩ := H
 by_cases c13 : t120 = true
 ·subst c13
  replace H := T_ H
  by_cases c14 : t118 = t109
  ·rw [if_pos c14] at H
   have c14b0 : (t118 == t109) = true := beq_iff_eq.mpr c14
   have c14b1 : (t118 != t109) = false := bne_eq_false_iff_eq.mpr c14
   clear c14
   replace H := OZ_ H
   obtain ⟨t121, A15, H⟩ := H
   replace H := OZ_ H
   obtain ⟨t124, A16, H⟩ := H
   by_cases c17 : t124 = true
   ·subst c17
    replace H := T_ H
    replace H := OB_ H
    obtain ⟨⟨t125, t126⟩, A180, H⟩ := H
    try dsimp only at H
    have A18 := Zz.mk A180
    clear A180
    by_cases c19 : t125 < 0
    ·rw [if_pos c19] at H
     have c19b0 : decide (t125 < 0) = true := decide_eq_true c19
     clear c19
     exact absurd (H.trans (congrArg some ht_)) (by simp)
    rw [if_neg c19] at H
    have c19b0 : decide (t125 < 0) = false := decide_eq_false c19
    clear c19
    replace H := OZ_ H
    obtain ⟨t127, A20, H⟩ := H
    by_cases c21 : t127 = true
    ·subst c21
     replace H := T_ H
     replace H := OB_ H
     obtain ⟨⟨t128, t129⟩, A220, H⟩ := H
     try dsimp only at H
     have A22 := Zz.mk A220
     clear A220
     replace H := OZ_ H
     obtain ⟨t130, A23, H⟩ := H
     by_cases c24 : t130 < 0
     ·rw [if_pos c24] at H
      have c24b0 : decide (t130 < 0) = true := decide_eq_true c24
      clear c24
      exact absurd (H.trans (congrArg some ht_)) (by simp)
     rw [if_neg c24] at H
     have c24b0 : decide (t130 < 0) = false := decide_eq_false c24
     clear c24
     by_cases c25 : t130 = t128
     ·rw [if_pos c25] at H
      have c25b0 : (t130 == t128) = true := beq_iff_eq.mpr c25
      have c25b1 : (t130 != t128) = false := bne_eq_false_iff_eq.mpr c25
      clear c25
      replace H := OZ_ H
      obtain ⟨t131, A26, H⟩ := H
      replace H := OB_ H
      obtain ⟨⟨t134, t137⟩, A270, H⟩ := H
      try dsimp only at H
      have A27 := Zz.mk A270
      clear A270
      replace H := OZ_ H
      obtain ⟨t139, A28, H⟩ := H
      by_cases c29 : t139 = true
      ·subst c29
       replace H := T_ H
       by_cases c30 : t137 = t109
       ·rw [if_pos c30] at H
        have c30b0 : (t137 == t109) = true := beq_iff_eq.mpr c30
        have c30b1 : (t137 != t109) = false := bne_eq_false_iff_eq.mpr c30
        clear c30
        replace H := OZ_ H
        obtain ⟨t140, A31, H⟩ := H
        by_cases c32 : t140 < 0
        ·rw [if_pos c32] at H
         have c32b0 : decide (t140 < 0) = true := decide_eq_true c32
         clear c32
         exact absurd (H.trans (congrArg some ht_)) (by simp)
        rw [if_neg c32] at H
        have c32b0 : decide (t140 < 0) = false := decide_eq_false c32
        clear c32
        by_cases c33 : t140 = t128
        ·rw [if_pos c33] at H
         have c33b0 : (t140 == t128) = true := beq_iff_eq.mpr c33
         have c33b1 : (t140 != t128) = false := bne_eq_false_iff_eq.mpr c33
         clear c33
         obtain rfl := OI_ H
         go_enter Try.func7, Try.ntmps7
         try go_wp2_with (first | ((with_reducible refine gate_dst (N := 2) rfl ?_); refine bx_ 2 #[.slice A0_0 l0_0.length c0_0] 24 ?_; intro gb101 hg w34 hbox hb; have BK101 := Zz.mk (hbox); have GW101 := Zz.mk ((gw_ hg (B_ HB.out))); have GE101 := GW101; replace HB := Zz.mk (bT_ (B_ HB.out) hb); clear hb hbox hg; obtain ⟨hcz35_0, hfz35_0⟩ := Z1f_ BK101.out) | ((with_reducible refine gC_ (f := 15) rfl ?_); refine GL_ (some 18) rfl rfl Try.func15 #[.agg #[.slice A0_0 l0_0.length c0_0], .int .i64 1048576] rfl (h := ?_); (with_reducible refine (z15.calls k _ _ l0_0 1048576 t102 _ ?side1 ?side2 A3.out).mono ?_); (case side1 => exact KC_ (Kd.C_below HR0_0.out HB.out)); (case side2 => exact HC0_0.out); rintro e w36 ⟨rfl, hb⟩; refine ⟨_, rfl, ?_⟩; replace BK101 := Zz.mk (kb_ BK101.out hb); replace HB := Zz.mk (bT_ (B1_ HB.out GE101.out) hb); (try clear hb); obtain ⟨hcz37_0, hfz37_0⟩ := Z1f_ BK101.out) | ((with_reducible refine gC_ (f := 17) rfl ?_); refine GL_ (some 23) rfl rfl Try.func17 #[.agg #[.slice A0_0 l0_0.length c0_0]] rfl (h := ?_); (with_reducible refine (z17.calls k _ _ l0_0 t103 _ ?side1 ?side2 A8.out).mono ?_); (case side1 => exact KC_ (Kd.C_below HR0_0.out HB.out)); (case side2 => exact HC0_0.out); rintro e w38 ⟨v104, rfl, ho0, hb⟩; refine ⟨_, rfl, ?_⟩; obtain ⟨nan39, hnan39⟩ := Kd.size_letter hb; have HO105 := Zz.mk (Kd.S_lower (Kd.S_geN ho0 hnan39) (bS_ (B1_ HB.out GE101.out))); replace BK101 := Zz.mk (kb_ BK101.out hb); replace HB := Zz.mk (bT_ (B1_ HB.out GE101.out) hb); (try clear hb); (try clear ho0); obtain ⟨Ao40, co40, eo40⟩ := Kd.S_slice HO105.out; subst eo40) | ((with_reducible refine gC_ (f := 35) rfl ?_); refine GL_ (some 25) rfl rfl Try.func35 #[.agg #[.slice Ao40 t103.length co40], .int .i64 a1] rfl (h := ?_); (with_reducible refine (z35.calls k _ _ t103 a1 t106 t109 _ ?side1 ?side2 A9.out).mono ?_); (case side1 => exact KC_ (Kd.S_reads' HO105.out).2.2); (case side2 => exact (Kd.S_reads' HO105.out).2.1); rintro e w41 ⟨v107, rfl, ho0, hb⟩; refine ⟨_, rfl, ?_⟩; obtain ⟨nan42, hnan42⟩ := Kd.size_letter hb; have HO108 := Zz.mk (Kd.S_lower (Kd.S_geN (Kd.S_new' ho0 (Kd.S_lt (KS_ HO105.out))) hnan42) (bS_ (B1_ HB.out GE101.out))); replace HO105 := Zz.mk (tl_ HO105.out hb hnan42 ho0); replace BK101 := Zz.mk (kb_ BK101.out hb); replace HB := Zz.mk (bT_ (B1_ HB.out GE101.out) hb); (try clear hb); (try clear ho0)) | ((with_reducible refine gate_dst (N := 6) rfl ?_); refine bx_ 6 #[.slice none 0 0] 29 ?_; intro gb110 hg w43 hbox hb; have BK110 := Zz.mk (hbox); have GW110 := Zz.mk ((gw_ hg (B1_ HB.out GE101.out))); have GE110 := GW110; have NB101_110 := Zz.mk ((nb_ BK101.out hg)); have NB110_101 := Zz.mk NB101_110.out.symm; replace HO105 := Zz.mk (Kd.S_below (KS_ HO105.out) hb); replace HO108 := Zz.mk (Kd.S_below (KS_ HO108.out) hb); replace BK101 := Zz.mk (kb_ BK101.out hb); replace HB := Zz.mk (bT_ (B1_ HB.out GE101.out) hb); clear hb hbox hg; obtain ⟨Ao44, co44, eo44⟩ := Kd.S_slice HO108.out; subst eo44; have hnb45 := NB110_101.out; have hnc45 := NB101_110.out; obtain ⟨hcz46_0, hfz46_0⟩ := Z1f_ BK110.out; obtain ⟨hcz47_0, hfz47_0⟩ := Z1f_ BK101.out) | ((with_reducible refine gC_ (f := 17) rfl ?_); refine GL_ (some 29) rfl rfl Try.func17 #[.agg #[.slice A0_0 l0_0.length c0_0]] rfl (h := ?_); (with_reducible refine (z17.calls k _ _ l0_0 t111 _ ?side1 ?side2 A10.out).mono ?_); (case side1 => exact Kd.C_below HR0_0.out (B2_ HB.out GE101.out GE110.out)); (case side2 => exact HC0_0.out); rintro e w48 ⟨v112, rfl, ho0, hb⟩; refine ⟨_, rfl, ?_⟩; obtain ⟨nan49, hnan49⟩ := Kd.size_letter hb; have HO113 := Zz.mk (Kd.S_lower (Kd.S_geN (Kd.S_new' (Kd.S_new' ho0 (Kd.S_lt (by refine SW_ ?_; exact (Kd.S_mono (Kd.S_far (p := ⟨gb110, 0, none⟩) (Kd.S_types HO105.out BK110.out (by decide)) (fun _ hk => hk.2) (.slice Ao44 t106.length co44)) (fun _ h_ => h_.1))))) (Kd.S_lt (by refine SW_ ?_; exact (Kd.S_mono (Kd.S_far (p := ⟨gb110, 0, none⟩) (Kd.S_types HO108.out BK110.out (by decide)) (fun _ hk => hk.2) (.slice Ao44 t106.length co44)) (fun _ h_ => h_.1))))) hnan49) (bS_ (B2_ HB.out GE101.out GE110.out))); replace HO105 := Zz.mk (Kd.S_told (Kd.S_oldN (by refine SW_ ?_; exact (Kd.S_mono (Kd.S_far (p := ⟨gb110, 0, none⟩) (Kd.S_types HO105.out BK110.out (by decide)) (fun _ hk => hk.2) (.slice Ao44 t106.length co44)) (fun _ h_ => h_.1))) hb hnan49) (Kd.S_baseN ho0 hnan49)); replace HO108 := Zz.mk (Kd.S_told (Kd.S_oldN (by refine SW_ ?_; exact (Kd.S_mono (Kd.S_far (p := ⟨gb110, 0, none⟩) (Kd.S_types HO108.out BK110.out (by decide)) (fun _ hk => hk.2) (.slice Ao44 t106.length co44)) (fun _ h_ => h_.1))) hb hnan49) (Kd.S_baseN ho0 hnan49)); replace BK101 := Zz.mk (bB_ (g := gb101) (o := .cells #[.slice A0_0 l0_0.length c0_0] 24 (0, 0)) (by refine BW_ ?_; refine bR_ ?_ NB101_110.out _; refine BW_ ?_; exact BK101.out) hb); replace BK110 := Zz.mk (bB_ (g := gb110) (o := .cells #[.slice Ao44 t106.length co44] 29 (0, 0)) (by refine BW_ ?_; refine bP_ (cs := #[.slice none 0 0]) ?_ 0 _ rfl; refine BW_ ?_; exact BK110.out) hb); replace HB := Zz.mk (bT_ (B2_ HB.out GE101.out GE110.out) hb); (try clear hb); (try clear ho0)) | ((with_reducible refine gate_dst (N := 8) rfl ?_); refine bx_ 8 #[.slice none 0 0] 29 ?_; intro gb114 hg w50 hbox hb; have BK114 := Zz.mk (hbox); have GW114 := Zz.mk ((gw_ hg (B2_ HB.out GE101.out GE110.out))); have GE114 := GW114; have NB101_114 := Zz.mk ((nb_ BK101.out hg)); have NB114_101 := Zz.mk NB101_114.out.symm; have NB110_114 := Zz.mk ((nb_ BK110.out hg)); have NB114_110 := Zz.mk NB110_114.out.symm; replace HO105 := Zz.mk (Kd.S_below (KS_ HO105.out) hb); replace HO108 := Zz.mk (Kd.S_below (KS_ HO108.out) hb); replace HO113 := Zz.mk (Kd.S_below (KS_ HO113.out) hb); replace BK101 := Zz.mk (kb_ BK101.out hb); replace BK110 := Zz.mk (kb_ BK110.out hb); replace HB := Zz.mk (bT_ (B2_ HB.out GE101.out GE110.out) hb); clear hb hbox hg; obtain ⟨Ao51, co51, eo51⟩ := Kd.S_slice HO113.out; subst eo51; have hnb52 := NB114_101.out; have hnc52 := NB101_114.out; have hnb53 := NB114_110.out; have hnc53 := NB110_114.out; obtain ⟨hcz54_0, hfz54_0⟩ := Z1f_ BK114.out) | ((with_reducible refine gC_ (f := 36) rfl ?_); refine GL_ (some 33) rfl rfl Try.func36 #[.agg #[.slice Ao51 t111.length co51], .int .i64 a1] rfl (h := ?_); (with_reducible refine (z36.calls k _ _ t111 a1 t115 t118 _ ?side1 ?side2 A11.out).mono ?_); (case side1 => refine (Kd.S_reads' (e := 26) (base := w.heap.size) (ok := fun k_ => (((True ∧ some k_ ≠ (.slice Ao40 t103.length co40 : Value).ownBlock) ∧ some k_ ≠ (.slice Ao44 t106.length co44 : Value).ownBlock) ∧ nan49 ≤ k_)) (n := t111.length) (c := co51) ?_).2.2; exact (by refine SW_ ?_; exact (Kd.S_mono (Kd.S_far (p := ⟨gb114, 0, none⟩) (Kd.S_types HO113.out BK114.out (by decide)) (fun _ hk => hk.2) (.slice Ao51 t111.length co51)) (fun _ h_ => h_.1)))); (case side2 => exact (Kd.S_reads' HO113.out).2.1); rintro e w55 ⟨v116, rfl, ho0, hb⟩; refine ⟨_, rfl, ?_⟩; obtain ⟨nan56, hnan56⟩ := Kd.size_letter hb; have HO117 := Zz.mk (Kd.S_lower (Kd.S_geN (Kd.S_new' (Kd.S_new' (Kd.S_new' ho0 (Kd.S_lt (by refine SW_ ?_; exact (Kd.S_mono (Kd.S_far (p := ⟨gb114, 0, none⟩) (Kd.S_types HO105.out BK114.out (by decide)) (fun _ hk => hk.2) (.slice Ao51 t111.length co51)) (fun _ h_ => h_.1))))) (Kd.S_lt (by refine SW_ ?_; exact (Kd.S_mono (Kd.S_far (p := ⟨gb114, 0, none⟩) (Kd.S_types HO108.out BK114.out (by decide)) (fun _ hk => hk.2) (.slice Ao51 t111.length co51)) (fun _ h_ => h_.1))))) (Kd.S_lt (by refine SW_ ?_; exact (Kd.S_mono (Kd.S_far (p := ⟨gb114, 0, none⟩) (Kd.S_types HO113.out BK114.out (by decide)) (fun _ hk => hk.2) (.slice Ao51 t111.length co51)) (fun _ h_ => h_.1))))) hnan56) (bS_ (B3_ HB.out GE101.out GE110.out GE114.out))); replace HO105 := Zz.mk (Kd.S_told (Kd.S_oldN (by refine SW_ ?_; exact (Kd.S_mono (Kd.S_far (p := ⟨gb114, 0, none⟩) (Kd.S_types HO105.out BK114.out (by decide)) (fun _ hk => hk.2) (.slice Ao51 t111.length co51)) (fun _ h_ => h_.1))) hb hnan56) (Kd.S_baseN ho0 hnan56)); replace HO108 := Zz.mk (Kd.S_told (Kd.S_oldN (by refine SW_ ?_; exact (Kd.S_mono (Kd.S_far (p := ⟨gb114, 0, none⟩) (Kd.S_types HO108.out BK114.out (by decide)) (fun _ hk => hk.2) (.slice Ao51 t111.length co51)) (fun _ h_ => h_.1))) hb hnan56) (Kd.S_baseN ho0 hnan56)); replace HO113 := Zz.mk (Kd.S_told (Kd.S_oldN (by refine SW_ ?_; exact (Kd.S_mono (Kd.S_far (p := ⟨gb114, 0, none⟩) (Kd.S_types HO113.out BK114.out (by decide)) (fun _ hk => hk.2) (.slice Ao51 t111.length co51)) (fun _ h_ => h_.1))) hb hnan56) (Kd.S_baseN ho0 hnan56)); replace BK101 := Zz.mk (bB_ (g := gb101) (o := .cells #[.slice A0_0 l0_0.length c0_0] 24 (0, 0)) (by refine BW_ ?_; refine bR_ ?_ NB101_114.out _; refine BW_ ?_; exact BK101.out) hb); replace BK110 := Zz.mk (bB_ (g := gb110) (o := .cells #[.slice Ao44 t106.length co44] 29 (0, 0)) (by refine BW_ ?_; refine bR_ ?_ NB110_114.out _; refine BW_ ?_; exact BK110.out) hb); replace BK114 := Zz.mk (bB_ (g := gb114) (o := .cells #[.slice Ao51 t111.length co51] 29 (0, 0)) (by refine BW_ ?_; refine bP_ (cs := #[.slice none 0 0]) ?_ 0 _ rfl; refine BW_ ?_; exact BK114.out) hb); replace HB := Zz.mk (bT_ (B3_ HB.out GE101.out GE110.out GE114.out) hb); (try clear hb); (try clear ho0)) | ((with_reducible refine gate_dst (N := 9) rfl ?_); refine bx_ 9 #[.slice none 0 0] 29 ?_; intro gb119 hg w57 hbox hb; have BK119 := Zz.mk (hbox); have GW119 := Zz.mk ((gw_ hg (B3_ HB.out GE101.out GE110.out GE114.out))); have GE119 := GW119; have NB101_119 := Zz.mk ((nb_ BK101.out hg)); have NB119_101 := Zz.mk NB101_119.out.symm; have NB110_119 := Zz.mk ((nb_ BK110.out hg)); have NB119_110 := Zz.mk NB110_119.out.symm; have NB114_119 := Zz.mk ((nb_ BK114.out hg)); have NB119_114 := Zz.mk NB114_119.out.symm; replace HO105 := Zz.mk (Kd.S_below (KS_ HO105.out) hb); replace HO108 := Zz.mk (Kd.S_below (KS_ HO108.out) hb); replace HO113 := Zz.mk (Kd.S_below (KS_ HO113.out) hb); replace HO117 := Zz.mk (Kd.S_below (KS_ HO117.out) hb); replace BK101 := Zz.mk (kb_ BK101.out hb); replace BK110 := Zz.mk (kb_ BK110.out hb); replace BK114 := Zz.mk (kb_ BK114.out hb); replace HB := Zz.mk (bT_ (B3_ HB.out GE101.out GE110.out GE114.out) hb); clear hb hbox hg; obtain ⟨Ao58, co58, eo58⟩ := Kd.S_slice HO117.out; subst eo58; have hnb59 := NB119_101.out; have hnc59 := NB101_119.out; have hnb60 := NB119_110.out; have hnc60 := NB110_119.out; have hnb61 := NB119_114.out; have hnc61 := NB114_119.out; obtain ⟨hcz62_0, hfz62_0⟩ := Z1f_ BK119.out; obtain ⟨hcz63_0, hfz63_0⟩ := Z1f_ BK110.out) | ((with_reducible refine gC_ (f := 20) rfl ?_); refine GL_ (some 38) rfl rfl Try.func20 #[.agg #[.slice Ao58 t115.length co58], .agg #[.slice Ao44 t106.length co44]] rfl (h := ?_); (with_reducible refine (z20.calls k _ _ t115 _ _ t106 true _ ?side1 ?side2 ?side3 ?side4 A12.out).mono ?_); (case side1 => refine (Kd.S_reads' (e := 26) (base := w.heap.size) (ok := fun k_ => ((((True ∧ some k_ ≠ (.slice Ao40 t103.length co40 : Value).ownBlock) ∧ some k_ ≠ (.slice Ao44 t106.length co44 : Value).ownBlock) ∧ some k_ ≠ (.slice Ao51 t111.length co51 : Value).ownBlock) ∧ nan56 ≤ k_)) (n := t115.length) (c := co58) ?_).2.2; exact (by refine SW_ ?_; exact (Kd.S_mono (Kd.S_far (p := ⟨gb119, 0, none⟩) (Kd.S_types HO117.out BK119.out (by decide)) (fun _ hk => hk.2) (.slice Ao58 t115.length co58)) (fun _ h_ => h_.1)))); (case side2 => exact (Kd.S_reads' HO117.out).2.1); (case side3 => refine (Kd.S_reads' (e := 26) (base := w.heap.size) (ok := fun k_ => ((((((True ∧ some k_ ≠ (.slice Ao40 t103.length co40 : Value).ownBlock) ∧ nan42 ≤ k_) ∧ some k_ ≠ (.slice Ao51 t111.length co51 : Value).ownBlock) ∧ k_ < nan49) ∧ some k_ ≠ (.slice Ao58 t115.length co58 : Value).ownBlock) ∧ k_ < nan56)) (n := t106.length) (c := co44) ?_).2.2; exact (by refine SW_ ?_; exact (Kd.S_mono (Kd.S_far (p := ⟨gb119, 0, none⟩) (Kd.S_types HO108.out BK119.out (by decide)) (fun _ hk => hk.2) (.slice Ao58 t115.length co58)) (fun _ h_ => h_.1)))); (case side4 => exact (Kd.S_reads' HO108.out).2.1); rintro e w64 ⟨rfl, hb⟩; refine ⟨_, rfl, ?_⟩; replace HO105 := Zz.mk (Kd.S_below (by refine SW_ ?_; exact (Kd.S_mono (Kd.S_far (p := ⟨gb119, 0, none⟩) (Kd.S_types HO105.out BK119.out (by decide)) (fun _ hk => hk.2) (.slice Ao58 t115.length co58)) (fun _ h_ => h_.1))) hb); replace HO108 := Zz.mk (Kd.S_below (by refine SW_ ?_; exact (Kd.S_mono (Kd.S_far (p := ⟨gb119, 0, none⟩) (Kd.S_types HO108.out BK119.out (by decide)) (fun _ hk => hk.2) (.slice Ao58 t115.length co58)) (fun _ h_ => h_.1))) hb); replace HO113 := Zz.mk (Kd.S_below (by refine SW_ ?_; exact (Kd.S_mono (Kd.S_far (p := ⟨gb119, 0, none⟩) (Kd.S_types HO113.out BK119.out (by decide)) (fun _ hk => hk.2) (.slice Ao58 t115.length co58)) (fun _ h_ => h_.1))) hb); replace HO117 := Zz.mk (Kd.S_below (by refine SW_ ?_; exact (Kd.S_mono (Kd.S_far (p := ⟨gb119, 0, none⟩) (Kd.S_types HO117.out BK119.out (by decide)) (fun _ hk => hk.2) (.slice Ao58 t115.length co58)) (fun _ h_ => h_.1))) hb); replace BK101 := Zz.mk (bB_ (g := gb101) (o := .cells #[.slice A0_0 l0_0.length c0_0] 24 (0, 0)) (by refine BW_ ?_; refine bR_ ?_ NB101_119.out _; refine BW_ ?_; exact BK101.out) hb); replace BK110 := Zz.mk (bB_ (g := gb110) (o := .cells #[.slice Ao44 t106.length co44] 29 (0, 0)) (by refine BW_ ?_; refine bR_ ?_ NB110_119.out _; refine BW_ ?_; exact BK110.out) hb); replace BK114 := Zz.mk (bB_ (g := gb114) (o := .cells #[.slice Ao51 t111.length co51] 29 (0, 0)) (by refine BW_ ?_; refine bR_ ?_ NB114_119.out _; refine BW_ ?_; exact BK114.out) hb); replace BK119 := Zz.mk (bB_ (g := gb119) (o := .cells #[.slice Ao58 t115.length co58] 29 (0, 0)) (by refine BW_ ?_; refine bP_ (cs := #[.slice none 0 0]) ?_ 0 _ rfl; refine BW_ ?_; exact BK119.out) hb); replace HB := Zz.mk (bT_ (Bw4_ HB.out GE101.out GE110.out GE114.out GE119.out) hb); (try clear hb)))
         replace HO105 := Zz.mk (Kd.S_drew HO105.out)
         replace HO108 := Zz.mk (Kd.S_drew HO108.out)
         replace HO113 := Zz.mk (Kd.S_drew HO113.out)
         replace HO117 := Zz.mk (Kd.S_drew HO117.out)
         replace BK101 := Zz.mk (bD_ BK101.out)
         replace BK110 := Zz.mk (bD_ BK110.out)
         replace BK114 := Zz.mk (bD_ BK114.out)
         replace BK119 := Zz.mk (bD_ BK119.out)
         replace HB := Zz.mk (below_drew1 HB.out)
         refine start_ (n := 5) (S := fun w' => w'.cell? ⟨gb114, 0, none⟩ = some (.slice Ao51 t111.length co51) ∧ w'.cell? ⟨gb101, 0, none⟩ = some (.slice A0_0 l0_0.length c0_0)) (ds := []) #[false, false, false, false, false] (by kernel_rfl) rfl rfl ⟨(bC_ BK114.out 0).trans rfl, (bC_ BK101.out 0).trans rfl⟩ (fun hHeld => ?_)
         generalize w64.drew = w65 at HO105 HO108 HO113 HO117 BK101 BK110 BK114 BK119 HB hHeld ⊢
         refine take_ (i := 0) (N := some 45) (v := ?_) (a' := ?_) #[true, false, false, false, false] rfl rfl (by kernel_rfl) (fun _ _ _ h => h) (Or.inl ⟨by rfl, ?_⟩) hHeld ?_ ?_
         rotate_left
         ·rintro w' ⟨s0, s1⟩
          go_simp
          with_reducible rfl
         rotate_left
         ·simp only [Act.put, List.setIfInBounds_toArray, List.set_cons_zero, List.set_cons_succ, i64_w, i32_w]
          rfl
         refine take_ (i := 1) (N := some 46) (v := ?_) (a' := ?_) #[true, true, false, false, false] rfl rfl (by kernel_rfl) (fun _ _ _ h => h) (Or.inl ⟨by rfl, ?_⟩) hHeld ?_ ?_
         rotate_left
         ·rintro w' ⟨s0, s1⟩
          go_simp
          with_reducible rfl
         rotate_left
         ·simp only [Act.put, List.setIfInBounds_toArray, List.set_cons_zero, List.set_cons_succ, i64_w, i32_w]
          rfl
         refine one_ (i := 2) (N := some 47) #[true, true, true, false, false] rfl rfl (by kernel_rfl) (by decide) (fun K hK => ?_)
         refine GO_ Try.func17 #[.agg #[.slice A0_0 l0_0.length c0_0]] (h := ?_)
         with_reducible refine (z17.calls k _ _ l0_0 t121 _ ?side1 ?side2 A15.out).mono ?_
         (case side1 => exact KC_ (Kd.C_below HR0_0.out HB.out))
         (case side2 => exact HC0_0.out)
         rintro e w66 ⟨v122, rfl, ho0, hb⟩
         refine ⟨_, rfl, ?_⟩
         obtain ⟨nan67, hnan67⟩ := Kd.size_letter hb
         have HO123 := Zz.mk (Kd.S_lower (Kd.S_geN (Kd.S_new' (Kd.S_new' (Kd.S_new' (Kd.S_new' ho0 (Kd.S_lt (KS_ HO105.out))) (Kd.S_lt (KS_ HO108.out))) (Kd.S_lt (KS_ HO113.out))) (Kd.S_lt (KS_ HO117.out))) hnan67) (bS_ (Bw4_ HB.out GE101.out GE110.out GE114.out GE119.out)))
         replace HO105 := Zz.mk (tl_ HO105.out hb hnan67 ho0)
         replace HO108 := Zz.mk (tl_ HO108.out hb hnan67 ho0)
         replace HO113 := Zz.mk (tl_ HO113.out hb hnan67 ho0)
         replace HO117 := Zz.mk (tl_ HO117.out hb hnan67 ho0)
         replace BK101 := Zz.mk (kb_ BK101.out hb)
         replace BK110 := Zz.mk (kb_ BK110.out hb)
         replace BK114 := Zz.mk (kb_ BK114.out hb)
         replace BK119 := Zz.mk (kb_ BK119.out hb)
         replace HB := Zz.mk (bT_ (Bw4_ HB.out GE101.out GE110.out GE114.out GE119.out) hb)
         (try clear hb);(try clear hk);(try clear ho0)
         obtain ⟨Ao68, co68, eo68⟩ := Kd.S_slice HO123.out
         (first | subst eo68 | obtain ⟨rfl, rfl⟩ := sl_ eo68)
         refine hK.out _ _ ⟨(bC_ BK114.out 0).trans rfl, (bC_ BK101.out 0).trans rfl⟩ (fun hHeld => ?_)
         clear hK K
         refine NM_ (N := (some 47)) (h := ?_)
         refine one_ (i := 3) (N := some 48) #[true, true, true, true, false] rfl rfl (by kernel_rfl) (by decide) (fun K hK => ?_)
         refine GO_ Try.func20 #[.agg #[.slice Ao51 t111.length co51], .agg #[.slice Ao68 t121.length co68]] (h := ?_)
         with_reducible refine (z20.calls k _ _ t111 _ _ t121 true _ ?side1 ?side2 ?side3 ?side4 A16.out).mono ?_
         (case side1 => exact KC_ (Kd.S_reads' HO113.out).2.2)
         (case side2 => exact (Kd.S_reads' HO113.out).2.1)
         (case side3 => exact KC_ (Kd.S_reads' HO123.out).2.2)
         (case side4 => exact (Kd.S_reads' HO123.out).2.1)
         rintro e w69 ⟨rfl, hb⟩
         refine ⟨_, rfl, ?_⟩
         replace HO105 := Zz.mk (Kd.S_below (KS_ HO105.out) hb)
         replace HO108 := Zz.mk (Kd.S_below (KS_ HO108.out) hb)
         replace HO113 := Zz.mk (Kd.S_below (KS_ HO113.out) hb)
         replace HO117 := Zz.mk (Kd.S_below (KS_ HO117.out) hb)
         replace HO123 := Zz.mk (Kd.S_below (KS_ HO123.out) hb)
         replace BK101 := Zz.mk (kb_ BK101.out hb)
         replace BK110 := Zz.mk (kb_ BK110.out hb)
         replace BK114 := Zz.mk (kb_ BK114.out hb)
         replace BK119 := Zz.mk (kb_ BK119.out hb)
         replace HB := Zz.mk (bT_ (Bw4_ HB.out GE101.out GE110.out GE114.out GE119.out) hb)
         (try clear hb);(try clear hk)
         refine hK.out _ _ ⟨(bC_ BK114.out 0).trans rfl, (bC_ BK101.out 0).trans rfl⟩ (fun hHeld => ?_)
         clear hK K
         refine NM_ (N := (some 48)) (h := ?_)
         refine pure_ (i := 4) (N := some 49) (v := ?_) (a' := ?_) #[true, true, true, true, true] rfl rfl (by kernel_rfl) (fun _ _ _ h => h) (Or.inl ⟨by rfl, ?_⟩) ?_ ?_
         rotate_left
         ·intro w'
          go_simp
          with_reducible rfl
         rotate_left
         ·simp only [Act.put, List.setIfInBounds_toArray, List.set_cons_zero, List.set_cons_succ, i64_w, i32_w]
          rfl
         refine done_ (by kernel_rfl) ?_
         obtain ⟨hcz70_0, hfz70_0⟩ := Z1f_ BK114.out
         try go_wp2_with (first | (go_at_call 21; (with_reducible refine (laws_markComplex.calls (fun k_ => (((((((True ∧ some k_ ≠ (.slice Ao40 t103.length co40 : Value).ownBlock) ∧ some k_ ≠ (.slice Ao44 t106.length co44 : Value).ownBlock) ∧ nan49 ≤ k_) ∧ some k_ ≠ (.slice Ao58 t115.length co58 : Value).ownBlock) ∧ k_ < nan56) ∧ some k_ ≠ (.slice Ao68 t121.length co68 : Value).ownBlock) ∧ k_ < nan67) ∧ ∃ q_, q_ ∈ 26 :: ((Kd.slice 2 (Kd.int .i64))).E ∧ ∃ cs_, w69.heap[k_]? = some (.cells cs_ q_ (0, 0))) (.slice Ao51 t111.length co51) t111 1 t125 t126 w _ ?side1 ?side2 A18.out).mono ?_); (case side1 => repeat (first | (with_reducible first | exact HB.out | apply below_alloc | apply pw_below_drewN | apply below_drew1 | refine below_set ?_ GE101.out | refine below_set ?_ GE110.out | refine below_set ?_ GE114.out | refine below_set ?_ GE119.out) | exact HB.out)); (case side2 => exact Kd.S_pin (ok := fun k_ => (((((((True ∧ some k_ ≠ (.slice Ao40 t103.length co40 : Value).ownBlock) ∧ some k_ ≠ (.slice Ao44 t106.length co44 : Value).ownBlock) ∧ nan49 ≤ k_) ∧ some k_ ≠ (.slice Ao58 t115.length co58 : Value).ownBlock) ∧ k_ < nan56) ∧ some k_ ≠ (.slice Ao68 t121.length co68 : Value).ownBlock) ∧ k_ < nan67)) (KS_ HO113.out)); rintro e w71 ⟨rfl, hy0, hb, hkp⟩; replace BK101 := Zz.mk (blk_kept (KB_ BK101.out) hkp (fun hs_ => Kd.typed_ne (KB_ BK101.out) hs_.2 (by decide))); replace HO105 := Zz.mk (Kd.S_mono (Kd.S_keptB (ok := fun k_ => (((((((((True ∧ nan39 ≤ k_) ∧ some k_ ≠ (.slice Ao44 t106.length co44 : Value).ownBlock) ∧ k_ < nan42) ∧ some k_ ≠ (.slice Ao51 t111.length co51 : Value).ownBlock) ∧ k_ < nan49) ∧ some k_ ≠ (.slice Ao58 t115.length co58 : Value).ownBlock) ∧ k_ < nan56) ∧ some k_ ≠ (.slice Ao68 t121.length co68 : Value).ownBlock) ∧ k_ < nan67)) (KS_ HO105.out) hkp (fun k_ hk_ hs_ => absurd hs_.1.1.1.1.1.2 (Nat.not_le.2 hk_.1.1.1.1.2))) (fun k_ hk_ => hk_.1)); replace HO108 := Zz.mk (Kd.S_mono (Kd.S_keptB (ok := fun k_ => ((((((((True ∧ some k_ ≠ (.slice Ao40 t103.length co40 : Value).ownBlock) ∧ nan42 ≤ k_) ∧ some k_ ≠ (.slice Ao51 t111.length co51 : Value).ownBlock) ∧ k_ < nan49) ∧ some k_ ≠ (.slice Ao58 t115.length co58 : Value).ownBlock) ∧ k_ < nan56) ∧ some k_ ≠ (.slice Ao68 t121.length co68 : Value).ownBlock) ∧ k_ < nan67)) (KS_ HO108.out) hkp (fun k_ hk_ hs_ => absurd hs_.1.1.1.1.1.2 (Nat.not_le.2 hk_.1.1.1.1.2))) (fun k_ hk_ => hk_.1)); replace BK110 := Zz.mk (blk_kept (KB_ BK110.out) hkp (fun hs_ => Kd.typed_ne (KB_ BK110.out) hs_.2 (by decide))); replace HO113 := Zz.mk (Kd.S_mono hy0 (fun k_ hk_ => hk_.1)); replace BK114 := Zz.mk (blk_kept (KB_ BK114.out) hkp (fun hs_ => Kd.typed_ne (KB_ BK114.out) hs_.2 (by decide))); replace HO117 := Zz.mk (Kd.S_mono (Kd.S_keptB (ok := fun k_ => ((((((True ∧ some k_ ≠ (.slice Ao40 t103.length co40 : Value).ownBlock) ∧ some k_ ≠ (.slice Ao44 t106.length co44 : Value).ownBlock) ∧ some k_ ≠ (.slice Ao51 t111.length co51 : Value).ownBlock) ∧ nan56 ≤ k_) ∧ some k_ ≠ (.slice Ao68 t121.length co68 : Value).ownBlock) ∧ k_ < nan67)) (KS_ HO117.out) hkp (fun k_ hk_ hs_ => absurd hk_.1.1.2 (Nat.not_le.2 hs_.1.1.1.2))) (fun k_ hk_ => hk_.1)); replace BK119 := Zz.mk (blk_kept (KB_ BK119.out) hkp (fun hs_ => Kd.typed_ne (KB_ BK119.out) hs_.2 (by decide))); replace HO123 := Zz.mk (Kd.S_mono (Kd.S_keptB (ok := fun k_ => (((((True ∧ some k_ ≠ (.slice Ao40 t103.length co40 : Value).ownBlock) ∧ some k_ ≠ (.slice Ao44 t106.length co44 : Value).ownBlock) ∧ some k_ ≠ (.slice Ao51 t111.length co51 : Value).ownBlock) ∧ some k_ ≠ (.slice Ao58 t115.length co58 : Value).ownBlock) ∧ nan67 ≤ k_)) (KS_ HO123.out) hkp (fun k_ hk_ hs_ => absurd hk_.2 (Nat.not_le.2 hs_.1.2))) (fun k_ hk_ => hk_.1)); replace HB := Zz.mk (hb); (try clear hb hkp hy0); obtain ⟨hcz72_0, hfz72_0⟩ := Z1f_ BK119.out; obtain ⟨hcz73_0, hfz73_0⟩ := Z1f_ BK110.out) | (go_at_call 20; (with_reducible refine (z20.calls k _ _ t115 _ _ t106 true _ ?side1 ?side2 ?side3 ?side4 A20.out).mono ?_); (case side1 => exact KC_ (Kd.S_reads' HO117.out).2.2); (case side2 => exact (Kd.S_reads' HO117.out).2.1); (case side3 => exact KC_ (Kd.S_reads' HO108.out).2.2); (case side4 => exact (Kd.S_reads' HO108.out).2.1); rintro e w74 ⟨rfl, hb⟩; replace HO105 := Zz.mk (Kd.S_below (KS_ HO105.out) hb); replace HO108 := Zz.mk (Kd.S_below (KS_ HO108.out) hb); replace HO113 := Zz.mk (Kd.S_below (KS_ HO113.out) hb); replace HO117 := Zz.mk (Kd.S_below (KS_ HO117.out) hb); replace HO123 := Zz.mk (Kd.S_below (KS_ HO123.out) hb); replace BK101 := Zz.mk (kb_ BK101.out hb); replace BK110 := Zz.mk (kb_ BK110.out hb); replace BK114 := Zz.mk (kb_ BK114.out hb); replace BK119 := Zz.mk (kb_ BK119.out hb); replace HB := Zz.mk (bT_ (Bw4_ HB.out GE101.out GE110.out GE114.out GE119.out) hb); (try clear hb); obtain ⟨hcz75_0, hfz75_0⟩ := Z1f_ BK119.out) | (go_at_call 21; (with_reducible refine (laws_markComplex.calls (fun k_ => ((((((True ∧ some k_ ≠ (.slice Ao40 t103.length co40 : Value).ownBlock) ∧ some k_ ≠ (.slice Ao44 t106.length co44 : Value).ownBlock) ∧ some k_ ≠ (.slice Ao51 t111.length co51 : Value).ownBlock) ∧ nan56 ≤ k_) ∧ some k_ ≠ (.slice Ao68 t121.length co68 : Value).ownBlock) ∧ k_ < nan67) ∧ ∃ q_, q_ ∈ 26 :: ((Kd.slice 2 (Kd.int .i64))).E ∧ ∃ cs_, w74.heap[k_]? = some (.cells cs_ q_ (0, 0))) (.slice Ao58 t115.length co58) t115 1 t128 t129 w _ ?side1 ?side2 A22.out).mono ?_); (case side1 => repeat (first | (with_reducible first | exact HB.out | apply below_alloc | apply pw_below_drewN | apply below_drew1 | refine below_set ?_ GE101.out | refine below_set ?_ GE110.out | refine below_set ?_ GE114.out | refine below_set ?_ GE119.out) | exact HB.out)); (case side2 => exact Kd.S_pin (ok := fun k_ => ((((((True ∧ some k_ ≠ (.slice Ao40 t103.length co40 : Value).ownBlock) ∧ some k_ ≠ (.slice Ao44 t106.length co44 : Value).ownBlock) ∧ some k_ ≠ (.slice Ao51 t111.length co51 : Value).ownBlock) ∧ nan56 ≤ k_) ∧ some k_ ≠ (.slice Ao68 t121.length co68 : Value).ownBlock) ∧ k_ < nan67)) (KS_ HO117.out)); rintro e w76 ⟨rfl, hy0, hb, hkp⟩; replace BK101 := Zz.mk (blk_kept (KB_ BK101.out) hkp (fun hs_ => Kd.typed_ne (KB_ BK101.out) hs_.2 (by decide))); replace HO105 := Zz.mk (Kd.S_mono (Kd.S_keptB (ok := fun k_ => (((((((((True ∧ nan39 ≤ k_) ∧ some k_ ≠ (.slice Ao44 t106.length co44 : Value).ownBlock) ∧ k_ < nan42) ∧ some k_ ≠ (.slice Ao51 t111.length co51 : Value).ownBlock) ∧ k_ < nan49) ∧ some k_ ≠ (.slice Ao58 t115.length co58 : Value).ownBlock) ∧ k_ < nan56) ∧ some k_ ≠ (.slice Ao68 t121.length co68 : Value).ownBlock) ∧ k_ < nan67)) (KS_ HO105.out) hkp (fun k_ hk_ hs_ => absurd hs_.1.1.1.2 (Nat.not_le.2 hk_.1.1.2))) (fun k_ hk_ => hk_.1)); replace HO108 := Zz.mk (Kd.S_mono (Kd.S_keptB (ok := fun k_ => ((((((((True ∧ some k_ ≠ (.slice Ao40 t103.length co40 : Value).ownBlock) ∧ nan42 ≤ k_) ∧ some k_ ≠ (.slice Ao51 t111.length co51 : Value).ownBlock) ∧ k_ < nan49) ∧ some k_ ≠ (.slice Ao58 t115.length co58 : Value).ownBlock) ∧ k_ < nan56) ∧ some k_ ≠ (.slice Ao68 t121.length co68 : Value).ownBlock) ∧ k_ < nan67)) (KS_ HO108.out) hkp (fun k_ hk_ hs_ => absurd hs_.1.1.1.2 (Nat.not_le.2 hk_.1.1.2))) (fun k_ hk_ => hk_.1)); replace BK110 := Zz.mk (blk_kept (KB_ BK110.out) hkp (fun hs_ => Kd.typed_ne (KB_ BK110.out) hs_.2 (by decide))); replace HO113 := Zz.mk (Kd.S_mono (Kd.S_keptB (ok := fun k_ => (((((((True ∧ some k_ ≠ (.slice Ao40 t103.length co40 : Value).ownBlock) ∧ some k_ ≠ (.slice Ao44 t106.length co44 : Value).ownBlock) ∧ nan49 ≤ k_) ∧ some k_ ≠ (.slice Ao58 t115.length co58 : Value).ownBlock) ∧ k_ < nan56) ∧ some k_ ≠ (.slice Ao68 t121.length co68 : Value).ownBlock) ∧ k_ < nan67)) (KS_ HO113.out) hkp (fun k_ hk_ hs_ => absurd hs_.1.1.1.2 (Nat.not_le.2 hk_.1.1.2))) (fun k_ hk_ => hk_.1)); replace BK114 := Zz.mk (blk_kept (KB_ BK114.out) hkp (fun hs_ => Kd.typed_ne (KB_ BK114.out) hs_.2 (by decide))); replace HO117 := Zz.mk (Kd.S_mono hy0 (fun k_ hk_ => hk_.1)); replace BK119 := Zz.mk (blk_kept (KB_ BK119.out) hkp (fun hs_ => Kd.typed_ne (KB_ BK119.out) hs_.2 (by decide))); replace HO123 := Zz.mk (Kd.S_mono (Kd.S_keptB (ok := fun k_ => (((((True ∧ some k_ ≠ (.slice Ao40 t103.length co40 : Value).ownBlock) ∧ some k_ ≠ (.slice Ao44 t106.length co44 : Value).ownBlock) ∧ some k_ ≠ (.slice Ao51 t111.length co51 : Value).ownBlock) ∧ some k_ ≠ (.slice Ao58 t115.length co58 : Value).ownBlock) ∧ nan67 ≤ k_)) (KS_ HO123.out) hkp (fun k_ hk_ hs_ => absurd hk_.2 (Nat.not_le.2 hs_.1.2))) (fun k_ hk_ => hk_.1)); replace HB := Zz.mk (hb); (try clear hb hkp hy0); obtain ⟨hcz77_0, hfz77_0⟩ := Z1f_ BK119.out) | ((with_reducible refine gC_ (f := 26) rfl ?_); refine goesL_ (some 71) rfl rfl Try.func26 (by kernel_rfl) rfl #[.agg #[.slice Ao58 t129.length co58], .int .i64 1] rfl (by (try simp only [List.map_toArray, List.map_cons, List.map_nil]); first | done | (rw [show t129.length = t115.length from (Kd.S_reads' HO117.out).1.symm] <;> rfl) | rfl | (simp only [List.length_drop, List.length_take]; rfl)) ?_; (with_reducible refine (z26.calls k _ _ t129 1 t130 _ ?side1 ?side2 A23.out).mono ?_); (case side1 => exact KC_ (Kd.S_reads' HO117.out).2.2); (case side2 => rw [show t129.length = t115.length from (Kd.S_reads' HO117.out).1.symm]; exact (Kd.S_reads' HO117.out).2.1); rintro e w78 ⟨rfl, hb⟩; refine ⟨_, rfl, ?_⟩; replace HO105 := Zz.mk (Kd.S_below (KS_ HO105.out) hb); replace HO108 := Zz.mk (Kd.S_below (KS_ HO108.out) hb); replace HO113 := Zz.mk (Kd.S_below (KS_ HO113.out) hb); replace HO117 := Zz.mk (Kd.S_below (KS_ HO117.out) hb); replace HO123 := Zz.mk (Kd.S_below (KS_ HO123.out) hb); replace BK101 := Zz.mk (kb_ BK101.out hb); replace BK110 := Zz.mk (kb_ BK110.out hb); replace BK114 := Zz.mk (kb_ BK114.out hb); replace BK119 := Zz.mk (kb_ BK119.out hb); replace HB := Zz.mk (bT_ (Bw4_ HB.out GE101.out GE110.out GE114.out GE119.out) hb); (try clear hb); obtain ⟨hcz79_0, hfz79_0⟩ := Z1f_ BK101.out) | ((with_reducible refine gC_ (f := 17) rfl ?_); refine GL_ (some 79) rfl rfl Try.func17 #[.agg #[.slice A0_0 l0_0.length c0_0]] rfl (h := ?_); (with_reducible refine (z17.calls k _ _ l0_0 t131 _ ?side1 ?side2 A26.out).mono ?_); (case side1 => exact KC_ (Kd.C_below HR0_0.out HB.out)); (case side2 => exact HC0_0.out); rintro e w80 ⟨v132, rfl, ho0, hb⟩; refine ⟨_, rfl, ?_⟩; obtain ⟨nan81, hnan81⟩ := Kd.size_letter hb; have HO133 := Zz.mk (Kd.S_lower (Kd.S_geN (Kd.S_new' (Kd.S_new' (Kd.S_new' (Kd.S_new' (Kd.S_new' ho0 (Kd.S_lt (KS_ HO105.out))) (Kd.S_lt (KS_ HO108.out))) (Kd.S_lt (KS_ HO113.out))) (Kd.S_lt (KS_ HO117.out))) (Kd.S_lt (KS_ HO123.out))) hnan81) (bS_ (Bw4_ HB.out GE101.out GE110.out GE114.out GE119.out))); replace HO105 := Zz.mk (tl_ HO105.out hb hnan81 ho0); replace HO108 := Zz.mk (tl_ HO108.out hb hnan81 ho0); replace HO113 := Zz.mk (tl_ HO113.out hb hnan81 ho0); replace HO117 := Zz.mk (tl_ HO117.out hb hnan81 ho0); replace HO123 := Zz.mk (tl_ HO123.out hb hnan81 ho0); replace BK101 := Zz.mk (kb_ BK101.out hb); replace BK110 := Zz.mk (kb_ BK110.out hb); replace BK114 := Zz.mk (kb_ BK114.out hb); replace BK119 := Zz.mk (kb_ BK119.out hb); replace HB := Zz.mk (bT_ (Bw4_ HB.out GE101.out GE110.out GE114.out GE119.out) hb); (try clear hb); (try clear ho0); obtain ⟨Ao82, co82, eo82⟩ := Kd.S_slice HO133.out; subst eo82) | ((with_reducible refine gC_ (f := 36) rfl ?_); refine GL_ (some 81) rfl rfl Try.func36 #[.agg #[.slice Ao82 t131.length co82], .int .i64 a1] rfl (h := ?_); (with_reducible refine (z36.calls k _ _ t131 a1 t134 t137 _ ?side1 ?side2 A27.out).mono ?_); (case side1 => exact KC_ (Kd.S_reads' HO133.out).2.2); (case side2 => exact (Kd.S_reads' HO133.out).2.1); rintro e w83 ⟨v135, rfl, ho0, hb⟩; refine ⟨_, rfl, ?_⟩; obtain ⟨nan84, hnan84⟩ := Kd.size_letter hb; have HO136 := Zz.mk (Kd.S_lower (Kd.S_geN (Kd.S_new' (Kd.S_new' (Kd.S_new' (Kd.S_new' (Kd.S_new' (Kd.S_new' ho0 (Kd.S_lt (KS_ HO105.out))) (Kd.S_lt (KS_ HO108.out))) (Kd.S_lt (KS_ HO113.out))) (Kd.S_lt (KS_ HO117.out))) (Kd.S_lt (KS_ HO123.out))) (Kd.S_lt (KS_ HO133.out))) hnan84) (bS_ (Bw4_ HB.out GE101.out GE110.out GE114.out GE119.out))); replace HO105 := Zz.mk (tl_ HO105.out hb hnan84 ho0); replace HO108 := Zz.mk (tl_ HO108.out hb hnan84 ho0); replace HO113 := Zz.mk (tl_ HO113.out hb hnan84 ho0); replace HO117 := Zz.mk (tl_ HO117.out hb hnan84 ho0); replace HO123 := Zz.mk (tl_ HO123.out hb hnan84 ho0); replace HO133 := Zz.mk (tl_ HO133.out hb hnan84 ho0); replace BK101 := Zz.mk (kb_ BK101.out hb); replace BK110 := Zz.mk (kb_ BK110.out hb); replace BK114 := Zz.mk (kb_ BK114.out hb); replace BK119 := Zz.mk (kb_ BK119.out hb); replace HB := Zz.mk (bT_ (Bw4_ HB.out GE101.out GE110.out GE114.out GE119.out) hb); (try clear hb); (try clear ho0)) | ((with_reducible refine gate_dst (N := 14) rfl ?_); refine bx_ 14 #[.slice none 0 0] 29 ?_; intro gb138 hg w85 hbox hb; have BK138 := Zz.mk (hbox); have GW138 := Zz.mk ((gw_ hg (Bw4_ HB.out GE101.out GE110.out GE114.out GE119.out))); have GE138 := GW138; have NB101_138 := Zz.mk ((nb_ BK101.out hg)); have NB138_101 := Zz.mk NB101_138.out.symm; have NB110_138 := Zz.mk ((nb_ BK110.out hg)); have NB138_110 := Zz.mk NB110_138.out.symm; have NB114_138 := Zz.mk ((nb_ BK114.out hg)); have NB138_114 := Zz.mk NB114_138.out.symm; have NB119_138 := Zz.mk ((nb_ BK119.out hg)); have NB138_119 := Zz.mk NB119_138.out.symm; replace HO105 := Zz.mk (Kd.S_below (KS_ HO105.out) hb); replace HO108 := Zz.mk (Kd.S_below (KS_ HO108.out) hb); replace HO113 := Zz.mk (Kd.S_below (KS_ HO113.out) hb); replace HO117 := Zz.mk (Kd.S_below (KS_ HO117.out) hb); replace HO123 := Zz.mk (Kd.S_below (KS_ HO123.out) hb); replace HO133 := Zz.mk (Kd.S_below (KS_ HO133.out) hb); replace HO136 := Zz.mk (Kd.S_below (KS_ HO136.out) hb); replace BK101 := Zz.mk (kb_ BK101.out hb); replace BK110 := Zz.mk (kb_ BK110.out hb); replace BK114 := Zz.mk (kb_ BK114.out hb); replace BK119 := Zz.mk (kb_ BK119.out hb); replace HB := Zz.mk (bT_ (Bw4_ HB.out GE101.out GE110.out GE114.out GE119.out) hb); clear hb hbox hg; obtain ⟨Ao86, co86, eo86⟩ := Kd.S_slice HO136.out; subst eo86; have hnb87 := NB138_101.out; have hnc87 := NB101_138.out; have hnb88 := NB138_110.out; have hnc88 := NB110_138.out; have hnb89 := NB138_114.out; have hnc89 := NB114_138.out; have hnb90 := NB138_119.out; have hnc90 := NB119_138.out; obtain ⟨hcz91_0, hfz91_0⟩ := Z1f_ BK138.out; obtain ⟨hcz92_0, hfz92_0⟩ := Z1f_ BK110.out) | ((with_reducible refine gC_ (f := 20) rfl ?_); refine GL_ (some 86) rfl rfl Try.func20 #[.agg #[.slice Ao86 t134.length co86], .agg #[.slice Ao44 t106.length co44]] rfl (h := ?_); (with_reducible refine (z20.calls k _ _ t134 _ _ t106 true _ ?side1 ?side2 ?side3 ?side4 A28.out).mono ?_); (case side1 => refine (Kd.S_reads' (e := 26) (base := w.heap.size) (ok := fun k_ => (((((((True ∧ some k_ ≠ (.slice Ao40 t103.length co40 : Value).ownBlock) ∧ some k_ ≠ (.slice Ao44 t106.length co44 : Value).ownBlock) ∧ some k_ ≠ (.slice Ao51 t111.length co51 : Value).ownBlock) ∧ some k_ ≠ (.slice Ao58 t115.length co58 : Value).ownBlock) ∧ some k_ ≠ (.slice Ao68 t121.length co68 : Value).ownBlock) ∧ some k_ ≠ (.slice Ao82 t131.length co82 : Value).ownBlock) ∧ nan84 ≤ k_)) (n := t134.length) (c := co86) ?_).2.2; exact (by refine SW_ ?_; exact (Kd.S_mono (Kd.S_far (p := ⟨gb138, 0, none⟩) (Kd.S_types HO136.out BK138.out (by decide)) (fun _ hk => hk.2) (.slice Ao86 t134.length co86)) (fun _ h_ => h_.1)))); (case side2 => exact (Kd.S_reads' HO136.out).2.1); (case side3 => refine (Kd.S_reads' (e := 26) (base := w.heap.size) (ok := fun k_ => ((((((((((((True ∧ some k_ ≠ (.slice Ao40 t103.length co40 : Value).ownBlock) ∧ nan42 ≤ k_) ∧ some k_ ≠ (.slice Ao51 t111.length co51 : Value).ownBlock) ∧ k_ < nan49) ∧ some k_ ≠ (.slice Ao58 t115.length co58 : Value).ownBlock) ∧ k_ < nan56) ∧ some k_ ≠ (.slice Ao68 t121.length co68 : Value).ownBlock) ∧ k_ < nan67) ∧ some k_ ≠ (.slice Ao82 t131.length co82 : Value).ownBlock) ∧ k_ < nan81) ∧ some k_ ≠ (.slice Ao86 t134.length co86 : Value).ownBlock) ∧ k_ < nan84)) (n := t106.length) (c := co44) ?_).2.2; exact (by refine SW_ ?_; exact (Kd.S_mono (Kd.S_far (p := ⟨gb138, 0, none⟩) (Kd.S_types HO108.out BK138.out (by decide)) (fun _ hk => hk.2) (.slice Ao86 t134.length co86)) (fun _ h_ => h_.1)))); (case side4 => exact (Kd.S_reads' HO108.out).2.1); rintro e w93 ⟨rfl, hb⟩; refine ⟨_, rfl, ?_⟩; replace HO105 := Zz.mk (Kd.S_below (by refine SW_ ?_; exact (Kd.S_mono (Kd.S_far (p := ⟨gb138, 0, none⟩) (Kd.S_types HO105.out BK138.out (by decide)) (fun _ hk => hk.2) (.slice Ao86 t134.length co86)) (fun _ h_ => h_.1))) hb); replace HO108 := Zz.mk (Kd.S_below (by refine SW_ ?_; exact (Kd.S_mono (Kd.S_far (p := ⟨gb138, 0, none⟩) (Kd.S_types HO108.out BK138.out (by decide)) (fun _ hk => hk.2) (.slice Ao86 t134.length co86)) (fun _ h_ => h_.1))) hb); replace HO113 := Zz.mk (Kd.S_below (by refine SW_ ?_; exact (Kd.S_mono (Kd.S_far (p := ⟨gb138, 0, none⟩) (Kd.S_types HO113.out BK138.out (by decide)) (fun _ hk => hk.2) (.slice Ao86 t134.length co86)) (fun _ h_ => h_.1))) hb); replace HO117 := Zz.mk (Kd.S_below (by refine SW_ ?_; exact (Kd.S_mono (Kd.S_far (p := ⟨gb138, 0, none⟩) (Kd.S_types HO117.out BK138.out (by decide)) (fun _ hk => hk.2) (.slice Ao86 t134.length co86)) (fun _ h_ => h_.1))) hb); replace HO123 := Zz.mk (Kd.S_below (by refine SW_ ?_; exact (Kd.S_mono (Kd.S_far (p := ⟨gb138, 0, none⟩) (Kd.S_types HO123.out BK138.out (by decide)) (fun _ hk => hk.2) (.slice Ao86 t134.length co86)) (fun _ h_ => h_.1))) hb); replace HO133 := Zz.mk (Kd.S_below (by refine SW_ ?_; exact (Kd.S_mono (Kd.S_far (p := ⟨gb138, 0, none⟩) (Kd.S_types HO133.out BK138.out (by decide)) (fun _ hk => hk.2) (.slice Ao86 t134.length co86)) (fun _ h_ => h_.1))) hb); replace HO136 := Zz.mk (Kd.S_below (by refine SW_ ?_; exact (Kd.S_mono (Kd.S_far (p := ⟨gb138, 0, none⟩) (Kd.S_types HO136.out BK138.out (by decide)) (fun _ hk => hk.2) (.slice Ao86 t134.length co86)) (fun _ h_ => h_.1))) hb); replace BK101 := Zz.mk (bB_ (g := gb101) (o := .cells #[.slice A0_0 l0_0.length c0_0] 24 (0, 0)) (by refine BW_ ?_; refine bR_ ?_ NB101_138.out _; refine BW_ ?_; exact BK101.out) hb); replace BK110 := Zz.mk (bB_ (g := gb110) (o := .cells #[.slice Ao44 t106.length co44] 29 (0, 0)) (by refine BW_ ?_; refine bR_ ?_ NB110_138.out _; refine BW_ ?_; exact BK110.out) hb); replace BK114 := Zz.mk (bB_ (g := gb114) (o := .cells #[.slice Ao51 t111.length co51] 29 (0, 0)) (by refine BW_ ?_; refine bR_ ?_ NB114_138.out _; refine BW_ ?_; exact BK114.out) hb); replace BK119 := Zz.mk (bB_ (g := gb119) (o := .cells #[.slice Ao58 t115.length co58] 29 (0, 0)) (by refine BW_ ?_; refine bR_ ?_ NB119_138.out _; refine BW_ ?_; exact BK119.out) hb); replace BK138 := Zz.mk (bB_ (g := gb138) (o := .cells #[.slice Ao86 t134.length co86] 29 (0, 0)) (by refine BW_ ?_; refine bP_ (cs := #[.slice none 0 0]) ?_ 0 _ rfl; refine BW_ ?_; exact BK138.out) hb); replace HB := Zz.mk (bT_ (Bw5_ HB.out GE101.out GE110.out GE114.out GE119.out GE138.out) hb); (try clear hb); obtain ⟨hcz94_0, hfz94_0⟩ := Z1f_ BK119.out) | ((with_reducible refine gC_ (f := 26) rfl ?_); refine goesL_ (some 95) rfl rfl Try.func26 (by kernel_rfl) rfl #[.agg #[.slice Ao58 t129.length co58], .int .i64 1] rfl (by (try simp only [List.map_toArray, List.map_cons, List.map_nil]); first | done | (rw [show t129.length = t115.length from (Kd.S_reads' HO117.out).1.symm] <;> rfl) | rfl | (simp only [List.length_drop, List.length_take]; rfl)) ?_; (with_reducible refine (z26.calls k _ _ t129 1 t140 _ ?side1 ?side2 A31.out).mono ?_); (case side1 => exact KC_ (Kd.S_reads' HO117.out).2.2); (case side2 => rw [show t129.length = t115.length from (Kd.S_reads' HO117.out).1.symm]; exact (Kd.S_reads' HO117.out).2.1); rintro e w95 ⟨rfl, hb⟩; refine ⟨_, rfl, ?_⟩; replace HO105 := Zz.mk (Kd.S_below (KS_ HO105.out) hb); replace HO108 := Zz.mk (Kd.S_below (KS_ HO108.out) hb); replace HO113 := Zz.mk (Kd.S_below (KS_ HO113.out) hb); replace HO117 := Zz.mk (Kd.S_below (KS_ HO117.out) hb); replace HO123 := Zz.mk (Kd.S_below (KS_ HO123.out) hb); replace HO133 := Zz.mk (Kd.S_below (KS_ HO133.out) hb); replace HO136 := Zz.mk (Kd.S_below (KS_ HO136.out) hb); replace BK101 := Zz.mk (kb_ BK101.out hb); replace BK110 := Zz.mk (kb_ BK110.out hb); replace BK114 := Zz.mk (kb_ BK114.out hb); replace BK119 := Zz.mk (kb_ BK119.out hb); replace BK138 := Zz.mk (kb_ BK138.out hb); replace HB := Zz.mk (bT_ (Bw5_ HB.out GE101.out GE110.out GE114.out GE119.out GE138.out) hb); (try clear hb)))
         go_ret
         exact ⟨F_, by repeat (first | (with_reducible first | exact HB.out | apply below_alloc | apply pw_below_drewN | apply below_drew1 | refine below_set ?_ GE101.out | refine below_set ?_ GE110.out | refine below_set ?_ GE114.out | refine below_set ?_ GE119.out | refine below_set ?_ GE138.out) | exact HB.out)⟩
        rw [if_neg c33] at H
        have c33b0 : (t140 == t128) = false := beq_eq_false_iff_ne.mpr c33
        have c33b1 : (t140 != t128) = true := bne_iff_ne.mpr c33
        exact absurd (H.trans (congrArg some ht_)) (by simp)
       rw [if_neg c30] at H
       have c30b0 : (t137 == t109) = false := beq_eq_false_iff_ne.mpr c30
       have c30b1 : (t137 != t109) = true := bne_iff_ne.mpr c30
       exact absurd (H.trans (congrArg some ht_)) (by simp)
      replace c29 := Bool.eq_false_iff.mpr c29
      subst c29
      replace H := N_ H
      exact absurd (H.trans (congrArg some ht_)) (by simp)
     rw [if_neg c25] at H
     have c25b0 : (t130 == t128) = false := beq_eq_false_iff_ne.mpr c25
     have c25b1 : (t130 != t128) = true := bne_iff_ne.mpr c25
     exact absurd (H.trans (congrArg some ht_)) (by simp)
    replace c21 := Bool.eq_false_iff.mpr c21
    subst c21
    replace H := N_ H
    exact absurd (H.trans (congrArg some ht_)) (by simp)
   replace c17 := Bool.eq_false_iff.mpr c17
   subst c17
   replace H := N_ H
   exact absurd (H.trans (congrArg some ht_)) (by simp)
  rw [if_neg c14] at H
  have c14b0 : (t118 == t109) = false := beq_eq_false_iff_ne.mpr c14
  have c14b1 : (t118 != t109) = true := bne_iff_ne.mpr c14
  exact absurd (H.trans (congrArg some ht_)) (by simp)
 replace c13 := Bool.eq_false_iff.mpr c13
 subst c13
 replace H := N_ H
 exact absurd (H.trans (congrArg some ht_)) (by simp)
end Go.Proofs.Ytipkciildhghiaa.B
