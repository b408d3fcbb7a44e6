/- Printed proofs of functions of the program and of the reference, by a program of this work over the kit's printer. -/
import Derived.Test.YtpgjfppbbbnclaaKBAKNEC0
import Derived.Test.YtpgjfppbbbnclaaKLEKPEN0
import Derived.Test.YtpgjfppbbbnclaaKLEKPEN1
import Derived.Test.YtpgjfppbbbnclaaKOIGDKC0
import Derived.Test.YtpgjfppbbbnclaaKW0
namespace Go.Proofs.Ytpgjfppbbbnclaa.B
open Go.RowKit Go.Proofs.YtpgjfppbbbnclaaW.PrintWords Go.Proofs.YtpgjfppbbbnclaaW.PrintLast Go.Proofs.YtpgjfppbbbnclaaW.PrintMore
attribute [local go_sem] qAh qAf qAl qAk qAc qAb qAg qAe
set_option linter.unusedVariables false
set_option linter.unusedSimpArgs false
def z3.f (k : Nat) (l0_0 : List (List Int)) (a1 : Int) : Option (Bool) := (z4.f k l0_0 1048576).bind fun t102 => (if t102 < 0 then (some true) else ((z6.f k l0_0).bind fun t103 => ((z5.f k t103 a1).bind fun bt106 => ((z6.f k l0_0).bind fun t110 => ((z7.f k t110 a1).bind fun bt114 => ((z8.f k bt114.1 bt106.1).bind fun t118 => (if t118 = true then (if bt114.2 = bt106.2 then ((z6.f k l0_0).bind fun t119 => ((z9.f k t110 t119).bind fun t122 => (if t122 = true then ((laws_markComplex.f t110 1).bind fun bt123 => (if bt123.1 < 0 then (some false) else ((z8.f k bt114.1 bt106.1).bind fun t125 => (if t125 = true then ((z11.f k bt114.1 1).bind fun bt126 => ((z12.f k bt126.2 1).bind fun t128 => (if t128 < 0 then (some false) else (if t128 = bt126.1 then ((z6.f k l0_0).bind fun t129 => ((z7.f k t129 a1).bind fun bt132 => ((z8.f k bt132.1 bt106.1).bind fun t136 => (if t136 = true then (if bt132.2 = bt106.2 then ((z12.f k bt126.2 1).bind fun t137 => (if t137 < 0 then (some false) else (if t137 = bt126.1 then (some true) else (some false)))) else (some false)) else (some false))))) else (some false))))) else (some false))))) else (some false)))) else (some false)) else (some false))))))))
set_option maxHeartbeats 8000000 in
set_option maxRecDepth 100000 in
theorem z3.calls (k : Nat) (A0_0 : Option Addr) (c0_0 : Nat) (l0_0 : List (List Int)) (a1 : Int) (r : Bool) (w : World) (hr0_0 : Kd.C (Kd.slice 2 (Kd.int .i64)) w A0_0 l0_0.length l0_0) (hc0_0 : l0_0.length ≤ c0_0) (h : z3.f k l0_0 a1 = some r) (ht_ : r = true) :
  Calls Try.prog 3 #[.agg #[.slice A0_0 l0_0.length c0_0], .int .i64 a1] w fun e w' => e = .returned (.bool r) ∧ Below w.heap.size w w' := by
 have hu24 := Try.underlying24
 have hu29 := Try.underlying29
 have HR0_0 := Zz.mk hr0_0
 have HC0_0 := Zz.mk hc0_0
 clear hr0_0 hc0_0
 have HB := Zz.mk (Below.refl w.heap.size w)
 have H : ((z4.f k l0_0 1048576).bind fun t102 => (if t102 < 0 then (some true) else ((z6.f k l0_0).bind fun t103 => ((z5.f k t103 a1).bind fun bt106 => ((z6.f k l0_0).bind fun t110 => ((z7.f k t110 a1).bind fun bt114 => ((z8.f k bt114.1 bt106.1).bind fun t118 => (if t118 = true then (if bt114.2 = bt106.2 then ((z6.f k l0_0).bind fun t119 => ((z9.f k t110 t119).bind fun t122 => (if t122 = true then ((laws_markComplex.f t110 1).bind fun bt123 => (if bt123.1 < 0 then (some false) else ((z8.f k bt114.1 bt106.1).bind fun t125 => (if t125 = true then ((z11.f k bt114.1 1).bind fun bt126 => ((z12.f k bt126.2 1).bind fun t128 => (if t128 < 0 then (some false) else (if t128 = bt126.1 then ((z6.f k l0_0).bind fun t129 => ((z7.f k t129 a1).bind fun bt132 => ((z8.f k bt132.1 bt106.1).bind fun t136 => (if t136 = true then (if bt132.2 = bt106.2 then ((z12.f k bt126.2 1).bind fun t137 => (if t137 < 0 then (some false) else (if t137 = bt126.1 then (some true) else (some false)))) else (some false)) else (some false))))) else (some false))))) else (some false))))) else (some false)))) else (some false)) else (some false))))))))) = some r := h
 clear h
 replace H := OZ_ H
 obtain ⟨t102, A3, H⟩ := H
 by_cases c4 : t102 < 0
 ·rw [if_pos c4] at H
  have c4b0 : decide (t102 < 0) = true := decide_eq_true c4
  clear c4
  obtain rfl := OI_ H
  go_enter Try.func3, Try.ntmps3
  go_wp2_with (first | ((with_reducible refine qAm (N := 2) rfl ?_); refine bx_ 2 #[.slice A0_0 l0_0.length c0_0] 24 ?_; intro gb101 hg w5 hbox hb; have BK101 := Zz.mk (hbox); have GW101 := Zz.mk ((gw_ hg (B_ HB.out))); have GE101 := GW101; replace HB := Zz.mk (bT_ (B_ HB.out) hb); clear hb hbox hg; obtain ⟨hcz6_0, hfz6_0⟩ := Z1f_ BK101.out) | ((with_reducible refine gC_ (f := 4) rfl ?_); refine GL_ (some 18) rfl rfl Try.func4 #[.agg #[.slice A0_0 l0_0.length c0_0], .int .i64 1048576] rfl (h := ?_); (with_reducible refine (z4.calls k _ _ l0_0 1048576 t102 _ ?side1 ?side2 A3.out).mono ?_); (case side1 => exact KC_ (Kd.C_below HR0_0.out HB.out)); (case side2 => exact HC0_0.out); rintro e w7 ⟨rfl, hb⟩; refine ⟨_, rfl, ?_⟩; replace BK101 := Zz.mk (kb_ BK101.out hb); replace HB := Zz.mk (bT_ (B1_ HB.out GE101.out) hb); (try clear hb)))
  go_ret
  exact ⟨F_, B1_ HB.out GE101.out⟩
 rw [if_neg c4] at H
 have c4b0 : decide (t102 < 0) = false := decide_eq_false c4
 clear c4
 replace H := OZ_ H
 obtain ⟨t103, A8, H⟩ := H
 replace H := OB_ H
 obtain ⟨⟨t106, t109⟩, A90, H⟩ := H
 try dsimp only at H
 have A9 := Zz.mk A90
 clear A90
 replace H := OZ_ H
 obtain ⟨t110, A10, H⟩ := H
 replace H := OB_ H
 obtain ⟨⟨t114, t117⟩, A110, H⟩ := H
 try dsimp only at H
 have A11 := Zz.mk A110
 clear A110
 replace H := OZ_ H
 obtain ⟨t118, A12, H⟩ := H
 by_cases c13 : t118 = true
 ·subst c13
  replace H := T_ H
  by_cases c14 : t117 = t109
  ·rw [if_pos c14] at H
   have c14b0 : (t117 == t109) = true := beq_iff_eq.mpr c14
   have c14b1 : (t117 != t109) = false := bne_eq_false_iff_eq.mpr c14
   clear c14
   replace H := OZ_ H
   obtain ⟨t119, A15, H⟩ := H
   replace H := OZ_ H
   obtain ⟨t122, A16, H⟩ := H
   by_cases c17 : t122 = true
   ·subst c17
    replace H := T_ H
    replace H := OB_ H
    obtain ⟨⟨t123, t124⟩, A180, H⟩ := H
    try dsimp only at H
    have A18 := Zz.mk A180
    clear A180
    by_cases c19 : t123 < 0
    ·rw [if_pos c19] at H
     have c19b0 : decide (t123 < 0) = true := decide_eq_true c19
     clear c19
     exact absurd (H.trans (congrArg some ht_)) (by simp)
    rw [if_neg c19] at H
    have c19b0 : decide (t123 < 0) = false := decide_eq_false c19
    clear c19
    replace H := OZ_ H
    obtain ⟨t125, A20, H⟩ := H
    by_cases c21 : t125 = true
    ·subst c21
     replace H := T_ H
     replace H := OB_ H
     obtain ⟨⟨t126, t127⟩, A220, H⟩ := H
     try dsimp only at H
     have A22 := Zz.mk A220
     clear A220
     replace H := OZ_ H
     obtain ⟨t128, A23, H⟩ := H
     by_cases c24 : t128 < 0
     ·rw [if_pos c24] at H
      have c24b0 : decide (t128 < 0) = true := decide_eq_true c24
      clear c24
      exact absurd (H.trans (congrArg some ht_)) (by simp)
     rw [if_neg c24] at H
     have c24b0 : decide (t128 < 0) = false := decide_eq_false c24
     clear c24
     by_cases c25 : t128 = t126
     ·rw [if_pos c25] at H
      have c25b0 : (t128 == t126) = true := beq_iff_eq.mpr c25
      have c25b1 : (t128 != t126) = false := bne_eq_false_iff_eq.mpr c25
      clear c25
      replace H := OZ_ H
      obtain ⟨t129, A26, H⟩ := H
      replace H := OB_ H
      obtain ⟨⟨t132, t135⟩, A270, H⟩ := H
      try dsimp only at H
      have A27 := Zz.mk A270
      clear A270
      replace H := OZ_ H
      obtain ⟨t136, A28, H⟩ := H
      by_cases c29 : t136 = true
      ·subst c29
       replace H := T_ H
       by_cases c30 : t135 = t109
       ·rw [if_pos c30] at H
        have c30b0 : (t135 == t109) = true := beq_iff_eq.mpr c30
        have c30b1 : (t135 != t109) = false := bne_eq_false_iff_eq.mpr c30
        clear c30
        replace H := OZ_ H
        obtain ⟨t137, A31, H⟩ := H
        by_cases c32 : t137 < 0
        ·rw [if_pos c32] at H
         have c32b0 : decide (t137 < 0) = true := decide_eq_true c32
         clear c32
         exact absurd (H.trans (congrArg some ht_)) (by simp)
        rw [if_neg c32] at H
        have c32b0 : decide (t137 < 0) = false := decide_eq_false c32
        clear c32
        by_cases c33 : t137 = t126
        ·rw [if_pos c33] at H
         have c33b0 : (t137 == t126) = true := beq_iff_eq.mpr c33
         have c33b1 : (t137 != t126) = false := bne_eq_false_iff_eq.mpr c33
         clear c33
         obtain rfl := OI_ H
         go_enter Try.func3, Try.ntmps3
         try go_wp2_with (first | ((with_reducible refine qAm (N := 2) rfl ?_); refine bx_ 2 #[.slice A0_0 l0_0.length c0_0] 24 ?_; intro gb101 hg w34 hbox hb; have BK101 := Zz.mk (hbox); have GW101 := Zz.mk ((gw_ hg (B_ HB.out))); have GE101 := GW101; replace HB := Zz.mk (bT_ (B_ HB.out) hb); clear hb hbox hg; obtain ⟨hcz35_0, hfz35_0⟩ := Z1f_ BK101.out) | ((with_reducible refine gC_ (f := 4) rfl ?_); refine GL_ (some 18) rfl rfl Try.func4 #[.agg #[.slice A0_0 l0_0.length c0_0], .int .i64 1048576] rfl (h := ?_); (with_reducible refine (z4.calls k _ _ l0_0 1048576 t102 _ ?side1 ?side2 A3.out).mono ?_); (case side1 => exact KC_ (Kd.C_below HR0_0.out HB.out)); (case side2 => exact HC0_0.out); rintro e w36 ⟨rfl, hb⟩; refine ⟨_, rfl, ?_⟩; replace BK101 := Zz.mk (kb_ BK101.out hb); replace HB := Zz.mk (bT_ (B1_ HB.out GE101.out) hb); (try clear hb); obtain ⟨hcz37_0, hfz37_0⟩ := Z1f_ BK101.out) | ((with_reducible refine gC_ (f := 6) rfl ?_); refine GL_ (some 23) rfl rfl Try.func6 #[.agg #[.slice A0_0 l0_0.length c0_0]] rfl (h := ?_); (with_reducible refine (z6.calls k _ _ l0_0 t103 _ ?side1 ?side2 A8.out).mono ?_); (case side1 => exact KC_ (Kd.C_below HR0_0.out HB.out)); (case side2 => exact HC0_0.out); rintro e w38 ⟨v104, rfl, ho0, hb⟩; refine ⟨_, rfl, ?_⟩; obtain ⟨nan39, hnan39⟩ := Kd.size_letter hb; have HO105 := Zz.mk (Kd.S_lower (Kd.S_geN ho0 hnan39) (bS_ (B1_ HB.out GE101.out))); replace BK101 := Zz.mk (kb_ BK101.out hb); replace HB := Zz.mk (bT_ (B1_ HB.out GE101.out) hb); (try clear hb); (try clear ho0); obtain ⟨Ao40, co40, eo40⟩ := Kd.S_slice HO105.out; subst eo40) | ((with_reducible refine gC_ (f := 5) rfl ?_); refine GL_ (some 25) rfl rfl Try.func5 #[.agg #[.slice Ao40 t103.length co40], .int .i64 a1] rfl (h := ?_); (with_reducible refine (z5.calls k _ _ t103 a1 t106 t109 _ ?side1 ?side2 A9.out).mono ?_); (case side1 => exact KC_ (Kd.S_reads' HO105.out).2.2); (case side2 => exact (Kd.S_reads' HO105.out).2.1); rintro e w41 ⟨v107, rfl, ho0, hb⟩; refine ⟨_, rfl, ?_⟩; obtain ⟨nan42, hnan42⟩ := Kd.size_letter hb; replace HO105 := Zz.mk (Kd.S_told (Kd.S_oldN (KS_ HO105.out) hb hnan42) (Kd.R_baseN ho0 hnan42)); have HO108 := Zz.mk (Kd.R_lower (Kd.R_geN ho0 hnan42) (bS_ (B1_ HB.out GE101.out))); replace BK101 := Zz.mk (kb_ BK101.out hb); replace HB := Zz.mk (bT_ (B1_ HB.out GE101.out) hb); (try clear hb); (try clear ho0); obtain ⟨hcz43_0, hfz43_0⟩ := Z1f_ BK101.out) | ((with_reducible refine gC_ (f := 6) rfl ?_); refine GL_ (some 29) rfl rfl Try.func6 #[.agg #[.slice A0_0 l0_0.length c0_0]] rfl (h := ?_); (with_reducible refine (z6.calls k _ _ l0_0 t110 _ ?side1 ?side2 A10.out).mono ?_); (case side1 => exact KC_ (Kd.C_below HR0_0.out HB.out)); (case side2 => exact HC0_0.out); rintro e w44 ⟨v111, rfl, ho0, hb⟩; refine ⟨_, rfl, ?_⟩; obtain ⟨nan45, hnan45⟩ := Kd.size_letter hb; have HO112 := Zz.mk (Kd.S_lower (Kd.S_geN (Kd.S_new' (Kd.S_new' ho0 (Kd.S_lt (KS_ HO105.out))) (Kd.R_lt (KR_ HO108.out))) hnan45) (bS_ (B1_ HB.out GE101.out))); replace HO105 := Zz.mk (tl_ HO105.out hb hnan45 ho0); replace HO108 := Zz.mk (Kd.R_oldN (KR_ HO108.out) hb hnan45); replace BK101 := Zz.mk (kb_ BK101.out hb); replace HB := Zz.mk (bT_ (B1_ HB.out GE101.out) hb); (try clear hb); (try clear ho0)) | ((with_reducible refine qAm (N := 8) rfl ?_); refine bx_ 8 #[.slice none 0 0] 29 ?_; intro gb113 hg w46 hbox hb; have BK113 := Zz.mk (hbox); have GW113 := Zz.mk ((gw_ hg (B1_ HB.out GE101.out))); have GE113 := GW113; have NB101_113 := Zz.mk ((nb_ BK101.out hg)); have NB113_101 := Zz.mk NB101_113.out.symm; replace HO105 := Zz.mk (Kd.S_below (KS_ HO105.out) hb); replace HO108 := Zz.mk (Kd.R_below (KR_ HO108.out) hb); replace HO112 := Zz.mk (Kd.S_below (KS_ HO112.out) hb); replace BK101 := Zz.mk (kb_ BK101.out hb); replace HB := Zz.mk (bT_ (B1_ HB.out GE101.out) hb); clear hb hbox hg; obtain ⟨Ao47, co47, eo47⟩ := Kd.S_slice HO112.out; subst eo47; have hnb48 := NB113_101.out; have hnc48 := NB101_113.out; obtain ⟨hcz49_0, hfz49_0⟩ := Z1f_ BK113.out) | ((with_reducible refine gC_ (f := 7) rfl ?_); refine GL_ (some 33) rfl rfl Try.func7 #[.agg #[.slice Ao47 t110.length co47], .int .i64 a1] rfl (h := ?_); (with_reducible refine (z7.calls k _ _ t110 a1 t114 t117 _ ?side1 ?side2 A11.out).mono ?_); (case side1 => refine (Kd.S_reads' (e := 26) (base := w.heap.size) (ok := fun k_ => (((True ∧ some k_ ≠ (.slice Ao40 t103.length co40 : Value).ownBlock) ∧ some k_ ≠ (v107 : Value).ownBlock) ∧ nan45 ≤ k_)) (n := t110.length) (c := co47) ?_).2.2; exact (by refine SW_ ?_; exact (Kd.S_mono (Kd.S_far (p := ⟨gb113, 0, none⟩) (Kd.S_types HO112.out BK113.out (by decide)) (fun _ hk => hk.2) (.slice Ao47 t110.length co47)) (fun _ h_ => h_.1)))); (case side2 => exact (Kd.S_reads' HO112.out).2.1); rintro e w50 ⟨v115, rfl, ho0, hb⟩; refine ⟨_, rfl, ?_⟩; obtain ⟨nan51, hnan51⟩ := Kd.size_letter hb; have HO116 := Zz.mk (Kd.R_lower (Kd.R_geN (Kd.R_new' ho0 (Kd.R_lt (by refine RW_ ?_; exact (Kd.R_mono (Kd.R_far (p := ⟨gb113, 0, none⟩) (Kd.R_types HO108.out BK113.out (by decide)) (fun _ hk => hk.2) (.slice Ao47 t110.length co47)) (fun _ h_ => h_.1))))) hnan51) (bS_ (B2_ HB.out GE101.out GE113.out))); replace HO105 := Zz.mk (Kd.S_told (Kd.S_oldN (by refine SW_ ?_; exact (Kd.S_mono (Kd.S_far (p := ⟨gb113, 0, none⟩) (Kd.S_types HO105.out BK113.out (by decide)) (fun _ hk => hk.2) (.slice Ao47 t110.length co47)) (fun _ h_ => h_.1))) hb hnan51) (Kd.R_baseN ho0 hnan51)); replace HO108 := Zz.mk (Kd.R_told (Kd.R_oldN (by refine RW_ ?_; exact (Kd.R_mono (Kd.R_far (p := ⟨gb113, 0, none⟩) (Kd.R_types HO108.out BK113.out (by decide)) (fun _ hk => hk.2) (.slice Ao47 t110.length co47)) (fun _ h_ => h_.1))) hb hnan51) (Kd.R_baseN ho0 hnan51)); replace HO112 := Zz.mk (Kd.S_told (Kd.S_oldN (by refine SW_ ?_; exact (Kd.S_mono (Kd.S_far (p := ⟨gb113, 0, none⟩) (Kd.S_types HO112.out BK113.out (by decide)) (fun _ hk => hk.2) (.slice Ao47 t110.length co47)) (fun _ h_ => h_.1))) hb hnan51) (Kd.R_baseN ho0 hnan51)); replace BK101 := Zz.mk (bB_ (g := gb101) (o := .cells #[.slice A0_0 l0_0.length c0_0] 24 (0, 0)) (by refine BW_ ?_; refine bR_ ?_ NB101_113.out _; refine BW_ ?_; exact BK101.out) hb); replace BK113 := Zz.mk (bB_ (g := gb113) (o := .cells #[.slice Ao47 t110.length co47] 29 (0, 0)) (by refine BW_ ?_; refine bP_ (cs := #[.slice none 0 0]) ?_ 0 _ rfl; refine BW_ ?_; exact BK113.out) hb); replace HB := Zz.mk (bT_ (B2_ HB.out GE101.out GE113.out) hb); (try clear hb); (try clear ho0); obtain ⟨Ao52, co52, eo52⟩ := Kd.R_slice HO116.out; subst eo52; obtain ⟨Ao53, co53, eo53⟩ := Kd.R_slice HO108.out; subst eo53) | ((with_reducible refine gC_ (f := 8) rfl ?_); refine GL_ (some 38) rfl rfl Try.func8 #[.slice Ao52 t114.length co52, .slice Ao53 t106.length co53] rfl (h := ?_); (with_reducible refine (z8.calls k _ _ t114 _ _ t106 true _ ?side1 ?side2 ?side3 ?side4 A12.out).mono ?_); (case side1 => exact KC_ (Kd.R_reads' HO116.out).2.2); (case side2 => exact (Kd.R_reads' HO116.out).2.1); (case side3 => exact KC_ (Kd.R_reads' HO108.out).2.2); (case side4 => exact (Kd.R_reads' HO108.out).2.1); rintro e w' ⟨rfl, ⟨nd, rfl⟩⟩; refine ⟨_, rfl, ?_⟩))
         (try (rw [qCx w50]; generalize hq_ : World.drewN w50 _ = w50; replace HO105 : Zz (Kd.S (Kd.slice 2 (Kd.int .i64)) 26 w50 w.heap.size (fun k_ => some k_ ≠ (.slice Ao53 t106.length co53 : Value).ownBlock ∧ some k_ ≠ (.slice Ao47 t110.length co47 : Value).ownBlock ∧ some k_ ≠ (.slice Ao52 t114.length co52 : Value).ownBlock ∧ nan39 ≤ k_ ∧ k_ < nan42 ∧ k_ < nan45 ∧ k_ < nan51) (.slice Ao40 t103.length co40) t103) := ⟨by rw [← hq_]; exact (by refine SW_ ?_; exact Kd.S_mono HO105.out (fun _ hk => pj_ hk))⟩; replace HO108 : Zz (Kd.R (Kd.int .i64) 2 w50 w.heap.size (fun k_ => some k_ ≠ (.slice Ao52 t114.length co52 : Value).ownBlock ∧ nan42 ≤ k_ ∧ k_ < nan45 ∧ k_ < nan51) (.slice Ao53 t106.length co53) t106) := ⟨by rw [← hq_]; exact (by refine RW_ ?_; exact Kd.R_mono HO108.out (fun _ hk => ⟨hk.1.2, ⟨hk.1.1.1.2, ⟨hk.1.1.2, hk.2⟩⟩⟩))⟩; replace HO112 : Zz (Kd.S (Kd.slice 2 (Kd.int .i64)) 26 w50 w.heap.size (fun k_ => some k_ ≠ (.slice Ao40 t103.length co40 : Value).ownBlock ∧ some k_ ≠ (.slice Ao53 t106.length co53 : Value).ownBlock ∧ some k_ ≠ (.slice Ao52 t114.length co52 : Value).ownBlock ∧ nan45 ≤ k_ ∧ k_ < nan51) (.slice Ao47 t110.length co47) t110) := ⟨by rw [← hq_]; exact (by refine SW_ ?_; exact Kd.S_mono HO112.out (fun _ hk => pj_ hk))⟩; replace HO116 : Zz (Kd.R (Kd.int .i64) 2 w50 w.heap.size (fun k_ => some k_ ≠ (.slice Ao53 t106.length co53 : Value).ownBlock ∧ nan51 ≤ k_) (.slice Ao52 t114.length co52) t114) := ⟨by rw [← hq_]; exact (by refine RW_ ?_; exact Kd.R_mono HO116.out (fun _ hk => ⟨hk.1.2, hk.2⟩))⟩; replace BK101 : Zz (w50.heap[gb101]? = some (.cells #[.slice A0_0 l0_0.length c0_0] 24 (0, 0))) := ⟨by rw [← hq_]; exact (KB_ BK101.out)⟩; replace BK113 : Zz (w50.heap[gb113]? = some (.cells #[.slice Ao47 t110.length co47] 29 (0, 0))) := ⟨by rw [← hq_]; exact (KB_ BK113.out)⟩; replace HB : Zz (Below w.heap.size w w50) := ⟨by rw [← hq_]; exact (B2_ HB.out GE101.out GE113.out)⟩; (try clear hq_)))
         replace HO105 := Zz.mk (Kd.S_drew HO105.out)
         replace HO108 := Zz.mk (Kd.R_drew HO108.out)
         replace HO112 := Zz.mk (Kd.S_drew HO112.out)
         replace HO116 := Zz.mk (Kd.R_drew HO116.out)
         replace BK101 := Zz.mk (bD_ BK101.out)
         replace BK113 := Zz.mk (bD_ BK113.out)
         replace HB := Zz.mk (qAq HB.out)
         refine qBx (n := 5) (S := fun w' => w'.cell? ⟨gb113, 0, none⟩ = some (.slice Ao47 t110.length co47) ∧ w'.cell? ⟨gb101, 0, none⟩ = some (.slice A0_0 l0_0.length c0_0)) (ds := []) #[false, false, false, false, false] (by kernel_rfl) rfl rfl ⟨(bC_ BK113.out 0).trans rfl, (bC_ BK101.out 0).trans rfl⟩ (fun hHeld => ?_)
         generalize w50.drew = w54 at HO105 HO108 HO112 HO116 BK101 BK113 HB hHeld ⊢
         refine take_ (i := 0) (N := some 45) (v := ?_) (a' := ?_) #[true, false, false, false, false] rfl rfl (by kernel_rfl) (fun _ _ _ h => h) (Or.inl ⟨by rfl, ?_⟩) hHeld ?_ ?_
         rotate_left
         ·rintro w' ⟨s0, s1⟩
          go_simp
          with_reducible rfl
         rotate_left
         ·simp only [Act.put, List.setIfInBounds_toArray, List.set_cons_zero, List.set_cons_succ, qA6, qBh]
          rfl
         refine take_ (i := 1) (N := some 46) (v := ?_) (a' := ?_) #[true, true, false, false, false] rfl rfl (by kernel_rfl) (fun _ _ _ h => h) (Or.inl ⟨by rfl, ?_⟩) hHeld ?_ ?_
         rotate_left
         ·rintro w' ⟨s0, s1⟩
          go_simp
          with_reducible rfl
         rotate_left
         ·simp only [Act.put, List.setIfInBounds_toArray, List.set_cons_zero, List.set_cons_succ, qA6, qBh]
          rfl
         refine one_ (i := 2) (N := some 47) #[true, true, true, false, false] rfl rfl (by kernel_rfl) (by decide) (fun K hK => ?_)
         refine GO_ Try.func6 #[.agg #[.slice A0_0 l0_0.length c0_0]] (h := ?_)
         with_reducible refine (z6.calls k _ _ l0_0 t119 _ ?side1 ?side2 A15.out).mono ?_
         (case side1 => exact KC_ (Kd.C_below HR0_0.out HB.out))
         (case side2 => exact HC0_0.out)
         rintro e w55 ⟨v120, rfl, ho0, hb⟩
         refine ⟨_, rfl, ?_⟩
         obtain ⟨nan56, hnan56⟩ := Kd.size_letter hb
         have HO121 := Zz.mk (Kd.S_lower (Kd.S_geN (Kd.S_new' (Kd.S_new' (Kd.S_new' (Kd.S_new' ho0 (Kd.S_lt (KS_ HO105.out))) (Kd.R_lt (KR_ HO108.out))) (Kd.S_lt (KS_ HO112.out))) (Kd.R_lt (KR_ HO116.out))) hnan56) (bS_ (B2_ HB.out GE101.out GE113.out)))
         replace HO105 := Zz.mk (tl_ HO105.out hb hnan56 ho0)
         replace HO108 := Zz.mk (Kd.R_oldN (KR_ HO108.out) hb hnan56)
         replace HO112 := Zz.mk (tl_ HO112.out hb hnan56 ho0)
         replace HO116 := Zz.mk (Kd.R_oldN (KR_ HO116.out) hb hnan56)
         replace BK101 := Zz.mk (kb_ BK101.out hb)
         replace BK113 := Zz.mk (kb_ BK113.out hb)
         replace HB := Zz.mk (bT_ (B2_ HB.out GE101.out GE113.out) hb)
         (try clear hb);(try clear hk);(try clear ho0)
         obtain ⟨Ao57, co57, eo57⟩ := Kd.S_slice HO121.out
         (first | subst eo57 | obtain ⟨rfl, rfl⟩ := sl_ eo57)
         refine hK.out _ _ ⟨(bC_ BK113.out 0).trans rfl, (bC_ BK101.out 0).trans rfl⟩ (fun hHeld => ?_)
         clear hK K
         refine NM_ (N := (some 47)) (h := ?_)
         refine one_ (i := 3) (N := some 48) #[true, true, true, true, false] rfl rfl (by kernel_rfl) (by decide) (fun K hK => ?_)
         refine GO_ Try.func9 #[.agg #[.slice Ao47 t110.length co47], .agg #[.slice Ao57 t119.length co57]] (h := ?_)
         with_reducible refine (z9.calls k _ _ t110 _ _ t119 true _ ?side1 ?side2 ?side3 ?side4 A16.out).mono ?_
         (case side1 => exact KC_ (Kd.S_reads' HO112.out).2.2)
         (case side2 => exact (Kd.S_reads' HO112.out).2.1)
         (case side3 => exact KC_ (Kd.S_reads' HO121.out).2.2)
         (case side4 => exact (Kd.S_reads' HO121.out).2.1)
         rintro e w58 ⟨rfl, hb⟩
         refine ⟨_, rfl, ?_⟩
         replace HO105 := Zz.mk (Kd.S_below (KS_ HO105.out) hb)
         replace HO108 := Zz.mk (Kd.R_below (KR_ HO108.out) hb)
         replace HO112 := Zz.mk (Kd.S_below (KS_ HO112.out) hb)
         replace HO116 := Zz.mk (Kd.R_below (KR_ HO116.out) hb)
         replace HO121 := Zz.mk (Kd.S_below (KS_ HO121.out) hb)
         replace BK101 := Zz.mk (kb_ BK101.out hb)
         replace BK113 := Zz.mk (kb_ BK113.out hb)
         replace HB := Zz.mk (bT_ (B2_ HB.out GE101.out GE113.out) hb)
         (try clear hb);(try clear hk)
         refine hK.out _ _ ⟨(bC_ BK113.out 0).trans rfl, (bC_ BK101.out 0).trans rfl⟩ (fun hHeld => ?_)
         clear hK K
         refine NM_ (N := (some 48)) (h := ?_)
         refine qFt (i := 4) (N := some 49) (v := ?_) (a' := ?_) #[true, true, true, true, true] rfl rfl (by kernel_rfl) (fun _ _ _ h => h) (Or.inl ⟨by rfl, ?_⟩) ?_ ?_
         rotate_left
         ·intro w'
          go_simp
          with_reducible rfl
         rotate_left
         ·simp only [Act.put, List.setIfInBounds_toArray, List.set_cons_zero, List.set_cons_succ, qA6, qBh]
          rfl
         refine qCp (by kernel_rfl) ?_
         obtain ⟨hcz59_0, hfz59_0⟩ := Z1f_ BK113.out
         try go_wp2_with (first | (go_at_call 10; (with_reducible refine (laws_markComplex.calls (fun k_ => (((some k_ ≠ (.slice Ao40 t103.length co40 : Value).ownBlock ∧ (some k_ ≠ (.slice Ao53 t106.length co53 : Value).ownBlock ∧ (some k_ ≠ (.slice Ao52 t114.length co52 : Value).ownBlock ∧ (nan45 ≤ k_ ∧ k_ < nan51)))) ∧ some k_ ≠ (.slice Ao57 t119.length co57 : Value).ownBlock) ∧ k_ < nan56) ∧ ∃ q_, q_ ∈ 26 :: ((Kd.slice 2 (Kd.int .i64))).E ∧ ∃ cs_, w58.heap[k_]? = some (.cells cs_ q_ (0, 0))) (.slice Ao47 t110.length co47) t110 1 t123 t124 w _ ?side1 ?side2 A18.out).mono ?_); (case side1 => repeat (first | (with_reducible first | exact HB.out | apply qAx | apply qAt | apply qAq | refine qAz ?_ GE101.out | refine qAz ?_ GE113.out) | exact HB.out)); (case side2 => exact Kd.S_pin (ok := fun k_ => (((some k_ ≠ (.slice Ao40 t103.length co40 : Value).ownBlock ∧ (some k_ ≠ (.slice Ao53 t106.length co53 : Value).ownBlock ∧ (some k_ ≠ (.slice Ao52 t114.length co52 : Value).ownBlock ∧ (nan45 ≤ k_ ∧ k_ < nan51)))) ∧ some k_ ≠ (.slice Ao57 t119.length co57 : Value).ownBlock) ∧ k_ < nan56)) (KS_ HO112.out)); rintro e w60 ⟨rfl, hy0, hb, hkp⟩; replace BK101 := Zz.mk (qDw (KB_ BK101.out) hkp (fun hs_ => Kd.typed_ne (KB_ BK101.out) hs_.2 (by decide))); replace HO105 := Zz.mk (Kd.S_mono (Kd.S_keptB (ok := fun k_ => (((some k_ ≠ (.slice Ao53 t106.length co53 : Value).ownBlock ∧ (some k_ ≠ (.slice Ao47 t110.length co47 : Value).ownBlock ∧ (some k_ ≠ (.slice Ao52 t114.length co52 : Value).ownBlock ∧ (nan39 ≤ k_ ∧ (k_ < nan42 ∧ (k_ < nan45 ∧ k_ < nan51)))))) ∧ some k_ ≠ (.slice Ao57 t119.length co57 : Value).ownBlock) ∧ k_ < nan56)) (KS_ HO105.out) hkp (fun k_ hk_ hs_ => absurd hs_.1.1.1.2.2.2.1 (Nat.not_le.2 hk_.1.1.2.2.2.2.2.1))) (fun k_ hk_ => hk_.1)); replace HO108 := Zz.mk (Kd.R_mono (Kd.R_keptB (ok := fun k_ => ((some k_ ≠ (.slice Ao52 t114.length co52 : Value).ownBlock ∧ (nan42 ≤ k_ ∧ (k_ < nan45 ∧ k_ < nan51))) ∧ k_ < nan56)) (KR_ HO108.out) hkp (fun k_ hk_ hs_ => absurd hs_.1.1.1.2.2.2.1 (Nat.not_le.2 hk_.1.2.2.1))) (fun k_ hk_ => hk_.1)); replace HO112 := Zz.mk (Kd.S_mono hy0 (fun k_ hk_ => hk_.1)); replace BK113 := Zz.mk (qDw (KB_ BK113.out) hkp (fun hs_ => Kd.typed_ne (KB_ BK113.out) hs_.2 (by decide))); replace HO116 := Zz.mk (Kd.R_mono (Kd.R_keptB (ok := fun k_ => ((some k_ ≠ (.slice Ao53 t106.length co53 : Value).ownBlock ∧ nan51 ≤ k_) ∧ k_ < nan56)) (KR_ HO116.out) hkp (fun k_ hk_ hs_ => absurd hk_.1.2 (Nat.not_le.2 hs_.1.1.1.2.2.2.2))) (fun k_ hk_ => hk_.1)); replace HO121 := Zz.mk (Kd.S_mono (Kd.S_keptB (ok := fun k_ => (((((True ∧ some k_ ≠ (.slice Ao40 t103.length co40 : Value).ownBlock) ∧ some k_ ≠ (.slice Ao53 t106.length co53 : Value).ownBlock) ∧ some k_ ≠ (.slice Ao47 t110.length co47 : Value).ownBlock) ∧ some k_ ≠ (.slice Ao52 t114.length co52 : Value).ownBlock) ∧ nan56 ≤ k_)) (KS_ HO121.out) hkp (fun k_ hk_ hs_ => absurd hk_.2 (Nat.not_le.2 hs_.1.2))) (fun k_ hk_ => hk_.1)); replace HB := Zz.mk (hb); (try clear hb hkp hy0)) | (go_at_call 8; (with_reducible refine (z8.calls k _ _ t114 _ _ t106 true _ ?side1 ?side2 ?side3 ?side4 A20.out).mono ?_); (case side1 => exact KC_ (Kd.R_reads' HO116.out).2.2); (case side2 => exact (Kd.R_reads' HO116.out).2.1); (case side3 => exact KC_ (Kd.R_reads' HO108.out).2.2); (case side4 => exact (Kd.R_reads' HO108.out).2.1); rintro e w' ⟨rfl, ⟨nd, rfl⟩⟩) | ((with_reducible refine gC_ (f := 11) rfl ?_); refine GL_ (some 68) rfl rfl Try.func11 #[.slice Ao52 t114.length co52, .int .i64 1] rfl (h := ?_); (with_reducible refine (z11.calls k (fun k_ => some k_ = (.slice Ao52 t114.length co52 : Value).ownBlock) (.slice Ao52 t114.length co52) t114 1 t126 t127 w _ ?side1 ?side2 A22.out).mono ?_); (case side1 => repeat (first | (with_reducible first | exact HB.out | apply qAx | apply qAt | apply qAq | refine qAz ?_ GE101.out | refine qAz ?_ GE113.out) | exact HB.out)); (case side2 => exact Kd.R_tight rfl HO116.out); rintro e w61 ⟨rfl, hy0, hb, hkp⟩; refine ⟨_, rfl, ?_⟩; replace BK101 := Zz.mk (qDw (KB_ BK101.out) hkp (fun hs_ => (fun e_ => (Kd.R_ne HO116.out BK101.out (by decide)) e_) hs_)); replace HO105 := Zz.mk (Kd.S_mono (ok' := fun k_ => some k_ ≠ (.slice Ao53 t106.length co53 : Value).ownBlock ∧ some k_ ≠ (.slice Ao47 t110.length co47 : Value).ownBlock ∧ some k_ ≠ (.slice Ao52 t114.length co52 : Value).ownBlock ∧ some k_ ≠ (.slice Ao57 t119.length co57 : Value).ownBlock) (Kd.S_keptB (HO105.out) hkp (fun k_ hk_ hs_ => (hk_.1.1.2.2.1) hs_)) (fun k_ hk_ => ⟨hk_.1.1.1.1, hk_.1.1.1.2.1, hk_.1.1.1.2.2.1, hk_.1.1.2⟩)); replace HO108 := Zz.mk (Kd.R_mono (ok' := fun k_ => some k_ ≠ (.slice Ao52 t114.length co52 : Value).ownBlock) (Kd.R_keptB (HO108.out) hkp (fun k_ hk_ hs_ => (hk_.1.1) hs_)) (fun k_ hk_ => hk_.1.1.1)); replace HO112 := Zz.mk (Kd.S_mono (ok' := fun k_ => some k_ ≠ (.slice Ao40 t103.length co40 : Value).ownBlock ∧ some k_ ≠ (.slice Ao53 t106.length co53 : Value).ownBlock ∧ some k_ ≠ (.slice Ao52 t114.length co52 : Value).ownBlock ∧ some k_ ≠ (.slice Ao57 t119.length co57 : Value).ownBlock) (Kd.S_keptB (HO112.out) hkp (fun k_ hk_ hs_ => (hk_.1.1.2.2.1) hs_)) (fun k_ hk_ => ⟨hk_.1.1.1.1, hk_.1.1.1.2.1, hk_.1.1.1.2.2.1, hk_.1.1.2⟩)); replace BK113 := Zz.mk (qDw (KB_ BK113.out) hkp (fun hs_ => (fun e_ => (Kd.R_ne HO116.out BK113.out (by decide)) e_) hs_)); replace HO116 := Zz.mk (Kd.R_reok rfl hy0 (fun k_ e_ => HO116.out.1 k_ e_)); replace HO121 := Zz.mk (Kd.S_mono (ok' := fun k_ => some k_ ≠ (.slice Ao40 t103.length co40 : Value).ownBlock ∧ some k_ ≠ (.slice Ao53 t106.length co53 : Value).ownBlock ∧ some k_ ≠ (.slice Ao47 t110.length co47 : Value).ownBlock ∧ some k_ ≠ (.slice Ao52 t114.length co52 : Value).ownBlock) (Kd.S_keptB (HO121.out) hkp (fun k_ hk_ hs_ => (hk_.1.2) hs_)) (fun k_ hk_ => ⟨hk_.1.1.1.1.1.2, hk_.1.1.1.1.2, hk_.1.1.1.2, hk_.1.1.2⟩)); replace HB := Zz.mk (hb); (try clear hb); (try clear hkp); (try clear hy0)) | ((with_reducible refine gC_ (f := 12) rfl ?_); refine qJc (some 71) rfl rfl Try.func12 (by kernel_rfl) rfl #[.slice Ao52 t127.length co52, .int .i64 1] rfl (by (try simp only [List.map_toArray, List.map_cons, List.map_nil]); first | done | (rw [show t127.length = t114.length from (Kd.R_reads' HO116.out).1.symm] <;> rfl) | rfl | (simp only [List.length_drop, List.length_take]; rfl)) ?_; (with_reducible refine (z12.calls k _ _ t127 1 t128 _ ?side1 ?side2 A23.out).mono ?_); (case side1 => exact KC_ (Kd.R_reads' HO116.out).2.2); (case side2 => rw [show t127.length = t114.length from (Kd.R_reads' HO116.out).1.symm]; exact (Kd.R_reads' HO116.out).2.1); rintro e w' ⟨rfl, ⟨nd, rfl⟩⟩; refine ⟨_, rfl, ?_⟩; obtain ⟨hcz62_0, hfz62_0⟩ := Z1f_ BK101.out) | ((with_reducible refine gC_ (f := 6) rfl ?_); refine GL_ (some 79) rfl rfl Try.func6 #[.agg #[.slice A0_0 l0_0.length c0_0]] rfl (h := ?_); (with_reducible refine (z6.calls k _ _ l0_0 t129 _ ?side1 ?side2 A26.out).mono ?_); (case side1 => repeat (first | exact (Kd.C_below HR0_0.out (B2_ HB.out GE101.out GE113.out)) | (with_reducible refine Kd.C_alloc ?_ _) | (with_reducible refine Kd.C_drewN ?_ _) | (with_reducible refine Kd.C_drew ?_))); (case side2 => exact HC0_0.out); rintro e w63 ⟨v130, rfl, ho0, hb⟩; refine ⟨_, rfl, ?_⟩; obtain ⟨nan64, hnan64⟩ := Kd.size_letter hb; have HO131 := Zz.mk (Kd.S_lower (Kd.S_geN (Kd.S_new' (Kd.S_new' (Kd.S_new' (Kd.S_new' (Kd.S_new' ho0 (Kd.S_lt (KS_ HO105.out))) (Kd.R_lt (KR_ HO108.out))) (Kd.S_lt (KS_ HO112.out))) (Kd.R_lt (KR_ HO116.out))) (Kd.S_lt (KS_ HO121.out))) hnan64) (bS_ (B2_ HB.out GE101.out GE113.out))); replace HO105 := Zz.mk (tl_ HO105.out hb hnan64 ho0); replace HO108 := Zz.mk (Kd.R_oldN (KR_ HO108.out) hb hnan64); replace HO112 := Zz.mk (tl_ HO112.out hb hnan64 ho0); replace HO116 := Zz.mk (Kd.R_oldN (KR_ HO116.out) hb hnan64); replace HO121 := Zz.mk (tl_ HO121.out hb hnan64 ho0); replace BK101 := Zz.mk (kb_ BK101.out hb); replace BK113 := Zz.mk (kb_ BK113.out hb); replace HB := Zz.mk (bT_ (B2_ HB.out GE101.out GE113.out) hb); (try clear hb); (try clear ho0); obtain ⟨Ao65, co65, eo65⟩ := Kd.S_slice HO131.out; subst eo65) | ((with_reducible refine gC_ (f := 7) rfl ?_); refine GL_ (some 81) rfl rfl Try.func7 #[.agg #[.slice Ao65 t129.length co65], .int .i64 a1] rfl (h := ?_); (with_reducible refine (z7.calls k _ _ t129 a1 t132 t135 _ ?side1 ?side2 A27.out).mono ?_); (case side1 => exact KC_ (Kd.S_reads' HO131.out).2.2); (case side2 => exact (Kd.S_reads' HO131.out).2.1); rintro e w66 ⟨v133, rfl, ho0, hb⟩; refine ⟨_, rfl, ?_⟩; obtain ⟨nan67, hnan67⟩ := Kd.size_letter hb; have HO134 := Zz.mk (Kd.R_lower (Kd.R_geN (Kd.R_new' (Kd.R_new' ho0 (Kd.R_lt (KR_ HO108.out))) (Kd.R_lt (KR_ HO116.out))) hnan67) (bS_ (B2_ HB.out GE101.out GE113.out))); replace HO105 := Zz.mk (Kd.S_told (Kd.S_oldN (KS_ HO105.out) hb hnan67) (Kd.R_baseN ho0 hnan67)); replace HO108 := Zz.mk (Kd.R_told (Kd.R_oldN (KR_ HO108.out) hb hnan67) (Kd.R_baseN ho0 hnan67)); replace HO112 := Zz.mk (Kd.S_told (Kd.S_oldN (KS_ HO112.out) hb hnan67) (Kd.R_baseN ho0 hnan67)); replace HO116 := Zz.mk (Kd.R_told (Kd.R_oldN (KR_ HO116.out) hb hnan67) (Kd.R_baseN ho0 hnan67)); replace HO121 := Zz.mk (Kd.S_told (Kd.S_oldN (KS_ HO121.out) hb hnan67) (Kd.R_baseN ho0 hnan67)); replace HO131 := Zz.mk (Kd.S_told (Kd.S_oldN (KS_ HO131.out) hb hnan67) (Kd.R_baseN ho0 hnan67)); replace BK101 := Zz.mk (kb_ BK101.out hb); replace BK113 := Zz.mk (kb_ BK113.out hb); replace HB := Zz.mk (bT_ (B2_ HB.out GE101.out GE113.out) hb); (try clear hb); (try clear ho0); obtain ⟨Ao68, co68, eo68⟩ := Kd.R_slice HO134.out; subst eo68) | ((with_reducible refine gC_ (f := 8) rfl ?_); refine GL_ (some 86) rfl rfl Try.func8 #[.slice Ao68 t132.length co68, .slice Ao53 t106.length co53] rfl (h := ?_); (with_reducible refine (z8.calls k _ _ t132 _ _ t106 true _ ?side1 ?side2 ?side3 ?side4 A28.out).mono ?_); (case side1 => exact KC_ (Kd.R_reads' HO134.out).2.2); (case side2 => exact (Kd.R_reads' HO134.out).2.1); (case side3 => exact KC_ (Kd.R_reads' HO108.out).2.2); (case side4 => exact (Kd.R_reads' HO108.out).2.1); rintro e w' ⟨rfl, ⟨nd, rfl⟩⟩; refine ⟨_, rfl, ?_⟩) | ((with_reducible refine gC_ (f := 12) rfl ?_); refine qJc (some 95) rfl rfl Try.func12 (by kernel_rfl) rfl #[.slice Ao52 t127.length co52, .int .i64 1] rfl (by (try simp only [List.map_toArray, List.map_cons, List.map_nil]); first | done | (rw [show t127.length = t114.length from (Kd.R_reads' HO116.out).1.symm] <;> rfl) | rfl | (simp only [List.length_drop, List.length_take]; rfl)) ?_; (with_reducible refine (z12.calls k _ _ t127 1 t137 _ ?side1 ?side2 A31.out).mono ?_); (case side1 => exact KC_ (Kd.R_reads' HO116.out).2.2); (case side2 => rw [show t127.length = t114.length from (Kd.R_reads' HO116.out).1.symm]; exact (Kd.R_reads' HO116.out).2.1); rintro e w' ⟨rfl, ⟨nd, rfl⟩⟩; refine ⟨_, rfl, ?_⟩))
         go_ret
         exact ⟨F_, B2_ HB.out GE101.out GE113.out⟩
        rw [if_neg c33] at H
        have c33b0 : (t137 == t126) = false := beq_eq_false_iff_ne.mpr c33
        have c33b1 : (t137 != t126) = true := bne_iff_ne.mpr c33
        exact absurd (H.trans (congrArg some ht_)) (by simp)
       rw [if_neg c30] at H
       have c30b0 : (t135 == t109) = false := beq_eq_false_iff_ne.mpr c30
       have c30b1 : (t135 != t109) = true := bne_iff_ne.mpr c30
       exact absurd (H.trans (congrArg some ht_)) (by simp)
      replace c29 := Bool.eq_false_iff.mpr c29
      subst c29
      replace H := N_ H
      exact absurd (H.trans (congrArg some ht_)) (by simp)
     rw [if_neg c25] at H
     have c25b0 : (t128 == t126) = false := beq_eq_false_iff_ne.mpr c25
     have c25b1 : (t128 != t126) = true := bne_iff_ne.mpr c25
     exact absurd (H.trans (congrArg some ht_)) (by simp)
    replace c21 := Bool.eq_false_iff.mpr c21
    subst c21
    replace H := N_ H
    exact absurd (H.trans (congrArg some ht_)) (by simp)
   replace c17 := Bool.eq_false_iff.mpr c17
   subst c17
   replace H := N_ H
   exact absurd (H.trans (congrArg some ht_)) (by simp)
  rw [if_neg c14] at H
  have c14b0 : (t117 == t109) = false := beq_eq_false_iff_ne.mpr c14
  have c14b1 : (t117 != t109) = true := bne_iff_ne.mpr c14
  exact absurd (H.trans (congrArg some ht_)) (by simp)
 replace c13 := Bool.eq_false_iff.mpr c13
 subst c13
 replace H := N_ H
 exact absurd (H.trans (congrArg some ht_)) (by simp)
end Go.Proofs.Ytpgjfppbbbnclaa.B
