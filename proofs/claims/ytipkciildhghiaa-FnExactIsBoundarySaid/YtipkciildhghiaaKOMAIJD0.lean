/- Printed proofs of functions of the program and of the reference, by a program of this work over the kit's printer. -/
import Derived.Test.YtipkciildhghiaaKHGNPLP0
import Derived.Test.YtipkciildhghiaaKJFLOLG0
import Derived.Test.YtipkciildhghiaaKW0
namespace Go.Proofs.Ytipkciildhghiaa.B
open Go.RowKit Go.Proofs.YtipkciildhghiaaW.PrintWords Go.Proofs.YtipkciildhghiaaW.PrintLast Go.Proofs.YtipkciildhghiaaW.PrintMore
attribute [local go_sem] max2_int min2_int max_two min_two max_three min_three max_four min_four
set_option linter.unusedVariables false
set_option linter.unusedSimpArgs false
def z13.f (k : Nat) (l0_0 : List (List Int)) (a1 : Int) (a2 : Int) (l3 : List Int) : Option (Bool) := if (l3.length : Int) > 1048576 then (some true) else ((z15.f k l0_0 1048576).bind fun t102 => (if t102 < 0 then (some true) else ((z17.f k l0_0).bind fun t103 => ((z38.f k l3).bind fun t106 => ((z52.f k t103 a1 a2 t106).bind fun t109 => ((z17.f k l0_0).bind fun t110 => ((z38.f k l3).bind fun t114 => ((z53.f k t110 a1 a2 t114).bind fun t117 => (if (t117 != t109) = true then (some false) else ((z17.f k l0_0).bind fun t118 => ((z20.f k t110 t118).bind fun t121 => (if t121 = true then ((z38.f k l3).bind fun t122 => ((z19.f k t114 t122).bind fun t125 => (if t125 = true then (some true) else (some false)))) else (some false)))))))))))))
set_option maxHeartbeats 8000000 in
set_option maxRecDepth 100000 in
theorem z13.calls (k : Nat) (A0_0 : Option Addr) (c0_0 : Nat) (l0_0 : List (List Int)) (a1 : Int) (a2 : Int) (A3 : Option Addr) (c3 : Nat) (l3 : List Int) (r : Bool) (w : World) (hr0_0 : Kd.C (Kd.slice 2 (Kd.int .i64)) w A0_0 l0_0.length l0_0) (hc0_0 : l0_0.length ≤ c0_0) (hr3 : Kd.C (Kd.int .i64) w A3 l3.length l3) (hc3 : l3.length ≤ c3) (h : z13.f k l0_0 a1 a2 l3 = some r) (ht_ : r = true) :
  Calls Try.prog 13 #[.agg #[.slice A0_0 l0_0.length c0_0], .int .i64 a1, .int .i64 a2, .slice A3 l3.length c3] w fun e w' => e = .returned (.bool r) ∧ Below w.heap.size w w' := by
 have hu24 := Try.underlying24
 have hu29 := Try.underlying29
 have HR0_0 := Zz.mk hr0_0
 have HC0_0 := Zz.mk hc0_0
 clear hr0_0 hc0_0
 have HR3 := Zz.mk hr3
 have HC3 := Zz.mk hc3
 clear hr3 hc3
 have HB := Zz.mk (Below.refl w.heap.size w)
 have H : (if (l3.length : Int) > 1048576 then (some true) else ((z15.f k l0_0 1048576).bind fun t102 => (if t102 < 0 then (some true) else ((z17.f k l0_0).bind fun t103 => ((z38.f k l3).bind fun t106 => ((z52.f k t103 a1 a2 t106).bind fun t109 => ((z17.f k l0_0).bind fun t110 => ((z38.f k l3).bind fun t114 => ((z53.f k t110 a1 a2 t114).bind fun t117 => (if (t117 != t109) = true then (some false) else ((z17.f k l0_0).bind fun t118 => ((z20.f k t110 t118).bind fun t121 => (if t121 = true then ((z38.f k l3).bind fun t122 => ((z19.f k t114 t122).bind fun t125 => (if t125 = true then (some true) else (some false)))) else (some false)))))))))))))) = some r := h
 clear h
 by_cases c5 : (l3.length : Int) > 1048576
 ·rw [if_pos c5] at H
  have c5b0 : decide (1048576 < (l3.length : Int)) = true := decide_eq_true c5
  have c5b1 : decide (1048576 < l3.length) = true := decide_eq_true (by omega)
  clear c5
  obtain rfl := OI_ H
  go_enter Try.func13, Try.ntmps13
  go_wp2_with (first | ((with_reducible refine gate_dst (N := 4) rfl ?_); refine box_event ?hg (N := 4) ?hd (cs := #[.slice A0_0 l0_0.length c0_0]) (t := 24) ?hr ?_; (case hd => rfl); (case hg => rfl); (case hr => first | (go_simp; done) | (go_simp; rfl)); intro gb101 hg w6 hbox hb; have BK101 := Zz.mk (hbox); have GW101 := Zz.mk ((by rw [hg]; exact (bS_ (B_ HB.out)) : w.heap.size ≤ gb101)); have GE101 := GW101; replace HB := Zz.mk (bT_ (B_ HB.out) hb); clear hb hbox hg))
  go_ret
  exact ⟨F_, B1_ HB.out GE101.out⟩
 rw [if_neg c5] at H
 have c5b0 : decide (1048576 < (l3.length : Int)) = false := decide_eq_false c5
 have c5b1 : decide (1048576 < l3.length) = false := decide_eq_false (by omega)
 clear c5
 replace H := OZ_ H
 obtain ⟨t102, A7, H⟩ := H
 by_cases c8 : t102 < 0
 ·rw [if_pos c8] at H
  have c8b0 : decide (t102 < 0) = true := decide_eq_true c8
  clear c8
  obtain rfl := OI_ H
  go_enter Try.func13, Try.ntmps13
  go_wp2_with (first | ((with_reducible refine gate_dst (N := 4) rfl ?_); refine box_event ?hg (N := 4) ?hd (cs := #[.slice A0_0 l0_0.length c0_0]) (t := 24) ?hr ?_; (case hd => rfl); (case hg => rfl); (case hr => first | (go_simp; done) | (go_simp; rfl)); intro gb101 hg w9 hbox hb; have BK101 := Zz.mk (hbox); have GW101 := Zz.mk ((by rw [hg]; exact (bS_ (B_ HB.out)) : w.heap.size ≤ gb101)); have GE101 := GW101; replace HB := Zz.mk (bT_ (B_ HB.out) hb); clear hb hbox hg; obtain ⟨hcz10_0, hfz10_0⟩ := Z1f_ BK101.out) | ((with_reducible refine gC_ (f := 15) rfl ?_); refine GL_ (some 19) rfl rfl Try.func15 #[.agg #[.slice A0_0 l0_0.length c0_0], .int .i64 1048576] rfl (h := ?_); (with_reducible refine (z15.calls k _ _ l0_0 1048576 t102 _ ?side1 ?side2 A7.out).mono ?_); (case side1 => exact KC_ (Kd.C_below HR0_0.out HB.out)); (case side2 => exact HC0_0.out); rintro e w11 ⟨rfl, hb⟩; refine ⟨_, rfl, ?_⟩; replace BK101 := Zz.mk (bB_ (g := gb101) (o := .cells #[.slice A0_0 l0_0.length c0_0] 24 (0, 0)) (KB_ BK101.out) hb); replace HB := Zz.mk (bT_ (B1_ HB.out GE101.out) hb); (try clear hb); (try clear hb2); (try clear hk); (try clear hi)))
  go_ret
  exact ⟨F_, B1_ HB.out GE101.out⟩
 rw [if_neg c8] at H
 have c8b0 : decide (t102 < 0) = false := decide_eq_false c8
 clear c8
 replace H := OZ_ H
 obtain ⟨t103, A12, H⟩ := H
 replace H := OZ_ H
 obtain ⟨t106, A13, H⟩ := H
 replace H := OZ_ H
 obtain ⟨t109, A14, H⟩ := H
 replace H := OZ_ H
 obtain ⟨t110, A15, H⟩ := H
 replace H := OZ_ H
 obtain ⟨t114, A16, H⟩ := H
 replace H := OZ_ H
 obtain ⟨t117, A17, H⟩ := H
 by_cases c18 : (t117 != t109) = true
 ·rw [if_pos c18] at H
  have c18b0 : (t117 != t109) = true := c18
  (try (have c18b1 : decide (t117 = t109) = false := by simpa using c18))
  (try (have c18b2 : (t117 == t109) = false := by simpa using c18))
  (try (have c18b3 : ¬ (t117 = t109) := by simpa using c18))
  clear c18
  exact absurd (H.trans (congrArg some ht_)) (by simp)
 rw [if_neg c18] at H
 have c18b0 : (t117 != t109) = false := by simpa using c18
 (try (have c18b1 : decide (t117 = t109) = true := by simpa using c18))
 (try (have c18b2 : (t117 == t109) = true := by simpa using c18))
 clear c18
 replace H := OZ_ H
 obtain ⟨t118, A19, H⟩ := H
 replace H := OZ_ H
 obtain ⟨t121, A20, H⟩ := H
 by_cases c21 : t121 = true
 ·subst c21
  replace H := T_ H
  replace H := OZ_ H
  obtain ⟨t122, A22, H⟩ := H
  replace H := OZ_ H
  obtain ⟨t125, A23, H⟩ := H
  by_cases c24 : t125 = true
  ·subst c24
   replace H := T_ H
   obtain rfl := OI_ H
   go_enter Try.func13, Try.ntmps13
   try go_wp2_with (first | ((with_reducible refine gate_dst (N := 4) rfl ?_); refine box_event ?hg (N := 4) ?hd (cs := #[.slice A0_0 l0_0.length c0_0]) (t := 24) ?hr ?_; (case hd => rfl); (case hg => rfl); (case hr => first | (go_simp; done) | (go_simp; rfl)); intro gb101 hg w25 hbox hb; have BK101 := Zz.mk (hbox); have GW101 := Zz.mk ((by rw [hg]; exact (bS_ (B_ HB.out)) : w.heap.size ≤ gb101)); have GE101 := GW101; replace HB := Zz.mk (bT_ (B_ HB.out) hb); clear hb hbox hg; obtain ⟨hcz26_0, hfz26_0⟩ := Z1f_ BK101.out) | ((with_reducible refine gC_ (f := 15) rfl ?_); refine GL_ (some 19) rfl rfl Try.func15 #[.agg #[.slice A0_0 l0_0.length c0_0], .int .i64 1048576] rfl (h := ?_); (with_reducible refine (z15.calls k _ _ l0_0 1048576 t102 _ ?side1 ?side2 A7.out).mono ?_); (case side1 => exact KC_ (Kd.C_below HR0_0.out HB.out)); (case side2 => exact HC0_0.out); rintro e w27 ⟨rfl, hb⟩; refine ⟨_, rfl, ?_⟩; replace BK101 := Zz.mk (bB_ (g := gb101) (o := .cells #[.slice A0_0 l0_0.length c0_0] 24 (0, 0)) (KB_ BK101.out) hb); replace HB := Zz.mk (bT_ (B1_ HB.out GE101.out) hb); (try clear hb); (try clear hb2); (try clear hk); (try clear hi); obtain ⟨hcz28_0, hfz28_0⟩ := Z1f_ BK101.out) | ((with_reducible refine gC_ (f := 17) rfl ?_); refine GL_ (some 23) rfl rfl Try.func17 #[.agg #[.slice A0_0 l0_0.length c0_0]] rfl (h := ?_); (with_reducible refine (z17.calls k _ _ l0_0 t103 _ ?side1 ?side2 A12.out).mono ?_); (case side1 => exact KC_ (Kd.C_below HR0_0.out HB.out)); (case side2 => exact HC0_0.out); rintro e w29 ⟨v104, rfl, ho0, hb⟩; refine ⟨_, rfl, ?_⟩; obtain ⟨nan30, hnan30⟩ := Kd.size_letter hb; have HO105 := Zz.mk (Kd.S_lower (Kd.S_geN ho0 hnan30) (bS_ (B1_ HB.out GE101.out))); replace BK101 := Zz.mk (bB_ (g := gb101) (o := .cells #[.slice A0_0 l0_0.length c0_0] 24 (0, 0)) (KB_ BK101.out) hb); replace HB := Zz.mk (bT_ (B1_ HB.out GE101.out) hb); (try clear hb); (try clear hb2); (try clear hk); (try clear hi); (try clear ho0)) | ((with_reducible refine gC_ (f := 38) rfl ?_); refine GL_ (some 27) rfl rfl Try.func38 #[.slice A3 l3.length c3] rfl (h := ?_); (with_reducible refine (z38.calls k _ _ l3 t106 _ ?side1 ?side2 A13.out).mono ?_); (case side1 => exact KC_ (Kd.C_below HR3.out HB.out)); (case side2 => exact HC3.out); rintro e w31 ⟨v107, rfl, ho0, hb⟩; refine ⟨_, rfl, ?_⟩; obtain ⟨nan32, hnan32⟩ := Kd.size_letter hb; replace HO105 := Zz.mk (Kd.S_told (Kd.S_oldN (KS_ HO105.out) hb hnan32) (Kd.R_baseN ho0 hnan32)); have HO108 := Zz.mk (Kd.R_lower (Kd.R_geN ho0 hnan32) (bS_ (B1_ HB.out GE101.out))); replace BK101 := Zz.mk (bB_ (g := gb101) (o := .cells #[.slice A0_0 l0_0.length c0_0] 24 (0, 0)) (KB_ BK101.out) hb); replace HB := Zz.mk (bT_ (B1_ HB.out GE101.out) hb); (try clear hb); (try clear hb2); (try clear hk); (try clear hi); (try clear ho0); obtain ⟨Ao33, co33, eo33⟩ := Kd.S_slice HO105.out; subst eo33; obtain ⟨Ao34, co34, eo34⟩ := Kd.R_slice HO108.out; subst eo34) | ((with_reducible refine gC_ (f := 52) rfl ?_); refine GL_ (some 28) rfl rfl Try.func52 #[.agg #[.slice Ao33 t103.length co33], .int .i64 a1, .int .i64 a2, .slice Ao34 t106.length co34] rfl (h := ?_); (with_reducible refine (z52.calls k _ _ t103 a1 a2 _ _ t106 t109 _ ?side1 ?side2 ?side3 ?side4 A14.out).mono ?_); (case side1 => exact KC_ (Kd.S_reads' HO105.out).2.2); (case side2 => exact (Kd.S_reads' HO105.out).2.1); (case side3 => exact KC_ (Kd.R_reads' HO108.out).2.2); (case side4 => exact (Kd.R_reads' HO108.out).2.1); rintro e w35 ⟨rfl, hb⟩; refine ⟨_, rfl, ?_⟩; replace HO105 := Zz.mk (Kd.S_below (KS_ HO105.out) hb); replace HO108 := Zz.mk (Kd.R_below (KR_ HO108.out) hb); replace BK101 := Zz.mk (bB_ (g := gb101) (o := .cells #[.slice A0_0 l0_0.length c0_0] 24 (0, 0)) (KB_ BK101.out) hb); replace HB := Zz.mk (bT_ (B1_ HB.out GE101.out) hb); (try clear hb); (try clear hb2); (try clear hk); (try clear hi); obtain ⟨hcz36_0, hfz36_0⟩ := Z1f_ BK101.out) | ((with_reducible refine gC_ (f := 17) rfl ?_); refine GL_ (some 30) rfl rfl Try.func17 #[.agg #[.slice A0_0 l0_0.length c0_0]] rfl (h := ?_); (with_reducible refine (z17.calls k _ _ l0_0 t110 _ ?side1 ?side2 A15.out).mono ?_); (case side1 => exact KC_ (Kd.C_below HR0_0.out HB.out)); (case side2 => exact HC0_0.out); rintro e w37 ⟨v111, rfl, ho0, hb⟩; refine ⟨_, rfl, ?_⟩; obtain ⟨nan38, hnan38⟩ := Kd.size_letter hb; have HO112 := Zz.mk (Kd.S_lower (Kd.S_geN (Kd.S_new' (Kd.S_new' ho0 (Kd.S_lt (KS_ HO105.out))) (Kd.R_lt (KR_ HO108.out))) hnan38) (bS_ (B1_ HB.out GE101.out))); replace HO105 := Zz.mk (Kd.S_told (Kd.S_oldN (KS_ HO105.out) hb hnan38) (Kd.S_baseN ho0 hnan38)); replace HO108 := Zz.mk (Kd.R_oldN (KR_ HO108.out) hb hnan38); replace BK101 := Zz.mk (bB_ (g := gb101) (o := .cells #[.slice A0_0 l0_0.length c0_0] 24 (0, 0)) (KB_ BK101.out) hb); replace HB := Zz.mk (bT_ (B1_ HB.out GE101.out) hb); (try clear hb); (try clear hb2); (try clear hk); (try clear hi); (try clear ho0)) | ((with_reducible refine gate_dst (N := 11) rfl ?_); refine box_event ?hg (N := 11) ?hd (cs := #[.slice none 0 0]) (t := 29) ?hr ?_; (case hd => rfl); (case hg => rfl); (case hr => first | (go_simp; done) | (go_simp; rfl)); intro gb113 hg w39 hbox hb; have BK113 := Zz.mk (hbox); have GW113 := Zz.mk ((by rw [hg]; exact (bS_ (B1_ HB.out GE101.out)) : w.heap.size ≤ gb113)); have GE113 := GW113; have NB101_113 := Zz.mk ((by rw [hg]; exact Nat.ne_of_lt (blk_lt (g := gb101) (o := .cells #[.slice A0_0 l0_0.length c0_0] 24 (0, 0)) (KB_ BK101.out)) : gb101 ≠ gb113)); have NB113_101 := Zz.mk NB101_113.out.symm; replace HO105 := Zz.mk (Kd.S_below (KS_ HO105.out) hb); replace HO108 := Zz.mk (Kd.R_below (KR_ HO108.out) hb); replace HO112 := Zz.mk (Kd.S_below (KS_ HO112.out) hb); replace BK101 := Zz.mk (bB_ (g := gb101) (o := .cells #[.slice A0_0 l0_0.length c0_0] 24 (0, 0)) (KB_ BK101.out) hb); replace HB := Zz.mk (bT_ (B1_ HB.out GE101.out) hb); clear hb hbox hg; obtain ⟨Ao40, co40, eo40⟩ := Kd.S_slice HO112.out; subst eo40; have hnb41 := NB113_101.out; have hnc41 := NB101_113.out; obtain ⟨hcz42_0, hfz42_0⟩ := Z1f_ BK113.out) | ((with_reducible refine gC_ (f := 38) rfl ?_); refine GL_ (some 32) rfl rfl Try.func38 #[.slice A3 l3.length c3] rfl (h := ?_); (with_reducible refine (z38.calls k _ _ l3 t114 _ ?side1 ?side2 A16.out).mono ?_); (case side1 => exact Kd.C_below HR3.out (B2_ HB.out GE101.out GE113.out)); (case side2 => exact HC3.out); rintro e w43 ⟨v115, rfl, ho0, hb⟩; refine ⟨_, rfl, ?_⟩; obtain ⟨nan44, hnan44⟩ := Kd.size_letter hb; have HO116 := Zz.mk (Kd.R_lower (Kd.R_geN (Kd.R_new' ho0 (Kd.R_lt (by refine RW_ ?_; exact (Kd.R_mono (Kd.R_far (p := ⟨gb113, 0, none⟩) (Kd.R_types HO108.out BK113.out (by decide)) (fun _ hk => hk.2) (.slice Ao40 t110.length co40)) (fun _ h_ => h_.1))))) hnan44) (bS_ (B2_ HB.out GE101.out GE113.out))); replace HO105 := Zz.mk (Kd.S_told (Kd.S_oldN (by refine SW_ ?_; exact (Kd.S_mono (Kd.S_far (p := ⟨gb113, 0, none⟩) (Kd.S_types HO105.out BK113.out (by decide)) (fun _ hk => hk.2) (.slice Ao40 t110.length co40)) (fun _ h_ => h_.1))) hb hnan44) (Kd.R_baseN ho0 hnan44)); replace HO108 := Zz.mk (Kd.R_told (Kd.R_oldN (by refine RW_ ?_; exact (Kd.R_mono (Kd.R_far (p := ⟨gb113, 0, none⟩) (Kd.R_types HO108.out BK113.out (by decide)) (fun _ hk => hk.2) (.slice Ao40 t110.length co40)) (fun _ h_ => h_.1))) hb hnan44) (Kd.R_baseN ho0 hnan44)); replace HO112 := Zz.mk (Kd.S_told (Kd.S_oldN (by refine SW_ ?_; exact (Kd.S_mono (Kd.S_far (p := ⟨gb113, 0, none⟩) (Kd.S_types HO112.out BK113.out (by decide)) (fun _ hk => hk.2) (.slice Ao40 t110.length co40)) (fun _ h_ => h_.1))) hb hnan44) (Kd.R_baseN ho0 hnan44)); replace BK101 := Zz.mk (bB_ (g := gb101) (o := .cells #[.slice A0_0 l0_0.length c0_0] 24 (0, 0)) (by refine BW_ ?_; refine bR_ ?_ NB101_113.out _; refine BW_ ?_; exact BK101.out) hb); replace BK113 := Zz.mk (bB_ (g := gb113) (o := .cells #[.slice Ao40 t110.length co40] 29 (0, 0)) (by refine BW_ ?_; refine bP_ (cs := #[.slice none 0 0]) ?_ 0 _ rfl; refine BW_ ?_; exact BK113.out) hb); replace HB := Zz.mk (bT_ (B2_ HB.out GE101.out GE113.out) hb); (try clear hb); (try clear hb2); (try clear hk); (try clear hi); (try clear ho0); obtain ⟨hcz45_0, hfz45_0⟩ := Z1f_ BK113.out; obtain ⟨Ao46, co46, eo46⟩ := Kd.R_slice HO116.out; subst eo46) | ((with_reducible refine gC_ (f := 53) rfl ?_); refine GL_ (some 37) rfl rfl Try.func53 #[.agg #[.slice Ao40 t110.length co40], .int .i64 a1, .int .i64 a2, .slice Ao46 t114.length co46] rfl (h := ?_); (with_reducible refine (z53.calls k _ _ t110 a1 a2 _ _ t114 t117 _ ?side1 ?side2 ?side3 ?side4 A17.out).mono ?_); (case side1 => exact KC_ (Kd.S_reads' HO112.out).2.2); (case side2 => exact (Kd.S_reads' HO112.out).2.1); (case side3 => exact KC_ (Kd.R_reads' HO116.out).2.2); (case side4 => exact (Kd.R_reads' HO116.out).2.1); rintro e w47 ⟨rfl, hb⟩; refine ⟨_, rfl, ?_⟩; replace HO105 := Zz.mk (Kd.S_below (KS_ HO105.out) hb); replace HO108 := Zz.mk (Kd.R_below (KR_ HO108.out) hb); replace HO112 := Zz.mk (Kd.S_below (KS_ HO112.out) hb); replace HO116 := Zz.mk (Kd.R_below (KR_ HO116.out) hb); replace BK101 := Zz.mk (bB_ (g := gb101) (o := .cells #[.slice A0_0 l0_0.length c0_0] 24 (0, 0)) (KB_ BK101.out) hb); replace BK113 := Zz.mk (bB_ (g := gb113) (o := .cells #[.slice Ao40 t110.length co40] 29 (0, 0)) (KB_ BK113.out) hb); replace HB := Zz.mk (bT_ (B2_ HB.out GE101.out GE113.out) hb); (try clear hb); (try clear hb2); (try clear hk); (try clear hi)))
   replace HO105 := Zz.mk (Kd.S_drew HO105.out)
   replace HO108 := Zz.mk (Kd.R_drew HO108.out)
   replace HO112 := Zz.mk (Kd.S_drew HO112.out)
   replace HO116 := Zz.mk (Kd.R_drew HO116.out)
   replace BK101 := Zz.mk (bD_ BK101.out)
   replace BK113 := Zz.mk (bD_ BK113.out)
   replace HB := Zz.mk (below_drew1 HB.out)
   refine start_ (n := 5) (S := fun w' => w'.cell? ⟨gb113, 0, none⟩ = some (.slice Ao40 t110.length co40) ∧ w'.cell? ⟨gb101, 0, none⟩ = some (.slice A0_0 l0_0.length c0_0)) (ds := []) #[false, false, false, false, false] (by kernel_rfl) rfl rfl ⟨(bC_ BK113.out 0).trans rfl, (bC_ BK101.out 0).trans rfl⟩ (fun hHeld => ?_)
   generalize w47.drew = w48 at HO105 HO108 HO112 HO116 BK101 BK113 HB hHeld ⊢
   refine take_ (i := 0) (N := some 41) (v := ?_) (a' := ?_) #[true, false, false, false, false] rfl rfl (by kernel_rfl) (fun _ _ _ h => h) (Or.inl ⟨by rfl, ?_⟩) hHeld ?_ ?_
   rotate_left
   ·rintro w' ⟨s0, s1⟩
    go_simp
    with_reducible rfl
   rotate_left
   ·simp only [Act.put, List.setIfInBounds_toArray, List.set_cons_zero, List.set_cons_succ, i64_w, i32_w]
    rfl
   refine take_ (i := 1) (N := some 42) (v := ?_) (a' := ?_) #[true, true, false, false, false] rfl rfl (by kernel_rfl) (fun _ _ _ h => h) (Or.inl ⟨by rfl, ?_⟩) hHeld ?_ ?_
   rotate_left
   ·rintro w' ⟨s0, s1⟩
    go_simp
    with_reducible rfl
   rotate_left
   ·simp only [Act.put, List.setIfInBounds_toArray, List.set_cons_zero, List.set_cons_succ, i64_w, i32_w]
    rfl
   refine one_ (i := 2) (N := some 43) #[true, true, true, false, false] rfl rfl (by kernel_rfl) (by decide) (fun K hK => ?_)
   refine GO_ Try.func17 #[.agg #[.slice A0_0 l0_0.length c0_0]] (h := ?_)
   with_reducible refine (z17.calls k _ _ l0_0 t118 _ ?side1 ?side2 A19.out).mono ?_
   (case side1 => exact KC_ (Kd.C_below HR0_0.out HB.out))
   (case side2 => exact HC0_0.out)
   rintro e w49 ⟨v119, rfl, ho0, hb⟩
   refine ⟨_, rfl, ?_⟩
   obtain ⟨nan50, hnan50⟩ := Kd.size_letter hb
   have HO120 := Zz.mk (Kd.S_lower (Kd.S_geN (Kd.S_new' (Kd.S_new' (Kd.S_new' (Kd.S_new' ho0 (Kd.S_lt (KS_ HO105.out))) (Kd.R_lt (KR_ HO108.out))) (Kd.S_lt (KS_ HO112.out))) (Kd.R_lt (KR_ HO116.out))) hnan50) (bS_ (B2_ HB.out GE101.out GE113.out)))
   replace HO105 := Zz.mk (Kd.S_told (Kd.S_oldN (KS_ HO105.out) hb hnan50) (Kd.S_baseN ho0 hnan50))
   replace HO108 := Zz.mk (Kd.R_oldN (KR_ HO108.out) hb hnan50)
   replace HO112 := Zz.mk (Kd.S_told (Kd.S_oldN (KS_ HO112.out) hb hnan50) (Kd.S_baseN ho0 hnan50))
   replace HO116 := Zz.mk (Kd.R_oldN (KR_ HO116.out) hb hnan50)
   replace BK101 := Zz.mk (bB_ (g := gb101) (o := .cells #[.slice A0_0 l0_0.length c0_0] 24 (0, 0)) (KB_ BK101.out) hb)
   replace BK113 := Zz.mk (bB_ (g := gb113) (o := .cells #[.slice Ao40 t110.length co40] 29 (0, 0)) (KB_ BK113.out) hb)
   replace HB := Zz.mk (bT_ (B2_ HB.out GE101.out GE113.out) hb)
   (try clear hb);(try clear hb2);(try clear hk);(try clear hi);(try clear ho0)
   obtain ⟨Ao51, co51, eo51⟩ := Kd.S_slice HO120.out
   (first | subst eo51 | (injection eo51 with f1_ f2_ f3_; have f4_ := f1_.symm; have f5_ := f3_.symm; clear f1_ f2_ f3_; subst f4_; subst f5_))
   refine hK.out _ _ ⟨(bC_ BK113.out 0).trans rfl, (bC_ BK101.out 0).trans rfl⟩ (fun hHeld => ?_)
   clear hK K
   refine NM_ (N := (some 43)) (h := ?_)
   refine one_ (i := 3) (N := some 44) #[true, true, true, true, false] rfl rfl (by kernel_rfl) (by decide) (fun K hK => ?_)
   refine GO_ Try.func20 #[.agg #[.slice Ao40 t110.length co40], .agg #[.slice Ao51 t118.length co51]] (h := ?_)
   with_reducible refine (z20.calls k _ _ t110 _ _ t118 true _ ?side1 ?side2 ?side3 ?side4 A20.out).mono ?_
   (case side1 => exact KC_ (Kd.S_reads' HO112.out).2.2)
   (case side2 => exact (Kd.S_reads' HO112.out).2.1)
   (case side3 => exact KC_ (Kd.S_reads' HO120.out).2.2)
   (case side4 => exact (Kd.S_reads' HO120.out).2.1)
   rintro e w52 ⟨rfl, hb⟩
   refine ⟨_, rfl, ?_⟩
   replace HO105 := Zz.mk (Kd.S_below (KS_ HO105.out) hb)
   replace HO108 := Zz.mk (Kd.R_below (KR_ HO108.out) hb)
   replace HO112 := Zz.mk (Kd.S_below (KS_ HO112.out) hb)
   replace HO116 := Zz.mk (Kd.R_below (KR_ HO116.out) hb)
   replace HO120 := Zz.mk (Kd.S_below (KS_ HO120.out) hb)
   replace BK101 := Zz.mk (bB_ (g := gb101) (o := .cells #[.slice A0_0 l0_0.length c0_0] 24 (0, 0)) (KB_ BK101.out) hb)
   replace BK113 := Zz.mk (bB_ (g := gb113) (o := .cells #[.slice Ao40 t110.length co40] 29 (0, 0)) (KB_ BK113.out) hb)
   replace HB := Zz.mk (bT_ (B2_ HB.out GE101.out GE113.out) hb)
   (try clear hb);(try clear hb2);(try clear hk);(try clear hi)
   refine hK.out _ _ ⟨(bC_ BK113.out 0).trans rfl, (bC_ BK101.out 0).trans rfl⟩ (fun hHeld => ?_)
   clear hK K
   refine NM_ (N := (some 44)) (h := ?_)
   refine pure_ (i := 4) (N := some 45) (v := ?_) (a' := ?_) #[true, true, true, true, true] rfl rfl (by kernel_rfl) (fun _ _ _ h => h) (Or.inl ⟨by rfl, ?_⟩) ?_ ?_
   rotate_left
   ·intro w'
    go_simp
    with_reducible rfl
   rotate_left
   ·simp only [Act.put, List.setIfInBounds_toArray, List.set_cons_zero, List.set_cons_succ, i64_w, i32_w]
    rfl
   refine done_ (by kernel_rfl) ?_
   try go_wp2_with (first | ((with_reducible refine gC_ (f := 38) rfl ?_); refine GL_ (some 48) rfl rfl Try.func38 #[.slice A3 l3.length c3] rfl (h := ?_); (with_reducible refine (z38.calls k _ _ l3 t122 _ ?side1 ?side2 A22.out).mono ?_); (case side1 => exact KC_ (Kd.C_below HR3.out HB.out)); (case side2 => exact HC3.out); rintro e w53 ⟨v123, rfl, ho0, hb⟩; refine ⟨_, rfl, ?_⟩; obtain ⟨nan54, hnan54⟩ := Kd.size_letter hb; have HO124 := Zz.mk (Kd.R_lower (Kd.R_geN (Kd.R_new' (Kd.R_new' ho0 (Kd.R_lt (KR_ HO108.out))) (Kd.R_lt (KR_ HO116.out))) hnan54) (bS_ (B2_ HB.out GE101.out GE113.out))); replace HO105 := Zz.mk (Kd.S_told (Kd.S_oldN (KS_ HO105.out) hb hnan54) (Kd.R_baseN ho0 hnan54)); replace HO108 := Zz.mk (Kd.R_told (Kd.R_oldN (KR_ HO108.out) hb hnan54) (Kd.R_baseN ho0 hnan54)); replace HO112 := Zz.mk (Kd.S_told (Kd.S_oldN (KS_ HO112.out) hb hnan54) (Kd.R_baseN ho0 hnan54)); replace HO116 := Zz.mk (Kd.R_told (Kd.R_oldN (KR_ HO116.out) hb hnan54) (Kd.R_baseN ho0 hnan54)); replace HO120 := Zz.mk (Kd.S_told (Kd.S_oldN (KS_ HO120.out) hb hnan54) (Kd.R_baseN ho0 hnan54)); replace BK101 := Zz.mk (bB_ (g := gb101) (o := .cells #[.slice A0_0 l0_0.length c0_0] 24 (0, 0)) (KB_ BK101.out) hb); replace BK113 := Zz.mk (bB_ (g := gb113) (o := .cells #[.slice Ao40 t110.length co40] 29 (0, 0)) (KB_ BK113.out) hb); replace HB := Zz.mk (bT_ (B2_ HB.out GE101.out GE113.out) hb); (try clear hb); (try clear hb2); (try clear hk); (try clear hi); (try clear ho0); obtain ⟨Ao55, co55, eo55⟩ := Kd.R_slice HO124.out; subst eo55) | ((with_reducible refine gC_ (f := 19) rfl ?_); refine GL_ (some 49) rfl rfl Try.func19 #[.slice Ao46 t114.length co46, .slice Ao55 t122.length co55] rfl (h := ?_); (with_reducible refine (z19.calls k _ _ t114 _ _ t122 true _ ?side1 ?side2 ?side3 ?side4 A23.out).mono ?_); (case side1 => exact KC_ (Kd.R_reads' HO116.out).2.2); (case side2 => exact (Kd.R_reads' HO116.out).2.1); (case side3 => exact KC_ (Kd.R_reads' HO124.out).2.2); (case side4 => exact (Kd.R_reads' HO124.out).2.1); rintro e w' ⟨rfl, ⟨nd, rfl⟩⟩; refine ⟨_, rfl, ?_⟩))
   go_ret
   exact ⟨F_, B2_ HB.out GE101.out GE113.out⟩
  replace c24 := Bool.eq_false_iff.mpr c24
  subst c24
  replace H := N_ H
  exact absurd (H.trans (congrArg some ht_)) (by simp)
 replace c21 := Bool.eq_false_iff.mpr c21
 subst c21
 replace H := N_ H
 exact absurd (H.trans (congrArg some ht_)) (by simp)
end Go.Proofs.Ytipkciildhghiaa.B
