/- Printed proofs of functions of the program and of the reference, by a program of this work over the kit's printer. -/
import Derived.Test.YtgdfkcipffjjcaaKFCAEAO0
import Derived.Test.YtgdfkcipffjjcaaKFCAEAO1
import Derived.Test.YtgdfkcipffjjcaaKLEMDPK0
import Derived.Test.YtgdfkcipffjjcaaKPCBIID0
import Derived.Test.YtgdfkcipffjjcaaKW0
namespace Go.Proofs.Ytgdfkcipffjjcaa.B
open Go.RowKit Go.Proofs.YtgdfkcipffjjcaaW.PrintWords Go.Proofs.YtgdfkcipffjjcaaW.PrintLast Go.Proofs.YtgdfkcipffjjcaaW.PrintMore
attribute [local go_sem] qAh qAf qAl qAk qAc qAb qAg qAe
set_option linter.unusedVariables false
set_option linter.unusedSimpArgs false
def z3.f (k : Nat) (l0_0 : List (List Int)) (a1 : Int) (a2 : Int) (l3 : List Int) (l4 : List Int) : Option (Bool) := if (l3.length : Int) > 1048576 then (some true) else (if (l4.length : Int) > 1048576 then (some true) else ((z4.f k l0_0 1048576).bind fun t102 => (if t102 < 0 then (some true) else ((z6.f k l0_0).bind fun t103 => ((z7.f k l3).bind fun t106 => ((z7.f k l4).bind fun t109 => ((z5.f k t103 a1 a2 t106 t109).bind fun t112 => ((z6.f k l0_0).bind fun t113 => ((z7.f k l3).bind fun t117 => ((z7.f k l4).bind fun t120 => ((z8.f k t113 a1 a2 t117 t120).bind fun t123 => (if (t123 != t112) = true then (some false) else ((z6.f k l0_0).bind fun t124 => ((z9.f k t113 t124).bind fun t127 => (if t127 = true then ((z7.f k l3).bind fun t128 => ((z10.f k t117 t128).bind fun t131 => (if t131 = true then ((z7.f k l4).bind fun t132 => ((z10.f k t120 t132).bind fun t135 => (if t135 = true then (some true) else (some false)))) else (some false)))) else (some false))))))))))))))))
set_option maxHeartbeats 8000000 in
set_option maxRecDepth 100000 in
theorem z3.calls (k : Nat) (A0_0 : Option Addr) (c0_0 : Nat) (l0_0 : List (List Int)) (a1 : Int) (a2 : Int) (A3 : Option Addr) (c3 : Nat) (l3 : List Int) (A4 : Option Addr) (c4 : Nat) (l4 : List Int) (r : Bool) (w : World) (hr0_0 : Kd.C (Kd.slice 2 (Kd.int .i64)) w A0_0 l0_0.length l0_0) (hc0_0 : l0_0.length ≤ c0_0) (hr3 : Kd.C (Kd.int .i64) w A3 l3.length l3) (hc3 : l3.length ≤ c3) (hr4 : Kd.C (Kd.int .i64) w A4 l4.length l4) (hc4 : l4.length ≤ c4) (h : z3.f k l0_0 a1 a2 l3 l4 = some r) (ht_ : r = true) :
  Calls Try.prog 3 #[.agg #[.slice A0_0 l0_0.length c0_0], .int .i64 a1, .int .i64 a2, .slice A3 l3.length c3, .slice A4 l4.length c4] w fun e w' => e = .returned (.bool r) ∧ Below w.heap.size w w' := by
 have hu24 := Try.underlying24
 have hu28 := Try.underlying28
 have HR0_0 := Zz.mk hr0_0
 have HC0_0 := Zz.mk hc0_0
 clear hr0_0 hc0_0
 have HR3 := Zz.mk hr3
 have HC3 := Zz.mk hc3
 clear hr3 hc3
 have HR4 := Zz.mk hr4
 have HC4 := Zz.mk hc4
 clear hr4 hc4
 have HB := Zz.mk (Below.refl w.heap.size w)
 have H : (if (l3.length : Int) > 1048576 then (some true) else (if (l4.length : Int) > 1048576 then (some true) else ((z4.f k l0_0 1048576).bind fun t102 => (if t102 < 0 then (some true) else ((z6.f k l0_0).bind fun t103 => ((z7.f k l3).bind fun t106 => ((z7.f k l4).bind fun t109 => ((z5.f k t103 a1 a2 t106 t109).bind fun t112 => ((z6.f k l0_0).bind fun t113 => ((z7.f k l3).bind fun t117 => ((z7.f k l4).bind fun t120 => ((z8.f k t113 a1 a2 t117 t120).bind fun t123 => (if (t123 != t112) = true then (some false) else ((z6.f k l0_0).bind fun t124 => ((z9.f k t113 t124).bind fun t127 => (if t127 = true then ((z7.f k l3).bind fun t128 => ((z10.f k t117 t128).bind fun t131 => (if t131 = true then ((z7.f k l4).bind fun t132 => ((z10.f k t120 t132).bind fun t135 => (if t135 = true then (some true) else (some false)))) else (some false)))) else (some false))))))))))))))))) = some r := h
 clear h
 by_cases c6 : (l3.length : Int) > 1048576
 ·rw [if_pos c6] at H
  have c6b0 : decide (1048576 < (l3.length : Int)) = true := decide_eq_true c6
  have c6b1 : decide (1048576 < l3.length) = true := decide_eq_true (by omega)
  clear c6
  obtain rfl := OI_ H
  go_enter Try.func3, Try.ntmps3
  go_wp2_with (first | ((with_reducible refine qAm (N := 5) rfl ?_); refine qAo ?hg (N := 5) ?hd (cs := #[.slice A0_0 l0_0.length c0_0]) (t := 24) ?hr ?_; (case hd => rfl); (case hg => rfl); (case hr => first | (go_simp; done) | (go_simp; rfl)); intro gb101 hg w7 hbox hb; have BK101 := Zz.mk (hbox); have GW101 := Zz.mk ((by rw [hg]; exact (bS_ (B_ HB.out)) : w.heap.size ≤ gb101)); have GE101 := GW101; replace HB := Zz.mk (bT_ (B_ HB.out) hb); clear hb hbox hg))
  go_ret
  exact ⟨F_, B1_ HB.out GE101.out⟩
 rw [if_neg c6] at H
 have c6b0 : decide (1048576 < (l3.length : Int)) = false := decide_eq_false c6
 have c6b1 : decide (1048576 < l3.length) = false := decide_eq_false (by omega)
 clear c6
 by_cases c8 : (l4.length : Int) > 1048576
 ·rw [if_pos c8] at H
  have c8b0 : decide (1048576 < (l4.length : Int)) = true := decide_eq_true c8
  have c8b1 : decide (1048576 < l4.length) = true := decide_eq_true (by omega)
  clear c8
  obtain rfl := OI_ H
  go_enter Try.func3, Try.ntmps3
  go_wp2_with (first | ((with_reducible refine qAm (N := 5) rfl ?_); refine qAo ?hg (N := 5) ?hd (cs := #[.slice A0_0 l0_0.length c0_0]) (t := 24) ?hr ?_; (case hd => rfl); (case hg => rfl); (case hr => first | (go_simp; done) | (go_simp; rfl)); intro gb101 hg w9 hbox hb; have BK101 := Zz.mk (hbox); have GW101 := Zz.mk ((by rw [hg]; exact (bS_ (B_ HB.out)) : w.heap.size ≤ gb101)); have GE101 := GW101; replace HB := Zz.mk (bT_ (B_ HB.out) hb); clear hb hbox hg))
  go_ret
  exact ⟨F_, B1_ HB.out GE101.out⟩
 rw [if_neg c8] at H
 have c8b0 : decide (1048576 < (l4.length : Int)) = false := decide_eq_false c8
 have c8b1 : decide (1048576 < l4.length) = false := decide_eq_false (by omega)
 clear c8
 replace H := OZ_ H
 obtain ⟨t102, A10, H⟩ := H
 by_cases c11 : t102 < 0
 ·rw [if_pos c11] at H
  have c11b0 : decide (t102 < 0) = true := decide_eq_true c11
  clear c11
  obtain rfl := OI_ H
  go_enter Try.func3, Try.ntmps3
  go_wp2_with (first | ((with_reducible refine qAm (N := 5) rfl ?_); refine qAo ?hg (N := 5) ?hd (cs := #[.slice A0_0 l0_0.length c0_0]) (t := 24) ?hr ?_; (case hd => rfl); (case hg => rfl); (case hr => first | (go_simp; done) | (go_simp; rfl)); intro gb101 hg w12 hbox hb; have BK101 := Zz.mk (hbox); have GW101 := Zz.mk ((by rw [hg]; exact (bS_ (B_ HB.out)) : w.heap.size ≤ gb101)); have GE101 := GW101; replace HB := Zz.mk (bT_ (B_ HB.out) hb); clear hb hbox hg; obtain ⟨hcz13_0, hfz13_0⟩ := Z1f_ BK101.out) | ((with_reducible refine gC_ (f := 4) rfl ?_); refine GL_ (some 25) rfl rfl Try.func4 #[.agg #[.slice A0_0 l0_0.length c0_0], .int .i64 1048576] rfl (h := ?_); (with_reducible refine (z4.calls k _ _ l0_0 1048576 t102 _ ?side1 ?side2 A10.out).mono ?_); (case side1 => exact KC_ (Kd.C_below HR0_0.out HB.out)); (case side2 => exact HC0_0.out); rintro e w14 ⟨rfl, hb⟩; refine ⟨_, rfl, ?_⟩; replace BK101 := Zz.mk (bB_ (g := gb101) (o := .cells #[.slice A0_0 l0_0.length c0_0] 24 (0, 0)) (KB_ BK101.out) hb); replace HB := Zz.mk (bT_ (B1_ HB.out GE101.out) hb); (try clear hb); (try clear hb2); (try clear hk); (try clear hi)))
  go_ret
  exact ⟨F_, B1_ HB.out GE101.out⟩
 rw [if_neg c11] at H
 have c11b0 : decide (t102 < 0) = false := decide_eq_false c11
 clear c11
 replace H := OZ_ H
 obtain ⟨t103, A15, H⟩ := H
 replace H := OZ_ H
 obtain ⟨t106, A16, H⟩ := H
 replace H := OZ_ H
 obtain ⟨t109, A17, H⟩ := H
 replace H := OZ_ H
 obtain ⟨t112, A18, H⟩ := H
 replace H := OZ_ H
 obtain ⟨t113, A19, H⟩ := H
 replace H := OZ_ H
 obtain ⟨t117, A20, H⟩ := H
 replace H := OZ_ H
 obtain ⟨t120, A21, H⟩ := H
 replace H := OZ_ H
 obtain ⟨t123, A22, H⟩ := H
 by_cases c23 : (t123 != t112) = true
 ·rw [if_pos c23] at H
  have c23b0 : (t123 != t112) = true := c23
  (try (have c23b1 : decide (t123 = t112) = false := by simpa using c23))
  (try (have c23b2 : (t123 == t112) = false := by simpa using c23))
  (try (have c23b3 : ¬ (t123 = t112) := by simpa using c23))
  clear c23
  exact absurd (H.trans (congrArg some ht_)) (by simp)
 rw [if_neg c23] at H
 have c23b0 : (t123 != t112) = false := by simpa using c23
 (try (have c23b1 : decide (t123 = t112) = true := by simpa using c23))
 (try (have c23b2 : (t123 == t112) = true := by simpa using c23))
 clear c23
 replace H := OZ_ H
 obtain ⟨t124, A24, H⟩ := H
 replace H := OZ_ H
 obtain ⟨t127, A25, H⟩ := H
 by_cases c26 : t127 = true
 ·subst c26
  replace H := T_ H
  replace H := OZ_ H
  obtain ⟨t128, A27, H⟩ := H
  replace H := OZ_ H
  obtain ⟨t131, A28, H⟩ := H
  by_cases c29 : t131 = true
  ·subst c29
   replace H := T_ H
   replace H := OZ_ H
   obtain ⟨t132, A30, H⟩ := H
   replace H := OZ_ H
   obtain ⟨t135, A31, H⟩ := H
   by_cases c32 : t135 = true
   ·subst c32
    replace H := T_ H
    obtain rfl := OI_ H
    go_enter Try.func3, Try.ntmps3
    try go_wp2_with (first | ((with_reducible refine qAm (N := 5) rfl ?_); refine qAo ?hg (N := 5) ?hd (cs := #[.slice A0_0 l0_0.length c0_0]) (t := 24) ?hr ?_; (case hd => rfl); (case hg => rfl); (case hr => first | (go_simp; done) | (go_simp; rfl)); intro gb101 hg w33 hbox hb; have BK101 := Zz.mk (hbox); have GW101 := Zz.mk ((by rw [hg]; exact (bS_ (B_ HB.out)) : w.heap.size ≤ gb101)); have GE101 := GW101; replace HB := Zz.mk (bT_ (B_ HB.out) hb); clear hb hbox hg; obtain ⟨hcz34_0, hfz34_0⟩ := Z1f_ BK101.out) | ((with_reducible refine gC_ (f := 4) rfl ?_); refine GL_ (some 25) rfl rfl Try.func4 #[.agg #[.slice A0_0 l0_0.length c0_0], .int .i64 1048576] rfl (h := ?_); (with_reducible refine (z4.calls k _ _ l0_0 1048576 t102 _ ?side1 ?side2 A10.out).mono ?_); (case side1 => exact KC_ (Kd.C_below HR0_0.out HB.out)); (case side2 => exact HC0_0.out); rintro e w35 ⟨rfl, hb⟩; refine ⟨_, rfl, ?_⟩; replace BK101 := Zz.mk (bB_ (g := gb101) (o := .cells #[.slice A0_0 l0_0.length c0_0] 24 (0, 0)) (KB_ BK101.out) hb); replace HB := Zz.mk (bT_ (B1_ HB.out GE101.out) hb); (try clear hb); (try clear hb2); (try clear hk); (try clear hi); obtain ⟨hcz36_0, hfz36_0⟩ := Z1f_ BK101.out) | ((with_reducible refine gC_ (f := 6) rfl ?_); refine GL_ (some 29) rfl rfl Try.func6 #[.agg #[.slice A0_0 l0_0.length c0_0]] rfl (h := ?_); (with_reducible refine (z6.calls k _ _ l0_0 t103 _ ?side1 ?side2 A15.out).mono ?_); (case side1 => exact KC_ (Kd.C_below HR0_0.out HB.out)); (case side2 => exact HC0_0.out); rintro e w37 ⟨v104, rfl, ho0, hb⟩; refine ⟨_, rfl, ?_⟩; obtain ⟨nan38, hnan38⟩ := Kd.size_letter hb; have HO105 := Zz.mk (Kd.S_lower (Kd.S_geN ho0 hnan38) (bS_ (B1_ HB.out GE101.out))); replace BK101 := Zz.mk (bB_ (g := gb101) (o := .cells #[.slice A0_0 l0_0.length c0_0] 24 (0, 0)) (KB_ BK101.out) hb); replace HB := Zz.mk (bT_ (B1_ HB.out GE101.out) hb); (try clear hb); (try clear hb2); (try clear hk); (try clear hi); (try clear ho0)) | ((with_reducible refine gC_ (f := 7) rfl ?_); refine GL_ (some 33) rfl rfl Try.func7 #[.slice A3 l3.length c3] rfl (h := ?_); (with_reducible refine (z7.calls k _ _ l3 t106 _ ?side1 ?side2 A16.out).mono ?_); (case side1 => exact KC_ (Kd.C_below HR3.out HB.out)); (case side2 => exact HC3.out); rintro e w39 ⟨v107, rfl, ho0, hb⟩; refine ⟨_, rfl, ?_⟩; obtain ⟨nan40, hnan40⟩ := Kd.size_letter hb; replace HO105 := Zz.mk (Kd.S_told (Kd.S_oldN (KS_ HO105.out) hb hnan40) (Kd.R_baseN ho0 hnan40)); have HO108 := Zz.mk (Kd.R_lower (Kd.R_geN ho0 hnan40) (bS_ (B1_ HB.out GE101.out))); replace BK101 := Zz.mk (bB_ (g := gb101) (o := .cells #[.slice A0_0 l0_0.length c0_0] 24 (0, 0)) (KB_ BK101.out) hb); replace HB := Zz.mk (bT_ (B1_ HB.out GE101.out) hb); (try clear hb); (try clear hb2); (try clear hk); (try clear hi); (try clear ho0)) | ((with_reducible refine gC_ (f := 7) rfl ?_); refine GL_ (some 35) rfl rfl Try.func7 #[.slice A4 l4.length c4] rfl (h := ?_); (with_reducible refine (z7.calls k _ _ l4 t109 _ ?side1 ?side2 A17.out).mono ?_); (case side1 => exact KC_ (Kd.C_below HR4.out HB.out)); (case side2 => exact HC4.out); rintro e w41 ⟨v110, rfl, ho0, hb⟩; refine ⟨_, rfl, ?_⟩; obtain ⟨nan42, hnan42⟩ := Kd.size_letter hb; have HO111 := Zz.mk (Kd.R_lower (Kd.R_geN (Kd.R_new' ho0 (Kd.R_lt (KR_ HO108.out))) hnan42) (bS_ (B1_ HB.out GE101.out))); replace HO105 := Zz.mk (Kd.S_told (Kd.S_oldN (KS_ HO105.out) hb hnan42) (Kd.R_baseN ho0 hnan42)); replace HO108 := Zz.mk (Kd.R_told (Kd.R_oldN (KR_ HO108.out) hb hnan42) (Kd.R_baseN ho0 hnan42)); replace BK101 := Zz.mk (bB_ (g := gb101) (o := .cells #[.slice A0_0 l0_0.length c0_0] 24 (0, 0)) (KB_ BK101.out) hb); replace HB := Zz.mk (bT_ (B1_ HB.out GE101.out) hb); (try clear hb); (try clear hb2); (try clear hk); (try clear hi); (try clear ho0); obtain ⟨Ao43, co43, eo43⟩ := Kd.S_slice HO105.out; subst eo43; obtain ⟨Ao44, co44, eo44⟩ := Kd.R_slice HO108.out; subst eo44; obtain ⟨Ao45, co45, eo45⟩ := Kd.R_slice HO111.out; subst eo45) | ((with_reducible refine gC_ (f := 5) rfl ?_); refine GL_ (some 36) rfl rfl Try.func5 #[.agg #[.slice Ao43 t103.length co43], .int .i64 a1, .int .i64 a2, .slice Ao44 t106.length co44, .slice Ao45 t109.length co45] rfl (h := ?_); (with_reducible refine (z5.calls k _ _ t103 a1 a2 _ _ t106 _ _ t109 t112 _ ?side1 ?side2 ?side3 ?side4 ?side5 ?side6 A18.out).mono ?_); (case side1 => exact KC_ (Kd.S_reads' HO105.out).2.2); (case side2 => exact (Kd.S_reads' HO105.out).2.1); (case side3 => exact KC_ (Kd.R_reads' HO108.out).2.2); (case side4 => exact (Kd.R_reads' HO108.out).2.1); (case side5 => exact KC_ (Kd.R_reads' HO111.out).2.2); (case side6 => exact (Kd.R_reads' HO111.out).2.1); rintro e w46 ⟨rfl, hb⟩; refine ⟨_, rfl, ?_⟩; replace HO105 := Zz.mk (Kd.S_below (KS_ HO105.out) hb); replace HO108 := Zz.mk (Kd.R_below (KR_ HO108.out) hb); replace HO111 := Zz.mk (Kd.R_below (KR_ HO111.out) hb); replace BK101 := Zz.mk (bB_ (g := gb101) (o := .cells #[.slice A0_0 l0_0.length c0_0] 24 (0, 0)) (KB_ BK101.out) hb); replace HB := Zz.mk (bT_ (B1_ HB.out GE101.out) hb); (try clear hb); (try clear hb2); (try clear hk); (try clear hi); obtain ⟨hcz47_0, hfz47_0⟩ := Z1f_ BK101.out) | ((with_reducible refine gC_ (f := 6) rfl ?_); refine GL_ (some 38) rfl rfl Try.func6 #[.agg #[.slice A0_0 l0_0.length c0_0]] rfl (h := ?_); (with_reducible refine (z6.calls k _ _ l0_0 t113 _ ?side1 ?side2 A19.out).mono ?_); (case side1 => exact KC_ (Kd.C_below HR0_0.out HB.out)); (case side2 => exact HC0_0.out); rintro e w48 ⟨v114, rfl, ho0, hb⟩; refine ⟨_, rfl, ?_⟩; obtain ⟨nan49, hnan49⟩ := Kd.size_letter hb; have HO115 := Zz.mk (Kd.S_lower (Kd.S_geN (Kd.S_new' (Kd.S_new' (Kd.S_new' ho0 (Kd.S_lt (KS_ HO105.out))) (Kd.R_lt (KR_ HO108.out))) (Kd.R_lt (KR_ HO111.out))) hnan49) (bS_ (B1_ HB.out GE101.out))); replace HO105 := Zz.mk (Kd.S_told (Kd.S_oldN (KS_ HO105.out) hb hnan49) (Kd.S_baseN ho0 hnan49)); replace HO108 := Zz.mk (Kd.R_oldN (KR_ HO108.out) hb hnan49); replace HO111 := Zz.mk (Kd.R_oldN (KR_ HO111.out) hb hnan49); replace BK101 := Zz.mk (bB_ (g := gb101) (o := .cells #[.slice A0_0 l0_0.length c0_0] 24 (0, 0)) (KB_ BK101.out) hb); replace HB := Zz.mk (bT_ (B1_ HB.out GE101.out) hb); (try clear hb); (try clear hb2); (try clear hk); (try clear hi); (try clear ho0)) | ((with_reducible refine qAm (N := 13) rfl ?_); refine qAo ?hg (N := 13) ?hd (cs := #[.slice none 0 0]) (t := 28) ?hr ?_; (case hd => rfl); (case hg => rfl); (case hr => first | (go_simp; done) | (go_simp; rfl)); intro gb116 hg w50 hbox hb; have BK116 := Zz.mk (hbox); have GW116 := Zz.mk ((by rw [hg]; exact (bS_ (B1_ HB.out GE101.out)) : w.heap.size ≤ gb116)); have GE116 := GW116; have NB101_116 := Zz.mk ((by rw [hg]; exact Nat.ne_of_lt (qA5 (g := gb101) (o := .cells #[.slice A0_0 l0_0.length c0_0] 24 (0, 0)) (KB_ BK101.out)) : gb101 ≠ gb116)); have NB116_101 := Zz.mk NB101_116.out.symm; replace HO105 := Zz.mk (Kd.S_below (KS_ HO105.out) hb); replace HO108 := Zz.mk (Kd.R_below (KR_ HO108.out) hb); replace HO111 := Zz.mk (Kd.R_below (KR_ HO111.out) hb); replace HO115 := Zz.mk (Kd.S_below (KS_ HO115.out) hb); replace BK101 := Zz.mk (bB_ (g := gb101) (o := .cells #[.slice A0_0 l0_0.length c0_0] 24 (0, 0)) (KB_ BK101.out) hb); replace HB := Zz.mk (bT_ (B1_ HB.out GE101.out) hb); clear hb hbox hg; obtain ⟨Ao51, co51, eo51⟩ := Kd.S_slice HO115.out; subst eo51; have hnb52 := NB116_101.out; have hnc52 := NB101_116.out; obtain ⟨hcz53_0, hfz53_0⟩ := Z1f_ BK116.out) | ((with_reducible refine gC_ (f := 7) rfl ?_); refine GL_ (some 40) rfl rfl Try.func7 #[.slice A3 l3.length c3] rfl (h := ?_); (with_reducible refine (z7.calls k _ _ l3 t117 _ ?side1 ?side2 A20.out).mono ?_); (case side1 => exact Kd.C_below HR3.out (B2_ HB.out GE101.out GE116.out)); (case side2 => exact HC3.out); rintro e w54 ⟨v118, rfl, ho0, hb⟩; refine ⟨_, rfl, ?_⟩; obtain ⟨nan55, hnan55⟩ := Kd.size_letter hb; have HO119 := Zz.mk (Kd.R_lower (Kd.R_geN (Kd.R_new' (Kd.R_new' ho0 (Kd.R_lt (by refine RW_ ?_; exact (Kd.R_mono (Kd.R_far (p := ⟨gb116, 0, none⟩) (Kd.R_types HO108.out BK116.out (by decide)) (fun _ hk => hk.2) (.slice Ao51 t113.length co51)) (fun _ h_ => h_.1))))) (Kd.R_lt (by refine RW_ ?_; exact (Kd.R_mono (Kd.R_far (p := ⟨gb116, 0, none⟩) (Kd.R_types HO111.out BK116.out (by decide)) (fun _ hk => hk.2) (.slice Ao51 t113.length co51)) (fun _ h_ => h_.1))))) hnan55) (bS_ (B2_ HB.out GE101.out GE116.out))); replace HO105 := Zz.mk (Kd.S_told (Kd.S_oldN (by refine SW_ ?_; exact (Kd.S_mono (Kd.S_far (p := ⟨gb116, 0, none⟩) (Kd.S_types HO105.out BK116.out (by decide)) (fun _ hk => hk.2) (.slice Ao51 t113.length co51)) (fun _ h_ => h_.1))) hb hnan55) (Kd.R_baseN ho0 hnan55)); replace HO108 := Zz.mk (Kd.R_told (Kd.R_oldN (by refine RW_ ?_; exact (Kd.R_mono (Kd.R_far (p := ⟨gb116, 0, none⟩) (Kd.R_types HO108.out BK116.out (by decide)) (fun _ hk => hk.2) (.slice Ao51 t113.length co51)) (fun _ h_ => h_.1))) hb hnan55) (Kd.R_baseN ho0 hnan55)); replace HO111 := Zz.mk (Kd.R_told (Kd.R_oldN (by refine RW_ ?_; exact (Kd.R_mono (Kd.R_far (p := ⟨gb116, 0, none⟩) (Kd.R_types HO111.out BK116.out (by decide)) (fun _ hk => hk.2) (.slice Ao51 t113.length co51)) (fun _ h_ => h_.1))) hb hnan55) (Kd.R_baseN ho0 hnan55)); replace HO115 := Zz.mk (Kd.S_told (Kd.S_oldN (by refine SW_ ?_; exact (Kd.S_mono (Kd.S_far (p := ⟨gb116, 0, none⟩) (Kd.S_types HO115.out BK116.out (by decide)) (fun _ hk => hk.2) (.slice Ao51 t113.length co51)) (fun _ h_ => h_.1))) hb hnan55) (Kd.R_baseN ho0 hnan55)); replace BK101 := Zz.mk (bB_ (g := gb101) (o := .cells #[.slice A0_0 l0_0.length c0_0] 24 (0, 0)) (by refine BW_ ?_; refine bR_ ?_ NB101_116.out _; refine BW_ ?_; exact BK101.out) hb); replace BK116 := Zz.mk (bB_ (g := gb116) (o := .cells #[.slice Ao51 t113.length co51] 28 (0, 0)) (by refine BW_ ?_; refine bP_ (cs := #[.slice none 0 0]) ?_ 0 _ rfl; refine BW_ ?_; exact BK116.out) hb); replace HB := Zz.mk (bT_ (B2_ HB.out GE101.out GE116.out) hb); (try clear hb); (try clear hb2); (try clear hk); (try clear hi); (try clear ho0)) | ((with_reducible refine gC_ (f := 7) rfl ?_); refine GL_ (some 42) rfl rfl Try.func7 #[.slice A4 l4.length c4] rfl (h := ?_); (with_reducible refine (z7.calls k _ _ l4 t120 _ ?side1 ?side2 A21.out).mono ?_); (case side1 => exact KC_ (Kd.C_below HR4.out HB.out)); (case side2 => exact HC4.out); rintro e w56 ⟨v121, rfl, ho0, hb⟩; refine ⟨_, rfl, ?_⟩; obtain ⟨nan57, hnan57⟩ := Kd.size_letter hb; have HO122 := Zz.mk (Kd.R_lower (Kd.R_geN (Kd.R_new' (Kd.R_new' (Kd.R_new' ho0 (Kd.R_lt (KR_ HO108.out))) (Kd.R_lt (KR_ HO111.out))) (Kd.R_lt (KR_ HO119.out))) hnan57) (bS_ (B2_ HB.out GE101.out GE116.out))); replace HO105 := Zz.mk (Kd.S_told (Kd.S_oldN (KS_ HO105.out) hb hnan57) (Kd.R_baseN ho0 hnan57)); replace HO108 := Zz.mk (Kd.R_told (Kd.R_oldN (KR_ HO108.out) hb hnan57) (Kd.R_baseN ho0 hnan57)); replace HO111 := Zz.mk (Kd.R_told (Kd.R_oldN (KR_ HO111.out) hb hnan57) (Kd.R_baseN ho0 hnan57)); replace HO115 := Zz.mk (Kd.S_told (Kd.S_oldN (KS_ HO115.out) hb hnan57) (Kd.R_baseN ho0 hnan57)); replace HO119 := Zz.mk (Kd.R_told (Kd.R_oldN (KR_ HO119.out) hb hnan57) (Kd.R_baseN ho0 hnan57)); replace BK101 := Zz.mk (bB_ (g := gb101) (o := .cells #[.slice A0_0 l0_0.length c0_0] 24 (0, 0)) (KB_ BK101.out) hb); replace BK116 := Zz.mk (bB_ (g := gb116) (o := .cells #[.slice Ao51 t113.length co51] 28 (0, 0)) (KB_ BK116.out) hb); replace HB := Zz.mk (bT_ (B2_ HB.out GE101.out GE116.out) hb); (try clear hb); (try clear hb2); (try clear hk); (try clear hi); (try clear ho0); obtain ⟨hcz58_0, hfz58_0⟩ := Z1f_ BK116.out; obtain ⟨Ao59, co59, eo59⟩ := Kd.R_slice HO119.out; subst eo59; obtain ⟨Ao60, co60, eo60⟩ := Kd.R_slice HO122.out; subst eo60) | ((with_reducible refine gC_ (f := 8) rfl ?_); refine GL_ (some 48) rfl rfl Try.func8 #[.agg #[.slice Ao51 t113.length co51], .int .i64 a1, .int .i64 a2, .slice Ao59 t117.length co59, .slice Ao60 t120.length co60] rfl (h := ?_); (with_reducible refine (z8.calls k _ _ t113 a1 a2 _ _ t117 _ _ t120 t123 _ ?side1 ?side2 ?side3 ?side4 ?side5 ?side6 A22.out).mono ?_); (case side1 => exact KC_ (Kd.S_reads' HO115.out).2.2); (case side2 => exact (Kd.S_reads' HO115.out).2.1); (case side3 => exact KC_ (Kd.R_reads' HO119.out).2.2); (case side4 => exact (Kd.R_reads' HO119.out).2.1); (case side5 => exact KC_ (Kd.R_reads' HO122.out).2.2); (case side6 => exact (Kd.R_reads' HO122.out).2.1); rintro e w61 ⟨rfl, hb⟩; refine ⟨_, rfl, ?_⟩; replace HO105 := Zz.mk (Kd.S_below (KS_ HO105.out) hb); replace HO108 := Zz.mk (Kd.R_below (KR_ HO108.out) hb); replace HO111 := Zz.mk (Kd.R_below (KR_ HO111.out) hb); replace HO115 := Zz.mk (Kd.S_below (KS_ HO115.out) hb); replace HO119 := Zz.mk (Kd.R_below (KR_ HO119.out) hb); replace HO122 := Zz.mk (Kd.R_below (KR_ HO122.out) hb); replace BK101 := Zz.mk (bB_ (g := gb101) (o := .cells #[.slice A0_0 l0_0.length c0_0] 24 (0, 0)) (KB_ BK101.out) hb); replace BK116 := Zz.mk (bB_ (g := gb116) (o := .cells #[.slice Ao51 t113.length co51] 28 (0, 0)) (KB_ BK116.out) hb); replace HB := Zz.mk (bT_ (B2_ HB.out GE101.out GE116.out) hb); (try clear hb); (try clear hb2); (try clear hk); (try clear hi)))
    replace HO105 := Zz.mk (Kd.S_drew HO105.out)
    replace HO108 := Zz.mk (Kd.R_drew HO108.out)
    replace HO111 := Zz.mk (Kd.R_drew HO111.out)
    replace HO115 := Zz.mk (Kd.S_drew HO115.out)
    replace HO119 := Zz.mk (Kd.R_drew HO119.out)
    replace HO122 := Zz.mk (Kd.R_drew HO122.out)
    replace BK101 := Zz.mk (bD_ BK101.out)
    replace BK116 := Zz.mk (bD_ BK116.out)
    replace HB := Zz.mk (qAq HB.out)
    refine qBh (n := 5) (S := fun w' => w'.cell? ⟨gb116, 0, none⟩ = some (.slice Ao51 t113.length co51) ∧ w'.cell? ⟨gb101, 0, none⟩ = some (.slice A0_0 l0_0.length c0_0)) (ds := []) #[false, false, false, false, false] (by kernel_rfl) rfl rfl ⟨(bC_ BK116.out 0).trans rfl, (bC_ BK101.out 0).trans rfl⟩ (fun hHeld => ?_)
    generalize w61.drew = w62 at HO105 HO108 HO111 HO115 HO119 HO122 BK101 BK116 HB hHeld ⊢
    refine take_ (i := 0) (N := some 52) (v := ?_) (a' := ?_) #[true, false, false, false, false] rfl rfl (by kernel_rfl) (fun _ _ _ h => h) (Or.inl ⟨by rfl, ?_⟩) hHeld ?_ ?_
    rotate_left
    ·rintro w' ⟨s0, s1⟩
     go_simp
     with_reducible rfl
    rotate_left
    ·simp only [Act.put, List.setIfInBounds_toArray, List.set_cons_zero, List.set_cons_succ, qA6, qBm]
     rfl
    refine take_ (i := 1) (N := some 53) (v := ?_) (a' := ?_) #[true, true, false, false, false] rfl rfl (by kernel_rfl) (fun _ _ _ h => h) (Or.inl ⟨by rfl, ?_⟩) hHeld ?_ ?_
    rotate_left
    ·rintro w' ⟨s0, s1⟩
     go_simp
     with_reducible rfl
    rotate_left
    ·simp only [Act.put, List.setIfInBounds_toArray, List.set_cons_zero, List.set_cons_succ, qA6, qBm]
     rfl
    refine one_ (i := 2) (N := some 54) #[true, true, true, false, false] rfl rfl (by kernel_rfl) (by decide) (fun K hK => ?_)
    refine GO_ Try.func6 #[.agg #[.slice A0_0 l0_0.length c0_0]] (h := ?_)
    with_reducible refine (z6.calls k _ _ l0_0 t124 _ ?side1 ?side2 A24.out).mono ?_
    (case side1 => exact KC_ (Kd.C_below HR0_0.out HB.out))
    (case side2 => exact HC0_0.out)
    rintro e w63 ⟨v125, rfl, ho0, hb⟩
    refine ⟨_, rfl, ?_⟩
    obtain ⟨nan64, hnan64⟩ := Kd.size_letter hb
    have HO126 := Zz.mk (Kd.S_lower (Kd.S_geN (Kd.S_new' (Kd.S_new' (Kd.S_new' (Kd.S_new' (Kd.S_new' (Kd.S_new' ho0 (Kd.S_lt (KS_ HO105.out))) (Kd.R_lt (KR_ HO108.out))) (Kd.R_lt (KR_ HO111.out))) (Kd.S_lt (KS_ HO115.out))) (Kd.R_lt (KR_ HO119.out))) (Kd.R_lt (KR_ HO122.out))) hnan64) (bS_ (B2_ HB.out GE101.out GE116.out)))
    replace HO105 := Zz.mk (Kd.S_told (Kd.S_oldN (KS_ HO105.out) hb hnan64) (Kd.S_baseN ho0 hnan64))
    replace HO108 := Zz.mk (Kd.R_oldN (KR_ HO108.out) hb hnan64)
    replace HO111 := Zz.mk (Kd.R_oldN (KR_ HO111.out) hb hnan64)
    replace HO115 := Zz.mk (Kd.S_told (Kd.S_oldN (KS_ HO115.out) hb hnan64) (Kd.S_baseN ho0 hnan64))
    replace HO119 := Zz.mk (Kd.R_oldN (KR_ HO119.out) hb hnan64)
    replace HO122 := Zz.mk (Kd.R_oldN (KR_ HO122.out) hb hnan64)
    replace BK101 := Zz.mk (bB_ (g := gb101) (o := .cells #[.slice A0_0 l0_0.length c0_0] 24 (0, 0)) (KB_ BK101.out) hb)
    replace BK116 := Zz.mk (bB_ (g := gb116) (o := .cells #[.slice Ao51 t113.length co51] 28 (0, 0)) (KB_ BK116.out) hb)
    replace HB := Zz.mk (bT_ (B2_ HB.out GE101.out GE116.out) hb)
    (try clear hb);(try clear hb2);(try clear hk);(try clear hi);(try clear ho0)
    obtain ⟨Ao65, co65, eo65⟩ := Kd.S_slice HO126.out
    (first | subst eo65 | (injection eo65 with f1_ f2_ f3_; have f4_ := f1_.symm; have f5_ := f3_.symm; clear f1_ f2_ f3_; subst f4_; subst f5_))
    refine hK.out _ _ ⟨(bC_ BK116.out 0).trans rfl, (bC_ BK101.out 0).trans rfl⟩ (fun hHeld => ?_)
    clear hK K
    refine NM_ (N := (some 54)) (h := ?_)
    refine one_ (i := 3) (N := some 55) #[true, true, true, true, false] rfl rfl (by kernel_rfl) (by decide) (fun K hK => ?_)
    refine GO_ Try.func9 #[.agg #[.slice Ao51 t113.length co51], .agg #[.slice Ao65 t124.length co65]] (h := ?_)
    with_reducible refine (z9.calls k _ _ t113 _ _ t124 true _ ?side1 ?side2 ?side3 ?side4 A25.out).mono ?_
    (case side1 => exact KC_ (Kd.S_reads' HO115.out).2.2)
    (case side2 => exact (Kd.S_reads' HO115.out).2.1)
    (case side3 => exact KC_ (Kd.S_reads' HO126.out).2.2)
    (case side4 => exact (Kd.S_reads' HO126.out).2.1)
    rintro e w66 ⟨rfl, hb⟩
    refine ⟨_, rfl, ?_⟩
    replace HO105 := Zz.mk (Kd.S_below (KS_ HO105.out) hb)
    replace HO108 := Zz.mk (Kd.R_below (KR_ HO108.out) hb)
    replace HO111 := Zz.mk (Kd.R_below (KR_ HO111.out) hb)
    replace HO115 := Zz.mk (Kd.S_below (KS_ HO115.out) hb)
    replace HO119 := Zz.mk (Kd.R_below (KR_ HO119.out) hb)
    replace HO122 := Zz.mk (Kd.R_below (KR_ HO122.out) hb)
    replace HO126 := Zz.mk (Kd.S_below (KS_ HO126.out) hb)
    replace BK101 := Zz.mk (bB_ (g := gb101) (o := .cells #[.slice A0_0 l0_0.length c0_0] 24 (0, 0)) (KB_ BK101.out) hb)
    replace BK116 := Zz.mk (bB_ (g := gb116) (o := .cells #[.slice Ao51 t113.length co51] 28 (0, 0)) (KB_ BK116.out) hb)
    replace HB := Zz.mk (bT_ (B2_ HB.out GE101.out GE116.out) hb)
    (try clear hb);(try clear hb2);(try clear hk);(try clear hi)
    refine hK.out _ _ ⟨(bC_ BK116.out 0).trans rfl, (bC_ BK101.out 0).trans rfl⟩ (fun hHeld => ?_)
    clear hK K
    refine NM_ (N := (some 55)) (h := ?_)
    refine qJ0 (i := 4) (N := some 56) (v := ?_) (a' := ?_) #[true, true, true, true, true] rfl rfl (by kernel_rfl) (fun _ _ _ h => h) (Or.inl ⟨by rfl, ?_⟩) ?_ ?_
    rotate_left
    ·intro w'
     go_simp
     with_reducible rfl
    rotate_left
    ·simp only [Act.put, List.setIfInBounds_toArray, List.set_cons_zero, List.set_cons_succ, qA6, qBm]
     rfl
    refine qBz (by kernel_rfl) ?_
    try go_wp2_with (first | ((with_reducible refine gC_ (f := 7) rfl ?_); refine GL_ (some 59) rfl rfl Try.func7 #[.slice A3 l3.length c3] rfl (h := ?_); (with_reducible refine (z7.calls k _ _ l3 t128 _ ?side1 ?side2 A27.out).mono ?_); (case side1 => exact KC_ (Kd.C_below HR3.out HB.out)); (case side2 => exact HC3.out); rintro e w67 ⟨v129, rfl, ho0, hb⟩; refine ⟨_, rfl, ?_⟩; obtain ⟨nan68, hnan68⟩ := Kd.size_letter hb; have HO130 := Zz.mk (Kd.R_lower (Kd.R_geN (Kd.R_new' (Kd.R_new' (Kd.R_new' (Kd.R_new' ho0 (Kd.R_lt (KR_ HO108.out))) (Kd.R_lt (KR_ HO111.out))) (Kd.R_lt (KR_ HO119.out))) (Kd.R_lt (KR_ HO122.out))) hnan68) (bS_ (B2_ HB.out GE101.out GE116.out))); replace HO105 := Zz.mk (Kd.S_told (Kd.S_oldN (KS_ HO105.out) hb hnan68) (Kd.R_baseN ho0 hnan68)); replace HO108 := Zz.mk (Kd.R_told (Kd.R_oldN (KR_ HO108.out) hb hnan68) (Kd.R_baseN ho0 hnan68)); replace HO111 := Zz.mk (Kd.R_told (Kd.R_oldN (KR_ HO111.out) hb hnan68) (Kd.R_baseN ho0 hnan68)); replace HO115 := Zz.mk (Kd.S_told (Kd.S_oldN (KS_ HO115.out) hb hnan68) (Kd.R_baseN ho0 hnan68)); replace HO119 := Zz.mk (Kd.R_told (Kd.R_oldN (KR_ HO119.out) hb hnan68) (Kd.R_baseN ho0 hnan68)); replace HO122 := Zz.mk (Kd.R_told (Kd.R_oldN (KR_ HO122.out) hb hnan68) (Kd.R_baseN ho0 hnan68)); replace HO126 := Zz.mk (Kd.S_told (Kd.S_oldN (KS_ HO126.out) hb hnan68) (Kd.R_baseN ho0 hnan68)); replace BK101 := Zz.mk (bB_ (g := gb101) (o := .cells #[.slice A0_0 l0_0.length c0_0] 24 (0, 0)) (KB_ BK101.out) hb); replace BK116 := Zz.mk (bB_ (g := gb116) (o := .cells #[.slice Ao51 t113.length co51] 28 (0, 0)) (KB_ BK116.out) hb); replace HB := Zz.mk (bT_ (B2_ HB.out GE101.out GE116.out) hb); (try clear hb); (try clear hb2); (try clear hk); (try clear hi); (try clear ho0); obtain ⟨Ao69, co69, eo69⟩ := Kd.R_slice HO130.out; subst eo69) | ((with_reducible refine gC_ (f := 10) rfl ?_); refine GL_ (some 60) rfl rfl Try.func10 #[.slice Ao59 t117.length co59, .slice Ao69 t128.length co69] rfl (h := ?_); (with_reducible refine (z10.calls k _ _ t117 _ _ t128 true _ ?side1 ?side2 ?side3 ?side4 A28.out).mono ?_); (case side1 => exact KC_ (Kd.R_reads' HO119.out).2.2); (case side2 => exact (Kd.R_reads' HO119.out).2.1); (case side3 => exact KC_ (Kd.R_reads' HO130.out).2.2); (case side4 => exact (Kd.R_reads' HO130.out).2.1); rintro e w' ⟨rfl, ⟨nd, rfl⟩⟩; refine ⟨_, rfl, ?_⟩) | ((with_reducible refine gC_ (f := 7) rfl ?_); refine GL_ (some 64) rfl rfl Try.func7 #[.slice A4 l4.length c4] rfl (h := ?_); (with_reducible refine (z7.calls k _ _ l4 t132 _ ?side1 ?side2 A30.out).mono ?_); (case side1 => repeat (first | exact (Kd.C_below HR4.out (B2_ HB.out GE101.out GE116.out)) | (with_reducible refine Kd.C_alloc ?_ _) | (with_reducible refine Kd.C_drewN ?_ _) | (with_reducible refine Kd.C_drew ?_))); (case side2 => exact HC4.out); rintro e w70 ⟨v133, rfl, ho0, hb⟩; refine ⟨_, rfl, ?_⟩; obtain ⟨nan71, hnan71⟩ := Kd.size_letter hb; have HO134 := Zz.mk (Kd.R_lower (Kd.R_geN (Kd.R_new' (Kd.R_new' (Kd.R_new' (Kd.R_new' (Kd.R_new' ho0 (Kd.R_lt (KR_ HO108.out))) (Kd.R_lt (KR_ HO111.out))) (Kd.R_lt (KR_ HO119.out))) (Kd.R_lt (KR_ HO122.out))) (Kd.R_lt (KR_ HO130.out))) hnan71) (bS_ (B2_ HB.out GE101.out GE116.out))); replace HO105 := Zz.mk (Kd.S_told (Kd.S_oldN (KS_ HO105.out) hb hnan71) (Kd.R_baseN ho0 hnan71)); replace HO108 := Zz.mk (Kd.R_told (Kd.R_oldN (KR_ HO108.out) hb hnan71) (Kd.R_baseN ho0 hnan71)); replace HO111 := Zz.mk (Kd.R_told (Kd.R_oldN (KR_ HO111.out) hb hnan71) (Kd.R_baseN ho0 hnan71)); replace HO115 := Zz.mk (Kd.S_told (Kd.S_oldN (KS_ HO115.out) hb hnan71) (Kd.R_baseN ho0 hnan71)); replace HO119 := Zz.mk (Kd.R_told (Kd.R_oldN (KR_ HO119.out) hb hnan71) (Kd.R_baseN ho0 hnan71)); replace HO122 := Zz.mk (Kd.R_told (Kd.R_oldN (KR_ HO122.out) hb hnan71) (Kd.R_baseN ho0 hnan71)); replace HO126 := Zz.mk (Kd.S_told (Kd.S_oldN (KS_ HO126.out) hb hnan71) (Kd.R_baseN ho0 hnan71)); replace HO130 := Zz.mk (Kd.R_told (Kd.R_oldN (KR_ HO130.out) hb hnan71) (Kd.R_baseN ho0 hnan71)); replace BK101 := Zz.mk (bB_ (g := gb101) (o := .cells #[.slice A0_0 l0_0.length c0_0] 24 (0, 0)) (KB_ BK101.out) hb); replace BK116 := Zz.mk (bB_ (g := gb116) (o := .cells #[.slice Ao51 t113.length co51] 28 (0, 0)) (KB_ BK116.out) hb); replace HB := Zz.mk (bT_ (B2_ HB.out GE101.out GE116.out) hb); (try clear hb); (try clear hb2); (try clear hk); (try clear hi); (try clear ho0); obtain ⟨Ao72, co72, eo72⟩ := Kd.R_slice HO134.out; subst eo72) | ((with_reducible refine gC_ (f := 10) rfl ?_); refine GL_ (some 65) rfl rfl Try.func10 #[.slice Ao60 t120.length co60, .slice Ao72 t132.length co72] rfl (h := ?_); (with_reducible refine (z10.calls k _ _ t120 _ _ t132 true _ ?side1 ?side2 ?side3 ?side4 A31.out).mono ?_); (case side1 => exact KC_ (Kd.R_reads' HO122.out).2.2); (case side2 => exact (Kd.R_reads' HO122.out).2.1); (case side3 => exact KC_ (Kd.R_reads' HO134.out).2.2); (case side4 => exact (Kd.R_reads' HO134.out).2.1); rintro e w' ⟨rfl, ⟨nd, rfl⟩⟩; refine ⟨_, rfl, ?_⟩))
    go_ret
    exact ⟨F_, B2_ HB.out GE101.out GE116.out⟩
   replace c32 := Bool.eq_false_iff.mpr c32
   subst c32
   replace H := N_ H
   exact absurd (H.trans (congrArg some ht_)) (by simp)
  replace c29 := Bool.eq_false_iff.mpr c29
  subst c29
  replace H := N_ H
  exact absurd (H.trans (congrArg some ht_)) (by simp)
 replace c26 := Bool.eq_false_iff.mpr c26
 subst c26
 replace H := N_ H
 exact absurd (H.trans (congrArg some ht_)) (by simp)
end Go.Proofs.Ytgdfkcipffjjcaa.B
