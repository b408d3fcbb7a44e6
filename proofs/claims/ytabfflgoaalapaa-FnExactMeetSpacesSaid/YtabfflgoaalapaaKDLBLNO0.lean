/- Printed proofs of functions of the program and of the reference, by a program of this work over the kit's printer. -/
import Derived.Test.YtabfflgoaalapaaKENHNJJ0
import Derived.Test.YtabfflgoaalapaaKFMJCKG0
import Derived.Test.YtabfflgoaalapaaKGMFEED0
import Derived.Test.YtabfflgoaalapaaKHPIFHG0
import Derived.Test.YtabfflgoaalapaaKKNFAEL0
import Derived.Test.YtabfflgoaalapaaKW0
namespace Go.Proofs.Ytabfflgoaalapaa.B
open Go.RowKit Go.Proofs.YtabfflgoaalapaaW.PrintWords Go.Proofs.YtabfflgoaalapaaW.PrintLast Go.Proofs.YtabfflgoaalapaaW.PrintMore
attribute [local go_sem] qAo qAm qAq qAp qAk qAj qAn qAl
set_option linter.unusedVariables false
set_option linter.unusedSimpArgs false
def z10.f (k : Nat) (a0_0 : Int) (a0_1 : Int) (l0_2 : List (List Int)) (a1_0 : Int) (a1_1 : Int) (l1_2 : List (List Int)) : Option (Bool) := (z11.f k a0_0 a0_1 l0_2 1048576).bind fun t103 => (if t103 < 0 then (some true) else ((z11.f k a1_0 a1_1 l1_2 t103).bind fun t104 => (if t104 < 0 then (some true) else ((z13.f k a0_0 a0_1 l0_2).bind fun bt105 => ((z13.f k a1_0 a1_1 l1_2).bind fun bt110 => ((z50.f k bt105.1 bt105.2.1 bt105.2.2 bt110.1 bt110.2.1 bt110.2.2).bind fun bt115 => ((z13.f k a0_0 a0_1 l0_2).bind fun bt122 => ((z13.f k a1_0 a1_1 l1_2).bind fun bt128 => ((z51.f k bt122.1 bt122.2.1 bt122.2.2 bt128.1 bt128.2.1 bt128.2.2).bind fun bt134 => ((z17.f k bt134.1 bt134.2.1 bt134.2.2.1 bt115.1 bt115.2.1 bt115.2.2.1).bind fun t141 => (if t141 = true then (if bt134.2.2.2 = bt115.2.2.2 then ((z13.f k a0_0 a0_1 l0_2).bind fun bt142 => ((z17.f k bt122.1 bt122.2.1 bt122.2.2 bt142.1 bt142.2.1 bt142.2.2).bind fun t147 => (if t147 = true then ((z13.f k a1_0 a1_1 l1_2).bind fun bt148 => ((z17.f k bt128.1 bt128.2.1 bt128.2.2 bt148.1 bt148.2.1 bt148.2.2).bind fun t153 => (if t153 = true then ((laws_markSpace.f bt122.1 bt122.2.1 bt122.2.2 1).bind fun bt154 => ((laws_markSpace.f bt128.1 bt128.2.1 bt128.2.2 bt154.1).bind fun bt156 => (if bt156.1 < 0 then (some false) else ((z17.f k bt134.1 bt134.2.1 bt134.2.2.1 bt115.1 bt115.2.1 bt115.2.2.1).bind fun t158 => (if t158 = true then ((laws_markSpace.f bt134.1 bt134.2.1 bt134.2.2.1 1).bind fun bt159 => ((z23.f k bt134.1 bt134.2.1 bt159.2 1).bind fun t161 => (if t161 < 0 then (some false) else (if t161 = bt159.1 then ((z13.f k a0_0 a0_1 l0_2).bind fun bt162 => ((z13.f k a1_0 a1_1 l1_2).bind fun bt167 => ((z51.f k bt162.1 bt162.2.1 bt162.2.2 bt167.1 bt167.2.1 bt167.2.2).bind fun bt172 => ((z17.f k bt172.1 bt172.2.1 bt172.2.2.1 bt115.1 bt115.2.1 bt115.2.2.1).bind fun t179 => (if t179 = true then (if bt172.2.2.2 = bt115.2.2.2 then ((z23.f k bt134.1 bt134.2.1 bt159.2 1).bind fun t180 => (if t180 < 0 then (some false) else (if t180 = bt159.1 then (some true) else (some false)))) else (some false)) else (some false)))))) else (some false))))) else (some false)))))) else (some false)))) else (some false)))) else (some false)) else (some false))))))))))))
def z10.T8 : Bool × List (List Nat × List Nat) := (true, [([], []), ([0], [0]), ([], []), ([2, 1], [2]), ([1, 3, 3], [1, 3]), ([4], [4]), ([5], [5]), ([5], [5]), ([], []), ([8, 6, 4, 0, 1, 2, 3, 4, 5, 6, 8], [6, 8]), ([7, 9, 0, 1, 2, 3, 4, 5, 6, 7, 8, 9], [7])])
def z10.B8 : List Nat := [0, 1, 0, 7, 15, 31, 63, 63, 0, 383, 1023]
theorem z10.tab8 : rtab .any (qBt Try.f10 8) = z10.T8 := by kernel_rfl
theorem z10.bits8 : qA4 z10.T8.2 z10.B8 = true := by kernel_rfl
def z10.T31 : Bool × List (List Nat × List Nat) := (true, [([], []), ([0], [0]), ([], []), ([2, 1], [2]), ([1, 3, 3], [1, 3]), ([4], [4]), ([5], [5]), ([5], [5]), ([], []), ([8, 6, 4, 0, 1, 2, 3, 4, 5, 6, 8], [6, 8]), ([7, 9, 0, 1, 2, 3, 4, 5, 6, 7, 8, 9], [7])])
def z10.B31 : List Nat := [0, 1, 0, 7, 15, 31, 63, 63, 0, 383, 1023]
theorem z10.tab31 : rtab .any (qBt Try.f10 31) = z10.T31 := by kernel_rfl
theorem z10.bits31 : qA4 z10.T31.2 z10.B31 = true := by kernel_rfl
set_option maxHeartbeats 8000000 in
set_option maxRecDepth 100000 in
theorem z10.calls (k : Nat) (a0_0 : Int) (a0_1 : Int) (A0_2 : Option Addr) (c0_2 : Nat) (l0_2 : List (List Int)) (a1_0 : Int) (a1_1 : Int) (A1_2 : Option Addr) (c1_2 : Nat) (l1_2 : List (List Int)) (r : Bool) (w : World) (hr0_2 : Kd.C (Kd.slice 2 (Kd.int .i64)) w A0_2 l0_2.length l0_2) (hc0_2 : l0_2.length ≤ c0_2) (hr1_2 : Kd.C (Kd.slice 2 (Kd.int .i64)) w A1_2 l1_2.length l1_2) (hc1_2 : l1_2.length ≤ c1_2) (h : z10.f k a0_0 a0_1 l0_2 a1_0 a1_1 l1_2 = some r) (ht_ : r = true) :
  Calls Try.prog 10 #[.agg #[.int .i64 a0_0, .int .i64 a0_1, .slice A0_2 l0_2.length c0_2], .agg #[.int .i64 a1_0, .int .i64 a1_1, .slice A1_2 l1_2.length c1_2]] w fun e w' => e = .returned (.bool r) ∧ Below w.heap.size w w' := by
 have hu24 := Try.underlying24
 have hu29 := Try.underlying29
 have HR0_2 := Zz.mk hr0_2
 have HC0_2 := Zz.mk hc0_2
 clear hr0_2 hc0_2
 have HR1_2 := Zz.mk hr1_2
 have HC1_2 := Zz.mk hc1_2
 clear hr1_2 hc1_2
 have HB := Zz.mk (Below.refl w.heap.size w)
 have H : ((z11.f k a0_0 a0_1 l0_2 1048576).bind fun t103 => (if t103 < 0 then (some true) else ((z11.f k a1_0 a1_1 l1_2 t103).bind fun t104 => (if t104 < 0 then (some true) else ((z13.f k a0_0 a0_1 l0_2).bind fun bt105 => ((z13.f k a1_0 a1_1 l1_2).bind fun bt110 => ((z50.f k bt105.1 bt105.2.1 bt105.2.2 bt110.1 bt110.2.1 bt110.2.2).bind fun bt115 => ((z13.f k a0_0 a0_1 l0_2).bind fun bt122 => ((z13.f k a1_0 a1_1 l1_2).bind fun bt128 => ((z51.f k bt122.1 bt122.2.1 bt122.2.2 bt128.1 bt128.2.1 bt128.2.2).bind fun bt134 => ((z17.f k bt134.1 bt134.2.1 bt134.2.2.1 bt115.1 bt115.2.1 bt115.2.2.1).bind fun t141 => (if t141 = true then (if bt134.2.2.2 = bt115.2.2.2 then ((z13.f k a0_0 a0_1 l0_2).bind fun bt142 => ((z17.f k bt122.1 bt122.2.1 bt122.2.2 bt142.1 bt142.2.1 bt142.2.2).bind fun t147 => (if t147 = true then ((z13.f k a1_0 a1_1 l1_2).bind fun bt148 => ((z17.f k bt128.1 bt128.2.1 bt128.2.2 bt148.1 bt148.2.1 bt148.2.2).bind fun t153 => (if t153 = true then ((laws_markSpace.f bt122.1 bt122.2.1 bt122.2.2 1).bind fun bt154 => ((laws_markSpace.f bt128.1 bt128.2.1 bt128.2.2 bt154.1).bind fun bt156 => (if bt156.1 < 0 then (some false) else ((z17.f k bt134.1 bt134.2.1 bt134.2.2.1 bt115.1 bt115.2.1 bt115.2.2.1).bind fun t158 => (if t158 = true then ((laws_markSpace.f bt134.1 bt134.2.1 bt134.2.2.1 1).bind fun bt159 => ((z23.f k bt134.1 bt134.2.1 bt159.2 1).bind fun t161 => (if t161 < 0 then (some false) else (if t161 = bt159.1 then ((z13.f k a0_0 a0_1 l0_2).bind fun bt162 => ((z13.f k a1_0 a1_1 l1_2).bind fun bt167 => ((z51.f k bt162.1 bt162.2.1 bt162.2.2 bt167.1 bt167.2.1 bt167.2.2).bind fun bt172 => ((z17.f k bt172.1 bt172.2.1 bt172.2.2.1 bt115.1 bt115.2.1 bt115.2.2.1).bind fun t179 => (if t179 = true then (if bt172.2.2.2 = bt115.2.2.2 then ((z23.f k bt134.1 bt134.2.1 bt159.2 1).bind fun t180 => (if t180 < 0 then (some false) else (if t180 = bt159.1 then (some true) else (some false)))) else (some false)) else (some false)))))) else (some false))))) else (some false)))))) else (some false)))) else (some false)))) else (some false)) else (some false))))))))))))) = some r := h
 clear h
 replace H := OZ_ H
 obtain ⟨t103, A3, H⟩ := H
 by_cases c4 : t103 < 0
 ·rw [if_pos c4] at H
  have c4b0 : decide (t103 < 0) = true := decide_eq_true c4
  clear c4
  obtain rfl := OI_ H
  go_enter Try.func10, Try.ntmps10
  go_wp2_with (first | ((with_reducible refine qAh (N := 2) rfl ?_); refine bx_ 2 #[.int .i64 a0_0, .int .i64 a0_1, .slice A0_2 l0_2.length c0_2] 24 ?_; intro gb101 hg w5 hbox hb; have BK101 := Zz.mk (hbox); have GW101 := Zz.mk ((gw_ hg (B_ HB.out))); have GE101 := GW101; replace HB := Zz.mk (bT_ (B_ HB.out) hb); clear hb hbox hg) | ((with_reducible refine qAh (N := 3) rfl ?_); refine bx_ 3 #[.int .i64 a1_0, .int .i64 a1_1, .slice A1_2 l1_2.length c1_2] 24 ?_; intro gb102 hg w6 hbox hb; have BK102 := Zz.mk (hbox); have GW102 := Zz.mk ((gw_ hg (B1_ HB.out GE101.out))); have GE102 := GW102; have NB101_102 := Zz.mk ((nb_ BK101.out hg)); have NB102_101 := Zz.mk NB101_102.out.symm; replace BK101 := Zz.mk (kb_ BK101.out hb); replace HB := Zz.mk (bT_ (B1_ HB.out GE101.out) hb); clear hb hbox hg; have hnb7 := NB101_102.out; have hnc7 := NB102_101.out; obtain ⟨hcz8_0, hcz8_1, hcz8_2, hfz8_0, hfz8_1, hfz8_2⟩ := Z3f_ BK101.out) | ((with_reducible refine gC_ (f := 11) rfl ?_); refine GL_ (some 19) rfl rfl Try.func11 #[.agg #[.int .i64 a0_0, .int .i64 a0_1, .slice A0_2 l0_2.length c0_2], .int .i64 1048576] rfl (h := ?_); (with_reducible refine (z11.calls k a0_0 a0_1 _ _ l0_2 1048576 t103 _ ?side1 ?side2 A3.out).mono ?_); (case side1 => exact KC_ (Kd.C_below HR0_2.out HB.out)); (case side2 => exact HC0_2.out); rintro e w9 ⟨rfl, hb⟩; refine ⟨_, rfl, ?_⟩; replace BK101 := Zz.mk (kb_ BK101.out hb); replace BK102 := Zz.mk (kb_ BK102.out hb); replace HB := Zz.mk (bT_ (B2_ HB.out GE101.out GE102.out) hb); (try clear hb)))
  go_ret
  exact ⟨F_, B2_ HB.out GE101.out GE102.out⟩
 rw [if_neg c4] at H
 have c4b0 : decide (t103 < 0) = false := decide_eq_false c4
 clear c4
 replace H := OZ_ H
 obtain ⟨t104, A10, H⟩ := H
 by_cases c11 : t104 < 0
 ·rw [if_pos c11] at H
  have c11b0 : decide (t104 < 0) = true := decide_eq_true c11
  clear c11
  obtain rfl := OI_ H
  go_enter Try.func10, Try.ntmps10
  go_wp2_with (first | ((with_reducible refine qAh (N := 2) rfl ?_); refine bx_ 2 #[.int .i64 a0_0, .int .i64 a0_1, .slice A0_2 l0_2.length c0_2] 24 ?_; intro gb101 hg w12 hbox hb; have BK101 := Zz.mk (hbox); have GW101 := Zz.mk ((gw_ hg (B_ HB.out))); have GE101 := GW101; replace HB := Zz.mk (bT_ (B_ HB.out) hb); clear hb hbox hg) | ((with_reducible refine qAh (N := 3) rfl ?_); refine bx_ 3 #[.int .i64 a1_0, .int .i64 a1_1, .slice A1_2 l1_2.length c1_2] 24 ?_; intro gb102 hg w13 hbox hb; have BK102 := Zz.mk (hbox); have GW102 := Zz.mk ((gw_ hg (B1_ HB.out GE101.out))); have GE102 := GW102; have NB101_102 := Zz.mk ((nb_ BK101.out hg)); have NB102_101 := Zz.mk NB101_102.out.symm; replace BK101 := Zz.mk (kb_ BK101.out hb); replace HB := Zz.mk (bT_ (B1_ HB.out GE101.out) hb); clear hb hbox hg; have hnb14 := NB101_102.out; have hnc14 := NB102_101.out; obtain ⟨hcz15_0, hcz15_1, hcz15_2, hfz15_0, hfz15_1, hfz15_2⟩ := Z3f_ BK101.out) | ((with_reducible refine gC_ (f := 11) rfl ?_); refine GL_ (some 19) rfl rfl Try.func11 #[.agg #[.int .i64 a0_0, .int .i64 a0_1, .slice A0_2 l0_2.length c0_2], .int .i64 1048576] rfl (h := ?_); (with_reducible refine (z11.calls k a0_0 a0_1 _ _ l0_2 1048576 t103 _ ?side1 ?side2 A3.out).mono ?_); (case side1 => exact KC_ (Kd.C_below HR0_2.out HB.out)); (case side2 => exact HC0_2.out); rintro e w16 ⟨rfl, hb⟩; refine ⟨_, rfl, ?_⟩; replace BK101 := Zz.mk (kb_ BK101.out hb); replace BK102 := Zz.mk (kb_ BK102.out hb); replace HB := Zz.mk (bT_ (B2_ HB.out GE101.out GE102.out) hb); (try clear hb); obtain ⟨hcz17_0, hcz17_1, hcz17_2, hfz17_0, hfz17_1, hfz17_2⟩ := Z3f_ BK102.out) | ((with_reducible refine gC_ (f := 11) rfl ?_); refine GL_ (some 24) rfl rfl Try.func11 #[.agg #[.int .i64 a1_0, .int .i64 a1_1, .slice A1_2 l1_2.length c1_2], .int .i64 t103] rfl (h := ?_); (with_reducible refine (z11.calls k a1_0 a1_1 _ _ l1_2 t103 t104 _ ?side1 ?side2 A10.out).mono ?_); (case side1 => exact KC_ (Kd.C_below HR1_2.out HB.out)); (case side2 => exact HC1_2.out); rintro e w18 ⟨rfl, hb⟩; refine ⟨_, rfl, ?_⟩; replace BK101 := Zz.mk (kb_ BK101.out hb); replace BK102 := Zz.mk (kb_ BK102.out hb); replace HB := Zz.mk (bT_ (B2_ HB.out GE101.out GE102.out) hb); (try clear hb)))
  go_ret
  exact ⟨F_, B2_ HB.out GE101.out GE102.out⟩
 rw [if_neg c11] at H
 have c11b0 : decide (t104 < 0) = false := decide_eq_false c11
 clear c11
 replace H := OB_ H
 obtain ⟨⟨t105, t106, t107⟩, A190, H⟩ := H
 try dsimp only at H
 have A19 := Zz.mk A190
 clear A190
 replace H := OB_ H
 obtain ⟨⟨t110, t111, t112⟩, A200, H⟩ := H
 try dsimp only at H
 have A20 := Zz.mk A200
 clear A200
 replace H := OB_ H
 obtain ⟨⟨t115, t116, t117, t120⟩, A210, H⟩ := H
 try dsimp only at H
 have A21 := Zz.mk A210
 clear A210
 replace H := OB_ H
 obtain ⟨⟨t122, t123, t124⟩, A220, H⟩ := H
 try dsimp only at H
 have A22 := Zz.mk A220
 clear A220
 replace H := OB_ H
 obtain ⟨⟨t128, t129, t130⟩, A230, H⟩ := H
 try dsimp only at H
 have A23 := Zz.mk A230
 clear A230
 replace H := OB_ H
 obtain ⟨⟨t134, t135, t136, t139⟩, A240, H⟩ := H
 try dsimp only at H
 have A24 := Zz.mk A240
 clear A240
 replace H := OZ_ H
 obtain ⟨t141, A25, H⟩ := H
 by_cases c26 : t141 = true
 ·subst c26
  replace H := T_ H
  by_cases c27 : t139 = t120
  ·rw [if_pos c27] at H
   have c27b0 : (t139 == t120) = true := beq_iff_eq.mpr c27
   have c27b1 : (t139 != t120) = false := bne_eq_false_iff_eq.mpr c27
   clear c27
   replace H := OB_ H
   obtain ⟨⟨t142, t143, t144⟩, A280, H⟩ := H
   try dsimp only at H
   have A28 := Zz.mk A280
   clear A280
   replace H := OZ_ H
   obtain ⟨t147, A29, H⟩ := H
   by_cases c30 : t147 = true
   ·subst c30
    replace H := T_ H
    replace H := OB_ H
    obtain ⟨⟨t148, t149, t150⟩, A310, H⟩ := H
    try dsimp only at H
    have A31 := Zz.mk A310
    clear A310
    replace H := OZ_ H
    obtain ⟨t153, A32, H⟩ := H
    by_cases c33 : t153 = true
    ·subst c33
     replace H := T_ H
     replace H := OB_ H
     obtain ⟨⟨t154, t155⟩, A340, H⟩ := H
     try dsimp only at H
     have A34 := Zz.mk A340
     clear A340
     replace H := OB_ H
     obtain ⟨⟨t156, t157⟩, A350, H⟩ := H
     try dsimp only at H
     have A35 := Zz.mk A350
     clear A350
     by_cases c36 : t156 < 0
     ·rw [if_pos c36] at H
      have c36b0 : decide (t156 < 0) = true := decide_eq_true c36
      clear c36
      exact absurd (H.trans (congrArg some ht_)) (by simp)
     rw [if_neg c36] at H
     have c36b0 : decide (t156 < 0) = false := decide_eq_false c36
     clear c36
     replace H := OZ_ H
     obtain ⟨t158, A37, H⟩ := H
     by_cases c38 : t158 = true
     ·subst c38
      replace H := T_ H
      replace H := OB_ H
      obtain ⟨⟨t159, t160⟩, A390, H⟩ := H
      try dsimp only at H
      have A39 := Zz.mk A390
      clear A390
      replace H := OZ_ H
      obtain ⟨t161, A40, H⟩ := H
      by_cases c41 : t161 < 0
      ·rw [if_pos c41] at H
       have c41b0 : decide (t161 < 0) = true := decide_eq_true c41
       clear c41
       exact absurd (H.trans (congrArg some ht_)) (by simp)
      rw [if_neg c41] at H
      have c41b0 : decide (t161 < 0) = false := decide_eq_false c41
      clear c41
      by_cases c42 : t161 = t159
      ·rw [if_pos c42] at H
       have c42b0 : (t161 == t159) = true := beq_iff_eq.mpr c42
       have c42b1 : (t161 != t159) = false := bne_eq_false_iff_eq.mpr c42
       clear c42
       replace H := OB_ H
       obtain ⟨⟨t162, t163, t164⟩, A430, H⟩ := H
       try dsimp only at H
       have A43 := Zz.mk A430
       clear A430
       replace H := OB_ H
       obtain ⟨⟨t167, t168, t169⟩, A440, H⟩ := H
       try dsimp only at H
       have A44 := Zz.mk A440
       clear A440
       replace H := OB_ H
       obtain ⟨⟨t172, t173, t174, t177⟩, A450, H⟩ := H
       try dsimp only at H
       have A45 := Zz.mk A450
       clear A450
       replace H := OZ_ H
       obtain ⟨t179, A46, H⟩ := H
       by_cases c47 : t179 = true
       ·subst c47
        replace H := T_ H
        by_cases c48 : t177 = t120
        ·rw [if_pos c48] at H
         have c48b0 : (t177 == t120) = true := beq_iff_eq.mpr c48
         have c48b1 : (t177 != t120) = false := bne_eq_false_iff_eq.mpr c48
         clear c48
         replace H := OZ_ H
         obtain ⟨t180, A49, H⟩ := H
         by_cases c50 : t180 < 0
         ·rw [if_pos c50] at H
          have c50b0 : decide (t180 < 0) = true := decide_eq_true c50
          clear c50
          exact absurd (H.trans (congrArg some ht_)) (by simp)
         rw [if_neg c50] at H
         have c50b0 : decide (t180 < 0) = false := decide_eq_false c50
         clear c50
         by_cases c51 : t180 = t159
         ·rw [if_pos c51] at H
          have c51b0 : (t180 == t159) = true := beq_iff_eq.mpr c51
          have c51b1 : (t180 != t159) = false := bne_eq_false_iff_eq.mpr c51
          clear c51
          obtain rfl := OI_ H
          go_enter Try.func10, Try.ntmps10
          try go_wp2_with (first | ((with_reducible refine qAh (N := 2) rfl ?_); refine bx_ 2 #[.int .i64 a0_0, .int .i64 a0_1, .slice A0_2 l0_2.length c0_2] 24 ?_; intro gb101 hg w52 hbox hb; have BK101 := Zz.mk (hbox); have GW101 := Zz.mk ((gw_ hg (B_ HB.out))); have GE101 := GW101; replace HB := Zz.mk (bT_ (B_ HB.out) hb); clear hb hbox hg) | ((with_reducible refine qAh (N := 3) rfl ?_); refine bx_ 3 #[.int .i64 a1_0, .int .i64 a1_1, .slice A1_2 l1_2.length c1_2] 24 ?_; intro gb102 hg w53 hbox hb; have BK102 := Zz.mk (hbox); have GW102 := Zz.mk ((gw_ hg (B1_ HB.out GE101.out))); have GE102 := GW102; have NB101_102 := Zz.mk ((nb_ BK101.out hg)); have NB102_101 := Zz.mk NB101_102.out.symm; replace BK101 := Zz.mk (kb_ BK101.out hb); replace HB := Zz.mk (bT_ (B1_ HB.out GE101.out) hb); clear hb hbox hg; have hnb54 := NB101_102.out; have hnc54 := NB102_101.out; obtain ⟨hcz55_0, hcz55_1, hcz55_2, hfz55_0, hfz55_1, hfz55_2⟩ := Z3f_ BK101.out) | ((with_reducible refine gC_ (f := 11) rfl ?_); refine GL_ (some 19) rfl rfl Try.func11 #[.agg #[.int .i64 a0_0, .int .i64 a0_1, .slice A0_2 l0_2.length c0_2], .int .i64 1048576] rfl (h := ?_); (with_reducible refine (z11.calls k a0_0 a0_1 _ _ l0_2 1048576 t103 _ ?side1 ?side2 A3.out).mono ?_); (case side1 => exact KC_ (Kd.C_below HR0_2.out HB.out)); (case side2 => exact HC0_2.out); rintro e w56 ⟨rfl, hb⟩; refine ⟨_, rfl, ?_⟩; replace BK101 := Zz.mk (kb_ BK101.out hb); replace BK102 := Zz.mk (kb_ BK102.out hb); replace HB := Zz.mk (bT_ (B2_ HB.out GE101.out GE102.out) hb); (try clear hb); obtain ⟨hcz57_0, hcz57_1, hcz57_2, hfz57_0, hfz57_1, hfz57_2⟩ := Z3f_ BK102.out) | ((with_reducible refine gC_ (f := 11) rfl ?_); refine GL_ (some 24) rfl rfl Try.func11 #[.agg #[.int .i64 a1_0, .int .i64 a1_1, .slice A1_2 l1_2.length c1_2], .int .i64 t103] rfl (h := ?_); (with_reducible refine (z11.calls k a1_0 a1_1 _ _ l1_2 t103 t104 _ ?side1 ?side2 A10.out).mono ?_); (case side1 => exact KC_ (Kd.C_below HR1_2.out HB.out)); (case side2 => exact HC1_2.out); rintro e w58 ⟨rfl, hb⟩; refine ⟨_, rfl, ?_⟩; replace BK101 := Zz.mk (kb_ BK101.out hb); replace BK102 := Zz.mk (kb_ BK102.out hb); replace HB := Zz.mk (bT_ (B2_ HB.out GE101.out GE102.out) hb); (try clear hb)))
          replace BK101 := Zz.mk (bD_ BK101.out)
          replace BK102 := Zz.mk (bD_ BK102.out)
          replace HB := Zz.mk (qAc HB.out)
          refine qA5 (n := 11) (S := fun w' => w'.cell? ⟨gb101, 0, none⟩ = some (.int .i64 a0_0) ∧ w'.cell? ⟨gb101, 1, none⟩ = some (.int .i64 a0_1) ∧ w'.cell? ⟨gb101, 2, none⟩ = some (.slice A0_2 l0_2.length c0_2) ∧ w'.cell? ⟨gb102, 0, none⟩ = some (.int .i64 a1_0) ∧ w'.cell? ⟨gb102, 1, none⟩ = some (.int .i64 a1_1) ∧ w'.cell? ⟨gb102, 2, none⟩ = some (.slice A1_2 l1_2.length c1_2)) (ds := []) (tb_ 11 0) (by kernel_rfl) rfl rfl (Z3a_ BK101.out (Z3_ BK102.out)) (fun hHeld => ?_); refine qAw z10.tab8 z10.bits8 (fun HT_ HW_ => ?_)
          generalize w58.drew = w59 at BK101 BK102 HB hHeld ⊢
          refine TV_ (i := 0) (N := some 28) (tb_ 11 1) HT_ HW_ rfl rfl hHeld (by rintro w' ⟨s0, s1, s2, s3, s4, s5⟩; go_simp; with_reducible rfl) (h := ?_)
          refine TV_ (i := 2) (N := some 30) (tb_ 11 5) HT_ HW_ rfl rfl hHeld (by rintro w' ⟨s0, s1, s2, s3, s4, s5⟩; go_simp; with_reducible rfl) (h := ?_)
          refine qDa (σ := Value × Value × Value × Nat) 2 (tb_ 11 511) (fun s_ => [(29, .agg #[.int .i64 t105, .int .i64 t106, s_.1]), (31, .agg #[.int .i64 t110, .int .i64 t111, s_.2.1]), (32, .tuple #[.agg #[.int .i64 t115, .int .i64 t116, s_.2.2.1], .int .i64 t120]), (6, .pointer (some ⟨s_.2.2.2, 0, none⟩)), (27, .tuple #[.agg #[.int .i64 t115, .int .i64 t116, s_.2.2.1], .int .i64 t120]), (33, .agg #[.int .i64 t115, .int .i64 t116, s_.2.2.1]), (34, .int .i64 t120)]) (fun s_ w' => (w'.cell? ⟨gb101, 0, none⟩ = some (.int .i64 a0_0) ∧ w'.cell? ⟨gb101, 1, none⟩ = some (.int .i64 a0_1) ∧ w'.cell? ⟨gb101, 2, none⟩ = some (.slice A0_2 l0_2.length c0_2) ∧ w'.cell? ⟨gb102, 0, none⟩ = some (.int .i64 a1_0) ∧ w'.cell? ⟨gb102, 1, none⟩ = some (.int .i64 a1_1) ∧ w'.cell? ⟨gb102, 2, none⟩ = some (.slice A1_2 l1_2.length c1_2)) ∧ (Kd.S (Kd.slice 2 (Kd.int .i64)) 25 w' w.heap.size (fun k_ => some k_ ≠ (s_.2.1 : Value).ownBlock ∧ some k_ ≠ (s_.2.2.1 : Value).ownBlock) s_.1 t107) ∧ (Kd.S (Kd.slice 2 (Kd.int .i64)) 25 w' w.heap.size (fun k_ => some k_ ≠ (s_.1 : Value).ownBlock ∧ some k_ ≠ (s_.2.2.1 : Value).ownBlock) s_.2.1 t112) ∧ (Kd.S (Kd.slice 2 (Kd.int .i64)) 25 w' w.heap.size (fun k_ => some k_ ≠ (s_.1 : Value).ownBlock ∧ some k_ ≠ (s_.2.1 : Value).ownBlock) s_.2.2.1 t117) ∧ (w'.heap[gb101]? = some (.cells #[.int .i64 a0_0, .int .i64 a0_1, .slice A0_2 l0_2.length c0_2] 24 (0, 0))) ∧ (w'.heap[gb102]? = some (.cells #[.int .i64 a1_0, .int .i64 a1_1, .slice A1_2 l1_2.length c1_2] 24 (0, 0))) ∧ (w'.heap[s_.2.2.2]? = some (.cells #[.int .i64 0, .int .i64 0, .slice none 0 0] 29 (0, 0))) ∧ (w.heap.size ≤ s_.2.2.2) ∧ (w.heap.size ≤ s_.2.2.2) ∧ (gb101 ≠ s_.2.2.2) ∧ (s_.2.2.2 ≠ gb101) ∧ (gb102 ≠ s_.2.2.2) ∧ (s_.2.2.2 ≠ gb102) ∧ (Below w.heap.size w w')) ?_ ?_
          rotate_left
          ·intro hCont
           refine two_ (i := 1) (j := 8) (Ni := some 29) (Nj := some 6) (tb_ 11 7) (tb_ 11 261) rfl rfl rfl rfl (qB3 HT_.out (by kernel_rfl)) (by decide) (by decide) (fun K hK => ?_) (fun K hK => ?_)
           ·skip
            refine GO_ Try.func13 #[.agg #[.int .i64 a0_0, .int .i64 a0_1, .slice A0_2 l0_2.length c0_2]] (h := ?_)
            with_reducible refine (z13.calls k a0_0 a0_1 _ _ l0_2 t105 t106 t107 _ ?side1 ?side2 A19.out).mono ?_
            (case side1 => exact KC_ (Kd.C_below HR0_2.out HB.out))
            (case side2 => exact HC0_2.out)
            rintro e w60 ⟨v108, rfl, ho0, hb⟩
            refine ⟨_, rfl, ?_⟩
            obtain ⟨nan61, hnan61⟩ := Kd.size_letter hb
            have HO109 := Zz.mk (Kd.S_lower (Kd.S_geN ho0 hnan61) (bS_ (B2_ HB.out GE101.out GE102.out)))
            replace BK101 := Zz.mk (kb_ BK101.out hb)
            replace BK102 := Zz.mk (kb_ BK102.out hb)
            replace HB := Zz.mk (bT_ (B2_ HB.out GE101.out GE102.out) hb)
            (try clear hb);(try clear ho0)
            refine hK.out _ _ (Z3a_ BK101.out (Z3_ BK102.out)) (fun hHeld => ?_)
            clear hK K
            refine NM_ (N := (some 29)) (h := ?_)
            refine two_ (i := 3) (j := 8) (Ni := some 31) (Nj := some 6) (tb_ 11 15) (tb_ 11 263) rfl rfl rfl rfl (qB3 HT_.out (by kernel_rfl)) (by decide) (by decide) (fun K hK => ?_) (fun K hK => ?_)
            ·skip
             refine GO_ Try.func13 #[.agg #[.int .i64 a1_0, .int .i64 a1_1, .slice A1_2 l1_2.length c1_2]] (h := ?_)
             with_reducible refine (z13.calls k a1_0 a1_1 _ _ l1_2 t110 t111 t112 _ ?side1 ?side2 A20.out).mono ?_
             (case side1 => exact KC_ (Kd.C_below HR1_2.out HB.out))
             (case side2 => exact HC1_2.out)
             rintro e w62 ⟨v113, rfl, ho0, hb⟩
             refine ⟨_, rfl, ?_⟩
             obtain ⟨nan63, hnan63⟩ := Kd.size_letter hb
             have HO114 := Zz.mk (Kd.S_lower (Kd.S_geN (Kd.S_new' ho0 (Kd.S_lt (KS_ HO109.out))) hnan63) (bS_ (B2_ HB.out GE101.out GE102.out)))
             replace HO109 := Zz.mk (tl_ HO109.out hb hnan63 ho0)
             replace BK101 := Zz.mk (kb_ BK101.out hb)
             replace BK102 := Zz.mk (kb_ BK102.out hb)
             replace HB := Zz.mk (bT_ (B2_ HB.out GE101.out GE102.out) hb)
             (try clear hb);(try clear ho0)
             obtain ⟨Ao64, co64, eo64⟩ := Kd.S_slice HO109.out
             (first | subst eo64 | obtain ⟨rfl, rfl⟩ := sl_ eo64)
             obtain ⟨Ao65, co65, eo65⟩ := Kd.S_slice HO114.out
             (first | subst eo65 | obtain ⟨rfl, rfl⟩ := sl_ eo65)
             refine hK.out _ _ (Z3a_ BK101.out (Z3_ BK102.out)) (fun hHeld => ?_)
             clear hK K
             refine NM_ (N := (some 31)) (h := ?_)
             refine two_ (i := 4) (j := 8) (Ni := some 32) (Nj := some 6) (tb_ 11 31) (tb_ 11 271) rfl rfl rfl rfl (qB3 HT_.out (by kernel_rfl)) (by decide) (by decide) (fun K hK => ?_) (fun K hK => ?_)
             ·skip
              refine GO_ Try.func50 #[.agg #[.int .i64 t105, .int .i64 t106, .slice Ao64 t107.length co64], .agg #[.int .i64 t110, .int .i64 t111, .slice Ao65 t112.length co65]] (h := ?_)
              with_reducible refine (z50.calls k t105 t106 _ _ t107 t110 t111 _ _ t112 t115 t116 t117 t120 _ ?side1 ?side2 ?side3 ?side4 A21.out).mono ?_
              (case side1 => exact KC_ (Kd.S_reads' HO109.out).2.2)
              (case side2 => exact (Kd.S_reads' HO109.out).2.1)
              (case side3 => exact KC_ (Kd.S_reads' HO114.out).2.2)
              (case side4 => exact (Kd.S_reads' HO114.out).2.1)
              rintro e w66 ⟨v118, rfl, ho0, hb⟩
              refine ⟨_, rfl, ?_⟩
              obtain ⟨nan67, hnan67⟩ := Kd.size_letter hb
              have HO119 := Zz.mk (Kd.S_lower (Kd.S_geN (Kd.S_new' (Kd.S_new' ho0 (Kd.S_lt (KS_ HO109.out))) (Kd.S_lt (KS_ HO114.out))) hnan67) (bS_ (B2_ HB.out GE101.out GE102.out)))
              replace HO109 := Zz.mk (tl_ HO109.out hb hnan67 ho0)
              replace HO114 := Zz.mk (tl_ HO114.out hb hnan67 ho0)
              replace BK101 := Zz.mk (kb_ BK101.out hb)
              replace BK102 := Zz.mk (kb_ BK102.out hb)
              replace HB := Zz.mk (bT_ (B2_ HB.out GE101.out GE102.out) hb)
              (try clear hb);(try clear ho0)
              refine hK.out _ _ (Z3a_ BK101.out (Z3_ BK102.out)) (fun hHeld => ?_)
              clear hK K
              refine NM_ (N := (some 32)) (h := ?_)
              refine PX_ 5 27 (tb_ 11 63) HT_ rfl rfl ?_
              refine PX_ 6 33 (tb_ 11 127) HT_ rfl rfl ?_
              refine PX_ 7 34 (tb_ 11 255) HT_ rfl rfl ?_
              refine one_ (i := 8) (N := some 6) (tb_ 11 511) rfl rfl (qAr HT_.out (by kernel_rfl)) (by decide) (fun K hK => ?_)
              refine by_ 6 #[.int .i64 0, .int .i64 0, .slice none 0 0] 29 ?_
              intro gb121 hg w68 hbox hb
              have BK121 := Zz.mk (hbox)
              have GW121 := Zz.mk ((gw_ hg (B2_ HB.out GE101.out GE102.out)))
              have GE121 := GW121
              have NB101_121 := Zz.mk ((nb_ BK101.out hg))
              have NB121_101 := Zz.mk NB101_121.out.symm
              have NB102_121 := Zz.mk ((nb_ BK102.out hg))
              have NB121_102 := Zz.mk NB102_121.out.symm
              replace HO109 := Zz.mk (Kd.S_below (KS_ HO109.out) hb)
              replace HO114 := Zz.mk (Kd.S_below (KS_ HO114.out) hb)
              replace HO119 := Zz.mk (Kd.S_below (KS_ HO119.out) hb)
              replace BK101 := Zz.mk (kb_ BK101.out hb)
              replace BK102 := Zz.mk (kb_ BK102.out hb)
              replace HB := Zz.mk (bT_ (B2_ HB.out GE101.out GE102.out) hb)
              clear hb hbox hg
              refine hK.out _ _ (Z3a_ BK101.out (Z3_ BK102.out)) (fun hHeld => ?_)
              clear hK K
              refine NM_ (N := (some 6)) (h := ?_)
              exact qBf (by simp only [qA1, Act.put, List.setIfInBounds_toArray, List.set_cons_zero, List.set_cons_succ]) (hCont (.slice Ao64 t107.length co64, .slice Ao65 t112.length co65, v118, gb121) _ ⟨hHeld, (by refine SW_ ?_; exact Kd.S_mono HO109.out (fun _ hk => ⟨hk.1.1.1.2, hk.1.2⟩)), (by refine SW_ ?_; exact Kd.S_mono HO114.out (fun _ hk => ⟨hk.1.1.1.2, hk.1.2⟩)), (by refine SW_ ?_; exact Kd.S_mono HO119.out (fun _ hk => ⟨hk.1.1.2, hk.1.2⟩)), (KB_ BK101.out), (KB_ BK102.out), (KB_ BK121.out), GW121.out, GE121.out, NB101_121.out, NB121_101.out, NB102_121.out, NB121_102.out, (B3_ HB.out GE101.out GE102.out GE121.out)⟩)
             skip
             refine by_ 6 #[.int .i64 0, .int .i64 0, .slice none 0 0] 29 ?_
             intro gb121 hg w64 hbox hb
             have BK121 := Zz.mk (hbox)
             have GW121 := Zz.mk ((gw_ hg (B2_ HB.out GE101.out GE102.out)))
             have GE121 := GW121
             have NB101_121 := Zz.mk ((nb_ BK101.out hg))
             have NB121_101 := Zz.mk NB101_121.out.symm
             have NB102_121 := Zz.mk ((nb_ BK102.out hg))
             have NB121_102 := Zz.mk NB102_121.out.symm
             replace HO109 := Zz.mk (Kd.S_below (KS_ HO109.out) hb)
             replace HO114 := Zz.mk (Kd.S_below (KS_ HO114.out) hb)
             replace BK101 := Zz.mk (kb_ BK101.out hb)
             replace BK102 := Zz.mk (kb_ BK102.out hb)
             replace HB := Zz.mk (bT_ (B2_ HB.out GE101.out GE102.out) hb)
             clear hb hbox hg
             obtain ⟨Ao65, co65, eo65⟩ := Kd.S_slice HO109.out
             (first | subst eo65 | obtain ⟨rfl, rfl⟩ := sl_ eo65)
             obtain ⟨Ao66, co66, eo66⟩ := Kd.S_slice HO114.out
             (first | subst eo66 | obtain ⟨rfl, rfl⟩ := sl_ eo66)
             refine hK.out _ _ (Z3a_ BK101.out (Z3_ BK102.out)) (fun hHeld => ?_)
             clear hK K
             refine NM_ (N := (some 6)) (h := ?_)
             refine one_ (i := 4) (N := some 32) (tb_ 11 287) rfl rfl (qAr HT_.out (by kernel_rfl)) (by decide) (fun K hK => ?_)
             refine GO_ Try.func50 #[.agg #[.int .i64 t105, .int .i64 t106, .slice Ao65 t107.length co65], .agg #[.int .i64 t110, .int .i64 t111, .slice Ao66 t112.length co66]] (h := ?_)
             with_reducible refine (z50.calls k t105 t106 _ _ t107 t110 t111 _ _ t112 t115 t116 t117 t120 _ ?side1 ?side2 ?side3 ?side4 A21.out).mono ?_
             (case side1 => exact KC_ (Kd.S_reads' HO109.out).2.2)
             (case side2 => exact (Kd.S_reads' HO109.out).2.1)
             (case side3 => exact KC_ (Kd.S_reads' HO114.out).2.2)
             (case side4 => exact (Kd.S_reads' HO114.out).2.1)
             rintro e w67 ⟨v118, rfl, ho0, hb⟩
             refine ⟨_, rfl, ?_⟩
             obtain ⟨nan68, hnan68⟩ := Kd.size_letter hb
             have HO119 := Zz.mk (Kd.S_lower (Kd.S_geN (Kd.S_new' (Kd.S_new' ho0 (Kd.S_lt (KS_ HO109.out))) (Kd.S_lt (KS_ HO114.out))) hnan68) (bS_ (B3_ HB.out GE101.out GE102.out GE121.out)))
             replace HO109 := Zz.mk (tl_ HO109.out hb hnan68 ho0)
             replace HO114 := Zz.mk (tl_ HO114.out hb hnan68 ho0)
             replace BK101 := Zz.mk (kb_ BK101.out hb)
             replace BK102 := Zz.mk (kb_ BK102.out hb)
             replace BK121 := Zz.mk (kb_ BK121.out hb)
             replace HB := Zz.mk (bT_ (B3_ HB.out GE101.out GE102.out GE121.out) hb)
             (try clear hb);(try clear ho0)
             refine hK.out _ _ (Z3a_ BK101.out (Z3_ BK102.out)) (fun hHeld => ?_)
             clear hK K
             refine NM_ (N := (some 32)) (h := ?_)
             refine PX_ 5 27 (tb_ 11 319) HT_ rfl rfl ?_
             refine PX_ 6 33 (tb_ 11 383) HT_ rfl rfl ?_
             refine PX_ 7 34 (tb_ 11 511) HT_ rfl rfl ?_
             exact qBf (by simp only [qA1, Act.put, List.setIfInBounds_toArray, List.set_cons_zero, List.set_cons_succ]) (hCont (.slice Ao65 t107.length co65, .slice Ao66 t112.length co66, v118, gb121) _ ⟨hHeld, (by refine SW_ ?_; exact Kd.S_mono HO109.out (fun _ hk => ⟨hk.1.1.1.2, hk.1.2⟩)), (by refine SW_ ?_; exact Kd.S_mono HO114.out (fun _ hk => ⟨hk.1.1.1.2, hk.1.2⟩)), (by refine SW_ ?_; exact Kd.S_mono HO119.out (fun _ hk => ⟨hk.1.1.2, hk.1.2⟩)), (KB_ BK101.out), (KB_ BK102.out), (KB_ BK121.out), GW121.out, GE121.out, NB101_121.out, NB121_101.out, NB102_121.out, NB121_102.out, (B3_ HB.out GE101.out GE102.out GE121.out)⟩)
            skip
            refine by_ 6 #[.int .i64 0, .int .i64 0, .slice none 0 0] 29 ?_
            intro gb121 hg w62 hbox hb
            have BK121 := Zz.mk (hbox)
            have GW121 := Zz.mk ((gw_ hg (B2_ HB.out GE101.out GE102.out)))
            have GE121 := GW121
            have NB101_121 := Zz.mk ((nb_ BK101.out hg))
            have NB121_101 := Zz.mk NB101_121.out.symm
            have NB102_121 := Zz.mk ((nb_ BK102.out hg))
            have NB121_102 := Zz.mk NB102_121.out.symm
            replace HO109 := Zz.mk (Kd.S_below (KS_ HO109.out) hb)
            replace BK101 := Zz.mk (kb_ BK101.out hb)
            replace BK102 := Zz.mk (kb_ BK102.out hb)
            replace HB := Zz.mk (bT_ (B2_ HB.out GE101.out GE102.out) hb)
            clear hb hbox hg
            refine hK.out _ _ (Z3a_ BK101.out (Z3_ BK102.out)) (fun hHeld => ?_)
            clear hK K
            refine NM_ (N := (some 6)) (h := ?_)
            refine one_ (i := 3) (N := some 31) (tb_ 11 271) rfl rfl (qAr HT_.out (by kernel_rfl)) (by decide) (fun K hK => ?_)
            refine GO_ Try.func13 #[.agg #[.int .i64 a1_0, .int .i64 a1_1, .slice A1_2 l1_2.length c1_2]] (h := ?_)
            with_reducible refine (z13.calls k a1_0 a1_1 _ _ l1_2 t110 t111 t112 _ ?side1 ?side2 A20.out).mono ?_
            (case side1 => exact KC_ (Kd.C_below HR1_2.out HB.out))
            (case side2 => exact HC1_2.out)
            rintro e w63 ⟨v113, rfl, ho0, hb⟩
            refine ⟨_, rfl, ?_⟩
            obtain ⟨nan64, hnan64⟩ := Kd.size_letter hb
            have HO114 := Zz.mk (Kd.S_lower (Kd.S_geN (Kd.S_new' ho0 (Kd.S_lt (KS_ HO109.out))) hnan64) (bS_ (B3_ HB.out GE101.out GE102.out GE121.out)))
            replace HO109 := Zz.mk (tl_ HO109.out hb hnan64 ho0)
            replace BK101 := Zz.mk (kb_ BK101.out hb)
            replace BK102 := Zz.mk (kb_ BK102.out hb)
            replace BK121 := Zz.mk (kb_ BK121.out hb)
            replace HB := Zz.mk (bT_ (B3_ HB.out GE101.out GE102.out GE121.out) hb)
            (try clear hb);(try clear ho0)
            obtain ⟨Ao65, co65, eo65⟩ := Kd.S_slice HO109.out
            (first | subst eo65 | obtain ⟨rfl, rfl⟩ := sl_ eo65)
            obtain ⟨Ao66, co66, eo66⟩ := Kd.S_slice HO114.out
            (first | subst eo66 | obtain ⟨rfl, rfl⟩ := sl_ eo66)
            refine hK.out _ _ (Z3a_ BK101.out (Z3_ BK102.out)) (fun hHeld => ?_)
            clear hK K
            refine NM_ (N := (some 31)) (h := ?_)
            refine one_ (i := 4) (N := some 32) (tb_ 11 287) rfl rfl (qAr HT_.out (by kernel_rfl)) (by decide) (fun K hK => ?_)
            refine GO_ Try.func50 #[.agg #[.int .i64 t105, .int .i64 t106, .slice Ao65 t107.length co65], .agg #[.int .i64 t110, .int .i64 t111, .slice Ao66 t112.length co66]] (h := ?_)
            with_reducible refine (z50.calls k t105 t106 _ _ t107 t110 t111 _ _ t112 t115 t116 t117 t120 _ ?side1 ?side2 ?side3 ?side4 A21.out).mono ?_
            (case side1 => exact KC_ (Kd.S_reads' HO109.out).2.2)
            (case side2 => exact (Kd.S_reads' HO109.out).2.1)
            (case side3 => exact KC_ (Kd.S_reads' HO114.out).2.2)
            (case side4 => exact (Kd.S_reads' HO114.out).2.1)
            rintro e w67 ⟨v118, rfl, ho0, hb⟩
            refine ⟨_, rfl, ?_⟩
            obtain ⟨nan68, hnan68⟩ := Kd.size_letter hb
            have HO119 := Zz.mk (Kd.S_lower (Kd.S_geN (Kd.S_new' (Kd.S_new' ho0 (Kd.S_lt (KS_ HO109.out))) (Kd.S_lt (KS_ HO114.out))) hnan68) (bS_ (B3_ HB.out GE101.out GE102.out GE121.out)))
            replace HO109 := Zz.mk (tl_ HO109.out hb hnan68 ho0)
            replace HO114 := Zz.mk (tl_ HO114.out hb hnan68 ho0)
            replace BK101 := Zz.mk (kb_ BK101.out hb)
            replace BK102 := Zz.mk (kb_ BK102.out hb)
            replace BK121 := Zz.mk (kb_ BK121.out hb)
            replace HB := Zz.mk (bT_ (B3_ HB.out GE101.out GE102.out GE121.out) hb)
            (try clear hb);(try clear ho0)
            refine hK.out _ _ (Z3a_ BK101.out (Z3_ BK102.out)) (fun hHeld => ?_)
            clear hK K
            refine NM_ (N := (some 32)) (h := ?_)
            refine PX_ 5 27 (tb_ 11 319) HT_ rfl rfl ?_
            refine PX_ 6 33 (tb_ 11 383) HT_ rfl rfl ?_
            refine PX_ 7 34 (tb_ 11 511) HT_ rfl rfl ?_
            exact qBf (by simp only [qA1, Act.put, List.setIfInBounds_toArray, List.set_cons_zero, List.set_cons_succ]) (hCont (.slice Ao65 t107.length co65, .slice Ao66 t112.length co66, v118, gb121) _ ⟨hHeld, (by refine SW_ ?_; exact Kd.S_mono HO109.out (fun _ hk => ⟨hk.1.1.1.2, hk.1.2⟩)), (by refine SW_ ?_; exact Kd.S_mono HO114.out (fun _ hk => ⟨hk.1.1.1.2, hk.1.2⟩)), (by refine SW_ ?_; exact Kd.S_mono HO119.out (fun _ hk => ⟨hk.1.1.2, hk.1.2⟩)), (KB_ BK101.out), (KB_ BK102.out), (KB_ BK121.out), GW121.out, GE121.out, NB101_121.out, NB121_101.out, NB102_121.out, NB121_102.out, (B3_ HB.out GE101.out GE102.out GE121.out)⟩)
           skip
           refine by_ 6 #[.int .i64 0, .int .i64 0, .slice none 0 0] 29 ?_
           intro gb121 hg w60 hbox hb
           have BK121 := Zz.mk (hbox)
           have GW121 := Zz.mk ((gw_ hg (B2_ HB.out GE101.out GE102.out)))
           have GE121 := GW121
           have NB101_121 := Zz.mk ((nb_ BK101.out hg))
           have NB121_101 := Zz.mk NB101_121.out.symm
           have NB102_121 := Zz.mk ((nb_ BK102.out hg))
           have NB121_102 := Zz.mk NB102_121.out.symm
           replace BK101 := Zz.mk (kb_ BK101.out hb)
           replace BK102 := Zz.mk (kb_ BK102.out hb)
           replace HB := Zz.mk (bT_ (B2_ HB.out GE101.out GE102.out) hb)
           clear hb hbox hg
           refine hK.out _ _ (Z3a_ BK101.out (Z3_ BK102.out)) (fun hHeld => ?_)
           clear hK K
           refine NM_ (N := (some 6)) (h := ?_)
           refine one_ (i := 1) (N := some 29) (tb_ 11 263) rfl rfl (qAr HT_.out (by kernel_rfl)) (by decide) (fun K hK => ?_)
           refine GO_ Try.func13 #[.agg #[.int .i64 a0_0, .int .i64 a0_1, .slice A0_2 l0_2.length c0_2]] (h := ?_)
           with_reducible refine (z13.calls k a0_0 a0_1 _ _ l0_2 t105 t106 t107 _ ?side1 ?side2 A19.out).mono ?_
           (case side1 => exact KC_ (Kd.C_below HR0_2.out HB.out))
           (case side2 => exact HC0_2.out)
           rintro e w61 ⟨v108, rfl, ho0, hb⟩
           refine ⟨_, rfl, ?_⟩
           obtain ⟨nan62, hnan62⟩ := Kd.size_letter hb
           have HO109 := Zz.mk (Kd.S_lower (Kd.S_geN ho0 hnan62) (bS_ (B3_ HB.out GE101.out GE102.out GE121.out)))
           replace BK101 := Zz.mk (kb_ BK101.out hb)
           replace BK102 := Zz.mk (kb_ BK102.out hb)
           replace BK121 := Zz.mk (kb_ BK121.out hb)
           replace HB := Zz.mk (bT_ (B3_ HB.out GE101.out GE102.out GE121.out) hb)
           (try clear hb);(try clear ho0)
           refine hK.out _ _ (Z3a_ BK101.out (Z3_ BK102.out)) (fun hHeld => ?_)
           clear hK K
           refine NM_ (N := (some 29)) (h := ?_)
           refine one_ (i := 3) (N := some 31) (tb_ 11 271) rfl rfl (qAr HT_.out (by kernel_rfl)) (by decide) (fun K hK => ?_)
           refine GO_ Try.func13 #[.agg #[.int .i64 a1_0, .int .i64 a1_1, .slice A1_2 l1_2.length c1_2]] (h := ?_)
           with_reducible refine (z13.calls k a1_0 a1_1 _ _ l1_2 t110 t111 t112 _ ?side1 ?side2 A20.out).mono ?_
           (case side1 => exact KC_ (Kd.C_below HR1_2.out HB.out))
           (case side2 => exact HC1_2.out)
           rintro e w63 ⟨v113, rfl, ho0, hb⟩
           refine ⟨_, rfl, ?_⟩
           obtain ⟨nan64, hnan64⟩ := Kd.size_letter hb
           have HO114 := Zz.mk (Kd.S_lower (Kd.S_geN (Kd.S_new' ho0 (Kd.S_lt (KS_ HO109.out))) hnan64) (bS_ (B3_ HB.out GE101.out GE102.out GE121.out)))
           replace HO109 := Zz.mk (tl_ HO109.out hb hnan64 ho0)
           replace BK101 := Zz.mk (kb_ BK101.out hb)
           replace BK102 := Zz.mk (kb_ BK102.out hb)
           replace BK121 := Zz.mk (kb_ BK121.out hb)
           replace HB := Zz.mk (bT_ (B3_ HB.out GE101.out GE102.out GE121.out) hb)
           (try clear hb);(try clear ho0)
           obtain ⟨Ao65, co65, eo65⟩ := Kd.S_slice HO109.out
           (first | subst eo65 | obtain ⟨rfl, rfl⟩ := sl_ eo65)
           obtain ⟨Ao66, co66, eo66⟩ := Kd.S_slice HO114.out
           (first | subst eo66 | obtain ⟨rfl, rfl⟩ := sl_ eo66)
           refine hK.out _ _ (Z3a_ BK101.out (Z3_ BK102.out)) (fun hHeld => ?_)
           clear hK K
           refine NM_ (N := (some 31)) (h := ?_)
           refine one_ (i := 4) (N := some 32) (tb_ 11 287) rfl rfl (qAr HT_.out (by kernel_rfl)) (by decide) (fun K hK => ?_)
           refine GO_ Try.func50 #[.agg #[.int .i64 t105, .int .i64 t106, .slice Ao65 t107.length co65], .agg #[.int .i64 t110, .int .i64 t111, .slice Ao66 t112.length co66]] (h := ?_)
           with_reducible refine (z50.calls k t105 t106 _ _ t107 t110 t111 _ _ t112 t115 t116 t117 t120 _ ?side1 ?side2 ?side3 ?side4 A21.out).mono ?_
           (case side1 => exact KC_ (Kd.S_reads' HO109.out).2.2)
           (case side2 => exact (Kd.S_reads' HO109.out).2.1)
           (case side3 => exact KC_ (Kd.S_reads' HO114.out).2.2)
           (case side4 => exact (Kd.S_reads' HO114.out).2.1)
           rintro e w67 ⟨v118, rfl, ho0, hb⟩
           refine ⟨_, rfl, ?_⟩
           obtain ⟨nan68, hnan68⟩ := Kd.size_letter hb
           have HO119 := Zz.mk (Kd.S_lower (Kd.S_geN (Kd.S_new' (Kd.S_new' ho0 (Kd.S_lt (KS_ HO109.out))) (Kd.S_lt (KS_ HO114.out))) hnan68) (bS_ (B3_ HB.out GE101.out GE102.out GE121.out)))
           replace HO109 := Zz.mk (tl_ HO109.out hb hnan68 ho0)
           replace HO114 := Zz.mk (tl_ HO114.out hb hnan68 ho0)
           replace BK101 := Zz.mk (kb_ BK101.out hb)
           replace BK102 := Zz.mk (kb_ BK102.out hb)
           replace BK121 := Zz.mk (kb_ BK121.out hb)
           replace HB := Zz.mk (bT_ (B3_ HB.out GE101.out GE102.out GE121.out) hb)
           (try clear hb);(try clear ho0)
           refine hK.out _ _ (Z3a_ BK101.out (Z3_ BK102.out)) (fun hHeld => ?_)
           clear hK K
           refine NM_ (N := (some 32)) (h := ?_)
           refine PX_ 5 27 (tb_ 11 319) HT_ rfl rfl ?_
           refine PX_ 6 33 (tb_ 11 383) HT_ rfl rfl ?_
           refine PX_ 7 34 (tb_ 11 511) HT_ rfl rfl ?_
           exact qBf (by simp only [qA1, Act.put, List.setIfInBounds_toArray, List.set_cons_zero, List.set_cons_succ]) (hCont (.slice Ao65 t107.length co65, .slice Ao66 t112.length co66, v118, gb121) _ ⟨hHeld, (by refine SW_ ?_; exact Kd.S_mono HO109.out (fun _ hk => ⟨hk.1.1.1.2, hk.1.2⟩)), (by refine SW_ ?_; exact Kd.S_mono HO114.out (fun _ hk => ⟨hk.1.1.1.2, hk.1.2⟩)), (by refine SW_ ?_; exact Kd.S_mono HO119.out (fun _ hk => ⟨hk.1.1.2, hk.1.2⟩)), (KB_ BK101.out), (KB_ BK102.out), (KB_ BK121.out), GW121.out, GE121.out, NB101_121.out, NB121_101.out, NB102_121.out, NB121_102.out, (B3_ HB.out GE101.out GE102.out GE121.out)⟩)
          rintro ⟨v108, v113, v118, gb121⟩ w69 ⟨hS_, h0_, h1_, h2_, h3_, h4_, h5_, h6_, h7_, h8_, h9_, h10_, h11_, h12_⟩
          have HO109 : Zz (Kd.S (Kd.slice 2 (Kd.int .i64)) 25 w69 w.heap.size (fun k_ => some k_ ≠ (v113 : Value).ownBlock ∧ some k_ ≠ (v118 : Value).ownBlock) v108 t107) := ⟨h0_⟩
          have HO114 : Zz (Kd.S (Kd.slice 2 (Kd.int .i64)) 25 w69 w.heap.size (fun k_ => some k_ ≠ (v108 : Value).ownBlock ∧ some k_ ≠ (v118 : Value).ownBlock) v113 t112) := ⟨h1_⟩
          have HO119 : Zz (Kd.S (Kd.slice 2 (Kd.int .i64)) 25 w69 w.heap.size (fun k_ => some k_ ≠ (v108 : Value).ownBlock ∧ some k_ ≠ (v113 : Value).ownBlock) v118 t117) := ⟨h2_⟩
          have BK121 : Zz (w69.heap[gb121]? = some (.cells #[.int .i64 0, .int .i64 0, .slice none 0 0] 29 (0, 0))) := ⟨h5_⟩
          have GW121 : Zz (w.heap.size ≤ gb121) := ⟨h6_⟩
          have GE121 : Zz (w.heap.size ≤ gb121) := ⟨h7_⟩
          have NB101_121 : Zz (gb101 ≠ gb121) := ⟨h8_⟩
          have NB121_101 : Zz (gb121 ≠ gb101) := ⟨h9_⟩
          have NB102_121 : Zz (gb102 ≠ gb121) := ⟨h10_⟩
          have NB121_102 : Zz (gb121 ≠ gb102) := ⟨h11_⟩
          replace BK101 : Zz (w69.heap[gb101]? = some (.cells #[.int .i64 a0_0, .int .i64 a0_1, .slice A0_2 l0_2.length c0_2] 24 (0, 0))) := ⟨h3_⟩
          replace BK102 : Zz (w69.heap[gb102]? = some (.cells #[.int .i64 a1_0, .int .i64 a1_1, .slice A1_2 l1_2.length c1_2] 24 (0, 0))) := ⟨h4_⟩
          replace HB : Zz (Below w.heap.size w w69) := ⟨h12_⟩
          (try clear h0_)
          (try clear h1_)
          (try clear h2_)
          (try clear h3_)
          (try clear h4_)
          (try clear h5_)
          (try clear h6_)
          (try clear h7_)
          (try clear h8_)
          (try clear h9_)
          (try clear h10_)
          (try clear h11_)
          (try clear h12_)
          have hHeld : w69.cell? ⟨gb101, 0, none⟩ = some (.int .i64 a0_0) ∧ w69.cell? ⟨gb101, 1, none⟩ = some (.int .i64 a0_1) ∧ w69.cell? ⟨gb101, 2, none⟩ = some (.slice A0_2 l0_2.length c0_2) ∧ w69.cell? ⟨gb102, 0, none⟩ = some (.int .i64 a1_0) ∧ w69.cell? ⟨gb102, 1, none⟩ = some (.int .i64 a1_1) ∧ w69.cell? ⟨gb102, 2, none⟩ = some (.slice A1_2 l1_2.length c1_2) := hS_
          obtain ⟨Ao72, co72, eo72⟩ := Kd.S_slice HO119.out
          (first | subst eo72 | obtain ⟨rfl, rfl⟩ := sl_ eo72)
          refine qBf (a' := ?_) ?_ ?_
          rotate_left
          ·simp only [qA1, Act.put, List.setIfInBounds_toArray, List.set_cons_zero, List.set_cons_succ]
           rfl
          refine one_ (i := 9) (N := none) (tb_ 11 1023) rfl rfl (qAr HT_.out (by kernel_rfl)) (by decide) (fun K hK => ?_)
          have hs70 : w69.cell? ⟨gb121, 0, none⟩ = some (.int .i64 0) := (bC_ BK121.out 0).trans rfl
          have hfs70 := bF_ BK121.out 0
          have hns70_0 := NB101_121.out
          have hns70_1 := NB102_121.out
          have hms70_0 := NB121_101.out
          have hms70_1 := NB121_102.out
          have hs71 : w69.cell? ⟨gb121, 1, none⟩ = some (.int .i64 0) := (bC_ BK121.out 1).trans rfl
          have hfs71 := bF_ BK121.out 1
          have hns71_0 := NB101_121.out
          have hns71_1 := NB102_121.out
          have hms71_0 := NB121_101.out
          have hms71_1 := NB121_102.out
          have hs73 : w69.cell? ⟨gb121, 2, none⟩ = some (.slice none 0 0) := (bC_ BK121.out 2).trans rfl
          have hfs73 := bF_ BK121.out 2
          have hns73_0 := NB101_121.out
          have hns73_1 := NB102_121.out
          have hms73_0 := NB121_101.out
          have hms73_1 := NB121_102.out
          refine qB9 (w1 := ?_) (by rfl) rfl ?_ ?_
          rotate_left
          ·go_simp
           rfl
          refine hK.out _ _ ⟨((qAf (p := ⟨gb121, _, none⟩) NB101_121.out _).trans (((qAf (p := ⟨gb121, _, none⟩) NB101_121.out _).trans (((qAf (p := ⟨gb121, _, none⟩) NB101_121.out _).trans (hHeld.1)))))), ((qAf (p := ⟨gb121, _, none⟩) NB101_121.out _).trans (((qAf (p := ⟨gb121, _, none⟩) NB101_121.out _).trans (((qAf (p := ⟨gb121, _, none⟩) NB101_121.out _).trans (hHeld.2.1)))))), ((qAf (p := ⟨gb121, _, none⟩) NB101_121.out _).trans (((qAf (p := ⟨gb121, _, none⟩) NB101_121.out _).trans (((qAf (p := ⟨gb121, _, none⟩) NB101_121.out _).trans (hHeld.2.2.1)))))), ((qAf (p := ⟨gb121, _, none⟩) NB102_121.out _).trans (((qAf (p := ⟨gb121, _, none⟩) NB102_121.out _).trans (((qAf (p := ⟨gb121, _, none⟩) NB102_121.out _).trans (hHeld.2.2.2.1)))))), ((qAf (p := ⟨gb121, _, none⟩) NB102_121.out _).trans (((qAf (p := ⟨gb121, _, none⟩) NB102_121.out _).trans (((qAf (p := ⟨gb121, _, none⟩) NB102_121.out _).trans (hHeld.2.2.2.2.1)))))), ((qAf (p := ⟨gb121, _, none⟩) NB102_121.out _).trans (((qAf (p := ⟨gb121, _, none⟩) NB102_121.out _).trans (((qAf (p := ⟨gb121, _, none⟩) NB102_121.out _).trans (hHeld.2.2.2.2.2))))))⟩ (fun hHeld => ?_)
          clear hK K
          refine PX_ 10 7 (tb_ 11 2047) HT_ rfl rfl ?_
          refine qBd (qA2 HT_.out (by kernel_rfl)) ?_
          have hnb74 := NB101_121.out
          have hnc74 := NB121_101.out
          obtain ⟨hcz75_0, hcz75_1, hcz75_2, hfz75_0, hfz75_1, hfz75_2⟩ := Z3f_ BK101.out
          try go_wp2_with (first | ((with_reducible refine gC_ (f := 13) rfl ?_); refine GL_ (some 36) rfl rfl Try.func13 #[.agg #[.int .i64 a0_0, .int .i64 a0_1, .slice A0_2 l0_2.length c0_2]] rfl (h := ?_); (with_reducible refine (z13.calls k a0_0 a0_1 _ _ l0_2 t122 t123 t124 _ ?side1 ?side2 A22.out).mono ?_); (case side1 => exact Kd.C_below HR0_2.out (B3_ HB.out GE101.out GE102.out GE121.out)); (case side2 => exact HC0_2.out); rintro e w76 ⟨v125, rfl, ho0, hb⟩; refine ⟨_, rfl, ?_⟩; obtain ⟨nan77, hnan77⟩ := Kd.size_letter hb; have HO126 := Zz.mk (Kd.S_lower (Kd.S_geN (Kd.S_new' (Kd.S_new' (Kd.S_new' ho0 (Kd.S_lt (by refine SW_ ?_; exact (S3_ HO109.out BK121.out (.int .i64 t115) (.int .i64 t116) (.slice Ao72 t117.length co72))))) (Kd.S_lt (by refine SW_ ?_; exact (S3_ HO114.out BK121.out (.int .i64 t115) (.int .i64 t116) (.slice Ao72 t117.length co72))))) (Kd.S_lt (by refine SW_ ?_; exact (S3_ HO119.out BK121.out (.int .i64 t115) (.int .i64 t116) (.slice Ao72 t117.length co72))))) hnan77) (bS_ (B3_ HB.out GE101.out GE102.out GE121.out))); replace HO109 := Zz.mk (Kd.S_told (Kd.S_oldN (by refine SW_ ?_; exact (S3_ HO109.out BK121.out (.int .i64 t115) (.int .i64 t116) (.slice Ao72 t117.length co72))) hb hnan77) (Kd.S_baseN ho0 hnan77)); replace HO114 := Zz.mk (Kd.S_told (Kd.S_oldN (by refine SW_ ?_; exact (S3_ HO114.out BK121.out (.int .i64 t115) (.int .i64 t116) (.slice Ao72 t117.length co72))) hb hnan77) (Kd.S_baseN ho0 hnan77)); replace HO119 := Zz.mk (Kd.S_told (Kd.S_oldN (by refine SW_ ?_; exact (S3_ HO119.out BK121.out (.int .i64 t115) (.int .i64 t116) (.slice Ao72 t117.length co72))) hb hnan77) (Kd.S_baseN ho0 hnan77)); replace BK101 := Zz.mk (bB_ (g := gb101) (o := .cells #[.int .i64 a0_0, .int .i64 a0_1, .slice A0_2 l0_2.length c0_2] 24 (0, 0)) (by refine BW_ ?_; refine bR_ ?_ NB101_121.out _; refine BW_ ?_; refine bR_ ?_ NB101_121.out _; refine BW_ ?_; refine bR_ ?_ NB101_121.out _; refine BW_ ?_; exact BK101.out) hb); replace BK102 := Zz.mk (bB_ (g := gb102) (o := .cells #[.int .i64 a1_0, .int .i64 a1_1, .slice A1_2 l1_2.length c1_2] 24 (0, 0)) (by refine BW_ ?_; refine bR_ ?_ NB102_121.out _; refine BW_ ?_; refine bR_ ?_ NB102_121.out _; refine BW_ ?_; refine bR_ ?_ NB102_121.out _; refine BW_ ?_; exact BK102.out) hb); replace BK121 := Zz.mk (bB_ (g := gb121) (o := .cells #[.int .i64 t115, .int .i64 t116, .slice Ao72 t117.length co72] 29 (0, 0)) (by refine BW_ ?_; refine bP_ (cs := #[.int .i64 t115, .int .i64 t116, .slice none 0 0]) ?_ 2 _ rfl; refine BW_ ?_; refine bP_ (cs := #[.int .i64 t115, .int .i64 0, .slice none 0 0]) ?_ 1 _ rfl; refine BW_ ?_; refine bP_ (cs := #[.int .i64 0, .int .i64 0, .slice none 0 0]) ?_ 0 _ rfl; refine BW_ ?_; exact BK121.out) hb); replace HB := Zz.mk (bT_ (B3_ HB.out GE101.out GE102.out GE121.out) hb); (try clear hb); (try clear ho0)) | ((with_reducible refine qAh (N := 8) rfl ?_); refine bx_ 8 #[.int .i64 0, .int .i64 0, .slice none 0 0] 29 ?_; intro gb127 hg w78 hbox hb; have BK127 := Zz.mk (hbox); have GW127 := Zz.mk ((gw_ hg (B3_ HB.out GE101.out GE102.out GE121.out))); have GE127 := GW127; have NB101_127 := Zz.mk ((nb_ BK101.out hg)); have NB127_101 := Zz.mk NB101_127.out.symm; have NB102_127 := Zz.mk ((nb_ BK102.out hg)); have NB127_102 := Zz.mk NB102_127.out.symm; have NB121_127 := Zz.mk ((nb_ BK121.out hg)); have NB127_121 := Zz.mk NB121_127.out.symm; replace HO109 := Zz.mk (Kd.S_below (KS_ HO109.out) hb); replace HO114 := Zz.mk (Kd.S_below (KS_ HO114.out) hb); replace HO119 := Zz.mk (Kd.S_below (KS_ HO119.out) hb); replace HO126 := Zz.mk (Kd.S_below (KS_ HO126.out) hb); replace BK101 := Zz.mk (kb_ BK101.out hb); replace BK102 := Zz.mk (kb_ BK102.out hb); replace BK121 := Zz.mk (kb_ BK121.out hb); replace HB := Zz.mk (bT_ (B3_ HB.out GE101.out GE102.out GE121.out) hb); clear hb hbox hg; have hnb79 := NB127_101.out; have hnc79 := NB101_127.out; have hnb80 := NB127_102.out; have hnc80 := NB102_127.out; have hnb81 := NB127_121.out; have hnc81 := NB121_127.out; obtain ⟨hcz82_0, hcz82_1, hcz82_2, hfz82_0, hfz82_1, hfz82_2⟩ := Z3f_ BK127.out; obtain ⟨Ao83, co83, eo83⟩ := Kd.S_slice HO126.out; subst eo83; have hnb84 := NB102_121.out; have hnc84 := NB121_102.out; obtain ⟨hcz85_0, hcz85_1, hcz85_2, hfz85_0, hfz85_1, hfz85_2⟩ := Z3f_ BK102.out) | ((with_reducible refine gC_ (f := 13) rfl ?_); refine GL_ (some 38) rfl rfl Try.func13 #[.agg #[.int .i64 a1_0, .int .i64 a1_1, .slice A1_2 l1_2.length c1_2]] rfl (h := ?_); (with_reducible refine (z13.calls k a1_0 a1_1 _ _ l1_2 t128 t129 t130 _ ?side1 ?side2 A23.out).mono ?_); (case side1 => exact Kd.C_below HR1_2.out (Bw4_ HB.out GE101.out GE102.out GE121.out GE127.out)); (case side2 => exact HC1_2.out); rintro e w86 ⟨v131, rfl, ho0, hb⟩; refine ⟨_, rfl, ?_⟩; obtain ⟨nan87, hnan87⟩ := Kd.size_letter hb; have HO132 := Zz.mk (Kd.S_lower (Kd.S_geN (Kd.S_new' (Kd.S_new' (Kd.S_new' (Kd.S_new' ho0 (Kd.S_lt (by refine SW_ ?_; exact (S3_ HO109.out BK127.out (.int .i64 t122) (.int .i64 t123) (.slice Ao83 t124.length co83))))) (Kd.S_lt (by refine SW_ ?_; exact (S3_ HO114.out BK127.out (.int .i64 t122) (.int .i64 t123) (.slice Ao83 t124.length co83))))) (Kd.S_lt (by refine SW_ ?_; exact (S3_ HO119.out BK127.out (.int .i64 t122) (.int .i64 t123) (.slice Ao83 t124.length co83))))) (Kd.S_lt (by refine SW_ ?_; exact (S3_ HO126.out BK127.out (.int .i64 t122) (.int .i64 t123) (.slice Ao83 t124.length co83))))) hnan87) (bS_ (Bw4_ HB.out GE101.out GE102.out GE121.out GE127.out))); replace HO109 := Zz.mk (Kd.S_told (Kd.S_oldN (by refine SW_ ?_; exact (S3_ HO109.out BK127.out (.int .i64 t122) (.int .i64 t123) (.slice Ao83 t124.length co83))) hb hnan87) (Kd.S_baseN ho0 hnan87)); replace HO114 := Zz.mk (Kd.S_told (Kd.S_oldN (by refine SW_ ?_; exact (S3_ HO114.out BK127.out (.int .i64 t122) (.int .i64 t123) (.slice Ao83 t124.length co83))) hb hnan87) (Kd.S_baseN ho0 hnan87)); replace HO119 := Zz.mk (Kd.S_told (Kd.S_oldN (by refine SW_ ?_; exact (S3_ HO119.out BK127.out (.int .i64 t122) (.int .i64 t123) (.slice Ao83 t124.length co83))) hb hnan87) (Kd.S_baseN ho0 hnan87)); replace HO126 := Zz.mk (Kd.S_told (Kd.S_oldN (by refine SW_ ?_; exact (S3_ HO126.out BK127.out (.int .i64 t122) (.int .i64 t123) (.slice Ao83 t124.length co83))) hb hnan87) (Kd.S_baseN ho0 hnan87)); replace BK101 := Zz.mk (bB_ (g := gb101) (o := .cells #[.int .i64 a0_0, .int .i64 a0_1, .slice A0_2 l0_2.length c0_2] 24 (0, 0)) (by refine BW_ ?_; refine bR_ ?_ NB101_127.out _; refine BW_ ?_; refine bR_ ?_ NB101_127.out _; refine BW_ ?_; refine bR_ ?_ NB101_127.out _; refine BW_ ?_; exact BK101.out) hb); replace BK102 := Zz.mk (bB_ (g := gb102) (o := .cells #[.int .i64 a1_0, .int .i64 a1_1, .slice A1_2 l1_2.length c1_2] 24 (0, 0)) (by refine BW_ ?_; refine bR_ ?_ NB102_127.out _; refine BW_ ?_; refine bR_ ?_ NB102_127.out _; refine BW_ ?_; refine bR_ ?_ NB102_127.out _; refine BW_ ?_; exact BK102.out) hb); replace BK121 := Zz.mk (bB_ (g := gb121) (o := .cells #[.int .i64 t115, .int .i64 t116, .slice Ao72 t117.length co72] 29 (0, 0)) (by refine BW_ ?_; refine bR_ ?_ NB121_127.out _; refine BW_ ?_; refine bR_ ?_ NB121_127.out _; refine BW_ ?_; refine bR_ ?_ NB121_127.out _; refine BW_ ?_; exact BK121.out) hb); replace BK127 := Zz.mk (bB_ (g := gb127) (o := .cells #[.int .i64 t122, .int .i64 t123, .slice Ao83 t124.length co83] 29 (0, 0)) (by refine BW_ ?_; refine bP_ (cs := #[.int .i64 t122, .int .i64 t123, .slice none 0 0]) ?_ 2 _ rfl; refine BW_ ?_; refine bP_ (cs := #[.int .i64 t122, .int .i64 0, .slice none 0 0]) ?_ 1 _ rfl; refine BW_ ?_; refine bP_ (cs := #[.int .i64 0, .int .i64 0, .slice none 0 0]) ?_ 0 _ rfl; refine BW_ ?_; exact BK127.out) hb); replace HB := Zz.mk (bT_ (Bw4_ HB.out GE101.out GE102.out GE121.out GE127.out) hb); (try clear hb); (try clear ho0)) | ((with_reducible refine qAh (N := 9) rfl ?_); refine bx_ 9 #[.int .i64 0, .int .i64 0, .slice none 0 0] 29 ?_; intro gb133 hg w88 hbox hb; have BK133 := Zz.mk (hbox); have GW133 := Zz.mk ((gw_ hg (Bw4_ HB.out GE101.out GE102.out GE121.out GE127.out))); have GE133 := GW133; have NB101_133 := Zz.mk ((nb_ BK101.out hg)); have NB133_101 := Zz.mk NB101_133.out.symm; have NB102_133 := Zz.mk ((nb_ BK102.out hg)); have NB133_102 := Zz.mk NB102_133.out.symm; have NB121_133 := Zz.mk ((nb_ BK121.out hg)); have NB133_121 := Zz.mk NB121_133.out.symm; have NB127_133 := Zz.mk ((nb_ BK127.out hg)); have NB133_127 := Zz.mk NB127_133.out.symm; replace HO109 := Zz.mk (Kd.S_below (KS_ HO109.out) hb); replace HO114 := Zz.mk (Kd.S_below (KS_ HO114.out) hb); replace HO119 := Zz.mk (Kd.S_below (KS_ HO119.out) hb); replace HO126 := Zz.mk (Kd.S_below (KS_ HO126.out) hb); replace HO132 := Zz.mk (Kd.S_below (KS_ HO132.out) hb); replace BK101 := Zz.mk (kb_ BK101.out hb); replace BK102 := Zz.mk (kb_ BK102.out hb); replace BK121 := Zz.mk (kb_ BK121.out hb); replace BK127 := Zz.mk (kb_ BK127.out hb); replace HB := Zz.mk (bT_ (Bw4_ HB.out GE101.out GE102.out GE121.out GE127.out) hb); clear hb hbox hg; have hnb89 := NB133_101.out; have hnc89 := NB101_133.out; have hnb90 := NB133_102.out; have hnc90 := NB102_133.out; have hnb91 := NB133_121.out; have hnc91 := NB121_133.out; have hnb92 := NB133_127.out; have hnc92 := NB127_133.out; obtain ⟨hcz93_0, hcz93_1, hcz93_2, hfz93_0, hfz93_1, hfz93_2⟩ := Z3f_ BK133.out; obtain ⟨Ao94, co94, eo94⟩ := Kd.S_slice HO132.out; subst eo94; obtain ⟨hcz95_0, hcz95_1, hcz95_2, hfz95_0, hfz95_1, hfz95_2⟩ := Z3f_ BK127.out) | ((with_reducible refine gC_ (f := 51) rfl ?_); refine GL_ (some 42) rfl rfl Try.func51 #[.agg #[.int .i64 t122, .int .i64 t123, .slice Ao83 t124.length co83], .agg #[.int .i64 t128, .int .i64 t129, .slice Ao94 t130.length co94]] rfl (h := ?_); (with_reducible refine (z51.calls k t122 t123 _ _ t124 t128 t129 _ _ t130 t134 t135 t136 t139 _ ?side1 ?side2 ?side3 ?side4 A24.out).mono ?_); (case side1 => refine (Kd.S_reads' (e := 25) (base := w.heap.size) (ok := fun k_ => ((((((True ∧ some k_ ≠ (v108 : Value).ownBlock) ∧ some k_ ≠ (v113 : Value).ownBlock) ∧ some k_ ≠ (.slice Ao72 t117.length co72 : Value).ownBlock) ∧ nan77 ≤ k_) ∧ some k_ ≠ (.slice Ao94 t130.length co94 : Value).ownBlock) ∧ k_ < nan87)) (n := t124.length) (c := co83) ?_).2.2; exact (by refine SW_ ?_; exact (S3_ HO126.out BK133.out (.int .i64 t128) (.int .i64 t129) (.slice Ao94 t130.length co94)))); (case side2 => exact (Kd.S_reads' HO126.out).2.1); (case side3 => refine (Kd.S_reads' (e := 25) (base := w.heap.size) (ok := fun k_ => (((((True ∧ some k_ ≠ (v108 : Value).ownBlock) ∧ some k_ ≠ (v113 : Value).ownBlock) ∧ some k_ ≠ (.slice Ao72 t117.length co72 : Value).ownBlock) ∧ some k_ ≠ (.slice Ao83 t124.length co83 : Value).ownBlock) ∧ nan87 ≤ k_)) (n := t130.length) (c := co94) ?_).2.2; exact (by refine SW_ ?_; exact (S3_ HO132.out BK133.out (.int .i64 t128) (.int .i64 t129) (.slice Ao94 t130.length co94)))); (case side4 => exact (Kd.S_reads' HO132.out).2.1); rintro e w96 ⟨v137, rfl, ho0, hb⟩; refine ⟨_, rfl, ?_⟩; obtain ⟨nan97, hnan97⟩ := Kd.size_letter hb; have HO138 := Zz.mk (Kd.S_lower (Kd.S_geN (Kd.S_new' (Kd.S_new' (Kd.S_new' (Kd.S_new' (Kd.S_new' ho0 (Kd.S_lt (by refine SW_ ?_; exact (S3_ HO109.out BK133.out (.int .i64 t128) (.int .i64 t129) (.slice Ao94 t130.length co94))))) (Kd.S_lt (by refine SW_ ?_; exact (S3_ HO114.out BK133.out (.int .i64 t128) (.int .i64 t129) (.slice Ao94 t130.length co94))))) (Kd.S_lt (by refine SW_ ?_; exact (S3_ HO119.out BK133.out (.int .i64 t128) (.int .i64 t129) (.slice Ao94 t130.length co94))))) (Kd.S_lt (by refine SW_ ?_; exact (S3_ HO126.out BK133.out (.int .i64 t128) (.int .i64 t129) (.slice Ao94 t130.length co94))))) (Kd.S_lt (by refine SW_ ?_; exact (S3_ HO132.out BK133.out (.int .i64 t128) (.int .i64 t129) (.slice Ao94 t130.length co94))))) hnan97) (bS_ (Bw5_ HB.out GE101.out GE102.out GE121.out GE127.out GE133.out))); replace HO109 := Zz.mk (Kd.S_told (Kd.S_oldN (by refine SW_ ?_; exact (S3_ HO109.out BK133.out (.int .i64 t128) (.int .i64 t129) (.slice Ao94 t130.length co94))) hb hnan97) (Kd.S_baseN ho0 hnan97)); replace HO114 := Zz.mk (Kd.S_told (Kd.S_oldN (by refine SW_ ?_; exact (S3_ HO114.out BK133.out (.int .i64 t128) (.int .i64 t129) (.slice Ao94 t130.length co94))) hb hnan97) (Kd.S_baseN ho0 hnan97)); replace HO119 := Zz.mk (Kd.S_told (Kd.S_oldN (by refine SW_ ?_; exact (S3_ HO119.out BK133.out (.int .i64 t128) (.int .i64 t129) (.slice Ao94 t130.length co94))) hb hnan97) (Kd.S_baseN ho0 hnan97)); replace HO126 := Zz.mk (Kd.S_told (Kd.S_oldN (by refine SW_ ?_; exact (S3_ HO126.out BK133.out (.int .i64 t128) (.int .i64 t129) (.slice Ao94 t130.length co94))) hb hnan97) (Kd.S_baseN ho0 hnan97)); replace HO132 := Zz.mk (Kd.S_told (Kd.S_oldN (by refine SW_ ?_; exact (S3_ HO132.out BK133.out (.int .i64 t128) (.int .i64 t129) (.slice Ao94 t130.length co94))) hb hnan97) (Kd.S_baseN ho0 hnan97)); replace BK101 := Zz.mk (bB_ (g := gb101) (o := .cells #[.int .i64 a0_0, .int .i64 a0_1, .slice A0_2 l0_2.length c0_2] 24 (0, 0)) (by refine BW_ ?_; refine bR_ ?_ NB101_133.out _; refine BW_ ?_; refine bR_ ?_ NB101_133.out _; refine BW_ ?_; refine bR_ ?_ NB101_133.out _; refine BW_ ?_; exact BK101.out) hb); replace BK102 := Zz.mk (bB_ (g := gb102) (o := .cells #[.int .i64 a1_0, .int .i64 a1_1, .slice A1_2 l1_2.length c1_2] 24 (0, 0)) (by refine BW_ ?_; refine bR_ ?_ NB102_133.out _; refine BW_ ?_; refine bR_ ?_ NB102_133.out _; refine BW_ ?_; refine bR_ ?_ NB102_133.out _; refine BW_ ?_; exact BK102.out) hb); replace BK121 := Zz.mk (bB_ (g := gb121) (o := .cells #[.int .i64 t115, .int .i64 t116, .slice Ao72 t117.length co72] 29 (0, 0)) (by refine BW_ ?_; refine bR_ ?_ NB121_133.out _; refine BW_ ?_; refine bR_ ?_ NB121_133.out _; refine BW_ ?_; refine bR_ ?_ NB121_133.out _; refine BW_ ?_; exact BK121.out) hb); replace BK127 := Zz.mk (bB_ (g := gb127) (o := .cells #[.int .i64 t122, .int .i64 t123, .slice Ao83 t124.length co83] 29 (0, 0)) (by refine BW_ ?_; refine bR_ ?_ NB127_133.out _; refine BW_ ?_; refine bR_ ?_ NB127_133.out _; refine BW_ ?_; refine bR_ ?_ NB127_133.out _; refine BW_ ?_; exact BK127.out) hb); replace BK133 := Zz.mk (bB_ (g := gb133) (o := .cells #[.int .i64 t128, .int .i64 t129, .slice Ao94 t130.length co94] 29 (0, 0)) (by refine BW_ ?_; refine bP_ (cs := #[.int .i64 t128, .int .i64 t129, .slice none 0 0]) ?_ 2 _ rfl; refine BW_ ?_; refine bP_ (cs := #[.int .i64 t128, .int .i64 0, .slice none 0 0]) ?_ 1 _ rfl; refine BW_ ?_; refine bP_ (cs := #[.int .i64 0, .int .i64 0, .slice none 0 0]) ?_ 0 _ rfl; refine BW_ ?_; exact BK133.out) hb); replace HB := Zz.mk (bT_ (Bw5_ HB.out GE101.out GE102.out GE121.out GE127.out GE133.out) hb); (try clear hb); (try clear ho0)) | ((with_reducible refine qAh (N := 10) rfl ?_); refine bx_ 10 #[.int .i64 0, .int .i64 0, .slice none 0 0] 29 ?_; intro gb140 hg w98 hbox hb; have BK140 := Zz.mk (hbox); have GW140 := Zz.mk ((gw_ hg (Bw5_ HB.out GE101.out GE102.out GE121.out GE127.out GE133.out))); have GE140 := GW140; have NB101_140 := Zz.mk ((nb_ BK101.out hg)); have NB140_101 := Zz.mk NB101_140.out.symm; have NB102_140 := Zz.mk ((nb_ BK102.out hg)); have NB140_102 := Zz.mk NB102_140.out.symm; have NB121_140 := Zz.mk ((nb_ BK121.out hg)); have NB140_121 := Zz.mk NB121_140.out.symm; have NB127_140 := Zz.mk ((nb_ BK127.out hg)); have NB140_127 := Zz.mk NB127_140.out.symm; have NB133_140 := Zz.mk ((nb_ BK133.out hg)); have NB140_133 := Zz.mk NB133_140.out.symm; replace HO109 := Zz.mk (Kd.S_below (KS_ HO109.out) hb); replace HO114 := Zz.mk (Kd.S_below (KS_ HO114.out) hb); replace HO119 := Zz.mk (Kd.S_below (KS_ HO119.out) hb); replace HO126 := Zz.mk (Kd.S_below (KS_ HO126.out) hb); replace HO132 := Zz.mk (Kd.S_below (KS_ HO132.out) hb); replace HO138 := Zz.mk (Kd.S_below (KS_ HO138.out) hb); replace BK101 := Zz.mk (kb_ BK101.out hb); replace BK102 := Zz.mk (kb_ BK102.out hb); replace BK121 := Zz.mk (kb_ BK121.out hb); replace BK127 := Zz.mk (kb_ BK127.out hb); replace BK133 := Zz.mk (kb_ BK133.out hb); replace HB := Zz.mk (bT_ (Bw5_ HB.out GE101.out GE102.out GE121.out GE127.out GE133.out) hb); clear hb hbox hg; have hnb99 := NB140_101.out; have hnc99 := NB101_140.out; have hnb100 := NB140_102.out; have hnc100 := NB102_140.out; have hnb101 := NB140_121.out; have hnc101 := NB121_140.out; have hnb102 := NB140_127.out; have hnc102 := NB127_140.out; have hnb103 := NB140_133.out; have hnc103 := NB133_140.out; obtain ⟨hcz104_0, hcz104_1, hcz104_2, hfz104_0, hfz104_1, hfz104_2⟩ := Z3f_ BK140.out; obtain ⟨Ao105, co105, eo105⟩ := Kd.S_slice HO138.out; subst eo105; obtain ⟨hcz106_0, hcz106_1, hcz106_2, hfz106_0, hfz106_1, hfz106_2⟩ := Z3f_ BK121.out) | ((with_reducible refine gC_ (f := 17) rfl ?_); refine GL_ (some 47) rfl rfl Try.func17 #[.agg #[.int .i64 t134, .int .i64 t135, .slice Ao105 t136.length co105], .agg #[.int .i64 t115, .int .i64 t116, .slice Ao72 t117.length co72]] rfl (h := ?_); (with_reducible refine (z17.calls k t134 t135 _ _ t136 t115 t116 _ _ t117 true _ ?side1 ?side2 ?side3 ?side4 A25.out).mono ?_); (case side1 => refine (Kd.S_reads' (e := 25) (base := w.heap.size) (ok := fun k_ => ((((((True ∧ some k_ ≠ (v108 : Value).ownBlock) ∧ some k_ ≠ (v113 : Value).ownBlock) ∧ some k_ ≠ (.slice Ao72 t117.length co72 : Value).ownBlock) ∧ some k_ ≠ (.slice Ao83 t124.length co83 : Value).ownBlock) ∧ some k_ ≠ (.slice Ao94 t130.length co94 : Value).ownBlock) ∧ nan97 ≤ k_)) (n := t136.length) (c := co105) ?_).2.2; exact (by refine SW_ ?_; exact (S3_ HO138.out BK140.out (.int .i64 t134) (.int .i64 t135) (.slice Ao105 t136.length co105)))); (case side2 => exact (Kd.S_reads' HO138.out).2.1); (case side3 => refine (Kd.S_reads' (e := 25) (base := w.heap.size) (ok := fun k_ => (((((((some k_ ≠ (v108 : Value).ownBlock ∧ some k_ ≠ (v113 : Value).ownBlock) ∧ some k_ ≠ (.slice Ao83 t124.length co83 : Value).ownBlock) ∧ k_ < nan77) ∧ some k_ ≠ (.slice Ao94 t130.length co94 : Value).ownBlock) ∧ k_ < nan87) ∧ some k_ ≠ (.slice Ao105 t136.length co105 : Value).ownBlock) ∧ k_ < nan97)) (n := t117.length) (c := co72) ?_).2.2; exact (by refine SW_ ?_; exact (S3_ HO119.out BK140.out (.int .i64 t134) (.int .i64 t135) (.slice Ao105 t136.length co105)))); (case side4 => exact (Kd.S_reads' HO119.out).2.1); rintro e w107 ⟨rfl, hb⟩; refine ⟨_, rfl, ?_⟩; replace HO109 := Zz.mk (Kd.S_below (by refine SW_ ?_; exact (S3_ HO109.out BK140.out (.int .i64 t134) (.int .i64 t135) (.slice Ao105 t136.length co105))) hb); replace HO114 := Zz.mk (Kd.S_below (by refine SW_ ?_; exact (S3_ HO114.out BK140.out (.int .i64 t134) (.int .i64 t135) (.slice Ao105 t136.length co105))) hb); replace HO119 := Zz.mk (Kd.S_below (by refine SW_ ?_; exact (S3_ HO119.out BK140.out (.int .i64 t134) (.int .i64 t135) (.slice Ao105 t136.length co105))) hb); replace HO126 := Zz.mk (Kd.S_below (by refine SW_ ?_; exact (S3_ HO126.out BK140.out (.int .i64 t134) (.int .i64 t135) (.slice Ao105 t136.length co105))) hb); replace HO132 := Zz.mk (Kd.S_below (by refine SW_ ?_; exact (S3_ HO132.out BK140.out (.int .i64 t134) (.int .i64 t135) (.slice Ao105 t136.length co105))) hb); replace HO138 := Zz.mk (Kd.S_below (by refine SW_ ?_; exact (S3_ HO138.out BK140.out (.int .i64 t134) (.int .i64 t135) (.slice Ao105 t136.length co105))) hb); replace BK101 := Zz.mk (bB_ (g := gb101) (o := .cells #[.int .i64 a0_0, .int .i64 a0_1, .slice A0_2 l0_2.length c0_2] 24 (0, 0)) (by refine BW_ ?_; refine bR_ ?_ NB101_140.out _; refine BW_ ?_; refine bR_ ?_ NB101_140.out _; refine BW_ ?_; refine bR_ ?_ NB101_140.out _; refine BW_ ?_; exact BK101.out) hb); replace BK102 := Zz.mk (bB_ (g := gb102) (o := .cells #[.int .i64 a1_0, .int .i64 a1_1, .slice A1_2 l1_2.length c1_2] 24 (0, 0)) (by refine BW_ ?_; refine bR_ ?_ NB102_140.out _; refine BW_ ?_; refine bR_ ?_ NB102_140.out _; refine BW_ ?_; refine bR_ ?_ NB102_140.out _; refine BW_ ?_; exact BK102.out) hb); replace BK121 := Zz.mk (bB_ (g := gb121) (o := .cells #[.int .i64 t115, .int .i64 t116, .slice Ao72 t117.length co72] 29 (0, 0)) (by refine BW_ ?_; refine bR_ ?_ NB121_140.out _; refine BW_ ?_; refine bR_ ?_ NB121_140.out _; refine BW_ ?_; refine bR_ ?_ NB121_140.out _; refine BW_ ?_; exact BK121.out) hb); replace BK127 := Zz.mk (bB_ (g := gb127) (o := .cells #[.int .i64 t122, .int .i64 t123, .slice Ao83 t124.length co83] 29 (0, 0)) (by refine BW_ ?_; refine bR_ ?_ NB127_140.out _; refine BW_ ?_; refine bR_ ?_ NB127_140.out _; refine BW_ ?_; refine bR_ ?_ NB127_140.out _; refine BW_ ?_; exact BK127.out) hb); replace BK133 := Zz.mk (bB_ (g := gb133) (o := .cells #[.int .i64 t128, .int .i64 t129, .slice Ao94 t130.length co94] 29 (0, 0)) (by refine BW_ ?_; refine bR_ ?_ NB133_140.out _; refine BW_ ?_; refine bR_ ?_ NB133_140.out _; refine BW_ ?_; refine bR_ ?_ NB133_140.out _; refine BW_ ?_; exact BK133.out) hb); replace BK140 := Zz.mk (bB_ (g := gb140) (o := .cells #[.int .i64 t134, .int .i64 t135, .slice Ao105 t136.length co105] 29 (0, 0)) (by refine BW_ ?_; refine bP_ (cs := #[.int .i64 t134, .int .i64 t135, .slice none 0 0]) ?_ 2 _ rfl; refine BW_ ?_; refine bP_ (cs := #[.int .i64 t134, .int .i64 0, .slice none 0 0]) ?_ 1 _ rfl; refine BW_ ?_; refine bP_ (cs := #[.int .i64 0, .int .i64 0, .slice none 0 0]) ?_ 0 _ rfl; refine BW_ ?_; exact BK140.out) hb); replace HB := Zz.mk (bT_ (Bw6_ HB.out GE101.out GE102.out GE121.out GE127.out GE133.out GE140.out) hb); (try clear hb)))
          replace HO109 := Zz.mk (Kd.S_drew HO109.out)
          replace HO114 := Zz.mk (Kd.S_drew HO114.out)
          replace HO119 := Zz.mk (Kd.S_drew HO119.out)
          replace HO126 := Zz.mk (Kd.S_drew HO126.out)
          replace HO132 := Zz.mk (Kd.S_drew HO132.out)
          replace HO138 := Zz.mk (Kd.S_drew HO138.out)
          replace BK101 := Zz.mk (bD_ BK101.out)
          replace BK102 := Zz.mk (bD_ BK102.out)
          replace BK121 := Zz.mk (bD_ BK121.out)
          replace BK127 := Zz.mk (bD_ BK127.out)
          replace BK133 := Zz.mk (bD_ BK133.out)
          replace BK140 := Zz.mk (bD_ BK140.out)
          replace HB := Zz.mk (qAc HB.out)
          refine qA5 (n := 5) (S := fun w' => w'.cell? ⟨gb127, 0, none⟩ = some (.int .i64 t122) ∧ w'.cell? ⟨gb127, 1, none⟩ = some (.int .i64 t123) ∧ w'.cell? ⟨gb127, 2, none⟩ = some (.slice Ao83 t124.length co83) ∧ w'.cell? ⟨gb101, 0, none⟩ = some (.int .i64 a0_0) ∧ w'.cell? ⟨gb101, 1, none⟩ = some (.int .i64 a0_1) ∧ w'.cell? ⟨gb101, 2, none⟩ = some (.slice A0_2 l0_2.length c0_2)) (ds := []) #[false, false, false, false, false] (by kernel_rfl) rfl rfl (Z3a_ BK127.out (Z3_ BK101.out)) (fun hHeld => ?_)
          generalize w107.drew = w108 at HO109 HO114 HO119 HO126 HO132 HO138 BK101 BK102 BK121 BK127 BK133 BK140 HB hHeld ⊢
          refine take_ (i := 0) (N := some 54) (v := ?_) (a' := ?_) #[true, false, false, false, false] rfl rfl (by kernel_rfl) (fun _ _ _ h => h) (Or.inl ⟨by rfl, ?_⟩) hHeld ?_ ?_
          rotate_left
          ·rintro w' ⟨s0, s1, s2, s3, s4, s5⟩
           go_simp
           with_reducible rfl
          rotate_left
          ·simp only [Act.put, List.setIfInBounds_toArray, List.set_cons_zero, List.set_cons_succ, qBa, qBm]
           rfl
          refine take_ (i := 1) (N := some 55) (v := ?_) (a' := ?_) #[true, true, false, false, false] rfl rfl (by kernel_rfl) (fun _ _ _ h => h) (Or.inl ⟨by rfl, ?_⟩) hHeld ?_ ?_
          rotate_left
          ·rintro w' ⟨s0, s1, s2, s3, s4, s5⟩
           go_simp
           with_reducible rfl
          rotate_left
          ·simp only [Act.put, List.setIfInBounds_toArray, List.set_cons_zero, List.set_cons_succ, qBa, qBm]
           rfl
          refine one_ (i := 2) (N := some 56) #[true, true, true, false, false] rfl rfl (by kernel_rfl) (by decide) (fun K hK => ?_)
          refine GO_ Try.func13 #[.agg #[.int .i64 a0_0, .int .i64 a0_1, .slice A0_2 l0_2.length c0_2]] (h := ?_)
          with_reducible refine (z13.calls k a0_0 a0_1 _ _ l0_2 t142 t143 t144 _ ?side1 ?side2 A28.out).mono ?_
          (case side1 => exact KC_ (Kd.C_below HR0_2.out HB.out))
          (case side2 => exact HC0_2.out)
          rintro e w109 ⟨v145, rfl, ho0, hb⟩
          refine ⟨_, rfl, ?_⟩
          obtain ⟨nan110, hnan110⟩ := Kd.size_letter hb
          have HO146 := Zz.mk (Kd.S_lower (Kd.S_geN (Kd.S_new' (Kd.S_new' (Kd.S_new' (Kd.S_new' (Kd.S_new' (Kd.S_new' ho0 (Kd.S_lt (KS_ HO109.out))) (Kd.S_lt (KS_ HO114.out))) (Kd.S_lt (KS_ HO119.out))) (Kd.S_lt (KS_ HO126.out))) (Kd.S_lt (KS_ HO132.out))) (Kd.S_lt (KS_ HO138.out))) hnan110) (bS_ (Bw6_ HB.out GE101.out GE102.out GE121.out GE127.out GE133.out GE140.out)))
          replace HO109 := Zz.mk (tl_ HO109.out hb hnan110 ho0)
          replace HO114 := Zz.mk (tl_ HO114.out hb hnan110 ho0)
          replace HO119 := Zz.mk (tl_ HO119.out hb hnan110 ho0)
          replace HO126 := Zz.mk (tl_ HO126.out hb hnan110 ho0)
          replace HO132 := Zz.mk (tl_ HO132.out hb hnan110 ho0)
          replace HO138 := Zz.mk (tl_ HO138.out hb hnan110 ho0)
          replace BK101 := Zz.mk (kb_ BK101.out hb)
          replace BK102 := Zz.mk (kb_ BK102.out hb)
          replace BK121 := Zz.mk (kb_ BK121.out hb)
          replace BK127 := Zz.mk (kb_ BK127.out hb)
          replace BK133 := Zz.mk (kb_ BK133.out hb)
          replace BK140 := Zz.mk (kb_ BK140.out hb)
          replace HB := Zz.mk (bT_ (Bw6_ HB.out GE101.out GE102.out GE121.out GE127.out GE133.out GE140.out) hb)
          (try clear hb);(try clear ho0)
          obtain ⟨Ao111, co111, eo111⟩ := Kd.S_slice HO146.out
          (first | subst eo111 | obtain ⟨rfl, rfl⟩ := sl_ eo111)
          refine hK.out _ _ (Z3a_ BK127.out (Z3_ BK101.out)) (fun hHeld => ?_)
          clear hK K
          refine NM_ (N := (some 56)) (h := ?_)
          refine one_ (i := 3) (N := some 57) #[true, true, true, true, false] rfl rfl (by kernel_rfl) (by decide) (fun K hK => ?_)
          refine GO_ Try.func17 #[.agg #[.int .i64 t122, .int .i64 t123, .slice Ao83 t124.length co83], .agg #[.int .i64 t142, .int .i64 t143, .slice Ao111 t144.length co111]] (h := ?_)
          with_reducible refine (z17.calls k t122 t123 _ _ t124 t142 t143 _ _ t144 true _ ?side1 ?side2 ?side3 ?side4 A29.out).mono ?_
          (case side1 => exact KC_ (Kd.S_reads' HO126.out).2.2)
          (case side2 => exact (Kd.S_reads' HO126.out).2.1)
          (case side3 => exact KC_ (Kd.S_reads' HO146.out).2.2)
          (case side4 => exact (Kd.S_reads' HO146.out).2.1)
          rintro e w112 ⟨rfl, hb⟩
          refine ⟨_, rfl, ?_⟩
          replace HO109 := Zz.mk (Kd.S_below (KS_ HO109.out) hb)
          replace HO114 := Zz.mk (Kd.S_below (KS_ HO114.out) hb)
          replace HO119 := Zz.mk (Kd.S_below (KS_ HO119.out) hb)
          replace HO126 := Zz.mk (Kd.S_below (KS_ HO126.out) hb)
          replace HO132 := Zz.mk (Kd.S_below (KS_ HO132.out) hb)
          replace HO138 := Zz.mk (Kd.S_below (KS_ HO138.out) hb)
          replace HO146 := Zz.mk (Kd.S_below (KS_ HO146.out) hb)
          replace BK101 := Zz.mk (kb_ BK101.out hb)
          replace BK102 := Zz.mk (kb_ BK102.out hb)
          replace BK121 := Zz.mk (kb_ BK121.out hb)
          replace BK127 := Zz.mk (kb_ BK127.out hb)
          replace BK133 := Zz.mk (kb_ BK133.out hb)
          replace BK140 := Zz.mk (kb_ BK140.out hb)
          replace HB := Zz.mk (bT_ (Bw6_ HB.out GE101.out GE102.out GE121.out GE127.out GE133.out GE140.out) hb)
          (try clear hb)
          refine hK.out _ _ (Z3a_ BK127.out (Z3_ BK101.out)) (fun hHeld => ?_)
          clear hK K
          refine NM_ (N := (some 57)) (h := ?_)
          refine qE8 (i := 4) (N := some 58) (v := ?_) (a' := ?_) #[true, true, true, true, true] rfl rfl (by kernel_rfl) (fun _ _ _ h => h) (Or.inl ⟨by rfl, ?_⟩) ?_ ?_
          rotate_left
          ·intro w'
           go_simp
           with_reducible rfl
          rotate_left
          ·simp only [Act.put, List.setIfInBounds_toArray, List.set_cons_zero, List.set_cons_succ, qBa, qBm]
           rfl
          refine qBd (by kernel_rfl) ?_
          try go_wp2
          replace HO109 := Zz.mk (Kd.S_drew HO109.out)
          replace HO114 := Zz.mk (Kd.S_drew HO114.out)
          replace HO119 := Zz.mk (Kd.S_drew HO119.out)
          replace HO126 := Zz.mk (Kd.S_drew HO126.out)
          replace HO132 := Zz.mk (Kd.S_drew HO132.out)
          replace HO138 := Zz.mk (Kd.S_drew HO138.out)
          replace HO146 := Zz.mk (Kd.S_drew HO146.out)
          replace BK101 := Zz.mk (bD_ BK101.out)
          replace BK102 := Zz.mk (bD_ BK102.out)
          replace BK121 := Zz.mk (bD_ BK121.out)
          replace BK127 := Zz.mk (bD_ BK127.out)
          replace BK133 := Zz.mk (bD_ BK133.out)
          replace BK140 := Zz.mk (bD_ BK140.out)
          replace HB := Zz.mk (qAc HB.out)
          refine qA5 (n := 5) (S := fun w' => w'.cell? ⟨gb133, 0, none⟩ = some (.int .i64 t128) ∧ w'.cell? ⟨gb133, 1, none⟩ = some (.int .i64 t129) ∧ w'.cell? ⟨gb133, 2, none⟩ = some (.slice Ao94 t130.length co94) ∧ w'.cell? ⟨gb102, 0, none⟩ = some (.int .i64 a1_0) ∧ w'.cell? ⟨gb102, 1, none⟩ = some (.int .i64 a1_1) ∧ w'.cell? ⟨gb102, 2, none⟩ = some (.slice A1_2 l1_2.length c1_2)) (ds := []) #[false, false, false, false, false] (by kernel_rfl) rfl rfl (Z3a_ BK133.out (Z3_ BK102.out)) (fun hHeld => ?_)
          generalize w112.drew = w113 at HO109 HO114 HO119 HO126 HO132 HO138 HO146 BK101 BK102 BK121 BK127 BK133 BK140 HB hHeld ⊢
          refine take_ (i := 0) (N := some 59) (v := ?_) (a' := ?_) #[true, false, false, false, false] rfl rfl (by kernel_rfl) (fun _ _ _ h => h) (Or.inl ⟨by rfl, ?_⟩) hHeld ?_ ?_
          rotate_left
          ·rintro w' ⟨s0, s1, s2, s3, s4, s5⟩
           go_simp
           with_reducible rfl
          rotate_left
          ·simp only [Act.put, List.setIfInBounds_toArray, List.set_cons_zero, List.set_cons_succ, qBa, qBm]
           rfl
          refine take_ (i := 1) (N := some 60) (v := ?_) (a' := ?_) #[true, true, false, false, false] rfl rfl (by kernel_rfl) (fun _ _ _ h => h) (Or.inl ⟨by rfl, ?_⟩) hHeld ?_ ?_
          rotate_left
          ·rintro w' ⟨s0, s1, s2, s3, s4, s5⟩
           go_simp
           with_reducible rfl
          rotate_left
          ·simp only [Act.put, List.setIfInBounds_toArray, List.set_cons_zero, List.set_cons_succ, qBa, qBm]
           rfl
          refine one_ (i := 2) (N := some 61) #[true, true, true, false, false] rfl rfl (by kernel_rfl) (by decide) (fun K hK => ?_)
          refine GO_ Try.func13 #[.agg #[.int .i64 a1_0, .int .i64 a1_1, .slice A1_2 l1_2.length c1_2]] (h := ?_)
          with_reducible refine (z13.calls k a1_0 a1_1 _ _ l1_2 t148 t149 t150 _ ?side1 ?side2 A31.out).mono ?_
          (case side1 => exact KC_ (Kd.C_below HR1_2.out HB.out))
          (case side2 => exact HC1_2.out)
          rintro e w114 ⟨v151, rfl, ho0, hb⟩
          refine ⟨_, rfl, ?_⟩
          obtain ⟨nan115, hnan115⟩ := Kd.size_letter hb
          have HO152 := Zz.mk (Kd.S_lower (Kd.S_geN (Kd.S_new' (Kd.S_new' (Kd.S_new' (Kd.S_new' (Kd.S_new' (Kd.S_new' (Kd.S_new' ho0 (Kd.S_lt (KS_ HO109.out))) (Kd.S_lt (KS_ HO114.out))) (Kd.S_lt (KS_ HO119.out))) (Kd.S_lt (KS_ HO126.out))) (Kd.S_lt (KS_ HO132.out))) (Kd.S_lt (KS_ HO138.out))) (Kd.S_lt (KS_ HO146.out))) hnan115) (bS_ (Bw6_ HB.out GE101.out GE102.out GE121.out GE127.out GE133.out GE140.out)))
          replace HO109 := Zz.mk (tl_ HO109.out hb hnan115 ho0)
          replace HO114 := Zz.mk (tl_ HO114.out hb hnan115 ho0)
          replace HO119 := Zz.mk (tl_ HO119.out hb hnan115 ho0)
          replace HO126 := Zz.mk (tl_ HO126.out hb hnan115 ho0)
          replace HO132 := Zz.mk (tl_ HO132.out hb hnan115 ho0)
          replace HO138 := Zz.mk (tl_ HO138.out hb hnan115 ho0)
          replace HO146 := Zz.mk (tl_ HO146.out hb hnan115 ho0)
          replace BK101 := Zz.mk (kb_ BK101.out hb)
          replace BK102 := Zz.mk (kb_ BK102.out hb)
          replace BK121 := Zz.mk (kb_ BK121.out hb)
          replace BK127 := Zz.mk (kb_ BK127.out hb)
          replace BK133 := Zz.mk (kb_ BK133.out hb)
          replace BK140 := Zz.mk (kb_ BK140.out hb)
          replace HB := Zz.mk (bT_ (Bw6_ HB.out GE101.out GE102.out GE121.out GE127.out GE133.out GE140.out) hb)
          (try clear hb);(try clear ho0)
          obtain ⟨Ao116, co116, eo116⟩ := Kd.S_slice HO152.out
          (first | subst eo116 | obtain ⟨rfl, rfl⟩ := sl_ eo116)
          refine hK.out _ _ (Z3a_ BK133.out (Z3_ BK102.out)) (fun hHeld => ?_)
          clear hK K
          refine NM_ (N := (some 61)) (h := ?_)
          refine one_ (i := 3) (N := some 62) #[true, true, true, true, false] rfl rfl (by kernel_rfl) (by decide) (fun K hK => ?_)
          refine GO_ Try.func17 #[.agg #[.int .i64 t128, .int .i64 t129, .slice Ao94 t130.length co94], .agg #[.int .i64 t148, .int .i64 t149, .slice Ao116 t150.length co116]] (h := ?_)
          with_reducible refine (z17.calls k t128 t129 _ _ t130 t148 t149 _ _ t150 true _ ?side1 ?side2 ?side3 ?side4 A32.out).mono ?_
          (case side1 => exact KC_ (Kd.S_reads' HO132.out).2.2)
          (case side2 => exact (Kd.S_reads' HO132.out).2.1)
          (case side3 => exact KC_ (Kd.S_reads' HO152.out).2.2)
          (case side4 => exact (Kd.S_reads' HO152.out).2.1)
          rintro e w117 ⟨rfl, hb⟩
          refine ⟨_, rfl, ?_⟩
          replace HO109 := Zz.mk (Kd.S_below (KS_ HO109.out) hb)
          replace HO114 := Zz.mk (Kd.S_below (KS_ HO114.out) hb)
          replace HO119 := Zz.mk (Kd.S_below (KS_ HO119.out) hb)
          replace HO126 := Zz.mk (Kd.S_below (KS_ HO126.out) hb)
          replace HO132 := Zz.mk (Kd.S_below (KS_ HO132.out) hb)
          replace HO138 := Zz.mk (Kd.S_below (KS_ HO138.out) hb)
          replace HO146 := Zz.mk (Kd.S_below (KS_ HO146.out) hb)
          replace HO152 := Zz.mk (Kd.S_below (KS_ HO152.out) hb)
          replace BK101 := Zz.mk (kb_ BK101.out hb)
          replace BK102 := Zz.mk (kb_ BK102.out hb)
          replace BK121 := Zz.mk (kb_ BK121.out hb)
          replace BK127 := Zz.mk (kb_ BK127.out hb)
          replace BK133 := Zz.mk (kb_ BK133.out hb)
          replace BK140 := Zz.mk (kb_ BK140.out hb)
          replace HB := Zz.mk (bT_ (Bw6_ HB.out GE101.out GE102.out GE121.out GE127.out GE133.out GE140.out) hb)
          (try clear hb)
          refine hK.out _ _ (Z3a_ BK133.out (Z3_ BK102.out)) (fun hHeld => ?_)
          clear hK K
          refine NM_ (N := (some 62)) (h := ?_)
          refine qE8 (i := 4) (N := some 63) (v := ?_) (a' := ?_) #[true, true, true, true, true] rfl rfl (by kernel_rfl) (fun _ _ _ h => h) (Or.inl ⟨by rfl, ?_⟩) ?_ ?_
          rotate_left
          ·intro w'
           go_simp
           with_reducible rfl
          rotate_left
          ·simp only [Act.put, List.setIfInBounds_toArray, List.set_cons_zero, List.set_cons_succ, qBa, qBm]
           rfl
          refine qBd (by kernel_rfl) ?_
          obtain ⟨hcz118_0, hcz118_1, hcz118_2, hfz118_0, hfz118_1, hfz118_2⟩ := Z3f_ BK127.out
          try go_wp2_with (first | (go_at_call 18; (with_reducible refine (laws_markSpace.calls t122 t123 (fun k_ => ((((((((((((True ∧ some k_ ≠ (v108 : Value).ownBlock) ∧ some k_ ≠ (v113 : Value).ownBlock) ∧ some k_ ≠ (.slice Ao72 t117.length co72 : Value).ownBlock) ∧ nan77 ≤ k_) ∧ some k_ ≠ (.slice Ao94 t130.length co94 : Value).ownBlock) ∧ k_ < nan87) ∧ some k_ ≠ (.slice Ao105 t136.length co105 : Value).ownBlock) ∧ k_ < nan97) ∧ some k_ ≠ (.slice Ao111 t144.length co111 : Value).ownBlock) ∧ k_ < nan110) ∧ some k_ ≠ (.slice Ao116 t150.length co116 : Value).ownBlock) ∧ k_ < nan115) ∧ ∃ q_, q_ ∈ 25 :: ((Kd.slice 2 (Kd.int .i64))).E ∧ ∃ cs_, w117.heap[k_]? = some (.cells cs_ q_ (0, 0))) (.slice Ao83 t124.length co83) t124 1 t154 t155 w _ ?side1 ?side2 A34.out).mono ?_); (case side1 => repeat (first | (with_reducible first | exact HB.out | apply qAg | apply qAd | apply qAc | refine qAb ?_ GE101.out | refine qAb ?_ GE102.out | refine qAb ?_ GE121.out | refine qAb ?_ GE127.out | refine qAb ?_ GE133.out | refine qAb ?_ GE140.out) | exact HB.out)); (case side2 => exact Kd.S_pin (ok := fun k_ => ((((((((((((True ∧ some k_ ≠ (v108 : Value).ownBlock) ∧ some k_ ≠ (v113 : Value).ownBlock) ∧ some k_ ≠ (.slice Ao72 t117.length co72 : Value).ownBlock) ∧ nan77 ≤ k_) ∧ some k_ ≠ (.slice Ao94 t130.length co94 : Value).ownBlock) ∧ k_ < nan87) ∧ some k_ ≠ (.slice Ao105 t136.length co105 : Value).ownBlock) ∧ k_ < nan97) ∧ some k_ ≠ (.slice Ao111 t144.length co111 : Value).ownBlock) ∧ k_ < nan110) ∧ some k_ ≠ (.slice Ao116 t150.length co116 : Value).ownBlock) ∧ k_ < nan115)) (KS_ HO126.out)); rintro e w119 ⟨rfl, hy0, hb, hkp⟩; replace BK101 := Zz.mk (qAz (KB_ BK101.out) hkp (fun hs_ => Kd.typed_ne (KB_ BK101.out) hs_.2 (by decide))); replace BK102 := Zz.mk (qAz (KB_ BK102.out) hkp (fun hs_ => Kd.typed_ne (KB_ BK102.out) hs_.2 (by decide))); replace HO109 := Zz.mk (Kd.S_mono (Kd.S_keptB (ok := fun k_ => (((((((((((some k_ ≠ (v113 : Value).ownBlock ∧ some k_ ≠ (.slice Ao72 t117.length co72 : Value).ownBlock) ∧ some k_ ≠ (.slice Ao83 t124.length co83 : Value).ownBlock) ∧ k_ < nan77) ∧ some k_ ≠ (.slice Ao94 t130.length co94 : Value).ownBlock) ∧ k_ < nan87) ∧ some k_ ≠ (.slice Ao105 t136.length co105 : Value).ownBlock) ∧ k_ < nan97) ∧ some k_ ≠ (.slice Ao111 t144.length co111 : Value).ownBlock) ∧ k_ < nan110) ∧ some k_ ≠ (.slice Ao116 t150.length co116 : Value).ownBlock) ∧ k_ < nan115)) (KS_ HO109.out) hkp (fun k_ hk_ hs_ => absurd hs_.1.1.1.1.1.1.1.1.1.2 (Nat.not_le.2 hk_.1.1.1.1.1.1.1.1.2))) (fun k_ hk_ => hk_.1)); replace HO114 := Zz.mk (Kd.S_mono (Kd.S_keptB (ok := fun k_ => (((((((((((some k_ ≠ (v108 : Value).ownBlock ∧ some k_ ≠ (.slice Ao72 t117.length co72 : Value).ownBlock) ∧ some k_ ≠ (.slice Ao83 t124.length co83 : Value).ownBlock) ∧ k_ < nan77) ∧ some k_ ≠ (.slice Ao94 t130.length co94 : Value).ownBlock) ∧ k_ < nan87) ∧ some k_ ≠ (.slice Ao105 t136.length co105 : Value).ownBlock) ∧ k_ < nan97) ∧ some k_ ≠ (.slice Ao111 t144.length co111 : Value).ownBlock) ∧ k_ < nan110) ∧ some k_ ≠ (.slice Ao116 t150.length co116 : Value).ownBlock) ∧ k_ < nan115)) (KS_ HO114.out) hkp (fun k_ hk_ hs_ => absurd hs_.1.1.1.1.1.1.1.1.1.2 (Nat.not_le.2 hk_.1.1.1.1.1.1.1.1.2))) (fun k_ hk_ => hk_.1)); replace HO119 := Zz.mk (Kd.S_mono (Kd.S_keptB (ok := fun k_ => (((((((((((some k_ ≠ (v108 : Value).ownBlock ∧ some k_ ≠ (v113 : Value).ownBlock) ∧ some k_ ≠ (.slice Ao83 t124.length co83 : Value).ownBlock) ∧ k_ < nan77) ∧ some k_ ≠ (.slice Ao94 t130.length co94 : Value).ownBlock) ∧ k_ < nan87) ∧ some k_ ≠ (.slice Ao105 t136.length co105 : Value).ownBlock) ∧ k_ < nan97) ∧ some k_ ≠ (.slice Ao111 t144.length co111 : Value).ownBlock) ∧ k_ < nan110) ∧ some k_ ≠ (.slice Ao116 t150.length co116 : Value).ownBlock) ∧ k_ < nan115)) (KS_ HO119.out) hkp (fun k_ hk_ hs_ => absurd hs_.1.1.1.1.1.1.1.1.1.2 (Nat.not_le.2 hk_.1.1.1.1.1.1.1.1.2))) (fun k_ hk_ => hk_.1)); replace BK121 := Zz.mk (qAz (KB_ BK121.out) hkp (fun hs_ => Kd.typed_ne (KB_ BK121.out) hs_.2 (by decide))); replace HO126 := Zz.mk (Kd.S_mono hy0 (fun k_ hk_ => hk_.1)); replace BK127 := Zz.mk (qAz (KB_ BK127.out) hkp (fun hs_ => Kd.typed_ne (KB_ BK127.out) hs_.2 (by decide))); replace HO132 := Zz.mk (Kd.S_mono (Kd.S_keptB (ok := fun k_ => (((((((((((True ∧ some k_ ≠ (v108 : Value).ownBlock) ∧ some k_ ≠ (v113 : Value).ownBlock) ∧ some k_ ≠ (.slice Ao72 t117.length co72 : Value).ownBlock) ∧ some k_ ≠ (.slice Ao83 t124.length co83 : Value).ownBlock) ∧ nan87 ≤ k_) ∧ some k_ ≠ (.slice Ao105 t136.length co105 : Value).ownBlock) ∧ k_ < nan97) ∧ some k_ ≠ (.slice Ao111 t144.length co111 : Value).ownBlock) ∧ k_ < nan110) ∧ some k_ ≠ (.slice Ao116 t150.length co116 : Value).ownBlock) ∧ k_ < nan115)) (KS_ HO132.out) hkp (fun k_ hk_ hs_ => absurd hk_.1.1.1.1.1.1.2 (Nat.not_le.2 hs_.1.1.1.1.1.1.1.2))) (fun k_ hk_ => hk_.1)); replace BK133 := Zz.mk (qAz (KB_ BK133.out) hkp (fun hs_ => Kd.typed_ne (KB_ BK133.out) hs_.2 (by decide))); replace HO138 := Zz.mk (Kd.S_mono (Kd.S_keptB (ok := fun k_ => ((((((((((True ∧ some k_ ≠ (v108 : Value).ownBlock) ∧ some k_ ≠ (v113 : Value).ownBlock) ∧ some k_ ≠ (.slice Ao72 t117.length co72 : Value).ownBlock) ∧ some k_ ≠ (.slice Ao83 t124.length co83 : Value).ownBlock) ∧ some k_ ≠ (.slice Ao94 t130.length co94 : Value).ownBlock) ∧ nan97 ≤ k_) ∧ some k_ ≠ (.slice Ao111 t144.length co111 : Value).ownBlock) ∧ k_ < nan110) ∧ some k_ ≠ (.slice Ao116 t150.length co116 : Value).ownBlock) ∧ k_ < nan115)) (KS_ HO138.out) hkp (fun k_ hk_ hs_ => absurd hk_.1.1.1.1.2 (Nat.not_le.2 hs_.1.1.1.1.1.2))) (fun k_ hk_ => hk_.1)); replace BK140 := Zz.mk (qAz (KB_ BK140.out) hkp (fun hs_ => Kd.typed_ne (KB_ BK140.out) hs_.2 (by decide))); replace HO146 := Zz.mk (Kd.S_mono (Kd.S_keptB (ok := fun k_ => (((((((((True ∧ some k_ ≠ (v108 : Value).ownBlock) ∧ some k_ ≠ (v113 : Value).ownBlock) ∧ some k_ ≠ (.slice Ao72 t117.length co72 : Value).ownBlock) ∧ some k_ ≠ (.slice Ao83 t124.length co83 : Value).ownBlock) ∧ some k_ ≠ (.slice Ao94 t130.length co94 : Value).ownBlock) ∧ some k_ ≠ (.slice Ao105 t136.length co105 : Value).ownBlock) ∧ nan110 ≤ k_) ∧ some k_ ≠ (.slice Ao116 t150.length co116 : Value).ownBlock) ∧ k_ < nan115)) (KS_ HO146.out) hkp (fun k_ hk_ hs_ => absurd hk_.1.1.2 (Nat.not_le.2 hs_.1.1.1.2))) (fun k_ hk_ => hk_.1)); replace HO152 := Zz.mk (Kd.S_mono (Kd.S_keptB (ok := fun k_ => ((((((((True ∧ some k_ ≠ (v108 : Value).ownBlock) ∧ some k_ ≠ (v113 : Value).ownBlock) ∧ some k_ ≠ (.slice Ao72 t117.length co72 : Value).ownBlock) ∧ some k_ ≠ (.slice Ao83 t124.length co83 : Value).ownBlock) ∧ some k_ ≠ (.slice Ao94 t130.length co94 : Value).ownBlock) ∧ some k_ ≠ (.slice Ao105 t136.length co105 : Value).ownBlock) ∧ some k_ ≠ (.slice Ao111 t144.length co111 : Value).ownBlock) ∧ nan115 ≤ k_)) (KS_ HO152.out) hkp (fun k_ hk_ hs_ => absurd hk_.2 (Nat.not_le.2 hs_.1.2))) (fun k_ hk_ => hk_.1)); replace HB := Zz.mk (hb); (try clear hb hkp hy0); obtain ⟨hcz120_0, hcz120_1, hcz120_2, hfz120_0, hfz120_1, hfz120_2⟩ := Z3f_ BK133.out) | (go_at_call 18; (with_reducible refine (laws_markSpace.calls t128 t129 (fun k_ => (((((((((((True ∧ some k_ ≠ (v108 : Value).ownBlock) ∧ some k_ ≠ (v113 : Value).ownBlock) ∧ some k_ ≠ (.slice Ao72 t117.length co72 : Value).ownBlock) ∧ some k_ ≠ (.slice Ao83 t124.length co83 : Value).ownBlock) ∧ nan87 ≤ k_) ∧ some k_ ≠ (.slice Ao105 t136.length co105 : Value).ownBlock) ∧ k_ < nan97) ∧ some k_ ≠ (.slice Ao111 t144.length co111 : Value).ownBlock) ∧ k_ < nan110) ∧ some k_ ≠ (.slice Ao116 t150.length co116 : Value).ownBlock) ∧ k_ < nan115) ∧ ∃ q_, q_ ∈ 25 :: ((Kd.slice 2 (Kd.int .i64))).E ∧ ∃ cs_, w119.heap[k_]? = some (.cells cs_ q_ (0, 0))) (.slice Ao94 t130.length co94) t130 t154 t156 t157 w _ ?side1 ?side2 A35.out).mono ?_); (case side1 => repeat (first | (with_reducible first | exact HB.out | apply qAg | apply qAd | apply qAc | refine qAb ?_ GE101.out | refine qAb ?_ GE102.out | refine qAb ?_ GE121.out | refine qAb ?_ GE127.out | refine qAb ?_ GE133.out | refine qAb ?_ GE140.out) | exact HB.out)); (case side2 => exact Kd.S_pin (ok := fun k_ => (((((((((((True ∧ some k_ ≠ (v108 : Value).ownBlock) ∧ some k_ ≠ (v113 : Value).ownBlock) ∧ some k_ ≠ (.slice Ao72 t117.length co72 : Value).ownBlock) ∧ some k_ ≠ (.slice Ao83 t124.length co83 : Value).ownBlock) ∧ nan87 ≤ k_) ∧ some k_ ≠ (.slice Ao105 t136.length co105 : Value).ownBlock) ∧ k_ < nan97) ∧ some k_ ≠ (.slice Ao111 t144.length co111 : Value).ownBlock) ∧ k_ < nan110) ∧ some k_ ≠ (.slice Ao116 t150.length co116 : Value).ownBlock) ∧ k_ < nan115)) (KS_ HO132.out)); rintro e w121 ⟨rfl, hy0, hb, hkp⟩; replace BK101 := Zz.mk (qAz (KB_ BK101.out) hkp (fun hs_ => Kd.typed_ne (KB_ BK101.out) hs_.2 (by decide))); replace BK102 := Zz.mk (qAz (KB_ BK102.out) hkp (fun hs_ => Kd.typed_ne (KB_ BK102.out) hs_.2 (by decide))); replace HO109 := Zz.mk (Kd.S_mono (Kd.S_keptB (ok := fun k_ => (((((((((((some k_ ≠ (v113 : Value).ownBlock ∧ some k_ ≠ (.slice Ao72 t117.length co72 : Value).ownBlock) ∧ some k_ ≠ (.slice Ao83 t124.length co83 : Value).ownBlock) ∧ k_ < nan77) ∧ some k_ ≠ (.slice Ao94 t130.length co94 : Value).ownBlock) ∧ k_ < nan87) ∧ some k_ ≠ (.slice Ao105 t136.length co105 : Value).ownBlock) ∧ k_ < nan97) ∧ some k_ ≠ (.slice Ao111 t144.length co111 : Value).ownBlock) ∧ k_ < nan110) ∧ some k_ ≠ (.slice Ao116 t150.length co116 : Value).ownBlock) ∧ k_ < nan115)) (KS_ HO109.out) hkp (fun k_ hk_ hs_ => absurd hs_.1.1.1.1.1.1.1.2 (Nat.not_le.2 hk_.1.1.1.1.1.1.2))) (fun k_ hk_ => hk_.1)); replace HO114 := Zz.mk (Kd.S_mono (Kd.S_keptB (ok := fun k_ => (((((((((((some k_ ≠ (v108 : Value).ownBlock ∧ some k_ ≠ (.slice Ao72 t117.length co72 : Value).ownBlock) ∧ some k_ ≠ (.slice Ao83 t124.length co83 : Value).ownBlock) ∧ k_ < nan77) ∧ some k_ ≠ (.slice Ao94 t130.length co94 : Value).ownBlock) ∧ k_ < nan87) ∧ some k_ ≠ (.slice Ao105 t136.length co105 : Value).ownBlock) ∧ k_ < nan97) ∧ some k_ ≠ (.slice Ao111 t144.length co111 : Value).ownBlock) ∧ k_ < nan110) ∧ some k_ ≠ (.slice Ao116 t150.length co116 : Value).ownBlock) ∧ k_ < nan115)) (KS_ HO114.out) hkp (fun k_ hk_ hs_ => absurd hs_.1.1.1.1.1.1.1.2 (Nat.not_le.2 hk_.1.1.1.1.1.1.2))) (fun k_ hk_ => hk_.1)); replace HO119 := Zz.mk (Kd.S_mono (Kd.S_keptB (ok := fun k_ => (((((((((((some k_ ≠ (v108 : Value).ownBlock ∧ some k_ ≠ (v113 : Value).ownBlock) ∧ some k_ ≠ (.slice Ao83 t124.length co83 : Value).ownBlock) ∧ k_ < nan77) ∧ some k_ ≠ (.slice Ao94 t130.length co94 : Value).ownBlock) ∧ k_ < nan87) ∧ some k_ ≠ (.slice Ao105 t136.length co105 : Value).ownBlock) ∧ k_ < nan97) ∧ some k_ ≠ (.slice Ao111 t144.length co111 : Value).ownBlock) ∧ k_ < nan110) ∧ some k_ ≠ (.slice Ao116 t150.length co116 : Value).ownBlock) ∧ k_ < nan115)) (KS_ HO119.out) hkp (fun k_ hk_ hs_ => absurd hs_.1.1.1.1.1.1.1.2 (Nat.not_le.2 hk_.1.1.1.1.1.1.2))) (fun k_ hk_ => hk_.1)); replace BK121 := Zz.mk (qAz (KB_ BK121.out) hkp (fun hs_ => Kd.typed_ne (KB_ BK121.out) hs_.2 (by decide))); replace HO126 := Zz.mk (Kd.S_mono (Kd.S_keptB (ok := fun k_ => ((((((((((((True ∧ some k_ ≠ (v108 : Value).ownBlock) ∧ some k_ ≠ (v113 : Value).ownBlock) ∧ some k_ ≠ (.slice Ao72 t117.length co72 : Value).ownBlock) ∧ nan77 ≤ k_) ∧ some k_ ≠ (.slice Ao94 t130.length co94 : Value).ownBlock) ∧ k_ < nan87) ∧ some k_ ≠ (.slice Ao105 t136.length co105 : Value).ownBlock) ∧ k_ < nan97) ∧ some k_ ≠ (.slice Ao111 t144.length co111 : Value).ownBlock) ∧ k_ < nan110) ∧ some k_ ≠ (.slice Ao116 t150.length co116 : Value).ownBlock) ∧ k_ < nan115)) (KS_ HO126.out) hkp (fun k_ hk_ hs_ => absurd hs_.1.1.1.1.1.1.1.2 (Nat.not_le.2 hk_.1.1.1.1.1.1.2))) (fun k_ hk_ => hk_.1)); replace BK127 := Zz.mk (qAz (KB_ BK127.out) hkp (fun hs_ => Kd.typed_ne (KB_ BK127.out) hs_.2 (by decide))); replace HO132 := Zz.mk (Kd.S_mono hy0 (fun k_ hk_ => hk_.1)); replace BK133 := Zz.mk (qAz (KB_ BK133.out) hkp (fun hs_ => Kd.typed_ne (KB_ BK133.out) hs_.2 (by decide))); replace HO138 := Zz.mk (Kd.S_mono (Kd.S_keptB (ok := fun k_ => ((((((((((True ∧ some k_ ≠ (v108 : Value).ownBlock) ∧ some k_ ≠ (v113 : Value).ownBlock) ∧ some k_ ≠ (.slice Ao72 t117.length co72 : Value).ownBlock) ∧ some k_ ≠ (.slice Ao83 t124.length co83 : Value).ownBlock) ∧ some k_ ≠ (.slice Ao94 t130.length co94 : Value).ownBlock) ∧ nan97 ≤ k_) ∧ some k_ ≠ (.slice Ao111 t144.length co111 : Value).ownBlock) ∧ k_ < nan110) ∧ some k_ ≠ (.slice Ao116 t150.length co116 : Value).ownBlock) ∧ k_ < nan115)) (KS_ HO138.out) hkp (fun k_ hk_ hs_ => absurd hk_.1.1.1.1.2 (Nat.not_le.2 hs_.1.1.1.1.1.2))) (fun k_ hk_ => hk_.1)); replace BK140 := Zz.mk (qAz (KB_ BK140.out) hkp (fun hs_ => Kd.typed_ne (KB_ BK140.out) hs_.2 (by decide))); replace HO146 := Zz.mk (Kd.S_mono (Kd.S_keptB (ok := fun k_ => (((((((((True ∧ some k_ ≠ (v108 : Value).ownBlock) ∧ some k_ ≠ (v113 : Value).ownBlock) ∧ some k_ ≠ (.slice Ao72 t117.length co72 : Value).ownBlock) ∧ some k_ ≠ (.slice Ao83 t124.length co83 : Value).ownBlock) ∧ some k_ ≠ (.slice Ao94 t130.length co94 : Value).ownBlock) ∧ some k_ ≠ (.slice Ao105 t136.length co105 : Value).ownBlock) ∧ nan110 ≤ k_) ∧ some k_ ≠ (.slice Ao116 t150.length co116 : Value).ownBlock) ∧ k_ < nan115)) (KS_ HO146.out) hkp (fun k_ hk_ hs_ => absurd hk_.1.1.2 (Nat.not_le.2 hs_.1.1.1.2))) (fun k_ hk_ => hk_.1)); replace HO152 := Zz.mk (Kd.S_mono (Kd.S_keptB (ok := fun k_ => ((((((((True ∧ some k_ ≠ (v108 : Value).ownBlock) ∧ some k_ ≠ (v113 : Value).ownBlock) ∧ some k_ ≠ (.slice Ao72 t117.length co72 : Value).ownBlock) ∧ some k_ ≠ (.slice Ao83 t124.length co83 : Value).ownBlock) ∧ some k_ ≠ (.slice Ao94 t130.length co94 : Value).ownBlock) ∧ some k_ ≠ (.slice Ao105 t136.length co105 : Value).ownBlock) ∧ some k_ ≠ (.slice Ao111 t144.length co111 : Value).ownBlock) ∧ nan115 ≤ k_)) (KS_ HO152.out) hkp (fun k_ hk_ hs_ => absurd hk_.2 (Nat.not_le.2 hs_.1.2))) (fun k_ hk_ => hk_.1)); replace HB := Zz.mk (hb); (try clear hb hkp hy0); obtain ⟨hcz122_0, hcz122_1, hcz122_2, hfz122_0, hfz122_1, hfz122_2⟩ := Z3f_ BK140.out; obtain ⟨hcz123_0, hcz123_1, hcz123_2, hfz123_0, hfz123_1, hfz123_2⟩ := Z3f_ BK121.out) | (go_at_call 17; (with_reducible refine (z17.calls k t134 t135 _ _ t136 t115 t116 _ _ t117 true _ ?side1 ?side2 ?side3 ?side4 A37.out).mono ?_); (case side1 => exact KC_ (Kd.S_reads' HO138.out).2.2); (case side2 => exact (Kd.S_reads' HO138.out).2.1); (case side3 => exact KC_ (Kd.S_reads' HO119.out).2.2); (case side4 => exact (Kd.S_reads' HO119.out).2.1); rintro e w124 ⟨rfl, hb⟩; replace HO109 := Zz.mk (Kd.S_below (KS_ HO109.out) hb); replace HO114 := Zz.mk (Kd.S_below (KS_ HO114.out) hb); replace HO119 := Zz.mk (Kd.S_below (KS_ HO119.out) hb); replace HO126 := Zz.mk (Kd.S_below (KS_ HO126.out) hb); replace HO132 := Zz.mk (Kd.S_below (KS_ HO132.out) hb); replace HO138 := Zz.mk (Kd.S_below (KS_ HO138.out) hb); replace HO146 := Zz.mk (Kd.S_below (KS_ HO146.out) hb); replace HO152 := Zz.mk (Kd.S_below (KS_ HO152.out) hb); replace BK101 := Zz.mk (kb_ BK101.out hb); replace BK102 := Zz.mk (kb_ BK102.out hb); replace BK121 := Zz.mk (kb_ BK121.out hb); replace BK127 := Zz.mk (kb_ BK127.out hb); replace BK133 := Zz.mk (kb_ BK133.out hb); replace BK140 := Zz.mk (kb_ BK140.out hb); replace HB := Zz.mk (bT_ (Bw6_ HB.out GE101.out GE102.out GE121.out GE127.out GE133.out GE140.out) hb); (try clear hb); obtain ⟨hcz125_0, hcz125_1, hcz125_2, hfz125_0, hfz125_1, hfz125_2⟩ := Z3f_ BK140.out) | (go_at_call 18; (with_reducible refine (laws_markSpace.calls t134 t135 (fun k_ => ((((((((((True ∧ some k_ ≠ (v108 : Value).ownBlock) ∧ some k_ ≠ (v113 : Value).ownBlock) ∧ some k_ ≠ (.slice Ao72 t117.length co72 : Value).ownBlock) ∧ some k_ ≠ (.slice Ao83 t124.length co83 : Value).ownBlock) ∧ some k_ ≠ (.slice Ao94 t130.length co94 : Value).ownBlock) ∧ nan97 ≤ k_) ∧ some k_ ≠ (.slice Ao111 t144.length co111 : Value).ownBlock) ∧ k_ < nan110) ∧ some k_ ≠ (.slice Ao116 t150.length co116 : Value).ownBlock) ∧ k_ < nan115) ∧ ∃ q_, q_ ∈ 25 :: ((Kd.slice 2 (Kd.int .i64))).E ∧ ∃ cs_, w124.heap[k_]? = some (.cells cs_ q_ (0, 0))) (.slice Ao105 t136.length co105) t136 1 t159 t160 w _ ?side1 ?side2 A39.out).mono ?_); (case side1 => repeat (first | (with_reducible first | exact HB.out | apply qAg | apply qAd | apply qAc | refine qAb ?_ GE101.out | refine qAb ?_ GE102.out | refine qAb ?_ GE121.out | refine qAb ?_ GE127.out | refine qAb ?_ GE133.out | refine qAb ?_ GE140.out) | exact HB.out)); (case side2 => exact Kd.S_pin (ok := fun k_ => ((((((((((True ∧ some k_ ≠ (v108 : Value).ownBlock) ∧ some k_ ≠ (v113 : Value).ownBlock) ∧ some k_ ≠ (.slice Ao72 t117.length co72 : Value).ownBlock) ∧ some k_ ≠ (.slice Ao83 t124.length co83 : Value).ownBlock) ∧ some k_ ≠ (.slice Ao94 t130.length co94 : Value).ownBlock) ∧ nan97 ≤ k_) ∧ some k_ ≠ (.slice Ao111 t144.length co111 : Value).ownBlock) ∧ k_ < nan110) ∧ some k_ ≠ (.slice Ao116 t150.length co116 : Value).ownBlock) ∧ k_ < nan115)) (KS_ HO138.out)); rintro e w126 ⟨rfl, hy0, hb, hkp⟩; replace BK101 := Zz.mk (qAz (KB_ BK101.out) hkp (fun hs_ => Kd.typed_ne (KB_ BK101.out) hs_.2 (by decide))); replace BK102 := Zz.mk (qAz (KB_ BK102.out) hkp (fun hs_ => Kd.typed_ne (KB_ BK102.out) hs_.2 (by decide))); replace HO109 := Zz.mk (Kd.S_mono (Kd.S_keptB (ok := fun k_ => (((((((((((some k_ ≠ (v113 : Value).ownBlock ∧ some k_ ≠ (.slice Ao72 t117.length co72 : Value).ownBlock) ∧ some k_ ≠ (.slice Ao83 t124.length co83 : Value).ownBlock) ∧ k_ < nan77) ∧ some k_ ≠ (.slice Ao94 t130.length co94 : Value).ownBlock) ∧ k_ < nan87) ∧ some k_ ≠ (.slice Ao105 t136.length co105 : Value).ownBlock) ∧ k_ < nan97) ∧ some k_ ≠ (.slice Ao111 t144.length co111 : Value).ownBlock) ∧ k_ < nan110) ∧ some k_ ≠ (.slice Ao116 t150.length co116 : Value).ownBlock) ∧ k_ < nan115)) (KS_ HO109.out) hkp (fun k_ hk_ hs_ => absurd hs_.1.1.1.1.1.2 (Nat.not_le.2 hk_.1.1.1.1.2))) (fun k_ hk_ => hk_.1)); replace HO114 := Zz.mk (Kd.S_mono (Kd.S_keptB (ok := fun k_ => (((((((((((some k_ ≠ (v108 : Value).ownBlock ∧ some k_ ≠ (.slice Ao72 t117.length co72 : Value).ownBlock) ∧ some k_ ≠ (.slice Ao83 t124.length co83 : Value).ownBlock) ∧ k_ < nan77) ∧ some k_ ≠ (.slice Ao94 t130.length co94 : Value).ownBlock) ∧ k_ < nan87) ∧ some k_ ≠ (.slice Ao105 t136.length co105 : Value).ownBlock) ∧ k_ < nan97) ∧ some k_ ≠ (.slice Ao111 t144.length co111 : Value).ownBlock) ∧ k_ < nan110) ∧ some k_ ≠ (.slice Ao116 t150.length co116 : Value).ownBlock) ∧ k_ < nan115)) (KS_ HO114.out) hkp (fun k_ hk_ hs_ => absurd hs_.1.1.1.1.1.2 (Nat.not_le.2 hk_.1.1.1.1.2))) (fun k_ hk_ => hk_.1)); replace HO119 := Zz.mk (Kd.S_mono (Kd.S_keptB (ok := fun k_ => (((((((((((some k_ ≠ (v108 : Value).ownBlock ∧ some k_ ≠ (v113 : Value).ownBlock) ∧ some k_ ≠ (.slice Ao83 t124.length co83 : Value).ownBlock) ∧ k_ < nan77) ∧ some k_ ≠ (.slice Ao94 t130.length co94 : Value).ownBlock) ∧ k_ < nan87) ∧ some k_ ≠ (.slice Ao105 t136.length co105 : Value).ownBlock) ∧ k_ < nan97) ∧ some k_ ≠ (.slice Ao111 t144.length co111 : Value).ownBlock) ∧ k_ < nan110) ∧ some k_ ≠ (.slice Ao116 t150.length co116 : Value).ownBlock) ∧ k_ < nan115)) (KS_ HO119.out) hkp (fun k_ hk_ hs_ => absurd hs_.1.1.1.1.1.2 (Nat.not_le.2 hk_.1.1.1.1.2))) (fun k_ hk_ => hk_.1)); replace BK121 := Zz.mk (qAz (KB_ BK121.out) hkp (fun hs_ => Kd.typed_ne (KB_ BK121.out) hs_.2 (by decide))); replace HO126 := Zz.mk (Kd.S_mono (Kd.S_keptB (ok := fun k_ => ((((((((((((True ∧ some k_ ≠ (v108 : Value).ownBlock) ∧ some k_ ≠ (v113 : Value).ownBlock) ∧ some k_ ≠ (.slice Ao72 t117.length co72 : Value).ownBlock) ∧ nan77 ≤ k_) ∧ some k_ ≠ (.slice Ao94 t130.length co94 : Value).ownBlock) ∧ k_ < nan87) ∧ some k_ ≠ (.slice Ao105 t136.length co105 : Value).ownBlock) ∧ k_ < nan97) ∧ some k_ ≠ (.slice Ao111 t144.length co111 : Value).ownBlock) ∧ k_ < nan110) ∧ some k_ ≠ (.slice Ao116 t150.length co116 : Value).ownBlock) ∧ k_ < nan115)) (KS_ HO126.out) hkp (fun k_ hk_ hs_ => absurd hs_.1.1.1.1.1.2 (Nat.not_le.2 hk_.1.1.1.1.2))) (fun k_ hk_ => hk_.1)); replace BK127 := Zz.mk (qAz (KB_ BK127.out) hkp (fun hs_ => Kd.typed_ne (KB_ BK127.out) hs_.2 (by decide))); replace HO132 := Zz.mk (Kd.S_mono (Kd.S_keptB (ok := fun k_ => (((((((((((True ∧ some k_ ≠ (v108 : Value).ownBlock) ∧ some k_ ≠ (v113 : Value).ownBlock) ∧ some k_ ≠ (.slice Ao72 t117.length co72 : Value).ownBlock) ∧ some k_ ≠ (.slice Ao83 t124.length co83 : Value).ownBlock) ∧ nan87 ≤ k_) ∧ some k_ ≠ (.slice Ao105 t136.length co105 : Value).ownBlock) ∧ k_ < nan97) ∧ some k_ ≠ (.slice Ao111 t144.length co111 : Value).ownBlock) ∧ k_ < nan110) ∧ some k_ ≠ (.slice Ao116 t150.length co116 : Value).ownBlock) ∧ k_ < nan115)) (KS_ HO132.out) hkp (fun k_ hk_ hs_ => absurd hs_.1.1.1.1.1.2 (Nat.not_le.2 hk_.1.1.1.1.2))) (fun k_ hk_ => hk_.1)); replace BK133 := Zz.mk (qAz (KB_ BK133.out) hkp (fun hs_ => Kd.typed_ne (KB_ BK133.out) hs_.2 (by decide))); replace HO138 := Zz.mk (Kd.S_mono hy0 (fun k_ hk_ => hk_.1)); replace BK140 := Zz.mk (qAz (KB_ BK140.out) hkp (fun hs_ => Kd.typed_ne (KB_ BK140.out) hs_.2 (by decide))); replace HO146 := Zz.mk (Kd.S_mono (Kd.S_keptB (ok := fun k_ => (((((((((True ∧ some k_ ≠ (v108 : Value).ownBlock) ∧ some k_ ≠ (v113 : Value).ownBlock) ∧ some k_ ≠ (.slice Ao72 t117.length co72 : Value).ownBlock) ∧ some k_ ≠ (.slice Ao83 t124.length co83 : Value).ownBlock) ∧ some k_ ≠ (.slice Ao94 t130.length co94 : Value).ownBlock) ∧ some k_ ≠ (.slice Ao105 t136.length co105 : Value).ownBlock) ∧ nan110 ≤ k_) ∧ some k_ ≠ (.slice Ao116 t150.length co116 : Value).ownBlock) ∧ k_ < nan115)) (KS_ HO146.out) hkp (fun k_ hk_ hs_ => absurd hk_.1.1.2 (Nat.not_le.2 hs_.1.1.1.2))) (fun k_ hk_ => hk_.1)); replace HO152 := Zz.mk (Kd.S_mono (Kd.S_keptB (ok := fun k_ => ((((((((True ∧ some k_ ≠ (v108 : Value).ownBlock) ∧ some k_ ≠ (v113 : Value).ownBlock) ∧ some k_ ≠ (.slice Ao72 t117.length co72 : Value).ownBlock) ∧ some k_ ≠ (.slice Ao83 t124.length co83 : Value).ownBlock) ∧ some k_ ≠ (.slice Ao94 t130.length co94 : Value).ownBlock) ∧ some k_ ≠ (.slice Ao105 t136.length co105 : Value).ownBlock) ∧ some k_ ≠ (.slice Ao111 t144.length co111 : Value).ownBlock) ∧ nan115 ≤ k_)) (KS_ HO152.out) hkp (fun k_ hk_ hs_ => absurd hk_.2 (Nat.not_le.2 hs_.1.2))) (fun k_ hk_ => hk_.1)); replace HB := Zz.mk (hb); (try clear hb hkp hy0); obtain ⟨hcz127_0, hcz127_1, hcz127_2, hfz127_0, hfz127_1, hfz127_2⟩ := Z3f_ BK140.out) | ((with_reducible refine gC_ (f := 23) rfl ?_); refine qDe (some 88) rfl rfl Try.func23 (by kernel_rfl) rfl #[.agg #[.int .i64 t134, .int .i64 t135, .slice Ao105 t160.length co105], .int .i64 1] rfl (by (try simp only [List.map_toArray, List.map_cons, List.map_nil]); first | done | (rw [show t160.length = t136.length from (Kd.S_reads' HO138.out).1.symm] <;> rfl) | rfl | (simp only [List.length_drop, List.length_take]; rfl)) ?_; (with_reducible refine (z23.calls k t134 t135 _ _ t160 1 t161 _ ?side1 ?side2 A40.out).mono ?_); (case side1 => exact KC_ (Kd.S_reads' HO138.out).2.2); (case side2 => rw [show t160.length = t136.length from (Kd.S_reads' HO138.out).1.symm]; exact (Kd.S_reads' HO138.out).2.1); rintro e w128 ⟨rfl, hb⟩; refine ⟨_, rfl, ?_⟩; replace HO109 := Zz.mk (Kd.S_below (KS_ HO109.out) hb); replace HO114 := Zz.mk (Kd.S_below (KS_ HO114.out) hb); replace HO119 := Zz.mk (Kd.S_below (KS_ HO119.out) hb); replace HO126 := Zz.mk (Kd.S_below (KS_ HO126.out) hb); replace HO132 := Zz.mk (Kd.S_below (KS_ HO132.out) hb); replace HO138 := Zz.mk (Kd.S_below (KS_ HO138.out) hb); replace HO146 := Zz.mk (Kd.S_below (KS_ HO146.out) hb); replace HO152 := Zz.mk (Kd.S_below (KS_ HO152.out) hb); replace BK101 := Zz.mk (kb_ BK101.out hb); replace BK102 := Zz.mk (kb_ BK102.out hb); replace BK121 := Zz.mk (kb_ BK121.out hb); replace BK127 := Zz.mk (kb_ BK127.out hb); replace BK133 := Zz.mk (kb_ BK133.out hb); replace BK140 := Zz.mk (kb_ BK140.out hb); replace HB := Zz.mk (bT_ (Bw6_ HB.out GE101.out GE102.out GE121.out GE127.out GE133.out GE140.out) hb); (try clear hb)))
          replace HO109 := Zz.mk (Kd.S_drew HO109.out)
          replace HO114 := Zz.mk (Kd.S_drew HO114.out)
          replace HO119 := Zz.mk (Kd.S_drew HO119.out)
          replace HO126 := Zz.mk (Kd.S_drew HO126.out)
          replace HO132 := Zz.mk (Kd.S_drew HO132.out)
          replace HO138 := Zz.mk (Kd.S_drew HO138.out)
          replace HO146 := Zz.mk (Kd.S_drew HO146.out)
          replace HO152 := Zz.mk (Kd.S_drew HO152.out)
          replace BK101 := Zz.mk (bD_ BK101.out)
          replace BK102 := Zz.mk (bD_ BK102.out)
          replace BK121 := Zz.mk (bD_ BK121.out)
          replace BK127 := Zz.mk (bD_ BK127.out)
          replace BK133 := Zz.mk (bD_ BK133.out)
          replace BK140 := Zz.mk (bD_ BK140.out)
          replace HB := Zz.mk (qAc HB.out)
          refine qA5 (n := 11) (S := fun w' => w'.cell? ⟨gb101, 0, none⟩ = some (.int .i64 a0_0) ∧ w'.cell? ⟨gb101, 1, none⟩ = some (.int .i64 a0_1) ∧ w'.cell? ⟨gb101, 2, none⟩ = some (.slice A0_2 l0_2.length c0_2) ∧ w'.cell? ⟨gb102, 0, none⟩ = some (.int .i64 a1_0) ∧ w'.cell? ⟨gb102, 1, none⟩ = some (.int .i64 a1_1) ∧ w'.cell? ⟨gb102, 2, none⟩ = some (.slice A1_2 l1_2.length c1_2)) (ds := []) (tb_ 11 0) (by kernel_rfl) rfl rfl (Z3a_ BK101.out (Z3_ BK102.out)) (fun hHeld => ?_); refine qAw z10.tab31 z10.bits31 (fun HT_ HW_ => ?_)
          generalize w128.drew = w129 at HO109 HO114 HO119 HO126 HO132 HO138 HO146 HO152 BK101 BK102 BK121 BK127 BK133 BK140 HB hHeld ⊢
          refine TV_ (i := 0) (N := some 95) (tb_ 11 1) HT_ HW_ rfl rfl hHeld (by rintro w' ⟨s0, s1, s2, s3, s4, s5⟩; go_simp; with_reducible rfl) (h := ?_)
          refine TV_ (i := 2) (N := some 97) (tb_ 11 5) HT_ HW_ rfl rfl hHeld (by rintro w' ⟨s0, s1, s2, s3, s4, s5⟩; go_simp; with_reducible rfl) (h := ?_)
          refine qDa (σ := Value × Value × Value × Nat) 2 (tb_ 11 511) (fun s_ => [(96, .agg #[.int .i64 t162, .int .i64 t163, s_.1]), (98, .agg #[.int .i64 t167, .int .i64 t168, s_.2.1]), (99, .tuple #[.agg #[.int .i64 t172, .int .i64 t173, s_.2.2.1], .int .i64 t177]), (15, .pointer (some ⟨s_.2.2.2, 0, none⟩)), (94, .tuple #[.agg #[.int .i64 t172, .int .i64 t173, s_.2.2.1], .int .i64 t177]), (100, .agg #[.int .i64 t172, .int .i64 t173, s_.2.2.1]), (101, .int .i64 t177)]) (fun s_ w' => (w'.cell? ⟨gb101, 0, none⟩ = some (.int .i64 a0_0) ∧ w'.cell? ⟨gb101, 1, none⟩ = some (.int .i64 a0_1) ∧ w'.cell? ⟨gb101, 2, none⟩ = some (.slice A0_2 l0_2.length c0_2) ∧ w'.cell? ⟨gb102, 0, none⟩ = some (.int .i64 a1_0) ∧ w'.cell? ⟨gb102, 1, none⟩ = some (.int .i64 a1_1) ∧ w'.cell? ⟨gb102, 2, none⟩ = some (.slice A1_2 l1_2.length c1_2)) ∧ (Kd.S (Kd.slice 2 (Kd.int .i64)) 25 w' w.heap.size (fun k_ => some k_ ≠ (v113 : Value).ownBlock ∧ some k_ ≠ (.slice Ao72 t117.length co72 : Value).ownBlock ∧ some k_ ≠ (.slice Ao83 t124.length co83 : Value).ownBlock ∧ some k_ ≠ (.slice Ao94 t130.length co94 : Value).ownBlock ∧ some k_ ≠ (.slice Ao105 t136.length co105 : Value).ownBlock ∧ some k_ ≠ (.slice Ao111 t144.length co111 : Value).ownBlock ∧ some k_ ≠ (.slice Ao116 t150.length co116 : Value).ownBlock ∧ some k_ ≠ (s_.1 : Value).ownBlock ∧ some k_ ≠ (s_.2.1 : Value).ownBlock ∧ some k_ ≠ (s_.2.2.1 : Value).ownBlock ∧ k_ < nan77 ∧ k_ < nan87 ∧ k_ < nan97 ∧ k_ < nan110 ∧ k_ < nan115) v108 t107) ∧ (Kd.S (Kd.slice 2 (Kd.int .i64)) 25 w' w.heap.size (fun k_ => some k_ ≠ (v108 : Value).ownBlock ∧ some k_ ≠ (.slice Ao72 t117.length co72 : Value).ownBlock ∧ some k_ ≠ (.slice Ao83 t124.length co83 : Value).ownBlock ∧ some k_ ≠ (.slice Ao94 t130.length co94 : Value).ownBlock ∧ some k_ ≠ (.slice Ao105 t136.length co105 : Value).ownBlock ∧ some k_ ≠ (.slice Ao111 t144.length co111 : Value).ownBlock ∧ some k_ ≠ (.slice Ao116 t150.length co116 : Value).ownBlock ∧ some k_ ≠ (s_.1 : Value).ownBlock ∧ some k_ ≠ (s_.2.1 : Value).ownBlock ∧ some k_ ≠ (s_.2.2.1 : Value).ownBlock ∧ k_ < nan77 ∧ k_ < nan87 ∧ k_ < nan97 ∧ k_ < nan110 ∧ k_ < nan115) v113 t112) ∧ (Kd.S (Kd.slice 2 (Kd.int .i64)) 25 w' w.heap.size (fun k_ => some k_ ≠ (v108 : Value).ownBlock ∧ some k_ ≠ (v113 : Value).ownBlock ∧ some k_ ≠ (.slice Ao83 t124.length co83 : Value).ownBlock ∧ some k_ ≠ (.slice Ao94 t130.length co94 : Value).ownBlock ∧ some k_ ≠ (.slice Ao105 t136.length co105 : Value).ownBlock ∧ some k_ ≠ (.slice Ao111 t144.length co111 : Value).ownBlock ∧ some k_ ≠ (.slice Ao116 t150.length co116 : Value).ownBlock ∧ some k_ ≠ (s_.1 : Value).ownBlock ∧ some k_ ≠ (s_.2.1 : Value).ownBlock ∧ some k_ ≠ (s_.2.2.1 : Value).ownBlock ∧ k_ < nan77 ∧ k_ < nan87 ∧ k_ < nan97 ∧ k_ < nan110 ∧ k_ < nan115) (.slice Ao72 t117.length co72) t117) ∧ (Kd.S (Kd.slice 2 (Kd.int .i64)) 25 w' w.heap.size (fun k_ => some k_ ≠ (v108 : Value).ownBlock ∧ some k_ ≠ (v113 : Value).ownBlock ∧ some k_ ≠ (.slice Ao72 t117.length co72 : Value).ownBlock ∧ some k_ ≠ (.slice Ao94 t130.length co94 : Value).ownBlock ∧ some k_ ≠ (.slice Ao105 t136.length co105 : Value).ownBlock ∧ some k_ ≠ (.slice Ao111 t144.length co111 : Value).ownBlock ∧ some k_ ≠ (.slice Ao116 t150.length co116 : Value).ownBlock ∧ some k_ ≠ (s_.1 : Value).ownBlock ∧ some k_ ≠ (s_.2.1 : Value).ownBlock ∧ some k_ ≠ (s_.2.2.1 : Value).ownBlock ∧ nan77 ≤ k_ ∧ k_ < nan87 ∧ k_ < nan97 ∧ k_ < nan110 ∧ k_ < nan115) (.slice Ao83 t124.length co83) t155) ∧ (Kd.S (Kd.slice 2 (Kd.int .i64)) 25 w' w.heap.size (fun k_ => some k_ ≠ (v108 : Value).ownBlock ∧ some k_ ≠ (v113 : Value).ownBlock ∧ some k_ ≠ (.slice Ao72 t117.length co72 : Value).ownBlock ∧ some k_ ≠ (.slice Ao83 t124.length co83 : Value).ownBlock ∧ some k_ ≠ (.slice Ao105 t136.length co105 : Value).ownBlock ∧ some k_ ≠ (.slice Ao111 t144.length co111 : Value).ownBlock ∧ some k_ ≠ (.slice Ao116 t150.length co116 : Value).ownBlock ∧ some k_ ≠ (s_.1 : Value).ownBlock ∧ some k_ ≠ (s_.2.1 : Value).ownBlock ∧ some k_ ≠ (s_.2.2.1 : Value).ownBlock ∧ nan87 ≤ k_ ∧ k_ < nan97 ∧ k_ < nan110 ∧ k_ < nan115) (.slice Ao94 t130.length co94) t157) ∧ (Kd.S (Kd.slice 2 (Kd.int .i64)) 25 w' w.heap.size (fun k_ => some k_ ≠ (v108 : Value).ownBlock ∧ some k_ ≠ (v113 : Value).ownBlock ∧ some k_ ≠ (.slice Ao72 t117.length co72 : Value).ownBlock ∧ some k_ ≠ (.slice Ao83 t124.length co83 : Value).ownBlock ∧ some k_ ≠ (.slice Ao94 t130.length co94 : Value).ownBlock ∧ some k_ ≠ (.slice Ao111 t144.length co111 : Value).ownBlock ∧ some k_ ≠ (.slice Ao116 t150.length co116 : Value).ownBlock ∧ some k_ ≠ (s_.1 : Value).ownBlock ∧ some k_ ≠ (s_.2.1 : Value).ownBlock ∧ some k_ ≠ (s_.2.2.1 : Value).ownBlock ∧ nan97 ≤ k_ ∧ k_ < nan110 ∧ k_ < nan115) (.slice Ao105 t136.length co105) t160) ∧ (Kd.S (Kd.slice 2 (Kd.int .i64)) 25 w' w.heap.size (fun k_ => some k_ ≠ (v108 : Value).ownBlock ∧ some k_ ≠ (v113 : Value).ownBlock ∧ some k_ ≠ (.slice Ao72 t117.length co72 : Value).ownBlock ∧ some k_ ≠ (.slice Ao83 t124.length co83 : Value).ownBlock ∧ some k_ ≠ (.slice Ao94 t130.length co94 : Value).ownBlock ∧ some k_ ≠ (.slice Ao105 t136.length co105 : Value).ownBlock ∧ some k_ ≠ (.slice Ao116 t150.length co116 : Value).ownBlock ∧ some k_ ≠ (s_.1 : Value).ownBlock ∧ some k_ ≠ (s_.2.1 : Value).ownBlock ∧ some k_ ≠ (s_.2.2.1 : Value).ownBlock ∧ nan110 ≤ k_ ∧ k_ < nan115) (.slice Ao111 t144.length co111) t144) ∧ (Kd.S (Kd.slice 2 (Kd.int .i64)) 25 w' w.heap.size (fun k_ => some k_ ≠ (v108 : Value).ownBlock ∧ some k_ ≠ (v113 : Value).ownBlock ∧ some k_ ≠ (.slice Ao72 t117.length co72 : Value).ownBlock ∧ some k_ ≠ (.slice Ao83 t124.length co83 : Value).ownBlock ∧ some k_ ≠ (.slice Ao94 t130.length co94 : Value).ownBlock ∧ some k_ ≠ (.slice Ao105 t136.length co105 : Value).ownBlock ∧ some k_ ≠ (.slice Ao111 t144.length co111 : Value).ownBlock ∧ some k_ ≠ (s_.1 : Value).ownBlock ∧ some k_ ≠ (s_.2.1 : Value).ownBlock ∧ some k_ ≠ (s_.2.2.1 : Value).ownBlock ∧ nan115 ≤ k_) (.slice Ao116 t150.length co116) t150) ∧ (Kd.S (Kd.slice 2 (Kd.int .i64)) 25 w' w.heap.size (fun k_ => some k_ ≠ (v108 : Value).ownBlock ∧ some k_ ≠ (v113 : Value).ownBlock ∧ some k_ ≠ (.slice Ao72 t117.length co72 : Value).ownBlock ∧ some k_ ≠ (.slice Ao83 t124.length co83 : Value).ownBlock ∧ some k_ ≠ (.slice Ao94 t130.length co94 : Value).ownBlock ∧ some k_ ≠ (.slice Ao105 t136.length co105 : Value).ownBlock ∧ some k_ ≠ (.slice Ao111 t144.length co111 : Value).ownBlock ∧ some k_ ≠ (.slice Ao116 t150.length co116 : Value).ownBlock ∧ some k_ ≠ (s_.2.1 : Value).ownBlock ∧ some k_ ≠ (s_.2.2.1 : Value).ownBlock) s_.1 t164) ∧ (Kd.S (Kd.slice 2 (Kd.int .i64)) 25 w' w.heap.size (fun k_ => some k_ ≠ (v108 : Value).ownBlock ∧ some k_ ≠ (v113 : Value).ownBlock ∧ some k_ ≠ (.slice Ao72 t117.length co72 : Value).ownBlock ∧ some k_ ≠ (.slice Ao83 t124.length co83 : Value).ownBlock ∧ some k_ ≠ (.slice Ao94 t130.length co94 : Value).ownBlock ∧ some k_ ≠ (.slice Ao105 t136.length co105 : Value).ownBlock ∧ some k_ ≠ (.slice Ao111 t144.length co111 : Value).ownBlock ∧ some k_ ≠ (.slice Ao116 t150.length co116 : Value).ownBlock ∧ some k_ ≠ (s_.1 : Value).ownBlock ∧ some k_ ≠ (s_.2.2.1 : Value).ownBlock) s_.2.1 t169) ∧ (Kd.S (Kd.slice 2 (Kd.int .i64)) 25 w' w.heap.size (fun k_ => some k_ ≠ (v108 : Value).ownBlock ∧ some k_ ≠ (v113 : Value).ownBlock ∧ some k_ ≠ (.slice Ao72 t117.length co72 : Value).ownBlock ∧ some k_ ≠ (.slice Ao83 t124.length co83 : Value).ownBlock ∧ some k_ ≠ (.slice Ao94 t130.length co94 : Value).ownBlock ∧ some k_ ≠ (.slice Ao105 t136.length co105 : Value).ownBlock ∧ some k_ ≠ (.slice Ao111 t144.length co111 : Value).ownBlock ∧ some k_ ≠ (.slice Ao116 t150.length co116 : Value).ownBlock ∧ some k_ ≠ (s_.1 : Value).ownBlock ∧ some k_ ≠ (s_.2.1 : Value).ownBlock) s_.2.2.1 t174) ∧ (w'.heap[gb101]? = some (.cells #[.int .i64 a0_0, .int .i64 a0_1, .slice A0_2 l0_2.length c0_2] 24 (0, 0))) ∧ (w'.heap[gb102]? = some (.cells #[.int .i64 a1_0, .int .i64 a1_1, .slice A1_2 l1_2.length c1_2] 24 (0, 0))) ∧ (w'.heap[gb121]? = some (.cells #[.int .i64 t115, .int .i64 t116, .slice Ao72 t117.length co72] 29 (0, 0))) ∧ (w'.heap[gb127]? = some (.cells #[.int .i64 t122, .int .i64 t123, .slice Ao83 t124.length co83] 29 (0, 0))) ∧ (w'.heap[gb133]? = some (.cells #[.int .i64 t128, .int .i64 t129, .slice Ao94 t130.length co94] 29 (0, 0))) ∧ (w'.heap[gb140]? = some (.cells #[.int .i64 t134, .int .i64 t135, .slice Ao105 t136.length co105] 29 (0, 0))) ∧ (w'.heap[s_.2.2.2]? = some (.cells #[.int .i64 0, .int .i64 0, .slice none 0 0] 29 (0, 0))) ∧ (w.heap.size ≤ s_.2.2.2) ∧ (w.heap.size ≤ s_.2.2.2) ∧ (gb101 ≠ s_.2.2.2) ∧ (s_.2.2.2 ≠ gb101) ∧ (gb102 ≠ s_.2.2.2) ∧ (s_.2.2.2 ≠ gb102) ∧ (gb121 ≠ s_.2.2.2) ∧ (s_.2.2.2 ≠ gb121) ∧ (gb127 ≠ s_.2.2.2) ∧ (s_.2.2.2 ≠ gb127) ∧ (gb133 ≠ s_.2.2.2) ∧ (s_.2.2.2 ≠ gb133) ∧ (gb140 ≠ s_.2.2.2) ∧ (s_.2.2.2 ≠ gb140) ∧ (Below w.heap.size w w')) ?_ ?_
          rotate_left
          ·intro hCont
           refine two_ (i := 1) (j := 8) (Ni := some 96) (Nj := some 15) (tb_ 11 7) (tb_ 11 261) rfl rfl rfl rfl (qB3 HT_.out (by kernel_rfl)) (by decide) (by decide) (fun K hK => ?_) (fun K hK => ?_)
           ·skip
            refine GO_ Try.func13 #[.agg #[.int .i64 a0_0, .int .i64 a0_1, .slice A0_2 l0_2.length c0_2]] (h := ?_)
            with_reducible refine (z13.calls k a0_0 a0_1 _ _ l0_2 t162 t163 t164 _ ?side1 ?side2 A43.out).mono ?_
            (case side1 => exact KC_ (Kd.C_below HR0_2.out HB.out))
            (case side2 => exact HC0_2.out)
            rintro e w130 ⟨v165, rfl, ho0, hb⟩
            refine ⟨_, rfl, ?_⟩
            obtain ⟨nan131, hnan131⟩ := Kd.size_letter hb
            have HO166 := Zz.mk (Kd.S_lower (Kd.S_geN (Kd.S_new' (Kd.S_new' (Kd.S_new' (Kd.S_new' (Kd.S_new' (Kd.S_new' (Kd.S_new' (Kd.S_new' ho0 (Kd.S_lt (KS_ HO109.out))) (Kd.S_lt (KS_ HO114.out))) (Kd.S_lt (KS_ HO119.out))) (Kd.S_lt (KS_ HO126.out))) (Kd.S_lt (KS_ HO132.out))) (Kd.S_lt (KS_ HO138.out))) (Kd.S_lt (KS_ HO146.out))) (Kd.S_lt (KS_ HO152.out))) hnan131) (bS_ (Bw6_ HB.out GE101.out GE102.out GE121.out GE127.out GE133.out GE140.out)))
            replace HO109 := Zz.mk (tl_ HO109.out hb hnan131 ho0)
            replace HO114 := Zz.mk (tl_ HO114.out hb hnan131 ho0)
            replace HO119 := Zz.mk (tl_ HO119.out hb hnan131 ho0)
            replace HO126 := Zz.mk (tl_ HO126.out hb hnan131 ho0)
            replace HO132 := Zz.mk (tl_ HO132.out hb hnan131 ho0)
            replace HO138 := Zz.mk (tl_ HO138.out hb hnan131 ho0)
            replace HO146 := Zz.mk (tl_ HO146.out hb hnan131 ho0)
            replace HO152 := Zz.mk (tl_ HO152.out hb hnan131 ho0)
            replace BK101 := Zz.mk (kb_ BK101.out hb)
            replace BK102 := Zz.mk (kb_ BK102.out hb)
            replace BK121 := Zz.mk (kb_ BK121.out hb)
            replace BK127 := Zz.mk (kb_ BK127.out hb)
            replace BK133 := Zz.mk (kb_ BK133.out hb)
            replace BK140 := Zz.mk (kb_ BK140.out hb)
            replace HB := Zz.mk (bT_ (Bw6_ HB.out GE101.out GE102.out GE121.out GE127.out GE133.out GE140.out) hb)
            (try clear hb);(try clear ho0)
            refine hK.out _ _ (Z3a_ BK101.out (Z3_ BK102.out)) (fun hHeld => ?_)
            clear hK K
            refine NM_ (N := (some 96)) (h := ?_)
            refine two_ (i := 3) (j := 8) (Ni := some 98) (Nj := some 15) (tb_ 11 15) (tb_ 11 263) rfl rfl rfl rfl (qB3 HT_.out (by kernel_rfl)) (by decide) (by decide) (fun K hK => ?_) (fun K hK => ?_)
            ·skip
             refine GO_ Try.func13 #[.agg #[.int .i64 a1_0, .int .i64 a1_1, .slice A1_2 l1_2.length c1_2]] (h := ?_)
             with_reducible refine (z13.calls k a1_0 a1_1 _ _ l1_2 t167 t168 t169 _ ?side1 ?side2 A44.out).mono ?_
             (case side1 => exact KC_ (Kd.C_below HR1_2.out HB.out))
             (case side2 => exact HC1_2.out)
             rintro e w132 ⟨v170, rfl, ho0, hb⟩
             refine ⟨_, rfl, ?_⟩
             obtain ⟨nan133, hnan133⟩ := Kd.size_letter hb
             have HO171 := Zz.mk (Kd.S_lower (Kd.S_geN (Kd.S_new' (Kd.S_new' (Kd.S_new' (Kd.S_new' (Kd.S_new' (Kd.S_new' (Kd.S_new' (Kd.S_new' (Kd.S_new' ho0 (Kd.S_lt (KS_ HO109.out))) (Kd.S_lt (KS_ HO114.out))) (Kd.S_lt (KS_ HO119.out))) (Kd.S_lt (KS_ HO126.out))) (Kd.S_lt (KS_ HO132.out))) (Kd.S_lt (KS_ HO138.out))) (Kd.S_lt (KS_ HO146.out))) (Kd.S_lt (KS_ HO152.out))) (Kd.S_lt (KS_ HO166.out))) hnan133) (bS_ (Bw6_ HB.out GE101.out GE102.out GE121.out GE127.out GE133.out GE140.out)))
             replace HO109 := Zz.mk (tl_ HO109.out hb hnan133 ho0)
             replace HO114 := Zz.mk (tl_ HO114.out hb hnan133 ho0)
             replace HO119 := Zz.mk (tl_ HO119.out hb hnan133 ho0)
             replace HO126 := Zz.mk (tl_ HO126.out hb hnan133 ho0)
             replace HO132 := Zz.mk (tl_ HO132.out hb hnan133 ho0)
             replace HO138 := Zz.mk (tl_ HO138.out hb hnan133 ho0)
             replace HO146 := Zz.mk (tl_ HO146.out hb hnan133 ho0)
             replace HO152 := Zz.mk (tl_ HO152.out hb hnan133 ho0)
             replace HO166 := Zz.mk (tl_ HO166.out hb hnan133 ho0)
             replace BK101 := Zz.mk (kb_ BK101.out hb)
             replace BK102 := Zz.mk (kb_ BK102.out hb)
             replace BK121 := Zz.mk (kb_ BK121.out hb)
             replace BK127 := Zz.mk (kb_ BK127.out hb)
             replace BK133 := Zz.mk (kb_ BK133.out hb)
             replace BK140 := Zz.mk (kb_ BK140.out hb)
             replace HB := Zz.mk (bT_ (Bw6_ HB.out GE101.out GE102.out GE121.out GE127.out GE133.out GE140.out) hb)
             (try clear hb);(try clear ho0)
             obtain ⟨Ao134, co134, eo134⟩ := Kd.S_slice HO166.out
             (first | subst eo134 | obtain ⟨rfl, rfl⟩ := sl_ eo134)
             obtain ⟨Ao135, co135, eo135⟩ := Kd.S_slice HO171.out
             (first | subst eo135 | obtain ⟨rfl, rfl⟩ := sl_ eo135)
             refine hK.out _ _ (Z3a_ BK101.out (Z3_ BK102.out)) (fun hHeld => ?_)
             clear hK K
             refine NM_ (N := (some 98)) (h := ?_)
             refine two_ (i := 4) (j := 8) (Ni := some 99) (Nj := some 15) (tb_ 11 31) (tb_ 11 271) rfl rfl rfl rfl (qB3 HT_.out (by kernel_rfl)) (by decide) (by decide) (fun K hK => ?_) (fun K hK => ?_)
             ·skip
              refine GO_ Try.func51 #[.agg #[.int .i64 t162, .int .i64 t163, .slice Ao134 t164.length co134], .agg #[.int .i64 t167, .int .i64 t168, .slice Ao135 t169.length co135]] (h := ?_)
              with_reducible refine (z51.calls k t162 t163 _ _ t164 t167 t168 _ _ t169 t172 t173 t174 t177 _ ?side1 ?side2 ?side3 ?side4 A45.out).mono ?_
              (case side1 => exact KC_ (Kd.S_reads' HO166.out).2.2)
              (case side2 => exact (Kd.S_reads' HO166.out).2.1)
              (case side3 => exact KC_ (Kd.S_reads' HO171.out).2.2)
              (case side4 => exact (Kd.S_reads' HO171.out).2.1)
              rintro e w136 ⟨v175, rfl, ho0, hb⟩
              refine ⟨_, rfl, ?_⟩
              obtain ⟨nan137, hnan137⟩ := Kd.size_letter hb
              have HO176 := Zz.mk (Kd.S_lower (Kd.S_geN (Kd.S_new' (Kd.S_new' (Kd.S_new' (Kd.S_new' (Kd.S_new' (Kd.S_new' (Kd.S_new' (Kd.S_new' (Kd.S_new' (Kd.S_new' ho0 (Kd.S_lt (KS_ HO109.out))) (Kd.S_lt (KS_ HO114.out))) (Kd.S_lt (KS_ HO119.out))) (Kd.S_lt (KS_ HO126.out))) (Kd.S_lt (KS_ HO132.out))) (Kd.S_lt (KS_ HO138.out))) (Kd.S_lt (KS_ HO146.out))) (Kd.S_lt (KS_ HO152.out))) (Kd.S_lt (KS_ HO166.out))) (Kd.S_lt (KS_ HO171.out))) hnan137) (bS_ (Bw6_ HB.out GE101.out GE102.out GE121.out GE127.out GE133.out GE140.out)))
              replace HO109 := Zz.mk (tl_ HO109.out hb hnan137 ho0)
              replace HO114 := Zz.mk (tl_ HO114.out hb hnan137 ho0)
              replace HO119 := Zz.mk (tl_ HO119.out hb hnan137 ho0)
              replace HO126 := Zz.mk (tl_ HO126.out hb hnan137 ho0)
              replace HO132 := Zz.mk (tl_ HO132.out hb hnan137 ho0)
              replace HO138 := Zz.mk (tl_ HO138.out hb hnan137 ho0)
              replace HO146 := Zz.mk (tl_ HO146.out hb hnan137 ho0)
              replace HO152 := Zz.mk (tl_ HO152.out hb hnan137 ho0)
              replace HO166 := Zz.mk (tl_ HO166.out hb hnan137 ho0)
              replace HO171 := Zz.mk (tl_ HO171.out hb hnan137 ho0)
              replace BK101 := Zz.mk (kb_ BK101.out hb)
              replace BK102 := Zz.mk (kb_ BK102.out hb)
              replace BK121 := Zz.mk (kb_ BK121.out hb)
              replace BK127 := Zz.mk (kb_ BK127.out hb)
              replace BK133 := Zz.mk (kb_ BK133.out hb)
              replace BK140 := Zz.mk (kb_ BK140.out hb)
              replace HB := Zz.mk (bT_ (Bw6_ HB.out GE101.out GE102.out GE121.out GE127.out GE133.out GE140.out) hb)
              (try clear hb);(try clear ho0)
              refine hK.out _ _ (Z3a_ BK101.out (Z3_ BK102.out)) (fun hHeld => ?_)
              clear hK K
              refine NM_ (N := (some 99)) (h := ?_)
              refine PX_ 5 94 (tb_ 11 63) HT_ rfl rfl ?_
              refine PX_ 6 100 (tb_ 11 127) HT_ rfl rfl ?_
              refine PX_ 7 101 (tb_ 11 255) HT_ rfl rfl ?_
              refine one_ (i := 8) (N := some 15) (tb_ 11 511) rfl rfl (qAr HT_.out (by kernel_rfl)) (by decide) (fun K hK => ?_)
              refine by_ 15 #[.int .i64 0, .int .i64 0, .slice none 0 0] 29 ?_
              intro gb178 hg w138 hbox hb
              have BK178 := Zz.mk (hbox)
              have GW178 := Zz.mk ((gw_ hg (Bw6_ HB.out GE101.out GE102.out GE121.out GE127.out GE133.out GE140.out)))
              have GE178 := GW178
              have NB101_178 := Zz.mk ((nb_ BK101.out hg))
              have NB178_101 := Zz.mk NB101_178.out.symm
              have NB102_178 := Zz.mk ((nb_ BK102.out hg))
              have NB178_102 := Zz.mk NB102_178.out.symm
              have NB121_178 := Zz.mk ((nb_ BK121.out hg))
              have NB178_121 := Zz.mk NB121_178.out.symm
              have NB127_178 := Zz.mk ((nb_ BK127.out hg))
              have NB178_127 := Zz.mk NB127_178.out.symm
              have NB133_178 := Zz.mk ((nb_ BK133.out hg))
              have NB178_133 := Zz.mk NB133_178.out.symm
              have NB140_178 := Zz.mk ((nb_ BK140.out hg))
              have NB178_140 := Zz.mk NB140_178.out.symm
              replace HO109 := Zz.mk (Kd.S_below (KS_ HO109.out) hb)
              replace HO114 := Zz.mk (Kd.S_below (KS_ HO114.out) hb)
              replace HO119 := Zz.mk (Kd.S_below (KS_ HO119.out) hb)
              replace HO126 := Zz.mk (Kd.S_below (KS_ HO126.out) hb)
              replace HO132 := Zz.mk (Kd.S_below (KS_ HO132.out) hb)
              replace HO138 := Zz.mk (Kd.S_below (KS_ HO138.out) hb)
              replace HO146 := Zz.mk (Kd.S_below (KS_ HO146.out) hb)
              replace HO152 := Zz.mk (Kd.S_below (KS_ HO152.out) hb)
              replace HO166 := Zz.mk (Kd.S_below (KS_ HO166.out) hb)
              replace HO171 := Zz.mk (Kd.S_below (KS_ HO171.out) hb)
              replace HO176 := Zz.mk (Kd.S_below (KS_ HO176.out) hb)
              replace BK101 := Zz.mk (kb_ BK101.out hb)
              replace BK102 := Zz.mk (kb_ BK102.out hb)
              replace BK121 := Zz.mk (kb_ BK121.out hb)
              replace BK127 := Zz.mk (kb_ BK127.out hb)
              replace BK133 := Zz.mk (kb_ BK133.out hb)
              replace BK140 := Zz.mk (kb_ BK140.out hb)
              replace HB := Zz.mk (bT_ (Bw6_ HB.out GE101.out GE102.out GE121.out GE127.out GE133.out GE140.out) hb)
              clear hb hbox hg
              refine hK.out _ _ (Z3a_ BK101.out (Z3_ BK102.out)) (fun hHeld => ?_)
              clear hK K
              refine NM_ (N := (some 15)) (h := ?_)
              exact qBf (by simp only [qA1, Act.put, List.setIfInBounds_toArray, List.set_cons_zero, List.set_cons_succ]) (hCont (.slice Ao134 t164.length co134, .slice Ao135 t169.length co135, v175, gb178) _ ⟨hHeld, (by refine SW_ ?_; exact Kd.S_mono HO109.out (fun _ hk => pj_ hk)), (by refine SW_ ?_; exact Kd.S_mono HO114.out (fun _ hk => pj_ hk)), (by refine SW_ ?_; exact Kd.S_mono HO119.out (fun _ hk => pj_ hk)), (by refine SW_ ?_; exact Kd.S_mono HO126.out (fun _ hk => pj_ hk)), (by refine SW_ ?_; exact Kd.S_mono HO132.out (fun _ hk => pj_ hk)), (by refine SW_ ?_; exact Kd.S_mono HO138.out (fun _ hk => pj_ hk)), (by refine SW_ ?_; exact Kd.S_mono HO146.out (fun _ hk => pj_ hk)), (by refine SW_ ?_; exact Kd.S_mono HO152.out (fun _ hk => pj_ hk)), (by refine SW_ ?_; exact Kd.S_mono HO166.out (fun _ hk => pj_ hk)), (by refine SW_ ?_; exact Kd.S_mono HO171.out (fun _ hk => pj_ hk)), (by refine SW_ ?_; exact Kd.S_mono HO176.out (fun _ hk => pj_ hk)), (KB_ BK101.out), (KB_ BK102.out), (KB_ BK121.out), (KB_ BK127.out), (KB_ BK133.out), (KB_ BK140.out), (KB_ BK178.out), GW178.out, GE178.out, NB101_178.out, NB178_101.out, NB102_178.out, NB178_102.out, NB121_178.out, NB178_121.out, NB127_178.out, NB178_127.out, NB133_178.out, NB178_133.out, NB140_178.out, NB178_140.out, (Bw7_ HB.out GE101.out GE102.out GE121.out GE127.out GE133.out GE140.out GE178.out)⟩)
             skip
             refine by_ 15 #[.int .i64 0, .int .i64 0, .slice none 0 0] 29 ?_
             intro gb178 hg w134 hbox hb
             have BK178 := Zz.mk (hbox)
             have GW178 := Zz.mk ((gw_ hg (Bw6_ HB.out GE101.out GE102.out GE121.out GE127.out GE133.out GE140.out)))
             have GE178 := GW178
             have NB101_178 := Zz.mk ((nb_ BK101.out hg))
             have NB178_101 := Zz.mk NB101_178.out.symm
             have NB102_178 := Zz.mk ((nb_ BK102.out hg))
             have NB178_102 := Zz.mk NB102_178.out.symm
             have NB121_178 := Zz.mk ((nb_ BK121.out hg))
             have NB178_121 := Zz.mk NB121_178.out.symm
             have NB127_178 := Zz.mk ((nb_ BK127.out hg))
             have NB178_127 := Zz.mk NB127_178.out.symm
             have NB133_178 := Zz.mk ((nb_ BK133.out hg))
             have NB178_133 := Zz.mk NB133_178.out.symm
             have NB140_178 := Zz.mk ((nb_ BK140.out hg))
             have NB178_140 := Zz.mk NB140_178.out.symm
             replace HO109 := Zz.mk (Kd.S_below (KS_ HO109.out) hb)
             replace HO114 := Zz.mk (Kd.S_below (KS_ HO114.out) hb)
             replace HO119 := Zz.mk (Kd.S_below (KS_ HO119.out) hb)
             replace HO126 := Zz.mk (Kd.S_below (KS_ HO126.out) hb)
             replace HO132 := Zz.mk (Kd.S_below (KS_ HO132.out) hb)
             replace HO138 := Zz.mk (Kd.S_below (KS_ HO138.out) hb)
             replace HO146 := Zz.mk (Kd.S_below (KS_ HO146.out) hb)
             replace HO152 := Zz.mk (Kd.S_below (KS_ HO152.out) hb)
             replace HO166 := Zz.mk (Kd.S_below (KS_ HO166.out) hb)
             replace HO171 := Zz.mk (Kd.S_below (KS_ HO171.out) hb)
             replace BK101 := Zz.mk (kb_ BK101.out hb)
             replace BK102 := Zz.mk (kb_ BK102.out hb)
             replace BK121 := Zz.mk (kb_ BK121.out hb)
             replace BK127 := Zz.mk (kb_ BK127.out hb)
             replace BK133 := Zz.mk (kb_ BK133.out hb)
             replace BK140 := Zz.mk (kb_ BK140.out hb)
             replace HB := Zz.mk (bT_ (Bw6_ HB.out GE101.out GE102.out GE121.out GE127.out GE133.out GE140.out) hb)
             clear hb hbox hg
             obtain ⟨Ao135, co135, eo135⟩ := Kd.S_slice HO166.out
             (first | subst eo135 | obtain ⟨rfl, rfl⟩ := sl_ eo135)
             obtain ⟨Ao136, co136, eo136⟩ := Kd.S_slice HO171.out
             (first | subst eo136 | obtain ⟨rfl, rfl⟩ := sl_ eo136)
             refine hK.out _ _ (Z3a_ BK101.out (Z3_ BK102.out)) (fun hHeld => ?_)
             clear hK K
             refine NM_ (N := (some 15)) (h := ?_)
             refine one_ (i := 4) (N := some 99) (tb_ 11 287) rfl rfl (qAr HT_.out (by kernel_rfl)) (by decide) (fun K hK => ?_)
             refine GO_ Try.func51 #[.agg #[.int .i64 t162, .int .i64 t163, .slice Ao135 t164.length co135], .agg #[.int .i64 t167, .int .i64 t168, .slice Ao136 t169.length co136]] (h := ?_)
             with_reducible refine (z51.calls k t162 t163 _ _ t164 t167 t168 _ _ t169 t172 t173 t174 t177 _ ?side1 ?side2 ?side3 ?side4 A45.out).mono ?_
             (case side1 => exact KC_ (Kd.S_reads' HO166.out).2.2)
             (case side2 => exact (Kd.S_reads' HO166.out).2.1)
             (case side3 => exact KC_ (Kd.S_reads' HO171.out).2.2)
             (case side4 => exact (Kd.S_reads' HO171.out).2.1)
             rintro e w137 ⟨v175, rfl, ho0, hb⟩
             refine ⟨_, rfl, ?_⟩
             obtain ⟨nan138, hnan138⟩ := Kd.size_letter hb
             have HO176 := Zz.mk (Kd.S_lower (Kd.S_geN (Kd.S_new' (Kd.S_new' (Kd.S_new' (Kd.S_new' (Kd.S_new' (Kd.S_new' (Kd.S_new' (Kd.S_new' (Kd.S_new' (Kd.S_new' ho0 (Kd.S_lt (KS_ HO109.out))) (Kd.S_lt (KS_ HO114.out))) (Kd.S_lt (KS_ HO119.out))) (Kd.S_lt (KS_ HO126.out))) (Kd.S_lt (KS_ HO132.out))) (Kd.S_lt (KS_ HO138.out))) (Kd.S_lt (KS_ HO146.out))) (Kd.S_lt (KS_ HO152.out))) (Kd.S_lt (KS_ HO166.out))) (Kd.S_lt (KS_ HO171.out))) hnan138) (bS_ (Bw7_ HB.out GE101.out GE102.out GE121.out GE127.out GE133.out GE140.out GE178.out)))
             replace HO109 := Zz.mk (tl_ HO109.out hb hnan138 ho0)
             replace HO114 := Zz.mk (tl_ HO114.out hb hnan138 ho0)
             replace HO119 := Zz.mk (tl_ HO119.out hb hnan138 ho0)
             replace HO126 := Zz.mk (tl_ HO126.out hb hnan138 ho0)
             replace HO132 := Zz.mk (tl_ HO132.out hb hnan138 ho0)
             replace HO138 := Zz.mk (tl_ HO138.out hb hnan138 ho0)
             replace HO146 := Zz.mk (tl_ HO146.out hb hnan138 ho0)
             replace HO152 := Zz.mk (tl_ HO152.out hb hnan138 ho0)
             replace HO166 := Zz.mk (tl_ HO166.out hb hnan138 ho0)
             replace HO171 := Zz.mk (tl_ HO171.out hb hnan138 ho0)
             replace BK101 := Zz.mk (kb_ BK101.out hb)
             replace BK102 := Zz.mk (kb_ BK102.out hb)
             replace BK121 := Zz.mk (kb_ BK121.out hb)
             replace BK127 := Zz.mk (kb_ BK127.out hb)
             replace BK133 := Zz.mk (kb_ BK133.out hb)
             replace BK140 := Zz.mk (kb_ BK140.out hb)
             replace BK178 := Zz.mk (kb_ BK178.out hb)
             replace HB := Zz.mk (bT_ (Bw7_ HB.out GE101.out GE102.out GE121.out GE127.out GE133.out GE140.out GE178.out) hb)
             (try clear hb);(try clear ho0)
             refine hK.out _ _ (Z3a_ BK101.out (Z3_ BK102.out)) (fun hHeld => ?_)
             clear hK K
             refine NM_ (N := (some 99)) (h := ?_)
             refine PX_ 5 94 (tb_ 11 319) HT_ rfl rfl ?_
             refine PX_ 6 100 (tb_ 11 383) HT_ rfl rfl ?_
             refine PX_ 7 101 (tb_ 11 511) HT_ rfl rfl ?_
             exact qBf (by simp only [qA1, Act.put, List.setIfInBounds_toArray, List.set_cons_zero, List.set_cons_succ]) (hCont (.slice Ao135 t164.length co135, .slice Ao136 t169.length co136, v175, gb178) _ ⟨hHeld, (by refine SW_ ?_; exact Kd.S_mono HO109.out (fun _ hk => pj_ hk)), (by refine SW_ ?_; exact Kd.S_mono HO114.out (fun _ hk => pj_ hk)), (by refine SW_ ?_; exact Kd.S_mono HO119.out (fun _ hk => pj_ hk)), (by refine SW_ ?_; exact Kd.S_mono HO126.out (fun _ hk => pj_ hk)), (by refine SW_ ?_; exact Kd.S_mono HO132.out (fun _ hk => pj_ hk)), (by refine SW_ ?_; exact Kd.S_mono HO138.out (fun _ hk => pj_ hk)), (by refine SW_ ?_; exact Kd.S_mono HO146.out (fun _ hk => pj_ hk)), (by refine SW_ ?_; exact Kd.S_mono HO152.out (fun _ hk => pj_ hk)), (by refine SW_ ?_; exact Kd.S_mono HO166.out (fun _ hk => pj_ hk)), (by refine SW_ ?_; exact Kd.S_mono HO171.out (fun _ hk => pj_ hk)), (by refine SW_ ?_; exact Kd.S_mono HO176.out (fun _ hk => pj_ hk)), (KB_ BK101.out), (KB_ BK102.out), (KB_ BK121.out), (KB_ BK127.out), (KB_ BK133.out), (KB_ BK140.out), (KB_ BK178.out), GW178.out, GE178.out, NB101_178.out, NB178_101.out, NB102_178.out, NB178_102.out, NB121_178.out, NB178_121.out, NB127_178.out, NB178_127.out, NB133_178.out, NB178_133.out, NB140_178.out, NB178_140.out, (Bw7_ HB.out GE101.out GE102.out GE121.out GE127.out GE133.out GE140.out GE178.out)⟩)
            skip
            refine by_ 15 #[.int .i64 0, .int .i64 0, .slice none 0 0] 29 ?_
            intro gb178 hg w132 hbox hb
            have BK178 := Zz.mk (hbox)
            have GW178 := Zz.mk ((gw_ hg (Bw6_ HB.out GE101.out GE102.out GE121.out GE127.out GE133.out GE140.out)))
            have GE178 := GW178
            have NB101_178 := Zz.mk ((nb_ BK101.out hg))
            have NB178_101 := Zz.mk NB101_178.out.symm
            have NB102_178 := Zz.mk ((nb_ BK102.out hg))
            have NB178_102 := Zz.mk NB102_178.out.symm
            have NB121_178 := Zz.mk ((nb_ BK121.out hg))
            have NB178_121 := Zz.mk NB121_178.out.symm
            have NB127_178 := Zz.mk ((nb_ BK127.out hg))
            have NB178_127 := Zz.mk NB127_178.out.symm
            have NB133_178 := Zz.mk ((nb_ BK133.out hg))
            have NB178_133 := Zz.mk NB133_178.out.symm
            have NB140_178 := Zz.mk ((nb_ BK140.out hg))
            have NB178_140 := Zz.mk NB140_178.out.symm
            replace HO109 := Zz.mk (Kd.S_below (KS_ HO109.out) hb)
            replace HO114 := Zz.mk (Kd.S_below (KS_ HO114.out) hb)
            replace HO119 := Zz.mk (Kd.S_below (KS_ HO119.out) hb)
            replace HO126 := Zz.mk (Kd.S_below (KS_ HO126.out) hb)
            replace HO132 := Zz.mk (Kd.S_below (KS_ HO132.out) hb)
            replace HO138 := Zz.mk (Kd.S_below (KS_ HO138.out) hb)
            replace HO146 := Zz.mk (Kd.S_below (KS_ HO146.out) hb)
            replace HO152 := Zz.mk (Kd.S_below (KS_ HO152.out) hb)
            replace HO166 := Zz.mk (Kd.S_below (KS_ HO166.out) hb)
            replace BK101 := Zz.mk (kb_ BK101.out hb)
            replace BK102 := Zz.mk (kb_ BK102.out hb)
            replace BK121 := Zz.mk (kb_ BK121.out hb)
            replace BK127 := Zz.mk (kb_ BK127.out hb)
            replace BK133 := Zz.mk (kb_ BK133.out hb)
            replace BK140 := Zz.mk (kb_ BK140.out hb)
            replace HB := Zz.mk (bT_ (Bw6_ HB.out GE101.out GE102.out GE121.out GE127.out GE133.out GE140.out) hb)
            clear hb hbox hg
            refine hK.out _ _ (Z3a_ BK101.out (Z3_ BK102.out)) (fun hHeld => ?_)
            clear hK K
            refine NM_ (N := (some 15)) (h := ?_)
            refine one_ (i := 3) (N := some 98) (tb_ 11 271) rfl rfl (qAr HT_.out (by kernel_rfl)) (by decide) (fun K hK => ?_)
            refine GO_ Try.func13 #[.agg #[.int .i64 a1_0, .int .i64 a1_1, .slice A1_2 l1_2.length c1_2]] (h := ?_)
            with_reducible refine (z13.calls k a1_0 a1_1 _ _ l1_2 t167 t168 t169 _ ?side1 ?side2 A44.out).mono ?_
            (case side1 => exact KC_ (Kd.C_below HR1_2.out HB.out))
            (case side2 => exact HC1_2.out)
            rintro e w133 ⟨v170, rfl, ho0, hb⟩
            refine ⟨_, rfl, ?_⟩
            obtain ⟨nan134, hnan134⟩ := Kd.size_letter hb
            have HO171 := Zz.mk (Kd.S_lower (Kd.S_geN (Kd.S_new' (Kd.S_new' (Kd.S_new' (Kd.S_new' (Kd.S_new' (Kd.S_new' (Kd.S_new' (Kd.S_new' (Kd.S_new' ho0 (Kd.S_lt (KS_ HO109.out))) (Kd.S_lt (KS_ HO114.out))) (Kd.S_lt (KS_ HO119.out))) (Kd.S_lt (KS_ HO126.out))) (Kd.S_lt (KS_ HO132.out))) (Kd.S_lt (KS_ HO138.out))) (Kd.S_lt (KS_ HO146.out))) (Kd.S_lt (KS_ HO152.out))) (Kd.S_lt (KS_ HO166.out))) hnan134) (bS_ (Bw7_ HB.out GE101.out GE102.out GE121.out GE127.out GE133.out GE140.out GE178.out)))
            replace HO109 := Zz.mk (tl_ HO109.out hb hnan134 ho0)
            replace HO114 := Zz.mk (tl_ HO114.out hb hnan134 ho0)
            replace HO119 := Zz.mk (tl_ HO119.out hb hnan134 ho0)
            replace HO126 := Zz.mk (tl_ HO126.out hb hnan134 ho0)
            replace HO132 := Zz.mk (tl_ HO132.out hb hnan134 ho0)
            replace HO138 := Zz.mk (tl_ HO138.out hb hnan134 ho0)
            replace HO146 := Zz.mk (tl_ HO146.out hb hnan134 ho0)
            replace HO152 := Zz.mk (tl_ HO152.out hb hnan134 ho0)
            replace HO166 := Zz.mk (tl_ HO166.out hb hnan134 ho0)
            replace BK101 := Zz.mk (kb_ BK101.out hb)
            replace BK102 := Zz.mk (kb_ BK102.out hb)
            replace BK121 := Zz.mk (kb_ BK121.out hb)
            replace BK127 := Zz.mk (kb_ BK127.out hb)
            replace BK133 := Zz.mk (kb_ BK133.out hb)
            replace BK140 := Zz.mk (kb_ BK140.out hb)
            replace BK178 := Zz.mk (kb_ BK178.out hb)
            replace HB := Zz.mk (bT_ (Bw7_ HB.out GE101.out GE102.out GE121.out GE127.out GE133.out GE140.out GE178.out) hb)
            (try clear hb);(try clear ho0)
            obtain ⟨Ao135, co135, eo135⟩ := Kd.S_slice HO166.out
            (first | subst eo135 | obtain ⟨rfl, rfl⟩ := sl_ eo135)
            obtain ⟨Ao136, co136, eo136⟩ := Kd.S_slice HO171.out
            (first | subst eo136 | obtain ⟨rfl, rfl⟩ := sl_ eo136)
            refine hK.out _ _ (Z3a_ BK101.out (Z3_ BK102.out)) (fun hHeld => ?_)
            clear hK K
            refine NM_ (N := (some 98)) (h := ?_)
            refine one_ (i := 4) (N := some 99) (tb_ 11 287) rfl rfl (qAr HT_.out (by kernel_rfl)) (by decide) (fun K hK => ?_)
            refine GO_ Try.func51 #[.agg #[.int .i64 t162, .int .i64 t163, .slice Ao135 t164.length co135], .agg #[.int .i64 t167, .int .i64 t168, .slice Ao136 t169.length co136]] (h := ?_)
            with_reducible refine (z51.calls k t162 t163 _ _ t164 t167 t168 _ _ t169 t172 t173 t174 t177 _ ?side1 ?side2 ?side3 ?side4 A45.out).mono ?_
            (case side1 => exact KC_ (Kd.S_reads' HO166.out).2.2)
            (case side2 => exact (Kd.S_reads' HO166.out).2.1)
            (case side3 => exact KC_ (Kd.S_reads' HO171.out).2.2)
            (case side4 => exact (Kd.S_reads' HO171.out).2.1)
            rintro e w137 ⟨v175, rfl, ho0, hb⟩
            refine ⟨_, rfl, ?_⟩
            obtain ⟨nan138, hnan138⟩ := Kd.size_letter hb
            have HO176 := Zz.mk (Kd.S_lower (Kd.S_geN (Kd.S_new' (Kd.S_new' (Kd.S_new' (Kd.S_new' (Kd.S_new' (Kd.S_new' (Kd.S_new' (Kd.S_new' (Kd.S_new' (Kd.S_new' ho0 (Kd.S_lt (KS_ HO109.out))) (Kd.S_lt (KS_ HO114.out))) (Kd.S_lt (KS_ HO119.out))) (Kd.S_lt (KS_ HO126.out))) (Kd.S_lt (KS_ HO132.out))) (Kd.S_lt (KS_ HO138.out))) (Kd.S_lt (KS_ HO146.out))) (Kd.S_lt (KS_ HO152.out))) (Kd.S_lt (KS_ HO166.out))) (Kd.S_lt (KS_ HO171.out))) hnan138) (bS_ (Bw7_ HB.out GE101.out GE102.out GE121.out GE127.out GE133.out GE140.out GE178.out)))
            replace HO109 := Zz.mk (tl_ HO109.out hb hnan138 ho0)
            replace HO114 := Zz.mk (tl_ HO114.out hb hnan138 ho0)
            replace HO119 := Zz.mk (tl_ HO119.out hb hnan138 ho0)
            replace HO126 := Zz.mk (tl_ HO126.out hb hnan138 ho0)
            replace HO132 := Zz.mk (tl_ HO132.out hb hnan138 ho0)
            replace HO138 := Zz.mk (tl_ HO138.out hb hnan138 ho0)
            replace HO146 := Zz.mk (tl_ HO146.out hb hnan138 ho0)
            replace HO152 := Zz.mk (tl_ HO152.out hb hnan138 ho0)
            replace HO166 := Zz.mk (tl_ HO166.out hb hnan138 ho0)
            replace HO171 := Zz.mk (tl_ HO171.out hb hnan138 ho0)
            replace BK101 := Zz.mk (kb_ BK101.out hb)
            replace BK102 := Zz.mk (kb_ BK102.out hb)
            replace BK121 := Zz.mk (kb_ BK121.out hb)
            replace BK127 := Zz.mk (kb_ BK127.out hb)
            replace BK133 := Zz.mk (kb_ BK133.out hb)
            replace BK140 := Zz.mk (kb_ BK140.out hb)
            replace BK178 := Zz.mk (kb_ BK178.out hb)
            replace HB := Zz.mk (bT_ (Bw7_ HB.out GE101.out GE102.out GE121.out GE127.out GE133.out GE140.out GE178.out) hb)
            (try clear hb);(try clear ho0)
            refine hK.out _ _ (Z3a_ BK101.out (Z3_ BK102.out)) (fun hHeld => ?_)
            clear hK K
            refine NM_ (N := (some 99)) (h := ?_)
            refine PX_ 5 94 (tb_ 11 319) HT_ rfl rfl ?_
            refine PX_ 6 100 (tb_ 11 383) HT_ rfl rfl ?_
            refine PX_ 7 101 (tb_ 11 511) HT_ rfl rfl ?_
            exact qBf (by simp only [qA1, Act.put, List.setIfInBounds_toArray, List.set_cons_zero, List.set_cons_succ]) (hCont (.slice Ao135 t164.length co135, .slice Ao136 t169.length co136, v175, gb178) _ ⟨hHeld, (by refine SW_ ?_; exact Kd.S_mono HO109.out (fun _ hk => pj_ hk)), (by refine SW_ ?_; exact Kd.S_mono HO114.out (fun _ hk => pj_ hk)), (by refine SW_ ?_; exact Kd.S_mono HO119.out (fun _ hk => pj_ hk)), (by refine SW_ ?_; exact Kd.S_mono HO126.out (fun _ hk => pj_ hk)), (by refine SW_ ?_; exact Kd.S_mono HO132.out (fun _ hk => pj_ hk)), (by refine SW_ ?_; exact Kd.S_mono HO138.out (fun _ hk => pj_ hk)), (by refine SW_ ?_; exact Kd.S_mono HO146.out (fun _ hk => pj_ hk)), (by refine SW_ ?_; exact Kd.S_mono HO152.out (fun _ hk => pj_ hk)), (by refine SW_ ?_; exact Kd.S_mono HO166.out (fun _ hk => pj_ hk)), (by refine SW_ ?_; exact Kd.S_mono HO171.out (fun _ hk => pj_ hk)), (by refine SW_ ?_; exact Kd.S_mono HO176.out (fun _ hk => pj_ hk)), (KB_ BK101.out), (KB_ BK102.out), (KB_ BK121.out), (KB_ BK127.out), (KB_ BK133.out), (KB_ BK140.out), (KB_ BK178.out), GW178.out, GE178.out, NB101_178.out, NB178_101.out, NB102_178.out, NB178_102.out, NB121_178.out, NB178_121.out, NB127_178.out, NB178_127.out, NB133_178.out, NB178_133.out, NB140_178.out, NB178_140.out, (Bw7_ HB.out GE101.out GE102.out GE121.out GE127.out GE133.out GE140.out GE178.out)⟩)
           skip
           refine by_ 15 #[.int .i64 0, .int .i64 0, .slice none 0 0] 29 ?_
           intro gb178 hg w130 hbox hb
           have BK178 := Zz.mk (hbox)
           have GW178 := Zz.mk ((gw_ hg (Bw6_ HB.out GE101.out GE102.out GE121.out GE127.out GE133.out GE140.out)))
           have GE178 := GW178
           have NB101_178 := Zz.mk ((nb_ BK101.out hg))
           have NB178_101 := Zz.mk NB101_178.out.symm
           have NB102_178 := Zz.mk ((nb_ BK102.out hg))
           have NB178_102 := Zz.mk NB102_178.out.symm
           have NB121_178 := Zz.mk ((nb_ BK121.out hg))
           have NB178_121 := Zz.mk NB121_178.out.symm
           have NB127_178 := Zz.mk ((nb_ BK127.out hg))
           have NB178_127 := Zz.mk NB127_178.out.symm
           have NB133_178 := Zz.mk ((nb_ BK133.out hg))
           have NB178_133 := Zz.mk NB133_178.out.symm
           have NB140_178 := Zz.mk ((nb_ BK140.out hg))
           have NB178_140 := Zz.mk NB140_178.out.symm
           replace HO109 := Zz.mk (Kd.S_below (KS_ HO109.out) hb)
           replace HO114 := Zz.mk (Kd.S_below (KS_ HO114.out) hb)
           replace HO119 := Zz.mk (Kd.S_below (KS_ HO119.out) hb)
           replace HO126 := Zz.mk (Kd.S_below (KS_ HO126.out) hb)
           replace HO132 := Zz.mk (Kd.S_below (KS_ HO132.out) hb)
           replace HO138 := Zz.mk (Kd.S_below (KS_ HO138.out) hb)
           replace HO146 := Zz.mk (Kd.S_below (KS_ HO146.out) hb)
           replace HO152 := Zz.mk (Kd.S_below (KS_ HO152.out) hb)
           replace BK101 := Zz.mk (kb_ BK101.out hb)
           replace BK102 := Zz.mk (kb_ BK102.out hb)
           replace BK121 := Zz.mk (kb_ BK121.out hb)
           replace BK127 := Zz.mk (kb_ BK127.out hb)
           replace BK133 := Zz.mk (kb_ BK133.out hb)
           replace BK140 := Zz.mk (kb_ BK140.out hb)
           replace HB := Zz.mk (bT_ (Bw6_ HB.out GE101.out GE102.out GE121.out GE127.out GE133.out GE140.out) hb)
           clear hb hbox hg
           refine hK.out _ _ (Z3a_ BK101.out (Z3_ BK102.out)) (fun hHeld => ?_)
           clear hK K
           refine NM_ (N := (some 15)) (h := ?_)
           refine one_ (i := 1) (N := some 96) (tb_ 11 263) rfl rfl (qAr HT_.out (by kernel_rfl)) (by decide) (fun K hK => ?_)
           refine GO_ Try.func13 #[.agg #[.int .i64 a0_0, .int .i64 a0_1, .slice A0_2 l0_2.length c0_2]] (h := ?_)
           with_reducible refine (z13.calls k a0_0 a0_1 _ _ l0_2 t162 t163 t164 _ ?side1 ?side2 A43.out).mono ?_
           (case side1 => exact KC_ (Kd.C_below HR0_2.out HB.out))
           (case side2 => exact HC0_2.out)
           rintro e w131 ⟨v165, rfl, ho0, hb⟩
           refine ⟨_, rfl, ?_⟩
           obtain ⟨nan132, hnan132⟩ := Kd.size_letter hb
           have HO166 := Zz.mk (Kd.S_lower (Kd.S_geN (Kd.S_new' (Kd.S_new' (Kd.S_new' (Kd.S_new' (Kd.S_new' (Kd.S_new' (Kd.S_new' (Kd.S_new' ho0 (Kd.S_lt (KS_ HO109.out))) (Kd.S_lt (KS_ HO114.out))) (Kd.S_lt (KS_ HO119.out))) (Kd.S_lt (KS_ HO126.out))) (Kd.S_lt (KS_ HO132.out))) (Kd.S_lt (KS_ HO138.out))) (Kd.S_lt (KS_ HO146.out))) (Kd.S_lt (KS_ HO152.out))) hnan132) (bS_ (Bw7_ HB.out GE101.out GE102.out GE121.out GE127.out GE133.out GE140.out GE178.out)))
           replace HO109 := Zz.mk (tl_ HO109.out hb hnan132 ho0)
           replace HO114 := Zz.mk (tl_ HO114.out hb hnan132 ho0)
           replace HO119 := Zz.mk (tl_ HO119.out hb hnan132 ho0)
           replace HO126 := Zz.mk (tl_ HO126.out hb hnan132 ho0)
           replace HO132 := Zz.mk (tl_ HO132.out hb hnan132 ho0)
           replace HO138 := Zz.mk (tl_ HO138.out hb hnan132 ho0)
           replace HO146 := Zz.mk (tl_ HO146.out hb hnan132 ho0)
           replace HO152 := Zz.mk (tl_ HO152.out hb hnan132 ho0)
           replace BK101 := Zz.mk (kb_ BK101.out hb)
           replace BK102 := Zz.mk (kb_ BK102.out hb)
           replace BK121 := Zz.mk (kb_ BK121.out hb)
           replace BK127 := Zz.mk (kb_ BK127.out hb)
           replace BK133 := Zz.mk (kb_ BK133.out hb)
           replace BK140 := Zz.mk (kb_ BK140.out hb)
           replace BK178 := Zz.mk (kb_ BK178.out hb)
           replace HB := Zz.mk (bT_ (Bw7_ HB.out GE101.out GE102.out GE121.out GE127.out GE133.out GE140.out GE178.out) hb)
           (try clear hb);(try clear ho0)
           refine hK.out _ _ (Z3a_ BK101.out (Z3_ BK102.out)) (fun hHeld => ?_)
           clear hK K
           refine NM_ (N := (some 96)) (h := ?_)
           refine one_ (i := 3) (N := some 98) (tb_ 11 271) rfl rfl (qAr HT_.out (by kernel_rfl)) (by decide) (fun K hK => ?_)
           refine GO_ Try.func13 #[.agg #[.int .i64 a1_0, .int .i64 a1_1, .slice A1_2 l1_2.length c1_2]] (h := ?_)
           with_reducible refine (z13.calls k a1_0 a1_1 _ _ l1_2 t167 t168 t169 _ ?side1 ?side2 A44.out).mono ?_
           (case side1 => exact KC_ (Kd.C_below HR1_2.out HB.out))
           (case side2 => exact HC1_2.out)
           rintro e w133 ⟨v170, rfl, ho0, hb⟩
           refine ⟨_, rfl, ?_⟩
           obtain ⟨nan134, hnan134⟩ := Kd.size_letter hb
           have HO171 := Zz.mk (Kd.S_lower (Kd.S_geN (Kd.S_new' (Kd.S_new' (Kd.S_new' (Kd.S_new' (Kd.S_new' (Kd.S_new' (Kd.S_new' (Kd.S_new' (Kd.S_new' ho0 (Kd.S_lt (KS_ HO109.out))) (Kd.S_lt (KS_ HO114.out))) (Kd.S_lt (KS_ HO119.out))) (Kd.S_lt (KS_ HO126.out))) (Kd.S_lt (KS_ HO132.out))) (Kd.S_lt (KS_ HO138.out))) (Kd.S_lt (KS_ HO146.out))) (Kd.S_lt (KS_ HO152.out))) (Kd.S_lt (KS_ HO166.out))) hnan134) (bS_ (Bw7_ HB.out GE101.out GE102.out GE121.out GE127.out GE133.out GE140.out GE178.out)))
           replace HO109 := Zz.mk (tl_ HO109.out hb hnan134 ho0)
           replace HO114 := Zz.mk (tl_ HO114.out hb hnan134 ho0)
           replace HO119 := Zz.mk (tl_ HO119.out hb hnan134 ho0)
           replace HO126 := Zz.mk (tl_ HO126.out hb hnan134 ho0)
           replace HO132 := Zz.mk (tl_ HO132.out hb hnan134 ho0)
           replace HO138 := Zz.mk (tl_ HO138.out hb hnan134 ho0)
           replace HO146 := Zz.mk (tl_ HO146.out hb hnan134 ho0)
           replace HO152 := Zz.mk (tl_ HO152.out hb hnan134 ho0)
           replace HO166 := Zz.mk (tl_ HO166.out hb hnan134 ho0)
           replace BK101 := Zz.mk (kb_ BK101.out hb)
           replace BK102 := Zz.mk (kb_ BK102.out hb)
           replace BK121 := Zz.mk (kb_ BK121.out hb)
           replace BK127 := Zz.mk (kb_ BK127.out hb)
           replace BK133 := Zz.mk (kb_ BK133.out hb)
           replace BK140 := Zz.mk (kb_ BK140.out hb)
           replace BK178 := Zz.mk (kb_ BK178.out hb)
           replace HB := Zz.mk (bT_ (Bw7_ HB.out GE101.out GE102.out GE121.out GE127.out GE133.out GE140.out GE178.out) hb)
           (try clear hb);(try clear ho0)
           obtain ⟨Ao135, co135, eo135⟩ := Kd.S_slice HO166.out
           (first | subst eo135 | obtain ⟨rfl, rfl⟩ := sl_ eo135)
           obtain ⟨Ao136, co136, eo136⟩ := Kd.S_slice HO171.out
           (first | subst eo136 | obtain ⟨rfl, rfl⟩ := sl_ eo136)
           refine hK.out _ _ (Z3a_ BK101.out (Z3_ BK102.out)) (fun hHeld => ?_)
           clear hK K
           refine NM_ (N := (some 98)) (h := ?_)
           refine one_ (i := 4) (N := some 99) (tb_ 11 287) rfl rfl (qAr HT_.out (by kernel_rfl)) (by decide) (fun K hK => ?_)
           refine GO_ Try.func51 #[.agg #[.int .i64 t162, .int .i64 t163, .slice Ao135 t164.length co135], .agg #[.int .i64 t167, .int .i64 t168, .slice Ao136 t169.length co136]] (h := ?_)
           with_reducible refine (z51.calls k t162 t163 _ _ t164 t167 t168 _ _ t169 t172 t173 t174 t177 _ ?side1 ?side2 ?side3 ?side4 A45.out).mono ?_
           (case side1 => exact KC_ (Kd.S_reads' HO166.out).2.2)
           (case side2 => exact (Kd.S_reads' HO166.out).2.1)
           (case side3 => exact KC_ (Kd.S_reads' HO171.out).2.2)
           (case side4 => exact (Kd.S_reads' HO171.out).2.1)
           rintro e w137 ⟨v175, rfl, ho0, hb⟩
           refine ⟨_, rfl, ?_⟩
           obtain ⟨nan138, hnan138⟩ := Kd.size_letter hb
           have HO176 := Zz.mk (Kd.S_lower (Kd.S_geN (Kd.S_new' (Kd.S_new' (Kd.S_new' (Kd.S_new' (Kd.S_new' (Kd.S_new' (Kd.S_new' (Kd.S_new' (Kd.S_new' (Kd.S_new' ho0 (Kd.S_lt (KS_ HO109.out))) (Kd.S_lt (KS_ HO114.out))) (Kd.S_lt (KS_ HO119.out))) (Kd.S_lt (KS_ HO126.out))) (Kd.S_lt (KS_ HO132.out))) (Kd.S_lt (KS_ HO138.out))) (Kd.S_lt (KS_ HO146.out))) (Kd.S_lt (KS_ HO152.out))) (Kd.S_lt (KS_ HO166.out))) (Kd.S_lt (KS_ HO171.out))) hnan138) (bS_ (Bw7_ HB.out GE101.out GE102.out GE121.out GE127.out GE133.out GE140.out GE178.out)))
           replace HO109 := Zz.mk (tl_ HO109.out hb hnan138 ho0)
           replace HO114 := Zz.mk (tl_ HO114.out hb hnan138 ho0)
           replace HO119 := Zz.mk (tl_ HO119.out hb hnan138 ho0)
           replace HO126 := Zz.mk (tl_ HO126.out hb hnan138 ho0)
           replace HO132 := Zz.mk (tl_ HO132.out hb hnan138 ho0)
           replace HO138 := Zz.mk (tl_ HO138.out hb hnan138 ho0)
           replace HO146 := Zz.mk (tl_ HO146.out hb hnan138 ho0)
           replace HO152 := Zz.mk (tl_ HO152.out hb hnan138 ho0)
           replace HO166 := Zz.mk (tl_ HO166.out hb hnan138 ho0)
           replace HO171 := Zz.mk (tl_ HO171.out hb hnan138 ho0)
           replace BK101 := Zz.mk (kb_ BK101.out hb)
           replace BK102 := Zz.mk (kb_ BK102.out hb)
           replace BK121 := Zz.mk (kb_ BK121.out hb)
           replace BK127 := Zz.mk (kb_ BK127.out hb)
           replace BK133 := Zz.mk (kb_ BK133.out hb)
           replace BK140 := Zz.mk (kb_ BK140.out hb)
           replace BK178 := Zz.mk (kb_ BK178.out hb)
           replace HB := Zz.mk (bT_ (Bw7_ HB.out GE101.out GE102.out GE121.out GE127.out GE133.out GE140.out GE178.out) hb)
           (try clear hb);(try clear ho0)
           refine hK.out _ _ (Z3a_ BK101.out (Z3_ BK102.out)) (fun hHeld => ?_)
           clear hK K
           refine NM_ (N := (some 99)) (h := ?_)
           refine PX_ 5 94 (tb_ 11 319) HT_ rfl rfl ?_
           refine PX_ 6 100 (tb_ 11 383) HT_ rfl rfl ?_
           refine PX_ 7 101 (tb_ 11 511) HT_ rfl rfl ?_
           exact qBf (by simp only [qA1, Act.put, List.setIfInBounds_toArray, List.set_cons_zero, List.set_cons_succ]) (hCont (.slice Ao135 t164.length co135, .slice Ao136 t169.length co136, v175, gb178) _ ⟨hHeld, (by refine SW_ ?_; exact Kd.S_mono HO109.out (fun _ hk => pj_ hk)), (by refine SW_ ?_; exact Kd.S_mono HO114.out (fun _ hk => pj_ hk)), (by refine SW_ ?_; exact Kd.S_mono HO119.out (fun _ hk => pj_ hk)), (by refine SW_ ?_; exact Kd.S_mono HO126.out (fun _ hk => pj_ hk)), (by refine SW_ ?_; exact Kd.S_mono HO132.out (fun _ hk => pj_ hk)), (by refine SW_ ?_; exact Kd.S_mono HO138.out (fun _ hk => pj_ hk)), (by refine SW_ ?_; exact Kd.S_mono HO146.out (fun _ hk => pj_ hk)), (by refine SW_ ?_; exact Kd.S_mono HO152.out (fun _ hk => pj_ hk)), (by refine SW_ ?_; exact Kd.S_mono HO166.out (fun _ hk => pj_ hk)), (by refine SW_ ?_; exact Kd.S_mono HO171.out (fun _ hk => pj_ hk)), (by refine SW_ ?_; exact Kd.S_mono HO176.out (fun _ hk => pj_ hk)), (KB_ BK101.out), (KB_ BK102.out), (KB_ BK121.out), (KB_ BK127.out), (KB_ BK133.out), (KB_ BK140.out), (KB_ BK178.out), GW178.out, GE178.out, NB101_178.out, NB178_101.out, NB102_178.out, NB178_102.out, NB121_178.out, NB178_121.out, NB127_178.out, NB178_127.out, NB133_178.out, NB178_133.out, NB140_178.out, NB178_140.out, (Bw7_ HB.out GE101.out GE102.out GE121.out GE127.out GE133.out GE140.out GE178.out)⟩)
          rintro ⟨v165, v170, v175, gb178⟩ w139 ⟨hS_, h0_, h1_, h2_, h3_, h4_, h5_, h6_, h7_, h8_, h9_, h10_, h11_, h12_, h13_, h14_, h15_, h16_, h17_, h18_, h19_, h20_, h21_, h22_, h23_, h24_, h25_, h26_, h27_, h28_, h29_, h30_, h31_, h32_⟩
          have HO166 : Zz (Kd.S (Kd.slice 2 (Kd.int .i64)) 25 w139 w.heap.size (fun k_ => some k_ ≠ (v108 : Value).ownBlock ∧ some k_ ≠ (v113 : Value).ownBlock ∧ some k_ ≠ (.slice Ao72 t117.length co72 : Value).ownBlock ∧ some k_ ≠ (.slice Ao83 t124.length co83 : Value).ownBlock ∧ some k_ ≠ (.slice Ao94 t130.length co94 : Value).ownBlock ∧ some k_ ≠ (.slice Ao105 t136.length co105 : Value).ownBlock ∧ some k_ ≠ (.slice Ao111 t144.length co111 : Value).ownBlock ∧ some k_ ≠ (.slice Ao116 t150.length co116 : Value).ownBlock ∧ some k_ ≠ (v170 : Value).ownBlock ∧ some k_ ≠ (v175 : Value).ownBlock) v165 t164) := ⟨h8_⟩
          have HO171 : Zz (Kd.S (Kd.slice 2 (Kd.int .i64)) 25 w139 w.heap.size (fun k_ => some k_ ≠ (v108 : Value).ownBlock ∧ some k_ ≠ (v113 : Value).ownBlock ∧ some k_ ≠ (.slice Ao72 t117.length co72 : Value).ownBlock ∧ some k_ ≠ (.slice Ao83 t124.length co83 : Value).ownBlock ∧ some k_ ≠ (.slice Ao94 t130.length co94 : Value).ownBlock ∧ some k_ ≠ (.slice Ao105 t136.length co105 : Value).ownBlock ∧ some k_ ≠ (.slice Ao111 t144.length co111 : Value).ownBlock ∧ some k_ ≠ (.slice Ao116 t150.length co116 : Value).ownBlock ∧ some k_ ≠ (v165 : Value).ownBlock ∧ some k_ ≠ (v175 : Value).ownBlock) v170 t169) := ⟨h9_⟩
          have HO176 : Zz (Kd.S (Kd.slice 2 (Kd.int .i64)) 25 w139 w.heap.size (fun k_ => some k_ ≠ (v108 : Value).ownBlock ∧ some k_ ≠ (v113 : Value).ownBlock ∧ some k_ ≠ (.slice Ao72 t117.length co72 : Value).ownBlock ∧ some k_ ≠ (.slice Ao83 t124.length co83 : Value).ownBlock ∧ some k_ ≠ (.slice Ao94 t130.length co94 : Value).ownBlock ∧ some k_ ≠ (.slice Ao105 t136.length co105 : Value).ownBlock ∧ some k_ ≠ (.slice Ao111 t144.length co111 : Value).ownBlock ∧ some k_ ≠ (.slice Ao116 t150.length co116 : Value).ownBlock ∧ some k_ ≠ (v165 : Value).ownBlock ∧ some k_ ≠ (v170 : Value).ownBlock) v175 t174) := ⟨h10_⟩
          have BK178 : Zz (w139.heap[gb178]? = some (.cells #[.int .i64 0, .int .i64 0, .slice none 0 0] 29 (0, 0))) := ⟨h17_⟩
          have GW178 : Zz (w.heap.size ≤ gb178) := ⟨h18_⟩
          have GE178 : Zz (w.heap.size ≤ gb178) := ⟨h19_⟩
          have NB101_178 : Zz (gb101 ≠ gb178) := ⟨h20_⟩
          have NB178_101 : Zz (gb178 ≠ gb101) := ⟨h21_⟩
          have NB102_178 : Zz (gb102 ≠ gb178) := ⟨h22_⟩
          have NB178_102 : Zz (gb178 ≠ gb102) := ⟨h23_⟩
          have NB121_178 : Zz (gb121 ≠ gb178) := ⟨h24_⟩
          have NB178_121 : Zz (gb178 ≠ gb121) := ⟨h25_⟩
          have NB127_178 : Zz (gb127 ≠ gb178) := ⟨h26_⟩
          have NB178_127 : Zz (gb178 ≠ gb127) := ⟨h27_⟩
          have NB133_178 : Zz (gb133 ≠ gb178) := ⟨h28_⟩
          have NB178_133 : Zz (gb178 ≠ gb133) := ⟨h29_⟩
          have NB140_178 : Zz (gb140 ≠ gb178) := ⟨h30_⟩
          have NB178_140 : Zz (gb178 ≠ gb140) := ⟨h31_⟩
          replace HO109 : Zz (Kd.S (Kd.slice 2 (Kd.int .i64)) 25 w139 w.heap.size (fun k_ => some k_ ≠ (v113 : Value).ownBlock ∧ some k_ ≠ (.slice Ao72 t117.length co72 : Value).ownBlock ∧ some k_ ≠ (.slice Ao83 t124.length co83 : Value).ownBlock ∧ some k_ ≠ (.slice Ao94 t130.length co94 : Value).ownBlock ∧ some k_ ≠ (.slice Ao105 t136.length co105 : Value).ownBlock ∧ some k_ ≠ (.slice Ao111 t144.length co111 : Value).ownBlock ∧ some k_ ≠ (.slice Ao116 t150.length co116 : Value).ownBlock ∧ some k_ ≠ (v165 : Value).ownBlock ∧ some k_ ≠ (v170 : Value).ownBlock ∧ some k_ ≠ (v175 : Value).ownBlock ∧ k_ < nan77 ∧ k_ < nan87 ∧ k_ < nan97 ∧ k_ < nan110 ∧ k_ < nan115) v108 t107) := ⟨h0_⟩
          replace HO114 : Zz (Kd.S (Kd.slice 2 (Kd.int .i64)) 25 w139 w.heap.size (fun k_ => some k_ ≠ (v108 : Value).ownBlock ∧ some k_ ≠ (.slice Ao72 t117.length co72 : Value).ownBlock ∧ some k_ ≠ (.slice Ao83 t124.length co83 : Value).ownBlock ∧ some k_ ≠ (.slice Ao94 t130.length co94 : Value).ownBlock ∧ some k_ ≠ (.slice Ao105 t136.length co105 : Value).ownBlock ∧ some k_ ≠ (.slice Ao111 t144.length co111 : Value).ownBlock ∧ some k_ ≠ (.slice Ao116 t150.length co116 : Value).ownBlock ∧ some k_ ≠ (v165 : Value).ownBlock ∧ some k_ ≠ (v170 : Value).ownBlock ∧ some k_ ≠ (v175 : Value).ownBlock ∧ k_ < nan77 ∧ k_ < nan87 ∧ k_ < nan97 ∧ k_ < nan110 ∧ k_ < nan115) v113 t112) := ⟨h1_⟩
          replace HO119 : Zz (Kd.S (Kd.slice 2 (Kd.int .i64)) 25 w139 w.heap.size (fun k_ => some k_ ≠ (v108 : Value).ownBlock ∧ some k_ ≠ (v113 : Value).ownBlock ∧ some k_ ≠ (.slice Ao83 t124.length co83 : Value).ownBlock ∧ some k_ ≠ (.slice Ao94 t130.length co94 : Value).ownBlock ∧ some k_ ≠ (.slice Ao105 t136.length co105 : Value).ownBlock ∧ some k_ ≠ (.slice Ao111 t144.length co111 : Value).ownBlock ∧ some k_ ≠ (.slice Ao116 t150.length co116 : Value).ownBlock ∧ some k_ ≠ (v165 : Value).ownBlock ∧ some k_ ≠ (v170 : Value).ownBlock ∧ some k_ ≠ (v175 : Value).ownBlock ∧ k_ < nan77 ∧ k_ < nan87 ∧ k_ < nan97 ∧ k_ < nan110 ∧ k_ < nan115) (.slice Ao72 t117.length co72) t117) := ⟨h2_⟩
          replace HO126 : Zz (Kd.S (Kd.slice 2 (Kd.int .i64)) 25 w139 w.heap.size (fun k_ => some k_ ≠ (v108 : Value).ownBlock ∧ some k_ ≠ (v113 : Value).ownBlock ∧ some k_ ≠ (.slice Ao72 t117.length co72 : Value).ownBlock ∧ some k_ ≠ (.slice Ao94 t130.length co94 : Value).ownBlock ∧ some k_ ≠ (.slice Ao105 t136.length co105 : Value).ownBlock ∧ some k_ ≠ (.slice Ao111 t144.length co111 : Value).ownBlock ∧ some k_ ≠ (.slice Ao116 t150.length co116 : Value).ownBlock ∧ some k_ ≠ (v165 : Value).ownBlock ∧ some k_ ≠ (v170 : Value).ownBlock ∧ some k_ ≠ (v175 : Value).ownBlock ∧ nan77 ≤ k_ ∧ k_ < nan87 ∧ k_ < nan97 ∧ k_ < nan110 ∧ k_ < nan115) (.slice Ao83 t124.length co83) t155) := ⟨h3_⟩
          replace HO132 : Zz (Kd.S (Kd.slice 2 (Kd.int .i64)) 25 w139 w.heap.size (fun k_ => some k_ ≠ (v108 : Value).ownBlock ∧ some k_ ≠ (v113 : Value).ownBlock ∧ some k_ ≠ (.slice Ao72 t117.length co72 : Value).ownBlock ∧ some k_ ≠ (.slice Ao83 t124.length co83 : Value).ownBlock ∧ some k_ ≠ (.slice Ao105 t136.length co105 : Value).ownBlock ∧ some k_ ≠ (.slice Ao111 t144.length co111 : Value).ownBlock ∧ some k_ ≠ (.slice Ao116 t150.length co116 : Value).ownBlock ∧ some k_ ≠ (v165 : Value).ownBlock ∧ some k_ ≠ (v170 : Value).ownBlock ∧ some k_ ≠ (v175 : Value).ownBlock ∧ nan87 ≤ k_ ∧ k_ < nan97 ∧ k_ < nan110 ∧ k_ < nan115) (.slice Ao94 t130.length co94) t157) := ⟨h4_⟩
          replace HO138 : Zz (Kd.S (Kd.slice 2 (Kd.int .i64)) 25 w139 w.heap.size (fun k_ => some k_ ≠ (v108 : Value).ownBlock ∧ some k_ ≠ (v113 : Value).ownBlock ∧ some k_ ≠ (.slice Ao72 t117.length co72 : Value).ownBlock ∧ some k_ ≠ (.slice Ao83 t124.length co83 : Value).ownBlock ∧ some k_ ≠ (.slice Ao94 t130.length co94 : Value).ownBlock ∧ some k_ ≠ (.slice Ao111 t144.length co111 : Value).ownBlock ∧ some k_ ≠ (.slice Ao116 t150.length co116 : Value).ownBlock ∧ some k_ ≠ (v165 : Value).ownBlock ∧ some k_ ≠ (v170 : Value).ownBlock ∧ some k_ ≠ (v175 : Value).ownBlock ∧ nan97 ≤ k_ ∧ k_ < nan110 ∧ k_ < nan115) (.slice Ao105 t136.length co105) t160) := ⟨h5_⟩
          replace HO146 : Zz (Kd.S (Kd.slice 2 (Kd.int .i64)) 25 w139 w.heap.size (fun k_ => some k_ ≠ (v108 : Value).ownBlock ∧ some k_ ≠ (v113 : Value).ownBlock ∧ some k_ ≠ (.slice Ao72 t117.length co72 : Value).ownBlock ∧ some k_ ≠ (.slice Ao83 t124.length co83 : Value).ownBlock ∧ some k_ ≠ (.slice Ao94 t130.length co94 : Value).ownBlock ∧ some k_ ≠ (.slice Ao105 t136.length co105 : Value).ownBlock ∧ some k_ ≠ (.slice Ao116 t150.length co116 : Value).ownBlock ∧ some k_ ≠ (v165 : Value).ownBlock ∧ some k_ ≠ (v170 : Value).ownBlock ∧ some k_ ≠ (v175 : Value).ownBlock ∧ nan110 ≤ k_ ∧ k_ < nan115) (.slice Ao111 t144.length co111) t144) := ⟨h6_⟩
          replace HO152 : Zz (Kd.S (Kd.slice 2 (Kd.int .i64)) 25 w139 w.heap.size (fun k_ => some k_ ≠ (v108 : Value).ownBlock ∧ some k_ ≠ (v113 : Value).ownBlock ∧ some k_ ≠ (.slice Ao72 t117.length co72 : Value).ownBlock ∧ some k_ ≠ (.slice Ao83 t124.length co83 : Value).ownBlock ∧ some k_ ≠ (.slice Ao94 t130.length co94 : Value).ownBlock ∧ some k_ ≠ (.slice Ao105 t136.length co105 : Value).ownBlock ∧ some k_ ≠ (.slice Ao111 t144.length co111 : Value).ownBlock ∧ some k_ ≠ (v165 : Value).ownBlock ∧ some k_ ≠ (v170 : Value).ownBlock ∧ some k_ ≠ (v175 : Value).ownBlock ∧ nan115 ≤ k_) (.slice Ao116 t150.length co116) t150) := ⟨h7_⟩
          replace BK101 : Zz (w139.heap[gb101]? = some (.cells #[.int .i64 a0_0, .int .i64 a0_1, .slice A0_2 l0_2.length c0_2] 24 (0, 0))) := ⟨h11_⟩
          replace BK102 : Zz (w139.heap[gb102]? = some (.cells #[.int .i64 a1_0, .int .i64 a1_1, .slice A1_2 l1_2.length c1_2] 24 (0, 0))) := ⟨h12_⟩
          replace BK121 : Zz (w139.heap[gb121]? = some (.cells #[.int .i64 t115, .int .i64 t116, .slice Ao72 t117.length co72] 29 (0, 0))) := ⟨h13_⟩
          replace BK127 : Zz (w139.heap[gb127]? = some (.cells #[.int .i64 t122, .int .i64 t123, .slice Ao83 t124.length co83] 29 (0, 0))) := ⟨h14_⟩
          replace BK133 : Zz (w139.heap[gb133]? = some (.cells #[.int .i64 t128, .int .i64 t129, .slice Ao94 t130.length co94] 29 (0, 0))) := ⟨h15_⟩
          replace BK140 : Zz (w139.heap[gb140]? = some (.cells #[.int .i64 t134, .int .i64 t135, .slice Ao105 t136.length co105] 29 (0, 0))) := ⟨h16_⟩
          replace HB : Zz (Below w.heap.size w w139) := ⟨h32_⟩
          (try clear h0_)
          (try clear h1_)
          (try clear h2_)
          (try clear h3_)
          (try clear h4_)
          (try clear h5_)
          (try clear h6_)
          (try clear h7_)
          (try clear h8_)
          (try clear h9_)
          (try clear h10_)
          (try clear h11_)
          (try clear h12_)
          (try clear h13_)
          (try clear h14_)
          (try clear h15_)
          (try clear h16_)
          (try clear h17_)
          (try clear h18_)
          (try clear h19_)
          (try clear h20_)
          (try clear h21_)
          (try clear h22_)
          (try clear h23_)
          (try clear h24_)
          (try clear h25_)
          (try clear h26_)
          (try clear h27_)
          (try clear h28_)
          (try clear h29_)
          (try clear h30_)
          (try clear h31_)
          (try clear h32_)
          have hHeld : w139.cell? ⟨gb101, 0, none⟩ = some (.int .i64 a0_0) ∧ w139.cell? ⟨gb101, 1, none⟩ = some (.int .i64 a0_1) ∧ w139.cell? ⟨gb101, 2, none⟩ = some (.slice A0_2 l0_2.length c0_2) ∧ w139.cell? ⟨gb102, 0, none⟩ = some (.int .i64 a1_0) ∧ w139.cell? ⟨gb102, 1, none⟩ = some (.int .i64 a1_1) ∧ w139.cell? ⟨gb102, 2, none⟩ = some (.slice A1_2 l1_2.length c1_2) := hS_
          obtain ⟨Ao142, co142, eo142⟩ := Kd.S_slice HO176.out
          (first | subst eo142 | obtain ⟨rfl, rfl⟩ := sl_ eo142)
          refine qBf (a' := ?_) ?_ ?_
          rotate_left
          ·simp only [qA1, Act.put, List.setIfInBounds_toArray, List.set_cons_zero, List.set_cons_succ]
           rfl
          refine one_ (i := 9) (N := none) (tb_ 11 1023) rfl rfl (qAr HT_.out (by kernel_rfl)) (by decide) (fun K hK => ?_)
          have hs140 : w139.cell? ⟨gb178, 0, none⟩ = some (.int .i64 0) := (bC_ BK178.out 0).trans rfl
          have hfs140 := bF_ BK178.out 0
          have hns140_0 := NB101_178.out
          have hns140_1 := NB102_178.out
          have hns140_2 := NB121_178.out
          have hns140_3 := NB127_178.out
          have hns140_4 := NB133_178.out
          have hns140_5 := NB140_178.out
          have hms140_0 := NB178_101.out
          have hms140_1 := NB178_102.out
          have hms140_2 := NB178_121.out
          have hms140_3 := NB178_127.out
          have hms140_4 := NB178_133.out
          have hms140_5 := NB178_140.out
          have hs141 : w139.cell? ⟨gb178, 1, none⟩ = some (.int .i64 0) := (bC_ BK178.out 1).trans rfl
          have hfs141 := bF_ BK178.out 1
          have hns141_0 := NB101_178.out
          have hns141_1 := NB102_178.out
          have hns141_2 := NB121_178.out
          have hns141_3 := NB127_178.out
          have hns141_4 := NB133_178.out
          have hns141_5 := NB140_178.out
          have hms141_0 := NB178_101.out
          have hms141_1 := NB178_102.out
          have hms141_2 := NB178_121.out
          have hms141_3 := NB178_127.out
          have hms141_4 := NB178_133.out
          have hms141_5 := NB178_140.out
          have hs143 : w139.cell? ⟨gb178, 2, none⟩ = some (.slice none 0 0) := (bC_ BK178.out 2).trans rfl
          have hfs143 := bF_ BK178.out 2
          have hns143_0 := NB101_178.out
          have hns143_1 := NB102_178.out
          have hns143_2 := NB121_178.out
          have hns143_3 := NB127_178.out
          have hns143_4 := NB133_178.out
          have hns143_5 := NB140_178.out
          have hms143_0 := NB178_101.out
          have hms143_1 := NB178_102.out
          have hms143_2 := NB178_121.out
          have hms143_3 := NB178_127.out
          have hms143_4 := NB178_133.out
          have hms143_5 := NB178_140.out
          refine qB9 (w1 := ?_) (by rfl) rfl ?_ ?_
          rotate_left
          ·go_simp
           rfl
          refine hK.out _ _ ⟨((qAf (p := ⟨gb178, _, none⟩) NB101_178.out _).trans (((qAf (p := ⟨gb178, _, none⟩) NB101_178.out _).trans (((qAf (p := ⟨gb178, _, none⟩) NB101_178.out _).trans (hHeld.1)))))), ((qAf (p := ⟨gb178, _, none⟩) NB101_178.out _).trans (((qAf (p := ⟨gb178, _, none⟩) NB101_178.out _).trans (((qAf (p := ⟨gb178, _, none⟩) NB101_178.out _).trans (hHeld.2.1)))))), ((qAf (p := ⟨gb178, _, none⟩) NB101_178.out _).trans (((qAf (p := ⟨gb178, _, none⟩) NB101_178.out _).trans (((qAf (p := ⟨gb178, _, none⟩) NB101_178.out _).trans (hHeld.2.2.1)))))), ((qAf (p := ⟨gb178, _, none⟩) NB102_178.out _).trans (((qAf (p := ⟨gb178, _, none⟩) NB102_178.out _).trans (((qAf (p := ⟨gb178, _, none⟩) NB102_178.out _).trans (hHeld.2.2.2.1)))))), ((qAf (p := ⟨gb178, _, none⟩) NB102_178.out _).trans (((qAf (p := ⟨gb178, _, none⟩) NB102_178.out _).trans (((qAf (p := ⟨gb178, _, none⟩) NB102_178.out _).trans (hHeld.2.2.2.2.1)))))), ((qAf (p := ⟨gb178, _, none⟩) NB102_178.out _).trans (((qAf (p := ⟨gb178, _, none⟩) NB102_178.out _).trans (((qAf (p := ⟨gb178, _, none⟩) NB102_178.out _).trans (hHeld.2.2.2.2.2))))))⟩ (fun hHeld => ?_)
          clear hK K
          refine PX_ 10 16 (tb_ 11 2047) HT_ rfl rfl ?_
          refine qBd (qA2 HT_.out (by kernel_rfl)) ?_
          have hnb144 := NB178_101.out
          have hnc144 := NB101_178.out
          have hnb145 := NB178_102.out
          have hnc145 := NB102_178.out
          have hnb146 := NB178_121.out
          have hnc146 := NB121_178.out
          have hnb147 := NB178_127.out
          have hnc147 := NB127_178.out
          have hnb148 := NB178_133.out
          have hnc148 := NB133_178.out
          have hnb149 := NB178_140.out
          have hnc149 := NB140_178.out
          obtain ⟨hcz150_0, hcz150_1, hcz150_2, hfz150_0, hfz150_1, hfz150_2⟩ := Z3f_ BK178.out
          obtain ⟨hcz151_0, hcz151_1, hcz151_2, hfz151_0, hfz151_1, hfz151_2⟩ := Z3f_ BK121.out
          try go_wp2_with (first | ((with_reducible refine gC_ (f := 17) rfl ?_); refine GL_ (some 104) rfl rfl Try.func17 #[.agg #[.int .i64 t172, .int .i64 t173, .slice Ao142 t174.length co142], .agg #[.int .i64 t115, .int .i64 t116, .slice Ao72 t117.length co72]] rfl (h := ?_); (with_reducible refine (z17.calls k t172 t173 _ _ t174 t115 t116 _ _ t117 true _ ?side1 ?side2 ?side3 ?side4 A46.out).mono ?_); (case side1 => refine (Kd.S_reads' (e := 25) (base := w.heap.size) (ok := fun k_ => (some k_ ≠ (v108 : Value).ownBlock ∧ (some k_ ≠ (v113 : Value).ownBlock ∧ (some k_ ≠ (.slice Ao72 t117.length co72 : Value).ownBlock ∧ (some k_ ≠ (.slice Ao83 t124.length co83 : Value).ownBlock ∧ (some k_ ≠ (.slice Ao94 t130.length co94 : Value).ownBlock ∧ (some k_ ≠ (.slice Ao105 t136.length co105 : Value).ownBlock ∧ (some k_ ≠ (.slice Ao111 t144.length co111 : Value).ownBlock ∧ (some k_ ≠ (.slice Ao116 t150.length co116 : Value).ownBlock ∧ (some k_ ≠ (v165 : Value).ownBlock ∧ some k_ ≠ (v170 : Value).ownBlock)))))))))) (n := t174.length) (c := co142) ?_).2.2; exact (by refine SW_ ?_; exact (S3_ HO176.out BK178.out (.int .i64 t172) (.int .i64 t173) (.slice Ao142 t174.length co142)))); (case side2 => exact (Kd.S_reads' HO176.out).2.1); (case side3 => refine (Kd.S_reads' (e := 25) (base := w.heap.size) (ok := fun k_ => (some k_ ≠ (v108 : Value).ownBlock ∧ (some k_ ≠ (v113 : Value).ownBlock ∧ (some k_ ≠ (.slice Ao83 t124.length co83 : Value).ownBlock ∧ (some k_ ≠ (.slice Ao94 t130.length co94 : Value).ownBlock ∧ (some k_ ≠ (.slice Ao105 t136.length co105 : Value).ownBlock ∧ (some k_ ≠ (.slice Ao111 t144.length co111 : Value).ownBlock ∧ (some k_ ≠ (.slice Ao116 t150.length co116 : Value).ownBlock ∧ (some k_ ≠ (v165 : Value).ownBlock ∧ (some k_ ≠ (v170 : Value).ownBlock ∧ (some k_ ≠ (.slice Ao142 t174.length co142 : Value).ownBlock ∧ (k_ < nan77 ∧ (k_ < nan87 ∧ (k_ < nan97 ∧ (k_ < nan110 ∧ k_ < nan115))))))))))))))) (n := t117.length) (c := co72) ?_).2.2; exact (by refine SW_ ?_; exact (S3_ HO119.out BK178.out (.int .i64 t172) (.int .i64 t173) (.slice Ao142 t174.length co142)))); (case side4 => exact (Kd.S_reads' HO119.out).2.1); rintro e w152 ⟨rfl, hb⟩; refine ⟨_, rfl, ?_⟩; replace HO109 := Zz.mk (Kd.S_below (by refine SW_ ?_; exact (S3_ HO109.out BK178.out (.int .i64 t172) (.int .i64 t173) (.slice Ao142 t174.length co142))) hb); replace HO114 := Zz.mk (Kd.S_below (by refine SW_ ?_; exact (S3_ HO114.out BK178.out (.int .i64 t172) (.int .i64 t173) (.slice Ao142 t174.length co142))) hb); replace HO119 := Zz.mk (Kd.S_below (by refine SW_ ?_; exact (S3_ HO119.out BK178.out (.int .i64 t172) (.int .i64 t173) (.slice Ao142 t174.length co142))) hb); replace HO126 := Zz.mk (Kd.S_below (by refine SW_ ?_; exact (S3_ HO126.out BK178.out (.int .i64 t172) (.int .i64 t173) (.slice Ao142 t174.length co142))) hb); replace HO132 := Zz.mk (Kd.S_below (by refine SW_ ?_; exact (S3_ HO132.out BK178.out (.int .i64 t172) (.int .i64 t173) (.slice Ao142 t174.length co142))) hb); replace HO138 := Zz.mk (Kd.S_below (by refine SW_ ?_; exact (S3_ HO138.out BK178.out (.int .i64 t172) (.int .i64 t173) (.slice Ao142 t174.length co142))) hb); replace HO146 := Zz.mk (Kd.S_below (by refine SW_ ?_; exact (S3_ HO146.out BK178.out (.int .i64 t172) (.int .i64 t173) (.slice Ao142 t174.length co142))) hb); replace HO152 := Zz.mk (Kd.S_below (by refine SW_ ?_; exact (S3_ HO152.out BK178.out (.int .i64 t172) (.int .i64 t173) (.slice Ao142 t174.length co142))) hb); replace HO166 := Zz.mk (Kd.S_below (by refine SW_ ?_; exact (S3_ HO166.out BK178.out (.int .i64 t172) (.int .i64 t173) (.slice Ao142 t174.length co142))) hb); replace HO171 := Zz.mk (Kd.S_below (by refine SW_ ?_; exact (S3_ HO171.out BK178.out (.int .i64 t172) (.int .i64 t173) (.slice Ao142 t174.length co142))) hb); replace HO176 := Zz.mk (Kd.S_below (by refine SW_ ?_; exact (S3_ HO176.out BK178.out (.int .i64 t172) (.int .i64 t173) (.slice Ao142 t174.length co142))) hb); replace BK101 := Zz.mk (bB_ (g := gb101) (o := .cells #[.int .i64 a0_0, .int .i64 a0_1, .slice A0_2 l0_2.length c0_2] 24 (0, 0)) (by refine BW_ ?_; refine bR_ ?_ NB101_178.out _; refine BW_ ?_; refine bR_ ?_ NB101_178.out _; refine BW_ ?_; refine bR_ ?_ NB101_178.out _; refine BW_ ?_; exact BK101.out) hb); replace BK102 := Zz.mk (bB_ (g := gb102) (o := .cells #[.int .i64 a1_0, .int .i64 a1_1, .slice A1_2 l1_2.length c1_2] 24 (0, 0)) (by refine BW_ ?_; refine bR_ ?_ NB102_178.out _; refine BW_ ?_; refine bR_ ?_ NB102_178.out _; refine BW_ ?_; refine bR_ ?_ NB102_178.out _; refine BW_ ?_; exact BK102.out) hb); replace BK121 := Zz.mk (bB_ (g := gb121) (o := .cells #[.int .i64 t115, .int .i64 t116, .slice Ao72 t117.length co72] 29 (0, 0)) (by refine BW_ ?_; refine bR_ ?_ NB121_178.out _; refine BW_ ?_; refine bR_ ?_ NB121_178.out _; refine BW_ ?_; refine bR_ ?_ NB121_178.out _; refine BW_ ?_; exact BK121.out) hb); replace BK127 := Zz.mk (bB_ (g := gb127) (o := .cells #[.int .i64 t122, .int .i64 t123, .slice Ao83 t124.length co83] 29 (0, 0)) (by refine BW_ ?_; refine bR_ ?_ NB127_178.out _; refine BW_ ?_; refine bR_ ?_ NB127_178.out _; refine BW_ ?_; refine bR_ ?_ NB127_178.out _; refine BW_ ?_; exact BK127.out) hb); replace BK133 := Zz.mk (bB_ (g := gb133) (o := .cells #[.int .i64 t128, .int .i64 t129, .slice Ao94 t130.length co94] 29 (0, 0)) (by refine BW_ ?_; refine bR_ ?_ NB133_178.out _; refine BW_ ?_; refine bR_ ?_ NB133_178.out _; refine BW_ ?_; refine bR_ ?_ NB133_178.out _; refine BW_ ?_; exact BK133.out) hb); replace BK140 := Zz.mk (bB_ (g := gb140) (o := .cells #[.int .i64 t134, .int .i64 t135, .slice Ao105 t136.length co105] 29 (0, 0)) (by refine BW_ ?_; refine bR_ ?_ NB140_178.out _; refine BW_ ?_; refine bR_ ?_ NB140_178.out _; refine BW_ ?_; refine bR_ ?_ NB140_178.out _; refine BW_ ?_; exact BK140.out) hb); replace BK178 := Zz.mk (bB_ (g := gb178) (o := .cells #[.int .i64 t172, .int .i64 t173, .slice Ao142 t174.length co142] 29 (0, 0)) (by refine BW_ ?_; refine bP_ (cs := #[.int .i64 t172, .int .i64 t173, .slice none 0 0]) ?_ 2 _ rfl; refine BW_ ?_; refine bP_ (cs := #[.int .i64 t172, .int .i64 0, .slice none 0 0]) ?_ 1 _ rfl; refine BW_ ?_; refine bP_ (cs := #[.int .i64 0, .int .i64 0, .slice none 0 0]) ?_ 0 _ rfl; refine BW_ ?_; exact BK178.out) hb); replace HB := Zz.mk (bT_ (Bw7_ HB.out GE101.out GE102.out GE121.out GE127.out GE133.out GE140.out GE178.out) hb); (try clear hb); obtain ⟨hcz153_0, hcz153_1, hcz153_2, hfz153_0, hfz153_1, hfz153_2⟩ := Z3f_ BK140.out) | ((with_reducible refine gC_ (f := 23) rfl ?_); refine qDe (some 113) rfl rfl Try.func23 (by kernel_rfl) rfl #[.agg #[.int .i64 t134, .int .i64 t135, .slice Ao105 t160.length co105], .int .i64 1] rfl (by (try simp only [List.map_toArray, List.map_cons, List.map_nil]); first | done | (rw [show t160.length = t136.length from (Kd.S_reads' HO138.out).1.symm] <;> rfl) | rfl | (simp only [List.length_drop, List.length_take]; rfl)) ?_; (with_reducible refine (z23.calls k t134 t135 _ _ t160 1 t180 _ ?side1 ?side2 A49.out).mono ?_); (case side1 => exact KC_ (Kd.S_reads' HO138.out).2.2); (case side2 => rw [show t160.length = t136.length from (Kd.S_reads' HO138.out).1.symm]; exact (Kd.S_reads' HO138.out).2.1); rintro e w154 ⟨rfl, hb⟩; refine ⟨_, rfl, ?_⟩; replace HO109 := Zz.mk (Kd.S_below (KS_ HO109.out) hb); replace HO114 := Zz.mk (Kd.S_below (KS_ HO114.out) hb); replace HO119 := Zz.mk (Kd.S_below (KS_ HO119.out) hb); replace HO126 := Zz.mk (Kd.S_below (KS_ HO126.out) hb); replace HO132 := Zz.mk (Kd.S_below (KS_ HO132.out) hb); replace HO138 := Zz.mk (Kd.S_below (KS_ HO138.out) hb); replace HO146 := Zz.mk (Kd.S_below (KS_ HO146.out) hb); replace HO152 := Zz.mk (Kd.S_below (KS_ HO152.out) hb); replace HO166 := Zz.mk (Kd.S_below (KS_ HO166.out) hb); replace HO171 := Zz.mk (Kd.S_below (KS_ HO171.out) hb); replace HO176 := Zz.mk (Kd.S_below (KS_ HO176.out) hb); replace BK101 := Zz.mk (kb_ BK101.out hb); replace BK102 := Zz.mk (kb_ BK102.out hb); replace BK121 := Zz.mk (kb_ BK121.out hb); replace BK127 := Zz.mk (kb_ BK127.out hb); replace BK133 := Zz.mk (kb_ BK133.out hb); replace BK140 := Zz.mk (kb_ BK140.out hb); replace BK178 := Zz.mk (kb_ BK178.out hb); replace HB := Zz.mk (bT_ (Bw7_ HB.out GE101.out GE102.out GE121.out GE127.out GE133.out GE140.out GE178.out) hb); (try clear hb)))
          go_ret
          exact ⟨F_, by repeat (first | (with_reducible first | exact HB.out | apply qAg | apply qAd | apply qAc | refine qAb ?_ GE101.out | refine qAb ?_ GE102.out | refine qAb ?_ GE121.out | refine qAb ?_ GE127.out | refine qAb ?_ GE133.out | refine qAb ?_ GE140.out | refine qAb ?_ GE178.out) | exact HB.out)⟩
         rw [if_neg c51] at H
         have c51b0 : (t180 == t159) = false := beq_eq_false_iff_ne.mpr c51
         have c51b1 : (t180 != t159) = true := bne_iff_ne.mpr c51
         exact absurd (H.trans (congrArg some ht_)) (by simp)
        rw [if_neg c48] at H
        have c48b0 : (t177 == t120) = false := beq_eq_false_iff_ne.mpr c48
        have c48b1 : (t177 != t120) = true := bne_iff_ne.mpr c48
        exact absurd (H.trans (congrArg some ht_)) (by simp)
       replace c47 := Bool.eq_false_iff.mpr c47
       subst c47
       replace H := N_ H
       exact absurd (H.trans (congrArg some ht_)) (by simp)
      rw [if_neg c42] at H
      have c42b0 : (t161 == t159) = false := beq_eq_false_iff_ne.mpr c42
      have c42b1 : (t161 != t159) = true := bne_iff_ne.mpr c42
      exact absurd (H.trans (congrArg some ht_)) (by simp)
     replace c38 := Bool.eq_false_iff.mpr c38
     subst c38
     replace H := N_ H
     exact absurd (H.trans (congrArg some ht_)) (by simp)
    replace c33 := Bool.eq_false_iff.mpr c33
    subst c33
    replace H := N_ H
    exact absurd (H.trans (congrArg some ht_)) (by simp)
   replace c30 := Bool.eq_false_iff.mpr c30
   subst c30
   replace H := N_ H
   exact absurd (H.trans (congrArg some ht_)) (by simp)
  rw [if_neg c27] at H
  have c27b0 : (t139 == t120) = false := beq_eq_false_iff_ne.mpr c27
  have c27b1 : (t139 != t120) = true := bne_iff_ne.mpr c27
  exact absurd (H.trans (congrArg some ht_)) (by simp)
 replace c26 := Bool.eq_false_iff.mpr c26
 subst c26
 replace H := N_ H
 exact absurd (H.trans (congrArg some ht_)) (by simp)
end Go.Proofs.Ytabfflgoaalapaa.B
