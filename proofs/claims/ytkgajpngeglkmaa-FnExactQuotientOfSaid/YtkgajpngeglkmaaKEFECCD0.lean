/- Printed proofs of functions of the program and of the reference, by a program of this work over the kit's printer. -/
import Derived.Test.YtkgajpngeglkmaaKLBBOAD0
import Derived.Test.YtkgajpngeglkmaaKMCIMDJ0
import Derived.Test.YtkgajpngeglkmaaKMFGOHC0
import Derived.Test.YtkgajpngeglkmaaKOKGLGL0
import Derived.Test.YtkgajpngeglkmaaKW0
namespace Go.Proofs.Ytkgajpngeglkmaa.B
open Go.RowKit Go.Proofs.YtkgajpngeglkmaaW.PrintWords Go.Proofs.YtkgajpngeglkmaaW.PrintLast Go.Proofs.YtkgajpngeglkmaaW.PrintMore
attribute [local go_sem] qAh qAf qAn qAm qAc qAb qAg qAe
set_option linter.unusedVariables false
set_option linter.unusedSimpArgs false
def z3.f (k : Nat) (a0_0 : Int) (a0_1 : Int) (l0_2 : List (List Int)) (a1_0 : Int) (a1_1 : Int) (l1_2 : List (List Int)) : Option (Bool) := (z7.f k a0_0 a0_1 l0_2 1048576).bind fun t103 => (if t103 < 0 then (some true) else ((z7.f k a1_0 a1_1 l1_2 t103).bind fun t104 => (if t104 < 0 then (some true) else ((z9.f k a0_0 a0_1 l0_2).bind fun bt105 => ((z9.f k a1_0 a1_1 l1_2).bind fun bt110 => ((z8.f k bt105.1 bt105.2.1 bt105.2.2 bt110.1 bt110.2.1 bt110.2.2).bind fun bt115 => ((z9.f k a0_0 a0_1 l0_2).bind fun bt119 => ((z9.f k a1_0 a1_1 l1_2).bind fun bt125 => ((z10.f k bt119.1 bt119.2.1 bt119.2.2 bt125.1 bt125.2.1 bt125.2.2).bind fun bt131 => ((z11.f k bt131.1 bt115.1).bind fun t135 => (if t135 = true then (if bt131.2 = bt115.2 then ((z9.f k a0_0 a0_1 l0_2).bind fun bt136 => ((z12.f k bt119.1 bt119.2.1 bt119.2.2 bt136.1 bt136.2.1 bt136.2.2).bind fun t141 => (if t141 = true then ((z9.f k a1_0 a1_1 l1_2).bind fun bt142 => ((z12.f k bt125.1 bt125.2.1 bt125.2.2 bt142.1 bt142.2.1 bt142.2.2).bind fun t147 => (if t147 = true then ((laws_markSpace.f bt119.1 bt119.2.1 bt119.2.2 1).bind fun bt148 => ((laws_markSpace.f bt125.1 bt125.2.1 bt125.2.2 bt148.1).bind fun bt150 => (if bt150.1 < 0 then (some false) else ((z11.f k bt131.1 bt115.1).bind fun t152 => (if t152 = true then ((laws_markInt64SS.f bt131.1 1).bind fun bt153 => ((z15.f k bt153.2 1).bind fun t155 => (if t155 < 0 then (some false) else (if t155 = bt153.1 then ((z9.f k a0_0 a0_1 l0_2).bind fun bt156 => ((z9.f k a1_0 a1_1 l1_2).bind fun bt161 => ((z10.f k bt156.1 bt156.2.1 bt156.2.2 bt161.1 bt161.2.1 bt161.2.2).bind fun bt166 => ((z11.f k bt166.1 bt115.1).bind fun t170 => (if t170 = true then (if bt166.2 = bt115.2 then ((z15.f k bt153.2 1).bind fun t171 => (if t171 < 0 then (some false) else (if t171 = bt153.1 then (some true) else (some false)))) else (some false)) else (some false)))))) else (some false))))) else (some false)))))) else (some false)))) else (some false)))) else (some false)) else (some false))))))))))))
def z3.T8 : Bool × List (List Nat × List Nat) := (true, [([], []), ([0], [0]), ([], []), ([2, 1], [2]), ([1, 3, 3], [1, 3]), ([4], [4]), ([5], [5]), ([5], [5]), ([6, 4, 0, 1, 2, 3, 4, 5, 6], [6]), ([7, 8, 0, 1, 2, 3, 4, 5, 6, 7, 8], [7])])
def z3.B8 : List Nat := [0, 1, 0, 7, 15, 31, 63, 63, 127, 511]
theorem z3.tab8 : rtab .any (qCk Try.f3 8) = z3.T8 := by kernel_rfl
theorem z3.bits8 : qA9 z3.T8.2 z3.B8 = true := by kernel_rfl
def z3.T31 : Bool × List (List Nat × List Nat) := (true, [([], []), ([0], [0]), ([], []), ([2, 1], [2]), ([1, 3, 3], [1, 3]), ([4], [4]), ([5], [5]), ([5], [5]), ([6, 4, 0, 1, 2, 3, 4, 5, 6], [6]), ([7, 8, 0, 1, 2, 3, 4, 5, 6, 7, 8], [7])])
def z3.B31 : List Nat := [0, 1, 0, 7, 15, 31, 63, 63, 127, 511]
theorem z3.tab31 : rtab .any (qCk Try.f3 31) = z3.T31 := by kernel_rfl
theorem z3.bits31 : qA9 z3.T31.2 z3.B31 = true := by kernel_rfl
set_option maxHeartbeats 8000000 in
set_option maxRecDepth 100000 in
theorem z3.calls (k : Nat) (a0_0 : Int) (a0_1 : Int) (A0_2 : Option Addr) (c0_2 : Nat) (l0_2 : List (List Int)) (a1_0 : Int) (a1_1 : Int) (A1_2 : Option Addr) (c1_2 : Nat) (l1_2 : List (List Int)) (r : Bool) (w : World) (hr0_2 : Kd.C (Kd.slice 2 (Kd.int .i64)) w A0_2 l0_2.length l0_2) (hc0_2 : l0_2.length ≤ c0_2) (hr1_2 : Kd.C (Kd.slice 2 (Kd.int .i64)) w A1_2 l1_2.length l1_2) (hc1_2 : l1_2.length ≤ c1_2) (h : z3.f k a0_0 a0_1 l0_2 a1_0 a1_1 l1_2 = some r) (ht_ : r = true) :
  Calls Try.prog 3 #[.agg #[.int .i64 a0_0, .int .i64 a0_1, .slice A0_2 l0_2.length c0_2], .agg #[.int .i64 a1_0, .int .i64 a1_1, .slice A1_2 l1_2.length c1_2]] w fun e w' => e = .returned (.bool r) ∧ Below w.heap.size w w' := by
 have hu24 := Try.underlying24
 have hu28 := Try.underlying28
 have HR0_2 := Zz.mk hr0_2
 have HC0_2 := Zz.mk hc0_2
 clear hr0_2 hc0_2
 have HR1_2 := Zz.mk hr1_2
 have HC1_2 := Zz.mk hc1_2
 clear hr1_2 hc1_2
 have HB := Zz.mk (Below.refl w.heap.size w)
 have H : ((z7.f k a0_0 a0_1 l0_2 1048576).bind fun t103 => (if t103 < 0 then (some true) else ((z7.f k a1_0 a1_1 l1_2 t103).bind fun t104 => (if t104 < 0 then (some true) else ((z9.f k a0_0 a0_1 l0_2).bind fun bt105 => ((z9.f k a1_0 a1_1 l1_2).bind fun bt110 => ((z8.f k bt105.1 bt105.2.1 bt105.2.2 bt110.1 bt110.2.1 bt110.2.2).bind fun bt115 => ((z9.f k a0_0 a0_1 l0_2).bind fun bt119 => ((z9.f k a1_0 a1_1 l1_2).bind fun bt125 => ((z10.f k bt119.1 bt119.2.1 bt119.2.2 bt125.1 bt125.2.1 bt125.2.2).bind fun bt131 => ((z11.f k bt131.1 bt115.1).bind fun t135 => (if t135 = true then (if bt131.2 = bt115.2 then ((z9.f k a0_0 a0_1 l0_2).bind fun bt136 => ((z12.f k bt119.1 bt119.2.1 bt119.2.2 bt136.1 bt136.2.1 bt136.2.2).bind fun t141 => (if t141 = true then ((z9.f k a1_0 a1_1 l1_2).bind fun bt142 => ((z12.f k bt125.1 bt125.2.1 bt125.2.2 bt142.1 bt142.2.1 bt142.2.2).bind fun t147 => (if t147 = true then ((laws_markSpace.f bt119.1 bt119.2.1 bt119.2.2 1).bind fun bt148 => ((laws_markSpace.f bt125.1 bt125.2.1 bt125.2.2 bt148.1).bind fun bt150 => (if bt150.1 < 0 then (some false) else ((z11.f k bt131.1 bt115.1).bind fun t152 => (if t152 = true then ((laws_markInt64SS.f bt131.1 1).bind fun bt153 => ((z15.f k bt153.2 1).bind fun t155 => (if t155 < 0 then (some false) else (if t155 = bt153.1 then ((z9.f k a0_0 a0_1 l0_2).bind fun bt156 => ((z9.f k a1_0 a1_1 l1_2).bind fun bt161 => ((z10.f k bt156.1 bt156.2.1 bt156.2.2 bt161.1 bt161.2.1 bt161.2.2).bind fun bt166 => ((z11.f k bt166.1 bt115.1).bind fun t170 => (if t170 = true then (if bt166.2 = bt115.2 then ((z15.f k bt153.2 1).bind fun t171 => (if t171 < 0 then (some false) else (if t171 = bt153.1 then (some true) else (some false)))) else (some false)) else (some false)))))) else (some false))))) else (some false)))))) else (some false)))) else (some false)))) else (some false)) else (some false))))))))))))) = some r := h
 clear h
 replace H := OZ_ H
 obtain ⟨t103, A3, H⟩ := H
 by_cases c4 : t103 < 0
 ·rw [if_pos c4] at H
  have c4b0 : decide (t103 < 0) = true := decide_eq_true c4
  clear c4
  obtain rfl := OI_ H
  go_enter Try.func3, Try.ntmps3
  go_wp2_with (first | ((with_reducible refine qAi (N := 2) rfl ?_); refine bx_ 2 #[.int .i64 a0_0, .int .i64 a0_1, .slice A0_2 l0_2.length c0_2] 24 ?_; intro gb101 hg w5 hbox hb; have BK101 := Zz.mk (hbox); have GW101 := Zz.mk ((gw_ hg (B_ HB.out))); have GE101 := GW101; replace HB := Zz.mk (bT_ (B_ HB.out) hb); clear hb hbox hg) | ((with_reducible refine qAi (N := 3) rfl ?_); refine bx_ 3 #[.int .i64 a1_0, .int .i64 a1_1, .slice A1_2 l1_2.length c1_2] 24 ?_; intro gb102 hg w6 hbox hb; have BK102 := Zz.mk (hbox); have GW102 := Zz.mk ((gw_ hg (B1_ HB.out GE101.out))); have GE102 := GW102; have NB101_102 := Zz.mk ((nb_ BK101.out hg)); have NB102_101 := Zz.mk NB101_102.out.symm; replace BK101 := Zz.mk (kb_ BK101.out hb); replace HB := Zz.mk (bT_ (B1_ HB.out GE101.out) hb); clear hb hbox hg; have hnb7 := NB101_102.out; have hnc7 := NB102_101.out; obtain ⟨hcz8_0, hcz8_1, hcz8_2, hfz8_0, hfz8_1, hfz8_2⟩ := Z3f_ BK101.out) | ((with_reducible refine gC_ (f := 7) rfl ?_); refine GL_ (some 19) rfl rfl Try.func7 #[.agg #[.int .i64 a0_0, .int .i64 a0_1, .slice A0_2 l0_2.length c0_2], .int .i64 1048576] rfl (h := ?_); (with_reducible refine (z7.calls k a0_0 a0_1 _ _ l0_2 1048576 t103 _ ?side1 ?side2 A3.out).mono ?_); (case side1 => exact KC_ (Kd.C_below HR0_2.out HB.out)); (case side2 => exact HC0_2.out); rintro e w9 ⟨rfl, hb⟩; refine ⟨_, rfl, ?_⟩; replace BK101 := Zz.mk (kb_ BK101.out hb); replace BK102 := Zz.mk (kb_ BK102.out hb); replace HB := Zz.mk (bT_ (B2_ HB.out GE101.out GE102.out) hb); (try clear hb)))
  go_ret
  exact ⟨F_, B2_ HB.out GE101.out GE102.out⟩
 rw [if_neg c4] at H
 have c4b0 : decide (t103 < 0) = false := decide_eq_false c4
 clear c4
 replace H := OZ_ H
 obtain ⟨t104, A10, H⟩ := H
 by_cases c11 : t104 < 0
 ·rw [if_pos c11] at H
  have c11b0 : decide (t104 < 0) = true := decide_eq_true c11
  clear c11
  obtain rfl := OI_ H
  go_enter Try.func3, Try.ntmps3
  go_wp2_with (first | ((with_reducible refine qAi (N := 2) rfl ?_); refine bx_ 2 #[.int .i64 a0_0, .int .i64 a0_1, .slice A0_2 l0_2.length c0_2] 24 ?_; intro gb101 hg w12 hbox hb; have BK101 := Zz.mk (hbox); have GW101 := Zz.mk ((gw_ hg (B_ HB.out))); have GE101 := GW101; replace HB := Zz.mk (bT_ (B_ HB.out) hb); clear hb hbox hg) | ((with_reducible refine qAi (N := 3) rfl ?_); refine bx_ 3 #[.int .i64 a1_0, .int .i64 a1_1, .slice A1_2 l1_2.length c1_2] 24 ?_; intro gb102 hg w13 hbox hb; have BK102 := Zz.mk (hbox); have GW102 := Zz.mk ((gw_ hg (B1_ HB.out GE101.out))); have GE102 := GW102; have NB101_102 := Zz.mk ((nb_ BK101.out hg)); have NB102_101 := Zz.mk NB101_102.out.symm; replace BK101 := Zz.mk (kb_ BK101.out hb); replace HB := Zz.mk (bT_ (B1_ HB.out GE101.out) hb); clear hb hbox hg; have hnb14 := NB101_102.out; have hnc14 := NB102_101.out; obtain ⟨hcz15_0, hcz15_1, hcz15_2, hfz15_0, hfz15_1, hfz15_2⟩ := Z3f_ BK101.out) | ((with_reducible refine gC_ (f := 7) rfl ?_); refine GL_ (some 19) rfl rfl Try.func7 #[.agg #[.int .i64 a0_0, .int .i64 a0_1, .slice A0_2 l0_2.length c0_2], .int .i64 1048576] rfl (h := ?_); (with_reducible refine (z7.calls k a0_0 a0_1 _ _ l0_2 1048576 t103 _ ?side1 ?side2 A3.out).mono ?_); (case side1 => exact KC_ (Kd.C_below HR0_2.out HB.out)); (case side2 => exact HC0_2.out); rintro e w16 ⟨rfl, hb⟩; refine ⟨_, rfl, ?_⟩; replace BK101 := Zz.mk (kb_ BK101.out hb); replace BK102 := Zz.mk (kb_ BK102.out hb); replace HB := Zz.mk (bT_ (B2_ HB.out GE101.out GE102.out) hb); (try clear hb); obtain ⟨hcz17_0, hcz17_1, hcz17_2, hfz17_0, hfz17_1, hfz17_2⟩ := Z3f_ BK102.out) | ((with_reducible refine gC_ (f := 7) rfl ?_); refine GL_ (some 24) rfl rfl Try.func7 #[.agg #[.int .i64 a1_0, .int .i64 a1_1, .slice A1_2 l1_2.length c1_2], .int .i64 t103] rfl (h := ?_); (with_reducible refine (z7.calls k a1_0 a1_1 _ _ l1_2 t103 t104 _ ?side1 ?side2 A10.out).mono ?_); (case side1 => exact KC_ (Kd.C_below HR1_2.out HB.out)); (case side2 => exact HC1_2.out); rintro e w18 ⟨rfl, hb⟩; refine ⟨_, rfl, ?_⟩; replace BK101 := Zz.mk (kb_ BK101.out hb); replace BK102 := Zz.mk (kb_ BK102.out hb); replace HB := Zz.mk (bT_ (B2_ HB.out GE101.out GE102.out) hb); (try clear hb)))
  go_ret
  exact ⟨F_, B2_ HB.out GE101.out GE102.out⟩
 rw [if_neg c11] at H
 have c11b0 : decide (t104 < 0) = false := decide_eq_false c11
 clear c11
 replace H := OB_ H
 obtain ⟨⟨t105, t106, t107⟩, A190, H⟩ := H
 try dsimp only at H
 have A19 := Zz.mk A190
 clear A190
 replace H := OB_ H
 obtain ⟨⟨t110, t111, t112⟩, A200, H⟩ := H
 try dsimp only at H
 have A20 := Zz.mk A200
 clear A200
 replace H := OB_ H
 obtain ⟨⟨t115, t118⟩, A210, H⟩ := H
 try dsimp only at H
 have A21 := Zz.mk A210
 clear A210
 replace H := OB_ H
 obtain ⟨⟨t119, t120, t121⟩, A220, H⟩ := H
 try dsimp only at H
 have A22 := Zz.mk A220
 clear A220
 replace H := OB_ H
 obtain ⟨⟨t125, t126, t127⟩, A230, H⟩ := H
 try dsimp only at H
 have A23 := Zz.mk A230
 clear A230
 replace H := OB_ H
 obtain ⟨⟨t131, t134⟩, A240, H⟩ := H
 try dsimp only at H
 have A24 := Zz.mk A240
 clear A240
 replace H := OZ_ H
 obtain ⟨t135, A25, H⟩ := H
 by_cases c26 : t135 = true
 ·subst c26
  replace H := T_ H
  by_cases c27 : t134 = t118
  ·rw [if_pos c27] at H
   have c27b0 : (t134 == t118) = true := beq_iff_eq.mpr c27
   have c27b1 : (t134 != t118) = false := bne_eq_false_iff_eq.mpr c27
   clear c27
   replace H := OB_ H
   obtain ⟨⟨t136, t137, t138⟩, A280, H⟩ := H
   try dsimp only at H
   have A28 := Zz.mk A280
   clear A280
   replace H := OZ_ H
   obtain ⟨t141, A29, H⟩ := H
   by_cases c30 : t141 = true
   ·subst c30
    replace H := T_ H
    replace H := OB_ H
    obtain ⟨⟨t142, t143, t144⟩, A310, H⟩ := H
    try dsimp only at H
    have A31 := Zz.mk A310
    clear A310
    replace H := OZ_ H
    obtain ⟨t147, A32, H⟩ := H
    by_cases c33 : t147 = true
    ·subst c33
     replace H := T_ H
     replace H := OB_ H
     obtain ⟨⟨t148, t149⟩, A340, H⟩ := H
     try dsimp only at H
     have A34 := Zz.mk A340
     clear A340
     replace H := OB_ H
     obtain ⟨⟨t150, t151⟩, A350, H⟩ := H
     try dsimp only at H
     have A35 := Zz.mk A350
     clear A350
     by_cases c36 : t150 < 0
     ·rw [if_pos c36] at H
      have c36b0 : decide (t150 < 0) = true := decide_eq_true c36
      clear c36
      exact absurd (H.trans (congrArg some ht_)) (by simp)
     rw [if_neg c36] at H
     have c36b0 : decide (t150 < 0) = false := decide_eq_false c36
     clear c36
     replace H := OZ_ H
     obtain ⟨t152, A37, H⟩ := H
     by_cases c38 : t152 = true
     ·subst c38
      replace H := T_ H
      replace H := OB_ H
      obtain ⟨⟨t153, t154⟩, A390, H⟩ := H
      try dsimp only at H
      have A39 := Zz.mk A390
      clear A390
      replace H := OZ_ H
      obtain ⟨t155, A40, H⟩ := H
      by_cases c41 : t155 < 0
      ·rw [if_pos c41] at H
       have c41b0 : decide (t155 < 0) = true := decide_eq_true c41
       clear c41
       exact absurd (H.trans (congrArg some ht_)) (by simp)
      rw [if_neg c41] at H
      have c41b0 : decide (t155 < 0) = false := decide_eq_false c41
      clear c41
      by_cases c42 : t155 = t153
      ·rw [if_pos c42] at H
       have c42b0 : (t155 == t153) = true := beq_iff_eq.mpr c42
       have c42b1 : (t155 != t153) = false := bne_eq_false_iff_eq.mpr c42
       clear c42
       replace H := OB_ H
       obtain ⟨⟨t156, t157, t158⟩, A430, H⟩ := H
       try dsimp only at H
       have A43 := Zz.mk A430
       clear A430
       replace H := OB_ H
       obtain ⟨⟨t161, t162, t163⟩, A440, H⟩ := H
       try dsimp only at H
       have A44 := Zz.mk A440
       clear A440
       replace H := OB_ H
       obtain ⟨⟨t166, t169⟩, A450, H⟩ := H
       try dsimp only at H
       have A45 := Zz.mk A450
       clear A450
       replace H := OZ_ H
       obtain ⟨t170, A46, H⟩ := H
       by_cases c47 : t170 = true
       ·subst c47
        replace H := T_ H
        by_cases c48 : t169 = t118
        ·rw [if_pos c48] at H
         have c48b0 : (t169 == t118) = true := beq_iff_eq.mpr c48
         have c48b1 : (t169 != t118) = false := bne_eq_false_iff_eq.mpr c48
         clear c48
         replace H := OZ_ H
         obtain ⟨t171, A49, H⟩ := H
         by_cases c50 : t171 < 0
         ·rw [if_pos c50] at H
          have c50b0 : decide (t171 < 0) = true := decide_eq_true c50
          clear c50
          exact absurd (H.trans (congrArg some ht_)) (by simp)
         rw [if_neg c50] at H
         have c50b0 : decide (t171 < 0) = false := decide_eq_false c50
         clear c50
         by_cases c51 : t171 = t153
         ·rw [if_pos c51] at H
          have c51b0 : (t171 == t153) = true := beq_iff_eq.mpr c51
          have c51b1 : (t171 != t153) = false := bne_eq_false_iff_eq.mpr c51
          clear c51
          obtain rfl := OI_ H
          go_enter Try.func3, Try.ntmps3
          try go_wp2_with (first | ((with_reducible refine qAi (N := 2) rfl ?_); refine bx_ 2 #[.int .i64 a0_0, .int .i64 a0_1, .slice A0_2 l0_2.length c0_2] 24 ?_; intro gb101 hg w52 hbox hb; have BK101 := Zz.mk (hbox); have GW101 := Zz.mk ((gw_ hg (B_ HB.out))); have GE101 := GW101; replace HB := Zz.mk (bT_ (B_ HB.out) hb); clear hb hbox hg) | ((with_reducible refine qAi (N := 3) rfl ?_); refine bx_ 3 #[.int .i64 a1_0, .int .i64 a1_1, .slice A1_2 l1_2.length c1_2] 24 ?_; intro gb102 hg w53 hbox hb; have BK102 := Zz.mk (hbox); have GW102 := Zz.mk ((gw_ hg (B1_ HB.out GE101.out))); have GE102 := GW102; have NB101_102 := Zz.mk ((nb_ BK101.out hg)); have NB102_101 := Zz.mk NB101_102.out.symm; replace BK101 := Zz.mk (kb_ BK101.out hb); replace HB := Zz.mk (bT_ (B1_ HB.out GE101.out) hb); clear hb hbox hg; have hnb54 := NB101_102.out; have hnc54 := NB102_101.out; obtain ⟨hcz55_0, hcz55_1, hcz55_2, hfz55_0, hfz55_1, hfz55_2⟩ := Z3f_ BK101.out) | ((with_reducible refine gC_ (f := 7) rfl ?_); refine GL_ (some 19) rfl rfl Try.func7 #[.agg #[.int .i64 a0_0, .int .i64 a0_1, .slice A0_2 l0_2.length c0_2], .int .i64 1048576] rfl (h := ?_); (with_reducible refine (z7.calls k a0_0 a0_1 _ _ l0_2 1048576 t103 _ ?side1 ?side2 A3.out).mono ?_); (case side1 => exact KC_ (Kd.C_below HR0_2.out HB.out)); (case side2 => exact HC0_2.out); rintro e w56 ⟨rfl, hb⟩; refine ⟨_, rfl, ?_⟩; replace BK101 := Zz.mk (kb_ BK101.out hb); replace BK102 := Zz.mk (kb_ BK102.out hb); replace HB := Zz.mk (bT_ (B2_ HB.out GE101.out GE102.out) hb); (try clear hb); obtain ⟨hcz57_0, hcz57_1, hcz57_2, hfz57_0, hfz57_1, hfz57_2⟩ := Z3f_ BK102.out) | ((with_reducible refine gC_ (f := 7) rfl ?_); refine GL_ (some 24) rfl rfl Try.func7 #[.agg #[.int .i64 a1_0, .int .i64 a1_1, .slice A1_2 l1_2.length c1_2], .int .i64 t103] rfl (h := ?_); (with_reducible refine (z7.calls k a1_0 a1_1 _ _ l1_2 t103 t104 _ ?side1 ?side2 A10.out).mono ?_); (case side1 => exact KC_ (Kd.C_below HR1_2.out HB.out)); (case side2 => exact HC1_2.out); rintro e w58 ⟨rfl, hb⟩; refine ⟨_, rfl, ?_⟩; replace BK101 := Zz.mk (kb_ BK101.out hb); replace BK102 := Zz.mk (kb_ BK102.out hb); replace HB := Zz.mk (bT_ (B2_ HB.out GE101.out GE102.out) hb); (try clear hb)))
          replace BK101 := Zz.mk (bD_ BK101.out)
          replace BK102 := Zz.mk (bD_ BK102.out)
          replace HB := Zz.mk (qAj HB.out)
          refine qBf (n := 10) (S := fun w' => w'.cell? ⟨gb101, 0, none⟩ = some (.int .i64 a0_0) ∧ w'.cell? ⟨gb101, 1, none⟩ = some (.int .i64 a0_1) ∧ w'.cell? ⟨gb101, 2, none⟩ = some (.slice A0_2 l0_2.length c0_2) ∧ w'.cell? ⟨gb102, 0, none⟩ = some (.int .i64 a1_0) ∧ w'.cell? ⟨gb102, 1, none⟩ = some (.int .i64 a1_1) ∧ w'.cell? ⟨gb102, 2, none⟩ = some (.slice A1_2 l1_2.length c1_2)) (ds := []) (tb_ 10 0) (by kernel_rfl) rfl rfl (Z3a_ BK101.out (Z3_ BK102.out)) (fun hHeld => ?_); refine qAv z3.tab8 z3.bits8 (fun HT_ HW_ => ?_)
          generalize w58.drew = w59 at BK101 BK102 HB hHeld ⊢
          refine TV_ (i := 0) (N := some 28) (tb_ 10 1) HT_ HW_ rfl rfl hHeld (by rintro w' ⟨s0, s1, s2, s3, s4, s5⟩; go_simp; with_reducible rfl) (h := ?_)
          refine TV_ (i := 2) (N := some 30) (tb_ 10 5) HT_ HW_ rfl rfl hHeld (by rintro w' ⟨s0, s1, s2, s3, s4, s5⟩; go_simp; with_reducible rfl) (h := ?_)
          refine one_ (i := 1) (N := some 29) (tb_ 10 7) rfl rfl (qAs HT_.out (by kernel_rfl)) (by decide) (fun K hK => ?_)
          refine GO_ Try.func9 #[.agg #[.int .i64 a0_0, .int .i64 a0_1, .slice A0_2 l0_2.length c0_2]] (h := ?_)
          with_reducible refine (z9.calls k a0_0 a0_1 _ _ l0_2 t105 t106 t107 _ ?side1 ?side2 A19.out).mono ?_
          (case side1 => exact KC_ (Kd.C_below HR0_2.out HB.out))
          (case side2 => exact HC0_2.out)
          rintro e w60 ⟨v108, rfl, ho0, hb⟩
          refine ⟨_, rfl, ?_⟩
          obtain ⟨nan61, hnan61⟩ := Kd.size_letter hb
          have HO109 := Zz.mk (Kd.S_lower (Kd.S_geN ho0 hnan61) (bS_ (B2_ HB.out GE101.out GE102.out)))
          replace BK101 := Zz.mk (kb_ BK101.out hb)
          replace BK102 := Zz.mk (kb_ BK102.out hb)
          replace HB := Zz.mk (bT_ (B2_ HB.out GE101.out GE102.out) hb)
          (try clear hb);(try clear ho0)
          refine hK.out _ _ (Z3a_ BK101.out (Z3_ BK102.out)) (fun hHeld => ?_)
          clear hK K
          refine NM_ (N := (some 29)) (h := ?_)
          refine one_ (i := 3) (N := some 31) (tb_ 10 15) rfl rfl (qAs HT_.out (by kernel_rfl)) (by decide) (fun K hK => ?_)
          refine GO_ Try.func9 #[.agg #[.int .i64 a1_0, .int .i64 a1_1, .slice A1_2 l1_2.length c1_2]] (h := ?_)
          with_reducible refine (z9.calls k a1_0 a1_1 _ _ l1_2 t110 t111 t112 _ ?side1 ?side2 A20.out).mono ?_
          (case side1 => exact KC_ (Kd.C_below HR1_2.out HB.out))
          (case side2 => exact HC1_2.out)
          rintro e w62 ⟨v113, rfl, ho0, hb⟩
          refine ⟨_, rfl, ?_⟩
          obtain ⟨nan63, hnan63⟩ := Kd.size_letter hb
          have HO114 := Zz.mk (Kd.S_lower (Kd.S_geN (Kd.S_new' ho0 (Kd.S_lt (KS_ HO109.out))) hnan63) (bS_ (B2_ HB.out GE101.out GE102.out)))
          replace HO109 := Zz.mk (tl_ HO109.out hb hnan63 ho0)
          replace BK101 := Zz.mk (kb_ BK101.out hb)
          replace BK102 := Zz.mk (kb_ BK102.out hb)
          replace HB := Zz.mk (bT_ (B2_ HB.out GE101.out GE102.out) hb)
          (try clear hb);(try clear ho0)
          obtain ⟨Ao64, co64, eo64⟩ := Kd.S_slice HO109.out
          (first | subst eo64 | obtain ⟨rfl, rfl⟩ := sl_ eo64)
          obtain ⟨Ao65, co65, eo65⟩ := Kd.S_slice HO114.out
          (first | subst eo65 | obtain ⟨rfl, rfl⟩ := sl_ eo65)
          refine hK.out _ _ (Z3a_ BK101.out (Z3_ BK102.out)) (fun hHeld => ?_)
          clear hK K
          refine NM_ (N := (some 31)) (h := ?_)
          refine one_ (i := 4) (N := some 32) (tb_ 10 31) rfl rfl (qAs HT_.out (by kernel_rfl)) (by decide) (fun K hK => ?_)
          refine GO_ Try.func8 #[.agg #[.int .i64 t105, .int .i64 t106, .slice Ao64 t107.length co64], .agg #[.int .i64 t110, .int .i64 t111, .slice Ao65 t112.length co65]] (h := ?_)
          with_reducible refine (z8.calls k t105 t106 _ _ t107 t110 t111 _ _ t112 t115 t118 _ ?side1 ?side2 ?side3 ?side4 A21.out).mono ?_
          (case side1 => exact KC_ (Kd.S_reads' HO109.out).2.2)
          (case side2 => exact (Kd.S_reads' HO109.out).2.1)
          (case side3 => exact KC_ (Kd.S_reads' HO114.out).2.2)
          (case side4 => exact (Kd.S_reads' HO114.out).2.1)
          rintro e w66 ⟨v116, rfl, ho0, hb⟩
          refine ⟨_, rfl, ?_⟩
          obtain ⟨nan67, hnan67⟩ := Kd.size_letter hb
          have HO117 := Zz.mk (Kd.S_lower (Kd.S_geN (Kd.S_new' (Kd.S_new' ho0 (Kd.S_lt (KS_ HO109.out))) (Kd.S_lt (KS_ HO114.out))) hnan67) (bS_ (B2_ HB.out GE101.out GE102.out)))
          replace HO109 := Zz.mk (tl_ HO109.out hb hnan67 ho0)
          replace HO114 := Zz.mk (tl_ HO114.out hb hnan67 ho0)
          replace BK101 := Zz.mk (kb_ BK101.out hb)
          replace BK102 := Zz.mk (kb_ BK102.out hb)
          replace HB := Zz.mk (bT_ (B2_ HB.out GE101.out GE102.out) hb)
          (try clear hb);(try clear ho0)
          refine hK.out _ _ (Z3a_ BK101.out (Z3_ BK102.out)) (fun hHeld => ?_)
          clear hK K
          refine NM_ (N := (some 32)) (h := ?_)
          refine PX_ 5 27 (tb_ 10 63) HT_ rfl rfl ?_
          refine PX_ 6 33 (tb_ 10 127) HT_ rfl rfl ?_
          refine PX_ 7 34 (tb_ 10 255) HT_ rfl rfl ?_
          refine PX_ 8 6 (tb_ 10 511) HT_ rfl rfl ?_
          refine PX_ 9 7 (tb_ 10 1023) HT_ rfl rfl ?_
          refine qB0 (qA4 HT_.out (by kernel_rfl)) ?_
          obtain ⟨hcz68_0, hcz68_1, hcz68_2, hfz68_0, hfz68_1, hfz68_2⟩ := Z3f_ BK101.out
          try go_wp2_with (first | ((with_reducible refine gC_ (f := 9) rfl ?_); refine GL_ (some 36) rfl rfl Try.func9 #[.agg #[.int .i64 a0_0, .int .i64 a0_1, .slice A0_2 l0_2.length c0_2]] rfl (h := ?_); (with_reducible refine (z9.calls k a0_0 a0_1 _ _ l0_2 t119 t120 t121 _ ?side1 ?side2 A22.out).mono ?_); (case side1 => exact KC_ (Kd.C_below HR0_2.out HB.out)); (case side2 => exact HC0_2.out); rintro e w69 ⟨v122, rfl, ho0, hb⟩; refine ⟨_, rfl, ?_⟩; obtain ⟨nan70, hnan70⟩ := Kd.size_letter hb; have HO123 := Zz.mk (Kd.S_lower (Kd.S_geN (Kd.S_new' (Kd.S_new' (Kd.S_new' ho0 (Kd.S_lt (KS_ HO109.out))) (Kd.S_lt (KS_ HO114.out))) (Kd.S_lt (KS_ HO117.out))) hnan70) (bS_ (B2_ HB.out GE101.out GE102.out))); replace HO109 := Zz.mk (tl_ HO109.out hb hnan70 ho0); replace HO114 := Zz.mk (tl_ HO114.out hb hnan70 ho0); replace HO117 := Zz.mk (tl_ HO117.out hb hnan70 ho0); replace BK101 := Zz.mk (kb_ BK101.out hb); replace BK102 := Zz.mk (kb_ BK102.out hb); replace HB := Zz.mk (bT_ (B2_ HB.out GE101.out GE102.out) hb); (try clear hb); (try clear ho0)) | ((with_reducible refine qAi (N := 8) rfl ?_); refine bx_ 8 #[.int .i64 0, .int .i64 0, .slice none 0 0] 28 ?_; intro gb124 hg w71 hbox hb; have BK124 := Zz.mk (hbox); have GW124 := Zz.mk ((gw_ hg (B2_ HB.out GE101.out GE102.out))); have GE124 := GW124; have NB101_124 := Zz.mk ((nb_ BK101.out hg)); have NB124_101 := Zz.mk NB101_124.out.symm; have NB102_124 := Zz.mk ((nb_ BK102.out hg)); have NB124_102 := Zz.mk NB102_124.out.symm; replace HO109 := Zz.mk (Kd.S_below (KS_ HO109.out) hb); replace HO114 := Zz.mk (Kd.S_below (KS_ HO114.out) hb); replace HO117 := Zz.mk (Kd.S_below (KS_ HO117.out) hb); replace HO123 := Zz.mk (Kd.S_below (KS_ HO123.out) hb); replace BK101 := Zz.mk (kb_ BK101.out hb); replace BK102 := Zz.mk (kb_ BK102.out hb); replace HB := Zz.mk (bT_ (B2_ HB.out GE101.out GE102.out) hb); clear hb hbox hg; have hnb72 := NB124_101.out; have hnc72 := NB101_124.out; have hnb73 := NB124_102.out; have hnc73 := NB102_124.out; obtain ⟨hcz74_0, hcz74_1, hcz74_2, hfz74_0, hfz74_1, hfz74_2⟩ := Z3f_ BK124.out; obtain ⟨Ao75, co75, eo75⟩ := Kd.S_slice HO123.out; subst eo75; obtain ⟨hcz76_0, hcz76_1, hcz76_2, hfz76_0, hfz76_1, hfz76_2⟩ := Z3f_ BK102.out) | ((with_reducible refine gC_ (f := 9) rfl ?_); refine GL_ (some 38) rfl rfl Try.func9 #[.agg #[.int .i64 a1_0, .int .i64 a1_1, .slice A1_2 l1_2.length c1_2]] rfl (h := ?_); (with_reducible refine (z9.calls k a1_0 a1_1 _ _ l1_2 t125 t126 t127 _ ?side1 ?side2 A23.out).mono ?_); (case side1 => exact Kd.C_below HR1_2.out (B3_ HB.out GE101.out GE102.out GE124.out)); (case side2 => exact HC1_2.out); rintro e w77 ⟨v128, rfl, ho0, hb⟩; refine ⟨_, rfl, ?_⟩; obtain ⟨nan78, hnan78⟩ := Kd.size_letter hb; have HO129 := Zz.mk (Kd.S_lower (Kd.S_geN (Kd.S_new' (Kd.S_new' (Kd.S_new' (Kd.S_new' ho0 (Kd.S_lt (by refine SW_ ?_; exact (S3_ HO109.out BK124.out (.int .i64 t119) (.int .i64 t120) (.slice Ao75 t121.length co75))))) (Kd.S_lt (by refine SW_ ?_; exact (S3_ HO114.out BK124.out (.int .i64 t119) (.int .i64 t120) (.slice Ao75 t121.length co75))))) (Kd.S_lt (by refine SW_ ?_; exact (S3_ HO117.out BK124.out (.int .i64 t119) (.int .i64 t120) (.slice Ao75 t121.length co75))))) (Kd.S_lt (by refine SW_ ?_; exact (S3_ HO123.out BK124.out (.int .i64 t119) (.int .i64 t120) (.slice Ao75 t121.length co75))))) hnan78) (bS_ (B3_ HB.out GE101.out GE102.out GE124.out))); replace HO109 := Zz.mk (Kd.S_told (Kd.S_oldN (by refine SW_ ?_; exact (S3_ HO109.out BK124.out (.int .i64 t119) (.int .i64 t120) (.slice Ao75 t121.length co75))) hb hnan78) (Kd.S_baseN ho0 hnan78)); replace HO114 := Zz.mk (Kd.S_told (Kd.S_oldN (by refine SW_ ?_; exact (S3_ HO114.out BK124.out (.int .i64 t119) (.int .i64 t120) (.slice Ao75 t121.length co75))) hb hnan78) (Kd.S_baseN ho0 hnan78)); replace HO117 := Zz.mk (Kd.S_told (Kd.S_oldN (by refine SW_ ?_; exact (S3_ HO117.out BK124.out (.int .i64 t119) (.int .i64 t120) (.slice Ao75 t121.length co75))) hb hnan78) (Kd.S_baseN ho0 hnan78)); replace HO123 := Zz.mk (Kd.S_told (Kd.S_oldN (by refine SW_ ?_; exact (S3_ HO123.out BK124.out (.int .i64 t119) (.int .i64 t120) (.slice Ao75 t121.length co75))) hb hnan78) (Kd.S_baseN ho0 hnan78)); replace BK101 := Zz.mk (bB_ (g := gb101) (o := .cells #[.int .i64 a0_0, .int .i64 a0_1, .slice A0_2 l0_2.length c0_2] 24 (0, 0)) (by refine BW_ ?_; refine bR_ ?_ NB101_124.out _; refine BW_ ?_; refine bR_ ?_ NB101_124.out _; refine BW_ ?_; refine bR_ ?_ NB101_124.out _; refine BW_ ?_; exact BK101.out) hb); replace BK102 := Zz.mk (bB_ (g := gb102) (o := .cells #[.int .i64 a1_0, .int .i64 a1_1, .slice A1_2 l1_2.length c1_2] 24 (0, 0)) (by refine BW_ ?_; refine bR_ ?_ NB102_124.out _; refine BW_ ?_; refine bR_ ?_ NB102_124.out _; refine BW_ ?_; refine bR_ ?_ NB102_124.out _; refine BW_ ?_; exact BK102.out) hb); replace BK124 := Zz.mk (bB_ (g := gb124) (o := .cells #[.int .i64 t119, .int .i64 t120, .slice Ao75 t121.length co75] 28 (0, 0)) (by refine BW_ ?_; refine bP_ (cs := #[.int .i64 t119, .int .i64 t120, .slice none 0 0]) ?_ 2 _ rfl; refine BW_ ?_; refine bP_ (cs := #[.int .i64 t119, .int .i64 0, .slice none 0 0]) ?_ 1 _ rfl; refine BW_ ?_; refine bP_ (cs := #[.int .i64 0, .int .i64 0, .slice none 0 0]) ?_ 0 _ rfl; refine BW_ ?_; exact BK124.out) hb); replace HB := Zz.mk (bT_ (B3_ HB.out GE101.out GE102.out GE124.out) hb); (try clear hb); (try clear ho0)) | ((with_reducible refine qAi (N := 9) rfl ?_); refine bx_ 9 #[.int .i64 0, .int .i64 0, .slice none 0 0] 28 ?_; intro gb130 hg w79 hbox hb; have BK130 := Zz.mk (hbox); have GW130 := Zz.mk ((gw_ hg (B3_ HB.out GE101.out GE102.out GE124.out))); have GE130 := GW130; have NB101_130 := Zz.mk ((nb_ BK101.out hg)); have NB130_101 := Zz.mk NB101_130.out.symm; have NB102_130 := Zz.mk ((nb_ BK102.out hg)); have NB130_102 := Zz.mk NB102_130.out.symm; have NB124_130 := Zz.mk ((nb_ BK124.out hg)); have NB130_124 := Zz.mk NB124_130.out.symm; replace HO109 := Zz.mk (Kd.S_below (KS_ HO109.out) hb); replace HO114 := Zz.mk (Kd.S_below (KS_ HO114.out) hb); replace HO117 := Zz.mk (Kd.S_below (KS_ HO117.out) hb); replace HO123 := Zz.mk (Kd.S_below (KS_ HO123.out) hb); replace HO129 := Zz.mk (Kd.S_below (KS_ HO129.out) hb); replace BK101 := Zz.mk (kb_ BK101.out hb); replace BK102 := Zz.mk (kb_ BK102.out hb); replace BK124 := Zz.mk (kb_ BK124.out hb); replace HB := Zz.mk (bT_ (B3_ HB.out GE101.out GE102.out GE124.out) hb); clear hb hbox hg; have hnb80 := NB130_101.out; have hnc80 := NB101_130.out; have hnb81 := NB130_102.out; have hnc81 := NB102_130.out; have hnb82 := NB130_124.out; have hnc82 := NB124_130.out; obtain ⟨hcz83_0, hcz83_1, hcz83_2, hfz83_0, hfz83_1, hfz83_2⟩ := Z3f_ BK130.out; obtain ⟨Ao84, co84, eo84⟩ := Kd.S_slice HO129.out; subst eo84; obtain ⟨hcz85_0, hcz85_1, hcz85_2, hfz85_0, hfz85_1, hfz85_2⟩ := Z3f_ BK124.out) | ((with_reducible refine gC_ (f := 10) rfl ?_); refine GL_ (some 42) rfl rfl Try.func10 #[.agg #[.int .i64 t119, .int .i64 t120, .slice Ao75 t121.length co75], .agg #[.int .i64 t125, .int .i64 t126, .slice Ao84 t127.length co84]] rfl (h := ?_); (with_reducible refine (z10.calls k t119 t120 _ _ t121 t125 t126 _ _ t127 t131 t134 _ ?side1 ?side2 ?side3 ?side4 A24.out).mono ?_); (case side1 => refine (Kd.S_reads' (e := 40) (base := w.heap.size) (ok := fun k_ => ((((((True ∧ some k_ ≠ (.slice Ao64 t107.length co64 : Value).ownBlock) ∧ some k_ ≠ (.slice Ao65 t112.length co65 : Value).ownBlock) ∧ some k_ ≠ (v116 : Value).ownBlock) ∧ nan70 ≤ k_) ∧ some k_ ≠ (.slice Ao84 t127.length co84 : Value).ownBlock) ∧ k_ < nan78)) (n := t121.length) (c := co75) ?_).2.2; exact (by refine SW_ ?_; exact (S3_ HO123.out BK130.out (.int .i64 t125) (.int .i64 t126) (.slice Ao84 t127.length co84)))); (case side2 => exact (Kd.S_reads' HO123.out).2.1); (case side3 => refine (Kd.S_reads' (e := 40) (base := w.heap.size) (ok := fun k_ => (((((True ∧ some k_ ≠ (.slice Ao64 t107.length co64 : Value).ownBlock) ∧ some k_ ≠ (.slice Ao65 t112.length co65 : Value).ownBlock) ∧ some k_ ≠ (v116 : Value).ownBlock) ∧ some k_ ≠ (.slice Ao75 t121.length co75 : Value).ownBlock) ∧ nan78 ≤ k_)) (n := t127.length) (c := co84) ?_).2.2; exact (by refine SW_ ?_; exact (S3_ HO129.out BK130.out (.int .i64 t125) (.int .i64 t126) (.slice Ao84 t127.length co84)))); (case side4 => exact (Kd.S_reads' HO129.out).2.1); rintro e w86 ⟨v132, rfl, ho0, hb⟩; refine ⟨_, rfl, ?_⟩; obtain ⟨nan87, hnan87⟩ := Kd.size_letter hb; have HO133 := Zz.mk (Kd.S_lower (Kd.S_geN (Kd.S_new' (Kd.S_new' (Kd.S_new' (Kd.S_new' (Kd.S_new' ho0 (Kd.S_lt (by refine SW_ ?_; exact (S3_ HO109.out BK130.out (.int .i64 t125) (.int .i64 t126) (.slice Ao84 t127.length co84))))) (Kd.S_lt (by refine SW_ ?_; exact (S3_ HO114.out BK130.out (.int .i64 t125) (.int .i64 t126) (.slice Ao84 t127.length co84))))) (Kd.S_lt (by refine SW_ ?_; exact (S3_ HO117.out BK130.out (.int .i64 t125) (.int .i64 t126) (.slice Ao84 t127.length co84))))) (Kd.S_lt (by refine SW_ ?_; exact (S3_ HO123.out BK130.out (.int .i64 t125) (.int .i64 t126) (.slice Ao84 t127.length co84))))) (Kd.S_lt (by refine SW_ ?_; exact (S3_ HO129.out BK130.out (.int .i64 t125) (.int .i64 t126) (.slice Ao84 t127.length co84))))) hnan87) (bS_ (Bw4_ HB.out GE101.out GE102.out GE124.out GE130.out))); replace HO109 := Zz.mk (Kd.S_told (Kd.S_oldN (by refine SW_ ?_; exact (S3_ HO109.out BK130.out (.int .i64 t125) (.int .i64 t126) (.slice Ao84 t127.length co84))) hb hnan87) (Kd.S_baseN ho0 hnan87)); replace HO114 := Zz.mk (Kd.S_told (Kd.S_oldN (by refine SW_ ?_; exact (S3_ HO114.out BK130.out (.int .i64 t125) (.int .i64 t126) (.slice Ao84 t127.length co84))) hb hnan87) (Kd.S_baseN ho0 hnan87)); replace HO117 := Zz.mk (Kd.S_told (Kd.S_oldN (by refine SW_ ?_; exact (S3_ HO117.out BK130.out (.int .i64 t125) (.int .i64 t126) (.slice Ao84 t127.length co84))) hb hnan87) (Kd.S_baseN ho0 hnan87)); replace HO123 := Zz.mk (Kd.S_told (Kd.S_oldN (by refine SW_ ?_; exact (S3_ HO123.out BK130.out (.int .i64 t125) (.int .i64 t126) (.slice Ao84 t127.length co84))) hb hnan87) (Kd.S_baseN ho0 hnan87)); replace HO129 := Zz.mk (Kd.S_told (Kd.S_oldN (by refine SW_ ?_; exact (S3_ HO129.out BK130.out (.int .i64 t125) (.int .i64 t126) (.slice Ao84 t127.length co84))) hb hnan87) (Kd.S_baseN ho0 hnan87)); replace BK101 := Zz.mk (bB_ (g := gb101) (o := .cells #[.int .i64 a0_0, .int .i64 a0_1, .slice A0_2 l0_2.length c0_2] 24 (0, 0)) (by refine BW_ ?_; refine bR_ ?_ NB101_130.out _; refine BW_ ?_; refine bR_ ?_ NB101_130.out _; refine BW_ ?_; refine bR_ ?_ NB101_130.out _; refine BW_ ?_; exact BK101.out) hb); replace BK102 := Zz.mk (bB_ (g := gb102) (o := .cells #[.int .i64 a1_0, .int .i64 a1_1, .slice A1_2 l1_2.length c1_2] 24 (0, 0)) (by refine BW_ ?_; refine bR_ ?_ NB102_130.out _; refine BW_ ?_; refine bR_ ?_ NB102_130.out _; refine BW_ ?_; refine bR_ ?_ NB102_130.out _; refine BW_ ?_; exact BK102.out) hb); replace BK124 := Zz.mk (bB_ (g := gb124) (o := .cells #[.int .i64 t119, .int .i64 t120, .slice Ao75 t121.length co75] 28 (0, 0)) (by refine BW_ ?_; refine bR_ ?_ NB124_130.out _; refine BW_ ?_; refine bR_ ?_ NB124_130.out _; refine BW_ ?_; refine bR_ ?_ NB124_130.out _; refine BW_ ?_; exact BK124.out) hb); replace BK130 := Zz.mk (bB_ (g := gb130) (o := .cells #[.int .i64 t125, .int .i64 t126, .slice Ao84 t127.length co84] 28 (0, 0)) (by refine BW_ ?_; refine bP_ (cs := #[.int .i64 t125, .int .i64 t126, .slice none 0 0]) ?_ 2 _ rfl; refine BW_ ?_; refine bP_ (cs := #[.int .i64 t125, .int .i64 0, .slice none 0 0]) ?_ 1 _ rfl; refine BW_ ?_; refine bP_ (cs := #[.int .i64 0, .int .i64 0, .slice none 0 0]) ?_ 0 _ rfl; refine BW_ ?_; exact BK130.out) hb); replace HB := Zz.mk (bT_ (Bw4_ HB.out GE101.out GE102.out GE124.out GE130.out) hb); (try clear hb); (try clear ho0); obtain ⟨Ao88, co88, eo88⟩ := Kd.S_slice HO133.out; subst eo88; obtain ⟨Ao89, co89, eo89⟩ := Kd.S_slice HO117.out; subst eo89) | ((with_reducible refine gC_ (f := 11) rfl ?_); refine GL_ (some 47) rfl rfl Try.func11 #[.slice Ao88 t131.length co88, .slice Ao89 t115.length co89] rfl (h := ?_); (with_reducible refine (z11.calls k _ _ t131 _ _ t115 true _ ?side1 ?side2 ?side3 ?side4 A25.out).mono ?_); (case side1 => exact KC_ (Kd.S_reads' HO133.out).2.2); (case side2 => exact (Kd.S_reads' HO133.out).2.1); (case side3 => exact KC_ (Kd.S_reads' HO117.out).2.2); (case side4 => exact (Kd.S_reads' HO117.out).2.1); rintro e w' ⟨rfl, ⟨nd, rfl⟩⟩; refine ⟨_, rfl, ?_⟩))
          (try (rw [qFi w86]; generalize hq_ : World.drewN w86 _ = w86; replace HO109 : Zz (Kd.S (Kd.slice 2 (Kd.int .i64)) 40 w86 w.heap.size (fun k_ => some k_ ≠ (.slice Ao65 t112.length co65 : Value).ownBlock ∧ some k_ ≠ (.slice Ao89 t115.length co89 : Value).ownBlock ∧ some k_ ≠ (.slice Ao75 t121.length co75 : Value).ownBlock ∧ some k_ ≠ (.slice Ao84 t127.length co84 : Value).ownBlock ∧ some k_ ≠ (.slice Ao88 t131.length co88 : Value).ownBlock ∧ nan61 ≤ k_ ∧ k_ < nan63 ∧ k_ < nan67 ∧ k_ < nan70 ∧ k_ < nan78 ∧ k_ < nan87) (.slice Ao64 t107.length co64) t107) := ⟨by rw [← hq_]; exact (by refine SW_ ?_; exact Kd.S_mono HO109.out (fun _ hk => pj_ hk))⟩; replace HO114 : Zz (Kd.S (Kd.slice 2 (Kd.int .i64)) 40 w86 w.heap.size (fun k_ => some k_ ≠ (.slice Ao64 t107.length co64 : Value).ownBlock ∧ some k_ ≠ (.slice Ao89 t115.length co89 : Value).ownBlock ∧ some k_ ≠ (.slice Ao75 t121.length co75 : Value).ownBlock ∧ some k_ ≠ (.slice Ao84 t127.length co84 : Value).ownBlock ∧ some k_ ≠ (.slice Ao88 t131.length co88 : Value).ownBlock ∧ nan63 ≤ k_ ∧ k_ < nan67 ∧ k_ < nan70 ∧ k_ < nan78 ∧ k_ < nan87) (.slice Ao65 t112.length co65) t112) := ⟨by rw [← hq_]; exact (by refine SW_ ?_; exact Kd.S_mono HO114.out (fun _ hk => pj_ hk))⟩; replace HO117 : Zz (Kd.S (Kd.slice 2 (Kd.int .i64)) 40 w86 w.heap.size (fun k_ => some k_ ≠ (.slice Ao64 t107.length co64 : Value).ownBlock ∧ some k_ ≠ (.slice Ao65 t112.length co65 : Value).ownBlock ∧ some k_ ≠ (.slice Ao75 t121.length co75 : Value).ownBlock ∧ some k_ ≠ (.slice Ao84 t127.length co84 : Value).ownBlock ∧ some k_ ≠ (.slice Ao88 t131.length co88 : Value).ownBlock ∧ nan67 ≤ k_ ∧ k_ < nan70 ∧ k_ < nan78 ∧ k_ < nan87) (.slice Ao89 t115.length co89) t115) := ⟨by rw [← hq_]; exact (by refine SW_ ?_; exact Kd.S_mono HO117.out (fun _ hk => pj_ hk))⟩; replace HO123 : Zz (Kd.S (Kd.slice 2 (Kd.int .i64)) 40 w86 w.heap.size (fun k_ => some k_ ≠ (.slice Ao64 t107.length co64 : Value).ownBlock ∧ some k_ ≠ (.slice Ao65 t112.length co65 : Value).ownBlock ∧ some k_ ≠ (.slice Ao89 t115.length co89 : Value).ownBlock ∧ some k_ ≠ (.slice Ao84 t127.length co84 : Value).ownBlock ∧ some k_ ≠ (.slice Ao88 t131.length co88 : Value).ownBlock ∧ nan70 ≤ k_ ∧ k_ < nan78 ∧ k_ < nan87) (.slice Ao75 t121.length co75) t121) := ⟨by rw [← hq_]; exact (by refine SW_ ?_; exact Kd.S_mono HO123.out (fun _ hk => pj_ hk))⟩; replace HO129 : Zz (Kd.S (Kd.slice 2 (Kd.int .i64)) 40 w86 w.heap.size (fun k_ => some k_ ≠ (.slice Ao64 t107.length co64 : Value).ownBlock ∧ some k_ ≠ (.slice Ao65 t112.length co65 : Value).ownBlock ∧ some k_ ≠ (.slice Ao89 t115.length co89 : Value).ownBlock ∧ some k_ ≠ (.slice Ao75 t121.length co75 : Value).ownBlock ∧ some k_ ≠ (.slice Ao88 t131.length co88 : Value).ownBlock ∧ nan78 ≤ k_ ∧ k_ < nan87) (.slice Ao84 t127.length co84) t127) := ⟨by rw [← hq_]; exact (by refine SW_ ?_; exact Kd.S_mono HO129.out (fun _ hk => pj_ hk))⟩; replace HO133 : Zz (Kd.S (Kd.slice 2 (Kd.int .i64)) 40 w86 w.heap.size (fun k_ => some k_ ≠ (.slice Ao64 t107.length co64 : Value).ownBlock ∧ some k_ ≠ (.slice Ao65 t112.length co65 : Value).ownBlock ∧ some k_ ≠ (.slice Ao89 t115.length co89 : Value).ownBlock ∧ some k_ ≠ (.slice Ao75 t121.length co75 : Value).ownBlock ∧ some k_ ≠ (.slice Ao84 t127.length co84 : Value).ownBlock ∧ nan87 ≤ k_) (.slice Ao88 t131.length co88) t131) := ⟨by rw [← hq_]; exact (by refine SW_ ?_; exact Kd.S_mono HO133.out (fun _ hk => pj_ hk))⟩; replace BK101 : Zz (w86.heap[gb101]? = some (.cells #[.int .i64 a0_0, .int .i64 a0_1, .slice A0_2 l0_2.length c0_2] 24 (0, 0))) := ⟨by rw [← hq_]; exact (KB_ BK101.out)⟩; replace BK102 : Zz (w86.heap[gb102]? = some (.cells #[.int .i64 a1_0, .int .i64 a1_1, .slice A1_2 l1_2.length c1_2] 24 (0, 0))) := ⟨by rw [← hq_]; exact (KB_ BK102.out)⟩; replace BK124 : Zz (w86.heap[gb124]? = some (.cells #[.int .i64 t119, .int .i64 t120, .slice Ao75 t121.length co75] 28 (0, 0))) := ⟨by rw [← hq_]; exact (KB_ BK124.out)⟩; replace BK130 : Zz (w86.heap[gb130]? = some (.cells #[.int .i64 t125, .int .i64 t126, .slice Ao84 t127.length co84] 28 (0, 0))) := ⟨by rw [← hq_]; exact (KB_ BK130.out)⟩; replace HB : Zz (Below w.heap.size w w86) := ⟨by rw [← hq_]; exact (Bw4_ HB.out GE101.out GE102.out GE124.out GE130.out)⟩; (try clear hq_)))
          replace HO109 := Zz.mk (Kd.S_drew HO109.out)
          replace HO114 := Zz.mk (Kd.S_drew HO114.out)
          replace HO117 := Zz.mk (Kd.S_drew HO117.out)
          replace HO123 := Zz.mk (Kd.S_drew HO123.out)
          replace HO129 := Zz.mk (Kd.S_drew HO129.out)
          replace HO133 := Zz.mk (Kd.S_drew HO133.out)
          replace BK101 := Zz.mk (bD_ BK101.out)
          replace BK102 := Zz.mk (bD_ BK102.out)
          replace BK124 := Zz.mk (bD_ BK124.out)
          replace BK130 := Zz.mk (bD_ BK130.out)
          replace HB := Zz.mk (qAj HB.out)
          refine qBf (n := 5) (S := fun w' => w'.cell? ⟨gb124, 0, none⟩ = some (.int .i64 t119) ∧ w'.cell? ⟨gb124, 1, none⟩ = some (.int .i64 t120) ∧ w'.cell? ⟨gb124, 2, none⟩ = some (.slice Ao75 t121.length co75) ∧ w'.cell? ⟨gb101, 0, none⟩ = some (.int .i64 a0_0) ∧ w'.cell? ⟨gb101, 1, none⟩ = some (.int .i64 a0_1) ∧ w'.cell? ⟨gb101, 2, none⟩ = some (.slice A0_2 l0_2.length c0_2)) (ds := []) #[false, false, false, false, false] (by kernel_rfl) rfl rfl (Z3a_ BK124.out (Z3_ BK101.out)) (fun hHeld => ?_)
          generalize w86.drew = w90 at HO109 HO114 HO117 HO123 HO129 HO133 BK101 BK102 BK124 BK130 HB hHeld ⊢
          refine take_ (i := 0) (N := some 54) (v := ?_) (a' := ?_) #[true, false, false, false, false] rfl rfl (by kernel_rfl) (fun _ _ _ h => h) (Or.inl ⟨by rfl, ?_⟩) hHeld ?_ ?_
          rotate_left
          ·rintro w' ⟨s0, s1, s2, s3, s4, s5⟩
           go_simp
           with_reducible rfl
          rotate_left
          ·simp only [Act.put, List.setIfInBounds_toArray, List.set_cons_zero, List.set_cons_succ, qBj, qBz]
           rfl
          refine take_ (i := 1) (N := some 55) (v := ?_) (a' := ?_) #[true, true, false, false, false] rfl rfl (by kernel_rfl) (fun _ _ _ h => h) (Or.inl ⟨by rfl, ?_⟩) hHeld ?_ ?_
          rotate_left
          ·rintro w' ⟨s0, s1, s2, s3, s4, s5⟩
           go_simp
           with_reducible rfl
          rotate_left
          ·simp only [Act.put, List.setIfInBounds_toArray, List.set_cons_zero, List.set_cons_succ, qBj, qBz]
           rfl
          refine one_ (i := 2) (N := some 56) #[true, true, true, false, false] rfl rfl (by kernel_rfl) (by decide) (fun K hK => ?_)
          refine GO_ Try.func9 #[.agg #[.int .i64 a0_0, .int .i64 a0_1, .slice A0_2 l0_2.length c0_2]] (h := ?_)
          with_reducible refine (z9.calls k a0_0 a0_1 _ _ l0_2 t136 t137 t138 _ ?side1 ?side2 A28.out).mono ?_
          (case side1 => exact KC_ (Kd.C_below HR0_2.out HB.out))
          (case side2 => exact HC0_2.out)
          rintro e w91 ⟨v139, rfl, ho0, hb⟩
          refine ⟨_, rfl, ?_⟩
          obtain ⟨nan92, hnan92⟩ := Kd.size_letter hb
          have HO140 := Zz.mk (Kd.S_lower (Kd.S_geN (Kd.S_new' (Kd.S_new' (Kd.S_new' (Kd.S_new' (Kd.S_new' (Kd.S_new' ho0 (Kd.S_lt (KS_ HO109.out))) (Kd.S_lt (KS_ HO114.out))) (Kd.S_lt (KS_ HO117.out))) (Kd.S_lt (KS_ HO123.out))) (Kd.S_lt (KS_ HO129.out))) (Kd.S_lt (KS_ HO133.out))) hnan92) (bS_ (Bw4_ HB.out GE101.out GE102.out GE124.out GE130.out)))
          replace HO109 := Zz.mk (tl_ HO109.out hb hnan92 ho0)
          replace HO114 := Zz.mk (tl_ HO114.out hb hnan92 ho0)
          replace HO117 := Zz.mk (tl_ HO117.out hb hnan92 ho0)
          replace HO123 := Zz.mk (tl_ HO123.out hb hnan92 ho0)
          replace HO129 := Zz.mk (tl_ HO129.out hb hnan92 ho0)
          replace HO133 := Zz.mk (tl_ HO133.out hb hnan92 ho0)
          replace BK101 := Zz.mk (kb_ BK101.out hb)
          replace BK102 := Zz.mk (kb_ BK102.out hb)
          replace BK124 := Zz.mk (kb_ BK124.out hb)
          replace BK130 := Zz.mk (kb_ BK130.out hb)
          replace HB := Zz.mk (bT_ (Bw4_ HB.out GE101.out GE102.out GE124.out GE130.out) hb)
          (try clear hb);(try clear hk);(try clear ho0)
          obtain ⟨Ao93, co93, eo93⟩ := Kd.S_slice HO140.out
          (first | subst eo93 | obtain ⟨rfl, rfl⟩ := sl_ eo93)
          refine hK.out _ _ (Z3a_ BK124.out (Z3_ BK101.out)) (fun hHeld => ?_)
          clear hK K
          refine NM_ (N := (some 56)) (h := ?_)
          refine one_ (i := 3) (N := some 57) #[true, true, true, true, false] rfl rfl (by kernel_rfl) (by decide) (fun K hK => ?_)
          refine GO_ Try.func12 #[.agg #[.int .i64 t119, .int .i64 t120, .slice Ao75 t121.length co75], .agg #[.int .i64 t136, .int .i64 t137, .slice Ao93 t138.length co93]] (h := ?_)
          with_reducible refine (z12.calls k t119 t120 _ _ t121 t136 t137 _ _ t138 true _ ?side1 ?side2 ?side3 ?side4 A29.out).mono ?_
          (case side1 => exact KC_ (Kd.S_reads' HO123.out).2.2)
          (case side2 => exact (Kd.S_reads' HO123.out).2.1)
          (case side3 => exact KC_ (Kd.S_reads' HO140.out).2.2)
          (case side4 => exact (Kd.S_reads' HO140.out).2.1)
          rintro e w94 ⟨rfl, hb⟩
          refine ⟨_, rfl, ?_⟩
          replace HO109 := Zz.mk (Kd.S_below (KS_ HO109.out) hb)
          replace HO114 := Zz.mk (Kd.S_below (KS_ HO114.out) hb)
          replace HO117 := Zz.mk (Kd.S_below (KS_ HO117.out) hb)
          replace HO123 := Zz.mk (Kd.S_below (KS_ HO123.out) hb)
          replace HO129 := Zz.mk (Kd.S_below (KS_ HO129.out) hb)
          replace HO133 := Zz.mk (Kd.S_below (KS_ HO133.out) hb)
          replace HO140 := Zz.mk (Kd.S_below (KS_ HO140.out) hb)
          replace BK101 := Zz.mk (kb_ BK101.out hb)
          replace BK102 := Zz.mk (kb_ BK102.out hb)
          replace BK124 := Zz.mk (kb_ BK124.out hb)
          replace BK130 := Zz.mk (kb_ BK130.out hb)
          replace HB := Zz.mk (bT_ (Bw4_ HB.out GE101.out GE102.out GE124.out GE130.out) hb)
          (try clear hb);(try clear hk)
          refine hK.out _ _ (Z3a_ BK124.out (Z3_ BK101.out)) (fun hHeld => ?_)
          clear hK K
          refine NM_ (N := (some 57)) (h := ?_)
          refine qH5 (i := 4) (N := some 58) (v := ?_) (a' := ?_) #[true, true, true, true, true] rfl rfl (by kernel_rfl) (fun _ _ _ h => h) (Or.inl ⟨by rfl, ?_⟩) ?_ ?_
          rotate_left
          ·intro w'
           go_simp
           with_reducible rfl
          rotate_left
          ·simp only [Act.put, List.setIfInBounds_toArray, List.set_cons_zero, List.set_cons_succ, qBj, qBz]
           rfl
          refine qB0 (by kernel_rfl) ?_
          try go_wp2
          replace HO109 := Zz.mk (Kd.S_drew HO109.out)
          replace HO114 := Zz.mk (Kd.S_drew HO114.out)
          replace HO117 := Zz.mk (Kd.S_drew HO117.out)
          replace HO123 := Zz.mk (Kd.S_drew HO123.out)
          replace HO129 := Zz.mk (Kd.S_drew HO129.out)
          replace HO133 := Zz.mk (Kd.S_drew HO133.out)
          replace HO140 := Zz.mk (Kd.S_drew HO140.out)
          replace BK101 := Zz.mk (bD_ BK101.out)
          replace BK102 := Zz.mk (bD_ BK102.out)
          replace BK124 := Zz.mk (bD_ BK124.out)
          replace BK130 := Zz.mk (bD_ BK130.out)
          replace HB := Zz.mk (qAj HB.out)
          refine qBf (n := 5) (S := fun w' => w'.cell? ⟨gb130, 0, none⟩ = some (.int .i64 t125) ∧ w'.cell? ⟨gb130, 1, none⟩ = some (.int .i64 t126) ∧ w'.cell? ⟨gb130, 2, none⟩ = some (.slice Ao84 t127.length co84) ∧ w'.cell? ⟨gb102, 0, none⟩ = some (.int .i64 a1_0) ∧ w'.cell? ⟨gb102, 1, none⟩ = some (.int .i64 a1_1) ∧ w'.cell? ⟨gb102, 2, none⟩ = some (.slice A1_2 l1_2.length c1_2)) (ds := []) #[false, false, false, false, false] (by kernel_rfl) rfl rfl (Z3a_ BK130.out (Z3_ BK102.out)) (fun hHeld => ?_)
          generalize w94.drew = w95 at HO109 HO114 HO117 HO123 HO129 HO133 HO140 BK101 BK102 BK124 BK130 HB hHeld ⊢
          refine take_ (i := 0) (N := some 59) (v := ?_) (a' := ?_) #[true, false, false, false, false] rfl rfl (by kernel_rfl) (fun _ _ _ h => h) (Or.inl ⟨by rfl, ?_⟩) hHeld ?_ ?_
          rotate_left
          ·rintro w' ⟨s0, s1, s2, s3, s4, s5⟩
           go_simp
           with_reducible rfl
          rotate_left
          ·simp only [Act.put, List.setIfInBounds_toArray, List.set_cons_zero, List.set_cons_succ, qBj, qBz]
           rfl
          refine take_ (i := 1) (N := some 60) (v := ?_) (a' := ?_) #[true, true, false, false, false] rfl rfl (by kernel_rfl) (fun _ _ _ h => h) (Or.inl ⟨by rfl, ?_⟩) hHeld ?_ ?_
          rotate_left
          ·rintro w' ⟨s0, s1, s2, s3, s4, s5⟩
           go_simp
           with_reducible rfl
          rotate_left
          ·simp only [Act.put, List.setIfInBounds_toArray, List.set_cons_zero, List.set_cons_succ, qBj, qBz]
           rfl
          refine one_ (i := 2) (N := some 61) #[true, true, true, false, false] rfl rfl (by kernel_rfl) (by decide) (fun K hK => ?_)
          refine GO_ Try.func9 #[.agg #[.int .i64 a1_0, .int .i64 a1_1, .slice A1_2 l1_2.length c1_2]] (h := ?_)
          with_reducible refine (z9.calls k a1_0 a1_1 _ _ l1_2 t142 t143 t144 _ ?side1 ?side2 A31.out).mono ?_
          (case side1 => exact KC_ (Kd.C_below HR1_2.out HB.out))
          (case side2 => exact HC1_2.out)
          rintro e w96 ⟨v145, rfl, ho0, hb⟩
          refine ⟨_, rfl, ?_⟩
          obtain ⟨nan97, hnan97⟩ := Kd.size_letter hb
          have HO146 := Zz.mk (Kd.S_lower (Kd.S_geN (Kd.S_new' (Kd.S_new' (Kd.S_new' (Kd.S_new' (Kd.S_new' (Kd.S_new' (Kd.S_new' ho0 (Kd.S_lt (KS_ HO109.out))) (Kd.S_lt (KS_ HO114.out))) (Kd.S_lt (KS_ HO117.out))) (Kd.S_lt (KS_ HO123.out))) (Kd.S_lt (KS_ HO129.out))) (Kd.S_lt (KS_ HO133.out))) (Kd.S_lt (KS_ HO140.out))) hnan97) (bS_ (Bw4_ HB.out GE101.out GE102.out GE124.out GE130.out)))
          replace HO109 := Zz.mk (tl_ HO109.out hb hnan97 ho0)
          replace HO114 := Zz.mk (tl_ HO114.out hb hnan97 ho0)
          replace HO117 := Zz.mk (tl_ HO117.out hb hnan97 ho0)
          replace HO123 := Zz.mk (tl_ HO123.out hb hnan97 ho0)
          replace HO129 := Zz.mk (tl_ HO129.out hb hnan97 ho0)
          replace HO133 := Zz.mk (tl_ HO133.out hb hnan97 ho0)
          replace HO140 := Zz.mk (tl_ HO140.out hb hnan97 ho0)
          replace BK101 := Zz.mk (kb_ BK101.out hb)
          replace BK102 := Zz.mk (kb_ BK102.out hb)
          replace BK124 := Zz.mk (kb_ BK124.out hb)
          replace BK130 := Zz.mk (kb_ BK130.out hb)
          replace HB := Zz.mk (bT_ (Bw4_ HB.out GE101.out GE102.out GE124.out GE130.out) hb)
          (try clear hb);(try clear hk);(try clear ho0)
          obtain ⟨Ao98, co98, eo98⟩ := Kd.S_slice HO146.out
          (first | subst eo98 | obtain ⟨rfl, rfl⟩ := sl_ eo98)
          refine hK.out _ _ (Z3a_ BK130.out (Z3_ BK102.out)) (fun hHeld => ?_)
          clear hK K
          refine NM_ (N := (some 61)) (h := ?_)
          refine one_ (i := 3) (N := some 62) #[true, true, true, true, false] rfl rfl (by kernel_rfl) (by decide) (fun K hK => ?_)
          refine GO_ Try.func12 #[.agg #[.int .i64 t125, .int .i64 t126, .slice Ao84 t127.length co84], .agg #[.int .i64 t142, .int .i64 t143, .slice Ao98 t144.length co98]] (h := ?_)
          with_reducible refine (z12.calls k t125 t126 _ _ t127 t142 t143 _ _ t144 true _ ?side1 ?side2 ?side3 ?side4 A32.out).mono ?_
          (case side1 => exact KC_ (Kd.S_reads' HO129.out).2.2)
          (case side2 => exact (Kd.S_reads' HO129.out).2.1)
          (case side3 => exact KC_ (Kd.S_reads' HO146.out).2.2)
          (case side4 => exact (Kd.S_reads' HO146.out).2.1)
          rintro e w99 ⟨rfl, hb⟩
          refine ⟨_, rfl, ?_⟩
          replace HO109 := Zz.mk (Kd.S_below (KS_ HO109.out) hb)
          replace HO114 := Zz.mk (Kd.S_below (KS_ HO114.out) hb)
          replace HO117 := Zz.mk (Kd.S_below (KS_ HO117.out) hb)
          replace HO123 := Zz.mk (Kd.S_below (KS_ HO123.out) hb)
          replace HO129 := Zz.mk (Kd.S_below (KS_ HO129.out) hb)
          replace HO133 := Zz.mk (Kd.S_below (KS_ HO133.out) hb)
          replace HO140 := Zz.mk (Kd.S_below (KS_ HO140.out) hb)
          replace HO146 := Zz.mk (Kd.S_below (KS_ HO146.out) hb)
          replace BK101 := Zz.mk (kb_ BK101.out hb)
          replace BK102 := Zz.mk (kb_ BK102.out hb)
          replace BK124 := Zz.mk (kb_ BK124.out hb)
          replace BK130 := Zz.mk (kb_ BK130.out hb)
          replace HB := Zz.mk (bT_ (Bw4_ HB.out GE101.out GE102.out GE124.out GE130.out) hb)
          (try clear hb);(try clear hk)
          refine hK.out _ _ (Z3a_ BK130.out (Z3_ BK102.out)) (fun hHeld => ?_)
          clear hK K
          refine NM_ (N := (some 62)) (h := ?_)
          refine qH5 (i := 4) (N := some 63) (v := ?_) (a' := ?_) #[true, true, true, true, true] rfl rfl (by kernel_rfl) (fun _ _ _ h => h) (Or.inl ⟨by rfl, ?_⟩) ?_ ?_
          rotate_left
          ·intro w'
           go_simp
           with_reducible rfl
          rotate_left
          ·simp only [Act.put, List.setIfInBounds_toArray, List.set_cons_zero, List.set_cons_succ, qBj, qBz]
           rfl
          refine qB0 (by kernel_rfl) ?_
          obtain ⟨hcz100_0, hcz100_1, hcz100_2, hfz100_0, hfz100_1, hfz100_2⟩ := Z3f_ BK124.out
          try go_wp2_with (first | (go_at_call 13; (with_reducible refine (laws_markSpace.calls t119 t120 (fun k_ => (((((some k_ ≠ (.slice Ao64 t107.length co64 : Value).ownBlock ∧ (some k_ ≠ (.slice Ao65 t112.length co65 : Value).ownBlock ∧ (some k_ ≠ (.slice Ao89 t115.length co89 : Value).ownBlock ∧ (some k_ ≠ (.slice Ao84 t127.length co84 : Value).ownBlock ∧ (some k_ ≠ (.slice Ao88 t131.length co88 : Value).ownBlock ∧ (nan70 ≤ k_ ∧ (k_ < nan78 ∧ k_ < nan87))))))) ∧ some k_ ≠ (.slice Ao93 t138.length co93 : Value).ownBlock) ∧ k_ < nan92) ∧ some k_ ≠ (.slice Ao98 t144.length co98 : Value).ownBlock) ∧ k_ < nan97) ∧ ∃ q_, q_ ∈ 40 :: ((Kd.slice 2 (Kd.int .i64))).E ∧ ∃ cs_, w99.heap[k_]? = some (.cells cs_ q_ (0, 0))) (.slice Ao75 t121.length co75) t121 1 t148 t149 w _ ?side1 ?side2 A34.out).mono ?_); (case side1 => repeat (first | (with_reducible first | exact HB.out | apply qAu | apply qAr | apply qAj | refine qAp ?_ GE101.out | refine qAp ?_ GE102.out | refine qAp ?_ GE124.out | refine qAp ?_ GE130.out) | exact HB.out)); (case side2 => exact Kd.S_pin (ok := fun k_ => (((((some k_ ≠ (.slice Ao64 t107.length co64 : Value).ownBlock ∧ (some k_ ≠ (.slice Ao65 t112.length co65 : Value).ownBlock ∧ (some k_ ≠ (.slice Ao89 t115.length co89 : Value).ownBlock ∧ (some k_ ≠ (.slice Ao84 t127.length co84 : Value).ownBlock ∧ (some k_ ≠ (.slice Ao88 t131.length co88 : Value).ownBlock ∧ (nan70 ≤ k_ ∧ (k_ < nan78 ∧ k_ < nan87))))))) ∧ some k_ ≠ (.slice Ao93 t138.length co93 : Value).ownBlock) ∧ k_ < nan92) ∧ some k_ ≠ (.slice Ao98 t144.length co98 : Value).ownBlock) ∧ k_ < nan97)) (KS_ HO123.out)); rintro e w101 ⟨rfl, hy0, hb, hkp⟩; replace BK101 := Zz.mk (qBo (g := gb101) (o := .cells #[.int .i64 a0_0, .int .i64 a0_1, .slice A0_2 l0_2.length c0_2] 24 (0, 0)) (KB_ BK101.out) hkp (fun hs_ => Kd.typed_ne (KB_ BK101.out) hs_.2 (by decide))); replace BK102 := Zz.mk (qBo (g := gb102) (o := .cells #[.int .i64 a1_0, .int .i64 a1_1, .slice A1_2 l1_2.length c1_2] 24 (0, 0)) (KB_ BK102.out) hkp (fun hs_ => Kd.typed_ne (KB_ BK102.out) hs_.2 (by decide))); replace HO109 := Zz.mk (Kd.S_mono (Kd.S_keptB (ok := fun k_ => (((((some k_ ≠ (.slice Ao65 t112.length co65 : Value).ownBlock ∧ (some k_ ≠ (.slice Ao89 t115.length co89 : Value).ownBlock ∧ (some k_ ≠ (.slice Ao75 t121.length co75 : Value).ownBlock ∧ (some k_ ≠ (.slice Ao84 t127.length co84 : Value).ownBlock ∧ (some k_ ≠ (.slice Ao88 t131.length co88 : Value).ownBlock ∧ (nan61 ≤ k_ ∧ (k_ < nan63 ∧ (k_ < nan67 ∧ (k_ < nan70 ∧ (k_ < nan78 ∧ k_ < nan87)))))))))) ∧ some k_ ≠ (.slice Ao93 t138.length co93 : Value).ownBlock) ∧ k_ < nan92) ∧ some k_ ≠ (.slice Ao98 t144.length co98 : Value).ownBlock) ∧ k_ < nan97)) (KS_ HO109.out) hkp (fun k_ hk_ hs_ => absurd hs_.1.1.1.1.1.2.2.2.2.2.1 (Nat.not_le.2 hk_.1.1.1.1.2.2.2.2.2.2.2.2.1))) (fun k_ hk_ => hk_.1)); replace HO114 := Zz.mk (Kd.S_mono (Kd.S_keptB (ok := fun k_ => (((((some k_ ≠ (.slice Ao64 t107.length co64 : Value).ownBlock ∧ (some k_ ≠ (.slice Ao89 t115.length co89 : Value).ownBlock ∧ (some k_ ≠ (.slice Ao75 t121.length co75 : Value).ownBlock ∧ (some k_ ≠ (.slice Ao84 t127.length co84 : Value).ownBlock ∧ (some k_ ≠ (.slice Ao88 t131.length co88 : Value).ownBlock ∧ (nan63 ≤ k_ ∧ (k_ < nan67 ∧ (k_ < nan70 ∧ (k_ < nan78 ∧ k_ < nan87))))))))) ∧ some k_ ≠ (.slice Ao93 t138.length co93 : Value).ownBlock) ∧ k_ < nan92) ∧ some k_ ≠ (.slice Ao98 t144.length co98 : Value).ownBlock) ∧ k_ < nan97)) (KS_ HO114.out) hkp (fun k_ hk_ hs_ => absurd hs_.1.1.1.1.1.2.2.2.2.2.1 (Nat.not_le.2 hk_.1.1.1.1.2.2.2.2.2.2.2.1))) (fun k_ hk_ => hk_.1)); replace HO117 := Zz.mk (Kd.S_mono (Kd.S_keptB (ok := fun k_ => (((((some k_ ≠ (.slice Ao64 t107.length co64 : Value).ownBlock ∧ (some k_ ≠ (.slice Ao65 t112.length co65 : Value).ownBlock ∧ (some k_ ≠ (.slice Ao75 t121.length co75 : Value).ownBlock ∧ (some k_ ≠ (.slice Ao84 t127.length co84 : Value).ownBlock ∧ (some k_ ≠ (.slice Ao88 t131.length co88 : Value).ownBlock ∧ (nan67 ≤ k_ ∧ (k_ < nan70 ∧ (k_ < nan78 ∧ k_ < nan87)))))))) ∧ some k_ ≠ (.slice Ao93 t138.length co93 : Value).ownBlock) ∧ k_ < nan92) ∧ some k_ ≠ (.slice Ao98 t144.length co98 : Value).ownBlock) ∧ k_ < nan97)) (KS_ HO117.out) hkp (fun k_ hk_ hs_ => absurd hs_.1.1.1.1.1.2.2.2.2.2.1 (Nat.not_le.2 hk_.1.1.1.1.2.2.2.2.2.2.1))) (fun k_ hk_ => hk_.1)); replace HO123 := Zz.mk (Kd.S_mono hy0 (fun k_ hk_ => hk_.1)); replace BK124 := Zz.mk (qBo (g := gb124) (o := .cells #[.int .i64 t119, .int .i64 t120, .slice Ao75 t121.length co75] 28 (0, 0)) (KB_ BK124.out) hkp (fun hs_ => Kd.typed_ne (KB_ BK124.out) hs_.2 (by decide))); replace HO129 := Zz.mk (Kd.S_mono (Kd.S_keptB (ok := fun k_ => (((((some k_ ≠ (.slice Ao64 t107.length co64 : Value).ownBlock ∧ (some k_ ≠ (.slice Ao65 t112.length co65 : Value).ownBlock ∧ (some k_ ≠ (.slice Ao89 t115.length co89 : Value).ownBlock ∧ (some k_ ≠ (.slice Ao75 t121.length co75 : Value).ownBlock ∧ (some k_ ≠ (.slice Ao88 t131.length co88 : Value).ownBlock ∧ (nan78 ≤ k_ ∧ k_ < nan87)))))) ∧ some k_ ≠ (.slice Ao93 t138.length co93 : Value).ownBlock) ∧ k_ < nan92) ∧ some k_ ≠ (.slice Ao98 t144.length co98 : Value).ownBlock) ∧ k_ < nan97)) (KS_ HO129.out) hkp (fun k_ hk_ hs_ => absurd hk_.1.1.1.1.2.2.2.2.2.1 (Nat.not_le.2 hs_.1.1.1.1.1.2.2.2.2.2.2.1))) (fun k_ hk_ => hk_.1)); replace BK130 := Zz.mk (qBo (g := gb130) (o := .cells #[.int .i64 t125, .int .i64 t126, .slice Ao84 t127.length co84] 28 (0, 0)) (KB_ BK130.out) hkp (fun hs_ => Kd.typed_ne (KB_ BK130.out) hs_.2 (by decide))); replace HO133 := Zz.mk (Kd.S_mono (Kd.S_keptB (ok := fun k_ => (((((some k_ ≠ (.slice Ao64 t107.length co64 : Value).ownBlock ∧ (some k_ ≠ (.slice Ao65 t112.length co65 : Value).ownBlock ∧ (some k_ ≠ (.slice Ao89 t115.length co89 : Value).ownBlock ∧ (some k_ ≠ (.slice Ao75 t121.length co75 : Value).ownBlock ∧ (some k_ ≠ (.slice Ao84 t127.length co84 : Value).ownBlock ∧ nan87 ≤ k_))))) ∧ some k_ ≠ (.slice Ao93 t138.length co93 : Value).ownBlock) ∧ k_ < nan92) ∧ some k_ ≠ (.slice Ao98 t144.length co98 : Value).ownBlock) ∧ k_ < nan97)) (KS_ HO133.out) hkp (fun k_ hk_ hs_ => absurd hk_.1.1.1.1.2.2.2.2.2 (Nat.not_le.2 hs_.1.1.1.1.1.2.2.2.2.2.2.2))) (fun k_ hk_ => hk_.1)); replace HO140 := Zz.mk (Kd.S_mono (Kd.S_keptB (ok := fun k_ => (((((((((True ∧ some k_ ≠ (.slice Ao64 t107.length co64 : Value).ownBlock) ∧ some k_ ≠ (.slice Ao65 t112.length co65 : Value).ownBlock) ∧ some k_ ≠ (.slice Ao89 t115.length co89 : Value).ownBlock) ∧ some k_ ≠ (.slice Ao75 t121.length co75 : Value).ownBlock) ∧ some k_ ≠ (.slice Ao84 t127.length co84 : Value).ownBlock) ∧ some k_ ≠ (.slice Ao88 t131.length co88 : Value).ownBlock) ∧ nan92 ≤ k_) ∧ some k_ ≠ (.slice Ao98 t144.length co98 : Value).ownBlock) ∧ k_ < nan97)) (KS_ HO140.out) hkp (fun k_ hk_ hs_ => absurd hk_.1.1.2 (Nat.not_le.2 hs_.1.1.1.2))) (fun k_ hk_ => hk_.1)); replace HO146 := Zz.mk (Kd.S_mono (Kd.S_keptB (ok := fun k_ => ((((((((True ∧ some k_ ≠ (.slice Ao64 t107.length co64 : Value).ownBlock) ∧ some k_ ≠ (.slice Ao65 t112.length co65 : Value).ownBlock) ∧ some k_ ≠ (.slice Ao89 t115.length co89 : Value).ownBlock) ∧ some k_ ≠ (.slice Ao75 t121.length co75 : Value).ownBlock) ∧ some k_ ≠ (.slice Ao84 t127.length co84 : Value).ownBlock) ∧ some k_ ≠ (.slice Ao88 t131.length co88 : Value).ownBlock) ∧ some k_ ≠ (.slice Ao93 t138.length co93 : Value).ownBlock) ∧ nan97 ≤ k_)) (KS_ HO146.out) hkp (fun k_ hk_ hs_ => absurd hk_.2 (Nat.not_le.2 hs_.1.2))) (fun k_ hk_ => hk_.1)); replace HB := Zz.mk (hb); (try clear hb hkp hy0); obtain ⟨hcz102_0, hcz102_1, hcz102_2, hfz102_0, hfz102_1, hfz102_2⟩ := Z3f_ BK130.out) | (go_at_call 13; (with_reducible refine (laws_markSpace.calls t125 t126 (fun k_ => (((((some k_ ≠ (.slice Ao64 t107.length co64 : Value).ownBlock ∧ (some k_ ≠ (.slice Ao65 t112.length co65 : Value).ownBlock ∧ (some k_ ≠ (.slice Ao89 t115.length co89 : Value).ownBlock ∧ (some k_ ≠ (.slice Ao75 t121.length co75 : Value).ownBlock ∧ (some k_ ≠ (.slice Ao88 t131.length co88 : Value).ownBlock ∧ (nan78 ≤ k_ ∧ k_ < nan87)))))) ∧ some k_ ≠ (.slice Ao93 t138.length co93 : Value).ownBlock) ∧ k_ < nan92) ∧ some k_ ≠ (.slice Ao98 t144.length co98 : Value).ownBlock) ∧ k_ < nan97) ∧ ∃ q_, q_ ∈ 40 :: ((Kd.slice 2 (Kd.int .i64))).E ∧ ∃ cs_, w101.heap[k_]? = some (.cells cs_ q_ (0, 0))) (.slice Ao84 t127.length co84) t127 t148 t150 t151 w _ ?side1 ?side2 A35.out).mono ?_); (case side1 => repeat (first | (with_reducible first | exact HB.out | apply qAu | apply qAr | apply qAj | refine qAp ?_ GE101.out | refine qAp ?_ GE102.out | refine qAp ?_ GE124.out | refine qAp ?_ GE130.out) | exact HB.out)); (case side2 => exact Kd.S_pin (ok := fun k_ => (((((some k_ ≠ (.slice Ao64 t107.length co64 : Value).ownBlock ∧ (some k_ ≠ (.slice Ao65 t112.length co65 : Value).ownBlock ∧ (some k_ ≠ (.slice Ao89 t115.length co89 : Value).ownBlock ∧ (some k_ ≠ (.slice Ao75 t121.length co75 : Value).ownBlock ∧ (some k_ ≠ (.slice Ao88 t131.length co88 : Value).ownBlock ∧ (nan78 ≤ k_ ∧ k_ < nan87)))))) ∧ some k_ ≠ (.slice Ao93 t138.length co93 : Value).ownBlock) ∧ k_ < nan92) ∧ some k_ ≠ (.slice Ao98 t144.length co98 : Value).ownBlock) ∧ k_ < nan97)) (KS_ HO129.out)); rintro e w103 ⟨rfl, hy0, hb, hkp⟩; replace BK101 := Zz.mk (qBo (g := gb101) (o := .cells #[.int .i64 a0_0, .int .i64 a0_1, .slice A0_2 l0_2.length c0_2] 24 (0, 0)) (KB_ BK101.out) hkp (fun hs_ => Kd.typed_ne (KB_ BK101.out) hs_.2 (by decide))); replace BK102 := Zz.mk (qBo (g := gb102) (o := .cells #[.int .i64 a1_0, .int .i64 a1_1, .slice A1_2 l1_2.length c1_2] 24 (0, 0)) (KB_ BK102.out) hkp (fun hs_ => Kd.typed_ne (KB_ BK102.out) hs_.2 (by decide))); replace HO109 := Zz.mk (Kd.S_mono (Kd.S_keptB (ok := fun k_ => (((((some k_ ≠ (.slice Ao65 t112.length co65 : Value).ownBlock ∧ (some k_ ≠ (.slice Ao89 t115.length co89 : Value).ownBlock ∧ (some k_ ≠ (.slice Ao75 t121.length co75 : Value).ownBlock ∧ (some k_ ≠ (.slice Ao84 t127.length co84 : Value).ownBlock ∧ (some k_ ≠ (.slice Ao88 t131.length co88 : Value).ownBlock ∧ (nan61 ≤ k_ ∧ (k_ < nan63 ∧ (k_ < nan67 ∧ (k_ < nan70 ∧ (k_ < nan78 ∧ k_ < nan87)))))))))) ∧ some k_ ≠ (.slice Ao93 t138.length co93 : Value).ownBlock) ∧ k_ < nan92) ∧ some k_ ≠ (.slice Ao98 t144.length co98 : Value).ownBlock) ∧ k_ < nan97)) (KS_ HO109.out) hkp (fun k_ hk_ hs_ => absurd hs_.1.1.1.1.1.2.2.2.2.2.1 (Nat.not_le.2 hk_.1.1.1.1.2.2.2.2.2.2.2.2.2.1))) (fun k_ hk_ => hk_.1)); replace HO114 := Zz.mk (Kd.S_mono (Kd.S_keptB (ok := fun k_ => (((((some k_ ≠ (.slice Ao64 t107.length co64 : Value).ownBlock ∧ (some k_ ≠ (.slice Ao89 t115.length co89 : Value).ownBlock ∧ (some k_ ≠ (.slice Ao75 t121.length co75 : Value).ownBlock ∧ (some k_ ≠ (.slice Ao84 t127.length co84 : Value).ownBlock ∧ (some k_ ≠ (.slice Ao88 t131.length co88 : Value).ownBlock ∧ (nan63 ≤ k_ ∧ (k_ < nan67 ∧ (k_ < nan70 ∧ (k_ < nan78 ∧ k_ < nan87))))))))) ∧ some k_ ≠ (.slice Ao93 t138.length co93 : Value).ownBlock) ∧ k_ < nan92) ∧ some k_ ≠ (.slice Ao98 t144.length co98 : Value).ownBlock) ∧ k_ < nan97)) (KS_ HO114.out) hkp (fun k_ hk_ hs_ => absurd hs_.1.1.1.1.1.2.2.2.2.2.1 (Nat.not_le.2 hk_.1.1.1.1.2.2.2.2.2.2.2.2.1))) (fun k_ hk_ => hk_.1)); replace HO117 := Zz.mk (Kd.S_mono (Kd.S_keptB (ok := fun k_ => (((((some k_ ≠ (.slice Ao64 t107.length co64 : Value).ownBlock ∧ (some k_ ≠ (.slice Ao65 t112.length co65 : Value).ownBlock ∧ (some k_ ≠ (.slice Ao75 t121.length co75 : Value).ownBlock ∧ (some k_ ≠ (.slice Ao84 t127.length co84 : Value).ownBlock ∧ (some k_ ≠ (.slice Ao88 t131.length co88 : Value).ownBlock ∧ (nan67 ≤ k_ ∧ (k_ < nan70 ∧ (k_ < nan78 ∧ k_ < nan87)))))))) ∧ some k_ ≠ (.slice Ao93 t138.length co93 : Value).ownBlock) ∧ k_ < nan92) ∧ some k_ ≠ (.slice Ao98 t144.length co98 : Value).ownBlock) ∧ k_ < nan97)) (KS_ HO117.out) hkp (fun k_ hk_ hs_ => absurd hs_.1.1.1.1.1.2.2.2.2.2.1 (Nat.not_le.2 hk_.1.1.1.1.2.2.2.2.2.2.2.1))) (fun k_ hk_ => hk_.1)); replace HO123 := Zz.mk (Kd.S_mono (Kd.S_keptB (ok := fun k_ => (((((some k_ ≠ (.slice Ao64 t107.length co64 : Value).ownBlock ∧ (some k_ ≠ (.slice Ao65 t112.length co65 : Value).ownBlock ∧ (some k_ ≠ (.slice Ao89 t115.length co89 : Value).ownBlock ∧ (some k_ ≠ (.slice Ao84 t127.length co84 : Value).ownBlock ∧ (some k_ ≠ (.slice Ao88 t131.length co88 : Value).ownBlock ∧ (nan70 ≤ k_ ∧ (k_ < nan78 ∧ k_ < nan87))))))) ∧ some k_ ≠ (.slice Ao93 t138.length co93 : Value).ownBlock) ∧ k_ < nan92) ∧ some k_ ≠ (.slice Ao98 t144.length co98 : Value).ownBlock) ∧ k_ < nan97)) (KS_ HO123.out) hkp (fun k_ hk_ hs_ => absurd hs_.1.1.1.1.1.2.2.2.2.2.1 (Nat.not_le.2 hk_.1.1.1.1.2.2.2.2.2.2.1))) (fun k_ hk_ => hk_.1)); replace BK124 := Zz.mk (qBo (g := gb124) (o := .cells #[.int .i64 t119, .int .i64 t120, .slice Ao75 t121.length co75] 28 (0, 0)) (KB_ BK124.out) hkp (fun hs_ => Kd.typed_ne (KB_ BK124.out) hs_.2 (by decide))); replace HO129 := Zz.mk (Kd.S_mono hy0 (fun k_ hk_ => hk_.1)); replace BK130 := Zz.mk (qBo (g := gb130) (o := .cells #[.int .i64 t125, .int .i64 t126, .slice Ao84 t127.length co84] 28 (0, 0)) (KB_ BK130.out) hkp (fun hs_ => Kd.typed_ne (KB_ BK130.out) hs_.2 (by decide))); replace HO133 := Zz.mk (Kd.S_mono (Kd.S_keptB (ok := fun k_ => (((((some k_ ≠ (.slice Ao64 t107.length co64 : Value).ownBlock ∧ (some k_ ≠ (.slice Ao65 t112.length co65 : Value).ownBlock ∧ (some k_ ≠ (.slice Ao89 t115.length co89 : Value).ownBlock ∧ (some k_ ≠ (.slice Ao75 t121.length co75 : Value).ownBlock ∧ (some k_ ≠ (.slice Ao84 t127.length co84 : Value).ownBlock ∧ nan87 ≤ k_))))) ∧ some k_ ≠ (.slice Ao93 t138.length co93 : Value).ownBlock) ∧ k_ < nan92) ∧ some k_ ≠ (.slice Ao98 t144.length co98 : Value).ownBlock) ∧ k_ < nan97)) (KS_ HO133.out) hkp (fun k_ hk_ hs_ => absurd hk_.1.1.1.1.2.2.2.2.2 (Nat.not_le.2 hs_.1.1.1.1.1.2.2.2.2.2.2))) (fun k_ hk_ => hk_.1)); replace HO140 := Zz.mk (Kd.S_mono (Kd.S_keptB (ok := fun k_ => (((((((((True ∧ some k_ ≠ (.slice Ao64 t107.length co64 : Value).ownBlock) ∧ some k_ ≠ (.slice Ao65 t112.length co65 : Value).ownBlock) ∧ some k_ ≠ (.slice Ao89 t115.length co89 : Value).ownBlock) ∧ some k_ ≠ (.slice Ao75 t121.length co75 : Value).ownBlock) ∧ some k_ ≠ (.slice Ao84 t127.length co84 : Value).ownBlock) ∧ some k_ ≠ (.slice Ao88 t131.length co88 : Value).ownBlock) ∧ nan92 ≤ k_) ∧ some k_ ≠ (.slice Ao98 t144.length co98 : Value).ownBlock) ∧ k_ < nan97)) (KS_ HO140.out) hkp (fun k_ hk_ hs_ => absurd hk_.1.1.2 (Nat.not_le.2 hs_.1.1.1.2))) (fun k_ hk_ => hk_.1)); replace HO146 := Zz.mk (Kd.S_mono (Kd.S_keptB (ok := fun k_ => ((((((((True ∧ some k_ ≠ (.slice Ao64 t107.length co64 : Value).ownBlock) ∧ some k_ ≠ (.slice Ao65 t112.length co65 : Value).ownBlock) ∧ some k_ ≠ (.slice Ao89 t115.length co89 : Value).ownBlock) ∧ some k_ ≠ (.slice Ao75 t121.length co75 : Value).ownBlock) ∧ some k_ ≠ (.slice Ao84 t127.length co84 : Value).ownBlock) ∧ some k_ ≠ (.slice Ao88 t131.length co88 : Value).ownBlock) ∧ some k_ ≠ (.slice Ao93 t138.length co93 : Value).ownBlock) ∧ nan97 ≤ k_)) (KS_ HO146.out) hkp (fun k_ hk_ hs_ => absurd hk_.2 (Nat.not_le.2 hs_.1.2))) (fun k_ hk_ => hk_.1)); replace HB := Zz.mk (hb); (try clear hb hkp hy0)) | (go_at_call 11; (with_reducible refine (z11.calls k _ _ t131 _ _ t115 true _ ?side1 ?side2 ?side3 ?side4 A37.out).mono ?_); (case side1 => exact KC_ (Kd.S_reads' HO133.out).2.2); (case side2 => exact (Kd.S_reads' HO133.out).2.1); (case side3 => exact KC_ (Kd.S_reads' HO117.out).2.2); (case side4 => exact (Kd.S_reads' HO117.out).2.1); rintro e w' ⟨rfl, ⟨nd, rfl⟩⟩) | (go_at_call 14; (with_reducible refine (laws_markInt64SS.calls (fun k_ => (((((some k_ ≠ (.slice Ao64 t107.length co64 : Value).ownBlock ∧ (some k_ ≠ (.slice Ao65 t112.length co65 : Value).ownBlock ∧ (some k_ ≠ (.slice Ao89 t115.length co89 : Value).ownBlock ∧ (some k_ ≠ (.slice Ao75 t121.length co75 : Value).ownBlock ∧ (some k_ ≠ (.slice Ao84 t127.length co84 : Value).ownBlock ∧ nan87 ≤ k_))))) ∧ some k_ ≠ (.slice Ao93 t138.length co93 : Value).ownBlock) ∧ k_ < nan92) ∧ some k_ ≠ (.slice Ao98 t144.length co98 : Value).ownBlock) ∧ k_ < nan97) ∧ ∃ q_, q_ ∈ 40 :: ((Kd.slice 2 (Kd.int .i64))).E ∧ ∃ cs_, w103.heap[k_]? = some (.cells cs_ q_ (0, 0))) (.slice Ao88 t131.length co88) t131 1 t153 t154 w _ ?side1 ?side2 A39.out).mono ?_); (case side1 => repeat (first | (with_reducible first | exact HB.out | apply qAu | apply qAr | apply qAj | refine qAp ?_ GE101.out | refine qAp ?_ GE102.out | refine qAp ?_ GE124.out | refine qAp ?_ GE130.out) | exact HB.out)); (case side2 => exact Kd.S_pin (ok := fun k_ => (((((some k_ ≠ (.slice Ao64 t107.length co64 : Value).ownBlock ∧ (some k_ ≠ (.slice Ao65 t112.length co65 : Value).ownBlock ∧ (some k_ ≠ (.slice Ao89 t115.length co89 : Value).ownBlock ∧ (some k_ ≠ (.slice Ao75 t121.length co75 : Value).ownBlock ∧ (some k_ ≠ (.slice Ao84 t127.length co84 : Value).ownBlock ∧ nan87 ≤ k_))))) ∧ some k_ ≠ (.slice Ao93 t138.length co93 : Value).ownBlock) ∧ k_ < nan92) ∧ some k_ ≠ (.slice Ao98 t144.length co98 : Value).ownBlock) ∧ k_ < nan97)) (KS_ HO133.out)); rintro e w104 ⟨rfl, hy0, hb, hkp⟩; replace BK101 := Zz.mk (qBo (g := gb101) (o := .cells #[.int .i64 a0_0, .int .i64 a0_1, .slice A0_2 l0_2.length c0_2] 24 (0, 0)) (KB_ BK101.out) hkp (fun hs_ => Kd.typed_ne (KB_ BK101.out) hs_.2 (by decide))); replace BK102 := Zz.mk (qBo (g := gb102) (o := .cells #[.int .i64 a1_0, .int .i64 a1_1, .slice A1_2 l1_2.length c1_2] 24 (0, 0)) (KB_ BK102.out) hkp (fun hs_ => Kd.typed_ne (KB_ BK102.out) hs_.2 (by decide))); replace HO109 := Zz.mk (Kd.S_mono (Kd.S_keptB (ok := fun k_ => (((((some k_ ≠ (.slice Ao65 t112.length co65 : Value).ownBlock ∧ (some k_ ≠ (.slice Ao89 t115.length co89 : Value).ownBlock ∧ (some k_ ≠ (.slice Ao75 t121.length co75 : Value).ownBlock ∧ (some k_ ≠ (.slice Ao84 t127.length co84 : Value).ownBlock ∧ (some k_ ≠ (.slice Ao88 t131.length co88 : Value).ownBlock ∧ (nan61 ≤ k_ ∧ (k_ < nan63 ∧ (k_ < nan67 ∧ (k_ < nan70 ∧ (k_ < nan78 ∧ k_ < nan87)))))))))) ∧ some k_ ≠ (.slice Ao93 t138.length co93 : Value).ownBlock) ∧ k_ < nan92) ∧ some k_ ≠ (.slice Ao98 t144.length co98 : Value).ownBlock) ∧ k_ < nan97)) (KS_ HO109.out) hkp (fun k_ hk_ hs_ => absurd hs_.1.1.1.1.1.2.2.2.2.2 (Nat.not_le.2 hk_.1.1.1.1.2.2.2.2.2.2.2.2.2.2))) (fun k_ hk_ => hk_.1)); replace HO114 := Zz.mk (Kd.S_mono (Kd.S_keptB (ok := fun k_ => (((((some k_ ≠ (.slice Ao64 t107.length co64 : Value).ownBlock ∧ (some k_ ≠ (.slice Ao89 t115.length co89 : Value).ownBlock ∧ (some k_ ≠ (.slice Ao75 t121.length co75 : Value).ownBlock ∧ (some k_ ≠ (.slice Ao84 t127.length co84 : Value).ownBlock ∧ (some k_ ≠ (.slice Ao88 t131.length co88 : Value).ownBlock ∧ (nan63 ≤ k_ ∧ (k_ < nan67 ∧ (k_ < nan70 ∧ (k_ < nan78 ∧ k_ < nan87))))))))) ∧ some k_ ≠ (.slice Ao93 t138.length co93 : Value).ownBlock) ∧ k_ < nan92) ∧ some k_ ≠ (.slice Ao98 t144.length co98 : Value).ownBlock) ∧ k_ < nan97)) (KS_ HO114.out) hkp (fun k_ hk_ hs_ => absurd hs_.1.1.1.1.1.2.2.2.2.2 (Nat.not_le.2 hk_.1.1.1.1.2.2.2.2.2.2.2.2.2))) (fun k_ hk_ => hk_.1)); replace HO117 := Zz.mk (Kd.S_mono (Kd.S_keptB (ok := fun k_ => (((((some k_ ≠ (.slice Ao64 t107.length co64 : Value).ownBlock ∧ (some k_ ≠ (.slice Ao65 t112.length co65 : Value).ownBlock ∧ (some k_ ≠ (.slice Ao75 t121.length co75 : Value).ownBlock ∧ (some k_ ≠ (.slice Ao84 t127.length co84 : Value).ownBlock ∧ (some k_ ≠ (.slice Ao88 t131.length co88 : Value).ownBlock ∧ (nan67 ≤ k_ ∧ (k_ < nan70 ∧ (k_ < nan78 ∧ k_ < nan87)))))))) ∧ some k_ ≠ (.slice Ao93 t138.length co93 : Value).ownBlock) ∧ k_ < nan92) ∧ some k_ ≠ (.slice Ao98 t144.length co98 : Value).ownBlock) ∧ k_ < nan97)) (KS_ HO117.out) hkp (fun k_ hk_ hs_ => absurd hs_.1.1.1.1.1.2.2.2.2.2 (Nat.not_le.2 hk_.1.1.1.1.2.2.2.2.2.2.2.2))) (fun k_ hk_ => hk_.1)); replace HO123 := Zz.mk (Kd.S_mono (Kd.S_keptB (ok := fun k_ => (((((some k_ ≠ (.slice Ao64 t107.length co64 : Value).ownBlock ∧ (some k_ ≠ (.slice Ao65 t112.length co65 : Value).ownBlock ∧ (some k_ ≠ (.slice Ao89 t115.length co89 : Value).ownBlock ∧ (some k_ ≠ (.slice Ao84 t127.length co84 : Value).ownBlock ∧ (some k_ ≠ (.slice Ao88 t131.length co88 : Value).ownBlock ∧ (nan70 ≤ k_ ∧ (k_ < nan78 ∧ k_ < nan87))))))) ∧ some k_ ≠ (.slice Ao93 t138.length co93 : Value).ownBlock) ∧ k_ < nan92) ∧ some k_ ≠ (.slice Ao98 t144.length co98 : Value).ownBlock) ∧ k_ < nan97)) (KS_ HO123.out) hkp (fun k_ hk_ hs_ => absurd hs_.1.1.1.1.1.2.2.2.2.2 (Nat.not_le.2 hk_.1.1.1.1.2.2.2.2.2.2.2))) (fun k_ hk_ => hk_.1)); replace BK124 := Zz.mk (qBo (g := gb124) (o := .cells #[.int .i64 t119, .int .i64 t120, .slice Ao75 t121.length co75] 28 (0, 0)) (KB_ BK124.out) hkp (fun hs_ => Kd.typed_ne (KB_ BK124.out) hs_.2 (by decide))); replace HO129 := Zz.mk (Kd.S_mono (Kd.S_keptB (ok := fun k_ => (((((some k_ ≠ (.slice Ao64 t107.length co64 : Value).ownBlock ∧ (some k_ ≠ (.slice Ao65 t112.length co65 : Value).ownBlock ∧ (some k_ ≠ (.slice Ao89 t115.length co89 : Value).ownBlock ∧ (some k_ ≠ (.slice Ao75 t121.length co75 : Value).ownBlock ∧ (some k_ ≠ (.slice Ao88 t131.length co88 : Value).ownBlock ∧ (nan78 ≤ k_ ∧ k_ < nan87)))))) ∧ some k_ ≠ (.slice Ao93 t138.length co93 : Value).ownBlock) ∧ k_ < nan92) ∧ some k_ ≠ (.slice Ao98 t144.length co98 : Value).ownBlock) ∧ k_ < nan97)) (KS_ HO129.out) hkp (fun k_ hk_ hs_ => absurd hs_.1.1.1.1.1.2.2.2.2.2 (Nat.not_le.2 hk_.1.1.1.1.2.2.2.2.2.2))) (fun k_ hk_ => hk_.1)); replace BK130 := Zz.mk (qBo (g := gb130) (o := .cells #[.int .i64 t125, .int .i64 t126, .slice Ao84 t127.length co84] 28 (0, 0)) (KB_ BK130.out) hkp (fun hs_ => Kd.typed_ne (KB_ BK130.out) hs_.2 (by decide))); replace HO133 := Zz.mk (Kd.S_mono hy0 (fun k_ hk_ => hk_.1)); replace HO140 := Zz.mk (Kd.S_mono (Kd.S_keptB (ok := fun k_ => (((((((((True ∧ some k_ ≠ (.slice Ao64 t107.length co64 : Value).ownBlock) ∧ some k_ ≠ (.slice Ao65 t112.length co65 : Value).ownBlock) ∧ some k_ ≠ (.slice Ao89 t115.length co89 : Value).ownBlock) ∧ some k_ ≠ (.slice Ao75 t121.length co75 : Value).ownBlock) ∧ some k_ ≠ (.slice Ao84 t127.length co84 : Value).ownBlock) ∧ some k_ ≠ (.slice Ao88 t131.length co88 : Value).ownBlock) ∧ nan92 ≤ k_) ∧ some k_ ≠ (.slice Ao98 t144.length co98 : Value).ownBlock) ∧ k_ < nan97)) (KS_ HO140.out) hkp (fun k_ hk_ hs_ => absurd hk_.1.1.2 (Nat.not_le.2 hs_.1.1.1.2))) (fun k_ hk_ => hk_.1)); replace HO146 := Zz.mk (Kd.S_mono (Kd.S_keptB (ok := fun k_ => ((((((((True ∧ some k_ ≠ (.slice Ao64 t107.length co64 : Value).ownBlock) ∧ some k_ ≠ (.slice Ao65 t112.length co65 : Value).ownBlock) ∧ some k_ ≠ (.slice Ao89 t115.length co89 : Value).ownBlock) ∧ some k_ ≠ (.slice Ao75 t121.length co75 : Value).ownBlock) ∧ some k_ ≠ (.slice Ao84 t127.length co84 : Value).ownBlock) ∧ some k_ ≠ (.slice Ao88 t131.length co88 : Value).ownBlock) ∧ some k_ ≠ (.slice Ao93 t138.length co93 : Value).ownBlock) ∧ nan97 ≤ k_)) (KS_ HO146.out) hkp (fun k_ hk_ hs_ => absurd hk_.2 (Nat.not_le.2 hs_.1.2))) (fun k_ hk_ => hk_.1)); replace HB := Zz.mk (hb); (try clear hb hkp hy0)) | ((with_reducible refine gC_ (f := 15) rfl ?_); refine qHv (some 88) rfl rfl Try.func15 (by kernel_rfl) rfl #[.slice Ao88 t154.length co88, .int .i64 1] rfl (by (try simp only [List.map_toArray, List.map_cons, List.map_nil]); first | done | (rw [show t154.length = t131.length from (Kd.S_reads' HO133.out).1.symm] <;> rfl) | rfl | (simp only [List.length_drop, List.length_take]; rfl)) ?_; (with_reducible refine (z15.calls k _ _ t154 1 t155 _ ?side1 ?side2 A40.out).mono ?_); (case side1 => exact KC_ (Kd.S_reads' HO133.out).2.2); (case side2 => rw [show t154.length = t131.length from (Kd.S_reads' HO133.out).1.symm]; exact (Kd.S_reads' HO133.out).2.1); rintro e w' ⟨rfl, ⟨nd, rfl⟩⟩; refine ⟨_, rfl, ?_⟩))
          (try (rw [qFi w104]; generalize hq_ : World.drewN w104 _ = w104; replace HO109 : Zz (Kd.S (Kd.slice 2 (Kd.int .i64)) 40 w104 w.heap.size (fun k_ => some k_ ≠ (.slice Ao65 t112.length co65 : Value).ownBlock ∧ some k_ ≠ (.slice Ao89 t115.length co89 : Value).ownBlock ∧ some k_ ≠ (.slice Ao75 t121.length co75 : Value).ownBlock ∧ some k_ ≠ (.slice Ao84 t127.length co84 : Value).ownBlock ∧ some k_ ≠ (.slice Ao88 t131.length co88 : Value).ownBlock ∧ some k_ ≠ (.slice Ao93 t138.length co93 : Value).ownBlock ∧ some k_ ≠ (.slice Ao98 t144.length co98 : Value).ownBlock ∧ nan61 ≤ k_ ∧ k_ < nan63 ∧ k_ < nan67 ∧ k_ < nan70 ∧ k_ < nan78 ∧ k_ < nan87 ∧ k_ < nan92 ∧ k_ < nan97) (.slice Ao64 t107.length co64) t107) := ⟨by rw [← hq_]; exact (by refine SW_ ?_; exact Kd.S_mono HO109.out (fun _ hk => pj_ hk))⟩; replace HO114 : Zz (Kd.S (Kd.slice 2 (Kd.int .i64)) 40 w104 w.heap.size (fun k_ => some k_ ≠ (.slice Ao64 t107.length co64 : Value).ownBlock ∧ some k_ ≠ (.slice Ao89 t115.length co89 : Value).ownBlock ∧ some k_ ≠ (.slice Ao75 t121.length co75 : Value).ownBlock ∧ some k_ ≠ (.slice Ao84 t127.length co84 : Value).ownBlock ∧ some k_ ≠ (.slice Ao88 t131.length co88 : Value).ownBlock ∧ some k_ ≠ (.slice Ao93 t138.length co93 : Value).ownBlock ∧ some k_ ≠ (.slice Ao98 t144.length co98 : Value).ownBlock ∧ nan63 ≤ k_ ∧ k_ < nan67 ∧ k_ < nan70 ∧ k_ < nan78 ∧ k_ < nan87 ∧ k_ < nan92 ∧ k_ < nan97) (.slice Ao65 t112.length co65) t112) := ⟨by rw [← hq_]; exact (by refine SW_ ?_; exact Kd.S_mono HO114.out (fun _ hk => pj_ hk))⟩; replace HO117 : Zz (Kd.S (Kd.slice 2 (Kd.int .i64)) 40 w104 w.heap.size (fun k_ => some k_ ≠ (.slice Ao64 t107.length co64 : Value).ownBlock ∧ some k_ ≠ (.slice Ao65 t112.length co65 : Value).ownBlock ∧ some k_ ≠ (.slice Ao75 t121.length co75 : Value).ownBlock ∧ some k_ ≠ (.slice Ao84 t127.length co84 : Value).ownBlock ∧ some k_ ≠ (.slice Ao88 t131.length co88 : Value).ownBlock ∧ some k_ ≠ (.slice Ao93 t138.length co93 : Value).ownBlock ∧ some k_ ≠ (.slice Ao98 t144.length co98 : Value).ownBlock ∧ nan67 ≤ k_ ∧ k_ < nan70 ∧ k_ < nan78 ∧ k_ < nan87 ∧ k_ < nan92 ∧ k_ < nan97) (.slice Ao89 t115.length co89) t115) := ⟨by rw [← hq_]; exact (by refine SW_ ?_; exact Kd.S_mono HO117.out (fun _ hk => pj_ hk))⟩; replace HO123 : Zz (Kd.S (Kd.slice 2 (Kd.int .i64)) 40 w104 w.heap.size (fun k_ => some k_ ≠ (.slice Ao64 t107.length co64 : Value).ownBlock ∧ some k_ ≠ (.slice Ao65 t112.length co65 : Value).ownBlock ∧ some k_ ≠ (.slice Ao89 t115.length co89 : Value).ownBlock ∧ some k_ ≠ (.slice Ao84 t127.length co84 : Value).ownBlock ∧ some k_ ≠ (.slice Ao88 t131.length co88 : Value).ownBlock ∧ some k_ ≠ (.slice Ao93 t138.length co93 : Value).ownBlock ∧ some k_ ≠ (.slice Ao98 t144.length co98 : Value).ownBlock ∧ nan70 ≤ k_ ∧ k_ < nan78 ∧ k_ < nan87 ∧ k_ < nan92 ∧ k_ < nan97) (.slice Ao75 t121.length co75) t149) := ⟨by rw [← hq_]; exact (by refine SW_ ?_; exact Kd.S_mono HO123.out (fun _ hk => pj_ hk))⟩; replace HO129 : Zz (Kd.S (Kd.slice 2 (Kd.int .i64)) 40 w104 w.heap.size (fun k_ => some k_ ≠ (.slice Ao64 t107.length co64 : Value).ownBlock ∧ some k_ ≠ (.slice Ao65 t112.length co65 : Value).ownBlock ∧ some k_ ≠ (.slice Ao89 t115.length co89 : Value).ownBlock ∧ some k_ ≠ (.slice Ao75 t121.length co75 : Value).ownBlock ∧ some k_ ≠ (.slice Ao88 t131.length co88 : Value).ownBlock ∧ some k_ ≠ (.slice Ao93 t138.length co93 : Value).ownBlock ∧ some k_ ≠ (.slice Ao98 t144.length co98 : Value).ownBlock ∧ nan78 ≤ k_ ∧ k_ < nan87 ∧ k_ < nan92 ∧ k_ < nan97) (.slice Ao84 t127.length co84) t151) := ⟨by rw [← hq_]; exact (by refine SW_ ?_; exact Kd.S_mono HO129.out (fun _ hk => pj_ hk))⟩; replace HO133 : Zz (Kd.S (Kd.slice 2 (Kd.int .i64)) 40 w104 w.heap.size (fun k_ => some k_ ≠ (.slice Ao64 t107.length co64 : Value).ownBlock ∧ some k_ ≠ (.slice Ao65 t112.length co65 : Value).ownBlock ∧ some k_ ≠ (.slice Ao89 t115.length co89 : Value).ownBlock ∧ some k_ ≠ (.slice Ao75 t121.length co75 : Value).ownBlock ∧ some k_ ≠ (.slice Ao84 t127.length co84 : Value).ownBlock ∧ some k_ ≠ (.slice Ao93 t138.length co93 : Value).ownBlock ∧ some k_ ≠ (.slice Ao98 t144.length co98 : Value).ownBlock ∧ nan87 ≤ k_ ∧ k_ < nan92 ∧ k_ < nan97) (.slice Ao88 t131.length co88) t154) := ⟨by rw [← hq_]; exact (by refine SW_ ?_; exact Kd.S_mono HO133.out (fun _ hk => pj_ hk))⟩; replace HO140 : Zz (Kd.S (Kd.slice 2 (Kd.int .i64)) 40 w104 w.heap.size (fun k_ => some k_ ≠ (.slice Ao64 t107.length co64 : Value).ownBlock ∧ some k_ ≠ (.slice Ao65 t112.length co65 : Value).ownBlock ∧ some k_ ≠ (.slice Ao89 t115.length co89 : Value).ownBlock ∧ some k_ ≠ (.slice Ao75 t121.length co75 : Value).ownBlock ∧ some k_ ≠ (.slice Ao84 t127.length co84 : Value).ownBlock ∧ some k_ ≠ (.slice Ao88 t131.length co88 : Value).ownBlock ∧ some k_ ≠ (.slice Ao98 t144.length co98 : Value).ownBlock ∧ nan92 ≤ k_ ∧ k_ < nan97) (.slice Ao93 t138.length co93) t138) := ⟨by rw [← hq_]; exact (by refine SW_ ?_; exact Kd.S_mono HO140.out (fun _ hk => pj_ hk))⟩; replace HO146 : Zz (Kd.S (Kd.slice 2 (Kd.int .i64)) 40 w104 w.heap.size (fun k_ => some k_ ≠ (.slice Ao64 t107.length co64 : Value).ownBlock ∧ some k_ ≠ (.slice Ao65 t112.length co65 : Value).ownBlock ∧ some k_ ≠ (.slice Ao89 t115.length co89 : Value).ownBlock ∧ some k_ ≠ (.slice Ao75 t121.length co75 : Value).ownBlock ∧ some k_ ≠ (.slice Ao84 t127.length co84 : Value).ownBlock ∧ some k_ ≠ (.slice Ao88 t131.length co88 : Value).ownBlock ∧ some k_ ≠ (.slice Ao93 t138.length co93 : Value).ownBlock ∧ nan97 ≤ k_) (.slice Ao98 t144.length co98) t144) := ⟨by rw [← hq_]; exact (by refine SW_ ?_; exact Kd.S_mono HO146.out (fun _ hk => pj_ hk))⟩; replace BK101 : Zz (w104.heap[gb101]? = some (.cells #[.int .i64 a0_0, .int .i64 a0_1, .slice A0_2 l0_2.length c0_2] 24 (0, 0))) := ⟨by rw [← hq_]; exact (KB_ BK101.out)⟩; replace BK102 : Zz (w104.heap[gb102]? = some (.cells #[.int .i64 a1_0, .int .i64 a1_1, .slice A1_2 l1_2.length c1_2] 24 (0, 0))) := ⟨by rw [← hq_]; exact (KB_ BK102.out)⟩; replace BK124 : Zz (w104.heap[gb124]? = some (.cells #[.int .i64 t119, .int .i64 t120, .slice Ao75 t121.length co75] 28 (0, 0))) := ⟨by rw [← hq_]; exact (KB_ BK124.out)⟩; replace BK130 : Zz (w104.heap[gb130]? = some (.cells #[.int .i64 t125, .int .i64 t126, .slice Ao84 t127.length co84] 28 (0, 0))) := ⟨by rw [← hq_]; exact (KB_ BK130.out)⟩; replace HB : Zz (Below w.heap.size w w104) := ⟨by rw [← hq_]; exact (Bw4_ HB.out GE101.out GE102.out GE124.out GE130.out)⟩; (try clear hq_)))
          replace HO109 := Zz.mk (Kd.S_drew HO109.out)
          replace HO114 := Zz.mk (Kd.S_drew HO114.out)
          replace HO117 := Zz.mk (Kd.S_drew HO117.out)
          replace HO123 := Zz.mk (Kd.S_drew HO123.out)
          replace HO129 := Zz.mk (Kd.S_drew HO129.out)
          replace HO133 := Zz.mk (Kd.S_drew HO133.out)
          replace HO140 := Zz.mk (Kd.S_drew HO140.out)
          replace HO146 := Zz.mk (Kd.S_drew HO146.out)
          replace BK101 := Zz.mk (bD_ BK101.out)
          replace BK102 := Zz.mk (bD_ BK102.out)
          replace BK124 := Zz.mk (bD_ BK124.out)
          replace BK130 := Zz.mk (bD_ BK130.out)
          replace HB := Zz.mk (qAj HB.out)
          refine qBf (n := 10) (S := fun w' => w'.cell? ⟨gb101, 0, none⟩ = some (.int .i64 a0_0) ∧ w'.cell? ⟨gb101, 1, none⟩ = some (.int .i64 a0_1) ∧ w'.cell? ⟨gb101, 2, none⟩ = some (.slice A0_2 l0_2.length c0_2) ∧ w'.cell? ⟨gb102, 0, none⟩ = some (.int .i64 a1_0) ∧ w'.cell? ⟨gb102, 1, none⟩ = some (.int .i64 a1_1) ∧ w'.cell? ⟨gb102, 2, none⟩ = some (.slice A1_2 l1_2.length c1_2)) (ds := []) (tb_ 10 0) (by kernel_rfl) rfl rfl (Z3a_ BK101.out (Z3_ BK102.out)) (fun hHeld => ?_); refine qAv z3.tab31 z3.bits31 (fun HT_ HW_ => ?_)
          generalize w104.drew = w105 at HO109 HO114 HO117 HO123 HO129 HO133 HO140 HO146 BK101 BK102 BK124 BK130 HB hHeld ⊢
          refine TV_ (i := 0) (N := some 95) (tb_ 10 1) HT_ HW_ rfl rfl hHeld (by rintro w' ⟨s0, s1, s2, s3, s4, s5⟩; go_simp; with_reducible rfl) (h := ?_)
          refine TV_ (i := 2) (N := some 97) (tb_ 10 5) HT_ HW_ rfl rfl hHeld (by rintro w' ⟨s0, s1, s2, s3, s4, s5⟩; go_simp; with_reducible rfl) (h := ?_)
          refine one_ (i := 1) (N := some 96) (tb_ 10 7) rfl rfl (qAs HT_.out (by kernel_rfl)) (by decide) (fun K hK => ?_)
          refine GO_ Try.func9 #[.agg #[.int .i64 a0_0, .int .i64 a0_1, .slice A0_2 l0_2.length c0_2]] (h := ?_)
          with_reducible refine (z9.calls k a0_0 a0_1 _ _ l0_2 t156 t157 t158 _ ?side1 ?side2 A43.out).mono ?_
          (case side1 => exact KC_ (Kd.C_below HR0_2.out HB.out))
          (case side2 => exact HC0_2.out)
          rintro e w106 ⟨v159, rfl, ho0, hb⟩
          refine ⟨_, rfl, ?_⟩
          obtain ⟨nan107, hnan107⟩ := Kd.size_letter hb
          have HO160 := Zz.mk (Kd.S_lower (Kd.S_geN (Kd.S_new' (Kd.S_new' (Kd.S_new' (Kd.S_new' (Kd.S_new' (Kd.S_new' (Kd.S_new' (Kd.S_new' ho0 (Kd.S_lt (KS_ HO109.out))) (Kd.S_lt (KS_ HO114.out))) (Kd.S_lt (KS_ HO117.out))) (Kd.S_lt (KS_ HO123.out))) (Kd.S_lt (KS_ HO129.out))) (Kd.S_lt (KS_ HO133.out))) (Kd.S_lt (KS_ HO140.out))) (Kd.S_lt (KS_ HO146.out))) hnan107) (bS_ (Bw4_ HB.out GE101.out GE102.out GE124.out GE130.out)))
          replace HO109 := Zz.mk (tl_ HO109.out hb hnan107 ho0)
          replace HO114 := Zz.mk (tl_ HO114.out hb hnan107 ho0)
          replace HO117 := Zz.mk (tl_ HO117.out hb hnan107 ho0)
          replace HO123 := Zz.mk (tl_ HO123.out hb hnan107 ho0)
          replace HO129 := Zz.mk (tl_ HO129.out hb hnan107 ho0)
          replace HO133 := Zz.mk (tl_ HO133.out hb hnan107 ho0)
          replace HO140 := Zz.mk (tl_ HO140.out hb hnan107 ho0)
          replace HO146 := Zz.mk (tl_ HO146.out hb hnan107 ho0)
          replace BK101 := Zz.mk (kb_ BK101.out hb)
          replace BK102 := Zz.mk (kb_ BK102.out hb)
          replace BK124 := Zz.mk (kb_ BK124.out hb)
          replace BK130 := Zz.mk (kb_ BK130.out hb)
          replace HB := Zz.mk (bT_ (Bw4_ HB.out GE101.out GE102.out GE124.out GE130.out) hb)
          (try clear hb);(try clear hk);(try clear ho0)
          refine hK.out _ _ (Z3a_ BK101.out (Z3_ BK102.out)) (fun hHeld => ?_)
          clear hK K
          refine NM_ (N := (some 96)) (h := ?_)
          refine one_ (i := 3) (N := some 98) (tb_ 10 15) rfl rfl (qAs HT_.out (by kernel_rfl)) (by decide) (fun K hK => ?_)
          refine GO_ Try.func9 #[.agg #[.int .i64 a1_0, .int .i64 a1_1, .slice A1_2 l1_2.length c1_2]] (h := ?_)
          with_reducible refine (z9.calls k a1_0 a1_1 _ _ l1_2 t161 t162 t163 _ ?side1 ?side2 A44.out).mono ?_
          (case side1 => exact KC_ (Kd.C_below HR1_2.out HB.out))
          (case side2 => exact HC1_2.out)
          rintro e w108 ⟨v164, rfl, ho0, hb⟩
          refine ⟨_, rfl, ?_⟩
          obtain ⟨nan109, hnan109⟩ := Kd.size_letter hb
          have HO165 := Zz.mk (Kd.S_lower (Kd.S_geN (Kd.S_new' (Kd.S_new' (Kd.S_new' (Kd.S_new' (Kd.S_new' (Kd.S_new' (Kd.S_new' (Kd.S_new' (Kd.S_new' ho0 (Kd.S_lt (KS_ HO109.out))) (Kd.S_lt (KS_ HO114.out))) (Kd.S_lt (KS_ HO117.out))) (Kd.S_lt (KS_ HO123.out))) (Kd.S_lt (KS_ HO129.out))) (Kd.S_lt (KS_ HO133.out))) (Kd.S_lt (KS_ HO140.out))) (Kd.S_lt (KS_ HO146.out))) (Kd.S_lt (KS_ HO160.out))) hnan109) (bS_ (Bw4_ HB.out GE101.out GE102.out GE124.out GE130.out)))
          replace HO109 := Zz.mk (tl_ HO109.out hb hnan109 ho0)
          replace HO114 := Zz.mk (tl_ HO114.out hb hnan109 ho0)
          replace HO117 := Zz.mk (tl_ HO117.out hb hnan109 ho0)
          replace HO123 := Zz.mk (tl_ HO123.out hb hnan109 ho0)
          replace HO129 := Zz.mk (tl_ HO129.out hb hnan109 ho0)
          replace HO133 := Zz.mk (tl_ HO133.out hb hnan109 ho0)
          replace HO140 := Zz.mk (tl_ HO140.out hb hnan109 ho0)
          replace HO146 := Zz.mk (tl_ HO146.out hb hnan109 ho0)
          replace HO160 := Zz.mk (tl_ HO160.out hb hnan109 ho0)
          replace BK101 := Zz.mk (kb_ BK101.out hb)
          replace BK102 := Zz.mk (kb_ BK102.out hb)
          replace BK124 := Zz.mk (kb_ BK124.out hb)
          replace BK130 := Zz.mk (kb_ BK130.out hb)
          replace HB := Zz.mk (bT_ (Bw4_ HB.out GE101.out GE102.out GE124.out GE130.out) hb)
          (try clear hb);(try clear hk);(try clear ho0)
          obtain ⟨Ao110, co110, eo110⟩ := Kd.S_slice HO160.out
          (first | subst eo110 | obtain ⟨rfl, rfl⟩ := sl_ eo110)
          obtain ⟨Ao111, co111, eo111⟩ := Kd.S_slice HO165.out
          (first | subst eo111 | obtain ⟨rfl, rfl⟩ := sl_ eo111)
          refine hK.out _ _ (Z3a_ BK101.out (Z3_ BK102.out)) (fun hHeld => ?_)
          clear hK K
          refine NM_ (N := (some 98)) (h := ?_)
          refine one_ (i := 4) (N := some 99) (tb_ 10 31) rfl rfl (qAs HT_.out (by kernel_rfl)) (by decide) (fun K hK => ?_)
          refine GO_ Try.func10 #[.agg #[.int .i64 t156, .int .i64 t157, .slice Ao110 t158.length co110], .agg #[.int .i64 t161, .int .i64 t162, .slice Ao111 t163.length co111]] (h := ?_)
          with_reducible refine (z10.calls k t156 t157 _ _ t158 t161 t162 _ _ t163 t166 t169 _ ?side1 ?side2 ?side3 ?side4 A45.out).mono ?_
          (case side1 => exact KC_ (Kd.S_reads' HO160.out).2.2)
          (case side2 => exact (Kd.S_reads' HO160.out).2.1)
          (case side3 => exact KC_ (Kd.S_reads' HO165.out).2.2)
          (case side4 => exact (Kd.S_reads' HO165.out).2.1)
          rintro e w112 ⟨v167, rfl, ho0, hb⟩
          refine ⟨_, rfl, ?_⟩
          obtain ⟨nan113, hnan113⟩ := Kd.size_letter hb
          have HO168 := Zz.mk (Kd.S_lower (Kd.S_geN (Kd.S_new' (Kd.S_new' (Kd.S_new' (Kd.S_new' (Kd.S_new' (Kd.S_new' (Kd.S_new' (Kd.S_new' (Kd.S_new' (Kd.S_new' ho0 (Kd.S_lt (KS_ HO109.out))) (Kd.S_lt (KS_ HO114.out))) (Kd.S_lt (KS_ HO117.out))) (Kd.S_lt (KS_ HO123.out))) (Kd.S_lt (KS_ HO129.out))) (Kd.S_lt (KS_ HO133.out))) (Kd.S_lt (KS_ HO140.out))) (Kd.S_lt (KS_ HO146.out))) (Kd.S_lt (KS_ HO160.out))) (Kd.S_lt (KS_ HO165.out))) hnan113) (bS_ (Bw4_ HB.out GE101.out GE102.out GE124.out GE130.out)))
          replace HO109 := Zz.mk (tl_ HO109.out hb hnan113 ho0)
          replace HO114 := Zz.mk (tl_ HO114.out hb hnan113 ho0)
          replace HO117 := Zz.mk (tl_ HO117.out hb hnan113 ho0)
          replace HO123 := Zz.mk (tl_ HO123.out hb hnan113 ho0)
          replace HO129 := Zz.mk (tl_ HO129.out hb hnan113 ho0)
          replace HO133 := Zz.mk (tl_ HO133.out hb hnan113 ho0)
          replace HO140 := Zz.mk (tl_ HO140.out hb hnan113 ho0)
          replace HO146 := Zz.mk (tl_ HO146.out hb hnan113 ho0)
          replace HO160 := Zz.mk (tl_ HO160.out hb hnan113 ho0)
          replace HO165 := Zz.mk (tl_ HO165.out hb hnan113 ho0)
          replace BK101 := Zz.mk (kb_ BK101.out hb)
          replace BK102 := Zz.mk (kb_ BK102.out hb)
          replace BK124 := Zz.mk (kb_ BK124.out hb)
          replace BK130 := Zz.mk (kb_ BK130.out hb)
          replace HB := Zz.mk (bT_ (Bw4_ HB.out GE101.out GE102.out GE124.out GE130.out) hb)
          (try clear hb);(try clear hk);(try clear ho0)
          refine hK.out _ _ (Z3a_ BK101.out (Z3_ BK102.out)) (fun hHeld => ?_)
          clear hK K
          refine NM_ (N := (some 99)) (h := ?_)
          refine PX_ 5 94 (tb_ 10 63) HT_ rfl rfl ?_
          refine PX_ 6 100 (tb_ 10 127) HT_ rfl rfl ?_
          refine PX_ 7 101 (tb_ 10 255) HT_ rfl rfl ?_
          refine PX_ 8 15 (tb_ 10 511) HT_ rfl rfl ?_
          refine PX_ 9 16 (tb_ 10 1023) HT_ rfl rfl ?_
          refine qB0 (qA4 HT_.out (by kernel_rfl)) ?_
          obtain ⟨Ao114, co114, eo114⟩ := Kd.S_slice HO168.out
          subst eo114
          try go_wp2_with (first | ((with_reducible refine gC_ (f := 11) rfl ?_); refine GL_ (some 104) rfl rfl Try.func11 #[.slice Ao114 t166.length co114, .slice Ao89 t115.length co89] rfl (h := ?_); (with_reducible refine (z11.calls k _ _ t166 _ _ t115 true _ ?side1 ?side2 ?side3 ?side4 A46.out).mono ?_); (case side1 => exact KC_ (Kd.S_reads' HO168.out).2.2); (case side2 => exact (Kd.S_reads' HO168.out).2.1); (case side3 => exact KC_ (Kd.S_reads' HO117.out).2.2); (case side4 => exact (Kd.S_reads' HO117.out).2.1); rintro e w' ⟨rfl, ⟨nd, rfl⟩⟩; refine ⟨_, rfl, ?_⟩) | ((with_reducible refine gC_ (f := 15) rfl ?_); refine qHv (some 113) rfl rfl Try.func15 (by kernel_rfl) rfl #[.slice Ao88 t154.length co88, .int .i64 1] rfl (by (try simp only [List.map_toArray, List.map_cons, List.map_nil]); first | done | (rw [show t154.length = t131.length from (Kd.S_reads' HO133.out).1.symm] <;> rfl) | rfl | (simp only [List.length_drop, List.length_take]; rfl)) ?_; (with_reducible refine (z15.calls k _ _ t154 1 t171 _ ?side1 ?side2 A49.out).mono ?_); (case side1 => exact KC_ (Kd.S_reads' HO133.out).2.2); (case side2 => rw [show t154.length = t131.length from (Kd.S_reads' HO133.out).1.symm]; exact (Kd.S_reads' HO133.out).2.1); rintro e w' ⟨rfl, ⟨nd, rfl⟩⟩; refine ⟨_, rfl, ?_⟩))
          go_ret
          exact ⟨F_, by repeat (first | (with_reducible first | exact HB.out | apply qAu | apply qAr | apply qAj | refine qAp ?_ GE101.out | refine qAp ?_ GE102.out | refine qAp ?_ GE124.out | refine qAp ?_ GE130.out) | exact HB.out)⟩
         rw [if_neg c51] at H
         have c51b0 : (t171 == t153) = false := beq_eq_false_iff_ne.mpr c51
         have c51b1 : (t171 != t153) = true := bne_iff_ne.mpr c51
         exact absurd (H.trans (congrArg some ht_)) (by simp)
        rw [if_neg c48] at H
        have c48b0 : (t169 == t118) = false := beq_eq_false_iff_ne.mpr c48
        have c48b1 : (t169 != t118) = true := bne_iff_ne.mpr c48
        exact absurd (H.trans (congrArg some ht_)) (by simp)
       replace c47 := Bool.eq_false_iff.mpr c47
       subst c47
       replace H := N_ H
       exact absurd (H.trans (congrArg some ht_)) (by simp)
      rw [if_neg c42] at H
      have c42b0 : (t155 == t153) = false := beq_eq_false_iff_ne.mpr c42
      have c42b1 : (t155 != t153) = true := bne_iff_ne.mpr c42
      exact absurd (H.trans (congrArg some ht_)) (by simp)
     replace c38 := Bool.eq_false_iff.mpr c38
     subst c38
     replace H := N_ H
     exact absurd (H.trans (congrArg some ht_)) (by simp)
    replace c33 := Bool.eq_false_iff.mpr c33
    subst c33
    replace H := N_ H
    exact absurd (H.trans (congrArg some ht_)) (by simp)
   replace c30 := Bool.eq_false_iff.mpr c30
   subst c30
   replace H := N_ H
   exact absurd (H.trans (congrArg some ht_)) (by simp)
  rw [if_neg c27] at H
  have c27b0 : (t134 == t118) = false := beq_eq_false_iff_ne.mpr c27
  have c27b1 : (t134 != t118) = true := bne_iff_ne.mpr c27
  exact absurd (H.trans (congrArg some ht_)) (by simp)
 replace c26 := Bool.eq_false_iff.mpr c26
 subst c26
 replace H := N_ H
 exact absurd (H.trans (congrArg some ht_)) (by simp)
end Go.Proofs.Ytkgajpngeglkmaa.B
