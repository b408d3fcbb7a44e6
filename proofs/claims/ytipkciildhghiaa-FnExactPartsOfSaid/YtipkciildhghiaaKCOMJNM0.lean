/- Printed proofs of functions of the program and of the reference, by a program of this work over the kit's printer. -/
import Derived.Test.YtipkciildhghiaaKKFMIHE0
import Derived.Test.YtipkciildhghiaaKOANLHA0
import Derived.Test.YtipkciildhghiaaKPFOJIL0
import Derived.Test.YtipkciildhghiaaKW0
namespace Go.Proofs.Ytipkciildhghiaa.B
open Go.RowKit Go.Proofs.YtipkciildhghiaaW.PrintWords Go.Proofs.YtipkciildhghiaaW.PrintLast Go.Proofs.YtipkciildhghiaaW.PrintMore
attribute [local go_sem] max2_int min2_int max_two min_two max_three min_three max_four min_four
set_option linter.unusedVariables false
set_option linter.unusedSimpArgs false
def z3.f (k : Nat) (l0_0 : List (List Int)) : Option (Bool) := (z15.f k l0_0 1048576).bind fun t102 => (if t102 < 0 then (some true) else ((z17.f k l0_0).bind fun t103 => ((z16.f k t103).bind fun bt106 => ((z17.f k l0_0).bind fun t110 => ((z18.f k t110).bind fun bt114 => ((z19.f k bt114.1 bt106.1).bind fun t118 => (if t118 = true then (if bt114.2 = bt106.2 then ((z17.f k l0_0).bind fun t119 => ((z20.f k t110 t119).bind fun t122 => (if t122 = true then ((laws_markComplex.f t110 1).bind fun bt123 => (if bt123.1 < 0 then (some false) else ((z19.f k bt114.1 bt106.1).bind fun t125 => (if t125 = true then ((z22.f k bt114.1 1).bind fun bt126 => ((z23.f k bt126.2 1).bind fun t128 => (if t128 < 0 then (some false) else (if t128 = bt126.1 then ((z17.f k l0_0).bind fun t129 => ((z18.f k t129).bind fun bt132 => ((z19.f k bt132.1 bt106.1).bind fun t136 => (if t136 = true then (if bt132.2 = bt106.2 then ((z23.f k bt126.2 1).bind fun t137 => (if t137 < 0 then (some false) else (if t137 = bt126.1 then (some true) else (some false)))) else (some false)) else (some false))))) else (some false))))) else (some false))))) else (some false)))) else (some false)) else (some false))))))))
set_option maxHeartbeats 8000000 in
set_option maxRecDepth 100000 in
theorem z3.calls (k : Nat) (A0_0 : Option Addr) (c0_0 : Nat) (l0_0 : List (List Int)) (r : Bool) (w : World) (hr0_0 : Kd.C (Kd.slice 2 (Kd.int .i64)) w A0_0 l0_0.length l0_0) (hc0_0 : l0_0.length ≤ c0_0) (h : z3.f k l0_0 = some r) (ht_ : r = true) :
  Calls Try.prog 3 #[.agg #[.slice A0_0 l0_0.length c0_0]] w fun e w' => e = .returned (.bool r) ∧ Below w.heap.size w w' := by
 have hu24 := Try.underlying24
 have hu29 := Try.underlying29
 have HR0_0 := Aside0.mk hr0_0
 have HC0_0 := Aside0.mk hc0_0
 clear hr0_0 hc0_0
 have HB := Aside0.mk (Below.refl w.heap.size w)
 have H : ((z15.f k l0_0 1048576).bind fun t102 => (if t102 < 0 then (some true) else ((z17.f k l0_0).bind fun t103 => ((z16.f k t103).bind fun bt106 => ((z17.f k l0_0).bind fun t110 => ((z18.f k t110).bind fun bt114 => ((z19.f k bt114.1 bt106.1).bind fun t118 => (if t118 = true then (if bt114.2 = bt106.2 then ((z17.f k l0_0).bind fun t119 => ((z20.f k t110 t119).bind fun t122 => (if t122 = true then ((laws_markComplex.f t110 1).bind fun bt123 => (if bt123.1 < 0 then (some false) else ((z19.f k bt114.1 bt106.1).bind fun t125 => (if t125 = true then ((z22.f k bt114.1 1).bind fun bt126 => ((z23.f k bt126.2 1).bind fun t128 => (if t128 < 0 then (some false) else (if t128 = bt126.1 then ((z17.f k l0_0).bind fun t129 => ((z18.f k t129).bind fun bt132 => ((z19.f k bt132.1 bt106.1).bind fun t136 => (if t136 = true then (if bt132.2 = bt106.2 then ((z23.f k bt126.2 1).bind fun t137 => (if t137 < 0 then (some false) else (if t137 = bt126.1 then (some true) else (some false)))) else (some false)) else (some false))))) else (some false))))) else (some false))))) else (some false)))) else (some false)) else (some false))))))))) = some r := h
 clear h
 replace H := Option.bind_eq_some_iff.mp H
 obtain ⟨t102, A20, H⟩ := H
 have A2 := Aside0.mk A20
 clear A20
 by_cases c3 : t102 < 0
 ·rw [if_pos c3] at H
  have c3b0 : decide (t102 < 0) = true := decide_eq_true c3
  clear c3
  obtain rfl := Option.some.inj H
  go_enter Try.func3, Try.ntmps3
  go_wp2_with (first | ((with_reducible refine gate_dst (N := 1) rfl ?_); refine box_event ?hg (N := 1) ?hd (cs := #[.slice A0_0 l0_0.length c0_0]) (t := 24) ?hr ?_; (case hd => rfl); (case hg => rfl); (case hr => first | (go_simp; done) | (go_simp; rfl)); intro gb101 hg w4 hbox hb; have n0_ := Aside0.mk (below_step (B_ HB.out) hb); have n1_ := Aside0.mk (hbox); have n2_ := Aside0.mk ((by rw [hg]; exact (below_size (B_ HB.out)) : w.heap.size ≤ gb101)); have n3_ := Aside0.mk ((by rw [hg]; exact (below_size (B_ HB.out)) : w.heap.size ≤ gb101)); clear HB; have HB := n0_; have BK101 := n1_; have GW101 := n2_; have GE101 := n3_; clear n0_ n1_ n2_ n3_; clear hb hbox hg; have hcz5_0 : w4.cell? ⟨gb101, 0, none⟩ = some (.slice A0_0 l0_0.length c0_0) := (blk_cell BK101.out 0).trans rfl; have hfz5_0 := blk_frozen BK101.out 0) | ((with_reducible refine gate_callee (f := 15) rfl ?_); refine goesL_ (some 16) rfl rfl Try.func15 (by kernel_rfl) rfl #[.agg #[.slice A0_0 l0_0.length c0_0], .int .i64 1048576] rfl (by (try simp only [List.map_toArray, List.map_cons, List.map_nil]); first | done | rfl | (simp only [List.length_drop, List.length_take]; rfl)) ?_; (with_reducible refine (z15.calls k _ _ l0_0 1048576 t102 _ ?side1 ?side2 A2.out).mono ?_); (case side1 => exact KC_ (Kd.C_below HR0_0.out HB.out)); (case side2 => exact HC0_0.out); rintro e w6 ⟨rfl, hb⟩; refine ⟨_, rfl, ?_⟩; replace BK101 := Aside0.mk (blk_below (g := gb101) (o := .cells #[.slice A0_0 l0_0.length c0_0] 24 (0, 0)) (KB_ BK101.out) hb); replace HB := Aside0.mk (below_step (B1_ HB.out GE101.out) hb); (try clear hb); (try clear hb2); (try clear hk); (try clear hi)))
  go_ret
  exact ⟨F_, B1_ HB.out GE101.out⟩
 ·rw [if_neg c3] at H
  have c3b0 : decide (t102 < 0) = false := decide_eq_false c3
  clear c3
  replace H := Option.bind_eq_some_iff.mp H
  obtain ⟨t103, A70, H⟩ := H
  have A7 := Aside0.mk A70
  clear A70
  replace H := Option.bind_eq_some_iff.mp H
  obtain ⟨⟨t106, t109⟩, A80, H⟩ := H
  try dsimp only at H
  have A8 := Aside0.mk A80
  clear A80
  replace H := Option.bind_eq_some_iff.mp H
  obtain ⟨t110, A90, H⟩ := H
  have A9 := Aside0.mk A90
  clear A90
  replace H := Option.bind_eq_some_iff.mp H
  obtain ⟨⟨t114, t117⟩, A100, H⟩ := H
  try dsimp only at H
  have A10 := Aside0.mk A100
  clear A100
  replace H := Option.bind_eq_some_iff.mp H
  obtain ⟨t118, A110, H⟩ := H
  have A11 := Aside0.mk A110
  clear A110
  by_cases c12 : t118 = true
  ·subst c12
   replace H := T_ H
   by_cases c13 : t117 = t109
   ·rw [if_pos c13] at H
    have c13b0 : (t117 == t109) = true := beq_iff_eq.mpr c13
    have c13b1 : (t117 != t109) = false := bne_eq_false_iff_eq.mpr c13
    clear c13
    replace H := Option.bind_eq_some_iff.mp H
    obtain ⟨t119, A140, H⟩ := H
    have A14 := Aside0.mk A140
    clear A140
    replace H := Option.bind_eq_some_iff.mp H
    obtain ⟨t122, A150, H⟩ := H
    have A15 := Aside0.mk A150
    clear A150
    by_cases c16 : t122 = true
    ·subst c16
     replace H := T_ H
     replace H := Option.bind_eq_some_iff.mp H
     obtain ⟨⟨t123, t124⟩, A170, H⟩ := H
     try dsimp only at H
     have A17 := Aside0.mk A170
     clear A170
     by_cases c18 : t123 < 0
     ·rw [if_pos c18] at H
      have c18b0 : decide (t123 < 0) = true := decide_eq_true c18
      clear c18
      exact absurd (H.trans (congrArg some ht_)) (by simp)
     ·rw [if_neg c18] at H
      have c18b0 : decide (t123 < 0) = false := decide_eq_false c18
      clear c18
      replace H := Option.bind_eq_some_iff.mp H
      obtain ⟨t125, A190, H⟩ := H
      have A19 := Aside0.mk A190
      clear A190
      by_cases c20 : t125 = true
      ·subst c20
       replace H := T_ H
       replace H := Option.bind_eq_some_iff.mp H
       obtain ⟨⟨t126, t127⟩, A210, H⟩ := H
       try dsimp only at H
       have A21 := Aside0.mk A210
       clear A210
       replace H := Option.bind_eq_some_iff.mp H
       obtain ⟨t128, A220, H⟩ := H
       have A22 := Aside0.mk A220
       clear A220
       by_cases c23 : t128 < 0
       ·rw [if_pos c23] at H
        have c23b0 : decide (t128 < 0) = true := decide_eq_true c23
        clear c23
        exact absurd (H.trans (congrArg some ht_)) (by simp)
       ·rw [if_neg c23] at H
        have c23b0 : decide (t128 < 0) = false := decide_eq_false c23
        clear c23
        by_cases c24 : t128 = t126
        ·rw [if_pos c24] at H
         have c24b0 : (t128 == t126) = true := beq_iff_eq.mpr c24
         have c24b1 : (t128 != t126) = false := bne_eq_false_iff_eq.mpr c24
         clear c24
         replace H := Option.bind_eq_some_iff.mp H
         obtain ⟨t129, A250, H⟩ := H
         have A25 := Aside0.mk A250
         clear A250
         replace H := Option.bind_eq_some_iff.mp H
         obtain ⟨⟨t132, t135⟩, A260, H⟩ := H
         try dsimp only at H
         have A26 := Aside0.mk A260
         clear A260
         replace H := Option.bind_eq_some_iff.mp H
         obtain ⟨t136, A270, H⟩ := H
         have A27 := Aside0.mk A270
         clear A270
         by_cases c28 : t136 = true
         ·subst c28
          replace H := T_ H
          by_cases c29 : t135 = t109
          ·rw [if_pos c29] at H
           have c29b0 : (t135 == t109) = true := beq_iff_eq.mpr c29
           have c29b1 : (t135 != t109) = false := bne_eq_false_iff_eq.mpr c29
           clear c29
           replace H := Option.bind_eq_some_iff.mp H
           obtain ⟨t137, A300, H⟩ := H
           have A30 := Aside0.mk A300
           clear A300
           by_cases c31 : t137 < 0
           ·rw [if_pos c31] at H
            have c31b0 : decide (t137 < 0) = true := decide_eq_true c31
            clear c31
            exact absurd (H.trans (congrArg some ht_)) (by simp)
           ·rw [if_neg c31] at H
            have c31b0 : decide (t137 < 0) = false := decide_eq_false c31
            clear c31
            by_cases c32 : t137 = t126
            ·rw [if_pos c32] at H
             have c32b0 : (t137 == t126) = true := beq_iff_eq.mpr c32
             have c32b1 : (t137 != t126) = false := bne_eq_false_iff_eq.mpr c32
             clear c32
             obtain rfl := Option.some.inj H
             go_enter Try.func3, Try.ntmps3
             try go_wp2_with (first | ((with_reducible refine gate_dst (N := 1) rfl ?_); refine box_event ?hg (N := 1) ?hd (cs := #[.slice A0_0 l0_0.length c0_0]) (t := 24) ?hr ?_; (case hd => rfl); (case hg => rfl); (case hr => first | (go_simp; done) | (go_simp; rfl)); intro gb101 hg w33 hbox hb; have n0_ := Aside0.mk (below_step (B_ HB.out) hb); have n1_ := Aside0.mk (hbox); have n2_ := Aside0.mk ((by rw [hg]; exact (below_size (B_ HB.out)) : w.heap.size ≤ gb101)); have n3_ := Aside0.mk ((by rw [hg]; exact (below_size (B_ HB.out)) : w.heap.size ≤ gb101)); clear HB; have HB := n0_; have BK101 := n1_; have GW101 := n2_; have GE101 := n3_; clear n0_ n1_ n2_ n3_; clear hb hbox hg; have hcz34_0 : w33.cell? ⟨gb101, 0, none⟩ = some (.slice A0_0 l0_0.length c0_0) := (blk_cell BK101.out 0).trans rfl; have hfz34_0 := blk_frozen BK101.out 0) | ((with_reducible refine gate_callee (f := 15) rfl ?_); refine goesL_ (some 16) rfl rfl Try.func15 (by kernel_rfl) rfl #[.agg #[.slice A0_0 l0_0.length c0_0], .int .i64 1048576] rfl (by (try simp only [List.map_toArray, List.map_cons, List.map_nil]); first | done | rfl | (simp only [List.length_drop, List.length_take]; rfl)) ?_; (with_reducible refine (z15.calls k _ _ l0_0 1048576 t102 _ ?side1 ?side2 A2.out).mono ?_); (case side1 => exact KC_ (Kd.C_below HR0_0.out HB.out)); (case side2 => exact HC0_0.out); rintro e w35 ⟨rfl, hb⟩; refine ⟨_, rfl, ?_⟩; replace BK101 := Aside0.mk (blk_below (g := gb101) (o := .cells #[.slice A0_0 l0_0.length c0_0] 24 (0, 0)) (KB_ BK101.out) hb); replace HB := Aside0.mk (below_step (B1_ HB.out GE101.out) hb); (try clear hb); (try clear hb2); (try clear hk); (try clear hi); have hcz36_0 : w35.cell? ⟨gb101, 0, none⟩ = some (.slice A0_0 l0_0.length c0_0) := (blk_cell BK101.out 0).trans rfl; have hfz36_0 := blk_frozen BK101.out 0) | ((with_reducible refine gate_callee (f := 17) rfl ?_); refine goesL_ (some 21) rfl rfl Try.func17 (by kernel_rfl) rfl #[.agg #[.slice A0_0 l0_0.length c0_0]] rfl (by (try simp only [List.map_toArray, List.map_cons, List.map_nil]); first | done | rfl | (simp only [List.length_drop, List.length_take]; rfl)) ?_; (with_reducible refine (z17.calls k _ _ l0_0 t103 _ ?side1 ?side2 A7.out).mono ?_); (case side1 => exact KC_ (Kd.C_below HR0_0.out HB.out)); (case side2 => exact HC0_0.out); rintro e w37 ⟨v104, rfl, ho0, hb⟩; refine ⟨_, rfl, ?_⟩; obtain ⟨nan38, hnan38⟩ := Kd.size_letter hb; have HO105 := Aside0.mk (Kd.S_lower (Kd.S_geN ho0 hnan38) (below_size (B1_ HB.out GE101.out))); replace BK101 := Aside0.mk (blk_below (g := gb101) (o := .cells #[.slice A0_0 l0_0.length c0_0] 24 (0, 0)) (KB_ BK101.out) hb); replace HB := Aside0.mk (below_step (B1_ HB.out GE101.out) hb); (try clear hb); (try clear hb2); (try clear hk); (try clear hi); (try clear ho0); obtain ⟨Ao39, co39, eo39⟩ := Kd.S_slice HO105.out; subst eo39) | ((with_reducible refine gate_callee (f := 16) rfl ?_); refine goesL_ (some 22) rfl rfl Try.func16 (by kernel_rfl) rfl #[.agg #[.slice Ao39 t103.length co39]] rfl (by (try simp only [List.map_toArray, List.map_cons, List.map_nil]); first | done | rfl | (simp only [List.length_drop, List.length_take]; rfl)) ?_; (with_reducible refine (z16.calls k _ _ t103 t106 t109 _ ?side1 ?side2 A8.out).mono ?_); (case side1 => exact KC_ (Kd.S_reads' HO105.out).2.2); (case side2 => exact (Kd.S_reads' HO105.out).2.1); rintro e w40 ⟨v107, rfl, ho0, hb⟩; refine ⟨_, rfl, ?_⟩; obtain ⟨nan41, hnan41⟩ := Kd.size_letter hb; replace HO105 := Aside0.mk (Kd.S_told (Kd.S_oldN (KS_ HO105.out) hb hnan41) (Kd.R_baseN ho0 hnan41)); have HO108 := Aside0.mk (Kd.R_lower (Kd.R_geN ho0 hnan41) (below_size (B1_ HB.out GE101.out))); replace BK101 := Aside0.mk (blk_below (g := gb101) (o := .cells #[.slice A0_0 l0_0.length c0_0] 24 (0, 0)) (KB_ BK101.out) hb); replace HB := Aside0.mk (below_step (B1_ HB.out GE101.out) hb); (try clear hb); (try clear hb2); (try clear hk); (try clear hi); (try clear ho0); have hcz42_0 : w40.cell? ⟨gb101, 0, none⟩ = some (.slice A0_0 l0_0.length c0_0) := (blk_cell BK101.out 0).trans rfl; have hfz42_0 := blk_frozen BK101.out 0) | ((with_reducible refine gate_callee (f := 17) rfl ?_); refine goesL_ (some 26) rfl rfl Try.func17 (by kernel_rfl) rfl #[.agg #[.slice A0_0 l0_0.length c0_0]] rfl (by (try simp only [List.map_toArray, List.map_cons, List.map_nil]); first | done | rfl | (simp only [List.length_drop, List.length_take]; rfl)) ?_; (with_reducible refine (z17.calls k _ _ l0_0 t110 _ ?side1 ?side2 A9.out).mono ?_); (case side1 => exact KC_ (Kd.C_below HR0_0.out HB.out)); (case side2 => exact HC0_0.out); rintro e w43 ⟨v111, rfl, ho0, hb⟩; refine ⟨_, rfl, ?_⟩; obtain ⟨nan44, hnan44⟩ := Kd.size_letter hb; have n0_ := Aside0.mk (Kd.S_told (Kd.S_oldN (KS_ HO105.out) hb hnan44) (Kd.S_baseN ho0 hnan44)); have n1_ := Aside0.mk (Kd.R_oldN (KR_ HO108.out) hb hnan44); have n2_ := Aside0.mk (Kd.S_lower (Kd.S_geN (Kd.S_new' (Kd.S_new' ho0 (Kd.S_lt (KS_ HO105.out))) (Kd.R_lt (KR_ HO108.out))) hnan44) (below_size (B1_ HB.out GE101.out))); have n3_ := Aside0.mk (blk_below (g := gb101) (o := .cells #[.slice A0_0 l0_0.length c0_0] 24 (0, 0)) (KB_ BK101.out) hb); have n4_ := Aside0.mk (below_step (B1_ HB.out GE101.out) hb); clear HO105; clear HO108; clear BK101; clear HB; have HO105 := n0_; have HO108 := n1_; have HO112 := n2_; have BK101 := n3_; have HB := n4_; clear n0_ n1_ n2_ n3_ n4_; (try clear hb); (try clear hb2); (try clear hk); (try clear hi); (try clear ho0)) | ((with_reducible refine gate_dst (N := 6) rfl ?_); refine box_event ?hg (N := 6) ?hd (cs := #[.slice none 0 0]) (t := 29) ?hr ?_; (case hd => rfl); (case hg => rfl); (case hr => first | (go_simp; done) | (go_simp; rfl)); intro gb113 hg w45 hbox hb; have n0_ := Aside0.mk (Kd.S_below (KS_ HO105.out) hb); have n1_ := Aside0.mk (Kd.R_below (KR_ HO108.out) hb); have n2_ := Aside0.mk (Kd.S_below (KS_ HO112.out) hb); have n3_ := Aside0.mk (blk_below (g := gb101) (o := .cells #[.slice A0_0 l0_0.length c0_0] 24 (0, 0)) (KB_ BK101.out) hb); have n4_ := Aside0.mk (below_step (B1_ HB.out GE101.out) hb); have n5_ := Aside0.mk (hbox); have n6_ := Aside0.mk ((by rw [hg]; exact (below_size (B1_ HB.out GE101.out)) : w.heap.size ≤ gb113)); have n7_ := Aside0.mk ((by rw [hg]; exact (below_size (B1_ HB.out GE101.out)) : w.heap.size ≤ gb113)); have n8_ := Aside0.mk ((by rw [hg]; exact Nat.ne_of_lt (blk_lt (g := gb101) (o := .cells #[.slice A0_0 l0_0.length c0_0] 24 (0, 0)) (KB_ BK101.out)) : gb101 ≠ gb113)); have n9_ := Aside0.mk ((by rw [hg]; exact Nat.ne_of_gt (blk_lt (g := gb101) (o := .cells #[.slice A0_0 l0_0.length c0_0] 24 (0, 0)) (KB_ BK101.out)) : gb113 ≠ gb101)); clear HO105; clear HO108; clear HO112; clear BK101; clear HB; have HO105 := n0_; have HO108 := n1_; have HO112 := n2_; have BK101 := n3_; have HB := n4_; have BK113 := n5_; have GW113 := n6_; have GE113 := n7_; have NB101_113 := n8_; have NB113_101 := n9_; clear n0_ n1_ n2_ n3_ n4_ n5_ n6_ n7_ n8_ n9_; clear hb hbox hg; obtain ⟨Ao46, co46, eo46⟩ := Kd.S_slice HO112.out; subst eo46; have hnb47 := NB113_101.out; have hnc47 := NB101_113.out; have hcz48_0 : w45.cell? ⟨gb113, 0, none⟩ = some (.slice none 0 0) := (blk_cell BK113.out 0).trans rfl; have hfz48_0 := blk_frozen BK113.out 0) | ((with_reducible refine gate_callee (f := 18) rfl ?_); refine goesL_ (some 29) rfl rfl Try.func18 (by kernel_rfl) rfl #[.agg #[.slice Ao46 t110.length co46]] rfl (by (try simp only [List.map_toArray, List.map_cons, List.map_nil]); first | done | rfl | (simp only [List.length_drop, List.length_take]; rfl)) ?_; (with_reducible refine (z18.calls k _ _ t110 t114 t117 _ ?side1 ?side2 A10.out).mono ?_); (case side1 => refine (Kd.S_reads' (e := 26) (base := w.heap.size) (ok := fun k_ => (((True ∧ some k_ ≠ (.slice Ao39 t103.length co39 : Value).ownBlock) ∧ some k_ ≠ (v107 : Value).ownBlock) ∧ nan44 ≤ k_)) (n := t110.length) (c := co46) ?_).2.2; exact (by (with_reducible repeat (first | apply Kd.S_alloc | apply Kd.S_drewN | apply Kd.S_drew)); exact (Kd.S_mono (Kd.S_far (p := ⟨gb113, 0, none⟩) (Kd.S_types HO112.out BK113.out (by decide)) (fun _ hk => hk.2) (.slice Ao46 t110.length co46)) (fun _ h_ => h_.1)))); (case side2 => exact (Kd.S_reads' HO112.out).2.1); rintro e w49 ⟨v115, rfl, ho0, hb⟩; refine ⟨_, rfl, ?_⟩; obtain ⟨nan50, hnan50⟩ := Kd.size_letter hb; have n0_ := Aside0.mk (Kd.S_told (Kd.S_oldN (by (with_reducible repeat (first | apply Kd.S_alloc | apply Kd.S_drewN | apply Kd.S_drew)); exact (Kd.S_mono (Kd.S_far (p := ⟨gb113, 0, none⟩) (Kd.S_types HO105.out BK113.out (by decide)) (fun _ hk => hk.2) (.slice Ao46 t110.length co46)) (fun _ h_ => h_.1))) hb hnan50) (Kd.R_baseN ho0 hnan50)); have n1_ := Aside0.mk (Kd.R_told (Kd.R_oldN (by (with_reducible repeat (first | apply Kd.R_alloc | apply Kd.R_drewN | apply Kd.R_drew)); exact (Kd.R_mono (Kd.R_far (p := ⟨gb113, 0, none⟩) (Kd.R_types HO108.out BK113.out (by decide)) (fun _ hk => hk.2) (.slice Ao46 t110.length co46)) (fun _ h_ => h_.1))) hb hnan50) (Kd.R_baseN ho0 hnan50)); have n2_ := Aside0.mk (Kd.S_told (Kd.S_oldN (by (with_reducible repeat (first | apply Kd.S_alloc | apply Kd.S_drewN | apply Kd.S_drew)); exact (Kd.S_mono (Kd.S_far (p := ⟨gb113, 0, none⟩) (Kd.S_types HO112.out BK113.out (by decide)) (fun _ hk => hk.2) (.slice Ao46 t110.length co46)) (fun _ h_ => h_.1))) hb hnan50) (Kd.R_baseN ho0 hnan50)); have n3_ := Aside0.mk (Kd.R_lower (Kd.R_geN (Kd.R_new' ho0 (Kd.R_lt (by (with_reducible repeat (first | apply Kd.R_alloc | apply Kd.R_drewN | apply Kd.R_drew)); exact (Kd.R_mono (Kd.R_far (p := ⟨gb113, 0, none⟩) (Kd.R_types HO108.out BK113.out (by decide)) (fun _ hk => hk.2) (.slice Ao46 t110.length co46)) (fun _ h_ => h_.1))))) hnan50) (below_size (B2_ HB.out GE101.out GE113.out))); have n4_ := Aside0.mk (blk_below (g := gb101) (o := .cells #[.slice A0_0 l0_0.length c0_0] 24 (0, 0)) (by (with_reducible repeat (first | refine blk_drewN ?_ _ | refine blk_drew ?_ | refine blk_alloc ?_ _)); refine blk_far ?_ NB101_113.out _; (with_reducible repeat (first | refine blk_drewN ?_ _ | refine blk_drew ?_ | refine blk_alloc ?_ _)); exact BK101.out) hb); have n5_ := Aside0.mk (blk_below (g := gb113) (o := .cells #[.slice Ao46 t110.length co46] 29 (0, 0)) (by (with_reducible repeat (first | refine blk_drewN ?_ _ | refine blk_drew ?_ | refine blk_alloc ?_ _)); refine blk_put (cs := #[.slice none 0 0]) ?_ 0 _ rfl; (with_reducible repeat (first | refine blk_drewN ?_ _ | refine blk_drew ?_ | refine blk_alloc ?_ _)); exact BK113.out) hb); have n6_ := Aside0.mk (below_step (B2_ HB.out GE101.out GE113.out) hb); clear HO105; clear HO108; clear HO112; clear BK101; clear BK113; clear HB; have HO105 := n0_; have HO108 := n1_; have HO112 := n2_; have HO116 := n3_; have BK101 := n4_; have BK113 := n5_; have HB := n6_; clear n0_ n1_ n2_ n3_ n4_ n5_ n6_; (try clear hb); (try clear hb2); (try clear hk); (try clear hi); (try clear ho0); obtain ⟨Ao51, co51, eo51⟩ := Kd.R_slice HO116.out; subst eo51; obtain ⟨Ao52, co52, eo52⟩ := Kd.R_slice HO108.out; subst eo52) | ((with_reducible refine gate_callee (f := 19) rfl ?_); refine goesL_ (some 34) rfl rfl Try.func19 (by kernel_rfl) rfl #[.slice Ao51 t114.length co51, .slice Ao52 t106.length co52] rfl (by (try simp only [List.map_toArray, List.map_cons, List.map_nil]); first | done | rfl | (simp only [List.length_drop, List.length_take]; rfl)) ?_; (with_reducible refine (z19.calls k _ _ t114 _ _ t106 true _ ?side1 ?side2 ?side3 ?side4 A11.out).mono ?_); (case side1 => exact KC_ (Kd.R_reads' HO116.out).2.2); (case side2 => exact (Kd.R_reads' HO116.out).2.1); (case side3 => exact KC_ (Kd.R_reads' HO108.out).2.2); (case side4 => exact (Kd.R_reads' HO108.out).2.1); rintro e w' ⟨rfl, ⟨nd, rfl⟩⟩; refine ⟨_, rfl, ?_⟩))
             (try (rw [drewN_self w49]; generalize hq_ : World.drewN w49 _ = w49; have n0_ : Aside0 (Kd.S (Kd.slice 2 (Kd.int .i64)) 26 w49 w.heap.size (fun k_ => some k_ ≠ (.slice Ao52 t106.length co52 : Value).ownBlock ∧ some k_ ≠ (.slice Ao46 t110.length co46 : Value).ownBlock ∧ some k_ ≠ (.slice Ao51 t114.length co51 : Value).ownBlock ∧ nan38 ≤ k_ ∧ k_ < nan41 ∧ k_ < nan44 ∧ k_ < nan50) (.slice Ao39 t103.length co39) t103) := ⟨by rw [← hq_]; exact (by (with_reducible repeat (first | apply Kd.S_alloc | apply Kd.S_drewN | apply Kd.S_drew)); exact Kd.S_mono HO105.out (fun _ hk => ⟨hk.1.1.1.1.1.2, ⟨hk.1.1.1.2, ⟨hk.1.2, ⟨hk.1.1.1.1.1.1.2, ⟨hk.1.1.1.1.2, ⟨hk.1.1.2, hk.2⟩⟩⟩⟩⟩⟩))⟩; have n1_ : Aside0 (Kd.R (Kd.int .i64) 2 w49 w.heap.size (fun k_ => some k_ ≠ (.slice Ao51 t114.length co51 : Value).ownBlock ∧ nan41 ≤ k_ ∧ k_ < nan44 ∧ k_ < nan50) (.slice Ao52 t106.length co52) t106) := ⟨by rw [← hq_]; exact (by (with_reducible repeat (first | apply Kd.R_alloc | apply Kd.R_drewN | apply Kd.R_drew)); exact Kd.R_mono HO108.out (fun _ hk => ⟨hk.1.2, ⟨hk.1.1.1.2, ⟨hk.1.1.2, hk.2⟩⟩⟩))⟩; have n2_ : Aside0 (Kd.S (Kd.slice 2 (Kd.int .i64)) 26 w49 w.heap.size (fun k_ => some k_ ≠ (.slice Ao39 t103.length co39 : Value).ownBlock ∧ some k_ ≠ (.slice Ao52 t106.length co52 : Value).ownBlock ∧ some k_ ≠ (.slice Ao51 t114.length co51 : Value).ownBlock ∧ nan44 ≤ k_ ∧ k_ < nan50) (.slice Ao46 t110.length co46) t110) := ⟨by rw [← hq_]; exact (by (with_reducible repeat (first | apply Kd.S_alloc | apply Kd.S_drewN | apply Kd.S_drew)); exact Kd.S_mono HO112.out (fun _ hk => ⟨hk.1.1.1.1.2, ⟨hk.1.1.1.2, ⟨hk.1.2, ⟨hk.1.1.2, hk.2⟩⟩⟩⟩))⟩; have n3_ : Aside0 (Kd.R (Kd.int .i64) 2 w49 w.heap.size (fun k_ => some k_ ≠ (.slice Ao52 t106.length co52 : Value).ownBlock ∧ nan50 ≤ k_) (.slice Ao51 t114.length co51) t114) := ⟨by rw [← hq_]; exact (by (with_reducible repeat (first | apply Kd.R_alloc | apply Kd.R_drewN | apply Kd.R_drew)); exact Kd.R_mono HO116.out (fun _ hk => ⟨hk.1.2, hk.2⟩))⟩; have n4_ : Aside0 (w49.heap[gb101]? = some (.cells #[.slice A0_0 l0_0.length c0_0] 24 (0, 0))) := ⟨by rw [← hq_]; exact (KB_ BK101.out)⟩; have n5_ : Aside0 (w49.heap[gb113]? = some (.cells #[.slice Ao46 t110.length co46] 29 (0, 0))) := ⟨by rw [← hq_]; exact (KB_ BK113.out)⟩; have n6_ : Aside0 (Below w.heap.size w w49) := ⟨by rw [← hq_]; exact (B2_ HB.out GE101.out GE113.out)⟩; clear HO105 HO108 HO112 HO116 BK101 BK113 HB hq_; have HO105 := n0_; have HO108 := n1_; have HO112 := n2_; have HO116 := n3_; have BK101 := n4_; have BK113 := n5_; have HB := n6_; clear n0_ n1_ n2_ n3_ n4_ n5_ n6_))
             replace HO105 := Aside0.mk (Kd.S_drew HO105.out)
             replace HO108 := Aside0.mk (Kd.R_drew HO108.out)
             replace HO112 := Aside0.mk (Kd.S_drew HO112.out)
             replace HO116 := Aside0.mk (Kd.R_drew HO116.out)
             replace BK101 := Aside0.mk (blk_drew BK101.out)
             replace BK113 := Aside0.mk (blk_drew BK113.out)
             replace HB := Aside0.mk (below_drew1 HB.out)
             refine start_ (n := 5) (S := fun w' => w'.cell? ⟨gb113, 0, none⟩ = some (.slice Ao46 t110.length co46) ∧ w'.cell? ⟨gb101, 0, none⟩ = some (.slice A0_0 l0_0.length c0_0)) (ds := []) #[false, false, false, false, false] (by kernel_rfl) rfl rfl ⟨(blk_cell BK113.out 0).trans rfl, (blk_cell BK101.out 0).trans rfl⟩ (fun hHeld => ?_)
             generalize w49.drew = w53 at HO105 HO108 HO112 HO116 BK101 BK113 HB hHeld ⊢
             refine take_ (i := 0) (N := some 41) (v := ?_) (a' := ?_) #[true, false, false, false, false] rfl rfl (by kernel_rfl) (fun _ _ _ h => h) (Or.inl ⟨by rfl, ?_⟩) hHeld ?_ ?_
             rotate_left
             ·rintro w' ⟨s0, s1⟩
              go_simp
              with_reducible rfl
             rotate_left
             ·simp only [Act.put, List.setIfInBounds_toArray, List.set_cons_zero, List.set_cons_succ, i64_w, i32_w]
              rfl
             refine take_ (i := 1) (N := some 42) (v := ?_) (a' := ?_) #[true, true, false, false, false] rfl rfl (by kernel_rfl) (fun _ _ _ h => h) (Or.inl ⟨by rfl, ?_⟩) hHeld ?_ ?_
             rotate_left
             ·rintro w' ⟨s0, s1⟩
              go_simp
              with_reducible rfl
             rotate_left
             ·simp only [Act.put, List.setIfInBounds_toArray, List.set_cons_zero, List.set_cons_succ, i64_w, i32_w]
              rfl
             refine one_ (i := 2) (N := some 43) #[true, true, true, false, false] rfl rfl (by kernel_rfl) (by decide) (fun K hK => ?_)
             refine GO_ Try.func17 #[.agg #[.slice A0_0 l0_0.length c0_0]] (h := ?_)
             with_reducible refine (z17.calls k _ _ l0_0 t119 _ ?side1 ?side2 A14.out).mono ?_
             (case side1 => exact KC_ (Kd.C_below HR0_0.out HB.out))
             (case side2 => exact HC0_0.out)
             rintro e w54 ⟨v120, rfl, ho0, hb⟩
             refine ⟨_, rfl, ?_⟩
             obtain ⟨nan55, hnan55⟩ := Kd.size_letter hb
             have n0_ := Aside0.mk (Kd.S_told (Kd.S_oldN (KS_ HO105.out) hb hnan55) (Kd.S_baseN ho0 hnan55))
             have n1_ := Aside0.mk (Kd.R_oldN (KR_ HO108.out) hb hnan55)
             have n2_ := Aside0.mk (Kd.S_told (Kd.S_oldN (KS_ HO112.out) hb hnan55) (Kd.S_baseN ho0 hnan55))
             have n3_ := Aside0.mk (Kd.R_oldN (KR_ HO116.out) hb hnan55)
             have n4_ := Aside0.mk (Kd.S_lower (Kd.S_geN (Kd.S_new' (Kd.S_new' (Kd.S_new' (Kd.S_new' ho0 (Kd.S_lt (KS_ HO105.out))) (Kd.R_lt (KR_ HO108.out))) (Kd.S_lt (KS_ HO112.out))) (Kd.R_lt (KR_ HO116.out))) hnan55) (below_size (B2_ HB.out GE101.out GE113.out)))
             have n5_ := Aside0.mk (blk_below (g := gb101) (o := .cells #[.slice A0_0 l0_0.length c0_0] 24 (0, 0)) (KB_ BK101.out) hb)
             have n6_ := Aside0.mk (blk_below (g := gb113) (o := .cells #[.slice Ao46 t110.length co46] 29 (0, 0)) (KB_ BK113.out) hb)
             have n7_ := Aside0.mk (below_step (B2_ HB.out GE101.out GE113.out) hb)
             clear HO105
             clear HO108
             clear HO112
             clear HO116
             clear BK101
             clear BK113
             clear HB
             have HO105 := n0_
             have HO108 := n1_
             have HO112 := n2_
             have HO116 := n3_
             have HO121 := n4_
             have BK101 := n5_
             have BK113 := n6_
             have HB := n7_
             clear n0_ n1_ n2_ n3_ n4_ n5_ n6_ n7_
             (try clear hb);(try clear hb2);(try clear hk);(try clear hi);(try clear ho0)
             obtain ⟨Ao56, co56, eo56⟩ := Kd.S_slice HO121.out
             (first | subst eo56 | (injection eo56 with f1_ f2_ f3_; have f4_ := f1_.symm; have f5_ := f3_.symm; clear f1_ f2_ f3_; subst f4_; subst f5_))
             refine hK.out _ _ ⟨(blk_cell BK113.out 0).trans rfl, (blk_cell BK101.out 0).trans rfl⟩ (fun hHeld => ?_)
             clear hK K
             refine NM_ (N := (some 43)) (h := ?_)
             refine one_ (i := 3) (N := some 44) #[true, true, true, true, false] rfl rfl (by kernel_rfl) (by decide) (fun K hK => ?_)
             refine GO_ Try.func20 #[.agg #[.slice Ao46 t110.length co46], .agg #[.slice Ao56 t119.length co56]] (h := ?_)
             with_reducible refine (z20.calls k _ _ t110 _ _ t119 true _ ?side1 ?side2 ?side3 ?side4 A15.out).mono ?_
             (case side1 => exact KC_ (Kd.S_reads' HO112.out).2.2)
             (case side2 => exact (Kd.S_reads' HO112.out).2.1)
             (case side3 => exact KC_ (Kd.S_reads' HO121.out).2.2)
             (case side4 => exact (Kd.S_reads' HO121.out).2.1)
             rintro e w57 ⟨rfl, hb⟩
             refine ⟨_, rfl, ?_⟩
             replace HO105 := Aside0.mk (Kd.S_below (KS_ HO105.out) hb)
             replace HO108 := Aside0.mk (Kd.R_below (KR_ HO108.out) hb)
             replace HO112 := Aside0.mk (Kd.S_below (KS_ HO112.out) hb)
             replace HO116 := Aside0.mk (Kd.R_below (KR_ HO116.out) hb)
             replace HO121 := Aside0.mk (Kd.S_below (KS_ HO121.out) hb)
             replace BK101 := Aside0.mk (blk_below (g := gb101) (o := .cells #[.slice A0_0 l0_0.length c0_0] 24 (0, 0)) (KB_ BK101.out) hb)
             replace BK113 := Aside0.mk (blk_below (g := gb113) (o := .cells #[.slice Ao46 t110.length co46] 29 (0, 0)) (KB_ BK113.out) hb)
             replace HB := Aside0.mk (below_step (B2_ HB.out GE101.out GE113.out) hb)
             (try clear hb);(try clear hb2);(try clear hk);(try clear hi)
             refine hK.out _ _ ⟨(blk_cell BK113.out 0).trans rfl, (blk_cell BK101.out 0).trans rfl⟩ (fun hHeld => ?_)
             clear hK K
             refine NM_ (N := (some 44)) (h := ?_)
             refine pure_ (i := 4) (N := some 45) (v := ?_) (a' := ?_) #[true, true, true, true, true] rfl rfl (by kernel_rfl) (fun _ _ _ h => h) (Or.inl ⟨by rfl, ?_⟩) ?_ ?_
             rotate_left
             ·intro w'
              go_simp
              with_reducible rfl
             rotate_left
             ·simp only [Act.put, List.setIfInBounds_toArray, List.set_cons_zero, List.set_cons_succ, i64_w, i32_w]
              rfl
             refine done_ (by kernel_rfl) ?_
             have hcz58_0 : w57.cell? ⟨gb113, 0, none⟩ = some (.slice Ao46 t110.length co46) := (blk_cell BK113.out 0).trans rfl
             have hfz58_0 := blk_frozen BK113.out 0
             try go_wp2_with (first | (go_at_call 21; (with_reducible refine (laws_markComplex.calls (fun k_ => (((some k_ ≠ (.slice Ao39 t103.length co39 : Value).ownBlock ∧ (some k_ ≠ (.slice Ao52 t106.length co52 : Value).ownBlock ∧ (some k_ ≠ (.slice Ao51 t114.length co51 : Value).ownBlock ∧ (nan44 ≤ k_ ∧ k_ < nan50)))) ∧ some k_ ≠ (.slice Ao56 t119.length co56 : Value).ownBlock) ∧ k_ < nan55) ∧ ∃ q_, q_ ∈ 26 :: ((Kd.slice 2 (Kd.int .i64))).E ∧ ∃ cs_, w57.heap[k_]? = some (.cells cs_ q_ (0, 0))) (.slice Ao46 t110.length co46) t110 1 t123 t124 w _ ?side1 ?side2 A17.out).mono ?_); (case side1 => repeat (first | (with_reducible first | exact HB.out | apply below_alloc | apply pw_below_drewN | apply below_drew1 | refine below_set ?_ GE101.out | refine below_set ?_ GE113.out) | exact HB.out)); (case side2 => exact Kd.S_pin (ok := fun k_ => (((some k_ ≠ (.slice Ao39 t103.length co39 : Value).ownBlock ∧ (some k_ ≠ (.slice Ao52 t106.length co52 : Value).ownBlock ∧ (some k_ ≠ (.slice Ao51 t114.length co51 : Value).ownBlock ∧ (nan44 ≤ k_ ∧ k_ < nan50)))) ∧ some k_ ≠ (.slice Ao56 t119.length co56 : Value).ownBlock) ∧ k_ < nan55)) (KS_ HO112.out)); rintro e w59 ⟨rfl, hy0, hb, hkp⟩; replace BK101 := Aside0.mk (blk_kept (KB_ BK101.out) hkp (fun hs_ => Kd.typed_ne (KB_ BK101.out) hs_.2 (by decide))); replace HO105 := Aside0.mk (Kd.S_mono (Kd.S_keptB (ok := fun k_ => (((some k_ ≠ (.slice Ao52 t106.length co52 : Value).ownBlock ∧ (some k_ ≠ (.slice Ao46 t110.length co46 : Value).ownBlock ∧ (some k_ ≠ (.slice Ao51 t114.length co51 : Value).ownBlock ∧ (nan38 ≤ k_ ∧ (k_ < nan41 ∧ (k_ < nan44 ∧ k_ < nan50)))))) ∧ some k_ ≠ (.slice Ao56 t119.length co56 : Value).ownBlock) ∧ k_ < nan55)) (KS_ HO105.out) hkp (fun k_ hk_ hs_ => absurd hs_.1.1.1.2.2.2.1 (Nat.not_le.2 hk_.1.1.2.2.2.2.2.1))) (fun k_ hk_ => hk_.1)); replace HO108 := Aside0.mk (Kd.R_mono (Kd.R_keptB (ok := fun k_ => ((some k_ ≠ (.slice Ao51 t114.length co51 : Value).ownBlock ∧ (nan41 ≤ k_ ∧ (k_ < nan44 ∧ k_ < nan50))) ∧ k_ < nan55)) (KR_ HO108.out) hkp (fun k_ hk_ hs_ => absurd hs_.1.1.1.2.2.2.1 (Nat.not_le.2 hk_.1.2.2.1))) (fun k_ hk_ => hk_.1)); replace HO112 := Aside0.mk (Kd.S_mono hy0 (fun k_ hk_ => hk_.1)); replace BK113 := Aside0.mk (blk_kept (KB_ BK113.out) hkp (fun hs_ => Kd.typed_ne (KB_ BK113.out) hs_.2 (by decide))); replace HO116 := Aside0.mk (Kd.R_mono (Kd.R_keptB (ok := fun k_ => ((some k_ ≠ (.slice Ao52 t106.length co52 : Value).ownBlock ∧ nan50 ≤ k_) ∧ k_ < nan55)) (KR_ HO116.out) hkp (fun k_ hk_ hs_ => absurd hk_.1.2 (Nat.not_le.2 hs_.1.1.1.2.2.2.2))) (fun k_ hk_ => hk_.1)); replace HO121 := Aside0.mk (Kd.S_mono (Kd.S_keptB (ok := fun k_ => (((((True ∧ some k_ ≠ (.slice Ao39 t103.length co39 : Value).ownBlock) ∧ some k_ ≠ (.slice Ao52 t106.length co52 : Value).ownBlock) ∧ some k_ ≠ (.slice Ao46 t110.length co46 : Value).ownBlock) ∧ some k_ ≠ (.slice Ao51 t114.length co51 : Value).ownBlock) ∧ nan55 ≤ k_)) (KS_ HO121.out) hkp (fun k_ hk_ hs_ => absurd hk_.2 (Nat.not_le.2 hs_.1.2))) (fun k_ hk_ => hk_.1)); replace HB := Aside0.mk (hb); (try clear hb hkp hy0)) | (go_at_call 19; (with_reducible refine (z19.calls k _ _ t114 _ _ t106 true _ ?side1 ?side2 ?side3 ?side4 A19.out).mono ?_); (case side1 => exact KC_ (Kd.R_reads' HO116.out).2.2); (case side2 => exact (Kd.R_reads' HO116.out).2.1); (case side3 => exact KC_ (Kd.R_reads' HO108.out).2.2); (case side4 => exact (Kd.R_reads' HO108.out).2.1); rintro e w' ⟨rfl, ⟨nd, rfl⟩⟩) | ((with_reducible refine gate_callee (f := 22) rfl ?_); refine goesL_ (some 64) rfl rfl Try.func22 (by kernel_rfl) rfl #[.slice Ao51 t114.length co51, .int .i64 1] rfl (by (try simp only [List.map_toArray, List.map_cons, List.map_nil]); first | done | rfl | (simp only [List.length_drop, List.length_take]; rfl)) ?_; (with_reducible refine (z22.calls k (fun k_ => some k_ = (.slice Ao51 t114.length co51 : Value).ownBlock) (.slice Ao51 t114.length co51) t114 1 t126 t127 w _ ?side1 ?side2 A21.out).mono ?_); (case side1 => repeat (first | (with_reducible first | exact HB.out | apply below_alloc | apply pw_below_drewN | apply below_drew1 | refine below_set ?_ GE101.out | refine below_set ?_ GE113.out) | exact HB.out)); (case side2 => exact Kd.R_tight rfl HO116.out); rintro e w60 ⟨rfl, hy0, hb, hkp⟩; refine ⟨_, rfl, ?_⟩; replace BK101 := Aside0.mk (blk_kept (KB_ BK101.out) hkp (fun hs_ => (fun e_ => (Kd.R_ne HO116.out BK101.out (by decide)) e_) hs_)); replace HO105 := Aside0.mk (Kd.S_mono (ok' := fun k_ => some k_ ≠ (.slice Ao52 t106.length co52 : Value).ownBlock ∧ some k_ ≠ (.slice Ao46 t110.length co46 : Value).ownBlock ∧ some k_ ≠ (.slice Ao51 t114.length co51 : Value).ownBlock ∧ some k_ ≠ (.slice Ao56 t119.length co56 : Value).ownBlock) (Kd.S_keptB (HO105.out) hkp (fun k_ hk_ hs_ => (hk_.1.1.2.2.1) hs_)) (fun k_ hk_ => ⟨hk_.1.1.1.1, hk_.1.1.1.2.1, hk_.1.1.1.2.2.1, hk_.1.1.2⟩)); replace HO108 := Aside0.mk (Kd.R_mono (ok' := fun k_ => some k_ ≠ (.slice Ao51 t114.length co51 : Value).ownBlock) (Kd.R_keptB (HO108.out) hkp (fun k_ hk_ hs_ => (hk_.1.1) hs_)) (fun k_ hk_ => hk_.1.1.1)); replace HO112 := Aside0.mk (Kd.S_mono (ok' := fun k_ => some k_ ≠ (.slice Ao39 t103.length co39 : Value).ownBlock ∧ some k_ ≠ (.slice Ao52 t106.length co52 : Value).ownBlock ∧ some k_ ≠ (.slice Ao51 t114.length co51 : Value).ownBlock ∧ some k_ ≠ (.slice Ao56 t119.length co56 : Value).ownBlock) (Kd.S_keptB (HO112.out) hkp (fun k_ hk_ hs_ => (hk_.1.1.2.2.1) hs_)) (fun k_ hk_ => ⟨hk_.1.1.1.1, hk_.1.1.1.2.1, hk_.1.1.1.2.2.1, hk_.1.1.2⟩)); replace BK113 := Aside0.mk (blk_kept (KB_ BK113.out) hkp (fun hs_ => (fun e_ => (Kd.R_ne HO116.out BK113.out (by decide)) e_) hs_)); replace HO116 := Aside0.mk (Kd.R_reok rfl hy0 (fun k_ e_ => HO116.out.1 k_ e_)); replace HO121 := Aside0.mk (Kd.S_mono (ok' := fun k_ => some k_ ≠ (.slice Ao39 t103.length co39 : Value).ownBlock ∧ some k_ ≠ (.slice Ao52 t106.length co52 : Value).ownBlock ∧ some k_ ≠ (.slice Ao46 t110.length co46 : Value).ownBlock ∧ some k_ ≠ (.slice Ao51 t114.length co51 : Value).ownBlock) (Kd.S_keptB (HO121.out) hkp (fun k_ hk_ hs_ => (hk_.1.2) hs_)) (fun k_ hk_ => ⟨hk_.1.1.1.1.1.2, hk_.1.1.1.1.2, hk_.1.1.1.2, hk_.1.1.2⟩)); replace HB := Aside0.mk (hb); (try clear hb); (try clear hkp); (try clear hy0)) | ((with_reducible refine gate_callee (f := 23) rfl ?_); refine goesL_ (some 67) rfl rfl Try.func23 (by kernel_rfl) rfl #[.slice Ao51 t127.length co51, .int .i64 1] rfl (by (try simp only [List.map_toArray, List.map_cons, List.map_nil]); first | done | (rw [show t127.length = t114.length from (Kd.R_reads' HO116.out).1.symm] <;> rfl) | rfl | (simp only [List.length_drop, List.length_take]; rfl)) ?_; (with_reducible refine (z23.calls k _ _ t127 1 t128 _ ?side1 ?side2 A22.out).mono ?_); (case side1 => exact KC_ (Kd.R_reads' HO116.out).2.2); (case side2 => rw [show t127.length = t114.length from (Kd.R_reads' HO116.out).1.symm]; exact (Kd.R_reads' HO116.out).2.1); rintro e w' ⟨rfl, ⟨nd, rfl⟩⟩; refine ⟨_, rfl, ?_⟩; have hcz61_0 : w60.cell? ⟨gb101, 0, none⟩ = some (.slice A0_0 l0_0.length c0_0) := (blk_cell BK101.out 0).trans rfl; have hfz61_0 := blk_frozen BK101.out 0) | ((with_reducible refine gate_callee (f := 17) rfl ?_); refine goesL_ (some 75) rfl rfl Try.func17 (by kernel_rfl) rfl #[.agg #[.slice A0_0 l0_0.length c0_0]] rfl (by (try simp only [List.map_toArray, List.map_cons, List.map_nil]); first | done | rfl | (simp only [List.length_drop, List.length_take]; rfl)) ?_; (with_reducible refine (z17.calls k _ _ l0_0 t129 _ ?side1 ?side2 A25.out).mono ?_); (case side1 => repeat (first | exact (Kd.C_below HR0_0.out (B2_ HB.out GE101.out GE113.out)) | (with_reducible refine Kd.C_alloc ?_ _) | (with_reducible refine Kd.C_drewN ?_ _) | (with_reducible refine Kd.C_drew ?_))); (case side2 => exact HC0_0.out); rintro e w62 ⟨v130, rfl, ho0, hb⟩; refine ⟨_, rfl, ?_⟩; obtain ⟨nan63, hnan63⟩ := Kd.size_letter hb; have n0_ := Aside0.mk (Kd.S_told (Kd.S_oldN (KS_ HO105.out) hb hnan63) (Kd.S_baseN ho0 hnan63)); have n1_ := Aside0.mk (Kd.R_oldN (KR_ HO108.out) hb hnan63); have n2_ := Aside0.mk (Kd.S_told (Kd.S_oldN (KS_ HO112.out) hb hnan63) (Kd.S_baseN ho0 hnan63)); have n3_ := Aside0.mk (Kd.R_oldN (KR_ HO116.out) hb hnan63); have n4_ := Aside0.mk (Kd.S_told (Kd.S_oldN (KS_ HO121.out) hb hnan63) (Kd.S_baseN ho0 hnan63)); have n5_ := Aside0.mk (Kd.S_lower (Kd.S_geN (Kd.S_new' (Kd.S_new' (Kd.S_new' (Kd.S_new' (Kd.S_new' ho0 (Kd.S_lt (KS_ HO105.out))) (Kd.R_lt (KR_ HO108.out))) (Kd.S_lt (KS_ HO112.out))) (Kd.R_lt (KR_ HO116.out))) (Kd.S_lt (KS_ HO121.out))) hnan63) (below_size (B2_ HB.out GE101.out GE113.out))); have n6_ := Aside0.mk (blk_below (g := gb101) (o := .cells #[.slice A0_0 l0_0.length c0_0] 24 (0, 0)) (KB_ BK101.out) hb); have n7_ := Aside0.mk (blk_below (g := gb113) (o := .cells #[.slice Ao46 t110.length co46] 29 (0, 0)) (KB_ BK113.out) hb); have n8_ := Aside0.mk (below_step (B2_ HB.out GE101.out GE113.out) hb); clear HO105; clear HO108; clear HO112; clear HO116; clear HO121; clear BK101; clear BK113; clear HB; have HO105 := n0_; have HO108 := n1_; have HO112 := n2_; have HO116 := n3_; have HO121 := n4_; have HO131 := n5_; have BK101 := n6_; have BK113 := n7_; have HB := n8_; clear n0_ n1_ n2_ n3_ n4_ n5_ n6_ n7_ n8_; (try clear hb); (try clear hb2); (try clear hk); (try clear hi); (try clear ho0); obtain ⟨Ao64, co64, eo64⟩ := Kd.S_slice HO131.out; subst eo64) | ((with_reducible refine gate_callee (f := 18) rfl ?_); refine goesL_ (some 76) rfl rfl Try.func18 (by kernel_rfl) rfl #[.agg #[.slice Ao64 t129.length co64]] rfl (by (try simp only [List.map_toArray, List.map_cons, List.map_nil]); first | done | rfl | (simp only [List.length_drop, List.length_take]; rfl)) ?_; (with_reducible refine (z18.calls k _ _ t129 t132 t135 _ ?side1 ?side2 A26.out).mono ?_); (case side1 => exact KC_ (Kd.S_reads' HO131.out).2.2); (case side2 => exact (Kd.S_reads' HO131.out).2.1); rintro e w65 ⟨v133, rfl, ho0, hb⟩; refine ⟨_, rfl, ?_⟩; obtain ⟨nan66, hnan66⟩ := Kd.size_letter hb; have n0_ := Aside0.mk (Kd.S_told (Kd.S_oldN (KS_ HO105.out) hb hnan66) (Kd.R_baseN ho0 hnan66)); have n1_ := Aside0.mk (Kd.R_told (Kd.R_oldN (KR_ HO108.out) hb hnan66) (Kd.R_baseN ho0 hnan66)); have n2_ := Aside0.mk (Kd.S_told (Kd.S_oldN (KS_ HO112.out) hb hnan66) (Kd.R_baseN ho0 hnan66)); have n3_ := Aside0.mk (Kd.R_told (Kd.R_oldN (KR_ HO116.out) hb hnan66) (Kd.R_baseN ho0 hnan66)); have n4_ := Aside0.mk (Kd.S_told (Kd.S_oldN (KS_ HO121.out) hb hnan66) (Kd.R_baseN ho0 hnan66)); have n5_ := Aside0.mk (Kd.S_told (Kd.S_oldN (KS_ HO131.out) hb hnan66) (Kd.R_baseN ho0 hnan66)); have n6_ := Aside0.mk (Kd.R_lower (Kd.R_geN (Kd.R_new' (Kd.R_new' ho0 (Kd.R_lt (KR_ HO108.out))) (Kd.R_lt (KR_ HO116.out))) hnan66) (below_size (B2_ HB.out GE101.out GE113.out))); have n7_ := Aside0.mk (blk_below (g := gb101) (o := .cells #[.slice A0_0 l0_0.length c0_0] 24 (0, 0)) (KB_ BK101.out) hb); have n8_ := Aside0.mk (blk_below (g := gb113) (o := .cells #[.slice Ao46 t110.length co46] 29 (0, 0)) (KB_ BK113.out) hb); have n9_ := Aside0.mk (below_step (B2_ HB.out GE101.out GE113.out) hb); clear HO105; clear HO108; clear HO112; clear HO116; clear HO121; clear HO131; clear BK101; clear BK113; clear HB; have HO105 := n0_; have HO108 := n1_; have HO112 := n2_; have HO116 := n3_; have HO121 := n4_; have HO131 := n5_; have HO134 := n6_; have BK101 := n7_; have BK113 := n8_; have HB := n9_; clear n0_ n1_ n2_ n3_ n4_ n5_ n6_ n7_ n8_ n9_; (try clear hb); (try clear hb2); (try clear hk); (try clear hi); (try clear ho0); obtain ⟨Ao67, co67, eo67⟩ := Kd.R_slice HO134.out; subst eo67) | ((with_reducible refine gate_callee (f := 19) rfl ?_); refine goesL_ (some 81) rfl rfl Try.func19 (by kernel_rfl) rfl #[.slice Ao67 t132.length co67, .slice Ao52 t106.length co52] rfl (by (try simp only [List.map_toArray, List.map_cons, List.map_nil]); first | done | rfl | (simp only [List.length_drop, List.length_take]; rfl)) ?_; (with_reducible refine (z19.calls k _ _ t132 _ _ t106 true _ ?side1 ?side2 ?side3 ?side4 A27.out).mono ?_); (case side1 => exact KC_ (Kd.R_reads' HO134.out).2.2); (case side2 => exact (Kd.R_reads' HO134.out).2.1); (case side3 => exact KC_ (Kd.R_reads' HO108.out).2.2); (case side4 => exact (Kd.R_reads' HO108.out).2.1); rintro e w' ⟨rfl, ⟨nd, rfl⟩⟩; refine ⟨_, rfl, ?_⟩) | ((with_reducible refine gate_callee (f := 23) rfl ?_); refine goesL_ (some 90) rfl rfl Try.func23 (by kernel_rfl) rfl #[.slice Ao51 t127.length co51, .int .i64 1] rfl (by (try simp only [List.map_toArray, List.map_cons, List.map_nil]); first | done | (rw [show t127.length = t114.length from (Kd.R_reads' HO116.out).1.symm] <;> rfl) | rfl | (simp only [List.length_drop, List.length_take]; rfl)) ?_; (with_reducible refine (z23.calls k _ _ t127 1 t137 _ ?side1 ?side2 A30.out).mono ?_); (case side1 => exact KC_ (Kd.R_reads' HO116.out).2.2); (case side2 => rw [show t127.length = t114.length from (Kd.R_reads' HO116.out).1.symm]; exact (Kd.R_reads' HO116.out).2.1); rintro e w' ⟨rfl, ⟨nd, rfl⟩⟩; refine ⟨_, rfl, ?_⟩))
             go_ret
             exact ⟨F_, B2_ HB.out GE101.out GE113.out⟩
            ·rw [if_neg c32] at H
             have c32b0 : (t137 == t126) = false := beq_eq_false_iff_ne.mpr c32
             have c32b1 : (t137 != t126) = true := bne_iff_ne.mpr c32
             exact absurd (H.trans (congrArg some ht_)) (by simp)
          ·rw [if_neg c29] at H
           have c29b0 : (t135 == t109) = false := beq_eq_false_iff_ne.mpr c29
           have c29b1 : (t135 != t109) = true := bne_iff_ne.mpr c29
           exact absurd (H.trans (congrArg some ht_)) (by simp)
         ·replace c28 := Bool.eq_false_iff.mpr c28
          subst c28
          replace H := N_ H
          exact absurd (H.trans (congrArg some ht_)) (by simp)
        ·rw [if_neg c24] at H
         have c24b0 : (t128 == t126) = false := beq_eq_false_iff_ne.mpr c24
         have c24b1 : (t128 != t126) = true := bne_iff_ne.mpr c24
         exact absurd (H.trans (congrArg some ht_)) (by simp)
      ·replace c20 := Bool.eq_false_iff.mpr c20
       subst c20
       replace H := N_ H
       exact absurd (H.trans (congrArg some ht_)) (by simp)
    ·replace c16 := Bool.eq_false_iff.mpr c16
     subst c16
     replace H := N_ H
     exact absurd (H.trans (congrArg some ht_)) (by simp)
   ·rw [if_neg c13] at H
    have c13b0 : (t117 == t109) = false := beq_eq_false_iff_ne.mpr c13
    have c13b1 : (t117 != t109) = true := bne_iff_ne.mpr c13
    exact absurd (H.trans (congrArg some ht_)) (by simp)
  ·replace c12 := Bool.eq_false_iff.mpr c12
   subst c12
   replace H := N_ H
   exact absurd (H.trans (congrArg some ht_)) (by simp)
end Go.Proofs.Ytipkciildhghiaa.B
