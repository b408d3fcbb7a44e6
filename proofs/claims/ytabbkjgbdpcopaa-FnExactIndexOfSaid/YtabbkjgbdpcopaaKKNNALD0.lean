/- Printed proofs of functions of the program and of the reference, by a program of this work over the kit's printer. -/
import Derived.Test.YtabbkjgbdpcopaaKCJDHKE0
import Derived.Test.YtabbkjgbdpcopaaKGMDLMB0
import Derived.Test.YtabbkjgbdpcopaaKLKCCKJ0
import Derived.Test.YtabbkjgbdpcopaaKW0
namespace Go.Proofs.Ytabbkjgbdpcopaa.B
open Go.RowKit Go.Proofs.YtabbkjgbdpcopaaW.PrintWords Go.Proofs.YtabbkjgbdpcopaaW.PrintLast Go.Proofs.YtabbkjgbdpcopaaW.PrintMore
attribute [local go_sem] max2_int min2_int max_two min_two max_three min_three max_four min_four
set_option linter.unusedVariables false
set_option linter.unusedSimpArgs false
def z6.f (k : Nat) (l0_0 : List (List Int)) (l1 : List Int) : Option (Bool) := if (l1.length : Int) > 1048576 then (some true) else ((z19.f k l0_0 1048576).bind fun t102 => (if t102 < 0 then (some true) else ((z21.f k l0_0).bind fun t103 => ((z16.f k l1).bind fun t106 => ((z26.f k t103 t106).bind fun bt109 => ((z21.f k l0_0).bind fun t111 => ((z16.f k l1).bind fun t115 => ((z27.f k t111 t115).bind fun bt118 => (if bt118.1 = bt109.1 then (if bt118.2 = bt109.2 then ((z21.f k l0_0).bind fun t120 => ((z23.f k t111 t120).bind fun t123 => (if t123 = true then ((z16.f k l1).bind fun t124 => ((z18.f k t115 t124).bind fun t127 => (if t127 = true then (some true) else (some false)))) else (some false)))) else (some false)) else (some false))))))))))
set_option maxHeartbeats 8000000 in
set_option maxRecDepth 100000 in
theorem z6.calls (k : Nat) (A0_0 : Option Addr) (c0_0 : Nat) (l0_0 : List (List Int)) (A1 : Option Addr) (c1 : Nat) (l1 : List Int) (r : Bool) (w : World) (hr0_0 : Kd.C (Kd.slice 2 (Kd.int .i64)) w A0_0 l0_0.length l0_0) (hc0_0 : l0_0.length ≤ c0_0) (hr1 : Kd.C (Kd.int .i64) w A1 l1.length l1) (hc1 : l1.length ≤ c1) (h : z6.f k l0_0 l1 = some r) (ht_ : r = true) :
  Calls Try.prog 6 #[.agg #[.slice A0_0 l0_0.length c0_0], .slice A1 l1.length c1] w fun e w' => e = .returned (.bool r) ∧ Below w.heap.size w w' := by
 have hu28 := Try.underlying28
 have hu31 := Try.underlying31
 have HR0_0 := Aside0.mk hr0_0
 have HC0_0 := Aside0.mk hc0_0
 clear hr0_0 hc0_0
 have HR1 := Aside0.mk hr1
 have HC1 := Aside0.mk hc1
 clear hr1 hc1
 have HB := Aside0.mk (Below.refl w.heap.size w)
 have H : (if (l1.length : Int) > 1048576 then (some true) else ((z19.f k l0_0 1048576).bind fun t102 => (if t102 < 0 then (some true) else ((z21.f k l0_0).bind fun t103 => ((z16.f k l1).bind fun t106 => ((z26.f k t103 t106).bind fun bt109 => ((z21.f k l0_0).bind fun t111 => ((z16.f k l1).bind fun t115 => ((z27.f k t111 t115).bind fun bt118 => (if bt118.1 = bt109.1 then (if bt118.2 = bt109.2 then ((z21.f k l0_0).bind fun t120 => ((z23.f k t111 t120).bind fun t123 => (if t123 = true then ((z16.f k l1).bind fun t124 => ((z18.f k t115 t124).bind fun t127 => (if t127 = true then (some true) else (some false)))) else (some false)))) else (some false)) else (some false))))))))))) = some r := h
 clear h
 by_cases c3 : (l1.length : Int) > 1048576
 ·rw [if_pos c3] at H
  have c3b0 : decide (1048576 < (l1.length : Int)) = true := decide_eq_true c3
  have c3b1 : decide (1048576 < l1.length) = true := decide_eq_true (by omega)
  clear c3
  obtain rfl := Option.some.inj H
  go_enter Try.func6, Try.ntmps6
  go_wp2_with (first | ((with_reducible refine gate_dst (N := 2) rfl ?_); refine box_event ?hg (N := 2) ?hd (cs := #[.slice A0_0 l0_0.length c0_0]) (t := 28) ?hr ?_; (case hd => rfl); (case hg => rfl); (case hr => first | (go_simp; done) | (go_simp; rfl)); intro gb101 hg w4 hbox hb; have n0_ := Aside0.mk (below_step (B_ HB.out) hb); have n1_ := Aside0.mk (hbox); have n2_ := Aside0.mk ((by rw [hg]; exact (below_size (B_ HB.out)) : w.heap.size ≤ gb101)); have n3_ := Aside0.mk ((by rw [hg]; exact (below_size (B_ HB.out)) : w.heap.size ≤ gb101)); clear HB; have HB := n0_; have BK101 := n1_; have GW101 := n2_; have GE101 := n3_; clear n0_ n1_ n2_ n3_; clear hb hbox hg))
  go_ret
  exact ⟨F_, B1_ HB.out GE101.out⟩
 ·rw [if_neg c3] at H
  have c3b0 : decide (1048576 < (l1.length : Int)) = false := decide_eq_false c3
  have c3b1 : decide (1048576 < l1.length) = false := decide_eq_false (by omega)
  clear c3
  replace H := Option.bind_eq_some_iff.mp H
  obtain ⟨t102, A50, H⟩ := H
  have A5 := Aside0.mk A50
  clear A50
  by_cases c6 : t102 < 0
  ·rw [if_pos c6] at H
   have c6b0 : decide (t102 < 0) = true := decide_eq_true c6
   clear c6
   obtain rfl := Option.some.inj H
   go_enter Try.func6, Try.ntmps6
   go_wp2_with (first | ((with_reducible refine gate_dst (N := 2) rfl ?_); refine box_event ?hg (N := 2) ?hd (cs := #[.slice A0_0 l0_0.length c0_0]) (t := 28) ?hr ?_; (case hd => rfl); (case hg => rfl); (case hr => first | (go_simp; done) | (go_simp; rfl)); intro gb101 hg w7 hbox hb; have n0_ := Aside0.mk (below_step (B_ HB.out) hb); have n1_ := Aside0.mk (hbox); have n2_ := Aside0.mk ((by rw [hg]; exact (below_size (B_ HB.out)) : w.heap.size ≤ gb101)); have n3_ := Aside0.mk ((by rw [hg]; exact (below_size (B_ HB.out)) : w.heap.size ≤ gb101)); clear HB; have HB := n0_; have BK101 := n1_; have GW101 := n2_; have GE101 := n3_; clear n0_ n1_ n2_ n3_; clear hb hbox hg; have hcz8_0 : w7.cell? ⟨gb101, 0, none⟩ = some (.slice A0_0 l0_0.length c0_0) := (blk_cell BK101.out 0).trans rfl; have hfz8_0 := blk_frozen BK101.out 0) | ((with_reducible refine gate_callee (f := 19) rfl ?_); refine goesL_ (some 17) rfl rfl Try.func19 (by kernel_rfl) rfl #[.agg #[.slice A0_0 l0_0.length c0_0], .int .i64 1048576] rfl (by (try simp only [List.map_toArray, List.map_cons, List.map_nil]); first | done | rfl | (simp only [List.length_drop, List.length_take]; rfl)) ?_; (with_reducible refine (z19.calls k _ _ l0_0 1048576 t102 _ ?side1 ?side2 A5.out).mono ?_); (case side1 => exact KC_ (Kd.C_below HR0_0.out HB.out)); (case side2 => exact HC0_0.out); rintro e w9 ⟨rfl, hb⟩; refine ⟨_, rfl, ?_⟩; replace BK101 := Aside0.mk (blk_below (g := gb101) (o := .cells #[.slice A0_0 l0_0.length c0_0] 28 (0, 0)) (KB_ BK101.out) hb); replace HB := Aside0.mk (below_step (B1_ HB.out GE101.out) hb); (try clear hb); (try clear hb2); (try clear hk); (try clear hi)))
   go_ret
   exact ⟨F_, B1_ HB.out GE101.out⟩
  ·rw [if_neg c6] at H
   have c6b0 : decide (t102 < 0) = false := decide_eq_false c6
   clear c6
   replace H := Option.bind_eq_some_iff.mp H
   obtain ⟨t103, A100, H⟩ := H
   have A10 := Aside0.mk A100
   clear A100
   replace H := Option.bind_eq_some_iff.mp H
   obtain ⟨t106, A110, H⟩ := H
   have A11 := Aside0.mk A110
   clear A110
   replace H := Option.bind_eq_some_iff.mp H
   obtain ⟨⟨t109, t110⟩, A120, H⟩ := H
   try dsimp only at H
   have A12 := Aside0.mk A120
   clear A120
   replace H := Option.bind_eq_some_iff.mp H
   obtain ⟨t111, A130, H⟩ := H
   have A13 := Aside0.mk A130
   clear A130
   replace H := Option.bind_eq_some_iff.mp H
   obtain ⟨t115, A140, H⟩ := H
   have A14 := Aside0.mk A140
   clear A140
   replace H := Option.bind_eq_some_iff.mp H
   obtain ⟨⟨t118, t119⟩, A150, H⟩ := H
   try dsimp only at H
   have A15 := Aside0.mk A150
   clear A150
   by_cases c16 : t118 = t109
   ·rw [if_pos c16] at H
    have c16b0 : (t118 == t109) = true := beq_iff_eq.mpr c16
    have c16b1 : (t118 != t109) = false := bne_eq_false_iff_eq.mpr c16
    clear c16
    by_cases c17 : t119 = t110
    ·rw [if_pos c17] at H
     have c17b0 : (t119 == t110) = true := beq_iff_eq.mpr c17
     have c17b1 : (t119 != t110) = false := bne_eq_false_iff_eq.mpr c17
     clear c17
     replace H := Option.bind_eq_some_iff.mp H
     obtain ⟨t120, A180, H⟩ := H
     have A18 := Aside0.mk A180
     clear A180
     replace H := Option.bind_eq_some_iff.mp H
     obtain ⟨t123, A190, H⟩ := H
     have A19 := Aside0.mk A190
     clear A190
     by_cases c20 : t123 = true
     ·subst c20
      replace H := T_ H
      replace H := Option.bind_eq_some_iff.mp H
      obtain ⟨t124, A210, H⟩ := H
      have A21 := Aside0.mk A210
      clear A210
      replace H := Option.bind_eq_some_iff.mp H
      obtain ⟨t127, A220, H⟩ := H
      have A22 := Aside0.mk A220
      clear A220
      by_cases c23 : t127 = true
      ·subst c23
       replace H := T_ H
       obtain rfl := Option.some.inj H
       go_enter Try.func6, Try.ntmps6
       try go_wp2_with (first | ((with_reducible refine gate_dst (N := 2) rfl ?_); refine box_event ?hg (N := 2) ?hd (cs := #[.slice A0_0 l0_0.length c0_0]) (t := 28) ?hr ?_; (case hd => rfl); (case hg => rfl); (case hr => first | (go_simp; done) | (go_simp; rfl)); intro gb101 hg w24 hbox hb; have n0_ := Aside0.mk (below_step (B_ HB.out) hb); have n1_ := Aside0.mk (hbox); have n2_ := Aside0.mk ((by rw [hg]; exact (below_size (B_ HB.out)) : w.heap.size ≤ gb101)); have n3_ := Aside0.mk ((by rw [hg]; exact (below_size (B_ HB.out)) : w.heap.size ≤ gb101)); clear HB; have HB := n0_; have BK101 := n1_; have GW101 := n2_; have GE101 := n3_; clear n0_ n1_ n2_ n3_; clear hb hbox hg; have hcz25_0 : w24.cell? ⟨gb101, 0, none⟩ = some (.slice A0_0 l0_0.length c0_0) := (blk_cell BK101.out 0).trans rfl; have hfz25_0 := blk_frozen BK101.out 0) | ((with_reducible refine gate_callee (f := 19) rfl ?_); refine goesL_ (some 17) rfl rfl Try.func19 (by kernel_rfl) rfl #[.agg #[.slice A0_0 l0_0.length c0_0], .int .i64 1048576] rfl (by (try simp only [List.map_toArray, List.map_cons, List.map_nil]); first | done | rfl | (simp only [List.length_drop, List.length_take]; rfl)) ?_; (with_reducible refine (z19.calls k _ _ l0_0 1048576 t102 _ ?side1 ?side2 A5.out).mono ?_); (case side1 => exact KC_ (Kd.C_below HR0_0.out HB.out)); (case side2 => exact HC0_0.out); rintro e w26 ⟨rfl, hb⟩; refine ⟨_, rfl, ?_⟩; replace BK101 := Aside0.mk (blk_below (g := gb101) (o := .cells #[.slice A0_0 l0_0.length c0_0] 28 (0, 0)) (KB_ BK101.out) hb); replace HB := Aside0.mk (below_step (B1_ HB.out GE101.out) hb); (try clear hb); (try clear hb2); (try clear hk); (try clear hi); have hcz27_0 : w26.cell? ⟨gb101, 0, none⟩ = some (.slice A0_0 l0_0.length c0_0) := (blk_cell BK101.out 0).trans rfl; have hfz27_0 := blk_frozen BK101.out 0) | ((with_reducible refine gate_callee (f := 21) rfl ?_); refine goesL_ (some 22) rfl rfl Try.func21 (by kernel_rfl) rfl #[.agg #[.slice A0_0 l0_0.length c0_0]] rfl (by (try simp only [List.map_toArray, List.map_cons, List.map_nil]); first | done | rfl | (simp only [List.length_drop, List.length_take]; rfl)) ?_; (with_reducible refine (z21.calls k _ _ l0_0 t103 _ ?side1 ?side2 A10.out).mono ?_); (case side1 => exact KC_ (Kd.C_below HR0_0.out HB.out)); (case side2 => exact HC0_0.out); rintro e w28 ⟨v104, rfl, ho0, hb⟩; refine ⟨_, rfl, ?_⟩; obtain ⟨nan29, hnan29⟩ := Kd.size_letter hb; have HO105 := Aside0.mk (Kd.S_lower (Kd.S_geN ho0 hnan29) (below_size (B1_ HB.out GE101.out))); replace BK101 := Aside0.mk (blk_below (g := gb101) (o := .cells #[.slice A0_0 l0_0.length c0_0] 28 (0, 0)) (KB_ BK101.out) hb); replace HB := Aside0.mk (below_step (B1_ HB.out GE101.out) hb); (try clear hb); (try clear hb2); (try clear hk); (try clear hi); (try clear ho0)) | ((with_reducible refine gate_callee (f := 16) rfl ?_); refine goesL_ (some 24) rfl rfl Try.func16 (by kernel_rfl) rfl #[.slice A1 l1.length c1] rfl (by (try simp only [List.map_toArray, List.map_cons, List.map_nil]); first | done | rfl | (simp only [List.length_drop, List.length_take]; rfl)) ?_; (with_reducible refine (z16.calls k _ _ l1 t106 _ ?side1 ?side2 A11.out).mono ?_); (case side1 => exact KC_ (Kd.C_below HR1.out HB.out)); (case side2 => exact HC1.out); rintro e w30 ⟨v107, rfl, ho0, hb⟩; refine ⟨_, rfl, ?_⟩; obtain ⟨nan31, hnan31⟩ := Kd.size_letter hb; replace HO105 := Aside0.mk (Kd.S_told (Kd.S_oldN (KS_ HO105.out) hb hnan31) (Kd.R_baseN ho0 hnan31)); have HO108 := Aside0.mk (Kd.R_lower (Kd.R_geN ho0 hnan31) (below_size (B1_ HB.out GE101.out))); replace BK101 := Aside0.mk (blk_below (g := gb101) (o := .cells #[.slice A0_0 l0_0.length c0_0] 28 (0, 0)) (KB_ BK101.out) hb); replace HB := Aside0.mk (below_step (B1_ HB.out GE101.out) hb); (try clear hb); (try clear hb2); (try clear hk); (try clear hi); (try clear ho0); obtain ⟨Ao32, co32, eo32⟩ := Kd.S_slice HO105.out; subst eo32; obtain ⟨Ao33, co33, eo33⟩ := Kd.R_slice HO108.out; subst eo33) | ((with_reducible refine gate_callee (f := 26) rfl ?_); refine goesL_ (some 25) rfl rfl Try.func26 (by kernel_rfl) rfl #[.agg #[.slice Ao32 t103.length co32], .slice Ao33 t106.length co33] rfl (by (try simp only [List.map_toArray, List.map_cons, List.map_nil]); first | done | rfl | (simp only [List.length_drop, List.length_take]; rfl)) ?_; (with_reducible refine (z26.calls k _ _ t103 _ _ t106 t109 t110 _ ?side1 ?side2 ?side3 ?side4 A12.out).mono ?_); (case side1 => exact KC_ (Kd.S_reads' HO105.out).2.2); (case side2 => exact (Kd.S_reads' HO105.out).2.1); (case side3 => exact KC_ (Kd.R_reads' HO108.out).2.2); (case side4 => exact (Kd.R_reads' HO108.out).2.1); rintro e w34 ⟨rfl, hb⟩; refine ⟨_, rfl, ?_⟩; replace HO105 := Aside0.mk (Kd.S_below (KS_ HO105.out) hb); replace HO108 := Aside0.mk (Kd.R_below (KR_ HO108.out) hb); replace BK101 := Aside0.mk (blk_below (g := gb101) (o := .cells #[.slice A0_0 l0_0.length c0_0] 28 (0, 0)) (KB_ BK101.out) hb); replace HB := Aside0.mk (below_step (B1_ HB.out GE101.out) hb); (try clear hb); (try clear hb2); (try clear hk); (try clear hi); have hcz35_0 : w34.cell? ⟨gb101, 0, none⟩ = some (.slice A0_0 l0_0.length c0_0) := (blk_cell BK101.out 0).trans rfl; have hfz35_0 := blk_frozen BK101.out 0) | ((with_reducible refine gate_callee (f := 21) rfl ?_); refine goesL_ (some 29) rfl rfl Try.func21 (by kernel_rfl) rfl #[.agg #[.slice A0_0 l0_0.length c0_0]] rfl (by (try simp only [List.map_toArray, List.map_cons, List.map_nil]); first | done | rfl | (simp only [List.length_drop, List.length_take]; rfl)) ?_; (with_reducible refine (z21.calls k _ _ l0_0 t111 _ ?side1 ?side2 A13.out).mono ?_); (case side1 => exact KC_ (Kd.C_below HR0_0.out HB.out)); (case side2 => exact HC0_0.out); rintro e w36 ⟨v112, rfl, ho0, hb⟩; refine ⟨_, rfl, ?_⟩; obtain ⟨nan37, hnan37⟩ := Kd.size_letter hb; have n0_ := Aside0.mk (Kd.S_told (Kd.S_oldN (KS_ HO105.out) hb hnan37) (Kd.S_baseN ho0 hnan37)); have n1_ := Aside0.mk (Kd.R_oldN (KR_ HO108.out) hb hnan37); have n2_ := Aside0.mk (Kd.S_lower (Kd.S_geN (Kd.S_new' (Kd.S_new' ho0 (Kd.S_lt (KS_ HO105.out))) (Kd.R_lt (KR_ HO108.out))) hnan37) (below_size (B1_ HB.out GE101.out))); have n3_ := Aside0.mk (blk_below (g := gb101) (o := .cells #[.slice A0_0 l0_0.length c0_0] 28 (0, 0)) (KB_ BK101.out) hb); have n4_ := Aside0.mk (below_step (B1_ HB.out GE101.out) hb); clear HO105; clear HO108; clear BK101; clear HB; have HO105 := n0_; have HO108 := n1_; have HO113 := n2_; have BK101 := n3_; have HB := n4_; clear n0_ n1_ n2_ n3_ n4_; (try clear hb); (try clear hb2); (try clear hk); (try clear hi); (try clear ho0)) | ((with_reducible refine gate_dst (N := 8) rfl ?_); refine box_event ?hg (N := 8) ?hd (cs := #[.slice none 0 0]) (t := 31) ?hr ?_; (case hd => rfl); (case hg => rfl); (case hr => first | (go_simp; done) | (go_simp; rfl)); intro gb114 hg w38 hbox hb; have n0_ := Aside0.mk (Kd.S_below (KS_ HO105.out) hb); have n1_ := Aside0.mk (Kd.R_below (KR_ HO108.out) hb); have n2_ := Aside0.mk (Kd.S_below (KS_ HO113.out) hb); have n3_ := Aside0.mk (blk_below (g := gb101) (o := .cells #[.slice A0_0 l0_0.length c0_0] 28 (0, 0)) (KB_ BK101.out) hb); have n4_ := Aside0.mk (below_step (B1_ HB.out GE101.out) hb); have n5_ := Aside0.mk (hbox); have n6_ := Aside0.mk ((by rw [hg]; exact (below_size (B1_ HB.out GE101.out)) : w.heap.size ≤ gb114)); have n7_ := Aside0.mk ((by rw [hg]; exact (below_size (B1_ HB.out GE101.out)) : w.heap.size ≤ gb114)); have n8_ := Aside0.mk ((by rw [hg]; exact Nat.ne_of_lt (blk_lt (g := gb101) (o := .cells #[.slice A0_0 l0_0.length c0_0] 28 (0, 0)) (KB_ BK101.out)) : gb101 ≠ gb114)); have n9_ := Aside0.mk ((by rw [hg]; exact Nat.ne_of_gt (blk_lt (g := gb101) (o := .cells #[.slice A0_0 l0_0.length c0_0] 28 (0, 0)) (KB_ BK101.out)) : gb114 ≠ gb101)); clear HO105; clear HO108; clear HO113; clear BK101; clear HB; have HO105 := n0_; have HO108 := n1_; have HO113 := n2_; have BK101 := n3_; have HB := n4_; have BK114 := n5_; have GW114 := n6_; have GE114 := n7_; have NB101_114 := n8_; have NB114_101 := n9_; clear n0_ n1_ n2_ n3_ n4_ n5_ n6_ n7_ n8_ n9_; clear hb hbox hg; obtain ⟨Ao39, co39, eo39⟩ := Kd.S_slice HO113.out; subst eo39; have hnb40 := NB114_101.out; have hnc40 := NB101_114.out; have hcz41_0 : w38.cell? ⟨gb114, 0, none⟩ = some (.slice none 0 0) := (blk_cell BK114.out 0).trans rfl; have hfz41_0 := blk_frozen BK114.out 0) | ((with_reducible refine gate_callee (f := 16) rfl ?_); refine goesL_ (some 31) rfl rfl Try.func16 (by kernel_rfl) rfl #[.slice A1 l1.length c1] rfl (by (try simp only [List.map_toArray, List.map_cons, List.map_nil]); first | done | rfl | (simp only [List.length_drop, List.length_take]; rfl)) ?_; (with_reducible refine (z16.calls k _ _ l1 t115 _ ?side1 ?side2 A14.out).mono ?_); (case side1 => exact Kd.C_below HR1.out (B2_ HB.out GE101.out GE114.out)); (case side2 => exact HC1.out); rintro e w42 ⟨v116, rfl, ho0, hb⟩; refine ⟨_, rfl, ?_⟩; obtain ⟨nan43, hnan43⟩ := Kd.size_letter hb; have n0_ := Aside0.mk (Kd.S_told (Kd.S_oldN (by (with_reducible repeat (first | apply Kd.S_alloc | apply Kd.S_drewN | apply Kd.S_drew)); exact (Kd.S_mono (Kd.S_far (p := ⟨gb114, 0, none⟩) (Kd.S_types HO105.out BK114.out (by decide)) (fun _ hk => hk.2) (.slice Ao39 t111.length co39)) (fun _ h_ => h_.1))) hb hnan43) (Kd.R_baseN ho0 hnan43)); have n1_ := Aside0.mk (Kd.R_told (Kd.R_oldN (by (with_reducible repeat (first | apply Kd.R_alloc | apply Kd.R_drewN | apply Kd.R_drew)); exact (Kd.R_mono (Kd.R_far (p := ⟨gb114, 0, none⟩) (Kd.R_types HO108.out BK114.out (by decide)) (fun _ hk => hk.2) (.slice Ao39 t111.length co39)) (fun _ h_ => h_.1))) hb hnan43) (Kd.R_baseN ho0 hnan43)); have n2_ := Aside0.mk (Kd.S_told (Kd.S_oldN (by (with_reducible repeat (first | apply Kd.S_alloc | apply Kd.S_drewN | apply Kd.S_drew)); exact (Kd.S_mono (Kd.S_far (p := ⟨gb114, 0, none⟩) (Kd.S_types HO113.out BK114.out (by decide)) (fun _ hk => hk.2) (.slice Ao39 t111.length co39)) (fun _ h_ => h_.1))) hb hnan43) (Kd.R_baseN ho0 hnan43)); have n3_ := Aside0.mk (Kd.R_lower (Kd.R_geN (Kd.R_new' ho0 (Kd.R_lt (by (with_reducible repeat (first | apply Kd.R_alloc | apply Kd.R_drewN | apply Kd.R_drew)); exact (Kd.R_mono (Kd.R_far (p := ⟨gb114, 0, none⟩) (Kd.R_types HO108.out BK114.out (by decide)) (fun _ hk => hk.2) (.slice Ao39 t111.length co39)) (fun _ h_ => h_.1))))) hnan43) (below_size (B2_ HB.out GE101.out GE114.out))); have n4_ := Aside0.mk (blk_below (g := gb101) (o := .cells #[.slice A0_0 l0_0.length c0_0] 28 (0, 0)) (by (with_reducible repeat (first | refine blk_drewN ?_ _ | refine blk_drew ?_ | refine blk_alloc ?_ _)); refine blk_far ?_ NB101_114.out _; (with_reducible repeat (first | refine blk_drewN ?_ _ | refine blk_drew ?_ | refine blk_alloc ?_ _)); exact BK101.out) hb); have n5_ := Aside0.mk (blk_below (g := gb114) (o := .cells #[.slice Ao39 t111.length co39] 31 (0, 0)) (by (with_reducible repeat (first | refine blk_drewN ?_ _ | refine blk_drew ?_ | refine blk_alloc ?_ _)); refine blk_put (cs := #[.slice none 0 0]) ?_ 0 _ rfl; (with_reducible repeat (first | refine blk_drewN ?_ _ | refine blk_drew ?_ | refine blk_alloc ?_ _)); exact BK114.out) hb); have n6_ := Aside0.mk (below_step (B2_ HB.out GE101.out GE114.out) hb); clear HO105; clear HO108; clear HO113; clear BK101; clear BK114; clear HB; have HO105 := n0_; have HO108 := n1_; have HO113 := n2_; have HO117 := n3_; have BK101 := n4_; have BK114 := n5_; have HB := n6_; clear n0_ n1_ n2_ n3_ n4_ n5_ n6_; (try clear hb); (try clear hb2); (try clear hk); (try clear hi); (try clear ho0); have hcz44_0 : w42.cell? ⟨gb114, 0, none⟩ = some (.slice Ao39 t111.length co39) := (blk_cell BK114.out 0).trans rfl; have hfz44_0 := blk_frozen BK114.out 0; obtain ⟨Ao45, co45, eo45⟩ := Kd.R_slice HO117.out; subst eo45) | ((with_reducible refine gate_callee (f := 27) rfl ?_); refine goesL_ (some 35) rfl rfl Try.func27 (by kernel_rfl) rfl #[.agg #[.slice Ao39 t111.length co39], .slice Ao45 t115.length co45] rfl (by (try simp only [List.map_toArray, List.map_cons, List.map_nil]); first | done | rfl | (simp only [List.length_drop, List.length_take]; rfl)) ?_; (with_reducible refine (z27.calls k _ _ t111 _ _ t115 t118 t119 _ ?side1 ?side2 ?side3 ?side4 A15.out).mono ?_); (case side1 => exact KC_ (Kd.S_reads' HO113.out).2.2); (case side2 => exact (Kd.S_reads' HO113.out).2.1); (case side3 => exact KC_ (Kd.R_reads' HO117.out).2.2); (case side4 => exact (Kd.R_reads' HO117.out).2.1); rintro e w46 ⟨rfl, hb⟩; refine ⟨_, rfl, ?_⟩; replace HO105 := Aside0.mk (Kd.S_below (KS_ HO105.out) hb); replace HO108 := Aside0.mk (Kd.R_below (KR_ HO108.out) hb); replace HO113 := Aside0.mk (Kd.S_below (KS_ HO113.out) hb); replace HO117 := Aside0.mk (Kd.R_below (KR_ HO117.out) hb); replace BK101 := Aside0.mk (blk_below (g := gb101) (o := .cells #[.slice A0_0 l0_0.length c0_0] 28 (0, 0)) (KB_ BK101.out) hb); replace BK114 := Aside0.mk (blk_below (g := gb114) (o := .cells #[.slice Ao39 t111.length co39] 31 (0, 0)) (KB_ BK114.out) hb); replace HB := Aside0.mk (below_step (B2_ HB.out GE101.out GE114.out) hb); (try clear hb); (try clear hb2); (try clear hk); (try clear hi)))
       replace HO105 := Aside0.mk (Kd.S_drew HO105.out)
       replace HO108 := Aside0.mk (Kd.R_drew HO108.out)
       replace HO113 := Aside0.mk (Kd.S_drew HO113.out)
       replace HO117 := Aside0.mk (Kd.R_drew HO117.out)
       replace BK101 := Aside0.mk (blk_drew BK101.out)
       replace BK114 := Aside0.mk (blk_drew BK114.out)
       replace HB := Aside0.mk (below_drew1 HB.out)
       refine start_ (n := 5) (S := fun w' => w'.cell? ⟨gb114, 0, none⟩ = some (.slice Ao39 t111.length co39) ∧ w'.cell? ⟨gb101, 0, none⟩ = some (.slice A0_0 l0_0.length c0_0)) (ds := []) #[false, false, false, false, false] (by kernel_rfl) rfl rfl ⟨(blk_cell BK114.out 0).trans rfl, (blk_cell BK101.out 0).trans rfl⟩ (fun hHeld => ?_)
       generalize w46.drew = w47 at HO105 HO108 HO113 HO117 BK101 BK114 HB hHeld ⊢
       refine take_ (i := 0) (N := some 46) (v := ?_) (a' := ?_) #[true, false, false, false, false] rfl rfl (by kernel_rfl) (fun _ _ _ h => h) (Or.inl ⟨by rfl, ?_⟩) hHeld ?_ ?_
       rotate_left
       ·rintro w' ⟨s0, s1⟩
        go_simp
        with_reducible rfl
       rotate_left
       ·simp only [Act.put, List.setIfInBounds_toArray, List.set_cons_zero, List.set_cons_succ, i64_w, i32_w]
        rfl
       refine take_ (i := 1) (N := some 47) (v := ?_) (a' := ?_) #[true, true, false, false, false] rfl rfl (by kernel_rfl) (fun _ _ _ h => h) (Or.inl ⟨by rfl, ?_⟩) hHeld ?_ ?_
       rotate_left
       ·rintro w' ⟨s0, s1⟩
        go_simp
        with_reducible rfl
       rotate_left
       ·simp only [Act.put, List.setIfInBounds_toArray, List.set_cons_zero, List.set_cons_succ, i64_w, i32_w]
        rfl
       refine one_ (i := 2) (N := some 48) #[true, true, true, false, false] rfl rfl (by kernel_rfl) (by decide) (fun K hK => ?_)
       refine GO_ Try.func21 #[.agg #[.slice A0_0 l0_0.length c0_0]] (h := ?_)
       with_reducible refine (z21.calls k _ _ l0_0 t120 _ ?side1 ?side2 A18.out).mono ?_
       (case side1 => exact KC_ (Kd.C_below HR0_0.out HB.out))
       (case side2 => exact HC0_0.out)
       rintro e w48 ⟨v121, rfl, ho0, hb⟩
       refine ⟨_, rfl, ?_⟩
       obtain ⟨nan49, hnan49⟩ := Kd.size_letter hb
       have n0_ := Aside0.mk (Kd.S_told (Kd.S_oldN (KS_ HO105.out) hb hnan49) (Kd.S_baseN ho0 hnan49))
       have n1_ := Aside0.mk (Kd.R_oldN (KR_ HO108.out) hb hnan49)
       have n2_ := Aside0.mk (Kd.S_told (Kd.S_oldN (KS_ HO113.out) hb hnan49) (Kd.S_baseN ho0 hnan49))
       have n3_ := Aside0.mk (Kd.R_oldN (KR_ HO117.out) hb hnan49)
       have n4_ := Aside0.mk (Kd.S_lower (Kd.S_geN (Kd.S_new' (Kd.S_new' (Kd.S_new' (Kd.S_new' ho0 (Kd.S_lt (KS_ HO105.out))) (Kd.R_lt (KR_ HO108.out))) (Kd.S_lt (KS_ HO113.out))) (Kd.R_lt (KR_ HO117.out))) hnan49) (below_size (B2_ HB.out GE101.out GE114.out)))
       have n5_ := Aside0.mk (blk_below (g := gb101) (o := .cells #[.slice A0_0 l0_0.length c0_0] 28 (0, 0)) (KB_ BK101.out) hb)
       have n6_ := Aside0.mk (blk_below (g := gb114) (o := .cells #[.slice Ao39 t111.length co39] 31 (0, 0)) (KB_ BK114.out) hb)
       have n7_ := Aside0.mk (below_step (B2_ HB.out GE101.out GE114.out) hb)
       clear HO105
       clear HO108
       clear HO113
       clear HO117
       clear BK101
       clear BK114
       clear HB
       have HO105 := n0_
       have HO108 := n1_
       have HO113 := n2_
       have HO117 := n3_
       have HO122 := n4_
       have BK101 := n5_
       have BK114 := n6_
       have HB := n7_
       clear n0_ n1_ n2_ n3_ n4_ n5_ n6_ n7_
       (try clear hb);(try clear hb2);(try clear hk);(try clear hi);(try clear ho0)
       obtain ⟨Ao50, co50, eo50⟩ := Kd.S_slice HO122.out
       (first | subst eo50 | (injection eo50 with f1_ f2_ f3_; have f4_ := f1_.symm; have f5_ := f3_.symm; clear f1_ f2_ f3_; subst f4_; subst f5_))
       refine hK.out _ _ ⟨(blk_cell BK114.out 0).trans rfl, (blk_cell BK101.out 0).trans rfl⟩ (fun hHeld => ?_)
       clear hK K
       refine NM_ (N := (some 48)) (h := ?_)
       refine one_ (i := 3) (N := some 49) #[true, true, true, true, false] rfl rfl (by kernel_rfl) (by decide) (fun K hK => ?_)
       refine GO_ Try.func23 #[.agg #[.slice Ao39 t111.length co39], .agg #[.slice Ao50 t120.length co50]] (h := ?_)
       with_reducible refine (z23.calls k _ _ t111 _ _ t120 true _ ?side1 ?side2 ?side3 ?side4 A19.out).mono ?_
       (case side1 => exact KC_ (Kd.S_reads' HO113.out).2.2)
       (case side2 => exact (Kd.S_reads' HO113.out).2.1)
       (case side3 => exact KC_ (Kd.S_reads' HO122.out).2.2)
       (case side4 => exact (Kd.S_reads' HO122.out).2.1)
       rintro e w51 ⟨rfl, hb⟩
       refine ⟨_, rfl, ?_⟩
       replace HO105 := Aside0.mk (Kd.S_below (KS_ HO105.out) hb)
       replace HO108 := Aside0.mk (Kd.R_below (KR_ HO108.out) hb)
       replace HO113 := Aside0.mk (Kd.S_below (KS_ HO113.out) hb)
       replace HO117 := Aside0.mk (Kd.R_below (KR_ HO117.out) hb)
       replace HO122 := Aside0.mk (Kd.S_below (KS_ HO122.out) hb)
       replace BK101 := Aside0.mk (blk_below (g := gb101) (o := .cells #[.slice A0_0 l0_0.length c0_0] 28 (0, 0)) (KB_ BK101.out) hb)
       replace BK114 := Aside0.mk (blk_below (g := gb114) (o := .cells #[.slice Ao39 t111.length co39] 31 (0, 0)) (KB_ BK114.out) hb)
       replace HB := Aside0.mk (below_step (B2_ HB.out GE101.out GE114.out) hb)
       (try clear hb);(try clear hb2);(try clear hk);(try clear hi)
       refine hK.out _ _ ⟨(blk_cell BK114.out 0).trans rfl, (blk_cell BK101.out 0).trans rfl⟩ (fun hHeld => ?_)
       clear hK K
       refine NM_ (N := (some 49)) (h := ?_)
       refine pure_ (i := 4) (N := some 50) (v := ?_) (a' := ?_) #[true, true, true, true, true] rfl rfl (by kernel_rfl) (fun _ _ _ h => h) (Or.inl ⟨by rfl, ?_⟩) ?_ ?_
       rotate_left
       ·intro w'
        go_simp
        with_reducible rfl
       rotate_left
       ·simp only [Act.put, List.setIfInBounds_toArray, List.set_cons_zero, List.set_cons_succ, i64_w, i32_w]
        rfl
       refine done_ (by kernel_rfl) ?_
       try go_wp2_with (first | ((with_reducible refine gate_callee (f := 16) rfl ?_); refine goesL_ (some 53) rfl rfl Try.func16 (by kernel_rfl) rfl #[.slice A1 l1.length c1] rfl (by (try simp only [List.map_toArray, List.map_cons, List.map_nil]); first | done | rfl | (simp only [List.length_drop, List.length_take]; rfl)) ?_; (with_reducible refine (z16.calls k _ _ l1 t124 _ ?side1 ?side2 A21.out).mono ?_); (case side1 => exact KC_ (Kd.C_below HR1.out HB.out)); (case side2 => exact HC1.out); rintro e w52 ⟨v125, rfl, ho0, hb⟩; refine ⟨_, rfl, ?_⟩; obtain ⟨nan53, hnan53⟩ := Kd.size_letter hb; have n0_ := Aside0.mk (Kd.S_told (Kd.S_oldN (KS_ HO105.out) hb hnan53) (Kd.R_baseN ho0 hnan53)); have n1_ := Aside0.mk (Kd.R_told (Kd.R_oldN (KR_ HO108.out) hb hnan53) (Kd.R_baseN ho0 hnan53)); have n2_ := Aside0.mk (Kd.S_told (Kd.S_oldN (KS_ HO113.out) hb hnan53) (Kd.R_baseN ho0 hnan53)); have n3_ := Aside0.mk (Kd.R_told (Kd.R_oldN (KR_ HO117.out) hb hnan53) (Kd.R_baseN ho0 hnan53)); have n4_ := Aside0.mk (Kd.S_told (Kd.S_oldN (KS_ HO122.out) hb hnan53) (Kd.R_baseN ho0 hnan53)); have n5_ := Aside0.mk (Kd.R_lower (Kd.R_geN (Kd.R_new' (Kd.R_new' ho0 (Kd.R_lt (KR_ HO108.out))) (Kd.R_lt (KR_ HO117.out))) hnan53) (below_size (B2_ HB.out GE101.out GE114.out))); have n6_ := Aside0.mk (blk_below (g := gb101) (o := .cells #[.slice A0_0 l0_0.length c0_0] 28 (0, 0)) (KB_ BK101.out) hb); have n7_ := Aside0.mk (blk_below (g := gb114) (o := .cells #[.slice Ao39 t111.length co39] 31 (0, 0)) (KB_ BK114.out) hb); have n8_ := Aside0.mk (below_step (B2_ HB.out GE101.out GE114.out) hb); clear HO105; clear HO108; clear HO113; clear HO117; clear HO122; clear BK101; clear BK114; clear HB; have HO105 := n0_; have HO108 := n1_; have HO113 := n2_; have HO117 := n3_; have HO122 := n4_; have HO126 := n5_; have BK101 := n6_; have BK114 := n7_; have HB := n8_; clear n0_ n1_ n2_ n3_ n4_ n5_ n6_ n7_ n8_; (try clear hb); (try clear hb2); (try clear hk); (try clear hi); (try clear ho0); obtain ⟨Ao54, co54, eo54⟩ := Kd.R_slice HO126.out; subst eo54) | ((with_reducible refine gate_callee (f := 18) rfl ?_); refine goesL_ (some 54) rfl rfl Try.func18 (by kernel_rfl) rfl #[.slice Ao45 t115.length co45, .slice Ao54 t124.length co54] rfl (by (try simp only [List.map_toArray, List.map_cons, List.map_nil]); first | done | rfl | (simp only [List.length_drop, List.length_take]; rfl)) ?_; (with_reducible refine (z18.calls k _ _ t115 _ _ t124 true _ ?side1 ?side2 ?side3 ?side4 A22.out).mono ?_); (case side1 => exact KC_ (Kd.R_reads' HO117.out).2.2); (case side2 => exact (Kd.R_reads' HO117.out).2.1); (case side3 => exact KC_ (Kd.R_reads' HO126.out).2.2); (case side4 => exact (Kd.R_reads' HO126.out).2.1); rintro e w' ⟨rfl, ⟨nd, rfl⟩⟩; refine ⟨_, rfl, ?_⟩))
       go_ret
       exact ⟨F_, B2_ HB.out GE101.out GE114.out⟩
      ·replace c23 := Bool.eq_false_iff.mpr c23
       subst c23
       replace H := N_ H
       exact absurd (H.trans (congrArg some ht_)) (by simp)
     ·replace c20 := Bool.eq_false_iff.mpr c20
      subst c20
      replace H := N_ H
      exact absurd (H.trans (congrArg some ht_)) (by simp)
    ·rw [if_neg c17] at H
     have c17b0 : (t119 == t110) = false := beq_eq_false_iff_ne.mpr c17
     have c17b1 : (t119 != t110) = true := bne_iff_ne.mpr c17
     exact absurd (H.trans (congrArg some ht_)) (by simp)
   ·rw [if_neg c16] at H
    have c16b0 : (t118 == t109) = false := beq_eq_false_iff_ne.mpr c16
    have c16b1 : (t118 != t109) = true := bne_iff_ne.mpr c16
    exact absurd (H.trans (congrArg some ht_)) (by simp)
end Go.Proofs.Ytabbkjgbdpcopaa.B
