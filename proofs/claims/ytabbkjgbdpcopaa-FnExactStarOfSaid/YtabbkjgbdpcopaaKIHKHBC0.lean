/- Printed proofs of functions of the program and of the reference, by a program of this work over the kit's printer. -/
import Derived.Test.YtabbkjgbdpcopaaKCJDHKE0
import Derived.Test.YtabbkjgbdpcopaaKEHCKKH0
import Derived.Test.YtabbkjgbdpcopaaKHCBANI0
import Derived.Test.YtabbkjgbdpcopaaKLKCCKJ0
import Derived.Test.YtabbkjgbdpcopaaKW0
namespace Go.Proofs.Ytabbkjgbdpcopaa.B
open Go.RowKit Go.Proofs.YtabbkjgbdpcopaaW.PrintWords Go.Proofs.YtabbkjgbdpcopaaW.PrintLast Go.Proofs.YtabbkjgbdpcopaaW.PrintMore
attribute [local go_sem] max2_int min2_int max_two min_two max_three min_three max_four min_four
set_option linter.unusedVariables false
set_option linter.unusedSimpArgs false
def z11.f (k : Nat) (l0_0 : List (List Int)) (a1 : Int) : Option (Bool) := (z19.f k l0_0 1048576).bind fun t102 => (if t102 < 0 then (some true) else ((z21.f k l0_0).bind fun t103 => ((z39.f k t103 a1).bind fun bt106 => ((z21.f k l0_0).bind fun t110 => ((z40.f k t110 a1).bind fun bt114 => ((z18.f k bt114.1 bt106.1).bind fun t118 => (if t118 = true then (if bt114.2 = bt106.2 then ((z21.f k l0_0).bind fun t119 => ((z23.f k t110 t119).bind fun t122 => (if t122 = true then ((laws_markComplex.f t110 1).bind fun bt123 => (if bt123.1 < 0 then (some false) else ((z18.f k bt114.1 bt106.1).bind fun t125 => (if t125 = true then ((z33.f k bt114.1 1).bind fun bt126 => ((z34.f k bt126.2 1).bind fun t128 => (if t128 < 0 then (some false) else (if t128 = bt126.1 then ((z21.f k l0_0).bind fun t129 => ((z40.f k t129 a1).bind fun bt132 => ((z18.f k bt132.1 bt106.1).bind fun t136 => (if t136 = true then (if bt132.2 = bt106.2 then ((z34.f k bt126.2 1).bind fun t137 => (if t137 < 0 then (some false) else (if t137 = bt126.1 then (some true) else (some false)))) else (some false)) else (some false))))) else (some false))))) else (some false))))) else (some false)))) else (some false)) else (some false))))))))
set_option maxHeartbeats 8000000 in
set_option maxRecDepth 100000 in
theorem z11.calls (k : Nat) (A0_0 : Option Addr) (c0_0 : Nat) (l0_0 : List (List Int)) (a1 : Int) (r : Bool) (w : World) (hr0_0 : Kd.C (Kd.slice 2 (Kd.int .i64)) w A0_0 l0_0.length l0_0) (hc0_0 : l0_0.length ≤ c0_0) (h : z11.f k l0_0 a1 = some r) (ht_ : r = true) :
  Calls Try.prog 11 #[.agg #[.slice A0_0 l0_0.length c0_0], .int .i64 a1] w fun e w' => e = .returned (.bool r) ∧ Below w.heap.size w w' := by
 have hu28 := Try.underlying28
 have hu31 := Try.underlying31
 have HR0_0 := Aside0.mk hr0_0
 have HC0_0 := Aside0.mk hc0_0
 clear hr0_0 hc0_0
 have HB := Aside0.mk (Below.refl w.heap.size w)
 have H : ((z19.f k l0_0 1048576).bind fun t102 => (if t102 < 0 then (some true) else ((z21.f k l0_0).bind fun t103 => ((z39.f k t103 a1).bind fun bt106 => ((z21.f k l0_0).bind fun t110 => ((z40.f k t110 a1).bind fun bt114 => ((z18.f k bt114.1 bt106.1).bind fun t118 => (if t118 = true then (if bt114.2 = bt106.2 then ((z21.f k l0_0).bind fun t119 => ((z23.f k t110 t119).bind fun t122 => (if t122 = true then ((laws_markComplex.f t110 1).bind fun bt123 => (if bt123.1 < 0 then (some false) else ((z18.f k bt114.1 bt106.1).bind fun t125 => (if t125 = true then ((z33.f k bt114.1 1).bind fun bt126 => ((z34.f k bt126.2 1).bind fun t128 => (if t128 < 0 then (some false) else (if t128 = bt126.1 then ((z21.f k l0_0).bind fun t129 => ((z40.f k t129 a1).bind fun bt132 => ((z18.f k bt132.1 bt106.1).bind fun t136 => (if t136 = true then (if bt132.2 = bt106.2 then ((z34.f k bt126.2 1).bind fun t137 => (if t137 < 0 then (some false) else (if t137 = bt126.1 then (some true) else (some false)))) else (some false)) else (some false))))) else (some false))))) else (some false))))) else (some false)))) else (some false)) else (some false))))))))) = some r := h
 clear h
 replace H := Option.bind_eq_some_iff.mp H
 obtain ⟨t102, A30, H⟩ := H
 have A3 := Aside0.mk A30
 clear A30
 by_cases c4 : t102 < 0
 ·rw [if_pos c4] at H
  have c4b0 : decide (t102 < 0) = true := decide_eq_true c4
  clear c4
  obtain rfl := Option.some.inj H
  go_enter Try.func11, Try.ntmps11
  go_wp2_with (first | ((with_reducible refine gate_dst (N := 2) rfl ?_); refine box_event ?hg (N := 2) ?hd (cs := #[.slice A0_0 l0_0.length c0_0]) (t := 28) ?hr ?_; (case hd => rfl); (case hg => rfl); (case hr => first | (go_simp; done) | (go_simp; rfl)); intro gb101 hg w5 hbox hb; have n0_ := Aside0.mk (below_step (B_ HB.out) hb); have n1_ := Aside0.mk (hbox); have n2_ := Aside0.mk ((by rw [hg]; exact (below_size (B_ HB.out)) : w.heap.size ≤ gb101)); have n3_ := Aside0.mk ((by rw [hg]; exact (below_size (B_ HB.out)) : w.heap.size ≤ gb101)); clear HB; have HB := n0_; have BK101 := n1_; have GW101 := n2_; have GE101 := n3_; clear n0_ n1_ n2_ n3_; clear hb hbox hg; have hcz6_0 : w5.cell? ⟨gb101, 0, none⟩ = some (.slice A0_0 l0_0.length c0_0) := (blk_cell BK101.out 0).trans rfl; have hfz6_0 := blk_frozen BK101.out 0) | ((with_reducible refine gate_callee (f := 19) rfl ?_); refine goesL_ (some 18) rfl rfl Try.func19 (by kernel_rfl) rfl #[.agg #[.slice A0_0 l0_0.length c0_0], .int .i64 1048576] rfl (by (try simp only [List.map_toArray, List.map_cons, List.map_nil]); first | done | rfl | (simp only [List.length_drop, List.length_take]; rfl)) ?_; (with_reducible refine (z19.calls k _ _ l0_0 1048576 t102 _ ?side1 ?side2 A3.out).mono ?_); (case side1 => exact KC_ (Kd.C_below HR0_0.out HB.out)); (case side2 => exact HC0_0.out); rintro e w7 ⟨rfl, hb⟩; refine ⟨_, rfl, ?_⟩; replace BK101 := Aside0.mk (blk_below (g := gb101) (o := .cells #[.slice A0_0 l0_0.length c0_0] 28 (0, 0)) (KB_ BK101.out) hb); replace HB := Aside0.mk (below_step (B1_ HB.out GE101.out) hb); (try clear hb); (try clear hb2); (try clear hk); (try clear hi)))
  go_ret
  exact ⟨F_, B1_ HB.out GE101.out⟩
 ·rw [if_neg c4] at H
  have c4b0 : decide (t102 < 0) = false := decide_eq_false c4
  clear c4
  replace H := Option.bind_eq_some_iff.mp H
  obtain ⟨t103, A80, H⟩ := H
  have A8 := Aside0.mk A80
  clear A80
  replace H := Option.bind_eq_some_iff.mp H
  obtain ⟨⟨t106, t109⟩, A90, H⟩ := H
  try dsimp only at H
  have A9 := Aside0.mk A90
  clear A90
  replace H := Option.bind_eq_some_iff.mp H
  obtain ⟨t110, A100, H⟩ := H
  have A10 := Aside0.mk A100
  clear A100
  replace H := Option.bind_eq_some_iff.mp H
  obtain ⟨⟨t114, t117⟩, A110, H⟩ := H
  try dsimp only at H
  have A11 := Aside0.mk A110
  clear A110
  replace H := Option.bind_eq_some_iff.mp H
  obtain ⟨t118, A120, H⟩ := H
  have A12 := Aside0.mk A120
  clear A120
  by_cases c13 : t118 = true
  ·subst c13
   replace H := T_ H
   by_cases c14 : t117 = t109
   ·rw [if_pos c14] at H
    have c14b0 : (t117 == t109) = true := beq_iff_eq.mpr c14
    have c14b1 : (t117 != t109) = false := bne_eq_false_iff_eq.mpr c14
    clear c14
    replace H := Option.bind_eq_some_iff.mp H
    obtain ⟨t119, A150, H⟩ := H
    have A15 := Aside0.mk A150
    clear A150
    replace H := Option.bind_eq_some_iff.mp H
    obtain ⟨t122, A160, H⟩ := H
    have A16 := Aside0.mk A160
    clear A160
    by_cases c17 : t122 = true
    ·subst c17
     replace H := T_ H
     replace H := Option.bind_eq_some_iff.mp H
     obtain ⟨⟨t123, t124⟩, A180, H⟩ := H
     try dsimp only at H
     have A18 := Aside0.mk A180
     clear A180
     by_cases c19 : t123 < 0
     ·rw [if_pos c19] at H
      have c19b0 : decide (t123 < 0) = true := decide_eq_true c19
      clear c19
      exact absurd (H.trans (congrArg some ht_)) (by simp)
     ·rw [if_neg c19] at H
      have c19b0 : decide (t123 < 0) = false := decide_eq_false c19
      clear c19
      replace H := Option.bind_eq_some_iff.mp H
      obtain ⟨t125, A200, H⟩ := H
      have A20 := Aside0.mk A200
      clear A200
      by_cases c21 : t125 = true
      ·subst c21
       replace H := T_ H
       replace H := Option.bind_eq_some_iff.mp H
       obtain ⟨⟨t126, t127⟩, A220, H⟩ := H
       try dsimp only at H
       have A22 := Aside0.mk A220
       clear A220
       replace H := Option.bind_eq_some_iff.mp H
       obtain ⟨t128, A230, H⟩ := H
       have A23 := Aside0.mk A230
       clear A230
       by_cases c24 : t128 < 0
       ·rw [if_pos c24] at H
        have c24b0 : decide (t128 < 0) = true := decide_eq_true c24
        clear c24
        exact absurd (H.trans (congrArg some ht_)) (by simp)
       ·rw [if_neg c24] at H
        have c24b0 : decide (t128 < 0) = false := decide_eq_false c24
        clear c24
        by_cases c25 : t128 = t126
        ·rw [if_pos c25] at H
         have c25b0 : (t128 == t126) = true := beq_iff_eq.mpr c25
         have c25b1 : (t128 != t126) = false := bne_eq_false_iff_eq.mpr c25
         clear c25
         replace H := Option.bind_eq_some_iff.mp H
         obtain ⟨t129, A260, H⟩ := H
         have A26 := Aside0.mk A260
         clear A260
         replace H := Option.bind_eq_some_iff.mp H
         obtain ⟨⟨t132, t135⟩, A270, H⟩ := H
         try dsimp only at H
         have A27 := Aside0.mk A270
         clear A270
         replace H := Option.bind_eq_some_iff.mp H
         obtain ⟨t136, A280, H⟩ := H
         have A28 := Aside0.mk A280
         clear A280
         by_cases c29 : t136 = true
         ·subst c29
          replace H := T_ H
          by_cases c30 : t135 = t109
          ·rw [if_pos c30] at H
           have c30b0 : (t135 == t109) = true := beq_iff_eq.mpr c30
           have c30b1 : (t135 != t109) = false := bne_eq_false_iff_eq.mpr c30
           clear c30
           replace H := Option.bind_eq_some_iff.mp H
           obtain ⟨t137, A310, H⟩ := H
           have A31 := Aside0.mk A310
           clear A310
           by_cases c32 : t137 < 0
           ·rw [if_pos c32] at H
            have c32b0 : decide (t137 < 0) = true := decide_eq_true c32
            clear c32
            exact absurd (H.trans (congrArg some ht_)) (by simp)
           ·rw [if_neg c32] at H
            have c32b0 : decide (t137 < 0) = false := decide_eq_false c32
            clear c32
            by_cases c33 : t137 = t126
            ·rw [if_pos c33] at H
             have c33b0 : (t137 == t126) = true := beq_iff_eq.mpr c33
             have c33b1 : (t137 != t126) = false := bne_eq_false_iff_eq.mpr c33
             clear c33
             obtain rfl := Option.some.inj H
             go_enter Try.func11, Try.ntmps11
             try go_wp2_with (first | ((with_reducible refine gate_dst (N := 2) rfl ?_); refine box_event ?hg (N := 2) ?hd (cs := #[.slice A0_0 l0_0.length c0_0]) (t := 28) ?hr ?_; (case hd => rfl); (case hg => rfl); (case hr => first | (go_simp; done) | (go_simp; rfl)); intro gb101 hg w34 hbox hb; have n0_ := Aside0.mk (below_step (B_ HB.out) hb); have n1_ := Aside0.mk (hbox); have n2_ := Aside0.mk ((by rw [hg]; exact (below_size (B_ HB.out)) : w.heap.size ≤ gb101)); have n3_ := Aside0.mk ((by rw [hg]; exact (below_size (B_ HB.out)) : w.heap.size ≤ gb101)); clear HB; have HB := n0_; have BK101 := n1_; have GW101 := n2_; have GE101 := n3_; clear n0_ n1_ n2_ n3_; clear hb hbox hg; have hcz35_0 : w34.cell? ⟨gb101, 0, none⟩ = some (.slice A0_0 l0_0.length c0_0) := (blk_cell BK101.out 0).trans rfl; have hfz35_0 := blk_frozen BK101.out 0) | ((with_reducible refine gate_callee (f := 19) rfl ?_); refine goesL_ (some 18) rfl rfl Try.func19 (by kernel_rfl) rfl #[.agg #[.slice A0_0 l0_0.length c0_0], .int .i64 1048576] rfl (by (try simp only [List.map_toArray, List.map_cons, List.map_nil]); first | done | rfl | (simp only [List.length_drop, List.length_take]; rfl)) ?_; (with_reducible refine (z19.calls k _ _ l0_0 1048576 t102 _ ?side1 ?side2 A3.out).mono ?_); (case side1 => exact KC_ (Kd.C_below HR0_0.out HB.out)); (case side2 => exact HC0_0.out); rintro e w36 ⟨rfl, hb⟩; refine ⟨_, rfl, ?_⟩; replace BK101 := Aside0.mk (blk_below (g := gb101) (o := .cells #[.slice A0_0 l0_0.length c0_0] 28 (0, 0)) (KB_ BK101.out) hb); replace HB := Aside0.mk (below_step (B1_ HB.out GE101.out) hb); (try clear hb); (try clear hb2); (try clear hk); (try clear hi); have hcz37_0 : w36.cell? ⟨gb101, 0, none⟩ = some (.slice A0_0 l0_0.length c0_0) := (blk_cell BK101.out 0).trans rfl; have hfz37_0 := blk_frozen BK101.out 0) | ((with_reducible refine gate_callee (f := 21) rfl ?_); refine goesL_ (some 23) rfl rfl Try.func21 (by kernel_rfl) rfl #[.agg #[.slice A0_0 l0_0.length c0_0]] rfl (by (try simp only [List.map_toArray, List.map_cons, List.map_nil]); first | done | rfl | (simp only [List.length_drop, List.length_take]; rfl)) ?_; (with_reducible refine (z21.calls k _ _ l0_0 t103 _ ?side1 ?side2 A8.out).mono ?_); (case side1 => exact KC_ (Kd.C_below HR0_0.out HB.out)); (case side2 => exact HC0_0.out); rintro e w38 ⟨v104, rfl, ho0, hb⟩; refine ⟨_, rfl, ?_⟩; obtain ⟨nan39, hnan39⟩ := Kd.size_letter hb; have HO105 := Aside0.mk (Kd.S_lower (Kd.S_geN ho0 hnan39) (below_size (B1_ HB.out GE101.out))); replace BK101 := Aside0.mk (blk_below (g := gb101) (o := .cells #[.slice A0_0 l0_0.length c0_0] 28 (0, 0)) (KB_ BK101.out) hb); replace HB := Aside0.mk (below_step (B1_ HB.out GE101.out) hb); (try clear hb); (try clear hb2); (try clear hk); (try clear hi); (try clear ho0); obtain ⟨Ao40, co40, eo40⟩ := Kd.S_slice HO105.out; subst eo40) | ((with_reducible refine gate_callee (f := 39) rfl ?_); refine goesL_ (some 25) rfl rfl Try.func39 (by kernel_rfl) rfl #[.agg #[.slice Ao40 t103.length co40], .int .i64 a1] rfl (by (try simp only [List.map_toArray, List.map_cons, List.map_nil]); first | done | rfl | (simp only [List.length_drop, List.length_take]; rfl)) ?_; (with_reducible refine (z39.calls k _ _ t103 a1 t106 t109 _ ?side1 ?side2 A9.out).mono ?_); (case side1 => exact KC_ (Kd.S_reads' HO105.out).2.2); (case side2 => exact (Kd.S_reads' HO105.out).2.1); rintro e w41 ⟨v107, rfl, ho0, hb⟩; refine ⟨_, rfl, ?_⟩; obtain ⟨nan42, hnan42⟩ := Kd.size_letter hb; replace HO105 := Aside0.mk (Kd.S_told (Kd.S_oldN (KS_ HO105.out) hb hnan42) (Kd.R_baseN ho0 hnan42)); have HO108 := Aside0.mk (Kd.R_lower (Kd.R_geN ho0 hnan42) (below_size (B1_ HB.out GE101.out))); replace BK101 := Aside0.mk (blk_below (g := gb101) (o := .cells #[.slice A0_0 l0_0.length c0_0] 28 (0, 0)) (KB_ BK101.out) hb); replace HB := Aside0.mk (below_step (B1_ HB.out GE101.out) hb); (try clear hb); (try clear hb2); (try clear hk); (try clear hi); (try clear ho0); have hcz43_0 : w41.cell? ⟨gb101, 0, none⟩ = some (.slice A0_0 l0_0.length c0_0) := (blk_cell BK101.out 0).trans rfl; have hfz43_0 := blk_frozen BK101.out 0) | ((with_reducible refine gate_callee (f := 21) rfl ?_); refine goesL_ (some 29) rfl rfl Try.func21 (by kernel_rfl) rfl #[.agg #[.slice A0_0 l0_0.length c0_0]] rfl (by (try simp only [List.map_toArray, List.map_cons, List.map_nil]); first | done | rfl | (simp only [List.length_drop, List.length_take]; rfl)) ?_; (with_reducible refine (z21.calls k _ _ l0_0 t110 _ ?side1 ?side2 A10.out).mono ?_); (case side1 => exact KC_ (Kd.C_below HR0_0.out HB.out)); (case side2 => exact HC0_0.out); rintro e w44 ⟨v111, rfl, ho0, hb⟩; refine ⟨_, rfl, ?_⟩; obtain ⟨nan45, hnan45⟩ := Kd.size_letter hb; have n0_ := Aside0.mk (Kd.S_told (Kd.S_oldN (KS_ HO105.out) hb hnan45) (Kd.S_baseN ho0 hnan45)); have n1_ := Aside0.mk (Kd.R_oldN (KR_ HO108.out) hb hnan45); have n2_ := Aside0.mk (Kd.S_lower (Kd.S_geN (Kd.S_new' (Kd.S_new' ho0 (Kd.S_lt (KS_ HO105.out))) (Kd.R_lt (KR_ HO108.out))) hnan45) (below_size (B1_ HB.out GE101.out))); have n3_ := Aside0.mk (blk_below (g := gb101) (o := .cells #[.slice A0_0 l0_0.length c0_0] 28 (0, 0)) (KB_ BK101.out) hb); have n4_ := Aside0.mk (below_step (B1_ HB.out GE101.out) hb); clear HO105; clear HO108; clear BK101; clear HB; have HO105 := n0_; have HO108 := n1_; have HO112 := n2_; have BK101 := n3_; have HB := n4_; clear n0_ n1_ n2_ n3_ n4_; (try clear hb); (try clear hb2); (try clear hk); (try clear hi); (try clear ho0)) | ((with_reducible refine gate_dst (N := 8) rfl ?_); refine box_event ?hg (N := 8) ?hd (cs := #[.slice none 0 0]) (t := 31) ?hr ?_; (case hd => rfl); (case hg => rfl); (case hr => first | (go_simp; done) | (go_simp; rfl)); intro gb113 hg w46 hbox hb; have n0_ := Aside0.mk (Kd.S_below (KS_ HO105.out) hb); have n1_ := Aside0.mk (Kd.R_below (KR_ HO108.out) hb); have n2_ := Aside0.mk (Kd.S_below (KS_ HO112.out) hb); have n3_ := Aside0.mk (blk_below (g := gb101) (o := .cells #[.slice A0_0 l0_0.length c0_0] 28 (0, 0)) (KB_ BK101.out) hb); have n4_ := Aside0.mk (below_step (B1_ HB.out GE101.out) hb); have n5_ := Aside0.mk (hbox); have n6_ := Aside0.mk ((by rw [hg]; exact (below_size (B1_ HB.out GE101.out)) : w.heap.size ≤ gb113)); have n7_ := Aside0.mk ((by rw [hg]; exact (below_size (B1_ HB.out GE101.out)) : w.heap.size ≤ gb113)); have n8_ := Aside0.mk ((by rw [hg]; exact Nat.ne_of_lt (blk_lt (g := gb101) (o := .cells #[.slice A0_0 l0_0.length c0_0] 28 (0, 0)) (KB_ BK101.out)) : gb101 ≠ gb113)); have n9_ := Aside0.mk ((by rw [hg]; exact Nat.ne_of_gt (blk_lt (g := gb101) (o := .cells #[.slice A0_0 l0_0.length c0_0] 28 (0, 0)) (KB_ BK101.out)) : gb113 ≠ gb101)); clear HO105; clear HO108; clear HO112; clear BK101; clear HB; have HO105 := n0_; have HO108 := n1_; have HO112 := n2_; have BK101 := n3_; have HB := n4_; have BK113 := n5_; have GW113 := n6_; have GE113 := n7_; have NB101_113 := n8_; have NB113_101 := n9_; clear n0_ n1_ n2_ n3_ n4_ n5_ n6_ n7_ n8_ n9_; clear hb hbox hg; obtain ⟨Ao47, co47, eo47⟩ := Kd.S_slice HO112.out; subst eo47; have hnb48 := NB113_101.out; have hnc48 := NB101_113.out; have hcz49_0 : w46.cell? ⟨gb113, 0, none⟩ = some (.slice none 0 0) := (blk_cell BK113.out 0).trans rfl; have hfz49_0 := blk_frozen BK113.out 0) | ((with_reducible refine gate_callee (f := 40) rfl ?_); refine goesL_ (some 33) rfl rfl Try.func40 (by kernel_rfl) rfl #[.agg #[.slice Ao47 t110.length co47], .int .i64 a1] rfl (by (try simp only [List.map_toArray, List.map_cons, List.map_nil]); first | done | rfl | (simp only [List.length_drop, List.length_take]; rfl)) ?_; (with_reducible refine (z40.calls k _ _ t110 a1 t114 t117 _ ?side1 ?side2 A11.out).mono ?_); (case side1 => refine (Kd.S_reads' (e := 22) (base := w.heap.size) (ok := fun k_ => (((True ∧ some k_ ≠ (.slice Ao40 t103.length co40 : Value).ownBlock) ∧ some k_ ≠ (v107 : Value).ownBlock) ∧ nan45 ≤ k_)) (n := t110.length) (c := co47) ?_).2.2; exact (by (with_reducible repeat (first | apply Kd.S_alloc | apply Kd.S_drewN | apply Kd.S_drew)); exact (Kd.S_mono (Kd.S_far (p := ⟨gb113, 0, none⟩) (Kd.S_types HO112.out BK113.out (by decide)) (fun _ hk => hk.2) (.slice Ao47 t110.length co47)) (fun _ h_ => h_.1)))); (case side2 => exact (Kd.S_reads' HO112.out).2.1); rintro e w50 ⟨v115, rfl, ho0, hb⟩; refine ⟨_, rfl, ?_⟩; obtain ⟨nan51, hnan51⟩ := Kd.size_letter hb; have n0_ := Aside0.mk (Kd.S_told (Kd.S_oldN (by (with_reducible repeat (first | apply Kd.S_alloc | apply Kd.S_drewN | apply Kd.S_drew)); exact (Kd.S_mono (Kd.S_far (p := ⟨gb113, 0, none⟩) (Kd.S_types HO105.out BK113.out (by decide)) (fun _ hk => hk.2) (.slice Ao47 t110.length co47)) (fun _ h_ => h_.1))) hb hnan51) (Kd.R_baseN ho0 hnan51)); have n1_ := Aside0.mk (Kd.R_told (Kd.R_oldN (by (with_reducible repeat (first | apply Kd.R_alloc | apply Kd.R_drewN | apply Kd.R_drew)); exact (Kd.R_mono (Kd.R_far (p := ⟨gb113, 0, none⟩) (Kd.R_types HO108.out BK113.out (by decide)) (fun _ hk => hk.2) (.slice Ao47 t110.length co47)) (fun _ h_ => h_.1))) hb hnan51) (Kd.R_baseN ho0 hnan51)); have n2_ := Aside0.mk (Kd.S_told (Kd.S_oldN (by (with_reducible repeat (first | apply Kd.S_alloc | apply Kd.S_drewN | apply Kd.S_drew)); exact (Kd.S_mono (Kd.S_far (p := ⟨gb113, 0, none⟩) (Kd.S_types HO112.out BK113.out (by decide)) (fun _ hk => hk.2) (.slice Ao47 t110.length co47)) (fun _ h_ => h_.1))) hb hnan51) (Kd.R_baseN ho0 hnan51)); have n3_ := Aside0.mk (Kd.R_lower (Kd.R_geN (Kd.R_new' ho0 (Kd.R_lt (by (with_reducible repeat (first | apply Kd.R_alloc | apply Kd.R_drewN | apply Kd.R_drew)); exact (Kd.R_mono (Kd.R_far (p := ⟨gb113, 0, none⟩) (Kd.R_types HO108.out BK113.out (by decide)) (fun _ hk => hk.2) (.slice Ao47 t110.length co47)) (fun _ h_ => h_.1))))) hnan51) (below_size (B2_ HB.out GE101.out GE113.out))); have n4_ := Aside0.mk (blk_below (g := gb101) (o := .cells #[.slice A0_0 l0_0.length c0_0] 28 (0, 0)) (by (with_reducible repeat (first | refine blk_drewN ?_ _ | refine blk_drew ?_ | refine blk_alloc ?_ _)); refine blk_far ?_ NB101_113.out _; (with_reducible repeat (first | refine blk_drewN ?_ _ | refine blk_drew ?_ | refine blk_alloc ?_ _)); exact BK101.out) hb); have n5_ := Aside0.mk (blk_below (g := gb113) (o := .cells #[.slice Ao47 t110.length co47] 31 (0, 0)) (by (with_reducible repeat (first | refine blk_drewN ?_ _ | refine blk_drew ?_ | refine blk_alloc ?_ _)); refine blk_put (cs := #[.slice none 0 0]) ?_ 0 _ rfl; (with_reducible repeat (first | refine blk_drewN ?_ _ | refine blk_drew ?_ | refine blk_alloc ?_ _)); exact BK113.out) hb); have n6_ := Aside0.mk (below_step (B2_ HB.out GE101.out GE113.out) hb); clear HO105; clear HO108; clear HO112; clear BK101; clear BK113; clear HB; have HO105 := n0_; have HO108 := n1_; have HO112 := n2_; have HO116 := n3_; have BK101 := n4_; have BK113 := n5_; have HB := n6_; clear n0_ n1_ n2_ n3_ n4_ n5_ n6_; (try clear hb); (try clear hb2); (try clear hk); (try clear hi); (try clear ho0); obtain ⟨Ao52, co52, eo52⟩ := Kd.R_slice HO116.out; subst eo52; obtain ⟨Ao53, co53, eo53⟩ := Kd.R_slice HO108.out; subst eo53) | ((with_reducible refine gate_callee (f := 18) rfl ?_); refine goesL_ (some 38) rfl rfl Try.func18 (by kernel_rfl) rfl #[.slice Ao52 t114.length co52, .slice Ao53 t106.length co53] rfl (by (try simp only [List.map_toArray, List.map_cons, List.map_nil]); first | done | rfl | (simp only [List.length_drop, List.length_take]; rfl)) ?_; (with_reducible refine (z18.calls k _ _ t114 _ _ t106 true _ ?side1 ?side2 ?side3 ?side4 A12.out).mono ?_); (case side1 => exact KC_ (Kd.R_reads' HO116.out).2.2); (case side2 => exact (Kd.R_reads' HO116.out).2.1); (case side3 => exact KC_ (Kd.R_reads' HO108.out).2.2); (case side4 => exact (Kd.R_reads' HO108.out).2.1); rintro e w' ⟨rfl, ⟨nd, rfl⟩⟩; refine ⟨_, rfl, ?_⟩))
             (try (rw [drewN_self w50]; generalize hq_ : World.drewN w50 _ = w50; have n0_ : Aside0 (Kd.S (Kd.slice 2 (Kd.int .i64)) 22 w50 w.heap.size (fun k_ => some k_ ≠ (.slice Ao53 t106.length co53 : Value).ownBlock ∧ some k_ ≠ (.slice Ao47 t110.length co47 : Value).ownBlock ∧ some k_ ≠ (.slice Ao52 t114.length co52 : Value).ownBlock ∧ nan39 ≤ k_ ∧ k_ < nan42 ∧ k_ < nan45 ∧ k_ < nan51) (.slice Ao40 t103.length co40) t103) := ⟨by rw [← hq_]; exact (by (with_reducible repeat (first | apply Kd.S_alloc | apply Kd.S_drewN | apply Kd.S_drew)); exact Kd.S_mono HO105.out (fun _ hk => ⟨hk.1.1.1.1.1.2, ⟨hk.1.1.1.2, ⟨hk.1.2, ⟨hk.1.1.1.1.1.1.2, ⟨hk.1.1.1.1.2, ⟨hk.1.1.2, hk.2⟩⟩⟩⟩⟩⟩))⟩; have n1_ : Aside0 (Kd.R (Kd.int .i64) 2 w50 w.heap.size (fun k_ => some k_ ≠ (.slice Ao52 t114.length co52 : Value).ownBlock ∧ nan42 ≤ k_ ∧ k_ < nan45 ∧ k_ < nan51) (.slice Ao53 t106.length co53) t106) := ⟨by rw [← hq_]; exact (by (with_reducible repeat (first | apply Kd.R_alloc | apply Kd.R_drewN | apply Kd.R_drew)); exact Kd.R_mono HO108.out (fun _ hk => ⟨hk.1.2, ⟨hk.1.1.1.2, ⟨hk.1.1.2, hk.2⟩⟩⟩))⟩; have n2_ : Aside0 (Kd.S (Kd.slice 2 (Kd.int .i64)) 22 w50 w.heap.size (fun k_ => some k_ ≠ (.slice Ao40 t103.length co40 : Value).ownBlock ∧ some k_ ≠ (.slice Ao53 t106.length co53 : Value).ownBlock ∧ some k_ ≠ (.slice Ao52 t114.length co52 : Value).ownBlock ∧ nan45 ≤ k_ ∧ k_ < nan51) (.slice Ao47 t110.length co47) t110) := ⟨by rw [← hq_]; exact (by (with_reducible repeat (first | apply Kd.S_alloc | apply Kd.S_drewN | apply Kd.S_drew)); exact Kd.S_mono HO112.out (fun _ hk => ⟨hk.1.1.1.1.2, ⟨hk.1.1.1.2, ⟨hk.1.2, ⟨hk.1.1.2, hk.2⟩⟩⟩⟩))⟩; have n3_ : Aside0 (Kd.R (Kd.int .i64) 2 w50 w.heap.size (fun k_ => some k_ ≠ (.slice Ao53 t106.length co53 : Value).ownBlock ∧ nan51 ≤ k_) (.slice Ao52 t114.length co52) t114) := ⟨by rw [← hq_]; exact (by (with_reducible repeat (first | apply Kd.R_alloc | apply Kd.R_drewN | apply Kd.R_drew)); exact Kd.R_mono HO116.out (fun _ hk => ⟨hk.1.2, hk.2⟩))⟩; have n4_ : Aside0 (w50.heap[gb101]? = some (.cells #[.slice A0_0 l0_0.length c0_0] 28 (0, 0))) := ⟨by rw [← hq_]; exact (KB_ BK101.out)⟩; have n5_ : Aside0 (w50.heap[gb113]? = some (.cells #[.slice Ao47 t110.length co47] 31 (0, 0))) := ⟨by rw [← hq_]; exact (KB_ BK113.out)⟩; have n6_ : Aside0 (Below w.heap.size w w50) := ⟨by rw [← hq_]; exact (B2_ HB.out GE101.out GE113.out)⟩; clear HO105 HO108 HO112 HO116 BK101 BK113 HB hq_; have HO105 := n0_; have HO108 := n1_; have HO112 := n2_; have HO116 := n3_; have BK101 := n4_; have BK113 := n5_; have HB := n6_; clear n0_ n1_ n2_ n3_ n4_ n5_ n6_))
             replace HO105 := Aside0.mk (Kd.S_drew HO105.out)
             replace HO108 := Aside0.mk (Kd.R_drew HO108.out)
             replace HO112 := Aside0.mk (Kd.S_drew HO112.out)
             replace HO116 := Aside0.mk (Kd.R_drew HO116.out)
             replace BK101 := Aside0.mk (blk_drew BK101.out)
             replace BK113 := Aside0.mk (blk_drew BK113.out)
             replace HB := Aside0.mk (below_drew1 HB.out)
             refine start_ (n := 5) (S := fun w' => w'.cell? ⟨gb113, 0, none⟩ = some (.slice Ao47 t110.length co47) ∧ w'.cell? ⟨gb101, 0, none⟩ = some (.slice A0_0 l0_0.length c0_0)) (ds := []) #[false, false, false, false, false] (by kernel_rfl) rfl rfl ⟨(blk_cell BK113.out 0).trans rfl, (blk_cell BK101.out 0).trans rfl⟩ (fun hHeld => ?_)
             generalize w50.drew = w54 at HO105 HO108 HO112 HO116 BK101 BK113 HB hHeld ⊢
             refine take_ (i := 0) (N := some 45) (v := ?_) (a' := ?_) #[true, false, false, false, false] rfl rfl (by kernel_rfl) (fun _ _ _ h => h) (Or.inl ⟨by rfl, ?_⟩) hHeld ?_ ?_
             rotate_left
             ·rintro w' ⟨s0, s1⟩
              go_simp
              with_reducible rfl
             rotate_left
             ·simp only [Act.put, List.setIfInBounds_toArray, List.set_cons_zero, List.set_cons_succ, i64_w, i32_w]
              rfl
             refine take_ (i := 1) (N := some 46) (v := ?_) (a' := ?_) #[true, true, false, false, false] rfl rfl (by kernel_rfl) (fun _ _ _ h => h) (Or.inl ⟨by rfl, ?_⟩) hHeld ?_ ?_
             rotate_left
             ·rintro w' ⟨s0, s1⟩
              go_simp
              with_reducible rfl
             rotate_left
             ·simp only [Act.put, List.setIfInBounds_toArray, List.set_cons_zero, List.set_cons_succ, i64_w, i32_w]
              rfl
             refine one_ (i := 2) (N := some 47) #[true, true, true, false, false] rfl rfl (by kernel_rfl) (by decide) (fun K hK => ?_)
             refine GO_ Try.func21 #[.agg #[.slice A0_0 l0_0.length c0_0]] (h := ?_)
             with_reducible refine (z21.calls k _ _ l0_0 t119 _ ?side1 ?side2 A15.out).mono ?_
             (case side1 => exact KC_ (Kd.C_below HR0_0.out HB.out))
             (case side2 => exact HC0_0.out)
             rintro e w55 ⟨v120, rfl, ho0, hb⟩
             refine ⟨_, rfl, ?_⟩
             obtain ⟨nan56, hnan56⟩ := Kd.size_letter hb
             have n0_ := Aside0.mk (Kd.S_told (Kd.S_oldN (KS_ HO105.out) hb hnan56) (Kd.S_baseN ho0 hnan56))
             have n1_ := Aside0.mk (Kd.R_oldN (KR_ HO108.out) hb hnan56)
             have n2_ := Aside0.mk (Kd.S_told (Kd.S_oldN (KS_ HO112.out) hb hnan56) (Kd.S_baseN ho0 hnan56))
             have n3_ := Aside0.mk (Kd.R_oldN (KR_ HO116.out) hb hnan56)
             have n4_ := Aside0.mk (Kd.S_lower (Kd.S_geN (Kd.S_new' (Kd.S_new' (Kd.S_new' (Kd.S_new' ho0 (Kd.S_lt (KS_ HO105.out))) (Kd.R_lt (KR_ HO108.out))) (Kd.S_lt (KS_ HO112.out))) (Kd.R_lt (KR_ HO116.out))) hnan56) (below_size (B2_ HB.out GE101.out GE113.out)))
             have n5_ := Aside0.mk (blk_below (g := gb101) (o := .cells #[.slice A0_0 l0_0.length c0_0] 28 (0, 0)) (KB_ BK101.out) hb)
             have n6_ := Aside0.mk (blk_below (g := gb113) (o := .cells #[.slice Ao47 t110.length co47] 31 (0, 0)) (KB_ BK113.out) hb)
             have n7_ := Aside0.mk (below_step (B2_ HB.out GE101.out GE113.out) hb)
             clear HO105
             clear HO108
             clear HO112
             clear HO116
             clear BK101
             clear BK113
             clear HB
             have HO105 := n0_
             have HO108 := n1_
             have HO112 := n2_
             have HO116 := n3_
             have HO121 := n4_
             have BK101 := n5_
             have BK113 := n6_
             have HB := n7_
             clear n0_ n1_ n2_ n3_ n4_ n5_ n6_ n7_
             (try clear hb);(try clear hb2);(try clear hk);(try clear hi);(try clear ho0)
             obtain ⟨Ao57, co57, eo57⟩ := Kd.S_slice HO121.out
             (first | subst eo57 | (injection eo57 with f1_ f2_ f3_; have f4_ := f1_.symm; have f5_ := f3_.symm; clear f1_ f2_ f3_; subst f4_; subst f5_))
             refine hK.out _ _ ⟨(blk_cell BK113.out 0).trans rfl, (blk_cell BK101.out 0).trans rfl⟩ (fun hHeld => ?_)
             clear hK K
             refine NM_ (N := (some 47)) (h := ?_)
             refine one_ (i := 3) (N := some 48) #[true, true, true, true, false] rfl rfl (by kernel_rfl) (by decide) (fun K hK => ?_)
             refine GO_ Try.func23 #[.agg #[.slice Ao47 t110.length co47], .agg #[.slice Ao57 t119.length co57]] (h := ?_)
             with_reducible refine (z23.calls k _ _ t110 _ _ t119 true _ ?side1 ?side2 ?side3 ?side4 A16.out).mono ?_
             (case side1 => exact KC_ (Kd.S_reads' HO112.out).2.2)
             (case side2 => exact (Kd.S_reads' HO112.out).2.1)
             (case side3 => exact KC_ (Kd.S_reads' HO121.out).2.2)
             (case side4 => exact (Kd.S_reads' HO121.out).2.1)
             rintro e w58 ⟨rfl, hb⟩
             refine ⟨_, rfl, ?_⟩
             replace HO105 := Aside0.mk (Kd.S_below (KS_ HO105.out) hb)
             replace HO108 := Aside0.mk (Kd.R_below (KR_ HO108.out) hb)
             replace HO112 := Aside0.mk (Kd.S_below (KS_ HO112.out) hb)
             replace HO116 := Aside0.mk (Kd.R_below (KR_ HO116.out) hb)
             replace HO121 := Aside0.mk (Kd.S_below (KS_ HO121.out) hb)
             replace BK101 := Aside0.mk (blk_below (g := gb101) (o := .cells #[.slice A0_0 l0_0.length c0_0] 28 (0, 0)) (KB_ BK101.out) hb)
             replace BK113 := Aside0.mk (blk_below (g := gb113) (o := .cells #[.slice Ao47 t110.length co47] 31 (0, 0)) (KB_ BK113.out) hb)
             replace HB := Aside0.mk (below_step (B2_ HB.out GE101.out GE113.out) hb)
             (try clear hb);(try clear hb2);(try clear hk);(try clear hi)
             refine hK.out _ _ ⟨(blk_cell BK113.out 0).trans rfl, (blk_cell BK101.out 0).trans rfl⟩ (fun hHeld => ?_)
             clear hK K
             refine NM_ (N := (some 48)) (h := ?_)
             refine pure_ (i := 4) (N := some 49) (v := ?_) (a' := ?_) #[true, true, true, true, true] rfl rfl (by kernel_rfl) (fun _ _ _ h => h) (Or.inl ⟨by rfl, ?_⟩) ?_ ?_
             rotate_left
             ·intro w'
              go_simp
              with_reducible rfl
             rotate_left
             ·simp only [Act.put, List.setIfInBounds_toArray, List.set_cons_zero, List.set_cons_succ, i64_w, i32_w]
              rfl
             refine done_ (by kernel_rfl) ?_
             have hcz59_0 : w58.cell? ⟨gb113, 0, none⟩ = some (.slice Ao47 t110.length co47) := (blk_cell BK113.out 0).trans rfl
             have hfz59_0 := blk_frozen BK113.out 0
             try go_wp2_with (first | (go_at_call 32; (with_reducible refine (laws_markComplex.calls (fun k_ => (((some k_ ≠ (.slice Ao40 t103.length co40 : Value).ownBlock ∧ (some k_ ≠ (.slice Ao53 t106.length co53 : Value).ownBlock ∧ (some k_ ≠ (.slice Ao52 t114.length co52 : Value).ownBlock ∧ (nan45 ≤ k_ ∧ k_ < nan51)))) ∧ some k_ ≠ (.slice Ao57 t119.length co57 : Value).ownBlock) ∧ k_ < nan56) ∧ ∃ q_, q_ ∈ 22 :: ((Kd.slice 2 (Kd.int .i64))).E ∧ ∃ cs_, w58.heap[k_]? = some (.cells cs_ q_ (0, 0))) (.slice Ao47 t110.length co47) t110 1 t123 t124 w _ ?side1 ?side2 A18.out).mono ?_); (case side1 => repeat (first | (with_reducible first | exact HB.out | apply below_alloc | apply pw_below_drewN | apply below_drew1 | refine below_set ?_ GE101.out | refine below_set ?_ GE113.out) | exact HB.out)); (case side2 => exact Kd.S_pin (ok := fun k_ => (((some k_ ≠ (.slice Ao40 t103.length co40 : Value).ownBlock ∧ (some k_ ≠ (.slice Ao53 t106.length co53 : Value).ownBlock ∧ (some k_ ≠ (.slice Ao52 t114.length co52 : Value).ownBlock ∧ (nan45 ≤ k_ ∧ k_ < nan51)))) ∧ some k_ ≠ (.slice Ao57 t119.length co57 : Value).ownBlock) ∧ k_ < nan56)) (KS_ HO112.out)); rintro e w60 ⟨rfl, hy0, hb, hkp⟩; replace BK101 := Aside0.mk (blk_kept (KB_ BK101.out) hkp (fun hs_ => Kd.typed_ne (KB_ BK101.out) hs_.2 (by decide))); replace HO105 := Aside0.mk (Kd.S_mono (Kd.S_keptB (ok := fun k_ => (((some k_ ≠ (.slice Ao53 t106.length co53 : Value).ownBlock ∧ (some k_ ≠ (.slice Ao47 t110.length co47 : Value).ownBlock ∧ (some k_ ≠ (.slice Ao52 t114.length co52 : Value).ownBlock ∧ (nan39 ≤ k_ ∧ (k_ < nan42 ∧ (k_ < nan45 ∧ k_ < nan51)))))) ∧ some k_ ≠ (.slice Ao57 t119.length co57 : Value).ownBlock) ∧ k_ < nan56)) (KS_ HO105.out) hkp (fun k_ hk_ hs_ => absurd hs_.1.1.1.2.2.2.1 (Nat.not_le.2 hk_.1.1.2.2.2.2.2.1))) (fun k_ hk_ => hk_.1)); replace HO108 := Aside0.mk (Kd.R_mono (Kd.R_keptB (ok := fun k_ => ((some k_ ≠ (.slice Ao52 t114.length co52 : Value).ownBlock ∧ (nan42 ≤ k_ ∧ (k_ < nan45 ∧ k_ < nan51))) ∧ k_ < nan56)) (KR_ HO108.out) hkp (fun k_ hk_ hs_ => absurd hs_.1.1.1.2.2.2.1 (Nat.not_le.2 hk_.1.2.2.1))) (fun k_ hk_ => hk_.1)); replace HO112 := Aside0.mk (Kd.S_mono hy0 (fun k_ hk_ => hk_.1)); replace BK113 := Aside0.mk (blk_kept (KB_ BK113.out) hkp (fun hs_ => Kd.typed_ne (KB_ BK113.out) hs_.2 (by decide))); replace HO116 := Aside0.mk (Kd.R_mono (Kd.R_keptB (ok := fun k_ => ((some k_ ≠ (.slice Ao53 t106.length co53 : Value).ownBlock ∧ nan51 ≤ k_) ∧ k_ < nan56)) (KR_ HO116.out) hkp (fun k_ hk_ hs_ => absurd hk_.1.2 (Nat.not_le.2 hs_.1.1.1.2.2.2.2))) (fun k_ hk_ => hk_.1)); replace HO121 := Aside0.mk (Kd.S_mono (Kd.S_keptB (ok := fun k_ => (((((True ∧ some k_ ≠ (.slice Ao40 t103.length co40 : Value).ownBlock) ∧ some k_ ≠ (.slice Ao53 t106.length co53 : Value).ownBlock) ∧ some k_ ≠ (.slice Ao47 t110.length co47 : Value).ownBlock) ∧ some k_ ≠ (.slice Ao52 t114.length co52 : Value).ownBlock) ∧ nan56 ≤ k_)) (KS_ HO121.out) hkp (fun k_ hk_ hs_ => absurd hk_.2 (Nat.not_le.2 hs_.1.2))) (fun k_ hk_ => hk_.1)); replace HB := Aside0.mk (hb); (try clear hb hkp hy0)) | (go_at_call 18; (with_reducible refine (z18.calls k _ _ t114 _ _ t106 true _ ?side1 ?side2 ?side3 ?side4 A20.out).mono ?_); (case side1 => exact KC_ (Kd.R_reads' HO116.out).2.2); (case side2 => exact (Kd.R_reads' HO116.out).2.1); (case side3 => exact KC_ (Kd.R_reads' HO108.out).2.2); (case side4 => exact (Kd.R_reads' HO108.out).2.1); rintro e w' ⟨rfl, ⟨nd, rfl⟩⟩) | ((with_reducible refine gate_callee (f := 33) rfl ?_); refine goesL_ (some 68) rfl rfl Try.func33 (by kernel_rfl) rfl #[.slice Ao52 t114.length co52, .int .i64 1] rfl (by (try simp only [List.map_toArray, List.map_cons, List.map_nil]); first | done | rfl | (simp only [List.length_drop, List.length_take]; rfl)) ?_; (with_reducible refine (z33.calls k (fun k_ => some k_ = (.slice Ao52 t114.length co52 : Value).ownBlock) (.slice Ao52 t114.length co52) t114 1 t126 t127 w _ ?side1 ?side2 A22.out).mono ?_); (case side1 => repeat (first | (with_reducible first | exact HB.out | apply below_alloc | apply pw_below_drewN | apply below_drew1 | refine below_set ?_ GE101.out | refine below_set ?_ GE113.out) | exact HB.out)); (case side2 => exact Kd.R_tight rfl HO116.out); rintro e w61 ⟨rfl, hy0, hb, hkp⟩; refine ⟨_, rfl, ?_⟩; replace BK101 := Aside0.mk (blk_kept (KB_ BK101.out) hkp (fun hs_ => (fun e_ => (Kd.R_ne HO116.out BK101.out (by decide)) e_) hs_)); replace HO105 := Aside0.mk (Kd.S_mono (ok' := fun k_ => some k_ ≠ (.slice Ao53 t106.length co53 : Value).ownBlock ∧ some k_ ≠ (.slice Ao47 t110.length co47 : Value).ownBlock ∧ some k_ ≠ (.slice Ao52 t114.length co52 : Value).ownBlock ∧ some k_ ≠ (.slice Ao57 t119.length co57 : Value).ownBlock) (Kd.S_keptB (HO105.out) hkp (fun k_ hk_ hs_ => (hk_.1.1.2.2.1) hs_)) (fun k_ hk_ => ⟨hk_.1.1.1.1, hk_.1.1.1.2.1, hk_.1.1.1.2.2.1, hk_.1.1.2⟩)); replace HO108 := Aside0.mk (Kd.R_mono (ok' := fun k_ => some k_ ≠ (.slice Ao52 t114.length co52 : Value).ownBlock) (Kd.R_keptB (HO108.out) hkp (fun k_ hk_ hs_ => (hk_.1.1) hs_)) (fun k_ hk_ => hk_.1.1.1)); replace HO112 := Aside0.mk (Kd.S_mono (ok' := fun k_ => some k_ ≠ (.slice Ao40 t103.length co40 : Value).ownBlock ∧ some k_ ≠ (.slice Ao53 t106.length co53 : Value).ownBlock ∧ some k_ ≠ (.slice Ao52 t114.length co52 : Value).ownBlock ∧ some k_ ≠ (.slice Ao57 t119.length co57 : Value).ownBlock) (Kd.S_keptB (HO112.out) hkp (fun k_ hk_ hs_ => (hk_.1.1.2.2.1) hs_)) (fun k_ hk_ => ⟨hk_.1.1.1.1, hk_.1.1.1.2.1, hk_.1.1.1.2.2.1, hk_.1.1.2⟩)); replace BK113 := Aside0.mk (blk_kept (KB_ BK113.out) hkp (fun hs_ => (fun e_ => (Kd.R_ne HO116.out BK113.out (by decide)) e_) hs_)); replace HO116 := Aside0.mk (Kd.R_reok rfl hy0 (fun k_ e_ => HO116.out.1 k_ e_)); replace HO121 := Aside0.mk (Kd.S_mono (ok' := fun k_ => some k_ ≠ (.slice Ao40 t103.length co40 : Value).ownBlock ∧ some k_ ≠ (.slice Ao53 t106.length co53 : Value).ownBlock ∧ some k_ ≠ (.slice Ao47 t110.length co47 : Value).ownBlock ∧ some k_ ≠ (.slice Ao52 t114.length co52 : Value).ownBlock) (Kd.S_keptB (HO121.out) hkp (fun k_ hk_ hs_ => (hk_.1.2) hs_)) (fun k_ hk_ => ⟨hk_.1.1.1.1.1.2, hk_.1.1.1.1.2, hk_.1.1.1.2, hk_.1.1.2⟩)); replace HB := Aside0.mk (hb); (try clear hb); (try clear hkp); (try clear hy0)) | ((with_reducible refine gate_callee (f := 34) rfl ?_); refine goesL_ (some 71) rfl rfl Try.func34 (by kernel_rfl) rfl #[.slice Ao52 t127.length co52, .int .i64 1] rfl (by (try simp only [List.map_toArray, List.map_cons, List.map_nil]); first | done | (rw [show t127.length = t114.length from (Kd.R_reads' HO116.out).1.symm] <;> rfl) | rfl | (simp only [List.length_drop, List.length_take]; rfl)) ?_; (with_reducible refine (z34.calls k _ _ t127 1 t128 _ ?side1 ?side2 A23.out).mono ?_); (case side1 => exact KC_ (Kd.R_reads' HO116.out).2.2); (case side2 => rw [show t127.length = t114.length from (Kd.R_reads' HO116.out).1.symm]; exact (Kd.R_reads' HO116.out).2.1); rintro e w' ⟨rfl, ⟨nd, rfl⟩⟩; refine ⟨_, rfl, ?_⟩; have hcz62_0 : w61.cell? ⟨gb101, 0, none⟩ = some (.slice A0_0 l0_0.length c0_0) := (blk_cell BK101.out 0).trans rfl; have hfz62_0 := blk_frozen BK101.out 0) | ((with_reducible refine gate_callee (f := 21) rfl ?_); refine goesL_ (some 79) rfl rfl Try.func21 (by kernel_rfl) rfl #[.agg #[.slice A0_0 l0_0.length c0_0]] rfl (by (try simp only [List.map_toArray, List.map_cons, List.map_nil]); first | done | rfl | (simp only [List.length_drop, List.length_take]; rfl)) ?_; (with_reducible refine (z21.calls k _ _ l0_0 t129 _ ?side1 ?side2 A26.out).mono ?_); (case side1 => repeat (first | exact (Kd.C_below HR0_0.out (B2_ HB.out GE101.out GE113.out)) | (with_reducible refine Kd.C_alloc ?_ _) | (with_reducible refine Kd.C_drewN ?_ _) | (with_reducible refine Kd.C_drew ?_))); (case side2 => exact HC0_0.out); rintro e w63 ⟨v130, rfl, ho0, hb⟩; refine ⟨_, rfl, ?_⟩; obtain ⟨nan64, hnan64⟩ := Kd.size_letter hb; have n0_ := Aside0.mk (Kd.S_told (Kd.S_oldN (KS_ HO105.out) hb hnan64) (Kd.S_baseN ho0 hnan64)); have n1_ := Aside0.mk (Kd.R_oldN (KR_ HO108.out) hb hnan64); have n2_ := Aside0.mk (Kd.S_told (Kd.S_oldN (KS_ HO112.out) hb hnan64) (Kd.S_baseN ho0 hnan64)); have n3_ := Aside0.mk (Kd.R_oldN (KR_ HO116.out) hb hnan64); have n4_ := Aside0.mk (Kd.S_told (Kd.S_oldN (KS_ HO121.out) hb hnan64) (Kd.S_baseN ho0 hnan64)); have n5_ := Aside0.mk (Kd.S_lower (Kd.S_geN (Kd.S_new' (Kd.S_new' (Kd.S_new' (Kd.S_new' (Kd.S_new' ho0 (Kd.S_lt (KS_ HO105.out))) (Kd.R_lt (KR_ HO108.out))) (Kd.S_lt (KS_ HO112.out))) (Kd.R_lt (KR_ HO116.out))) (Kd.S_lt (KS_ HO121.out))) hnan64) (below_size (B2_ HB.out GE101.out GE113.out))); have n6_ := Aside0.mk (blk_below (g := gb101) (o := .cells #[.slice A0_0 l0_0.length c0_0] 28 (0, 0)) (KB_ BK101.out) hb); have n7_ := Aside0.mk (blk_below (g := gb113) (o := .cells #[.slice Ao47 t110.length co47] 31 (0, 0)) (KB_ BK113.out) hb); have n8_ := Aside0.mk (below_step (B2_ HB.out GE101.out GE113.out) hb); clear HO105; clear HO108; clear HO112; clear HO116; clear HO121; clear BK101; clear BK113; clear HB; have HO105 := n0_; have HO108 := n1_; have HO112 := n2_; have HO116 := n3_; have HO121 := n4_; have HO131 := n5_; have BK101 := n6_; have BK113 := n7_; have HB := n8_; clear n0_ n1_ n2_ n3_ n4_ n5_ n6_ n7_ n8_; (try clear hb); (try clear hb2); (try clear hk); (try clear hi); (try clear ho0); obtain ⟨Ao65, co65, eo65⟩ := Kd.S_slice HO131.out; subst eo65) | ((with_reducible refine gate_callee (f := 40) rfl ?_); refine goesL_ (some 81) rfl rfl Try.func40 (by kernel_rfl) rfl #[.agg #[.slice Ao65 t129.length co65], .int .i64 a1] rfl (by (try simp only [List.map_toArray, List.map_cons, List.map_nil]); first | done | rfl | (simp only [List.length_drop, List.length_take]; rfl)) ?_; (with_reducible refine (z40.calls k _ _ t129 a1 t132 t135 _ ?side1 ?side2 A27.out).mono ?_); (case side1 => exact KC_ (Kd.S_reads' HO131.out).2.2); (case side2 => exact (Kd.S_reads' HO131.out).2.1); rintro e w66 ⟨v133, rfl, ho0, hb⟩; refine ⟨_, rfl, ?_⟩; obtain ⟨nan67, hnan67⟩ := Kd.size_letter hb; have n0_ := Aside0.mk (Kd.S_told (Kd.S_oldN (KS_ HO105.out) hb hnan67) (Kd.R_baseN ho0 hnan67)); have n1_ := Aside0.mk (Kd.R_told (Kd.R_oldN (KR_ HO108.out) hb hnan67) (Kd.R_baseN ho0 hnan67)); have n2_ := Aside0.mk (Kd.S_told (Kd.S_oldN (KS_ HO112.out) hb hnan67) (Kd.R_baseN ho0 hnan67)); have n3_ := Aside0.mk (Kd.R_told (Kd.R_oldN (KR_ HO116.out) hb hnan67) (Kd.R_baseN ho0 hnan67)); have n4_ := Aside0.mk (Kd.S_told (Kd.S_oldN (KS_ HO121.out) hb hnan67) (Kd.R_baseN ho0 hnan67)); have n5_ := Aside0.mk (Kd.S_told (Kd.S_oldN (KS_ HO131.out) hb hnan67) (Kd.R_baseN ho0 hnan67)); have n6_ := Aside0.mk (Kd.R_lower (Kd.R_geN (Kd.R_new' (Kd.R_new' ho0 (Kd.R_lt (KR_ HO108.out))) (Kd.R_lt (KR_ HO116.out))) hnan67) (below_size (B2_ HB.out GE101.out GE113.out))); have n7_ := Aside0.mk (blk_below (g := gb101) (o := .cells #[.slice A0_0 l0_0.length c0_0] 28 (0, 0)) (KB_ BK101.out) hb); have n8_ := Aside0.mk (blk_below (g := gb113) (o := .cells #[.slice Ao47 t110.length co47] 31 (0, 0)) (KB_ BK113.out) hb); have n9_ := Aside0.mk (below_step (B2_ HB.out GE101.out GE113.out) hb); clear HO105; clear HO108; clear HO112; clear HO116; clear HO121; clear HO131; clear BK101; clear BK113; clear HB; have HO105 := n0_; have HO108 := n1_; have HO112 := n2_; have HO116 := n3_; have HO121 := n4_; have HO131 := n5_; have HO134 := n6_; have BK101 := n7_; have BK113 := n8_; have HB := n9_; clear n0_ n1_ n2_ n3_ n4_ n5_ n6_ n7_ n8_ n9_; (try clear hb); (try clear hb2); (try clear hk); (try clear hi); (try clear ho0); obtain ⟨Ao68, co68, eo68⟩ := Kd.R_slice HO134.out; subst eo68) | ((with_reducible refine gate_callee (f := 18) rfl ?_); refine goesL_ (some 86) rfl rfl Try.func18 (by kernel_rfl) rfl #[.slice Ao68 t132.length co68, .slice Ao53 t106.length co53] rfl (by (try simp only [List.map_toArray, List.map_cons, List.map_nil]); first | done | rfl | (simp only [List.length_drop, List.length_take]; rfl)) ?_; (with_reducible refine (z18.calls k _ _ t132 _ _ t106 true _ ?side1 ?side2 ?side3 ?side4 A28.out).mono ?_); (case side1 => exact KC_ (Kd.R_reads' HO134.out).2.2); (case side2 => exact (Kd.R_reads' HO134.out).2.1); (case side3 => exact KC_ (Kd.R_reads' HO108.out).2.2); (case side4 => exact (Kd.R_reads' HO108.out).2.1); rintro e w' ⟨rfl, ⟨nd, rfl⟩⟩; refine ⟨_, rfl, ?_⟩) | ((with_reducible refine gate_callee (f := 34) rfl ?_); refine goesL_ (some 95) rfl rfl Try.func34 (by kernel_rfl) rfl #[.slice Ao52 t127.length co52, .int .i64 1] rfl (by (try simp only [List.map_toArray, List.map_cons, List.map_nil]); first | done | (rw [show t127.length = t114.length from (Kd.R_reads' HO116.out).1.symm] <;> rfl) | rfl | (simp only [List.length_drop, List.length_take]; rfl)) ?_; (with_reducible refine (z34.calls k _ _ t127 1 t137 _ ?side1 ?side2 A31.out).mono ?_); (case side1 => exact KC_ (Kd.R_reads' HO116.out).2.2); (case side2 => rw [show t127.length = t114.length from (Kd.R_reads' HO116.out).1.symm]; exact (Kd.R_reads' HO116.out).2.1); rintro e w' ⟨rfl, ⟨nd, rfl⟩⟩; refine ⟨_, rfl, ?_⟩))
             go_ret
             exact ⟨F_, B2_ HB.out GE101.out GE113.out⟩
            ·rw [if_neg c33] at H
             have c33b0 : (t137 == t126) = false := beq_eq_false_iff_ne.mpr c33
             have c33b1 : (t137 != t126) = true := bne_iff_ne.mpr c33
             exact absurd (H.trans (congrArg some ht_)) (by simp)
          ·rw [if_neg c30] at H
           have c30b0 : (t135 == t109) = false := beq_eq_false_iff_ne.mpr c30
           have c30b1 : (t135 != t109) = true := bne_iff_ne.mpr c30
           exact absurd (H.trans (congrArg some ht_)) (by simp)
         ·replace c29 := Bool.eq_false_iff.mpr c29
          subst c29
          replace H := N_ H
          exact absurd (H.trans (congrArg some ht_)) (by simp)
        ·rw [if_neg c25] at H
         have c25b0 : (t128 == t126) = false := beq_eq_false_iff_ne.mpr c25
         have c25b1 : (t128 != t126) = true := bne_iff_ne.mpr c25
         exact absurd (H.trans (congrArg some ht_)) (by simp)
      ·replace c21 := Bool.eq_false_iff.mpr c21
       subst c21
       replace H := N_ H
       exact absurd (H.trans (congrArg some ht_)) (by simp)
    ·replace c17 := Bool.eq_false_iff.mpr c17
     subst c17
     replace H := N_ H
     exact absurd (H.trans (congrArg some ht_)) (by simp)
   ·rw [if_neg c14] at H
    have c14b0 : (t117 == t109) = false := beq_eq_false_iff_ne.mpr c14
    have c14b1 : (t117 != t109) = true := bne_iff_ne.mpr c14
    exact absurd (H.trans (congrArg some ht_)) (by simp)
  ·replace c13 := Bool.eq_false_iff.mpr c13
   subst c13
   replace H := N_ H
   exact absurd (H.trans (congrArg some ht_)) (by simp)
end Go.Proofs.Ytabbkjgbdpcopaa.B
